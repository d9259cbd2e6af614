/- What the functions that the law reaches answer, each for every input. -/
import Derived.Test.YteidanhfkaljaaaFnFour
import Derived.Test.YteidanhfkaljaaaEngTwo
import Derived.Test.YteidanhfkaljaaaFnThree
import Derived.Test.YteidanhfkaljaaaFnTwo
set_option linter.unusedVariables false
set_option linter.unusedSimpArgs false
set_option linter.unusedVariables false
set_option linter.unusedSimpArgs false
namespace Go.Proofs.Yteidanhfkaljaaa.Eng
open Go
set_option maxRecDepth 100000
noncomputable section
open Go.RowKit
def intA : AV → Option Int
  | .int .i64 n => some n
  | _ => none
def slA (t : Ty) : AV → Option (List t.D)
  | .sl u xs => (match u.eqv t with | some ⟨e⟩ => some (e ▸ xs) | none => none)
  | _ => none
def ePt : AV → Option Int
  | .eptr (.int .i64) x 0 => some x
  | _ => none
def stA : AV → Option St
  | .agg [a, b, c, d] => (match intA a, slA plT b, slA paT c, slA raT d with | some o, some pl, some pa, some ra => some (o, pl, pa, ra) | _, _, _, _ => none)
  | _ => none
def ptr0 : AV → Option Nat
  | .ptr h 0 0 => some h
  | _ => none
def boxI : Option Ob → Option Int
  | some (.box [.int .i64 n]) => some n
  | _ => none
theorem intA_some {a : AV} {n : Int} (h : intA a = some n) : a = .int .i64 n := by
  unfold intA at h; split at h <;> cases h; rfl
theorem slA_some {t : Ty} {a : AV} {xs : List t.D} (h : slA t a = some xs) : a = .sl t xs := by
  unfold slA at h
  split at h
  · rename_i u ys
    split at h
    · rename_i e _
      have e := e
      subst e
      cases h
      rfl
    · cases h
  · cases h
theorem ePt_some {a : AV} {n : Int} (h : ePt a = some n) : a = .eptr I n 0 := by
  unfold ePt at h; split at h <;> cases h; rfl
theorem ptr0_some {a : AV} {n : Nat} (h : ptr0 a = some n) : a = .ptr n 0 0 := by
  unfold ptr0 at h; split at h <;> cases h; rfl
theorem boxI_some {o : Option Ob} {n : Int} (h : boxI o = some n) : o = some (.box [.int .i64 n]) := by
  unfold boxI at h; split at h <;> cases h; rfl
def stV (s : St) : AV := .agg [.int .i64 s.1, .sl plT s.2.1, .sl paT s.2.2.1, .sl raT s.2.2.2]
theorem stA_some {a : AV} {s : St} (h : stA a = some s) : a = stV s := by
  unfold stA at h
  split at h
  · split at h
    · rename_i e1 e2 e3 e4
      cases h
      rw [intA_some e1, slA_some e2, slA_some e3, slA_some e4]
      rfl
    · cases h
  · cases h
def P75 (s : St) (w : Int) : Prop := s.2.1.length ≤ 100000 ∧ w ≠ 0 ∧ ∀ p ∈ s.2.1, 0 ≤ p.1 ∧ p.1 ≤ 3
def near75 (w h t : Int) (s : St) : Bool := s.2.1.any (nearP w h t)
def X75 (args : List AV) (base : Nat) : Rd Res :=
  match args with
  | [a, b, c, d] => (match stA a, ePt b, ePt c, ePt d with
    | some s, some w, some h, some t => .ok ⟨[P75 s w], .bool (near75 w h t s), []⟩
    | _, _, _, _ => .bad)
  | _ => .bad
def near56 (w h t k : Int) (s : St) : Bool := near75 w h t s && decide (0 ≤ ratI s.2.2.2 k)
def X56 (args : List AV) (base : Nat) : Rd Res :=
  match args with
  | [a, b, c, d, e] => (match stA a, ePt b, ePt c, ePt d, ePt e with
    | some s, some w, some h, some t, some k => .ok ⟨[P75 s w, s.2.2.2.length ≤ 100000], .bool (near56 w h t k s), []⟩
    | _, _, _, _, _ => .bad)
  | _ => .bad
def E75 : Env := ⟨tab, [(38, K38), (50, K50)], fun _ => none⟩
theorem k75 : FxOk Go.Proofs.Try.prog 75 X75 := by
  refine fx_look (E := E75) (TOk.of tab_told) (AllOk.cons k38 (.cons k50 .nil)).at_ mix (f := 75) Go.Proofs.Try.func75 rfl rfl (by kernel_rfl) ?_
  intro args base H r hr hp
  unfold X75 at hr
  split at hr
  rotate_left
  · cases hr
  split at hr
  rotate_left
  · cases hr
  rename_i s w h t e1 e2 e3 e4
  cases hr
  obtain ⟨p1, p2, p3⟩ : P75 s w := hp _ List.mem_cons_self
  cases stA_some e1
  cases ePt_some e2
  cases ePt_some e3
  cases ePt_some e4
  clear hp e1 e2 e3 e4
  refine ⟨⟨⟨.bool, .one .bool, fun _ => [], fun _ => near75 w h t s⟩, false, [stV s, .eptr I w 0, .eptr I h 0, .eptr I t 0], .cons (.one (.same _ rfl)) (.cons (.one (.same _ rfl)) (.cons (.one (.same _ rfl)) (.cons (.one (.same _ rfl)) .nil))), rfl, rfl, by show base ≤ base + 8; omega, rfl, rfl, rfl, ?_⟩⟩
  obtain ⟨o, pl, pa, ra⟩ := s
  conv => whnf
  refine ⟨p1, ?_⟩
  conv => whnf
  refine ⟨p2, ?_⟩
  conv => whnf
  refine ⟨p3, ?_⟩
  conv => whnf
  rfl
theorem k56 : FxOk Go.Proofs.Try.prog 56 X56 := by
  refine fx_look (E := E75) (TOk.of tab_told) (AllOk.cons k38 (.cons k50 .nil)).at_ mix (f := 56) Go.Proofs.Try.func56 rfl rfl (by kernel_rfl) ?_
  intro args base H r hr hp
  unfold X56 at hr
  split at hr
  rotate_left
  · cases hr
  split at hr
  rotate_left
  · cases hr
  rename_i s w h t k e1 e2 e3 e4 e5
  cases hr
  obtain ⟨p1, p2, p3⟩ : P75 s w := hp _ List.mem_cons_self
  have p4 : s.2.2.2.length ≤ 100000 := hp _ (List.mem_cons_of_mem _ List.mem_cons_self)
  cases stA_some e1
  cases ePt_some e2
  cases ePt_some e3
  cases ePt_some e4
  cases ePt_some e5
  clear hp e1 e2 e3 e4 e5
  refine ⟨⟨⟨.bool, .one .bool, fun _ => [], fun _ => near56 w h t k s⟩, false, [stV s, .eptr I w 0, .eptr I h 0, .eptr I t 0, .eptr I k 0], .cons (.one (.same _ rfl)) (.cons (.one (.same _ rfl)) (.cons (.one (.same _ rfl)) (.cons (.one (.same _ rfl)) (.cons (.one (.same _ rfl)) .nil)))), rfl, rfl, by show base ≤ base + 8; omega, rfl, rfl, rfl, ?_⟩⟩
  obtain ⟨o, pl, pa, ra⟩ := s
  conv => whnf
  refine ⟨p1, ?_⟩
  conv => whnf
  refine ⟨p2, ?_⟩
  conv => whnf
  refine ⟨p3, ?_⟩
  conv => whnf
  split
  · rename_i hg
    have hg1 : near75 w h t (o, pl, pa, ra) = true := hg
    iterate 4 (conv => whnf; try (rw [hg]))
    refine ⟨p4, ?_⟩
    iterate 4 (conv => whnf; try (rw [hg]))
    show decide (0 ≤ ratI ra k) = near56 w h t k (o, pl, pa, ra)
    rw [near56, hg1, Bool.true_and]
  · rename_i hg
    have hg1 : near75 w h t (o, pl, pa, ra) = false := hg
    iterate 4 (conv => whnf; try (rw [hg]))
    show false = near56 w h t k (o, pl, pa, ra)
    rw [near56, hg1, Bool.false_and]
end
end Go.Proofs.Yteidanhfkaljaaa.Eng
set_option linter.unusedVariables false
set_option linter.unusedSimpArgs false
namespace Go.Proofs.Yteidanhfkaljaaa.Eng
open Go
set_option maxRecDepth 100000
noncomputable section
open Go.RowKit
def gSt (l : List St) (n : Nat) : St := l.getD n zSt
theorem gSt_eq {l : List St} {n : Nat} (h : n < l.length) : gSt l n = l[n] := by simp [gSt, h]
def whereN (f : St → Bool) (l : List St) (n : Nat) : List Int := ((List.range n).filter (fun i => f (gSt l i))).map (fun (i : Nat) => (i : Int))
theorem whereN_succ (f : St → Bool) (l : List St) (n : Nat) : whereN f l (n + 1) = if f (gSt l n) = true then whereN f l n ++ [(n : Int)] else whereN f l n := by
  unfold whereN
  rw [List.range_succ, List.filter_append, List.map_append]
  cases h : f (gSt l n) <;> simp [h]
theorem whereN_len (f : St → Bool) (l : List St) (n : Nat) : (whereN f l n).length ≤ n := by
  unfold whereN
  rw [List.length_map]
  exact Nat.le_trans (List.length_filter_le _ _) (by simp)
def whereR (f : St → Bool) (l : List St) : List Int := whereN f l l.length
def ans55 (f : St → Bool) (l : List St) (p : Prop) (base : Nat) : Res := ⟨[p, l.length ≤ 1000000], .own base, [(base, some (.arr I (whereR f l)))]⟩
def P55 (l : List St) (w : Int) : Prop := ∀ s ∈ l, P75 s w
def P55b (l : List St) (w : Int) : Prop := ∀ s ∈ l, P75 s w ∧ s.2.2.2.length ≤ 100000
def X55a (l : List St) (caps : List AV) (base : Nat) : Rd Res :=
  match caps with
  | [a, b, c] => (match ptr0 a, ptr0 b, ptr0 c with
    | some a, some b, some c => .get a fun oa => .get b fun ob => .get c fun oc => (match boxI oa, boxI ob, boxI oc with
      | some w, some h, some t => .ok (ans55 (near75 w h t) l (P55 l w) base)
      | _, _, _ => .bad)
    | _, _, _ => .bad)
  | _ => .bad
def X55b (l : List St) (caps : List AV) (base : Nat) : Rd Res :=
  match caps with
  | [a, b, c, d] => (match ptr0 a, ptr0 b, ptr0 c, ptr0 d with
    | some a, some b, some c, some d => .get a fun oa => .get b fun ob => .get c fun oc => .get d fun od => (match boxI oa, boxI ob, boxI oc, boxI od with
      | some w, some h, some t, some k => .ok (ans55 (near56 w h t k) l (P55b l w) base)
      | _, _, _, _ => .bad)
    | _, _, _, _ => .bad)
  | _ => .bad
def X55 (args : List AV) (base : Nat) : Rd Res :=
  match args with
  | [a, .fn g caps] => (match slA stT a with
    | some l => (match Nat.beq g 75 with
      | true => X55a l caps base
      | false => (match Nat.beq g 56 with | true => X55b l caps base | false => .bad))
    | none => .bad)
  | _ => .bad
def S55 (g : Nat) (cs : List AV) (l : List St) (out : List Int) (i : Int) : SL := ⟨[.undef, .fn g cs, .undef, .undef, .undef, .own 0, .undef, .undef, .sl stT l, .int .i64 l.length, .int .i64 i] ++ List.replicate 13 .undef, [(0, .arr I out)], 1⟩
def E55 : Env := ⟨tab, [(75, .eff X75), (56, .eff X56)], fun n => match n with | 3 => some ([1, 5, 8, 9, 10], [(5, I)], []) | _ => none⟩
theorem w55_75 {co : Code} (hco : Go.Proofs.Try.f55.body = some co) {l : List St} {w h t : Int} (hp : P55 l w) (hl : l.length ≤ 1000000) : den E55 co ⟨lapp [.sl stT l, .fn 75 [.eptr I w 0, .eptr I h 0, .eptr I t 0]] (repl [AV.undef] 22), [], 0⟩ (RetQ E55 Go.Proofs.Try.f55.results.toList (.one (.sl I)) (whereR (near75 w h t) l)) := by
  cases hco
  conv => whnf
  refine loop_rule (fun i : Int => S55 75 [.eptr I w 0, .eptr I h 0, .eptr I t 0] l (whereN (near75 w h t) l i.toNat) i) (fun i => ((l.length : Int) - i).toNat) (fun i => 0 ≤ i ∧ i ≤ l.length) ?_ 0 (by kernel_rfl) ?_ ⟨by omega, by omega⟩
  case refine_2 => rfl
  rintro i ⟨h0, h1⟩
  have wi : IntKind.i64.wrap (i + 1) = i + 1 := wrap_eq (by omega) (by omega)
  have ei : (i + 1).toNat = i.toNat + 1 := by omega
  have eii : ((i.toNat : Nat) : Int) = i := by omega
  have hlen := whereN_len (near75 w h t) l i.toNat
  conv => whnf
  refine cond_intro (fun hlt => ?_) (fun hlt => ?_)
  · have hlt : i < (l.length : Int) := @of_decide_eq_true _ _ hlt
    have hm : gSt l i.toNat ∈ l := by rw [gSt_eq (by omega)]; exact List.getElem_mem _
    conv => whnf
    refine ⟨h0, ?_⟩
    conv => whnf
    refine ⟨hlt, ?_⟩
    conv => whnf
    refine ⟨hp _ hm, ?_⟩
    conv => whnf
    refine cond_intro (fun hn => ?_) (fun hn => ?_)
    · have hn : ((near75 w h t) (gSt l i.toNat)) = true := hn
      conv => whnf
      refine ⟨show ((whereN (near75 w h t) l i.toNat).length + 1) * 8 ≤ 70368744177664 by omega, ?_⟩
      conv => whnf
      refine ⟨show (whereN (near75 w h t) l i.toNat).length + 1 ≤ 70368744177664 by omega, ?_⟩
      conv => whnf
      refine ⟨i + 1, ?_, ⟨by omega, by omega⟩, by omega⟩
      exact Eq.trans (b := S55 75 [.eptr I w 0, .eptr I h 0, .eptr I t 0] l (whereN (near75 w h t) l i.toNat ++ [i]) (IntKind.i64.wrap (i + 1))) rfl (by rw [wi, ei, whereN_succ, if_pos hn, eii])
    have hn : ((near75 w h t) (gSt l i.toNat)) = false := hn
    conv => whnf
    refine ⟨i + 1, ?_, ⟨by omega, by omega⟩, by omega⟩
    exact Eq.trans (b := S55 75 [.eptr I w 0, .eptr I h 0, .eptr I t 0] l (whereN (near75 w h t) l i.toNat) (IntKind.i64.wrap (i + 1))) rfl (by rw [wi, ei, whereN_succ, if_neg (by rw [hn]; decide)])
  have hlt : ¬ (i < (l.length : Int)) := @of_decide_eq_false _ _ hlt
  have ei : i.toNat = l.length := by omega
  rw [ei]
  conv => whnf
  show whereN (near75 w h t) l l.length = whereR (near75 w h t) l
  rfl
theorem w55_56 {co : Code} (hco : Go.Proofs.Try.f55.body = some co) {l : List St} {w h t k : Int} (hp : P55b l w) (hl : l.length ≤ 1000000) : den E55 co ⟨lapp [.sl stT l, .fn 56 [.eptr I w 0, .eptr I h 0, .eptr I t 0, .eptr I k 0]] (repl [AV.undef] 22), [], 0⟩ (RetQ E55 Go.Proofs.Try.f55.results.toList (.one (.sl I)) (whereR (near56 w h t k) l)) := by
  cases hco
  conv => whnf
  refine loop_rule (fun i : Int => S55 56 [.eptr I w 0, .eptr I h 0, .eptr I t 0, .eptr I k 0] l (whereN (near56 w h t k) l i.toNat) i) (fun i => ((l.length : Int) - i).toNat) (fun i => 0 ≤ i ∧ i ≤ l.length) ?_ 0 (by kernel_rfl) ?_ ⟨by omega, by omega⟩
  case refine_2 => rfl
  rintro i ⟨h0, h1⟩
  have wi : IntKind.i64.wrap (i + 1) = i + 1 := wrap_eq (by omega) (by omega)
  have ei : (i + 1).toNat = i.toNat + 1 := by omega
  have eii : ((i.toNat : Nat) : Int) = i := by omega
  have hlen := whereN_len (near56 w h t k) l i.toNat
  conv => whnf
  refine cond_intro (fun hlt => ?_) (fun hlt => ?_)
  · have hlt : i < (l.length : Int) := @of_decide_eq_true _ _ hlt
    have hm : gSt l i.toNat ∈ l := by rw [gSt_eq (by omega)]; exact List.getElem_mem _
    conv => whnf
    refine ⟨h0, ?_⟩
    conv => whnf
    refine ⟨hlt, ?_⟩
    conv => whnf
    refine ⟨(hp _ hm).1, ?_⟩
    conv => whnf
    refine ⟨(hp _ hm).2, ?_⟩
    conv => whnf
    refine cond_intro (fun hn => ?_) (fun hn => ?_)
    · have hn : ((near56 w h t k) (gSt l i.toNat)) = true := hn
      conv => whnf
      refine ⟨show ((whereN (near56 w h t k) l i.toNat).length + 1) * 8 ≤ 70368744177664 by omega, ?_⟩
      conv => whnf
      refine ⟨show (whereN (near56 w h t k) l i.toNat).length + 1 ≤ 70368744177664 by omega, ?_⟩
      conv => whnf
      refine ⟨i + 1, ?_, ⟨by omega, by omega⟩, by omega⟩
      exact Eq.trans (b := S55 56 [.eptr I w 0, .eptr I h 0, .eptr I t 0, .eptr I k 0] l (whereN (near56 w h t k) l i.toNat ++ [i]) (IntKind.i64.wrap (i + 1))) rfl (by rw [wi, ei, whereN_succ, if_pos hn, eii])
    have hn : ((near56 w h t k) (gSt l i.toNat)) = false := hn
    conv => whnf
    refine ⟨i + 1, ?_, ⟨by omega, by omega⟩, by omega⟩
    exact Eq.trans (b := S55 56 [.eptr I w 0, .eptr I h 0, .eptr I t 0, .eptr I k 0] l (whereN (near56 w h t k) l i.toNat) (IntKind.i64.wrap (i + 1))) rfl (by rw [wi, ei, whereN_succ, if_neg (by rw [hn]; decide)])
  have hlt : ¬ (i < (l.length : Int)) := @of_decide_eq_false _ _ hlt
  have ei : i.toNat = l.length := by omega
  rw [ei]
  conv => whnf
  show whereN (near56 w h t k) l l.length = whereR (near56 w h t k) l
  rfl
theorem k55 : FxOk Go.Proofs.Try.prog 55 X55 := by
  refine fx_look (E := E55) (TOk.of tab_told) (AllOk.consX k75 (.consX k56 .nil)).at_ mix (f := 55) Go.Proofs.Try.func55 rfl rfl (by kernel_rfl) ?_
  intro args base H r hr hp
  unfold X55 at hr
  split at hr
  rotate_left
  · cases hr
  rename_i a g caps
  split at hr
  rotate_left
  · cases hr
  rename_i l e0
  cases slA_some e0
  split at hr
  · rename_i hg
    cases Nat.eq_of_beq_eq_true hg
    unfold X55a at hr
    split at hr
    rotate_left
    · cases hr
    split at hr
    rotate_left
    · cases hr
    rename_i h0 h1 h2 e0 e1 e2
    change (match boxI (H h0), boxI (H h1), boxI (H h2) with
      | some w, some h, some t => Rd.ok (ans55 (near75 w h t) l (P55 l w) base)
      | _, _, _ => .bad).run H = some r at hr
    split at hr
    rotate_left
    · cases hr
    rename_i w h t g0 g1 g2
    cases hr
    have hP : P55 l w := hp _ List.mem_cons_self
    have hL : l.length ≤ 1000000 := hp _ (List.mem_cons_of_mem _ List.mem_cons_self)
    cases ptr0_some e0
    cases ptr0_some e1
    cases ptr0_some e2
    have q0 := boxI_some g0
    have q1 := boxI_some g1
    have q2 := boxI_some g2
    exact ⟨⟨⟨.bool, .one (.sl I), fun _ => [], fun _ => whereR (near75 w h t) l⟩, false, [.sl stT l, .fn 75 [.eptr I w 0, .eptr I h 0, .eptr I t 0]], .cons (.one (.same _ rfl)) (.cons (.fn 75 (.cons (.box _ I w _ q0 rfl) (.cons (.box _ I h _ q1 rfl) (.cons (.box _ I t _ q2 rfl) .nil)))) .nil), rfl, rfl, by show base + 1 ≤ base + 8; omega, rfl, rfl, rfl, w55_75 rfl hP hL⟩⟩
  · split at hr
    rotate_left
    · cases hr
    rename_i hg
    cases Nat.eq_of_beq_eq_true hg
    unfold X55b at hr
    split at hr
    rotate_left
    · cases hr
    split at hr
    rotate_left
    · cases hr
    rename_i h0 h1 h2 h3 e0 e1 e2 e3
    change (match boxI (H h0), boxI (H h1), boxI (H h2), boxI (H h3) with
      | some w, some h, some t, some k => Rd.ok (ans55 (near56 w h t k) l (P55b l w) base)
      | _, _, _, _ => .bad).run H = some r at hr
    split at hr
    rotate_left
    · cases hr
    rename_i w h t k g0 g1 g2 g3
    cases hr
    have hP : P55b l w := hp _ List.mem_cons_self
    have hL : l.length ≤ 1000000 := hp _ (List.mem_cons_of_mem _ List.mem_cons_self)
    cases ptr0_some e0
    cases ptr0_some e1
    cases ptr0_some e2
    cases ptr0_some e3
    have q0 := boxI_some g0
    have q1 := boxI_some g1
    have q2 := boxI_some g2
    have q3 := boxI_some g3
    exact ⟨⟨⟨.bool, .one (.sl I), fun _ => [], fun _ => whereR (near56 w h t k) l⟩, false, [.sl stT l, .fn 56 [.eptr I w 0, .eptr I h 0, .eptr I t 0, .eptr I k 0]], .cons (.one (.same _ rfl)) (.cons (.fn 56 (.cons (.box _ I w _ q0 rfl) (.cons (.box _ I h _ q1 rfl) (.cons (.box _ I t _ q2 rfl) (.cons (.box _ I k _ q3 rfl) .nil))))) .nil), rfl, rfl, by show base + 1 ≤ base + 8; omega, rfl, rfl, rfl, w55_56 rfl hP hL⟩⟩

end
end Go.Proofs.Yteidanhfkaljaaa.Eng
set_option linter.unusedVariables false
set_option linter.unusedSimpArgs false
namespace Go.Proofs.Yteidanhfkaljaaa.Eng
open Go
set_option maxRecDepth 100000
noncomputable section
open Go.RowKit
def firstV (l : List St) : Int := match l.find? (fun s => decide (validR s ≠ 0)) with | some s => validR s | none => 0
def nearR (l : List St) (w h t : Int) : List Int × Int := if firstV l ≠ 0 then ([], firstV l) else if sizedR w h t ≠ 0 then ([], sizedR w h t) else (whereR (near75 w h t) l, 0)
theorem firstV_at {l : List St} {i : Nat} (hi : i < l.length) (h : ∀ j, j < i → validR (gSt l j) = 0) (hb : ¬ validR (gSt l i) = 0) : firstV l = validR (gSt l i) := by
  unfold firstV
  have hn : (l.take i).find? (fun s => decide (validR s ≠ 0)) = none := by
    rw [List.find?_eq_none]
    intro s hs
    obtain ⟨j, hj, e⟩ := List.getElem_of_mem hs
    rw [List.length_take] at hj
    have := h j (by omega)
    rw [gSt_eq (by omega)] at this
    rw [List.getElem_take] at e
    rw [← e]
    simp [this]
  have hs : l = l.take i ++ (gSt l i :: l.drop (i + 1)) := by rw [gSt_eq hi, ← List.drop_eq_getElem_cons hi, List.take_append_drop]
  have hf : l.find? (fun s => decide (validR s ≠ 0)) = some (gSt l i) := by
    rw [hs, List.find?_append, hn, ← hs]
    simp [hb]
  rw [hf]
theorem firstV_none {l : List St} (h : ∀ j, j < l.length → validR (gSt l j) = 0) : firstV l = 0 := by
  unfold firstV
  have hn : l.find? (fun s => decide (validR s ≠ 0)) = none := by
    rw [List.find?_eq_none]
    intro s hs
    obtain ⟨j, hj, e⟩ := List.getElem_of_mem hs
    have := h j hj
    rw [gSt_eq hj, e] at this
    simp [this]
  rw [hn]
def okS (s : St) : Prop := s.2.1.length ≤ 100000 ∧ s.2.2.1.length ≤ 100000 ∧ s.2.2.2.length ≤ 100000
def S54 (l : List St) (w h t i : Int) : SL := ⟨[.sl stT l, .undef, .undef, .undef, .undef, .ptr 0 0 0, .ptr 1 0 0, .ptr 2 0 0] ++ List.replicate 6 .undef ++ [.sl stT l, .int .i64 l.length, .int .i64 i] ++ List.replicate 19 .undef, [(0, .box [.int .i64 w]), (1, .box [.int .i64 h]), (2, .box [.int .i64 t])], 3⟩
def E54 : Env := ⟨tab, [(23, K23), (37, K37), (55, .eff X55)], fun n => match n with | 2 => some ([0, 5, 6, 7, 14, 15, 16], [], []) | _ => none⟩
def K54 : Fn1 := ⟨.fld (.sl stT) (.fld I (.fld I (.one I))), .fld (.sl I) (.one I), fun (a : List St × Int × Int × Int) => [a.1.length ≤ 1000000, ∀ s ∈ a.1, okS s], fun (a : List St × Int × Int × Int) => nearR a.1 a.2.1 a.2.2.1 a.2.2.2⟩
theorem k54 : FnOk Go.Proofs.Try.prog 54 K54 := by
  refine fn_ok (E := E54) (TOk.of tab_told) (AllOk.cons k23 (.cons k37 (.consX k55 .nil))).at_ mix Go.Proofs.Try.func54 rfl rfl (by kernel_rfl) K54 ?_
  rintro ⟨(l : List St), (w : Int), (h : Int), (t : Int)⟩ hp
  have hl : l.length ≤ 1000000 := hp _ (List.mem_cons_self ..)
  have hs : ∀ s ∈ l, okS s := hp _ (List.mem_cons_of_mem _ (List.mem_cons_self ..))
  clear hp
  conv => whnf
  refine loop_rule (fun i : Int => S54 l w h t i) (fun i => ((l.length : Int) - i).toNat) (fun i => 0 ≤ i ∧ i ≤ l.length ∧ ∀ j, j < i.toNat → validR (gSt l j) = 0) ?_ 0 (by kernel_rfl) ?_ ⟨by omega, by omega, fun j hj => by simp at hj⟩
  case refine_2 => rfl
  rintro i ⟨h0, h1, h2⟩
  have wi : IntKind.i64.wrap (i + 1) = i + 1 := wrap_eq (by omega) (by omega)
  have ei : (i + 1).toNat = i.toNat + 1 := by omega
  conv => whnf
  refine cond_intro (fun hlt => ?_) (fun hlt => ?_)
  · have hlt : i < (l.length : Int) := @of_decide_eq_true _ _ hlt
    have hm : gSt l i.toNat ∈ l := by rw [gSt_eq (by omega)]; exact List.getElem_mem _
    obtain ⟨s1, s2, s3⟩ := hs _ hm
    conv => whnf
    refine ⟨h0, ?_⟩
    conv => whnf
    refine ⟨hlt, ?_⟩
    conv => whnf
    refine ⟨s1, ?_⟩
    conv => whnf
    refine ⟨s2, ?_⟩
    conv => whnf
    refine ⟨s3, ?_⟩
    conv => whnf
    refine cond_intro (fun hv => ?_) (fun hv => ?_)
    · have hv : (!decide (validR (gSt l i.toNat) = 0)) = true := hv
      have hv : ¬ (validR (gSt l i.toNat) = 0) := fun e => absurd hv (by rw [decide_eq_true e]; decide)
      conv => whnf
      show ([], validR (gSt l i.toNat)) = nearR l w h t
      rw [nearR, firstV_at (by omega) h2 hv, if_pos hv]
    have hv : (!decide (validR (gSt l i.toNat) = 0)) = false := hv
    have hv : validR (gSt l i.toNat) = 0 := Decidable.byContradiction fun e => absurd hv (by rw [decide_eq_false e]; decide)
    conv => whnf
    refine ⟨i + 1, ?_, ⟨by omega, by omega, fun j hj => ?_⟩, by omega⟩
    · exact Eq.trans (b := S54 l w h t (IntKind.i64.wrap (i + 1))) rfl (by rw [wi])
    · rw [ei] at hj
      rcases Nat.lt_or_eq_of_le (Nat.le_of_lt_succ hj) with g | g
      · exact h2 j g
      · subst g; exact hv
  have hlt : ¬ (i < (l.length : Int)) := @of_decide_eq_false _ _ hlt
  have hf : firstV l = 0 := firstV_none fun j hj => h2 j (by omega)
  conv => whnf
  refine cond_intro (fun hz => ?_) (fun hz => ?_)
  · have hz : (!decide (sizedR w h t = 0)) = true := hz
    have hz : ¬ (sizedR w h t = 0) := fun e => absurd hz (by rw [decide_eq_true e]; decide)
    conv => whnf
    show ([], sizedR w h t) = nearR l w h t
    rw [nearR, if_neg (by simp [hf]), if_pos hz]
  have hz : (!decide (sizedR w h t = 0)) = false := hz
  have hz : sizedR w h t = 0 := Decidable.byContradiction fun e => absurd hz (by rw [decide_eq_false e]; decide)
  have hw0 : w ≠ 0 := by intro e; subst e; revert hz; unfold sizedR; simp
  have hP : P55 l w := fun s hm => by
    obtain ⟨j, hj, e⟩ := List.getElem_of_mem hm
    have := h2 j (by omega)
    rw [gSt_eq hj, e] at this
    exact ⟨(hs s hm).1, hw0, valid_kinds this⟩
  conv => whnf
  refine ⟨hP, ?_⟩
  conv => whnf
  refine ⟨hl, ?_⟩
  conv => whnf
  show (whereR (near75 w h t) l, 0) = nearR l w h t
  rw [nearR, if_neg (by simp [hf]), if_neg (by simp [hz])]
end
end Go.Proofs.Yteidanhfkaljaaa.Eng
set_option linter.unusedVariables false
set_option linter.unusedSimpArgs false
namespace Go.Proofs.Yteidanhfkaljaaa.Eng
open Go
set_option maxRecDepth 100000
noncomputable section
open Go.RowKit
def scrK (k : Int) (l : List St) (i : Int) : Int := (gR (gSt l i.toNat).2.2.2 (ratI (gSt l i.toNat).2.2.2 k).toNat).2.1
def withW (s : St) (W : List Pa) : St := (s.1, s.2.1, W, s.2.2.2)
def pclR (k i t c : Int) : Pa := (k, i, t, 0, c, 0)
def gvJ (k t : Int) (near parts : List Int) (o : List St) (j : Nat) : List Pa × Int := Cg.joinR (gSt o (gI near j).toNat).2.2.1 [pclR k (gI near j) t (gI parts j)]
def gvStep (k t : Int) (near parts : List Int) (x : List St × Int) (j : Nat) : List St × Int :=
  if gI parts j = 0 then x else if (gvJ k t near parts x.1 j).2 = 0 then (x.1.set (gI near j).toNat (withW (gSt x.1 (gI near j).toNat) (gvJ k t near parts x.1 j).1), IntKind.i64.wrap (x.2 + gI parts j)) else x
def gvF (k t : Int) (near parts : List Int) (l : List St) (n : Nat) : List St × Int := (List.range n).foldl (gvStep k t near parts) (l, 0)
theorem gvF_succ (k t : Int) (near parts : List Int) (l : List St) (n : Nat) : gvF k t near parts l (n + 1) = gvStep k t near parts (gvF k t near parts l n) n := by
  unfold gvF
  rw [List.range_succ, List.foldl_append]
  rfl
theorem where_mem {f : St → Bool} {l : List St} {i : Int} (h : i ∈ whereR f l) : (0 ≤ i ∧ i.toNat < l.length) ∧ f (gSt l i.toNat) = true := by
  unfold whereR whereN at h
  obtain ⟨n, hn, rfl⟩ := List.mem_map.1 h
  obtain ⟨h1, h2⟩ := List.mem_filter.1 hn
  have := List.mem_range.1 h1
  exact ⟨⟨by omega, by simpa using this⟩, by simpa using h2⟩
def cntA (l : List St) : Int := (l.map fun s => Cg.cntP s.2.2.1).sum
theorem cntA_set : ∀ {l : List St} {i : Nat} {s : St}, i < l.length → cntA (l.set i s) = cntA l - Cg.cntP (gSt l i).2.2.1 + Cg.cntP s.2.2.1
  | [], i, s, h => by simp at h
  | a :: l, 0, s, h => by
    show Cg.cntP s.2.2.1 + cntA l = Cg.cntP a.2.2.1 + cntA l - Cg.cntP a.2.2.1 + Cg.cntP s.2.2.1
    omega
  | a :: l, i + 1, s, h => by
    have := cntA_set (l := l) (i := i) (s := s) (by simpa using h)
    have e : gSt (a :: l) (i + 1) = gSt l i := rfl
    rw [e]
    show Cg.cntP a.2.2.1 + cntA (l.set i s) = Cg.cntP a.2.2.1 + cntA l - Cg.cntP (gSt l i).2.2.1 + Cg.cntP s.2.2.1
    omega
theorem gSt_set {l : List St} {i j : Nat} {s : St} (h : i < l.length) : gSt (l.set i s) j = if j = i then s else gSt l j := by
  unfold gSt
  rw [List.getD_eq_getElem?_getD, List.getElem?_set]
  by_cases e : j = i
  · subst e; simp [h]
  · rw [if_neg (fun g => e g.symm), if_neg e, List.getD_eq_getElem?_getD]
/-- How it stands after some were given. -/
structure Gv (f : St → Bool) (l : List St) (sp : Int) (x : List St × Int) : Prop where
  len : x.1.length = l.length
  g : 0 ≤ x.2 ∧ x.2 ≤ sp
  va : ∀ i, i < l.length → validR (gSt x.1 i) = 0
  eq : ∀ i, i < l.length → gSt x.1 i = withW (gSt l i) (gSt x.1 i).2.2.1
  un : ∀ i, i < l.length → f (gSt l i) = false → gSt x.1 i = gSt l i
  su : cntA x.1 = cntA l + x.2
theorem Gv.start {f : St → Bool} {l : List St} (h : ∀ i, i < l.length → validR (gSt l i) = 0) : Gv f l 0 (l, 0) :=
  ⟨rfl, ⟨Int.le_refl _, Int.le_refl _⟩, h, fun i _ => rfl, fun _ _ _ => rfl, by show cntA l = cntA l + 0; omega⟩
theorem Gv.step {f : St → Bool} {l : List St} {sp k t : Int} {near parts : List Int} {j : Nat} {x : List St × Int} (h : Gv f l sp x) (hi : (0 ≤ gI near j ∧ (gI near j).toNat < l.length) ∧ f (gSt l (gI near j).toNat) = true) (hp : 0 ≤ gI parts j) (hs : sp + gI parts j ≤ 2000000000000) :
    Gv f l (sp + gI parts j) (gvStep k t near parts x j) := by
  have hg := h.g
  unfold gvStep
  by_cases c1 : gI parts j = 0
  · rw [if_pos c1, c1]
    exact ⟨h.len, by omega, h.va, h.eq, h.un, h.su⟩
  rw [if_neg c1]
  by_cases c2 : (gvJ k t near parts x.1 j).2 = 0
  rotate_left
  · rw [if_neg c2]
    exact ⟨h.len, by omega, h.va, h.eq, h.un, h.su⟩
  rw [if_pos c2]
  obtain ⟨⟨i0, i1⟩, i2⟩ := hi
  have ix : (gI near j).toNat < x.1.length := by rw [h.len]; exact i1
  have hw : IntKind.i64.wrap (x.2 + gI parts j) = x.2 + gI parts j := wrap_eq (by omega) (by omega)
  obtain ⟨j1, j2, j3, j4⟩ := Cg.join_zero c2
  have js := (Cg.join_sum c2).1
  have jc : Cg.cargoR (gvJ k t near parts x.1 j).1 = 0 := by unfold gvJ; rw [j4]; exact j3
  have js : Cg.cntP (gvJ k t near parts x.1 j).1 = Cg.cntP (gSt x.1 (gI near j).toNat).2.2.1 + gI parts j := by
    refine js.trans ?_
    have : Cg.cntP [pclR k (gI near j) t (gI parts j)] = gI parts j := by
      show gI parts j + 0 = gI parts j
      omega
    rw [this]
  refine ⟨by show (x.1.set _ _).length = _; rw [List.length_set]; exact h.len, by show 0 ≤ IntKind.i64.wrap (x.2 + gI parts j) ∧ IntKind.i64.wrap (x.2 + gI parts j) ≤ _; rw [hw]; omega, fun i hi => ?_, fun i hi => ?_, fun i hi hf => ?_, ?_⟩
  · show validR (gSt (x.1.set _ _) i) = 0
    rw [gSt_set ix]
    split
    · have hv := h.va _ i1
      rw [valid_iff] at hv ⊢
      exact ⟨hv.1, hv.2.1, hv.2.2.1, jc, hv.2.2.2.2.1, hv.2.2.2.2.2⟩
    · exact h.va i hi
  · show gSt (x.1.set _ _) i = withW (gSt l i) (gSt (x.1.set _ _) i).2.2.1
    rw [gSt_set ix]
    split
    · rename_i e
      subst e
      rw [h.eq _ i1]
      rfl
    · exact h.eq i hi
  · show gSt (x.1.set _ _) i = gSt l i
    rw [gSt_set ix]
    split
    · rename_i e
      subst e
      rw [i2] at hf
      cases hf
    · exact h.un i hi hf
  · show cntA (x.1.set _ _) = cntA l + IntKind.i64.wrap (x.2 + gI parts j)
    rw [cntA_set ix, hw]
    have hsu := h.su
    show cntA x.1 - Cg.cntP (gSt x.1 (gI near j).toNat).2.2.1 + Cg.cntP (gvJ k t near parts x.1 j).1 = _
    rw [js]
    omega
def nearK (l : List St) (w h t k : Int) : List Int := whereR (near56 w h t k) l
def partsR (l : List St) (w h t k n : Int) : List Int := (splitOf n ((nearK l w h t k).map (scrK k l))).1
def gaveR (l : List St) (w h t k n : Int) (j : Nat) : List St × Int := gvF k t (nearK l w h t k) (partsR l w h t k n) l j
def offR (l : List St) (w h t k n : Int) : List St × Int × Int :=
  if withinR (15, [k]) = false ∨ withinR (1000000, [n]) = false then ([], 0, 1) else if 1000 < (l.length : Int) then ([], 0, 4) else if (nearR l w h t).2 ≠ 0 then ([], 0, (nearR l w h t).2) else
  ((gaveR l w h t k n (nearK l w h t k).length).1, (gaveR l w h t k n (nearK l w h t k).length).2, 0)
end
end Go.Proofs.Yteidanhfkaljaaa.Eng
set_option linter.unusedVariables false
set_option linter.unusedSimpArgs false
namespace Go.Proofs.Yteidanhfkaljaaa.Eng
open Go
set_option maxRecDepth 100000
noncomputable section
open Go.RowKit
theorem gI_at {l : List Int} {i : Nat} (h : i < l.length) : gI l i = l[i] := by simp [gI, h]
theorem near_at {l : List St} {w h t k : Int} {j : Nat} (hj : j < (nearK l w h t k).length) : (0 ≤ gI (nearK l w h t k) j ∧ (gI (nearK l w h t k) j).toNat < l.length) ∧ near56 w h t k (gSt l (gI (nearK l w h t k) j).toNat) = true := by
  rw [gI_at hj]
  exact where_mem (List.getElem_mem hj)
theorem near_rat {l : List St} {w h t k : Int} {j : Nat} (hj : j < (nearK l w h t k).length) : 0 ≤ ratI (gSt l (gI (nearK l w h t k) j).toNat).2.2.2 k ∧ ratI (gSt l (gI (nearK l w h t k) j).toNat).2.2.2 k < ((gSt l (gI (nearK l w h t k) j).toNat).2.2.2.length : Int) := by
  have hh := (near_at hj).2
  unfold near56 at hh
  rw [Bool.and_eq_true] at hh
  have h0 := of_decide_eq_true hh.2
  refine ⟨h0, ?_⟩
  rcases rat_cases (gSt l (gI (nearK l w h t k) j).toNat).2.2.2 k with ⟨i, e, hi, _⟩ | ⟨e, _⟩
  · rw [e]; exact Int.ofNat_lt.2 hi
  · rw [e] at h0; omega
theorem near_len (l : List St) (w h t k : Int) : (nearK l w h t k).length ≤ l.length := whereN_len _ l _
theorem near_ok {l : List St} {w h t : Int} (hn : (nearR l w h t).2 = 0) : (∀ i, i < l.length → validR (gSt l i) = 0) ∧ sizedR w h t = 0 := by
  unfold nearR at hn
  by_cases c1 : firstV l = 0
  rotate_left
  · rw [if_pos c1] at hn; exact absurd hn c1
  rw [if_neg (by simp [c1])] at hn
  by_cases c2 : sizedR w h t = 0
  rotate_left
  · rw [if_pos c2] at hn; exact absurd hn c2
  refine ⟨fun i hi => ?_, c2⟩
  unfold firstV at c1
  split at c1
  · rename_i s hs
    have := List.find?_some hs
    simp [c1] at this
  · rename_i hs
    rw [List.find?_eq_none] at hs
    have := hs (gSt l i) (by rw [gSt_eq hi]; exact List.getElem_mem _)
    simpa using this
theorem scores_in {l : List St} {w h t k : Int} (hv : ∀ i, i < l.length → validR (gSt l i) = 0) : In255 ((nearK l w h t k).map (scrK k l)) := by
  intro x hx
  obtain ⟨i, hi, rfl⟩ := List.mem_map.1 hx
  obtain ⟨j, hj, e⟩ := List.getElem_of_mem hi
  have e' : gI (nearK l w h t k) j = i := by rw [gI_at hj, e]
  have hr := near_rat hj
  have hl := (near_at hj).1
  rw [e'] at hr hl
  unfold scrK
  have hok := (valid_iff.1 (hv _ hl.2)).2.2.2.2.2.1
  have hm := hok _ (List.getElem_mem (show (ratI (gSt l i.toNat).2.2.2 k).toNat < (gSt l i.toNat).2.2.2.length by omega))
  rw [gR_at (by omega)]
  exact ((rated_iffR _).1 hm).2.1
theorem prt_ok {l : List St} {w h t k n : Int} (hv : ∀ i, i < l.length → validR (gSt l i) = 0) (hl : l.length ≤ 1000) (h0 : 0 ≤ n ∧ n ≤ 1000000) : (splitOf n ((nearK l w h t k).map (scrK k l))).2 = 0 := by
  have hi := scores_in (w := w) (h := h) (t := t) (k := k) hv
  have hn := near_len l w h t k
  unfold splitOf
  rw [if_neg (by omega), if_neg (by rw [(allIn_iff 255 _).2 hi]; decide), if_neg (by rw [List.length_map]; omega)]
  split <;> rfl
theorem prt_fair {l : List St} {w h t k n : Int} (hv : ∀ i, i < l.length → validR (gSt l i) = 0) (hl : l.length ≤ 1000) (h0 : 0 ≤ n ∧ n ≤ 1000000) : Fair n ((nearK l w h t k).map (scrK k l)) (partsR l w h t k n) := (split_fair (prt_ok hv hl h0)).2.2.2
theorem prt_len {l : List St} {w h t k n : Int} (hv : ∀ i, i < l.length → validR (gSt l i) = 0) (hl : l.length ≤ 1000) (h0 : 0 ≤ n ∧ n ≤ 1000000) : (partsR l w h t k n).length = (nearK l w h t k).length := by
  rw [(prt_fair hv hl h0).len, List.length_map]
theorem gave_ok {l : List St} {w h t k n : Int} (hv : ∀ i, i < l.length → validR (gSt l i) = 0) (hl : l.length ≤ 1000) (h0 : 0 ≤ n ∧ n ≤ 1000000) : ∀ j, j ≤ (nearK l w h t k).length → Gv (near56 w h t k) l (sumL ((partsR l w h t k n).take j)) (gaveR l w h t k n j)
  | 0, _ => by
    rw [List.take_zero]
    exact Gv.start hv
  | j + 1, hj => by
    have hpl := prt_len (w := w) (h := h) (t := t) (k := k) (n := n) hv hl h0
    have hf := prt_fair (w := w) (h := h) (t := t) (k := k) (n := n) hv hl h0
    have hn := near_len l w h t k
    have hb : ∀ i, i < (partsR l w h t k n).length → 0 ≤ gI (partsR l w h t k n) i ∧ gI (partsR l w h t k n) i ≤ 1000000000 := fun i hi => hf.bd i (by rw [List.length_map]; omega)
    have hs := sum_take_bd hb j
    have hp := hb j (by omega)
    unfold gaveR
    rw [gvF_succ, take_succ_gI (show j < (partsR l w h t k n).length by omega), sumL_snoc]
    refine (gave_ok hv hl h0 j (by omega)).step (near_at (by omega)) hp.1 ?_
    have : (1000000000 : Int) * (partsR l w h t k n).length ≤ 1000000000 * 1000 := by omega
    omega
end
end Go.Proofs.Yteidanhfkaljaaa.Eng
set_option linter.unusedVariables false
set_option linter.unusedSimpArgs false
namespace Go.Proofs.Yteidanhfkaljaaa.Eng
open Go
set_option maxRecDepth 100000
noncomputable section
open Go.RowKit
def S30a (l : List St) (t k n : Int) (near sc : List Int) (i : Int) : SL := ⟨[.sl stT l] ++ List.replicate 4 .undef ++ [.int .i64 n, .undef, .undef, .undef, .ptr 0 0 0, .ptr 1 0 0] ++ List.replicate 6 .undef ++ [.own 2, .own 3] ++ List.replicate 39 .undef ++ [.own 2, .int .i64 near.length, .int .i64 i] ++ List.replicate 85 .undef, [(0, .box [.int .i64 t]), (1, .box [.int .i64 k]), (2, .arr I near), (3, .arr I sc)], 4⟩
def S30b (l : List St) (t k : Int) (near parts : List Int) (out : List St) (i : Int) : SL := ⟨List.replicate 9 .undef ++ [.ptr 0 0 0, .ptr 1 0 0] ++ List.replicate 6 .undef ++ [.own 2, .undef, .undef, .undef, .own 3, .undef, .own 4] ++ List.replicate 64 .undef ++ [.sl stT l, .int .i64 l.length, .int .i64 i] ++ List.replicate 55 .undef, [(0, .box [.int .i64 t]), (1, .box [.int .i64 k]), (2, .arr I near), (3, .arr I parts), (4, .arr stT out)], 5⟩
def S30c (t k : Int) (near parts : List Int) (out : List St) (g : Int) (j : Int) : SL := ⟨List.replicate 9 .undef ++ [.ptr 0 0 0, .ptr 1 0 0] ++ List.replicate 10 .undef ++ [.own 2, .undef, .own 3, .undef, .undef, .int .i64 g] ++ List.replicate 73 .undef ++ [.own 4, .int .i64 near.length, .int .i64 j] ++ List.replicate 43 .undef, [(0, .box [.int .i64 t]), (1, .box [.int .i64 k]), (2, .arr I parts), (3, .arr stT out), (4, .arr I near)], 5⟩
theorem give_rest {l : List St} {w h t k n : Int} (a1 : withinR (15, [k]) = true) (a2 : withinR (1000000, [n]) = true) (a3 : ¬ 1000 < (l.length : Int)) : offR l w h t k n = if (nearR l w h t).2 ≠ 0 then ([], 0, (nearR l w h t).2) else ((gaveR l w h t k n (nearK l w h t k).length).1, (gaveR l w h t k n (nearK l w h t k).length).2, 0) := by
  rw [offR, if_neg (by simp [a1, a2]), if_neg a3]
theorem within_n {n : Int} (h : withinR (1000000, [n]) = true) : 0 ≤ n ∧ n ≤ 1000000 := by
  unfold withinR at h
  simpa using h
def E30 : Env := ⟨tab, [(35, K35), (54, K54), (55, .eff X55), (50, K50), (13, K13), (43, K43), (57, Cg.K57)], fun n => match n with | 11 => some ([0, 5, 9, 10, 17, 18, 58, 59, 60], [(18, I)], []) | 18 => some ([9, 10, 17, 21, 23, 88, 89, 90], [(23, stT)], []) | 24 => some ([9, 10, 21, 23, 26, 100, 101, 102], [], []) | _ => none⟩
def K30 : Fn1 := ⟨.fld (.sl stT) (.fld I (.fld I (.fld I (.fld I (.one I))))), .fld (.sl stT) (.fld I (.one I)), fun (a : List St × Int × Int × Int × Int × Int) => [∀ s ∈ a.1, okS s], fun (a : List St × Int × Int × Int × Int × Int) => offR a.1 a.2.1 a.2.2.1 a.2.2.2.1 a.2.2.2.2.1 a.2.2.2.2.2⟩
set_option maxHeartbeats 4000000 in
theorem k30 : FnOk Go.Proofs.Try.prog 30 K30 := by
  refine fn_ok (E := E30) (TOk.of tab_told) (AllOk.cons k35 (.cons k54 (.consX k55 (.cons k50 (.cons k13 (.cons k43 (.cons Cg.k57 .nil))))))).at_ mix Go.Proofs.Try.func30 rfl rfl (by kernel_rfl) K30 ?_
  rintro ⟨(l : List St), (w : Int), (h : Int), (t : Int), (k : Int), (n : Int)⟩ hp
  have hs : ∀ s ∈ l, okS s := hp _ (List.mem_cons_self ..)
  clear hp
  conv => whnf
  refine ⟨show 1 ≤ 140737488351232 by omega, ?_⟩
  conv => whnf
  refine cond_intro (fun a1 => ?_) (fun a1 => ?_)
  · have a1 : (!(withinR (15, [k]))) = true := a1
    have a1 : (withinR (15, [k])) = false := by cases e : (withinR (15, [k])) with | false => rfl | true => exact absurd a1 (by rw [e]; decide)
    conv => whnf
    show ([], 0, 1) = offR l w h t k n
    rw [offR, if_pos (Or.inl a1)]
  have a1 : (!(withinR (15, [k]))) = false := a1
  have a1 : (withinR (15, [k])) = true := by cases e : (withinR (15, [k])) with | true => rfl | false => exact absurd a1 (by rw [e]; decide)
  conv => whnf
  refine ⟨show 1 ≤ 140737488351232 by omega, ?_⟩
  conv => whnf
  refine cond_intro (fun a2 => ?_) (fun a2 => ?_)
  · have a2 : (!(withinR (1000000, [n]))) = true := a2
    have a2 : (withinR (1000000, [n])) = false := by cases e : (withinR (1000000, [n])) with | false => rfl | true => exact absurd a2 (by rw [e]; decide)
    conv => whnf
    show ([], 0, 1) = offR l w h t k n
    rw [offR, if_pos (Or.inr a2)]
  have a2 : (!(withinR (1000000, [n]))) = false := a2
  have a2 : (withinR (1000000, [n])) = true := by cases e : (withinR (1000000, [n])) with | true => rfl | false => exact absurd a2 (by rw [e]; decide)
  conv => whnf
  refine cond_intro (fun a3 => ?_) (fun a3 => ?_)
  · have a3 : 1000 < (l.length : Int) := @of_decide_eq_true _ _ a3
    conv => whnf
    show ([], 0, 4) = offR l w h t k n
    rw [offR, if_neg (by simp [a1, a2]), if_pos a3]
  have a3 : ¬ (1000 < (l.length : Int)) := @of_decide_eq_false _ _ a3
  conv => whnf
  refine ⟨show l.length ≤ 1000000 by omega, ?_⟩
  conv => whnf
  refine ⟨hs, ?_⟩
  conv => whnf
  refine cond_intro (fun hn => ?_) (fun hn => ?_)
  · have hn : (!decide ((nearR l w h t).2 = 0)) = true := hn
    have hn : ¬ ((nearR l w h t).2 = 0) := fun e => absurd hn (by rw [decide_eq_true e]; decide)
    conv => whnf
    show ([], 0, (nearR l w h t).2) = offR l w h t k n
    rw [give_rest a1 a2 a3, if_pos hn]
  have hn : (!decide ((nearR l w h t).2 = 0)) = false := hn
  have hn : (nearR l w h t).2 = 0 := Decidable.byContradiction fun e => absurd hn (by rw [decide_eq_false e]; decide)
  have gr := give_rest (w := w) (h := h) (t := t) a1 a2 a3
  rw [if_neg (by simp [hn])] at gr
  obtain ⟨hv, hz0⟩ := near_ok hn
  have h0n := within_n a2
  have hl1 : l.length ≤ 1000 := by omega
  have hpl := prt_len (w := w) (h := h) (t := t) (k := k) (n := n) hv hl1 h0n
  have hnl := near_len l w h t k
  have hw0 : w ≠ 0 := by intro e; subst e; revert hz0; unfold sizedR; simp
  have hP : P55b l w := fun s hm => by
    obtain ⟨j, hj, e⟩ := List.getElem_of_mem hm
    have := hv j hj
    rw [gSt_eq hj, e] at this
    exact ⟨⟨(hs s hm).1, hw0, valid_kinds this⟩, (hs s hm).2.2⟩
  conv => whnf
  refine ⟨hP, ?_⟩
  conv => whnf
  refine ⟨show l.length ≤ 1000000 by omega, ?_⟩
  conv => whnf
  refine loop_rule (fun i : Int => S30a l t k n (nearK l w h t k) (((nearK l w h t k).take i.toNat).map (scrK k l)) i) (fun i => (((nearK l w h t k).length : Int) - i).toNat) (fun i => 0 ≤ i ∧ i ≤ (nearK l w h t k).length) ?_ 0 (by kernel_rfl) ?_ ⟨by omega, by omega⟩
  case refine_2 => rfl
  rintro i ⟨i0, i1⟩
  have wi : IntKind.i64.wrap (i + 1) = i + 1 := wrap_eq (by omega) (by omega)
  have ei : (i + 1).toNat = i.toNat + 1 := by omega
  conv => whnf
  refine cond_intro (fun h1' => ?_) (fun h1' => ?_)
  · have h1' : i < ((nearK l w h t k).length : Int) := @of_decide_eq_true _ _ h1'
    have hi : i.toNat < (nearK l w h t k).length := by omega
    have na := near_at hi
    have nr := near_rat hi
    have ix : (gI (nearK l w h t k) i.toNat) < (l.length : Int) := by omega
    have rl : (gSt l (gI (nearK l w h t k) i.toNat).toNat).2.2.2.length ≤ 100000 := (hs _ (by rw [gSt_eq na.1.2]; exact List.getElem_mem _)).2.2
    have htl : (((nearK l w h t k).take i.toNat).map (scrK k l)).length = i.toNat := by rw [List.length_map, List.length_take]; omega
    conv => whnf
    refine ⟨i0, ?_⟩
    conv => whnf
    refine ⟨h1', ?_⟩
    conv => whnf
    refine ⟨na.1.1, ?_⟩
    conv => whnf
    refine ⟨ix, ?_⟩
    conv => whnf
    refine ⟨na.1.1, ?_⟩
    conv => whnf
    refine ⟨ix, ?_⟩
    conv => whnf
    refine ⟨rl, ?_⟩
    conv => whnf
    refine ⟨nr.1, ?_⟩
    conv => whnf
    refine ⟨nr.2, ?_⟩
    conv => whnf
    refine ⟨show ((((nearK l w h t k).take i.toNat).map (scrK k l)).length + 1) * 8 ≤ 70368744177664 by omega, ?_⟩
    conv => whnf
    refine ⟨show (((nearK l w h t k).take i.toNat).map (scrK k l)).length + 1 ≤ 70368744177664 by omega, ?_⟩
    conv => whnf
    refine ⟨i + 1, ?_, ⟨by omega, by omega⟩, by omega⟩
    exact Eq.trans (b := S30a l t k n (nearK l w h t k) (((nearK l w h t k).take i.toNat).map (scrK k l) ++ [scrK k l (gI (nearK l w h t k) i.toNat)]) (IntKind.i64.wrap (i + 1))) rfl (by rw [wi, ei, List.take_succ_eq_append_getElem hi, List.map_append, gI_at hi]; rfl)
  have h1' : ¬ (i < ((nearK l w h t k).length : Int)) := @of_decide_eq_false _ _ h1'
  conv => whnf
  refine ⟨show (((nearK l w h t k).take i.toNat).map (scrK k l)).length ≤ 140737488351232 by rw [List.length_map, List.length_take]; omega, ?_⟩
  conv => whnf
  refine loop_rule (fun i : Int => S30b l t k (nearK l w h t k) (partsR l w h t k n) (l.take i.toNat) i) (fun i => ((l.length : Int) - i).toNat) (fun i => 0 ≤ i ∧ i ≤ l.length) ?_ 0 (by kernel_rfl) ?_ ⟨by omega, by omega⟩
  case refine_2 => exact Eq.trans (b := S30b l t k (nearK l w h t k) (splitOf n (((nearK l w h t k).take i.toNat).map (scrK k l))).1 [] 0) rfl (by rw [List.take_of_length_le (by omega)]; rfl)
  clear h1' i0 i1
  rintro i ⟨i0, i1⟩
  have wi : IntKind.i64.wrap (i + 1) = i + 1 := wrap_eq (by omega) (by omega)
  have ei : (i + 1).toNat = i.toNat + 1 := by omega
  conv => whnf
  refine cond_intro (fun hlt => ?_) (fun hlt => ?_)
  · have hlt : i < (l.length : Int) := @of_decide_eq_true _ _ hlt
    have hm : gSt l i.toNat ∈ l := by rw [gSt_eq (by omega)]; exact List.getElem_mem _
    obtain ⟨s1, s2, s3⟩ := hs _ hm
    have htl : (l.take i.toNat).length = i.toNat := by rw [List.length_take]; omega
    conv => whnf
    refine ⟨i0, ?_⟩
    conv => whnf
    refine ⟨hlt, ?_⟩
    conv => whnf
    refine ⟨s1, ?_⟩
    conv => whnf
    refine ⟨s2, ?_⟩
    conv => whnf
    refine ⟨s3, ?_⟩
    conv => whnf
    refine ⟨show ((l.take i.toNat).length + 1) * 80 ≤ 70368744177664 by omega, ?_⟩
    conv => whnf
    refine ⟨show (l.take i.toNat).length + 1 ≤ 70368744177664 by omega, ?_⟩
    conv => whnf
    refine ⟨i + 1, ?_, ⟨by omega, by omega⟩, by omega⟩
    exact Eq.trans (b := S30b l t k (nearK l w h t k) (partsR l w h t k n) (l.take i.toNat ++ [gSt l i.toNat]) (IntKind.i64.wrap (i + 1))) rfl (by rw [wi, ei, List.take_succ_eq_append_getElem (by omega), gSt_eq (by omega)])
  have hlt : ¬ (i < (l.length : Int)) := @of_decide_eq_false _ _ hlt
  conv => whnf
  refine loop_rule (fun j : Int => S30c t k (nearK l w h t k) (partsR l w h t k n) (gaveR l w h t k n j.toNat).1 (gaveR l w h t k n j.toNat).2 j) (fun j => (((nearK l w h t k).length : Int) - j).toNat) (fun j => 0 ≤ j ∧ j ≤ (nearK l w h t k).length) ?_ 0 (by kernel_rfl) ?_ ⟨by omega, by omega⟩
  case refine_2 => exact Eq.trans (b := S30c t k (nearK l w h t k) (partsR l w h t k n) (l.take i.toNat) 0 0) rfl (by rw [List.take_of_length_le (by omega)]; rfl)
  rintro j ⟨j0, j1⟩
  have wj : IntKind.i64.wrap (j + 1) = j + 1 := wrap_eq (by omega) (by omega)
  have ej : (j + 1).toNat = j.toNat + 1 := by omega
  have gvs : gaveR l w h t k n (j.toNat + 1) = gvStep k t (nearK l w h t k) (partsR l w h t k n) (gaveR l w h t k n j.toNat) j.toNat := gvF_succ _ _ _ _ _ _
  conv => whnf
  refine cond_intro (fun hlt => ?_) (fun hlt => ?_)
  · have hlt : j < ((nearK l w h t k).length : Int) := @of_decide_eq_true _ _ hlt
    have hj : j.toNat < (nearK l w h t k).length := by omega
    have hjp : j < ((partsR l w h t k n).length : Int) := by omega
    have na := near_at hj
    have gv := gave_ok (n := n) (w := w) (h := h) (t := t) (k := k) hv hl1 h0n j.toNat (by omega)
    have gl : (gaveR l w h t k n j.toNat).1.length = l.length := gv.len
    have ix : (gI (nearK l w h t k) j.toNat) < ((gaveR l w h t k n j.toNat).1.length : Int) := by omega
    have wlen : (gSt (gaveR l w h t k n j.toNat).1 (gI (nearK l w h t k) j.toNat).toNat).2.2.1.length ≤ 100000 := (valid_len (gv.va _ na.1.2)).2.1
    conv => whnf
    refine ⟨j0, ?_⟩
    conv => whnf
    refine ⟨hlt, ?_⟩
    conv => whnf
    refine ⟨j0, ?_⟩
    conv => whnf
    refine ⟨hjp, ?_⟩
    conv => whnf
    refine cond_intro (fun hz => ?_) (fun hz => ?_)
    · have hz : (gI (partsR l w h t k n) j.toNat) = 0 := @of_decide_eq_true _ _ hz
      conv => whnf
      refine ⟨j + 1, ?_, ⟨by omega, by omega⟩, by omega⟩
      exact Eq.trans (b := S30c t k (nearK l w h t k) (partsR l w h t k n) (gaveR l w h t k n j.toNat).1 (gaveR l w h t k n j.toNat).2 (IntKind.i64.wrap (j + 1))) rfl (by rw [wj, ej, gvs, gvStep, if_pos hz])
    have hz : ¬ ((gI (partsR l w h t k n) j.toNat) = 0) := @of_decide_eq_false _ _ hz
    conv => whnf
    refine ⟨na.1.1, ?_⟩
    conv => whnf
    refine ⟨ix, ?_⟩
    conv => whnf
    refine ⟨j0, ?_⟩
    conv => whnf
    refine ⟨hjp, ?_⟩
    conv => whnf
    refine ⟨wlen, ?_⟩
    conv => whnf
    refine ⟨show [pclR k (gI (nearK l w h t k) j.toNat) t (gI (partsR l w h t k n) j.toNat)].length ≤ 100000 by show 1 ≤ 100000; omega, ?_⟩
    conv => whnf
    refine cond_intro (fun he => ?_) (fun he => ?_)
    · have he : (Cg.joinR (gSt (gaveR l w h t k n j.toNat).1 (gI (nearK l w h t k) j.toNat).toNat).2.2.1 [(k, (gI (nearK l w h t k) j.toNat), t, 0, (gI (partsR l w h t k n) j.toNat), 0)]).2 = 0 := @of_decide_eq_true _ _ he
      conv => whnf
      refine ⟨na.1.1, ?_⟩
      conv => whnf
      refine ⟨ix, ?_⟩
      conv => whnf
      refine ⟨j0, ?_⟩
      conv => whnf
      refine ⟨hjp, ?_⟩
      conv => whnf
      refine ⟨j + 1, ?_, ⟨by omega, by omega⟩, by omega⟩
      exact Eq.trans (b := S30c t k (nearK l w h t k) (partsR l w h t k n) ((gaveR l w h t k n j.toNat).1.set (gI (nearK l w h t k) j.toNat).toNat (withW (gSt (gaveR l w h t k n j.toNat).1 (gI (nearK l w h t k) j.toNat).toNat) (Cg.joinR (gSt (gaveR l w h t k n j.toNat).1 (gI (nearK l w h t k) j.toNat).toNat).2.2.1 [(k, (gI (nearK l w h t k) j.toNat), t, 0, (gI (partsR l w h t k n) j.toNat), 0)]).1)) (IntKind.i64.wrap ((gaveR l w h t k n j.toNat).2 + (gI (partsR l w h t k n) j.toNat))) (IntKind.i64.wrap (j + 1))) rfl (by rw [wj, ej, gvs, gvStep, if_neg hz, if_pos (show (gvJ k t (nearK l w h t k) (partsR l w h t k n) (gaveR l w h t k n j.toNat).1 j.toNat).2 = 0 from he)]; rfl)
    have he : ¬ ((Cg.joinR (gSt (gaveR l w h t k n j.toNat).1 (gI (nearK l w h t k) j.toNat).toNat).2.2.1 [(k, (gI (nearK l w h t k) j.toNat), t, 0, (gI (partsR l w h t k n) j.toNat), 0)]).2 = 0) := @of_decide_eq_false _ _ he
    conv => whnf
    refine ⟨j + 1, ?_, ⟨by omega, by omega⟩, by omega⟩
    exact Eq.trans (b := S30c t k (nearK l w h t k) (partsR l w h t k n) (gaveR l w h t k n j.toNat).1 (gaveR l w h t k n j.toNat).2 (IntKind.i64.wrap (j + 1))) rfl (by rw [wj, ej, gvs, gvStep, if_neg hz, if_neg (show ¬ (gvJ k t (nearK l w h t k) (partsR l w h t k n) (gaveR l w h t k n j.toNat).1 j.toNat).2 = 0 from he)])
  have hlt : ¬ (j < ((nearK l w h t k).length : Int)) := @of_decide_eq_false _ _ hlt
  have ee : j.toNat = (nearK l w h t k).length := by omega
  rw [ee]
  conv => whnf
  show ((gaveR l w h t k n (nearK l w h t k).length).1, (gaveR l w h t k n (nearK l w h t k).length).2, 0) = offR l w h t k n
  rw [gr]
end
end Go.Proofs.Yteidanhfkaljaaa.Eng
set_option linter.unusedVariables false
set_option linter.unusedSimpArgs false
namespace Go.Proofs.Yteidanhfkaljaaa.Eng
open Go
set_option maxRecDepth 100000
noncomputable section
open Go.RowKit
def unitsA (l : List St) : Int := l.foldl (fun (n : Int) s => IntKind.i64.wrap (n + unitsR s.2.2.1)) 0
def S31 (l : List St) (a i : Int) : SL := ⟨[.undef, .undef, .undef, .int .i64 a, .undef, .undef, .sl stT l, .int .i64 l.length, .int .i64 i] ++ List.replicate 10 .undef, [], 0⟩
theorem unitsA_succ {l : List St} {i : Nat} (hi : i < l.length) : unitsA (l.take (i + 1)) = IntKind.i64.wrap (unitsA (l.take i) + unitsR (gSt l i).2.2.1) := by
  unfold unitsA
  rw [List.take_succ_eq_append_getElem hi, List.foldl_append, gSt_eq hi]
  rfl
def lgr (l : List St) : Bool := decide (2000 < (l.length : Int)) || l.any largeR
def S29 (l : List St) (i : Int) : SL := ⟨List.replicate 8 .undef ++ [.sl stT l, .int .i64 l.length, .int .i64 i] ++ List.replicate 6 .undef, [], 0⟩
def E31 : Env := ⟨tab, [(25, K25)], fun n => match n with | 3 => some ([3, 6, 7, 8], [], []) | _ => none⟩
def K31 : Fn1 := ⟨.one (.sl stT), .one I, fun (l : List St) => [l.length ≤ 1000000, ∀ s ∈ l, s.2.2.1.length ≤ 100000], fun (l : List St) => unitsA l⟩
theorem k31 : FnOk Go.Proofs.Try.prog 31 K31 := by
  refine fn_ok (E := E31) (TOk.of tab_told) (AllOk.cons k25 .nil).at_ mix Go.Proofs.Try.func31 rfl rfl (by kernel_rfl) K31 ?_
  rintro (l : List St) hp
  have hl : l.length ≤ 1000000 := hp _ (List.mem_cons_self ..)
  have hs : ∀ s ∈ l, s.2.2.1.length ≤ 100000 := hp _ (List.mem_cons_of_mem _ (List.mem_cons_self ..))
  clear hp
  conv => whnf
  refine loop_rule (fun i : Int => S31 l (unitsA (l.take i.toNat)) i) (fun i => ((l.length : Int) - i).toNat) (fun i => 0 ≤ i ∧ i ≤ l.length) ?_ 0 (by kernel_rfl) ?_ ⟨by omega, by omega⟩
  case refine_2 => rfl
  rintro i ⟨i0, i1⟩
  have wi : IntKind.i64.wrap (i + 1) = i + 1 := wrap_eq (by omega) (by omega)
  have ei : (i + 1).toNat = i.toNat + 1 := by omega
  conv => whnf
  refine cond_intro (fun hlt => ?_) (fun hlt => ?_)
  · have hlt : i < (l.length : Int) := @of_decide_eq_true _ _ hlt
    have hm : gSt l i.toNat ∈ l := by rw [gSt_eq (by omega)]; exact List.getElem_mem _
    conv => whnf
    refine ⟨i0, ?_⟩
    conv => whnf
    refine ⟨hlt, ?_⟩
    conv => whnf
    refine ⟨hs _ hm, ?_⟩
    conv => whnf
    refine ⟨i + 1, ?_, ⟨by omega, by omega⟩, by omega⟩
    exact Eq.trans (b := S31 l (IntKind.i64.wrap (unitsA (l.take i.toNat) + unitsR (gSt l i.toNat).2.2.1)) (IntKind.i64.wrap (i + 1))) rfl (by rw [wi, ei, unitsA_succ (by omega)])
  have hlt : ¬ (i < (l.length : Int)) := @of_decide_eq_false _ _ hlt
  rw [List.take_of_length_le (by omega)]
  conv => whnf
  show unitsA l = unitsA l
  rfl
def E29 : Env := ⟨tab, [(16, K16)], fun n => match n with | 4 => some ([8, 9, 10], [], []) | _ => none⟩
def K29 : Fn1 := ⟨.one (.sl stT), .one .bool, fun _ => [], fun (l : List St) => lgr l⟩
theorem k29 : FnOk Go.Proofs.Try.prog 29 K29 := by
  refine fn_ok (E := E29) (TOk.of tab_told) (AllOk.cons k16 .nil).at_ mix Go.Proofs.Try.func29 rfl rfl (by kernel_rfl) K29 ?_
  rintro (l : List St) hp
  clear hp
  conv => whnf
  refine cond_intro (fun q1 => ?_) (fun q1 => ?_)
  · have q1 : 2000 < (l.length : Int) := @of_decide_eq_true _ _ q1
    conv => whnf
    show true = lgr l
    simp [lgr, q1]
  have q1 : ¬ (2000 < (l.length : Int)) := @of_decide_eq_false _ _ q1
  conv => whnf
  refine loop_rule (fun i : Int => S29 l i) (fun i => ((l.length : Int) - i).toNat) (fun i => 0 ≤ i ∧ i ≤ l.length ∧ ∀ j, j < i.toNat → largeR (gSt l j) = false) ?_ 0 (by kernel_rfl) ?_ ⟨by omega, by omega, fun j hj => by simp at hj⟩
  case refine_2 => rfl
  rintro i ⟨i0, i1, i2⟩
  have wi : IntKind.i64.wrap (i + 1) = i + 1 := wrap_eq (by omega) (by omega)
  have ei : (i + 1).toNat = i.toNat + 1 := by omega
  conv => whnf
  refine cond_intro (fun hlt => ?_) (fun hlt => ?_)
  · have hlt : i < (l.length : Int) := @of_decide_eq_true _ _ hlt
    have hm : gSt l i.toNat ∈ l := by rw [gSt_eq (by omega)]; exact List.getElem_mem _
    conv => whnf
    refine ⟨i0, ?_⟩
    conv => whnf
    refine ⟨hlt, ?_⟩
    conv => whnf
    refine cond_intro (fun hg => ?_) (fun hg => ?_)
    · have hg : (largeR (gSt l i.toNat)) = true := hg
      conv => whnf
      show true = lgr l
      unfold lgr
      rw [List.any_eq_true.2 ⟨_, hm, hg⟩, Bool.or_true]
    have hg : (largeR (gSt l i.toNat)) = false := hg
    conv => whnf
    refine ⟨i + 1, ?_, ⟨by omega, by omega, fun j hj => ?_⟩, by omega⟩
    · exact Eq.trans (b := S29 l (IntKind.i64.wrap (i + 1))) rfl (by rw [wi])
    · rw [ei] at hj
      rcases Nat.lt_or_eq_of_le (Nat.le_of_lt_succ hj) with g | g
      · exact i2 j g
      · subst g; exact hg
  have hlt : ¬ (i < (l.length : Int)) := @of_decide_eq_false _ _ hlt
  have ha : l.any largeR = false := by
    rw [List.any_eq_false]
    intro s hs
    obtain ⟨j, hj, e⟩ := List.getElem_of_mem hs
    have := i2 j (by omega)
    rw [gSt_eq hj, e] at this
    simp [this]
  conv => whnf
  show false = lgr l
  unfold lgr
  rw [ha, Bool.or_false]
  exact (decide_eq_false q1).symm
theorem lgr_ok {l : List St} (h : lgr l = false) : l.length ≤ 2000 ∧ ∀ s ∈ l, okS s := by
  unfold lgr at h
  rw [Bool.or_eq_false_iff, decide_eq_false_iff_not, List.any_eq_false] at h
  refine ⟨by omega, fun s hs => ?_⟩
  have := h.2 s hs
  unfold largeR at this
  simp only [Bool.or_eq_true, decide_eq_true_eq, not_or] at this
  unfold okS
  omega
theorem off_bad {l : List St} {w h t k n : Int} (he : ¬ (offR l w h t k n).2.2 = 0) : (offR l w h t k n).1 = [] ∧ (offR l w h t k n).2.1 = 0 := by
  unfold offR at he ⊢
  split
  · exact ⟨rfl, rfl⟩
  rename_i c1
  rw [if_neg c1] at he
  split
  · exact ⟨rfl, rfl⟩
  rename_i c2
  rw [if_neg c2] at he
  split
  · exact ⟨rfl, rfl⟩
  rename_i c3
  rw [if_neg c3] at he
  exact absurd rfl he
theorem share_le {n b : Int} (h0 : 0 ≤ n) (hb : 0 ≤ b ∧ b ≤ 255) : n * b / 255 ≤ n := by
  have h1 : n * b ≤ n * 255 := Int.mul_le_mul_of_nonneg_left hb.2 h0
  omega
theorem off_good {l : List St} {w h t k n : Int} (he : (offR l w h t k n).2.2 = 0) : l.length ≤ 1000 ∧ (∀ i, i < l.length → validR (gSt l i) = 0) ∧ sizedR w h t = 0 ∧ Gv (near56 w h t k) l n ((offR l w h t k n).1, (offR l w h t k n).2.1) := by
  unfold offR at he ⊢
  by_cases c1 : withinR (15, [k]) = false ∨ withinR (1000000, [n]) = false
  · rw [if_pos c1] at he; cases he
  rw [if_neg c1] at he ⊢
  by_cases c2 : 1000 < (l.length : Int)
  · rw [if_pos c2] at he; cases he
  rw [if_neg c2] at he ⊢
  by_cases c3 : (nearR l w h t).2 ≠ 0
  · rw [if_pos c3] at he; exact absurd he c3
  rw [if_neg c3]
  have a2 : withinR (1000000, [n]) = true := by
    cases e : withinR (1000000, [n])
    · exact absurd (Or.inr e) c1
    · rfl
  have h0 := within_n a2
  obtain ⟨hv, hz⟩ := near_ok (Decidable.not_not.1 c3)
  have hl : l.length ≤ 1000 := by omega
  have hf := prt_fair (w := w) (h := h) (t := t) (k := k) (n := n) hv hl h0
  have hpl := prt_len (w := w) (h := h) (t := t) (k := k) (n := n) hv hl h0
  have g := gave_ok (n := n) (w := w) (h := h) (t := t) (k := k) hv hl h0 _ (Nat.le_refl _)
  rw [List.take_of_length_le (by omega), hf.sum] at g
  have hb := best_bd _ 0 (scores_in (w := w) (h := h) (t := t) (k := k) hv) (Int.le_refl _) (by omega)
  have hs := share_le h0.1 hb
  exact ⟨hl, hv, hz, ⟨g.len, ⟨g.g.1, Int.le_trans g.g.2 hs⟩, g.va, g.eq, g.un, g.su⟩⟩
theorem unitsA_cnt : ∀ {l : List St}, (∀ s ∈ l, validR s = 0) → l.length ≤ 1000 → unitsA l = cntA l ∧ 0 ≤ cntA l ∧ cntA l ≤ l.length * 200000000 := by
  intro l
  have key : ∀ (l : List St) (a : Int), (∀ s ∈ l, validR s = 0) → 0 ≤ a → a + l.length * 200000000 ≤ 900000000000 → l.foldl (fun (n : Int) s => IntKind.i64.wrap (n + unitsR s.2.2.1)) a = a + cntA l ∧ 0 ≤ cntA l ∧ cntA l ≤ l.length * 200000000 := by
    intro l
    induction l with
    | nil => intro a _ h0 _; refine ⟨?_, Int.le_refl _, Int.le_refl _⟩; show a = a + 0; omega
    | cons s l ih =>
      intro a hv h0 hb
      have hs := hv s List.mem_cons_self
      have hc := (valid_iff.1 hs).2.2.2.1
      have hu := units_cnt hc
      have hp := units_pos hc
      rw [List.length_cons] at hb
      have hw : IntKind.i64.wrap (a + unitsR s.2.2.1) = a + unitsR s.2.2.1 := wrap_eq (by omega) (by omega)
      obtain ⟨e1, e2, e3⟩ := ih (a + unitsR s.2.2.1) (fun x hx => hv x (List.mem_cons_of_mem _ hx)) (by omega) (by omega)
      have hcc : cntA (s :: l) = Cg.cntP s.2.2.1 + cntA l := rfl
      rw [List.foldl_cons, hw, e1, hcc, List.length_cons]
      omega
  intro hv hl
  obtain ⟨e1, e2, e3⟩ := key l 0 hv (Int.le_refl _) (by omega)
  refine ⟨?_, e2, e3⟩
  unfold unitsA
  rw [e1]
  omega
end
end Go.Proofs.Yteidanhfkaljaaa.Eng
set_option linter.unusedVariables false
set_option linter.unusedSimpArgs false
namespace Go.Proofs.Yteidanhfkaljaaa.Eng
open Go
set_option maxRecDepth 100000
noncomputable section
open Go.RowKit
def S10a (l : List St) (w h t k : Int) (A : List St) (i : Int) : SL := ⟨[.sl stT l, .int .i64 w, .int .i64 h, .int .i64 t, .int .i64 k] ++ List.replicate 67 .undef ++ [.own 0, .int .i64 A.length, .int .i64 i] ++ List.replicate 88 .undef, [(0, .arr stT A)], 1⟩
def S10b (l : List St) (w h t k : Int) (A : List St) (c kn : Bool) (i j : Int) : SL := ⟨[.sl stT l, .int .i64 w, .int .i64 h, .int .i64 t, .int .i64 k] ++ List.replicate 11 .undef ++ [.int .i64 i, .ptr 0 0 0, .bool c, .undef, .bool kn] ++ List.replicate 51 .undef ++ [.own 1, .int .i64 A.length, .int .i64 i] ++ List.replicate 19 .undef ++ [.sl raT (gSt l i.toNat).2.2.2, .int .i64 (gSt l i.toNat).2.2.2.length, .int .i64 j] ++ List.replicate 66 .undef,
  [(0, .box [.int .i64 (gSt A i.toNat).1, .sl plT (gSt A i.toNat).2.1, .sl paT (gSt A i.toNat).2.2.1, .sl raT (gSt A i.toNat).2.2.2]), (1, .arr stT A)], 2⟩
def knw (rs : List Ra) (k : Int) : Bool := rs.any fun r => decide (r.1 = k)
theorem knw_succ {rs : List Ra} {k : Int} {j : Nat} (hj : j < rs.length) : knw (rs.take (j + 1)) k = (knw (rs.take j) k || decide ((gR rs j).1 = k)) := by
  unfold knw
  rw [List.take_succ_eq_append_getElem hj, List.any_append, gR_at hj]
  simp
theorem knw_rat {rs : List Ra} {k : Int} (h : knw rs k = false) : ¬ 0 ≤ ratI rs k := by
  unfold knw at h
  rw [List.any_eq_false] at h
  rcases rat_cases rs k with ⟨i, e, hi, hk⟩ | ⟨e, _⟩
  · have := h _ (List.getElem_mem hi)
    rw [gR_at hi] at hk
    simp [hk] at this
  · rw [e]; omega
theorem stay {l : List St} {w h t k n : Int} {A : List St} {g : Int} {i : Nat} (gv : Gv (near56 w h t k) l n (A, g)) (hi : i < l.length) (hv : validR (gSt l i) = 0) (hz : sizedR w h t = 0) (hn : (coversR (gSt l i) w h t).1 = false ∨ knw (gSt l i).2.2.2 k = false) : gSt A i = gSt l i := by
  refine gv.un i hi ?_
  unfold near56
  rcases hn with hn | hn
  · have : near75 w h t (gSt l i) = false := by
      unfold coversR at hn
      rw [if_neg (by simp [hv]), if_neg (by simp [hz])] at hn
      exact hn
    rw [this, Bool.false_and]
  · rw [decide_eq_false (knw_rat hn), Bool.and_false]
def E10 : Env := ⟨tab, [(29, K29), (12, K12), (30, K30), (31, K31), (17, K17), (23, K23), (32, K32), (33, K33), (28, K28)], fun n => match n with | 9 => some ([0, 1, 2, 3, 4, 72, 73, 74], [], []) | 14 => some ([0, 1, 2, 3, 4, 16, 17, 18, 20, 72, 73, 74, 94, 95, 96], [], []) | _ => none⟩
def K10 : Fn1 := ⟨.fld (.sl stT) (.fld I (.fld I (.fld I (.fld I (.one I))))), .one .bool, fun _ => [], fun _ => true⟩
set_option maxHeartbeats 4000000 in
theorem k10 : FnOk Go.Proofs.Try.prog 10 K10 := by
  refine fn_ok (E := E10) (TOk.of tab_told) (AllOk.cons k29 (.cons k12 (.cons k30 (.cons k31 (.cons k17 (.cons k23 (.cons k32 (.cons k33 (.cons k28 .nil))))))))).at_ mix Go.Proofs.Try.func10 rfl rfl (by kernel_rfl) K10 ?_
  rintro ⟨(l : List St), (w : Int), (h : Int), (t : Int), (k : Int), (n : Int)⟩ hp
  clear hp
  conv => whnf
  refine cond_intro (fun q1 => ?_) (fun q1 => ?_)
  · have q1 : (lgr l) = true := q1
    conv => whnf
    rfl
  have q1 : (lgr l) = false := q1
  obtain ⟨hl, hs⟩ := lgr_ok q1
  conv => whnf
  refine ⟨hs, ?_⟩
  conv => whnf
  refine cond_intro (fun q2 => ?_) (fun q2 => ?_)
  · have q2 : (!decide ((offR l w h t k n).2.2 = 0)) = true := q2
    have q2 : ¬ ((offR l w h t k n).2.2 = 0) := fun e => absurd q2 (by rw [decide_eq_true e]; decide)
    obtain ⟨b1, b2⟩ := off_bad q2
    conv => whnf
    refine cond_intro (fun b3 => ?_) (fun b3 => ?_)
    · have b3 : ((offR l w h t k n).1.length : Int) = 0 := @of_decide_eq_true _ _ b3
      conv => whnf
      refine cond_intro (fun b4 => ?_) (fun b4 => ?_)
      · have b4 : (offR l w h t k n).2.1 = 0 := @of_decide_eq_true _ _ b4
        conv => whnf
        rfl
      have b4 : ¬ ((offR l w h t k n).2.1 = 0) := @of_decide_eq_false _ _ b4
      exact absurd b2 b4
    have b3 : ¬ (((offR l w h t k n).1.length : Int) = 0) := @of_decide_eq_false _ _ b3
    exact absurd (by rw [b1]; rfl) b3
  have q2 : (!decide ((offR l w h t k n).2.2 = 0)) = false := q2
  have q2 : (offR l w h t k n).2.2 = 0 := Decidable.byContradiction fun e => absurd q2 (by rw [decide_eq_false e]; decide)
  obtain ⟨hl2, hv, hz, gv⟩ := off_good q2
  have gl : (offR l w h t k n).1.length = l.length := gv.len
  have gg : 0 ≤ (offR l w h t k n).2.1 ∧ (offR l w h t k n).2.1 ≤ n := gv.g
  have gs : cntA (offR l w h t k n).1 = cntA l + (offR l w h t k n).2.1 := gv.su
  have hvl : ∀ s ∈ l, validR s = 0 := fun s hm => by
    obtain ⟨j, hj, e⟩ := List.getElem_of_mem hm
    have := hv j hj
    rwa [gSt_eq hj, e] at this
  have hva : ∀ s ∈ (offR l w h t k n).1, validR s = 0 := fun s hm => by
    obtain ⟨j, hj, e⟩ := List.getElem_of_mem hm
    have := gv.va j (by omega)
    rwa [show gSt (((offR l w h t k n).1, (offR l w h t k n).2.1) : List St × Int).1 j = gSt (offR l w h t k n).1 j from rfl, gSt_eq hj, e] at this
  obtain ⟨u1, u2, u3⟩ := unitsA_cnt hvl hl2
  obtain ⟨u4, u5, u6⟩ := unitsA_cnt hva (by omega)
  have wu : IntKind.i64.wrap (unitsA l + (offR l w h t k n).2.1) = unitsA (offR l w h t k n).1 := by rw [u1, u4, gs]; exact wrap_eq (by omega) (by omega)
  conv => whnf
  refine cond_intro (fun p1 => ?_) (fun p1 => ?_)
  · have p1 : (!decide (((offR l w h t k n).1.length : Int) = (l.length : Int))) = true := p1
    have p1 : ¬ (((offR l w h t k n).1.length : Int) = (l.length : Int)) := fun e => absurd p1 (by rw [decide_eq_true e]; decide)
    exact absurd (by rw [gl]) p1
  have p1 : (!decide (((offR l w h t k n).1.length : Int) = (l.length : Int))) = false := p1
  have p1 : ((offR l w h t k n).1.length : Int) = (l.length : Int) := Decidable.byContradiction fun e => absurd p1 (by rw [decide_eq_false e]; decide)
  conv => whnf
  refine cond_intro (fun p2 => ?_) (fun p2 => ?_)
  · have p2 : (offR l w h t k n).2.1 < 0 := @of_decide_eq_true _ _ p2
    exfalso; omega
  have p2 : ¬ ((offR l w h t k n).2.1 < 0) := @of_decide_eq_false _ _ p2
  conv => whnf
  refine cond_intro (fun p3 => ?_) (fun p3 => ?_)
  · have p3 : n < (offR l w h t k n).2.1 := @of_decide_eq_true _ _ p3
    exfalso; omega
  have p3 : ¬ (n < (offR l w h t k n).2.1) := @of_decide_eq_false _ _ p3
  conv => whnf
  refine ⟨show (offR l w h t k n).1.length ≤ 1000000 by omega, ?_⟩
  conv => whnf
  refine ⟨fun s hm => (valid_len (hva s hm)).2.1, ?_⟩
  conv => whnf
  refine ⟨show l.length ≤ 1000000 by omega, ?_⟩
  conv => whnf
  refine ⟨fun s hm => (hs s hm).2.1, ?_⟩
  conv => whnf
  refine cond_intro (fun p4 => ?_) (fun p4 => ?_)
  · have p4 : (!decide (unitsA (offR l w h t k n).1 = IntKind.i64.wrap (unitsA l + (offR l w h t k n).2.1))) = true := p4
    have p4 : ¬ (unitsA (offR l w h t k n).1 = IntKind.i64.wrap (unitsA l + (offR l w h t k n).2.1)) := fun e => absurd p4 (by rw [decide_eq_true e]; decide)
    exact absurd wu.symm p4
  have p4 : (!decide (unitsA (offR l w h t k n).1 = IntKind.i64.wrap (unitsA l + (offR l w h t k n).2.1))) = false := p4
  have p4 : unitsA (offR l w h t k n).1 = IntKind.i64.wrap (unitsA l + (offR l w h t k n).2.1) := Decidable.byContradiction fun e => absurd p4 (by rw [decide_eq_false e]; decide)
  conv => whnf
  refine loop_rule (fun i : Int => S10a l w h t k (offR l w h t k n).1 i) (fun i => (((offR l w h t k n).1.length : Int) - i).toNat) (fun i => 0 ≤ i ∧ i ≤ (offR l w h t k n).1.length) ?_ 0 (by kernel_rfl) ?_ ⟨by omega, by omega⟩
  case refine_2 => rfl
  rintro i ⟨i0, i1⟩
  have wi : IntKind.i64.wrap (i + 1) = i + 1 := wrap_eq (by omega) (by omega)
  conv => whnf
  refine cond_intro (fun alt => ?_) (fun alt => ?_)
  · have alt : i < ((offR l w h t k n).1.length : Int) := @of_decide_eq_true _ _ alt
    have hi : i.toNat < l.length := by omega
    have ilt : i < (l.length : Int) := by omega
    have vA : validR (gSt (offR l w h t k n).1 i.toNat) = 0 := gv.va _ hi
    have vl := valid_len vA
    have heq := gv.eq _ hi
    have heq : (gSt (offR l w h t k n).1 i.toNat) = withW (gSt l i.toNat) (gSt (offR l w h t k n).1 i.toNat).2.2.1 := heq
    have hsl := hs _ (show (gSt l i.toNat) ∈ l by rw [gSt_eq hi]; exact List.getElem_mem _)
    obtain ⟨s1, s2, s3⟩ := hsl
    have vl3 : (gSt (offR l w h t k n).1 i.toNat).2.2.2.length ≤ 100000 := by rw [heq]; exact s3
    conv => whnf
    refine ⟨i0, ?_⟩
    conv => whnf
    refine ⟨alt, ?_⟩
    conv => whnf
    refine ⟨i0, ?_⟩
    conv => whnf
    refine ⟨ilt, ?_⟩
    conv => whnf
    refine ⟨s1, ?_⟩
    conv => whnf
    refine ⟨s2, ?_⟩
    conv => whnf
    refine ⟨s3, ?_⟩
    conv => whnf
    refine ⟨i0, ?_⟩
    conv => whnf
    refine ⟨ilt, ?_⟩
    conv => whnf
    refine loop_rule (fun j : Int => S10b l w h t k (offR l w h t k n).1 (coversR (gSt l i.toNat) w h t).1 (knw ((gSt l i.toNat).2.2.2.take j.toNat) k) i j) (fun j => (((gSt l i.toNat).2.2.2.length : Int) - j).toNat) (fun j => 0 ≤ j ∧ j ≤ (gSt l i.toNat).2.2.2.length) ?_ 0 (by kernel_rfl) ?_ ⟨by omega, by omega⟩
    case refine_2 => rfl
    rintro j ⟨j0, j1⟩
    have wj : IntKind.i64.wrap (j + 1) = j + 1 := wrap_eq (by omega) (by omega)
    have ej : (j + 1).toNat = j.toNat + 1 := by omega
    conv => whnf
    refine cond_intro (fun jlt => ?_) (fun jlt => ?_)
    · have jlt : j < ((gSt l i.toNat).2.2.2.length : Int) := @of_decide_eq_true _ _ jlt
      conv => whnf
      refine ⟨j0, ?_⟩
      conv => whnf
      refine ⟨jlt, ?_⟩
      have ks := knw_succ (k := k) (show j.toNat < (gSt l i.toNat).2.2.2.length by omega)
      conv => whnf
      refine cond_intro (fun kk => ?_) (fun kk => ?_)
      · have kk : (knw ((gSt l i.toNat).2.2.2.take j.toNat) k) = true := kk
        conv => whnf
        refine ⟨j + 1, ?_, ⟨by omega, by omega⟩, by omega⟩
        exact Eq.trans (b := S10b l w h t k (offR l w h t k n).1 (coversR (gSt l i.toNat) w h t).1 true i (IntKind.i64.wrap (j + 1))) rfl (by rw [wj, ej, ks, kk, Bool.true_or])
      have kk : (knw ((gSt l i.toNat).2.2.2.take j.toNat) k) = false := kk
      conv => whnf
      refine ⟨j + 1, ?_, ⟨by omega, by omega⟩, by omega⟩
      exact Eq.trans (b := S10b l w h t k (offR l w h t k n).1 (coversR (gSt l i.toNat) w h t).1 (decide ((gR (gSt l i.toNat).2.2.2 j.toNat).1 = k)) i (IntKind.i64.wrap (j + 1))) rfl (by rw [wj, ej, ks, kk, Bool.false_or])
    have jlt : ¬ (j < ((gSt l i.toNat).2.2.2.length : Int)) := @of_decide_eq_false _ _ jlt
    rw [show ((gSt l i.toNat).2.2.2.take j.toNat) = (gSt l i.toNat).2.2.2 from List.take_of_length_le (by omega)]
    conv => whnf
    refine ⟨vl.1, ?_⟩
    conv => whnf
    refine ⟨vl.2.1, ?_⟩
    conv => whnf
    refine ⟨vl3, ?_⟩
    conv => whnf
    refine cond_intro (fun v1 => ?_) (fun v1 => ?_)
    · have v1 : (!decide (validR (gSt (offR l w h t k n).1 i.toNat) = 0)) = true := v1
      have v1 : ¬ (validR (gSt (offR l w h t k n).1 i.toNat) = 0) := fun e => absurd v1 (by rw [decide_eq_true e]; decide)
      exact absurd vA v1
    have v1 : (!decide (validR (gSt (offR l w h t k n).1 i.toNat) = 0)) = false := v1
    have v1 : validR (gSt (offR l w h t k n).1 i.toNat) = 0 := Decidable.byContradiction fun e => absurd v1 (by rw [decide_eq_false e]; decide)
    conv => whnf
    refine ⟨i0, ?_⟩
    conv => whnf
    refine ⟨ilt, ?_⟩
    conv => whnf
    refine ⟨show (gSt (offR l w h t k n).1 i.toNat).2.1.length ≤ 100000 by exact vl.1, ?_⟩
    conv => whnf
    refine cond_intro (fun v2 => ?_) (fun v2 => ?_)
    · have v2 : (!(eqPl (gSt (offR l w h t k n).1 i.toNat).2.1 (gSt l i.toNat).2.1)) = true := v2
      have v2 : (eqPl (gSt (offR l w h t k n).1 i.toNat).2.1 (gSt l i.toNat).2.1) = false := by cases e : (eqPl (gSt (offR l w h t k n).1 i.toNat).2.1 (gSt l i.toNat).2.1) with | false => rfl | true => exact absurd v2 (by rw [e]; decide)
      exact absurd v2 (by unfold eqPl; rw [heq]; simp [withW])
    have v2 : (!(eqPl (gSt (offR l w h t k n).1 i.toNat).2.1 (gSt l i.toNat).2.1)) = false := v2
    have v2 : (eqPl (gSt (offR l w h t k n).1 i.toNat).2.1 (gSt l i.toNat).2.1) = true := by cases e : (eqPl (gSt (offR l w h t k n).1 i.toNat).2.1 (gSt l i.toNat).2.1) with | true => rfl | false => exact absurd v2 (by rw [e]; decide)
    conv => whnf
    refine ⟨i0, ?_⟩
    conv => whnf
    refine ⟨ilt, ?_⟩
    conv => whnf
    refine ⟨show (gSt (offR l w h t k n).1 i.toNat).2.2.2.length ≤ 100000 by exact vl3, ?_⟩
    conv => whnf
    refine cond_intro (fun v3 => ?_) (fun v3 => ?_)
    · have v3 : (!(eqRa (gSt (offR l w h t k n).1 i.toNat).2.2.2 (gSt l i.toNat).2.2.2)) = true := v3
      have v3 : (eqRa (gSt (offR l w h t k n).1 i.toNat).2.2.2 (gSt l i.toNat).2.2.2) = false := by cases e : (eqRa (gSt (offR l w h t k n).1 i.toNat).2.2.2 (gSt l i.toNat).2.2.2) with | false => rfl | true => exact absurd v3 (by rw [e]; decide)
      exact absurd v3 (by unfold eqRa; rw [heq]; simp [withW])
    have v3 : (!(eqRa (gSt (offR l w h t k n).1 i.toNat).2.2.2 (gSt l i.toNat).2.2.2)) = false := v3
    have v3 : (eqRa (gSt (offR l w h t k n).1 i.toNat).2.2.2 (gSt l i.toNat).2.2.2) = true := by cases e : (eqRa (gSt (offR l w h t k n).1 i.toNat).2.2.2 (gSt l i.toNat).2.2.2) with | true => rfl | false => exact absurd v3 (by rw [e]; decide)
    conv => whnf
    refine ⟨i0, ?_⟩
    conv => whnf
    refine ⟨ilt, ?_⟩
    conv => whnf
    refine cond_intro (fun v4 => ?_) (fun v4 => ?_)
    · have v4 : (!decide ((gSt (offR l w h t k n).1 i.toNat).1 = (gSt l i.toNat).1)) = true := v4
      have v4 : ¬ ((gSt (offR l w h t k n).1 i.toNat).1 = (gSt l i.toNat).1) := fun e => absurd v4 (by rw [decide_eq_true e]; decide)
      exact absurd (by rw [heq]; rfl) v4
    have v4 : (!decide ((gSt (offR l w h t k n).1 i.toNat).1 = (gSt l i.toNat).1)) = false := v4
    have v4 : (gSt (offR l w h t k n).1 i.toNat).1 = (gSt l i.toNat).1 := Decidable.byContradiction fun e => absurd v4 (by rw [decide_eq_false e]; decide)
    conv => whnf
    refine cond_intro (fun v5 => ?_) (fun v5 => ?_)
    · have v5 : ((coversR (gSt l i.toNat) w h t).1) = true := v5
      conv => whnf
      refine cond_intro (fun v6 => ?_) (fun v6 => ?_)
      · have v6 : (!(knw (gSt l i.toNat).2.2.2 k)) = true := v6
        have v6 : (knw (gSt l i.toNat).2.2.2 k) = false := by cases e : (knw (gSt l i.toNat).2.2.2 k) with | false => rfl | true => exact absurd v6 (by rw [e]; decide)
        have est := stay gv hi (hv _ hi) hz (Or.inr v6)
        conv => whnf
        refine ⟨i0, ?_⟩
        conv => whnf
        refine ⟨ilt, ?_⟩
        conv => whnf
        refine ⟨show (gSt (offR l w h t k n).1 i.toNat).2.2.1.length ≤ 100000 by have := vl.2.1; omega, ?_⟩
        conv => whnf
        refine cond_intro (fun v7 => ?_) (fun v7 => ?_)
        · have v7 : (!(eqPa (gSt (offR l w h t k n).1 i.toNat).2.2.1 (gSt l i.toNat).2.2.1)) = true := v7
          have v7 : (eqPa (gSt (offR l w h t k n).1 i.toNat).2.2.1 (gSt l i.toNat).2.2.1) = false := by cases e : (eqPa (gSt (offR l w h t k n).1 i.toNat).2.2.1 (gSt l i.toNat).2.2.1) with | false => rfl | true => exact absurd v7 (by rw [e]; decide)
          exact absurd v7 (by unfold eqPa; rw [est]; simp)
        have v7 : (!(eqPa (gSt (offR l w h t k n).1 i.toNat).2.2.1 (gSt l i.toNat).2.2.1)) = false := v7
        have v7 : (eqPa (gSt (offR l w h t k n).1 i.toNat).2.2.1 (gSt l i.toNat).2.2.1) = true := by cases e : (eqPa (gSt (offR l w h t k n).1 i.toNat).2.2.1 (gSt l i.toNat).2.2.1) with | true => rfl | false => exact absurd v7 (by rw [e]; decide)
        conv => whnf
        refine ⟨i + 1, ?_, ⟨by omega, by omega⟩, by omega⟩
        exact Eq.trans (b := S10a l w h t k (offR l w h t k n).1 (IntKind.i64.wrap (i + 1))) rfl (by rw [wi])
      have v6 : (!(knw (gSt l i.toNat).2.2.2 k)) = false := v6
      have v6 : (knw (gSt l i.toNat).2.2.2 k) = true := by cases e : (knw (gSt l i.toNat).2.2.2 k) with | true => rfl | false => exact absurd v6 (by rw [e]; decide)
      conv => whnf
      refine ⟨i + 1, ?_, ⟨by omega, by omega⟩, by omega⟩
      exact Eq.trans (b := S10a l w h t k (offR l w h t k n).1 (IntKind.i64.wrap (i + 1))) rfl (by rw [wi])
    have v5 : ((coversR (gSt l i.toNat) w h t).1) = false := v5
    have est := stay gv hi (hv _ hi) hz (Or.inl v5)
    conv => whnf
    refine ⟨i0, ?_⟩
    conv => whnf
    refine ⟨ilt, ?_⟩
    conv => whnf
    refine ⟨show (gSt (offR l w h t k n).1 i.toNat).2.2.1.length ≤ 100000 by have := vl.2.1; omega, ?_⟩
    conv => whnf
    refine cond_intro (fun v7 => ?_) (fun v7 => ?_)
    · have v7 : (!(eqPa (gSt (offR l w h t k n).1 i.toNat).2.2.1 (gSt l i.toNat).2.2.1)) = true := v7
      have v7 : (eqPa (gSt (offR l w h t k n).1 i.toNat).2.2.1 (gSt l i.toNat).2.2.1) = false := by cases e : (eqPa (gSt (offR l w h t k n).1 i.toNat).2.2.1 (gSt l i.toNat).2.2.1) with | false => rfl | true => exact absurd v7 (by rw [e]; decide)
      exact absurd v7 (by unfold eqPa; rw [est]; simp)
    have v7 : (!(eqPa (gSt (offR l w h t k n).1 i.toNat).2.2.1 (gSt l i.toNat).2.2.1)) = false := v7
    have v7 : (eqPa (gSt (offR l w h t k n).1 i.toNat).2.2.1 (gSt l i.toNat).2.2.1) = true := by cases e : (eqPa (gSt (offR l w h t k n).1 i.toNat).2.2.1 (gSt l i.toNat).2.2.1) with | true => rfl | false => exact absurd v7 (by rw [e]; decide)
    conv => whnf
    refine ⟨i + 1, ?_, ⟨by omega, by omega⟩, by omega⟩
    exact Eq.trans (b := S10a l w h t k (offR l w h t k n).1 (IntKind.i64.wrap (i + 1))) rfl (by rw [wi])
  have alt : ¬ (i < ((offR l w h t k n).1.length : Int)) := @of_decide_eq_false _ _ alt
  conv => whnf
  rfl
end
end Go.Proofs.Yteidanhfkaljaaa.Eng
