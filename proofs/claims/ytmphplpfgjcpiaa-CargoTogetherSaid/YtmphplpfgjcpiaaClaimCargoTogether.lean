/- The law CargoTogether: it answers true for every input, and its arguments read afterwards as they did. The row, out of the contract of the law's function (written by row.py, a program of these sessions). -/
import Derived.Test.YtmphplpfgjcpiaaFnOne
import Derived.Test.YtmphplpfgjcpiaaEngTwo
import Derived.Test.YtmphplpfgjcpiaaRows
import Derived.WalkKit
import Derived.ProofKit
import Derived.OpenShut
import Derived.ShutString
import Derived.ChangeOld
import Derived.Below
import Derived.SizedLaws
set_option linter.unusedVariables false
set_option linter.unusedSimpArgs false
set_option linter.unusedVariables false
set_option linter.unusedSimpArgs false
namespace Go.Proofs.Ytmphplpfgjcpiaa.Eng
open Go
set_option maxRecDepth 100000
noncomputable section
open Go.RowKit
theorem older_zero {l : List Pa} {d : Int} (h : (olderR l d).2 = 0) : cargoR l = 0 ∧ 0 ≤ d ∧ cargoR (N (l.map (ageP d))) = 0 ∧ olderR l d = (N (l.map (ageP d)), 0) := by
  unfold olderR at h ⊢
  by_cases h1 : cargoR l = 0
  · rw [if_neg (by simp [h1])] at h ⊢
    by_cases h2 : d < 0
    · rw [if_pos h2] at h; cases h
    · rw [if_neg h2] at h ⊢
      rw [gather_age] at h ⊢
      by_cases h3 : cargoR (N (l.map (ageP d))) = 0
      · rw [if_pos h3]; exact ⟨h1, by omega, h3, rfl⟩
      · rw [if_neg h3] at h; cases h
  · rw [if_pos h1] at h; exact absurd h h1
theorem older_len (l : List Pa) (d : Int) : (olderR l d).1.length ≤ 200 := by
  unfold olderR
  split
  · simp
  split
  · simp
  unfold gatherR
  split
  · rename_i h; exact ((cargo_zero _).1 h).1
  · simp
theorem sum_put : ∀ {m : List Pa} {p : Pa} {a b : Int}, a + b ≤ 1000000 → (∀ x ∈ m, Bnd a x) → Bnd b p → cntP (putW m p) = cntP m + p.2.2.2.2.1 ∧ shrP (putW m p) = shrP m + p.2.2.2.2.2
  | [], p, a, b, hl, hm, hp => by simp [putW, cntP, shrP]
  | y :: m, p, a, b, hl, hm, hp => by
    obtain ⟨_, e1, e2⟩ := bnd_add (hm y List.mem_cons_self) hp hl
    have ih := sum_put hl (fun x hx => hm x (List.mem_cons_of_mem _ hx)) hp
    unfold putW
    split
    · simp only [cntP, shrP, List.map_cons, List.sum_cons] at ih ⊢
      omega
    split
    · simp only [cntP, shrP, List.map_cons, List.sum_cons]
      omega
    · simp only [cntP, shrP, List.map_cons, List.sum_cons, e1, e2]
      omega
theorem sum_fold : ∀ {l m : List Pa} {a : Int}, 0 ≤ a → a + l.length ≤ 1000000 → (∀ x ∈ m, Bnd a x) → (∀ x ∈ l, okP x) → cntP (fold m l) = cntP m + cntP l ∧ shrP (fold m l) = shrP m + shrP l
  | [], m, a, ha, hl, hm, ho => by simp [fold_nil, cntP, shrP]
  | p :: l, m, a, ha, hl, hm, ho => by
    simp only [List.length_cons] at hl
    have h0 := bnd_ok (ho p List.mem_cons_self)
    have h1 := put_bnd ha (b := 1) (by omega) (by omega) hm h0
    have h2 := sum_fold (l := l) (a := a + 1) (by omega) (by omega) h1 (fun y hy => ho y (List.mem_cons_of_mem _ hy))
    have h3 := sum_put (by omega) hm h0
    rw [fold_cons, h2.1, h2.2, h3.1, h3.2]
    simp only [cntP, shrP, List.map_cons, List.sum_cons]
    omega
theorem sum_N {l : List Pa} (hl : l.length ≤ 1000000) (ho : ∀ x ∈ l, okP x) : cntP (N l) = cntP l ∧ shrP (N l) = shrP l := by
  have := sum_fold (l := l) (m := []) (a := 0) (by omega) (by omega) (by simp) ho
  simp only [cntP, shrP, List.map_nil, List.sum_nil, Int.zero_add] at this ⊢
  exact this
theorem sum_age (l : List Pa) (d : Int) : cntP (l.map (ageP d)) = cntP l ∧ shrP (l.map (ageP d)) = shrP l := by
  unfold cntP shrP
  rw [List.map_map, List.map_map]
  exact ⟨rfl, rfl⟩
theorem older_sum {l : List Pa} {d : Int} (h : (olderR l d).2 = 0) : cntP (olderR l d).1 = cntP l ∧ shrP (olderR l d).1 = shrP l := by
  obtain ⟨h1, h2, h3, h4⟩ := older_zero h
  have hv := (cargo_zero l).1 h1
  have := sum_N (l := l.map (ageP d)) (by rw [List.length_map]; omega) (fun p hp => by obtain ⟨q, hq, rfl⟩ := List.mem_map.1 hp; exact age_ok h2 (hv.2.2 q hq))
  rw [h4]
  show cntP (N (l.map (ageP d))) = _ ∧ shrP (N (l.map (ageP d))) = _
  rw [this.1, this.2]
  exact sum_age l d
theorem older_ok {l : List Pa} {d : Int} (h : (olderR l d).2 = 0) : (∀ p ∈ l, okP p) ∧ ∀ p ∈ (olderR l d).1, okP p := by
  obtain ⟨h1, h2, h3, h4⟩ := older_zero h
  refine ⟨((cargo_zero l).1 h1).2.2, ?_⟩
  rw [h4]
  exact ((cargo_zero _).1 h3).2.2
theorem age_hom (d : Int) : Hom (ageP d) := by
  refine ⟨fun x p h => rfl, fun x p h => ?_⟩
  obtain ⟨a, b, c, e⟩ := h
  refine ⟨a, b, c, ?_⟩
  show (if 255 - x.2.2.2.1 < d then 255 else x.2.2.2.1 + d) = (if 255 - p.2.2.2.1 < d then 255 else p.2.2.2.1 + d)
  rw [e]
theorem age_age {a b : Int} (ha : 0 ≤ a) (hb : 0 ≤ b) {p : Pa} (hp : okP p) : ageP b (ageP a p) = ageP (a + b) p := by
  rw [okP_iff] at hp
  have e : (if 255 - (if 255 - p.2.2.2.1 < a then 255 else p.2.2.2.1 + a) < b then 255 else (if 255 - p.2.2.2.1 < a then 255 else p.2.2.2.1 + a) + b) = if 255 - p.2.2.2.1 < a + b then 255 else p.2.2.2.1 + (a + b) := by
    split <;> split <;> split <;> omega
  exact congrArg (fun z => ((p.1, p.2.1, p.2.2.1, z, p.2.2.2.2.1, p.2.2.2.2.2) : Pa)) e
theorem older_add {l : List Pa} {a b : Int} (hb : 0 ≤ b) (h : (olderR l a).2 = 0) : olderR (olderR l a).1 b = olderR l (a + b) := by
  obtain ⟨h1, h2, h3, h4⟩ := older_zero h
  rw [h4]
  show olderR (N (l.map (ageP a))) b = _
  rw [olderR, if_neg (by simp [h3]), if_neg (by omega), olderR, if_neg (by simp [h1]), if_neg (by omega), gather_age, gather_age]
  have e : N ((N (l.map (ageP a))).map (ageP b)) = N (l.map (ageP (a + b))) := by
    rw [N_map (age_hom b), List.map_map]
    congr 1
    exact List.map_congr_left fun p hp => age_age h2 hb (((cargo_zero l).1 h1).2.2 p hp)
  rw [e]
def K11 : Fn1 := ⟨.fld (.sl paT) (.one I), .one .bool, fun _ => [], fun _ => true⟩
theorem k11 : FnOk Go.Proofs.Try.prog 11 K11 := by
  refine fn_ok (E := (⟨tab, [(19, K19), (35, K35), (36, K36), (30, K30), (32, K32), (31, K31)], ann0⟩ : Env)) (TOk.of tab_told) (AllOk.cons k19 (.cons k35 (.cons k36 (.cons k30 (.cons k32 (.cons k31 .nil)))))).at_ mix Go.Proofs.Try.func11 rfl rfl (by kernel_rfl) K11 ?_
  rintro ⟨(l : List Pa), (d : Int)⟩ hp
  clear hp
  conv => whnf
  refine cond_intro (fun h1 => ?_) (fun h1 => ?_)
  · have h1 : 1000 < (l.length : Int) := @of_decide_eq_true _ _ h1
    conv => whnf
    show true = true
    rfl
  have h1 : ¬ (1000 < (l.length : Int)) := @of_decide_eq_false _ _ h1
  have hl : l.length ≤ 100000 := by omega
  have hol := older_len l d
  conv => whnf
  refine ⟨hl, ?_⟩
  conv => whnf
  refine ⟨hl, ?_⟩
  conv => whnf
  refine cond_intro (fun h2 => ?_) (fun h2 => ?_)
  · have h2 : (olderR l d).2 = (olderR l d).2 := @of_decide_eq_true _ _ h2
    conv => whnf
    refine ⟨show (olderR l d).1.length ≤ 100000 by omega, ?_⟩
    conv => whnf
    refine cond_intro (fun h3 => ?_) (fun h3 => ?_)
    · have h3 : (eqPa (olderR l d).1 (olderR l d).1) = true := h3
      conv => whnf
      refine cond_intro (fun h4 => ?_) (fun h4 => ?_)
      · have h4 : (!decide ((olderR l d).2 = 0)) = true := h4
        have h4 : ¬ ((olderR l d).2 = 0) := by simpa using h4
        conv => whnf
        show true = true
        rfl
      have h4 : (!decide ((olderR l d).2 = 0)) = false := h4
      have h4 : (olderR l d).2 = 0 := by simpa using h4
      have hk := older_ok h4
      have hs := older_sum h4
      conv => whnf
      refine ⟨show (olderR l d).1.length ≤ 1000 by omega, ?_⟩
      conv => whnf
      refine ⟨hk.2, ?_⟩
      conv => whnf
      refine ⟨show l.length ≤ 1000 by omega, ?_⟩
      conv => whnf
      refine ⟨hk.1, ?_⟩
      conv => whnf
      refine cond_intro (fun h5 => ?_) (fun h5 => ?_)
      · have h5 : cntP (olderR l d).1 = cntP l := @of_decide_eq_true _ _ h5
        conv => whnf
        refine ⟨show (olderR l d).1.length ≤ 1000 by omega, ?_⟩
        conv => whnf
        refine ⟨hk.2, ?_⟩
        conv => whnf
        refine ⟨show l.length ≤ 1000 by omega, ?_⟩
        conv => whnf
        refine ⟨hk.1, ?_⟩
        conv => whnf
        refine cond_intro (fun h6 => ?_) (fun h6 => ?_)
        · have h6 : shrP (olderR l d).1 = shrP l := @of_decide_eq_true _ _ h6
          conv => whnf
          show true = true
          rfl
        have h6 : ¬ (shrP (olderR l d).1 = shrP l) := @of_decide_eq_false _ _ h6
        exact absurd hs.2 h6
      have h5 : ¬ (cntP (olderR l d).1 = cntP l) := @of_decide_eq_false _ _ h5
      exact absurd hs.1 h5
    have h3 : (eqPa (olderR l d).1 (olderR l d).1) = false := h3
    simp [eqPa] at h3
  have h2 : ¬ ((olderR l d).2 = (olderR l d).2) := @of_decide_eq_false _ _ h2
  exact absurd rfl h2
def K12 : Fn1 := ⟨.fld (.sl paT) (.fld (.int .u8) (.one (.int .u8))), .one .bool, fun (a : List Pa × Int × Int) => [0 ≤ a.2.1 ∧ a.2.1 ≤ 255, 0 ≤ a.2.2 ∧ a.2.2 ≤ 255], fun _ => true⟩
theorem k12 : FnOk Go.Proofs.Try.prog 12 K12 := by
  refine fn_ok (E := (⟨tab, [(19, K19), (36, K36), (30, K30)], ann0⟩ : Env)) (TOk.of tab_told) (AllOk.cons k19 (.cons k36 (.cons k30 .nil))).at_ mix Go.Proofs.Try.func12 rfl rfl (by kernel_rfl) K12 ?_
  rintro ⟨(l : List Pa), (a : Int), (b : Int)⟩ hp
  have ha : 0 ≤ a ∧ a ≤ 255 := hp _ (List.mem_cons_self ..)
  have hb : 0 ≤ b ∧ b ≤ 255 := hp _ (List.mem_cons_of_mem _ (List.mem_cons_self ..))
  clear hp
  have ea : IntKind.i64.wrap a = a := wrap_eq (by omega) (by omega)
  have eb : IntKind.i64.wrap b = b := wrap_eq (by omega) (by omega)
  have es : (IntKind.i64.wrap (IntKind.i64.wrap a + IntKind.i64.wrap b)) = a + b := by rw [ea, eb]; exact wrap_eq (by omega) (by omega)
  conv => whnf
  refine cond_intro (fun h1 => ?_) (fun h1 => ?_)
  · have h1 : 1000 < (l.length : Int) := @of_decide_eq_true _ _ h1
    conv => whnf
    show true = true
    rfl
  have h1 : ¬ (1000 < (l.length : Int)) := @of_decide_eq_false _ _ h1
  have hl : l.length ≤ 100000 := by omega
  have hol := older_len l (IntKind.i64.wrap a)
  conv => whnf
  refine ⟨hl, ?_⟩
  conv => whnf
  refine cond_intro (fun h2 => ?_) (fun h2 => ?_)
  · have h2 : (!decide ((olderR l (IntKind.i64.wrap a)).2 = 0)) = true := h2
    have h2 : ¬ ((olderR l (IntKind.i64.wrap a)).2 = 0) := by simpa using h2
    conv => whnf
    show true = true
    rfl
  have h2 : (!decide ((olderR l (IntKind.i64.wrap a)).2 = 0)) = false := h2
  have h2 : (olderR l (IntKind.i64.wrap a)).2 = 0 := by simpa using h2
  have hadd : (olderR (olderR l (IntKind.i64.wrap a)).1 (IntKind.i64.wrap b)) = (olderR l (IntKind.i64.wrap (IntKind.i64.wrap a + IntKind.i64.wrap b))) := by rw [es, eb]; rw [ea] at h2 ⊢; exact older_add hb.1 h2
  have hoy := older_len (olderR l (IntKind.i64.wrap a)).1 (IntKind.i64.wrap b)
  conv => whnf
  refine ⟨show (olderR l (IntKind.i64.wrap a)).1.length ≤ 100000 by omega, ?_⟩
  conv => whnf
  refine ⟨hl, ?_⟩
  conv => whnf
  refine cond_intro (fun h3 => ?_) (fun h3 => ?_)
  · have h3 : (olderR (olderR l (IntKind.i64.wrap a)).1 (IntKind.i64.wrap b)).2 = (olderR l (IntKind.i64.wrap (IntKind.i64.wrap a + IntKind.i64.wrap b))).2 := @of_decide_eq_true _ _ h3
    conv => whnf
    refine ⟨show (olderR (olderR l (IntKind.i64.wrap a)).1 (IntKind.i64.wrap b)).1.length ≤ 100000 by omega, ?_⟩
    conv => whnf
    refine cond_intro (fun h4 => ?_) (fun h4 => ?_)
    · have h4 : (eqPa (olderR (olderR l (IntKind.i64.wrap a)).1 (IntKind.i64.wrap b)).1 (olderR l (IntKind.i64.wrap (IntKind.i64.wrap a + IntKind.i64.wrap b))).1) = true := h4
      conv => whnf
      show true = true
      rfl
    have h4 : (eqPa (olderR (olderR l (IntKind.i64.wrap a)).1 (IntKind.i64.wrap b)).1 (olderR l (IntKind.i64.wrap (IntKind.i64.wrap a + IntKind.i64.wrap b))).1) = false := h4
    rw [hadd] at h4
    simp [eqPa] at h4
  have h3 : ¬ ((olderR (olderR l (IntKind.i64.wrap a)).1 (IntKind.i64.wrap b)).2 = (olderR l (IntKind.i64.wrap (IntKind.i64.wrap a + IntKind.i64.wrap b))).2) := @of_decide_eq_false _ _ h3
  exact absurd (congrArg Prod.snd hadd) h3
end
end Go.Proofs.Ytmphplpfgjcpiaa.Eng
set_option linter.unusedVariables false
set_option linter.unusedSimpArgs false
namespace Go.Proofs
open Go.Shelf Go.RowKit Go.Lib Go.Sort
shelf_lay_g Lays8.n4 Nm8 4 at Try 74 as Try.growPa
end Go.Proofs
namespace Go.Proofs.Ytmphplpfgjcpiaa.Eng
open Go Go.RowKit
set_option maxRecDepth 100000
noncomputable section
def X74 : List AV → Nat → Rd Res := growX paT
theorem k74 : FxOk Go.Proofs.Try.prog 74 X74 := by
  have q1 : (E0.ti 44).kind = 3 := by kernel_rfl
  have q2 : (E0.ti 44).zero = [.int .i64 0, .int .i64 0, .int .i64 0, .int .i64 0, .int .i64 0, .int .i64 0] := by kernel_rfl
  obtain ⟨f, zv, g1, g2, g3, g4, g5⟩ := (TOk.of tab_told : TOk Go.Proofs.Try.prog E0).zero (t := 44) (by rw [q1]; decide) (by rw [q2]; simp)
  have e1 : (E0.ti 44).size = 6 := by kernel_rfl
  have e2 : (E0.ti 44).bytes = 48 := by kernel_rfl
  rw [q2] at g5
  have e3 := congrArg List.length g5
  simp only [List.length_map, Array.length_toList, List.length_cons, List.length_nil] at e3
  exact grow_ok Go.Proofs.Try.growPa paT g1 g4 (by rw [g2, e1]; rfl) (by rw [← e3]; rfl) (by rw [g3, e2]; decide) ⟨_, _, Go.Proofs.Try.func74, rfl, rfl⟩

def E64 : Env := ⟨tab, [], fun n => match n with | 3 => some ([3, 6, 7, 8], [], []) | _ => none⟩
def K64 : Fn1 := ⟨.one (.sl I), .one I, fun (l : List Int) => [l.length ≤ 100000], fun (l : List Int) => (l.find? (fun n => decide (n ≠ 0))).getD 0⟩
def S64 (l : List Int) (i : Int) : SL := ⟨[.undef, .undef, .undef, .int .i64 0, .undef, .undef, .sl I l, .int .i64 l.length, .int .i64 i] ++ List.replicate 9 .undef, [], 0⟩
theorem k64 : FnOk Go.Proofs.Try.prog 64 K64 := by
  refine fn_ok (E := E64) (TOk.of tab_told) noK mix Go.Proofs.Try.func64 rfl rfl (by kernel_rfl) K64 ?_
  rintro (l : List Int) hp
  have hl : l.length ≤ 100000 := hp _ (List.mem_cons_self ..)
  clear hp
  conv => whnf
  refine loop_rule (S64 l) (fun i => ((l.length : Int) - i).toNat) (fun i => 0 ≤ i ∧ i ≤ l.length ∧ ∀ n ∈ l.take i.toNat, n = 0) ?_ 0 (by kernel_rfl) ?_ ⟨by omega, by omega, by simp⟩
  case refine_2 => rfl
  rintro i ⟨h0, h1, h2⟩
  conv => whnf
  have hsp : l = l.take i.toNat ++ l.drop i.toNat := (List.take_append_drop _ _).symm
  have hnone : (l.take i.toNat).find? (fun n => decide (n ≠ 0)) = none := by simpa using h2
  refine cond_intro (fun hlt => ?_) (fun hge => ?_)
  · have hlt : i < l.length := @of_decide_eq_true _ _ hlt
    have e : gI l i.toNat = l[i.toNat]'(by omega) := gI_eq _
    have hd : l.drop i.toNat = gI l i.toNat :: l.drop (i.toNat + 1) := by rw [List.drop_eq_getElem_cons (by omega), e]
    have ht : l.take (i.toNat + 1) = l.take i.toNat ++ [gI l i.toNat] := by rw [List.take_succ_eq_append_getElem (by omega), e]
    conv => whnf
    refine ⟨h0, ?_⟩
    conv => whnf
    refine ⟨hlt, ?_⟩
    conv => whnf
    refine cond_intro (fun hz => ?_) (fun hz => ?_)
    · have hz : gI l i.toNat ≠ 0 := by
        have hz : (!decide (gI l i.toNat = 0)) = true := hz
        simpa using hz
      conv => whnf
      show gI l i.toNat = (l.find? (fun n => decide (n ≠ 0))).getD 0
      rw [hsp, List.find?_append, hnone, ← hsp, hd]
      simp [hz]
    · have hz : gI l i.toNat = 0 := by
        have hz : (!decide (gI l i.toNat = 0)) = false := hz
        simpa using hz
      conv => whnf
      have hw : IntKind.i64.wrap (i + 1) = i + 1 := wrap_eq (by omega) (by omega)
      refine ⟨i + 1, ?_, ⟨by omega, by omega, ?_⟩, by omega⟩
      · exact Eq.trans (b := S64 l (IntKind.i64.wrap (i + 1))) rfl (by rw [hw])
      · rw [show (i + 1).toNat = i.toNat + 1 by omega, ht]
        intro n hn
        rcases List.mem_append.1 hn with hn | hn
        · exact h2 n hn
        · cases List.mem_singleton.1 hn
          exact hz
  · have hge : ¬ i < l.length := @of_decide_eq_false _ _ hge
    conv => whnf
    show 0 = (l.find? (fun n => decide (n ≠ 0))).getD 0
    rw [show l.take i.toNat = l from List.take_of_length_le (by omega)] at hnone
    rw [hnone]; rfl

def lenS (ll : List (List Pa)) : Int := (ll.map fun l => (l.length : Int)).sum
def S65a (ll : List (List Pa)) (i : Int) : SL := ⟨[.sl (.sl paT) ll, .undef, .undef, .int .i64 (lenS (ll.take i.toNat))] ++ List.replicate 5 .undef ++ [.sl (.sl paT) ll, .int .i64 ll.length, .int .i64 i] ++ List.replicate 24 .undef, [], 0⟩
def S65b (ll : List (List Pa)) (i : Int) : SL := ⟨List.replicate 6 .undef ++ [.own 0] ++ List.replicate 18 .undef ++ [.sl (.sl paT) ll, .int .i64 ll.length, .int .i64 i] ++ List.replicate 8 .undef, [(0, .arr paT (ll.take i.toNat).flatten)], 1⟩
def gL (ll : List (List Pa)) (n : Nat) : List Pa := ll.getD n []
theorem gL_eq {ll : List (List Pa)} {n : Nat} (h : n < ll.length) : gL ll n = ll[n] := by simp [gL, h]
theorem lenS_take {ll : List (List Pa)} {i : Nat} (hi : i < ll.length) : lenS (ll.take (i + 1)) = lenS (ll.take i) + (gL ll i).length := by
  unfold lenS
  rw [List.take_succ_eq_append_getElem hi, List.map_append, List.sum_append, gL_eq hi]
  simp
theorem lenS_bnd : ∀ {ll : List (List Pa)}, (∀ l ∈ ll, l.length ≤ 100000) → 0 ≤ lenS ll ∧ lenS ll ≤ ll.length * 100000
  | [], h => by simp [lenS]
  | l :: ll, h => by
    have h1 := lenS_bnd (ll := ll) fun q hq => h q (List.mem_cons_of_mem _ hq)
    have h2 := h l List.mem_cons_self
    have e : lenS (l :: ll) = (l.length : Int) + lenS ll := by simp [lenS]
    rw [e, List.length_cons]
    omega
theorem lenS_flat (ll : List (List Pa)) : (ll.flatten.length : Int) = lenS ll := by
  induction ll with
  | nil => rfl
  | cons l ll ih =>
    have e : lenS (l :: ll) = (l.length : Int) + lenS ll := by simp [lenS]
    rw [e, List.flatten_cons, List.length_append, ← ih]; simp
theorem flat_take {ll : List (List Pa)} {i : Nat} (hi : i < ll.length) : (ll.take (i + 1)).flatten = (ll.take i).flatten ++ gL ll i := by
  rw [List.take_succ_eq_append_getElem hi, List.flatten_append, gL_eq hi]
  simp
def E65 : Env := ⟨tab, [(74, .eff X74)], fun n => match n with | 3 => some ([0, 3, 9, 10, 11], [], []) | 11 => some ([6, 25, 26, 27], [], []) | _ => none⟩
def K65 : Fn1 := ⟨.one (.sl (.sl paT)), .one (.sl paT), fun (ll : List (List Pa)) => [ll.length ≤ 100, ∀ l ∈ ll, l.length ≤ 100000], fun (ll : List (List Pa)) => ll.flatten⟩
theorem k65 : FnOk Go.Proofs.Try.prog 65 K65 := by
  refine fn_ok (E := E65) (TOk.of tab_told) (AllOk.consX k74 .nil).at_ mix Go.Proofs.Try.func65 rfl rfl (by kernel_rfl) K65 ?_
  rintro (ll : List (List Pa)) hp
  have hl : ll.length ≤ 100 := hp _ (List.mem_cons_self ..)
  have hb : ∀ l ∈ ll, l.length ≤ 100000 := hp _ (List.mem_cons_of_mem _ (List.mem_cons_self ..))
  clear hp
  conv => whnf
  refine loop_rule (S65a ll) (fun i => ((ll.length : Int) - i).toNat) (fun i => 0 ≤ i ∧ i ≤ ll.length) ?_ 0 (by kernel_rfl) ?_ ⟨by omega, by omega⟩
  case refine_2 => rfl
  rintro i ⟨h0, h1⟩
  conv => whnf
  refine cond_intro (fun hlt => ?_) (fun hlt => ?_)
  · have hlt : i < (ll.length : Int) := @of_decide_eq_true _ _ hlt
    have hw : IntKind.i64.wrap (i + 1) = i + 1 := wrap_eq (by omega) (by omega)
    have ei : (i + 1).toNat = i.toNat + 1 := by omega
    have hgl : (gL ll i.toNat).length ≤ 100000 := by rw [gL_eq (show i.toNat < ll.length by omega)]; exact hb _ (List.getElem_mem _)
    have hbt := lenS_bnd (ll := ll.take i.toNat) fun p hp => hb p (List.mem_of_mem_take hp)
    rw [List.length_take] at hbt
    have hs : (IntKind.i64.wrap (lenS (ll.take i.toNat) + (gL ll i.toNat).length)) = lenS (ll.take (i + 1).toNat) := by rw [ei, lenS_take (by omega)]; exact wrap_eq (by omega) (by omega)
    have hs0 : lenS (ll.take (i + 1).toNat) = lenS (ll.take i.toNat) + (gL ll i.toNat).length := by rw [ei, lenS_take (by omega)]
    conv => whnf
    refine ⟨h0, ?_⟩
    conv => whnf
    refine ⟨hlt, ?_⟩
    conv => whnf
    refine cond_intro (fun hneg => ?_) (fun hneg => ?_)
    · have hneg : (IntKind.i64.wrap (lenS (ll.take i.toNat) + (gL ll i.toNat).length)) < 0 := @of_decide_eq_true _ _ hneg
      omega
    have hneg : ¬ ((IntKind.i64.wrap (lenS (ll.take i.toNat) + (gL ll i.toNat).length)) < 0) := @of_decide_eq_false _ _ hneg
    conv => whnf
    refine ⟨i + 1, ?_, ⟨by omega, by omega⟩, by omega⟩
    exact Eq.trans (b := ⟨[.sl (.sl paT) ll, .undef, .undef, .int .i64 (IntKind.i64.wrap (lenS (ll.take i.toNat) + (gL ll i.toNat).length))] ++ List.replicate 5 .undef ++ [.sl (.sl paT) ll, .int .i64 ll.length, .int .i64 (IntKind.i64.wrap (i + 1))] ++ List.replicate 24 .undef, [], 0⟩) rfl (by unfold S65a; rw [hw, hs])
  have hlt : ¬ (i < (ll.length : Int)) := @of_decide_eq_false _ _ hlt
  rw [List.take_of_length_le (by omega)]
  have hbl := lenS_bnd hb
  conv => whnf
  refine ⟨show 0 ≤ lenS ll by omega, ?_⟩
  conv => whnf
  refine ⟨show lenS ll ≤ 70368744 by omega, ?_⟩
  conv => whnf
  refine loop_rule (S65b ll) (fun i => ((ll.length : Int) - i).toNat) (fun i => 0 ≤ i ∧ i ≤ ll.length) ?_ 0 (by kernel_rfl) ?_ ⟨by omega, by omega⟩
  case refine_2 => rfl
  rintro i ⟨h0, h1⟩
  conv => whnf
  refine cond_intro (fun hlt => ?_) (fun hlt => ?_)
  · have hlt : i < (ll.length : Int) := @of_decide_eq_true _ _ hlt
    have hw : IntKind.i64.wrap (i + 1) = i + 1 := wrap_eq (by omega) (by omega)
    have ei : (i + 1).toNat = i.toNat + 1 := by omega
    have hgl : (gL ll i.toNat).length ≤ 100000 := by rw [gL_eq (show i.toNat < ll.length by omega)]; exact hb _ (List.getElem_mem _)
    have hbt := lenS_bnd (ll := ll.take i.toNat) fun p hp => hb p (List.mem_of_mem_take hp)
    rw [List.length_take] at hbt
    have hf := lenS_flat (ll.take i.toNat)
    conv => whnf
    refine ⟨h0, ?_⟩
    conv => whnf
    refine ⟨hlt, ?_⟩
    conv => whnf
    refine ⟨show ((ll.take i.toNat).flatten.length + (gL ll i.toNat).length) * 48 ≤ 70368744177664 by omega, ?_⟩
    conv => whnf
    refine ⟨show (ll.take i.toNat).flatten.length + (gL ll i.toNat).length ≤ 70368744177664 by omega, ?_⟩
    conv => whnf
    refine ⟨i + 1, ?_, ⟨by omega, by omega⟩, by omega⟩
    exact Eq.trans (b := ⟨List.replicate 6 .undef ++ [.own 0] ++ List.replicate 18 .undef ++ [.sl (.sl paT) ll, .int .i64 ll.length, .int .i64 (IntKind.i64.wrap (i + 1))] ++ List.replicate 8 .undef, [(0, .arr paT ((ll.take i.toNat).flatten ++ gL ll i.toNat))], 1⟩) rfl (by unfold S65b; rw [hw, ei, flat_take (by omega)])
  have hlt : ¬ (i < (ll.length : Int)) := @of_decide_eq_false _ _ hlt
  rw [List.take_of_length_le (by omega)]
  conv => whnf
  show ll.flatten = ll.flatten
  rfl
def K38 : Fn1 := ⟨.fld (.sl paT) (.one (.sl paT)), .fld (.sl paT) (.one I), fun (a : List Pa × List Pa) => [a.1.length ≤ 100000, a.2.length ≤ 100000], fun (a : List Pa × List Pa) => joinR a.1 a.2⟩
theorem k38 : FnOk Go.Proofs.Try.prog 38 K38 := by
  refine fn_ok (E := (⟨tab, [(21, K21), (64, K64), (65, K65), (62, K62)], ann0⟩ : Env)) (TOk.of tab_told) (AllOk.cons k21 (.cons k64 (.cons k65 (.cons k62 .nil)))).at_ mix Go.Proofs.Try.func38 rfl rfl (by kernel_rfl) K38 ?_
  rintro ⟨(a : List Pa), (b : List Pa)⟩ hp
  have ha : a.length ≤ 100000 := hp _ (List.mem_cons_self ..)
  have hb : b.length ≤ 100000 := hp _ (List.mem_cons_of_mem _ (List.mem_cons_self ..))
  clear hp
  have hor : (([cargoR a, cargoR b].find? (fun n => decide (n ≠ 0))).getD 0) = if cargoR a ≠ 0 then cargoR a else cargoR b := by
    by_cases h1 : cargoR a = 0 <;> by_cases h2 : cargoR b = 0 <;> simp [h1, h2]
  conv => whnf
  refine ⟨ha, ?_⟩
  conv => whnf
  refine ⟨hb, ?_⟩
  conv => whnf
  refine ⟨show 2 ≤ 100000 by omega, ?_⟩
  conv => whnf
  refine cond_intro (fun h1 => ?_) (fun h1 => ?_)
  · have h1 : (!decide ((([cargoR a, cargoR b].find? (fun n => decide (n ≠ 0))).getD 0) = 0)) = true := h1
    have h1 : ¬ ((([cargoR a, cargoR b].find? (fun n => decide (n ≠ 0))).getD 0) = 0) := by simpa using h1
    rw [hor] at h1
    conv => whnf
    show (([], (([cargoR a, cargoR b].find? (fun n => decide (n ≠ 0))).getD 0)) : List Pa × Int) = joinR a b
    rw [hor]
    unfold joinR
    by_cases g1 : cargoR a = 0
    · rw [if_neg (by simp [g1])] at h1 ⊢
      rw [if_neg (by simp [g1]), if_pos h1]
    · rw [if_pos g1, if_pos g1]
  have h1 : (!decide ((([cargoR a, cargoR b].find? (fun n => decide (n ≠ 0))).getD 0) = 0)) = false := h1
  have h1 : (([cargoR a, cargoR b].find? (fun n => decide (n ≠ 0))).getD 0) = 0 := by simpa using h1
  rw [hor] at h1
  have g1 : cargoR a = 0 := by
    by_cases g1 : cargoR a = 0
    · exact g1
    · rw [if_pos g1] at h1; exact h1
  have g2 : cargoR b = 0 := by
    rw [if_neg (by simp [g1])] at h1; exact h1
  have v1 := (cargo_zero a).1 g1
  have v2 := (cargo_zero b).1 g2
  have p1 : ∀ l ∈ [a, b], l.length ≤ 100000 := by
    intro l hl
    rcases List.mem_cons.1 hl with rfl | hl
    · exact ha
    · cases List.mem_singleton.1 hl; exact hb
  have ef : [a, b].flatten = a ++ b := by simp
  have p2 : [a, b].flatten.length ≤ 1000 := by rw [ef, List.length_append]; omega
  have p3 : ∀ p ∈ [a, b].flatten, okP p := by
    rw [ef]
    intro p hp
    rcases List.mem_append.1 hp with hp | hp
    · exact v1.2.2 p hp
    · exact v2.2.2 p hp
  conv => whnf
  refine ⟨show 2 ≤ 100 by omega, ?_⟩
  conv => whnf
  refine ⟨p1, ?_⟩
  conv => whnf
  refine ⟨p2, ?_⟩
  conv => whnf
  refine ⟨p3, ?_⟩
  conv => whnf
  show gatherR [a, b].flatten = joinR a b
  rw [joinR, if_neg (by simp [g1]), if_neg (by simp [g2]), ef]
end
end Go.Proofs.Ytmphplpfgjcpiaa.Eng
set_option linter.unusedVariables false
set_option linter.unusedSimpArgs false
namespace Go.Proofs.Ytmphplpfgjcpiaa.Eng
open Go
set_option maxRecDepth 100000
noncomputable section
open Go.RowKit
theorem join_of {a b : List Pa} (h : cargoR a = 0) (g : cargoR b = 0) : joinR a b = gatherR (a ++ b) := by rw [joinR, if_neg (by simp [h]), if_neg (by simp [g])]
theorem gather_zero {l : List Pa} (h : (gatherR l).2 = 0) : cargoR (N l) = 0 ∧ gatherR l = (N l, 0) := by
  unfold gatherR at h ⊢
  by_cases h1 : cargoR (N l) = 0
  · rw [if_pos h1]; exact ⟨h1, rfl⟩
  · rw [if_neg h1] at h; cases h
theorem join_zero {a b : List Pa} (h : (joinR a b).2 = 0) : cargoR a = 0 ∧ cargoR b = 0 ∧ cargoR (N (a ++ b)) = 0 ∧ joinR a b = (N (a ++ b), 0) := by
  by_cases h1 : cargoR a = 0
  · by_cases h2 : cargoR b = 0
    · rw [join_of h1 h2] at h ⊢
      obtain ⟨h3, h4⟩ := gather_zero h
      exact ⟨h1, h2, h3, h4⟩
    · rw [joinR, if_neg (by simp [h1]), if_pos h2] at h; exact absurd h h2
  · rw [joinR, if_pos h1] at h; exact absurd h h1
theorem join_len (a b : List Pa) : (joinR a b).1.length ≤ 200 := by
  unfold joinR
  split
  · simp
  split
  · simp
  unfold gatherR
  split
  · rename_i h; exact ((cargo_zero _).1 h).1
  · simp
theorem gather_perm {a b : List Pa} (h : a.Perm b) : gatherR a = gatherR b := by unfold gatherR; rw [N_perm h]
theorem join_sym {a b : List Pa} (h : (joinR a b).2 = 0) : joinR b a = joinR a b := by
  obtain ⟨h1, h2, _, _⟩ := join_zero h
  rw [join_of h1 h2, join_of h2 h1, gather_perm List.perm_append_comm]
theorem join_sym0 (a b : List Pa) : decide ((joinR a b).2 = 0) = decide ((joinR b a).2 = 0) := by
  rw [decide_eq_decide]
  constructor
  · intro h; rw [join_sym h]; exact h
  · intro h; rw [join_sym h]; exact h
/-- All but too much of a kind. -/
def Low (p : Pa) : Prop := 1 ≤ p.2.2.2.2.1 ∧ (0 ≤ p.2.2.2.1 ∧ p.2.2.2.1 ≤ 255) ∧ 0 ≤ p.2.2.2.2.2 ∧ (0 ≤ p.1 ∧ p.1 ≤ 1000000) ∧ (0 ≤ p.2.1 ∧ p.2.1 ≤ 1000000) ∧ (0 ≤ p.2.2.1 ∧ p.2.2.1 ≤ 1000000)
theorem low_ok {p : Pa} (h : okP p) : Low p := by rw [okP_iff] at h; unfold Low; omega
theorem ok_low {p : Pa} (h : Low p) (g : ¬ Big p) : okP p := by rw [okP_iff]; unfold Low at h; unfold Big at g; omega
theorem put_low : ∀ {m : List Pa} {p : Pa} {a b : Int}, a + b ≤ 1000000 → (∀ x ∈ m, Bnd a x ∧ Low x) → Bnd b p → Low p → ∀ x ∈ putW m p, Low x
  | [], p, a, b, hl, hm, hp, hq, x, hx => by cases List.mem_singleton.1 hx; exact hq
  | y :: m, p, a, b, hl, hm, hp, hq, x, hx => by
    have hy := hm y List.mem_cons_self
    have hm' : ∀ x ∈ m, Bnd a x ∧ Low x := fun x hx => hm x (List.mem_cons_of_mem _ hx)
    unfold putW at hx
    split at hx
    · rcases List.mem_cons.1 hx with rfl | hx
      · exact hy.2
      · exact put_low hl hm' hp hq x hx
    split at hx
    · rcases List.mem_cons.1 hx with rfl | hx
      · exact hq
      rcases List.mem_cons.1 hx with rfl | hx
      · exact hy.2
      · exact (hm' x hx).2
    · rcases List.mem_cons.1 hx with rfl | hx
      · obtain ⟨_, e1, e2⟩ := bnd_add hy.1 hp hl
        have h1 := hy.2
        unfold Low at h1 hq ⊢
        rw [e1, e2]
        refine ⟨by omega, h1.2.1, by omega, h1.2.2.2⟩
      · exact (hm' x hx).2
theorem put_srt : ∀ {m : List Pa} {p : Pa}, Srt m → Srt (putW m p) ∧ ∀ y, ltP y p = true → (∀ x ∈ m, ltP y x = true) → ∀ x ∈ putW m p, ltP y x = true
  | [], p, h => ⟨List.pairwise_singleton _ _, fun y hy _ x hx => by cases List.mem_singleton.1 hx; exact hy⟩
  | z :: m, p, h => by
    have hz := (List.pairwise_cons.1 h).1
    have ih := put_srt (p := p) (List.pairwise_cons.1 h).2
    rcases tri z p with ⟨h1, g1⟩ | ⟨h1, g1⟩ | ⟨h1, g1, e1⟩
    · simp only [putW, h1, if_true]
      refine ⟨List.pairwise_cons.2 ⟨ih.2 z h1 hz, ih.1⟩, fun y hy hm x hx => ?_⟩
      rcases List.mem_cons.1 hx with rfl | hx
      · exact hm _ List.mem_cons_self
      · exact ih.2 y hy (fun x hx => hm x (List.mem_cons_of_mem _ hx)) x hx
    · simp only [putW, h1, g1, if_true, Bool.false_eq_true, if_false]
      refine ⟨List.pairwise_cons.2 ⟨fun x hx => ?_, h⟩, fun y hy hm x hx => ?_⟩
      · rcases List.mem_cons.1 hx with rfl | hx
        · exact g1
        · exact lt_trans' g1 (hz x hx)
      · rcases List.mem_cons.1 hx with rfl | hx
        · exact hy
        · exact hm x hx
    · simp only [putW, h1, g1, Bool.false_eq_true, if_false]
      refine ⟨List.pairwise_cons.2 ⟨fun x hx => hz x hx, (List.pairwise_cons.1 h).2⟩, fun y hy hm x hx => ?_⟩
      rcases List.mem_cons.1 hx with rfl | hx
      · exact hm z List.mem_cons_self
      · exact hm x (List.mem_cons_of_mem _ hx)
theorem put_ge : ∀ (m : List Pa) (p : Pa), m.length ≤ (putW m p).length
  | [], p => by simp
  | x :: m, p => by
    unfold putW
    split
    · have := put_ge m p; simp; omega
    split <;> simp
theorem fold_ge : ∀ (l m : List Pa), m.length ≤ (fold m l).length
  | [], m => Nat.le_refl _
  | p :: l, m => Nat.le_trans (put_ge m p) (fold_ge l (putW m p))
theorem fold_srt2 : ∀ (l : List Pa) {m : List Pa}, Srt m → Srt (fold m l)
  | [], m, h => h
  | p :: l, m, h => fold_srt2 l (put_srt h).1
theorem N_is_srt (l : List Pa) : Srt (N l) := fold_srt2 l List.Pairwise.nil
theorem fold_low : ∀ {l m : List Pa} {a : Int}, 0 ≤ a → a + l.length ≤ 1000000 → (∀ x ∈ m, Bnd a x ∧ Low x) → (∀ x ∈ l, okP x) → ∀ x ∈ fold m l, Low x
  | [], m, a, ha, hl, hm, ho, x, hx => (hm x hx).2
  | p :: l, m, a, ha, hl, hm, ho, x, hx => by
    simp only [List.length_cons] at hl
    have h0 := ho p List.mem_cons_self
    have h1 := put_bnd ha (b := 1) (by omega) (by omega) (fun x hx => (hm x hx).1) (bnd_ok h0)
    have h2 := put_low (by omega) hm (bnd_ok h0) (low_ok h0)
    exact fold_low (a := a + 1) (l := l) (by omega) (by omega) (fun x hx => ⟨h1 x hx, h2 x hx⟩) (fun y hy => ho y (List.mem_cons_of_mem _ hy)) x hx
/-- A part of a load that is right is right. -/
theorem N_sub {k l : List Pa} (hk : k.length ≤ 1000) (hl : l.length ≤ 1000) (ok : ∀ x ∈ k, okP x) (ol : ∀ x ∈ l, okP x) (h : cargoR (N (k ++ l)) = 0) : cargoR (N k) = 0 := by
  have hb : ∀ x ∈ N k, Bnd 1000 x := fun x hx => by
    have := fold_bnd (l := k) (m := []) (a := 0) (by omega) (by omega) (by simp) ok x hx
    exact bnd_mono this (by omega)
  have hw : ∀ x ∈ N k, Low x := fold_low (l := k) (m := []) (a := 0) (by omega) (by omega) (by simp) ok
  rw [N_append] at h
  have h0 := (cargo_zero _).1 h
  rw [cargo_zero]
  refine ⟨Nat.le_trans (fold_ge l (N k)) h0.1, N_is_srt k, fun p hp => ok_low (hw p hp) fun hbig => ?_⟩
  have := big_fold (l := l) (m := N k) (a := 1000) (by omega) (by omega) hb ol ⟨p, hp, hbig⟩
  exact big_bad this h
theorem join_three {a b c : List Pa} (hab : (joinR a b).2 = 0) (hx : (joinR (joinR a b).1 c).2 = 0) : (joinR b c).2 = 0 ∧ (joinR a (joinR b c).1).2 = 0 ∧ joinR (joinR a b).1 c = joinR a (joinR b c).1
    ∧ cntP (joinR (joinR a b).1 c).1 = cntP a + cntP b + cntP c := by
  obtain ⟨a1, a2, a3, a4⟩ := join_zero hab
  rw [a4] at hx ⊢
  have hx : (joinR (N (a ++ b)) c).2 = 0 := hx
  obtain ⟨x1, x2, x3, x4⟩ := join_zero hx
  have va := (cargo_zero a).1 a1
  have vb := (cargo_zero b).1 a2
  have vc := (cargo_zero c).1 x2
  rw [N_app_l] at x3 x4
  have h1 : cargoR (N ((b ++ c) ++ a)) = 0 := by
    rw [N_perm (show ((b ++ c) ++ a).Perm (a ++ b ++ c) from by rw [List.append_assoc a]; exact List.perm_append_comm)]
    exact x3
  have hbc : cargoR (N (b ++ c)) = 0 := N_sub (by rw [List.length_append]; omega) (by omega) (fun x hx => by
    rcases List.mem_append.1 hx with hx | hx
    · exact vb.2.2 x hx
    · exact vc.2.2 x hx) va.2.2 h1
  have j1 : joinR b c = (N (b ++ c), 0) := by rw [join_of a2 x2, gatherR, if_pos hbc]
  have j2 : joinR a (N (b ++ c)) = (N (a ++ b ++ c), 0) := by rw [join_of a1 hbc, gatherR, N_app_r, ← List.append_assoc, if_pos x3]
  rw [j1]
  show (0 : Int) = 0 ∧ (joinR a (N (b ++ c))).2 = 0 ∧ joinR (N (a ++ b)) c = joinR a (N (b ++ c)) ∧ cntP (joinR (N (a ++ b)) c).1 = _
  rw [j2, x4]
  refine ⟨rfl, rfl, rfl, ?_⟩
  show cntP (N (a ++ b ++ c)) = _
  rw [(sum_N (by simp only [List.length_append]; omega) (fun x hx => by
    rcases List.mem_append.1 hx with hx | hx
    · rcases List.mem_append.1 hx with hx | hx
      · exact va.2.2 x hx
      · exact vb.2.2 x hx
    · exact vc.2.2 x hx)).1]
  simp [cntP, Int.add_assoc]
theorem join_sum {a b : List Pa} (h : (joinR a b).2 = 0) : cntP (joinR a b).1 = cntP a + cntP b ∧ shrP (joinR a b).1 = shrP a + shrP b := by
  obtain ⟨a1, a2, a3, a4⟩ := join_zero h
  have va := (cargo_zero a).1 a1
  have vb := (cargo_zero b).1 a2
  rw [a4]
  have := sum_N (l := a ++ b) (by simp only [List.length_append]; omega) (fun x hx => by
    rcases List.mem_append.1 hx with hx | hx
    · exact va.2.2 x hx
    · exact vb.2.2 x hx)
  show cntP (N (a ++ b)) = _ ∧ shrP (N (a ++ b)) = _
  rw [this.1, this.2]
  simp [cntP, shrP]
theorem join_ok {a b : List Pa} (h : (joinR a b).2 = 0) : (∀ p ∈ a, okP p) ∧ (∀ p ∈ b, okP p) ∧ (∀ p ∈ (joinR a b).1, okP p) ∧ a.length ≤ 200 ∧ b.length ≤ 200 := by
  obtain ⟨a1, a2, a3, a4⟩ := join_zero h
  have va := (cargo_zero a).1 a1
  have vb := (cargo_zero b).1 a2
  rw [a4]
  exact ⟨va.2.2, vb.2.2, ((cargo_zero _).1 a3).2.2, va.1, vb.1⟩
def K13 : Fn1 := ⟨.fld (.sl paT) (.one (.sl paT)), .one .bool, fun _ => [], fun _ => true⟩
theorem k13 : FnOk Go.Proofs.Try.prog 13 K13 := by
  refine fn_ok (E := (⟨tab, [(19, K19), (37, K37), (38, K38), (30, K30)], ann0⟩ : Env)) (TOk.of tab_told) (AllOk.cons k19 (.cons k37 (.cons k38 (.cons k30 .nil)))).at_ mix Go.Proofs.Try.func13 rfl rfl (by kernel_rfl) K13 ?_
  rintro ⟨(a : List Pa), (b : List Pa)⟩ hp
  clear hp
  conv => whnf
  refine cond_intro (fun h1 => ?_) (fun h1 => ?_)
  · have h1 : 1000 < (a.length : Int) := @of_decide_eq_true _ _ h1
    conv => whnf
    show true = true
    rfl
  have h1 : ¬ (1000 < (a.length : Int)) := @of_decide_eq_false _ _ h1
  conv => whnf
  refine cond_intro (fun h2 => ?_) (fun h2 => ?_)
  · have h2 : 1000 < (b.length : Int) := @of_decide_eq_true _ _ h2
    conv => whnf
    show true = true
    rfl
  have h2 : ¬ (1000 < (b.length : Int)) := @of_decide_eq_false _ _ h2
  have ha : a.length ≤ 100000 := by omega
  have hb : b.length ≤ 100000 := by omega
  have hj := join_len a b
  conv => whnf
  refine ⟨ha, ?_⟩
  conv => whnf
  refine ⟨hb, ?_⟩
  conv => whnf
  refine ⟨ha, ?_⟩
  conv => whnf
  refine ⟨hb, ?_⟩
  conv => whnf
  refine cond_intro (fun h3 => ?_) (fun h3 => ?_)
  · have h3 : (joinR a b).2 = (joinR a b).2 := @of_decide_eq_true _ _ h3
    conv => whnf
    refine ⟨show (joinR a b).1.length ≤ 100000 by omega, ?_⟩
    conv => whnf
    refine cond_intro (fun h4 => ?_) (fun h4 => ?_)
    · have h4 : (eqPa (joinR a b).1 (joinR a b).1) = true := h4
      conv => whnf
      show true = true
      rfl
    have h4 : (eqPa (joinR a b).1 (joinR a b).1) = false := h4
    simp [eqPa] at h4
  have h3 : ¬ ((joinR a b).2 = (joinR a b).2) := @of_decide_eq_false _ _ h3
  exact absurd rfl h3
def K14 : Fn1 := ⟨.fld (.sl paT) (.fld (.sl paT) (.one (.sl paT))), .one .bool, fun _ => [], fun _ => true⟩
theorem k14 : FnOk Go.Proofs.Try.prog 14 K14 := by
  refine fn_ok (E := (⟨tab, [(19, K19), (38, K38), (30, K30), (32, K32), (31, K31)], ann0⟩ : Env)) (TOk.of tab_told) (AllOk.cons k19 (.cons k38 (.cons k30 (.cons k32 (.cons k31 .nil))))).at_ mix Go.Proofs.Try.func14 rfl rfl (by kernel_rfl) K14 ?_
  rintro ⟨(a : List Pa), (b : List Pa), (c : List Pa)⟩ hp
  clear hp
  conv => whnf
  refine cond_intro (fun h1 => ?_) (fun h1 => ?_)
  · have h1 : 1000 < (a.length : Int) := @of_decide_eq_true _ _ h1
    conv => whnf
    show true = true
    rfl
  have h1 : ¬ (1000 < (a.length : Int)) := @of_decide_eq_false _ _ h1
  conv => whnf
  refine cond_intro (fun h2 => ?_) (fun h2 => ?_)
  · have h2 : 1000 < (b.length : Int) := @of_decide_eq_true _ _ h2
    conv => whnf
    show true = true
    rfl
  have h2 : ¬ (1000 < (b.length : Int)) := @of_decide_eq_false _ _ h2
  conv => whnf
  refine cond_intro (fun h3 => ?_) (fun h3 => ?_)
  · have h3 : 1000 < (c.length : Int) := @of_decide_eq_true _ _ h3
    conv => whnf
    show true = true
    rfl
  have h3 : ¬ (1000 < (c.length : Int)) := @of_decide_eq_false _ _ h3
  have ha : a.length ≤ 100000 := by omega
  have hb : b.length ≤ 100000 := by omega
  have hc : c.length ≤ 100000 := by omega
  have hj := join_len a b
  have hj2 := join_len b a
  have hj3 := join_len b c
  have hsy := join_sym0 a b
  conv => whnf
  refine ⟨ha, ?_⟩
  conv => whnf
  refine ⟨hb, ?_⟩
  conv => whnf
  refine ⟨hb, ?_⟩
  conv => whnf
  refine ⟨ha, ?_⟩
  conv => whnf
  refine cond_intro (fun he => ?_) (fun he => ?_)
  · have he : (!decide ((joinR a b).2 = 0)) = true := he
    have he : ¬ ((joinR a b).2 = 0) := by simpa using he
    conv => whnf
    refine cond_intro (fun hq => ?_) (fun hq => ?_)
    · have hq : (decide ((joinR a b).2 = 0) == decide ((joinR b a).2 = 0)) = true := hq
      conv => whnf
      show true = true
      rfl
    have hq : (decide ((joinR a b).2 = 0) == decide ((joinR b a).2 = 0)) = false := hq
    rw [hsy] at hq
    simp at hq
  have he : (!decide ((joinR a b).2 = 0)) = false := he
  have he : (joinR a b).2 = 0 := by simpa using he
  conv => whnf
  refine cond_intro (fun hf => ?_) (fun hf => ?_)
  · have hf : (!decide ((joinR b a).2 = 0)) = true := hf
    have hf : ¬ ((joinR b a).2 = 0) := by simpa using hf
    exact absurd (by rw [join_sym he]; exact he) hf
  have hf : (!decide ((joinR b a).2 = 0)) = false := hf
  have hf : (joinR b a).2 = 0 := by simpa using hf
  have ko := join_ok he
  have ks := join_sum he
  have b1 := cntP_bnd ko.1
  have b2 := cntP_bnd ko.2.1
  have b3 := shrP_bnd ko.1
  have b4 := shrP_bnd ko.2.1
  have eu : (IntKind.i64.wrap (cntP a + cntP b)) = cntP a + cntP b := wrap_eq (by omega) (by omega)
  have es : (IntKind.i64.wrap (shrP a + shrP b)) = shrP a + shrP b := wrap_eq (by omega) (by omega)
  conv => whnf
  refine ⟨show (joinR a b).1.length ≤ 100000 by omega, ?_⟩
  conv => whnf
  refine ⟨hc, ?_⟩
  conv => whnf
  refine ⟨hb, ?_⟩
  conv => whnf
  refine ⟨hc, ?_⟩
  conv => whnf
  refine ⟨ha, ?_⟩
  conv => whnf
  refine ⟨show (joinR b c).1.length ≤ 100000 by omega, ?_⟩
  conv => whnf
  refine cond_intro (fun hg => ?_) (fun hg => ?_)
  · have hg : (joinR (joinR a b).1 c).2 = 0 := @of_decide_eq_true _ _ hg
    have k3 := join_three he hg
    have kc := (join_ok hg)
    have hxl := join_len (joinR a b).1 c
    have bc := cntP_bnd kc.2.1
    have eu3 : (IntKind.i64.wrap ((IntKind.i64.wrap (cntP a + cntP b)) + cntP c)) = cntP a + cntP b + cntP c := by rw [eu]; exact wrap_eq (by omega) (by omega)
    conv => whnf
    refine cond_intro (fun hh => ?_) (fun hh => ?_)
    · have hh : (!decide ((joinR b c).2 = 0)) = true := hh
      have hh : ¬ ((joinR b c).2 = 0) := by simpa using hh
      exact absurd k3.1 hh
    have hh : (!decide ((joinR b c).2 = 0)) = false := hh
    have hh : (joinR b c).2 = 0 := by simpa using hh
    conv => whnf
    refine cond_intro (fun hi => ?_) (fun hi => ?_)
    · have hi : (!decide ((joinR a (joinR b c).1).2 = 0)) = true := hi
      have hi : ¬ ((joinR a (joinR b c).1).2 = 0) := by simpa using hi
      exact absurd k3.2.1 hi
    have hi : (!decide ((joinR a (joinR b c).1).2 = 0)) = false := hi
    have hi : (joinR a (joinR b c).1).2 = 0 := by simpa using hi
    conv => whnf
    refine ⟨show (joinR (joinR a b).1 c).1.length ≤ 100000 by omega, ?_⟩
    conv => whnf
    refine cond_intro (fun hs => ?_) (fun hs => ?_)
    · have hs : (!(eqPa (joinR (joinR a b).1 c).1 (joinR a (joinR b c).1).1)) = true := hs
      have hs : (eqPa (joinR (joinR a b).1 c).1 (joinR a (joinR b c).1).1) = false := by simpa using hs
      rw [k3.2.2.1] at hs
      simp [eqPa] at hs
    have hs : (!(eqPa (joinR (joinR a b).1 c).1 (joinR a (joinR b c).1).1)) = false := hs
    have hs : (eqPa (joinR (joinR a b).1 c).1 (joinR a (joinR b c).1).1) = true := by simpa using hs
    conv => whnf
    refine ⟨show (joinR (joinR a b).1 c).1.length ≤ 1000 by omega, ?_⟩
    conv => whnf
    refine ⟨kc.2.2.1, ?_⟩
    conv => whnf
    refine ⟨show a.length ≤ 1000 by omega, ?_⟩
    conv => whnf
    refine ⟨ko.1, ?_⟩
    conv => whnf
    refine ⟨show b.length ≤ 1000 by omega, ?_⟩
    conv => whnf
    refine ⟨ko.2.1, ?_⟩
    conv => whnf
    refine ⟨show c.length ≤ 1000 by omega, ?_⟩
    conv => whnf
    refine ⟨kc.2.1, ?_⟩
    conv => whnf
    refine cond_intro (fun hu => ?_) (fun hu => ?_)
    · have hu : (!decide (cntP (joinR (joinR a b).1 c).1 = (IntKind.i64.wrap ((IntKind.i64.wrap (cntP a + cntP b)) + cntP c)))) = true := hu
      have hu : ¬ (cntP (joinR (joinR a b).1 c).1 = (IntKind.i64.wrap ((IntKind.i64.wrap (cntP a + cntP b)) + cntP c))) := by simpa using hu
      exact absurd (by rw [eu3]; exact k3.2.2.2) hu
    have hu : (!decide (cntP (joinR (joinR a b).1 c).1 = (IntKind.i64.wrap ((IntKind.i64.wrap (cntP a + cntP b)) + cntP c)))) = false := hu
    have hu : cntP (joinR (joinR a b).1 c).1 = (IntKind.i64.wrap ((IntKind.i64.wrap (cntP a + cntP b)) + cntP c)) := by simpa using hu
    conv => whnf
    refine ⟨show (joinR a b).1.length ≤ 100000 by omega, ?_⟩
    conv => whnf
    refine cond_intro (fun t1 => ?_) (fun t1 => ?_)
    · have t1 : (eqPa (joinR a b).1 (joinR b a).1) = true := t1
      conv => whnf
      refine ⟨show (joinR a b).1.length ≤ 1000 by omega, ?_⟩
      conv => whnf
      refine ⟨ko.2.2.1, ?_⟩
      conv => whnf
      refine ⟨show a.length ≤ 1000 by omega, ?_⟩
      conv => whnf
      refine ⟨ko.1, ?_⟩
      conv => whnf
      refine ⟨show b.length ≤ 1000 by omega, ?_⟩
      conv => whnf
      refine ⟨ko.2.1, ?_⟩
      conv => whnf
      refine cond_intro (fun t2 => ?_) (fun t2 => ?_)
      · have t2 : cntP (joinR a b).1 = (IntKind.i64.wrap (cntP a + cntP b)) := @of_decide_eq_true _ _ t2
        conv => whnf
        refine ⟨show (joinR a b).1.length ≤ 1000 by omega, ?_⟩
        conv => whnf
        refine ⟨ko.2.2.1, ?_⟩
        conv => whnf
        refine ⟨show a.length ≤ 1000 by omega, ?_⟩
        conv => whnf
        refine ⟨ko.1, ?_⟩
        conv => whnf
        refine ⟨show b.length ≤ 1000 by omega, ?_⟩
        conv => whnf
        refine ⟨ko.2.1, ?_⟩
        conv => whnf
        refine cond_intro (fun t3 => ?_) (fun t3 => ?_)
        · have t3 : shrP (joinR a b).1 = (IntKind.i64.wrap (shrP a + shrP b)) := @of_decide_eq_true _ _ t3
          conv => whnf
          show true = true
          rfl
        have t3 : ¬ (shrP (joinR a b).1 = (IntKind.i64.wrap (shrP a + shrP b))) := @of_decide_eq_false _ _ t3
        exact absurd (by rw [es]; exact ks.2) t3
      have t2 : ¬ (cntP (joinR a b).1 = (IntKind.i64.wrap (cntP a + cntP b))) := @of_decide_eq_false _ _ t2
      exact absurd (by rw [eu]; exact ks.1) t2
    have t1 : (eqPa (joinR a b).1 (joinR b a).1) = false := t1
    rw [join_sym he] at t1
    simp [eqPa] at t1
  have hg : ¬ ((joinR (joinR a b).1 c).2 = 0) := @of_decide_eq_false _ _ hg
  conv => whnf
  refine ⟨show (joinR a b).1.length ≤ 100000 by omega, ?_⟩
  conv => whnf
  refine cond_intro (fun t1 => ?_) (fun t1 => ?_)
  · have t1 : (eqPa (joinR a b).1 (joinR b a).1) = true := t1
    conv => whnf
    refine ⟨show (joinR a b).1.length ≤ 1000 by omega, ?_⟩
    conv => whnf
    refine ⟨ko.2.2.1, ?_⟩
    conv => whnf
    refine ⟨show a.length ≤ 1000 by omega, ?_⟩
    conv => whnf
    refine ⟨ko.1, ?_⟩
    conv => whnf
    refine ⟨show b.length ≤ 1000 by omega, ?_⟩
    conv => whnf
    refine ⟨ko.2.1, ?_⟩
    conv => whnf
    refine cond_intro (fun t2 => ?_) (fun t2 => ?_)
    · have t2 : cntP (joinR a b).1 = (IntKind.i64.wrap (cntP a + cntP b)) := @of_decide_eq_true _ _ t2
      conv => whnf
      refine ⟨show (joinR a b).1.length ≤ 1000 by omega, ?_⟩
      conv => whnf
      refine ⟨ko.2.2.1, ?_⟩
      conv => whnf
      refine ⟨show a.length ≤ 1000 by omega, ?_⟩
      conv => whnf
      refine ⟨ko.1, ?_⟩
      conv => whnf
      refine ⟨show b.length ≤ 1000 by omega, ?_⟩
      conv => whnf
      refine ⟨ko.2.1, ?_⟩
      conv => whnf
      refine cond_intro (fun t3 => ?_) (fun t3 => ?_)
      · have t3 : shrP (joinR a b).1 = (IntKind.i64.wrap (shrP a + shrP b)) := @of_decide_eq_true _ _ t3
        conv => whnf
        show true = true
        rfl
      have t3 : ¬ (shrP (joinR a b).1 = (IntKind.i64.wrap (shrP a + shrP b))) := @of_decide_eq_false _ _ t3
      exact absurd (by rw [es]; exact ks.2) t3
    have t2 : ¬ (cntP (joinR a b).1 = (IntKind.i64.wrap (cntP a + cntP b))) := @of_decide_eq_false _ _ t2
    exact absurd (by rw [eu]; exact ks.1) t2
  have t1 : (eqPa (joinR a b).1 (joinR b a).1) = false := t1
  rw [join_sym he] at t1
  simp [eqPa] at t1
end
end Go.Proofs.Ytmphplpfgjcpiaa.Eng
/- The law CargoTogether: it answers true for every input, and its arguments read afterwards as they did. The row, out of the contract of the law's function (written by row.py, a program of these sessions). -/
namespace Go.Proofs.Ytmphplpfgjcpiaa.cargoTogether
open Go.ChangeShapes Go.WideShapes Go.ChangeAt Go.RowKit Go.Proofs.Ytmphplpfgjcpiaa Go.Proofs.Ytmphplpfgjcpiaa.Eng
open Go.ChangeMaps (open_string shut_string)
set_option linter.unusedVariables false
theorem own : ownKnob Try.prog.godebug = none := by kernel_rfl
theorem laidOut : laidOutB Try.prog = true := by kernel_rfl
set_option maxRecDepth 100000 in
set_option maxHeartbeats 1000000 in
theorem lifted (os : Os) (started : os.Started) (H : Type) (enc : TypeId × Value → H) :
    ReturnsInHanded {} Try.checked os 14 .any (Rows.cargoTogetherSpec.pre6 enc Try.prog Try.f14 Rows.cargoTogetherRow.domain false) (Rows.cargoTogetherSpec.post enc Try.prog Try.f14 false true false false) := by
  refine returnsInHanded_of_change_sized (C := Try.checked) own started (by kernel_rfl) Try.func14
    (ChangeSpec.witness6 (enc := enc) (C := Try.checked) false ⟨#[], #[.slice none 0 0, .slice none 0 0, .slice none 0 0], []⟩ 8 (by kernel_rfl) (by kernel_rfl) (by kernel_rfl) (by kernel_rfl)) ?_
  intro W base args ds gs before hval0 hW hcnd hsz0 _
  have hsz : (DataW.weightsEach Try.prog (Try.f14.params.toList ++ Rows.cargoTogetherSpec.plain.varTypes Try.prog) (ds ++ gs)).all (· ≤ reachBytes) = true := hsz0
  have hval : ∀ (j : Nat) t v, Try.f14.params[j]? = some t → args[j]? = some v → Value.okWide Try.prog W .any base t v := hval0
  have hW' := hW
  obtain ⟨p, q, hA0, hV, rfl, hfz, hnd⟩ := hW
  have hA : DataW.TrodAll enc Try.prog W 0 (fun _ => true) true Try.f14.params.toList args.toList ds p := hA0
  rw [Try.params14] at hA hval hsz
  obtain ⟨v0, vs0, d0, ds0, p0, q0, hargs, rfl, rfl, h0, r0⟩ := trodAll_cons hA
  obtain ⟨v1, vs1, d1, ds1, p1, q1, rfl, rfl, rfl, h1, r1⟩ := trodAll_cons r0
  obtain ⟨v2, vs2, d2, ds2, p2, q2, rfl, rfl, rfl, h2, r2⟩ := trodAll_cons r1
  obtain ⟨rfl, rfl, rfl⟩ := trodAll_nil r2
  obtain rfl : args = #[v0, v1, v2] := by cases args; simp_all
  obtain ⟨rfl, rfl⟩ := trodVars_none hV
  have k0 := h0
  have lt0 : ∀ x ∈ p0, x.block < W.heap.size := by obtain ⟨m, hm⟩ := k0; exact DataW.trod_lt m _ _ _ hm
  obtain ⟨x0, R0, g0⟩ := open_row (ty := paT) Try.underlying30 (by kernel_rfl) (hval 0 30 v0 rfl rfl) h0 hsz (j := 0) rfl rfl
  have k1 := h1
  have lt1 : ∀ x ∈ p1, x.block < W.heap.size := by obtain ⟨m, hm⟩ := k1; exact DataW.trod_lt m _ _ _ hm
  obtain ⟨x1, R1, g1⟩ := open_row (ty := paT) Try.underlying30 (by kernel_rfl) (hval 1 30 v1 rfl rfl) h1 hsz (j := 1) rfl rfl
  have k2 := h2
  have lt2 : ∀ x ∈ p2, x.block < W.heap.size := by obtain ⟨m, hm⟩ := k2; exact DataW.trod_lt m _ _ _ hm
  obtain ⟨x2, R2, g2⟩ := open_row (ty := paT) Try.underlying30 (by kernel_rfl) (hval 2 30 v2 rfl rfl) h2 hsz (j := 2) rfl rfl
  clear hA0 hval0 hsz0 hsz
  have hrv : RVs (St0 W) W (fun _ => none) (allRes K14.ins (x0, x1, x2)) [_, _, _] := ⟨_, _, rfl, R0, ⟨_, _, rfl, R1, ⟨_, _, rfl, R2, rfl⟩⟩⟩
  refine (law_calls k14 hrv (fun p hp => by cases hp) rfl).mono fun e W' ⟨he, bel⟩ => ?_
  subst he
  exact ⟨_, rfl, _, _, _, [], _, [], hW', trodAll_mk1 (shut_bool Try.underlying4 _), (trodAll_cons_mk (Below.trod laidOut (by kernel_rfl) (of_decide_eq_true (by kernel_rfl)) k0 bel lt0) (trodAll_cons_mk (Below.trod laidOut (by kernel_rfl) (of_decide_eq_true (by kernel_rfl)) k1 bel lt1) (trodAll_cons_mk (Below.trod laidOut (by kernel_rfl) (of_decide_eq_true (by kernel_rfl)) k2 bel lt2) trodAll_mk0))), rfl, bel.frame _, fun h => by cases h⟩
theorem over : Rows.cargoTogetherRow.holds Try.pinned (OpenSpec.ofChange Rows.cargoTogetherSpec) :=
  OpenClaim.holds_of_wide 14 Try.f14 rfl rfl rfl rfl rfl rfl rfl ⟨rfl, rfl, rfl, rfl, rfl⟩ rfl rfl rfl rfl rfl (by kernel_rfl) Try.func14 (by kernel_rfl)
    (of_decide_eq_true (by kernel_rfl)) (by unfold Func.isWrapper; first | (rw [if_pos (by decide +kernel)]; kernel_rfl) | (rw [if_neg (by decide +kernel)]; exact ⟨rfl, rfl⟩))
    (fun os started H enc _ => lifted os started H enc)
theorem proved : Rows.CargoTogetherSaid := over
#print axioms proved
end Go.Proofs.Ytmphplpfgjcpiaa.cargoTogether
namespace Go.Proofs.Ytmphplpfgjcpiaa
/-- The row, under a short name, for the claim. -/
theorem cargoTogether_holds : Rows.CargoTogetherSaid := cargoTogether.proved
end Go.Proofs.Ytmphplpfgjcpiaa
