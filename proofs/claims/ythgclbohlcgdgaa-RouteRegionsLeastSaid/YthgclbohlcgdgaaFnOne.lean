/- What the functions that the law reaches answer, each for every input. -/
import Derived.Test.YthgclbohlcgdgaaEngThree
import Derived.Shelf.Lay
import Derived.Shelf.SlGeneric
import Derived.Ground.SlsfProg
set_option linter.unusedVariables false
set_option linter.unusedSimpArgs false
set_option linter.unusedVariables false
set_option linter.unusedSimpArgs false
namespace Go.Proofs.Ythgclbohlcgdgaa.Eng
open Go
set_option maxRecDepth 100000
noncomputable section
abbrev I : Ty := .int .i64
abbrev eT : Ty := .fld I (.fld I (.one I))
abbrev gT : Ty := .fld I (.fld I (.one .bool))
abbrev fT : Ty := .fld I (.one I)
abbrev Ed := Int × Int × Int
abbrev Gl := Int × Int × Bool
abbrev Fa := Int × Int
theorem mix : Go.Proofs.Try.prog.follows .mixedOrders = true := by kernel_rfl
def ann0 : Nat → Option (List Nat × List (Nat × Ty) × List (Nat × Nat × Ty)) := fun _ => none
def E0 : Env := ⟨tab, [], ann0⟩
theorem noK : ∀ f k, findK (E0).K f = some k → CtrOk Go.Proofs.Try.prog f k := fun f k h => by cases h
theorem wrap_eq {i : Int} (h : -9223372036854775808 ≤ i) (g : i ≤ 9223372036854775807) : IntKind.i64.wrap i = i := by
  rw [IntKind.wrap_i64]; omega
def gI (l : List Int) (n : Nat) : Int := l.getD n 0
def gB (l : List Bool) (n : Nat) : Bool := l.getD n false
def gE (l : List Ed) (n : Nat) : Ed := l.getD n (0, 0, 0)
def gG (l : List Gl) (n : Nat) : Gl := l.getD n (0, 0, false)
def gF (l : List Fa) (n : Nat) : Fa := l.getD n (0, 0)
def gEs (l : List (List Ed)) (n : Nat) : List Ed := l.getD n []
def gIs (l : List (List Int)) (n : Nat) : List Int := l.getD n []
theorem gI_eq {l : List Int} {n : Nat} (h : n < l.length) : gI l n = l[n] := by simp [gI, h]
theorem gB_eq {l : List Bool} {n : Nat} (h : n < l.length) : gB l n = l[n] := by simp [gB, h]
theorem gE_eq {l : List Ed} {n : Nat} (h : n < l.length) : gE l n = l[n] := by simp [gE, h]
theorem gG_eq {l : List Gl} {n : Nat} (h : n < l.length) : gG l n = l[n] := by simp [gG, h]
theorem gF_eq {l : List Fa} {n : Nat} (h : n < l.length) : gF l n = l[n] := by simp [gF, h]
theorem gEs_eq {l : List (List Ed)} {n : Nat} (h : n < l.length) : gEs l n = l[n] := by simp [gEs, h]
theorem gIs_eq {l : List (List Int)} {n : Nat} (h : n < l.length) : gIs l n = l[n] := by simp [gIs, h]
theorem gE_mem {l : List Ed} {n : Nat} (h : n < l.length) : gE l n ∈ l := by rw [gE_eq h]; exact List.getElem_mem _
theorem gI_mem {l : List Int} {n : Nat} (h : n < l.length) : gI l n ∈ l := by rw [gI_eq h]; exact List.getElem_mem _
theorem all_take {α : Type} {p : α → Bool} {l : List α} (g : Nat → α) (hg : ∀ n (h : n < l.length), g n = l[n]) (h : ∀ k, k < l.length → p (g k) = true) : l.all p = true := by
  rw [List.all_eq_true]
  intro x hx
  obtain ⟨k, hk, e⟩ := List.getElem_of_mem hx
  rw [← e, ← hg k hk]
  exact h k hk
theorem all_not {α : Type} {p : α → Bool} {l : List α} {x : α} (hx : x ∈ l) (h : p x = false) : l.all p = false := by
  cases e : l.all p
  · rfl
  · rw [List.all_eq_true.1 e x hx] at h; cases h
def isR (n k : Int) : Bool := decide (0 ≤ k) && decide (k < n)
def costOk (e : Ed) : Bool := decide (0 ≤ e.2.2) && decide (e.2.2 ≤ 1000000)
def endsOk (n : Int) (e : Ed) : Bool := isR n e.1 && isR n e.2.1
def validR (n : Int) (es : List Ed) : Int := if 1000 < n ∨ 4000 < es.length then 4 else if n < 0 then 1 else if es.all costOk = true then (if es.all (endsOk n) = true then 0 else 2) else 1
theorem isR_iff {n k : Int} : isR n k = true ↔ 0 ≤ k ∧ k < n := by simp [isR]
theorem costOk_iff {e : Ed} : costOk e = true ↔ 0 ≤ e.2.2 ∧ e.2.2 ≤ 1000000 := by simp [costOk]
theorem endsOk_iff {n : Int} {e : Ed} : endsOk n e = true ↔ (0 ≤ e.1 ∧ e.1 < n) ∧ 0 ≤ e.2.1 ∧ e.2.1 < n := by simp [endsOk, isR_iff]
theorem valid_large {n : Int} {es : List Ed} (h : 1000 < n ∨ 4000 < (es.length : Int)) : validR n es = 4 := by
  rw [validR, if_pos (by omega)]
theorem valid_neg {n : Int} {es : List Ed} (h : ¬ 1000 < n) (h2 : ¬ 4000 < (es.length : Int)) (h3 : n < 0) : validR n es = 1 := by
  rw [validR, if_neg (by omega), if_pos h3]
theorem valid_cost {n : Int} {es : List Ed} {e : Ed} (h : ¬ 1000 < n) (h2 : ¬ 4000 < (es.length : Int)) (h3 : ¬ n < 0) (he : e ∈ es) (hb : ¬ (0 ≤ e.2.2 ∧ e.2.2 ≤ 1000000)) : validR n es = 1 := by
  have : costOk e = false := by cases h : costOk e; rfl; exact absurd (costOk_iff.1 h) hb
  rw [validR, if_neg (by omega), if_neg h3, if_neg (by rw [all_not he this]; decide)]
theorem valid_ends {n : Int} {es : List Ed} {e : Ed} (h : ¬ 1000 < n) (h2 : ¬ 4000 < (es.length : Int)) (h3 : ¬ n < 0) (hc : ∀ k, k < es.length → 0 ≤ (gE es k).2.2 ∧ (gE es k).2.2 ≤ 1000000) (he : e ∈ es) (hb : ¬ ((0 ≤ e.1 ∧ e.1 < n) ∧ 0 ≤ e.2.1 ∧ e.2.1 < n)) : validR n es = 2 := by
  have : endsOk n e = false := by cases h : endsOk n e; rfl; exact absurd (endsOk_iff.1 h) hb
  rw [validR, if_neg (by omega), if_neg h3, if_pos (all_take (gE es) (fun n h => gE_eq h) fun k hk => costOk_iff.2 (hc k hk)), if_neg (by rw [all_not he this]; decide)]
theorem valid_ok {n : Int} {es : List Ed} (h : ¬ 1000 < n) (h2 : ¬ 4000 < (es.length : Int)) (h3 : ¬ n < 0) (hc : ∀ k, k < es.length → 0 ≤ (gE es k).2.2 ∧ (gE es k).2.2 ≤ 1000000) (he : ∀ k, k < es.length → (0 ≤ (gE es k).1 ∧ (gE es k).1 < n) ∧ 0 ≤ (gE es k).2.1 ∧ (gE es k).2.1 < n) : validR n es = 0 := by
  rw [validR, if_neg (by omega), if_neg h3, if_pos (all_take (gE es) (fun n h => gE_eq h) fun k hk => costOk_iff.2 (hc k hk)), if_pos (all_take (gE es) (fun n h => gE_eq h) fun k hk => endsOk_iff.2 (he k hk))]
theorem valid_iff {n : Int} {es : List Ed} (h : validR n es = 0) : 0 ≤ n ∧ n ≤ 1000 ∧ es.length ≤ 4000 ∧ ∀ e ∈ es, (0 ≤ e.1 ∧ e.1 < n) ∧ (0 ≤ e.2.1 ∧ e.2.1 < n) ∧ 0 ≤ e.2.2 ∧ e.2.2 ≤ 1000000 := by
  unfold validR at h
  split at h
  · cases h
  · split at h
    · cases h
    · split at h
      · rename_i hc
        split at h
        · rename_i he
          refine ⟨by omega, by omega, by omega, fun e hm => ?_⟩
          have a := costOk_iff.1 (List.all_eq_true.1 hc e hm)
          have b := endsOk_iff.1 (List.all_eq_true.1 he e hm)
          exact ⟨b.1, b.2, a⟩
        · cases h
      · cases h
def K58 : Fn1 := ⟨.one I, .one .bool, fun _ => [], fun _ => false⟩
theorem k58 : FnOk Go.Proofs.Try.prog 58 K58 := by
  refine fn_ok (E := E0) (TOk.of tab_told) noK mix Go.Proofs.Try.func58 rfl rfl (by kernel_rfl) K58 ?_
  rintro (n : Int) hp
  clear hp
  conv => whnf
  show (!decide (n = n)) = false
  simp
def cmpR (a b : Int) : Int := if a < b then -1 else if b < a then 1 else 0
def E54 : Env := ⟨tab, [(58, K58)], ann0⟩
def K54 : Fn1 := ⟨.fld I (.one I), .one I, fun _ => [], fun (a : Int × Int) => cmpR a.1 a.2⟩
theorem k54 : FnOk Go.Proofs.Try.prog 54 K54 := by
  refine fn_ok (E := E54) (TOk.of tab_told) (AllOk.cons k58 .nil).at_ mix Go.Proofs.Try.func54 rfl rfl (by kernel_rfl) K54 ?_
  rintro ⟨(a : Int), (b : Int)⟩ hp
  clear hp
  iterate 9 (all_goals (conv => whnf); all_goals (try (refine cond_intro (fun h => ?_) (fun h => ?_))))
  all_goals (simp only [decide_eq_true_eq, decide_eq_false_iff_not] at *)
  all_goals (show _ = cmpR a b; simp [cmpR, *])
def K36 : Fn1 := ⟨.fld I (.one I), .one .bool, fun _ => [], fun (a : Int × Int) => isR a.1 a.2⟩
theorem k36 : FnOk Go.Proofs.Try.prog 36 K36 := by
  refine fn_ok (E := E0) (TOk.of tab_told) noK mix Go.Proofs.Try.func36 rfl rfl (by kernel_rfl) K36 ?_
  rintro ⟨(n : Int), (k : Int)⟩ hp
  clear hp
  conv => whnf
  refine cond_intro (fun h => ?_) (fun h => ?_)
  · have h : 0 ≤ k := @of_decide_eq_true _ _ h
    conv => whnf
    show decide (k < n) = isR n k
    simp [isR, h]
  · have h : ¬ 0 ≤ k := @of_decide_eq_false _ _ h
    conv => whnf
    show false = isR n k
    simp [isR, h]
def lessR (a b c d : Int) : Bool := decide (a < c ∨ (a = c ∧ b < d))
def K41 : Fn1 := ⟨.fld I (.fld I (.fld I (.one I))), .one .bool, fun _ => [], fun (a : Int × Int × Int × Int) => lessR a.1 a.2.1 a.2.2.1 a.2.2.2⟩
theorem k41 : FnOk Go.Proofs.Try.prog 41 K41 := by
  refine fn_ok (E := E0) (TOk.of tab_told) noK mix Go.Proofs.Try.func41 rfl rfl (by kernel_rfl) K41 ?_
  rintro ⟨(a : Int), (b : Int), (c : Int), (d : Int)⟩ hp
  clear hp
  conv => whnf
  refine cond_intro (fun h => ?_) (fun h => ?_)
  · have h : a < c := @of_decide_eq_true _ _ h
    conv => whnf
    show true = lessR a b c d
    simp [lessR, h]
  · have h : ¬ a < c := @of_decide_eq_false _ _ h
    conv => whnf
    refine cond_intro (fun g => ?_) (fun g => ?_)
    · have g : a = c := @of_decide_eq_true _ _ g
      conv => whnf
      show decide (b < d) = lessR a b c d
      simp [lessR, g]
    · have g : ¬ a = c := @of_decide_eq_false _ _ g
      conv => whnf
      show false = lessR a b c d
      simp [lessR, g, h]
def lessF (a b : Fa) : Bool := decide (b.1 < 0 ∨ a.1 < b.1 ∨ (a.1 = b.1 ∧ a.2 < b.2))
def K45 : Fn1 := ⟨.fld fT (.one fT), .one .bool, fun _ => [], fun (a : Fa × Fa) => lessF a.1 a.2⟩
theorem k45 : FnOk Go.Proofs.Try.prog 45 K45 := by
  refine fn_ok (E := E0) (TOk.of tab_told) noK mix Go.Proofs.Try.func45 rfl rfl (by kernel_rfl) K45 ?_
  rintro ⟨⟨(a : Int), (b : Int)⟩, ⟨(c : Int), (d : Int)⟩⟩ hp
  clear hp
  conv => whnf
  refine cond_intro (fun h => ?_) (fun h => ?_)
  · have h : c < 0 := @of_decide_eq_true _ _ h
    conv => whnf
    show true = lessF (a, b) (c, d)
    simp [lessF, h]
  · have h : ¬ c < 0 := @of_decide_eq_false _ _ h
    conv => whnf
    refine cond_intro (fun g => ?_) (fun g => ?_)
    · have g : a < c := @of_decide_eq_true _ _ g
      conv => whnf
      show true = lessF (a, b) (c, d)
      simp [lessF, g]
    · have g : ¬ a < c := @of_decide_eq_false _ _ g
      conv => whnf
      refine cond_intro (fun f => ?_) (fun f => ?_)
      · have f : a = c := @of_decide_eq_true _ _ f
        conv => whnf
        show decide (b < d) = lessF (a, b) (c, d)
        subst f
        simp [lessF, h]
      · have f : ¬ a = c := @of_decide_eq_false _ _ f
        conv => whnf
        show false = lessF (a, b) (c, d)
        simp [lessF, h, g, f]
def S18a (n : Int) (es : List Ed) (i : Int) : SL := ⟨[.int .i64 n] ++ [.sl eT es] ++ List.replicate 16 .undef ++ [.sl eT es] ++ [.int .i64 es.length] ++ [.int .i64 i] ++ List.replicate 39 .undef, [], 0⟩
def S18b (n : Int) (es : List Ed) (i : Int) : SL := ⟨[.int .i64 n] ++ List.replicate 32 .undef ++ [.sl eT es] ++ [.int .i64 es.length] ++ [.int .i64 i] ++ List.replicate 24 .undef, [], 0⟩
def E18 : Env := ⟨tab, [], fun n => match n with | 6 => some ([0, 1, 18, 19, 20], [], []) | 12 => some ([0, 33, 34, 35], [], []) | _ => none⟩
def K18 : Fn1 := ⟨.fld I (.one (.sl eT)), .one I, fun _ => [], fun (a : Int × List Ed) => validR a.1 a.2⟩
theorem k18 : FnOk Go.Proofs.Try.prog 18 K18 := by
  refine fn_ok (E := E18) (TOk.of tab_told) (fun f k h => by cases h) mix Go.Proofs.Try.func18 rfl rfl (by kernel_rfl) K18 ?_
  rintro ⟨(n : Int), (es : List Ed)⟩ hp
  clear hp
  conv => whnf
  refine cond_intro (fun z1 => ?_) (fun z1 => ?_)
  · have z1 : 1000 < n := @of_decide_eq_true _ _ z1
    conv => whnf
    show (4 : Int) = validR n es
    rw [valid_large (Or.inl z1)]
  have z1 : ¬ (1000 < n) := @of_decide_eq_false _ _ z1
  conv => whnf
  refine cond_intro (fun z2 => ?_) (fun z2 => ?_)
  · have z2 : 4000 < (es.length : Int) := @of_decide_eq_true _ _ z2
    conv => whnf
    show (4 : Int) = validR n es
    rw [valid_large (Or.inr z2)]
  have z2 : ¬ (4000 < (es.length : Int)) := @of_decide_eq_false _ _ z2
  conv => whnf
  refine cond_intro (fun z3 => ?_) (fun z3 => ?_)
  · have z3 : n < 0 := @of_decide_eq_true _ _ z3
    conv => whnf
    show (1 : Int) = validR n es
    rw [valid_neg z1 z2 z3]
  have z3 : ¬ (n < 0) := @of_decide_eq_false _ _ z3
  conv => whnf
  refine loop_rule (fun i => S18a n es i) (fun i => ((es.length : Int) - i).toNat) (fun i => 0 ≤ i ∧ i ≤ es.length ∧ ∀ k, k < i.toNat → 0 ≤ (gE es k).2.2 ∧ (gE es k).2.2 ≤ 1000000) ?_ 0 (by kernel_rfl) ?_ ⟨by omega, by omega, fun k hk => by simp at hk⟩
  case refine_2 => rfl
  rintro i ⟨h0, i1, hin⟩
  conv => whnf
  refine cond_intro (fun hlt => ?_) (fun hlt => ?_)
  · have hlt : i < (es.length : Int) := @of_decide_eq_true _ _ hlt
    have wi : IntKind.i64.wrap (i + 1) = i + 1 := wrap_eq (by omega) (by omega)
    have ei : (i + 1).toNat = i.toNat + 1 := by omega
    conv => whnf
    refine ⟨h0, ?_⟩
    conv => whnf
    refine ⟨hlt, ?_⟩
    conv => whnf
    refine cond_intro (fun c1 => ?_) (fun c1 => ?_)
    · have c1 : (gE es i.toNat).2.2 < 0 := @of_decide_eq_true _ _ c1
      conv => whnf
      show (1 : Int) = validR n es
      rw [valid_cost z1 z2 z3 (gE_mem (n := i.toNat) (by omega)) (fun h => by omega)]
    have c1 : ¬ ((gE es i.toNat).2.2 < 0) := @of_decide_eq_false _ _ c1
    conv => whnf
    refine cond_intro (fun c2 => ?_) (fun c2 => ?_)
    · have c2 : 1000000 < (gE es i.toNat).2.2 := @of_decide_eq_true _ _ c2
      conv => whnf
      show (1 : Int) = validR n es
      rw [valid_cost z1 z2 z3 (gE_mem (n := i.toNat) (by omega)) (fun h => by omega)]
    have c2 : ¬ (1000000 < (gE es i.toNat).2.2) := @of_decide_eq_false _ _ c2
    conv => whnf
    refine ⟨i + 1, ?_, ⟨by omega, by omega, fun k hk => ?_⟩, by omega⟩
    · exact Eq.trans (b := S18a n es (IntKind.i64.wrap (i + 1))) rfl (by rw [wi])
    · rw [ei] at hk
      rcases Nat.lt_or_eq_of_le (Nat.le_of_lt_succ hk) with g | g
      · exact hin k g
      · subst g; exact ⟨by omega, by omega⟩
  have hlt : ¬ (i < (es.length : Int)) := @of_decide_eq_false _ _ hlt
  have hcc : ∀ k, k < es.length → 0 ≤ (gE es k).2.2 ∧ (gE es k).2.2 ≤ 1000000 := fun k hk => hin k (by omega)
  clear hin
  conv => whnf
  refine loop_rule (fun i => S18b n es i) (fun i => ((es.length : Int) - i).toNat) (fun i => 0 ≤ i ∧ i ≤ es.length ∧ ∀ k, k < i.toNat → (0 ≤ (gE es k).1 ∧ (gE es k).1 < n) ∧ 0 ≤ (gE es k).2.1 ∧ (gE es k).2.1 < n) ?_ 0 (by kernel_rfl) ?_ ⟨by omega, by omega, fun k hk => by simp at hk⟩
  case refine_2 => rfl
  rintro i ⟨h0, i1, hin⟩
  conv => whnf
  refine cond_intro (fun hlt => ?_) (fun hlt => ?_)
  · have hlt : i < (es.length : Int) := @of_decide_eq_true _ _ hlt
    have wi : IntKind.i64.wrap (i + 1) = i + 1 := wrap_eq (by omega) (by omega)
    have ei : (i + 1).toNat = i.toNat + 1 := by omega
    conv => whnf
    refine ⟨h0, ?_⟩
    conv => whnf
    refine ⟨hlt, ?_⟩
    conv => whnf
    refine cond_intro (fun c1 => ?_) (fun c1 => ?_)
    · have c1 : (gE es i.toNat).1 < 0 := @of_decide_eq_true _ _ c1
      conv => whnf
      show (2 : Int) = validR n es
      rw [valid_ends z1 z2 z3 hcc (gE_mem (n := i.toNat) (by omega)) (fun h => by omega)]
    have c1 : ¬ ((gE es i.toNat).1 < 0) := @of_decide_eq_false _ _ c1
    conv => whnf
    refine cond_intro (fun c2 => ?_) (fun c2 => ?_)
    · have c2 : n ≤ (gE es i.toNat).1 := @of_decide_eq_true _ _ c2
      conv => whnf
      show (2 : Int) = validR n es
      rw [valid_ends z1 z2 z3 hcc (gE_mem (n := i.toNat) (by omega)) (fun h => by omega)]
    have c2 : ¬ (n ≤ (gE es i.toNat).1) := @of_decide_eq_false _ _ c2
    conv => whnf
    refine cond_intro (fun c3 => ?_) (fun c3 => ?_)
    · have c3 : (gE es i.toNat).2.1 < 0 := @of_decide_eq_true _ _ c3
      conv => whnf
      show (2 : Int) = validR n es
      rw [valid_ends z1 z2 z3 hcc (gE_mem (n := i.toNat) (by omega)) (fun h => by omega)]
    have c3 : ¬ ((gE es i.toNat).2.1 < 0) := @of_decide_eq_false _ _ c3
    conv => whnf
    refine cond_intro (fun c4 => ?_) (fun c4 => ?_)
    · have c4 : n ≤ (gE es i.toNat).2.1 := @of_decide_eq_true _ _ c4
      conv => whnf
      show (2 : Int) = validR n es
      rw [valid_ends z1 z2 z3 hcc (gE_mem (n := i.toNat) (by omega)) (fun h => by omega)]
    have c4 : ¬ (n ≤ (gE es i.toNat).2.1) := @of_decide_eq_false _ _ c4
    conv => whnf
    refine ⟨i + 1, ?_, ⟨by omega, by omega, fun k hk => ?_⟩, by omega⟩
    · exact Eq.trans (b := S18b n es (IntKind.i64.wrap (i + 1))) rfl (by rw [wi])
    · rw [ei] at hk
      rcases Nat.lt_or_eq_of_le (Nat.le_of_lt_succ hk) with g | g
      · exact hin k g
      · subst g; exact ⟨⟨by omega, by omega⟩, by omega, by omega⟩
  have hlt : ¬ (i < (es.length : Int)) := @of_decide_eq_false _ _ hlt
  conv => whnf
  show (0 : Int) = validR n es
  rw [valid_ok z1 z2 z3 hcc fun k hk => hin k (by omega)]
def S19a (n : Int) (es : List Ed) (i : Int) : SL := ⟨[.int .i64 n] ++ [.sl eT es] ++ List.replicate 16 .undef ++ [.sl eT es] ++ [.int .i64 es.length] ++ [.int .i64 i] ++ List.replicate 31 .undef, [], 0⟩
def S19b (n : Int) (es : List Ed) (i : Int) : SL := ⟨[.int .i64 n] ++ List.replicate 32 .undef ++ [.sl eT es] ++ [.int .i64 es.length] ++ [.int .i64 i] ++ List.replicate 16 .undef, [], 0⟩
def E19 : Env := ⟨tab, [(36, K36)], fun n => match n with | 6 => some ([0, 1, 18, 19, 20], [], []) | 12 => some ([0, 33, 34, 35], [], []) | _ => none⟩
def K19 : Fn1 := ⟨.fld I (.one (.sl eT)), .one I, fun _ => [], fun (a : Int × List Ed) => validR a.1 a.2⟩
theorem k19 : FnOk Go.Proofs.Try.prog 19 K19 := by
  refine fn_ok (E := E19) (TOk.of tab_told) (AllOk.cons k36 .nil).at_ mix Go.Proofs.Try.func19 rfl rfl (by kernel_rfl) K19 ?_
  rintro ⟨(n : Int), (es : List Ed)⟩ hp
  clear hp
  conv => whnf
  refine cond_intro (fun z1 => ?_) (fun z1 => ?_)
  · have z1 : 1000 < n := @of_decide_eq_true _ _ z1
    conv => whnf
    show (4 : Int) = validR n es
    rw [valid_large (Or.inl z1)]
  have z1 : ¬ (1000 < n) := @of_decide_eq_false _ _ z1
  conv => whnf
  refine cond_intro (fun z2 => ?_) (fun z2 => ?_)
  · have z2 : 4000 < (es.length : Int) := @of_decide_eq_true _ _ z2
    conv => whnf
    show (4 : Int) = validR n es
    rw [valid_large (Or.inr z2)]
  have z2 : ¬ (4000 < (es.length : Int)) := @of_decide_eq_false _ _ z2
  conv => whnf
  refine cond_intro (fun z3 => ?_) (fun z3 => ?_)
  · have z3 : n < 0 := @of_decide_eq_true _ _ z3
    conv => whnf
    show (1 : Int) = validR n es
    rw [valid_neg z1 z2 z3]
  have z3 : ¬ (n < 0) := @of_decide_eq_false _ _ z3
  conv => whnf
  refine loop_rule (fun i => S19a n es i) (fun i => ((es.length : Int) - i).toNat) (fun i => 0 ≤ i ∧ i ≤ es.length ∧ ∀ k, k < i.toNat → 0 ≤ (gE es k).2.2 ∧ (gE es k).2.2 ≤ 1000000) ?_ 0 (by kernel_rfl) ?_ ⟨by omega, by omega, fun k hk => by simp at hk⟩
  case refine_2 => rfl
  rintro i ⟨h0, i1, hin⟩
  conv => whnf
  refine cond_intro (fun hlt => ?_) (fun hlt => ?_)
  · have hlt : i < (es.length : Int) := @of_decide_eq_true _ _ hlt
    have wi : IntKind.i64.wrap (i + 1) = i + 1 := wrap_eq (by omega) (by omega)
    have ei : (i + 1).toNat = i.toNat + 1 := by omega
    conv => whnf
    refine ⟨h0, ?_⟩
    conv => whnf
    refine ⟨hlt, ?_⟩
    conv => whnf
    refine cond_intro (fun c1 => ?_) (fun c1 => ?_)
    · have c1 : (gE es i.toNat).2.2 < 0 := @of_decide_eq_true _ _ c1
      conv => whnf
      show (1 : Int) = validR n es
      rw [valid_cost z1 z2 z3 (gE_mem (n := i.toNat) (by omega)) (fun h => by omega)]
    have c1 : ¬ ((gE es i.toNat).2.2 < 0) := @of_decide_eq_false _ _ c1
    conv => whnf
    refine cond_intro (fun c2 => ?_) (fun c2 => ?_)
    · have c2 : 1000000 < (gE es i.toNat).2.2 := @of_decide_eq_true _ _ c2
      conv => whnf
      show (1 : Int) = validR n es
      rw [valid_cost z1 z2 z3 (gE_mem (n := i.toNat) (by omega)) (fun h => by omega)]
    have c2 : ¬ (1000000 < (gE es i.toNat).2.2) := @of_decide_eq_false _ _ c2
    conv => whnf
    refine ⟨i + 1, ?_, ⟨by omega, by omega, fun k hk => ?_⟩, by omega⟩
    · exact Eq.trans (b := S19a n es (IntKind.i64.wrap (i + 1))) rfl (by rw [wi])
    · rw [ei] at hk
      rcases Nat.lt_or_eq_of_le (Nat.le_of_lt_succ hk) with g | g
      · exact hin k g
      · subst g; exact ⟨by omega, by omega⟩
  have hlt : ¬ (i < (es.length : Int)) := @of_decide_eq_false _ _ hlt
  have hcc : ∀ k, k < es.length → 0 ≤ (gE es k).2.2 ∧ (gE es k).2.2 ≤ 1000000 := fun k hk => hin k (by omega)
  clear hin
  conv => whnf
  refine loop_rule (fun i => S19b n es i) (fun i => ((es.length : Int) - i).toNat) (fun i => 0 ≤ i ∧ i ≤ es.length ∧ ∀ k, k < i.toNat → (0 ≤ (gE es k).1 ∧ (gE es k).1 < n) ∧ 0 ≤ (gE es k).2.1 ∧ (gE es k).2.1 < n) ?_ 0 (by kernel_rfl) ?_ ⟨by omega, by omega, fun k hk => by simp at hk⟩
  case refine_2 => rfl
  rintro i ⟨h0, i1, hin⟩
  conv => whnf
  refine cond_intro (fun hlt => ?_) (fun hlt => ?_)
  · have hlt : i < (es.length : Int) := @of_decide_eq_true _ _ hlt
    have wi : IntKind.i64.wrap (i + 1) = i + 1 := wrap_eq (by omega) (by omega)
    have ei : (i + 1).toNat = i.toNat + 1 := by omega
    conv => whnf
    refine ⟨h0, ?_⟩
    conv => whnf
    refine ⟨hlt, ?_⟩
    conv => whnf
    refine cond_intro (fun c1 => ?_) (fun c1 => ?_)
    · have c1 : (!(isR n (gE es i.toNat).1)) = true := c1
      have c1 : (isR n (gE es i.toNat).1) = false := by cases e : (isR n (gE es i.toNat).1) with | false => rfl | true => exact absurd c1 (by rw [e]; decide)
      have c1' := mt isR_iff.2 (by rw [c1]; decide)
      conv => whnf
      show (2 : Int) = validR n es
      rw [valid_ends z1 z2 z3 hcc (gE_mem (n := i.toNat) (by omega)) (fun h => by omega)]
    have c1 : (!(isR n (gE es i.toNat).1)) = false := c1
    have c1 : (isR n (gE es i.toNat).1) = true := by cases e : (isR n (gE es i.toNat).1) with | true => rfl | false => exact absurd c1 (by rw [e]; decide)
    conv => whnf
    refine cond_intro (fun c2 => ?_) (fun c2 => ?_)
    · have c2 : (!(isR n (gE es i.toNat).2.1)) = true := c2
      have c2 : (isR n (gE es i.toNat).2.1) = false := by cases e : (isR n (gE es i.toNat).2.1) with | false => rfl | true => exact absurd c2 (by rw [e]; decide)
      have c2' := mt isR_iff.2 (by rw [c2]; decide)
      conv => whnf
      show (2 : Int) = validR n es
      rw [valid_ends z1 z2 z3 hcc (gE_mem (n := i.toNat) (by omega)) (fun h => by omega)]
    have c2 : (!(isR n (gE es i.toNat).2.1)) = false := c2
    have c2 : (isR n (gE es i.toNat).2.1) = true := by cases e : (isR n (gE es i.toNat).2.1) with | true => rfl | false => exact absurd c2 (by rw [e]; decide)
    have c1' := isR_iff.1 c1
    have c2' := isR_iff.1 c2
    conv => whnf
    refine ⟨i + 1, ?_, ⟨by omega, by omega, fun k hk => ?_⟩, by omega⟩
    · exact Eq.trans (b := S19b n es (IntKind.i64.wrap (i + 1))) rfl (by rw [wi])
    · rw [ei] at hk
      rcases Nat.lt_or_eq_of_le (Nat.le_of_lt_succ hk) with g | g
      · exact hin k g
      · subst g; exact ⟨c1', c2'⟩
  have hlt : ¬ (i < (es.length : Int)) := @of_decide_eq_false _ _ hlt
  conv => whnf
  show (0 : Int) = validR n es
  rw [valid_ok z1 z2 z3 hcc fun k hk => hin k (by omega)]
end
end Go.Proofs.Ythgclbohlcgdgaa.Eng
set_option linter.unusedVariables false
set_option linter.unusedSimpArgs false
namespace Go.Proofs.Ythgclbohlcgdgaa.Eng
open Go
set_option maxRecDepth 100000
noncomputable section
abbrev lT : Ty := .sl I
def turnR (e : Ed) : Ed := (e.2.1, e.1, e.2.2)
def eqI (l m : List Int) : Bool := decide (l = m)
def allR (n : Int) (l : List Int) : Bool := l.all (isR n)
def nodesR (n : Int) (es : List Ed) (ls : List (List Int)) : Int := if ¬ validR n es = 0 then validR n es else if ls.all (allR n) = true then 0 else 2
def largeN (m : Int) (ls : List (List Int)) : Int := ls.foldl (fun n l => max2 n l.length) m
def largeR (es : List Ed) (ls : List (List Int)) : Bool := decide (5000 < largeN es.length ls)
theorem largeN_le : ∀ (ls : List (List Int)) (m : Int), m ≤ largeN m ls ∧ ∀ l ∈ ls, (l.length : Int) ≤ largeN m ls
  | [], m => ⟨Int.le_refl _, fun l hl => by cases hl⟩
  | x :: r, m => by
    obtain ⟨a, b⟩ := largeN_le r (max2 m x.length)
    have e : largeN m (x :: r) = largeN (max2 m x.length) r := rfl
    have h1 : m ≤ max2 m x.length := by unfold max2; split <;> omega
    have h2 : (x.length : Int) ≤ max2 m x.length := by unfold max2; split <;> omega
    rw [e]
    refine ⟨Int.le_trans h1 a, fun l hl => ?_⟩
    rcases List.mem_cons.1 hl with rfl | hl
    · exact Int.le_trans h2 a
    · exact b l hl
theorem large_no {es : List Ed} {ls : List (List Int)} (h : largeR es ls = false) : es.length ≤ 5000 ∧ ∀ l ∈ ls, l.length ≤ 5000 := by
  unfold largeR at h
  have h := of_decide_eq_false h
  obtain ⟨a, b⟩ := largeN_le ls es.length
  refine ⟨by omega, fun l hl => ?_⟩
  have := b l hl
  omega
theorem largeN_take {m : Int} {ls : List (List Int)} {i : Nat} (h : i < ls.length) : largeN m (ls.take (i + 1)) = max2 (largeN m (ls.take i)) (gIs ls i).length := by
  rw [List.take_succ_eq_append_getElem h, gIs_eq h]
  unfold largeN
  rw [List.foldl_append]
  rfl
theorem nodes_no {n : Int} {es : List Ed} {ls : List (List Int)} (hv : validR n es = 0) {l : List Int} {k : Int} (hl : l ∈ ls) (hk : k ∈ l) (hb : ¬ (0 ≤ k ∧ k < n)) : nodesR n es ls = 2 := by
  have h1 : isR n k = false := by cases h : isR n k; rfl; exact absurd (isR_iff.1 h) hb
  rw [nodesR, if_neg (by simp [hv]), if_neg (by rw [all_not hl (all_not hk h1)]; decide)]
theorem nodes_ok {n : Int} {es : List Ed} {ls : List (List Int)} (hv : validR n es = 0) (h : ∀ j, j < ls.length → ∀ k, k < (gIs ls j).length → 0 ≤ gI (gIs ls j) k ∧ gI (gIs ls j) k < n) : nodesR n es ls = 0 := by
  rw [nodesR, if_neg (by simp [hv]), if_pos (all_take (gIs ls) (fun n h => gIs_eq h) fun j hj => all_take (gI _) (fun n h => gI_eq h) fun k hk => isR_iff.2 (h j hj k hk))]
theorem nodes_iff {n : Int} {es : List Ed} {ls : List (List Int)} (h : nodesR n es ls = 0) : validR n es = 0 ∧ ∀ l ∈ ls, ∀ k ∈ l, 0 ≤ k ∧ k < n := by
  unfold nodesR at h
  split at h
  · rename_i a; exact absurd h a
  · rename_i a
    split at h
    · rename_i b
      exact ⟨Decidable.not_not.1 a, fun l hl k hk => isR_iff.1 (List.all_eq_true.1 (List.all_eq_true.1 b l hl) k hk)⟩
    · cases h
theorem gIs_mem {l : List (List Int)} {n : Nat} (h : n < l.length) : gIs l n ∈ l := by rw [gIs_eq h]; exact List.getElem_mem _
theorem map_take {α β : Type} {f : α → β} {l : List α} {i : Nat} (x : α) (h : i < l.length) (e : x = l[i]) : (l.take (i + 1)).map f = (l.take i).map f ++ [f x] := by
  rw [List.take_succ_eq_append_getElem h, List.map_append, e]; rfl
def S40 (es out : List Ed) (i : Int) : SL := ⟨List.replicate 3 .undef ++ [.own 0] ++ List.replicate 2 .undef ++ [.sl eT es] ++ [.int .i64 es.length] ++ [.int .i64 i] ++ List.replicate 15 .undef, [(0, .arr eT out)], 1⟩
def E40 : Env := ⟨tab, [], fun n => match n with | 3 => some ([3, 6, 7, 8], [(3, eT)], []) | _ => none⟩
def K40 : Fn1 := ⟨.one (.sl eT), .one (.sl eT), fun (es : List Ed) => [es.length ≤ 2000000], fun (es : List Ed) => es.map turnR⟩
theorem k40 : FnOk Go.Proofs.Try.prog 40 K40 := by
  refine fn_ok (E := E40) (TOk.of tab_told) (fun f k h => by cases h) mix Go.Proofs.Try.func40 rfl rfl (by kernel_rfl) K40 ?_
  rintro (es : List Ed) hp
  have hl : es.length ≤ 2000000 := hp _ (List.mem_cons_self ..)
  clear hp
  conv => whnf
  refine loop_rule (fun i => S40 es ((es.take i.toNat).map turnR) i) (fun i => ((es.length : Int) - i).toNat) (fun i => 0 ≤ i ∧ i ≤ es.length) ?_ 0 (by kernel_rfl) ?_ ⟨by omega, by omega⟩
  case refine_2 => rfl
  rintro i ⟨h0, i1⟩
  have hln : ((es.take i.toNat).map turnR).length = i.toNat := by rw [List.length_map, List.length_take]; omega
  conv => whnf
  refine cond_intro (fun hlt => ?_) (fun hlt => ?_)
  · have hlt : i < (es.length : Int) := @of_decide_eq_true _ _ hlt
    have wi : IntKind.i64.wrap (i + 1) = i + 1 := wrap_eq (by omega) (by omega)
    have ei : (i + 1).toNat = i.toNat + 1 := by omega
    conv => whnf
    refine ⟨h0, ?_⟩
    conv => whnf
    refine ⟨hlt, ?_⟩
    conv => whnf
    refine ⟨show (((es.take i.toNat).map turnR).length + 1) * 24 ≤ 70368744177664 by omega, ?_⟩
    conv => whnf
    refine ⟨show ((es.take i.toNat).map turnR).length + 1 ≤ 70368744177664 by omega, ?_⟩
    conv => whnf
    refine ⟨i + 1, ?_, ⟨by omega, by omega⟩, by omega⟩
    exact Eq.trans (b := S40 es ((es.take i.toNat).map turnR ++ [turnR (gE es i.toNat)]) (IntKind.i64.wrap (i + 1))) rfl (by rw [wi, ei, map_take (gE es i.toNat) (by omega) (gE_eq (by omega))])
  have hlt : ¬ (i < (es.length : Int)) := @of_decide_eq_false _ _ hlt
  have ee : i.toNat = es.length := by omega
  conv => whnf
  show (es.take i.toNat).map turnR = es.map turnR
  rw [ee, List.take_length]
def S22 (l m : List Int) (i : Int) : SL := ⟨[.sl I l] ++ [.sl I m] ++ List.replicate 3 .undef ++ [.int .i64 i] ++ List.replicate 20 .undef, [], 0⟩
def E22 : Env := ⟨tab, [], fun n => match n with | 4 => some ([0, 1, 5], [], []) | _ => none⟩
def K22 : Fn1 := ⟨.fld (.sl I) (.one (.sl I)), .one .bool, fun (a : List Int × List Int) => [a.1.length ≤ 1000000000], fun (a : List Int × List Int) => eqI a.1 a.2⟩
theorem k22 : FnOk Go.Proofs.Try.prog 22 K22 := by
  refine fn_ok (E := E22) (TOk.of tab_told) (fun f k h => by cases h) mix Go.Proofs.Try.func22 rfl rfl (by kernel_rfl) K22 ?_
  rintro ⟨(l : List Int), (m : List Int)⟩ hp
  have hl : l.length ≤ 1000000000 := hp _ (List.mem_cons_self ..)
  clear hp
  conv => whnf
  refine cond_intro (fun h => ?_) (fun h => ?_)
  · have h : (!decide ((l.length : Int) = (m.length : Int))) = true := h
    have h : ¬ ((l.length : Int) = (m.length : Int)) := fun e => absurd h (by rw [decide_eq_true e]; decide)
    conv => whnf
    show false = eqI l m
    symm
    simp only [eqI, decide_eq_false_iff_not]
    intro e; subst e; exact h rfl
  have h : (!decide ((l.length : Int) = (m.length : Int))) = false := h
  have h : (l.length : Int) = (m.length : Int) := Decidable.byContradiction fun e => absurd h (by rw [decide_eq_false e]; decide)
  have h : l.length = m.length := by omega
  conv => whnf
  refine loop_rule (S22 l m) (fun i => ((l.length : Int) - i).toNat) (fun i => 0 ≤ i ∧ i ≤ l.length ∧ l.take i.toNat = m.take i.toNat) ?_ 0 (by kernel_rfl) ?_ ⟨by omega, by omega, by simp⟩
  case refine_2 => rfl
  rintro i ⟨h0, i1, h2⟩
  conv => whnf
  refine cond_intro (fun hlt => ?_) (fun hlt => ?_)
  · have hlt : i < (l.length : Int) := @of_decide_eq_true _ _ hlt
    have wi : IntKind.i64.wrap (i + 1) = i + 1 := wrap_eq (by omega) (by omega)
    have ei : (i + 1).toNat = i.toNat + 1 := by omega
    have hlm : i < (m.length : Int) := by omega
    have ht : l.take (i.toNat + 1) = l.take i.toNat ++ [gI l i.toNat] := by rw [List.take_succ_eq_append_getElem (by omega), gI_eq (by omega)]
    have ht' : m.take (i.toNat + 1) = m.take i.toNat ++ [gI m i.toNat] := by rw [List.take_succ_eq_append_getElem (by omega), gI_eq (by omega)]
    conv => whnf
    refine ⟨h0, ?_⟩
    conv => whnf
    refine ⟨hlt, ?_⟩
    conv => whnf
    refine ⟨h0, ?_⟩
    conv => whnf
    refine ⟨hlm, ?_⟩
    conv => whnf
    refine cond_intro (fun hd => ?_) (fun hd => ?_)
    · have hd : (!decide (gI l i.toNat = gI m i.toNat)) = true := hd
      have hd : ¬ (gI l i.toNat = gI m i.toNat) := fun e => absurd hd (by rw [decide_eq_true e]; decide)
      conv => whnf
      show false = eqI l m
      symm
      simp only [eqI, decide_eq_false_iff_not]
      intro e; subst e; exact hd rfl
    have hd : (!decide (gI l i.toNat = gI m i.toNat)) = false := hd
    have hd : gI l i.toNat = gI m i.toNat := Decidable.byContradiction fun e => absurd hd (by rw [decide_eq_false e]; decide)
    conv => whnf
    refine ⟨i + 1, ?_, ⟨by omega, by omega, ?_⟩, by omega⟩
    · exact Eq.trans (b := S22 l m (IntKind.i64.wrap (i + 1))) rfl (by rw [wi])
    · rw [ei, ht, ht', h2, hd]
  have hlt : ¬ (i < (l.length : Int)) := @of_decide_eq_false _ _ hlt
  conv => whnf
  show true = eqI l m
  symm
  simp only [eqI, decide_eq_true_eq]
  rw [List.take_of_length_le (by omega), List.take_of_length_le (by omega)] at h2
  exact h2
def S43 (n : Int) (l : List Int) (i : Int) : SL := ⟨[.int .i64 n] ++ List.replicate 6 .undef ++ [.sl I l] ++ [.int .i64 l.length] ++ [.int .i64 i] ++ List.replicate 8 .undef, [], 0⟩
def E43 : Env := ⟨tab, [(36, K36)], fun n => match n with | 2 => some ([0, 7, 8, 9], [], []) | _ => none⟩
def K43 : Fn1 := ⟨.fld I (.one (.sl I)), .one .bool, fun (a : Int × List Int) => [a.2.length ≤ 140737488351232], fun (a : Int × List Int) => allR a.1 a.2⟩
theorem k43 : FnOk Go.Proofs.Try.prog 43 K43 := by
  refine fn_ok (E := E43) (TOk.of tab_told) (AllOk.cons k36 .nil).at_ mix Go.Proofs.Try.func43 rfl rfl (by kernel_rfl) K43 ?_
  rintro ⟨(n : Int), (l : List Int)⟩ hp
  have hl : l.length ≤ 140737488351232 := hp _ (List.mem_cons_self ..)
  clear hp
  conv => whnf
  refine loop_rule (S43 n l) (fun i => ((l.length : Int) - i).toNat) (fun i => 0 ≤ i ∧ i ≤ l.length ∧ ∀ k, k < i.toNat → isR n (gI l k) = true) ?_ 0 (by kernel_rfl) ?_ ⟨by omega, by omega, fun k hk => by simp at hk⟩
  case refine_2 => rfl
  rintro i ⟨h0, i1, hin⟩
  conv => whnf
  refine cond_intro (fun hlt => ?_) (fun hlt => ?_)
  · have hlt : i < (l.length : Int) := @of_decide_eq_true _ _ hlt
    have wi : IntKind.i64.wrap (i + 1) = i + 1 := wrap_eq (by omega) (by omega)
    have ei : (i + 1).toNat = i.toNat + 1 := by omega
    conv => whnf
    refine ⟨h0, ?_⟩
    conv => whnf
    refine ⟨hlt, ?_⟩
    conv => whnf
    refine cond_intro (fun hb => ?_) (fun hb => ?_)
    · have hb : (!(isR n (gI l i.toNat))) = true := hb
      have hb : (isR n (gI l i.toNat)) = false := by cases e : (isR n (gI l i.toNat)) with | false => rfl | true => exact absurd hb (by rw [e]; decide)
      conv => whnf
      show false = allR n l
      rw [allR, all_not (gI_mem (n := i.toNat) (by omega)) hb]
    have hb : (!(isR n (gI l i.toNat))) = false := hb
    have hb : (isR n (gI l i.toNat)) = true := by cases e : (isR n (gI l i.toNat)) with | true => rfl | false => exact absurd hb (by rw [e]; decide)
    conv => whnf
    refine ⟨i + 1, ?_, ⟨by omega, by omega, fun k hk => ?_⟩, by omega⟩
    · exact Eq.trans (b := S43 n l (IntKind.i64.wrap (i + 1))) rfl (by rw [wi])
    · rw [ei] at hk
      rcases Nat.lt_or_eq_of_le (Nat.le_of_lt_succ hk) with g | g
      · exact hin k g
      · subst g; exact hb
  have hlt : ¬ (i < (l.length : Int)) := @of_decide_eq_false _ _ hlt
  conv => whnf
  show true = allR n l
  rw [allR, all_take (gI l) (fun n h => gI_eq h) fun k hk => hin k (by omega)]
def S37a (n : Int) (ls : List (List Int)) (i : Int) : SL := ⟨[.int .i64 n] ++ List.replicate 17 .undef ++ [.sl lT ls] ++ [.int .i64 ls.length] ++ [.int .i64 i] ++ List.replicate 18 .undef, [], 0⟩
def S37b (n : Int) (ls : List (List Int)) (i : Int) (l : List Int) (j : Int) : SL := ⟨[.int .i64 n] ++ List.replicate 17 .undef ++ [.sl lT ls] ++ [.int .i64 ls.length] ++ [.int .i64 i] ++ List.replicate 3 .undef ++ [.sl I l] ++ [.int .i64 l.length] ++ [.int .i64 j] ++ List.replicate 12 .undef, [], 0⟩
def E37 : Env := ⟨tab, [(18, K18)], fun n => match n with | 5 => some ([0, 18, 19, 20], [], []) | 8 => some ([0, 18, 19, 20, 24, 25, 26], [], []) | _ => none⟩
def K37 : Fn1 := ⟨.fld I (.fld (.sl eT) (.one (.sl lT))), .one I, fun (a : Int × List Ed × List (List Int)) => [a.2.2.length ≤ 100000, ∀ l ∈ a.2.2, l.length ≤ 140737488351232], fun (a : Int × List Ed × List (List Int)) => nodesR a.1 a.2.1 a.2.2⟩
theorem k37 : FnOk Go.Proofs.Try.prog 37 K37 := by
  refine fn_ok (E := E37) (TOk.of tab_told) (AllOk.cons k18 .nil).at_ mix Go.Proofs.Try.func37 rfl rfl (by kernel_rfl) K37 ?_
  rintro ⟨(n : Int), (es : List Ed), (ls : List (List Int))⟩ hp
  have hl : ls.length ≤ 100000 := hp _ (List.mem_cons_self ..)
  have hls : ∀ l ∈ ls, l.length ≤ 140737488351232 := hp _ (List.mem_cons_of_mem _ (List.mem_cons_self ..))
  clear hp
  conv => whnf
  refine cond_intro (fun hv => ?_) (fun hv => ?_)
  · have hv : (!decide (validR n es = 0)) = true := hv
    have hv : ¬ (validR n es = 0) := fun e => absurd hv (by rw [decide_eq_true e]; decide)
    conv => whnf
    show validR n es = nodesR n es ls
    rw [nodesR, if_pos hv]
  have hv : (!decide (validR n es = 0)) = false := hv
  have hv : validR n es = 0 := Decidable.byContradiction fun e => absurd hv (by rw [decide_eq_false e]; decide)
  conv => whnf
  refine loop_rule (S37a n ls) (fun i => ((ls.length : Int) - i).toNat) (fun i => 0 ≤ i ∧ i ≤ ls.length ∧ ∀ j, j < i.toNat → ∀ k, k < (gIs ls j).length → 0 ≤ gI (gIs ls j) k ∧ gI (gIs ls j) k < n) ?_ 0 (by kernel_rfl) ?_ ⟨by omega, by omega, fun k hk => by simp at hk⟩
  case refine_2 => rfl
  rintro i ⟨h0, i1, hin⟩
  conv => whnf
  refine cond_intro (fun hlt => ?_) (fun hlt => ?_)
  · have hlt : i < (ls.length : Int) := @of_decide_eq_true _ _ hlt
    have hll := hls (gIs ls i.toNat) (gIs_mem (n := i.toNat) (by omega))
    have wi : IntKind.i64.wrap (i + 1) = i + 1 := wrap_eq (by omega) (by omega)
    have ei : (i + 1).toNat = i.toNat + 1 := by omega
    conv => whnf
    refine ⟨h0, ?_⟩
    conv => whnf
    refine ⟨hlt, ?_⟩
    conv => whnf
    refine loop_rule (fun j => S37b n ls i (gIs ls i.toNat) j) (fun j => (((gIs ls i.toNat).length : Int) - j).toNat) (fun j => 0 ≤ j ∧ j ≤ (gIs ls i.toNat).length ∧ ∀ k, k < j.toNat → 0 ≤ gI (gIs ls i.toNat) k ∧ gI (gIs ls i.toNat) k < n) ?_ 0 (by kernel_rfl) ?_ ⟨by omega, by omega, fun k hk => by simp at hk⟩
    case refine_2 => rfl
    rintro j ⟨j0, j1, jin⟩
    conv => whnf
    refine cond_intro (fun jlt => ?_) (fun jlt => ?_)
    · have jlt : j < ((gIs ls i.toNat).length : Int) := @of_decide_eq_true _ _ jlt
      have wj : IntKind.i64.wrap (j + 1) = j + 1 := wrap_eq (by omega) (by omega)
      have ej : (j + 1).toNat = j.toNat + 1 := by omega
      conv => whnf
      refine ⟨j0, ?_⟩
      conv => whnf
      refine ⟨jlt, ?_⟩
      conv => whnf
      refine cond_intro (fun c1 => ?_) (fun c1 => ?_)
      · have c1 : gI (gIs ls i.toNat) j.toNat < 0 := @of_decide_eq_true _ _ c1
        conv => whnf
        show (2 : Int) = nodesR n es ls
        rw [nodes_no hv (gIs_mem (n := i.toNat) (by omega)) (gI_mem (n := j.toNat) (by omega)) (fun h => by omega)]
      have c1 : ¬ (gI (gIs ls i.toNat) j.toNat < 0) := @of_decide_eq_false _ _ c1
      conv => whnf
      refine cond_intro (fun c2 => ?_) (fun c2 => ?_)
      · have c2 : n ≤ gI (gIs ls i.toNat) j.toNat := @of_decide_eq_true _ _ c2
        conv => whnf
        show (2 : Int) = nodesR n es ls
        rw [nodes_no hv (gIs_mem (n := i.toNat) (by omega)) (gI_mem (n := j.toNat) (by omega)) (fun h => by omega)]
      have c2 : ¬ (n ≤ gI (gIs ls i.toNat) j.toNat) := @of_decide_eq_false _ _ c2
      conv => whnf
      refine ⟨j + 1, ?_, ⟨by omega, by omega, fun k hk => ?_⟩, by omega⟩
      · exact Eq.trans (b := S37b n ls i (gIs ls i.toNat) (IntKind.i64.wrap (j + 1))) rfl (by rw [wj])
      · rw [ej] at hk
        rcases Nat.lt_or_eq_of_le (Nat.le_of_lt_succ hk) with g | g
        · exact jin k g
        · subst g; exact ⟨by omega, by omega⟩
    have jlt : ¬ (j < ((gIs ls i.toNat).length : Int)) := @of_decide_eq_false _ _ jlt
    conv => whnf
    refine ⟨i + 1, ?_, ⟨by omega, by omega, fun k hk => ?_⟩, by omega⟩
    · exact Eq.trans (b := S37a n ls (IntKind.i64.wrap (i + 1))) rfl (by rw [wi])
    · rw [ei] at hk
      rcases Nat.lt_or_eq_of_le (Nat.le_of_lt_succ hk) with g | g
      · exact hin k g
      · subst g; exact fun q hq => jin q (by omega)
  have hlt : ¬ (i < (ls.length : Int)) := @of_decide_eq_false _ _ hlt
  conv => whnf
  show (0 : Int) = nodesR n es ls
  rw [nodes_ok hv fun j hj => hin j (by omega)]
def S16 (ls : List (List Int)) (m i : Int) : SL := ⟨List.replicate 5 .undef ++ [.int .i64 m] ++ List.replicate 4 .undef ++ [.sl lT ls] ++ [.int .i64 ls.length] ++ [.int .i64 i] ++ List.replicate 10 .undef, [], 0⟩
def E16 : Env := ⟨tab, [], fun n => match n with | 3 => some ([5, 10, 11, 12], [], []) | _ => none⟩
def K16 : Fn1 := ⟨.fld (.sl eT) (.one (.sl lT)), .one .bool, fun (a : List Ed × List (List Int)) => [a.2.length ≤ 100000], fun (a : List Ed × List (List Int)) => largeR a.1 a.2⟩
theorem k16 : FnOk Go.Proofs.Try.prog 16 K16 := by
  refine fn_ok (E := E16) (TOk.of tab_told) (fun f k h => by cases h) mix Go.Proofs.Try.func16 rfl rfl (by kernel_rfl) K16 ?_
  rintro ⟨(es : List Ed), (ls : List (List Int))⟩ hp
  have hl : ls.length ≤ 100000 := hp _ (List.mem_cons_self ..)
  clear hp
  conv => whnf
  refine loop_rule (fun i => S16 ls (largeN es.length (ls.take i.toNat)) i) (fun i => ((ls.length : Int) - i).toNat) (fun i => 0 ≤ i ∧ i ≤ ls.length) ?_ 0 (by kernel_rfl) ?_ ⟨by omega, by omega⟩
  case refine_2 => rfl
  rintro i ⟨h0, i1⟩
  conv => whnf
  refine cond_intro (fun hlt => ?_) (fun hlt => ?_)
  · have hlt : i < (ls.length : Int) := @of_decide_eq_true _ _ hlt
    have wi : IntKind.i64.wrap (i + 1) = i + 1 := wrap_eq (by omega) (by omega)
    have ei : (i + 1).toNat = i.toNat + 1 := by omega
    conv => whnf
    refine ⟨h0, ?_⟩
    conv => whnf
    refine ⟨hlt, ?_⟩
    conv => whnf
    refine ⟨i + 1, ?_, ⟨by omega, by omega⟩, by omega⟩
    exact Eq.trans (b := S16 ls (max2 (largeN es.length (ls.take i.toNat)) (gIs ls i.toNat).length) (IntKind.i64.wrap (i + 1))) rfl (by rw [wi, ei, largeN_take (by omega)])
  have hlt : ¬ (i < (ls.length : Int)) := @of_decide_eq_false _ _ hlt
  have ee : i.toNat = ls.length := by omega
  conv => whnf
  show decide (5000 < largeN es.length (ls.take i.toNat)) = largeR es ls
  rw [ee, List.take_length, largeR]
end
end Go.Proofs.Ythgclbohlcgdgaa.Eng
set_option linter.unusedVariables false
set_option linter.unusedSimpArgs false
namespace Go.Proofs
open Go.Shelf Go.RowKit Go.Lib Go.Sort
shelf_lay_g SlLaysF0.n6 Slsf 6 at Try 51 as Try.sortEd
end Go.Proofs
namespace Go.Proofs.Ythgclbohlcgdgaa.Eng
open Go Go.RowKit
set_option maxRecDepth 100000
noncomputable section
def E53 : Env := ⟨tab, [], fun n => match n with | 3 => some ([3, 6, 7, 8], [], []) | _ => none⟩
def K53 : Fn1 := ⟨.one (.sl I), .one I, fun (l : List Int) => [l.length ≤ 100000], fun (l : List Int) => (l.find? (fun n => decide (n ≠ 0))).getD 0⟩
def S53 (l : List Int) (i : Int) : SL := ⟨[.undef, .undef, .undef, .int .i64 0, .undef, .undef, .sl I l, .int .i64 l.length, .int .i64 i] ++ List.replicate 9 .undef, [], 0⟩
theorem k53 : FnOk Go.Proofs.Try.prog 53 K53 := by
  refine fn_ok (E := E53) (TOk.of tab_told) noK mix Go.Proofs.Try.func53 rfl rfl (by kernel_rfl) K53 ?_
  rintro (l : List Int) hp
  have hl : l.length ≤ 100000 := hp _ (List.mem_cons_self ..)
  clear hp
  conv => whnf
  refine loop_rule (S53 l) (fun i => ((l.length : Int) - i).toNat) (fun i => 0 ≤ i ∧ i ≤ l.length ∧ ∀ n ∈ l.take i.toNat, n = 0) ?_ 0 (by kernel_rfl) ?_ ⟨by omega, by omega, by simp⟩
  case refine_2 => rfl
  rintro i ⟨h0, h1, h2⟩
  conv => whnf
  have hsp : l = l.take i.toNat ++ l.drop i.toNat := (List.take_append_drop _ _).symm
  have hnone : (l.take i.toNat).find? (fun n => decide (n ≠ 0)) = none := by simpa using h2
  refine cond_intro (fun hlt => ?_) (fun hge => ?_)
  · have hlt : i < l.length := @of_decide_eq_true _ _ hlt
    have e : gI l i.toNat = l[i.toNat]'(by omega) := gI_eq _
    have hd : l.drop i.toNat = gI l i.toNat :: l.drop (i.toNat + 1) := by rw [List.drop_eq_getElem_cons (by omega), e]
    have ht : l.take (i.toNat + 1) = l.take i.toNat ++ [gI l i.toNat] := by rw [List.take_succ_eq_append_getElem (by omega), e]
    conv => whnf
    refine ⟨h0, ?_⟩
    conv => whnf
    refine ⟨hlt, ?_⟩
    conv => whnf
    refine cond_intro (fun hz => ?_) (fun hz => ?_)
    · have hz : gI l i.toNat ≠ 0 := by
        have hz : (!decide (gI l i.toNat = 0)) = true := hz
        simpa using hz
      conv => whnf
      show gI l i.toNat = (l.find? (fun n => decide (n ≠ 0))).getD 0
      rw [hsp, List.find?_append, hnone, ← hsp, hd]
      simp [hz]
    · have hz : gI l i.toNat = 0 := by
        have hz : (!decide (gI l i.toNat = 0)) = false := hz
        simpa using hz
      conv => whnf
      have hw : IntKind.i64.wrap (i + 1) = i + 1 := wrap_eq (by omega) (by omega)
      refine ⟨i + 1, ?_, ⟨by omega, by omega, ?_⟩, by omega⟩
      · exact Eq.trans (b := S53 l (IntKind.i64.wrap (i + 1))) rfl (by rw [hw])
      · rw [show (i + 1).toNat = i.toNat + 1 by omega, ht]
        intro n hn
        rcases List.mem_append.1 hn with hn | hn
        · exact h2 n hn
        · cases List.mem_singleton.1 hn
          exact hz
  · have hge : ¬ i < l.length := @of_decide_eq_false _ _ hge
    conv => whnf
    show 0 = (l.find? (fun n => decide (n ≠ 0))).getD 0
    rw [show l.take i.toNat = l from List.take_of_length_le (by omega)] at hnone
    rw [hnone]; rfl
def compareS (a b : Ed) : Int := ([cmpR a.1 b.1, cmpR a.2.1 b.2.1, cmpR a.2.2 b.2.2].find? (fun n => decide (n ≠ 0))).getD 0
theorem find3 (a b c : Int) : ([a, b, c].find? (fun n => decide (n ≠ 0))).getD 0 = if a ≠ 0 then a else if b ≠ 0 then b else c := by
  by_cases h1 : a = 0 <;> by_cases h2 : b = 0 <;> by_cases h3 : c = 0 <;> simp [h1, h2, h3]
theorem cmpR_lt (a b : Int) : cmpR a b < 0 ↔ a < b := by unfold cmpR; split <;> (try split) <;> omega
theorem cmpR_eq (a b : Int) : cmpR a b = 0 ↔ a = b := by unfold cmpR; split <;> (try split) <;> omega
def ltS (a b : Ed) : Bool := decide (compareS a b < 0)
theorem ltS_iff (a b : Ed) : ltS a b = true ↔ a.1 < b.1 ∨ (a.1 = b.1 ∧ (a.2.1 < b.2.1 ∨ (a.2.1 = b.2.1 ∧ a.2.2 < b.2.2))) := by
  unfold ltS
  rw [decide_eq_true_eq, compareS, find3]
  by_cases h1 : a.1 = b.1 <;> by_cases h2 : a.2.1 = b.2.1 <;> simp [cmpR_lt, cmpR_eq, h1, h2]
theorem ltS_no (a b : Ed) : ltS a b = false ↔ ¬ (a.1 < b.1 ∨ (a.1 = b.1 ∧ (a.2.1 < b.2.1 ∨ (a.2.1 = b.2.1 ∧ a.2.2 < b.2.2)))) := by
  rw [← ltS_iff, Bool.not_eq_true]
theorem swoS0 : Go.Sort.SWO ltS := by
  refine ⟨fun x => ?_, fun x y z h g => ?_, fun x y z h g => ?_⟩
  · rw [ltS_no]; omega
  · rw [ltS_iff] at *; omega
  · rw [ltS_no] at *; omega
theorem swoS : Go.Sort.SWO (ltOf (α := eT.D) compareS) := swoS0
def sortS (l : List Ed) : List Ed := sortD eT compareS l
theorem sortS_perm (l : List Ed) : (sortS l).Perm l := (sortD_perm swoS l).1
def E52 : Env := ⟨tab, [(54, K54), (53, K53)], ann0⟩
def K52 : Fn1 := ⟨.fld eT (.one eT), .one I, fun _ => [], fun (a : Ed × Ed) => compareS a.1 a.2⟩
theorem k52 : FnOk Go.Proofs.Try.prog 52 K52 := by
  refine fn_ok (E := E52) (TOk.of tab_told) (AllOk.cons k54 (.cons k53 .nil)).at_ mix Go.Proofs.Try.func52 rfl rfl (by kernel_rfl) K52 ?_
  rintro ⟨⟨(k : Int), (f : Int), (t : Int)⟩, ⟨(k' : Int), (f' : Int), (t' : Int)⟩⟩ hp
  clear hp
  conv => whnf
  refine ⟨show 3 ≤ 100000 by omega, ?_⟩
  conv => whnf
  rfl
def X51 : List AV → Nat → Rd Res := sortX eT 52 compareS
theorem k51 : FxOk Go.Proofs.Try.prog 51 X51 := sort_ok (t := eT) (ks := [5, 5, 5]) Go.Proofs.Try.sortEd rfl rfl Go.Proofs.Try.isAgg44 Go.Proofs.Try.sizeOf44 k52 ⟨_, _, Go.Proofs.Try.func51, rfl, rfl⟩
theorem sortS_sorted (l : List Ed) : (sortS l).Pairwise fun a b => ltS b a = false := by
  rw [List.pairwise_iff_getElem]
  intro i j hi hj hij
  exact (sortD_perm swoS l).2 i j _ _ hij (List.getElem?_eq_getElem hi) (List.getElem?_eq_getElem hj)
def K50 : Fn1 := ⟨.one (.sl eT), .one (.sl eT), fun (l : List Ed) => [l.length ≤ 2000000], fun (l : List Ed) => l⟩
theorem k50 : FnOk Go.Proofs.Try.prog 50 K50 := by
  refine fn_okN (E := E0) (TOk.of tab_told) noK mix Go.Proofs.Try.func50 rfl rfl (by kernel_rfl) eT (.one (.sl eT)) (fun (l : List Ed) => [l.length ≤ 2000000]) (fun (l : List Ed) => l) (fun hp => ?_) (fun (l : List Ed) hp => ?_)
  · clear hp
    conv => whnf
    rfl
  · have hl : l.length ≤ 2000000 := hp _ (List.mem_cons_self ..)
    clear hp
    conv => whnf
    refine ⟨show (0 + l.length) * 24 ≤ 70368744177664 by omega, ?_⟩
    conv => whnf
    refine ⟨show 0 + l.length ≤ 70368744177664 by omega, ?_⟩
    conv => whnf
    rfl
end
end Go.Proofs.Ythgclbohlcgdgaa.Eng
set_option linter.unusedVariables false
set_option linter.unusedSimpArgs false
namespace Go.Proofs.Ythgclbohlcgdgaa.Eng
open Go
set_option maxRecDepth 100000
noncomputable section
def keptAt (l : List Ed) (i : Nat) : Bool := !(decide (0 < i) && (decide ((gE l (i - 1)).1 = (gE l i).1) && decide ((gE l (i - 1)).2.1 = (gE l i).2.1)))
def keepT (l : List Ed) (j : Nat) : List Ed := ((List.range j).filter (keptAt l)).map (gE l)
def rowK (ks : List Ed) (a : Nat) : List Ed := ks.filter fun e => decide (e.1 = (a : Int))
def graphR (n : Int) (es : List Ed) : List (List Ed) := (List.range n.toNat).map (rowK (keepT (sortS es) (sortS es).length))
theorem kept_iff {l : List Ed} {i : Nat} : keptAt l i = true ↔ ¬ (0 < i ∧ (gE l (i - 1)).1 = (gE l i).1 ∧ (gE l (i - 1)).2.1 = (gE l i).2.1) := by
  unfold keptAt
  simp
  omega
theorem first_of {p : Nat → Prop} (h : ∃ k, p k) : ∃ k, p k ∧ ∀ m, m < k → ¬ p m := by
  obtain ⟨k, hk⟩ := h
  induction k using Nat.strongRecOn with
  | ind k ih =>
    by_cases g : ∃ m, m < k ∧ p m
    · obtain ⟨m, h1, h2⟩ := g
      exact ih m h1 h2
    · exact ⟨k, hk, fun m h1 h2 => g ⟨m, h1, h2⟩⟩
theorem keepT_yes {l : List Ed} {j : Nat} (h : keptAt l j = true) : keepT l (j + 1) = keepT l j ++ [gE l j] := by
  unfold keepT
  rw [List.range_succ, List.filter_append, List.map_append]
  simp [h]
theorem keepT_no {l : List Ed} {j : Nat} (h : keptAt l j = false) : keepT l (j + 1) = keepT l j := by
  unfold keepT
  rw [List.range_succ, List.filter_append, List.map_append]
  simp [h]
theorem mem_keepT {l : List Ed} {j : Nat} {e : Ed} : e ∈ keepT l j ↔ ∃ i, i < j ∧ keptAt l i = true ∧ gE l i = e := by
  unfold keepT
  simp only [List.mem_map, List.mem_filter, List.mem_range]
  constructor
  · rintro ⟨i, ⟨h1, h2⟩, h3⟩; exact ⟨i, h1, h2, h3⟩
  · rintro ⟨i, h1, h2, h3⟩; exact ⟨i, ⟨h1, h2⟩, h3⟩
/-- Ascending. -/
def Asc (l : List Ed) : Prop := ∀ i k, i < k → k < l.length → ltS (gE l k) (gE l i) = false
theorem asc_sort (l : List Ed) : Asc (sortS l) := by
  intro i k h1 h2
  have := List.pairwise_iff_getElem.1 (sortS_sorted l) i k (by omega) h2 h1
  rw [gE_eq h2, gE_eq (by omega)]
  exact this
theorem Asc.from_ {l : List Ed} (h : Asc l) {i k : Nat} (h1 : i ≤ k) (h2 : k < l.length) : (gE l i).1 ≤ (gE l k).1 := by
  rcases Nat.lt_or_eq_of_le h1 with g | g
  · have := h i k g h2
    rw [ltS_no] at this
    omega
  · subst g; exact Int.le_refl _
theorem Asc.lex {l : List Ed} (h : Asc l) {i k : Nat} (h1 : i ≤ k) (h2 : k < l.length) : (gE l i).1 < (gE l k).1 ∨ ((gE l i).1 = (gE l k).1 ∧ ((gE l i).2.1 < (gE l k).2.1 ∨ ((gE l i).2.1 = (gE l k).2.1 ∧ (gE l i).2.2 ≤ (gE l k).2.2))) := by
  rcases Nat.lt_or_eq_of_le h1 with g | g
  · have := h i k g h2
    rw [ltS_no] at this
    omega
  · subst g; omega
theorem rowK_app (ks : List Ed) (e : Ed) (a : Nat) : rowK (ks ++ [e]) a = rowK ks a ++ (if e.1 = (a : Int) then [e] else []) := by
  unfold rowK
  rw [List.filter_append]
  congr 1
  by_cases h : e.1 = (a : Int) <;> simp [h]
theorem rowK_none {ks : List Ed} {a : Nat} (h : ∀ e ∈ ks, e.1 < (a : Int)) : rowK ks a = [] := by
  unfold rowK
  rw [List.filter_eq_nil_iff]
  intro e he
  have := h e he
  simp
  omega
theorem keep_le {l : List Ed} (h : Asc l) {j : Nat} (hj : j < l.length) {e : Ed} (he : e ∈ keepT l (j + 1)) : e.1 ≤ (gE l j).1 := by
  obtain ⟨i, h1, h2, rfl⟩ := mem_keepT.1 he
  exact h.from_ (by omega) hj
def rowsTo (ks : List Ed) (a : Nat) : List (List Ed) := (List.range a).map (rowK ks)
theorem rowsTo_len (ks : List Ed) (a : Nat) : (rowsTo ks a).length = a := by simp [rowsTo]
theorem rowsTo_succ (ks : List Ed) (a : Nat) : rowsTo ks (a + 1) = rowsTo ks a ++ [rowK ks a] := by
  unfold rowsTo
  rw [List.range_succ, List.map_append]; rfl
theorem rowsTo_same {ks : List Ed} {e : Ed} {a : Nat} (h : (a : Int) ≤ e.1) : rowsTo (ks ++ [e]) a = rowsTo ks a := by
  unfold rowsTo
  refine List.map_congr_left fun b hb => ?_
  have := List.mem_range.1 hb
  rw [rowK_app, if_neg (by omega), List.append_nil]
theorem rowsTo_far {ks : List Ed} {a : Nat} (h : ∀ e ∈ ks, e.1 ≤ (a : Int)) : ∀ b, a < b → rowsTo ks b = rowsTo ks a ++ rowK ks a :: List.replicate (b - a - 1) [] := by
  intro b hb
  obtain ⟨d, rfl⟩ : ∃ d, b = a + 1 + d := ⟨b - a - 1, by omega⟩
  clear hb
  induction d with
  | zero => rw [Nat.add_zero, rowsTo_succ, show a + 1 - a - 1 = 0 by omega]; rfl
  | succ d ih =>
    have e0 : rowK ks (a + 1 + d) = [] := rowK_none fun e he => by have := h e he; omega
    rw [show a + 1 + (d + 1) = (a + 1 + d) + 1 by omega, rowsTo_succ, ih, e0]
    have e1 : a + 1 + d + 1 - a - 1 = (a + 1 + d - a - 1) + 1 := by omega
    rw [e1, List.replicate_succ', List.append_assoc]; rfl
theorem rowsTo_nil (a : Nat) : rowsTo [] a = List.replicate a [] := by
  unfold rowsTo rowK
  simp [List.map_const']
def lastA (l : List Ed) (j : Nat) : Nat := (gE l (j - 1)).1.toNat
theorem graph_end {n : Int} {es : List Ed} (h1 : 0 < (sortS es).length) (h2 : lastA (sortS es) (sortS es).length < n.toNat) (h3 : 0 ≤ (gE (sortS es) ((sortS es).length - 1)).1) :
    rowsTo (keepT (sortS es) (sortS es).length) (lastA (sortS es) (sortS es).length) ++ rowK (keepT (sortS es) (sortS es).length) (lastA (sortS es) (sortS es).length) :: List.replicate (n.toNat - lastA (sortS es) (sortS es).length - 1) [] = graphR n es := by
  rw [← rowsTo_far _ _ h2]
  · rfl
  · intro e he
    have e1 : (sortS es).length = ((sortS es).length - 1) + 1 := by omega
    rw [e1] at he
    have := keep_le (asc_sort es) (by omega) he
    unfold lastA
    omega
theorem graph_end0 {n : Int} {es : List Ed} (h1 : (sortS es).length = 0) : List.replicate n.toNat [] = graphR n es := by
  unfold graphR
  rw [h1]
  exact (rowsTo_nil n.toNat).symm
-- what the rows are
theorem graph_len (n : Int) (es : List Ed) : (graphR n es).length = n.toNat := by simp [graphR]
theorem graph_at {n : Int} {es : List Ed} {a : Nat} (h : a < n.toNat) : gEs (graphR n es) a = rowK (keepT (sortS es) (sortS es).length) a := by
  rw [gEs_eq (by rw [graph_len]; exact h)]
  simp [graphR]
theorem graph_sub {n : Int} {es : List Ed} {a : Nat} {e : Ed} (h : e ∈ gEs (graphR n es) a) : e ∈ es ∧ e.1 = (a : Int) := by
  by_cases ha : a < n.toNat
  · rw [graph_at ha] at h
    obtain ⟨h1, h2⟩ := List.mem_filter.1 h
    obtain ⟨i, g1, g2, rfl⟩ := mem_keepT.1 h1
    refine ⟨(sortS_perm es).mem_iff.1 (gE_mem g1), by simpa using h2⟩
  · have : gEs (graphR n es) a = [] := by
      unfold gEs
      rw [List.getD_eq_getElem?_getD, List.getElem?_eq_none (by rw [graph_len]; omega)]; rfl
    rw [this] at h
    cases h
theorem graph_sup {n : Int} {es : List Ed} {e : Ed} (he : e ∈ es) (h0 : 0 ≤ e.1) (h1 : e.1 < n) : ∃ e', e' ∈ gEs (graphR n es) e.1.toNat ∧ e'.2.1 = e.2.1 ∧ e'.2.2 ≤ e.2.2 := by
  obtain ⟨i, hi, ei⟩ := List.getElem_of_mem ((sortS_perm es).mem_iff.2 he)
  have ei : gE (sortS es) i = e := by rw [gE_eq hi]; exact ei
  have hex : ∃ k, k ≤ i ∧ (gE (sortS es) k).1 = e.1 ∧ (gE (sortS es) k).2.1 = e.2.1 := ⟨i, Nat.le_refl _, by rw [ei], by rw [ei]⟩
  obtain ⟨k, ⟨k1, k2, k3⟩, hmin⟩ : ∃ k, (k ≤ i ∧ (gE (sortS es) k).1 = e.1 ∧ (gE (sortS es) k).2.1 = e.2.1) ∧ ∀ m, m < k → ¬ (m ≤ i ∧ (gE (sortS es) m).1 = e.1 ∧ (gE (sortS es) m).2.1 = e.2.1) := first_of hex
  refine ⟨gE (sortS es) k, ?_, k3, ?_⟩
  · rw [graph_at (by omega)]
    refine List.mem_filter.2 ⟨mem_keepT.2 ⟨k, by omega, kept_iff.2 fun h => ?_, rfl⟩, by simp [k2]; omega⟩
    exact hmin (k - 1) (by omega) ⟨by omega, by rw [h.2.1, k2], by rw [h.2.2, k3]⟩
  · have := (asc_sort es).lex k1 hi
    rw [ei] at this
    omega
theorem graph_asc {n : Int} {es : List Ed} {a i k : Nat} (hik : i < k) (hk : k < (gEs (graphR n es) a).length) : (gE (gEs (graphR n es) a) i).2.1 < (gE (gEs (graphR n es) a) k).2.1 := by
  by_cases ha : a < n.toNat
  · rw [graph_at ha] at hk ⊢
    have hp : (rowK (keepT (sortS es) (sortS es).length) a).Pairwise fun x y => x.2.1 < y.2.1 := by
      unfold rowK keepT
      rw [List.filter_map, List.pairwise_map, List.filter_filter]
      have hr : (List.range (sortS es).length).Pairwise (· < ·) := List.pairwise_lt_range
      have hr2 := List.Pairwise.filter (fun i => ((fun e : Ed => decide (e.1 = (a : Int))) ∘ gE (sortS es)) i && keptAt (sortS es) i) hr
      refine List.Pairwise.imp_of_mem ?_ hr2
      intro x y hx hy hxy
      obtain ⟨x1, x2⟩ := List.mem_filter.1 hx
      obtain ⟨y1, y2⟩ := List.mem_filter.1 hy
      have y1 := List.mem_range.1 y1
      simp only [Bool.and_eq_true, Function.comp, decide_eq_true_eq] at x2 y2
      have a1 := (asc_sort es).lex (i := x) (k := y - 1) (by omega) (by omega)
      have a2 := (asc_sort es).lex (i := y - 1) (k := y) (by omega) (by omega)
      have a3 := kept_iff.1 y2.2
      have c1 : (gE (sortS es) x).1 = (a : Int) := x2.1
      have c2 : (gE (sortS es) y).1 = (a : Int) := y2.1
      omega
    rw [gE_eq hk, gE_eq (by omega)]
    exact List.pairwise_iff_getElem.1 hp i k _ _ hik
  · have : gEs (graphR n es) a = [] := by
      unfold gEs
      rw [List.getD_eq_getElem?_getD, List.getElem?_eq_none (by rw [graph_len]; omega)]; rfl
    rw [this] at hk
    simp at hk
end
end Go.Proofs.Ythgclbohlcgdgaa.Eng
set_option linter.unusedVariables false
set_option linter.unusedSimpArgs false
namespace Go.Proofs.Ythgclbohlcgdgaa.Eng
open Go
set_option maxRecDepth 100000
noncomputable section
def ks38 (l : List Ed) (j : Int) : List Ed := keepT l j.toNat
def a38 (l : List Ed) (j : Int) : Nat := lastA l j.toNat
def S38z (n : Int) (l : List Ed) (j : Int) : SL := ⟨List.replicate 5 .undef ++ [.own 0] ++ [.own 1] ++ List.replicate 8 .undef ++ [.own 1] ++ [.int .i64 l.length] ++ [.int .i64 j] ++ List.replicate 42 .undef, [(0, .tab eT n.toNat [] none), (1, .arr eT l)], 2⟩
def S38r (n : Int) (l : List Ed) (xss : List (List Ed)) (row : List Ed) (j : Int) : SL := ⟨List.replicate 5 .undef ++ [.own 0] ++ [.own 1] ++ List.replicate 8 .undef ++ [.own 1] ++ [.int .i64 l.length] ++ [.int .i64 j] ++ List.replicate 42 .undef, [(0, .tab eT n.toNat xss (some (some 2))), (1, .arr eT l), (2, .arr eT row)], 3⟩
def S38 (n : Int) (l : List Ed) (x : Bool × Int) : SL := match x.1 with | false => S38z n l x.2 | true => S38r n l (rowsTo (ks38 l x.2) (a38 l x.2)) (rowK (ks38 l x.2) (a38 l x.2)) x.2
theorem tab_own {ty : Ty} {xss : List (List ty.D)} {a i : Nat} (h : i = xss.length) : tabAt ty xss (some (some a)) i = .own a := by
  subst h
  unfold tabAt
  rw [Nat.ble_eq_true_of_le (Nat.le_refl _)]
  simp only [Nat.beq_refl]
theorem tab_nil {ty : Ty} {xss : List (List ty.D)} {a i : Nat} (h : xss.length < i) : tabAt ty xss (some (some a)) i = .nilsl := by
  unfold tabAt
  rw [Nat.ble_eq_true_of_le (Nat.le_of_lt h)]
  have : Nat.beq i xss.length = false := by
    cases e : Nat.beq i xss.length
    · rfl
    · have := Nat.eq_of_beq_eq_true e; omega
  simp only [this]
theorem row_len (l : List Ed) (j a : Nat) : (rowK (keepT l j) a).length ≤ j := by
  unfold rowK keepT
  refine Nat.le_trans (List.length_filter_le _ _) ?_
  rw [List.length_map]
  exact Nat.le_trans (List.length_filter_le _ _) (by simp)
theorem st_skip {n : Int} {l : List Ed} {j : Int} (ho : 1 ≤ j) (h1 : (gE l (j.toNat - 1)).1 = (gE l j.toNat).1) (h2 : (gE l (j.toNat - 1)).2.1 = (gE l j.toNat).2.1) : S38 n l (true, j + 1) = S38r n l (rowsTo (ks38 l j) (a38 l j)) (rowK (ks38 l j) (a38 l j)) (j + 1) := by
  have e : (j + 1).toNat = j.toNat + 1 := by omega
  have ek : ks38 l (j + 1) = ks38 l j := by
    unfold ks38
    rw [e, keepT_no]
    cases h : keptAt l j.toNat
    · rfl
    · exact absurd ⟨by omega, h1, h2⟩ (kept_iff.1 h)
  have ea : a38 l (j + 1) = a38 l j := by
    unfold a38 lastA
    rw [e, Nat.add_sub_cancel, h1]
  show S38r n l (rowsTo (ks38 l (j + 1)) (a38 l (j + 1))) (rowK (ks38 l (j + 1)) (a38 l (j + 1))) (j + 1) = _
  rw [ek, ea]
theorem st_same {n : Int} {l : List Ed} {j : Int} (ho : 1 ≤ j) (h0 : 0 ≤ (gE l j.toNat).1) (h1 : (gE l (j.toNat - 1)).1 = (gE l j.toNat).1) (h2 : ¬ (gE l (j.toNat - 1)).2.1 = (gE l j.toNat).2.1) : S38 n l (true, j + 1) = S38r n l (rowsTo (ks38 l j) (a38 l j)) (rowK (ks38 l j) (a38 l j) ++ [gE l j.toNat]) (j + 1) := by
  have e : (j + 1).toNat = j.toNat + 1 := by omega
  have ek : ks38 l (j + 1) = ks38 l j ++ [gE l j.toNat] := by
    unfold ks38
    rw [e, keepT_yes (kept_iff.2 fun h => h2 h.2.2)]
  have ea : a38 l (j + 1) = a38 l j := by
    unfold a38 lastA
    rw [e, Nat.add_sub_cancel, h1]
  have eb : ((a38 l j : Nat) : Int) = (gE l j.toNat).1 := by unfold a38 lastA; omega
  show S38r n l (rowsTo (ks38 l (j + 1)) (a38 l (j + 1))) (rowK (ks38 l (j + 1)) (a38 l (j + 1))) (j + 1) = _
  rw [ek, ea, rowsTo_same (by omega), rowK_app, if_pos (by omega)]
theorem st_new {n : Int} {l : List Ed} {j : Int} (hasc : Asc l) (hj : j.toNat < l.length) (ho : 1 ≤ j) (h0 : 0 ≤ (gE l (j.toNat - 1)).1) (h1 : ¬ (gE l (j.toNat - 1)).1 = (gE l j.toNat).1) : a38 l j < (gE l j.toNat).1.toNat ∧
    S38 n l (true, j + 1) = S38r n l (rowsTo (ks38 l j) (a38 l j) ++ rowK (ks38 l j) (a38 l j) :: List.replicate ((gE l j.toNat).1.toNat - a38 l j - 1) []) (([] : List Ed) ++ [gE l j.toNat]) (j + 1) := by
  have e : (j + 1).toNat = j.toNat + 1 := by omega
  have hle := hasc.from_ (i := j.toNat - 1) (k := j.toNat) (by omega) hj
  have ek : ks38 l (j + 1) = ks38 l j ++ [gE l j.toNat] := by
    unfold ks38
    rw [e, keepT_yes (kept_iff.2 fun h => h1 h.2.1)]
  have ea : a38 l (j + 1) = (gE l j.toNat).1.toNat := by
    unfold a38 lastA
    rw [e, Nat.add_sub_cancel]
  have eb : ((a38 l j : Nat) : Int) = (gE l (j.toNat - 1)).1 := by unfold a38 lastA; omega
  have hks : ∀ x ∈ ks38 l j, x.1 ≤ (a38 l j : Int) := by
    intro x hx
    unfold ks38 at hx
    rw [show j.toNat = (j.toNat - 1) + 1 by omega] at hx
    rw [eb]
    exact keep_le hasc (by omega) hx
  have hrn : rowK (ks38 l j) (gE l j.toNat).1.toNat = [] := rowK_none fun x hx => by have := hks x hx; omega
  refine ⟨by omega, ?_⟩
  show S38r n l (rowsTo (ks38 l (j + 1)) (a38 l (j + 1))) (rowK (ks38 l (j + 1)) (a38 l (j + 1))) (j + 1) = _
  rw [ek, ea, rowsTo_same (by omega), rowK_app, if_pos (by omega), rowsTo_far hks _ (by omega), hrn]
theorem st_first {n : Int} {l : List Ed} {j : Int} (hz : j = 0) (h0 : 0 ≤ (gE l j.toNat).1) : S38 n l (true, j + 1) = S38r n l (List.replicate (gE l j.toNat).1.toNat []) (([] : List Ed) ++ [gE l j.toNat]) (j + 1) := by
  subst hz
  have ek : ks38 l (0 + 1) = [] ++ [gE l 0] := by
    unfold ks38
    show keepT l (0 + 1) = _
    rw [keepT_yes (kept_iff.2 fun h => by omega)]; rfl
  show S38r n l (rowsTo (ks38 l (0 + 1)) (gE l 0).1.toNat) (rowK (ks38 l (0 + 1)) (gE l 0).1.toNat) (0 + 1) = S38r n l (List.replicate (gE l 0).1.toNat []) ([] ++ [gE l 0]) (0 + 1)
  have h0 : 0 ≤ (gE l 0).1 := h0
  rw [ek, rowsTo_same (by omega), rowK_app, if_pos (by omega), rowsTo_nil]
  rfl
def E38 : Env := ⟨tab, [(50, K50), (51, .eff X51)], fun n => match n with | 5 => some ([5, 6, 15, 16, 17], [], []) | 999998 => some ([], [], []) | _ => none⟩
def P38 (a : Int × List Ed) : List Prop := [0 ≤ a.1 ∧ a.1 ≤ 100000, a.2.length ≤ 2000000, ∀ e ∈ a.2, 0 ≤ e.1 ∧ e.1 < a.1]
theorem swo_len {es : List Ed} : (sortS es).length = es.length := (sortS_perm es).length_eq
set_option maxHeartbeats 4000000 in
theorem t38 : FnTab Go.Proofs.Try.prog 38 (.fld I (.one (.sl eT))) eT P38 (fun (a : Int × List Ed) => graphR a.1 a.2) := by
  refine fn_tab (E := E38) (TOk.of tab_told) (AllOk.cons k50 (.consX k51 .nil)).at_ mix Go.Proofs.Try.func38 rfl rfl (by kernel_rfl) (.fld I (.one (.sl eT))) eT rfl P38 (fun (a : Int × List Ed) => graphR a.1 a.2) ?_
  rintro ⟨(n : Int), (es : List Ed)⟩ hp
  have hn : 0 ≤ n ∧ n ≤ 100000 := hp _ (List.mem_cons_self ..)
  have hl : es.length ≤ 2000000 := hp _ (List.mem_cons_of_mem _ (List.mem_cons_self ..))
  have he : ∀ e ∈ es, 0 ≤ e.1 ∧ e.1 < n := hp _ (List.mem_cons_of_mem _ (List.mem_cons_of_mem _ (List.mem_cons_self ..)))
  clear hp
  conv => whnf
  refine ⟨hn.1, ?_⟩
  conv => whnf
  refine ⟨Int.le_refl _, ?_⟩
  conv => whnf
  refine ⟨show n * 24 ≤ 70368744177664 by omega, ?_⟩
  conv => whnf
  refine ⟨show n ≤ 70368744177664 by omega, ?_⟩
  conv => whnf
  refine ⟨show es.length ≤ 2000000 by omega, ?_⟩
  conv => whnf
  refine ⟨swoS, ?_⟩
  conv => whnf
  refine ⟨show es.length < 4611686018427387904 by omega, ?_⟩
  have hsl := swo_len (es := es)
  have hse : ∀ k, k < (sortS es).length → 0 ≤ (gE (sortS es) k).1 ∧ (gE (sortS es) k).1 < n := fun k hk => he _ ((sortS_perm es).mem_iff.1 (gE_mem hk))
  have hasc := asc_sort es
  conv => whnf
  refine loop_rule (S38 n (sortS es)) (fun x => (((sortS es).length : Int) - x.2).toNat) (fun x => 0 ≤ x.2 ∧ x.2 ≤ (sortS es).length ∧ (x.1 = false → x.2 = 0) ∧ (x.1 = true → 1 ≤ x.2)) ?_ (false, 0) (by kernel_rfl) ?_ ⟨Int.le_refl _, by show (0 : Int) ≤ _; omega, fun _ => rfl, fun h => by cases h⟩
  case refine_2 => rfl
  rintro ⟨st, j⟩ ⟨h0, j1, hz, ho⟩
  have h0 : 0 ≤ j := h0
  have j1 : j ≤ (sortS es).length := j1
  cases st
  · have hz : j = 0 := hz rfl
    conv => whnf
    refine cond_intro (fun hlt => ?_) (fun hlt => ?_)
    · have hlt : j < ((sortS es).length : Int) := @of_decide_eq_true _ _ hlt
      have wj : IntKind.i64.wrap (j + 1) = j + 1 := wrap_eq (by omega) (by omega)
      have ej : (j + 1).toNat = j.toNat + 1 := by omega
      have hj : j.toNat < (sortS es).length := by omega
      have w1 : IntKind.i64.wrap (j - 1) = j - 1 := wrap_eq (by omega) (by omega)
      have fr := hse _ hj
      conv => whnf
      refine ⟨h0, ?_⟩
      conv => whnf
      refine ⟨hlt, ?_⟩
      conv => whnf
      refine cond_intro (fun hpos => ?_) (fun hpos => ?_)
      · have hpos : 0 < j := @of_decide_eq_true _ _ hpos
        exact absurd hpos (by omega)
      have hpos : ¬ (0 < j) := @of_decide_eq_false _ _ hpos
      conv => whnf
      refine ⟨show 0 ≤ (gE (sortS es) j.toNat).1 by omega, ?_⟩
      conv => whnf
      refine ⟨show (gE (sortS es) j.toNat).1 < (n.toNat : Int) by omega, ?_⟩
      conv => whnf
      refine ⟨show (0 + 1) * 24 ≤ 70368744177664 by omega, ?_⟩
      conv => whnf
      refine ⟨show 0 + 1 ≤ 70368744177664 by omega, ?_⟩
      conv => whnf
      refine ⟨show 0 ≤ (gE (sortS es) j.toNat).1 by omega, ?_⟩
      conv => whnf
      refine ⟨show (gE (sortS es) j.toNat).1 < (n.toNat : Int) by omega, ?_⟩
      conv => whnf
      refine ⟨Nat.zero_le _, ?_⟩
      conv => whnf
      refine ⟨(true, j + 1), ?_, ⟨by show 0 ≤ j + 1; omega, by show j + 1 ≤ _; omega, fun h => (by cases h), fun _ => by show 1 ≤ j + 1; omega⟩, by show (((sortS es).length : Int) - (j + 1)).toNat < (((sortS es).length : Int) - j).toNat; omega⟩
      exact Eq.trans (b := S38r n (sortS es) (List.replicate (gE (sortS es) j.toNat).1.toNat []) (([] : List Ed) ++ [gE (sortS es) j.toNat]) (IntKind.i64.wrap (j + 1))) rfl (by rw [wj, st_first hz fr.1])
    have hlt : ¬ (j < ((sortS es).length : Int)) := @of_decide_eq_false _ _ hlt
    conv => whnf
    show List.replicate n.toNat ([] : List Ed) = graphR n es
    exact graph_end0 (by omega)
  · have ho : 1 ≤ j := ho rfl
    conv => whnf
    refine cond_intro (fun hlt => ?_) (fun hlt => ?_)
    · have hlt : j < ((sortS es).length : Int) := @of_decide_eq_true _ _ hlt
      have wj : IntKind.i64.wrap (j + 1) = j + 1 := wrap_eq (by omega) (by omega)
      have ej : (j + 1).toNat = j.toNat + 1 := by omega
      have hj : j.toNat < (sortS es).length := by omega
      have w1 : IntKind.i64.wrap (j - 1) = j - 1 := wrap_eq (by omega) (by omega)
      have fr := hse _ hj
      have t1 : (j - 1).toNat = j.toNat - 1 := by omega
      have hrl := row_len (sortS es) j.toNat (a38 (sortS es) j)
      have hrl : (rowK (ks38 (sortS es) j) (a38 (sortS es) j)).length ≤ j.toNat := hrl
      conv => whnf
      refine ⟨h0, ?_⟩
      conv => whnf
      refine ⟨hlt, ?_⟩
      conv => whnf
      refine cond_intro (fun hpos => ?_) (fun hpos => ?_)
      · have hpos : 0 < j := @of_decide_eq_true _ _ hpos
        conv => whnf
        refine ⟨show 0 ≤ IntKind.i64.wrap (j - 1) by omega, ?_⟩
        conv => whnf
        refine ⟨show IntKind.i64.wrap (j - 1) < ((sortS es).length : Int) by omega, ?_⟩
        conv => whnf
        refine cond_intro (fun q1 => ?_) (fun q1 => ?_)
        · have q1 : (gE (sortS es) (IntKind.i64.wrap (j - 1)).toNat).1 = (gE (sortS es) j.toNat).1 := @of_decide_eq_true _ _ q1
          conv => whnf
          refine ⟨show 0 ≤ IntKind.i64.wrap (j - 1) by omega, ?_⟩
          conv => whnf
          refine ⟨show IntKind.i64.wrap (j - 1) < ((sortS es).length : Int) by omega, ?_⟩
          conv => whnf
          refine cond_intro (fun q2 => ?_) (fun q2 => ?_)
          · have q2 : (gE (sortS es) (IntKind.i64.wrap (j - 1)).toNat).2.1 = (gE (sortS es) j.toNat).2.1 := @of_decide_eq_true _ _ q2
            have q1' : (gE (sortS es) (j.toNat - 1)).1 = (gE (sortS es) j.toNat).1 := by rw [w1, t1] at q1; exact q1
            have q2' : (gE (sortS es) (j.toNat - 1)).2.1 = (gE (sortS es) j.toNat).2.1 := by rw [w1, t1] at q2; exact q2
            conv => whnf
            refine ⟨(true, j + 1), ?_, ⟨by show 0 ≤ j + 1; omega, by show j + 1 ≤ _; omega, fun h => (by cases h), fun _ => by show 1 ≤ j + 1; omega⟩, by show (((sortS es).length : Int) - (j + 1)).toNat < (((sortS es).length : Int) - j).toNat; omega⟩
            exact Eq.trans (b := S38r n (sortS es) (rowsTo (ks38 (sortS es) j) (a38 (sortS es) j)) (rowK (ks38 (sortS es) j) (a38 (sortS es) j)) (IntKind.i64.wrap (j + 1))) rfl (by rw [wj, st_skip ho q1' q2'])
          have q2 : ¬ ((gE (sortS es) (IntKind.i64.wrap (j - 1)).toNat).2.1 = (gE (sortS es) j.toNat).2.1) := @of_decide_eq_false _ _ q2
          have q1' : (gE (sortS es) (j.toNat - 1)).1 = (gE (sortS es) j.toNat).1 := by rw [w1, t1] at q1; exact q1
          have q2' : ¬ (gE (sortS es) (j.toNat - 1)).2.1 = (gE (sortS es) j.toNat).2.1 := by rw [w1, t1] at q2; exact q2
          have hxe : Int.toNat (rd eT (sortS es) (true, j).snd.toNat).fst = (rowsTo (ks38 (sortS es) j) (a38 (sortS es) j)).length := by rw [rowsTo_len]; show (gE (sortS es) j.toNat).1.toNat = lastA (sortS es) j.toNat; unfold lastA; rw [q1']
          conv => whnf
          refine ⟨show 0 ≤ (gE (sortS es) j.toNat).1 by omega, ?_⟩
          conv => whnf
          refine ⟨show (gE (sortS es) j.toNat).1 < (n.toNat : Int) by omega, ?_⟩
          conv => whnf
          rw [tab_own (ty := eT) (show Int.toNat (rd eT (sortS es) (true, j).snd.toNat).fst = (rowsTo (ks38 (sortS es) (true, j).snd) (a38 (sortS es) (true, j).snd)).length from hxe)]
          conv => whnf
          refine ⟨show ((rowK (ks38 (sortS es) j) (a38 (sortS es) j)).length + 1) * 24 ≤ 70368744177664 by omega, ?_⟩
          conv => whnf
          refine ⟨show (rowK (ks38 (sortS es) j) (a38 (sortS es) j)).length + 1 ≤ 70368744177664 by omega, ?_⟩
          conv => whnf
          refine ⟨show 0 ≤ (gE (sortS es) j.toNat).1 by omega, ?_⟩
          conv => whnf
          refine ⟨show (gE (sortS es) j.toNat).1 < (n.toNat : Int) by omega, ?_⟩
          conv => whnf
          refine ⟨hxe, ?_⟩
          conv => whnf
          refine ⟨(true, j + 1), ?_, ⟨by show 0 ≤ j + 1; omega, by show j + 1 ≤ _; omega, fun h => (by cases h), fun _ => by show 1 ≤ j + 1; omega⟩, by show (((sortS es).length : Int) - (j + 1)).toNat < (((sortS es).length : Int) - j).toNat; omega⟩
          exact Eq.trans (b := S38r n (sortS es) (rowsTo (ks38 (sortS es) j) (a38 (sortS es) j)) (rowK (ks38 (sortS es) j) (a38 (sortS es) j) ++ [gE (sortS es) j.toNat]) (IntKind.i64.wrap (j + 1))) rfl (by rw [wj, st_same ho fr.1 q1' q2'])
        have q1 : ¬ ((gE (sortS es) (IntKind.i64.wrap (j - 1)).toNat).1 = (gE (sortS es) j.toNat).1) := @of_decide_eq_false _ _ q1
        have q1' : ¬ (gE (sortS es) (j.toNat - 1)).1 = (gE (sortS es) j.toNat).1 := by rw [w1, t1] at q1; exact q1
        obtain ⟨hx1, hx2⟩ := st_new (n := n) hasc hj ho (hse _ (by omega)).1 q1'
        have hxe : (rowsTo (ks38 (sortS es) j) (a38 (sortS es) j)).length < Int.toNat (rd eT (sortS es) (true, j).snd.toNat).fst := by rw [rowsTo_len]; exact hx1
        conv => whnf
        refine ⟨show 0 ≤ (gE (sortS es) j.toNat).1 by omega, ?_⟩
        conv => whnf
        refine ⟨show (gE (sortS es) j.toNat).1 < (n.toNat : Int) by omega, ?_⟩
        conv => whnf
        rw [tab_nil (ty := eT) (show (rowsTo (ks38 (sortS es) (true, j).snd) (a38 (sortS es) (true, j).snd)).length < Int.toNat (rd eT (sortS es) (true, j).snd.toNat).fst from hxe)]
        conv => whnf
        refine ⟨show (0 + 1) * 24 ≤ 70368744177664 by omega, ?_⟩
        conv => whnf
        refine ⟨show 0 + 1 ≤ 70368744177664 by omega, ?_⟩
        conv => whnf
        refine ⟨show 0 ≤ (gE (sortS es) j.toNat).1 by omega, ?_⟩
        conv => whnf
        refine ⟨show (gE (sortS es) j.toNat).1 < (n.toNat : Int) by omega, ?_⟩
        conv => whnf
        refine ⟨hxe, ?_⟩
        conv => whnf
        refine ⟨(true, j + 1), ?_, ⟨by show 0 ≤ j + 1; omega, by show j + 1 ≤ _; omega, fun h => (by cases h), fun _ => by show 1 ≤ j + 1; omega⟩, by show (((sortS es).length : Int) - (j + 1)).toNat < (((sortS es).length : Int) - j).toNat; omega⟩
        exact Eq.trans (b := S38r n (sortS es) (rowsTo (ks38 (sortS es) j) (a38 (sortS es) j) ++ rowK (ks38 (sortS es) j) (a38 (sortS es) j) :: List.replicate ((gE (sortS es) j.toNat).1.toNat - (rowsTo (ks38 (sortS es) j) (a38 (sortS es) j)).length - 1) []) (([] : List Ed) ++ [gE (sortS es) j.toNat]) (IntKind.i64.wrap (j + 1))) rfl (by rw [wj, rowsTo_len, hx2])
      have hpos : ¬ (0 < j) := @of_decide_eq_false _ _ hpos
      exact absurd hpos (by omega)
    have hlt : ¬ (j < ((sortS es).length : Int)) := @of_decide_eq_false _ _ hlt
    have ee : j.toNat = (sortS es).length := by omega
    have hb1 := hse ((sortS es).length - 1) (by omega)
    have hb2 : lastA (sortS es) (sortS es).length < n.toNat := by unfold lastA; omega
    conv => whnf
    show rowsTo (ks38 (sortS es) j) (a38 (sortS es) j) ++ rowK (ks38 (sortS es) j) (a38 (sortS es) j) :: List.replicate (n.toNat - (rowsTo (ks38 (sortS es) j) (a38 (sortS es) j)).length - 1) [] = graphR n es
    rw [rowsTo_len]
    unfold ks38 a38
    rw [ee]
    exact graph_end (by omega) hb2 hb1.1
def X38 : List AV → Nat → Rd Res := tabX (.fld I (.one (.sl eT))) eT P38 (fun (a : Int × List Ed) => graphR a.1 a.2)
theorem k38 : FxOk Go.Proofs.Try.prog 38 X38 := tab_fx rfl t38
end
end Go.Proofs.Ythgclbohlcgdgaa.Eng
set_option linter.unusedVariables false
set_option linter.unusedSimpArgs false
namespace Go.Proofs.Ythgclbohlcgdgaa.Eng
open Go
set_option maxRecDepth 100000
noncomputable section
def glA : AV → Option Gl
  | .agg [.int .i64 c, .int .i64 s, .bool b] => some (c, s, b)
  | _ => none
def inA : AV → Option Int
  | .int .i64 n => some n
  | _ => none
def ptr0 : AV → Option Nat
  | .ptr h 0 0 => some h
  | _ => none
def boxOwn : Option Ob → Option Nat
  | some (.box [.own h]) => some h
  | _ => none
def arG : Option Ob → Option (List Gl)
  | some (.arr (.fld (.int .i64) (.fld (.int .i64) (.one .bool))) xs) => some xs
  | _ => none
theorem glA_some {a : AV} {s : Gl} (h : glA a = some s) : a = .agg [.int .i64 s.1, .int .i64 s.2.1, .bool s.2.2] := by
  unfold glA at h; split at h <;> cases h; rfl
theorem inA_some {a : AV} {n : Int} (h : inA a = some n) : a = .int .i64 n := by
  unfold inA at h; split at h <;> cases h; rfl
theorem ptr0_some {a : AV} {n : Nat} (h : ptr0 a = some n) : a = .ptr n 0 0 := by
  unfold ptr0 at h; split at h <;> cases h; rfl
theorem boxOwn_some {o : Option Ob} {n : Nat} (h : boxOwn o = some n) : o = some (.box [.own n]) := by
  unfold boxOwn at h; split at h <;> cases h; rfl
theorem arG_some {o : Option Ob} {xs : List Gl} (h : arG o = some xs) : o = some (.arr gT xs) := by
  unfold arG at h; split at h <;> cases h; rfl
/-- Is a pair better than what is told of a node? -/
def betterQ (out : List Gl) (k : Int) (x : Gl) : Bool := !(gG out k.toNat).2.2 || lessR x.1 x.2.1 (gG out k.toNat).1 (gG out k.toNat).2.1
def relaxR (out : List Gl) (k : Int) (x : Gl) : List Gl := if betterQ out k x = true then out.set k.toNat x else out
def ans55 (h ha base : Nat) (out : List Gl) (k : Int) (x : Gl) : Res :=
  ⟨[0 ≤ k ∧ k < (out.length : Int)], .tup [], [(ha, none), (base, some (.arr gT (relaxR out k x))), (h, some (.box [.own base]))]⟩
def read55 (k : Int) (x : Gl) (h base : Nat) : Rd Res :=
  .get h fun o => (match boxOwn o with
    | some ha => .get ha fun oa => (match arG oa with
      | some out => .ok (ans55 h ha base out k x)
      | none => .bad)
    | none => .bad)
def X55 (args : List AV) (base : Nat) : Rd Res :=
  match args with
  | [a, b, c] => (match inA a, glA b, ptr0 c with
    | some k, some x, some h => read55 k x h base
    | _, _, _ => .bad)
  | _ => .bad
theorem read55_run {k : Int} {x : Gl} {h base : Nat} {H : Nat → Option Ob} {r : Res} (hr : (read55 k x h base).run H = some r) : ∃ (ha : Nat) (out : List Gl), H h = some (.box [.own ha]) ∧ H ha = some (.arr gT out) ∧ r = ans55 h ha base out k x := by
  unfold read55 at hr
  change (match boxOwn (H h) with
    | some ha => Rd.get ha fun oa => (match arG oa with
      | some out => .ok (ans55 h ha base out k x)
      | none => .bad)
    | none => Rd.bad).run H = some r at hr
  split at hr
  · rename_i ha e1
    change (match arG (H ha) with
      | some out => Rd.ok (ans55 h ha base out k x)
      | none => .bad).run H = some r at hr
    split at hr
    · rename_i out e2
      cases hr
      exact ⟨ha, out, boxOwn_some e1, arG_some e2, rfl⟩
    · cases hr
  · cases hr
theorem upd_self (H : Nat → Option Ob) (h : Nat) (o : Option Ob) : upd H h o h = o := by
  show (match Nat.beq h h with | true => o | false => H h) = o
  rw [show Nat.beq h h = true from Nat.beq_refl h]
theorem upd_off (H : Nat → Option Ob) {h n : Nat} (o : Option Ob) (hn : n ≠ h) : upd H h o n = H n := by
  have e : Nat.beq n h = false := by
    cases e : Nat.beq n h
    · rfl
    · exact absurd (Nat.eq_of_beq_eq_true e) hn
  show (match Nat.beq n h with | true => o | false => H n) = H n
  rw [e]
theorem idx_ne {n m : Nat} {l : List Nat} (h : n ≠ m) : idx n (m :: l) = (match idx n l with | some i => some (i + 1) | none => none) := by
  have e : Nat.beq n m = false := by
    cases e : Nat.beq n m
    · rfl
    · exact absurd (Nat.eq_of_beq_eq_true e) h
  show (match Nat.beq n m with | true => some 0 | false => match idx n l with | some i => some (i + 1) | none => none) = _
  rw [e]
theorem idx_at {n : Nat} {l : List Nat} : idx n (n :: l) = some 0 := by
  show (match Nat.beq n n with | true => some 0 | false => match idx n l with | some i => some (i + 1) | none => none) = _
  rw [show Nat.beq n n = true from Nat.beq_refl n]
theorem sub55 {h ha base : Nat} {a b : AV} {H : Nat → Option Ob} {st : SL} {out out' : List Gl} {k : Int} {x : Gl} (g1 : H h = some (.box [.own ha]))
    (he : relaxR out k x = out') (i2 : lget st.slots 2 = some (.ptr 0 0 0)) (b0 : hget st.heap 0 = some (.box [.own 1])) (b1 : hget st.heap 1 = some (.arr gT out')) :
    SubEnd [a, b, .ptr h 0 0] H [h, ha] base st (ans55 h ha base out k x) [2] := by
  subst he
  refine ⟨[(2, h, [.own 1])], [1], [.arr gT (relaxR out k x)], ?_, ?_, ?_, by show 1 ≤ 8; omega, rfl, ?_⟩
  · intro p hp
    cases List.mem_singleton.1 hp
    exact ⟨by simp, rfl, ⟨0, i2, b0⟩, _, g1, rfl⟩
  · intro j q hj
    rcases j with _ | j
    · cases (show some 1 = some q from hj)
      exact ⟨_, rfl, b1, rfl⟩
    · simp at hj
  · simp
  · intro q o hq
    have hq : upd (upd (upd H ha none) base (some (.arr gT (relaxR out k x)))) h (some (.box [.own base])) q = some o := hq
    by_cases k1 : q = h
    · subst k1
      rw [upd_self] at hq
      cases hq
      exact Or.inr (Or.inl ⟨(2, q, [.own 1]), by simp, rfl, rfl⟩)
    rw [upd_off _ _ k1] at hq
    by_cases k4 : q = base
    · subst k4
      rw [upd_self] at hq
      cases hq
      exact Or.inr (Or.inr ⟨0, by show 0 < 1; omega, rfl, rfl⟩)
    rw [upd_off _ _ k4] at hq
    by_cases k5 : q = ha
    · subst k5
      rw [upd_self] at hq
      cases hq
    rw [upd_off _ _ k5] at hq
    exact Or.inl ⟨hq, by simp [k1, k5]⟩
def E55 : Env := ⟨tab, [(41, K41)], ann0⟩
theorem k55 : FxOk Go.Proofs.Try.prog 55 X55 := by
  refine fx_sub (E := E55) (TOk.of tab_told) (AllOk.cons k41 .nil).at_ mix (f := 55) Go.Proofs.Try.func55 rfl rfl rfl (by kernel_rfl) ?_
  intro args base H r hr hp
  unfold X55 at hr
  split at hr
  rotate_left
  · cases hr
  rename_i a b c
  split at hr
  rotate_left
  · cases hr
  rename_i k x h e1 e2 e3
  obtain ⟨ha, out, g1, g2, rfl⟩ := read55_run hr
  obtain ⟨p1, p2⟩ : 0 ≤ k ∧ k < (out.length : Int) := hp _ List.mem_cons_self
  cases inA_some e1
  cases glA_some e2
  cases ptr0_some e3
  clear hr hp e1 e2 e3
  have d1 : h ≠ ha := by rintro rfl; rw [g1] at g2; cases g2
  refine ⟨⟨[h, ha], [.int .i64 k, .agg [.int .i64 x.1, .int .i64 x.2.1, .bool x.2.2], .ptr 0 0 0], [(0, .box [.own 1]), (1, .arr gT out)], [2], ?_, ?_, ?_, ?_, ?_⟩⟩
  · simp [d1]
  · exact .cons (.same _ rfl) (.cons (.same _ rfl) (.cons (.mu h 0 rfl) .nil))
  · intro q o hq
    have x1 : idx ha [h, ha] = some 1 := by rw [idx_ne d1.symm, idx_at]
    rcases q with _ | _ | q
    · cases (show some (Ob.box [.own 1]) = some o from hq)
      refine ⟨h, _, rfl, g1, ?_⟩
      show Ob.box [.own 1] = Ob.box [match idx ha [h, ha] with | some i => AV.own i | none => .undef]
      rw [x1]
    · cases (show some (Ob.arr gT out) = some o from hq)
      exact ⟨ha, _, rfl, g2, rfl⟩
    · cases (show (none : Option Ob) = some o from hq)
  · intro i hi
    cases List.mem_singleton.1 hi
    kernel_rfl
  obtain ⟨xc, xs, xb⟩ := x
  show den E55 _ ⟨_, _, 2⟩ _
  conv => whnf
  refine ⟨p1, ?_⟩
  conv => whnf
  refine ⟨p2, ?_⟩
  conv => whnf
  split
  · rename_i hg
    have hg0 : (!(gG out k.toNat).2.2) = true := hg
    have hg1 : (gG out k.toNat).2.2 = false := by
      cases e : (gG out k.toNat).2.2
      · rfl
      · rw [e] at hg0; cases hg0
    iterate 12 (conv => whnf; try (rw [hg]))
    conv => whnf
    refine ⟨p1, ?_⟩
    conv => whnf
    refine ⟨p2, ?_⟩
    conv => whnf
    refine ⟨Or.inr rfl, sub55 g1 (out' := out.set k.toNat (xc, xs, xb)) (by rw [relaxR, if_pos]; unfold betterQ; rw [hg1]; rfl) rfl rfl rfl⟩
  · rename_i hg
    have hg0 : (!(gG out k.toNat).2.2) = false := hg
    have hg1 : (gG out k.toNat).2.2 = true := by
      cases e : (gG out k.toNat).2.2
      · rw [e] at hg0; cases hg0
      · rfl
    iterate 12 (conv => whnf; try (rw [hg]))
    conv => whnf
    refine ⟨p1, ?_⟩
    conv => whnf
    refine ⟨p2, ?_⟩
    conv => whnf
    refine ⟨p1, ?_⟩
    conv => whnf
    refine ⟨p2, ?_⟩
    conv => whnf
    refine cond_intro (fun hl => ?_) (fun hl => ?_)
    · have hl : lessR xc xs (gG out k.toNat).1 (gG out k.toNat).2.1 = true := hl
      conv => whnf
      refine ⟨p1, ?_⟩
      conv => whnf
      refine ⟨p2, ?_⟩
      conv => whnf
      refine ⟨Or.inr rfl, sub55 g1 (out' := out.set k.toNat (xc, xs, xb)) (by rw [relaxR, if_pos]; unfold betterQ; rw [hl]; simp) rfl rfl rfl⟩
    · have hl : lessR xc xs (gG out k.toNat).1 (gG out k.toNat).2.1 = false := hl
      conv => whnf
      refine ⟨Or.inr rfl, sub55 g1 (out' := out) (by rw [relaxR, if_neg]; unfold betterQ; rw [hl, hg1]; decide) rfl rfl rfl⟩
end
end Go.Proofs.Ythgclbohlcgdgaa.Eng
set_option linter.unusedVariables false
set_option linter.unusedSimpArgs false
namespace Go.Proofs.Ythgclbohlcgdgaa.Eng
open Go
set_option maxRecDepth 100000
noncomputable section
abbrev Rel := Int → Int → Int → Prop
/-- A way from a node to an end: its cost, and how many steps. -/
inductive Wy (R : Rel) (T : Int → Prop) : Int → Int → Int → Prop where
  | nil {k : Int} (h : T k) : Wy R T k 0 0
  | cons {k q w c s : Int} (h : R k q w) (r : Wy R T q c s) : Wy R T k (c + w) (s + 1)
def IsLeast (R : Rel) (T : Int → Prop) (k c s : Int) : Prop := Wy R T k c s ∧ ∀ c' s', Wy R T k c' s' → c < c' ∨ (c = c' ∧ s ≤ s')
theorem IsLeast.uniq {R : Rel} {T : Int → Prop} {k c s c' s' : Int} (h : IsLeast R T k c s) (g : IsLeast R T k c' s') : c = c' ∧ s = s' := by
  have a := h.2 _ _ g.1
  have b := g.2 _ _ h.1
  omega
open Classical in
def lpR (R : Rel) (T : Int → Prop) (k : Int) : Option (Int × Int) := if h : ∃ p : Int × Int, IsLeast R T k p.1 p.2 then some (Classical.choose h) else none
theorem lp_some {R : Rel} {T : Int → Prop} {k c s : Int} (h : IsLeast R T k c s) : lpR R T k = some (c, s) := by
  have hx : ∃ p : Int × Int, IsLeast R T k p.1 p.2 := ⟨(c, s), h⟩
  unfold lpR
  rw [dif_pos hx]
  have := (Classical.choose_spec hx).uniq h
  exact congrArg some (Prod.ext this.1 this.2)
theorem lp_none {R : Rel} {T : Int → Prop} {k : Int} (h : ∀ c s, ¬ Wy R T k c s) : lpR R T k = none := by
  unfold lpR
  rw [dif_neg]
  rintro ⟨p, hp⟩
  exact h _ _ hp.1
theorem lp_is {R : Rel} {T : Int → Prop} {k c s : Int} (h : lpR R T k = some (c, s)) : IsLeast R T k c s := by
  unfold lpR at h
  split at h
  · rename_i hx
    have := Classical.choose_spec hx
    rw [Option.some.inj h] at this
    exact this
  · cases h
def glOf (o : Option (Int × Int)) : Gl := match o with | some p => (p.1, p.2 + 1, true) | none => (0, 0, false)
def faOf (o : Option (Int × Int)) : Fa := match o with | some p => p | none => (-1, 0)
def toG (R : Rel) (T : Int → Prop) (n : Nat) : List Gl := (List.range n).map fun (k : Nat) => glOf (lpR R T (k : Int))
def toF (R : Rel) (T : Int → Prop) (n : Nat) : List Fa := (List.range n).map fun (k : Nat) => faOf (lpR R T (k : Int))
theorem toG_len (R : Rel) (T : Int → Prop) (n : Nat) : (toG R T n).length = n := by simp [toG]
theorem toF_len (R : Rel) (T : Int → Prop) (n : Nat) : (toF R T n).length = n := by simp [toF]
theorem toG_at {R : Rel} {T : Int → Prop} {n k : Nat} (h : k < n) : gG (toG R T n) k = glOf (lpR R T k) := by
  rw [gG_eq (by rw [toG_len]; exact h)]; simp [toG]
theorem toF_at {R : Rel} {T : Int → Prop} {n k : Nat} (h : k < n) : gF (toF R T n) k = faOf (lpR R T k) := by
  rw [gF_eq (by rw [toF_len]; exact h)]; simp [toF]
/-- What is asked of steps. -/
structure Steps (R : Rel) (N : Nat) (C : Int) : Prop where
  ok : ∀ {k q w : Int}, R k q w → (0 ≤ k ∧ k < N) ∧ (0 ≤ q ∧ q < N) ∧ 0 ≤ w ∧ w ≤ C
theorem Wy.nonneg {R : Rel} {T : Int → Prop} {N : Nat} {C : Int} (hS : Steps R N C) {k c s : Int} (h : Wy R T k c s) : 0 ≤ c ∧ 0 ≤ s ∧ (0 < s → 0 ≤ k ∧ k < N) := by
  induction h with
  | nil h => omega
  | cons h r ih => have := hS.ok h; omega
theorem Wy.end_ {R : Rel} {T : Int → Prop} {N : Nat} {C : Int} (hS : Steps R N C) {k c s : Int} (h : Wy R T k c s) (hs : s ≤ 0) : T k ∧ c = 0 ∧ s = 0 := by
  cases h with
  | nil h => exact ⟨h, rfl, rfl⟩
  | cons h r => have := (r.nonneg hS).2.1; omega
def lp2 (a b : Gl) : Prop := a.1 < b.1 ∨ (a.1 = b.1 ∧ a.2.1 ≤ b.2.1)
theorem gG_out {l : List Gl} {n : Nat} (h : l.length ≤ n) : gG l n = (0, 0, false) := by
  unfold gG
  rw [List.getD_eq_getElem?_getD, List.getElem?_eq_none h]; rfl
theorem gB_out {l : List Bool} {n : Nat} (h : l.length ≤ n) : gB l n = false := by
  unfold gB
  rw [List.getD_eq_getElem?_getD, List.getElem?_eq_none h]; rfl
theorem gG_set {l : List Gl} {k m : Nat} {x : Gl} (h : k < l.length) : gG (l.set k x) m = if k = m then x else gG l m := by
  unfold gG
  rw [List.getD_eq_getElem?_getD, List.getD_eq_getElem?_getD, List.getElem?_set]
  by_cases e : k = m
  · subst e; simp [h]
  · simp [e]
theorem gB_set {l : List Bool} {k m : Nat} {x : Bool} (h : k < l.length) : gB (l.set k x) m = if k = m then x else gB l m := by
  unfold gB
  rw [List.getD_eq_getElem?_getD, List.getD_eq_getElem?_getD, List.getElem?_set]
  by_cases e : k = m
  · subst e; simp [h]
  · simp [e]
theorem relax_len (out : List Gl) (k : Int) (x : Gl) : (relaxR out k x).length = out.length := by
  unfold relaxR; split
  · simp
  · rfl
theorem better_iff {out : List Gl} {k : Int} {x : Gl} : betterQ out k x = true ↔ (gG out k.toNat).2.2 = false ∨ x.1 < (gG out k.toNat).1 ∨ (x.1 = (gG out k.toNat).1 ∧ x.2.1 < (gG out k.toNat).2.1) := by
  unfold betterQ lessR
  simp
theorem relax_off {out : List Gl} {k : Int} {x : Gl} {m : Nat} (hk : k.toNat < out.length) (h : k.toNat ≠ m) : gG (relaxR out k x) m = gG out m := by
  unfold relaxR; split
  · rw [gG_set hk, if_neg h]
  · rfl
theorem relax_at {out : List Gl} {k : Int} {x : Gl} (hk : k.toNat < out.length) (hx : x.2.2 = true) : ((gG (relaxR out k x) k.toNat = x) ∨ (gG (relaxR out k x) k.toNat = gG out k.toNat ∧ (gG out k.toNat).2.2 = true)) ∧ (gG (relaxR out k x) k.toNat).2.2 = true ∧ lp2 (gG (relaxR out k x) k.toNat) x ∧ ((gG out k.toNat).2.2 = true → lp2 (gG (relaxR out k x) k.toNat) (gG out k.toNat)) := by
  unfold relaxR; split
  · rename_i h
    rw [gG_set hk, if_pos rfl]
    have h := better_iff.1 h
    refine ⟨Or.inl rfl, hx, by unfold lp2; omega, fun g => ?_⟩
    rw [g] at h
    unfold lp2
    rcases h with h | h
    · cases h
    · omega
  · rename_i h
    have h := mt better_iff.2 h
    have g : (gG out k.toNat).2.2 = true := by
      cases e : (gG out k.toNat).2.2
      · exact absurd (Or.inl e) h
      · rfl
    refine ⟨Or.inr ⟨rfl, g⟩, g, ?_, fun _ => by unfold lp2; omega⟩
    rw [g] at h
    unfold lp2
    have h1 : ¬ (x.1 < (gG out k.toNat).1 ∨ (x.1 = (gG out k.toNat).1 ∧ x.2.1 < (gG out k.toNat).2.1)) := fun e => h (Or.inr e)
    omega
/-- The search's state: the edges of the node ex (if it is one) are gone through to the j-th. -/
structure Dj (R : Rel) (T : Int → Prop) (N : Nat) (C : Int) (out : List Gl) (done : List Bool) (todo : Int → Int → Int → Prop) : Prop where
  lo : out.length = N
  ld : done.length = N
  bad : ∀ k, k < N → (gG out k).2.2 = false → gG out k = (0, 0, false)
  way : ∀ k, k < N → (gG out k).2.2 = true → Wy R T k (gG out k).1 ((gG out k).2.1 - 1)
  bnd : ∀ k, k < N → (gG out k).2.2 = true → 1 ≤ (gG out k).2.1 ∧ (gG out k).2.1 ≤ done.count true + 1 ∧ 0 ≤ (gG out k).1 ∧ (gG out k).1 ≤ C * ((gG out k).2.1 - 1)
  ends : ∀ k : Nat, k < N → T k → (gG out k).2.2 = true ∧ lp2 (gG out k) (0, 1, true)
  dn : ∀ k, k < N → gB done k = true → (gG out k).2.2 = true ∧ IsLeast R T k (gG out k).1 ((gG out k).2.1 - 1)
  edge : ∀ (k q : Nat) (w : Int), gB done q = true → R k q w → ¬ todo k q w → (gG out k).2.2 = true ∧ lp2 (gG out k) ((gG out q).1 + w, (gG out q).2.1 + 1, true)
def noTodo : Int → Int → Int → Prop := fun _ _ _ => False
variable {R : Rel} {T : Int → Prop} {N : Nat} {C : Int} {out : List Gl} {done : List Bool}
/-- What is least among those that are told and not done, is least at all. -/
theorem Dj.chain (hS : Steps R N C) (h : Dj R T N C out done noTodo) (hT : ∀ k, T k → 0 ≤ k ∧ k < N) (b : Option Gl) (hb : ∀ m, m < N → (gG out m).2.2 = true → gB done m = false → ∃ x, b = some x ∧ lp2 x (gG out m)) {k c s : Int} (hw : Wy R T k c s) :
    (gB done k.toNat = true ∧ (gG out k.toNat).2.2 = true ∧ lp2 (gG out k.toNat) (c, s + 1, true)) ∨ ∃ x, b = some x ∧ lp2 x (c, s + 1, true) := by
  have fin : ∀ k : Nat, k < N → ∀ y : Gl, (gG out k).2.2 = true → lp2 (gG out k) y → (gB done k = true ∧ (gG out k).2.2 = true ∧ lp2 (gG out k) y) ∨ ∃ x, b = some x ∧ lp2 x y := by
    intro k hk y h1 h2
    cases hd : gB done k
    · obtain ⟨x, e, g⟩ := hb k hk h1 hd
      refine Or.inr ⟨x, e, ?_⟩
      unfold lp2 at *
      omega
    · exact Or.inl ⟨rfl, h1, h2⟩
  induction hw with
  | nil ht =>
    rename_i k
    obtain ⟨k0, k1⟩ := hT k ht
    have e : ((k.toNat : Nat) : Int) = k := by omega
    obtain ⟨g1, g2⟩ := h.ends k.toNat (by omega) (by rw [e]; exact ht)
    exact fin _ (by omega) _ g1 (by simpa using g2)
  | cons hr hw ih =>
    rename_i k q w c s
    obtain ⟨⟨k0, k1⟩, ⟨q0, q1⟩, w0, w1⟩ := hS.ok hr
    rcases ih with ⟨i1, i2, i3⟩ | ⟨x, e, i3⟩
    · have ek : ((k.toNat : Nat) : Int) = k := by omega
      have eq : ((q.toNat : Nat) : Int) = q := by omega
      obtain ⟨g1, g2⟩ := h.edge k.toNat q.toNat w i1 (by rw [ek, eq]; exact hr) (fun f => f)
      refine fin _ (by omega) _ g1 ?_
      unfold lp2 at *
      simp only at *
      omega
    · refine Or.inr ⟨x, e, ?_⟩
      unfold lp2 at *
      simp only at *
      omega
theorem Dj.pick (hS : Steps R N C) (h : Dj R T N C out done noTodo) (hT : ∀ k, T k → 0 ≤ k ∧ k < N) {a : Nat} (ha : a < N) (h1 : (gG out a).2.2 = true) (h2 : gB done a = false) (h3 : ∀ m, m < N → (gG out m).2.2 = true → gB done m = false → lp2 (gG out a) (gG out m)) :
    IsLeast R T a (gG out a).1 ((gG out a).2.1 - 1) := by
  refine ⟨h.way a ha h1, fun c s hw => ?_⟩
  rcases h.chain hS hT (some (gG out a)) (fun m m1 m2 m3 => ⟨_, rfl, h3 m m1 m2 m3⟩) hw with ⟨g, _⟩ | ⟨x, e, g⟩
  · rw [show ((a : Int)).toNat = a by omega, h2] at g; cases g
  · cases e
    unfold lp2 at g
    simp only at g
    omega
theorem Dj.all (hS : Steps R N C) (h : Dj R T N C out done noTodo) (hT : ∀ k, T k → 0 ≤ k ∧ k < N) (h3 : ∀ m, m < N → (gG out m).2.2 = true → gB done m = true) : out = toG R T N := by
  apply List.ext_getElem
  · rw [h.lo, toG_len]
  · intro k k1 k2
    have hk : k < N := by rw [← h.lo]; exact k1
    rw [← gG_eq k1, ← gG_eq k2, toG_at hk]
    cases hi : (gG out k).2.2
    · rw [lp_none fun c s hw => ?_, h.bad k hk hi]; rfl
      rcases h.chain hS hT none (fun m m1 m2 m3 => by rw [h3 m m1 m2] at m3; cases m3) hw with ⟨_, g, _⟩ | ⟨x, e, _⟩
      · rw [show ((k : Int)).toNat = k by omega, hi] at g; cases g
      · cases e
    · rw [lp_some (h.dn k hk (h3 k hk hi)).2]
      show gG out k = ((gG out k).1, (gG out k).2.1 - 1 + 1, true)
      rw [← hi]
      refine Prod.ext rfl (Prod.ext ?_ rfl)
      simp only
      omega
theorem count_set_true {l : List Bool} {k : Nat} (h : k < l.length) (hk : gB l k = false) : (l.set k true).count true = l.count true + 1 := by
  rw [gB_eq h] at hk
  rw [List.count_set h, hk]
  simp
/-- A node is taken up: all its edges are to be gone through. -/
theorem Dj.take (hS : Steps R N C) (h : Dj R T N C out done noTodo) {a : Nat} (ha : a < N) (h1 : (gG out a).2.2 = true) (h2 : gB done a = false) (hl : IsLeast R T a (gG out a).1 ((gG out a).2.1 - 1)) :
    Dj R T N C out (done.set a true) (fun k q w => q = (a : Int)) := by
  have hc := count_set_true (by rw [h.ld]; exact ha) h2
  refine ⟨h.lo, by rw [List.length_set]; exact h.ld, h.bad, h.way, fun k hk hi => ?_, h.ends, fun k hk hd => ?_, fun k q w hd hr ht => ?_⟩
  · have := h.bnd k hk hi
    rw [hc]
    omega
  · rw [gB_set (by rw [h.ld]; exact ha)] at hd
    split at hd
    · rename_i e; subst e; exact ⟨h1, hl⟩
    · exact h.dn k hk hd
  · rw [gB_set (by rw [h.ld]; exact ha)] at hd
    split at hd
    · rename_i e; subst e; exact absurd rfl ht
    · exact h.edge k q w hd hr (fun f => f)
/-- A step of relaxation. -/
theorem Dj.relax (hS : Steps R N C) {todo : Rel} (h : Dj R T N C out done todo) {a k : Nat} {w : Int} (hk : k < N) (ha : a < N) (hd : gB done a = true) (hr : R k a w) (ht : ∀ k q w, todo k q w → q = (a : Int)) (hcnt : (gG out a).2.1 ≤ done.count true) (todo' : Rel) (hsub : ∀ k' q w', todo k' q w' → ¬ (k' = k ∧ w ≤ w') → todo' k' q w') :
    Dj R T N C (if gB done k = true then out else relaxR out k ((gG out a).1 + w, (gG out a).2.1 + 1, true)) done todo' := by
  have hlk := (h.dn a ha hd).2
  have hia := (h.dn a ha hd).1
  have hba := h.bnd a ha hia
  have hw0 := hS.ok hr
  have hwy : Wy R T k ((gG out a).1 + w) ((gG out a).2.1 + 1 - 1) := by
    have := Wy.cons hr hlk.1
    rwa [show (gG out a).2.1 - 1 + 1 = (gG out a).2.1 + 1 - 1 by omega] at this
  split
  · rename_i hdk
    refine ⟨h.lo, h.ld, h.bad, h.way, h.bnd, h.ends, h.dn, fun k' q w' hq hr' ht' => ?_⟩
    by_cases e : todo k' q w'
    · have hq' := ht _ _ _ e
      have hq'' : q = a := by omega
      subst hq''
      by_cases e2 : (k' : Int) = k ∧ w ≤ w'
      · have e3 : k' = k := by omega
        subst e3
        obtain ⟨d1, d2⟩ := h.dn k' hk hdk
        refine ⟨d1, ?_⟩
        have := d2.2 _ _ hwy
        unfold lp2
        simp only
        omega
      · exact absurd (hsub _ _ _ e e2) ht'
    · exact h.edge k' q w' hq hr' e
  · rename_i hdk
    have hdk : gB done k = false := by cases e : gB done k; rfl; exact absurd e hdk
    have hkl : ((k : Int)).toNat < out.length := by rw [h.lo]; omega
    have hkk : ((k : Int)).toNat = k := by omega
    obtain ⟨r1, r2, r3, r4⟩ := relax_at (out := out) (k := (k : Int)) (x := ((gG out a).1 + w, (gG out a).2.1 + 1, true)) hkl rfl
    rw [hkk] at r1 r2 r3 r4
    have off : ∀ m, m ≠ k → gG (relaxR out k ((gG out a).1 + w, (gG out a).2.1 + 1, true)) m = gG out m := fun m hm => relax_off hkl (by omega)
    have hlen : (relaxR out k ((gG out a).1 + w, (gG out a).2.1 + 1, true)).length = N := by rw [relax_len]; exact h.lo
    have hak : a ≠ k := by rintro rfl; rw [hd] at hdk; cases hdk
    have hmul : C * ((gG out a).2.1 + 1 - 1) = C * ((gG out a).2.1 - 1) + C := by
      rw [show (gG out a).2.1 + 1 - 1 = ((gG out a).2.1 - 1) + 1 by omega, Int.mul_add, Int.mul_one]
    generalize relaxR out k ((gG out a).1 + w, (gG out a).2.1 + 1, true) = out' at *
    refine ⟨hlen, h.ld, fun m hm hi => ?_, fun m hm hi => ?_, fun m hm hi => ?_, fun m hm ht' => ?_, fun m hm hdm => ?_, fun k' q w' hq hr' ht' => ?_⟩
    · by_cases e : m = k
      · subst e; rw [r2] at hi; cases hi
      · rw [off m e] at hi ⊢; exact h.bad m hm hi
    · by_cases e : m = k
      · subst e
        rcases r1 with r1 | ⟨r1, r5⟩
        · rw [r1]; exact hwy
        · rw [r1]; exact h.way m hm r5
      · rw [off m e] at hi ⊢; exact h.way m hm hi
    · by_cases e : m = k
      · subst e
        rcases r1 with r1 | ⟨r1, r5⟩
        · rw [r1]
          simp only
          omega
        · rw [r1]; exact h.bnd m hm r5
      · rw [off m e] at hi ⊢; exact h.bnd m hm hi
    · obtain ⟨e1, e2⟩ := h.ends m hm ht'
      by_cases e : m = k
      · subst e
        refine ⟨r2, ?_⟩
        have := r4 e1
        unfold lp2 at *
        omega
      · rw [off m e]; exact ⟨e1, e2⟩
    · have e : m ≠ k := by rintro rfl; rw [hdm] at hdk; cases hdk
      rw [off m e]; exact h.dn m hm hdm
    · have e : q ≠ k := by rintro rfl; rw [hq] at hdk; cases hdk
      rw [off q e]
      by_cases e1 : todo k' q w'
      · have hq' := ht _ _ _ e1
        have hq'' : q = a := by omega
        subst hq''
        by_cases e2 : (k' : Int) = k ∧ w ≤ w'
        · have e3 : k' = k := by omega
          subst e3
          refine ⟨r2, ?_⟩
          unfold lp2 at *
          simp only at *
          omega
        · exact absurd (hsub _ _ _ e1 e2) ht'
      · obtain ⟨f1, f2⟩ := h.edge k' q w' hq hr' e1
        by_cases e2 : k' = k
        · subst e2
          refine ⟨r2, ?_⟩
          have := r4 f1
          unfold lp2 at *
          omega
        · rw [off k' e2]; exact ⟨f1, f2⟩
theorem Dj.weaken {todo todo' : Rel} (h : Dj R T N C out done todo) (hsub : ∀ (k q : Nat) (w : Int), R k q w → todo k q w → todo' k q w) : Dj R T N C out done todo' :=
  ⟨h.lo, h.ld, h.bad, h.way, h.bnd, h.ends, h.dn, fun k q w hq hr ht => h.edge k q w hq hr fun e => ht (hsub k q w hr e)⟩
end
end Go.Proofs.Ythgclbohlcgdgaa.Eng
set_option linter.unusedVariables false
set_option linter.unusedSimpArgs false
namespace Go.Proofs.Ythgclbohlcgdgaa.Eng
open Go
set_option maxRecDepth 100000
noncomputable section
def Rb (back : List (List Ed)) : Rel := fun k q w => 0 ≤ q ∧ ∃ e ∈ gEs back q.toNat, e.2.1 = k ∧ e.2.2 = w
def Tl (l : List Int) : Int → Prop := fun k => k ∈ l
/-- A graph whose edges lead to its nodes. -/
structure GOk (back : List (List Ed)) : Prop where
  ok : ∀ a, a < back.length → (gEs back a).length ≤ 2000000 ∧ ∀ e ∈ gEs back a, (0 ≤ e.2.1 ∧ e.2.1 < (back.length : Int)) ∧ 0 ≤ e.2.2 ∧ e.2.2 ≤ 1000000000000
theorem gEs_out {l : List (List Ed)} {n : Nat} (h : l.length ≤ n) : gEs l n = [] := by
  unfold gEs
  rw [List.getD_eq_getElem?_getD, List.getElem?_eq_none h]; rfl
theorem GOk.steps {back : List (List Ed)} (h : GOk back) : Steps (Rb back) back.length 1000000000000 := by
  refine ⟨fun {k q w} hr => ?_⟩
  obtain ⟨q0, e, he, rfl, rfl⟩ := hr
  have hq : q.toNat < back.length := by
    rcases Nat.lt_or_ge q.toNat back.length with g | g
    · exact g
    · rw [gEs_out g] at he; cases he
  have := (h.ok _ hq).2 e he
  omega
structure EndsAt (N : Nat) (l : List Int) (i : Nat) (out : List Gl) : Prop where
  lo : out.length = N
  yes : ∀ k, k < N → (k : Int) ∈ l.take i → gG out k = (0, 1, true)
  no : ∀ k, k < N → (k : Int) ∉ l.take i → gG out k = (0, 0, false)
theorem gG_rep {N k : Nat} : gG (List.replicate N ((0, 0, false) : Gl)) k = (0, 0, false) := by
  unfold gG
  rw [List.getD_eq_getElem?_getD, List.getElem?_replicate]
  split <;> rfl
theorem gB_rep {N k : Nat} : gB (List.replicate N false) k = false := by
  unfold gB
  rw [List.getD_eq_getElem?_getD, List.getElem?_replicate]
  split <;> rfl
theorem EndsAt.start (N : Nat) (l : List Int) : EndsAt N l 0 (List.replicate N ((0, 0, false) : Gl)) :=
  ⟨by simp, fun k _ h => by simp at h, fun k _ _ => gG_rep⟩
theorem EndsAt.step {N : Nat} {l : List Int} {i : Nat} {out : List Gl} (h : EndsAt N l i out) (hi : i < l.length) (h0 : 0 ≤ gI l i) (h1 : gI l i < N) : EndsAt N l (i + 1) (out.set (gI l i).toNat (0, 1, true)) := by
  have hl : (gI l i).toNat < out.length := by rw [h.lo]; omega
  have ht : l.take (i + 1) = l.take i ++ [gI l i] := by rw [List.take_succ_eq_append_getElem hi, gI_eq hi]
  refine ⟨by rw [List.length_set]; exact h.lo, fun k hk hm => ?_, fun k hk hm => ?_⟩
  · rw [gG_set hl]
    split
    · rfl
    · rw [ht] at hm
      rcases List.mem_append.1 hm with g | g
      · exact h.yes k hk g
      · have := List.mem_singleton.1 g; omega
  · rw [ht] at hm
    have h2 : ¬ ((k : Int) = gI l i) := fun e => hm (by rw [e]; simp)
    rw [gG_set hl, if_neg (by omega)]
    exact h.no k hk fun g => hm (List.mem_append_left _ g)
theorem EndsAt.dj {N : Nat} {l : List Int} {out : List Gl} {R : Rel} {C : Int} (h : EndsAt N l l.length out) : Dj R (Tl l) N C out (List.replicate N false) noTodo := by
  have e : l.take l.length = l := List.take_length
  refine ⟨h.lo, by simp, fun k hk hi => ?_, fun k hk hi => ?_, fun k hk hi => ?_, fun k hk ht => ?_, fun k hk hd => ?_, fun k q w hd => ?_⟩
  · by_cases g : (k : Int) ∈ l
    · rw [h.yes k hk (by rw [e]; exact g)] at hi; cases hi
    · exact h.no k hk (by rw [e]; exact g)
  · by_cases g : (k : Int) ∈ l
    · rw [h.yes k hk (by rw [e]; exact g)]; exact .nil g
    · rw [h.no k hk (by rw [e]; exact g)] at hi; cases hi
  · by_cases g : (k : Int) ∈ l
    · rw [h.yes k hk (by rw [e]; exact g)]; simp only; omega
    · rw [h.no k hk (by rw [e]; exact g)] at hi; cases hi
  · rw [h.yes k hk (by rw [e]; exact ht)]; exact ⟨rfl, Or.inr ⟨rfl, Int.le_refl _⟩⟩
  · rw [gB_rep] at hd; cases hd
  · rw [gB_rep] at hd; cases hd
/-- The choice of the next node, made among the first k. -/
def Sel (out : List Gl) (done : List Bool) (at_ : Int) (k : Nat) : Prop :=
  (at_ = -1 ∧ ∀ m, m < k → (gG out m).2.2 = true → gB done m = true) ∨ (0 ≤ at_ ∧ at_ < (out.length : Int) ∧ (gG out at_.toNat).2.2 = true ∧ gB done at_.toNat = false ∧ ∀ m, m < k → (gG out m).2.2 = true → gB done m = false → lp2 (gG out at_.toNat) (gG out m))
theorem Sel.skip {out : List Gl} {done : List Bool} {a : Int} {k : Nat} (h : Sel out done a k) (hk : (gG out k).2.2 = false ∨ gB done k = true) : Sel out done a (k + 1) := by
  rcases h with ⟨h1, h2⟩ | ⟨h1, h2, h3, h4, h5⟩
  · refine Or.inl ⟨h1, fun m hm hi => ?_⟩
    rcases Nat.lt_or_eq_of_le (Nat.le_of_lt_succ hm) with g | g
    · exact h2 m g hi
    · subst g
      rcases hk with hk | hk
      · rw [hk] at hi; cases hi
      · exact hk
  · refine Or.inr ⟨h1, h2, h3, h4, fun m hm hi hd => ?_⟩
    rcases Nat.lt_or_eq_of_le (Nat.le_of_lt_succ hm) with g | g
    · exact h5 m g hi hd
    · subst g
      rcases hk with hk | hk
      · rw [hk] at hi; cases hi
      · rw [hk] at hd; cases hd
theorem less_no {a b : Gl} (h : lessR a.1 a.2.1 b.1 b.2.1 = false) : lp2 b a := by
  unfold lessR at h
  have h := of_decide_eq_false h
  unfold lp2
  omega
theorem less_yes {a b : Gl} (h : lessR a.1 a.2.1 b.1 b.2.1 = true) : lp2 a b := by
  unfold lessR at h
  have h := of_decide_eq_true h
  unfold lp2
  omega
theorem Sel.stay {out : List Gl} {done : List Bool} {a : Int} {k : Nat} (h : Sel out done a k) (ha : ¬ a < 0) (hl : lessR (gG out k).1 (gG out k).2.1 (gG out a.toNat).1 (gG out a.toNat).2.1 = false) : Sel out done a (k + 1) := by
  rcases h with ⟨h1, h2⟩ | ⟨h1, h2, h3, h4, h5⟩
  · omega
  · refine Or.inr ⟨h1, h2, h3, h4, fun m hm hi hd => ?_⟩
    rcases Nat.lt_or_eq_of_le (Nat.le_of_lt_succ hm) with g | g
    · exact h5 m g hi hd
    · subst g; exact less_no hl
theorem Sel.set {out : List Gl} {done : List Bool} {a : Int} {k : Nat} (h : Sel out done a k) (hk : k < out.length) (hi : (gG out k).2.2 = true) (hd : gB done k = false) (hl : a < 0 ∨ lessR (gG out k).1 (gG out k).2.1 (gG out a.toNat).1 (gG out a.toNat).2.1 = true) : Sel out done (k : Int) (k + 1) := by
  have e : ((k : Int)).toNat = k := by omega
  refine Or.inr ⟨by omega, by omega, by rw [e]; exact hi, by rw [e]; exact hd, fun m hm hi' hd' => ?_⟩
  rw [e]
  rcases Nat.lt_or_eq_of_le (Nat.le_of_lt_succ hm) with g | g
  · rcases h with ⟨h1, h2⟩ | ⟨h1, h2, h3, h4, h5⟩
    · rw [h2 m g hi'] at hd'; cases hd'
    · rcases hl with hl | hl
      · omega
      · have := less_yes hl
        have := h5 m g hi' hd'
        unfold lp2 at *
        omega
  · subst g; exact Or.inr ⟨rfl, Int.le_refl _⟩
def tdo (back : List (List Ed)) (a j : Nat) : Rel := fun k q w => q = (a : Int) ∧ ∃ i, j ≤ i ∧ i < (gEs back a).length ∧ (gE (gEs back a) i).2.1 = k ∧ (gE (gEs back a) i).2.2 = w
theorem count_le (l : List Bool) : l.count true ≤ l.length := List.count_le_length
theorem count_false (l : List Bool) : l.count false + l.count true = l.length := by
  induction l with
  | nil => rfl
  | cons b l ih => cases b <;> simp <;> omega
def S39a (back : List (List Ed)) (l : List Int) (done : List Bool) (out : List Gl) (i : Int) : SL := ⟨List.replicate 1 .undef ++ [.sl (.sl eT) back] ++ List.replicate 5 .undef ++ [.ptr 0 0 0] ++ [.own 1] ++ List.replicate 14 .undef ++ [.sl I l] ++ [.int .i64 l.length] ++ [.int .i64 i] ++ List.replicate 89 .undef, [(0, .box [.own 2]), (1, .arr .bool done), (2, .arr gT out)], 3⟩
def S39b (back : List (List Ed)) (done : List Bool) (out : List Gl) : SL := ⟨List.replicate 1 .undef ++ [.sl (.sl eT) back] ++ List.replicate 5 .undef ++ [.ptr 0 0 0] ++ [.own 1] ++ List.replicate 2 .undef ++ [.fn 55 [.ptr 0 0 0]] ++ List.replicate 103 .undef, [(0, .box [.own 2]), (1, .arr .bool done), (2, .arr gT out)], 3⟩
def S39c (back : List (List Ed)) (done : List Bool) (out : List Gl) (a k : Int) : SL := ⟨List.replicate 1 .undef ++ [.sl (.sl eT) back] ++ List.replicate 5 .undef ++ [.ptr 0 0 0] ++ [.own 1] ++ List.replicate 2 .undef ++ [.fn 55 [.ptr 0 0 0]] ++ [.int .i64 a] ++ List.replicate 22 .undef ++ [.own 2] ++ [.int .i64 out.length] ++ [.int .i64 k] ++ List.replicate 77 .undef, [(0, .box [.own 2]), (1, .arr .bool done), (2, .arr gT out)], 3⟩
def S39d (back : List (List Ed)) (done : List Bool) (row : List Ed) (a : Int) (out : List Gl) (j : Int) : SL := ⟨List.replicate 1 .undef ++ [.sl (.sl eT) back] ++ List.replicate 5 .undef ++ [.ptr 0 0 0] ++ [.own 1] ++ List.replicate 2 .undef ++ [.fn 55 [.ptr 0 0 0]] ++ [.int .i64 a] ++ List.replicate 70 .undef ++ [.sl eT row] ++ [.int .i64 row.length] ++ [.int .i64 j] ++ List.replicate 29 .undef, [(0, .box [.own 2]), (1, .arr .bool done), (2, .arr gT out)], 3⟩
def E39 : Env := ⟨tab, [(41, K41), (55, .eff X55)], fun n => match n with | 4 => some ([1, 7, 8, 23, 24, 25], [], []) | 9 => some ([1, 7, 8, 11], [], []) | 11 => some ([1, 7, 8, 11, 12, 35, 36, 37], [], []) | 20 => some ([1, 7, 8, 11, 12, 83, 84, 85], [], []) | _ => none⟩
def K39 : Fn1 := ⟨.fld (.sl (.sl eT)) (.fld (.sl (.sl eT)) (.one (.sl I))), .one (.sl gT), fun (a : List (List Ed) × List (List Ed) × List Int) => [a.1.length = a.2.1.length ∧ a.2.1.length ≤ 100000, a.2.2.length ≤ 1000000000, ∀ k ∈ a.2.2, 0 ≤ k ∧ k < (a.2.1.length : Int), GOk a.2.1], fun (a : List (List Ed) × List (List Ed) × List Int) => toG (Rb a.2.1) (Tl a.2.2) a.2.1.length⟩
set_option maxHeartbeats 4000000 in
theorem k39 : FnOk Go.Proofs.Try.prog 39 K39 := by
  refine fn_ok (E := E39) (TOk.of tab_told) (AllOk.cons k41 (.consX k55 .nil)).at_ mix Go.Proofs.Try.func39 rfl rfl (by kernel_rfl) K39 ?_
  rintro ⟨(g : List (List Ed)), (back : List (List Ed)), (l : List Int)⟩ hp
  have hg : g.length = back.length ∧ back.length ≤ 100000 := hp _ (List.mem_cons_self ..)
  have hl : l.length ≤ 1000000000 := hp _ (List.mem_cons_of_mem _ (List.mem_cons_self ..))
  have hls : ∀ k ∈ l, 0 ≤ k ∧ k < (back.length : Int) := hp _ (List.mem_cons_of_mem _ (List.mem_cons_of_mem _ (List.mem_cons_self ..)))
  have hgo : GOk back := hp _ (List.mem_cons_of_mem _ (List.mem_cons_of_mem _ (List.mem_cons_of_mem _ (List.mem_cons_self ..))))
  clear hp
  have hS := hgo.steps
  have hT : ∀ k, Tl l k → 0 ≤ k ∧ k < (back.length : Int) := hls
  obtain ⟨hgl, hbl⟩ := hg
  conv => whnf
  refine ⟨show (0 : Int) ≤ (g.length : Int) by omega, ?_⟩
  conv => whnf
  refine ⟨Int.le_refl _, ?_⟩
  conv => whnf
  refine ⟨show (g.length : Int) * 24 ≤ 70368744177664 by omega, ?_⟩
  conv => whnf
  refine ⟨show (g.length : Int) ≤ 70368744177664 by omega, ?_⟩
  conv => whnf
  refine ⟨show (0 : Int) ≤ (g.length : Int) by omega, ?_⟩
  conv => whnf
  refine ⟨Int.le_refl _, ?_⟩
  conv => whnf
  refine ⟨show (g.length : Int) * 1 ≤ 70368744177664 by omega, ?_⟩
  conv => whnf
  refine ⟨show (g.length : Int) ≤ 70368744177664 by omega, ?_⟩
  conv => whnf
  refine loop_rule (fun x : List Gl × Int => S39a back l (List.replicate ((g.length : Int)).toNat false) x.1 x.2) (fun x => ((l.length : Int) - x.2).toNat) (fun x => 0 ≤ x.2 ∧ x.2 ≤ l.length ∧ EndsAt back.length l x.2.toNat x.1) ?_ (List.replicate ((g.length : Int)).toNat (0, 0, false), 0) (by kernel_rfl) ?_ ⟨Int.le_refl _, by show (0 : Int) ≤ _; omega, by show EndsAt _ _ 0 (List.replicate ((g.length : Int)).toNat _); rw [show ((g.length : Int)).toNat = back.length by omega]; exact EndsAt.start _ _⟩
  case refine_2 => rfl
  rintro ⟨out, i⟩ ⟨h0, i1, hea⟩
  have h0 : 0 ≤ i := h0
  have i1 : i ≤ l.length := i1
  have hea : EndsAt back.length l i.toNat out := hea
  conv => whnf
  refine cond_intro (fun hlt => ?_) (fun hlt => ?_)
  · have hlt : i < (l.length : Int) := @of_decide_eq_true _ _ hlt
    have wi : IntKind.i64.wrap (i + 1) = i + 1 := wrap_eq (by omega) (by omega)
    have ei : (i + 1).toNat = i.toNat + 1 := by omega
    have hm := hls _ (gI_mem (n := i.toNat) (by omega))
    have hlo := hea.lo
    conv => whnf
    refine ⟨h0, ?_⟩
    conv => whnf
    refine ⟨hlt, ?_⟩
    conv => whnf
    refine ⟨hm.1, ?_⟩
    conv => whnf
    refine ⟨show gI l i.toNat < (out.length : Int) by omega, ?_⟩
    conv => whnf
    refine ⟨(out.set (gI l i.toNat).toNat (0, 1, true), i + 1), ?_, ⟨by show 0 ≤ i + 1; omega, by show i + 1 ≤ _; omega, by show EndsAt _ _ (i + 1).toNat _; rw [ei]; exact hea.step (by omega) hm.1 hm.2⟩, by show ((l.length : Int) - (i + 1)).toNat < ((l.length : Int) - i).toNat; omega⟩
    exact Eq.trans (b := S39a back l (List.replicate ((g.length : Int)).toNat false) (out.set (gI l i.toNat).toNat (0, 1, true)) (IntKind.i64.wrap (i + 1))) rfl (by rw [wi])
  have hlt : ¬ (i < (l.length : Int)) := @of_decide_eq_false _ _ hlt
  conv => whnf
  refine loop_rule (fun x : List Bool × List Gl => S39b back x.1 x.2) (fun x => x.1.count false) (fun x => Dj (Rb back) (Tl l) back.length 1000000000000 x.2 x.1 noTodo) ?_ (List.replicate back.length false, out) (by kernel_rfl) ?_ (EndsAt.dj (by rw [show i.toNat = l.length by omega] at hea; exact hea))
  case refine_2 => exact Eq.trans (b := S39b back (List.replicate ((g.length : Int)).toNat false) out) rfl (by rw [show ((g.length : Int)).toNat = back.length by omega])
  rintro ⟨done, out0⟩ hdj0
  have hdj0 : Dj (Rb back) (Tl l) back.length 1000000000000 out0 done noTodo := hdj0
  have hdl := hdj0.ld
  conv => whnf
  refine loop_rule (fun x : Int × Int => S39c back done out0 x.1 x.2) (fun x => ((out0.length : Int) - x.2).toNat) (fun x => 0 ≤ x.2 ∧ x.2 ≤ out0.length ∧ Sel out0 done x.1 x.2.toNat) ?_ (-1, 0) (by kernel_rfl) ?_ ⟨Int.le_refl _, by show (0 : Int) ≤ _; omega, Or.inl ⟨rfl, fun m hm => by simp at hm⟩⟩
  case refine_2 => rfl
  rintro ⟨a, k⟩ ⟨k0, k1, hsel⟩
  have k0 : 0 ≤ k := k0
  have k1 : k ≤ out0.length := k1
  have hsel : Sel out0 done a k.toNat := hsel
  have hlo1 := hdj0.lo
  conv => whnf
  refine cond_intro (fun hlt => ?_) (fun hlt => ?_)
  · have hlt : k < (out0.length : Int) := @of_decide_eq_true _ _ hlt
    have wk : IntKind.i64.wrap (k + 1) = k + 1 := wrap_eq (by omega) (by omega)
    have ek : (k + 1).toNat = k.toNat + 1 := by omega
    conv => whnf
    refine ⟨k0, ?_⟩
    conv => whnf
    refine ⟨hlt, ?_⟩
    conv => whnf
    refine cond_intro (fun i1 => ?_) (fun i1 => ?_)
    · have i1 : ((gG out0 k.toNat).2.2) = true := i1
      conv => whnf
      refine ⟨k0, ?_⟩
      conv => whnf
      refine ⟨show k < (done.length : Int) by omega, ?_⟩
      conv => whnf
      refine cond_intro (fun i2 => ?_) (fun i2 => ?_)
      · have i2 : (!(gB done k.toNat)) = true := i2
        have i2 : (gB done k.toNat) = false := by cases e : (gB done k.toNat) with | false => rfl | true => exact absurd i2 (by rw [e]; decide)
        conv => whnf
        refine cond_intro (fun i3 => ?_) (fun i3 => ?_)
        · have i3 : a < 0 := @of_decide_eq_true _ _ i3
          have hsk : Sel out0 done k (k.toNat + 1) := by
            have := hsel.set (k := k.toNat) (by omega) i1 i2 (Or.inl i3)
            rwa [show ((k.toNat : Nat) : Int) = k by omega] at this
          conv => whnf
          refine ⟨(k, k + 1), ?_, ⟨by show 0 ≤ k + 1; omega, by show k + 1 ≤ _; omega, by show Sel out0 done k (k + 1).toNat; rw [ek]; exact hsk⟩, by show ((out0.length : Int) - (k + 1)).toNat < ((out0.length : Int) - k).toNat; omega⟩
          exact Eq.trans (b := S39c back done out0 k (IntKind.i64.wrap (k + 1))) rfl (by rw [wk])
        have i3 : ¬ (a < 0) := @of_decide_eq_false _ _ i3
        have ha : 0 ≤ a ∧ a < (out0.length : Int) := by rcases hsel with ⟨h, _⟩ | ⟨h, h', _⟩ <;> omega
        conv => whnf
        refine ⟨ha.1, ?_⟩
        conv => whnf
        refine ⟨ha.2, ?_⟩
        conv => whnf
        refine ⟨ha.1, ?_⟩
        conv => whnf
        refine ⟨ha.2, ?_⟩
        conv => whnf
        refine cond_intro (fun i4 => ?_) (fun i4 => ?_)
        · have i4 : (lessR (gG out0 k.toNat).1 (gG out0 k.toNat).2.1 (gG out0 a.toNat).1 (gG out0 a.toNat).2.1) = true := i4
          have hsk : Sel out0 done k (k.toNat + 1) := by
            have := hsel.set (k := k.toNat) (by omega) i1 i2 (Or.inr i4)
            rwa [show ((k.toNat : Nat) : Int) = k by omega] at this
          conv => whnf
          refine ⟨(k, k + 1), ?_, ⟨by show 0 ≤ k + 1; omega, by show k + 1 ≤ _; omega, by show Sel out0 done k (k + 1).toNat; rw [ek]; exact hsk⟩, by show ((out0.length : Int) - (k + 1)).toNat < ((out0.length : Int) - k).toNat; omega⟩
          exact Eq.trans (b := S39c back done out0 k (IntKind.i64.wrap (k + 1))) rfl (by rw [wk])
        have i4 : (lessR (gG out0 k.toNat).1 (gG out0 k.toNat).2.1 (gG out0 a.toNat).1 (gG out0 a.toNat).2.1) = false := i4
        conv => whnf
        refine ⟨(a, k + 1), ?_, ⟨by show 0 ≤ k + 1; omega, by show k + 1 ≤ _; omega, by show Sel out0 done a (k + 1).toNat; rw [ek]; exact hsel.stay i3 i4⟩, by show ((out0.length : Int) - (k + 1)).toNat < ((out0.length : Int) - k).toNat; omega⟩
        exact Eq.trans (b := S39c back done out0 a (IntKind.i64.wrap (k + 1))) rfl (by rw [wk])
      have i2 : (!(gB done k.toNat)) = false := i2
      have i2 : (gB done k.toNat) = true := by cases e : (gB done k.toNat) with | true => rfl | false => exact absurd i2 (by rw [e]; decide)
      conv => whnf
      refine ⟨(a, k + 1), ?_, ⟨by show 0 ≤ k + 1; omega, by show k + 1 ≤ _; omega, by show Sel out0 done a (k + 1).toNat; rw [ek]; exact hsel.skip (Or.inr i2)⟩, by show ((out0.length : Int) - (k + 1)).toNat < ((out0.length : Int) - k).toNat; omega⟩
      exact Eq.trans (b := S39c back done out0 a (IntKind.i64.wrap (k + 1))) rfl (by rw [wk])
    have i1 : ((gG out0 k.toNat).2.2) = false := i1
    conv => whnf
    refine ⟨(a, k + 1), ?_, ⟨by show 0 ≤ k + 1; omega, by show k + 1 ≤ _; omega, by show Sel out0 done a (k + 1).toNat; rw [ek]; exact hsel.skip (Or.inl i1)⟩, by show ((out0.length : Int) - (k + 1)).toNat < ((out0.length : Int) - k).toNat; omega⟩
    exact Eq.trans (b := S39c back done out0 a (IntKind.i64.wrap (k + 1))) rfl (by rw [wk])
  have hlt : ¬ (k < (out0.length : Int)) := @of_decide_eq_false _ _ hlt
  have ek0 : k.toNat = out0.length := by omega
  rw [ek0] at hsel
  conv => whnf
  refine cond_intro (fun a1 => ?_) (fun a1 => ?_)
  · have a1 : a < 0 := @of_decide_eq_true _ _ a1
    have hall : out0 = toG (Rb back) (Tl l) back.length := hdj0.all hS hT (fun m hm hi => by
      rcases hsel with ⟨_, h⟩ | ⟨h, _⟩
      · exact h m (by rw [hdj0.lo]; exact hm) hi
      · omega)
    conv => whnf
    show out0 = toG (Rb back) (Tl l) back.length
    exact hall
  have a1 : ¬ (a < 0) := @of_decide_eq_false _ _ a1
  obtain ⟨hsa, hsb, hsi, hsd, hsm⟩ : 0 ≤ a ∧ a < (out0.length : Int) ∧ (gG out0 a.toNat).2.2 = true ∧ gB done a.toNat = false ∧ ∀ m, m < out0.length → (gG out0 m).2.2 = true → gB done m = false → lp2 (gG out0 a.toNat) (gG out0 m) := by
    rcases hsel with ⟨h, _⟩ | h
    · omega
    · exact h
  have hlo0 := hdj0.lo
  have a0 : 0 ≤ a := hsa
  have a1 : a < (back.length : Int) := by omega
  have hlp := hdj0.pick hS hT (a := a.toNat) (by omega) hsi hsd (fun m hm => hsm m (by omega))
  have htk := (hdj0.take hS (by omega) hsi hsd hlp).weaken (todo' := tdo back a.toNat 0) (fun k q w hr hq => by
    refine ⟨hq, ?_⟩
    obtain ⟨_, e, he, e1, e2⟩ := hr
    rw [hq, Int.toNat_natCast] at he
    obtain ⟨i, hi, e3⟩ := List.getElem_of_mem he
    exact ⟨i, Nat.zero_le _, hi, by rw [gE_eq hi, e3]; exact e1, by rw [gE_eq hi, e3]; exact e2⟩)
  have hcc : (gG out0 a.toNat).2.1 ≤ (done.set a.toNat true).count true := by
    rw [count_set_true (by omega) hsd]
    have := (hdj0.bnd a.toNat (by omega) hsi).2.1
    omega
  have hrow := hgo.ok a.toNat (by omega)
  conv => whnf
  refine ⟨a0, ?_⟩
  conv => whnf
  refine ⟨show a < (done.length : Int) by omega, ?_⟩
  conv => whnf
  refine ⟨a0, ?_⟩
  conv => whnf
  refine ⟨a1, ?_⟩
  conv => whnf
  refine loop_rule (fun x : List Gl × Int => S39d back (done.set a.toNat true) (gEs back a.toNat) a x.1 x.2) (fun x => (((gEs back a.toNat).length : Int) - x.2).toNat) (fun x => 0 ≤ x.2 ∧ x.2 ≤ (gEs back a.toNat).length ∧ Dj (Rb back) (Tl l) back.length 1000000000000 x.1 (done.set a.toNat true) (tdo back a.toNat x.2.toNat) ∧ (gG x.1 a.toNat).2.1 ≤ (done.set a.toNat true).count true) ?_ (out0, 0) (by kernel_rfl) ?_ ⟨Int.le_refl _, by show (0 : Int) ≤ _; omega, htk, hcc⟩
  case refine_2 => rfl
  rintro ⟨out, j⟩ ⟨j0, j1, hdj, hct⟩
  have j0 : 0 ≤ j := j0
  have j1 : j ≤ (gEs back a.toNat).length := j1
  have hdj : Dj (Rb back) (Tl l) back.length 1000000000000 out (done.set a.toNat true) (tdo back a.toNat j.toNat) := hdj
  have hct : (gG out a.toNat).2.1 ≤ (done.set a.toNat true).count true := hct
  conv => whnf
  refine cond_intro (fun hlt2 => ?_) (fun hlt2 => ?_)
  · have hlt2 : j < ((gEs back a.toNat).length : Int) := @of_decide_eq_true _ _ hlt2
    have hlt := hlt2
    have wj : IntKind.i64.wrap (j + 1) = j + 1 := wrap_eq (by omega) (by omega)
    have ej : (j + 1).toNat = j.toNat + 1 := by omega
    have hjl : j.toNat < (gEs back a.toNat).length := by omega
    have hge := hrow.2 _ (gE_mem (n := j.toNat) hjl)
    have hel : (gE (gEs back a.toNat) j.toNat).2.1.toNat < back.length := by omega
    have hrel : Rb back (((gE (gEs back a.toNat) j.toNat).2.1.toNat : Nat) : Int) ((a.toNat : Nat) : Int) (gE (gEs back a.toNat) j.toNat).2.2 := ⟨by omega, _, by rw [Int.toNat_natCast]; exact gE_mem hjl, by omega, rfl⟩
    have hda : gB (done.set a.toNat true) a.toNat = true := by rw [gB_set (by rw [hdl]; omega), if_pos rfl]
    have hnx := hdj.relax hS (k := (gE (gEs back a.toNat) j.toNat).2.1.toNat) (a := a.toNat) (w := (gE (gEs back a.toNat) j.toNat).2.2) hel (by omega) hda hrel (fun k q w h => h.1) hct (tdo back a.toNat (j + 1).toNat) (fun k' q w' ht hn => ⟨ht.1, by
      obtain ⟨_, i, i1, i2, i3, i4⟩ := ht
      refine ⟨i, ?_, i2, i3, i4⟩
      rcases Nat.lt_or_eq_of_le i1 with g | g
      · omega
      · subst g; exact absurd ⟨by omega, by omega⟩ hn⟩)
    have hgo : (((gE (gEs back a.toNat) j.toNat).2.1.toNat : Nat) : Int) = (gE (gEs back a.toNat) j.toNat).2.1 := by omega
    rw [hgo] at hnx
    have hbd := hdj.bnd a.toNat (by omega) (hdj.dn a.toNat (by omega) hda).1
    have hcl := count_le (done.set a.toNat true)
    have hdl1 : (done.set a.toNat true).length = back.length := by rw [List.length_set]; exact hdl
    have hlo := hdj.lo
    have hoff : gG (if gB (done.set a.toNat true) (gE (gEs back a.toNat) j.toNat).2.1.toNat = true then out else relaxR out (gE (gEs back a.toNat) j.toNat).2.1 ((gG out a.toNat).1 + (gE (gEs back a.toNat) j.toNat).2.2, (gG out a.toNat).2.1 + 1, true)) a.toNat = gG out a.toNat := by
      split
      · rfl
      · rename_i hnd
        exact relax_off (by rw [hlo]; omega) (fun e => hnd (by rw [e]; exact hda))
    have hct' : (gG (if gB (done.set a.toNat true) (gE (gEs back a.toNat) j.toNat).2.1.toNat = true then out else relaxR out (gE (gEs back a.toNat) j.toNat).2.1 ((gG out a.toNat).1 + (gE (gEs back a.toNat) j.toNat).2.2, (gG out a.toNat).2.1 + 1, true)) a.toNat).2.1 ≤ (done.set a.toNat true).count true := by rw [hoff]; exact hct
    conv => whnf
    refine ⟨j0, ?_⟩
    conv => whnf
    refine ⟨hlt, ?_⟩
    conv => whnf
    refine ⟨hge.1.1, ?_⟩
    conv => whnf
    refine ⟨show (gE (gEs back a.toNat) j.toNat).2.1 < ((done.set a.toNat true).length : Int) by omega, ?_⟩
    conv => whnf
    refine cond_intro (fun hnd => ?_) (fun hnd => ?_)
    · have hnd : (!(gB (done.set a.toNat true) (gE (gEs back a.toNat) j.toNat).2.1.toNat)) = true := hnd
      have hnd : (gB (done.set a.toNat true) (gE (gEs back a.toNat) j.toNat).2.1.toNat) = false := by cases e : (gB (done.set a.toNat true) (gE (gEs back a.toNat) j.toNat).2.1.toNat) with | false => rfl | true => exact absurd hnd (by rw [e]; decide)
      have a0' := a0
      have al : a < (out.length : Int) := by omega
      have wc : IntKind.i64.wrap ((gG out a.toNat).1 + (gE (gEs back a.toNat) j.toNat).2.2) = (gG out a.toNat).1 + (gE (gEs back a.toNat) j.toNat).2.2 := wrap_eq (by omega) (by omega)
      have ws : IntKind.i64.wrap ((gG out a.toNat).2.1 + 1) = (gG out a.toNat).2.1 + 1 := wrap_eq (by omega) (by omega)
      rw [if_neg (by rw [hnd]; decide)] at hnx hct'
      conv => whnf
      refine ⟨a0', ?_⟩
      conv => whnf
      refine ⟨al, ?_⟩
      conv => whnf
      refine ⟨a0', ?_⟩
      conv => whnf
      refine ⟨al, ?_⟩
      conv => whnf
      refine ⟨show 0 ≤ (gE (gEs back a.toNat) j.toNat).2.1 ∧ (gE (gEs back a.toNat) j.toNat).2.1 < (out.length : Int) from ⟨hge.1.1, by omega⟩, ?_⟩
      conv => whnf
      refine ⟨(relaxR out (gE (gEs back a.toNat) j.toNat).2.1 ((gG out a.toNat).1 + (gE (gEs back a.toNat) j.toNat).2.2, (gG out a.toNat).2.1 + 1, true), j + 1), ?_, ⟨by show 0 ≤ j + 1; omega, by show j + 1 ≤ _; omega, hnx, hct'⟩, by show (((gEs back a.toNat).length : Int) - (j + 1)).toNat < (((gEs back a.toNat).length : Int) - j).toNat; omega⟩
      exact Eq.trans (b := S39d back (done.set a.toNat true) (gEs back a.toNat) a (relaxR out (gE (gEs back a.toNat) j.toNat).2.1 (IntKind.i64.wrap ((gG out a.toNat).1 + (gE (gEs back a.toNat) j.toNat).2.2), IntKind.i64.wrap ((gG out a.toNat).2.1 + 1), true)) (IntKind.i64.wrap (j + 1))) rfl (by rw [wc, ws, wj])
    have hnd : (!(gB (done.set a.toNat true) (gE (gEs back a.toNat) j.toNat).2.1.toNat)) = false := hnd
    have hnd : (gB (done.set a.toNat true) (gE (gEs back a.toNat) j.toNat).2.1.toNat) = true := by cases e : (gB (done.set a.toNat true) (gE (gEs back a.toNat) j.toNat).2.1.toNat) with | true => rfl | false => exact absurd hnd (by rw [e]; decide)
    rw [if_pos hnd] at hnx hct'
    conv => whnf
    refine ⟨(out, j + 1), ?_, ⟨by show 0 ≤ j + 1; omega, by show j + 1 ≤ _; omega, hnx, hct'⟩, by show (((gEs back a.toNat).length : Int) - (j + 1)).toNat < (((gEs back a.toNat).length : Int) - j).toNat; omega⟩
    exact Eq.trans (b := S39d back (done.set a.toNat true) (gEs back a.toNat) a out (IntKind.i64.wrap (j + 1))) rfl (by rw [wj])
  have hlt2 : ¬ (j < ((gEs back a.toNat).length : Int)) := @of_decide_eq_false _ _ hlt2
  have hfin : Dj (Rb back) (Tl l) back.length 1000000000000 out (done.set a.toNat true) noTodo := hdj.weaken fun k q w _ ht => by
    obtain ⟨_, i, i1, i2, _⟩ := ht
    omega
  have hcf1 := count_false done
  have hcf2 := count_false (done.set a.toNat true)
  have hct2 := count_set_true (l := done) (k := a.toNat) (by omega) hsd
  have hdl1 : (done.set a.toNat true).length = back.length := by rw [List.length_set]; exact hdl
  conv => whnf
  refine ⟨(done.set a.toNat true, out), rfl, hfin, ?_⟩
  show (done.set a.toNat true).count false < done.count false
  omega
end
end Go.Proofs.Ythgclbohlcgdgaa.Eng
set_option linter.unusedVariables false
set_option linter.unusedSimpArgs false
namespace Go.Proofs.Ythgclbohlcgdgaa.Eng
open Go
set_option maxRecDepth 100000
noncomputable section
def Re (es : List Ed) : Rel := fun k q w => (k, q, w) ∈ es
/-- One pair before another one. -/
def ltF (x y : Fa) : Bool := decide (0 ≤ x.1) && decide (x.1 < y.1 ∨ (x.1 = y.1 ∧ x.2 < y.2))
theorem ltF_iff {x y : Fa} : ltF x y = true ↔ 0 ≤ x.1 ∧ (x.1 < y.1 ∨ (x.1 = y.1 ∧ x.2 < y.2)) := by simp [ltF]
theorem lessF_iff {a b : Fa} : lessF a b = true ↔ b.1 < 0 ∨ a.1 < b.1 ∨ (a.1 = b.1 ∧ a.2 < b.2) := by simp [lessF]
theorem countP_le {p q : Nat → Bool} : ∀ {l : List Nat}, (∀ j ∈ l, p j = true → q j = true) → l.countP p ≤ l.countP q
  | [], _ => Nat.le_refl _
  | a :: l, h => by
    have ih := countP_le (p := p) (q := q) (l := l) fun j hj => h j (List.mem_cons_of_mem _ hj)
    rw [List.countP_cons, List.countP_cons]
    have := h a List.mem_cons_self
    cases hp : p a <;> cases hq : q a <;> simp_all <;> omega
theorem countP_lt {p q : Nat → Bool} {x : Nat} : ∀ {l : List Nat}, x ∈ l → (∀ j ∈ l, p j = true → q j = true) → p x = false → q x = true → l.countP p + 1 ≤ l.countP q
  | [], hx, _, _, _ => by cases hx
  | a :: l, hx, h, h1, h2 => by
    rw [List.countP_cons, List.countP_cons]
    have ha := h a List.mem_cons_self
    by_cases e : x = a
    · subst e
      have := countP_le (p := p) (q := q) (l := l) fun j hj => h j (List.mem_cons_of_mem _ hj)
      simp [h1, h2]
      omega
    · have hx' : x ∈ l := by
        rcases List.mem_cons.1 hx with g | g
        · exact absurd g e
        · exact g
      have ih := countP_lt hx' (fun j hj => h j (List.mem_cons_of_mem _ hj)) h1 h2
      cases hp : p a <;> cases hq : q a <;> simp_all <;> omega
theorem countP_len {p : Nat → Bool} {n : Nat} : (List.range n).countP p ≤ n := by
  have := List.countP_le_length (p := p) (l := List.range n)
  simpa using this
theorem gF_set {l : List Fa} {k m : Nat} {x : Fa} (h : k < l.length) : gF (l.set k x) m = if k = m then x else gF l m := by
  unfold gF
  rw [List.getD_eq_getElem?_getD, List.getD_eq_getElem?_getD, List.getElem?_set]
  by_cases e : k = m
  · subst e; simp [h]
  · simp [e]
/-- What is told of the nodes while the edges are gone through. -/
structure Fj (R : Rel) (T : Int → Prop) (N : Nat) (C : Int) (out : List Fa) : Prop where
  lo : out.length = N
  bad : ∀ k, k < N → (gF out k).1 < 0 → gF out k = (-1, 0)
  way : ∀ k, k < N → 0 ≤ (gF out k).1 → Wy R T k (gF out k).1 (gF out k).2
  ends : ∀ k : Nat, k < N → T k → gF out k = (0, 0)
  cnt : ∀ k, k < N → 0 ≤ (gF out k).1 → (gF out k).2 ≤ ((List.range N).countP fun j => ltF (gF out j) (gF out k) : Nat)
  bnd : ∀ k, k < N → 0 ≤ (gF out k).1 → (gF out k).1 ≤ C * (gF out k).2
def valF (C : Int) (N : Nat) (x : Fa) : Nat := if x.1 < 0 then ((C * N + 1) * (N + 1)).toNat else (x.1 * (N + 1) + x.2).toNat
def phiF (C : Int) (N : Nat) (out : List Fa) : Nat := (out.map (valF C N)).sum
theorem sum_set {f : Fa → Nat} : ∀ {l : List Fa} {k : Nat} {x : Fa}, k < l.length → f x < f (gF l k) → ((l.set k x).map f).sum < (l.map f).sum
  | [], k, x, h, _ => by simp at h
  | a :: l, 0, x, h, g => by
    have g : f x < f a := g
    simp only [List.set_cons_zero, List.map_cons, List.sum_cons]
    omega
  | a :: l, k + 1, x, h, g => by
    have g : f x < f (gF l k) := g
    have := sum_set (l := l) (k := k) (x := x) (by simpa using h) g
    simp only [List.set_cons_succ, List.map_cons, List.sum_cons]
    omega
variable {R : Rel} {T : Int → Prop} {N : Nat} {C : Int} {out : List Fa}
theorem Fj.snn (hS : Steps R N C) (h : Fj R T N C out) {k : Nat} (hk : k < N) (h0 : 0 ≤ (gF out k).1) : 0 ≤ (gF out k).2 ∧ (gF out k).2 ≤ N := by
  have h1 := (h.way k hk h0).nonneg hS
  have h2 := h.cnt k hk h0
  have h3 := countP_len (p := fun j => ltF (gF out j) (gF out k)) (n := N)
  omega
theorem Fj.step (hS : Steps R N C) (hC : 0 ≤ C) (h : Fj R T N C out) {k q : Nat} {w : Int} (hr : R k q w) (hq : 0 ≤ (gF out q).1) (hl : lessF ((gF out q).1 + w, (gF out q).2 + 1) (gF out k) = true) :
    Fj R T N C (out.set k ((gF out q).1 + w, (gF out q).2 + 1)) ∧ phiF C N (out.set k ((gF out q).1 + w, (gF out q).2 + 1)) < phiF C N out := by
  have hb := hS.ok hr
  have hkN : k < N := by omega
  have hqN : q < N := by omega
  have hkl : k < out.length := by rw [h.lo]; exact hkN
  have hsq := h.snn hS hqN hq
  have hl' := lessF_iff.1 hl
  simp only at hl'
  have hqk : q ≠ k := by
    rintro rfl
    omega
  have hnt : ¬ T k := by
    intro ht
    have e := h.ends k hkN ht
    rw [e] at hl'
    simp only at hl'
    omega
  have hcq := h.cnt q hqN hq
  have hbq := h.bnd q hqN hq
  have hmul : C * ((gF out q).2 + 1) = C * (gF out q).2 + C := by rw [Int.mul_add, Int.mul_one]
  have hcnew : ((List.range N).countP fun j => ltF (gF out j) (gF out q)) + 1 ≤ (List.range N).countP fun j => ltF (gF (out.set k ((gF out q).1 + w, (gF out q).2 + 1)) j) ((gF out q).1 + w, (gF out q).2 + 1) := by
    refine countP_lt (x := q) (List.mem_range.2 hqN) (fun j _ hj => ?_) ?_ ?_
    · have hj := ltF_iff.1 hj
      have hjk : j ≠ k := by rintro rfl; omega
      rw [gF_set hkl, if_neg (fun e => hjk e.symm)]
      refine ltF_iff.2 ?_
      simp only
      omega
    · cases e : ltF (gF out q) (gF out q)
      · rfl
      · have := ltF_iff.1 e; omega
    · rw [gF_set hkl, if_neg (fun e => hqk e.symm)]
      refine ltF_iff.2 ?_
      simp only
      omega
  have hsN : (gF out q).2 + 1 ≤ N := by
    have := countP_len (p := fun j => ltF (gF (out.set k ((gF out q).1 + w, (gF out q).2 + 1)) j) ((gF out q).1 + w, (gF out q).2 + 1)) (n := N)
    omega
  refine ⟨⟨by rw [List.length_set]; exact h.lo, fun m hm hi => ?_, fun m hm hi => ?_, fun m hm ht => ?_, fun m hm hi => ?_, fun m hm hi => ?_⟩, ?_⟩
  · rw [gF_set hkl] at hi ⊢
    split at hi
    · simp only at hi; omega
    · rename_i e; rw [if_neg e]; exact h.bad m hm hi
  · rw [gF_set hkl] at hi ⊢
    split at hi
    · rename_i e; subst e; rw [if_pos rfl]; exact .cons hr (h.way q hqN hq)
    · rename_i e; rw [if_neg e]; exact h.way m hm hi
  · rw [gF_set hkl, if_neg (by rintro rfl; exact hnt ht)]
    exact h.ends m hm ht
  · by_cases e : k = m
    · subst e
      have e1 : gF (out.set k ((gF out q).1 + w, (gF out q).2 + 1)) k = ((gF out q).1 + w, (gF out q).2 + 1) := by rw [gF_set hkl, if_pos rfl]
      rw [e1]
      simp only
      omega
    · have e1 : gF (out.set k ((gF out q).1 + w, (gF out q).2 + 1)) m = gF out m := by rw [gF_set hkl, if_neg e]
      rw [e1] at hi ⊢
      have h1 := h.cnt m hm hi
      have h2 : ((List.range N).countP fun j => ltF (gF out j) (gF out m)) ≤ (List.range N).countP fun j => ltF (gF (out.set k ((gF out q).1 + w, (gF out q).2 + 1)) j) (gF out m) := by
        refine countP_le fun j _ hj => ?_
        by_cases e2 : k = j
        · subst e2
          have hj := ltF_iff.1 hj
          rw [gF_set hkl, if_pos rfl]
          refine ltF_iff.2 ?_
          simp only
          omega
        · rw [gF_set hkl, if_neg e2]; exact hj
      omega
  · rw [gF_set hkl] at hi ⊢
    split at hi
    · rename_i e; rw [if_pos e]
      simp only
      omega
    · rename_i e; rw [if_neg e]; exact h.bnd m hm hi
  · refine sum_set hkl ?_
    unfold valF
    simp only
    rw [if_neg (by omega)]
    have n1 : (0 : Int) ≤ ((gF out q).1 + w) * (N + 1) := Int.mul_nonneg (by omega) (by omega)
    split
    · rename_i hneg
      have m1 : C * ((gF out q).2 + 1) ≤ C * N := Int.mul_le_mul_of_nonneg_left hsN hC
      have m2 : ((gF out q).1 + w) * (N + 1) ≤ (C * N) * (N + 1) := Int.mul_le_mul_of_nonneg_right (by omega) (by omega)
      have m3 : (C * N + 1) * ((N : Int) + 1) = (C * N) * (N + 1) + (N + 1) := by rw [Int.add_mul, Int.one_mul]
      rw [m3]
      omega
    · rename_i hneg
      have hsk := h.snn hS hkN (by omega)
      rcases hl' with g | g | g
      · exact absurd g hneg
      · have m2 : ((gF out q).1 + w + 1) * ((N : Int) + 1) ≤ (gF out k).1 * (N + 1) := Int.mul_le_mul_of_nonneg_right (by omega) (by omega)
        have m3 : ((gF out q).1 + w + 1) * ((N : Int) + 1) = ((gF out q).1 + w) * (N + 1) + (N + 1) := by rw [Int.add_mul, Int.one_mul]
        rw [m3] at m2
        omega
      · rw [g.1] at n1 ⊢
        omega
/-- Where nothing changes any more, all is least. -/
theorem Fj.all (hS : Steps R N C) (hT : ∀ k, T k → 0 ≤ k ∧ k < N) (h : Fj R T N C out) (hs : ∀ (k q : Nat) (w : Int), R k q w → 0 ≤ (gF out q).1 → lessF ((gF out q).1 + w, (gF out q).2 + 1) (gF out k) = false) : out = toF R T N := by
  have key : ∀ {k c s : Int}, Wy R T k c s → 0 ≤ k → k < N → 0 ≤ (gF out k.toNat).1 ∧ ((gF out k.toNat).1 < c ∨ ((gF out k.toNat).1 = c ∧ (gF out k.toNat).2 ≤ s)) := by
    intro k c s hw
    induction hw with
    | nil ht =>
      rename_i k
      intro k0 k1
      have e := h.ends k.toNat (by omega) (by rw [show ((k.toNat : Nat) : Int) = k by omega]; exact ht)
      rw [e]
      simp
    | cons hr hw ih =>
      rename_i k q w c s
      intro k0 k1
      have hb := hS.ok hr
      obtain ⟨i1, i2⟩ := ih (by omega) (by omega)
      have hr' : R ((k.toNat : Nat) : Int) ((q.toNat : Nat) : Int) w := by rw [show ((k.toNat : Nat) : Int) = k by omega, show ((q.toNat : Nat) : Int) = q by omega]; exact hr
      have hf := hs k.toNat q.toNat w hr' i1
      have hf : ¬ _ := mt lessF_iff.2 (by rw [hf]; decide)
      simp only at hf
      omega
  apply List.ext_getElem
  · rw [h.lo, toF_len]
  · intro k k1 k2
    have hk : k < N := by rw [← h.lo]; exact k1
    rw [← gF_eq k1, ← gF_eq k2, toF_at hk]
    have ek : ((k : Int)).toNat = k := by omega
    by_cases hi : (gF out k).1 < 0
    · rw [lp_none fun c s hw => ?_, h.bad k hk hi]; rfl
      have := (key hw (by omega) (by omega)).1
      rw [ek] at this
      omega
    · rw [lp_some (c := (gF out k).1) (s := (gF out k).2) ⟨h.way k hk (by omega), fun c s hw => ?_⟩]
      · rfl
      · have := (key hw (by omega) (by omega)).2
        rw [ek] at this
        omega
end
end Go.Proofs.Ythgclbohlcgdgaa.Eng
set_option linter.unusedVariables false
set_option linter.unusedSimpArgs false
namespace Go.Proofs.Ythgclbohlcgdgaa.Eng
open Go
set_option maxRecDepth 100000
noncomputable section
structure EsOk (n : Int) (es : List Ed) : Prop where
  ok : ∀ e ∈ es, (0 ≤ e.1 ∧ e.1 < n) ∧ (0 ≤ e.2.1 ∧ e.2.1 < n) ∧ 0 ≤ e.2.2 ∧ e.2.2 ≤ 1000000000000
theorem EsOk.steps {n : Int} {es : List Ed} (h : EsOk n es) : Steps (Re es) n.toNat 1000000000000 := by
  refine ⟨fun {k q w} hr => ?_⟩
  have := h.ok _ hr
  simp only at this
  omega
structure InitF (N i : Nat) (out : List Fa) : Prop where
  lo : out.length = N
  yes : ∀ k, k < N → k < i → gF out k = (-1, 0)
  no : ∀ k, k < N → ¬ k < i → gF out k = (0, 0)
structure EndsF (N : Nat) (l : List Int) (i : Nat) (out : List Fa) : Prop where
  lo : out.length = N
  yes : ∀ k, k < N → (k : Int) ∈ l.take i → gF out k = (0, 0)
  no : ∀ k, k < N → (k : Int) ∉ l.take i → gF out k = (-1, 0)
theorem gF_rep {N k : Nat} : gF (List.replicate N ((0, 0) : Fa)) k = (0, 0) := by
  unfold gF
  rw [List.getD_eq_getElem?_getD, List.getElem?_replicate]
  split <;> rfl
theorem InitF.start (N : Nat) : InitF N 0 (List.replicate N ((0, 0) : Fa)) := ⟨by simp, fun k _ h => by omega, fun k _ _ => gF_rep⟩
theorem InitF.step {N i : Nat} {out : List Fa} (h : InitF N i out) (hi : i < N) : InitF N (i + 1) (out.set i (-1, (gF out i).2)) := by
  have e : (gF out i).2 = 0 := by rw [h.no i hi (by omega)]
  have hl : i < out.length := by rw [h.lo]; exact hi
  rw [e]
  refine ⟨by rw [List.length_set]; exact h.lo, fun k hk hm => ?_, fun k hk hm => ?_⟩
  · rw [gF_set hl]
    split
    · rfl
    · exact h.yes k hk (by omega)
  · rw [gF_set hl, if_neg (by omega)]
    exact h.no k hk (by omega)
theorem InitF.ends {N : Nat} {out : List Fa} (h : InitF N N out) (l : List Int) : EndsF N l 0 out := ⟨h.lo, fun k _ hm => by simp at hm, fun k hk _ => h.yes k hk hk⟩
theorem EndsF.step {N : Nat} {l : List Int} {i : Nat} {out : List Fa} (h : EndsF N l i out) (hi : i < l.length) (h0 : 0 ≤ gI l i) (h1 : gI l i < N) : EndsF N l (i + 1) (out.set (gI l i).toNat (0, 0)) := by
  have hl : (gI l i).toNat < out.length := by rw [h.lo]; omega
  have ht : l.take (i + 1) = l.take i ++ [gI l i] := by rw [List.take_succ_eq_append_getElem hi, gI_eq hi]
  refine ⟨by rw [List.length_set]; exact h.lo, fun k hk hm => ?_, fun k hk hm => ?_⟩
  · rw [gF_set hl]
    split
    · rfl
    · rw [ht] at hm
      rcases List.mem_append.1 hm with g | g
      · exact h.yes k hk g
      · have := List.mem_singleton.1 g; omega
  · rw [ht] at hm
    have h2 : ¬ ((k : Int) = gI l i) := fun e => hm (by rw [e]; simp)
    rw [gF_set hl, if_neg (by omega)]
    exact h.no k hk fun g => hm (List.mem_append_left _ g)
theorem EndsF.fj {N : Nat} {l : List Int} {out : List Fa} {R : Rel} {C : Int} (h : EndsF N l l.length out) : Fj R (Tl l) N C out := by
  have e : l.take l.length = l := List.take_length
  refine ⟨h.lo, fun k hk hi => ?_, fun k hk hi => ?_, fun k hk ht => h.yes k hk (by rw [e]; exact ht), fun k hk hi => ?_, fun k hk hi => ?_⟩
  · by_cases g : (k : Int) ∈ l
    · rw [h.yes k hk (by rw [e]; exact g)] at hi; simp at hi
    · exact h.no k hk (by rw [e]; exact g)
  · by_cases g : (k : Int) ∈ l
    · rw [h.yes k hk (by rw [e]; exact g)]; exact .nil g
    · rw [h.no k hk (by rw [e]; exact g)] at hi; simp at hi
  · by_cases g : (k : Int) ∈ l
    · rw [h.yes k hk (by rw [e]; exact g)]; simp only; omega
    · rw [h.no k hk (by rw [e]; exact g)] at hi; simp at hi
  · by_cases g : (k : Int) ∈ l
    · rw [h.yes k hk (by rw [e]; exact g)]; simp
    · rw [h.no k hk (by rw [e]; exact g)] at hi; simp at hi
/-- An edge that changes nothing. -/
def satE (out : List Fa) (e : Ed) : Prop := 0 ≤ (gF out e.2.1.toNat).1 → lessF ((gF out e.2.1.toNat).1 + e.2.2, (gF out e.2.1.toNat).2 + 1) (gF out e.1.toNat) = false
def S44a (es : List Ed) (l : List Int) (m : Nat) (out : List Fa) (i : Int) : SL := ⟨List.replicate 1 .undef ++ [.sl eT es] ++ [.sl I l] ++ List.replicate 4 .undef ++ [.own 0] ++ List.replicate 11 .undef ++ [.int .i64 (m : Int)] ++ [.int .i64 i] ++ List.replicate 56 .undef, [(0, .arr fT out)], 1⟩
def S44b (es : List Ed) (l : List Int) (out : List Fa) (i : Int) : SL := ⟨List.replicate 1 .undef ++ [.sl eT es] ++ List.replicate 5 .undef ++ [.own 0] ++ List.replicate 20 .undef ++ [.sl I l] ++ [.int .i64 l.length] ++ [.int .i64 i] ++ List.replicate 46 .undef, [(0, .arr fT out)], 1⟩
def S44c (es : List Ed) (ch : Bool) (out : List Fa) : SL := ⟨List.replicate 1 .undef ++ [.sl eT es] ++ List.replicate 5 .undef ++ [.own 0] ++ List.replicate 3 .undef ++ [.bool ch] ++ List.replicate 65 .undef, [(0, .arr fT out)], 1⟩
def S44d (es : List Ed) (ch : Bool) (out : List Fa) (j : Int) : SL := ⟨List.replicate 1 .undef ++ [.sl eT es] ++ List.replicate 5 .undef ++ [.own 0] ++ List.replicate 3 .undef ++ [.bool ch] ++ List.replicate 28 .undef ++ [.sl eT es] ++ [.int .i64 es.length] ++ [.int .i64 j] ++ List.replicate 34 .undef, [(0, .arr fT out)], 1⟩
def E44 : Env := ⟨tab, [(45, K45)], fun n => match n with | 3 => some ([1, 2, 7, 19, 20], [], []) | 8 => some ([1, 7, 28, 29, 30], [], []) | 13 => some ([1, 7, 11], [], []) | 16 => some ([1, 7, 11, 40, 41, 42], [], []) | _ => none⟩
def K44 : Fn1 := ⟨.fld I (.fld (.sl eT) (.one (.sl I))), .one (.sl fT), fun (a : Int × List Ed × List Int) => [0 ≤ a.1 ∧ a.1 ≤ 100000, a.2.1.length ≤ 2000000, EsOk a.1 a.2.1, a.2.2.length ≤ 1000000000, ∀ k ∈ a.2.2, 0 ≤ k ∧ k < a.1], fun (a : Int × List Ed × List Int) => toF (Re a.2.1) (Tl a.2.2) a.1.toNat⟩
set_option maxHeartbeats 4000000 in
theorem k44 : FnOk Go.Proofs.Try.prog 44 K44 := by
  refine fn_ok (E := E44) (TOk.of tab_told) (AllOk.cons k45 .nil).at_ mix Go.Proofs.Try.func44 rfl rfl (by kernel_rfl) K44 ?_
  rintro ⟨(n : Int), (es : List Ed), (l : List Int)⟩ hp
  have hn : 0 ≤ n ∧ n ≤ 100000 := hp _ (List.mem_cons_self ..)
  have hel : es.length ≤ 2000000 := hp _ (List.mem_cons_of_mem _ (List.mem_cons_self ..))
  have heo : EsOk n es := hp _ (List.mem_cons_of_mem _ (List.mem_cons_of_mem _ (List.mem_cons_self ..)))
  have hl : l.length ≤ 1000000000 := hp _ (List.mem_cons_of_mem _ (List.mem_cons_of_mem _ (List.mem_cons_of_mem _ (List.mem_cons_self ..))))
  have hls : ∀ k ∈ l, 0 ≤ k ∧ k < n := hp _ (List.mem_cons_of_mem _ (List.mem_cons_of_mem _ (List.mem_cons_of_mem _ (List.mem_cons_of_mem _ (List.mem_cons_self ..)))))
  clear hp
  have hS := heo.steps
  have hT : ∀ k, Tl l k → 0 ≤ k ∧ k < (n.toNat : Int) := fun k hk => by have := hls k hk; omega
  conv => whnf
  refine ⟨hn.1, ?_⟩
  conv => whnf
  refine ⟨Int.le_refl _, ?_⟩
  conv => whnf
  refine ⟨show n * 16 ≤ 70368744177664 by omega, ?_⟩
  conv => whnf
  refine ⟨show n ≤ 70368744177664 by omega, ?_⟩
  conv => whnf
  refine loop_rule (fun x : List Fa × Int => S44a es l n.toNat x.1 x.2) (fun x => (n - x.2).toNat) (fun x => 0 ≤ x.2 ∧ x.2 ≤ n ∧ InitF n.toNat x.2.toNat x.1) ?_ (List.replicate n.toNat (0, 0), 0) (by kernel_rfl) ?_ ⟨Int.le_refl _, by show (0 : Int) ≤ _; omega, InitF.start _⟩
  case refine_2 => exact Eq.trans (b := S44a es l (List.replicate n.toNat ((0, 0) : Fa)).length (List.replicate n.toNat (0, 0)) 0) rfl (by rw [List.length_replicate])
  rintro ⟨out1, i1⟩ ⟨g0, g1, hin⟩
  have g0 : 0 ≤ i1 := g0
  have g1 : i1 ≤ n := g1
  have hin : InitF n.toNat i1.toNat out1 := hin
  have hlo1 := hin.lo
  have hol : (out1.length : Int) = n := by omega
  conv => whnf
  refine cond_intro (fun hlt0 => ?_) (fun hlt0 => ?_)
  · have hlt0 : i1 < ((n.toNat : Nat) : Int) := @of_decide_eq_true _ _ hlt0
    have wi1 : IntKind.i64.wrap (i1 + 1) = i1 + 1 := wrap_eq (by omega) (by omega)
    have ei1 : (i1 + 1).toNat = i1.toNat + 1 := by omega
    conv => whnf
    refine ⟨g0, ?_⟩
    conv => whnf
    refine ⟨show i1 < (out1.length : Int) by omega, ?_⟩
    conv => whnf
    refine ⟨(out1.set i1.toNat (-1, (gF out1 i1.toNat).2), i1 + 1), ?_, ⟨by show 0 ≤ i1 + 1; omega, by show i1 + 1 ≤ _; omega, by show InitF _ (i1 + 1).toNat _; rw [ei1]; exact hin.step (by omega)⟩, by show (n - (i1 + 1)).toNat < (n - i1).toNat; omega⟩
    exact Eq.trans (b := S44a es l n.toNat (out1.set i1.toNat (-1, (gF out1 i1.toNat).2)) (IntKind.i64.wrap (i1 + 1))) rfl (by rw [wi1])
  have hlt0 : ¬ (i1 < ((n.toNat : Nat) : Int)) := @of_decide_eq_false _ _ hlt0
  conv => whnf
  refine loop_rule (fun x : List Fa × Int => S44b es l x.1 x.2) (fun x => ((l.length : Int) - x.2).toNat) (fun x => 0 ≤ x.2 ∧ x.2 ≤ l.length ∧ EndsF n.toNat l x.2.toNat x.1) ?_ (out1, 0) (by kernel_rfl) ?_ ⟨Int.le_refl _, by show (0 : Int) ≤ _; omega, by have hlo1 := hin.lo; rw [show i1.toNat = n.toNat by omega] at hin; exact hin.ends l⟩
  case refine_2 => rfl
  rintro ⟨out, i⟩ ⟨h0, i1', hea⟩
  have h0 : 0 ≤ i := h0
  have i1' : i ≤ l.length := i1'
  have hea : EndsF n.toNat l i.toNat out := hea
  conv => whnf
  refine cond_intro (fun hlt => ?_) (fun hlt => ?_)
  · have hlt : i < (l.length : Int) := @of_decide_eq_true _ _ hlt
    have wi : IntKind.i64.wrap (i + 1) = i + 1 := wrap_eq (by omega) (by omega)
    have ei : (i + 1).toNat = i.toNat + 1 := by omega
    have hm := hls _ (gI_mem (n := i.toNat) (l := l) (by omega))
    have hlo := hea.lo
    conv => whnf
    refine ⟨h0, ?_⟩
    conv => whnf
    refine ⟨hlt, ?_⟩
    conv => whnf
    refine ⟨hm.1, ?_⟩
    conv => whnf
    refine ⟨show gI l i.toNat < (out.length : Int) by omega, ?_⟩
    conv => whnf
    refine ⟨(out.set (gI l i.toNat).toNat (0, 0), i + 1), ?_, ⟨by show 0 ≤ i + 1; omega, by show i + 1 ≤ _; omega, by show EndsF _ _ (i + 1).toNat _; rw [ei]; exact hea.step (by omega) hm.1 (by omega)⟩, by show ((l.length : Int) - (i + 1)).toNat < ((l.length : Int) - i).toNat; omega⟩
    exact Eq.trans (b := S44b es l (out.set (gI l i.toNat).toNat (0, 0)) (IntKind.i64.wrap (i + 1))) rfl (by rw [wi])
  have hlt : ¬ (i < (l.length : Int)) := @of_decide_eq_false _ _ hlt
  conv => whnf
  refine loop_rule (fun x : Bool × List Fa => S44c es x.1 x.2) (fun x => 2 * phiF 1000000000000 n.toNat x.2 + (if x.1 = true then 1 else 0)) (fun x => Fj (Re es) (Tl l) n.toNat 1000000000000 x.2 ∧ (x.1 = false → ∀ i, i < es.length → satE x.2 (gE es i))) ?_ (true, out) (by kernel_rfl) ?_ ⟨EndsF.fj (by rw [show i.toNat = l.length by omega] at hea; exact hea), fun h => by cases h⟩
  case refine_2 => rfl
  rintro ⟨ch0, out0⟩ ⟨hfj0, hst⟩
  have hfj0 : Fj (Re es) (Tl l) n.toNat 1000000000000 out0 := hfj0
  have hst : ch0 = false → ∀ i, i < es.length → satE out0 (gE es i) := hst
  cases ch0
  · have hsat : ∀ i, i < es.length → satE out0 (gE es i) := hst rfl
    have hall := hfj0.all hS hT (fun k q w hr hq => by
      obtain ⟨i, hi, e⟩ := List.getElem_of_mem hr
      have := hsat i hi
      rw [gE_eq hi, e] at this
      exact this (by simpa using hq))
    conv => whnf
    show out0 = toF (Re es) (Tl l) n.toNat
    exact hall
  · conv => whnf
    refine loop_rule (fun x : (Bool × List Fa) × Int => S44d es x.1.1 x.1.2 x.2) (fun x => ((es.length : Int) - x.2).toNat) (fun x => 0 ≤ x.2 ∧ x.2 ≤ es.length ∧ Fj (Re es) (Tl l) n.toNat 1000000000000 x.1.2 ∧ ((x.1.1 = false ∧ x.1.2 = out0 ∧ ∀ i, i < x.2.toNat → satE out0 (gE es i)) ∨ (x.1.1 = true ∧ phiF 1000000000000 n.toNat x.1.2 < phiF 1000000000000 n.toNat out0))) ?_ ((false, out0), 0) (by kernel_rfl) ?_ ⟨Int.le_refl _, by show (0 : Int) ≤ _; omega, hfj0, Or.inl ⟨rfl, rfl, fun i hi => by simp at hi⟩⟩
    case refine_2 => rfl
    rintro ⟨⟨ch, out⟩, j⟩ ⟨j0, j1, hfj, hch⟩
    have j0 : 0 ≤ j := j0
    have j1 : j ≤ es.length := j1
    have hfj : Fj (Re es) (Tl l) n.toNat 1000000000000 out := hfj
    have hch : ((ch = false ∧ out = out0 ∧ ∀ i, i < j.toNat → satE out0 (gE es i)) ∨ (ch = true ∧ phiF 1000000000000 n.toNat out < phiF 1000000000000 n.toNat out0)) := hch
    conv => whnf
    refine cond_intro (fun hlt2 => ?_) (fun hlt2 => ?_)
    · have hlt2 : j < (es.length : Int) := @of_decide_eq_true _ _ hlt2
      have hlt := hlt2
      have wj : IntKind.i64.wrap (j + 1) = j + 1 := wrap_eq (by omega) (by omega)
      have ej : (j + 1).toNat = j.toNat + 1 := by omega
      have hee := heo.ok _ (gE_mem (n := j.toNat) (l := es) (by omega))
      have hlo := hfj.lo
      have hnl : (out.length : Int) = n := by omega
      have t0 := hee.2.1.1
      have t1 : (gE es j.toNat).2.1 < (out.length : Int) := by omega
      have f0 := hee.1.1
      have f1 : (gE es j.toNat).1 < (out.length : Int) := by omega
      conv => whnf
      refine ⟨j0, ?_⟩
      conv => whnf
      refine ⟨hlt, ?_⟩
      conv => whnf
      refine ⟨t0, ?_⟩
      conv => whnf
      refine ⟨t1, ?_⟩
      conv => whnf
      refine cond_intro (fun hb => ?_) (fun hb => ?_)
      · have hb : 0 ≤ (gF out (gE es j.toNat).2.1.toNat).1 := @of_decide_eq_true _ _ hb
        have hbd := hfj.bnd (gE es j.toNat).2.1.toNat (by omega) hb
        have hsn := hfj.snn hS (k := (gE es j.toNat).2.1.toNat) (by omega) hb
        have wc : IntKind.i64.wrap ((gF out (gE es j.toNat).2.1.toNat).1 + (gE es j.toNat).2.2) = (gF out (gE es j.toNat).2.1.toNat).1 + (gE es j.toNat).2.2 := wrap_eq (by omega) (by omega)
        have ws : IntKind.i64.wrap ((gF out (gE es j.toNat).2.1.toNat).2 + 1) = (gF out (gE es j.toNat).2.1.toNat).2 + 1 := wrap_eq (by omega) (by omega)
        conv => whnf
        refine ⟨f0, ?_⟩
        conv => whnf
        refine ⟨f1, ?_⟩
        conv => whnf
        refine cond_intro (fun hl => ?_) (fun hl => ?_)
        · have hl : (lessF (IntKind.i64.wrap ((gF out (gE es j.toNat).2.1.toNat).1 + (gE es j.toNat).2.2), IntKind.i64.wrap ((gF out (gE es j.toNat).2.1.toNat).2 + 1)) (gF out (gE es j.toNat).1.toNat)) = true := hl
          rw [wc, ws] at hl
          have hrel : Re es (((gE es j.toNat).1.toNat : Nat) : Int) (((gE es j.toNat).2.1.toNat : Nat) : Int) (gE es j.toNat).2.2 := by
            show (_, _, _) ∈ es
            rw [show (((gE es j.toNat).1.toNat : Nat) : Int) = (gE es j.toNat).1 by omega, show (((gE es j.toNat).2.1.toNat : Nat) : Int) = (gE es j.toNat).2.1 by omega]
            exact gE_mem (n := j.toNat) (by omega)
          obtain ⟨hf2, hph⟩ := hfj.step hS (by omega) hrel hb hl
          conv => whnf
          refine ⟨f0, ?_⟩
          conv => whnf
          refine ⟨f1, ?_⟩
          conv => whnf
          refine ⟨((true, out.set (gE es j.toNat).1.toNat ((gF out (gE es j.toNat).2.1.toNat).1 + (gE es j.toNat).2.2, (gF out (gE es j.toNat).2.1.toNat).2 + 1)), j + 1), ?_, ⟨by show 0 ≤ j + 1; omega, by show j + 1 ≤ _; omega, hf2, ?_⟩, by show ((es.length : Int) - (j + 1)).toNat < ((es.length : Int) - j).toNat; omega⟩
          · exact Eq.trans (b := S44d es true (out.set (gE es j.toNat).1.toNat (IntKind.i64.wrap ((gF out (gE es j.toNat).2.1.toNat).1 + (gE es j.toNat).2.2), IntKind.i64.wrap ((gF out (gE es j.toNat).2.1.toNat).2 + 1))) (IntKind.i64.wrap (j + 1))) rfl (by rw [wc, ws, wj])
          · refine Or.inr ⟨rfl, ?_⟩
            rcases hch with ⟨_, c2, _⟩ | ⟨_, h⟩
            · rw [c2] at hph ⊢; exact hph
            · exact Nat.lt_trans hph h
        have hl : (lessF (IntKind.i64.wrap ((gF out (gE es j.toNat).2.1.toNat).1 + (gE es j.toNat).2.2), IntKind.i64.wrap ((gF out (gE es j.toNat).2.1.toNat).2 + 1)) (gF out (gE es j.toNat).1.toNat)) = false := hl
        rw [wc, ws] at hl
        have hsat : satE out (gE es j.toNat) := fun _ => hl
        conv => whnf
        refine ⟨((ch, out), j + 1), ?_, ⟨by show 0 ≤ j + 1; omega, by show j + 1 ≤ _; omega, hfj, ?_⟩, by show ((es.length : Int) - (j + 1)).toNat < ((es.length : Int) - j).toNat; omega⟩
        · exact Eq.trans (b := S44d es ch out (IntKind.i64.wrap (j + 1))) rfl (by rw [wj])
        · show ((ch = false ∧ out = out0 ∧ ∀ i, i < (j + 1).toNat → satE out0 (gE es i)) ∨ (ch = true ∧ phiF 1000000000000 n.toNat out < phiF 1000000000000 n.toNat out0))
          rcases hch with ⟨c1, c2, c3⟩ | h
          · refine Or.inl ⟨c1, c2, fun i hi => ?_⟩
            rw [ej] at hi
            rcases Nat.lt_or_eq_of_le (Nat.le_of_lt_succ hi) with g | g
            · exact c3 i g
            · subst g; rw [c2] at hsat; exact hsat
          · exact Or.inr h
      have hb : ¬ (0 ≤ (gF out (gE es j.toNat).2.1.toNat).1) := @of_decide_eq_false _ _ hb
      have hsat : satE out (gE es j.toNat) := fun h => absurd h hb
      conv => whnf
      refine ⟨((ch, out), j + 1), ?_, ⟨by show 0 ≤ j + 1; omega, by show j + 1 ≤ _; omega, hfj, ?_⟩, by show ((es.length : Int) - (j + 1)).toNat < ((es.length : Int) - j).toNat; omega⟩
      · exact Eq.trans (b := S44d es ch out (IntKind.i64.wrap (j + 1))) rfl (by rw [wj])
      · show ((ch = false ∧ out = out0 ∧ ∀ i, i < (j + 1).toNat → satE out0 (gE es i)) ∨ (ch = true ∧ phiF 1000000000000 n.toNat out < phiF 1000000000000 n.toNat out0))
        rcases hch with ⟨c1, c2, c3⟩ | h
        · refine Or.inl ⟨c1, c2, fun i hi => ?_⟩
          rw [ej] at hi
          rcases Nat.lt_or_eq_of_le (Nat.le_of_lt_succ hi) with g | g
          · exact c3 i g
          · subst g; rw [c2] at hsat; exact hsat
        · exact Or.inr h
    have hlt2 : ¬ (j < (es.length : Int)) := @of_decide_eq_false _ _ hlt2
    conv => whnf
    refine ⟨(ch, out), rfl, ⟨hfj, fun hc => ?_⟩, ?_⟩
    · have hc : ch = false := hc
      show ∀ i, i < es.length → satE out (gE es i)
      rcases hch with ⟨_, c2, c3⟩ | ⟨c1, _⟩
      · rw [c2]; exact fun i hi => c3 i (by omega)
      · rw [hc] at c1; cases c1
    · show 2 * phiF 1000000000000 n.toNat out + (if ch = true then 1 else 0) < 2 * phiF 1000000000000 n.toNat out0 + 1
      rcases hch with ⟨c1, c2, _⟩ | ⟨c1, h⟩
      · rw [c1, c2, if_neg (by decide)]; omega
      · rw [if_pos c1]; omega
end
end Go.Proofs.Ythgclbohlcgdgaa.Eng
set_option linter.unusedVariables false
set_option linter.unusedSimpArgs false
namespace Go.Proofs.Ythgclbohlcgdgaa.Eng
open Go
set_option maxRecDepth 100000
noncomputable section
def tightG (l : List Gl) (a : Int) (e : Ed) : Bool := (gG l e.2.1.toNat).2.2 && (decide ((gG l e.2.1.toNat).1 + e.2.2 = (gG l a.toNat).1) && decide ((gG l e.2.1.toNat).2.1 + 1 = (gG l a.toNat).2.1))
def nextG (g : List (List Ed)) (l : List Gl) (a : Int) : Int := match (gEs g a.toNat).find? (tightG l a) with | some e => e.2.1 | none => a
def walkG (g : List (List Ed)) (l : List Gl) : Nat → Int → List Int
  | 0, a => [a]
  | s + 1, a => a :: walkG g l s (nextG g l a)
structure WOk (g : List (List Ed)) (l : List Gl) : Prop where
  len : g.length = l.length
  row : ∀ a, a < l.length → (gEs g a).length ≤ 2000000 ∧ ∀ e ∈ gEs g a, (0 ≤ e.2.1 ∧ e.2.1 < (l.length : Int)) ∧ 0 ≤ e.2.2 ∧ e.2.2 ≤ 1000000000000
  bnd : ∀ k, k < l.length → 0 ≤ (gG l k).1 ∧ (gG l k).1 ≤ 1000000000000000000 ∧ 0 ≤ (gG l k).2.1 ∧ (gG l k).2.1 ≤ 1000000
  nx : ∀ k : Nat, k < l.length → 1 < (gG l k).2.1 → ∃ e ∈ gEs g k, tightG l k e = true
theorem tight_iff {l : List Gl} {a : Int} {e : Ed} : tightG l a e = true ↔ (gG l e.2.1.toNat).2.2 = true ∧ (gG l e.2.1.toNat).1 + e.2.2 = (gG l a.toNat).1 ∧ (gG l e.2.1.toNat).2.1 + 1 = (gG l a.toNat).2.1 := by simp [tightG]
theorem next_at {g : List (List Ed)} {l : List Gl} {a : Int} {j : Nat} (hj : j < (gEs g a.toNat).length) (h : ∀ i, i < j → tightG l a (gE (gEs g a.toNat) i) = false) (ht : tightG l a (gE (gEs g a.toNat) j) = true) : nextG g l a = (gE (gEs g a.toNat) j).2.1 := by
  have e : (gEs g a.toNat).find? (tightG l a) = some (gE (gEs g a.toNat) j) := by
    rw [List.find?_eq_some_iff_getElem]
    refine ⟨ht, j, hj, (gE_eq hj).symm, fun i hi => ?_⟩
    rw [← gE_eq (by omega), h i hi]; rfl
  unfold nextG
  rw [e]
theorem next_none {l : List Gl} {a : Int} {row : List Ed} (h : ∀ i, i < row.length → tightG l a (gE row i) = false) : ¬ ∃ e ∈ row, tightG l a e = true := by
  rintro ⟨e, he, ht⟩
  obtain ⟨i, hi, ei⟩ := List.getElem_of_mem he
  have := h i hi
  rw [gE_eq hi, ei, ht] at this
  cases this
theorem walkG_tail (g : List (List Ed)) (l : List Gl) (s : Nat) (a : Int) : walkG g l s a = a :: (walkG g l s a).tail := by cases s <;> rfl
theorem walk_step {g : List (List Ed)} {l : List Gl} {a b : Int} (hb : nextG g l a = b) (h1 : 1 < (gG l a.toNat).2.1) (h2 : (gG l b.toNat).2.1 + 1 = (gG l a.toNat).2.1) (out : List Int) :
    (out ++ [b]) ++ (walkG g l ((gG l b.toNat).2.1 - 1).toNat b).tail = out ++ (walkG g l ((gG l a.toNat).2.1 - 1).toNat a).tail := by
  have e : ((gG l a.toNat).2.1 - 1).toNat = ((gG l b.toNat).2.1 - 1).toNat + 1 := by omega
  rw [e]
  show _ = out ++ walkG g l ((gG l b.toNat).2.1 - 1).toNat (nextG g l a)
  rw [hb, walkG_tail g l _ b, List.append_assoc]
  rfl
def S42a (g : List (List Ed)) (l : List Gl) (out : List Int) (a : Int) : SL := ⟨[.sl (.sl eT) g] ++ [.sl gT l] ++ [.int .i64 a] ++ List.replicate 4 .undef ++ [.own 0] ++ List.replicate 59 .undef, [(0, .arr I out)], 1⟩
def S42b (g : List (List Ed)) (l : List Gl) (out : List Int) (a : Int) (row : List Ed) (j : Int) : SL := ⟨[.sl (.sl eT) g] ++ [.sl gT l] ++ [.int .i64 a] ++ List.replicate 4 .undef ++ [.own 0] ++ List.replicate 14 .undef ++ [.sl eT row] ++ [.int .i64 row.length] ++ [.int .i64 j] ++ List.replicate 42 .undef, [(0, .arr I out)], 1⟩
def E42 : Env := ⟨tab, [], fun n => match n with | 2 => some ([0, 1, 2, 7], [], []) | 4 => some ([0, 1, 2, 7, 22, 23, 24], [], []) | _ => none⟩
def K42 : Fn1 := ⟨.fld (.sl (.sl eT)) (.fld (.sl gT) (.one I)), .one (.sl I), fun (a : List (List Ed) × List Gl × Int) => [WOk a.1 a.2.1, 0 ≤ a.2.2 ∧ a.2.2 < (a.2.1.length : Int) ∧ 1 ≤ (gG a.2.1 a.2.2.toNat).2.1], fun (a : List (List Ed) × List Gl × Int) => walkG a.1 a.2.1 ((gG a.2.1 a.2.2.toNat).2.1 - 1).toNat a.2.2⟩
set_option maxHeartbeats 4000000 in
theorem k42 : FnOk Go.Proofs.Try.prog 42 K42 := by
  refine fn_ok (E := E42) (TOk.of tab_told) (fun f k h => by cases h) mix Go.Proofs.Try.func42 rfl rfl (by kernel_rfl) K42 ?_
  rintro ⟨(g : List (List Ed)), (l : List Gl), (b : Int)⟩ hp
  have hw : WOk g l := hp _ (List.mem_cons_self ..)
  have hb : 0 ≤ b ∧ b < (l.length : Int) ∧ 1 ≤ (gG l b.toNat).2.1 := hp _ (List.mem_cons_of_mem _ (List.mem_cons_self ..))
  clear hp
  have hgl := hw.len
  obtain ⟨b0, b1, b2⟩ := hb
  conv => whnf
  refine loop_rule (fun x : List Int × Int => S42a g l x.1 x.2) (fun x => (gG l x.2.toNat).2.1.toNat) (fun x => 0 ≤ x.2 ∧ x.2 < (l.length : Int) ∧ 1 ≤ (gG l x.2.toNat).2.1 ∧ (x.1.length : Int) + (gG l x.2.toNat).2.1 = 1 + (gG l b.toNat).2.1 ∧ x.1 ++ (walkG g l ((gG l x.2.toNat).2.1 - 1).toNat x.2).tail = walkG g l ((gG l b.toNat).2.1 - 1).toNat b) ?_ ([b], b) (by kernel_rfl) ?_ ⟨b0, b1, b2, by show ((1 : Nat) : Int) + (gG l b.toNat).2.1 = 1 + (gG l b.toNat).2.1; omega, (walkG_tail g l _ b).symm⟩
  case refine_2 => rfl
  rintro ⟨out, a⟩ ⟨a0, a1, a2, hlen, hout⟩
  have a0 : 0 ≤ a := a0
  have a1 : a < (l.length : Int) := a1
  have a2 : 1 ≤ (gG l a.toNat).2.1 := a2
  have hlen : (out.length : Int) + (gG l a.toNat).2.1 = 1 + (gG l b.toNat).2.1 := hlen
  have hout : out ++ (walkG g l ((gG l a.toNat).2.1 - 1).toNat a).tail = walkG g l ((gG l b.toNat).2.1 - 1).toNat b := hout
  have hba := hw.bnd a.toNat (by omega)
  have hbb := hw.bnd b.toNat (by omega)
  conv => whnf
  refine ⟨a0, ?_⟩
  conv => whnf
  refine ⟨a1, ?_⟩
  conv => whnf
  refine cond_intro (fun h1 => ?_) (fun h1 => ?_)
  · have h1 : 1 < (gG l a.toNat).2.1 := @of_decide_eq_true _ _ h1
    have hrow := hw.row a.toNat (by omega)
    conv => whnf
    refine ⟨a0, ?_⟩
    conv => whnf
    refine ⟨show a < (g.length : Int) by omega, ?_⟩
    conv => whnf
    refine loop_rule (fun j => S42b g l out a (gEs g a.toNat) j) (fun j => (((gEs g a.toNat).length : Int) - j).toNat) (fun j => 0 ≤ j ∧ j ≤ (gEs g a.toNat).length ∧ ∀ i, i < j.toNat → tightG l a (gE (gEs g a.toNat) i) = false) ?_ 0 (by kernel_rfl) ?_ ⟨by omega, by omega, fun i hi => by simp at hi⟩
    case refine_2 => rfl
    rintro j ⟨j0, j1, hin⟩
    conv => whnf
    refine cond_intro (fun jlt => ?_) (fun jlt => ?_)
    · have jlt : j < ((gEs g a.toNat).length : Int) := @of_decide_eq_true _ _ jlt
      have wj : IntKind.i64.wrap (j + 1) = j + 1 := wrap_eq (by omega) (by omega)
      have ej : (j + 1).toNat = j.toNat + 1 := by omega
      have hee := hrow.2 _ (gE_mem (n := j.toNat) (l := (gEs g a.toNat)) (by omega))
      have hbx := hw.bnd (gE (gEs g a.toNat) j.toNat).2.1.toNat (by omega)
      have wc : IntKind.i64.wrap ((gG l (gE (gEs g a.toNat) j.toNat).2.1.toNat).1 + (gE (gEs g a.toNat) j.toNat).2.2) = (gG l (gE (gEs g a.toNat) j.toNat).2.1.toNat).1 + (gE (gEs g a.toNat) j.toNat).2.2 := wrap_eq (by omega) (by omega)
      have ws : IntKind.i64.wrap ((gG l (gE (gEs g a.toNat) j.toNat).2.1.toNat).2.1 + 1) = (gG l (gE (gEs g a.toNat) j.toNat).2.1.toNat).2.1 + 1 := wrap_eq (by omega) (by omega)
      conv => whnf
      refine ⟨j0, ?_⟩
      conv => whnf
      refine ⟨jlt, ?_⟩
      conv => whnf
      refine ⟨hee.1.1, ?_⟩
      conv => whnf
      refine ⟨hee.1.2, ?_⟩
      conv => whnf
      refine cond_intro (fun i1 => ?_) (fun i1 => ?_)
      · have i1 : ((gG l (gE (gEs g a.toNat) j.toNat).2.1.toNat).2.2) = true := i1
        conv => whnf
        refine ⟨a0, ?_⟩
        conv => whnf
        refine ⟨a1, ?_⟩
        conv => whnf
        refine cond_intro (fun i2 => ?_) (fun i2 => ?_)
        · have i2 : IntKind.i64.wrap ((gG l (gE (gEs g a.toNat) j.toNat).2.1.toNat).1 + (gE (gEs g a.toNat) j.toNat).2.2) = (gG l a.toNat).1 := @of_decide_eq_true _ _ i2
          rw [wc] at i2
          conv => whnf
          refine ⟨a0, ?_⟩
          conv => whnf
          refine ⟨a1, ?_⟩
          conv => whnf
          refine cond_intro (fun i3 => ?_) (fun i3 => ?_)
          · have i3 : IntKind.i64.wrap ((gG l (gE (gEs g a.toNat) j.toNat).2.1.toNat).2.1 + 1) = (gG l a.toNat).2.1 := @of_decide_eq_true _ _ i3
            rw [ws] at i3
            have htg : tightG l a (gE (gEs g a.toNat) j.toNat) = true := tight_iff.2 ⟨i1, i2, i3⟩
            have hnx := next_at (g := g) (by omega) hin htg
            conv => whnf
            refine ⟨show (out.length + 1) * 8 ≤ 70368744177664 by omega, ?_⟩
            conv => whnf
            refine ⟨show out.length + 1 ≤ 70368744177664 by omega, ?_⟩
            conv => whnf
            refine ⟨(out ++ [(gE (gEs g a.toNat) j.toNat).2.1], (gE (gEs g a.toNat) j.toNat).2.1), rfl, ⟨by show 0 ≤ (gE (gEs g a.toNat) j.toNat).2.1; omega, by show (gE (gEs g a.toNat) j.toNat).2.1 < _; omega, by show 1 ≤ (gG l (gE (gEs g a.toNat) j.toNat).2.1.toNat).2.1; omega, ?_, ?_⟩, by show (gG l (gE (gEs g a.toNat) j.toNat).2.1.toNat).2.1.toNat < (gG l a.toNat).2.1.toNat; omega⟩
            · show ((out ++ [(gE (gEs g a.toNat) j.toNat).2.1]).length : Int) + (gG l (gE (gEs g a.toNat) j.toNat).2.1.toNat).2.1 = _
              rw [List.length_append, List.length_singleton]; omega
            · show (out ++ [(gE (gEs g a.toNat) j.toNat).2.1]) ++ _ = _
              rw [walk_step hnx h1 i3]; exact hout
          have i3 : ¬ (IntKind.i64.wrap ((gG l (gE (gEs g a.toNat) j.toNat).2.1.toNat).2.1 + 1) = (gG l a.toNat).2.1) := @of_decide_eq_false _ _ i3
          rw [ws] at i3
          have hno : tightG l a (gE (gEs g a.toNat) j.toNat) = false := by
            cases e : tightG l a (gE (gEs g a.toNat) j.toNat)
            · rfl
            · exact absurd (tight_iff.1 e).2.2 i3
          conv => whnf
          refine ⟨j + 1, ?_, ⟨by omega, by omega, fun i hi => ?_⟩, by omega⟩
          · exact Eq.trans (b := S42b g l out a (gEs g a.toNat) (IntKind.i64.wrap (j + 1))) rfl (by rw [wj])
          · rw [ej] at hi
            rcases Nat.lt_or_eq_of_le (Nat.le_of_lt_succ hi) with g' | g'
            · exact hin i g'
            · subst g'; exact hno
        have i2 : ¬ (IntKind.i64.wrap ((gG l (gE (gEs g a.toNat) j.toNat).2.1.toNat).1 + (gE (gEs g a.toNat) j.toNat).2.2) = (gG l a.toNat).1) := @of_decide_eq_false _ _ i2
        rw [wc] at i2
        have hno : tightG l a (gE (gEs g a.toNat) j.toNat) = false := by
          cases e : tightG l a (gE (gEs g a.toNat) j.toNat)
          · rfl
          · exact absurd (tight_iff.1 e).2.1 i2
        conv => whnf
        refine ⟨j + 1, ?_, ⟨by omega, by omega, fun i hi => ?_⟩, by omega⟩
        · exact Eq.trans (b := S42b g l out a (gEs g a.toNat) (IntKind.i64.wrap (j + 1))) rfl (by rw [wj])
        · rw [ej] at hi
          rcases Nat.lt_or_eq_of_le (Nat.le_of_lt_succ hi) with g' | g'
          · exact hin i g'
          · subst g'; exact hno
      have i1 : ((gG l (gE (gEs g a.toNat) j.toNat).2.1.toNat).2.2) = false := i1
      have hno : tightG l a (gE (gEs g a.toNat) j.toNat) = false := by
        cases e : tightG l a (gE (gEs g a.toNat) j.toNat)
        · rfl
        · exact absurd (tight_iff.1 e).1 (by rw [i1]; decide)
      conv => whnf
      refine ⟨j + 1, ?_, ⟨by omega, by omega, fun i hi => ?_⟩, by omega⟩
      · exact Eq.trans (b := S42b g l out a (gEs g a.toNat) (IntKind.i64.wrap (j + 1))) rfl (by rw [wj])
      · rw [ej] at hi
        rcases Nat.lt_or_eq_of_le (Nat.le_of_lt_succ hi) with g' | g'
        · exact hin i g'
        · subst g'; exact hno
    have jlt : ¬ (j < ((gEs g a.toNat).length : Int)) := @of_decide_eq_false _ _ jlt
    exact absurd (hw.nx a.toNat (by omega) (by omega)) (by
      have := next_none (l := l) (a := a) (row := (gEs g a.toNat)) (fun i hi => hin i (by omega))
      rwa [show ((a.toNat : Nat) : Int) = a by omega])
  have h1 : ¬ (1 < (gG l a.toNat).2.1) := @of_decide_eq_false _ _ h1
  rw [show ((gG l a.toNat).2.1 - 1).toNat = 0 by omega] at hout
  conv => whnf
  show out = walkG g l ((gG l b.toNat).2.1 - 1).toNat b
  rw [← hout]
  exact (List.append_nil out).symm
end
end Go.Proofs.Ythgclbohlcgdgaa.Eng
set_option linter.unusedVariables false
set_option linter.unusedSimpArgs false
namespace Go.Proofs.Ythgclbohlcgdgaa.Eng
open Go
set_option maxRecDepth 100000
noncomputable section
theorem lp_same {R1 R2 : Rel} {T1 T2 : Int → Prop} {k : Int} (h : ∀ c s, IsLeast R1 T1 k c s ↔ IsLeast R2 T2 k c s) : lpR R1 T1 k = lpR R2 T2 k := by
  by_cases g : ∃ p : Int × Int, IsLeast R1 T1 k p.1 p.2
  · obtain ⟨p, hp⟩ := g
    rw [lp_some hp, lp_some ((h _ _).1 hp)]
  · have g2 : ¬ ∃ p : Int × Int, IsLeast R2 T2 k p.1 p.2 := fun ⟨p, hp⟩ => g ⟨p, (h _ _).2 hp⟩
    unfold lpR
    rw [dif_neg g, dif_neg g2]
theorem Wy.mono {R1 R2 : Rel} {T : Int → Prop} (h : ∀ k q w, R1 k q w → R2 k q w) {k c s : Int} (hw : Wy R1 T k c s) : Wy R2 T k c s := by
  induction hw with
  | nil ht => exact .nil ht
  | cons hr _ ih => exact .cons (h _ _ _ hr) ih
theorem Wy.less {R1 R2 : Rel} {T : Int → Prop} (h : ∀ k q w, R2 k q w → ∃ w', w' ≤ w ∧ R1 k q w') {k c s : Int} (hw : Wy R2 T k c s) : ∃ c', c' ≤ c ∧ Wy R1 T k c' s := by
  induction hw with
  | nil ht => exact ⟨0, Int.le_refl _, .nil ht⟩
  | cons hr _ ih =>
    obtain ⟨w', h1, h2⟩ := h _ _ _ hr
    obtain ⟨c', h3, h4⟩ := ih
    exact ⟨c' + w', by omega, .cons h2 h4⟩
theorem lp_dom {R1 R2 : Rel} {T : Int → Prop} (h1 : ∀ k q w, R1 k q w → R2 k q w) (h2 : ∀ k q w, R2 k q w → ∃ w', w' ≤ w ∧ R1 k q w') : lpR R1 T = lpR R2 T := by
  funext k
  refine lp_same fun c s => ⟨fun h => ⟨h.1.mono h1, fun c' s' hw => ?_⟩, fun h => ?_⟩
  · obtain ⟨c'', g1, g2⟩ := hw.less h2
    have := h.2 _ _ g2
    omega
  · obtain ⟨c'', g1, g2⟩ := h.1.less h2
    have := h.2 _ _ (g2.mono h1)
    have e : c'' = c := by omega
    subst e
    exact ⟨g2, fun c' s' hw => h.2 _ _ (hw.mono h1)⟩
theorem turn_turn (es : List Ed) : (es.map turnR).map turnR = es := by
  rw [List.map_map]
  have : turnR ∘ turnR = id := by funext e; rfl
  rw [this, List.map_id]
theorem mem_turn {es : List Ed} {k q w : Int} : (k, q, w) ∈ es.map turnR ↔ (q, k, w) ∈ es := by
  rw [List.mem_map]
  constructor
  · rintro ⟨⟨a, b, c⟩, h, e⟩
    cases e
    exact h
  · intro h
    exact ⟨_, h, rfl⟩
theorem EsOk.turn {n : Int} {es : List Ed} (h : EsOk n es) : EsOk n (es.map turnR) := by
  refine ⟨fun e he => ?_⟩
  obtain ⟨a, b, c⟩ := e
  have := h.ok _ (mem_turn.1 he)
  simp only at this ⊢
  omega
theorem rb_graph {n : Int} {es : List Ed} (h : EsOk n es) (T : Int → Prop) : lpR (Rb (graphR n es)) T = lpR (Re (es.map turnR)) T := by
  refine lp_dom (fun k q w hr => ?_) (fun k q w hr => ?_)
  · obtain ⟨q0, e, he, rfl, rfl⟩ := hr
    obtain ⟨h1, h2⟩ := graph_sub he
    refine mem_turn.2 ?_
    have : e = (q, e.2.1, e.2.2) := Prod.ext (by rw [h2]; simp only; omega) rfl
    rwa [← this]
  · have hm := mem_turn.1 hr
    have hb := h.ok _ hm
    simp only at hb
    obtain ⟨e', h1, h2, h3⟩ := graph_sup hm hb.1.1 hb.1.2
    exact ⟨e'.2.2, h3, hb.1.1, e', h1, h2, rfl⟩
theorem graph_gok {n : Int} {es : List Ed} (h : EsOk n es) (hl : es.length ≤ 2000000) (hn : 0 ≤ n) : GOk (graphR n es) := by
  refine ⟨fun a ha => ⟨?_, fun e he => ?_⟩⟩
  · rw [graph_len] at ha
    rw [graph_at ha]
    have := row_len (sortS es) (sortS es).length a
    have := swo_len (es := es)
    omega
  · have := h.ok _ (graph_sub he).1
    rw [graph_len]
    omega
section
variable {R : Rel} {T : Int → Prop} {N : Nat} {C : Int}
/-- The first step of a least way leads to a least way. -/
theorem lp_step (hS : Steps R N C) {k c s : Int} (h : lpR R T k = some (c, s)) (hs : 0 < s) : ∃ q w, R k q w ∧ lpR R T q = some (c - w, s - 1) := by
  have hl := lp_is h
  obtain ⟨hw, hmin⟩ := hl
  cases hw with
  | nil _ => omega
  | cons hr hw =>
    rename_i q w c s
    refine ⟨q, w, hr, ?_⟩
    have : IsLeast R T q c s := ⟨hw, fun c' s' hw' => by have := hmin _ _ (.cons hr hw'); omega⟩
    rw [lp_some this]
    simp
theorem lp_zero {k c s : Int} (hS : Steps R N C) (h : lpR R T k = some (c, s)) (hs : s ≤ 0) : T k ∧ c = 0 ∧ s = 0 := (lp_is h).1.end_ hS hs
theorem lp_nonneg (hS : Steps R N C) {k c s : Int} (h : lpR R T k = some (c, s)) : 0 ≤ c ∧ 0 ≤ s := by
  have := (lp_is h).1.nonneg hS
  omega
theorem lp_cnt (hS : Steps R N C) : ∀ (s : Nat) (k c : Int), lpR R T k = some (c, (s : Int)) → (s : Int) ≤ ((List.range N).countP fun (j : Nat) => ltF (faOf (lpR R T (j : Int))) (c, (s : Int)) : Nat)
  | 0, k, c, h => by omega
  | s + 1, k, c, h => by
    obtain ⟨q, w, hr, hq⟩ := lp_step hS h (by omega)
    rw [show ((s + 1 : Nat) : Int) - 1 = (s : Int) by omega] at hq
    have ih := lp_cnt hS s q (c - w) hq
    have hb := hS.ok hr
    have h0 := lp_nonneg hS hq
    have := countP_lt (p := fun (j : Nat) => ltF (faOf (lpR R T (j : Int))) (c - w, (s : Int))) (q := fun (j : Nat) => ltF (faOf (lpR R T (j : Int))) (c, ((s + 1 : Nat) : Int))) (x := q.toNat) (l := List.range N) (List.mem_range.2 (by omega)) (fun j _ hj => by
      have hj := ltF_iff.1 hj
      refine ltF_iff.2 ?_
      simp only at hj ⊢
      omega) (by
      rw [show ((q.toNat : Nat) : Int) = q by omega, hq]
      cases e : ltF (faOf (some (c - w, (s : Int)))) (c - w, (s : Int))
      · rfl
      · have := ltF_iff.1 e
        simp only [faOf] at this
        omega) (by
      rw [show ((q.toNat : Nat) : Int) = q by omega, hq]
      refine ltF_iff.2 ?_
      simp only [faOf]
      omega)
    omega
theorem lp_bnd (hS : Steps R N C) (hC : 0 ≤ C) {k c s : Int} (h : lpR R T k = some (c, s)) : 0 ≤ c ∧ 0 ≤ s ∧ s ≤ N ∧ c ≤ C * s := by
  have h0 := lp_nonneg hS h
  have h1 := lp_cnt hS s.toNat k c (by rw [show ((s.toNat : Nat) : Int) = s by omega]; exact h)
  have h2 := countP_len (p := fun (j : Nat) => ltF (faOf (lpR R T (j : Int))) (c, ((s.toNat : Nat) : Int))) (n := N)
  refine ⟨h0.1, h0.2, by omega, ?_⟩
  have : ∀ {k c s : Int}, Wy R T k c s → c ≤ C * s := by
    intro k c s hw
    induction hw with
    | nil _ => simp
    | cons hr _ ih =>
      have := hS.ok hr
      rw [Int.mul_add, Int.mul_one]
      omega
  exact this (lp_is h).1
/-- A node that is the next one on a least way. -/
def nxP (R : Rel) (T : Int → Prop) (k t : Int) : Prop := ∃ w c s, R k t w ∧ lpR R T t = some (c, s) ∧ lpR R T k = some (c + w, s + 1)
open Classical in
def nxR (R : Rel) (T : Int → Prop) (k : Int) : Int := if h : ∃ t : Nat, nxP R T k (t : Int) then ((Classical.choose (first_of h) : Nat) : Int) else 0
theorem nx_eq {k t : Int} (h0 : 0 ≤ t) (h : nxP R T k t) (hm : ∀ u : Int, 0 ≤ u → nxP R T k u → t ≤ u) : nxR R T k = t := by
  have hx : ∃ t : Nat, nxP R T k (t : Int) := ⟨t.toNat, by rw [show ((t.toNat : Nat) : Int) = t by omega]; exact h⟩
  unfold nxR
  rw [dif_pos hx]
  obtain ⟨h1, h2⟩ := Classical.choose_spec (first_of hx)
  have h3 := hm _ (by omega) h1
  have h4 : ¬ t.toNat < Classical.choose (first_of hx) := fun hlt => h2 _ hlt (by rw [show ((t.toNat : Nat) : Int) = t by omega]; exact h)
  omega
def wayR (R : Rel) (T : Int → Prop) : Nat → Int → List Int
  | 0, k => [k]
  | s + 1, k => k :: wayR R T s (nxR R T k)
end
section
variable {n : Int} {es : List Ed} {T : Int → Prop}
theorem glOf_is {o : Option (Int × Int)} (h : (glOf o).2.2 = true) : ∃ p, o = some p := by
  cases o with
  | none => cases h
  | some p => exact ⟨p, rfl⟩
theorem tight_of {k : Int} {e : Ed} (hk : 0 ≤ k ∧ k < n) (he : 0 ≤ e.2.1 ∧ e.2.1 < n) : tightG (toG (Re es) T n.toNat) k e = true ↔ ∃ c s, lpR (Re es) T e.2.1 = some (c, s) ∧ lpR (Re es) T k = some (c + e.2.2, s + 1) ∨ (∃ c s, lpR (Re es) T e.2.1 = some (c, s) ∧ lpR (Re es) T k = none ∧ c + e.2.2 = 0 ∧ s + 2 = 0) := by
  rw [tight_iff, toG_at (by omega), toG_at (by omega), show ((e.2.1.toNat : Nat) : Int) = e.2.1 by omega, show ((k.toNat : Nat) : Int) = k by omega]
  constructor
  · rintro ⟨h1, h2, h3⟩
    obtain ⟨p, hp⟩ := glOf_is h1
    rw [hp] at h2 h3
    refine ⟨p.1, p.2, ?_⟩
    cases hk' : lpR (Re es) T k with
    | none =>
      rw [hk'] at h2 h3
      simp only [glOf] at h2 h3
      exact Or.inr ⟨p.1, p.2, hp, rfl, by omega, by omega⟩
    | some q =>
      rw [hk'] at h2 h3
      simp only [glOf] at h2 h3
      exact Or.inl ⟨hp, congrArg some (Prod.ext (by simp only; omega) (by simp only; omega))⟩
  · rintro ⟨c, s, ⟨h1, h2⟩ | ⟨c, s, h1, h2, h3, h4⟩⟩
    · rw [h1, h2]
      exact ⟨rfl, rfl, rfl⟩
    · rw [h1, h2]
      exact ⟨rfl, h3, by simp only [glOf]; omega⟩
theorem tight_nx (he : EsOk n es) {k : Int} {e : Ed} (hk : 0 ≤ k ∧ k < n) (hm : e ∈ gEs (graphR n es) k.toNat) : tightG (toG (Re es) T n.toNat) k e = true → nxP (Re es) T k e.2.1 := by
  obtain ⟨m1, m2⟩ := graph_sub hm
  have hb := he.ok _ m1
  intro h
  obtain ⟨c, s, h | ⟨c, s, h1, _, _, h4⟩⟩ := (tight_of (T := T) hk hb.2.1).1 h
  · refine ⟨e.2.2, c, s, ?_, h.1, h.2⟩
    show (k, e.2.1, e.2.2) ∈ es
    have : e = (k, e.2.1, e.2.2) := Prod.ext (by rw [m2]; simp only; omega) rfl
    rwa [← this]
  · have := lp_nonneg he.steps h1
    omega
theorem nx_tight (he : EsOk n es) {k t : Int} (h : nxP (Re es) T k t) : ∃ e ∈ gEs (graphR n es) k.toNat, e.2.1 = t ∧ tightG (toG (Re es) T n.toNat) k e = true := by
  obtain ⟨w, c, s, hr, h1, h2⟩ := h
  have hb := he.ok _ hr
  simp only at hb
  obtain ⟨e, g1, g2, g3⟩ := graph_sup hr hb.1.1 hb.1.2
  simp only at g1 g2 g3
  refine ⟨e, g1, g2, ?_⟩
  obtain ⟨m1, m2⟩ := graph_sub g1
  have hr2 : Re es k t e.2.2 := by
    show (k, t, e.2.2) ∈ es
    have : e = (k, t, e.2.2) := Prod.ext (by rw [m2]; simp only; omega) (Prod.ext g2 rfl)
    rwa [← this]
  have := (lp_is h2).2 _ _ (.cons hr2 (lp_is h1).1)
  have ew : e.2.2 = w := by omega
  refine (tight_of (T := T) hb.1 (by rw [g2]; exact hb.2.1)).2 ⟨c, s, Or.inl ⟨by rw [g2]; exact h1, by rw [ew]; exact h2⟩⟩
theorem nxP_of (hS : Steps (Re es) n.toNat 1000000000000) {k c s : Int} (h : lpR (Re es) T k = some (c, s)) (hs : 0 < s) : ∃ t, nxP (Re es) T k t := by
  obtain ⟨q, w, hr, hq⟩ := lp_step hS h hs
  exact ⟨q, w, c - w, s - 1, hr, hq, by rw [h]; congr 2 <;> omega⟩
theorem next_nx (he : EsOk n es) {k c s : Int} (h : lpR (Re es) T k = some (c, s)) (hs : 0 < s) (hk : 0 ≤ k ∧ k < n) : nextG (graphR n es) (toG (Re es) T n.toNat) k = nxR (Re es) T k := by
  obtain ⟨t, ht⟩ := nxP_of he.steps h hs
  obtain ⟨e, e1, e2, e3⟩ := nx_tight he ht
  obtain ⟨i, hi, ei⟩ := List.getElem_of_mem e1
  have hex : ∃ j, j < (gEs (graphR n es) k.toNat).length ∧ tightG (toG (Re es) T n.toNat) k (gE (gEs (graphR n es) k.toNat) j) = true := ⟨i, hi, by rw [gE_eq hi, ei]; exact e3⟩
  obtain ⟨j, ⟨j1, j2⟩, j3⟩ := first_of hex
  rw [next_at j1 (fun m hm => by
    cases e : tightG (toG (Re es) T n.toNat) k (gE (gEs (graphR n es) k.toNat) m)
    · rfl
    · exact absurd ⟨by omega, e⟩ (j3 m hm)) j2]
  have hm := gE_mem j1
  have hb := he.ok _ (graph_sub hm).1
  refine (nx_eq hb.2.1.1 (tight_nx he hk hm j2) fun u _ hu => ?_).symm
  obtain ⟨f, f1, f2, f3⟩ := nx_tight he hu
  obtain ⟨m, hm', em⟩ := List.getElem_of_mem f1
  rcases Nat.lt_trichotomy m j with g | g | g
  · exact absurd ⟨hm', by rw [gE_eq hm', em]; exact f3⟩ (j3 m g)
  · subst g; rw [gE_eq hm', em, f2]; exact Int.le_refl _
  · have := graph_asc g hm'
    rw [gE_eq hm', em, f2] at this
    omega
theorem nx_lp (he : EsOk n es) {k c s : Int} (h : lpR (Re es) T k = some (c, s)) (hs : 0 < s) : ∃ w, lpR (Re es) T (nxR (Re es) T k) = some (c - w, s - 1) ∧ Re es k (nxR (Re es) T k) w ∧ 0 ≤ nxR (Re es) T k ∧ nxR (Re es) T k < n := by
  obtain ⟨t, ht⟩ := nxP_of he.steps h hs
  have ht0 : 0 ≤ t := by obtain ⟨w, c', s', hr, _⟩ := ht; have := he.ok _ hr; simp only at this; omega
  have hx : ∃ t : Nat, nxP (Re es) T k (t : Int) := ⟨t.toNat, by rw [show ((t.toNat : Nat) : Int) = t by omega]; exact ht⟩
  have e : nxR (Re es) T k = ((Classical.choose (first_of hx) : Nat) : Int) := by unfold nxR; rw [dif_pos hx]
  have h1 := (Classical.choose_spec (first_of hx)).1
  rw [← e] at h1
  obtain ⟨w, c', s', hr, h3, h4⟩ := h1
  rw [h] at h4
  have h4 := Option.some.inj h4
  have h5 : c = c' + w := congrArg Prod.fst h4
  have h6 : s = s' + 1 := congrArg Prod.snd h4
  have hb := he.ok _ hr
  simp only at hb
  exact ⟨w, by rw [h3]; congr 2 <;> omega, hr, hb.2.1⟩
theorem walk_way (he : EsOk n es) : ∀ (s : Nat) (k c : Int), lpR (Re es) T k = some (c, (s : Int)) → 0 ≤ k ∧ k < n → walkG (graphR n es) (toG (Re es) T n.toNat) s k = wayR (Re es) T s k
  | 0, k, c, h, hk => rfl
  | s + 1, k, c, h, hk => by
    show k :: walkG _ _ s (nextG _ _ k) = k :: wayR _ _ s (nxR _ _ k)
    rw [next_nx he h (by omega) hk]
    obtain ⟨w, h1, _, h2⟩ := nx_lp he h (by omega)
    rw [walk_way he s _ (c - w) (by rw [h1]; congr 2; omega) h2]
theorem walk_ok (he : EsOk n es) (hl : es.length ≤ 2000000) (hn : 0 ≤ n ∧ n ≤ 100000) : WOk (graphR n es) (toG (Re es) T n.toNat) := by
  have hg := graph_gok he hl hn.1
  refine ⟨by rw [graph_len, toG_len], fun a ha => ?_, fun k hk => ?_, fun k hk hc => ?_⟩
  · rw [toG_len] at ha ⊢
    have := hg.ok a (by rw [graph_len]; exact ha)
    rw [graph_len] at this
    exact this
  · rw [toG_len] at hk
    rw [toG_at hk]
    cases e : lpR (Re es) T (k : Int) with
    | none => simp [glOf]
    | some p =>
      have := lp_bnd he.steps (by omega) (show lpR (Re es) T (k : Int) = some (p.1, p.2) from e)
      simp only [glOf]
      omega
  · rw [toG_len] at hk
    rw [toG_at hk] at hc
    cases e : lpR (Re es) T (k : Int) with
    | none => rw [e] at hc; simp [glOf] at hc
    | some p =>
      rw [e] at hc
      simp only [glOf] at hc
      obtain ⟨t, ht⟩ := nxP_of he.steps (show lpR (Re es) T (k : Int) = some (p.1, p.2) from e) (by omega)
      obtain ⟨f, f1, _, f3⟩ := nx_tight he ht
      rw [Int.toNat_natCast] at f1
      exact ⟨f, f1, f3⟩
end
/-- Is a node a better start? -/
def betterL (L : Int → Option (Int × Int)) (k b : Int) : Bool := match L k with
  | none => false
  | some p => decide (b < 0) || match L b with
    | some q => decide (p.1 < q.1 ∨ (p.1 = q.1 ∧ p.2 < q.2)) || (decide (p = q) && decide (k < b))
    | none => false
def bestR (L : Int → Option (Int × Int)) (l : List Int) : Int := l.foldl (fun b k => if betterL L k b = true then k else b) (-1)
theorem best_ok (L : Int → Option (Int × Int)) (l : List Int) : bestR L l = -1 ∨ (bestR L l ∈ l ∧ ∃ p, L (bestR L l) = some p) := by
  have : ∀ (l : List Int) (b : Int), l.foldl (fun b k => if betterL L k b = true then k else b) b = b ∨ (l.foldl (fun b k => if betterL L k b = true then k else b) b ∈ l ∧ ∃ p, L (l.foldl (fun b k => if betterL L k b = true then k else b) b) = some p) := by
    intro l
    induction l with
    | nil => exact fun b => Or.inl rfl
    | cons x l ih =>
      intro b
      rw [List.foldl_cons]
      rcases ih (if betterL L x b = true then x else b) with h | ⟨h1, h2⟩
      · rw [h]
        split
        · rename_i hb
          refine Or.inr ⟨List.mem_cons_self, ?_⟩
          unfold betterL at hb
          split at hb
          · cases hb
          · rename_i p hp; exact ⟨p, hp⟩
        · exact Or.inl rfl
      · exact Or.inr ⟨List.mem_cons_of_mem _ h1, h2⟩
  exact this l (-1)
theorem best_take {L : Int → Option (Int × Int)} {l : List Int} {i : Nat} (h : i < l.length) : bestR L (l.take (i + 1)) = if betterL L (gI l i) (bestR L (l.take i)) = true then gI l i else bestR L (l.take i) := by
  unfold bestR
  rw [List.take_succ_eq_append_getElem h, List.foldl_append, gI_eq h]
  rfl
def leastR (n : Int) (es : List Ed) (from_ to : List Int) : List Int × Int × Bool × Int :=
  if ¬ nodesR n es [from_, to] = 0 then ([], 0, false, nodesR n es [from_, to]) else
    match lpR (Re es) (Tl to) (bestR (lpR (Re es) (Tl to)) from_) with
    | some p => if bestR (lpR (Re es) (Tl to)) from_ < 0 then ([], 0, false, 0) else (wayR (Re es) (Tl to) p.2.toNat (bestR (lpR (Re es) (Tl to)) from_), p.1, true, 0)
    | none => ([], 0, false, 0)
theorem valid_es {n : Int} {es : List Ed} (h : validR n es = 0) : EsOk n es := by
  obtain ⟨_, _, _, h4⟩ := valid_iff h
  exact ⟨fun e he => by have := h4 e he; omega⟩
end
end Go.Proofs.Ythgclbohlcgdgaa.Eng
set_option linter.unusedVariables false
set_option linter.unusedSimpArgs false
namespace Go.Proofs.Ythgclbohlcgdgaa.Eng
open Go
set_option maxRecDepth 100000
noncomputable section
def eqG (x y : Gl) : Bool := decide (x.1 = y.1) && (decide (x.2.1 = y.2.1) && ((x.2.2 == y.2.2) && true))
def betterG (l : List Gl) (k b : Int) : Bool := (gG l k.toNat).2.2 && (decide (b < 0) || (lessR (gG l k.toNat).1 (gG l k.toNat).2.1 (gG l b.toNat).1 (gG l b.toNat).2.1 || (eqG (gG l k.toNat) (gG l b.toNat) && decide (k < b))))
def eqF (x y : Fa) : Bool := decide (x.1 = y.1) && (decide (x.2 = y.2) && true)
def betterF (l : List Fa) (k b : Int) : Bool := decide (0 ≤ (gF l k.toNat).1) && (decide (b < 0) || (lessF (gF l k.toNat) (gF l b.toNat) || (eqF (gF l k.toNat) (gF l b.toNat) && decide (k < b))))
section
variable {R : Rel} {T : Int → Prop} {N : Nat} {C : Int}
theorem betterG_eq {k b : Int} (hk : 0 ≤ k ∧ k < N) (hb : b < 0 ∨ ((0 ≤ b ∧ b < N) ∧ ∃ p, lpR R T b = some p)) : betterL (lpR R T) k b = betterG (toG R T N) k b := by
  have gk : gG (toG R T N) k.toNat = glOf (lpR R T k) := by rw [toG_at (by omega), show ((k.toNat : Nat) : Int) = k by omega]
  unfold betterL betterG
  cases hk' : lpR R T k with
  | none =>
    have e1 : gG (toG R T N) k.toNat = (0, 0, false) := by rw [gk, hk']; rfl
    rw [e1]; rfl
  | some p =>
    have e1 : gG (toG R T N) k.toNat = (p.1, p.2 + 1, true) := by rw [gk, hk']; rfl
    rw [e1]
    simp only [Bool.true_and]
    rcases hb with hb | ⟨hb, q, hq⟩
    · simp [hb]
    · have e2 : gG (toG R T N) b.toNat = (q.1, q.2 + 1, true) := by rw [toG_at (by omega), show ((b.toNat : Nat) : Int) = b by omega, hq]; rfl
      rw [e2, hq]
      unfold lessR eqG
      rw [Bool.eq_iff_iff]
      by_cases g : p.1 = q.1 <;> by_cases g2 : p.2 = q.2 <;> simp [Prod.ext_iff, g, g2] <;> omega
theorem betterF_eq (hS : Steps R N C) {k b : Int} (hk : 0 ≤ k ∧ k < N) (hb : b < 0 ∨ ((0 ≤ b ∧ b < N) ∧ ∃ p, lpR R T b = some p)) : betterL (lpR R T) k b = betterF (toF R T N) k b := by
  have gk : gF (toF R T N) k.toNat = faOf (lpR R T k) := by rw [toF_at (by omega), show ((k.toNat : Nat) : Int) = k by omega]
  unfold betterL betterF
  cases hk' : lpR R T k with
  | none =>
    have e1 : gF (toF R T N) k.toNat = (-1, 0) := by rw [gk, hk']; rfl
    rw [e1]; rfl
  | some p =>
    have h0 := lp_nonneg hS (show lpR R T k = some (p.1, p.2) from hk')
    have e1 : gF (toF R T N) k.toNat = p := by rw [gk, hk']; rfl
    rw [e1, show decide (0 ≤ p.1) = true from decide_eq_true h0.1]
    simp only [Bool.true_and]
    rcases hb with hb | ⟨hb, q, hq⟩
    · simp [hb]
    · have h1 := lp_nonneg hS (show lpR R T b = some (q.1, q.2) from hq)
      have e2 : gF (toF R T N) b.toNat = q := by rw [toF_at (by omega), show ((b.toNat : Nat) : Int) = b by omega, hq]; rfl
      rw [e2, hq]
      unfold lessF eqF
      rw [Bool.eq_iff_iff]
      by_cases g : p.1 = q.1 <;> by_cases g2 : p.2 = q.2 <;> simp [Prod.ext_iff, g, g2] <;> omega
end
theorem goals_eq {n : Int} {es : List Ed} (h : EsOk n es) (to : List Int) : toG (Rb (graphR n (es.map turnR))) (Tl to) (graphR n (es.map turnR)).length = toG (Re es) (Tl to) n.toNat := by
  unfold toG
  rw [rb_graph h.turn, turn_turn, graph_len]
theorem least_bad {n : Int} {es : List Ed} {a b : List Int} (h : ¬ nodesR n es [a, b] = 0) : leastR n es a b = ([], 0, false, nodesR n es [a, b]) := by
  unfold leastR
  rw [if_pos h]
theorem least_none {n : Int} {es : List Ed} {a b : List Int} (h : nodesR n es [a, b] = 0) (h2 : bestR (lpR (Re es) (Tl b)) a < 0) : leastR n es a b = ([], 0, false, 0) := by
  unfold leastR
  rw [if_neg (by simp [h])]
  split
  · rw [if_pos h2]
  · rfl
theorem least_some {n : Int} {es : List Ed} {a b : List Int} {c s : Int} (h : nodesR n es [a, b] = 0) (h2 : ¬ bestR (lpR (Re es) (Tl b)) a < 0) (h3 : lpR (Re es) (Tl b) (bestR (lpR (Re es) (Tl b)) a) = some (c, s)) : leastR n es a b = (wayR (Re es) (Tl b) s.toNat (bestR (lpR (Re es) (Tl b)) a), c, true, 0) := by
  unfold leastR
  rw [if_neg (by simp [h]), h3]
  simp only
  rw [if_neg h2]
/-- The best start among the first ones: not there, or a node that leads to an end. -/
theorem best_in {n : Int} {L : Int → Option (Int × Int)} {l : List Int} (h : ∀ k ∈ l, 0 ≤ k ∧ k < n) (i : Nat) : bestR L (l.take i) < 0 ∨ ((0 ≤ bestR L (l.take i) ∧ bestR L (l.take i) < (n.toNat : Int)) ∧ ∃ p, L (bestR L (l.take i)) = some p) := by
  rcases best_ok L (l.take i) with h1 | ⟨h1, h2⟩
  · left; omega
  · right
    have := h _ (List.mem_of_mem_take h1)
    exact ⟨by omega, h2⟩
def S20 (g : List (List Ed)) (l : List Gl) (fr : List Int) (b i : Int) : SL := ⟨List.replicate 13 .undef ++ [.own 0] ++ [.own 1] ++ [.int .i64 b] ++ List.replicate 22 .undef ++ [.sl I fr] ++ [.int .i64 fr.length] ++ [.int .i64 i] ++ List.replicate 56 .undef, [(0, .arr (.sl eT) g), (1, .arr gT l)], 2⟩
def E20 : Env := ⟨tab, [(37, K37), (38, .eff X38), (40, K40), (39, K39), (41, K41), (42, K42)], fun n => match n with | 8 => some ([13, 14, 15, 38, 39, 40], [], []) | _ => none⟩
def K20 : Fn1 := ⟨.fld I (.fld (.sl eT) (.fld (.sl I) (.one (.sl I)))), .fld (.sl I) (.fld I (.fld .bool (.one I))), fun (a : Int × List Ed × List Int × List Int) => [a.2.2.1.length ≤ 1000000000, a.2.2.2.length ≤ 1000000000], fun (a : Int × List Ed × List Int × List Int) => leastR a.1 a.2.1 a.2.2.1 a.2.2.2⟩
set_option maxHeartbeats 4000000 in
theorem k20 : FnOk Go.Proofs.Try.prog 20 K20 := by
  refine fn_ok (E := E20) (TOk.of tab_told) (AllOk.cons k37 (.consX k38 (.cons k40 (.cons k39 (.cons k41 (.cons k42 .nil)))))).at_ mix Go.Proofs.Try.func20 rfl rfl (by kernel_rfl) K20 ?_
  rintro ⟨(n : Int), (es : List Ed), (fr : List Int), (to : List Int)⟩ hp
  have hfl : fr.length ≤ 1000000000 := hp _ (List.mem_cons_self ..)
  have htl : to.length ≤ 1000000000 := hp _ (List.mem_cons_of_mem _ (List.mem_cons_self ..))
  clear hp
  have hl2 : ∀ l ∈ [fr, to], l.length ≤ 140737488351232 := by
    intro l hl
    simp only [List.mem_cons, List.not_mem_nil, or_false] at hl
    rcases hl with rfl | rfl <;> omega
  conv => whnf
  refine ⟨show 2 ≤ 100000 by omega, ?_⟩
  conv => whnf
  refine ⟨hl2, ?_⟩
  conv => whnf
  refine cond_intro (fun hnd => ?_) (fun hnd => ?_)
  · have hnd : (!decide (nodesR n es [fr, to] = 0)) = true := hnd
    have hnd : ¬ (nodesR n es [fr, to] = 0) := fun e => absurd hnd (by rw [decide_eq_true e]; decide)
    conv => whnf
    show ([], 0, false, nodesR n es [fr, to]) = leastR n es fr to
    rw [least_bad hnd]
  have hnd : (!decide (nodesR n es [fr, to] = 0)) = false := hnd
  have hnd : nodesR n es [fr, to] = 0 := Decidable.byContradiction fun e => absurd hnd (by rw [decide_eq_false e]; decide)
  obtain ⟨hv, hnn⟩ := nodes_iff hnd
  have hes := valid_es hv
  obtain ⟨v1, v2, v3, _⟩ := valid_iff hv
  have hfr : ∀ k ∈ fr, 0 ≤ k ∧ k < n := hnn fr List.mem_cons_self
  have hto : ∀ k ∈ to, 0 ≤ k ∧ k < n := hnn to (List.mem_cons_of_mem _ List.mem_cons_self)
  have hgl1 := graph_len n es
  have hgl2 := graph_len n (es.map turnR)
  have hml : (es.map turnR).length = es.length := List.length_map ..
  have hgo := graph_gok hes.turn (by rw [hml]; omega) v1
  conv => whnf
  refine ⟨show 0 ≤ n ∧ n ≤ 100000 by omega, ?_⟩
  conv => whnf
  refine ⟨show es.length ≤ 2000000 by omega, ?_⟩
  conv => whnf
  refine ⟨show ∀ e ∈ es, 0 ≤ e.1 ∧ e.1 < n from fun e he => (hes.ok e he).1, ?_⟩
  conv => whnf
  refine ⟨show es.length ≤ 2000000 by omega, ?_⟩
  conv => whnf
  refine ⟨show 0 ≤ n ∧ n ≤ 100000 by omega, ?_⟩
  conv => whnf
  refine ⟨show (es.map turnR).length ≤ 2000000 by omega, ?_⟩
  conv => whnf
  refine ⟨show ∀ e ∈ es.map turnR, 0 ≤ e.1 ∧ e.1 < n from fun e he => (hes.turn.ok e he).1, ?_⟩
  conv => whnf
  refine ⟨show (graphR n es).length = (graphR n (es.map turnR)).length ∧ (graphR n (es.map turnR)).length ≤ 100000 by omega, ?_⟩
  conv => whnf
  refine ⟨show to.length ≤ 1000000000 by omega, ?_⟩
  conv => whnf
  refine ⟨show ∀ k ∈ to, 0 ≤ k ∧ k < ((graphR n (es.map turnR)).length : Int) from fun k hk => by have := hto k hk; omega, ?_⟩
  conv => whnf
  refine ⟨hgo, ?_⟩
  conv => whnf
  refine loop_rule (fun i => S20 (graphR n es) (toG (Re es) (Tl to) n.toNat) fr (bestR (lpR (Re es) (Tl to)) (fr.take i.toNat)) i) (fun i => ((fr.length : Int) - i).toNat) (fun i => 0 ≤ i ∧ i ≤ fr.length) ?_ 0 (by kernel_rfl) ?_ ⟨by omega, by omega⟩
  case refine_2 => exact Eq.trans (b := S20 (graphR n es) (toG (Rb (graphR n (es.map turnR))) (Tl to) (graphR n (es.map turnR)).length) fr (-1) 0) rfl (by rw [goals_eq hes]; rfl)
  rintro i ⟨h0, i1'⟩
  have hbi := best_in (n := n) (L := (lpR (Re es) (Tl to))) (l := fr) hfr i.toNat
  conv => whnf
  refine cond_intro (fun hlt => ?_) (fun hlt => ?_)
  · have hlt : i < (fr.length : Int) := @of_decide_eq_true _ _ hlt
    have wi : IntKind.i64.wrap (i + 1) = i + 1 := wrap_eq (by omega) (by omega)
    have ei : (i + 1).toNat = i.toNat + 1 := by omega
    have hkr := hfr (gI fr i.toNat) (gI_mem (n := i.toNat) (by omega))
    have hkl : (gI fr i.toNat) < ((toG (Re es) (Tl to) n.toNat).length : Int) := by rw [toG_len]; omega
    have hkr : 0 ≤ (gI fr i.toNat) ∧ (gI fr i.toNat) < (n.toNat : Int) := by omega
    conv => whnf
    refine ⟨h0, ?_⟩
    conv => whnf
    refine ⟨hlt, ?_⟩
    conv => whnf
    refine ⟨hkr.1, ?_⟩
    conv => whnf
    refine ⟨hkl, ?_⟩
    conv => whnf
    refine cond_intro (fun i1 => ?_) (fun i1 => ?_)
    · have i1 : ((gG (toG (Re es) (Tl to) n.toNat) (gI fr i.toNat).toNat).2.2) = true := i1
      conv => whnf
      refine cond_intro (fun i2 => ?_) (fun i2 => ?_)
      · have i2 : (bestR (lpR (Re es) (Tl to)) (fr.take i.toNat)) < 0 := @of_decide_eq_true _ _ i2
        have hbt : betterL (lpR (Re es) (Tl to)) (gI fr i.toNat) (bestR (lpR (Re es) (Tl to)) (fr.take i.toNat)) = true := by rw [betterG_eq hkr hbi]; unfold betterG; rw [i1, decide_eq_true i2]; rfl
        have hb1 := best_take (L := (lpR (Re es) (Tl to))) (l := fr) (i := i.toNat) (by omega)
        rw [hbt] at hb1
        conv => whnf
        refine ⟨i + 1, ?_, ⟨by omega, by omega⟩, by omega⟩
        exact Eq.trans (b := S20 (graphR n es) (toG (Re es) (Tl to) n.toNat) fr (gI fr i.toNat) (IntKind.i64.wrap (i + 1))) rfl (by rw [wi, ei, hb1]; rfl)
      have i2 : ¬ ((bestR (lpR (Re es) (Tl to)) (fr.take i.toNat)) < 0) := @of_decide_eq_false _ _ i2
      have hbr : 0 ≤ (bestR (lpR (Re es) (Tl to)) (fr.take i.toNat)) ∧ (bestR (lpR (Re es) (Tl to)) (fr.take i.toNat)) < ((toG (Re es) (Tl to) n.toNat).length : Int) := by rw [toG_len]; rcases hbi with h | ⟨h, _⟩ <;> omega
      conv => whnf
      refine ⟨hbr.1, ?_⟩
      conv => whnf
      refine ⟨hbr.2, ?_⟩
      conv => whnf
      refine ⟨hbr.1, ?_⟩
      conv => whnf
      refine ⟨hbr.2, ?_⟩
      conv => whnf
      refine cond_intro (fun i3 => ?_) (fun i3 => ?_)
      · have i3 : (lessR (gG (toG (Re es) (Tl to) n.toNat) (gI fr i.toNat).toNat).1 (gG (toG (Re es) (Tl to) n.toNat) (gI fr i.toNat).toNat).2.1 (gG (toG (Re es) (Tl to) n.toNat) (bestR (lpR (Re es) (Tl to)) (fr.take i.toNat)).toNat).1 (gG (toG (Re es) (Tl to) n.toNat) (bestR (lpR (Re es) (Tl to)) (fr.take i.toNat)).toNat).2.1) = true := i3
        have hbt : betterL (lpR (Re es) (Tl to)) (gI fr i.toNat) (bestR (lpR (Re es) (Tl to)) (fr.take i.toNat)) = true := by rw [betterG_eq hkr hbi]; unfold betterG; rw [i1, decide_eq_false i2, i3]; rfl
        have hb1 := best_take (L := (lpR (Re es) (Tl to))) (l := fr) (i := i.toNat) (by omega)
        rw [hbt] at hb1
        conv => whnf
        refine ⟨i + 1, ?_, ⟨by omega, by omega⟩, by omega⟩
        exact Eq.trans (b := S20 (graphR n es) (toG (Re es) (Tl to) n.toNat) fr (gI fr i.toNat) (IntKind.i64.wrap (i + 1))) rfl (by rw [wi, ei, hb1]; rfl)
      have i3 : (lessR (gG (toG (Re es) (Tl to) n.toNat) (gI fr i.toNat).toNat).1 (gG (toG (Re es) (Tl to) n.toNat) (gI fr i.toNat).toNat).2.1 (gG (toG (Re es) (Tl to) n.toNat) (bestR (lpR (Re es) (Tl to)) (fr.take i.toNat)).toNat).1 (gG (toG (Re es) (Tl to) n.toNat) (bestR (lpR (Re es) (Tl to)) (fr.take i.toNat)).toNat).2.1) = false := i3
      conv => whnf
      refine ⟨hbr.1, ?_⟩
      conv => whnf
      refine ⟨hbr.2, ?_⟩
      conv => whnf
      refine cond_intro (fun i4 => ?_) (fun i4 => ?_)
      · have i4 : (decide ((gG (toG (Re es) (Tl to) n.toNat) (gI fr i.toNat).toNat).1 = (gG (toG (Re es) (Tl to) n.toNat) (bestR (lpR (Re es) (Tl to)) (fr.take i.toNat)).toNat).1) && (decide ((gG (toG (Re es) (Tl to) n.toNat) (gI fr i.toNat).toNat).2.1 = (gG (toG (Re es) (Tl to) n.toNat) (bestR (lpR (Re es) (Tl to)) (fr.take i.toNat)).toNat).2.1) && (((gG (toG (Re es) (Tl to) n.toNat) (gI fr i.toNat).toNat).2.2 == (gG (toG (Re es) (Tl to) n.toNat) (bestR (lpR (Re es) (Tl to)) (fr.take i.toNat)).toNat).2.2) && true))) = true := i4
        have i4' : eqG (gG (toG (Re es) (Tl to) n.toNat) (gI fr i.toNat).toNat) (gG (toG (Re es) (Tl to) n.toNat) (bestR (lpR (Re es) (Tl to)) (fr.take i.toNat)).toNat) = true := i4
        conv => whnf
        refine cond_intro (fun i5 => ?_) (fun i5 => ?_)
        · have i5 : (gI fr i.toNat) < (bestR (lpR (Re es) (Tl to)) (fr.take i.toNat)) := @of_decide_eq_true _ _ i5
          have hbt : betterL (lpR (Re es) (Tl to)) (gI fr i.toNat) (bestR (lpR (Re es) (Tl to)) (fr.take i.toNat)) = true := by rw [betterG_eq hkr hbi]; unfold betterG; rw [i1, decide_eq_false i2, i3, i4', decide_eq_true i5]; rfl
          have hb1 := best_take (L := (lpR (Re es) (Tl to))) (l := fr) (i := i.toNat) (by omega)
          rw [hbt] at hb1
          conv => whnf
          refine ⟨i + 1, ?_, ⟨by omega, by omega⟩, by omega⟩
          exact Eq.trans (b := S20 (graphR n es) (toG (Re es) (Tl to) n.toNat) fr (gI fr i.toNat) (IntKind.i64.wrap (i + 1))) rfl (by rw [wi, ei, hb1]; rfl)
        have i5 : ¬ ((gI fr i.toNat) < (bestR (lpR (Re es) (Tl to)) (fr.take i.toNat))) := @of_decide_eq_false _ _ i5
        have hbt : betterL (lpR (Re es) (Tl to)) (gI fr i.toNat) (bestR (lpR (Re es) (Tl to)) (fr.take i.toNat)) = false := by rw [betterG_eq hkr hbi]; unfold betterG; rw [i1, decide_eq_false i2, i3, i4', decide_eq_false i5]; rfl
        have hb1 := best_take (L := (lpR (Re es) (Tl to))) (l := fr) (i := i.toNat) (by omega)
        rw [hbt] at hb1
        conv => whnf
        refine ⟨i + 1, ?_, ⟨by omega, by omega⟩, by omega⟩
        exact Eq.trans (b := S20 (graphR n es) (toG (Re es) (Tl to) n.toNat) fr (bestR (lpR (Re es) (Tl to)) (fr.take i.toNat)) (IntKind.i64.wrap (i + 1))) rfl (by rw [wi, ei, hb1]; rfl)
      have i4 : (decide ((gG (toG (Re es) (Tl to) n.toNat) (gI fr i.toNat).toNat).1 = (gG (toG (Re es) (Tl to) n.toNat) (bestR (lpR (Re es) (Tl to)) (fr.take i.toNat)).toNat).1) && (decide ((gG (toG (Re es) (Tl to) n.toNat) (gI fr i.toNat).toNat).2.1 = (gG (toG (Re es) (Tl to) n.toNat) (bestR (lpR (Re es) (Tl to)) (fr.take i.toNat)).toNat).2.1) && (((gG (toG (Re es) (Tl to) n.toNat) (gI fr i.toNat).toNat).2.2 == (gG (toG (Re es) (Tl to) n.toNat) (bestR (lpR (Re es) (Tl to)) (fr.take i.toNat)).toNat).2.2) && true))) = false := i4
      have i4' : eqG (gG (toG (Re es) (Tl to) n.toNat) (gI fr i.toNat).toNat) (gG (toG (Re es) (Tl to) n.toNat) (bestR (lpR (Re es) (Tl to)) (fr.take i.toNat)).toNat) = false := i4
      have hbt : betterL (lpR (Re es) (Tl to)) (gI fr i.toNat) (bestR (lpR (Re es) (Tl to)) (fr.take i.toNat)) = false := by rw [betterG_eq hkr hbi]; unfold betterG; rw [i1, decide_eq_false i2, i3, i4']; rfl
      have hb1 := best_take (L := (lpR (Re es) (Tl to))) (l := fr) (i := i.toNat) (by omega)
      rw [hbt] at hb1
      conv => whnf
      refine ⟨i + 1, ?_, ⟨by omega, by omega⟩, by omega⟩
      exact Eq.trans (b := S20 (graphR n es) (toG (Re es) (Tl to) n.toNat) fr (bestR (lpR (Re es) (Tl to)) (fr.take i.toNat)) (IntKind.i64.wrap (i + 1))) rfl (by rw [wi, ei, hb1]; rfl)
    have i1 : ((gG (toG (Re es) (Tl to) n.toNat) (gI fr i.toNat).toNat).2.2) = false := i1
    have hbt : betterL (lpR (Re es) (Tl to)) (gI fr i.toNat) (bestR (lpR (Re es) (Tl to)) (fr.take i.toNat)) = false := by rw [betterG_eq hkr hbi]; unfold betterG; rw [i1]; rfl
    have hb1 := best_take (L := (lpR (Re es) (Tl to))) (l := fr) (i := i.toNat) (by omega)
    rw [hbt] at hb1
    conv => whnf
    refine ⟨i + 1, ?_, ⟨by omega, by omega⟩, by omega⟩
    exact Eq.trans (b := S20 (graphR n es) (toG (Re es) (Tl to) n.toNat) fr (bestR (lpR (Re es) (Tl to)) (fr.take i.toNat)) (IntKind.i64.wrap (i + 1))) rfl (by rw [wi, ei, hb1]; rfl)
  have hlt : ¬ (i < (fr.length : Int)) := @of_decide_eq_false _ _ hlt
  have hta : fr.take i.toNat = fr := List.take_of_length_le (by omega)
  rw [hta] at hbi
  rw [hta]
  conv => whnf
  refine cond_intro (fun b1 => ?_) (fun b1 => ?_)
  · have b1 : (bestR (lpR (Re es) (Tl to)) fr) < 0 := @of_decide_eq_true _ _ b1
    conv => whnf
    show ([], 0, false, 0) = leastR n es fr to
    rw [least_none hnd b1]
  have b1 : ¬ ((bestR (lpR (Re es) (Tl to)) fr) < 0) := @of_decide_eq_false _ _ b1
  obtain ⟨hbr, ⟨c, s⟩, hbp⟩ : (0 ≤ (bestR (lpR (Re es) (Tl to)) fr) ∧ (bestR (lpR (Re es) (Tl to)) fr) < (n.toNat : Int)) ∧ ∃ p, (lpR (Re es) (Tl to)) (bestR (lpR (Re es) (Tl to)) fr) = some p := by
    rcases hbi with h | h
    · exact absurd h b1
    · exact h
  have hgb : gG (toG (Re es) (Tl to) n.toNat) (bestR (lpR (Re es) (Tl to)) fr).toNat = (c, s + 1, true) := by rw [toG_at (by omega), show (((bestR (lpR (Re es) (Tl to)) fr).toNat : Nat) : Int) = (bestR (lpR (Re es) (Tl to)) fr) by omega, hbp]; rfl
  have hbl : (bestR (lpR (Re es) (Tl to)) fr) < ((toG (Re es) (Tl to) n.toNat).length : Int) := by rw [toG_len]; exact hbr.2
  have hsn := lp_nonneg hes.steps hbp
  conv => whnf
  refine ⟨walk_ok hes (by omega) (by omega), ?_⟩
  conv => whnf
  refine ⟨show 0 ≤ (bestR (lpR (Re es) (Tl to)) fr) ∧ (bestR (lpR (Re es) (Tl to)) fr) < ((toG (Re es) (Tl to) n.toNat).length : Int) ∧ 1 ≤ (gG (toG (Re es) (Tl to) n.toNat) (bestR (lpR (Re es) (Tl to)) fr).toNat).2.1 from ⟨hbr.1, hbl, by rw [hgb]; show 1 ≤ s + 1; omega⟩, ?_⟩
  conv => whnf
  refine ⟨hbr.1, ?_⟩
  conv => whnf
  refine ⟨hbl, ?_⟩
  conv => whnf
  show (walkG (graphR n es) (toG (Re es) (Tl to) n.toNat) ((gG (toG (Re es) (Tl to) n.toNat) (bestR (lpR (Re es) (Tl to)) fr).toNat).2.1 - 1).toNat (bestR (lpR (Re es) (Tl to)) fr), (gG (toG (Re es) (Tl to) n.toNat) (bestR (lpR (Re es) (Tl to)) fr).toNat).1, true, 0) = leastR n es fr to
  rw [least_some hnd b1 hbp, hgb]
  show (walkG (graphR n es) (toG (Re es) (Tl to) n.toNat) (s + 1 - 1).toNat (bestR (lpR (Re es) (Tl to)) fr), c, true, (0 : Int)) = _
  rw [show (s + 1 - 1).toNat = s.toNat by omega, walk_way hes s.toNat _ c (by rw [hbp]; congr 2; omega) (by omega)]
end
end Go.Proofs.Ythgclbohlcgdgaa.Eng
