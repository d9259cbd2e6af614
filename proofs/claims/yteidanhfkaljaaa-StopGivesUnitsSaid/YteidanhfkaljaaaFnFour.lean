/- What the functions that the law reaches answer, each for every input. -/
import Derived.Test.YteidanhfkaljaaaFnThree
set_option linter.unusedVariables false
set_option linter.unusedSimpArgs false
set_option linter.unusedVariables false
namespace Go.Proofs.Yteidanhfkaljaaa.Eng
open Go
set_option maxRecDepth 100000
noncomputable section
def E20 : Env := ⟨tab, [(23, K23), (37, K37), (43, K43), (44, K44), (45, K45)], fun n => match n with | 8 => some ([3, 4, 8, 32, 33, 34], [], []) | _ => none⟩
def leaveAt (s : St) (i : Nat) : St × Int × Int :=
  if (s.2.1.take i ++ s.2.1.drop (i + 1)).length = 0 then ((s.1, [], [], []), unitsR s.2.2.1, 0) else ((s.1, s.2.1.take i ++ s.2.1.drop (i + 1), s.2.2.1, s.2.2.2), 0, 0)
def leaveR (s : St) (w h t : Int) : St × Int × Int :=
  if validR s ≠ 0 then (zSt, 0, validR s) else if sizedR w h t ≠ 0 then (zSt, 0, sizedR w h t) else
  if s.2.1.findIdx (fun q => decide (q.2 = t)) < s.2.1.length then leaveAt s (s.2.1.findIdx (fun q => decide (q.2 = t))) else (zSt, 0, 2)
def K20 : Fn1 := ⟨covIn, .fld stT (.fld I (.one I)), fun (a : St × Int × Int × Int) => small a.1, fun (a : St × Int × Int × Int) => leaveR a.1 a.2.1 a.2.2.1 a.2.2.2⟩
def S20 (ow : Int) (ps : List Pl) (ws : List Pa) (rs : List Ra) (t i : Int) : SL :=
  ⟨[.undef, .undef, .undef, .int .i64 t, .ptr 0 0 0, .undef, .undef, .undef, .ptr 1 0 0] ++ List.replicate 23 .undef ++ [.sl plT ps, .int .i64 ps.length, .int .i64 i] ++ List.replicate 36 .undef,
   [(0, .box [.int .i64 ow, .sl plT ps, .sl paT ws, .sl raT rs]), (1, .box [.int .i64 0, .nilsl, .nilsl, .nilsl])], 2⟩
theorem findIdx_at {f : Pl → Bool} {l : List Pl} {i : Nat} (hi : i < l.length) (h : ∀ q ∈ l.take i, f q = false) (hf : f (gS l i) = true) : l.findIdx f = i := by
  have e : gS l i = l[i]'hi := by simp [gS, hi]
  rw [List.findIdx_eq hi]
  refine ⟨by rw [← e]; exact hf, fun j hj => ?_⟩
  have := h (l[j]'(by omega)) (by rw [List.mem_take_iff_getElem]; exact ⟨j, by omega, rfl⟩)
  simpa using this
theorem findIdx_none {f : Pl → Bool} {l : List Pl} (h : ∀ q ∈ l, f q = false) : ¬ l.findIdx f < l.length := by
  intro c
  have := List.findIdx_getElem (w := c)
  rw [h _ (List.getElem_mem _)] at this
  cases this
theorem k20 : FnOk Go.Proofs.Try.prog 20 K20 := by
  refine fn_ok (E := E20) (TOk.of tab_told) (AllOk.cons k23 (.cons k37 (.cons k43 (.cons k44 (.cons k45 .nil))))).at_ mix Go.Proofs.Try.func20 rfl rfl (by kernel_rfl) K20 ?_
  rintro ⟨⟨(ow : Int), (ps : List Pl), (ws : List Pa), (rs : List Ra)⟩, (w : Int), (h : Int), (t : Int)⟩ hp
  have g1 : ps.length ≤ 100000 := hp _ (List.mem_cons_self ..)
  have g2 : ws.length ≤ 100000 := hp _ (List.mem_cons_of_mem _ (List.mem_cons_self ..))
  have g3 : rs.length ≤ 100000 := hp _ (List.mem_cons_of_mem _ (List.mem_cons_of_mem _ (List.mem_cons_self ..)))
  clear hp
  conv => whnf
  refine ⟨g1, ?_⟩
  conv => whnf
  refine ⟨g2, ?_⟩
  conv => whnf
  refine ⟨g3, ?_⟩
  conv => whnf
  refine cond_intro (fun hv => ?_) (fun hv => ?_)
  · have hv : (!decide (validR (ow, ps, ws, rs) = 0)) = true := hv
    have hv : validR (ow, ps, ws, rs) ≠ 0 := by simpa using hv
    conv => whnf
    show (zSt, 0, validR (ow, ps, ws, rs)) = leaveR (ow, ps, ws, rs) w h t
    rw [leaveR, if_pos hv]
  have hv : (!decide (validR (ow, ps, ws, rs) = 0)) = false := hv
  have hv : validR (ow, ps, ws, rs) = 0 := by simpa using hv
  conv => whnf
  refine cond_intro (fun hs => ?_) (fun hs => ?_)
  · have hs : (!decide (sizedR w h t = 0)) = true := hs
    have hs : sizedR w h t ≠ 0 := by simpa using hs
    conv => whnf
    show (zSt, 0, sizedR w h t) = leaveR (ow, ps, ws, rs) w h t
    rw [leaveR, if_neg (by simp [hv]), if_pos hs]
  have hs : (!decide (sizedR w h t = 0)) = false := hs
  have hs : sizedR w h t = 0 := by simpa using hs
  have v1 : leaveR (ow, ps, ws, rs) w h t = if ps.findIdx (fun q => decide (q.2 = t)) < ps.length then leaveAt (ow, ps, ws, rs) (ps.findIdx (fun q => decide (q.2 = t))) else (zSt, 0, 2) := by
    rw [leaveR, if_neg (by simp [hv]), if_neg (by simp [hs])]
  conv => whnf
  refine loop_rule (fun i => S20 ow ps ws rs t i) (fun i => ((ps.length : Int) - i).toNat) (fun i => 0 ≤ i ∧ i ≤ ps.length ∧ ∀ q ∈ ps.take i.toNat, decide (q.2 = t) = false) ?_ 0 (by kernel_rfl) ?_ ⟨by omega, by omega, fun j hj => by simp at hj⟩
  case refine_2 => rfl
  rintro i ⟨h0, h1, h2⟩
  have hw : i < ps.length → IntKind.i64.wrap (i + 1) = i + 1 := fun _ => wrap_eq (by omega) (by omega)
  conv => whnf
  refine cond_intro (fun hlt => ?_) (fun hge => ?_)
  · have hlt : i < ps.length := @of_decide_eq_true _ _ hlt
    have e : gS ps i.toNat = ps[i.toNat]'(by omega) := by simp [gS, show i.toNat < ps.length by omega]
    have ht : ps.take (i.toNat + 1) = ps.take i.toNat ++ [gS ps i.toNat] := by rw [List.take_succ_eq_append_getElem (by omega), e]
    have en : (i + 1).toNat = i.toNat + 1 := by omega
    conv => whnf
    refine ⟨h0, ?_⟩
    conv => whnf
    refine ⟨hlt, ?_⟩
    conv => whnf
    refine cond_intro (fun he => ?_) (fun he => ?_)
    · have he : (!decide ((gS ps i.toNat).2 = t)) = true := he
      have he : ¬ (gS ps i.toNat).2 = t := by simpa using he
      conv => whnf
      refine ⟨i + 1, ?_, ⟨by omega, by omega, ?_⟩, by omega⟩
      · exact Eq.trans (b := S20 ow ps ws rs t (IntKind.i64.wrap (i + 1))) rfl (by rw [hw hlt])
      · rw [en, ht]
        intro q hq
        rcases List.mem_append.1 hq with hq | hq
        · exact h2 q hq
        · rw [List.mem_singleton.1 hq]; simp [he]
    have he : (!decide ((gS ps i.toNat).2 = t)) = false := he
    have he : (gS ps i.toNat).2 = t := by simpa using he
    have v2 : leaveR (ow, ps, ws, rs) w h t = leaveAt (ow, ps, ws, rs) i.toNat := by
      rw [v1, findIdx_at (i := i.toNat) (by omega) h2 (by simp [he]), if_pos (by omega)]
    conv => whnf
    refine ⟨g1, ?_⟩
    conv => whnf
    refine ⟨g2, ?_⟩
    conv => whnf
    refine ⟨g3, ?_⟩
    conv => whnf
    refine ⟨h0, ?_⟩
    conv => whnf
    refine ⟨h1, ?_⟩
    conv => whnf
    have ht1 : (ps.take i.toNat).length ≤ 100000 := by rw [List.length_take]; omega
    have ht2 : (ps.drop (i + 1).toNat).length ≤ 100000 := by rw [List.length_drop]; omega
    refine ⟨ht1, ?_⟩
    conv => whnf
    have hwi := hw hlt
    refine ⟨show 0 ≤ IntKind.i64.wrap (i + 1) by omega, ?_⟩
    conv => whnf
    refine ⟨show IntKind.i64.wrap (i + 1) ≤ ps.length by omega, ?_⟩
    conv => whnf
    have ht3 : (ps.drop (IntKind.i64.wrap (i + 1)).toNat).length ≤ 100000 := by rw [hwi]; exact ht2
    refine ⟨show ((ps.take i.toNat).length + (ps.drop (IntKind.i64.wrap (i + 1)).toNat).length) * 16 ≤ 70368744177664 by omega, ?_⟩
    conv => whnf
    refine ⟨show ((ps.take i.toNat).length + (ps.drop (IntKind.i64.wrap (i + 1)).toNat).length) ≤ 70368744177664 by omega, ?_⟩
    conv => whnf
    have hd : ps.drop (IntKind.i64.wrap (i + 1)).toNat = ps.drop (i.toNat + 1) := by rw [hwi, en]
    refine cond_intro (fun hq => ?_) (fun hq => ?_)
    · have hq : 0 < ((ps.take i.toNat ++ ps.drop (IntKind.i64.wrap (i + 1)).toNat).length : Int) := @of_decide_eq_true _ _ hq
      conv => whnf
      show ((ow, ps.take i.toNat ++ ps.drop (IntKind.i64.wrap (i + 1)).toNat, ws, rs), 0, 0) = leaveR (ow, ps, ws, rs) w h t
      rw [hd] at hq ⊢
      rw [v2, leaveAt, if_neg (by show ¬ (ps.take i.toNat ++ ps.drop (i.toNat + 1)).length = 0; omega)]
    · have hq : ¬ 0 < ((ps.take i.toNat ++ ps.drop (IntKind.i64.wrap (i + 1)).toNat).length : Int) := @of_decide_eq_false _ _ hq
      rw [hd] at hq
      have hz : (ps.take i.toNat ++ ps.drop (i.toNat + 1)).length = 0 := by omega
      conv => whnf
      refine ⟨g2, ?_⟩
      conv => whnf
      show ((ow, ps.take i.toNat ++ ps.drop (IntKind.i64.wrap (i + 1)).toNat, [], []), unitsR ws, 0) = leaveR (ow, ps, ws, rs) w h t
      rw [hd, v2, leaveAt, if_pos hz, List.eq_nil_of_length_eq_zero hz]
  have hge : ¬ i < ps.length := @of_decide_eq_false _ _ hge
  rw [List.take_of_length_le (by omega)] at h2
  conv => whnf
  show (zSt, 0, 2) = leaveR (ow, ps, ws, rs) w h t
  rw [v1, if_neg (findIdx_none h2)]
end
end Go.Proofs.Yteidanhfkaljaaa.Eng
set_option linter.unusedVariables false
namespace Go.Proofs.Yteidanhfkaljaaa.Eng
open Go
set_option maxRecDepth 100000
noncomputable section
def K46 : Fn1 := ⟨.one stT, .one stT, fun (s : St) => small s, fun (s : St) => s⟩
theorem k46 : FnOk Go.Proofs.Try.prog 46 K46 := by
  refine fn_ok (E := E0) (TOk.of tab_told) noK mix Go.Proofs.Try.func46 rfl rfl (by kernel_rfl) K46 ?_
  rintro ⟨(ow : Int), (ps : List Pl), (ws : List Pa), (rs : List Ra)⟩ hp
  have g1 : ps.length ≤ 100000 := hp _ (List.mem_cons_self ..)
  have g2 : ws.length ≤ 100000 := hp _ (List.mem_cons_of_mem _ (List.mem_cons_self ..))
  have g3 : rs.length ≤ 100000 := hp _ (List.mem_cons_of_mem _ (List.mem_cons_of_mem _ (List.mem_cons_self ..)))
  clear hp
  conv => whnf
  refine ⟨show (0 + ps.length) * 16 ≤ 70368744177664 by omega, ?_⟩
  conv => whnf
  refine ⟨show 0 + ps.length ≤ 70368744177664 by omega, ?_⟩
  conv => whnf
  refine ⟨show (0 + ws.length) * 48 ≤ 70368744177664 by omega, ?_⟩
  conv => whnf
  refine ⟨show 0 + ws.length ≤ 70368744177664 by omega, ?_⟩
  conv => whnf
  refine ⟨show (0 + rs.length) * 40 ≤ 70368744177664 by omega, ?_⟩
  conv => whnf
  refine ⟨show 0 + rs.length ≤ 70368744177664 by omega, ?_⟩
  conv => whnf
  rfl
end
end Go.Proofs.Yteidanhfkaljaaa.Eng
set_option linter.unusedVariables false
namespace Go.Proofs.Yteidanhfkaljaaa.Eng
open Go
set_option maxRecDepth 100000
noncomputable section
def E21 : Env := ⟨tab, [(39, K39), (46, K46), (25, K25)], fun n => match n with | 7 => some ([3, 4, 8, 12, 28, 29, 30], [], [(12, 1, plT)]) | _ => none⟩
def leaveRefR (s : St) (w h t : Int) : St × Int × Int :=
  if askedR s w h t ≠ 0 then (zSt, 0, askedR s w h t) else
  if ((s.2.1.filter (fun q => decide (q.2 ≠ t))).length : Int) = s.2.1.length then (zSt, 0, 2) else
  if 0 < ((s.2.1.filter (fun q => decide (q.2 ≠ t))).length : Int) then ((s.1, s.2.1.filter (fun q => decide (q.2 ≠ t)), s.2.2.1, s.2.2.2), 0, 0) else ((s.1, s.2.1.filter (fun q => decide (q.2 ≠ t)), [], []), unitsR s.2.2.1, 0)
def K21 : Fn1 := ⟨covIn, .fld stT (.fld I (.one I)), fun (a : St × Int × Int × Int) => small a.1, fun (a : St × Int × Int × Int) => leaveRefR a.1 a.2.1 a.2.2.1 a.2.2.2⟩
def S21 (ow : Int) (ps out : List Pl) (ws : List Pa) (rs : List Ra) (t i : Int) : SL :=
  ⟨[.undef, .undef, .undef, .int .i64 t, .ptr 0 0 0, .undef, .undef, .undef, .ptr 1 0 0, .undef, .undef, .undef, .ptr 2 0 0] ++ List.replicate 15 .undef ++ [.sl plT ps, .int .i64 ps.length, .int .i64 i] ++ List.replicate 33 .undef,
   [(0, .box [.int .i64 ow, .sl plT ps, .sl paT ws, .sl raT rs]), (1, .box [.int .i64 0, .nilsl, .nilsl, .nilsl]), (2, .box [.int .i64 ow, .own 3, .own 4, .own 5]), (3, .arr plT out), (4, .arr paT ws), (5, .arr raT rs)], 6⟩
theorem k21 : FnOk Go.Proofs.Try.prog 21 K21 := by
  refine fn_ok (E := E21) (TOk.of tab_told) (AllOk.cons k39 (.cons k46 (.cons k25 .nil))).at_ mix Go.Proofs.Try.func21 rfl rfl (by kernel_rfl) K21 ?_
  rintro ⟨⟨(ow : Int), (ps : List Pl), (ws : List Pa), (rs : List Ra)⟩, (w : Int), (h : Int), (t : Int)⟩ hp
  have g1 : ps.length ≤ 100000 := hp _ (List.mem_cons_self ..)
  have g2 : ws.length ≤ 100000 := hp _ (List.mem_cons_of_mem _ (List.mem_cons_self ..))
  have g3 : rs.length ≤ 100000 := hp _ (List.mem_cons_of_mem _ (List.mem_cons_of_mem _ (List.mem_cons_self ..)))
  clear hp
  conv => whnf
  refine ⟨g1, ?_⟩
  conv => whnf
  refine ⟨g2, ?_⟩
  conv => whnf
  refine ⟨g3, ?_⟩
  conv => whnf
  refine cond_intro (fun hv => ?_) (fun hv => ?_)
  · have hv : (!decide (askedR (ow, ps, ws, rs) w h t = 0)) = true := hv
    have hv : askedR (ow, ps, ws, rs) w h t ≠ 0 := by simpa using hv
    conv => whnf
    show (zSt, 0, askedR (ow, ps, ws, rs) w h t) = leaveRefR (ow, ps, ws, rs) w h t
    rw [leaveRefR, if_pos hv]
  have hv : (!decide (askedR (ow, ps, ws, rs) w h t = 0)) = false := hv
  have hv : askedR (ow, ps, ws, rs) w h t = 0 := by simpa using hv
  conv => whnf
  refine ⟨g1, ?_⟩
  conv => whnf
  refine ⟨g2, ?_⟩
  conv => whnf
  refine ⟨g3, ?_⟩
  have v1 : leaveRefR (ow, ps, ws, rs) w h t = if ((ps.filter (fun q => decide (q.2 ≠ t))).length : Int) = ps.length then (zSt, 0, 2) else if 0 < ((ps.filter (fun q => decide (q.2 ≠ t))).length : Int) then ((ow, ps.filter (fun q => decide (q.2 ≠ t)), ws, rs), 0, 0) else ((ow, ps.filter (fun q => decide (q.2 ≠ t)), [], []), unitsR ws, 0) := by
    rw [leaveRefR, if_neg (by simp [hv])]
  conv => whnf
  refine loop_rule (fun i => S21 ow ps ((ps.take i.toNat).filter (fun q => decide (q.2 ≠ t))) ws rs t i) (fun i => ((ps.length : Int) - i).toNat) (fun i => 0 ≤ i ∧ i ≤ ps.length) ?_ 0 (by kernel_rfl) ?_ ⟨by omega, by omega⟩
  case refine_2 => rfl
  rintro i ⟨h0, h1⟩
  have hw : i < ps.length → IntKind.i64.wrap (i + 1) = i + 1 := fun _ => wrap_eq (by omega) (by omega)
  have hfl : ((ps.take i.toNat).filter (fun q => decide (q.2 ≠ t))).length ≤ 100000 := by
    have h1 := List.length_filter_le (fun q => decide (q.2 ≠ t)) (ps.take i.toNat)
    rw [List.length_take] at h1
    omega
  conv => whnf
  refine cond_intro (fun hlt => ?_) (fun hge => ?_)
  · have hlt : i < ps.length := @of_decide_eq_true _ _ hlt
    have e : gS ps i.toNat = ps[i.toNat]'(by omega) := by simp [gS, show i.toNat < ps.length by omega]
    have ht : ps.take (i.toNat + 1) = ps.take i.toNat ++ [gS ps i.toNat] := by rw [List.take_succ_eq_append_getElem (by omega), e]
    have en : (i + 1).toNat = i.toNat + 1 := by omega
    conv => whnf
    refine ⟨h0, ?_⟩
    conv => whnf
    refine ⟨hlt, ?_⟩
    conv => whnf
    refine cond_intro (fun he => ?_) (fun he => ?_)
    · have he : (!decide ((gS ps i.toNat).2 = t)) = true := he
      have he : ¬ (gS ps i.toNat).2 = t := by simpa using he
      conv => whnf
      refine ⟨show (((ps.take i.toNat).filter (fun q => decide (q.2 ≠ t))).length + 1) * 16 ≤ 70368744177664 by omega, ?_⟩
      conv => whnf
      refine ⟨show ((ps.take i.toNat).filter (fun q => decide (q.2 ≠ t))).length + 1 ≤ 70368744177664 by omega, ?_⟩
      conv => whnf
      refine ⟨i + 1, ?_, ⟨by omega, by omega⟩, by omega⟩
      exact Eq.trans (b := S21 ow ps ((ps.take i.toNat).filter (fun q => decide (q.2 ≠ t)) ++ [((gS ps i.toNat).1, (gS ps i.toNat).2)]) ws rs t (IntKind.i64.wrap (i + 1))) rfl (by rw [hw hlt, en, ht, List.filter_append]; simp [he])
    have he : (!decide ((gS ps i.toNat).2 = t)) = false := he
    have he : (gS ps i.toNat).2 = t := by simpa using he
    conv => whnf
    refine ⟨i + 1, ?_, ⟨by omega, by omega⟩, by omega⟩
    exact Eq.trans (b := S21 ow ps ((ps.take i.toNat).filter (fun q => decide (q.2 ≠ t))) ws rs t (IntKind.i64.wrap (i + 1))) rfl (by rw [hw hlt, en, ht, List.filter_append]; simp [he])
  have hge : ¬ i < ps.length := @of_decide_eq_false _ _ hge
  rw [List.take_of_length_le (by omega)] at hfl ⊢
  conv => whnf
  refine cond_intro (fun hq => ?_) (fun hq => ?_)
  · have hq : ((ps.filter (fun q => decide (q.2 ≠ t))).length : Int) = ps.length := @of_decide_eq_true _ _ hq
    conv => whnf
    show (zSt, 0, 2) = leaveRefR (ow, ps, ws, rs) w h t
    rw [v1, if_pos hq]
  have hq : ¬ ((ps.filter (fun q => decide (q.2 ≠ t))).length : Int) = ps.length := @of_decide_eq_false _ _ hq
  rw [if_neg hq] at v1
  conv => whnf
  refine cond_intro (fun hz => ?_) (fun hz => ?_)
  · have hz : 0 < ((ps.filter (fun q => decide (q.2 ≠ t))).length : Int) := @of_decide_eq_true _ _ hz
    conv => whnf
    show ((ow, ps.filter (fun q => decide (q.2 ≠ t)), ws, rs), 0, 0) = leaveRefR (ow, ps, ws, rs) w h t
    rw [v1, if_pos hz]
  have hz : ¬ 0 < ((ps.filter (fun q => decide (q.2 ≠ t))).length : Int) := @of_decide_eq_false _ _ hz
  rw [if_neg hz] at v1
  conv => whnf
  refine ⟨g2, ?_⟩
  conv => whnf
  show ((ow, ps.filter (fun q => decide (q.2 ≠ t)), [], []), unitsR ws, 0) = leaveRefR (ow, ps, ws, rs) w h t
  rw [v1]
end
end Go.Proofs.Yteidanhfkaljaaa.Eng
set_option linter.unusedVariables false
namespace Go.Proofs.Yteidanhfkaljaaa.Eng
open Go
set_option maxRecDepth 100000
noncomputable section
theorem adj_pw {α : Type} (k : α → Int) {l : List α} (h : ∀ i, (hi : i + 1 < l.length) → k (l[i]'(by omega)) < k l[i + 1]) : l.Pairwise (fun a b => k a < k b) := by
  rw [List.pairwise_iff_getElem]
  intro i j hi hj hij
  induction j with
  | zero => omega
  | succ j ih =>
    have h1 := h j hj
    by_cases e : i = j
    · subst e; exact h1
    · have := ih (by omega) (by omega)
      omega
theorem pw_adj {α : Type} (k : α → Int) {l : List α} (h : l.Pairwise (fun a b => k a < k b)) (i : Nat) (hi : i + 1 < l.length) : k (l[i]'(by omega)) < k l[i + 1] :=
  List.pairwise_iff_getElem.1 h i (i + 1) (by omega) hi (by omega)
def okPs (ps : List Pl) : Prop := (∀ p ∈ ps, (0 ≤ p.1 ∧ p.1 ≤ 3) ∧ (0 ≤ p.2 ∧ p.2 ≤ 1000000)) ∧ ps.Pairwise (fun a b => a.2 < b.2)
def okRs (rs : List Ra) : Prop := (∀ r ∈ rs, ratedR r = true) ∧ rs.Pairwise (fun a b => a.1 < b.1)
theorem badS_iff {ps : List Pl} {i : Nat} (hi : i < ps.length) : badS ps i = false ↔ ((0 ≤ (gS ps i).1 ∧ (gS ps i).1 ≤ 3) ∧ (0 ≤ (gS ps i).2 ∧ (gS ps i).2 ≤ 1000000)) ∧ (0 < i → (gS ps (i - 1)).2 < (gS ps i).2) := by
  simp only [badS, withinR, List.all_cons, List.all_nil, Bool.and_true, Bool.or_eq_false_iff, Bool.not_eq_false', Bool.and_eq_true, decide_eq_true_eq, Bool.and_eq_false_iff, decide_eq_false_iff_not, and_assoc]
  constructor
  · rintro ⟨a, b, c, d, e⟩
    exact ⟨a, b, c, d, fun h => by omega⟩
  · rintro ⟨a, b, c, d, e⟩
    exact ⟨a, b, c, d, by omega⟩
theorem badR_iff {rs : List Ra} {i : Nat} (hi : i < rs.length) : badR rs i = false ↔ ratedR (gR rs i) = true ∧ (0 < i → (gR rs (i - 1)).1 < (gR rs i).1) := by
  simp only [badR, Bool.or_eq_false_iff, Bool.not_eq_false', Bool.and_eq_false_iff, decide_eq_false_iff_not]
  constructor
  · rintro ⟨a, e⟩
    exact ⟨a, fun h => by omega⟩
  · rintro ⟨a, e⟩
    exact ⟨a, by omega⟩
theorem gS_at {ps : List Pl} {i : Nat} (hi : i < ps.length) : gS ps i = ps[i] := by simp [gS, hi]
theorem gR_at {rs : List Ra} {i : Nat} (hi : i < rs.length) : gR rs i = rs[i] := by simp [gR, hi]
theorem noBadS {ps : List Pl} : (List.range ps.length).any (badS ps) = false ↔ okPs ps := by
  rw [List.any_eq_false]
  constructor
  · intro h
    have h' : ∀ i, i < ps.length → badS ps i = false := fun i hi => by simpa using h i (List.mem_range.2 hi)
    refine ⟨fun p hp => ?_, adj_pw (fun p : Pl => p.2) fun i hi => ?_⟩
    · obtain ⟨i, hi, e⟩ := List.mem_iff_getElem.1 hp
      have := ((badS_iff hi).1 (h' i hi)).1
      rw [gS_at hi, e] at this
      exact this
    · have := ((badS_iff hi).1 (h' (i + 1) hi)).2 (by omega)
      rw [gS_at hi, show i + 1 - 1 = i by omega, gS_at (show i < ps.length by omega)] at this
      exact this
  · rintro ⟨h1, h2⟩ i hi
    have hi := List.mem_range.1 hi
    have : badS ps i = false := by
      rw [badS_iff hi, gS_at hi]
      refine ⟨h1 _ (List.getElem_mem _), fun h => ?_⟩
      obtain ⟨j, rfl⟩ : ∃ j, i = j + 1 := ⟨i - 1, by omega⟩
      have := pw_adj (fun p : Pl => p.2) h2 j hi
      rw [show j + 1 - 1 = j by omega, gS_at (show j < ps.length by omega)]
      exact this
    simp [this]
theorem noBadR {rs : List Ra} : (List.range rs.length).any (badR rs) = false ↔ okRs rs := by
  rw [List.any_eq_false]
  constructor
  · intro h
    have h' : ∀ i, i < rs.length → badR rs i = false := fun i hi => by simpa using h i (List.mem_range.2 hi)
    refine ⟨fun p hp => ?_, adj_pw (fun p : Ra => p.1) fun i hi => ?_⟩
    · obtain ⟨i, hi, e⟩ := List.mem_iff_getElem.1 hp
      have := ((badR_iff hi).1 (h' i hi)).1
      rw [gR_at hi, e] at this
      exact this
    · have := ((badR_iff hi).1 (h' (i + 1) hi)).2 (by omega)
      rw [gR_at hi, show i + 1 - 1 = i by omega, gR_at (show i < rs.length by omega)] at this
      exact this
  · rintro ⟨h1, h2⟩ i hi
    have hi := List.mem_range.1 hi
    have : badR rs i = false := by
      rw [badR_iff hi, gR_at hi]
      refine ⟨h1 _ (List.getElem_mem _), fun h => ?_⟩
      obtain ⟨j, rfl⟩ : ∃ j, i = j + 1 := ⟨i - 1, by omega⟩
      have := pw_adj (fun p : Ra => p.1) h2 j hi
      rw [show j + 1 - 1 = j by omega, gR_at (show j < rs.length by omega)]
      exact this
    simp [this]
theorem valid_iff {s : St} : validR s = 0 ↔ s.2.1.length ≤ 20 ∧ -1 ≤ s.1 ∧ s.1 < 12 ∧ cargoR s.2.2.1 = 0 ∧ okPs s.2.1 ∧ okRs s.2.2.2 := by
  rw [← noBadS, ← noBadR]
  unfold validR
  by_cases c1 : 20 < s.2.1.length
  · rw [if_pos c1]; constructor
    · intro h; omega
    · rintro ⟨h, _⟩; omega
  rw [if_neg c1]
  by_cases c2 : s.1 < -1 ∨ 12 ≤ s.1 ∨ cargoR s.2.2.1 ≠ 0
  · rw [if_pos c2]; constructor
    · intro h; omega
    · rintro ⟨_, h1, h2, h3, _⟩
      rcases c2 with c | c | c
      · omega
      · omega
      · exact absurd h3 c
  rw [if_neg c2]
  have c2' : ¬ s.1 < -1 ∧ ¬ 12 ≤ s.1 ∧ cargoR s.2.2.1 = 0 := ⟨fun h => c2 (Or.inl h), fun h => c2 (Or.inr (Or.inl h)), Classical.byContradiction fun h => c2 (Or.inr (Or.inr h))⟩
  cases c3 : (List.range s.2.1.length).any (badS s.2.1) with
  | true => simp
  | false =>
    cases c4 : (List.range s.2.2.2.length).any (badR s.2.2.2) with
    | true => simp
    | false => simp only [Bool.false_eq_true, if_false, true_iff]; exact ⟨by omega, by omega, by omega, c2'.2.2, trivial, trivial⟩
theorem okPs_sub {ps qs : List Pl} (h : okPs ps) (hs : qs.Sublist ps) : okPs qs := ⟨fun p hp => h.1 p (hs.subset hp), h.2.sublist hs⟩
theorem cargo_nil : cargoR [] = 0 := by kernel_rfl
theorem okRs_nil : okRs [] := ⟨fun _ h => (by cases h), List.Pairwise.nil⟩
theorem filter_one {l : List Pl} {i : Nat} {t : Int} (hi : i < l.length) (hp : l.Pairwise (fun a b => a.2 < b.2)) (ht : l[i].2 = t) : l.filter (fun q => decide (q.2 ≠ t)) = l.take i ++ l.drop (i + 1) := by
  have e : l = l.take i ++ l[i] :: l.drop (i + 1) := by rw [← List.drop_eq_getElem_cons hi, List.take_append_drop]
  rw [e] at hp
  obtain ⟨_, h2, h3⟩ := List.pairwise_append.1 hp
  have h4 := List.pairwise_cons.1 h2
  conv => lhs; rw [e]
  rw [List.filter_append, List.filter_cons, if_neg (by simp [ht]), List.filter_eq_self.2, List.filter_eq_self.2]
  · intro a ha
    have := h4.1 a ha
    rw [ht] at this
    simp; omega
  · intro a ha
    have := h3 a ha l[i] (List.mem_cons_self ..)
    rw [ht] at this
    simp; omega
theorem find_lt {l : List Pl} {f : Pl → Bool} (h : l.findIdx f < l.length) : f (l[l.findIdx f]) = true := List.findIdx_getElem (w := h)
theorem find_none {l : List Pl} {f : Pl → Bool} (h : ¬ l.findIdx f < l.length) : ∀ x ∈ l, f x = false := by
  intro x hx
  cases e : f x with
  | false => rfl
  | true => exact absurd (List.findIdx_lt_length_of_exists ⟨x, hx, e⟩) h
theorem leave_same (s : St) (w h t : Int) : leaveR s w h t = leaveRefR s w h t := by
  unfold leaveR leaveRefR askedR
  by_cases hv : ¬ (validR s = 0)
  · rw [if_pos hv, if_pos (by rw [if_pos hv]; exact hv), if_pos hv]
  have hv : validR s = 0 := Classical.not_not.1 hv
  rw [if_neg (by simp [hv]), if_neg (show ¬ (validR s ≠ 0) by simp [hv])]
  by_cases hs : ¬ (sizedR w h t = 0)
  · rw [if_pos hs, if_pos hs]
  have hs : sizedR w h t = 0 := Classical.not_not.1 hs
  rw [if_neg (show ¬ (sizedR w h t ≠ 0) by simp [hs]), if_neg (show ¬ (sizedR w h t ≠ 0) by simp [hs])]
  obtain ⟨v1, v2, v3, v4, ⟨v5, v6⟩, v7⟩ := valid_iff.1 hv
  by_cases hf : s.2.1.findIdx (fun q => decide (q.2 = t)) < s.2.1.length
  · rw [if_pos hf]
    have ht := find_lt hf
    have ht : (s.2.1[s.2.1.findIdx (fun q => decide (q.2 = t))]).2 = t := by simpa using ht
    rw [filter_one hf v6 ht, leaveAt]
    generalize s.2.1.findIdx (fun q => decide (q.2 = t)) = i at *
    have hl : (s.2.1.take i ++ s.2.1.drop (i + 1)).length = s.2.1.length - 1 := by simp; omega
    rw [if_neg (show ¬ (((s.2.1.take i ++ s.2.1.drop (i + 1)).length : Int) = s.2.1.length) by omega)]
    by_cases hz : (s.2.1.take i ++ s.2.1.drop (i + 1)).length = 0
    · rw [if_pos hz, if_neg (by omega), List.eq_nil_of_length_eq_zero hz]
    · rw [if_neg hz, if_pos (by omega)]
  · rw [if_neg hf]
    have hn := find_none hf
    rw [List.filter_eq_self.2 (fun a ha => by have := hn a ha; simpa using this), if_pos rfl]
theorem leave_valid {s : St} {w h t : Int} (he : (leaveR s w h t).2.2 = 0) : validR (leaveR s w h t).1 = 0 := by
  unfold leaveR at he ⊢
  by_cases hv : ¬ (validR s = 0)
  · rw [if_pos hv] at he; exact absurd he hv
  have hv : validR s = 0 := Classical.not_not.1 hv
  rw [if_neg (by simp [hv])] at he ⊢
  by_cases hs : ¬ (sizedR w h t = 0)
  · rw [if_pos hs] at he; exact absurd he hs
  have hs : sizedR w h t = 0 := Classical.not_not.1 hs
  rw [if_neg (by simp [hs])] at he ⊢
  by_cases hf : ¬ (s.2.1.findIdx (fun q => decide (q.2 = t)) < s.2.1.length)
  · rw [if_neg hf] at he; simp at he
  have hf : s.2.1.findIdx (fun q => decide (q.2 = t)) < s.2.1.length := Classical.not_not.1 hf
  rw [if_pos hf]
  generalize s.2.1.findIdx (fun q => decide (q.2 = t)) = i at *
  obtain ⟨v1, v2, v3, v4, v5, v7⟩ := valid_iff.1 hv
  unfold leaveAt
  have hsub : (s.2.1.take i ++ s.2.1.drop (i + 1)).Sublist s.2.1 := by
    conv => rhs; rw [← List.take_append_drop i s.2.1]
    exact List.Sublist.append (List.Sublist.refl _) (by rw [← List.drop_drop]; exact List.drop_sublist _ _)
  split
  · exact valid_iff.2 ⟨by simp, v2, v3, cargo_nil, ⟨fun _ h => (by cases h), List.Pairwise.nil⟩, okRs_nil⟩
  · exact valid_iff.2 ⟨Nat.le_trans hsub.length_le v1, v2, v3, v4, okPs_sub v5 hsub, v7⟩
theorem leave_small {s : St} {w h t : Int} {m : Nat} (h1 : s.2.1.length ≤ m) (h2 : s.2.2.1.length ≤ m) (h3 : s.2.2.2.length ≤ m) : (leaveR s w h t).1.2.1.length ≤ m ∧ (leaveR s w h t).1.2.2.1.length ≤ m ∧ (leaveR s w h t).1.2.2.2.length ≤ m := by
  unfold leaveR leaveAt
  repeat' split
  all_goals (simp <;> omega)
end
end Go.Proofs.Yteidanhfkaljaaa.Eng
set_option linter.unusedVariables false
namespace Go.Proofs.Yteidanhfkaljaaa.Eng
open Go
set_option maxRecDepth 100000
noncomputable section
theorem sameSt_refl (s : St) : sameSt s s = true := by simp [sameSt, eqPl, eqPa, eqRa]
def E7 : Env := ⟨tab, [(16, K16), (12, K12), (20, K20), (21, K21), (22, K22), (23, K23)], ann0⟩
def K7 : Fn1 := ⟨covIn, .one .bool, fun _ => [], fun _ => true⟩
theorem k7 : FnOk Go.Proofs.Try.prog 7 K7 := by
  refine fn_ok (E := E7) (TOk.of tab_told) (AllOk.cons k16 (.cons k12 (.cons k20 (.cons k21 (.cons k22 (.cons k23 .nil)))))).at_ mix Go.Proofs.Try.func7 rfl rfl (by kernel_rfl) K7 ?_
  rintro ⟨⟨(ow : Int), (ps : List Pl), (ws : List Pa), (rs : List Ra)⟩, (w : Int), (h : Int), (t : Int)⟩ hp
  clear hp
  conv => whnf
  refine cond_intro (fun hg => ?_) (fun hg => ?_)
  · conv => whnf
    rfl
  have hg : largeR (ow, ps, ws, rs) = false := hg
  have hl := not_large hg
  obtain ⟨l1, l2, l3⟩ := hl
  have g1 : ps.length ≤ 100000 := by simp only at l1; omega
  have g2 : ws.length ≤ 100000 := by simp only at l2; omega
  have g3 : rs.length ≤ 100000 := by simp only at l3; omega
  have hc := leave_same (ow, ps, ws, rs) w h t
  have hv := leave_valid (s := (ow, ps, ws, rs)) (w := w) (h := h) (t := t)
  obtain ⟨m1, m2, m3⟩ := leave_small (s := (ow, ps, ws, rs)) (w := w) (h := h) (t := t) (m := 100000) g1 g2 g3
  conv => whnf
  refine ⟨g1, ?_⟩
  conv => whnf
  refine ⟨g2, ?_⟩
  conv => whnf
  refine ⟨g3, ?_⟩
  conv => whnf
  refine ⟨g1, ?_⟩
  conv => whnf
  refine ⟨g2, ?_⟩
  conv => whnf
  refine ⟨g3, ?_⟩
  conv => whnf
  refine cond_intro (fun q => ?_) (fun q => ?_)
  case refine_2 =>
    have q : ¬ (leaveR (ow, ps, ws, rs) w h t).2.2 = (leaveRefR (ow, ps, ws, rs) w h t).2.2 := @of_decide_eq_false _ _ q
    rw [hc] at q
    exact absurd rfl q
  conv => whnf
  refine cond_intro (fun q => ?_) (fun q => ?_)
  case refine_2 =>
    have q : ¬ (leaveR (ow, ps, ws, rs) w h t).2.1 = (leaveRefR (ow, ps, ws, rs) w h t).2.1 := @of_decide_eq_false _ _ q
    rw [hc] at q
    exact absurd rfl q
  conv => whnf
  refine ⟨m1, ?_⟩
  conv => whnf
  refine ⟨m2, ?_⟩
  conv => whnf
  refine ⟨m3, ?_⟩
  conv => whnf
  refine cond_intro (fun q => ?_) (fun q => ?_)
  case refine_2 =>
    have q : sameSt (leaveR (ow, ps, ws, rs) w h t).1 (leaveRefR (ow, ps, ws, rs) w h t).1 = false := q
    rw [hc, sameSt_refl] at q
    cases q
  conv => whnf
  refine cond_intro (fun q => ?_) (fun q => ?_)
  · conv => whnf
    rfl
  · have q : (!decide ((leaveR (ow, ps, ws, rs) w h t).2.2 = 0)) = false := q
    have q : (leaveR (ow, ps, ws, rs) w h t).2.2 = 0 := by simpa using q
    conv => whnf
    refine ⟨m1, ?_⟩
    conv => whnf
    refine ⟨m2, ?_⟩
    conv => whnf
    refine ⟨m3, ?_⟩
    conv => whnf
    refine cond_intro (fun r => ?_) (fun r => ?_)
    · conv => whnf
      rfl
    · have r : ¬ validR (leaveR (ow, ps, ws, rs) w h t).1 = 0 := @of_decide_eq_false _ _ r
      exact absurd (hv q) r
end
end Go.Proofs.Yteidanhfkaljaaa.Eng
set_option linter.unusedVariables false
namespace Go.Proofs.Yteidanhfkaljaaa.Eng
open Go
set_option maxRecDepth 100000
noncomputable section
def cntL (l : List Pl) (t : Int) : Nat := l.countP (fun q => decide (q.2 < t))
theorem sorted_cut {t : Int} : ∀ {l : List Pl}, l.Pairwise (fun a b => a.2 < b.2) → (∀ q ∈ l.take (cntL l t), q.2 < t) ∧ (∀ q ∈ l.drop (cntL l t), ¬ q.2 < t)
  | [], _ => by simp [cntL]
  | x :: r, h => by
    obtain ⟨h1, h2⟩ := List.pairwise_cons.1 h
    by_cases c : x.2 < t
    · have e : cntL (x :: r) t = cntL r t + 1 := by simp [cntL, c]
      obtain ⟨i1, i2⟩ := sorted_cut (t := t) h2
      rw [e, List.take_succ_cons, List.drop_succ_cons]
      refine ⟨fun q hq => ?_, i2⟩
      rcases List.mem_cons.1 hq with rfl | hq
      · exact c
      · exact i1 q hq
    · have e : cntL (x :: r) t = 0 := by
        unfold cntL
        rw [List.countP_eq_zero]
        intro q hq
        rcases List.mem_cons.1 hq with rfl | hq
        · simpa using c
        · have := h1 q hq
          simp; omega
      rw [e]
      refine ⟨fun q hq => by simp at hq, fun q hq => ?_⟩
      rw [List.drop_zero] at hq
      rcases List.mem_cons.1 hq with rfl | hq
      · exact c
      · have := h1 q hq
        omega
def putIn (l : List Pl) (p : Pl) : List Pl := l.take (cntL l p.2) ++ p :: l.drop (cntL l p.2)
theorem putIn_ok {l : List Pl} {p : Pl} (hl : okPs l) (hp : (0 ≤ p.1 ∧ p.1 ≤ 3) ∧ (0 ≤ p.2 ∧ p.2 ≤ 1000000)) (hn : ∀ q ∈ l, q.2 ≠ p.2) : okPs (putIn l p) := by
  obtain ⟨c1, c2⟩ := sorted_cut (t := p.2) hl.2
  refine ⟨fun q hq => ?_, ?_⟩
  · rcases List.mem_append.1 hq with h | h
    · exact hl.1 q (List.mem_of_mem_take h)
    · rcases List.mem_cons.1 h with rfl | h
      · exact hp
      · exact hl.1 q (List.mem_of_mem_drop h)
  · unfold putIn
    rw [List.pairwise_append]
    have hd : ∀ q ∈ l.drop (cntL l p.2), p.2 < q.2 := fun q hq => by
      have h1 := c2 q hq
      have h2 := hn q (List.mem_of_mem_drop hq)
      omega
    refine ⟨hl.2.sublist (List.take_sublist _ _), List.pairwise_cons.2 ⟨hd, hl.2.sublist (List.drop_sublist _ _)⟩, fun a ha b hb => ?_⟩
    have h1 := c1 a ha
    rcases List.mem_cons.1 hb with rfl | hb
    · exact h1
    · have := hd b hb; omega
theorem putIn_len (l : List Pl) (p : Pl) : (putIn l p).length = l.length + 1 := by
  have h1 : (l.take (cntL l p.2)).length + (l.drop (cntL l p.2)).length = l.length := by
    rw [← List.length_append, List.take_append_drop]
  unfold putIn
  rw [List.length_append, List.length_cons]
  omega
theorem joinR_ok {s : St} {w h : Int} {p : Pl} (he : (joinR s w h p).2 = 0) : validR s = 0 ∧ sizedR w h p.2 = 0 ∧ (0 ≤ p.1 ∧ p.1 ≤ 3) ∧ (∀ q ∈ s.2.1, q.2 ≠ p.2) ∧ s.2.1.length < 20 ∧ (joinR s w h p).1 = (s.1, putIn s.2.1 p, s.2.2.1, s.2.2.2) := by
  unfold joinR at he ⊢
  by_cases hv : ¬ validR s = 0
  · rw [if_pos hv] at he; exact absurd he hv
  have hv : validR s = 0 := Classical.not_not.1 hv
  rw [if_neg (show ¬ (validR s ≠ 0) by simp [hv])] at he ⊢
  by_cases hs : ¬ sizedR w h p.2 = 0
  · rw [if_pos hs] at he; exact absurd he hs
  have hs : sizedR w h p.2 = 0 := Classical.not_not.1 hs
  rw [if_neg (show ¬ (sizedR w h p.2 ≠ 0) by simp [hs])] at he ⊢
  by_cases hk : withinR (3, [p.1]) = false
  · rw [if_pos hk] at he; simp at he
  rw [if_neg hk] at he ⊢
  by_cases ht : s.2.1.any (fun q => decide (q.2 = p.2)) = true
  · rw [if_pos ht] at he; simp at he
  rw [if_neg ht] at he ⊢
  by_cases hf : 20 ≤ s.2.1.length
  · rw [if_pos hf] at he; simp at he
  rw [if_neg hf] at he ⊢
  by_cases hb : beR w h s.2.1 p.2 s.2.1.length = false
  · rw [if_pos hb] at he; simp at he
  rw [if_neg hb]
  refine ⟨hv, hs, by simpa [withinR] using hk, fun q hq e => ht (List.any_eq_true.2 ⟨q, hq, by simp [e]⟩), by omega, ?_⟩
  have e : (atR s.2.1 p.2 s.2.1.length).toNat = cntL s.2.1 p.2 := by
    unfold atR cntL
    rw [List.take_length]
    simp
  simp only [e, putIn, List.append_assoc, List.singleton_append]
theorem sized_tile {w h t : Int} (hs : sizedR w h t = 0) : 0 ≤ t ∧ t ≤ 1000000 := by
  obtain ⟨_, _, h0, h1, _, h2⟩ := sized_zero hs
  omega
theorem join_valid {s : St} {w h : Int} {p : Pl} (he : (joinR s w h p).2 = 0) : validR (joinR s w h p).1 = 0 := by
  obtain ⟨h1, h2, h3, h4, h5, h6⟩ := joinR_ok he
  obtain ⟨v1, v2, v3, v4, v5, v7⟩ := valid_iff.1 h1
  rw [h6, valid_iff]
  exact ⟨by show (putIn s.2.1 p).length ≤ 20; rw [putIn_len]; omega, v2, v3, v4, putIn_ok v5 ⟨h3, sized_tile h2⟩ h4, v7⟩
theorem apart_self {w a : Int} : apartR w a a = 0 := by
  unfold apartR sub64
  simp only [Int.sub_self]
  kernel_rfl
theorem reach_nn {k : Int} (h : 0 ≤ k ∧ k ≤ 3) : 0 ≤ reachR k := by
  have : k = 0 ∨ k = 1 ∨ k = 2 ∨ k = 3 := by omega
  rcases this with rfl | rfl | rfl | rfl <;> decide
theorem join_covers {s : St} {w h : Int} {p : Pl} (he : (joinR s w h p).2 = 0) : coversR (joinR s w h p).1 w h p.2 = (true, 0) := by
  have hv := join_valid he
  obtain ⟨h1, h2, h3, h4, h5, h6⟩ := joinR_ok he
  rw [coversR, if_neg (by simp [hv]), if_neg (by simp [h2]), h6]
  have : (putIn s.2.1 p).any (nearP w h p.2) = true := by
    refine List.any_eq_true.2 ⟨p, by simp [putIn], ?_⟩
    obtain ⟨_, _, t0, t1, e, _⟩ := sized_zero h2
    unfold nearP
    rw [apart_self, e]
    have := reach_nn h3
    simp [t1, this]
  simp only [this]
theorem find_put {l : List Pl} {p : Pl} (hn : ∀ q ∈ l, q.2 ≠ p.2) : (putIn l p).findIdx (fun q => decide (q.2 = p.2)) = (l.take (cntL l p.2)).length := by
  unfold putIn
  have hi : (l.take (cntL l p.2)).length < (l.take (cntL l p.2) ++ p :: l.drop (cntL l p.2)).length := by simp
  refine findIdx_at hi (fun q hq => ?_) ?_
  · rw [List.take_left] at hq
    have := hn q (List.mem_of_mem_take hq)
    simpa using this
  · rw [gS_at hi, List.getElem_append_right (Nat.le_refl _)]
    simp
theorem join_leave {s : St} {w h : Int} {p : Pl} (he : (joinR s w h p).2 = 0) : leaveR (joinR s w h p).1 w h p.2 = if s.2.1.length = 0 then ((s.1, [], [], []), unitsR s.2.2.1, 0) else (s, 0, 0) := by
  have hv := join_valid he
  obtain ⟨h1, h2, h3, h4, h5, h6⟩ := joinR_ok he
  rw [leaveR, if_neg (show ¬ (validR (joinR s w h p).1 ≠ 0) by simp [hv]), if_neg (show ¬ (sizedR w h p.2 ≠ 0) by simp [h2]), h6]
  simp only
  rw [find_put h4, if_pos (by rw [putIn_len, List.length_take]; omega), leaveAt]
  have e : (putIn s.2.1 p).take (s.2.1.take (cntL s.2.1 p.2)).length ++ (putIn s.2.1 p).drop ((s.2.1.take (cntL s.2.1 p.2)).length + 1) = s.2.1 := by
    unfold putIn
    rw [List.take_left, ← List.drop_drop, List.drop_left, List.drop_succ_cons, List.drop_zero, List.take_append_drop]
  simp only [e]
theorem join_small {s : St} {w h : Int} {p : Pl} {m : Nat} (h0 : 0 < m) (h1 : s.2.1.length < m) (h2 : s.2.2.1.length < m) (h3 : s.2.2.2.length < m) : (joinR s w h p).1.2.1.length ≤ m ∧ (joinR s w h p).1.2.2.1.length ≤ m ∧ (joinR s w h p).1.2.2.2.length ≤ m := by
  unfold joinR
  repeat' split
  all_goals (simp <;> omega)
end
end Go.Proofs.Yteidanhfkaljaaa.Eng
set_option linter.unusedVariables false
namespace Go.Proofs.Yteidanhfkaljaaa.Eng
open Go
set_option maxRecDepth 100000
noncomputable section
def E8 : Env := ⟨tab, [(16, K16), (12, K12), (24, K24), (17, K17), (20, K20), (22, K22), (25, K25)], ann0⟩
def K8 : Fn1 := ⟨joinIn, .one .bool, fun _ => [], fun _ => true⟩
theorem k8 : FnOk Go.Proofs.Try.prog 8 K8 := by
  refine fn_ok (E := E8) (TOk.of tab_told) (AllOk.cons k16 (.cons k12 (.cons k24 (.cons k17 (.cons k20 (.cons k22 (.cons k25 .nil))))))).at_ mix Go.Proofs.Try.func8 rfl rfl (by kernel_rfl) K8 ?_
  rintro ⟨⟨(ow : Int), (ps : List Pl), (ws : List Pa), (rs : List Ra)⟩, (w : Int), (h : Int), ⟨(pk : Int), (pt : Int)⟩⟩ hp
  clear hp
  conv => whnf
  refine cond_intro (fun hg => ?_) (fun hg => ?_)
  · conv => whnf
    rfl
  have hg : largeR (ow, ps, ws, rs) = false := hg
  have hl := not_large hg
  obtain ⟨l1, l2, l3⟩ := hl
  have g1 : ps.length ≤ 100000 := by simp only at l1; omega
  have g2 : ws.length ≤ 100000 := by simp only at l2; omega
  have g3 : rs.length ≤ 100000 := by simp only at l3; omega
  obtain ⟨m1, m2, m3⟩ := join_small (s := (ow, ps, ws, rs)) (w := w) (h := h) (p := (pk, pt)) (m := 100000) (by omega) (by simp only at l1 ⊢; omega) (by simp only at l2 ⊢; omega) (by simp only at l3 ⊢; omega)
  conv => whnf
  refine ⟨g1, ?_⟩
  conv => whnf
  refine ⟨g2, ?_⟩
  conv => whnf
  refine ⟨g3, ?_⟩
  conv => whnf
  refine cond_intro (fun he => ?_) (fun he => ?_)
  · conv => whnf
    rfl
  have he : (!decide ((joinR (ow, ps, ws, rs) w h (pk, pt)).2 = 0)) = false := he
  have he : (joinR (ow, ps, ws, rs) w h (pk, pt)).2 = 0 := by simpa using he
  have c1 := join_covers he
  have c2 := join_leave he
  simp only at c1 c2
  conv => whnf
  refine ⟨m1, ?_⟩
  conv => whnf
  refine ⟨m2, ?_⟩
  conv => whnf
  refine ⟨m3, ?_⟩
  conv => whnf
  refine ⟨m1, ?_⟩
  conv => whnf
  refine ⟨m2, ?_⟩
  conv => whnf
  refine ⟨m3, ?_⟩
  conv => whnf
  refine cond_intro (fun q => ?_) (fun q => ?_)
  case refine_1 =>
    have q : (!decide ((coversR (joinR (ow, ps, ws, rs) w h (pk, pt)).1 w h pt).2 = 0)) = true := q
    rw [c1] at q; simp at q
  conv => whnf
  refine cond_intro (fun q => ?_) (fun q => ?_)
  case refine_1 =>
    have q : (!decide ((leaveR (joinR (ow, ps, ws, rs) w h (pk, pt)).1 w h pt).2.2 = 0)) = true := q
    rw [c2] at q; split at q <;> simp at q
  conv => whnf
  refine cond_intro (fun q => ?_) (fun q => ?_)
  case refine_1 =>
    have q : (!(coversR (joinR (ow, ps, ws, rs) w h (pk, pt)).1 w h pt).1) = true := q
    rw [c1] at q; simp at q
  conv => whnf
  refine cond_intro (fun hz => ?_) (fun hz => ?_)
  · have hz : 0 < (ps.length : Int) := @of_decide_eq_true _ _ hz
    rw [if_neg (by omega)] at c2
    conv => whnf
    refine cond_intro (fun q => ?_) (fun q => ?_)
    case refine_2 =>
      have q : ¬ (leaveR (joinR (ow, ps, ws, rs) w h (pk, pt)).1 w h pt).2.1 = 0 := @of_decide_eq_false _ _ q
      rw [c2] at q
      exact absurd rfl q
    conv => whnf
    refine ⟨show (leaveR (joinR (ow, ps, ws, rs) w h (pk, pt)).1 w h pt).1.2.1.length ≤ 100000 by rw [c2]; exact g1, ?_⟩
    conv => whnf
    refine ⟨show (leaveR (joinR (ow, ps, ws, rs) w h (pk, pt)).1 w h pt).1.2.2.1.length ≤ 100000 by rw [c2]; exact g2, ?_⟩
    conv => whnf
    refine ⟨show (leaveR (joinR (ow, ps, ws, rs) w h (pk, pt)).1 w h pt).1.2.2.2.length ≤ 100000 by rw [c2]; exact g3, ?_⟩
    conv => whnf
    refine cond_intro (fun q => ?_) (fun q => ?_)
    case refine_2 =>
      have q : sameSt (leaveR (joinR (ow, ps, ws, rs) w h (pk, pt)).1 w h pt).1 (ow, ps, ws, rs) = false := q
      rw [c2, sameSt_refl] at q
      cases q
    conv => whnf
    rfl
  have hz : ¬ 0 < (ps.length : Int) := @of_decide_eq_false _ _ hz
  rw [if_pos (by omega)] at c2
  conv => whnf
  refine ⟨g2, ?_⟩
  conv => whnf
  refine cond_intro (fun q => ?_) (fun q => ?_)
  case refine_2 =>
    have q : ¬ (leaveR (joinR (ow, ps, ws, rs) w h (pk, pt)).1 w h pt).2.1 = unitsR ws := @of_decide_eq_false _ _ q
    rw [c2] at q
    exact absurd rfl q
  conv => whnf
  refine cond_intro (fun q => ?_) (fun q => ?_)
  case refine_2 =>
    have q : ¬ ((leaveR (joinR (ow, ps, ws, rs) w h (pk, pt)).1 w h pt).1.2.1.length : Int) = 0 := @of_decide_eq_false _ _ q
    rw [c2] at q
    exact absurd rfl q
  conv => whnf
  refine cond_intro (fun q => ?_) (fun q => ?_)
  case refine_2 =>
    have q : ¬ ((leaveR (joinR (ow, ps, ws, rs) w h (pk, pt)).1 w h pt).1.2.2.1.length : Int) = 0 := @of_decide_eq_false _ _ q
    rw [c2] at q
    exact absurd rfl q
  conv => whnf
  refine cond_intro (fun q => ?_) (fun q => ?_)
  case refine_2 =>
    have q : ¬ ((leaveR (joinR (ow, ps, ws, rs) w h (pk, pt)).1 w h pt).1.2.2.2.length : Int) = 0 := @of_decide_eq_false _ _ q
    rw [c2] at q
    exact absurd rfl q
  conv => whnf
  refine cond_intro (fun q => ?_) (fun q => ?_)
  case refine_2 =>
    have q : ¬ (leaveR (joinR (ow, ps, ws, rs) w h (pk, pt)).1 w h pt).1.1 = ow := @of_decide_eq_false _ _ q
    rw [c2] at q
    exact absurd rfl q
  conv => whnf
  rfl
end
end Go.Proofs.Yteidanhfkaljaaa.Eng
set_option linter.unusedVariables false
set_option linter.unusedSimpArgs false
namespace Go.Proofs.Yteidanhfkaljaaa.Eng
open Go
set_option maxRecDepth 100000
noncomputable section
open Go.RowKit
def nowF (k sp ye sc : Int) : Ra := (k, sc, 0, min2 sp 255, min2 ye 255)
/-- The ratings with one of them told anew. -/
def newF (k sp ye : Int) : List Ra → List Ra
  | [] => [nowF k sp ye 175]
  | r :: l => if r.1 < k then r :: newF k sp ye l else if r.1 = k then nowF k sp ye r.2.1 :: l else nowF k sp ye 175 :: r :: l
/-- The place of a cargo's rating; -1: there is none. -/
def ratI (l : List Ra) (k : Int) : Int := if l.findIdx (fun r => decide (r.1 = k)) < l.length then (l.findIdx (fun r => decide (r.1 = k)) : Int) else -1
def lowF (k : Int) : List Ra → Nat
  | [] => 0
  | r :: l => if r.1 < k then lowF k l + 1 else 0
theorem lowF_le (k : Int) : ∀ l : List Ra, lowF k l ≤ l.length
  | [] => Nat.le_refl _
  | r :: l => by
    have := lowF_le k l
    unfold lowF
    split
    · rw [List.length_cons]; omega
    · omega
theorem lowF_eq {k : Int} : ∀ {l : List Ra} {a : Nat}, a ≤ l.length → (∀ j, j < a → (gR l j).1 < k) → (a < l.length → ¬ (gR l a).1 < k) → a = lowF k l
  | [], a, h, _, _ => by simp at h; subst h; rfl
  | r :: l, 0, _, _, h => by
    have := h (by simp)
    have : ¬ r.1 < k := this
    unfold lowF
    rw [if_neg this]
  | r :: l, a + 1, h, h1, h2 => by
    have h0 : r.1 < k := h1 0 (by omega)
    unfold lowF
    rw [if_pos h0, ← lowF_eq (l := l) (a := a) (by simpa using h) (fun j hj => h1 (j + 1) (by omega)) (fun hl => h2 (by simpa using hl))]
theorem new_found {k sp ye : Int} : ∀ {l : List Ra} {i : Nat} (hi : i < l.length), l.Pairwise (fun a b => a.1 < b.1) → (gR l i).1 = k → l.set i (nowF k sp ye (gR l i).2.1) = newF k sp ye l
  | r :: l, 0, _, hp, h => by
    have h : r.1 = k := h
    show nowF k sp ye r.2.1 :: l = _
    unfold newF
    rw [if_neg (by omega), if_pos h]
  | r :: l, i + 1, hi, hp, h => by
    have hil : i < l.length := by simpa using hi
    have h : (gR l i).1 = k := h
    have hr := (List.pairwise_cons.1 hp).1 _ (List.getElem_mem hil)
    rw [← gR_at hil, h] at hr
    show r :: l.set i (nowF k sp ye (gR l i).2.1) = _
    unfold newF
    rw [if_pos hr, new_found hil (List.pairwise_cons.1 hp).2 h]
theorem new_none {k sp ye : Int} : ∀ {l : List Ra}, (∀ r ∈ l, r.1 ≠ k) → l.take (lowF k l) ++ [nowF k sp ye 175] ++ l.drop (lowF k l) = newF k sp ye l
  | [], _ => rfl
  | r :: l, h => by
    have h0 := h r List.mem_cons_self
    unfold lowF newF
    by_cases hr : r.1 < k
    · rw [if_pos hr, if_pos hr, ← new_none (l := l) fun q hq => h q (List.mem_cons_of_mem _ hq)]; rfl
    · rw [if_neg hr, if_neg hr, if_neg h0]; rfl
theorem rat_cases (l : List Ra) (k : Int) : (∃ i : Nat, ratI l k = i ∧ i < l.length ∧ (gR l i).1 = k) ∨ (ratI l k = -1 ∧ ∀ r ∈ l, r.1 ≠ k) := by
  unfold ratI
  split
  · rename_i h
    left
    refine ⟨_, rfl, h, ?_⟩
    have := List.findIdx_getElem (w := h)
    rw [gR_at h]
    simpa using this
  · rename_i h
    right
    refine ⟨rfl, fun r hr e => h (List.findIdx_lt_length_of_exists ⟨r, hr, by simpa using e⟩)⟩
/-- What a vehicle takes, and the station then. -/
def ldR (s : St) (k room sp ye : Int) : St × List Pa × Int :=
  if validR s ≠ 0 then (zSt, [], validR s) else if withinR (1000000, [room]) = false ∨ sp < 0 ∨ ye < 0 ∨ withinR (15, [k]) = false then (zSt, [], 1)
  else ((s.1, s.2.1, (Cg.takR s.2.2.1 k room).2.1, newF k sp ye s.2.2.2), (Cg.takR s.2.2.1 k room).1, 0)
theorem load_bad {s : St} {k room sp ye : Int} (h : validR s = 0) (g : withinR (1000000, [room]) = false ∨ sp < 0 ∨ ye < 0 ∨ withinR (15, [k]) = false) : ldR s k room sp ye = (zSt, [], 1) := by rw [ldR, if_neg (by simp [h]), if_pos g]
theorem cargo_same (l : List Pa) : cargoR l = Cg.cargoR l := rfl
def S50 (k : Int) (rs : List Ra) (i : Int) : SL := ⟨[.undef, .int .i64 k] ++ List.replicate 6 .undef ++ [.sl raT rs, .int .i64 rs.length, .int .i64 i] ++ List.replicate 10 .undef, [], 0⟩
theorem rat_at {rs : List Ra} {k : Int} {i : Nat} (hi : i < rs.length) (h : (gR rs i).1 = k) (hn : ∀ j, j < i → (gR rs j).1 ≠ k) : ratI rs k = i := by
  have e : rs.findIdx (fun r => decide (r.1 = k)) = i := by
    rw [List.findIdx_eq hi]
    refine ⟨by rw [← gR_at hi]; simpa using h, fun j hj => ?_⟩
    have := hn j hj
    rw [gR_at (show j < rs.length by omega)] at this
    simpa using this
  unfold ratI
  rw [e, if_pos hi]
theorem rat_none {rs : List Ra} {k : Int} (hn : ∀ j, j < rs.length → (gR rs j).1 ≠ k) : ratI rs k = -1 := by
  rcases rat_cases rs k with ⟨i, h1, h2, h3⟩ | ⟨h, _⟩
  · exact absurd h3 (hn i h2)
  · exact h
def E50 : Env := ⟨tab, [], fun n => match n with | 2 => some ([1, 8, 9, 10], [], []) | _ => none⟩
def K50 : Fn1 := ⟨.fld stT (.one I), .one I, fun (a : St × Int) => [a.1.2.2.2.length ≤ 100000], fun (a : St × Int) => ratI a.1.2.2.2 a.2⟩
theorem k50 : FnOk Go.Proofs.Try.prog 50 K50 := by
  refine fn_ok (E := E50) (TOk.of tab_told) (fun f k h => by cases h) mix Go.Proofs.Try.func50 rfl rfl (by kernel_rfl) K50 ?_
  rintro ⟨⟨(ow : Int), (ps : List Pl), (ws : List Pa), (rs : List Ra)⟩, (k : Int)⟩ hp
  have hl : rs.length ≤ 100000 := hp _ (List.mem_cons_self ..)
  clear hp
  conv => whnf
  refine loop_rule (fun i : Int => S50 k rs i) (fun i => (rs.length - i).toNat) (fun i => 0 ≤ i ∧ i ≤ rs.length ∧ ∀ j, j < i.toNat → (gR rs j).1 ≠ k) ?_ 0 (by kernel_rfl) ?_ ⟨by omega, by omega, fun j hj => by simp at hj⟩
  case refine_2 => rfl
  rintro i ⟨i0, i1, i2⟩
  conv => whnf
  refine cond_intro (fun hlt => ?_) (fun hlt => ?_)
  · have hlt : i < (rs.length : Int) := @of_decide_eq_true _ _ hlt
    have hw : IntKind.i64.wrap (i + 1) = i + 1 := wrap_eq (by omega) (by omega)
    conv => whnf
    refine ⟨i0, ?_⟩
    conv => whnf
    refine ⟨hlt, ?_⟩
    conv => whnf
    refine cond_intro (fun hk => ?_) (fun hk => ?_)
    · have hk : (gR rs i.toNat).1 = k := @of_decide_eq_true _ _ hk
      conv => whnf
      show i = ratI rs k
      rw [rat_at (show i.toNat < rs.length by omega) hk i2]; omega
    have hk : ¬ ((gR rs i.toNat).1 = k) := @of_decide_eq_false _ _ hk
    conv => whnf
    refine ⟨i + 1, ?_, ⟨by omega, by omega, fun j hj => ?_⟩, by omega⟩
    · exact Eq.trans (b := S50 k rs (IntKind.i64.wrap (i + 1))) rfl (by rw [hw])
    · by_cases e : j = i.toNat
      · subst e; exact hk
      · exact i2 j (by omega)
  have hlt : ¬ (i < (rs.length : Int)) := @of_decide_eq_false _ _ hlt
  conv => whnf
  show (-1 : Int) = ratI rs k
  rw [rat_none fun j hj => i2 j (by omega)]
def S26 (ow : Int) (ps : List Pl) (ws lf tk : List Pa) (rs : List Ra) (k : Int) (now : Ra) (i : Int) : SL :=
  ⟨[.undef, .int .i64 k, .undef, .undef, .undef, .ptr 0 0 0] ++ List.replicate 4 .undef ++ [.ptr 1 0 0] ++ List.replicate 3 .undef ++ [.ptr 2 0 0, .own 3, .undef, .undef, .ptr 4 0 0, .undef, .int .i64 i] ++ List.replicate 96 .undef,
   [(0, .box [.int .i64 ow, .sl plT ps, .sl paT ws, .sl raT rs]), (1, .box [.int .i64 0, .nilsl, .nilsl, .nilsl]), (2, .box [.int .i64 ow, .own 5, .own 6, .own 7]), (3, .arr paT tk), (4, .box [.int .i64 now.1, .int .i64 now.2.1, .int .i64 now.2.2.1, .int .i64 now.2.2.2.1, .int .i64 now.2.2.2.2]), (5, .arr plT ps), (6, .arr paT lf), (7, .arr raT rs)], 8⟩
def E26 : Env := ⟨tab, [(23, K23), (35, K35), (43, K43), (49, Cg.K49), (50, K50), (51, K51)], fun n => match n with | 16 => some ([1, 5, 10, 14, 15, 18, 20], [], []) | _ => none⟩
def K26 : Fn1 := ⟨.fld stT (.fld I (.fld I (.fld I (.one I)))), .fld stT (.fld (.sl paT) (.one I)), fun (a : St × Int × Int × Int × Int) => small a.1, fun (a : St × Int × Int × Int × Int) => ldR a.1 a.2.1 a.2.2.1 a.2.2.2.1 a.2.2.2.2⟩
set_option maxHeartbeats 1000000 in
theorem k26 : FnOk Go.Proofs.Try.prog 26 K26 := by
  refine fn_ok (E := E26) (TOk.of tab_told) (AllOk.cons k23 (.cons k35 (.cons k43 (.cons Cg.k49 (.cons k50 (.cons k51 .nil)))))).at_ mix Go.Proofs.Try.func26 rfl rfl (by kernel_rfl) K26 ?_
  rintro ⟨⟨(ow : Int), (ps : List Pl), (ws : List Pa), (rs : List Ra)⟩, (k : Int), (room : Int), (sp : Int), (ye : Int)⟩ hp
  have g1 : ps.length ≤ 100000 := hp _ (List.mem_cons_self ..)
  have g2 : ws.length ≤ 100000 := hp _ (List.mem_cons_of_mem _ (List.mem_cons_self ..))
  have g3 : rs.length ≤ 100000 := hp _ (List.mem_cons_of_mem _ (List.mem_cons_of_mem _ (List.mem_cons_self ..)))
  clear hp
  conv => whnf
  refine ⟨g1, ?_⟩
  conv => whnf
  refine ⟨g2, ?_⟩
  conv => whnf
  refine ⟨g3, ?_⟩
  conv => whnf
  refine cond_intro (fun hv => ?_) (fun hv => ?_)
  · have hv : (!decide (validR (ow, ps, ws, rs) = 0)) = true := hv
    have hv : ¬ (validR (ow, ps, ws, rs) = 0) := fun e => absurd hv (by rw [decide_eq_true e]; decide)
    conv => whnf
    show (((0, [], [], []), [], validR (ow, ps, ws, rs)) : St × List Pa × Int) = ldR (ow, ps, ws, rs) k room sp ye
    rw [ldR, if_pos hv]
  have hv : (!decide (validR (ow, ps, ws, rs) = 0)) = false := hv
  have hv : validR (ow, ps, ws, rs) = 0 := Decidable.byContradiction fun e => absurd hv (by rw [decide_eq_false e]; decide)
  conv => whnf
  refine ⟨show [room].length ≤ 140737488351232 by simp, ?_⟩
  conv => whnf
  refine cond_intro (fun a1 => ?_) (fun a1 => ?_)
  · have a1 : (!(withinR (1000000, [room]))) = true := a1
    have a1 : (withinR (1000000, [room])) = false := by cases e : (withinR (1000000, [room])) with | false => rfl | true => exact absurd a1 (by rw [e]; decide)
    conv => whnf
    show (((0, [], [], []), [], 1) : St × List Pa × Int) = ldR (ow, ps, ws, rs) k room sp ye
    exact (load_bad hv (Or.inl a1)).symm
  have a1 : (!(withinR (1000000, [room]))) = false := a1
  have a1 : (withinR (1000000, [room])) = true := by cases e : (withinR (1000000, [room])) with | true => rfl | false => exact absurd a1 (by rw [e]; decide)
  conv => whnf
  refine cond_intro (fun a2 => ?_) (fun a2 => ?_)
  · have a2 : sp < 0 := @of_decide_eq_true _ _ a2
    conv => whnf
    show (((0, [], [], []), [], 1) : St × List Pa × Int) = ldR (ow, ps, ws, rs) k room sp ye
    exact (load_bad hv (Or.inr (Or.inl a2))).symm
  have a2 : ¬ (sp < 0) := @of_decide_eq_false _ _ a2
  conv => whnf
  refine cond_intro (fun a3 => ?_) (fun a3 => ?_)
  · have a3 : ye < 0 := @of_decide_eq_true _ _ a3
    conv => whnf
    show (((0, [], [], []), [], 1) : St × List Pa × Int) = ldR (ow, ps, ws, rs) k room sp ye
    exact (load_bad hv (Or.inr (Or.inr (Or.inl a3)))).symm
  have a3 : ¬ (ye < 0) := @of_decide_eq_false _ _ a3
  conv => whnf
  refine ⟨show [k].length ≤ 140737488351232 by simp, ?_⟩
  conv => whnf
  refine cond_intro (fun a4 => ?_) (fun a4 => ?_)
  · have a4 : (!(withinR (15, [k]))) = true := a4
    have a4 : (withinR (15, [k])) = false := by cases e : (withinR (15, [k])) with | false => rfl | true => exact absurd a4 (by rw [e]; decide)
    conv => whnf
    show (((0, [], [], []), [], 1) : St × List Pa × Int) = ldR (ow, ps, ws, rs) k room sp ye
    exact (load_bad hv (Or.inr (Or.inr (Or.inr a4)))).symm
  have a4 : (!(withinR (15, [k]))) = false := a4
  have a4 : (withinR (15, [k])) = true := by cases e : (withinR (15, [k])) with | true => rfl | false => exact absurd a4 (by rw [e]; decide)
  have hgood : ldR (ow, ps, ws, rs) k room sp ye = ((ow, ps, (Cg.takR ws k room).2.1, newF k sp ye rs), (Cg.takR ws k room).1, 0) := by rw [ldR, if_neg (by simp [hv]), if_neg (by simp [a1, a2, a3, a4])]
  obtain ⟨_, _, _, _, _, hrs⟩ := valid_iff.1 hv
  have hroom : room ≤ 1000000 := by rw [withinR1] at a1; simp at a1; omega
  conv => whnf
  refine ⟨g1, ?_⟩
  conv => whnf
  refine ⟨g2, ?_⟩
  conv => whnf
  refine ⟨g3, ?_⟩
  conv => whnf
  refine ⟨g2, ?_⟩
  conv => whnf
  refine ⟨show room ≤ 9223372036854775807 by omega, ?_⟩
  conv => whnf
  refine ⟨g3, ?_⟩
  conv => whnf
  refine cond_intro (fun hi => ?_) (fun hi => ?_)
  · have hi : 0 ≤ (ratI rs k) := @of_decide_eq_true _ _ hi
    obtain ⟨i, e1, e2, e3⟩ := (rat_cases rs k).resolve_right fun ⟨e1, _⟩ => by omega
    have f1 : 0 ≤ (ratI rs k) := hi
    have f2 : (ratI rs k) < (rs.length : Int) := by omega
    conv => whnf
    refine ⟨f1, ?_⟩
    conv => whnf
    refine ⟨f2, ?_⟩
    conv => whnf
    refine ⟨f1, ?_⟩
    conv => whnf
    refine ⟨f2, ?_⟩
    conv => whnf
    show ((ow, ps, (Cg.takR ws k room).2.1, rs.set (ratI rs k).toNat (nowF k sp ye (gR rs (ratI rs k).toNat).2.1)), (Cg.takR ws k room).1, 0) = ldR (ow, ps, ws, rs) k room sp ye
    rw [hgood, e1, Int.toNat_natCast, new_found e2 hrs.2 e3]
  have hi : ¬ (0 ≤ (ratI rs k)) := @of_decide_eq_false _ _ hi
  have hnone : ∀ r ∈ rs, r.1 ≠ k := by
    rcases rat_cases rs k with ⟨i, e1, _, _⟩ | ⟨_, h⟩
    · exfalso; omega
    · exact h
  conv => whnf
  refine loop_rule (fun i : Int => S26 ow ps ws (Cg.takR ws k room).2.1 (Cg.takR ws k room).1 rs k (nowF k sp ye 175) i) (fun i => (rs.length - i).toNat) (fun i => 0 ≤ i ∧ i ≤ rs.length ∧ ∀ j, j < i.toNat → (gR rs j).1 < k) ?_ 0 (by kernel_rfl) ?_ ⟨by omega, by omega, fun j hj => by simp at hj⟩
  case refine_2 => rfl
  rintro i ⟨i0, i1, i2⟩
  conv => whnf
  refine cond_intro (fun hlt => ?_) (fun hlt => ?_)
  · have hlt : i < (rs.length : Int) := @of_decide_eq_true _ _ hlt
    have hw : IntKind.i64.wrap (i + 1) = i + 1 := wrap_eq (by omega) (by omega)
    conv => whnf
    refine ⟨i0, ?_⟩
    conv => whnf
    refine ⟨hlt, ?_⟩
    conv => whnf
    refine cond_intro (fun hk => ?_) (fun hk => ?_)
    · have hk : (gR rs i.toNat).1 < k := @of_decide_eq_true _ _ hk
      conv => whnf
      refine ⟨i + 1, ?_, ⟨by omega, by omega, fun j hj => ?_⟩, by omega⟩
      · exact Eq.trans (b := S26 ow ps ws (Cg.takR ws k room).2.1 (Cg.takR ws k room).1 rs k (nowF k sp ye 175) (IntKind.i64.wrap (i + 1))) rfl (by rw [hw])
      · by_cases e : j = i.toNat
        · subst e; exact hk
        · exact i2 j (by omega)
    have hk : ¬ ((gR rs i.toNat).1 < k) := @of_decide_eq_false _ _ hk
    have hlow : i.toNat = lowF k rs := lowF_eq (by omega) i2 (fun _ => hk)
    have ht : (rs.take i.toNat).length ≤ 100000 := by rw [List.length_take]; omega
    have hd : (rs.drop i.toNat).length ≤ 100000 := by rw [List.length_drop]; omega
    conv => whnf
    refine ⟨i0, ?_⟩
    conv => whnf
    refine ⟨show i ≤ (rs.length : Int) by omega, ?_⟩
    conv => whnf
    refine ⟨ht, ?_⟩
    conv => whnf
    refine ⟨show ((rs.take i.toNat).length + 1) * 40 ≤ 70368744177664 by omega, ?_⟩
    conv => whnf
    refine ⟨show (rs.take i.toNat).length + 1 ≤ 70368744177664 by omega, ?_⟩
    conv => whnf
    refine ⟨i0, ?_⟩
    conv => whnf
    refine ⟨show i ≤ (rs.length : Int) by omega, ?_⟩
    conv => whnf
    refine ⟨show ((rs.take i.toNat ++ [nowF k sp ye 175]).length + (rs.drop i.toNat).length) * 40 ≤ 70368744177664 by rw [List.length_append]; simp only [List.length_cons, List.length_nil]; omega, ?_⟩
    conv => whnf
    refine ⟨show (rs.take i.toNat ++ [nowF k sp ye 175]).length + (rs.drop i.toNat).length ≤ 70368744177664 by rw [List.length_append]; simp only [List.length_cons, List.length_nil]; omega, ?_⟩
    conv => whnf
    show ((ow, ps, (Cg.takR ws k room).2.1, rs.take i.toNat ++ [nowF k sp ye 175] ++ rs.drop i.toNat), (Cg.takR ws k room).1, 0) = ldR (ow, ps, ws, rs) k room sp ye
    rw [hgood, hlow, new_none hnone]
  have hlt : ¬ (i < (rs.length : Int)) := @of_decide_eq_false _ _ hlt
  have hlow : i.toNat = lowF k rs := lowF_eq (by omega) i2 (fun h => absurd h (by omega))
  have ht : (rs.take i.toNat).length ≤ 100000 := by rw [List.length_take]; omega
  have hd : (rs.drop i.toNat).length ≤ 100000 := by rw [List.length_drop]; omega
  conv => whnf
  refine ⟨i0, ?_⟩
  conv => whnf
  refine ⟨show i ≤ (rs.length : Int) by omega, ?_⟩
  conv => whnf
  refine ⟨ht, ?_⟩
  conv => whnf
  refine ⟨show ((rs.take i.toNat).length + 1) * 40 ≤ 70368744177664 by omega, ?_⟩
  conv => whnf
  refine ⟨show (rs.take i.toNat).length + 1 ≤ 70368744177664 by omega, ?_⟩
  conv => whnf
  refine ⟨i0, ?_⟩
  conv => whnf
  refine ⟨show i ≤ (rs.length : Int) by omega, ?_⟩
  conv => whnf
  refine ⟨show ((rs.take i.toNat ++ [nowF k sp ye 175]).length + (rs.drop i.toNat).length) * 40 ≤ 70368744177664 by rw [List.length_append]; simp only [List.length_cons, List.length_nil]; omega, ?_⟩
  conv => whnf
  refine ⟨show (rs.take i.toNat ++ [nowF k sp ye 175]).length + (rs.drop i.toNat).length ≤ 70368744177664 by rw [List.length_append]; simp only [List.length_cons, List.length_nil]; omega, ?_⟩
  conv => whnf
  show ((ow, ps, (Cg.takR ws k room).2.1, rs.take i.toNat ++ [nowF k sp ye 175] ++ rs.drop i.toNat), (Cg.takR ws k room).1, 0) = ldR (ow, ps, ws, rs) k room sp ye
  rw [hgood, hlow, new_none hnone]
end
end Go.Proofs.Yteidanhfkaljaaa.Eng
set_option linter.unusedVariables false
set_option linter.unusedSimpArgs false
namespace Go.Proofs.Yteidanhfkaljaaa.Eng
open Go
set_option maxRecDepth 100000
noncomputable section
open Go.RowKit
def stp (k sp ye : Int) (s : Int × Bool × List Ra) (r : Ra) : Int × Bool × List Ra :=
  (if r.1 = k then r.2.1 else s.1, if s.2.1 = false ∧ k ≤ r.1 then true else s.2.1,
    (if s.2.1 = false ∧ k ≤ r.1 then s.2.2 ++ [nowF k sp ye (if r.1 = k then r.2.1 else s.1)] else s.2.2) ++ (if r.1 = k then [] else [r]))
def ldF (k sp ye : Int) (rs : List Ra) (i : Nat) : Int × Bool × List Ra := (rs.take i).foldl (stp k sp ye) (175, false, [])
theorem ldF_succ {k sp ye : Int} {rs : List Ra} {i : Nat} (hi : i < rs.length) : ldF k sp ye rs (i + 1) = stp k sp ye (ldF k sp ye rs i) (gR rs i) := by
  unfold ldF
  rw [List.take_succ_eq_append_getElem hi, List.foldl_append, gR_at hi]; rfl
theorem stp_len (k sp ye : Int) (s : Int × Bool × List Ra) (r : Ra) : (stp k sp ye s r).2.2.length ≤ s.2.2.length + 2 := by
  unfold stp
  simp only [List.length_append]
  split <;> split <;> simp
theorem ldF_len (k sp ye : Int) (rs : List Ra) : ∀ i : Nat, i ≤ rs.length → (ldF k sp ye rs i).2.2.length ≤ 2 * i
  | 0, _ => by simp [ldF]
  | i + 1, h => by
    rw [ldF_succ (by omega)]
    have h1 := stp_len k sp ye (ldF k sp ye rs i) (gR rs i)
    have h2 := ldF_len k sp ye rs i (by omega)
    omega
theorem stp_put {k sp ye : Int} : ∀ {l : List Ra} {sc : Int} {out : List Ra}, (∀ r ∈ l, r.1 ≠ k) → l.foldl (stp k sp ye) (sc, true, out) = (sc, true, out ++ l)
  | [], sc, out, _ => by simp
  | r :: l, sc, out, h => by
    have h0 := h r List.mem_cons_self
    rw [List.foldl_cons]
    have e : stp k sp ye (sc, true, out) r = (sc, true, out ++ [r]) := by simp [stp, h0]
    rw [e, stp_put fun q hq => h q (List.mem_cons_of_mem _ hq), List.append_assoc]; rfl
def finF (k sp ye : Int) (s : Int × Bool × List Ra) : List Ra := if s.2.1 = false then s.2.2 ++ [nowF k sp ye s.1] else s.2.2
theorem stp_new {k sp ye : Int} : ∀ {l : List Ra} {out : List Ra}, l.Pairwise (fun a b => a.1 < b.1) → finF k sp ye (l.foldl (stp k sp ye) (175, false, out)) = out ++ newF k sp ye l
  | [], out, _ => rfl
  | r :: l, out, hp => by
    have hr := (List.pairwise_cons.1 hp).1
    rw [List.foldl_cons]
    rcases Int.lt_trichotomy r.1 k with h | h | h
    · have e : stp k sp ye (175, false, out) r = (175, false, out ++ [r]) := by simp [stp, show ¬ r.1 = k by omega, show ¬ k ≤ r.1 by omega]
      rw [e, stp_new (List.pairwise_cons.1 hp).2, newF, if_pos h, List.append_assoc]; rfl
    · have e : stp k sp ye (175, false, out) r = (r.2.1, true, out ++ [nowF k sp ye r.2.1]) := by       simp [stp, h]
      rw [e, stp_put fun q hq => by have := hr q hq; omega, newF, if_neg (by omega), if_pos h]
      show (if true = false then _ else _) = _
      rw [if_neg (by decide)]
      show out ++ [nowF k sp ye r.2.1] ++ l = _
      rw [List.append_assoc]; rfl
    · have e : stp k sp ye (175, false, out) r = (175, true, out ++ [nowF k sp ye 175] ++ [r]) := by
        simp [stp, show ¬ r.1 = k by omega, show k ≤ r.1 by omega]
      rw [e, stp_put fun q hq => by have := hr q hq; omega, newF, if_neg (by omega), if_neg (by omega)]
      show (if true = false then _ else _) = _
      rw [if_neg (by decide)]
      show out ++ [nowF k sp ye 175] ++ [r] ++ l = _
      simp only [List.append_assoc]; rfl
def S27 (ow : Int) (ps : List Pl) (lf tk : List Pa) (rs : List Ra) (k : Int) (now : Ra) (put : Bool) (out : List Ra) (i : Int) : SL :=
  ⟨[.undef, .int .i64 k] ++ List.replicate 8 .undef ++ [.ptr 0 0 0, .undef, .undef, .undef, .own 1, .undef, .undef, .ptr 2 0 0, .ptr 3 0 0, .bool put] ++ List.replicate 46 .undef ++ [.sl raT rs, .int .i64 rs.length, .int .i64 i] ++ List.replicate 45 .undef,
   [(0, .box [.int .i64 0, .nilsl, .nilsl, .nilsl]), (1, .arr paT tk), (2, .box [.int .i64 ow, .own 4, .own 5, .own 6]), (3, .box [.int .i64 now.1, .int .i64 now.2.1, .int .i64 now.2.2.1, .int .i64 now.2.2.2.1, .int .i64 now.2.2.2.2]), (4, .arr plT ps), (5, .arr paT lf), (6, .arr raT out)], 7⟩
def E27 : Env := ⟨tab, [(52, K52), (36, K36), (53, Cg.K53), (46, K46)], fun n => match n with | 13 => some ([1, 10, 14, 17, 18, 19, 66, 67, 68], [], [(17, 3, raT)]) | _ => none⟩
def K27 : Fn1 := ⟨.fld stT (.fld I (.fld I (.fld I (.one I)))), .fld stT (.fld (.sl paT) (.one I)), fun (a : St × Int × Int × Int × Int) => small a.1, fun (a : St × Int × Int × Int × Int) => ldR a.1 a.2.1 a.2.2.1 a.2.2.2.1 a.2.2.2.2⟩
set_option maxHeartbeats 2000000 in
theorem k27 : FnOk Go.Proofs.Try.prog 27 K27 := by
  refine fn_ok (E := E27) (TOk.of tab_told) (AllOk.cons k52 (.cons k36 (.cons Cg.k53 (.cons k46 .nil)))).at_ mix Go.Proofs.Try.func27 rfl rfl (by kernel_rfl) K27 ?_
  rintro ⟨⟨(ow : Int), (ps : List Pl), (ws : List Pa), (rs : List Ra)⟩, (k : Int), (room : Int), (sp : Int), (ye : Int)⟩ hp
  have g1 : ps.length ≤ 100000 := hp _ (List.mem_cons_self ..)
  have g2 : ws.length ≤ 100000 := hp _ (List.mem_cons_of_mem _ (List.mem_cons_self ..))
  have g3 : rs.length ≤ 100000 := hp _ (List.mem_cons_of_mem _ (List.mem_cons_of_mem _ (List.mem_cons_self ..)))
  clear hp
  conv => whnf
  refine ⟨g1, ?_⟩
  conv => whnf
  refine ⟨g2, ?_⟩
  conv => whnf
  refine ⟨g3, ?_⟩
  conv => whnf
  refine cond_intro (fun hv => ?_) (fun hv => ?_)
  · have hv : (!decide (validR (ow, ps, ws, rs) = 0)) = true := hv
    have hv : ¬ (validR (ow, ps, ws, rs) = 0) := fun e => absurd hv (by rw [decide_eq_true e]; decide)
    conv => whnf
    show (((0, [], [], []), [], validR (ow, ps, ws, rs)) : St × List Pa × Int) = ldR (ow, ps, ws, rs) k room sp ye
    rw [ldR, if_pos hv]
  have hv : (!decide (validR (ow, ps, ws, rs) = 0)) = false := hv
  have hv : validR (ow, ps, ws, rs) = 0 := Decidable.byContradiction fun e => absurd hv (by rw [decide_eq_false e]; decide)
  conv => whnf
  refine cond_intro (fun a1 => ?_) (fun a1 => ?_)
  · have a1 : (!((decide (0 ≤ room) && decide (room ≤ 1000000)))) = true := a1
    have a1 : ((decide (0 ≤ room) && decide (room ≤ 1000000))) = false := by cases e : ((decide (0 ≤ room) && decide (room ≤ 1000000))) with | false => rfl | true => exact absurd a1 (by rw [e]; decide)
    conv => whnf
    show (((0, [], [], []), [], 1) : St × List Pa × Int) = ldR (ow, ps, ws, rs) k room sp ye
    exact (load_bad hv (Or.inl (by rw [withinR1]; exact a1))).symm
  have a1 : (!((decide (0 ≤ room) && decide (room ≤ 1000000)))) = false := a1
  have a1 : ((decide (0 ≤ room) && decide (room ≤ 1000000))) = true := by cases e : ((decide (0 ≤ room) && decide (room ≤ 1000000))) with | true => rfl | false => exact absurd a1 (by rw [e]; decide)
  conv => whnf
  refine cond_intro (fun a2 => ?_) (fun a2 => ?_)
  · have a2 : sp < 0 := @of_decide_eq_true _ _ a2
    conv => whnf
    show (((0, [], [], []), [], 1) : St × List Pa × Int) = ldR (ow, ps, ws, rs) k room sp ye
    exact (load_bad hv (Or.inr (Or.inl a2))).symm
  have a2 : ¬ (sp < 0) := @of_decide_eq_false _ _ a2
  conv => whnf
  refine cond_intro (fun a3 => ?_) (fun a3 => ?_)
  · have a3 : ye < 0 := @of_decide_eq_true _ _ a3
    conv => whnf
    show (((0, [], [], []), [], 1) : St × List Pa × Int) = ldR (ow, ps, ws, rs) k room sp ye
    exact (load_bad hv (Or.inr (Or.inr (Or.inl a3)))).symm
  have a3 : ¬ (ye < 0) := @of_decide_eq_false _ _ a3
  conv => whnf
  refine cond_intro (fun a4 => ?_) (fun a4 => ?_)
  · have a4 : (!((decide (0 ≤ k) && decide (k ≤ 15)))) = true := a4
    have a4 : ((decide (0 ≤ k) && decide (k ≤ 15))) = false := by cases e : ((decide (0 ≤ k) && decide (k ≤ 15))) with | false => rfl | true => exact absurd a4 (by rw [e]; decide)
    conv => whnf
    show (((0, [], [], []), [], 1) : St × List Pa × Int) = ldR (ow, ps, ws, rs) k room sp ye
    exact (load_bad hv (Or.inr (Or.inr (Or.inr (by rw [withinR1]; exact a4))))).symm
  have a4 : (!((decide (0 ≤ k) && decide (k ≤ 15)))) = false := a4
  have a4 : ((decide (0 ≤ k) && decide (k ≤ 15))) = true := by cases e : ((decide (0 ≤ k) && decide (k ≤ 15))) with | true => rfl | false => exact absurd a4 (by rw [e]; decide)
  have a1' : withinR (1000000, [room]) = true := by rw [withinR1]; exact a1
  have a4' : withinR (15, [k]) = true := by rw [withinR1]; exact a4
  have hgood : ldR (ow, ps, ws, rs) k room sp ye = ((ow, ps, (Cg.takR ws k room).2.1, newF k sp ye rs), (Cg.takR ws k room).1, 0) := by rw [ldR, if_neg (by simp [hv]), if_neg (by simp [a1', a2, a3, a4'])]
  obtain ⟨_, _, _, _, _, hrs⟩ := valid_iff.1 hv
  have hroom : room ≤ 1000000 := by simp at a1; omega
  have hfin := stp_new (k := k) (sp := sp) (ye := ye) (out := []) hrs.2
  rw [List.nil_append] at hfin
  conv => whnf
  refine ⟨g2, ?_⟩
  conv => whnf
  refine ⟨show room ≤ 9223372036854775807 by omega, ?_⟩
  conv => whnf
  refine ⟨g1, ?_⟩
  conv => whnf
  refine ⟨g2, ?_⟩
  conv => whnf
  refine ⟨g3, ?_⟩
  conv => whnf
  refine loop_rule (fun i : Int => S27 ow ps (Cg.takR ws k room).2.1 (Cg.takR ws k room).1 rs k (nowF k sp ye (ldF k sp ye rs i.toNat).1) (ldF k sp ye rs i.toNat).2.1 (ldF k sp ye rs i.toNat).2.2 i) (fun i => (rs.length - i).toNat) (fun i => 0 ≤ i ∧ i ≤ rs.length) ?_ 0 (by kernel_rfl) ?_ ⟨by omega, by omega⟩
  case refine_2 => rfl
  rintro i ⟨i0, i1⟩
  conv => whnf
  refine cond_intro (fun hlt => ?_) (fun hlt => ?_)
  · have hlt : i < (rs.length : Int) := @of_decide_eq_true _ _ hlt
    have hw : IntKind.i64.wrap (i + 1) = i + 1 := wrap_eq (by omega) (by omega)
    have ei : (i + 1).toNat = i.toNat + 1 := by omega
    have hol := ldF_len k sp ye rs i.toNat (by omega)
    conv => whnf
    refine ⟨i0, ?_⟩
    conv => whnf
    refine ⟨hlt, ?_⟩
    conv => whnf
    refine cond_intro (fun hk => ?_) (fun hk => ?_)
    · have hk : (gR rs i.toNat).1 = k := @of_decide_eq_true _ _ hk
      conv => whnf
      refine cond_intro (fun hpu => ?_) (fun hpu => ?_)
      · have hpu : (!((ldF k sp ye rs i.toNat).2.1)) = true := hpu
        have hpu : ((ldF k sp ye rs i.toNat).2.1) = false := by cases e : ((ldF k sp ye rs i.toNat).2.1) with | false => rfl | true => exact absurd hpu (by rw [e]; decide)
        conv => whnf
        refine cond_intro (fun hge => ?_) (fun hge => ?_)
        · have hge : k ≤ (gR rs i.toNat).1 := @of_decide_eq_true _ _ hge
          conv => whnf
          refine ⟨show ((ldF k sp ye rs i.toNat).2.2.length + 1) * 40 ≤ 70368744177664 by first | omega | (simp only [List.length_append, List.length_cons, List.length_nil]; omega), ?_⟩
          conv => whnf
          refine ⟨show (ldF k sp ye rs i.toNat).2.2.length + 1 ≤ 70368744177664 by first | omega | (simp only [List.length_append, List.length_cons, List.length_nil]; omega), ?_⟩
          conv => whnf
          refine cond_intro (fun hk2 => ?_) (fun hk2 => ?_)
          · have hk2 : (!decide ((gR rs i.toNat).1 = k)) = true := hk2
            have hk2 : ¬ ((gR rs i.toNat).1 = k) := fun e => absurd hk2 (by rw [decide_eq_true e]; decide)
            exact absurd hk hk2
          have hk2 : (!decide ((gR rs i.toNat).1 = k)) = false := hk2
          have hk2 : (gR rs i.toNat).1 = k := Decidable.byContradiction fun e => absurd hk2 (by rw [decide_eq_false e]; decide)
          conv => whnf
          refine ⟨i + 1, ?_, ⟨by omega, by omega⟩, by omega⟩
          exact Eq.trans (b := S27 ow ps (Cg.takR ws k room).2.1 (Cg.takR ws k room).1 rs k (nowF k sp ye (gR rs i.toNat).2.1) true ((ldF k sp ye rs i.toNat).2.2 ++ [(nowF k sp ye (gR rs i.toNat).2.1)]) (IntKind.i64.wrap (i + 1))) rfl (by rw [hw, ei, ldF_succ (show i.toNat < rs.length by omega), stp]; simp only [hk, if_true, hpu, hge, and_self, if_true]; try simp)
        have hge : ¬ (k ≤ (gR rs i.toNat).1) := @of_decide_eq_false _ _ hge
        exfalso
        omega
      have hpu : (!((ldF k sp ye rs i.toNat).2.1)) = false := hpu
      have hpu : ((ldF k sp ye rs i.toNat).2.1) = true := by cases e : ((ldF k sp ye rs i.toNat).2.1) with | true => rfl | false => exact absurd hpu (by rw [e]; decide)
      conv => whnf
      refine cond_intro (fun hk2 => ?_) (fun hk2 => ?_)
      · have hk2 : (!decide ((gR rs i.toNat).1 = k)) = true := hk2
        have hk2 : ¬ ((gR rs i.toNat).1 = k) := fun e => absurd hk2 (by rw [decide_eq_true e]; decide)
        exact absurd hk hk2
      have hk2 : (!decide ((gR rs i.toNat).1 = k)) = false := hk2
      have hk2 : (gR rs i.toNat).1 = k := Decidable.byContradiction fun e => absurd hk2 (by rw [decide_eq_false e]; decide)
      conv => whnf
      refine ⟨i + 1, ?_, ⟨by omega, by omega⟩, by omega⟩
      exact Eq.trans (b := S27 ow ps (Cg.takR ws k room).2.1 (Cg.takR ws k room).1 rs k (nowF k sp ye (gR rs i.toNat).2.1) (ldF k sp ye rs i.toNat).2.1 (ldF k sp ye rs i.toNat).2.2 (IntKind.i64.wrap (i + 1))) rfl (by rw [hw, ei, ldF_succ (show i.toNat < rs.length by omega), stp]; simp only [hk, if_true, hpu, Bool.true_eq_false, false_and, if_false]; try simp)
    have hk : ¬ ((gR rs i.toNat).1 = k) := @of_decide_eq_false _ _ hk
    conv => whnf
    refine cond_intro (fun hpu => ?_) (fun hpu => ?_)
    · have hpu : (!((ldF k sp ye rs i.toNat).2.1)) = true := hpu
      have hpu : ((ldF k sp ye rs i.toNat).2.1) = false := by cases e : ((ldF k sp ye rs i.toNat).2.1) with | false => rfl | true => exact absurd hpu (by rw [e]; decide)
      conv => whnf
      refine cond_intro (fun hge => ?_) (fun hge => ?_)
      · have hge : k ≤ (gR rs i.toNat).1 := @of_decide_eq_true _ _ hge
        conv => whnf
        refine ⟨show ((ldF k sp ye rs i.toNat).2.2.length + 1) * 40 ≤ 70368744177664 by first | omega | (simp only [List.length_append, List.length_cons, List.length_nil]; omega), ?_⟩
        conv => whnf
        refine ⟨show (ldF k sp ye rs i.toNat).2.2.length + 1 ≤ 70368744177664 by first | omega | (simp only [List.length_append, List.length_cons, List.length_nil]; omega), ?_⟩
        conv => whnf
        refine cond_intro (fun hk2 => ?_) (fun hk2 => ?_)
        · have hk2 : (!decide ((gR rs i.toNat).1 = k)) = true := hk2
          have hk2 : ¬ ((gR rs i.toNat).1 = k) := fun e => absurd hk2 (by rw [decide_eq_true e]; decide)
          conv => whnf
          refine ⟨show (((ldF k sp ye rs i.toNat).2.2 ++ [(nowF k sp ye (ldF k sp ye rs i.toNat).1)]).length + 1) * 40 ≤ 70368744177664 by first | omega | (simp only [List.length_append, List.length_cons, List.length_nil]; omega), ?_⟩
          conv => whnf
          refine ⟨show ((ldF k sp ye rs i.toNat).2.2 ++ [(nowF k sp ye (ldF k sp ye rs i.toNat).1)]).length + 1 ≤ 70368744177664 by first | omega | (simp only [List.length_append, List.length_cons, List.length_nil]; omega), ?_⟩
          conv => whnf
          refine ⟨i + 1, ?_, ⟨by omega, by omega⟩, by omega⟩
          exact Eq.trans (b := S27 ow ps (Cg.takR ws k room).2.1 (Cg.takR ws k room).1 rs k (nowF k sp ye (ldF k sp ye rs i.toNat).1) true (((ldF k sp ye rs i.toNat).2.2 ++ [(nowF k sp ye (ldF k sp ye rs i.toNat).1)]) ++ [(gR rs i.toNat)]) (IntKind.i64.wrap (i + 1))) rfl (by rw [hw, ei, ldF_succ (show i.toNat < rs.length by omega), stp]; simp only [hk, if_false, hpu, hge, and_self, if_true]; try simp)
        have hk2 : (!decide ((gR rs i.toNat).1 = k)) = false := hk2
        have hk2 : (gR rs i.toNat).1 = k := Decidable.byContradiction fun e => absurd hk2 (by rw [decide_eq_false e]; decide)
        exact absurd hk2 hk
      have hge : ¬ (k ≤ (gR rs i.toNat).1) := @of_decide_eq_false _ _ hge
      conv => whnf
      refine cond_intro (fun hk2 => ?_) (fun hk2 => ?_)
      · have hk2 : (!decide ((gR rs i.toNat).1 = k)) = true := hk2
        have hk2 : ¬ ((gR rs i.toNat).1 = k) := fun e => absurd hk2 (by rw [decide_eq_true e]; decide)
        conv => whnf
        refine ⟨show ((ldF k sp ye rs i.toNat).2.2.length + 1) * 40 ≤ 70368744177664 by first | omega | (simp only [List.length_append, List.length_cons, List.length_nil]; omega), ?_⟩
        conv => whnf
        refine ⟨show (ldF k sp ye rs i.toNat).2.2.length + 1 ≤ 70368744177664 by first | omega | (simp only [List.length_append, List.length_cons, List.length_nil]; omega), ?_⟩
        conv => whnf
        refine ⟨i + 1, ?_, ⟨by omega, by omega⟩, by omega⟩
        exact Eq.trans (b := S27 ow ps (Cg.takR ws k room).2.1 (Cg.takR ws k room).1 rs k (nowF k sp ye (ldF k sp ye rs i.toNat).1) (ldF k sp ye rs i.toNat).2.1 ((ldF k sp ye rs i.toNat).2.2 ++ [(gR rs i.toNat)]) (IntKind.i64.wrap (i + 1))) rfl (by rw [hw, ei, ldF_succ (show i.toNat < rs.length by omega), stp]; simp only [hk, if_false, hpu, hge, and_false, if_false]; try simp)
      have hk2 : (!decide ((gR rs i.toNat).1 = k)) = false := hk2
      have hk2 : (gR rs i.toNat).1 = k := Decidable.byContradiction fun e => absurd hk2 (by rw [decide_eq_false e]; decide)
      exact absurd hk2 hk
    have hpu : (!((ldF k sp ye rs i.toNat).2.1)) = false := hpu
    have hpu : ((ldF k sp ye rs i.toNat).2.1) = true := by cases e : ((ldF k sp ye rs i.toNat).2.1) with | true => rfl | false => exact absurd hpu (by rw [e]; decide)
    conv => whnf
    refine cond_intro (fun hk2 => ?_) (fun hk2 => ?_)
    · have hk2 : (!decide ((gR rs i.toNat).1 = k)) = true := hk2
      have hk2 : ¬ ((gR rs i.toNat).1 = k) := fun e => absurd hk2 (by rw [decide_eq_true e]; decide)
      conv => whnf
      refine ⟨show ((ldF k sp ye rs i.toNat).2.2.length + 1) * 40 ≤ 70368744177664 by first | omega | (simp only [List.length_append, List.length_cons, List.length_nil]; omega), ?_⟩
      conv => whnf
      refine ⟨show (ldF k sp ye rs i.toNat).2.2.length + 1 ≤ 70368744177664 by first | omega | (simp only [List.length_append, List.length_cons, List.length_nil]; omega), ?_⟩
      conv => whnf
      refine ⟨i + 1, ?_, ⟨by omega, by omega⟩, by omega⟩
      exact Eq.trans (b := S27 ow ps (Cg.takR ws k room).2.1 (Cg.takR ws k room).1 rs k (nowF k sp ye (ldF k sp ye rs i.toNat).1) (ldF k sp ye rs i.toNat).2.1 ((ldF k sp ye rs i.toNat).2.2 ++ [(gR rs i.toNat)]) (IntKind.i64.wrap (i + 1))) rfl (by rw [hw, ei, ldF_succ (show i.toNat < rs.length by omega), stp]; simp only [hk, if_false, hpu, Bool.true_eq_false, false_and, if_false]; try simp)
    have hk2 : (!decide ((gR rs i.toNat).1 = k)) = false := hk2
    have hk2 : (gR rs i.toNat).1 = k := Decidable.byContradiction fun e => absurd hk2 (by rw [decide_eq_false e]; decide)
    exact absurd hk2 hk
  have hlt : ¬ (i < (rs.length : Int)) := @of_decide_eq_false _ _ hlt
  have ei : i.toNat = rs.length := by omega
  have hol := ldF_len k sp ye rs i.toNat (by omega)
  have hX : (ldF k sp ye rs i.toNat) = rs.foldl (stp k sp ye) (175, false, []) := by unfold ldF; rw [ei, List.take_length]
  rw [← hX] at hfin
  conv => whnf
  refine cond_intro (fun hpu => ?_) (fun hpu => ?_)
  · have hpu : (!((ldF k sp ye rs i.toNat).2.1)) = true := hpu
    have hpu : ((ldF k sp ye rs i.toNat).2.1) = false := by cases e : ((ldF k sp ye rs i.toNat).2.1) with | false => rfl | true => exact absurd hpu (by rw [e]; decide)
    conv => whnf
    refine ⟨show ((ldF k sp ye rs i.toNat).2.2.length + 1) * 40 ≤ 70368744177664 by first | omega | (simp only [List.length_append, List.length_cons, List.length_nil]; omega), ?_⟩
    conv => whnf
    refine ⟨show (ldF k sp ye rs i.toNat).2.2.length + 1 ≤ 70368744177664 by first | omega | (simp only [List.length_append, List.length_cons, List.length_nil]; omega), ?_⟩
    conv => whnf
    show ((ow, ps, (Cg.takR ws k room).2.1, (ldF k sp ye rs i.toNat).2.2 ++ [nowF k sp ye (ldF k sp ye rs i.toNat).1]), (Cg.takR ws k room).1, 0) = ldR (ow, ps, ws, rs) k room sp ye
    rw [hgood, ← hfin, finF, if_pos hpu]
  have hpu : (!((ldF k sp ye rs i.toNat).2.1)) = false := hpu
  have hpu : ((ldF k sp ye rs i.toNat).2.1) = true := by cases e : ((ldF k sp ye rs i.toNat).2.1) with | true => rfl | false => exact absurd hpu (by rw [e]; decide)
  conv => whnf
  show ((ow, ps, (Cg.takR ws k room).2.1, (ldF k sp ye rs i.toNat).2.2), (Cg.takR ws k room).1, 0) = ldR (ow, ps, ws, rs) k room sp ye
  rw [hgood, ← hfin, finF, if_neg (by simp [hpu])]
end
end Go.Proofs.Yteidanhfkaljaaa.Eng
set_option linter.unusedVariables false
set_option linter.unusedSimpArgs false
namespace Go.Proofs.Yteidanhfkaljaaa.Eng
open Go
set_option maxRecDepth 100000
noncomputable section
open Go.RowKit
theorem newF_len (k sp ye : Int) : ∀ l : List Ra, (newF k sp ye l).length ≤ l.length + 1
  | [] => Nat.le_refl _
  | r :: l => by
    have := newF_len k sp ye l
    unfold newF
    split
    · simp only [List.length_cons]; omega
    · split <;> simp
theorem newF_mem {k sp ye : Int} : ∀ {l : List Ra} {r : Ra}, r ∈ newF k sp ye l → r ∈ l ∨ ∃ sc, r = nowF k sp ye sc ∧ (sc = 175 ∨ ∃ q ∈ l, sc = q.2.1)
  | [], r, h => by cases List.mem_singleton.1 h; exact Or.inr ⟨_, rfl, Or.inl rfl⟩
  | q :: l, r, h => by
    unfold newF at h
    split at h
    · rcases List.mem_cons.1 h with rfl | h
      · exact Or.inl List.mem_cons_self
      · rcases newF_mem h with h | ⟨sc, h1, h2⟩
        · exact Or.inl (List.mem_cons_of_mem _ h)
        · refine Or.inr ⟨sc, h1, h2.imp_right ?_⟩
          rintro ⟨q, g1, g2⟩
          exact ⟨q, List.mem_cons_of_mem _ g1, g2⟩
    · split at h
      · rcases List.mem_cons.1 h with rfl | h
        · exact Or.inr ⟨_, rfl, Or.inr ⟨q, List.mem_cons_self, rfl⟩⟩
        · exact Or.inl (List.mem_cons_of_mem _ h)
      · rcases List.mem_cons.1 h with rfl | h
        · exact Or.inr ⟨_, rfl, Or.inl rfl⟩
        · exact Or.inl h
theorem newF_pw {k sp ye : Int} : ∀ {l : List Ra}, l.Pairwise (fun a b => a.1 < b.1) → (newF k sp ye l).Pairwise (fun a b => a.1 < b.1)
  | [], _ => List.pairwise_singleton _ _
  | q :: l, h => by
    have h1 := (List.pairwise_cons.1 h).1
    have h2 := (List.pairwise_cons.1 h).2
    unfold newF
    split
    · rename_i hq
      refine List.pairwise_cons.2 ⟨fun r hr => ?_, newF_pw h2⟩
      rcases newF_mem hr with g | ⟨sc, rfl, _⟩
      · exact h1 r g
      · exact hq
    · split
      · rename_i hq
        refine List.pairwise_cons.2 ⟨fun r hr => ?_, h2⟩
        show k < r.1
        have := h1 r hr
        omega
      · rename_i hq hq2
        refine List.pairwise_cons.2 ⟨fun r hr => ?_, h⟩
        show k < r.1
        rcases List.mem_cons.1 hr with rfl | hr
        · omega
        · have := h1 r hr; omega
theorem rated_iffR (r : Ra) : ratedR r = true ↔ (0 ≤ r.1 ∧ r.1 ≤ 15) ∧ (0 ≤ r.2.1 ∧ r.2.1 ≤ 255) ∧ (0 ≤ r.2.2.1 ∧ r.2.2.1 ≤ 255) ∧ (0 ≤ r.2.2.2.1 ∧ r.2.2.2.1 ≤ 255) ∧ (0 ≤ r.2.2.2.2 ∧ r.2.2.2.2 ≤ 255) := by
  obtain ⟨a, b, c, d, e⟩ := r
  rw [ratedR_eq]
  simp only [Bool.and_eq_true, decide_eq_true_eq]
  omega
theorem newF_ok {k sp ye : Int} {l : List Ra} (h : okRs l) (hk : 0 ≤ k ∧ k ≤ 15) (hs : 0 ≤ sp) (hy : 0 ≤ ye) : okRs (newF k sp ye l) := by
  refine ⟨fun r hr => ?_, newF_pw h.2⟩
  rcases newF_mem hr with g | ⟨sc, rfl, g⟩
  · exact h.1 r g
  · have hsc : 0 ≤ sc ∧ sc ≤ 255 := by
      rcases g with rfl | ⟨q, g1, rfl⟩
      · omega
      · exact ((rated_iffR q).1 (h.1 q g1)).2.1
    have e1 : 0 ≤ min2 sp 255 ∧ min2 sp 255 ≤ 255 := by unfold min2; split <;> omega
    have e2 : 0 ≤ min2 ye 255 ∧ min2 ye 255 ≤ 255 := by unfold min2; split <;> omega
    exact (rated_iffR _).2 ⟨hk, hsc, ⟨Int.le_refl _, by show (0 : Int) ≤ 255; omega⟩, e1, e2⟩
theorem units_fold : ∀ {l : List Pa} {a : Int}, (∀ p ∈ l, Cg.okP p) → l.length ≤ 1000 → 0 ≤ a → a + l.length * 1000000 ≤ 2000000000 → l.foldl (fun (n : Int) p => IntKind.i64.wrap (n + p.2.2.2.2.1)) a = a + Cg.cntP l
  | [], a, _, _, _, _ => by show a = a + 0; omega
  | p :: l, a, h, hl, h0, h1 => by
    have hp := h p List.mem_cons_self
    rw [Cg.okP_iff] at hp
    rw [List.length_cons] at h1 hl
    have e : IntKind.i64.wrap (a + p.2.2.2.2.1) = a + p.2.2.2.2.1 := wrap_eq (by omega) (by omega)
    rw [List.foldl_cons, e, units_fold (fun q hq => h q (List.mem_cons_of_mem _ hq)) (by omega) (by omega) (by omega), Cg.cntP_cons]
    omega
theorem units_cnt {l : List Pa} (h : cargoR l = 0) : unitsR l = Cg.cntP l := by
  obtain ⟨h1, _, h3⟩ := (Cg.cargo_zero l).1 h
  unfold unitsR
  rw [units_fold h3 (by omega) (Int.le_refl _) (by omega)]
  omega
theorem ldR_ok {s : St} {k room sp ye : Int} (h : (ldR s k room sp ye).2.2 = 0) : validR s = 0 ∧ validR (ldR s k room sp ye).1 = 0 ∧ cargoR (ldR s k room sp ye).2.1 = 0 ∧
    unitsR (ldR s k room sp ye).1.2.2.1 + unitsR (ldR s k room sp ye).2.1 = unitsR s.2.2.1 ∧ unitsR (ldR s k room sp ye).2.1 ≤ room ∧ cargoR (ldR s k room sp ye).1.2.2.1 = 0 := by
  by_cases h1 : validR s = 0
  · by_cases h2 : withinR (1000000, [room]) = false ∨ sp < 0 ∨ ye < 0 ∨ withinR (15, [k]) = false
    · rw [load_bad h1 h2] at h; cases h
    · have e : ldR s k room sp ye = ((s.1, s.2.1, (Cg.takR s.2.2.1 k room).2.1, newF k sp ye s.2.2.2), (Cg.takR s.2.2.1 k room).1, 0) := by rw [ldR, if_neg (by simp [h1]), if_neg h2]
      obtain ⟨v1, v2, v3, v4, v5, v6⟩ := valid_iff.1 h1
      rw [withinR1, withinR1] at h2
      simp only [not_or, Bool.not_eq_false, Bool.and_eq_true, decide_eq_true_eq] at h2
      obtain ⟨⟨r0, r1⟩, s0, y0, k0⟩ := h2
      obtain ⟨_, T⟩ := Cg.takR_good (k := k) (n := room) v4 r0
      rw [e]
      have u1 := units_cnt T.tv
      have u2 := units_cnt T.fv
      have u3 := units_cnt v4
      have t1 := T.tc
      have t2 := T.fc
      refine ⟨h1, valid_iff.2 ⟨v1, v2, v3, T.fv, v5, newF_ok v6 k0 (by omega) (by omega)⟩, T.tv, ?_, ?_, T.fv⟩
      · show unitsR (Cg.takR s.2.2.1 k room).2.1 + unitsR (Cg.takR s.2.2.1 k room).1 = unitsR s.2.2.1
        rw [u1, u2, u3]; omega
      · show unitsR (Cg.takR s.2.2.1 k room).1 ≤ room
        rw [u1, t1]; unfold min2; split <;> omega
  · rw [ldR, if_pos h1] at h; exact absurd h h1
theorem ldR_small {s : St} {k room sp ye : Int} {m : Nat} (h1 : s.2.1.length ≤ m) (h2 : s.2.2.1.length ≤ m) (h3 : s.2.2.2.length < m) : (ldR s k room sp ye).1.2.1.length ≤ m ∧ (ldR s k room sp ye).1.2.2.1.length ≤ m ∧ (ldR s k room sp ye).1.2.2.2.length ≤ m ∧ (ldR s k room sp ye).2.1.length ≤ m := by
  unfold ldR
  split
  · exact ⟨Nat.zero_le _, Nat.zero_le _, Nat.zero_le _, Nat.zero_le _⟩
  split
  · exact ⟨Nat.zero_le _, Nat.zero_le _, Nat.zero_le _, Nat.zero_le _⟩
  · obtain ⟨t1, t2⟩ := Cg.takR_len s.2.2.1 k room
    have := newF_len k sp ye s.2.2.2
    exact ⟨h1, by show (Cg.takR s.2.2.1 k room).2.1.length ≤ m; omega, by show (newF k sp ye s.2.2.2).length ≤ m; omega, by show (Cg.takR s.2.2.1 k room).1.length ≤ m; omega⟩
theorem units_pos {l : List Pa} (h : cargoR l = 0) : 0 ≤ unitsR l ∧ unitsR l ≤ 200000000 := by
  obtain ⟨h1, _, h3⟩ := (Cg.cargo_zero l).1 h
  rw [units_cnt h]
  have := Cg.cntP_bnd h3
  omega
def E9 : Env := ⟨tab, [(16, K16), (12, K12), (26, K26), (27, K27), (28, K28), (22, K22), (23, K23), (25, K25)], fun n => match n with  | _ => none⟩
def K9 : Fn1 := ⟨.fld stT (.fld I (.fld I (.fld I (.one I)))), .one .bool, fun _ => [], fun _ => true⟩
theorem k9 : FnOk Go.Proofs.Try.prog 9 K9 := by
  refine fn_ok (E := E9) (TOk.of tab_told) (AllOk.cons k16 (.cons k12 (.cons k26 (.cons k27 (.cons k28 (.cons k22 (.cons k23 (.cons k25 .nil)))))))).at_ mix Go.Proofs.Try.func9 rfl rfl (by kernel_rfl) K9 ?_
  rintro ⟨⟨(ow : Int), (ps : List Pl), (ws : List Pa), (rs : List Ra)⟩, (k : Int), (room : Int), (sp : Int), (ye : Int)⟩ hp
  clear hp
  conv => whnf
  refine cond_intro (fun hg => ?_) (fun hg => ?_)
  · have hg : (largeR (ow, ps, ws, rs)) = true := hg
    conv => whnf
    show true = true
    rfl
  have hg : (largeR (ow, ps, ws, rs)) = false := hg
  obtain ⟨l1, l2, l3⟩ := not_large hg
  have g1 : ps.length ≤ 100000 := by simp only at l1; omega
  have g2 : ws.length ≤ 100000 := by simp only at l2; omega
  have g3 : rs.length ≤ 100000 := by simp only at l3; omega
  have g4 : rs.length < 100000 := by simp only at l3; omega
  obtain ⟨m1, m2, m3, m4⟩ := ldR_small (s := (ow, ps, ws, rs)) (k := k) (room := room) (sp := sp) (ye := ye) (m := 100000) g1 g2 g4
  conv => whnf
  refine ⟨g1, ?_⟩
  conv => whnf
  refine ⟨g2, ?_⟩
  conv => whnf
  refine ⟨g3, ?_⟩
  conv => whnf
  refine ⟨g1, ?_⟩
  conv => whnf
  refine ⟨g2, ?_⟩
  conv => whnf
  refine ⟨g3, ?_⟩
  conv => whnf
  refine cond_intro (fun q1 => ?_) (fun q1 => ?_)
  · have q1 : (ldR (ow, ps, ws, rs) k room sp ye).2.2 = (ldR (ow, ps, ws, rs) k room sp ye).2.2 := @of_decide_eq_true _ _ q1
    conv => whnf
    refine ⟨m4, ?_⟩
    conv => whnf
    refine cond_intro (fun q2 => ?_) (fun q2 => ?_)
    · have q2 : (eqPa (ldR (ow, ps, ws, rs) k room sp ye).2.1 (ldR (ow, ps, ws, rs) k room sp ye).2.1) = true := q2
      conv => whnf
      refine ⟨m1, ?_⟩
      conv => whnf
      refine ⟨m2, ?_⟩
      conv => whnf
      refine ⟨m3, ?_⟩
      conv => whnf
      refine cond_intro (fun q3 => ?_) (fun q3 => ?_)
      · have q3 : (sameSt (ldR (ow, ps, ws, rs) k room sp ye).1 (ldR (ow, ps, ws, rs) k room sp ye).1) = true := q3
        conv => whnf
        refine cond_intro (fun q4 => ?_) (fun q4 => ?_)
        · have q4 : (!decide ((ldR (ow, ps, ws, rs) k room sp ye).2.2 = 0)) = true := q4
          have q4 : ¬ ((ldR (ow, ps, ws, rs) k room sp ye).2.2 = 0) := fun e => absurd q4 (by rw [decide_eq_true e]; decide)
          conv => whnf
          show true = true
          rfl
        have q4 : (!decide ((ldR (ow, ps, ws, rs) k room sp ye).2.2 = 0)) = false := q4
        have q4 : (ldR (ow, ps, ws, rs) k room sp ye).2.2 = 0 := Decidable.byContradiction fun e => absurd q4 (by rw [decide_eq_false e]; decide)
        obtain ⟨v0, v1, v2, v3, v4, v5⟩ := ldR_ok q4
        have p1 := units_pos v5
        have p2 := units_pos v2
        conv => whnf
        refine ⟨m1, ?_⟩
        conv => whnf
        refine ⟨m2, ?_⟩
        conv => whnf
        refine ⟨m3, ?_⟩
        conv => whnf
        refine cond_intro (fun q5 => ?_) (fun q5 => ?_)
        · have q5 : validR (ldR (ow, ps, ws, rs) k room sp ye).1 = 0 := @of_decide_eq_true _ _ q5
          conv => whnf
          refine ⟨m2, ?_⟩
          conv => whnf
          refine ⟨m4, ?_⟩
          conv => whnf
          refine ⟨g2, ?_⟩
          have hw : IntKind.i64.wrap (unitsR (ldR (ow, ps, ws, rs) k room sp ye).1.2.2.1 + unitsR (ldR (ow, ps, ws, rs) k room sp ye).2.1) = unitsR (ldR (ow, ps, ws, rs) k room sp ye).1.2.2.1 + unitsR (ldR (ow, ps, ws, rs) k room sp ye).2.1 := wrap_eq (by omega) (by omega)
          conv => whnf
          refine cond_intro (fun q6 => ?_) (fun q6 => ?_)
          · have q6 : IntKind.i64.wrap (unitsR (ldR (ow, ps, ws, rs) k room sp ye).1.2.2.1 + unitsR (ldR (ow, ps, ws, rs) k room sp ye).2.1) = unitsR ws := @of_decide_eq_true _ _ q6
            conv => whnf
            refine ⟨m4, ?_⟩
            conv => whnf
            refine cond_intro (fun q7 => ?_) (fun q7 => ?_)
            · have q7 : unitsR (ldR (ow, ps, ws, rs) k room sp ye).2.1 ≤ room := @of_decide_eq_true _ _ q7
              conv => whnf
              show true = true
              rfl
            have q7 : ¬ (unitsR (ldR (ow, ps, ws, rs) k room sp ye).2.1 ≤ room) := @of_decide_eq_false _ _ q7
            exact absurd v4 q7
          have q6 : ¬ (IntKind.i64.wrap (unitsR (ldR (ow, ps, ws, rs) k room sp ye).1.2.2.1 + unitsR (ldR (ow, ps, ws, rs) k room sp ye).2.1) = unitsR ws) := @of_decide_eq_false _ _ q6
          exact absurd (hw.trans v3) q6
        have q5 : ¬ (validR (ldR (ow, ps, ws, rs) k room sp ye).1 = 0) := @of_decide_eq_false _ _ q5
        exact absurd v1 q5
      have q3 : (sameSt (ldR (ow, ps, ws, rs) k room sp ye).1 (ldR (ow, ps, ws, rs) k room sp ye).1) = false := q3
      rw [sameSt_refl] at q3; cases q3
    have q2 : (eqPa (ldR (ow, ps, ws, rs) k room sp ye).2.1 (ldR (ow, ps, ws, rs) k room sp ye).2.1) = false := q2
    simp [eqPa] at q2
  have q1 : ¬ ((ldR (ow, ps, ws, rs) k room sp ye).2.2 = (ldR (ow, ps, ws, rs) k room sp ye).2.2) := @of_decide_eq_false _ _ q1
  exact absurd rfl q1
end
end Go.Proofs.Yteidanhfkaljaaa.Eng
set_option linter.unusedVariables false
set_option linter.unusedSimpArgs false
namespace Go.Proofs.Yteidanhfkaljaaa.Eng
open Go
set_option maxRecDepth 100000
noncomputable section
open Go.RowKit
def sumR (l : List Pa) (k : Int) : Int × Int := if cargoR l ≠ 0 then (0, cargoR l) else (Cg.kS k l, 0)
theorem sumR_bnd (l : List Pa) (k : Int) : 0 ≤ (sumR l k).1 ∧ (sumR l k).1 ≤ 200000000 := by
  unfold sumR
  split
  · exact ⟨Int.le_refl _, by show (0 : Int) ≤ _; omega⟩
  · rename_i h
    have h0 : cargoR l = 0 := Decidable.byContradiction h
    obtain ⟨h1, _, h3⟩ := (Cg.cargo_zero l).1 h0
    have := Cg.kS_pos (k := k) h3
    exact ⟨this.1, by show Cg.kS k l ≤ _; omega⟩
def S59 (l : List Pa) (k c i : Int) : SL := ⟨[.undef, .int .i64 k] ++ List.replicate 5 .undef ++ [.int .i64 c] ++ List.replicate 7 .undef ++ [.sl paT l, .int .i64 l.length, .int .i64 i] ++ List.replicate 13 .undef, [], 0⟩
def E59 : Env := ⟨tab, [(47, K47)], fun n => match n with | 6 => some ([1, 7, 15, 16, 17], [], []) | _ => none⟩
def K59 : Fn1 := ⟨.fld (.sl paT) (.one I), .fld I (.one I), fun (a : List Pa × Int) => [a.1.length ≤ 100000], fun (a : List Pa × Int) => sumR a.1 a.2⟩
theorem k59 : FnOk Go.Proofs.Try.prog 59 K59 := by
  refine fn_ok (E := E59) (TOk.of tab_told) (AllOk.cons k47 .nil).at_ mix Go.Proofs.Try.func59 rfl rfl (by kernel_rfl) K59 ?_
  rintro ⟨(l : List Pa), (k : Int)⟩ hp
  have hl : l.length ≤ 100000 := hp _ (List.mem_cons_self ..)
  clear hp
  conv => whnf
  refine ⟨hl, ?_⟩
  conv => whnf
  refine cond_intro (fun hv => ?_) (fun hv => ?_)
  · have hv : (!decide (cargoR l = 0)) = true := hv
    have hv : ¬ (cargoR l = 0) := fun e => absurd hv (by rw [decide_eq_true e]; decide)
    conv => whnf
    show ((0, cargoR l) : Int × Int) = sumR l k
    rw [sumR, if_pos hv]
  have hv : (!decide (cargoR l = 0)) = false := hv
  have hv : cargoR l = 0 := Decidable.byContradiction fun e => absurd hv (by rw [decide_eq_false e]; decide)
  obtain ⟨hv1, hv2, hv3⟩ := (Cg.cargo_zero l).1 hv
  conv => whnf
  refine loop_rule (fun i : Int => S59 l k (Cg.kS k (l.take i.toNat)) i) (fun i => (l.length - i).toNat) (fun i => 0 ≤ i ∧ i ≤ l.length) ?_ 0 (by kernel_rfl) ?_ ⟨by omega, by omega⟩
  case refine_2 => rfl
  rintro i ⟨i0, i1⟩
  conv => whnf
  refine cond_intro (fun hlt => ?_) (fun hlt => ?_)
  · have hlt : i < (l.length : Int) := @of_decide_eq_true _ _ hlt
    have hw : IntKind.i64.wrap (i + 1) = i + 1 := wrap_eq (by omega) (by omega)
    have ei : (i + 1).toNat = i.toNat + 1 := by omega
    have hok : Cg.okP (gP l i.toNat) := by rw [gP_eq (show i.toNat < l.length by omega)]; exact hv3 _ (List.getElem_mem _)
    rw [Cg.okP_iff] at hok
    have hb := Cg.kS_bt (k := k) (i := i.toNat) hv3
    conv => whnf
    refine ⟨i0, ?_⟩
    conv => whnf
    refine ⟨hlt, ?_⟩
    conv => whnf
    refine cond_intro (fun hk => ?_) (fun hk => ?_)
    · have hk : (gP l i.toNat).1 = k := @of_decide_eq_true _ _ hk
      have hw2 : IntKind.i64.wrap ((Cg.kS k (l.take i.toNat)) + (gP l i.toNat).2.2.2.2.1) = (Cg.kS k (l.take i.toNat)) + (gP l i.toNat).2.2.2.2.1 := wrap_eq (by omega) (by omega)
      conv => whnf
      refine ⟨i + 1, ?_, ⟨by omega, by omega⟩, by omega⟩
      exact Eq.trans (b := S59 l k (IntKind.i64.wrap ((Cg.kS k (l.take i.toNat)) + (gP l i.toNat).2.2.2.2.1)) (IntKind.i64.wrap (i + 1))) rfl (by rw [hw, ei, Cg.kS_take (show i.toNat < l.length by omega), if_pos (show (Cg.gP l i.toNat).1 = k from hk), hw2]; try rfl)
    have hk : ¬ ((gP l i.toNat).1 = k) := @of_decide_eq_false _ _ hk
    conv => whnf
    refine ⟨i + 1, ?_, ⟨by omega, by omega⟩, by omega⟩
    exact Eq.trans (b := S59 l k (Cg.kS k (l.take i.toNat)) (IntKind.i64.wrap (i + 1))) rfl (by rw [hw, ei, Cg.kS_take (show i.toNat < l.length by omega), if_neg (show ¬ (Cg.gP l i.toNat).1 = k from hk), Int.add_zero]; try rfl)
  have hlt : ¬ (i < (l.length : Int)) := @of_decide_eq_false _ _ hlt
  rw [List.take_of_length_le (by omega)]
  conv => whnf
  show ((Cg.kS k l, 0) : Int × Int) = sumR l k
  rw [sumR, if_neg (by simp [hv])]
/-- A rating a day on, with what waits. -/
def rd1 (r : Ra) : Ra := (r.1, r.2.1, min2 (r.2.2.1 + 1) 255, r.2.2.2.1, r.2.2.2.2)
def rdScore (W : List Pa) (r : Ra) : Int := r.2.1 + min2 (max2 ((scoreR (rd1 r) (sumR W r.1).1).1 - r.2.1) (-2)) 2
def rd2 (W : List Pa) (r : Ra) : Ra := (r.1, rdScore W r, min2 (r.2.2.1 + 1) 255, r.2.2.2.1, r.2.2.2.2)
def rdN (W : List Pa) (r : Ra) : Int := (sumR W r.1).1 - ((sumR W r.1).1 + 15) / 16
def stD (s : List Pa × List Ra × Int) (r : Ra) : List Pa × List Ra × Int :=
  if rdScore s.1 r < 128 ∧ 16 * rdScore s.1 r < (sumR s.1 r.1).1 then ((Cg.trimR s.1 r.1 (rdN s.1 r)).1, s.2.1 ++ [rd2 s.1 r], s.2.2 + (Cg.trimR s.1 r.1 (rdN s.1 r)).2.1)
  else (s.1, s.2.1 ++ [rd2 s.1 r], s.2.2)
def oldW (W : List Pa) : List Pa := if (Cg.olderR W 1).2 = 0 then (Cg.olderR W 1).1 else W
def dF (s : St) (i : Nat) : List Pa × List Ra × Int := (s.2.2.2.take i).foldl stD (oldW s.2.2.1, [], 0)
def dayR (s : St) : St × Int × Int := if validR s ≠ 0 then (zSt, 0, validR s) else ((s.1, s.2.1, (dF s s.2.2.2.length).1, (dF s s.2.2.2.length).2.1), (dF s s.2.2.2.length).2.2, 0)
theorem dF_succ {s : St} {i : Nat} (hi : i < s.2.2.2.length) : dF s (i + 1) = stD (dF s i) (gR s.2.2.2 i) := by
  unfold dF
  rw [List.take_succ_eq_append_getElem hi, List.foldl_append, gR_at hi]; rfl
theorem stD_done (s : List Pa × List Ra × Int) (r : Ra) : (stD s r).2.1 = s.2.1 ++ [rd2 s.1 r] := by unfold stD; split <;> rfl
theorem trimL_bnd (l : List Pa) (k n : Int) : 0 ≤ (Cg.trimR l k n).2.1 ∧ (Cg.trimR l k n).2.1 ≤ 200000000 := by
  by_cases h : (Cg.trimR l k n).2.2 = 0
  · obtain ⟨_, _, _, _, h5, h6⟩ := Cg.trim_ok h; exact ⟨h5, h6⟩
  · by_cases h1 : (Cg.takR l k n).2.2 ≠ 0
    · rw [Cg.trimR, if_pos h1]; exact ⟨Int.le_refl _, by show (0 : Int) ≤ _; omega⟩
    · exact absurd (by rw [Cg.trimR, if_neg h1]) h
theorem dF_bnd {s : St} (h2 : s.2.2.1.length ≤ 100000) : ∀ i : Nat, i ≤ s.2.2.2.length → (dF s i).1.length ≤ 100000 ∧ (dF s i).2.1.length = i ∧ 0 ≤ (dF s i).2.2 ∧ (dF s i).2.2 ≤ i * 200000000
  | 0, _ => by
    refine ⟨?_, rfl, Int.le_refl _, by show (0 : Int) ≤ _; omega⟩
    show (oldW s.2.2.1).length ≤ _
    unfold oldW
    split
    · have := Cg.older_len s.2.2.1 1; omega
    · exact h2
  | i + 1, h => by
    obtain ⟨b1, b2, b3, b4⟩ := dF_bnd h2 i (by omega)
    have ht := trimL_bnd (dF s i).1 (gR s.2.2.2 i).1 (rdN (dF s i).1 (gR s.2.2.2 i))
    have hl := Cg.trim_len (dF s i).1 (gR s.2.2.2 i).1 (rdN (dF s i).1 (gR s.2.2.2 i))
    rw [dF_succ (by omega)]
    unfold stD
    split
    · refine ⟨by show (Cg.trimR _ _ _).1.length ≤ _; omega, by simp [b2], by show 0 ≤ (dF s i).2.2 + _; omega, ?_⟩
      show (dF s i).2.2 + _ ≤ ((i + 1 : Nat) : Int) * 200000000
      omega
    · refine ⟨b1, by simp [b2], b3, ?_⟩
      show (dF s i).2.2 ≤ ((i + 1 : Nat) : Int) * 200000000
      omega
def S34 (ow : Int) (ps : List Pl) (n : Nat) (W : List Pa) (cur : List Ra) (lost i : Int) : SL :=
  ⟨[.undef, .undef, .ptr 0 0 0, .undef, .undef, .undef, .ptr 1 0 0, .undef, .undef, .int .i64 lost] ++ List.replicate 26 .undef ++ [.own 2, .int .i64 n, .int .i64 i] ++ List.replicate 69 .undef,
   [(0, .box [.int .i64 0, .nilsl, .nilsl, .nilsl]), (1, .box [.int .i64 ow, .own 3, .own 4, .own 2]), (2, .arr raT cur), (3, .arr plT ps), (4, .arr paT W)], 5⟩
def E34 : Env := ⟨tab, [(23, K23), (43, K43), (58, Cg.K58), (59, K59), (19, K19), (60, Cg.K60)], fun n => match n with | 10 => some ([2, 6, 9, 36, 37, 38], [], []) | _ => none⟩
def K34 : Fn1 := ⟨.one stT, .fld stT (.fld I (.one I)), fun (s : St) => small s, fun (s : St) => dayR s⟩
set_option maxHeartbeats 2000000 in
theorem k34 : FnOk Go.Proofs.Try.prog 34 K34 := by
  refine fn_ok (E := E34) (TOk.of tab_told) (AllOk.cons k23 (.cons k43 (.cons Cg.k58 (.cons k59 (.cons k19 (.cons Cg.k60 .nil)))))).at_ mix Go.Proofs.Try.func34 rfl rfl (by kernel_rfl) K34 ?_
  rintro ⟨(ow : Int), (ps : List Pl), (ws : List Pa), (rs : List Ra)⟩ hp
  have g1 : ps.length ≤ 100000 := hp _ (List.mem_cons_self ..)
  have g2 : ws.length ≤ 100000 := hp _ (List.mem_cons_of_mem _ (List.mem_cons_self ..))
  have g3 : rs.length ≤ 100000 := hp _ (List.mem_cons_of_mem _ (List.mem_cons_of_mem _ (List.mem_cons_self ..)))
  clear hp
  conv => whnf
  refine ⟨g1, ?_⟩
  conv => whnf
  refine ⟨g2, ?_⟩
  conv => whnf
  refine ⟨g3, ?_⟩
  conv => whnf
  refine cond_intro (fun hv => ?_) (fun hv => ?_)
  · have hv : (!decide (validR (ow, ps, ws, rs) = 0)) = true := hv
    have hv : ¬ (validR (ow, ps, ws, rs) = 0) := fun e => absurd hv (by rw [decide_eq_true e]; decide)
    conv => whnf
    show (((0, [], [], []), 0, validR (ow, ps, ws, rs)) : St × Int × Int) = dayR (ow, ps, ws, rs)
    rw [dayR, if_pos hv]
  have hv : (!decide (validR (ow, ps, ws, rs) = 0)) = false := hv
  have hv : validR (ow, ps, ws, rs) = 0 := Decidable.byContradiction fun e => absurd hv (by rw [decide_eq_false e]; decide)
  obtain ⟨_, _, _, _, _, hrs⟩ := valid_iff.1 hv
  conv => whnf
  refine ⟨g1, ?_⟩
  conv => whnf
  refine ⟨g2, ?_⟩
  conv => whnf
  refine ⟨g3, ?_⟩
  conv => whnf
  refine ⟨g2, ?_⟩
  conv => whnf
  refine cond_intro (fun ho => ?_) (fun ho => ?_)
  · have ho : (Cg.olderR ws 1).2 = 0 := @of_decide_eq_true _ _ ho
    have hold : oldW ws = (Cg.olderR ws 1).1 := by rw [oldW, if_pos ho]
    conv => whnf
    refine loop_rule (fun i : Int => S34 ow ps rs.length (dF (ow, ps, ws, rs) i.toNat).1 ((dF (ow, ps, ws, rs) i.toNat).2.1 ++ rs.drop i.toNat) (dF (ow, ps, ws, rs) i.toNat).2.2 i) (fun i => (rs.length - i).toNat) (fun i => 0 ≤ i ∧ i ≤ rs.length) ?_ 0 (by kernel_rfl) ?_ ⟨by omega, by omega⟩
    case refine_2 => exact Eq.trans (b := S34 ow ps rs.length (Cg.olderR ws 1).1 rs 0 0) rfl (by show _ = S34 ow ps rs.length (oldW ws) rs 0 0; rw [hold])
    rintro i ⟨i0, i1⟩
    conv => whnf
    refine cond_intro (fun hlt => ?_) (fun hlt => ?_)
    · have hlt : i < (rs.length : Int) := @of_decide_eq_true _ _ hlt
      have hw : IntKind.i64.wrap (i + 1) = i + 1 := wrap_eq (by omega) (by omega)
      have ei : (i + 1).toNat = i.toNat + 1 := by omega
      have hil : i.toNat < rs.length := by omega
      obtain ⟨b1, b2, b3, b4⟩ := dF_bnd (s := (ow, ps, ws, rs)) g2 i.toNat (by show i.toNat ≤ rs.length; omega)
      have hcl : ((dF (ow, ps, ws, rs) i.toNat).2.1 ++ rs.drop i.toNat).length = rs.length := by rw [List.length_append, List.length_drop, b2]; omega
      have hgc : gR ((dF (ow, ps, ws, rs) i.toNat).2.1 ++ rs.drop i.toNat) i.toNat = (gR rs i.toNat) := by unfold gR; rw [List.getD_eq_getElem?_getD, List.getElem?_append_right (by omega), b2, Nat.sub_self, List.getElem?_drop, List.getD_eq_getElem?_getD]; rfl
      have hok : ratedR (gR rs i.toNat) = true := by rw [gR_at hil]; exact hrs.1 _ (List.getElem_mem _)
      rw [rated_iff] at hok
      obtain ⟨_, ⟨s0, s1⟩, ⟨d0, d1⟩, _, _⟩ := hok
      have hd1 : (IntKind.i64.wrap ((gR rs i.toNat).2.2.1 + 1)) = (gR rs i.toNat).2.2.1 + 1 := wrap_eq (by omega) (by omega)
      have hsb := sumR_bnd (dF (ow, ps, ws, rs) i.toNat).1 (gR rs i.toNat).1
      have htb := score_bd (rd1 (gR rs i.toNat)) (sumR (dF (ow, ps, ws, rs) i.toNat).1 (gR rs i.toNat).1).1
      have hto : (scoreR (((gR rs i.toNat).1, (gR rs i.toNat).2.1, min2 (IntKind.i64.wrap ((gR rs i.toNat).2.2.1 + 1)) 255, (gR rs i.toNat).2.2.2.1, (gR rs i.toNat).2.2.2.2) : Ra) (sumR (dF (ow, ps, ws, rs) i.toNat).1 (gR rs i.toNat).1).1).1 = (scoreR (rd1 (gR rs i.toNat)) (sumR (dF (ow, ps, ws, rs) i.toNat).1 (gR rs i.toNat).1).1).1 := by rw [hd1]; rfl
      have hsc : (IntKind.i64.wrap ((gR rs i.toNat).2.1 + min2 (max2 (IntKind.i64.wrap ((scoreR (((gR rs i.toNat).1, (gR rs i.toNat).2.1, min2 (IntKind.i64.wrap ((gR rs i.toNat).2.2.1 + 1)) 255, (gR rs i.toNat).2.2.2.1, (gR rs i.toNat).2.2.2.2) : Ra) (sumR (dF (ow, ps, ws, rs) i.toNat).1 (gR rs i.toNat).1).1).1 - (gR rs i.toNat).2.1)) (-2)) 2)) = rdScore (dF (ow, ps, ws, rs) i.toNat).1 (gR rs i.toNat) := by rw [hto, wrap_eq (i := (scoreR (rd1 (gR rs i.toNat)) (sumR (dF (ow, ps, ws, rs) i.toNat).1 (gR rs i.toNat).1).1).1 - (gR rs i.toNat).2.1) (by omega) (by omega)]; refine wrap_eq ?_ ?_ <;> (unfold min2 max2; repeat' split) <;> omega
      have hsc0 : -2 ≤ rdScore (dF (ow, ps, ws, rs) i.toNat).1 (gR rs i.toNat) ∧ rdScore (dF (ow, ps, ws, rs) i.toNat).1 (gR rs i.toNat) ≤ 257 := by unfold rdScore; constructor <;> (unfold min2 max2; repeat' split) <;> omega
      have hr2 : (((gR rs i.toNat).1, (IntKind.i64.wrap ((gR rs i.toNat).2.1 + min2 (max2 (IntKind.i64.wrap ((scoreR (((gR rs i.toNat).1, (gR rs i.toNat).2.1, min2 (IntKind.i64.wrap ((gR rs i.toNat).2.2.1 + 1)) 255, (gR rs i.toNat).2.2.2.1, (gR rs i.toNat).2.2.2.2) : Ra) (sumR (dF (ow, ps, ws, rs) i.toNat).1 (gR rs i.toNat).1).1).1 - (gR rs i.toNat).2.1)) (-2)) 2)), min2 (IntKind.i64.wrap ((gR rs i.toNat).2.2.1 + 1)) 255, (gR rs i.toNat).2.2.2.1, (gR rs i.toNat).2.2.2.2) : Ra) = rd2 (dF (ow, ps, ws, rs) i.toNat).1 (gR rs i.toNat) := by rw [hsc, hd1]; rfl
      have hn : (IntKind.i64.wrap ((sumR (dF (ow, ps, ws, rs) i.toNat).1 (gR rs i.toNat).1).1 - IntKind.i64.wrap ((IntKind.i64.wrap ((sumR (dF (ow, ps, ws, rs) i.toNat).1 (gR rs i.toNat).1).1 + 15)).tdiv 16))) = rdN (dF (ow, ps, ws, rs) i.toNat).1 (gR rs i.toNat) := by rw [wrap_eq (i := (sumR (dF (ow, ps, ws, rs) i.toNat).1 (gR rs i.toNat).1).1 + 15) (by omega) (by omega), Int.tdiv_eq_ediv_of_nonneg (by omega), wrap_eq (i := ((sumR (dF (ow, ps, ws, rs) i.toNat).1 (gR rs i.toNat).1).1 + 15) / 16) (by omega) (by omega)]; exact wrap_eq (by omega) (by omega)
      have htl := trimL_bnd (dF (ow, ps, ws, rs) i.toNat).1 (gR rs i.toNat).1 (rdN (dF (ow, ps, ws, rs) i.toNat).1 (gR rs i.toNat))
      have htl2 := Cg.trim_len (dF (ow, ps, ws, rs) i.toNat).1 (gR rs i.toNat).1 (rdN (dF (ow, ps, ws, rs) i.toNat).1 (gR rs i.toNat))
      have hset : ∀ x : Ra, ((dF (ow, ps, ws, rs) i.toNat).2.1 ++ rs.drop i.toNat).set i.toNat x = ((dF (ow, ps, ws, rs) i.toNat).2.1 ++ [x]) ++ rs.drop (i.toNat + 1) := by intro x; rw [List.set_append_right _ _ (by omega), b2, Nat.sub_self, List.drop_eq_getElem_cons hil, List.set_cons_zero, List.append_assoc]; rfl
      have csc : (IntKind.i64.wrap ((gR ((dF (ow, ps, ws, rs) i.toNat).2.1 ++ rs.drop i.toNat) i.toNat).2.1 + min2 (max2 (IntKind.i64.wrap ((scoreR (((gR ((dF (ow, ps, ws, rs) i.toNat).2.1 ++ rs.drop i.toNat) i.toNat).1, (gR ((dF (ow, ps, ws, rs) i.toNat).2.1 ++ rs.drop i.toNat) i.toNat).2.1, min2 (IntKind.i64.wrap ((gR ((dF (ow, ps, ws, rs) i.toNat).2.1 ++ rs.drop i.toNat) i.toNat).2.2.1 + 1)) 255, (gR ((dF (ow, ps, ws, rs) i.toNat).2.1 ++ rs.drop i.toNat) i.toNat).2.2.2.1, (gR ((dF (ow, ps, ws, rs) i.toNat).2.1 ++ rs.drop i.toNat) i.toNat).2.2.2.2) : Ra) (sumR (dF (ow, ps, ws, rs) i.toNat).1 (gR ((dF (ow, ps, ws, rs) i.toNat).2.1 ++ rs.drop i.toNat) i.toNat).1).1).1 - (gR ((dF (ow, ps, ws, rs) i.toNat).2.1 ++ rs.drop i.toNat) i.toNat).2.1)) (-2)) 2)) = rdScore (dF (ow, ps, ws, rs) i.toNat).1 (gR rs i.toNat) := by rw [hgc]; exact hsc
      have cr2 : (((gR ((dF (ow, ps, ws, rs) i.toNat).2.1 ++ rs.drop i.toNat) i.toNat).1, (IntKind.i64.wrap ((gR ((dF (ow, ps, ws, rs) i.toNat).2.1 ++ rs.drop i.toNat) i.toNat).2.1 + min2 (max2 (IntKind.i64.wrap ((scoreR (((gR ((dF (ow, ps, ws, rs) i.toNat).2.1 ++ rs.drop i.toNat) i.toNat).1, (gR ((dF (ow, ps, ws, rs) i.toNat).2.1 ++ rs.drop i.toNat) i.toNat).2.1, min2 (IntKind.i64.wrap ((gR ((dF (ow, ps, ws, rs) i.toNat).2.1 ++ rs.drop i.toNat) i.toNat).2.2.1 + 1)) 255, (gR ((dF (ow, ps, ws, rs) i.toNat).2.1 ++ rs.drop i.toNat) i.toNat).2.2.2.1, (gR ((dF (ow, ps, ws, rs) i.toNat).2.1 ++ rs.drop i.toNat) i.toNat).2.2.2.2) : Ra) (sumR (dF (ow, ps, ws, rs) i.toNat).1 (gR ((dF (ow, ps, ws, rs) i.toNat).2.1 ++ rs.drop i.toNat) i.toNat).1).1).1 - (gR ((dF (ow, ps, ws, rs) i.toNat).2.1 ++ rs.drop i.toNat) i.toNat).2.1)) (-2)) 2)), min2 (IntKind.i64.wrap ((gR ((dF (ow, ps, ws, rs) i.toNat).2.1 ++ rs.drop i.toNat) i.toNat).2.2.1 + 1)) 255, (gR ((dF (ow, ps, ws, rs) i.toNat).2.1 ++ rs.drop i.toNat) i.toNat).2.2.2.1, (gR ((dF (ow, ps, ws, rs) i.toNat).2.1 ++ rs.drop i.toNat) i.toNat).2.2.2.2) : Ra) = rd2 (dF (ow, ps, ws, rs) i.toNat).1 (gR rs i.toNat) := by rw [hgc]; exact hr2
      have cwt : (sumR (dF (ow, ps, ws, rs) i.toNat).1 (gR ((dF (ow, ps, ws, rs) i.toNat).2.1 ++ rs.drop i.toNat) i.toNat).1).1 = (sumR (dF (ow, ps, ws, rs) i.toNat).1 (gR rs i.toNat).1).1 := by rw [hgc]
      have cn : (IntKind.i64.wrap ((sumR (dF (ow, ps, ws, rs) i.toNat).1 (gR ((dF (ow, ps, ws, rs) i.toNat).2.1 ++ rs.drop i.toNat) i.toNat).1).1 - IntKind.i64.wrap ((IntKind.i64.wrap ((sumR (dF (ow, ps, ws, rs) i.toNat).1 (gR ((dF (ow, ps, ws, rs) i.toNat).2.1 ++ rs.drop i.toNat) i.toNat).1).1 + 15)).tdiv 16))) = rdN (dF (ow, ps, ws, rs) i.toNat).1 (gR rs i.toNat) := by rw [hgc]; exact hn
      have ctr : (Cg.trimR (dF (ow, ps, ws, rs) i.toNat).1 (gR ((dF (ow, ps, ws, rs) i.toNat).2.1 ++ rs.drop i.toNat) i.toNat).1 (IntKind.i64.wrap ((sumR (dF (ow, ps, ws, rs) i.toNat).1 (gR ((dF (ow, ps, ws, rs) i.toNat).2.1 ++ rs.drop i.toNat) i.toNat).1).1 - IntKind.i64.wrap ((IntKind.i64.wrap ((sumR (dF (ow, ps, ws, rs) i.toNat).1 (gR ((dF (ow, ps, ws, rs) i.toNat).2.1 ++ rs.drop i.toNat) i.toNat).1).1 + 15)).tdiv 16)))) = (Cg.trimR (dF (ow, ps, ws, rs) i.toNat).1 (gR rs i.toNat).1 (rdN (dF (ow, ps, ws, rs) i.toNat).1 (gR rs i.toNat))) := by rw [cn, hgc]
      have c16 : IntKind.i64.wrap (16 * (IntKind.i64.wrap ((gR ((dF (ow, ps, ws, rs) i.toNat).2.1 ++ rs.drop i.toNat) i.toNat).2.1 + min2 (max2 (IntKind.i64.wrap ((scoreR (((gR ((dF (ow, ps, ws, rs) i.toNat).2.1 ++ rs.drop i.toNat) i.toNat).1, (gR ((dF (ow, ps, ws, rs) i.toNat).2.1 ++ rs.drop i.toNat) i.toNat).2.1, min2 (IntKind.i64.wrap ((gR ((dF (ow, ps, ws, rs) i.toNat).2.1 ++ rs.drop i.toNat) i.toNat).2.2.1 + 1)) 255, (gR ((dF (ow, ps, ws, rs) i.toNat).2.1 ++ rs.drop i.toNat) i.toNat).2.2.2.1, (gR ((dF (ow, ps, ws, rs) i.toNat).2.1 ++ rs.drop i.toNat) i.toNat).2.2.2.2) : Ra) (sumR (dF (ow, ps, ws, rs) i.toNat).1 (gR ((dF (ow, ps, ws, rs) i.toNat).2.1 ++ rs.drop i.toNat) i.toNat).1).1).1 - (gR ((dF (ow, ps, ws, rs) i.toNat).2.1 ++ rs.drop i.toNat) i.toNat).2.1)) (-2)) 2))) = 16 * rdScore (dF (ow, ps, ws, rs) i.toNat).1 (gR rs i.toNat) := by rw [csc]; exact wrap_eq (by omega) (by omega)
      conv => whnf
      refine ⟨i0, ?_⟩
      conv => whnf
      refine ⟨show i < (((dF (ow, ps, ws, rs) i.toNat).2.1 ++ rs.drop i.toNat).length : Int) by omega, ?_⟩
      conv => whnf
      refine ⟨b1, ?_⟩
      conv => whnf
      refine ⟨i0, ?_⟩
      conv => whnf
      refine ⟨show i < (((dF (ow, ps, ws, rs) i.toNat).2.1 ++ rs.drop i.toNat).length : Int) by omega, ?_⟩
      conv => whnf
      refine cond_intro (fun c1 => ?_) (fun c1 => ?_)
      · have c1 : (IntKind.i64.wrap ((gR ((dF (ow, ps, ws, rs) i.toNat).2.1 ++ rs.drop i.toNat) i.toNat).2.1 + min2 (max2 (IntKind.i64.wrap ((scoreR (((gR ((dF (ow, ps, ws, rs) i.toNat).2.1 ++ rs.drop i.toNat) i.toNat).1, (gR ((dF (ow, ps, ws, rs) i.toNat).2.1 ++ rs.drop i.toNat) i.toNat).2.1, min2 (IntKind.i64.wrap ((gR ((dF (ow, ps, ws, rs) i.toNat).2.1 ++ rs.drop i.toNat) i.toNat).2.2.1 + 1)) 255, (gR ((dF (ow, ps, ws, rs) i.toNat).2.1 ++ rs.drop i.toNat) i.toNat).2.2.2.1, (gR ((dF (ow, ps, ws, rs) i.toNat).2.1 ++ rs.drop i.toNat) i.toNat).2.2.2.2) : Ra) (sumR (dF (ow, ps, ws, rs) i.toNat).1 (gR ((dF (ow, ps, ws, rs) i.toNat).2.1 ++ rs.drop i.toNat) i.toNat).1).1).1 - (gR ((dF (ow, ps, ws, rs) i.toNat).2.1 ++ rs.drop i.toNat) i.toNat).2.1)) (-2)) 2)) < 128 := @of_decide_eq_true _ _ c1
        rw [csc] at c1
        conv => whnf
        refine cond_intro (fun c2 => ?_) (fun c2 => ?_)
        · have c2 : IntKind.i64.wrap (16 * (IntKind.i64.wrap ((gR ((dF (ow, ps, ws, rs) i.toNat).2.1 ++ rs.drop i.toNat) i.toNat).2.1 + min2 (max2 (IntKind.i64.wrap ((scoreR (((gR ((dF (ow, ps, ws, rs) i.toNat).2.1 ++ rs.drop i.toNat) i.toNat).1, (gR ((dF (ow, ps, ws, rs) i.toNat).2.1 ++ rs.drop i.toNat) i.toNat).2.1, min2 (IntKind.i64.wrap ((gR ((dF (ow, ps, ws, rs) i.toNat).2.1 ++ rs.drop i.toNat) i.toNat).2.2.1 + 1)) 255, (gR ((dF (ow, ps, ws, rs) i.toNat).2.1 ++ rs.drop i.toNat) i.toNat).2.2.2.1, (gR ((dF (ow, ps, ws, rs) i.toNat).2.1 ++ rs.drop i.toNat) i.toNat).2.2.2.2) : Ra) (sumR (dF (ow, ps, ws, rs) i.toNat).1 (gR ((dF (ow, ps, ws, rs) i.toNat).2.1 ++ rs.drop i.toNat) i.toNat).1).1).1 - (gR ((dF (ow, ps, ws, rs) i.toNat).2.1 ++ rs.drop i.toNat) i.toNat).2.1)) (-2)) 2))) < (sumR (dF (ow, ps, ws, rs) i.toNat).1 (gR ((dF (ow, ps, ws, rs) i.toNat).2.1 ++ rs.drop i.toNat) i.toNat).1).1 := @of_decide_eq_true _ _ c2
          rw [c16, cwt] at c2
          conv => whnf
          refine ⟨show (16 : Int) ≠ 0 by decide, ?_⟩
          conv => whnf
          refine ⟨b1, ?_⟩
          conv => whnf
          refine ⟨show (IntKind.i64.wrap ((sumR (dF (ow, ps, ws, rs) i.toNat).1 (gR ((dF (ow, ps, ws, rs) i.toNat).2.1 ++ rs.drop i.toNat) i.toNat).1).1 - IntKind.i64.wrap ((IntKind.i64.wrap ((sumR (dF (ow, ps, ws, rs) i.toNat).1 (gR ((dF (ow, ps, ws, rs) i.toNat).2.1 ++ rs.drop i.toNat) i.toNat).1).1 + 15)).tdiv 16))) ≤ 9223372036854775807 by rw [cn]; unfold rdN; omega, ?_⟩
          have hwl : IntKind.i64.wrap ((dF (ow, ps, ws, rs) i.toNat).2.2 + (Cg.trimR (dF (ow, ps, ws, rs) i.toNat).1 (gR rs i.toNat).1 (rdN (dF (ow, ps, ws, rs) i.toNat).1 (gR rs i.toNat))).2.1) = (dF (ow, ps, ws, rs) i.toNat).2.2 + (Cg.trimR (dF (ow, ps, ws, rs) i.toNat).1 (gR rs i.toNat).1 (rdN (dF (ow, ps, ws, rs) i.toNat).1 (gR rs i.toNat))).2.1 := wrap_eq (by omega) (by omega)
          conv => whnf
          refine ⟨i + 1, ?_, ⟨by omega, by omega⟩, by omega⟩
          exact Eq.trans (b := S34 ow ps rs.length (Cg.trimR (dF (ow, ps, ws, rs) i.toNat).1 (gR ((dF (ow, ps, ws, rs) i.toNat).2.1 ++ rs.drop i.toNat) i.toNat).1 (IntKind.i64.wrap ((sumR (dF (ow, ps, ws, rs) i.toNat).1 (gR ((dF (ow, ps, ws, rs) i.toNat).2.1 ++ rs.drop i.toNat) i.toNat).1).1 - IntKind.i64.wrap ((IntKind.i64.wrap ((sumR (dF (ow, ps, ws, rs) i.toNat).1 (gR ((dF (ow, ps, ws, rs) i.toNat).2.1 ++ rs.drop i.toNat) i.toNat).1).1 + 15)).tdiv 16)))).1 (((dF (ow, ps, ws, rs) i.toNat).2.1 ++ rs.drop i.toNat).set i.toNat (((gR ((dF (ow, ps, ws, rs) i.toNat).2.1 ++ rs.drop i.toNat) i.toNat).1, (IntKind.i64.wrap ((gR ((dF (ow, ps, ws, rs) i.toNat).2.1 ++ rs.drop i.toNat) i.toNat).2.1 + min2 (max2 (IntKind.i64.wrap ((scoreR (((gR ((dF (ow, ps, ws, rs) i.toNat).2.1 ++ rs.drop i.toNat) i.toNat).1, (gR ((dF (ow, ps, ws, rs) i.toNat).2.1 ++ rs.drop i.toNat) i.toNat).2.1, min2 (IntKind.i64.wrap ((gR ((dF (ow, ps, ws, rs) i.toNat).2.1 ++ rs.drop i.toNat) i.toNat).2.2.1 + 1)) 255, (gR ((dF (ow, ps, ws, rs) i.toNat).2.1 ++ rs.drop i.toNat) i.toNat).2.2.2.1, (gR ((dF (ow, ps, ws, rs) i.toNat).2.1 ++ rs.drop i.toNat) i.toNat).2.2.2.2) : Ra) (sumR (dF (ow, ps, ws, rs) i.toNat).1 (gR ((dF (ow, ps, ws, rs) i.toNat).2.1 ++ rs.drop i.toNat) i.toNat).1).1).1 - (gR ((dF (ow, ps, ws, rs) i.toNat).2.1 ++ rs.drop i.toNat) i.toNat).2.1)) (-2)) 2)), min2 (IntKind.i64.wrap ((gR ((dF (ow, ps, ws, rs) i.toNat).2.1 ++ rs.drop i.toNat) i.toNat).2.2.1 + 1)) 255, (gR ((dF (ow, ps, ws, rs) i.toNat).2.1 ++ rs.drop i.toNat) i.toNat).2.2.2.1, (gR ((dF (ow, ps, ws, rs) i.toNat).2.1 ++ rs.drop i.toNat) i.toNat).2.2.2.2) : Ra)) (IntKind.i64.wrap ((dF (ow, ps, ws, rs) i.toNat).2.2 + (Cg.trimR (dF (ow, ps, ws, rs) i.toNat).1 (gR ((dF (ow, ps, ws, rs) i.toNat).2.1 ++ rs.drop i.toNat) i.toNat).1 (IntKind.i64.wrap ((sumR (dF (ow, ps, ws, rs) i.toNat).1 (gR ((dF (ow, ps, ws, rs) i.toNat).2.1 ++ rs.drop i.toNat) i.toNat).1).1 - IntKind.i64.wrap ((IntKind.i64.wrap ((sumR (dF (ow, ps, ws, rs) i.toNat).1 (gR ((dF (ow, ps, ws, rs) i.toNat).2.1 ++ rs.drop i.toNat) i.toNat).1).1 + 15)).tdiv 16)))).2.1)) (IntKind.i64.wrap (i + 1))) rfl (by rw [hw, ei, dF_succ (s := (ow, ps, ws, rs)) (by exact hil), stD, hset, cr2, ctr, hwl, if_pos (show rdScore (dF (ow, ps, ws, rs) i.toNat).1 (gR rs i.toNat) < 128 ∧ 16 * rdScore (dF (ow, ps, ws, rs) i.toNat).1 (gR rs i.toNat) < (sumR (dF (ow, ps, ws, rs) i.toNat).1 (gR rs i.toNat).1).1 from ⟨c1, c2⟩)]; try rfl)
        have c2 : ¬ (IntKind.i64.wrap (16 * (IntKind.i64.wrap ((gR ((dF (ow, ps, ws, rs) i.toNat).2.1 ++ rs.drop i.toNat) i.toNat).2.1 + min2 (max2 (IntKind.i64.wrap ((scoreR (((gR ((dF (ow, ps, ws, rs) i.toNat).2.1 ++ rs.drop i.toNat) i.toNat).1, (gR ((dF (ow, ps, ws, rs) i.toNat).2.1 ++ rs.drop i.toNat) i.toNat).2.1, min2 (IntKind.i64.wrap ((gR ((dF (ow, ps, ws, rs) i.toNat).2.1 ++ rs.drop i.toNat) i.toNat).2.2.1 + 1)) 255, (gR ((dF (ow, ps, ws, rs) i.toNat).2.1 ++ rs.drop i.toNat) i.toNat).2.2.2.1, (gR ((dF (ow, ps, ws, rs) i.toNat).2.1 ++ rs.drop i.toNat) i.toNat).2.2.2.2) : Ra) (sumR (dF (ow, ps, ws, rs) i.toNat).1 (gR ((dF (ow, ps, ws, rs) i.toNat).2.1 ++ rs.drop i.toNat) i.toNat).1).1).1 - (gR ((dF (ow, ps, ws, rs) i.toNat).2.1 ++ rs.drop i.toNat) i.toNat).2.1)) (-2)) 2))) < (sumR (dF (ow, ps, ws, rs) i.toNat).1 (gR ((dF (ow, ps, ws, rs) i.toNat).2.1 ++ rs.drop i.toNat) i.toNat).1).1) := @of_decide_eq_false _ _ c2
        rw [c16, cwt] at c2
        conv => whnf
        refine ⟨i + 1, ?_, ⟨by omega, by omega⟩, by omega⟩
        exact Eq.trans (b := S34 ow ps rs.length (dF (ow, ps, ws, rs) i.toNat).1 (((dF (ow, ps, ws, rs) i.toNat).2.1 ++ rs.drop i.toNat).set i.toNat (((gR ((dF (ow, ps, ws, rs) i.toNat).2.1 ++ rs.drop i.toNat) i.toNat).1, (IntKind.i64.wrap ((gR ((dF (ow, ps, ws, rs) i.toNat).2.1 ++ rs.drop i.toNat) i.toNat).2.1 + min2 (max2 (IntKind.i64.wrap ((scoreR (((gR ((dF (ow, ps, ws, rs) i.toNat).2.1 ++ rs.drop i.toNat) i.toNat).1, (gR ((dF (ow, ps, ws, rs) i.toNat).2.1 ++ rs.drop i.toNat) i.toNat).2.1, min2 (IntKind.i64.wrap ((gR ((dF (ow, ps, ws, rs) i.toNat).2.1 ++ rs.drop i.toNat) i.toNat).2.2.1 + 1)) 255, (gR ((dF (ow, ps, ws, rs) i.toNat).2.1 ++ rs.drop i.toNat) i.toNat).2.2.2.1, (gR ((dF (ow, ps, ws, rs) i.toNat).2.1 ++ rs.drop i.toNat) i.toNat).2.2.2.2) : Ra) (sumR (dF (ow, ps, ws, rs) i.toNat).1 (gR ((dF (ow, ps, ws, rs) i.toNat).2.1 ++ rs.drop i.toNat) i.toNat).1).1).1 - (gR ((dF (ow, ps, ws, rs) i.toNat).2.1 ++ rs.drop i.toNat) i.toNat).2.1)) (-2)) 2)), min2 (IntKind.i64.wrap ((gR ((dF (ow, ps, ws, rs) i.toNat).2.1 ++ rs.drop i.toNat) i.toNat).2.2.1 + 1)) 255, (gR ((dF (ow, ps, ws, rs) i.toNat).2.1 ++ rs.drop i.toNat) i.toNat).2.2.2.1, (gR ((dF (ow, ps, ws, rs) i.toNat).2.1 ++ rs.drop i.toNat) i.toNat).2.2.2.2) : Ra)) (dF (ow, ps, ws, rs) i.toNat).2.2 (IntKind.i64.wrap (i + 1))) rfl (by rw [hw, ei, dF_succ (s := (ow, ps, ws, rs)) (by exact hil), stD, hset, cr2, if_neg (show ¬ (rdScore (dF (ow, ps, ws, rs) i.toNat).1 (gR rs i.toNat) < 128 ∧ 16 * rdScore (dF (ow, ps, ws, rs) i.toNat).1 (gR rs i.toNat) < (sumR (dF (ow, ps, ws, rs) i.toNat).1 (gR rs i.toNat).1).1) from fun h => c2 h.2)]; try rfl)
      have c1 : ¬ ((IntKind.i64.wrap ((gR ((dF (ow, ps, ws, rs) i.toNat).2.1 ++ rs.drop i.toNat) i.toNat).2.1 + min2 (max2 (IntKind.i64.wrap ((scoreR (((gR ((dF (ow, ps, ws, rs) i.toNat).2.1 ++ rs.drop i.toNat) i.toNat).1, (gR ((dF (ow, ps, ws, rs) i.toNat).2.1 ++ rs.drop i.toNat) i.toNat).2.1, min2 (IntKind.i64.wrap ((gR ((dF (ow, ps, ws, rs) i.toNat).2.1 ++ rs.drop i.toNat) i.toNat).2.2.1 + 1)) 255, (gR ((dF (ow, ps, ws, rs) i.toNat).2.1 ++ rs.drop i.toNat) i.toNat).2.2.2.1, (gR ((dF (ow, ps, ws, rs) i.toNat).2.1 ++ rs.drop i.toNat) i.toNat).2.2.2.2) : Ra) (sumR (dF (ow, ps, ws, rs) i.toNat).1 (gR ((dF (ow, ps, ws, rs) i.toNat).2.1 ++ rs.drop i.toNat) i.toNat).1).1).1 - (gR ((dF (ow, ps, ws, rs) i.toNat).2.1 ++ rs.drop i.toNat) i.toNat).2.1)) (-2)) 2)) < 128) := @of_decide_eq_false _ _ c1
      rw [csc] at c1
      conv => whnf
      refine ⟨i + 1, ?_, ⟨by omega, by omega⟩, by omega⟩
      exact Eq.trans (b := S34 ow ps rs.length (dF (ow, ps, ws, rs) i.toNat).1 (((dF (ow, ps, ws, rs) i.toNat).2.1 ++ rs.drop i.toNat).set i.toNat (((gR ((dF (ow, ps, ws, rs) i.toNat).2.1 ++ rs.drop i.toNat) i.toNat).1, (IntKind.i64.wrap ((gR ((dF (ow, ps, ws, rs) i.toNat).2.1 ++ rs.drop i.toNat) i.toNat).2.1 + min2 (max2 (IntKind.i64.wrap ((scoreR (((gR ((dF (ow, ps, ws, rs) i.toNat).2.1 ++ rs.drop i.toNat) i.toNat).1, (gR ((dF (ow, ps, ws, rs) i.toNat).2.1 ++ rs.drop i.toNat) i.toNat).2.1, min2 (IntKind.i64.wrap ((gR ((dF (ow, ps, ws, rs) i.toNat).2.1 ++ rs.drop i.toNat) i.toNat).2.2.1 + 1)) 255, (gR ((dF (ow, ps, ws, rs) i.toNat).2.1 ++ rs.drop i.toNat) i.toNat).2.2.2.1, (gR ((dF (ow, ps, ws, rs) i.toNat).2.1 ++ rs.drop i.toNat) i.toNat).2.2.2.2) : Ra) (sumR (dF (ow, ps, ws, rs) i.toNat).1 (gR ((dF (ow, ps, ws, rs) i.toNat).2.1 ++ rs.drop i.toNat) i.toNat).1).1).1 - (gR ((dF (ow, ps, ws, rs) i.toNat).2.1 ++ rs.drop i.toNat) i.toNat).2.1)) (-2)) 2)), min2 (IntKind.i64.wrap ((gR ((dF (ow, ps, ws, rs) i.toNat).2.1 ++ rs.drop i.toNat) i.toNat).2.2.1 + 1)) 255, (gR ((dF (ow, ps, ws, rs) i.toNat).2.1 ++ rs.drop i.toNat) i.toNat).2.2.2.1, (gR ((dF (ow, ps, ws, rs) i.toNat).2.1 ++ rs.drop i.toNat) i.toNat).2.2.2.2) : Ra)) (dF (ow, ps, ws, rs) i.toNat).2.2 (IntKind.i64.wrap (i + 1))) rfl (by rw [hw, ei, dF_succ (s := (ow, ps, ws, rs)) (by exact hil), stD, hset, cr2, if_neg (show ¬ (rdScore (dF (ow, ps, ws, rs) i.toNat).1 (gR rs i.toNat) < 128 ∧ 16 * rdScore (dF (ow, ps, ws, rs) i.toNat).1 (gR rs i.toNat) < (sumR (dF (ow, ps, ws, rs) i.toNat).1 (gR rs i.toNat).1).1) from fun h => c1 h.1)]; try rfl)
    have hlt : ¬ (i < (rs.length : Int)) := @of_decide_eq_false _ _ hlt
    have ei : i.toNat = rs.length := by omega
    conv => whnf
    show ((ow, ps, (dF (ow, ps, ws, rs) i.toNat).1, ((dF (ow, ps, ws, rs) i.toNat).2.1 ++ rs.drop i.toNat)), (dF (ow, ps, ws, rs) i.toNat).2.2, (0 : Int)) = dayR (ow, ps, ws, rs)
    rw [dayR, if_neg (by simp [hv]), ei, List.drop_length, List.append_nil]
  have ho : ¬ ((Cg.olderR ws 1).2 = 0) := @of_decide_eq_false _ _ ho
  have hold : oldW ws = ws := by rw [oldW, if_neg ho]
  conv => whnf
  refine loop_rule (fun i : Int => S34 ow ps rs.length (dF (ow, ps, ws, rs) i.toNat).1 ((dF (ow, ps, ws, rs) i.toNat).2.1 ++ rs.drop i.toNat) (dF (ow, ps, ws, rs) i.toNat).2.2 i) (fun i => (rs.length - i).toNat) (fun i => 0 ≤ i ∧ i ≤ rs.length) ?_ 0 (by kernel_rfl) ?_ ⟨by omega, by omega⟩
  case refine_2 => exact Eq.trans (b := S34 ow ps rs.length ws rs 0 0) rfl (by show _ = S34 ow ps rs.length (oldW ws) rs 0 0; rw [hold])
  rintro i ⟨i0, i1⟩
  conv => whnf
  refine cond_intro (fun hlt => ?_) (fun hlt => ?_)
  · have hlt : i < (rs.length : Int) := @of_decide_eq_true _ _ hlt
    have hw : IntKind.i64.wrap (i + 1) = i + 1 := wrap_eq (by omega) (by omega)
    have ei : (i + 1).toNat = i.toNat + 1 := by omega
    have hil : i.toNat < rs.length := by omega
    obtain ⟨b1, b2, b3, b4⟩ := dF_bnd (s := (ow, ps, ws, rs)) g2 i.toNat (by show i.toNat ≤ rs.length; omega)
    have hcl : ((dF (ow, ps, ws, rs) i.toNat).2.1 ++ rs.drop i.toNat).length = rs.length := by rw [List.length_append, List.length_drop, b2]; omega
    have hgc : gR ((dF (ow, ps, ws, rs) i.toNat).2.1 ++ rs.drop i.toNat) i.toNat = (gR rs i.toNat) := by unfold gR; rw [List.getD_eq_getElem?_getD, List.getElem?_append_right (by omega), b2, Nat.sub_self, List.getElem?_drop, List.getD_eq_getElem?_getD]; rfl
    have hok : ratedR (gR rs i.toNat) = true := by rw [gR_at hil]; exact hrs.1 _ (List.getElem_mem _)
    rw [rated_iff] at hok
    obtain ⟨_, ⟨s0, s1⟩, ⟨d0, d1⟩, _, _⟩ := hok
    have hd1 : (IntKind.i64.wrap ((gR rs i.toNat).2.2.1 + 1)) = (gR rs i.toNat).2.2.1 + 1 := wrap_eq (by omega) (by omega)
    have hsb := sumR_bnd (dF (ow, ps, ws, rs) i.toNat).1 (gR rs i.toNat).1
    have htb := score_bd (rd1 (gR rs i.toNat)) (sumR (dF (ow, ps, ws, rs) i.toNat).1 (gR rs i.toNat).1).1
    have hto : (scoreR (((gR rs i.toNat).1, (gR rs i.toNat).2.1, min2 (IntKind.i64.wrap ((gR rs i.toNat).2.2.1 + 1)) 255, (gR rs i.toNat).2.2.2.1, (gR rs i.toNat).2.2.2.2) : Ra) (sumR (dF (ow, ps, ws, rs) i.toNat).1 (gR rs i.toNat).1).1).1 = (scoreR (rd1 (gR rs i.toNat)) (sumR (dF (ow, ps, ws, rs) i.toNat).1 (gR rs i.toNat).1).1).1 := by rw [hd1]; rfl
    have hsc : (IntKind.i64.wrap ((gR rs i.toNat).2.1 + min2 (max2 (IntKind.i64.wrap ((scoreR (((gR rs i.toNat).1, (gR rs i.toNat).2.1, min2 (IntKind.i64.wrap ((gR rs i.toNat).2.2.1 + 1)) 255, (gR rs i.toNat).2.2.2.1, (gR rs i.toNat).2.2.2.2) : Ra) (sumR (dF (ow, ps, ws, rs) i.toNat).1 (gR rs i.toNat).1).1).1 - (gR rs i.toNat).2.1)) (-2)) 2)) = rdScore (dF (ow, ps, ws, rs) i.toNat).1 (gR rs i.toNat) := by rw [hto, wrap_eq (i := (scoreR (rd1 (gR rs i.toNat)) (sumR (dF (ow, ps, ws, rs) i.toNat).1 (gR rs i.toNat).1).1).1 - (gR rs i.toNat).2.1) (by omega) (by omega)]; refine wrap_eq ?_ ?_ <;> (unfold min2 max2; repeat' split) <;> omega
    have hsc0 : -2 ≤ rdScore (dF (ow, ps, ws, rs) i.toNat).1 (gR rs i.toNat) ∧ rdScore (dF (ow, ps, ws, rs) i.toNat).1 (gR rs i.toNat) ≤ 257 := by unfold rdScore; constructor <;> (unfold min2 max2; repeat' split) <;> omega
    have hr2 : (((gR rs i.toNat).1, (IntKind.i64.wrap ((gR rs i.toNat).2.1 + min2 (max2 (IntKind.i64.wrap ((scoreR (((gR rs i.toNat).1, (gR rs i.toNat).2.1, min2 (IntKind.i64.wrap ((gR rs i.toNat).2.2.1 + 1)) 255, (gR rs i.toNat).2.2.2.1, (gR rs i.toNat).2.2.2.2) : Ra) (sumR (dF (ow, ps, ws, rs) i.toNat).1 (gR rs i.toNat).1).1).1 - (gR rs i.toNat).2.1)) (-2)) 2)), min2 (IntKind.i64.wrap ((gR rs i.toNat).2.2.1 + 1)) 255, (gR rs i.toNat).2.2.2.1, (gR rs i.toNat).2.2.2.2) : Ra) = rd2 (dF (ow, ps, ws, rs) i.toNat).1 (gR rs i.toNat) := by rw [hsc, hd1]; rfl
    have hn : (IntKind.i64.wrap ((sumR (dF (ow, ps, ws, rs) i.toNat).1 (gR rs i.toNat).1).1 - IntKind.i64.wrap ((IntKind.i64.wrap ((sumR (dF (ow, ps, ws, rs) i.toNat).1 (gR rs i.toNat).1).1 + 15)).tdiv 16))) = rdN (dF (ow, ps, ws, rs) i.toNat).1 (gR rs i.toNat) := by rw [wrap_eq (i := (sumR (dF (ow, ps, ws, rs) i.toNat).1 (gR rs i.toNat).1).1 + 15) (by omega) (by omega), Int.tdiv_eq_ediv_of_nonneg (by omega), wrap_eq (i := ((sumR (dF (ow, ps, ws, rs) i.toNat).1 (gR rs i.toNat).1).1 + 15) / 16) (by omega) (by omega)]; exact wrap_eq (by omega) (by omega)
    have htl := trimL_bnd (dF (ow, ps, ws, rs) i.toNat).1 (gR rs i.toNat).1 (rdN (dF (ow, ps, ws, rs) i.toNat).1 (gR rs i.toNat))
    have htl2 := Cg.trim_len (dF (ow, ps, ws, rs) i.toNat).1 (gR rs i.toNat).1 (rdN (dF (ow, ps, ws, rs) i.toNat).1 (gR rs i.toNat))
    have hset : ∀ x : Ra, ((dF (ow, ps, ws, rs) i.toNat).2.1 ++ rs.drop i.toNat).set i.toNat x = ((dF (ow, ps, ws, rs) i.toNat).2.1 ++ [x]) ++ rs.drop (i.toNat + 1) := by intro x; rw [List.set_append_right _ _ (by omega), b2, Nat.sub_self, List.drop_eq_getElem_cons hil, List.set_cons_zero, List.append_assoc]; rfl
    have csc : (IntKind.i64.wrap ((gR ((dF (ow, ps, ws, rs) i.toNat).2.1 ++ rs.drop i.toNat) i.toNat).2.1 + min2 (max2 (IntKind.i64.wrap ((scoreR (((gR ((dF (ow, ps, ws, rs) i.toNat).2.1 ++ rs.drop i.toNat) i.toNat).1, (gR ((dF (ow, ps, ws, rs) i.toNat).2.1 ++ rs.drop i.toNat) i.toNat).2.1, min2 (IntKind.i64.wrap ((gR ((dF (ow, ps, ws, rs) i.toNat).2.1 ++ rs.drop i.toNat) i.toNat).2.2.1 + 1)) 255, (gR ((dF (ow, ps, ws, rs) i.toNat).2.1 ++ rs.drop i.toNat) i.toNat).2.2.2.1, (gR ((dF (ow, ps, ws, rs) i.toNat).2.1 ++ rs.drop i.toNat) i.toNat).2.2.2.2) : Ra) (sumR (dF (ow, ps, ws, rs) i.toNat).1 (gR ((dF (ow, ps, ws, rs) i.toNat).2.1 ++ rs.drop i.toNat) i.toNat).1).1).1 - (gR ((dF (ow, ps, ws, rs) i.toNat).2.1 ++ rs.drop i.toNat) i.toNat).2.1)) (-2)) 2)) = rdScore (dF (ow, ps, ws, rs) i.toNat).1 (gR rs i.toNat) := by rw [hgc]; exact hsc
    have cr2 : (((gR ((dF (ow, ps, ws, rs) i.toNat).2.1 ++ rs.drop i.toNat) i.toNat).1, (IntKind.i64.wrap ((gR ((dF (ow, ps, ws, rs) i.toNat).2.1 ++ rs.drop i.toNat) i.toNat).2.1 + min2 (max2 (IntKind.i64.wrap ((scoreR (((gR ((dF (ow, ps, ws, rs) i.toNat).2.1 ++ rs.drop i.toNat) i.toNat).1, (gR ((dF (ow, ps, ws, rs) i.toNat).2.1 ++ rs.drop i.toNat) i.toNat).2.1, min2 (IntKind.i64.wrap ((gR ((dF (ow, ps, ws, rs) i.toNat).2.1 ++ rs.drop i.toNat) i.toNat).2.2.1 + 1)) 255, (gR ((dF (ow, ps, ws, rs) i.toNat).2.1 ++ rs.drop i.toNat) i.toNat).2.2.2.1, (gR ((dF (ow, ps, ws, rs) i.toNat).2.1 ++ rs.drop i.toNat) i.toNat).2.2.2.2) : Ra) (sumR (dF (ow, ps, ws, rs) i.toNat).1 (gR ((dF (ow, ps, ws, rs) i.toNat).2.1 ++ rs.drop i.toNat) i.toNat).1).1).1 - (gR ((dF (ow, ps, ws, rs) i.toNat).2.1 ++ rs.drop i.toNat) i.toNat).2.1)) (-2)) 2)), min2 (IntKind.i64.wrap ((gR ((dF (ow, ps, ws, rs) i.toNat).2.1 ++ rs.drop i.toNat) i.toNat).2.2.1 + 1)) 255, (gR ((dF (ow, ps, ws, rs) i.toNat).2.1 ++ rs.drop i.toNat) i.toNat).2.2.2.1, (gR ((dF (ow, ps, ws, rs) i.toNat).2.1 ++ rs.drop i.toNat) i.toNat).2.2.2.2) : Ra) = rd2 (dF (ow, ps, ws, rs) i.toNat).1 (gR rs i.toNat) := by rw [hgc]; exact hr2
    have cwt : (sumR (dF (ow, ps, ws, rs) i.toNat).1 (gR ((dF (ow, ps, ws, rs) i.toNat).2.1 ++ rs.drop i.toNat) i.toNat).1).1 = (sumR (dF (ow, ps, ws, rs) i.toNat).1 (gR rs i.toNat).1).1 := by rw [hgc]
    have cn : (IntKind.i64.wrap ((sumR (dF (ow, ps, ws, rs) i.toNat).1 (gR ((dF (ow, ps, ws, rs) i.toNat).2.1 ++ rs.drop i.toNat) i.toNat).1).1 - IntKind.i64.wrap ((IntKind.i64.wrap ((sumR (dF (ow, ps, ws, rs) i.toNat).1 (gR ((dF (ow, ps, ws, rs) i.toNat).2.1 ++ rs.drop i.toNat) i.toNat).1).1 + 15)).tdiv 16))) = rdN (dF (ow, ps, ws, rs) i.toNat).1 (gR rs i.toNat) := by rw [hgc]; exact hn
    have ctr : (Cg.trimR (dF (ow, ps, ws, rs) i.toNat).1 (gR ((dF (ow, ps, ws, rs) i.toNat).2.1 ++ rs.drop i.toNat) i.toNat).1 (IntKind.i64.wrap ((sumR (dF (ow, ps, ws, rs) i.toNat).1 (gR ((dF (ow, ps, ws, rs) i.toNat).2.1 ++ rs.drop i.toNat) i.toNat).1).1 - IntKind.i64.wrap ((IntKind.i64.wrap ((sumR (dF (ow, ps, ws, rs) i.toNat).1 (gR ((dF (ow, ps, ws, rs) i.toNat).2.1 ++ rs.drop i.toNat) i.toNat).1).1 + 15)).tdiv 16)))) = (Cg.trimR (dF (ow, ps, ws, rs) i.toNat).1 (gR rs i.toNat).1 (rdN (dF (ow, ps, ws, rs) i.toNat).1 (gR rs i.toNat))) := by rw [cn, hgc]
    have c16 : IntKind.i64.wrap (16 * (IntKind.i64.wrap ((gR ((dF (ow, ps, ws, rs) i.toNat).2.1 ++ rs.drop i.toNat) i.toNat).2.1 + min2 (max2 (IntKind.i64.wrap ((scoreR (((gR ((dF (ow, ps, ws, rs) i.toNat).2.1 ++ rs.drop i.toNat) i.toNat).1, (gR ((dF (ow, ps, ws, rs) i.toNat).2.1 ++ rs.drop i.toNat) i.toNat).2.1, min2 (IntKind.i64.wrap ((gR ((dF (ow, ps, ws, rs) i.toNat).2.1 ++ rs.drop i.toNat) i.toNat).2.2.1 + 1)) 255, (gR ((dF (ow, ps, ws, rs) i.toNat).2.1 ++ rs.drop i.toNat) i.toNat).2.2.2.1, (gR ((dF (ow, ps, ws, rs) i.toNat).2.1 ++ rs.drop i.toNat) i.toNat).2.2.2.2) : Ra) (sumR (dF (ow, ps, ws, rs) i.toNat).1 (gR ((dF (ow, ps, ws, rs) i.toNat).2.1 ++ rs.drop i.toNat) i.toNat).1).1).1 - (gR ((dF (ow, ps, ws, rs) i.toNat).2.1 ++ rs.drop i.toNat) i.toNat).2.1)) (-2)) 2))) = 16 * rdScore (dF (ow, ps, ws, rs) i.toNat).1 (gR rs i.toNat) := by rw [csc]; exact wrap_eq (by omega) (by omega)
    conv => whnf
    refine ⟨i0, ?_⟩
    conv => whnf
    refine ⟨show i < (((dF (ow, ps, ws, rs) i.toNat).2.1 ++ rs.drop i.toNat).length : Int) by omega, ?_⟩
    conv => whnf
    refine ⟨b1, ?_⟩
    conv => whnf
    refine ⟨i0, ?_⟩
    conv => whnf
    refine ⟨show i < (((dF (ow, ps, ws, rs) i.toNat).2.1 ++ rs.drop i.toNat).length : Int) by omega, ?_⟩
    conv => whnf
    refine cond_intro (fun c1 => ?_) (fun c1 => ?_)
    · have c1 : (IntKind.i64.wrap ((gR ((dF (ow, ps, ws, rs) i.toNat).2.1 ++ rs.drop i.toNat) i.toNat).2.1 + min2 (max2 (IntKind.i64.wrap ((scoreR (((gR ((dF (ow, ps, ws, rs) i.toNat).2.1 ++ rs.drop i.toNat) i.toNat).1, (gR ((dF (ow, ps, ws, rs) i.toNat).2.1 ++ rs.drop i.toNat) i.toNat).2.1, min2 (IntKind.i64.wrap ((gR ((dF (ow, ps, ws, rs) i.toNat).2.1 ++ rs.drop i.toNat) i.toNat).2.2.1 + 1)) 255, (gR ((dF (ow, ps, ws, rs) i.toNat).2.1 ++ rs.drop i.toNat) i.toNat).2.2.2.1, (gR ((dF (ow, ps, ws, rs) i.toNat).2.1 ++ rs.drop i.toNat) i.toNat).2.2.2.2) : Ra) (sumR (dF (ow, ps, ws, rs) i.toNat).1 (gR ((dF (ow, ps, ws, rs) i.toNat).2.1 ++ rs.drop i.toNat) i.toNat).1).1).1 - (gR ((dF (ow, ps, ws, rs) i.toNat).2.1 ++ rs.drop i.toNat) i.toNat).2.1)) (-2)) 2)) < 128 := @of_decide_eq_true _ _ c1
      rw [csc] at c1
      conv => whnf
      refine cond_intro (fun c2 => ?_) (fun c2 => ?_)
      · have c2 : IntKind.i64.wrap (16 * (IntKind.i64.wrap ((gR ((dF (ow, ps, ws, rs) i.toNat).2.1 ++ rs.drop i.toNat) i.toNat).2.1 + min2 (max2 (IntKind.i64.wrap ((scoreR (((gR ((dF (ow, ps, ws, rs) i.toNat).2.1 ++ rs.drop i.toNat) i.toNat).1, (gR ((dF (ow, ps, ws, rs) i.toNat).2.1 ++ rs.drop i.toNat) i.toNat).2.1, min2 (IntKind.i64.wrap ((gR ((dF (ow, ps, ws, rs) i.toNat).2.1 ++ rs.drop i.toNat) i.toNat).2.2.1 + 1)) 255, (gR ((dF (ow, ps, ws, rs) i.toNat).2.1 ++ rs.drop i.toNat) i.toNat).2.2.2.1, (gR ((dF (ow, ps, ws, rs) i.toNat).2.1 ++ rs.drop i.toNat) i.toNat).2.2.2.2) : Ra) (sumR (dF (ow, ps, ws, rs) i.toNat).1 (gR ((dF (ow, ps, ws, rs) i.toNat).2.1 ++ rs.drop i.toNat) i.toNat).1).1).1 - (gR ((dF (ow, ps, ws, rs) i.toNat).2.1 ++ rs.drop i.toNat) i.toNat).2.1)) (-2)) 2))) < (sumR (dF (ow, ps, ws, rs) i.toNat).1 (gR ((dF (ow, ps, ws, rs) i.toNat).2.1 ++ rs.drop i.toNat) i.toNat).1).1 := @of_decide_eq_true _ _ c2
        rw [c16, cwt] at c2
        conv => whnf
        refine ⟨show (16 : Int) ≠ 0 by decide, ?_⟩
        conv => whnf
        refine ⟨b1, ?_⟩
        conv => whnf
        refine ⟨show (IntKind.i64.wrap ((sumR (dF (ow, ps, ws, rs) i.toNat).1 (gR ((dF (ow, ps, ws, rs) i.toNat).2.1 ++ rs.drop i.toNat) i.toNat).1).1 - IntKind.i64.wrap ((IntKind.i64.wrap ((sumR (dF (ow, ps, ws, rs) i.toNat).1 (gR ((dF (ow, ps, ws, rs) i.toNat).2.1 ++ rs.drop i.toNat) i.toNat).1).1 + 15)).tdiv 16))) ≤ 9223372036854775807 by rw [cn]; unfold rdN; omega, ?_⟩
        have hwl : IntKind.i64.wrap ((dF (ow, ps, ws, rs) i.toNat).2.2 + (Cg.trimR (dF (ow, ps, ws, rs) i.toNat).1 (gR rs i.toNat).1 (rdN (dF (ow, ps, ws, rs) i.toNat).1 (gR rs i.toNat))).2.1) = (dF (ow, ps, ws, rs) i.toNat).2.2 + (Cg.trimR (dF (ow, ps, ws, rs) i.toNat).1 (gR rs i.toNat).1 (rdN (dF (ow, ps, ws, rs) i.toNat).1 (gR rs i.toNat))).2.1 := wrap_eq (by omega) (by omega)
        conv => whnf
        refine ⟨i + 1, ?_, ⟨by omega, by omega⟩, by omega⟩
        exact Eq.trans (b := S34 ow ps rs.length (Cg.trimR (dF (ow, ps, ws, rs) i.toNat).1 (gR ((dF (ow, ps, ws, rs) i.toNat).2.1 ++ rs.drop i.toNat) i.toNat).1 (IntKind.i64.wrap ((sumR (dF (ow, ps, ws, rs) i.toNat).1 (gR ((dF (ow, ps, ws, rs) i.toNat).2.1 ++ rs.drop i.toNat) i.toNat).1).1 - IntKind.i64.wrap ((IntKind.i64.wrap ((sumR (dF (ow, ps, ws, rs) i.toNat).1 (gR ((dF (ow, ps, ws, rs) i.toNat).2.1 ++ rs.drop i.toNat) i.toNat).1).1 + 15)).tdiv 16)))).1 (((dF (ow, ps, ws, rs) i.toNat).2.1 ++ rs.drop i.toNat).set i.toNat (((gR ((dF (ow, ps, ws, rs) i.toNat).2.1 ++ rs.drop i.toNat) i.toNat).1, (IntKind.i64.wrap ((gR ((dF (ow, ps, ws, rs) i.toNat).2.1 ++ rs.drop i.toNat) i.toNat).2.1 + min2 (max2 (IntKind.i64.wrap ((scoreR (((gR ((dF (ow, ps, ws, rs) i.toNat).2.1 ++ rs.drop i.toNat) i.toNat).1, (gR ((dF (ow, ps, ws, rs) i.toNat).2.1 ++ rs.drop i.toNat) i.toNat).2.1, min2 (IntKind.i64.wrap ((gR ((dF (ow, ps, ws, rs) i.toNat).2.1 ++ rs.drop i.toNat) i.toNat).2.2.1 + 1)) 255, (gR ((dF (ow, ps, ws, rs) i.toNat).2.1 ++ rs.drop i.toNat) i.toNat).2.2.2.1, (gR ((dF (ow, ps, ws, rs) i.toNat).2.1 ++ rs.drop i.toNat) i.toNat).2.2.2.2) : Ra) (sumR (dF (ow, ps, ws, rs) i.toNat).1 (gR ((dF (ow, ps, ws, rs) i.toNat).2.1 ++ rs.drop i.toNat) i.toNat).1).1).1 - (gR ((dF (ow, ps, ws, rs) i.toNat).2.1 ++ rs.drop i.toNat) i.toNat).2.1)) (-2)) 2)), min2 (IntKind.i64.wrap ((gR ((dF (ow, ps, ws, rs) i.toNat).2.1 ++ rs.drop i.toNat) i.toNat).2.2.1 + 1)) 255, (gR ((dF (ow, ps, ws, rs) i.toNat).2.1 ++ rs.drop i.toNat) i.toNat).2.2.2.1, (gR ((dF (ow, ps, ws, rs) i.toNat).2.1 ++ rs.drop i.toNat) i.toNat).2.2.2.2) : Ra)) (IntKind.i64.wrap ((dF (ow, ps, ws, rs) i.toNat).2.2 + (Cg.trimR (dF (ow, ps, ws, rs) i.toNat).1 (gR ((dF (ow, ps, ws, rs) i.toNat).2.1 ++ rs.drop i.toNat) i.toNat).1 (IntKind.i64.wrap ((sumR (dF (ow, ps, ws, rs) i.toNat).1 (gR ((dF (ow, ps, ws, rs) i.toNat).2.1 ++ rs.drop i.toNat) i.toNat).1).1 - IntKind.i64.wrap ((IntKind.i64.wrap ((sumR (dF (ow, ps, ws, rs) i.toNat).1 (gR ((dF (ow, ps, ws, rs) i.toNat).2.1 ++ rs.drop i.toNat) i.toNat).1).1 + 15)).tdiv 16)))).2.1)) (IntKind.i64.wrap (i + 1))) rfl (by rw [hw, ei, dF_succ (s := (ow, ps, ws, rs)) (by exact hil), stD, hset, cr2, ctr, hwl, if_pos (show rdScore (dF (ow, ps, ws, rs) i.toNat).1 (gR rs i.toNat) < 128 ∧ 16 * rdScore (dF (ow, ps, ws, rs) i.toNat).1 (gR rs i.toNat) < (sumR (dF (ow, ps, ws, rs) i.toNat).1 (gR rs i.toNat).1).1 from ⟨c1, c2⟩)]; try rfl)
      have c2 : ¬ (IntKind.i64.wrap (16 * (IntKind.i64.wrap ((gR ((dF (ow, ps, ws, rs) i.toNat).2.1 ++ rs.drop i.toNat) i.toNat).2.1 + min2 (max2 (IntKind.i64.wrap ((scoreR (((gR ((dF (ow, ps, ws, rs) i.toNat).2.1 ++ rs.drop i.toNat) i.toNat).1, (gR ((dF (ow, ps, ws, rs) i.toNat).2.1 ++ rs.drop i.toNat) i.toNat).2.1, min2 (IntKind.i64.wrap ((gR ((dF (ow, ps, ws, rs) i.toNat).2.1 ++ rs.drop i.toNat) i.toNat).2.2.1 + 1)) 255, (gR ((dF (ow, ps, ws, rs) i.toNat).2.1 ++ rs.drop i.toNat) i.toNat).2.2.2.1, (gR ((dF (ow, ps, ws, rs) i.toNat).2.1 ++ rs.drop i.toNat) i.toNat).2.2.2.2) : Ra) (sumR (dF (ow, ps, ws, rs) i.toNat).1 (gR ((dF (ow, ps, ws, rs) i.toNat).2.1 ++ rs.drop i.toNat) i.toNat).1).1).1 - (gR ((dF (ow, ps, ws, rs) i.toNat).2.1 ++ rs.drop i.toNat) i.toNat).2.1)) (-2)) 2))) < (sumR (dF (ow, ps, ws, rs) i.toNat).1 (gR ((dF (ow, ps, ws, rs) i.toNat).2.1 ++ rs.drop i.toNat) i.toNat).1).1) := @of_decide_eq_false _ _ c2
      rw [c16, cwt] at c2
      conv => whnf
      refine ⟨i + 1, ?_, ⟨by omega, by omega⟩, by omega⟩
      exact Eq.trans (b := S34 ow ps rs.length (dF (ow, ps, ws, rs) i.toNat).1 (((dF (ow, ps, ws, rs) i.toNat).2.1 ++ rs.drop i.toNat).set i.toNat (((gR ((dF (ow, ps, ws, rs) i.toNat).2.1 ++ rs.drop i.toNat) i.toNat).1, (IntKind.i64.wrap ((gR ((dF (ow, ps, ws, rs) i.toNat).2.1 ++ rs.drop i.toNat) i.toNat).2.1 + min2 (max2 (IntKind.i64.wrap ((scoreR (((gR ((dF (ow, ps, ws, rs) i.toNat).2.1 ++ rs.drop i.toNat) i.toNat).1, (gR ((dF (ow, ps, ws, rs) i.toNat).2.1 ++ rs.drop i.toNat) i.toNat).2.1, min2 (IntKind.i64.wrap ((gR ((dF (ow, ps, ws, rs) i.toNat).2.1 ++ rs.drop i.toNat) i.toNat).2.2.1 + 1)) 255, (gR ((dF (ow, ps, ws, rs) i.toNat).2.1 ++ rs.drop i.toNat) i.toNat).2.2.2.1, (gR ((dF (ow, ps, ws, rs) i.toNat).2.1 ++ rs.drop i.toNat) i.toNat).2.2.2.2) : Ra) (sumR (dF (ow, ps, ws, rs) i.toNat).1 (gR ((dF (ow, ps, ws, rs) i.toNat).2.1 ++ rs.drop i.toNat) i.toNat).1).1).1 - (gR ((dF (ow, ps, ws, rs) i.toNat).2.1 ++ rs.drop i.toNat) i.toNat).2.1)) (-2)) 2)), min2 (IntKind.i64.wrap ((gR ((dF (ow, ps, ws, rs) i.toNat).2.1 ++ rs.drop i.toNat) i.toNat).2.2.1 + 1)) 255, (gR ((dF (ow, ps, ws, rs) i.toNat).2.1 ++ rs.drop i.toNat) i.toNat).2.2.2.1, (gR ((dF (ow, ps, ws, rs) i.toNat).2.1 ++ rs.drop i.toNat) i.toNat).2.2.2.2) : Ra)) (dF (ow, ps, ws, rs) i.toNat).2.2 (IntKind.i64.wrap (i + 1))) rfl (by rw [hw, ei, dF_succ (s := (ow, ps, ws, rs)) (by exact hil), stD, hset, cr2, if_neg (show ¬ (rdScore (dF (ow, ps, ws, rs) i.toNat).1 (gR rs i.toNat) < 128 ∧ 16 * rdScore (dF (ow, ps, ws, rs) i.toNat).1 (gR rs i.toNat) < (sumR (dF (ow, ps, ws, rs) i.toNat).1 (gR rs i.toNat).1).1) from fun h => c2 h.2)]; try rfl)
    have c1 : ¬ ((IntKind.i64.wrap ((gR ((dF (ow, ps, ws, rs) i.toNat).2.1 ++ rs.drop i.toNat) i.toNat).2.1 + min2 (max2 (IntKind.i64.wrap ((scoreR (((gR ((dF (ow, ps, ws, rs) i.toNat).2.1 ++ rs.drop i.toNat) i.toNat).1, (gR ((dF (ow, ps, ws, rs) i.toNat).2.1 ++ rs.drop i.toNat) i.toNat).2.1, min2 (IntKind.i64.wrap ((gR ((dF (ow, ps, ws, rs) i.toNat).2.1 ++ rs.drop i.toNat) i.toNat).2.2.1 + 1)) 255, (gR ((dF (ow, ps, ws, rs) i.toNat).2.1 ++ rs.drop i.toNat) i.toNat).2.2.2.1, (gR ((dF (ow, ps, ws, rs) i.toNat).2.1 ++ rs.drop i.toNat) i.toNat).2.2.2.2) : Ra) (sumR (dF (ow, ps, ws, rs) i.toNat).1 (gR ((dF (ow, ps, ws, rs) i.toNat).2.1 ++ rs.drop i.toNat) i.toNat).1).1).1 - (gR ((dF (ow, ps, ws, rs) i.toNat).2.1 ++ rs.drop i.toNat) i.toNat).2.1)) (-2)) 2)) < 128) := @of_decide_eq_false _ _ c1
    rw [csc] at c1
    conv => whnf
    refine ⟨i + 1, ?_, ⟨by omega, by omega⟩, by omega⟩
    exact Eq.trans (b := S34 ow ps rs.length (dF (ow, ps, ws, rs) i.toNat).1 (((dF (ow, ps, ws, rs) i.toNat).2.1 ++ rs.drop i.toNat).set i.toNat (((gR ((dF (ow, ps, ws, rs) i.toNat).2.1 ++ rs.drop i.toNat) i.toNat).1, (IntKind.i64.wrap ((gR ((dF (ow, ps, ws, rs) i.toNat).2.1 ++ rs.drop i.toNat) i.toNat).2.1 + min2 (max2 (IntKind.i64.wrap ((scoreR (((gR ((dF (ow, ps, ws, rs) i.toNat).2.1 ++ rs.drop i.toNat) i.toNat).1, (gR ((dF (ow, ps, ws, rs) i.toNat).2.1 ++ rs.drop i.toNat) i.toNat).2.1, min2 (IntKind.i64.wrap ((gR ((dF (ow, ps, ws, rs) i.toNat).2.1 ++ rs.drop i.toNat) i.toNat).2.2.1 + 1)) 255, (gR ((dF (ow, ps, ws, rs) i.toNat).2.1 ++ rs.drop i.toNat) i.toNat).2.2.2.1, (gR ((dF (ow, ps, ws, rs) i.toNat).2.1 ++ rs.drop i.toNat) i.toNat).2.2.2.2) : Ra) (sumR (dF (ow, ps, ws, rs) i.toNat).1 (gR ((dF (ow, ps, ws, rs) i.toNat).2.1 ++ rs.drop i.toNat) i.toNat).1).1).1 - (gR ((dF (ow, ps, ws, rs) i.toNat).2.1 ++ rs.drop i.toNat) i.toNat).2.1)) (-2)) 2)), min2 (IntKind.i64.wrap ((gR ((dF (ow, ps, ws, rs) i.toNat).2.1 ++ rs.drop i.toNat) i.toNat).2.2.1 + 1)) 255, (gR ((dF (ow, ps, ws, rs) i.toNat).2.1 ++ rs.drop i.toNat) i.toNat).2.2.2.1, (gR ((dF (ow, ps, ws, rs) i.toNat).2.1 ++ rs.drop i.toNat) i.toNat).2.2.2.2) : Ra)) (dF (ow, ps, ws, rs) i.toNat).2.2 (IntKind.i64.wrap (i + 1))) rfl (by rw [hw, ei, dF_succ (s := (ow, ps, ws, rs)) (by exact hil), stD, hset, cr2, if_neg (show ¬ (rdScore (dF (ow, ps, ws, rs) i.toNat).1 (gR rs i.toNat) < 128 ∧ 16 * rdScore (dF (ow, ps, ws, rs) i.toNat).1 (gR rs i.toNat) < (sumR (dF (ow, ps, ws, rs) i.toNat).1 (gR rs i.toNat).1).1) from fun h => c1 h.1)]; try rfl)
  have hlt : ¬ (i < (rs.length : Int)) := @of_decide_eq_false _ _ hlt
  have ei : i.toNat = rs.length := by omega
  conv => whnf
  show ((ow, ps, (dF (ow, ps, ws, rs) i.toNat).1, ((dF (ow, ps, ws, rs) i.toNat).2.1 ++ rs.drop i.toNat)), (dF (ow, ps, ws, rs) i.toNat).2.2, (0 : Int)) = dayR (ow, ps, ws, rs)
  rw [dayR, if_neg (by simp [hv]), ei, List.drop_length, List.append_nil]
end
end Go.Proofs.Yteidanhfkaljaaa.Eng
set_option linter.unusedVariables false
set_option linter.unusedSimpArgs false
namespace Go.Proofs.Yteidanhfkaljaaa.Eng
open Go
set_option maxRecDepth 100000
noncomputable section
open Go.RowKit
structure RdP (r r' : Ra) : Prop where
  c : r'.1 = r.1
  lo : r.2.1 - 2 ≤ r'.2.1
  hi : r'.2.1 ≤ r.2.1 + 2
  b : 0 ≤ r'.2.1 ∧ r'.2.1 ≤ 255
  d : r'.2.2.1 = min2 (r.2.2.1 + 1) 255
  e : r'.2.2.2 = r.2.2.2
theorem rd2_ok {W : List Pa} {r : Ra} (h : ratedR r = true) : RdP r (rd2 W r) := by
  obtain ⟨_, ⟨s0, s1⟩, _⟩ := (rated_iff r).1 h
  have htb := score_bd (rd1 r) (sumR W r.1).1
  have k1 : r.2.1 - 2 ≤ rdScore W r ∧ rdScore W r ≤ r.2.1 + 2 ∧ 0 ≤ rdScore W r ∧ rdScore W r ≤ 255 := by
    unfold rdScore
    refine ⟨?_, ?_, ?_, ?_⟩ <;> (unfold min2 max2; repeat' split) <;> omega
  exact ⟨rfl, k1.1, k1.2.1, ⟨k1.2.2.1, k1.2.2.2⟩, rfl, rfl⟩
/-- What is so while a day goes through the ratings. -/
structure DInv (s : St) (i : Nat) : Prop where
  w : cargoR (dF s i).1 = 0
  u : unitsR (dF s i).1 + (dF s i).2.2 = unitsR s.2.2.1
  l : 0 ≤ (dF s i).2.2
  n : (dF s i).2.1.length = i
  e : ∀ j, j < i → RdP (gR s.2.2.2 j) (gR (dF s i).2.1 j)
theorem gR_app {a : List Ra} {x : Ra} {j : Nat} : gR (a ++ [x]) j = if j < a.length then gR a j else if j = a.length then x else (0, 0, 0, 0, 0) := by
  unfold gR
  rw [List.getD_eq_getElem?_getD, List.getD_eq_getElem?_getD]
  split
  · rename_i h; rw [List.getElem?_append_left h]
  · rename_i h
    rw [List.getElem?_append_right (by omega)]
    split
    · rename_i e; subst e; simp
    · rename_i e
      rw [List.getElem?_eq_none (by simp; omega)]; rfl
theorem dF_inv {s : St} (hv : validR s = 0) : ∀ i : Nat, i ≤ s.2.2.2.length → DInv s i
  | 0, _ => by
    obtain ⟨_, _, _, v4, _, _⟩ := valid_iff.1 hv
    have key : cargoR (oldW s.2.2.1) = 0 ∧ unitsR (oldW s.2.2.1) = unitsR s.2.2.1 := by
      unfold oldW
      split
      · rename_i h
        obtain ⟨_, _, h3, h4⟩ := Cg.older_zero h
        have hs := (Cg.older_sum h).1
        have h5 : Cg.cargoR (Cg.olderR s.2.2.1 1).1 = 0 := by rw [h4]; exact h3
        exact ⟨h5, by rw [units_cnt h5, units_cnt v4]; exact hs⟩
      · exact ⟨v4, rfl⟩
    exact ⟨key.1, by show unitsR (oldW s.2.2.1) + 0 = _; rw [key.2]; omega, Int.le_refl _, rfl, fun j hj => by omega⟩
  | i + 1, h => by
    have ih := dF_inv hv i (by omega)
    obtain ⟨_, _, _, _, _, v6⟩ := valid_iff.1 hv
    have hr : ratedR (gR s.2.2.2 i) = true := by rw [gR_at (show i < s.2.2.2.length by omega)]; exact v6.1 _ (List.getElem_mem _)
    have hsb := sumR_bnd (dF s i).1 (gR s.2.2.2 i).1
    have hn : 0 ≤ rdN (dF s i).1 (gR s.2.2.2 i) := by unfold rdN; omega
    obtain ⟨t1, t2⟩ := Cg.trim_valid (k := (gR s.2.2.2 i).1) (n := rdN (dF s i).1 (gR s.2.2.2 i)) ih.w hn
    obtain ⟨_, _, t3, _, t4, _⟩ := Cg.trim_ok t1
    have hd := stD_done (dF s i) (gR s.2.2.2 i)
    have hel : ∀ j, j < i + 1 → RdP (gR s.2.2.2 j) (gR ((dF s i).2.1 ++ [rd2 (dF s i).1 (gR s.2.2.2 i)]) j) := fun j hj => by
      rw [gR_app, ih.n]
      split
      · rename_i h1; exact ih.e j h1
      · have e : j = i := by omega
        subst e
        rw [if_pos rfl]
        exact rd2_ok hr
    have hu := ih.u
    rw [units_cnt ih.w] at hu
    have e := dF_succ (s := s) (i := i) (by omega)
    by_cases hc : rdScore (dF s i).1 (gR s.2.2.2 i) < 128 ∧ 16 * rdScore (dF s i).1 (gR s.2.2.2 i) < (sumR (dF s i).1 (gR s.2.2.2 i).1).1
    · rw [stD, if_pos hc] at e
      rw [stD, if_pos hc] at hd
      refine ⟨by rw [e]; exact t2, ?_, by rw [e]; show 0 ≤ (dF s i).2.2 + _; have := ih.l; omega, by rw [e]; simp [ih.n], fun j hj => by rw [e]; exact hel j hj⟩
      rw [e]
      show unitsR (Cg.trimR _ _ _).1 + ((dF s i).2.2 + _) = _
      rw [units_cnt t2]; omega
    · rw [stD, if_neg hc] at e
      refine ⟨by rw [e]; exact ih.w, ?_, by rw [e]; exact ih.l, by rw [e]; simp [ih.n], fun j hj => by rw [e]; exact hel j hj⟩
      rw [e]; exact ih.u
structure DayOk (s s' : St) (lost : Int) : Prop where
  v : validR s' = 0
  l : 0 ≤ lost
  p : s'.2.1 = s.2.1
  n : s'.2.2.2.length = s.2.2.2.length
  e : ∀ j, j < s.2.2.2.length → RdP (gR s.2.2.2 j) (gR s'.2.2.2 j)
  u : unitsR s'.2.2.1 + lost = unitsR s.2.2.1
theorem day_ok {s : St} (hv : validR s = 0) : (dayR s).2.2 = 0 ∧ DayOk s (dayR s).1 (dayR s).2.1 := by
  have I := dF_inv hv s.2.2.2.length (Nat.le_refl _)
  have e : dayR s = ((s.1, s.2.1, (dF s s.2.2.2.length).1, (dF s s.2.2.2.length).2.1), (dF s s.2.2.2.length).2.2, 0) := by rw [dayR, if_neg (by simp [hv])]
  obtain ⟨v1, v2, v3, v4, v5, v6⟩ := valid_iff.1 hv
  rw [e]
  refine ⟨rfl, valid_iff.2 ⟨v1, v2, v3, I.w, v5, fun r hr => ?_, ?_⟩, I.l, rfl, I.n, I.e, I.u⟩
  · obtain ⟨j, hj, rfl⟩ := List.getElem_of_mem hr
    have hj' : j < s.2.2.2.length := by have := I.n; have hj : j < (dF s s.2.2.2.length).2.1.length := hj; omega
    have q := I.e j hj'
    have ho : ratedR (gR s.2.2.2 j) = true := by rw [gR_at hj']; exact v6.1 _ (List.getElem_mem _)
    rw [rated_iff] at ho
    have hg : gR (dF s s.2.2.2.length).2.1 j = (dF s s.2.2.2.length).2.1[j]'hj := gR_at hj
    rw [hg] at q
    refine (rated_iff _).2 ⟨by rw [q.c]; exact ho.1, q.b, ?_, by rw [q.e]; exact ho.2.2.2.1, by rw [q.e]; exact ho.2.2.2.2⟩
    rw [q.d]; unfold min2; split <;> omega
  · show (dF s s.2.2.2.length).2.1.Pairwise _
    rw [List.pairwise_iff_getElem]
    intro i j hi hj hij
    have hn := I.n
    have q1 := I.e i (by omega)
    have q2 := I.e j (by omega)
    rw [gR_at hi] at q1
    rw [gR_at hj] at q2
    rw [q1.c, q2.c, gR_at (show i < s.2.2.2.length by omega), gR_at (show j < s.2.2.2.length by omega)]
    exact List.pairwise_iff_getElem.1 v6.2 i j (by omega) (by omega) hij
end
end Go.Proofs.Yteidanhfkaljaaa.Eng
set_option linter.unusedVariables false
set_option linter.unusedSimpArgs false
namespace Go.Proofs.Yteidanhfkaljaaa.Eng
open Go
set_option maxRecDepth 100000
noncomputable section
open Go.RowKit
def H11 (own : Bool) (s : St) : List (Nat × Ob) := match own with
  | false => [(0, .box [.int .i64 s.1, .sl plT s.2.1, .sl paT s.2.2.1, .sl raT s.2.2.2])]
  | true => [(0, .box [.int .i64 s.1, .own 1, .own 2, .own 3]), (1, .arr plT s.2.1), (2, .arr paT s.2.2.1), (3, .arr raT s.2.2.2)]
def S11 (all m : Int) (x : Bool × St × Int × Int) : SL :=
  ⟨[.undef, .undef, .ptr 0 0 0, .undef, .undef, .int .i64 all, .int .i64 x.2.2.1] ++ List.replicate 17 .undef ++ [.int .i64 m, .int .i64 x.2.2.2] ++ List.replicate 95 .undef, H11 x.1 x.2.1, match x.1 with | false => 1 | true => 4⟩
def H11b (own : Bool) (s s' : St) : List (Nat × Ob) := match own with
  | false => [(0, .box [.int .i64 s.1, .sl plT s.2.1, .sl paT s.2.2.1, .sl raT s.2.2.2]), (1, .box [.int .i64 s'.1, .own 3, .own 4, .own 2]), (2, .arr raT s'.2.2.2), (3, .arr plT s'.2.1), (4, .arr paT s'.2.2.1)]
  | true => [(0, .box [.int .i64 s.1, .own 3, .own 4, .own 5]), (1, .box [.int .i64 s'.1, .own 6, .own 7, .own 2]), (2, .arr raT s'.2.2.2), (3, .arr plT s.2.1), (4, .arr paT s.2.2.1), (5, .arr raT s.2.2.2), (6, .arr plT s'.2.1), (7, .arr paT s'.2.2.1)]
def T11 (all m : Int) (own : Bool) (s : St) (gone i : Int) (s' : St) (lost j : Int) : SL :=
  ⟨[.undef, .undef, .ptr 0 0 0, .undef, .undef, .int .i64 all, .int .i64 gone, .ptr 1 0 0, .int .i64 lost] ++ List.replicate 15 .undef ++ [.int .i64 m, .int .i64 i] ++ List.replicate 28 .undef ++ [.own 2, .int .i64 s'.2.2.2.length, .int .i64 j] ++ List.replicate 64 .undef, H11b own s s', match own with | false => 5 | true => 8⟩
structure V11 (all : Int) (n : Nat) (x : Bool × St × Int × Int) : Prop where
  v : validR x.2.1 = 0
  n : x.2.1.2.2.2.length = n
  u : unitsR x.2.1.2.2.1 + x.2.2.1 = all
  g : 0 ≤ x.2.2.1
  i : 0 ≤ x.2.2.2
theorem valid_len {s : St} (h : validR s = 0) : s.2.1.length ≤ 100000 ∧ s.2.2.1.length ≤ 100000 ∧ cargoR s.2.2.1 = 0 := by
  obtain ⟨v1, _, _, v4, _, _⟩ := valid_iff.1 h
  obtain ⟨h1, _, _⟩ := (Cg.cargo_zero _).1 v4
  exact ⟨by omega, by omega, v4⟩
def E11 : Env := ⟨tab, [(16, K16), (23, K23), (12, K12), (25, K25), (34, K34)], fun n => match n with | 5 => some ([2, 5, 6, 24, 25], [], []) | 10 => some ([2, 5, 6, 7, 8, 24, 25, 54, 55, 56], [], []) | _ => none⟩
def K11 : Fn1 := ⟨.fld stT (.one I), .one .bool, fun _ => [], fun _ => true⟩
set_option maxHeartbeats 4000000 in
theorem k11 : FnOk Go.Proofs.Try.prog 11 K11 := by
  refine fn_ok (E := E11) (TOk.of tab_told) (AllOk.cons k16 (.cons k23 (.cons k12 (.cons k25 (.cons k34 .nil))))).at_ mix Go.Proofs.Try.func11 rfl rfl (by kernel_rfl) K11 ?_
  rintro ⟨⟨(ow : Int), (ps : List Pl), (ws : List Pa), (rs : List Ra)⟩, (days : Int)⟩ hp
  clear hp
  conv => whnf
  refine cond_intro (fun hg => ?_) (fun hg => ?_)
  · have hg : (largeR (ow, ps, ws, rs)) = true := hg
    conv => whnf
    show true = true
    rfl
  have hg : (largeR (ow, ps, ws, rs)) = false := hg
  obtain ⟨l1, l2, l3⟩ := not_large hg
  have g1 : ps.length ≤ 100000 := by simp only at l1; omega
  have g2 : ws.length ≤ 100000 := by simp only at l2; omega
  have g3 : rs.length ≤ 2000 := by simp only at l3; omega
  have g4 : rs.length ≤ 100000 := by omega
  conv => whnf
  refine ⟨g1, ?_⟩
  conv => whnf
  refine ⟨g2, ?_⟩
  conv => whnf
  refine ⟨g4, ?_⟩
  conv => whnf
  refine cond_intro (fun hv => ?_) (fun hv => ?_)
  · have hv : (!decide (validR (ow, ps, ws, rs) = 0)) = true := hv
    have hv : ¬ (validR (ow, ps, ws, rs) = 0) := fun e => absurd hv (by rw [decide_eq_true e]; decide)
    conv => whnf
    show true = true
    rfl
  have hv : (!decide (validR (ow, ps, ws, rs) = 0)) = false := hv
  have hv : validR (ow, ps, ws, rs) = 0 := Decidable.byContradiction fun e => absurd hv (by rw [decide_eq_false e]; decide)
  conv => whnf
  refine ⟨g2, ?_⟩
  conv => whnf
  refine loop_rule (fun x : Bool × St × Int × Int => S11 (unitsR ws) (min2 days 40) x) (fun x => ((min2 days 40) - x.2.2.2).toNat) (V11 (unitsR ws) rs.length) ?_ (false, (ow, ps, ws, rs), 0, 0) (by kernel_rfl) ?_ ⟨hv, rfl, Int.add_zero _, Int.le_refl _, Int.le_refl _⟩
  case refine_2 => rfl
  rintro ⟨own, ⟨(a : Int), (b : List Pl), (c : List Pa), (d : List Ra)⟩, (g : Int), (i : Int)⟩ V
  have vv : validR (a, b, c, d) = 0 := V.v
  have vn : d.length = rs.length := V.n
  have vu : unitsR c + g = unitsR ws := V.u
  have vg : 0 ≤ g := V.g
  have vi : 0 ≤ i := V.i
  obtain ⟨f1, f2, f3⟩ := valid_len vv
  obtain ⟨_, _, _, _, _, v6⟩ := valid_iff.1 vv
  obtain ⟨DE, DK⟩ := day_ok vv
  obtain ⟨e1, e2, e3⟩ := valid_len DK.v
  have k1 := DK.l
  have k2 : (dayR (a, b, c, d)).1.2.2.2.length = d.length := DK.n
  have k3 : unitsR (dayR (a, b, c, d)).1.2.2.1 + (dayR (a, b, c, d)).2.1 = unitsR c := DK.u
  have k4 := units_pos f3
  have k5 := units_pos e3
  have k6 := units_pos (valid_len hv).2.2
  simp only at f1 f2 k4 k6
  cases own
  · conv => whnf
    refine cond_intro (fun hi => ?_) (fun hi => ?_)
    · have hi : i < (min2 days 40) := @of_decide_eq_true _ _ hi
      have hm40 : (min2 days 40) ≤ 40 := by unfold min2; split <;> omega
      have hwi : IntKind.i64.wrap (i + 1) = i + 1 := wrap_eq (by omega) (by omega)
      conv => whnf
      refine ⟨f1, ?_⟩
      conv => whnf
      refine ⟨f2, ?_⟩
      conv => whnf
      refine ⟨show d.length ≤ 100000 by omega, ?_⟩
      conv => whnf
      refine cond_intro (fun p1 => ?_) (fun p1 => ?_)
      · have p1 : (!decide ((dayR (a, b, c, d)).2.2 = 0)) = true := p1
        have p1 : ¬ ((dayR (a, b, c, d)).2.2 = 0) := fun e => absurd p1 (by rw [decide_eq_true e]; decide)
        exact absurd DE p1
      have p1 : (!decide ((dayR (a, b, c, d)).2.2 = 0)) = false := p1
      have p1 : (dayR (a, b, c, d)).2.2 = 0 := Decidable.byContradiction fun e => absurd p1 (by rw [decide_eq_false e]; decide)
      conv => whnf
      refine cond_intro (fun p2 => ?_) (fun p2 => ?_)
      · have p2 : (dayR (a, b, c, d)).2.1 < 0 := @of_decide_eq_true _ _ p2
        exfalso; omega
      have p2 : ¬ ((dayR (a, b, c, d)).2.1 < 0) := @of_decide_eq_false _ _ p2
      conv => whnf
      refine ⟨e1, ?_⟩
      conv => whnf
      refine ⟨e2, ?_⟩
      conv => whnf
      refine ⟨show (dayR (a, b, c, d)).1.2.2.2.length ≤ 100000 by omega, ?_⟩
      conv => whnf
      refine cond_intro (fun p3 => ?_) (fun p3 => ?_)
      · have p3 : (!decide (validR (dayR (a, b, c, d)).1 = 0)) = true := p3
        have p3 : ¬ (validR (dayR (a, b, c, d)).1 = 0) := fun e => absurd p3 (by rw [decide_eq_true e]; decide)
        exact absurd DK.v p3
      have p3 : (!decide (validR (dayR (a, b, c, d)).1 = 0)) = false := p3
      have p3 : validR (dayR (a, b, c, d)).1 = 0 := Decidable.byContradiction fun e => absurd p3 (by rw [decide_eq_false e]; decide)
      conv => whnf
      refine cond_intro (fun p4 => ?_) (fun p4 => ?_)
      · have p4 : (!decide (((dayR (a, b, c, d)).1.2.2.2.length : Int) = d.length)) = true := p4
        have p4 : ¬ (((dayR (a, b, c, d)).1.2.2.2.length : Int) = d.length) := fun e => absurd p4 (by rw [decide_eq_true e]; decide)
        exfalso; omega
      have p4 : (!decide (((dayR (a, b, c, d)).1.2.2.2.length : Int) = d.length)) = false := p4
      have p4 : ((dayR (a, b, c, d)).1.2.2.2.length : Int) = d.length := Decidable.byContradiction fun e => absurd p4 (by rw [decide_eq_false e]; decide)
      conv => whnf
      refine loop_rule (fun j : Int => T11 (unitsR ws) (min2 days 40) false (a, b, c, d) g i (dayR (a, b, c, d)).1 (dayR (a, b, c, d)).2.1 j) (fun j => ((dayR (a, b, c, d)).1.2.2.2.length - j).toNat) (fun j => 0 ≤ j ∧ j ≤ (dayR (a, b, c, d)).1.2.2.2.length) ?_ 0 (by kernel_rfl) ?_ ⟨by omega, by omega⟩
      case refine_2 => rfl
      rintro j ⟨j0, j1⟩
      conv => whnf
      refine cond_intro (fun hj => ?_) (fun hj => ?_)
      · have hj : j < ((dayR (a, b, c, d)).1.2.2.2.length : Int) := @of_decide_eq_true _ _ hj
        have hwj : IntKind.i64.wrap (j + 1) = j + 1 := wrap_eq (by omega) (by omega)
        have E : RdP (gR d j.toNat) (gR (dayR (a, b, c, d)).1.2.2.2 j.toNat) := DK.e j.toNat (by show j.toNat < d.length; omega)
        have ho : ratedR (gR d j.toNat) = true := by rw [gR_at (show j.toNat < d.length by omega)]; exact v6.1 _ (List.getElem_mem _)
        rw [rated_iff] at ho
        have E1 := E.lo
        have E2 := E.hi
        have E3 := E.d
        have x1 : (IntKind.i64.wrap ((gR d j.toNat).2.1 + 2)) = (gR d j.toNat).2.1 + 2 := wrap_eq (by omega) (by omega)
        have x2 : (IntKind.i64.wrap ((gR d j.toNat).2.1 - 2)) = (gR d j.toNat).2.1 - 2 := wrap_eq (by omega) (by omega)
        have x3 : (IntKind.i64.wrap ((gR d j.toNat).2.2.1 + 1)) = (gR d j.toNat).2.2.1 + 1 := wrap_eq (by omega) (by omega)
        conv => whnf
        refine ⟨j0, ?_⟩
        conv => whnf
        refine ⟨show j < ((dayR (a, b, c, d)).1.2.2.2.length : Int) by omega, ?_⟩
        conv => whnf
        refine ⟨j0, ?_⟩
        conv => whnf
        refine ⟨show j < (d.length : Int) by omega, ?_⟩
        conv => whnf
        refine cond_intro (fun y1 => ?_) (fun y1 => ?_)
        · have y1 : (!decide ((gR (dayR (a, b, c, d)).1.2.2.2 j.toNat).1 = (gR d j.toNat).1)) = true := y1
          have y1 : ¬ ((gR (dayR (a, b, c, d)).1.2.2.2 j.toNat).1 = (gR d j.toNat).1) := fun e => absurd y1 (by rw [decide_eq_true e]; decide)
          exact absurd E.c y1
        have y1 : (!decide ((gR (dayR (a, b, c, d)).1.2.2.2 j.toNat).1 = (gR d j.toNat).1)) = false := y1
        have y1 : (gR (dayR (a, b, c, d)).1.2.2.2 j.toNat).1 = (gR d j.toNat).1 := Decidable.byContradiction fun e => absurd y1 (by rw [decide_eq_false e]; decide)
        conv => whnf
        refine ⟨j0, ?_⟩
        conv => whnf
        refine ⟨show j < (d.length : Int) by omega, ?_⟩
        conv => whnf
        refine cond_intro (fun y2 => ?_) (fun y2 => ?_)
        · have y2 : (IntKind.i64.wrap ((gR d j.toNat).2.1 + 2)) < (gR (dayR (a, b, c, d)).1.2.2.2 j.toNat).2.1 := @of_decide_eq_true _ _ y2
          exfalso; omega
        have y2 : ¬ ((IntKind.i64.wrap ((gR d j.toNat).2.1 + 2)) < (gR (dayR (a, b, c, d)).1.2.2.2 j.toNat).2.1) := @of_decide_eq_false _ _ y2
        conv => whnf
        refine ⟨j0, ?_⟩
        conv => whnf
        refine ⟨show j < (d.length : Int) by omega, ?_⟩
        conv => whnf
        refine cond_intro (fun y3 => ?_) (fun y3 => ?_)
        · have y3 : (gR (dayR (a, b, c, d)).1.2.2.2 j.toNat).2.1 < (IntKind.i64.wrap ((gR d j.toNat).2.1 - 2)) := @of_decide_eq_true _ _ y3
          exfalso; omega
        have y3 : ¬ ((gR (dayR (a, b, c, d)).1.2.2.2 j.toNat).2.1 < (IntKind.i64.wrap ((gR d j.toNat).2.1 - 2))) := @of_decide_eq_false _ _ y3
        conv => whnf
        refine ⟨j0, ?_⟩
        conv => whnf
        refine ⟨show j < (d.length : Int) by omega, ?_⟩
        conv => whnf
        refine cond_intro (fun y4 => ?_) (fun y4 => ?_)
        · have y4 : (!decide ((gR (dayR (a, b, c, d)).1.2.2.2 j.toNat).2.2.1 = min2 (IntKind.i64.wrap ((gR d j.toNat).2.2.1 + 1)) 255)) = true := y4
          have y4 : ¬ ((gR (dayR (a, b, c, d)).1.2.2.2 j.toNat).2.2.1 = min2 (IntKind.i64.wrap ((gR d j.toNat).2.2.1 + 1)) 255) := fun e => absurd y4 (by rw [decide_eq_true e]; decide)
          rw [x3] at y4; exact absurd E3 y4
        have y4 : (!decide ((gR (dayR (a, b, c, d)).1.2.2.2 j.toNat).2.2.1 = min2 (IntKind.i64.wrap ((gR d j.toNat).2.2.1 + 1)) 255)) = false := y4
        have y4 : (gR (dayR (a, b, c, d)).1.2.2.2 j.toNat).2.2.1 = min2 (IntKind.i64.wrap ((gR d j.toNat).2.2.1 + 1)) 255 := Decidable.byContradiction fun e => absurd y4 (by rw [decide_eq_false e]; decide)
        conv => whnf
        refine ⟨j + 1, ?_, ⟨by omega, by omega⟩, by omega⟩
        exact Eq.trans (b := T11 (unitsR ws) (min2 days 40) false (a, b, c, d) g i (dayR (a, b, c, d)).1 (dayR (a, b, c, d)).2.1 (IntKind.i64.wrap (j + 1))) rfl (by rw [hwj])
      have hj : ¬ (j < ((dayR (a, b, c, d)).1.2.2.2.length : Int)) := @of_decide_eq_false _ _ hj
      have hwg : (IntKind.i64.wrap (g + (dayR (a, b, c, d)).2.1)) = g + (dayR (a, b, c, d)).2.1 := wrap_eq (by omega) (by omega)
      have hwu : IntKind.i64.wrap (unitsR (dayR (a, b, c, d)).1.2.2.1 + (IntKind.i64.wrap (g + (dayR (a, b, c, d)).2.1))) = unitsR ws := by rw [hwg]; refine Eq.trans (wrap_eq (by omega) (by omega)) ?_; omega
      conv => whnf
      refine ⟨e2, ?_⟩
      conv => whnf
      refine cond_intro (fun z1 => ?_) (fun z1 => ?_)
      · have z1 : (!decide (IntKind.i64.wrap (unitsR (dayR (a, b, c, d)).1.2.2.1 + (IntKind.i64.wrap (g + (dayR (a, b, c, d)).2.1))) = unitsR ws)) = true := z1
        have z1 : ¬ (IntKind.i64.wrap (unitsR (dayR (a, b, c, d)).1.2.2.1 + (IntKind.i64.wrap (g + (dayR (a, b, c, d)).2.1))) = unitsR ws) := fun e => absurd z1 (by rw [decide_eq_true e]; decide)
        exact absurd hwu z1
      have z1 : (!decide (IntKind.i64.wrap (unitsR (dayR (a, b, c, d)).1.2.2.1 + (IntKind.i64.wrap (g + (dayR (a, b, c, d)).2.1))) = unitsR ws)) = false := z1
      have z1 : IntKind.i64.wrap (unitsR (dayR (a, b, c, d)).1.2.2.1 + (IntKind.i64.wrap (g + (dayR (a, b, c, d)).2.1))) = unitsR ws := Decidable.byContradiction fun e => absurd z1 (by rw [decide_eq_false e]; decide)
      conv => whnf
      refine ⟨(true, (dayR (a, b, c, d)).1, g + (dayR (a, b, c, d)).2.1, i + 1), ?_, ⟨DK.v, (show (dayR (a, b, c, d)).1.2.2.2.length = rs.length by omega), (show unitsR (dayR (a, b, c, d)).1.2.2.1 + (g + (dayR (a, b, c, d)).2.1) = unitsR ws by omega), (show 0 ≤ g + (dayR (a, b, c, d)).2.1 by omega), (show 0 ≤ i + 1 by omega)⟩, by show ((min2 days 40) - (i + 1)).toNat < ((min2 days 40) - i).toNat; omega⟩
      exact Eq.trans (b := S11 (unitsR ws) (min2 days 40) (true, (dayR (a, b, c, d)).1, (IntKind.i64.wrap (g + (dayR (a, b, c, d)).2.1)), IntKind.i64.wrap (i + 1))) rfl (by rw [hwg, hwi])
    have hi : ¬ (i < (min2 days 40)) := @of_decide_eq_false _ _ hi
    conv => whnf
    show true = true
    rfl
  · conv => whnf
    refine cond_intro (fun hi => ?_) (fun hi => ?_)
    · have hi : i < (min2 days 40) := @of_decide_eq_true _ _ hi
      have hm40 : (min2 days 40) ≤ 40 := by unfold min2; split <;> omega
      have hwi : IntKind.i64.wrap (i + 1) = i + 1 := wrap_eq (by omega) (by omega)
      conv => whnf
      refine ⟨f1, ?_⟩
      conv => whnf
      refine ⟨f2, ?_⟩
      conv => whnf
      refine ⟨show d.length ≤ 100000 by omega, ?_⟩
      conv => whnf
      refine cond_intro (fun p1 => ?_) (fun p1 => ?_)
      · have p1 : (!decide ((dayR (a, b, c, d)).2.2 = 0)) = true := p1
        have p1 : ¬ ((dayR (a, b, c, d)).2.2 = 0) := fun e => absurd p1 (by rw [decide_eq_true e]; decide)
        exact absurd DE p1
      have p1 : (!decide ((dayR (a, b, c, d)).2.2 = 0)) = false := p1
      have p1 : (dayR (a, b, c, d)).2.2 = 0 := Decidable.byContradiction fun e => absurd p1 (by rw [decide_eq_false e]; decide)
      conv => whnf
      refine cond_intro (fun p2 => ?_) (fun p2 => ?_)
      · have p2 : (dayR (a, b, c, d)).2.1 < 0 := @of_decide_eq_true _ _ p2
        exfalso; omega
      have p2 : ¬ ((dayR (a, b, c, d)).2.1 < 0) := @of_decide_eq_false _ _ p2
      conv => whnf
      refine ⟨e1, ?_⟩
      conv => whnf
      refine ⟨e2, ?_⟩
      conv => whnf
      refine ⟨show (dayR (a, b, c, d)).1.2.2.2.length ≤ 100000 by omega, ?_⟩
      conv => whnf
      refine cond_intro (fun p3 => ?_) (fun p3 => ?_)
      · have p3 : (!decide (validR (dayR (a, b, c, d)).1 = 0)) = true := p3
        have p3 : ¬ (validR (dayR (a, b, c, d)).1 = 0) := fun e => absurd p3 (by rw [decide_eq_true e]; decide)
        exact absurd DK.v p3
      have p3 : (!decide (validR (dayR (a, b, c, d)).1 = 0)) = false := p3
      have p3 : validR (dayR (a, b, c, d)).1 = 0 := Decidable.byContradiction fun e => absurd p3 (by rw [decide_eq_false e]; decide)
      conv => whnf
      refine cond_intro (fun p4 => ?_) (fun p4 => ?_)
      · have p4 : (!decide (((dayR (a, b, c, d)).1.2.2.2.length : Int) = d.length)) = true := p4
        have p4 : ¬ (((dayR (a, b, c, d)).1.2.2.2.length : Int) = d.length) := fun e => absurd p4 (by rw [decide_eq_true e]; decide)
        exfalso; omega
      have p4 : (!decide (((dayR (a, b, c, d)).1.2.2.2.length : Int) = d.length)) = false := p4
      have p4 : ((dayR (a, b, c, d)).1.2.2.2.length : Int) = d.length := Decidable.byContradiction fun e => absurd p4 (by rw [decide_eq_false e]; decide)
      conv => whnf
      refine loop_rule (fun j : Int => T11 (unitsR ws) (min2 days 40) true (a, b, c, d) g i (dayR (a, b, c, d)).1 (dayR (a, b, c, d)).2.1 j) (fun j => ((dayR (a, b, c, d)).1.2.2.2.length - j).toNat) (fun j => 0 ≤ j ∧ j ≤ (dayR (a, b, c, d)).1.2.2.2.length) ?_ 0 (by kernel_rfl) ?_ ⟨by omega, by omega⟩
      case refine_2 => rfl
      rintro j ⟨j0, j1⟩
      conv => whnf
      refine cond_intro (fun hj => ?_) (fun hj => ?_)
      · have hj : j < ((dayR (a, b, c, d)).1.2.2.2.length : Int) := @of_decide_eq_true _ _ hj
        have hwj : IntKind.i64.wrap (j + 1) = j + 1 := wrap_eq (by omega) (by omega)
        have E : RdP (gR d j.toNat) (gR (dayR (a, b, c, d)).1.2.2.2 j.toNat) := DK.e j.toNat (by show j.toNat < d.length; omega)
        have ho : ratedR (gR d j.toNat) = true := by rw [gR_at (show j.toNat < d.length by omega)]; exact v6.1 _ (List.getElem_mem _)
        rw [rated_iff] at ho
        have E1 := E.lo
        have E2 := E.hi
        have E3 := E.d
        have x1 : (IntKind.i64.wrap ((gR d j.toNat).2.1 + 2)) = (gR d j.toNat).2.1 + 2 := wrap_eq (by omega) (by omega)
        have x2 : (IntKind.i64.wrap ((gR d j.toNat).2.1 - 2)) = (gR d j.toNat).2.1 - 2 := wrap_eq (by omega) (by omega)
        have x3 : (IntKind.i64.wrap ((gR d j.toNat).2.2.1 + 1)) = (gR d j.toNat).2.2.1 + 1 := wrap_eq (by omega) (by omega)
        conv => whnf
        refine ⟨j0, ?_⟩
        conv => whnf
        refine ⟨show j < ((dayR (a, b, c, d)).1.2.2.2.length : Int) by omega, ?_⟩
        conv => whnf
        refine ⟨j0, ?_⟩
        conv => whnf
        refine ⟨show j < (d.length : Int) by omega, ?_⟩
        conv => whnf
        refine cond_intro (fun y1 => ?_) (fun y1 => ?_)
        · have y1 : (!decide ((gR (dayR (a, b, c, d)).1.2.2.2 j.toNat).1 = (gR d j.toNat).1)) = true := y1
          have y1 : ¬ ((gR (dayR (a, b, c, d)).1.2.2.2 j.toNat).1 = (gR d j.toNat).1) := fun e => absurd y1 (by rw [decide_eq_true e]; decide)
          exact absurd E.c y1
        have y1 : (!decide ((gR (dayR (a, b, c, d)).1.2.2.2 j.toNat).1 = (gR d j.toNat).1)) = false := y1
        have y1 : (gR (dayR (a, b, c, d)).1.2.2.2 j.toNat).1 = (gR d j.toNat).1 := Decidable.byContradiction fun e => absurd y1 (by rw [decide_eq_false e]; decide)
        conv => whnf
        refine ⟨j0, ?_⟩
        conv => whnf
        refine ⟨show j < (d.length : Int) by omega, ?_⟩
        conv => whnf
        refine cond_intro (fun y2 => ?_) (fun y2 => ?_)
        · have y2 : (IntKind.i64.wrap ((gR d j.toNat).2.1 + 2)) < (gR (dayR (a, b, c, d)).1.2.2.2 j.toNat).2.1 := @of_decide_eq_true _ _ y2
          exfalso; omega
        have y2 : ¬ ((IntKind.i64.wrap ((gR d j.toNat).2.1 + 2)) < (gR (dayR (a, b, c, d)).1.2.2.2 j.toNat).2.1) := @of_decide_eq_false _ _ y2
        conv => whnf
        refine ⟨j0, ?_⟩
        conv => whnf
        refine ⟨show j < (d.length : Int) by omega, ?_⟩
        conv => whnf
        refine cond_intro (fun y3 => ?_) (fun y3 => ?_)
        · have y3 : (gR (dayR (a, b, c, d)).1.2.2.2 j.toNat).2.1 < (IntKind.i64.wrap ((gR d j.toNat).2.1 - 2)) := @of_decide_eq_true _ _ y3
          exfalso; omega
        have y3 : ¬ ((gR (dayR (a, b, c, d)).1.2.2.2 j.toNat).2.1 < (IntKind.i64.wrap ((gR d j.toNat).2.1 - 2))) := @of_decide_eq_false _ _ y3
        conv => whnf
        refine ⟨j0, ?_⟩
        conv => whnf
        refine ⟨show j < (d.length : Int) by omega, ?_⟩
        conv => whnf
        refine cond_intro (fun y4 => ?_) (fun y4 => ?_)
        · have y4 : (!decide ((gR (dayR (a, b, c, d)).1.2.2.2 j.toNat).2.2.1 = min2 (IntKind.i64.wrap ((gR d j.toNat).2.2.1 + 1)) 255)) = true := y4
          have y4 : ¬ ((gR (dayR (a, b, c, d)).1.2.2.2 j.toNat).2.2.1 = min2 (IntKind.i64.wrap ((gR d j.toNat).2.2.1 + 1)) 255) := fun e => absurd y4 (by rw [decide_eq_true e]; decide)
          rw [x3] at y4; exact absurd E3 y4
        have y4 : (!decide ((gR (dayR (a, b, c, d)).1.2.2.2 j.toNat).2.2.1 = min2 (IntKind.i64.wrap ((gR d j.toNat).2.2.1 + 1)) 255)) = false := y4
        have y4 : (gR (dayR (a, b, c, d)).1.2.2.2 j.toNat).2.2.1 = min2 (IntKind.i64.wrap ((gR d j.toNat).2.2.1 + 1)) 255 := Decidable.byContradiction fun e => absurd y4 (by rw [decide_eq_false e]; decide)
        conv => whnf
        refine ⟨j + 1, ?_, ⟨by omega, by omega⟩, by omega⟩
        exact Eq.trans (b := T11 (unitsR ws) (min2 days 40) true (a, b, c, d) g i (dayR (a, b, c, d)).1 (dayR (a, b, c, d)).2.1 (IntKind.i64.wrap (j + 1))) rfl (by rw [hwj])
      have hj : ¬ (j < ((dayR (a, b, c, d)).1.2.2.2.length : Int)) := @of_decide_eq_false _ _ hj
      have hwg : (IntKind.i64.wrap (g + (dayR (a, b, c, d)).2.1)) = g + (dayR (a, b, c, d)).2.1 := wrap_eq (by omega) (by omega)
      have hwu : IntKind.i64.wrap (unitsR (dayR (a, b, c, d)).1.2.2.1 + (IntKind.i64.wrap (g + (dayR (a, b, c, d)).2.1))) = unitsR ws := by rw [hwg]; refine Eq.trans (wrap_eq (by omega) (by omega)) ?_; omega
      conv => whnf
      refine ⟨e2, ?_⟩
      conv => whnf
      refine cond_intro (fun z1 => ?_) (fun z1 => ?_)
      · have z1 : (!decide (IntKind.i64.wrap (unitsR (dayR (a, b, c, d)).1.2.2.1 + (IntKind.i64.wrap (g + (dayR (a, b, c, d)).2.1))) = unitsR ws)) = true := z1
        have z1 : ¬ (IntKind.i64.wrap (unitsR (dayR (a, b, c, d)).1.2.2.1 + (IntKind.i64.wrap (g + (dayR (a, b, c, d)).2.1))) = unitsR ws) := fun e => absurd z1 (by rw [decide_eq_true e]; decide)
        exact absurd hwu z1
      have z1 : (!decide (IntKind.i64.wrap (unitsR (dayR (a, b, c, d)).1.2.2.1 + (IntKind.i64.wrap (g + (dayR (a, b, c, d)).2.1))) = unitsR ws)) = false := z1
      have z1 : IntKind.i64.wrap (unitsR (dayR (a, b, c, d)).1.2.2.1 + (IntKind.i64.wrap (g + (dayR (a, b, c, d)).2.1))) = unitsR ws := Decidable.byContradiction fun e => absurd z1 (by rw [decide_eq_false e]; decide)
      conv => whnf
      refine ⟨(true, (dayR (a, b, c, d)).1, g + (dayR (a, b, c, d)).2.1, i + 1), ?_, ⟨DK.v, (show (dayR (a, b, c, d)).1.2.2.2.length = rs.length by omega), (show unitsR (dayR (a, b, c, d)).1.2.2.1 + (g + (dayR (a, b, c, d)).2.1) = unitsR ws by omega), (show 0 ≤ g + (dayR (a, b, c, d)).2.1 by omega), (show 0 ≤ i + 1 by omega)⟩, by show ((min2 days 40) - (i + 1)).toNat < ((min2 days 40) - i).toNat; omega⟩
      exact Eq.trans (b := S11 (unitsR ws) (min2 days 40) (true, (dayR (a, b, c, d)).1, (IntKind.i64.wrap (g + (dayR (a, b, c, d)).2.1)), IntKind.i64.wrap (i + 1))) rfl (by rw [hwg, hwi])
    have hi : ¬ (i < (min2 days 40)) := @of_decide_eq_false _ _ hi
    conv => whnf
    show true = true
    rfl
end
end Go.Proofs.Yteidanhfkaljaaa.Eng
set_option linter.unusedVariables false
namespace Go.Proofs.Yteidanhfkaljaaa.Eng
open Go
set_option maxRecDepth 100000
noncomputable section
theorem passL_append (sc : Int) : ∀ (l m : List Int) (left : Int), passL sc (l ++ m) left = passL sc m (passL sc l left)
  | [], m, left => rfl
  | x :: r, m, left => by
    rw [List.cons_append, passL, passL]
    split <;> exact passL_append sc r m _
theorem gI_cons_zero (x : Int) (l : List Int) : gI (x :: l) 0 = x := rfl
theorem gI_cons_succ (x : Int) (l : List Int) (i : Nat) : gI (x :: l) (i + 1) = gI l i := by unfold gI; simp
theorem passO_get (sc : Int) : ∀ (l os : List Int) (left : Int) (i : Nat), os.length = l.length → i < l.length → gI (passO sc l os left) i = gI os i + (if gI l i = sc ∧ passL sc (l.take i) left > 0 then 1 else 0)
  | x :: r, o :: os, left, 0, h, hi => by
    rw [passO, gI_cons_zero, gI_cons_zero, List.take_zero, passL]
    split <;> simp [gI_cons_zero]
  | x :: r, o :: os, left, i + 1, h, hi => by
    rw [passO, gI_cons_succ, gI_cons_succ, List.take_succ_cons, passL]
    have h' : os.length = r.length := by simpa using h
    have hi' : i < r.length := by simpa using hi
    by_cases c : x = sc ∧ left > 0
    · rw [if_pos c, if_pos c, gI_cons_succ]
      exact passO_get sc r os (left - 1) i h' hi'
    · rw [if_neg c, if_neg c, gI_cons_succ]
      exact passO_get sc r os left i h' hi'
  | [], _, _, _, _, hi => by simp at hi
  | _ :: _, [], _, _, h, _ => by simp at h
theorem passL_mono (sc : Int) (l : List Int) (left : Int) {k i : Nat} (h : k ≤ i) : passL sc (l.take i) left ≤ passL sc (l.take k) left := by
  have e : l.take i = l.take k ++ (l.take i).drop k := by
    have := List.take_append_drop k (l.take i)
    rw [List.take_take, Nat.min_eq_left h] at this
    exact this.symm
  rw [e, passL_append]
  exact (passL_ge sc _ _).1
theorem passL_mono' (sc : Int) (l : List Int) (left : Int) (k : Nat) : passL sc l left ≤ passL sc (l.take k) left := by
  have := passL_mono sc l left (k := k) (i := max k l.length) (by omega)
  rwa [List.take_of_length_le (by omega)] at this
theorem passL_nn (sc : Int) : ∀ (l : List Int) (left : Int), 0 ≤ left → 0 ≤ passL sc l left
  | [], left, h => h
  | x :: r, left, h => by
    rw [passL]
    split
    · exact passL_nn sc r _ (by omega)
    · exact passL_nn sc r _ h
theorem passO_sum (sc : Int) : ∀ (l os : List Int) (left : Int), os.length = l.length → sumL (passO sc l os left) = sumL os + (left - passL sc l left)
  | [], [], left, _ => by simp [passO, passL, sumL]
  | x :: r, o :: os, left, h => by
    have h' : os.length = r.length := by simpa using h
    rw [passO, passL]
    split
    · rw [sumL, sumL, passO_sum sc r os _ h']; omega
    · rw [sumL, sumL, passO_sum sc r os _ h']; omega
theorem spin_sum (L : List Int) : ∀ (d : Nat) (left : Int) (out : List Int), out.length = L.length → 0 ≤ left → left ≤ cnt (d : Int) L → sumL (spin L d left out) = sumL out + left
  | 0, left, out, _, h0, h1 => by
    have := cnt_zero L
    rw [spin]
    have e : ((0 : Nat) : Int) = 0 := rfl
    rw [e] at h1
    omega
  | d + 1, left, out, hl, h0, h1 => by
    have e : ((d + 1 : Nat) : Int) = (d : Int) + 1 := by omega
    rw [e] at h1
    rw [spin]
    split
    · have pc := passL_le (d : Int) (by omega) L left 0 (by omega) (by omega)
      rw [spin_sum L d _ _ (passO_len _ L out left hl) (passL_nn _ L left h0) (by omega), passO_sum _ L out left hl]
      omega
    · omega
/-- How far the sharing of what is left has come: all of a score above 'd' have had their turn. -/
structure SpinI (L c : List Int) (d : Int) (left : Int) (out : List Int) : Prop where
  len : out.length = L.length
  low : ∀ i, i < L.length → gI L i ≤ d → gI out i = gI c i
  hi : ∀ i, i < L.length → gI c i ≤ gI out i ∧ gI out i ≤ gI c i + 1
  ord : ∀ i k, i < L.length → k < L.length → (gI L i < gI L k ∨ (gI L k = gI L i ∧ k < i)) → gI out i - gI c i ≤ gI out k - gI c k
  full : left > 0 → ∀ i, i < L.length → d < gI L i → gI out i = gI c i + 1
theorem SpinI.step {L c : List Int} {d : Int} {left : Int} {out : List Int} (h : SpinI L c (d + 1) left out) (g : left > 0) : SpinI L c d (passL (d + 1) L left) (passO (d + 1) L out left) := by
  have hg : ∀ i, i < L.length → gI (passO (d + 1) L out left) i = gI out i + (if gI L i = d + 1 ∧ passL (d + 1) (L.take i) left > 0 then 1 else 0) := fun i hi => passO_get _ L out left i h.len hi
  refine ⟨passO_len _ L out left h.len, fun i hi hl => ?_, fun i hi => ?_, fun i k hi hk ho => ?_, fun gl i hi hd => ?_⟩
  · rw [hg i hi, if_neg (by omega), h.low i hi (by omega)]; omega
  · rw [hg i hi]
    have h1 := h.hi i hi
    split
    · rw [h.low i hi (by omega)]; omega
    · omega
  · rw [hg i hi, hg k hk]
    have h1 := h.ord i k hi hk ho
    have h2 := h.hi i hi
    have h3 := h.hi k hk
    by_cases ci : gI L i = d + 1 ∧ passL (d + 1) (L.take i) left > 0
    · rw [if_pos ci]
      have l1 := h.low i hi (by omega)
      by_cases ck : gI L k = d + 1 ∧ passL (d + 1) (L.take k) left > 0
      · rw [if_pos ck]
        have l2 := h.low k hk (by omega)
        omega
      · rw [if_neg ck]
        rcases ho with ho | ⟨ho, hki⟩
        · have := h.full g k hk (by omega)
          omega
        · exfalso
          have := passL_mono (d + 1) L left (Nat.le_of_lt hki)
          exact ck ⟨by omega, by omega⟩
    · rw [if_neg ci]
      split
      · rename_i ck
        have l2 := h.low k hk (by omega)
        have : gI L i ≤ d + 1 := by omega
        have l1 := h.low i hi this
        omega
      · omega
  · rw [hg i hi]
    by_cases e : gI L i = d + 1
    · have := passL_mono' (d + 1) L left i
      rw [if_pos ⟨e, by omega⟩, h.low i hi (by omega)]
    · rw [if_neg (fun q => e q.1)]
      have := h.full g i hi (by omega)
      omega
theorem SpinI.all {L c : List Int} : ∀ (d : Nat) {left : Int} {out : List Int}, SpinI L c (d : Int) left out → ∃ left', SpinI L c 0 left' (spin L d left out)
  | 0, left, out, h => ⟨left, h⟩
  | d + 1, left, out, h => by
    have e : ((d + 1 : Nat) : Int) = (d : Int) + 1 := by omega
    rw [e] at h
    rw [spin]
    by_cases g : left > 0
    · rw [if_pos g]
      exact SpinI.all d (h.step g)
    · rw [if_neg g]
      exact ⟨left, h.len, fun i hi hl => h.low i hi (by omega), h.hi, h.ord, fun q => absurd q g⟩
theorem gI_map {f : Int → Int} {l : List Int} {i : Nat} (h : i < l.length) : gI (l.map f) i = f (gI l i) := by
  rw [gI_eq h, gI_eq (by simpa using h)]; simp
theorem cut_mono {m s x y : Int} (m0 : 0 ≤ m) (s0 : 0 < s) (h : x ≤ y) : cut m s x ≤ cut m s y := by
  unfold cut
  exact Int.ediv_le_ediv s0 (Int.mul_le_mul_of_nonneg_left h m0)
theorem cuts_le {m s : Int} (s0 : 0 < s) : ∀ (l : List Int), s * sumL (l.map (cut m s)) ≤ m * sumL l
  | [] => by simp [sumL]
  | x :: r => by
    have ih := cuts_le (m := m) s0 r
    rw [List.map_cons, sumL, sumL, Int.mul_add, Int.mul_add]
    have : s * cut m s x ≤ m * x := by unfold cut; rw [Int.mul_comm]; exact Int.ediv_mul_le _ (by omega)
    omega
theorem sum0_all : ∀ (l : List Int), In255 l → sumL l = 0 → ∀ x ∈ l, x = 0
  | [], _, _ => by simp
  | y :: r, h, hs => by
    rw [sumL] at hs
    have hy := h y (by simp)
    have hr := sum_bd r (fun z hz => h z (by simp [hz]))
    intro x hx
    rcases List.mem_cons.1 hx with rfl | hx
    · omega
    · exact sum0_all r (fun z hz => h z (by simp [hz])) (by omega) x hx
theorem best0 : ∀ (l : List Int) (b : Int), (∀ x ∈ l, x = 0) → b = 0 → bestL b l = 0
  | [], b, _, h => h
  | y :: r, b, h, hb => by
    rw [bestL]
    refine best0 r _ (fun x hx => h x (by simp [hx])) ?_
    have := h y (by simp)
    unfold mx
    split <;> omega
theorem sumL_rep : ∀ (k : Nat), sumL (List.replicate k 0) = 0
  | 0 => rfl
  | k + 1 => by rw [List.replicate_succ, sumL, sumL_rep k]; rfl
theorem gI_rep {k i : Nat} : gI (List.replicate k 0) i = 0 := by
  unfold gI
  rw [List.getD_eq_getElem?_getD, List.getElem?_replicate]
  split <;> rfl
/-- What the law asks of the shares. -/
structure Fair (n : Int) (L out : List Int) : Prop where
  len : out.length = L.length
  bd : ∀ i, i < L.length → 0 ≤ gI out i ∧ gI out i ≤ 1000000000
  zero : ∀ i, i < L.length → gI L i = 0 → gI out i = 0
  ord : ∀ i k, i < L.length → k < i → (gI L i ≤ gI L k → gI out i ≤ gI out k) ∧ (gI L k < gI L i → gI out k ≤ gI out i)
  sum : sumL out = share n L
theorem split_fair {n : Int} {L : List Int} (he : (splitOf n L).2 = 0) : (0 ≤ n ∧ n ≤ 1000000) ∧ In255 L ∧ L.length ≤ 1000 ∧ Fair n L (splitOf n L).1 := by
  unfold splitOf at he ⊢
  by_cases hn : ¬ (0 ≤ n ∧ n ≤ 1000000)
  · rw [if_pos hn] at he; simp at he
  rw [if_neg hn] at he ⊢
  have hn := Classical.not_not.1 hn
  by_cases ha : allIn 255 L = false
  · rw [if_pos ha] at he; simp at he
  rw [if_neg ha] at he ⊢
  have hi : In255 L := in255 (by simpa using ha)
  by_cases hl : (L.length : Int) > 1000
  · rw [if_pos hl] at he; simp at he
  rw [if_neg hl]
  have hbest := best_bd L 0 hi (by omega) (by omega)
  have hsum := sum_bd L hi
  have hge := (best_ge L 0).2
  refine ⟨hn, hi, by omega, ?_⟩
  have hx : ∀ i, i < L.length → 0 ≤ gI L i ∧ gI L i ≤ 255 := fun i h => hi _ (by rw [gI_eq h]; exact List.getElem_mem _)
  by_cases hz : sumL L = 0
  · rw [if_pos hz]
    refine ⟨by simp, fun i h => ?_, fun i h _ => gI_rep, fun i k _ _ => ?_, ?_⟩
    · show 0 ≤ gI (List.replicate L.length 0) i ∧ _
      rw [gI_rep]; omega
    · show (_ → gI (List.replicate L.length 0) i ≤ gI (List.replicate L.length 0) k) ∧ (_ → gI (List.replicate L.length 0) k ≤ gI (List.replicate L.length 0) i)
      rw [gI_rep, gI_rep]; exact ⟨fun _ => Int.le_refl _, fun _ => Int.le_refl _⟩
    · show sumL (List.replicate L.length 0) = share n L
      rw [sumL_rep, share, best0 L 0 (sum0_all L hi hz) rfl]; simp
  rw [if_neg hz]
  have hnb : 0 ≤ n * bestL 0 L ∧ n * bestL 0 L ≤ 255000000 := ⟨Int.mul_nonneg hn.1 hbest.1, by
    have := Int.mul_le_mul hn.2 hbest.2 hbest.1 (show (0 : Int) ≤ 1000000 by omega)
    omega⟩
  have hmb : 0 ≤ share n L ∧ share n L ≤ 1000000 := by unfold share; omega
  have s0 : 0 < sumL L := by omega
  simp only
  generalize hm : share n L = m at *
  have hc : ∀ i, i < L.length → gI (L.map (cut m (sumL L))) i = cut m (sumL L) (gI L i) := fun i h => gI_map h
  have hcb : ∀ i, i < L.length → 0 ≤ cut m (sumL L) (gI L i) ∧ cut m (sumL L) (gI L i) ≤ 255000000 := fun i h => by
    have := cut_bd hmb.1 hmb.2 s0 (hx i h).1 (hx i h).2
    omega
  have hleft : 0 ≤ m - sumL (L.map (cut m (sumL L))) := by
    have h1 := cuts_le (m := m) s0 L
    rw [Int.mul_comm m] at h1
    have := Int.le_of_mul_le_mul_left h1 s0
    omega
  have hb : ((bestL 0 L).toNat : Int) = bestL 0 L := Int.toNat_of_nonneg hbest.1
  have hcnt : m - sumL (L.map (cut m (sumL L))) ≤ cnt ((bestL 0 L).toNat : Int) L := by
    refine left_le s0 rfl (fun x h => ⟨(hi x h).1, ?_⟩)
    have := hge x h
    omega
  obtain ⟨left', I⟩ := SpinI.all (L := L) (c := L.map (cut m (sumL L))) (bestL 0 L).toNat (left := m - sumL (L.map (cut m (sumL L)))) (out := L.map (cut m (sumL L))) ⟨by simp, fun i h _ => rfl, fun i h => by omega, fun i k h1 h2 _ => by omega, fun _ i h hd => by
    have := hge (gI L i) (by rw [gI_eq h]; exact List.getElem_mem _)
    omega⟩
  have hsp := spin_sum L (bestL 0 L).toNat (m - sumL (L.map (cut m (sumL L)))) (L.map (cut m (sumL L))) (by simp) hleft hcnt
  refine ⟨I.len, fun i h => ?_, fun i h e => ?_, fun i k h1 h2 => ⟨fun hle => ?_, fun hlt => ?_⟩, by rw [hsp, hm]; omega⟩
  · have := I.hi i h
    have := hcb i h
    rw [hc i h] at *
    omega
  · rw [I.low i h (by omega), hc i h, e]
    unfold cut; simp
  · have o := I.ord i k h1 (by omega) (by omega)
    rw [hc i h1, hc k (by omega)] at o
    have := cut_mono hmb.1 s0 hle
    omega
  · have o := I.ord k i (by omega) h1 (Or.inl hlt)
    rw [hc i h1, hc k (by omega)] at o
    have := cut_mono hmb.1 s0 (Int.le_of_lt hlt)
    omega
theorem split_empty {n : Int} {L : List Int} (he : ¬ (splitOf n L).2 = 0) : (splitOf n L).1.length = 0 := by
  unfold splitOf at he ⊢
  repeat' split
  all_goals (first | rfl | (exfalso; apply he; simp [*]))
theorem sum_take_bd {l : List Int} (h : ∀ i, i < l.length → 0 ≤ gI l i ∧ gI l i ≤ 1000000000) (k : Nat) : 0 ≤ sumL (l.take k) ∧ sumL (l.take k) ≤ 1000000000 * l.length := by
  have := sum_bd2 1000000000 (l.take k) (fun x hx => by
    obtain ⟨i, hi, e⟩ := List.mem_iff_getElem.1 (List.mem_of_mem_take hx)
    have := h i hi
    rw [gI_eq hi, e] at this
    exact this)
  have h2 : (l.take k).length ≤ l.length := by rw [List.length_take]; omega
  omega
end
end Go.Proofs.Yteidanhfkaljaaa.Eng
