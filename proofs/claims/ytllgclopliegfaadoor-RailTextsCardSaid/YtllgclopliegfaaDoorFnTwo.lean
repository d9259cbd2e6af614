/- What the functions that the law reaches answer, each for every input. -/
import Derived.Test.YtllgclopliegfaaDoorFnOne
set_option linter.unusedVariables false
set_option linter.unusedSimpArgs false
set_option linter.unusedVariables false
set_option linter.unusedSimpArgs false
namespace Go.Proofs.YtllgclopliegfaaDoor.Eng
open Go
set_option maxRecDepth 100000
noncomputable section
def S7a (l : List ByteArray) (h : Int) : SL := ⟨List.replicate 2 .undef ++ [.ptr 0 0 0] ++ List.replicate 2 .undef ++ [.own 1] ++ [.int .i64 h] ++ List.replicate 131 .undef, [(0, .box [.int .i64 0, .int .i64 0, .nilsl, .nilsl]), (1, .arr .str l)], 2⟩
def S7b (l : List ByteArray) (h w k : Int) : SL := ⟨List.replicate 2 .undef ++ [.ptr 0 0 0] ++ List.replicate 2 .undef ++ [.own 1] ++ [.int .i64 h] ++ [.int .i64 w] ++ [.int .i64 k] ++ List.replicate 129 .undef, [(0, .box [.int .i64 0, .int .i64 0, .nilsl, .nilsl]), (1, .arr .str l)], 2⟩
def S7c (l : List ByteArray) (h w : Int) (a : List Int) (b : List Bool) (i : Int) : SL := ⟨List.replicate 2 .undef ++ [.ptr 0 0 0] ++ List.replicate 2 .undef ++ [.own 1] ++ [.int .i64 h] ++ [.int .i64 w] ++ List.replicate 1 .undef ++ [.ptr 2 0 0] ++ List.replicate 83 .undef ++ [.int .i64 h] ++ [.int .i64 i] ++ List.replicate 43 .undef, [(0, .box [.int .i64 0, .int .i64 0, .nilsl, .nilsl]), (1, .arr .str l), (2, .box [.int .i64 w, .int .i64 h, .own 3, .own 4]), (3, .arr I a), (4, .arr .bool b)], 5⟩
def S7d (l : List ByteArray) (h w : Int) (a : List Int) (b : List Bool) (i x : Int) : SL := ⟨List.replicate 2 .undef ++ [.ptr 0 0 0] ++ List.replicate 2 .undef ++ [.own 1] ++ [.int .i64 h] ++ [.int .i64 w] ++ List.replicate 1 .undef ++ [.ptr 2 0 0] ++ [.int .i64 i] ++ List.replicate 82 .undef ++ [.int .i64 h] ++ [.int .i64 i] ++ List.replicate 2 .undef ++ [.int .i64 w] ++ [.int .i64 x] ++ List.replicate 39 .undef, [(0, .box [.int .i64 0, .int .i64 0, .nilsl, .nilsl]), (1, .arr .str l), (2, .box [.int .i64 w, .int .i64 h, .own 3, .own 4]), (3, .arr I a), (4, .arr .bool b)], 5⟩
def E7 : Env := ⟨tab, [(15, K15), (16, .eff (fnsX fn16)), (19, K19)], fun n => match n with | 3 => some ([2, 5, 6], [], []) | 11 => some ([2, 5, 6, 7, 8], [], []) | 19 => some ([2, 5, 6, 7, 9, 93, 94], [], [(9, 2, I), (9, 3, .bool)]) | 22 => some ([2, 5, 6, 7, 9, 10, 93, 94, 97, 98], [], []) | _ => none⟩
def K7 : Fn1 := ⟨.one .str, .fld rlT (.fld I (.one I)), fun (s : ByteArray) => [s.size ≤ 1000000], fun (s : ByteArray) => parseL (linesB s)⟩
set_option maxHeartbeats 4000000 in
theorem k7 : FnOk Go.Proofs.Tryd.prog 7 K7 := by
  refine fn_ok (E := E7) (TOk.of tab_told) (AllOk.cons k15 (.consX k16 (.cons k19 .nil))).at_ mix Go.Proofs.Tryd.func7 rfl rfl (by kernel_rfl) K7 ?_
  rintro (s : ByteArray) hp
  have hs : s.size ≤ 1000000 := hp _ (List.mem_cons_self ..)
  clear hp
  have hbd := lines_bd hs
  have hlb := hbd.1
  conv => whnf
  refine ⟨hs, ?_⟩
  conv => whnf
  refine loop_rule (S7a (linesB s)) (fun h => (((linesB s).length : Int) - h).toNat) (fun h => 0 ≤ h ∧ h ≤ ((linesB s).length : Int) ∧ B1 (linesB s) h.toNat) ?_ 0 (by kernel_rfl) ?_ ⟨Int.le_refl _, by omega, fun j hj => by simp at hj⟩
  case refine_2 => rfl
  rintro h ⟨h0, h1, hb1⟩
  have wh : IntKind.i64.wrap (h + 1) = h + 1 := wrap_eq (by omega) (by omega)
  have eh : (h + 1).toNat = h.toNat + 1 := by omega
  conv => whnf
  refine cond_intro (fun q1 => ?_) (fun q1 => ?_)
  · have q1 : h < ((linesB s).length : Int) := @of_decide_eq_true _ _ q1
    conv => whnf
    refine ⟨h0, ?_⟩
    conv => whnf
    refine ⟨q1, ?_⟩
    conv => whnf
    refine cond_intro (fun q2 => ?_) (fun q2 => ?_)
    · have q2 : (!(((gS (linesB s) h.toNat).toList == ByteArray.toList ⟨#[]⟩))) = true := q2
      have q2 : (((gS (linesB s) h.toNat).toList == ByteArray.toList ⟨#[]⟩)) = false := by cases e : (((gS (linesB s) h.toNat).toList == ByteArray.toList ⟨#[]⟩)) with | false => rfl | true => exact absurd q2 (by rw [e]; decide)
      have hem : emp (gS (linesB s) h.toNat) = false := by rw [← emp_iff (t := ⟨#[]⟩) rfl]; exact q2
      conv => whnf
      refine ⟨h0, ?_⟩
      conv => whnf
      refine ⟨q1, ?_⟩
      conv => whnf
      refine ⟨Int.le_refl _, ?_⟩
      conv => whnf
      refine ⟨show 0 < ((linesB s).length : Int) by omega, ?_⟩
      conv => whnf
      refine ⟨show (gS (linesB s) h.toNat).size ≤ 140737488351232 by have := hbd.2 h.toNat; omega, ?_⟩
      conv => whnf
      refine cond_intro (fun gg => ?_) (fun gg => ?_)
      · have gg : (!(goodR (gS (linesB s) h.toNat) ((gS (linesB s) 0).size : Int) setB)) = true := gg
        have gg : (goodR (gS (linesB s) h.toNat) ((gS (linesB s) 0).size : Int) setB) = false := by cases e : (goodR (gS (linesB s) h.toNat) ((gS (linesB s) 0).size : Int) setB) with | false => rfl | true => exact absurd gg (by rw [e]; decide)
        conv => whnf
        show (zR, IntKind.i64.wrap (h + 1), (14 : Int)) = parseL (linesB s)
        rw [wh, p_bad hb1 (by omega) hem gg]
        show (zR, h + 1, (14 : Int)) = (zR, ((h.toNat : Nat) : Int) + 1, 14)
        rw [show ((h.toNat : Nat) : Int) = h by omega]
      have gg : (!(goodR (gS (linesB s) h.toNat) ((gS (linesB s) 0).size : Int) setB)) = false := gg
      have gg : (goodR (gS (linesB s) h.toNat) ((gS (linesB s) 0).size : Int) setB) = true := by cases e : (goodR (gS (linesB s) h.toNat) ((gS (linesB s) 0).size : Int) setB) with | true => rfl | false => exact absurd gg (by rw [e]; decide)
      conv => whnf
      refine ⟨h + 1, ?_, ⟨by omega, by omega, ?_⟩, by omega⟩
      · exact Eq.trans (b := S7a (linesB s) (IntKind.i64.wrap (h + 1))) rfl (by rw [wh])
      · rw [eh]; exact hb1.succ hem gg
    have q2 : (!(((gS (linesB s) h.toNat).toList == ByteArray.toList ⟨#[]⟩))) = false := q2
    have q2 : (((gS (linesB s) h.toNat).toList == ByteArray.toList ⟨#[]⟩)) = true := by cases e : (((gS (linesB s) h.toNat).toList == ByteArray.toList ⟨#[]⟩)) with | true => rfl | false => exact absurd q2 (by rw [e]; decide)
    conv => whnf
    refine cond_intro (fun z => ?_) (fun z => ?_)
    · have z : h = 0 := @of_decide_eq_true _ _ z
      have hem : emp (gS (linesB s) h.toNat) = true := by rw [← emp_iff (t := ⟨#[]⟩) rfl]; exact q2
      conv => whnf
      show (zR, IntKind.i64.wrap (h + 1), (14 : Int)) = parseL (linesB s)
      rw [wh, p_none hb1 (by omega) (fun _ => hem) (.inl (by omega))]
      show (zR, h + 1, (14 : Int)) = (zR, ((h.toNat : Nat) : Int) + 1, 14)
      rw [show ((h.toNat : Nat) : Int) = h by omega]
    have z : ¬ (h = 0) := @of_decide_eq_false _ _ z
    conv => whnf
    refine cond_intro (fun z2 => ?_) (fun z2 => ?_)
    · have z2 : h = ((linesB s).length : Int) := @of_decide_eq_true _ _ z2
      exfalso
      omega
    have z2 : ¬ (h = ((linesB s).length : Int)) := @of_decide_eq_false _ _ z2
    have hem : emp (gS (linesB s) h.toNat) = true := by rw [← emp_iff (t := ⟨#[]⟩) rfl]; exact q2
    have hat : AtH (linesB s) h.toNat := ⟨hb1, by omega, hem, by omega⟩
    have w2 : IntKind.i64.wrap (2 * h) = 2 * h := wrap_eq (by omega) (by omega)
    have hw0 := hbd.2 0
    conv => whnf
    refine ⟨Int.le_refl _, ?_⟩
    conv => whnf
    refine ⟨show 0 < ((linesB s).length : Int) by omega, ?_⟩
    conv => whnf
    refine loop_rule (fun k => S7b (linesB s) h ((gS (linesB s) 0).size : Int) k) (fun k => (((linesB s).length : Int) - k).toNat) (fun k => h + 1 ≤ k ∧ k ≤ ((linesB s).length : Int) ∧ B2 (linesB s) h.toNat k.toNat) ?_ (h + 1) (by kernel_rfl) ?_ ⟨Int.le_refl _, by omega, fun j j1 j2 => by omega⟩
    case refine_2 => exact Eq.trans (b := S7b (linesB s) h ((gS (linesB s) 0).size : Int) (IntKind.i64.wrap (h + 1))) rfl (by rw [wh])
    rintro k ⟨k0, k1, hb2⟩
    conv => whnf
    refine cond_intro (fun q3 => ?_) (fun q3 => ?_)
    · have q3 : k < ((linesB s).length : Int) := @of_decide_eq_true _ _ q3
      have wk : IntKind.i64.wrap (k + 1) = k + 1 := wrap_eq (by omega) (by omega)
      have ek : (k + 1).toNat = k.toNat + 1 := by omega
      conv => whnf
      refine cond_intro (fun g2 => ?_) (fun g2 => ?_)
      · have g2 : IntKind.i64.wrap (2 * h) < k := @of_decide_eq_true _ _ g2
        rw [w2] at g2
        conv => whnf
        show (zR, IntKind.i64.wrap (k + 1), (14 : Int)) = parseL (linesB s)
        rw [wk, p_k hat (by omega) (by omega) hb2 (by unfold stop2; rw [decide_eq_true (by omega)]; rfl)]
        show (zR, k + 1, (14 : Int)) = (zR, ((k.toNat : Nat) : Int) + 1, 14)
        rw [show ((k.toNat : Nat) : Int) = k by omega]
      have g2 : ¬ (IntKind.i64.wrap (2 * h) < k) := @of_decide_eq_false _ _ g2
      rw [w2] at g2
      conv => whnf
      refine ⟨show 0 ≤ k by omega, ?_⟩
      conv => whnf
      refine ⟨q3, ?_⟩
      conv => whnf
      refine ⟨show (gS (linesB s) k.toNat).size ≤ 140737488351232 by have := hbd.2 k.toNat; omega, ?_⟩
      conv => whnf
      refine cond_intro (fun gg => ?_) (fun gg => ?_)
      · have gg : (!(goodR (gS (linesB s) k.toNat) ((gS (linesB s) 0).size : Int) wireB)) = true := gg
        have gg : (goodR (gS (linesB s) k.toNat) ((gS (linesB s) 0).size : Int) wireB) = false := by cases e : (goodR (gS (linesB s) k.toNat) ((gS (linesB s) 0).size : Int) wireB) with | false => rfl | true => exact absurd gg (by rw [e]; decide)
        conv => whnf
        show (zR, IntKind.i64.wrap (k + 1), (14 : Int)) = parseL (linesB s)
        rw [wk, p_k hat (by omega) (by omega) hb2 (by unfold stop2; rw [gg, Bool.or_comm]; rfl)]
        show (zR, k + 1, (14 : Int)) = (zR, ((k.toNat : Nat) : Int) + 1, 14)
        rw [show ((k.toNat : Nat) : Int) = k by omega]
      have gg : (!(goodR (gS (linesB s) k.toNat) ((gS (linesB s) 0).size : Int) wireB)) = false := gg
      have gg : (goodR (gS (linesB s) k.toNat) ((gS (linesB s) 0).size : Int) wireB) = true := by cases e : (goodR (gS (linesB s) k.toNat) ((gS (linesB s) 0).size : Int) wireB) with | true => rfl | false => exact absurd gg (by rw [e]; decide)
      conv => whnf
      refine ⟨k + 1, ?_, ⟨by omega, by omega, ?_⟩, by omega⟩
      · exact Eq.trans (b := S7b (linesB s) h ((gS (linesB s) 0).size : Int) (IntKind.i64.wrap (k + 1))) rfl (by rw [wk])
      · rw [ek]; exact hb2.succ (by omega) gg
    have q3 : ¬ (k < ((linesB s).length : Int)) := @of_decide_eq_false _ _ q3
    have hkl : k.toNat = (linesB s).length := by omega
    rw [hkl] at hb2
    have hS : IntKind.i64.wrap (IntKind.i64.wrap (2 * h) + 1) = 2 * h + 1 := by rw [w2, wrap_eq (by omega) (by omega)]
    conv => whnf
    refine cond_intro (fun sh => ?_) (fun sh => ?_)
    · have sh : ((linesB s).length : Int) < IntKind.i64.wrap (IntKind.i64.wrap (2 * h) + 1) := @of_decide_eq_true _ _ sh
      rw [hS] at sh
      have wl : IntKind.i64.wrap (((linesB s).length : Int) + 1) = ((linesB s).length : Int) + 1 := wrap_eq (by omega) (by omega)
      conv => whnf
      show (zR, IntKind.i64.wrap (((linesB s).length : Int) + 1), (14 : Int)) = parseL (linesB s)
      rw [wl, p_short hat hb2 (by omega)]
    have sh : ¬ (((linesB s).length : Int) < IntKind.i64.wrap (IntKind.i64.wrap (2 * h) + 1)) := @of_decide_eq_false _ _ sh
    rw [hS] at sh
    have hfu := full hat hb2 (by omega)
    conv => whnf
    refine loop_rule (fun i => S7c (linesB s) h ((gS (linesB s) 0).size : Int) (rowsI (linesB s) (gS (linesB s) 0).size i.toNat) (rowsW (linesB s) (gS (linesB s) 0).size h.toNat i.toNat) i) (fun i => (h - i).toNat) (fun i => 0 ≤ i ∧ i ≤ h) ?_ 0 (by kernel_rfl) ?_ ⟨Int.le_refl _, h0⟩
    case refine_2 => rfl
    rintro i ⟨i0, ih⟩
    conv => whnf
    refine cond_intro (fun hi => ?_) (fun hi => ?_)
    · have hi : i < h := @of_decide_eq_true _ _ hi
      have wi : IntKind.i64.wrap (i + 1) = i + 1 := wrap_eq (by omega) (by omega)
      have ei : (i + 1).toNat = i.toNat + 1 := by omega
      have gi := hat.b1.good (j := i.toNat) (by omega)
      have gk := hb2.good (j := h.toNat + 1 + i.toNat) (by omega) (by omega)
      have si := good_size gi
      have sk := good_size gk
      have hHI : (IntKind.i64.wrap (IntKind.i64.wrap (h + 1) + i)) = h + 1 + i := by rw [wh, wrap_eq (by omega) (by omega)]
      have hHI' : (IntKind.i64.wrap (IntKind.i64.wrap (h + 1) + i)).toNat = h.toNat + 1 + i.toNat := by omega
      conv => whnf
      refine loop_rule (fun x => S7d (linesB s) h ((gS (linesB s) 0).size : Int) ((rowsI (linesB s) (gS (linesB s) 0).size i.toNat) ++ rowI (gS (linesB s) i.toNat) x.toNat) ((rowsW (linesB s) (gS (linesB s) 0).size h.toNat i.toNat) ++ rowW (gS (linesB s) (h.toNat + 1 + i.toNat)) x.toNat) i x) (fun x => (((gS (linesB s) 0).size : Int) - x).toNat) (fun x => 0 ≤ x ∧ x ≤ ((gS (linesB s) 0).size : Int)) ?_ 0 (by kernel_rfl) ?_ ⟨Int.le_refl _, by omega⟩
      case refine_2 => exact Eq.trans (b := S7d (linesB s) h ((gS (linesB s) 0).size : Int) (rowsI (linesB s) (gS (linesB s) 0).size i.toNat) (rowsW (linesB s) (gS (linesB s) 0).size h.toNat i.toNat) i 0) rfl (by show _ = S7d (linesB s) h ((gS (linesB s) 0).size : Int) ((rowsI (linesB s) (gS (linesB s) 0).size i.toNat) ++ []) ((rowsW (linesB s) (gS (linesB s) 0).size h.toNat i.toNat) ++ []) i 0; rw [List.append_nil, List.append_nil])
      rintro x ⟨x0, xw⟩
      conv => whnf
      refine cond_intro (fun hx => ?_) (fun hx => ?_)
      · have hx : x < ((gS (linesB s) 0).size : Int) := @of_decide_eq_true _ _ hx
        have wx : IntKind.i64.wrap (x + 1) = x + 1 := wrap_eq (by omega) (by omega)
        have ex : (x + 1).toNat = x.toNat + 1 := by omega
        have hb := setB_iff.1 (good_byte gi (i := x.toNat) (by omega))
        have hc : (IntKind.i64.wrap (IntKind.u8.wrap (byteAt (gS (linesB s) i.toNat) x.toNat - 48))) = byteAt (gS (linesB s) i.toNat) x.toNat - 48 := by
          have h1 : IntKind.u8.wrap (byteAt (gS (linesB s) i.toNat) x.toNat - 48) = byteAt (gS (linesB s) i.toNat) x.toNat - 48 := by rw [IntKind.wrap_u8]; omega
          rw [h1, wrap_eq (by omega) (by omega)]
        have hsx : ((rowsI (linesB s) (gS (linesB s) 0).size i.toNat) ++ rowI (gS (linesB s) i.toNat) x.toNat).length ≤ 1000002000000 := by rw [List.length_append, rowsI_len, rowI_len]; have := prod_le (a := i.toNat) (b := (gS (linesB s) 0).size) (by omega) hw0; omega
        have hwx : ((rowsW (linesB s) (gS (linesB s) 0).size h.toNat i.toNat) ++ rowW (gS (linesB s) (h.toNat + 1 + i.toNat)) x.toNat).length ≤ 1000002000000 := by rw [List.length_append, rowsW_len, rowW_len]; have := prod_le (a := i.toNat) (b := (gS (linesB s) 0).size) (by omega) hw0; omega
        have x1 : x < ((gS (linesB s) i.toNat).size : Int) := by omega
        have x2 : x < ((gS (linesB s) (IntKind.i64.wrap (IntKind.i64.wrap (h + 1) + i)).toNat).size : Int) := by rw [hHI']; omega
        conv => whnf
        refine ⟨i0, ?_⟩
        conv => whnf
        refine ⟨show i < ((linesB s).length : Int) by omega, ?_⟩
        conv => whnf
        refine ⟨x0, ?_⟩
        conv => whnf
        refine ⟨x1, ?_⟩
        conv => whnf
        refine ⟨show (((rowsI (linesB s) (gS (linesB s) 0).size i.toNat) ++ rowI (gS (linesB s) i.toNat) x.toNat).length + 1) * 8 ≤ 70368744177664 by omega, ?_⟩
        conv => whnf
        refine ⟨show ((rowsI (linesB s) (gS (linesB s) 0).size i.toNat) ++ rowI (gS (linesB s) i.toNat) x.toNat).length + 1 ≤ 70368744177664 by omega, ?_⟩
        conv => whnf
        refine ⟨show 0 ≤ (IntKind.i64.wrap (IntKind.i64.wrap (h + 1) + i)) by omega, ?_⟩
        conv => whnf
        refine ⟨show (IntKind.i64.wrap (IntKind.i64.wrap (h + 1) + i)) < ((linesB s).length : Int) by omega, ?_⟩
        conv => whnf
        refine ⟨x0, ?_⟩
        conv => whnf
        refine ⟨x2, ?_⟩
        conv => whnf
        refine ⟨show (((rowsW (linesB s) (gS (linesB s) 0).size h.toNat i.toNat) ++ rowW (gS (linesB s) (h.toNat + 1 + i.toNat)) x.toNat).length + 1) * 1 ≤ 70368744177664 by omega, ?_⟩
        conv => whnf
        refine ⟨show ((rowsW (linesB s) (gS (linesB s) 0).size h.toNat i.toNat) ++ rowW (gS (linesB s) (h.toNat + 1 + i.toNat)) x.toNat).length + 1 ≤ 70368744177664 by omega, ?_⟩
        conv => whnf
        refine ⟨x + 1, ?_, ⟨by omega, by omega⟩, by omega⟩
        exact Eq.trans (b := S7d (linesB s) h ((gS (linesB s) 0).size : Int) (((rowsI (linesB s) (gS (linesB s) 0).size i.toNat) ++ rowI (gS (linesB s) i.toNat) x.toNat) ++ [(IntKind.i64.wrap (IntKind.u8.wrap (byteAt (gS (linesB s) i.toNat) x.toNat - 48)))]) (((rowsW (linesB s) (gS (linesB s) 0).size h.toNat i.toNat) ++ rowW (gS (linesB s) (h.toNat + 1 + i.toNat)) x.toNat) ++ [decide (byteAt (gS (linesB s) (IntKind.i64.wrap (IntKind.i64.wrap (h + 1) + i)).toNat) x.toNat = 119)]) i (IntKind.i64.wrap (x + 1))) rfl (by rw [wx, ex, hc, hHI', List.append_assoc, List.append_assoc]; rfl)
      have hx : ¬ (x < ((gS (linesB s) 0).size : Int)) := @of_decide_eq_false _ _ hx
      rw [show x.toNat = (gS (linesB s) 0).size by omega]
      conv => whnf
      refine ⟨i + 1, ?_, ⟨by omega, by omega⟩, by omega⟩
      exact Eq.trans (b := S7c (linesB s) h ((gS (linesB s) 0).size : Int) ((rowsI (linesB s) (gS (linesB s) 0).size i.toNat) ++ rowI (gS (linesB s) i.toNat) (gS (linesB s) 0).size) ((rowsW (linesB s) (gS (linesB s) 0).size h.toNat i.toNat) ++ rowW (gS (linesB s) (h.toNat + 1 + i.toNat)) (gS (linesB s) 0).size) (IntKind.i64.wrap (i + 1))) rfl (by rw [wi, ei]; rfl)
    have hi : ¬ (i < h) := @of_decide_eq_false _ _ hi
    rw [show i.toNat = h.toNat by omega]
    have hrl : (((gS (linesB s) 0).size : Int), h, rowsI (linesB s) (gS (linesB s) 0).size h.toNat, rowsW (linesB s) (gS (linesB s) 0).size h.toNat h.toNat) = (railsL (linesB s) h.toNat) := by unfold railsL; rw [show ((h.toNat : Nat) : Int) = h by omega]
    conv => whnf
    refine cond_intro (fun hv => ?_) (fun hv => ?_)
    · have hv : (!decide (validR (((gS (linesB s) 0).size : Int), h, rowsI (linesB s) (gS (linesB s) 0).size h.toNat, rowsW (linesB s) (gS (linesB s) 0).size h.toNat h.toNat) = 0)) = true := hv
      have hv : ¬ (validR (((gS (linesB s) 0).size : Int), h, rowsI (linesB s) (gS (linesB s) 0).size h.toNat, rowsW (linesB s) (gS (linesB s) 0).size h.toNat h.toNat) = 0) := fun e => absurd hv (by rw [decide_eq_true e]; decide)
      rw [hrl] at hv
      conv => whnf
      show (zR, (0 : Int), validR (((gS (linesB s) 0).size : Int), h, rowsI (linesB s) (gS (linesB s) 0).size h.toNat, rowsW (linesB s) (gS (linesB s) 0).size h.toNat h.toNat)) = parseL (linesB s)
      rw [hrl, p_wrong hat hb2 (by omega) hv]
    have hv : (!decide (validR (((gS (linesB s) 0).size : Int), h, rowsI (linesB s) (gS (linesB s) 0).size h.toNat, rowsW (linesB s) (gS (linesB s) 0).size h.toNat h.toNat) = 0)) = false := hv
    have hv : validR (((gS (linesB s) 0).size : Int), h, rowsI (linesB s) (gS (linesB s) 0).size h.toNat, rowsW (linesB s) (gS (linesB s) 0).size h.toNat h.toNat) = 0 := Decidable.byContradiction fun e => absurd hv (by rw [decide_eq_false e]; decide)
    rw [hrl] at hv
    conv => whnf
    show ((((gS (linesB s) 0).size : Int), h, rowsI (linesB s) (gS (linesB s) 0).size h.toNat, rowsW (linesB s) (gS (linesB s) 0).size h.toNat h.toNat), (0 : Int), (0 : Int)) = parseL (linesB s)
    rw [hrl, p_ok hat hb2 (by omega) hv]
  have q1 : ¬ (h < ((linesB s).length : Int)) := @of_decide_eq_false _ _ q1
  conv => whnf
  refine cond_intro (fun z => ?_) (fun z => ?_)
  · have z : h = 0 := @of_decide_eq_true _ _ z
    conv => whnf
    show (zR, IntKind.i64.wrap (h + 1), (14 : Int)) = parseL (linesB s)
    rw [wh, p_none hb1 (by omega) (fun g => by omega) (.inl (by omega))]
    show (zR, h + 1, (14 : Int)) = (zR, ((h.toNat : Nat) : Int) + 1, 14)
    rw [show ((h.toNat : Nat) : Int) = h by omega]
  have z : ¬ (h = 0) := @of_decide_eq_false _ _ z
  conv => whnf
  refine cond_intro (fun z2 => ?_) (fun z2 => ?_)
  · have z2 : h = ((linesB s).length : Int) := @of_decide_eq_true _ _ z2
    conv => whnf
    show (zR, IntKind.i64.wrap (h + 1), (14 : Int)) = parseL (linesB s)
    rw [wh, p_none hb1 (by omega) (fun g => by omega) (.inr (by omega))]
    show (zR, h + 1, (14 : Int)) = (zR, ((h.toNat : Nat) : Int) + 1, 14)
    rw [show ((h.toNat : Nat) : Int) = h by omega]
  have z2 : ¬ (h = ((linesB s).length : Int)) := @of_decide_eq_false _ _ z2
  exfalso
  omega
end
end Go.Proofs.YtllgclopliegfaaDoor.Eng
set_option linter.unusedVariables false
set_option linter.unusedSimpArgs false
namespace Go.Proofs.YtllgclopliegfaaDoor.Eng
open Go
set_option maxRecDepth 100000
noncomputable section
def S6a (l : List ByteArray) (a : List Int) (h : Int) : SL := ⟨List.replicate 2 .undef ++ [.ptr 0 0 0] ++ List.replicate 2 .undef ++ [.own 1] ++ [.ptr 2 0 0] ++ List.replicate 175 .undef, [(0, .box [.int .i64 0, .int .i64 0, .nilsl, .nilsl]), (1, .arr .str l), (2, .box [.int .i64 0, .int .i64 h, .own 3, .nilsl]), (3, .arr I a)], 4⟩
def S6b (l : List ByteArray) (a : List Int) (h i : Int) : SL := ⟨List.replicate 2 .undef ++ [.ptr 0 0 0] ++ List.replicate 2 .undef ++ [.own 1] ++ [.ptr 2 0 0] ++ [.int .i64 i] ++ List.replicate 174 .undef, [(0, .box [.int .i64 0, .int .i64 0, .nilsl, .nilsl]), (1, .arr .str l), (2, .box [.int .i64 0, .int .i64 h, .own 3, .nilsl]), (3, .arr I a)], 4⟩
def S6c (l : List ByteArray) (w h : Int) (a : List Int) (b : List Bool) (k : Int) : SL := ⟨List.replicate 2 .undef ++ [.ptr 0 0 0] ++ List.replicate 2 .undef ++ [.own 1] ++ [.ptr 2 0 0] ++ List.replicate 2 .undef ++ [.int .i64 k] ++ List.replicate 172 .undef, [(0, .box [.int .i64 0, .int .i64 0, .nilsl, .nilsl]), (1, .arr .str l), (2, .box [.int .i64 w, .int .i64 h, .own 3, .own 4]), (3, .arr I a), (4, .arr .bool b)], 5⟩
def S6d (l : List ByteArray) (w h : Int) (a : List Int) (b : List Bool) (k i : Int) : SL := ⟨List.replicate 2 .undef ++ [.ptr 0 0 0] ++ List.replicate 2 .undef ++ [.own 1] ++ [.ptr 2 0 0] ++ List.replicate 2 .undef ++ [.int .i64 k] ++ [.int .i64 i] ++ List.replicate 171 .undef, [(0, .box [.int .i64 0, .int .i64 0, .nilsl, .nilsl]), (1, .arr .str l), (2, .box [.int .i64 w, .int .i64 h, .own 3, .own 4]), (3, .arr I a), (4, .arr .bool b)], 5⟩
def E6 : Env := ⟨tab, [(13, K13), (14, K14)], fun n => match n with | 3 => some ([2, 5, 6], [], [(6, 2, I)]) | 7 => some ([2, 5, 6, 7], [], []) | 18 => some ([2, 5, 6, 9], [], [(6, 3, .bool)]) | 23 => some ([2, 5, 6, 9, 10], [], []) | _ => none⟩
def K6 : Fn1 := ⟨.one .str, .fld rlT (.fld I (.one I)), fun (s : ByteArray) => [s.size ≤ 1000000], fun (s : ByteArray) => parseL (linesB s)⟩
set_option maxHeartbeats 4000000 in
theorem k6 : FnOk Go.Proofs.Tryd.prog 6 K6 := by
  refine fn_ok (E := E6) (TOk.of tab_told) (AllOk.cons k13 (.cons k14 .nil)).at_ mix Go.Proofs.Tryd.func6 rfl rfl (by kernel_rfl) K6 ?_
  rintro (s : ByteArray) hp
  have hs : s.size ≤ 1000000 := hp _ (List.mem_cons_self ..)
  clear hp
  have hbd := lines_bd hs
  have hlb := hbd.1
  conv => whnf
  refine ⟨hs, ?_⟩
  conv => whnf
  refine loop_rule (fun h => S6a (linesB s) (rowsI (linesB s) (gS (linesB s) 0).size h.toNat) h) (fun h => (((linesB s).length : Int) - h).toNat) (fun h => 0 ≤ h ∧ h ≤ ((linesB s).length : Int) ∧ B1 (linesB s) h.toNat) ?_ 0 (by kernel_rfl) ?_ ⟨Int.le_refl _, by omega, fun j hj => by simp at hj⟩
  case refine_2 => rfl
  rintro h ⟨h0, h1, hb1⟩
  have wh : IntKind.i64.wrap (h + 1) = h + 1 := wrap_eq (by omega) (by omega)
  have eh : (h + 1).toNat = h.toNat + 1 := by omega
  conv => whnf
  refine cond_intro (fun q1 => ?_) (fun q1 => ?_)
  · have q1 : h < ((linesB s).length : Int) := @of_decide_eq_true _ _ q1
    conv => whnf
    refine ⟨h0, ?_⟩
    conv => whnf
    refine ⟨q1, ?_⟩
    conv => whnf
    refine cond_intro (fun q2 => ?_) (fun q2 => ?_)
    · have q2 : (!(((gS (linesB s) h.toNat).toList == ByteArray.toList ⟨#[]⟩))) = true := q2
      have q2 : (((gS (linesB s) h.toNat).toList == ByteArray.toList ⟨#[]⟩)) = false := by cases e : (((gS (linesB s) h.toNat).toList == ByteArray.toList ⟨#[]⟩)) with | false => rfl | true => exact absurd q2 (by rw [e]; decide)
      have hem : emp (gS (linesB s) h.toNat) = false := by rw [← emp_iff (t := ⟨#[]⟩) rfl]; exact q2
      have hw0 := hbd.2 0
      conv => whnf
      refine ⟨h0, ?_⟩
      conv => whnf
      refine ⟨q1, ?_⟩
      conv => whnf
      refine ⟨Int.le_refl _, ?_⟩
      conv => whnf
      refine ⟨show 0 < ((linesB s).length : Int) by omega, ?_⟩
      conv => whnf
      refine cond_intro (fun hsz => ?_) (fun hsz => ?_)
      · have hsz : (!decide (((gS (linesB s) h.toNat).size : Int) = ((gS (linesB s) 0).size : Int))) = true := hsz
        have hsz : ¬ (((gS (linesB s) h.toNat).size : Int) = ((gS (linesB s) 0).size : Int)) := fun e => absurd hsz (by rw [decide_eq_true e]; decide)
        conv => whnf
        show (zR, IntKind.i64.wrap (h + 1), (14 : Int)) = parseL (linesB s)
        rw [wh, p_bad hb1 (by omega) hem (by unfold goodR; rw [decide_eq_false hsz]; rfl)]
        show (zR, h + 1, (14 : Int)) = (zR, ((h.toNat : Nat) : Int) + 1, 14)
        rw [show ((h.toNat : Nat) : Int) = h by omega]
      have hsz : (!decide (((gS (linesB s) h.toNat).size : Int) = ((gS (linesB s) 0).size : Int))) = false := hsz
      have hsz : ((gS (linesB s) h.toNat).size : Int) = ((gS (linesB s) 0).size : Int) := Decidable.byContradiction fun e => absurd hsz (by rw [decide_eq_false e]; decide)
      conv => whnf
      refine loop_rule (fun i => S6b (linesB s) ((rowsI (linesB s) (gS (linesB s) 0).size h.toNat) ++ rowI (gS (linesB s) h.toNat) i.toNat) h i) (fun i => (((gS (linesB s) h.toNat).size : Int) - i).toNat) (fun i => 0 ≤ i ∧ i ≤ ((gS (linesB s) h.toNat).size : Int) ∧ goodN setB (gS (linesB s) h.toNat) i.toNat = true) ?_ 0 (by kernel_rfl) ?_ ⟨Int.le_refl _, by omega, rfl⟩
      case refine_2 => exact Eq.trans (b := S6b (linesB s) (rowsI (linesB s) (gS (linesB s) 0).size h.toNat) h 0) rfl (by show _ = S6b (linesB s) ((rowsI (linesB s) (gS (linesB s) 0).size h.toNat) ++ []) h 0; rw [List.append_nil])
      rintro i ⟨i0, i1, hgn⟩
      conv => whnf
      refine ⟨h0, ?_⟩
      conv => whnf
      refine ⟨q1, ?_⟩
      conv => whnf
      refine cond_intro (fun hi => ?_) (fun hi => ?_)
      · have hi : i < ((gS (linesB s) h.toNat).size : Int) := @of_decide_eq_true _ _ hi
        have wi : IntKind.i64.wrap (i + 1) = i + 1 := wrap_eq (by omega) (by omega)
        have ei : (i + 1).toNat = i.toNat + 1 := by omega
        have hbl := byte_lt (s := (gS (linesB s) h.toNat)) (i := i.toNat)
        have hN : (IntKind.i64.wrap (IntKind.i64.wrap (byteAt (gS (linesB s) h.toNat) i.toNat) - 48)) = byteAt (gS (linesB s) h.toNat) i.toNat - 48 := by rw [wrap_eq (by rw [wrap_eq (by omega) (by omega)]; omega) (by rw [wrap_eq (by omega) (by omega)]; omega), wrap_eq (by omega) (by omega)]
        have hsl : ((rowsI (linesB s) (gS (linesB s) 0).size h.toNat) ++ rowI (gS (linesB s) h.toNat) i.toNat).length ≤ 1000002000000 := by rw [List.length_append, rowsI_len, rowI_len]; have := prod_le (a := h.toNat) (b := (gS (linesB s) 0).size) (by omega) hw0; omega
        conv => whnf
        refine ⟨h0, ?_⟩
        conv => whnf
        refine ⟨q1, ?_⟩
        conv => whnf
        refine ⟨i0, ?_⟩
        conv => whnf
        refine ⟨hi, ?_⟩
        conv => whnf
        refine cond_intro (fun n1 => ?_) (fun n1 => ?_)
        · have n1 : (IntKind.i64.wrap (IntKind.i64.wrap (byteAt (gS (linesB s) h.toNat) i.toNat) - 48)) < 0 := @of_decide_eq_true _ _ n1
          rw [hN] at n1
          conv => whnf
          show (zR, IntKind.i64.wrap (h + 1), (14 : Int)) = parseL (linesB s)
          rw [wh, p_bad hb1 (by omega) hem (good_not (i := i.toNat) (by omega) (by cases e : setB (byteAt (gS (linesB s) h.toNat) i.toNat) with | false => rfl | true => have := setB_iff.1 e; omega))]
          show (zR, h + 1, (14 : Int)) = (zR, ((h.toNat : Nat) : Int) + 1, 14)
          rw [show ((h.toNat : Nat) : Int) = h by omega]
        have n1 : ¬ ((IntKind.i64.wrap (IntKind.i64.wrap (byteAt (gS (linesB s) h.toNat) i.toNat) - 48)) < 0) := @of_decide_eq_false _ _ n1
        rw [hN] at n1
        conv => whnf
        refine cond_intro (fun n2 => ?_) (fun n2 => ?_)
        · have n2 : 63 < (IntKind.i64.wrap (IntKind.i64.wrap (byteAt (gS (linesB s) h.toNat) i.toNat) - 48)) := @of_decide_eq_true _ _ n2
          rw [hN] at n2
          conv => whnf
          show (zR, IntKind.i64.wrap (h + 1), (14 : Int)) = parseL (linesB s)
          rw [wh, p_bad hb1 (by omega) hem (good_not (i := i.toNat) (by omega) (by cases e : setB (byteAt (gS (linesB s) h.toNat) i.toNat) with | false => rfl | true => have := setB_iff.1 e; omega))]
          show (zR, h + 1, (14 : Int)) = (zR, ((h.toNat : Nat) : Int) + 1, 14)
          rw [show ((h.toNat : Nat) : Int) = h by omega]
        have n2 : ¬ (63 < (IntKind.i64.wrap (IntKind.i64.wrap (byteAt (gS (linesB s) h.toNat) i.toNat) - 48))) := @of_decide_eq_false _ _ n2
        rw [hN] at n2
        conv => whnf
        refine ⟨show (((rowsI (linesB s) (gS (linesB s) 0).size h.toNat) ++ rowI (gS (linesB s) h.toNat) i.toNat).length + 1) * 8 ≤ 70368744177664 by omega, ?_⟩
        conv => whnf
        refine ⟨show ((rowsI (linesB s) (gS (linesB s) 0).size h.toNat) ++ rowI (gS (linesB s) h.toNat) i.toNat).length + 1 ≤ 70368744177664 by omega, ?_⟩
        conv => whnf
        refine ⟨i + 1, ?_, ⟨by omega, by omega, ?_⟩, by omega⟩
        · exact Eq.trans (b := S6b (linesB s) (((rowsI (linesB s) (gS (linesB s) 0).size h.toNat) ++ rowI (gS (linesB s) h.toNat) i.toNat) ++ [(IntKind.i64.wrap (IntKind.i64.wrap (byteAt (gS (linesB s) h.toNat) i.toNat) - 48))]) h (IntKind.i64.wrap (i + 1))) rfl (by rw [wi, ei, hN, List.append_assoc]; rfl)
        · rw [ei]; unfold goodN; rw [hgn, setB_iff.2 ⟨by omega, by omega⟩]; rfl
      have hi : ¬ (i < ((gS (linesB s) h.toNat).size : Int)) := @of_decide_eq_false _ _ hi
      have hgn : goodN setB (gS (linesB s) h.toNat) (gS (linesB s) h.toNat).size = true := by rw [show (gS (linesB s) h.toNat).size = i.toNat by omega]; exact hgn
      rw [show i.toNat = (gS (linesB s) 0).size by omega]
      conv => whnf
      refine ⟨h + 1, ?_, ⟨by omega, by omega, ?_⟩, by omega⟩
      · exact Eq.trans (b := S6a (linesB s) ((rowsI (linesB s) (gS (linesB s) 0).size h.toNat) ++ rowI (gS (linesB s) h.toNat) (gS (linesB s) 0).size) (IntKind.i64.wrap (h + 1))) rfl (by rw [wh, eh]; rfl)
      · rw [eh]; exact hb1.succ hem (good_all hsz hgn)
    have q2 : (!(((gS (linesB s) h.toNat).toList == ByteArray.toList ⟨#[]⟩))) = false := q2
    have q2 : (((gS (linesB s) h.toNat).toList == ByteArray.toList ⟨#[]⟩)) = true := by cases e : (((gS (linesB s) h.toNat).toList == ByteArray.toList ⟨#[]⟩)) with | true => rfl | false => exact absurd q2 (by rw [e]; decide)
    conv => whnf
    refine cond_intro (fun z => ?_) (fun z => ?_)
    · have z : h = 0 := @of_decide_eq_true _ _ z
      have hem : emp (gS (linesB s) h.toNat) = true := by rw [← emp_iff (t := ⟨#[]⟩) rfl]; exact q2
      conv => whnf
      show (zR, IntKind.i64.wrap (h + 1), (14 : Int)) = parseL (linesB s)
      rw [wh, p_none hb1 (by omega) (fun _ => hem) (.inl (by omega))]
      show (zR, h + 1, (14 : Int)) = (zR, ((h.toNat : Nat) : Int) + 1, 14)
      rw [show ((h.toNat : Nat) : Int) = h by omega]
    have z : ¬ (h = 0) := @of_decide_eq_false _ _ z
    conv => whnf
    refine cond_intro (fun z2 => ?_) (fun z2 => ?_)
    · have z2 : h = ((linesB s).length : Int) := @of_decide_eq_true _ _ z2
      exfalso
      omega
    have z2 : ¬ (h = ((linesB s).length : Int)) := @of_decide_eq_false _ _ z2
    have hem : emp (gS (linesB s) h.toNat) = true := by rw [← emp_iff (t := ⟨#[]⟩) rfl]; exact q2
    have hat : AtH (linesB s) h.toNat := ⟨hb1, by omega, hem, by omega⟩
    have w2 : IntKind.i64.wrap (2 * h) = 2 * h := wrap_eq (by omega) (by omega)
    have hw0 := hbd.2 0
    conv => whnf
    refine ⟨Int.le_refl _, ?_⟩
    conv => whnf
    refine ⟨show 0 < ((linesB s).length : Int) by omega, ?_⟩
    conv => whnf
    refine loop_rule (fun k => S6c (linesB s) ((gS (linesB s) 0).size : Int) h (rowsI (linesB s) (gS (linesB s) 0).size h.toNat) (rowsW (linesB s) (gS (linesB s) 0).size h.toNat (k.toNat - (h.toNat + 1))) k) (fun k => (((linesB s).length : Int) - k).toNat) (fun k => h + 1 ≤ k ∧ k ≤ ((linesB s).length : Int) ∧ B2 (linesB s) h.toNat k.toNat) ?_ (h + 1) (by kernel_rfl) ?_ ⟨Int.le_refl _, by omega, fun j j1 j2 => by omega⟩
    case refine_2 => exact Eq.trans (b := S6c (linesB s) ((gS (linesB s) 0).size : Int) h (rowsI (linesB s) (gS (linesB s) 0).size h.toNat) [] (IntKind.i64.wrap (h + 1))) rfl (by rw [wh, eh, Nat.sub_self]; rfl)
    rintro k ⟨k0, k1, hb2⟩
    conv => whnf
    refine cond_intro (fun q3 => ?_) (fun q3 => ?_)
    · have q3 : k < ((linesB s).length : Int) := @of_decide_eq_true _ _ q3
      have wk : IntKind.i64.wrap (k + 1) = k + 1 := wrap_eq (by omega) (by omega)
      have ek : (k + 1).toNat = k.toNat + 1 := by omega
      conv => whnf
      refine cond_intro (fun g2 => ?_) (fun g2 => ?_)
      · have g2 : IntKind.i64.wrap (2 * h) < k := @of_decide_eq_true _ _ g2
        rw [w2] at g2
        conv => whnf
        show (zR, IntKind.i64.wrap (k + 1), (14 : Int)) = parseL (linesB s)
        rw [wk, p_k hat (by omega) (by omega) hb2 (by unfold stop2; rw [decide_eq_true (by omega)]; rfl)]
        show (zR, k + 1, (14 : Int)) = (zR, ((k.toNat : Nat) : Int) + 1, 14)
        rw [show ((k.toNat : Nat) : Int) = k by omega]
      have g2 : ¬ (IntKind.i64.wrap (2 * h) < k) := @of_decide_eq_false _ _ g2
      rw [w2] at g2
      conv => whnf
      refine ⟨show 0 ≤ k by omega, ?_⟩
      conv => whnf
      refine ⟨q3, ?_⟩
      conv => whnf
      refine cond_intro (fun hsz => ?_) (fun hsz => ?_)
      · have hsz : (!decide (((gS (linesB s) k.toNat).size : Int) = ((gS (linesB s) 0).size : Int))) = true := hsz
        have hsz : ¬ (((gS (linesB s) k.toNat).size : Int) = ((gS (linesB s) 0).size : Int)) := fun e => absurd hsz (by rw [decide_eq_true e]; decide)
        conv => whnf
        show (zR, IntKind.i64.wrap (k + 1), (14 : Int)) = parseL (linesB s)
        rw [wk, p_k hat (by omega) (by omega) hb2 (by unfold stop2 goodR; rw [decide_eq_false hsz, Bool.or_comm]; rfl)]
        show (zR, k + 1, (14 : Int)) = (zR, ((k.toNat : Nat) : Int) + 1, 14)
        rw [show ((k.toNat : Nat) : Int) = k by omega]
      have hsz : (!decide (((gS (linesB s) k.toNat).size : Int) = ((gS (linesB s) 0).size : Int))) = false := hsz
      have hsz : ((gS (linesB s) k.toNat).size : Int) = ((gS (linesB s) 0).size : Int) := Decidable.byContradiction fun e => absurd hsz (by rw [decide_eq_false e]; decide)
      conv => whnf
      refine loop_rule (fun i => S6d (linesB s) ((gS (linesB s) 0).size : Int) h (rowsI (linesB s) (gS (linesB s) 0).size h.toNat) ((rowsW (linesB s) (gS (linesB s) 0).size h.toNat (k.toNat - (h.toNat + 1))) ++ rowW (gS (linesB s) k.toNat) i.toNat) k i) (fun i => (((gS (linesB s) 0).size : Int) - i).toNat) (fun i => 0 ≤ i ∧ i ≤ ((gS (linesB s) 0).size : Int) ∧ goodN wireB (gS (linesB s) k.toNat) i.toNat = true) ?_ 0 (by kernel_rfl) ?_ ⟨Int.le_refl _, by omega, rfl⟩
      case refine_2 => exact Eq.trans (b := S6d (linesB s) ((gS (linesB s) 0).size : Int) h (rowsI (linesB s) (gS (linesB s) 0).size h.toNat) (rowsW (linesB s) (gS (linesB s) 0).size h.toNat (k.toNat - (h.toNat + 1))) k 0) rfl (by show _ = S6d (linesB s) ((gS (linesB s) 0).size : Int) h (rowsI (linesB s) (gS (linesB s) 0).size h.toNat) ((rowsW (linesB s) (gS (linesB s) 0).size h.toNat (k.toNat - (h.toNat + 1))) ++ []) k 0; rw [List.append_nil])
      rintro i ⟨i0, i1, hgn⟩
      conv => whnf
      refine cond_intro (fun hi => ?_) (fun hi => ?_)
      · have hi : i < ((gS (linesB s) 0).size : Int) := @of_decide_eq_true _ _ hi
        have wi : IntKind.i64.wrap (i + 1) = i + 1 := wrap_eq (by omega) (by omega)
        have ei : (i + 1).toNat = i.toNat + 1 := by omega
        have ik : i < ((gS (linesB s) k.toNat).size : Int) := by omega
        have hwl : ((rowsW (linesB s) (gS (linesB s) 0).size h.toNat (k.toNat - (h.toNat + 1))) ++ rowW (gS (linesB s) k.toNat) i.toNat).length ≤ 1000002000000 := by rw [List.length_append, rowsW_len, rowW_len]; have := prod_le (a := k.toNat - (h.toNat + 1)) (b := (gS (linesB s) 0).size) (by omega) hw0; omega
        conv => whnf
        refine ⟨show 0 ≤ k by omega, ?_⟩
        conv => whnf
        refine ⟨q3, ?_⟩
        conv => whnf
        refine ⟨i0, ?_⟩
        conv => whnf
        refine ⟨ik, ?_⟩
        conv => whnf
        refine cond_intro (fun b1 => ?_) (fun b1 => ?_)
        · have b1 : (!decide (byteAt (gS (linesB s) k.toNat) i.toNat = 119)) = true := b1
          have b1 : ¬ (byteAt (gS (linesB s) k.toNat) i.toNat = 119) := fun e => absurd b1 (by rw [decide_eq_true e]; decide)
          conv => whnf
          refine ⟨show 0 ≤ k by omega, ?_⟩
          conv => whnf
          refine ⟨q3, ?_⟩
          conv => whnf
          refine ⟨i0, ?_⟩
          conv => whnf
          refine ⟨ik, ?_⟩
          conv => whnf
          refine cond_intro (fun b2 => ?_) (fun b2 => ?_)
          · have b2 : (!decide (byteAt (gS (linesB s) k.toNat) i.toNat = 46)) = true := b2
            have b2 : ¬ (byteAt (gS (linesB s) k.toNat) i.toNat = 46) := fun e => absurd b2 (by rw [decide_eq_true e]; decide)
            conv => whnf
            show (zR, IntKind.i64.wrap (k + 1), (14 : Int)) = parseL (linesB s)
            rw [wk, p_k hat (by omega) (by omega) hb2 (by unfold stop2; rw [good_not (i := i.toNat) (by omega) (by cases e : wireB (byteAt (gS (linesB s) k.toNat) i.toNat) with | false => rfl | true => rcases wireB_iff.1 e with e | e <;> omega), Bool.or_comm]; rfl)]
            show (zR, k + 1, (14 : Int)) = (zR, ((k.toNat : Nat) : Int) + 1, 14)
            rw [show ((k.toNat : Nat) : Int) = k by omega]
          have b2 : (!decide (byteAt (gS (linesB s) k.toNat) i.toNat = 46)) = false := b2
          have b2 : byteAt (gS (linesB s) k.toNat) i.toNat = 46 := Decidable.byContradiction fun e => absurd b2 (by rw [decide_eq_false e]; decide)
          conv => whnf
          refine ⟨show 0 ≤ k by omega, ?_⟩
          conv => whnf
          refine ⟨q3, ?_⟩
          conv => whnf
          refine ⟨i0, ?_⟩
          conv => whnf
          refine ⟨ik, ?_⟩
          conv => whnf
          refine ⟨show (((rowsW (linesB s) (gS (linesB s) 0).size h.toNat (k.toNat - (h.toNat + 1))) ++ rowW (gS (linesB s) k.toNat) i.toNat).length + 1) * 1 ≤ 70368744177664 by omega, ?_⟩
          conv => whnf
          refine ⟨show ((rowsW (linesB s) (gS (linesB s) 0).size h.toNat (k.toNat - (h.toNat + 1))) ++ rowW (gS (linesB s) k.toNat) i.toNat).length + 1 ≤ 70368744177664 by omega, ?_⟩
          conv => whnf
          refine ⟨i + 1, ?_, ⟨by omega, by omega, ?_⟩, by omega⟩
          · exact Eq.trans (b := S6d (linesB s) ((gS (linesB s) 0).size : Int) h (rowsI (linesB s) (gS (linesB s) 0).size h.toNat) (((rowsW (linesB s) (gS (linesB s) 0).size h.toNat (k.toNat - (h.toNat + 1))) ++ rowW (gS (linesB s) k.toNat) i.toNat) ++ [decide (byteAt (gS (linesB s) k.toNat) i.toNat = 119)]) k (IntKind.i64.wrap (i + 1))) rfl (by rw [wi, ei, List.append_assoc]; rfl)
          · rw [ei]; unfold goodN; rw [hgn, wireB_iff.2 (.inr b2)]; rfl
        have b1 : (!decide (byteAt (gS (linesB s) k.toNat) i.toNat = 119)) = false := b1
        have b1 : byteAt (gS (linesB s) k.toNat) i.toNat = 119 := Decidable.byContradiction fun e => absurd b1 (by rw [decide_eq_false e]; decide)
        conv => whnf
        refine ⟨show 0 ≤ k by omega, ?_⟩
        conv => whnf
        refine ⟨q3, ?_⟩
        conv => whnf
        refine ⟨i0, ?_⟩
        conv => whnf
        refine ⟨ik, ?_⟩
        conv => whnf
        refine ⟨show (((rowsW (linesB s) (gS (linesB s) 0).size h.toNat (k.toNat - (h.toNat + 1))) ++ rowW (gS (linesB s) k.toNat) i.toNat).length + 1) * 1 ≤ 70368744177664 by omega, ?_⟩
        conv => whnf
        refine ⟨show ((rowsW (linesB s) (gS (linesB s) 0).size h.toNat (k.toNat - (h.toNat + 1))) ++ rowW (gS (linesB s) k.toNat) i.toNat).length + 1 ≤ 70368744177664 by omega, ?_⟩
        conv => whnf
        refine ⟨i + 1, ?_, ⟨by omega, by omega, ?_⟩, by omega⟩
        · exact Eq.trans (b := S6d (linesB s) ((gS (linesB s) 0).size : Int) h (rowsI (linesB s) (gS (linesB s) 0).size h.toNat) (((rowsW (linesB s) (gS (linesB s) 0).size h.toNat (k.toNat - (h.toNat + 1))) ++ rowW (gS (linesB s) k.toNat) i.toNat) ++ [decide (byteAt (gS (linesB s) k.toNat) i.toNat = 119)]) k (IntKind.i64.wrap (i + 1))) rfl (by rw [wi, ei, List.append_assoc]; rfl)
        · rw [ei]; unfold goodN; rw [hgn, wireB_iff.2 (.inl b1)]; rfl
      have hi : ¬ (i < ((gS (linesB s) 0).size : Int)) := @of_decide_eq_false _ _ hi
      have hgn : goodN wireB (gS (linesB s) k.toNat) (gS (linesB s) k.toNat).size = true := by rw [show (gS (linesB s) k.toNat).size = i.toNat by omega]; exact hgn
      rw [show i.toNat = (gS (linesB s) 0).size by omega]
      conv => whnf
      refine ⟨k + 1, ?_, ⟨by omega, by omega, ?_⟩, by omega⟩
      · exact Eq.trans (b := S6c (linesB s) ((gS (linesB s) 0).size : Int) h (rowsI (linesB s) (gS (linesB s) 0).size h.toNat) ((rowsW (linesB s) (gS (linesB s) 0).size h.toNat (k.toNat - (h.toNat + 1))) ++ rowW (gS (linesB s) k.toNat) (gS (linesB s) 0).size) (IntKind.i64.wrap (k + 1))) rfl (by rw [wk, ek, show k.toNat + 1 - (h.toNat + 1) = (k.toNat - (h.toNat + 1)) + 1 by omega, rowsW, show h.toNat + 1 + (k.toNat - (h.toNat + 1)) = k.toNat by omega])
      · rw [ek]; exact hb2.succ (by omega) (good_all hsz hgn)
    have q3 : ¬ (k < ((linesB s).length : Int)) := @of_decide_eq_false _ _ q3
    have hkl : k.toNat = (linesB s).length := by omega
    rw [hkl] at hb2
    have hS : IntKind.i64.wrap (IntKind.i64.wrap (2 * h) + 1) = 2 * h + 1 := by rw [w2, wrap_eq (by omega) (by omega)]
    conv => whnf
    refine cond_intro (fun sh => ?_) (fun sh => ?_)
    · have sh : ((linesB s).length : Int) < IntKind.i64.wrap (IntKind.i64.wrap (2 * h) + 1) := @of_decide_eq_true _ _ sh
      rw [hS] at sh
      have wl : IntKind.i64.wrap (((linesB s).length : Int) + 1) = ((linesB s).length : Int) + 1 := wrap_eq (by omega) (by omega)
      conv => whnf
      show (zR, IntKind.i64.wrap (((linesB s).length : Int) + 1), (14 : Int)) = parseL (linesB s)
      rw [wl, p_short hat hb2 (by omega)]
    have sh : ¬ (((linesB s).length : Int) < IntKind.i64.wrap (IntKind.i64.wrap (2 * h) + 1)) := @of_decide_eq_false _ _ sh
    rw [hS] at sh
    have hfu := full hat hb2 (by omega)
    have hrl : (((gS (linesB s) 0).size : Int), h, rowsI (linesB s) (gS (linesB s) 0).size h.toNat, rowsW (linesB s) (gS (linesB s) 0).size h.toNat h.toNat) = (railsL (linesB s) h.toNat) := by unfold railsL; rw [show ((h.toNat : Nat) : Int) = h by omega]
    rw [show k.toNat - (h.toNat + 1) = h.toNat by omega]
    conv => whnf
    refine cond_intro (fun hv => ?_) (fun hv => ?_)
    · have hv : (!decide (validR (((gS (linesB s) 0).size : Int), h, (rowsI (linesB s) (gS (linesB s) 0).size h.toNat), rowsW (linesB s) (gS (linesB s) 0).size h.toNat h.toNat) = 0)) = true := hv
      have hv : ¬ (validR (((gS (linesB s) 0).size : Int), h, (rowsI (linesB s) (gS (linesB s) 0).size h.toNat), rowsW (linesB s) (gS (linesB s) 0).size h.toNat h.toNat) = 0) := fun e => absurd hv (by rw [decide_eq_true e]; decide)
      rw [hrl] at hv
      conv => whnf
      show (zR, (0 : Int), validR (((gS (linesB s) 0).size : Int), h, (rowsI (linesB s) (gS (linesB s) 0).size h.toNat), rowsW (linesB s) (gS (linesB s) 0).size h.toNat h.toNat)) = parseL (linesB s)
      rw [hrl, p_wrong hat hb2 (by omega) hv]
    have hv : (!decide (validR (((gS (linesB s) 0).size : Int), h, (rowsI (linesB s) (gS (linesB s) 0).size h.toNat), rowsW (linesB s) (gS (linesB s) 0).size h.toNat h.toNat) = 0)) = false := hv
    have hv : validR (((gS (linesB s) 0).size : Int), h, (rowsI (linesB s) (gS (linesB s) 0).size h.toNat), rowsW (linesB s) (gS (linesB s) 0).size h.toNat h.toNat) = 0 := Decidable.byContradiction fun e => absurd hv (by rw [decide_eq_false e]; decide)
    rw [hrl] at hv
    conv => whnf
    show ((((gS (linesB s) 0).size : Int), h, (rowsI (linesB s) (gS (linesB s) 0).size h.toNat), rowsW (linesB s) (gS (linesB s) 0).size h.toNat h.toNat), (0 : Int), (0 : Int)) = parseL (linesB s)
    rw [hrl, p_ok hat hb2 (by omega) hv]
  have q1 : ¬ (h < ((linesB s).length : Int)) := @of_decide_eq_false _ _ q1
  conv => whnf
  refine cond_intro (fun z => ?_) (fun z => ?_)
  · have z : h = 0 := @of_decide_eq_true _ _ z
    conv => whnf
    show (zR, IntKind.i64.wrap (h + 1), (14 : Int)) = parseL (linesB s)
    rw [wh, p_none hb1 (by omega) (fun g => by omega) (.inl (by omega))]
    show (zR, h + 1, (14 : Int)) = (zR, ((h.toNat : Nat) : Int) + 1, 14)
    rw [show ((h.toNat : Nat) : Int) = h by omega]
  have z : ¬ (h = 0) := @of_decide_eq_false _ _ z
  conv => whnf
  refine cond_intro (fun z2 => ?_) (fun z2 => ?_)
  · have z2 : h = ((linesB s).length : Int) := @of_decide_eq_true _ _ z2
    conv => whnf
    show (zR, IntKind.i64.wrap (h + 1), (14 : Int)) = parseL (linesB s)
    rw [wh, p_none hb1 (by omega) (fun g => by omega) (.inr (by omega))]
    show (zR, h + 1, (14 : Int)) = (zR, ((h.toNat : Nat) : Int) + 1, 14)
    rw [show ((h.toNat : Nat) : Int) = h by omega]
  have z2 : ¬ (h = ((linesB s).length : Int)) := @of_decide_eq_false _ _ z2
  exfalso
  omega
end
end Go.Proofs.YtllgclopliegfaaDoor.Eng
set_option linter.unusedVariables false
set_option linter.unusedSimpArgs false
namespace Go.Proofs.YtllgclopliegfaaDoor.Eng
open Go
set_option maxRecDepth 100000
noncomputable section
theorem rails_area {w h : Int} (a1 : ¬ w < 4) (a2 : ¬ 32 < w) (a3 : ¬ h < 4) (a4 : ¬ 32 < h) : (0 ≤ w * h ∧ w * h ≤ 1024) ∧ IntKind.i64.wrap (w * h) = w * h := by
  have h0 : 0 ≤ w * h := Int.mul_nonneg (by omega) (by omega)
  have h1 : w * h ≤ 32 * 32 := Int.mul_le_mul (by omega) (by omega) (by omega) (by omega)
  exact ⟨⟨h0, by omega⟩, wrap_eq (by omega) (by omega)⟩
theorem parse_len {s : ByteArray} (hs : s.size ≤ 1000000) : (parseL (linesB s)).1.2.2.1.length ≤ 1000000000 ∧ (parseL (linesB s)).1.2.2.2.length ≤ 1000000000 := by
  have hz : zR.2.2.1.length ≤ 1000000000 ∧ zR.2.2.2.length ≤ 1000000000 := ⟨by decide, by decide⟩
  unfold parseL
  split
  · exact hz
  split
  · exact hz
  split
  · exact hz
  split
  · exact hz
  split
  · rename_i hv
    have hw : ¬ wrongR (railsL (linesB s) (hR (linesB s))) := fun q => by unfold validR at hv; rw [if_pos q] at hv; cases hv
    unfold wrongR at hw
    have h1 := fun q => hw (.inr (.inr (.inr (.inr (.inl q)))))
    have h2 := fun q => hw (.inr (.inr (.inr (.inr (.inr q)))))
    have h1 := Decidable.not_not.1 h1
    have h2 := Decidable.not_not.1 h2
    have a1 : ¬ (railsL (linesB s) (hR (linesB s))).1 < 4 := fun q => hw (.inl q)
    have a2 : ¬ 32 < (railsL (linesB s) (hR (linesB s))).1 := fun q => hw (.inr (.inl q))
    have a3 : ¬ (railsL (linesB s) (hR (linesB s))).2.1 < 4 := fun q => hw (.inr (.inr (.inl q)))
    have a4 : ¬ 32 < (railsL (linesB s) (hR (linesB s))).2.1 := fun q => hw (.inr (.inr (.inr (.inl q))))
    have hp := rails_area a1 a2 a3 a4
    rw [hp.2] at h1 h2
    exact ⟨show (railsL (linesB s) (hR (linesB s))).2.2.1.length ≤ 1000000000 by omega, show (railsL (linesB s) (hR (linesB s))).2.2.2.length ≤ 1000000000 by omega⟩
  · exact hz
def E3 : Env := ⟨tab, [(5, K5), (6, K6), (7, K7), (8, K8)], fun n => match n with  | _ => none⟩
def K3 : Fn1 := ⟨.one .str, .one .bool, fun _ => [], fun _ => true⟩
theorem k3 : FnOk Go.Proofs.Tryd.prog 3 K3 := by
  refine fn_ok (E := E3) (TOk.of tab_told) (AllOk.cons k5 (.cons k6 (.cons k7 (.cons k8 .nil)))).at_ mix Go.Proofs.Tryd.func3 rfl rfl (by kernel_rfl) K3 ?_
  rintro (s : ByteArray) hp
  clear hp
  conv => whnf
  refine cond_intro (fun hl => ?_) (fun hl => ?_)
  · have hl : 9000 < (s.size : Int) := @of_decide_eq_true _ _ hl
    conv => whnf
    show true = true
    rfl
  have hl : ¬ (9000 < (s.size : Int)) := @of_decide_eq_false _ _ hl
  have hs : s.size ≤ 1000000 := by omega
  have hpl := parse_len hs
  conv => whnf
  refine ⟨hs, ?_⟩
  conv => whnf
  refine ⟨hs, ?_⟩
  conv => whnf
  refine cond_intro (fun e1 => ?_) (fun e1 => ?_)
  · have e1 : (parseL (linesB s)).2.2 = (parseL (linesB s)).2.2 := @of_decide_eq_true _ _ e1
    conv => whnf
    refine cond_intro (fun e2 => ?_) (fun e2 => ?_)
    · have e2 : (parseL (linesB s)).2.1 = (parseL (linesB s)).2.1 := @of_decide_eq_true _ _ e2
      conv => whnf
      refine ⟨hpl.1, ?_⟩
      conv => whnf
      refine ⟨hpl.2, ?_⟩
      conv => whnf
      refine cond_intro (fun e3 => ?_) (fun e3 => ?_)
      · have e3 : (eqRl (parseL (linesB s)).1 (parseL (linesB s)).1) = true := e3
        conv => whnf
        show true = true
        rfl
      have e3 : (eqRl (parseL (linesB s)).1 (parseL (linesB s)).1) = false := e3
      exfalso
      simp [eqRl] at e3
    have e2 : ¬ ((parseL (linesB s)).2.1 = (parseL (linesB s)).2.1) := @of_decide_eq_false _ _ e2
    exfalso
    exact e2 rfl
  have e1 : ¬ ((parseL (linesB s)).2.2 = (parseL (linesB s)).2.2) := @of_decide_eq_false _ _ e1
  exfalso
  exact e1 rfl
end
end Go.Proofs.YtllgclopliegfaaDoor.Eng
