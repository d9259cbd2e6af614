/- Lean functions with the answers of the Go functions that a law uses,and for each that the Go code comes to just that; written by a program of this session's. -/
import Derived.Test.YtmphplpfgjcpiaaPCargox0
import Derived.Test.YtmphplpfgjcpiaaBq
import Derived.Test.YtmphplpfgjcpiaaPCargoxF42
import Derived.Test.YtmphplpfgjcpiaaPCargoxF22
import Derived.Test.YtmphplpfgjcpiaaPCargoxF20
namespace Go.Proofs.Ytmphplpfgjcpiaa.PCargo
open Go.RowKit Go.Proofs.YtmphplpfgjcpiaaW.PrintWords Go.Proofs.YtmphplpfgjcpiaaW.PrintLast Go.Proofs.YtmphplpfgjcpiaaW.PrintMore
attribute [local go_sem] max2_int min2_int max_two min_two max_three min_three max_four min_four   -- for this text's walks alone
set_option linter.unusedVariables false
set_option linter.unusedSimpArgs false

/-! ### hinterlandref09_judge: function 51 -/
def hinterlandref09_judge.l0 : Nat → List (S23) → List (S44) → Int → Int → Int → Option (Int)
 | 0,_,_,_,_,_ => none
 | k + 1,x0,x1,x2,x3,x11 => if x11 < (x1.length : Int) then (if 0 ≤ x11 then (if (rd_T44 x1 x11).f0 ≥ (x0.length : Int) then (some 2) else (hinterlandref09_judge.l0 k x0 x1 x2 x3 (wrap64 (x11 + 1)))) else (none)) else (if x2 < 4 then (some 1) else (if x2 > 32 then (some 1) else ((hinterlandref09_Out.f x3 1000000).bind fun t104 => (if t104 = true then (some 1) else (some 0)))))
def hinterlandref09_judge.f (k : Nat) (l0 : List (S23)) (l1 : List (S44)) (a2 : Int) (a3 : Int) : Option (Int):=(hinterlandref09_ValidateCargoes.f k l0).bind fun t101 => (if t101 = 0 then ((hinterlandref09_Validate.f k l1).bind fun t102 => (if t102 = 0 then (hinterlandref09_judge.l0 k l0 l1 a2 a3 0) else (some t102))) else (some t101))
theorem hinterlandref09_judge.mono_l : ∀ k,(∀ y0 y1 y2 y3 y4,LeO (hinterlandref09_judge.l0 k y0 y1 y2 y3 y4) (hinterlandref09_judge.l0 (k + 1) y0 y1 y2 y3 y4))
 | 0 => fun _ _ _ _ _ r h => by simp [hinterlandref09_judge.l0] at h
 | k + 1 => by
  have ih0:=hinterlandref09_judge.mono_l k
  ·intro y0 y1 y2 y3 y4
   unfold hinterlandref09_judge.l0
   repeat' first
   | (with_reducible exact ih0 _ _ _ _ _)
   | (with_reducible exact hinterlandref09_Validate.mono _ _)
   | (with_reducible exact hinterlandref09_ValidateCargoes.mono _ _)
   | (with_reducible exact LeO.refl _)
   | (with_reducible exact LeO.none _)
   | (with_reducible refine LeO.ite ?_ ?_)
   | (with_reducible refine LeO.bind ?_ (fun _ => ?_))
   | exact ih0 _ _ _ _ _
   | exact hinterlandref09_Validate.mono _ _
   | exact hinterlandref09_ValidateCargoes.mono _ _
   | exact LeO.none _
   | refine LeO.ite ?_ ?_
   | refine LeO.bind ?_ (fun _ => ?_)
theorem hinterlandref09_judge.mono : ∀ a0 a1 a2 a3 k,LeO (hinterlandref09_judge.f k a0 a1 a2 a3) (hinterlandref09_judge.f (k + 1) a0 a1 a2 a3):=by
 intro a0 a1 a2 a3 k;have ih0:=hinterlandref09_judge.mono_l k
 unfold hinterlandref09_judge.f
 repeat' first
   | (with_reducible exact ih0 _ _ _ _ _)
   | (with_reducible exact hinterlandref09_Validate.mono _ _)
   | (with_reducible exact hinterlandref09_ValidateCargoes.mono _ _)
   | (with_reducible exact LeO.refl _)
   | (with_reducible exact LeO.none _)
   | (with_reducible refine LeO.ite ?_ ?_)
   | (with_reducible refine LeO.bind ?_ (fun _ => ?_))
   | exact ih0 _ _ _ _ _
   | exact hinterlandref09_Validate.mono _ _
   | exact hinterlandref09_ValidateCargoes.mono _ _
   | exact LeO.none _
   | refine LeO.ite ?_ ?_
   | refine LeO.bind ?_ (fun _ => ?_)
set_option maxHeartbeats 8000000 in
set_option maxRecDepth 100000 in
theorem hinterlandref09_judge.calls (k : Nat) (A0 : Option Addr) (c0 : Nat) (l0 : List (S23)) (A1 : Option Addr) (c1 : Nat) (l1 : List (S44)) (a2 : Int) (a3 : Int) (r : Int) (w : World) (hr0 : Kd.C k23 w A0 l0.length l0) (hc0 : l0.length ≤ c0) (hr1 : Kd.C k44 w A1 l1.length l1) (hc1 : l1.length ≤ c1) (h : hinterlandref09_judge.f k l0 l1 a2 a3 = some r) :
  Calls Try.prog 51 #[.slice A0 l0.length c0,.slice A1 l1.length c1,.int .i64 a2,.int .i64 a3] w fun e w' => e = .returned (.int .i64 r) ∧ Below w.heap.size w w':=by
 have HR0:=Aside0.mk hr0;have HC0:=Aside0.mk hc0;clear hr0 hc0;have HR1:=Aside0.mk hr1;have HC1:=Aside0.mk hc1;clear hr1 hc1;have HB:=Aside0.mk (Below.refl w.heap.size w);have H : ((hinterlandref09_ValidateCargoes.f k l0).bind fun t101 => (if t101 = 0 then ((hinterlandref09_Validate.f k l1).bind fun t102 => (if t102 = 0 then (hinterlandref09_judge.l0 k l0 l1 a2 a3 0) else (some t102))) else (some t101))) = some r:=h;clear h;replace H:=Option.bind_eq_some_iff.mp H;obtain ⟨t101,A50,H⟩:=H;replace H : (if t101 = 0 then ((hinterlandref09_Validate.f k l1).bind fun t102 => (if t102 = 0 then (hinterlandref09_judge.l0 k l0 l1 a2 a3 0) else (some t102))) else (some t101)) = some r:=H;have A5:=Aside0.mk A50;clear A50
 by_cases c6 : t101 = 0
 ·rw [if_pos c6] at H
  have c6b0 : (t101 == 0) = true:=beq_iff_eq.mpr c6;have c6b1 : (t101 != 0) = false:=bne_eq_false_iff_eq.mpr c6;clear c6;replace H:=Option.bind_eq_some_iff.mp H;obtain ⟨t102,A70,H⟩:=H;replace H : (if t102 = 0 then (hinterlandref09_judge.l0 k l0 l1 a2 a3 0) else (some t102)) = some r:=H;have A7:=Aside0.mk A70;clear A70
  by_cases c8 : t102 = 0
  ·rw [if_pos c8] at H
   have c8b0 : (t102 == 0) = true:=beq_iff_eq.mpr c8;have c8b1 : (t102 != 0) = false:=bne_eq_false_iff_eq.mpr c8;clear c8;have H':=Aside0.mk H;clear H
   go_enter Try.func51,Try.ntmps51
   go_wp2_with (first | ((with_reducible refine gate_callee (f:=22) rfl ?_); refine goesL_ (some 13) rfl rfl Try.func22 (by kernel_rfl) rfl #[.slice A0 l0.length c0] rfl (by (try simp only [List.map_toArray,List.map_cons,List.map_nil]); first | done | rfl | (simp only [List.length_drop,List.length_take]; rfl)) ?_; (with_reducible refine (hinterlandref09_ValidateCargoes.calls k _ _ l0 t101 _ ?side1 ?side2 A5.out).mono ?_); (case side1 => repeat (first | exact HR0.out | (with_reducible refine Kd.C_alloc ?_ _) | (with_reducible refine Kd.C_drewN ?_ _) | (with_reducible refine Kd.C_drew ?_))); (case side2 => exact HC0.out); rintro e w' ⟨rfl,⟨nd,rfl⟩⟩; refine ⟨_,rfl,?_⟩) | ((with_reducible refine gate_callee (f:=20) rfl ?_); refine goesL_ (some 18) rfl rfl Try.func20 (by kernel_rfl) rfl #[.slice A1 l1.length c1] rfl (by (try simp only [List.map_toArray,List.map_cons,List.map_nil]); first | done | rfl | (simp only [List.length_drop,List.length_take]; rfl)) ?_; (with_reducible refine (hinterlandref09_Validate.calls k _ _ l1 t102 _ ?side1 ?side2 A7.out).mono ?_); (case side1 => repeat (first | exact HR1.out | (with_reducible refine Kd.C_alloc ?_ _) | (with_reducible refine Kd.C_drewN ?_ _) | (with_reducible refine Kd.C_drew ?_))); (case side2 => exact HC1.out); rintro e w9 ⟨rfl,hb⟩; refine ⟨_,rfl,?_⟩; have n0_:=Aside0.mk (below_step bq_ hb); clear HB; have HB:=n0_; clear n0_; (try clear hb); (try clear hb2); (try clear hk); (try clear hi)))
   go_loopg [11] k (fun kq v11 w' => ∃ (x11_1 : Int),v11 = .int .i64 x11_1 ∧ Aside0 (hinterlandref09_judge.l0 kq l0 l1 a2 a3 x11_1 = some r) ∧ Aside0 (kq ≤ k) ∧ Aside0 (Below w.heap.size w w'))
   case atStart => exact ⟨(0),(by first | rfl | (simp; done) | (simp [*]; done)),H',⟨Nat.le_refl _⟩,⟨by repeat (first | (with_reducible first | exact HB.out | apply below_alloc | apply pw_below_drewN | apply below_drew1) | exact HB.out)⟩⟩
   case round =>
    clear H'
    try clear c1
    try clear c2
    try clear p2
    try clear c5
    try clear c6
    try clear c6b0
    try clear c6b1
    try clear c8
    try clear c8b0
    try clear c8b1
    obtain ⟨x11_1,rfl,HA,HK1,HB⟩:=hrel
    cases gk with
    | zero => exact absurd HA.out (by simp [hinterlandref09_judge.l0])
    | succ k1 =>
     have H:=HA.out;clear HA
     simp only [hinterlandref09_judge.l0] at H
     by_cases c10 : x11_1 < (l1.length : Int)
     ·rw [if_pos c10] at H
      have c10b0 : decide (x11_1 < (l1.length : Int)) = true:=decide_eq_true c10;clear c10
      by_cases c11 : 0 ≤ x11_1
      ·rw [if_pos c11] at H
       have c11b0 : decide (0 ≤ x11_1) = true:=decide_eq_true c11;clear c11
       by_cases c12 : (rd_T44 l1 x11_1).f0 ≥ (l0.length : Int)
       ·rw [if_pos c12] at H
        have c12b0 : decide ((l0.length : Int) ≤ (rd_T44 l1 x11_1).f0) = true:=decide_eq_true c12;clear c12;obtain rfl:=Option.some.inj H;have p103 : 0 ≤ (x11_1 : Int):=of_decide_eq_true ba_;have q103 : x11_1 < (l1.length : Int):=of_decide_eq_true ba_;obtain ⟨ad103,e103,hx103_0,hx103_1,hx103_2,hx103_3,hx103_4,hx103_5⟩:=at_T44 HR1.out x11_1 p103 q103
        cases e103
        replace hx103_0:=pw_cell_below HB.out hx103_0;replace hx103_1:=pw_cell_below HB.out hx103_1;replace hx103_2:=pw_cell_below HB.out hx103_2;replace hx103_3:=pw_cell_below HB.out hx103_3;replace hx103_4:=pw_cell_below HB.out hx103_4;replace hx103_5:=pw_cell_below HB.out hx103_5;replace p103:=eq_true p103;replace q103:=eq_true q103
        go_wp2
        go_ret
        exact ⟨by first | rfl | (simp [errW_none,errW_some] <;> rfl) | (simp [*,errW_none,errW_some] <;> rfl),by repeat (first | (with_reducible first | exact HB.out | apply below_alloc | apply pw_below_drewN | apply below_drew1) | exact HB.out)⟩
       ·rw [if_neg c12] at H
        have c12b0 : decide ((l0.length : Int) ≤ (rd_T44 l1 x11_1).f0) = false:=decide_eq_false c12;clear c12;have H':=Aside0.mk H;clear H;have p103 : 0 ≤ (x11_1 : Int):=of_decide_eq_true ba_;have q103 : x11_1 < (l1.length : Int):=of_decide_eq_true ba_;obtain ⟨ad103,e103,hx103_0,hx103_1,hx103_2,hx103_3,hx103_4,hx103_5⟩:=at_T44 HR1.out x11_1 p103 q103
        cases e103
        replace hx103_0:=pw_cell_below HB.out hx103_0;replace hx103_1:=pw_cell_below HB.out hx103_1;replace hx103_2:=pw_cell_below HB.out hx103_2;replace hx103_3:=pw_cell_below HB.out hx103_3;replace hx103_4:=pw_cell_below HB.out hx103_4;replace hx103_5:=pw_cell_below HB.out hx103_5;replace p103:=eq_true p103;replace q103:=eq_true q103
        go_wp2
        go_roundg k1
        case measure => have:=HK1.out; omega
        case rel => exact ⟨(wrap64 (x11_1 + 1)),(by first | rfl | (simp; done) | (simp [*]; done)),H',⟨by have:=HK1.out; omega⟩,⟨by repeat (first | (with_reducible first | exact HB.out | apply below_alloc | apply pw_below_drewN | apply below_drew1) | exact HB.out)⟩⟩
      ·rw [if_neg c11] at H
       exact absurd H (by simp)
     ·rw [if_neg c10] at H
      have c10b0 : decide (x11_1 < (l1.length : Int)) = false:=decide_eq_false c10;clear c10
      by_cases c13 : a2 < 4
      ·rw [if_pos c13] at H
       have c13b0 : decide (a2 < 4) = true:=decide_eq_true c13;clear c13;obtain rfl:=Option.some.inj H
       go_wp2
       go_ret
       exact ⟨by first | rfl | (simp [errW_none,errW_some] <;> rfl) | (simp [*,errW_none,errW_some] <;> rfl),by repeat (first | (with_reducible first | exact HB.out | apply below_alloc | apply pw_below_drewN | apply below_drew1) | exact HB.out)⟩
      ·rw [if_neg c13] at H
       have c13b0 : decide (a2 < 4) = false:=decide_eq_false c13;clear c13
       by_cases c14 : a2 > 32
       ·rw [if_pos c14] at H
        have c14b0 : decide (32 < a2) = true:=decide_eq_true c14;clear c14;obtain rfl:=Option.some.inj H
        go_wp2
        go_ret
        exact ⟨by first | rfl | (simp [errW_none,errW_some] <;> rfl) | (simp [*,errW_none,errW_some] <;> rfl),by repeat (first | (with_reducible first | exact HB.out | apply below_alloc | apply pw_below_drewN | apply below_drew1) | exact HB.out)⟩
       ·rw [if_neg c14] at H
        have c14b0 : decide (32 < a2) = false:=decide_eq_false c14;clear c14;replace H:=Option.bind_eq_some_iff.mp H;obtain ⟨t104,A150,H⟩:=H;replace H : (if t104 = true then (some 1) else (some 0)) = some r:=H;have A15:=Aside0.mk A150;clear A150
        by_cases c16 : t104 = true
        ·subst c16
         have H1 : (some 1) = some r:=by rw [if_pos rfl] at H; exact H
         clear H;have H:=H1;clear H1;obtain rfl:=Option.some.inj H
         go_wp2_with (first | (go_at_call 42; (with_reducible refine (hinterlandref09_Out.calls a3 1000000 true _ A15.out).mono ?_); rintro e w' ⟨rfl,⟨nd,rfl⟩⟩))
         go_ret
         exact ⟨by first | rfl | (simp [errW_none,errW_some] <;> rfl) | (simp [*,errW_none,errW_some] <;> rfl),by repeat (first | (with_reducible first | exact HB.out | apply below_alloc | apply pw_below_drewN | apply below_drew1) | exact HB.out)⟩
        ·replace c16:=Bool.eq_false_iff.mpr c16
         subst c16
         have H1 : (some 0) = some r:=by rw [if_neg (show ¬ (false = true) by decide)] at H; exact H
         clear H;have H:=H1;clear H1;obtain rfl:=Option.some.inj H
         go_wp2_with (first | (go_at_call 42; (with_reducible refine (hinterlandref09_Out.calls a3 1000000 false _ A15.out).mono ?_); rintro e w' ⟨rfl,⟨nd,rfl⟩⟩))
         go_ret
         exact ⟨by first | rfl | (simp [errW_none,errW_some] <;> rfl) | (simp [*,errW_none,errW_some] <;> rfl),by repeat (first | (with_reducible first | exact HB.out | apply below_alloc | apply pw_below_drewN | apply below_drew1) | exact HB.out)⟩
  ·rw [if_neg c8] at H
   have c8b0 : (t102 == 0) = false:=beq_eq_false_iff_ne.mpr c8;have c8b1 : (t102 != 0) = true:=bne_iff_ne.mpr c8;obtain rfl:=Option.some.inj H
   go_enter Try.func51,Try.ntmps51
   go_wp2_with (first | ((with_reducible refine gate_callee (f:=22) rfl ?_); refine goesL_ (some 13) rfl rfl Try.func22 (by kernel_rfl) rfl #[.slice A0 l0.length c0] rfl (by (try simp only [List.map_toArray,List.map_cons,List.map_nil]); first | done | rfl | (simp only [List.length_drop,List.length_take]; rfl)) ?_; (with_reducible refine (hinterlandref09_ValidateCargoes.calls k _ _ l0 t101 _ ?side1 ?side2 A5.out).mono ?_); (case side1 => repeat (first | exact HR0.out | (with_reducible refine Kd.C_alloc ?_ _) | (with_reducible refine Kd.C_drewN ?_ _) | (with_reducible refine Kd.C_drew ?_))); (case side2 => exact HC0.out); rintro e w' ⟨rfl,⟨nd,rfl⟩⟩; refine ⟨_,rfl,?_⟩) | ((with_reducible refine gate_callee (f:=20) rfl ?_); refine goesL_ (some 18) rfl rfl Try.func20 (by kernel_rfl) rfl #[.slice A1 l1.length c1] rfl (by (try simp only [List.map_toArray,List.map_cons,List.map_nil]); first | done | rfl | (simp only [List.length_drop,List.length_take]; rfl)) ?_; (with_reducible refine (hinterlandref09_Validate.calls k _ _ l1 t102 _ ?side1 ?side2 A7.out).mono ?_); (case side1 => repeat (first | exact HR1.out | (with_reducible refine Kd.C_alloc ?_ _) | (with_reducible refine Kd.C_drewN ?_ _) | (with_reducible refine Kd.C_drew ?_))); (case side2 => exact HC1.out); rintro e w17 ⟨rfl,hb⟩; refine ⟨_,rfl,?_⟩; have n0_:=Aside0.mk (below_step bq_ hb); clear HB; have HB:=n0_; clear n0_; (try clear hb); (try clear hb2); (try clear hk); (try clear hi)))
   go_ret
   exact ⟨by first | rfl | (simp [errW_none,errW_some] <;> rfl) | (simp [*,errW_none,errW_some] <;> rfl),by repeat (first | (with_reducible first | exact HB.out | apply below_alloc | apply pw_below_drewN | apply below_drew1) | exact HB.out)⟩
 ·rw [if_neg c6] at H
  have c6b0 : (t101 == 0) = false:=beq_eq_false_iff_ne.mpr c6;have c6b1 : (t101 != 0) = true:=bne_iff_ne.mpr c6;obtain rfl:=Option.some.inj H
  go_enter Try.func51,Try.ntmps51
  go_wp2_with (first | ((with_reducible refine gate_callee (f:=22) rfl ?_); refine goesL_ (some 13) rfl rfl Try.func22 (by kernel_rfl) rfl #[.slice A0 l0.length c0] rfl (by (try simp only [List.map_toArray,List.map_cons,List.map_nil]); first | done | rfl | (simp only [List.length_drop,List.length_take]; rfl)) ?_; (with_reducible refine (hinterlandref09_ValidateCargoes.calls k _ _ l0 t101 _ ?side1 ?side2 A5.out).mono ?_); (case side1 => repeat (first | exact HR0.out | (with_reducible refine Kd.C_alloc ?_ _) | (with_reducible refine Kd.C_drewN ?_ _) | (with_reducible refine Kd.C_drew ?_))); (case side2 => exact HC0.out); rintro e w' ⟨rfl,⟨nd,rfl⟩⟩; refine ⟨_,rfl,?_⟩))
  go_ret
  exact ⟨by first | rfl | (simp [errW_none,errW_some] <;> rfl) | (simp [*,errW_none,errW_some] <;> rfl),by repeat (first | (with_reducible first | exact HB.out | apply below_alloc | apply pw_below_drewN | apply below_drew1) | exact HB.out)⟩

end Go.Proofs.Ytmphplpfgjcpiaa.PCargo
