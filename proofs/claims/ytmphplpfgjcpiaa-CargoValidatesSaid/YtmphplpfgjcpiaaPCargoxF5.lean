/- Lean functions with the answers of the Go functions that a law uses,and for each that the Go code comes to just that; written by a program of this session's. -/
import Derived.Test.YtmphplpfgjcpiaaPCargox0
import Derived.Test.YtmphplpfgjcpiaaPCargoxF22
import Derived.Test.YtmphplpfgjcpiaaPCargoxF23
import Derived.Test.YtmphplpfgjcpiaaPCargoxF19
import Derived.Test.YtmphplpfgjcpiaaPCargoxF20
import Derived.Test.YtmphplpfgjcpiaaPCargoxF21
namespace Go.Proofs.Ytmphplpfgjcpiaa.PCargo
open Go.RowKit Go.Proofs.YtmphplpfgjcpiaaW.PrintWords Go.Proofs.YtmphplpfgjcpiaaW.PrintLast Go.Proofs.YtmphplpfgjcpiaaW.PrintMore
attribute [local go_sem] max2_int min2_int max_two min_two max_three min_three max_four min_four   -- for this text's walks alone
set_option linter.unusedVariables false
set_option linter.unusedSimpArgs false

/-! ### hinterlandlaw09_CargoValidates: function 5 -/
def hinterlandlaw09_CargoValidates.j0 : Nat → List (S44) → List (S23) → Bool → Option (Bool)
 | 0,_,_,_ => none
 | k + 1,x0,x1,x12 => if x12 = true then ((hinterlandlaw09_known.f k).bind fun t206 => (some t206)) else ((hinterlandref09_Validate.f k x0).bind fun t207 => ((cargo_Validate.f k x0).bind fun t208 => (if t207 = t208 then ((hinterlandref09_ValidateCargoes.f k x1).bind fun t209 => ((cargo_ValidateCargoes.f k x1).bind fun t210 => (if t209 = t210 then ((hinterlandlaw09_known.f k).bind fun t211 => (some t211)) else (some false)))) else (some false))))
def hinterlandlaw09_CargoValidates.f (k : Nat) (l0 : List (S44)) (l1 : List (S23)) : Option (Bool):=if (l0.length : Int) > 1000 then (hinterlandlaw09_CargoValidates.j0 k l0 l1 true) else (hinterlandlaw09_CargoValidates.j0 k l0 l1 (decide ((l1.length : Int) > 1000)))
theorem hinterlandlaw09_CargoValidates.mono_l : ∀ k,(∀ y0 y1 y2,LeO (hinterlandlaw09_CargoValidates.j0 k y0 y1 y2) (hinterlandlaw09_CargoValidates.j0 (k + 1) y0 y1 y2))
 | 0 => fun _ _ _ r h => by simp [hinterlandlaw09_CargoValidates.j0] at h
 | k + 1 => by
  have ih0:=hinterlandlaw09_CargoValidates.mono_l k
  ·intro y0 y1 y2
   unfold hinterlandlaw09_CargoValidates.j0
   repeat' first
   | (with_reducible exact ih0 _ _ _)
   | (with_reducible exact cargo_Validate.mono _ _)
   | (with_reducible exact cargo_ValidateCargoes.mono _ _)
   | (with_reducible exact hinterlandlaw09_known.mono _)
   | (with_reducible exact hinterlandref09_Validate.mono _ _)
   | (with_reducible exact hinterlandref09_ValidateCargoes.mono _ _)
   | (with_reducible exact LeO.refl _)
   | (with_reducible exact LeO.none _)
   | (with_reducible refine LeO.ite ?_ ?_)
   | (with_reducible refine LeO.bind ?_ (fun _ => ?_))
   | exact ih0 _ _ _
   | exact cargo_Validate.mono _ _
   | exact cargo_ValidateCargoes.mono _ _
   | exact hinterlandlaw09_known.mono _
   | exact hinterlandref09_Validate.mono _ _
   | exact hinterlandref09_ValidateCargoes.mono _ _
   | exact LeO.none _
   | refine LeO.ite ?_ ?_
   | refine LeO.bind ?_ (fun _ => ?_)
theorem hinterlandlaw09_CargoValidates.mono : ∀ a0 a1 k,LeO (hinterlandlaw09_CargoValidates.f k a0 a1) (hinterlandlaw09_CargoValidates.f (k + 1) a0 a1):=by
 intro a0 a1 k
 have ih0:=hinterlandlaw09_CargoValidates.mono_l k
 unfold hinterlandlaw09_CargoValidates.f
 repeat' first
   | (with_reducible exact ih0 _ _ _)
   | (with_reducible exact cargo_Validate.mono _ _)
   | (with_reducible exact cargo_ValidateCargoes.mono _ _)
   | (with_reducible exact hinterlandlaw09_known.mono _)
   | (with_reducible exact hinterlandref09_Validate.mono _ _)
   | (with_reducible exact hinterlandref09_ValidateCargoes.mono _ _)
   | (with_reducible exact LeO.refl _)
   | (with_reducible exact LeO.none _)
   | (with_reducible refine LeO.ite ?_ ?_)
   | (with_reducible refine LeO.bind ?_ (fun _ => ?_))
   | exact ih0 _ _ _
   | exact cargo_Validate.mono _ _
   | exact cargo_ValidateCargoes.mono _ _
   | exact hinterlandlaw09_known.mono _
   | exact hinterlandref09_Validate.mono _ _
   | exact hinterlandref09_ValidateCargoes.mono _ _
   | exact LeO.none _
   | refine LeO.ite ?_ ?_
   | refine LeO.bind ?_ (fun _ => ?_)
set_option maxHeartbeats 8000000 in
set_option maxRecDepth 100000 in
theorem hinterlandlaw09_CargoValidates.calls (k : Nat) (A0 : Option Addr) (c0 : Nat) (l0 : List (S44)) (A1 : Option Addr) (c1 : Nat) (l1 : List (S23)) (r : Bool) (w : World) (hr0 : Kd.C k44 w A0 l0.length l0) (hc0 : l0.length ≤ c0) (hr1 : Kd.C k23 w A1 l1.length l1) (hc1 : l1.length ≤ c1) (h : hinterlandlaw09_CargoValidates.f k l0 l1 = some r) :
  Calls Try.prog 5 #[.slice A0 l0.length c0,.slice A1 l1.length c1] w fun e w' => e = .returned (.bool r) ∧ Below w.heap.size w w':=by
 have HR0:=Aside0.mk hr0
 have HC0:=Aside0.mk hc0
 clear hr0 hc0
 have HR1:=Aside0.mk hr1
 have HC1:=Aside0.mk hc1
 clear hr1 hc1
 have HB:=Aside0.mk (Below.refl w.heap.size w)
 have H : (if (l0.length : Int) > 1000 then (hinterlandlaw09_CargoValidates.j0 k l0 l1 true) else (hinterlandlaw09_CargoValidates.j0 k l0 l1 (decide ((l1.length : Int) > 1000)))) = some r:=h
 clear h
 have HC3:=Aside0.mk H
 clear H
 go_enter Try.func5,Try.ntmps5
 go_upto_region 1 with (fail)
 go_cut [12] (fun v12 wc => ∃ (kq : Nat) (x12_2 : Bool),v12 = .bool x12_2 ∧ Aside0 (hinterlandlaw09_CargoValidates.j0 kq l0 l1 x12_2 = some r) ∧ Aside0 (kq ≤ k) ∧ Aside0 (Below w.heap.size w wc))
 case first =>
  have H:=HC3.out
  clear HC3
  by_cases c4 : (l0.length : Int) > 1000
  ·rw [if_pos c4] at H
   have c4b0 : decide (1000 < (l0.length : Int)) = true:=decide_eq_true c4
   have c4b1 : decide (1000 < l0.length) = true:=decide_eq_true (by omega)
   clear c4
   (first | rw [c4b0] | (simp only [i64_w,i32_w]; rw [c4b0]) | skip)
   have H':=Aside0.mk H
   clear H
   go_wp2
   go_meet
   case rel => exact ⟨_,(true),(by first | rfl | (simp; done) | (simp [*]; done)),H',⟨by first | omega | exact Nat.le_refl _⟩,⟨by repeat (first | (with_reducible first | exact HB.out | apply below_alloc | apply pw_below_drewN | apply below_drew1) | exact HB.out)⟩⟩
  ·rw [if_neg c4] at H
   have c4b0 : decide (1000 < (l0.length : Int)) = false:=decide_eq_false c4
   have c4b1 : decide (1000 < l0.length) = false:=decide_eq_false (by omega)
   clear c4
   (first | rw [c4b0] | (simp only [i64_w,i32_w]; rw [c4b0]) | skip)
   have H':=Aside0.mk H
   clear H
   go_wp2
   go_meet
   case rel => exact ⟨_,(decide ((l1.length : Int) > 1000)),(by first | rfl | (simp; done) | (simp [*]; done)),H',⟨by first | omega | exact Nat.le_refl _⟩,⟨by repeat (first | (with_reducible first | exact HB.out | apply below_alloc | apply pw_below_drewN | apply below_drew1) | exact HB.out)⟩⟩
 case rest =>
  clear HC3
  try clear c1
  try clear p2
  try clear c4
  try clear c4b0
  try clear c4b1
  obtain ⟨kq,x12_2,rfl,HA,HJ2,HB⟩:=hcut
  cases kq with
  | zero => exact absurd HA.out (by simp [hinterlandlaw09_CargoValidates.j0])
  | succ kj2 =>
   have H:=HA.out
   clear HA
   simp only [hinterlandlaw09_CargoValidates.j0] at H
   by_cases c5 : x12_2 = true
   ·subst c5
    have H1 : ((hinterlandlaw09_known.f kj2).bind fun t206 => (some t206)) = some r:=by rw [if_pos rfl] at H; exact H
    clear H
    have H:=H1
    clear H1
    replace H:=Option.bind_eq_some_iff.mp H
    obtain ⟨t206,A60,H⟩:=H
    replace H : (some t206) = some r:=H
    have A6:=Aside0.mk A60
    clear A60
    obtain rfl:=Option.some.inj H
    go_wp2_with (first | ((with_reducible refine gate_callee (f:=19) rfl ?_); refine goesL_ (some 13) rfl rfl Try.func19 (by kernel_rfl) rfl #[] rfl (by (try simp only [List.map_toArray,List.map_cons,List.map_nil]); first | done | rfl | (simp only [List.length_drop,List.length_take]; rfl)) ?_; (with_reducible refine (hinterlandlaw09_known.calls kj2  t206 _ A6.out).mono ?_); rintro e w7 ⟨rfl,hb⟩; refine ⟨_,rfl,?_⟩; have n0_:=Aside0.mk (below_step (by repeat (first | (with_reducible first | exact HB.out | apply below_alloc | apply pw_below_drewN | apply below_drew1) | exact HB.out)) hb); clear HB; have HB:=n0_; clear n0_; (try clear hb); (try clear hb2); (try clear hk); (try clear hi)))
    go_ret
    exact ⟨by first | rfl | (simp [errW_none,errW_some] <;> rfl) | (simp [*,errW_none,errW_some] <;> rfl),by repeat (first | (with_reducible first | exact HB.out | apply below_alloc | apply pw_below_drewN | apply below_drew1) | exact HB.out)⟩
   ·replace c5:=Bool.eq_false_iff.mpr c5
    subst c5
    have H1 : ((hinterlandref09_Validate.f kj2 l0).bind fun t207 => ((cargo_Validate.f kj2 l0).bind fun t208 => (if t207 = t208 then ((hinterlandref09_ValidateCargoes.f kj2 l1).bind fun t209 => ((cargo_ValidateCargoes.f kj2 l1).bind fun t210 => (if t209 = t210 then ((hinterlandlaw09_known.f kj2).bind fun t211 => (some t211)) else (some false)))) else (some false)))) = some r:=by rw [if_neg (show ¬ (false = true) by decide)] at H; exact H
    clear H
    have H:=H1
    clear H1
    replace H:=Option.bind_eq_some_iff.mp H
    obtain ⟨t207,A80,H⟩:=H
    replace H : ((cargo_Validate.f kj2 l0).bind fun t208 => (if t207 = t208 then ((hinterlandref09_ValidateCargoes.f kj2 l1).bind fun t209 => ((cargo_ValidateCargoes.f kj2 l1).bind fun t210 => (if t209 = t210 then ((hinterlandlaw09_known.f kj2).bind fun t211 => (some t211)) else (some false)))) else (some false))) = some r:=H
    have A8:=Aside0.mk A80
    clear A80
    replace H:=Option.bind_eq_some_iff.mp H
    obtain ⟨t208,A90,H⟩:=H
    replace H : (if t207 = t208 then ((hinterlandref09_ValidateCargoes.f kj2 l1).bind fun t209 => ((cargo_ValidateCargoes.f kj2 l1).bind fun t210 => (if t209 = t210 then ((hinterlandlaw09_known.f kj2).bind fun t211 => (some t211)) else (some false)))) else (some false)) = some r:=H
    have A9:=Aside0.mk A90
    clear A90
    by_cases c10 : t207 = t208
    ·rw [if_pos c10] at H
     have c10b0 : (t207 == t208) = true:=beq_iff_eq.mpr c10
     have c10b1 : (t207 != t208) = false:=bne_eq_false_iff_eq.mpr c10
     clear c10
     replace H:=Option.bind_eq_some_iff.mp H
     obtain ⟨t209,A110,H⟩:=H
     replace H : ((cargo_ValidateCargoes.f kj2 l1).bind fun t210 => (if t209 = t210 then ((hinterlandlaw09_known.f kj2).bind fun t211 => (some t211)) else (some false))) = some r:=H
     have A11:=Aside0.mk A110
     clear A110
     replace H:=Option.bind_eq_some_iff.mp H
     obtain ⟨t210,A120,H⟩:=H
     replace H : (if t209 = t210 then ((hinterlandlaw09_known.f kj2).bind fun t211 => (some t211)) else (some false)) = some r:=H
     have A12:=Aside0.mk A120
     clear A120
     by_cases c13 : t209 = t210
     ·rw [if_pos c13] at H
      have c13b0 : (t209 == t210) = true:=beq_iff_eq.mpr c13
      have c13b1 : (t209 != t210) = false:=bne_eq_false_iff_eq.mpr c13
      clear c13
      replace H:=Option.bind_eq_some_iff.mp H
      obtain ⟨t211,A140,H⟩:=H
      replace H : (some t211) = some r:=H
      have A14:=Aside0.mk A140
      clear A140
      obtain rfl:=Option.some.inj H
      go_wp2_with (first | ((with_reducible refine gate_callee (f:=20) rfl ?_); refine goesL_ (some 15) rfl rfl Try.func20 (by kernel_rfl) rfl #[.slice A0 l0.length c0] rfl (by (try simp only [List.map_toArray,List.map_cons,List.map_nil]); first | done | rfl | (simp only [List.length_drop,List.length_take]; rfl)) ?_; (with_reducible refine (hinterlandref09_Validate.calls kj2 _ _ l0 t207 _ ?side1 ?side2 A8.out).mono ?_); (case side1 => repeat (first | exact (Kd.C_below HR0.out HB.out) | (with_reducible refine Kd.C_alloc ?_ _) | (with_reducible refine Kd.C_drewN ?_ _) | (with_reducible refine Kd.C_drew ?_))); (case side2 => exact HC0.out); rintro e w15 ⟨rfl,hb⟩; refine ⟨_,rfl,?_⟩; have n0_:=Aside0.mk (below_step (by repeat (first | (with_reducible first | exact HB.out | apply below_alloc | apply pw_below_drewN | apply below_drew1) | exact HB.out)) hb); clear HB; have HB:=n0_; clear n0_; (try clear hb); (try clear hb2); (try clear hk); (try clear hi)) | ((with_reducible refine gate_callee (f:=21) rfl ?_); refine goesL_ (some 17) rfl rfl Try.func21 (by kernel_rfl) rfl #[.slice A0 l0.length c0] rfl (by (try simp only [List.map_toArray,List.map_cons,List.map_nil]); first | done | rfl | (simp only [List.length_drop,List.length_take]; rfl)) ?_; (with_reducible refine (cargo_Validate.calls kj2 _ _ l0 t208 _ ?side1 ?side2 A9.out).mono ?_); (case side1 => repeat (first | exact (Kd.C_below HR0.out HB.out) | (with_reducible refine Kd.C_alloc ?_ _) | (with_reducible refine Kd.C_drewN ?_ _) | (with_reducible refine Kd.C_drew ?_))); (case side2 => exact HC0.out); rintro e w16 ⟨rfl,hb⟩; refine ⟨_,rfl,?_⟩; have n0_:=Aside0.mk (below_step (by repeat (first | (with_reducible first | exact HB.out | apply below_alloc | apply pw_below_drewN | apply below_drew1) | exact HB.out)) hb); clear HB; have HB:=n0_; clear n0_; (try clear hb); (try clear hb2); (try clear hk); (try clear hi)) | (go_at_call 22; (with_reducible refine (hinterlandref09_ValidateCargoes.calls kj2 _ _ l1 t209 _ ?side1 ?side2 A11.out).mono ?_); (case side1 => repeat (first | exact (Kd.C_below HR1.out HB.out) | (with_reducible refine Kd.C_alloc ?_ _) | (with_reducible refine Kd.C_drewN ?_ _) | (with_reducible refine Kd.C_drew ?_))); (case side2 => exact HC1.out); rintro e w' ⟨rfl,⟨nd,rfl⟩⟩) | (go_at_call 23; (with_reducible refine (cargo_ValidateCargoes.calls kj2 _ _ l1 t210 _ ?side1 ?side2 A12.out).mono ?_); (case side1 => repeat (first | exact (Kd.C_below HR1.out (by repeat (first | (with_reducible first | exact HB.out | apply below_alloc | apply pw_below_drewN | apply below_drew1) | exact HB.out))) | (with_reducible refine Kd.C_alloc ?_ _) | (with_reducible refine Kd.C_drewN ?_ _) | (with_reducible refine Kd.C_drew ?_))); (case side2 => exact HC1.out); rintro e w17 ⟨rfl,hb⟩; have n0_:=Aside0.mk (below_step (by repeat (first | (with_reducible first | exact HB.out | apply below_alloc | apply pw_below_drewN | apply below_drew1) | exact HB.out)) hb); clear HB; have HB:=n0_; clear n0_; (try clear hb); (try clear hb2); (try clear hk); (try clear hi)) | (go_at_call 19; (with_reducible refine (hinterlandlaw09_known.calls kj2  t211 _ A14.out).mono ?_); rintro e w18 ⟨rfl,hb⟩; have n0_:=Aside0.mk (below_step (by repeat (first | (with_reducible first | exact HB.out | apply below_alloc | apply pw_below_drewN | apply below_drew1) | exact HB.out)) hb); clear HB; have HB:=n0_; clear n0_; (try clear hb); (try clear hb2); (try clear hk); (try clear hi)))
      go_ret
      exact ⟨by first | rfl | (simp [errW_none,errW_some] <;> rfl) | (simp [*,errW_none,errW_some] <;> rfl),by repeat (first | (with_reducible first | exact HB.out | apply below_alloc | apply pw_below_drewN | apply below_drew1) | exact HB.out)⟩
     ·rw [if_neg c13] at H
      have c13b0 : (t209 == t210) = false:=beq_eq_false_iff_ne.mpr c13
      have c13b1 : (t209 != t210) = true:=bne_iff_ne.mpr c13
      obtain rfl:=Option.some.inj H
      go_wp2_with (first | ((with_reducible refine gate_callee (f:=20) rfl ?_); refine goesL_ (some 15) rfl rfl Try.func20 (by kernel_rfl) rfl #[.slice A0 l0.length c0] rfl (by (try simp only [List.map_toArray,List.map_cons,List.map_nil]); first | done | rfl | (simp only [List.length_drop,List.length_take]; rfl)) ?_; (with_reducible refine (hinterlandref09_Validate.calls kj2 _ _ l0 t207 _ ?side1 ?side2 A8.out).mono ?_); (case side1 => repeat (first | exact (Kd.C_below HR0.out HB.out) | (with_reducible refine Kd.C_alloc ?_ _) | (with_reducible refine Kd.C_drewN ?_ _) | (with_reducible refine Kd.C_drew ?_))); (case side2 => exact HC0.out); rintro e w19 ⟨rfl,hb⟩; refine ⟨_,rfl,?_⟩; have n0_:=Aside0.mk (below_step (by repeat (first | (with_reducible first | exact HB.out | apply below_alloc | apply pw_below_drewN | apply below_drew1) | exact HB.out)) hb); clear HB; have HB:=n0_; clear n0_; (try clear hb); (try clear hb2); (try clear hk); (try clear hi)) | ((with_reducible refine gate_callee (f:=21) rfl ?_); refine goesL_ (some 17) rfl rfl Try.func21 (by kernel_rfl) rfl #[.slice A0 l0.length c0] rfl (by (try simp only [List.map_toArray,List.map_cons,List.map_nil]); first | done | rfl | (simp only [List.length_drop,List.length_take]; rfl)) ?_; (with_reducible refine (cargo_Validate.calls kj2 _ _ l0 t208 _ ?side1 ?side2 A9.out).mono ?_); (case side1 => repeat (first | exact (Kd.C_below HR0.out HB.out) | (with_reducible refine Kd.C_alloc ?_ _) | (with_reducible refine Kd.C_drewN ?_ _) | (with_reducible refine Kd.C_drew ?_))); (case side2 => exact HC0.out); rintro e w20 ⟨rfl,hb⟩; refine ⟨_,rfl,?_⟩; have n0_:=Aside0.mk (below_step (by repeat (first | (with_reducible first | exact HB.out | apply below_alloc | apply pw_below_drewN | apply below_drew1) | exact HB.out)) hb); clear HB; have HB:=n0_; clear n0_; (try clear hb); (try clear hb2); (try clear hk); (try clear hi)) | (go_at_call 22; (with_reducible refine (hinterlandref09_ValidateCargoes.calls kj2 _ _ l1 t209 _ ?side1 ?side2 A11.out).mono ?_); (case side1 => repeat (first | exact (Kd.C_below HR1.out HB.out) | (with_reducible refine Kd.C_alloc ?_ _) | (with_reducible refine Kd.C_drewN ?_ _) | (with_reducible refine Kd.C_drew ?_))); (case side2 => exact HC1.out); rintro e w' ⟨rfl,⟨nd,rfl⟩⟩) | (go_at_call 23; (with_reducible refine (cargo_ValidateCargoes.calls kj2 _ _ l1 t210 _ ?side1 ?side2 A12.out).mono ?_); (case side1 => repeat (first | exact (Kd.C_below HR1.out (by repeat (first | (with_reducible first | exact HB.out | apply below_alloc | apply pw_below_drewN | apply below_drew1) | exact HB.out))) | (with_reducible refine Kd.C_alloc ?_ _) | (with_reducible refine Kd.C_drewN ?_ _) | (with_reducible refine Kd.C_drew ?_))); (case side2 => exact HC1.out); rintro e w21 ⟨rfl,hb⟩; have n0_:=Aside0.mk (below_step (by repeat (first | (with_reducible first | exact HB.out | apply below_alloc | apply pw_below_drewN | apply below_drew1) | exact HB.out)) hb); clear HB; have HB:=n0_; clear n0_; (try clear hb); (try clear hb2); (try clear hk); (try clear hi)))
      go_ret
      exact ⟨by first | rfl | (simp [errW_none,errW_some] <;> rfl) | (simp [*,errW_none,errW_some] <;> rfl),by repeat (first | (with_reducible first | exact HB.out | apply below_alloc | apply pw_below_drewN | apply below_drew1) | exact HB.out)⟩
    ·rw [if_neg c10] at H
     have c10b0 : (t207 == t208) = false:=beq_eq_false_iff_ne.mpr c10
     have c10b1 : (t207 != t208) = true:=bne_iff_ne.mpr c10
     obtain rfl:=Option.some.inj H
     go_wp2_with (first | ((with_reducible refine gate_callee (f:=20) rfl ?_); refine goesL_ (some 15) rfl rfl Try.func20 (by kernel_rfl) rfl #[.slice A0 l0.length c0] rfl (by (try simp only [List.map_toArray,List.map_cons,List.map_nil]); first | done | rfl | (simp only [List.length_drop,List.length_take]; rfl)) ?_; (with_reducible refine (hinterlandref09_Validate.calls kj2 _ _ l0 t207 _ ?side1 ?side2 A8.out).mono ?_); (case side1 => repeat (first | exact (Kd.C_below HR0.out HB.out) | (with_reducible refine Kd.C_alloc ?_ _) | (with_reducible refine Kd.C_drewN ?_ _) | (with_reducible refine Kd.C_drew ?_))); (case side2 => exact HC0.out); rintro e w22 ⟨rfl,hb⟩; refine ⟨_,rfl,?_⟩; have n0_:=Aside0.mk (below_step (by repeat (first | (with_reducible first | exact HB.out | apply below_alloc | apply pw_below_drewN | apply below_drew1) | exact HB.out)) hb); clear HB; have HB:=n0_; clear n0_; (try clear hb); (try clear hb2); (try clear hk); (try clear hi)) | ((with_reducible refine gate_callee (f:=21) rfl ?_); refine goesL_ (some 17) rfl rfl Try.func21 (by kernel_rfl) rfl #[.slice A0 l0.length c0] rfl (by (try simp only [List.map_toArray,List.map_cons,List.map_nil]); first | done | rfl | (simp only [List.length_drop,List.length_take]; rfl)) ?_; (with_reducible refine (cargo_Validate.calls kj2 _ _ l0 t208 _ ?side1 ?side2 A9.out).mono ?_); (case side1 => repeat (first | exact (Kd.C_below HR0.out HB.out) | (with_reducible refine Kd.C_alloc ?_ _) | (with_reducible refine Kd.C_drewN ?_ _) | (with_reducible refine Kd.C_drew ?_))); (case side2 => exact HC0.out); rintro e w23 ⟨rfl,hb⟩; refine ⟨_,rfl,?_⟩; have n0_:=Aside0.mk (below_step (by repeat (first | (with_reducible first | exact HB.out | apply below_alloc | apply pw_below_drewN | apply below_drew1) | exact HB.out)) hb); clear HB; have HB:=n0_; clear n0_; (try clear hb); (try clear hb2); (try clear hk); (try clear hi)))
     go_ret
     exact ⟨by first | rfl | (simp [errW_none,errW_some] <;> rfl) | (simp [*,errW_none,errW_some] <;> rfl),by repeat (first | (with_reducible first | exact HB.out | apply below_alloc | apply pw_below_drewN | apply below_drew1) | exact HB.out)⟩

end Go.Proofs.Ytmphplpfgjcpiaa.PCargo
