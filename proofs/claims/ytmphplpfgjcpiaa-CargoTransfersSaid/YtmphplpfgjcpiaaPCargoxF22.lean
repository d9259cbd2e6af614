/- Lean functions with the answers of the Go functions that a law uses,and for each that the Go code comes to just that; written by a program of this session's. -/
import Derived.Test.YtmphplpfgjcpiaaPCargox0
import Derived.Test.YtmphplpfgjcpiaaBq
import Derived.Test.YtmphplpfgjcpiaaPCargoxF42
import Derived.Test.YtmphplpfgjcpiaaPCargoxF49
namespace Go.Proofs.Ytmphplpfgjcpiaa.PCargo
open Go.RowKit Go.Proofs.YtmphplpfgjcpiaaW.PrintWords Go.Proofs.YtmphplpfgjcpiaaW.PrintLast Go.Proofs.YtmphplpfgjcpiaaW.PrintMore
attribute [local go_sem] max2_int min2_int max_two min_two max_three min_three max_four min_four   -- for this text's walks alone
set_option linter.unusedVariables false
set_option linter.unusedSimpArgs false

/-! ### hinterlandref09_ValidateCargoes: function 22 -/
mutual
def hinterlandref09_ValidateCargoes.l0 : Nat → List (S23) → Int → Option (Int)
 | 0,_,_ => none
 | k + 1,x0,x3 => if x3 < (x0.length : Int) then (if 0 ≤ x3 then ((hinterlandref09_Named.f k (rd_T23 x0 x3).f0).bind fun t102 => (if t102 = true then ((hinterlandref09_Out.f (rd_T23 x0 x3).f1 1000).bind fun t104 => (if t104 = true then (some 1) else ((hinterlandref09_Out.f (rd_T23 x0 x3).f2 255).bind fun t106 => (if t106 = true then (some 1) else ((hinterlandref09_Out.f (rd_T23 x0 x3).f3 255).bind fun t108 => (if t108 = true then (some 1) else (hinterlandref09_ValidateCargoes.l0 k x0 (wrap64 (x3 + 1))))))))) else (some 1))) else (none)) else (hinterlandref09_ValidateCargoes.l1 k x0 0)
def hinterlandref09_ValidateCargoes.l1 : Nat → List (S23) → Int → Option (Int)
 | 0,_,_ => none
 | k + 1,x0,x4 => if x4 < (x0.length : Int) then (hinterlandref09_ValidateCargoes.l2 k x0 x4 0) else (some 0)
def hinterlandref09_ValidateCargoes.l2 : Nat → List (S23) → Int → Int → Option (Int)
 | 0,_,_,_ => none
 | k + 1,x0,x4,x5 => if x5 < x4 then (if 0 ≤ x4 then (if x4 < (x0.length : Int) then (if 0 ≤ x5 then (if x5 < (x0.length : Int) then (if (rd_T23 x0 x4).f0.toList = (rd_T23 x0 x5).f0.toList then (some 3) else (hinterlandref09_ValidateCargoes.l2 k x0 x4 (wrap64 (x5 + 1)))) else (none)) else (none)) else (none)) else (none)) else (hinterlandref09_ValidateCargoes.l1 k x0 (wrap64 (x4 + 1)))
end
def hinterlandref09_ValidateCargoes.f (k : Nat) (l0 : List (S23)) : Option (Int):=if (l0.length : Int) > 16 then (some 4) else (hinterlandref09_ValidateCargoes.l0 k l0 0)
theorem hinterlandref09_ValidateCargoes.mono_l : ∀ k,(∀ y0 y1,LeO (hinterlandref09_ValidateCargoes.l0 k y0 y1) (hinterlandref09_ValidateCargoes.l0 (k + 1) y0 y1)) ∧ (∀ y0 y1,LeO (hinterlandref09_ValidateCargoes.l1 k y0 y1) (hinterlandref09_ValidateCargoes.l1 (k + 1) y0 y1)) ∧ (∀ y0 y1 y2,LeO (hinterlandref09_ValidateCargoes.l2 k y0 y1 y2) (hinterlandref09_ValidateCargoes.l2 (k + 1) y0 y1 y2))
 | 0 => ⟨fun _ _ r h => by simp [hinterlandref09_ValidateCargoes.l0] at h,fun _ _ r h => by simp [hinterlandref09_ValidateCargoes.l1] at h,fun _ _ _ r h => by simp [hinterlandref09_ValidateCargoes.l2] at h⟩
 | k + 1 => by
  obtain ⟨ih0,ih1,ih2⟩:=hinterlandref09_ValidateCargoes.mono_l k
  refine ⟨?_,?_,?_⟩
  ·intro y0 y1
   unfold hinterlandref09_ValidateCargoes.l0
   repeat' first
   | (with_reducible exact ih0 _ _)
   | (with_reducible exact ih1 _ _)
   | (with_reducible exact ih2 _ _ _)
   | (with_reducible exact hinterlandref09_Named.mono _ _)
   | (with_reducible exact LeO.refl _)
   | (with_reducible exact LeO.none _)
   | (with_reducible refine LeO.ite ?_ ?_)
   | (with_reducible refine LeO.bind ?_ (fun _ => ?_))
   | exact ih0 _ _
   | exact ih1 _ _
   | exact ih2 _ _ _
   | exact hinterlandref09_Named.mono _ _
   | exact LeO.none _
   | refine LeO.ite ?_ ?_
   | refine LeO.bind ?_ (fun _ => ?_)
  ·intro y0 y1
   unfold hinterlandref09_ValidateCargoes.l1
   repeat' first
   | (with_reducible exact ih0 _ _)
   | (with_reducible exact ih1 _ _)
   | (with_reducible exact ih2 _ _ _)
   | (with_reducible exact hinterlandref09_Named.mono _ _)
   | (with_reducible exact LeO.refl _)
   | (with_reducible exact LeO.none _)
   | (with_reducible refine LeO.ite ?_ ?_)
   | (with_reducible refine LeO.bind ?_ (fun _ => ?_))
   | exact ih0 _ _
   | exact ih1 _ _
   | exact ih2 _ _ _
   | exact hinterlandref09_Named.mono _ _
   | exact LeO.none _
   | refine LeO.ite ?_ ?_
   | refine LeO.bind ?_ (fun _ => ?_)
  ·intro y0 y1 y2
   unfold hinterlandref09_ValidateCargoes.l2
   repeat' first
   | (with_reducible exact ih0 _ _)
   | (with_reducible exact ih1 _ _)
   | (with_reducible exact ih2 _ _ _)
   | (with_reducible exact hinterlandref09_Named.mono _ _)
   | (with_reducible exact LeO.refl _)
   | (with_reducible exact LeO.none _)
   | (with_reducible refine LeO.ite ?_ ?_)
   | (with_reducible refine LeO.bind ?_ (fun _ => ?_))
   | exact ih0 _ _
   | exact ih1 _ _
   | exact ih2 _ _ _
   | exact hinterlandref09_Named.mono _ _
   | exact LeO.none _
   | refine LeO.ite ?_ ?_
   | refine LeO.bind ?_ (fun _ => ?_)
theorem hinterlandref09_ValidateCargoes.mono : ∀ a0 k,LeO (hinterlandref09_ValidateCargoes.f k a0) (hinterlandref09_ValidateCargoes.f (k + 1) a0):=by
 intro a0 k;obtain ⟨ih0,ih1,ih2⟩:=hinterlandref09_ValidateCargoes.mono_l k
 unfold hinterlandref09_ValidateCargoes.f
 repeat' first
   | (with_reducible exact ih0 _ _)
   | (with_reducible exact ih1 _ _)
   | (with_reducible exact ih2 _ _ _)
   | (with_reducible exact hinterlandref09_Named.mono _ _)
   | (with_reducible exact LeO.refl _)
   | (with_reducible exact LeO.none _)
   | (with_reducible refine LeO.ite ?_ ?_)
   | (with_reducible refine LeO.bind ?_ (fun _ => ?_))
   | exact ih0 _ _
   | exact ih1 _ _
   | exact ih2 _ _ _
   | exact hinterlandref09_Named.mono _ _
   | exact LeO.none _
   | refine LeO.ite ?_ ?_
   | refine LeO.bind ?_ (fun _ => ?_)
set_option maxHeartbeats 8000000 in
set_option maxRecDepth 100000 in
theorem hinterlandref09_ValidateCargoes.calls (k : Nat) (A0 : Option Addr) (c0 : Nat) (l0 : List (S23)) (r : Int) (w : World) (hr0 : Kd.C k23 w A0 l0.length l0) (hc0 : l0.length ≤ c0) (h : hinterlandref09_ValidateCargoes.f k l0 = some r) :
  Calls Try.prog 22 #[.slice A0 l0.length c0] w fun e w' => e = .returned (.int .i64 r) ∧ Drawn0 w w':=by
 have HR0:=Aside0.mk hr0;have HC0:=Aside0.mk hc0;clear hr0 hc0;have H : (if (l0.length : Int) > 16 then (some 4) else (hinterlandref09_ValidateCargoes.l0 k l0 0)) = some r:=h;clear h
 by_cases c2 : (l0.length : Int) > 16
 ·rw [if_pos c2] at H
  have c2b0 : decide (16 < (l0.length : Int)) = true:=decide_eq_true c2;have c2b1 : decide (16 < l0.length) = true:=decide_eq_true (by omega);clear c2;obtain rfl:=Option.some.inj H
  go_enter Try.func22,Try.ntmps22
  go_wp2
  repeat (go_quiet (fail); try go_wp2)
  go_ret
  exact ⟨by first | rfl | (simp; done) | (simp [*]; done),by repeat (first | exact Drawn0.refl _ | apply Drawn0.step)⟩
 ·rw [if_neg c2] at H
  have c2b0 : decide (16 < (l0.length : Int)) = false:=decide_eq_false c2;have c2b1 : decide (16 < l0.length) = false:=decide_eq_false (by omega);clear c2;have H':=Aside0.mk H;clear H
  go_enter Try.func22,Try.ntmps22
  go_wp2
  repeat (go_quiet (fail); try go_wp2)
  go_loopg [3] k (fun kq v3 w' => ∃ (x3_1 : Int),v3 = .int .i64 x3_1 ∧ Aside0 (hinterlandref09_ValidateCargoes.l0 kq l0 x3_1 = some r) ∧ Aside0 (kq ≤ k) ∧ Drawn0 w w')
  case atStart => exact ⟨(0),(by first | rfl | (simp; done) | (simp [*]; done)),H',⟨Nat.le_refl _⟩,by repeat (first | exact Drawn0.refl _ | apply Drawn0.step)⟩
  case round =>
   clear H'
   try clear c2
   try clear c2b0
   try clear c2b1
   try clear p2
   obtain ⟨x3_1,rfl,HA,HK1,⟨m1,rfl⟩⟩:=hrel
   cases gk with
   | zero => exact absurd HA.out (by simp [hinterlandref09_ValidateCargoes.l0])
   | succ k1 =>
    have H:=HA.out;clear HA
    simp only [hinterlandref09_ValidateCargoes.l0] at H
    by_cases c3 : x3_1 < (l0.length : Int)
    ·rw [if_pos c3] at H
     have c3b0 : decide (x3_1 < (l0.length : Int)) = true:=decide_eq_true c3;clear c3
     by_cases c4 : 0 ≤ x3_1
     ·rw [if_pos c4] at H
      have c4b0 : decide (0 ≤ x3_1) = true:=decide_eq_true c4;clear c4;replace H:=Option.bind_eq_some_iff.mp H;obtain ⟨t102,A50,H⟩:=H;replace H : (if t102 = true then ((hinterlandref09_Out.f (rd_T23 l0 x3_1).f1 1000).bind fun t104 => (if t104 = true then (some 1) else ((hinterlandref09_Out.f (rd_T23 l0 x3_1).f2 255).bind fun t106 => (if t106 = true then (some 1) else ((hinterlandref09_Out.f (rd_T23 l0 x3_1).f3 255).bind fun t108 => (if t108 = true then (some 1) else (hinterlandref09_ValidateCargoes.l0 k1 l0 (wrap64 (x3_1 + 1))))))))) else (some 1)) = some r:=H;have A5:=Aside0.mk A50;clear A50
      by_cases c6 : t102 = true
      ·subst c6
       have H1 : ((hinterlandref09_Out.f (rd_T23 l0 x3_1).f1 1000).bind fun t104 => (if t104 = true then (some 1) else ((hinterlandref09_Out.f (rd_T23 l0 x3_1).f2 255).bind fun t106 => (if t106 = true then (some 1) else ((hinterlandref09_Out.f (rd_T23 l0 x3_1).f3 255).bind fun t108 => (if t108 = true then (some 1) else (hinterlandref09_ValidateCargoes.l0 k1 l0 (wrap64 (x3_1 + 1))))))))) = some r:=by rw [if_pos rfl] at H; exact H
       clear H;have H:=H1;clear H1;replace H:=Option.bind_eq_some_iff.mp H;obtain ⟨t104,A70,H⟩:=H;replace H : (if t104 = true then (some 1) else ((hinterlandref09_Out.f (rd_T23 l0 x3_1).f2 255).bind fun t106 => (if t106 = true then (some 1) else ((hinterlandref09_Out.f (rd_T23 l0 x3_1).f3 255).bind fun t108 => (if t108 = true then (some 1) else (hinterlandref09_ValidateCargoes.l0 k1 l0 (wrap64 (x3_1 + 1)))))))) = some r:=H;have A7:=Aside0.mk A70;clear A70
       by_cases c8 : t104 = true
       ·subst c8
        have H1 : (some 1) = some r:=by rw [if_pos rfl] at H; exact H
        clear H;have H:=H1;clear H1;obtain rfl:=Option.some.inj H;have p101 : 0 ≤ (x3_1 : Int):=of_decide_eq_true ba_;have q101 : x3_1 < (l0.length : Int):=of_decide_eq_true ba_;obtain ⟨ad101,e101,hx101_0,hx101_1,hx101_2,hx101_3⟩:=at_T23 HR0.out x3_1 p101 q101
        cases e101
        replace p101:=eq_true p101;replace q101:=eq_true q101
        go_wp2_with (first | (go_at_call 49; (with_reducible refine (hinterlandref09_Named.calls k1 (rd_T23 l0 x3_1).f0 true _ A5.out).mono ?_); rintro e w' ⟨rfl,⟨nd,rfl⟩⟩; (try first | exact ⟨rfl,_,World.drewN_drewN _ _ _⟩ | exact ⟨rfl,_,Eq.trans (World.drewN_drewN _ _ _) (congrArg (World.drewN _) (Nat.add_assoc _ _ _))⟩); have p103 : 0 ≤ (x3_1 : Int):=of_decide_eq_true ba_; have q103 : x3_1 < (l0.length : Int):=of_decide_eq_true ba_; obtain ⟨ad103,e103,hx103_0,hx103_1,hx103_2,hx103_3⟩:=at_T23 HR0.out x3_1 p103 q103; obtain rfl : ad101 = ad103:=(by injection e103); replace p103:=eq_true p103; replace q103:=eq_true q103) | (go_at_call 42; (with_reducible refine (hinterlandref09_Out.calls (rd_T23 l0 x3_1).f1 1000 true _ A7.out).mono ?_); rintro e w' ⟨rfl,⟨nd,rfl⟩⟩; (try first | exact ⟨rfl,_,World.drewN_drewN _ _ _⟩ | exact ⟨rfl,_,Eq.trans (World.drewN_drewN _ _ _) (congrArg (World.drewN _) (Nat.add_assoc _ _ _))⟩)))
        repeat (go_quiet (first | (go_at_call 49; (with_reducible refine (hinterlandref09_Named.calls k1 (rd_T23 l0 x3_1).f0 true _ A5.out).mono ?_); rintro e w' ⟨rfl,⟨nd,rfl⟩⟩; (try first | exact ⟨rfl,_,World.drewN_drewN _ _ _⟩ | exact ⟨rfl,_,Eq.trans (World.drewN_drewN _ _ _) (congrArg (World.drewN _) (Nat.add_assoc _ _ _))⟩); have p103 : 0 ≤ (x3_1 : Int):=of_decide_eq_true ba_; have q103 : x3_1 < (l0.length : Int):=of_decide_eq_true ba_; obtain ⟨ad103,e103,hx103_0,hx103_1,hx103_2,hx103_3⟩:=at_T23 HR0.out x3_1 p103 q103; obtain rfl : ad101 = ad103:=(by injection e103); replace p103:=eq_true p103; replace q103:=eq_true q103) | (go_at_call 42; (with_reducible refine (hinterlandref09_Out.calls (rd_T23 l0 x3_1).f1 1000 true _ A7.out).mono ?_); rintro e w' ⟨rfl,⟨nd,rfl⟩⟩; (try first | exact ⟨rfl,_,World.drewN_drewN _ _ _⟩ | exact ⟨rfl,_,Eq.trans (World.drewN_drewN _ _ _) (congrArg (World.drewN _) (Nat.add_assoc _ _ _))⟩))); try go_wp2_with (first | (go_at_call 49; (with_reducible refine (hinterlandref09_Named.calls k1 (rd_T23 l0 x3_1).f0 true _ A5.out).mono ?_); rintro e w' ⟨rfl,⟨nd,rfl⟩⟩; (try first | exact ⟨rfl,_,World.drewN_drewN _ _ _⟩ | exact ⟨rfl,_,Eq.trans (World.drewN_drewN _ _ _) (congrArg (World.drewN _) (Nat.add_assoc _ _ _))⟩); have p103 : 0 ≤ (x3_1 : Int):=of_decide_eq_true ba_; have q103 : x3_1 < (l0.length : Int):=of_decide_eq_true ba_; obtain ⟨ad103,e103,hx103_0,hx103_1,hx103_2,hx103_3⟩:=at_T23 HR0.out x3_1 p103 q103; obtain rfl : ad101 = ad103:=(by injection e103); replace p103:=eq_true p103; replace q103:=eq_true q103) | (go_at_call 42; (with_reducible refine (hinterlandref09_Out.calls (rd_T23 l0 x3_1).f1 1000 true _ A7.out).mono ?_); rintro e w' ⟨rfl,⟨nd,rfl⟩⟩; (try first | exact ⟨rfl,_,World.drewN_drewN _ _ _⟩ | exact ⟨rfl,_,Eq.trans (World.drewN_drewN _ _ _) (congrArg (World.drewN _) (Nat.add_assoc _ _ _))⟩))))
        go_ret
        exact ⟨by first | rfl | (simp; done) | (simp [*]; done),by repeat (first | exact Drawn0.refl _ | apply Drawn0.step)⟩
       ·replace c8:=Bool.eq_false_iff.mpr c8
        subst c8
        have H1 : ((hinterlandref09_Out.f (rd_T23 l0 x3_1).f2 255).bind fun t106 => (if t106 = true then (some 1) else ((hinterlandref09_Out.f (rd_T23 l0 x3_1).f3 255).bind fun t108 => (if t108 = true then (some 1) else (hinterlandref09_ValidateCargoes.l0 k1 l0 (wrap64 (x3_1 + 1))))))) = some r:=by rw [if_neg (show ¬ (false = true) by decide)] at H; exact H
        clear H;have H:=H1;clear H1;replace H:=Option.bind_eq_some_iff.mp H;obtain ⟨t106,A90,H⟩:=H;replace H : (if t106 = true then (some 1) else ((hinterlandref09_Out.f (rd_T23 l0 x3_1).f3 255).bind fun t108 => (if t108 = true then (some 1) else (hinterlandref09_ValidateCargoes.l0 k1 l0 (wrap64 (x3_1 + 1)))))) = some r:=H;have A9:=Aside0.mk A90;clear A90
        by_cases c10 : t106 = true
        ·subst c10
         have H1 : (some 1) = some r:=by rw [if_pos rfl] at H; exact H
         clear H;have H:=H1;clear H1;obtain rfl:=Option.some.inj H;have p101 : 0 ≤ (x3_1 : Int):=of_decide_eq_true ba_;have q101 : x3_1 < (l0.length : Int):=of_decide_eq_true ba_;obtain ⟨ad101,e101,hx101_0,hx101_1,hx101_2,hx101_3⟩:=at_T23 HR0.out x3_1 p101 q101
         cases e101
         replace p101:=eq_true p101;replace q101:=eq_true q101
         go_wp2_with (first | (go_at_call 49; (with_reducible refine (hinterlandref09_Named.calls k1 (rd_T23 l0 x3_1).f0 true _ A5.out).mono ?_); rintro e w' ⟨rfl,⟨nd,rfl⟩⟩; (try first | exact ⟨rfl,_,World.drewN_drewN _ _ _⟩ | exact ⟨rfl,_,Eq.trans (World.drewN_drewN _ _ _) (congrArg (World.drewN _) (Nat.add_assoc _ _ _))⟩); have p103 : 0 ≤ (x3_1 : Int):=of_decide_eq_true ba_; have q103 : x3_1 < (l0.length : Int):=of_decide_eq_true ba_; obtain ⟨ad103,e103,hx103_0,hx103_1,hx103_2,hx103_3⟩:=at_T23 HR0.out x3_1 p103 q103; obtain rfl : ad101 = ad103:=(by injection e103); replace p103:=eq_true p103; replace q103:=eq_true q103) | (go_at_call 42; (with_reducible refine (hinterlandref09_Out.calls (rd_T23 l0 x3_1).f1 1000 false _ A7.out).mono ?_); rintro e w' ⟨rfl,⟨nd,rfl⟩⟩; (try first | exact ⟨rfl,_,World.drewN_drewN _ _ _⟩ | exact ⟨rfl,_,Eq.trans (World.drewN_drewN _ _ _) (congrArg (World.drewN _) (Nat.add_assoc _ _ _))⟩); have p105 : 0 ≤ (x3_1 : Int):=of_decide_eq_true ba_; have q105 : x3_1 < (l0.length : Int):=of_decide_eq_true ba_; obtain ⟨ad105,e105,hx105_0,hx105_1,hx105_2,hx105_3⟩:=at_T23 HR0.out x3_1 p105 q105; obtain rfl : ad101 = ad105:=(by injection e105); replace p105:=eq_true p105; replace q105:=eq_true q105) | (go_at_call 42; (with_reducible refine (hinterlandref09_Out.calls (rd_T23 l0 x3_1).f2 255 true _ A9.out).mono ?_); rintro e w' ⟨rfl,⟨nd,rfl⟩⟩; (try first | exact ⟨rfl,_,World.drewN_drewN _ _ _⟩ | exact ⟨rfl,_,Eq.trans (World.drewN_drewN _ _ _) (congrArg (World.drewN _) (Nat.add_assoc _ _ _))⟩)))
         repeat (go_quiet (first | (go_at_call 49; (with_reducible refine (hinterlandref09_Named.calls k1 (rd_T23 l0 x3_1).f0 true _ A5.out).mono ?_); rintro e w' ⟨rfl,⟨nd,rfl⟩⟩; (try first | exact ⟨rfl,_,World.drewN_drewN _ _ _⟩ | exact ⟨rfl,_,Eq.trans (World.drewN_drewN _ _ _) (congrArg (World.drewN _) (Nat.add_assoc _ _ _))⟩); have p103 : 0 ≤ (x3_1 : Int):=of_decide_eq_true ba_; have q103 : x3_1 < (l0.length : Int):=of_decide_eq_true ba_; obtain ⟨ad103,e103,hx103_0,hx103_1,hx103_2,hx103_3⟩:=at_T23 HR0.out x3_1 p103 q103; obtain rfl : ad101 = ad103:=(by injection e103); replace p103:=eq_true p103; replace q103:=eq_true q103) | (go_at_call 42; (with_reducible refine (hinterlandref09_Out.calls (rd_T23 l0 x3_1).f1 1000 false _ A7.out).mono ?_); rintro e w' ⟨rfl,⟨nd,rfl⟩⟩; (try first | exact ⟨rfl,_,World.drewN_drewN _ _ _⟩ | exact ⟨rfl,_,Eq.trans (World.drewN_drewN _ _ _) (congrArg (World.drewN _) (Nat.add_assoc _ _ _))⟩); have p105 : 0 ≤ (x3_1 : Int):=of_decide_eq_true ba_; have q105 : x3_1 < (l0.length : Int):=of_decide_eq_true ba_; obtain ⟨ad105,e105,hx105_0,hx105_1,hx105_2,hx105_3⟩:=at_T23 HR0.out x3_1 p105 q105; obtain rfl : ad101 = ad105:=(by injection e105); replace p105:=eq_true p105; replace q105:=eq_true q105) | (go_at_call 42; (with_reducible refine (hinterlandref09_Out.calls (rd_T23 l0 x3_1).f2 255 true _ A9.out).mono ?_); rintro e w' ⟨rfl,⟨nd,rfl⟩⟩; (try first | exact ⟨rfl,_,World.drewN_drewN _ _ _⟩ | exact ⟨rfl,_,Eq.trans (World.drewN_drewN _ _ _) (congrArg (World.drewN _) (Nat.add_assoc _ _ _))⟩))); try go_wp2_with (first | (go_at_call 49; (with_reducible refine (hinterlandref09_Named.calls k1 (rd_T23 l0 x3_1).f0 true _ A5.out).mono ?_); rintro e w' ⟨rfl,⟨nd,rfl⟩⟩; (try first | exact ⟨rfl,_,World.drewN_drewN _ _ _⟩ | exact ⟨rfl,_,Eq.trans (World.drewN_drewN _ _ _) (congrArg (World.drewN _) (Nat.add_assoc _ _ _))⟩); have p103 : 0 ≤ (x3_1 : Int):=of_decide_eq_true ba_; have q103 : x3_1 < (l0.length : Int):=of_decide_eq_true ba_; obtain ⟨ad103,e103,hx103_0,hx103_1,hx103_2,hx103_3⟩:=at_T23 HR0.out x3_1 p103 q103; obtain rfl : ad101 = ad103:=(by injection e103); replace p103:=eq_true p103; replace q103:=eq_true q103) | (go_at_call 42; (with_reducible refine (hinterlandref09_Out.calls (rd_T23 l0 x3_1).f1 1000 false _ A7.out).mono ?_); rintro e w' ⟨rfl,⟨nd,rfl⟩⟩; (try first | exact ⟨rfl,_,World.drewN_drewN _ _ _⟩ | exact ⟨rfl,_,Eq.trans (World.drewN_drewN _ _ _) (congrArg (World.drewN _) (Nat.add_assoc _ _ _))⟩); have p105 : 0 ≤ (x3_1 : Int):=of_decide_eq_true ba_; have q105 : x3_1 < (l0.length : Int):=of_decide_eq_true ba_; obtain ⟨ad105,e105,hx105_0,hx105_1,hx105_2,hx105_3⟩:=at_T23 HR0.out x3_1 p105 q105; obtain rfl : ad101 = ad105:=(by injection e105); replace p105:=eq_true p105; replace q105:=eq_true q105) | (go_at_call 42; (with_reducible refine (hinterlandref09_Out.calls (rd_T23 l0 x3_1).f2 255 true _ A9.out).mono ?_); rintro e w' ⟨rfl,⟨nd,rfl⟩⟩; (try first | exact ⟨rfl,_,World.drewN_drewN _ _ _⟩ | exact ⟨rfl,_,Eq.trans (World.drewN_drewN _ _ _) (congrArg (World.drewN _) (Nat.add_assoc _ _ _))⟩))))
         go_ret
         exact ⟨by first | rfl | (simp; done) | (simp [*]; done),by repeat (first | exact Drawn0.refl _ | apply Drawn0.step)⟩
        ·replace c10:=Bool.eq_false_iff.mpr c10
         subst c10
         have H1 : ((hinterlandref09_Out.f (rd_T23 l0 x3_1).f3 255).bind fun t108 => (if t108 = true then (some 1) else (hinterlandref09_ValidateCargoes.l0 k1 l0 (wrap64 (x3_1 + 1))))) = some r:=by rw [if_neg (show ¬ (false = true) by decide)] at H; exact H
         clear H;have H:=H1;clear H1;replace H:=Option.bind_eq_some_iff.mp H;obtain ⟨t108,A110,H⟩:=H;replace H : (if t108 = true then (some 1) else (hinterlandref09_ValidateCargoes.l0 k1 l0 (wrap64 (x3_1 + 1)))) = some r:=H;have A11:=Aside0.mk A110;clear A110
         by_cases c12 : t108 = true
         ·subst c12
          have H1 : (some 1) = some r:=by rw [if_pos rfl] at H; exact H
          clear H;have H:=H1;clear H1;obtain rfl:=Option.some.inj H;have p101 : 0 ≤ (x3_1 : Int):=of_decide_eq_true ba_;have q101 : x3_1 < (l0.length : Int):=of_decide_eq_true ba_;obtain ⟨ad101,e101,hx101_0,hx101_1,hx101_2,hx101_3⟩:=at_T23 HR0.out x3_1 p101 q101
          cases e101
          replace p101:=eq_true p101;replace q101:=eq_true q101
          go_wp2_with (first | (go_at_call 49; (with_reducible refine (hinterlandref09_Named.calls k1 (rd_T23 l0 x3_1).f0 true _ A5.out).mono ?_); rintro e w' ⟨rfl,⟨nd,rfl⟩⟩; (try first | exact ⟨rfl,_,World.drewN_drewN _ _ _⟩ | exact ⟨rfl,_,Eq.trans (World.drewN_drewN _ _ _) (congrArg (World.drewN _) (Nat.add_assoc _ _ _))⟩); have p103 : 0 ≤ (x3_1 : Int):=of_decide_eq_true ba_; have q103 : x3_1 < (l0.length : Int):=of_decide_eq_true ba_; obtain ⟨ad103,e103,hx103_0,hx103_1,hx103_2,hx103_3⟩:=at_T23 HR0.out x3_1 p103 q103; obtain rfl : ad101 = ad103:=(by injection e103); replace p103:=eq_true p103; replace q103:=eq_true q103) | (go_at_call 42; (with_reducible refine (hinterlandref09_Out.calls (rd_T23 l0 x3_1).f1 1000 false _ A7.out).mono ?_); rintro e w' ⟨rfl,⟨nd,rfl⟩⟩; (try first | exact ⟨rfl,_,World.drewN_drewN _ _ _⟩ | exact ⟨rfl,_,Eq.trans (World.drewN_drewN _ _ _) (congrArg (World.drewN _) (Nat.add_assoc _ _ _))⟩); have p105 : 0 ≤ (x3_1 : Int):=of_decide_eq_true ba_; have q105 : x3_1 < (l0.length : Int):=of_decide_eq_true ba_; obtain ⟨ad105,e105,hx105_0,hx105_1,hx105_2,hx105_3⟩:=at_T23 HR0.out x3_1 p105 q105; obtain rfl : ad101 = ad105:=(by injection e105); replace p105:=eq_true p105; replace q105:=eq_true q105) | (go_at_call 42; (with_reducible refine (hinterlandref09_Out.calls (rd_T23 l0 x3_1).f2 255 false _ A9.out).mono ?_); rintro e w' ⟨rfl,⟨nd,rfl⟩⟩; (try first | exact ⟨rfl,_,World.drewN_drewN _ _ _⟩ | exact ⟨rfl,_,Eq.trans (World.drewN_drewN _ _ _) (congrArg (World.drewN _) (Nat.add_assoc _ _ _))⟩); have p107 : 0 ≤ (x3_1 : Int):=of_decide_eq_true ba_; have q107 : x3_1 < (l0.length : Int):=of_decide_eq_true ba_; obtain ⟨ad107,e107,hx107_0,hx107_1,hx107_2,hx107_3⟩:=at_T23 HR0.out x3_1 p107 q107; obtain rfl : ad101 = ad107:=(by injection e107); replace p107:=eq_true p107; replace q107:=eq_true q107) | (go_at_call 42; (with_reducible refine (hinterlandref09_Out.calls (rd_T23 l0 x3_1).f3 255 true _ A11.out).mono ?_); rintro e w' ⟨rfl,⟨nd,rfl⟩⟩; (try first | exact ⟨rfl,_,World.drewN_drewN _ _ _⟩ | exact ⟨rfl,_,Eq.trans (World.drewN_drewN _ _ _) (congrArg (World.drewN _) (Nat.add_assoc _ _ _))⟩)))
          repeat (go_quiet (first | (go_at_call 49; (with_reducible refine (hinterlandref09_Named.calls k1 (rd_T23 l0 x3_1).f0 true _ A5.out).mono ?_); rintro e w' ⟨rfl,⟨nd,rfl⟩⟩; (try first | exact ⟨rfl,_,World.drewN_drewN _ _ _⟩ | exact ⟨rfl,_,Eq.trans (World.drewN_drewN _ _ _) (congrArg (World.drewN _) (Nat.add_assoc _ _ _))⟩); have p103 : 0 ≤ (x3_1 : Int):=of_decide_eq_true ba_; have q103 : x3_1 < (l0.length : Int):=of_decide_eq_true ba_; obtain ⟨ad103,e103,hx103_0,hx103_1,hx103_2,hx103_3⟩:=at_T23 HR0.out x3_1 p103 q103; obtain rfl : ad101 = ad103:=(by injection e103); replace p103:=eq_true p103; replace q103:=eq_true q103) | (go_at_call 42; (with_reducible refine (hinterlandref09_Out.calls (rd_T23 l0 x3_1).f1 1000 false _ A7.out).mono ?_); rintro e w' ⟨rfl,⟨nd,rfl⟩⟩; (try first | exact ⟨rfl,_,World.drewN_drewN _ _ _⟩ | exact ⟨rfl,_,Eq.trans (World.drewN_drewN _ _ _) (congrArg (World.drewN _) (Nat.add_assoc _ _ _))⟩); have p105 : 0 ≤ (x3_1 : Int):=of_decide_eq_true ba_; have q105 : x3_1 < (l0.length : Int):=of_decide_eq_true ba_; obtain ⟨ad105,e105,hx105_0,hx105_1,hx105_2,hx105_3⟩:=at_T23 HR0.out x3_1 p105 q105; obtain rfl : ad101 = ad105:=(by injection e105); replace p105:=eq_true p105; replace q105:=eq_true q105) | (go_at_call 42; (with_reducible refine (hinterlandref09_Out.calls (rd_T23 l0 x3_1).f2 255 false _ A9.out).mono ?_); rintro e w' ⟨rfl,⟨nd,rfl⟩⟩; (try first | exact ⟨rfl,_,World.drewN_drewN _ _ _⟩ | exact ⟨rfl,_,Eq.trans (World.drewN_drewN _ _ _) (congrArg (World.drewN _) (Nat.add_assoc _ _ _))⟩); have p107 : 0 ≤ (x3_1 : Int):=of_decide_eq_true ba_; have q107 : x3_1 < (l0.length : Int):=of_decide_eq_true ba_; obtain ⟨ad107,e107,hx107_0,hx107_1,hx107_2,hx107_3⟩:=at_T23 HR0.out x3_1 p107 q107; obtain rfl : ad101 = ad107:=(by injection e107); replace p107:=eq_true p107; replace q107:=eq_true q107) | (go_at_call 42; (with_reducible refine (hinterlandref09_Out.calls (rd_T23 l0 x3_1).f3 255 true _ A11.out).mono ?_); rintro e w' ⟨rfl,⟨nd,rfl⟩⟩; (try first | exact ⟨rfl,_,World.drewN_drewN _ _ _⟩ | exact ⟨rfl,_,Eq.trans (World.drewN_drewN _ _ _) (congrArg (World.drewN _) (Nat.add_assoc _ _ _))⟩))); try go_wp2_with (first | (go_at_call 49; (with_reducible refine (hinterlandref09_Named.calls k1 (rd_T23 l0 x3_1).f0 true _ A5.out).mono ?_); rintro e w' ⟨rfl,⟨nd,rfl⟩⟩; (try first | exact ⟨rfl,_,World.drewN_drewN _ _ _⟩ | exact ⟨rfl,_,Eq.trans (World.drewN_drewN _ _ _) (congrArg (World.drewN _) (Nat.add_assoc _ _ _))⟩); have p103 : 0 ≤ (x3_1 : Int):=of_decide_eq_true ba_; have q103 : x3_1 < (l0.length : Int):=of_decide_eq_true ba_; obtain ⟨ad103,e103,hx103_0,hx103_1,hx103_2,hx103_3⟩:=at_T23 HR0.out x3_1 p103 q103; obtain rfl : ad101 = ad103:=(by injection e103); replace p103:=eq_true p103; replace q103:=eq_true q103) | (go_at_call 42; (with_reducible refine (hinterlandref09_Out.calls (rd_T23 l0 x3_1).f1 1000 false _ A7.out).mono ?_); rintro e w' ⟨rfl,⟨nd,rfl⟩⟩; (try first | exact ⟨rfl,_,World.drewN_drewN _ _ _⟩ | exact ⟨rfl,_,Eq.trans (World.drewN_drewN _ _ _) (congrArg (World.drewN _) (Nat.add_assoc _ _ _))⟩); have p105 : 0 ≤ (x3_1 : Int):=of_decide_eq_true ba_; have q105 : x3_1 < (l0.length : Int):=of_decide_eq_true ba_; obtain ⟨ad105,e105,hx105_0,hx105_1,hx105_2,hx105_3⟩:=at_T23 HR0.out x3_1 p105 q105; obtain rfl : ad101 = ad105:=(by injection e105); replace p105:=eq_true p105; replace q105:=eq_true q105) | (go_at_call 42; (with_reducible refine (hinterlandref09_Out.calls (rd_T23 l0 x3_1).f2 255 false _ A9.out).mono ?_); rintro e w' ⟨rfl,⟨nd,rfl⟩⟩; (try first | exact ⟨rfl,_,World.drewN_drewN _ _ _⟩ | exact ⟨rfl,_,Eq.trans (World.drewN_drewN _ _ _) (congrArg (World.drewN _) (Nat.add_assoc _ _ _))⟩); have p107 : 0 ≤ (x3_1 : Int):=of_decide_eq_true ba_; have q107 : x3_1 < (l0.length : Int):=of_decide_eq_true ba_; obtain ⟨ad107,e107,hx107_0,hx107_1,hx107_2,hx107_3⟩:=at_T23 HR0.out x3_1 p107 q107; obtain rfl : ad101 = ad107:=(by injection e107); replace p107:=eq_true p107; replace q107:=eq_true q107) | (go_at_call 42; (with_reducible refine (hinterlandref09_Out.calls (rd_T23 l0 x3_1).f3 255 true _ A11.out).mono ?_); rintro e w' ⟨rfl,⟨nd,rfl⟩⟩; (try first | exact ⟨rfl,_,World.drewN_drewN _ _ _⟩ | exact ⟨rfl,_,Eq.trans (World.drewN_drewN _ _ _) (congrArg (World.drewN _) (Nat.add_assoc _ _ _))⟩))))
          go_ret
          exact ⟨by first | rfl | (simp; done) | (simp [*]; done),by repeat (first | exact Drawn0.refl _ | apply Drawn0.step)⟩
         ·replace c12:=Bool.eq_false_iff.mpr c12
          subst c12
          have H1 : (hinterlandref09_ValidateCargoes.l0 k1 l0 (wrap64 (x3_1 + 1))) = some r:=by rw [if_neg (show ¬ (false = true) by decide)] at H; exact H
          clear H;have H:=H1;clear H1;have H':=Aside0.mk H;clear H;have p101 : 0 ≤ (x3_1 : Int):=of_decide_eq_true ba_;have q101 : x3_1 < (l0.length : Int):=of_decide_eq_true ba_;obtain ⟨ad101,e101,hx101_0,hx101_1,hx101_2,hx101_3⟩:=at_T23 HR0.out x3_1 p101 q101
          cases e101
          replace p101:=eq_true p101;replace q101:=eq_true q101
          go_wp2_with (first | (go_at_call 49; (with_reducible refine (hinterlandref09_Named.calls k1 (rd_T23 l0 x3_1).f0 true _ A5.out).mono ?_); rintro e w' ⟨rfl,⟨nd,rfl⟩⟩; (try first | exact ⟨rfl,_,World.drewN_drewN _ _ _⟩ | exact ⟨rfl,_,Eq.trans (World.drewN_drewN _ _ _) (congrArg (World.drewN _) (Nat.add_assoc _ _ _))⟩); have p103 : 0 ≤ (x3_1 : Int):=of_decide_eq_true ba_; have q103 : x3_1 < (l0.length : Int):=of_decide_eq_true ba_; obtain ⟨ad103,e103,hx103_0,hx103_1,hx103_2,hx103_3⟩:=at_T23 HR0.out x3_1 p103 q103; obtain rfl : ad101 = ad103:=(by injection e103); replace p103:=eq_true p103; replace q103:=eq_true q103) | (go_at_call 42; (with_reducible refine (hinterlandref09_Out.calls (rd_T23 l0 x3_1).f1 1000 false _ A7.out).mono ?_); rintro e w' ⟨rfl,⟨nd,rfl⟩⟩; (try first | exact ⟨rfl,_,World.drewN_drewN _ _ _⟩ | exact ⟨rfl,_,Eq.trans (World.drewN_drewN _ _ _) (congrArg (World.drewN _) (Nat.add_assoc _ _ _))⟩); have p105 : 0 ≤ (x3_1 : Int):=of_decide_eq_true ba_; have q105 : x3_1 < (l0.length : Int):=of_decide_eq_true ba_; obtain ⟨ad105,e105,hx105_0,hx105_1,hx105_2,hx105_3⟩:=at_T23 HR0.out x3_1 p105 q105; obtain rfl : ad101 = ad105:=(by injection e105); replace p105:=eq_true p105; replace q105:=eq_true q105) | (go_at_call 42; (with_reducible refine (hinterlandref09_Out.calls (rd_T23 l0 x3_1).f2 255 false _ A9.out).mono ?_); rintro e w' ⟨rfl,⟨nd,rfl⟩⟩; (try first | exact ⟨rfl,_,World.drewN_drewN _ _ _⟩ | exact ⟨rfl,_,Eq.trans (World.drewN_drewN _ _ _) (congrArg (World.drewN _) (Nat.add_assoc _ _ _))⟩); have p107 : 0 ≤ (x3_1 : Int):=of_decide_eq_true ba_; have q107 : x3_1 < (l0.length : Int):=of_decide_eq_true ba_; obtain ⟨ad107,e107,hx107_0,hx107_1,hx107_2,hx107_3⟩:=at_T23 HR0.out x3_1 p107 q107; obtain rfl : ad101 = ad107:=(by injection e107); replace p107:=eq_true p107; replace q107:=eq_true q107) | (go_at_call 42; (with_reducible refine (hinterlandref09_Out.calls (rd_T23 l0 x3_1).f3 255 false _ A11.out).mono ?_); rintro e w' ⟨rfl,⟨nd,rfl⟩⟩; (try first | exact ⟨rfl,_,World.drewN_drewN _ _ _⟩ | exact ⟨rfl,_,Eq.trans (World.drewN_drewN _ _ _) (congrArg (World.drewN _) (Nat.add_assoc _ _ _))⟩)))
          repeat (go_quiet (first | (go_at_call 49; (with_reducible refine (hinterlandref09_Named.calls k1 (rd_T23 l0 x3_1).f0 true _ A5.out).mono ?_); rintro e w' ⟨rfl,⟨nd,rfl⟩⟩; (try first | exact ⟨rfl,_,World.drewN_drewN _ _ _⟩ | exact ⟨rfl,_,Eq.trans (World.drewN_drewN _ _ _) (congrArg (World.drewN _) (Nat.add_assoc _ _ _))⟩); have p103 : 0 ≤ (x3_1 : Int):=of_decide_eq_true ba_; have q103 : x3_1 < (l0.length : Int):=of_decide_eq_true ba_; obtain ⟨ad103,e103,hx103_0,hx103_1,hx103_2,hx103_3⟩:=at_T23 HR0.out x3_1 p103 q103; obtain rfl : ad101 = ad103:=(by injection e103); replace p103:=eq_true p103; replace q103:=eq_true q103) | (go_at_call 42; (with_reducible refine (hinterlandref09_Out.calls (rd_T23 l0 x3_1).f1 1000 false _ A7.out).mono ?_); rintro e w' ⟨rfl,⟨nd,rfl⟩⟩; (try first | exact ⟨rfl,_,World.drewN_drewN _ _ _⟩ | exact ⟨rfl,_,Eq.trans (World.drewN_drewN _ _ _) (congrArg (World.drewN _) (Nat.add_assoc _ _ _))⟩); have p105 : 0 ≤ (x3_1 : Int):=of_decide_eq_true ba_; have q105 : x3_1 < (l0.length : Int):=of_decide_eq_true ba_; obtain ⟨ad105,e105,hx105_0,hx105_1,hx105_2,hx105_3⟩:=at_T23 HR0.out x3_1 p105 q105; obtain rfl : ad101 = ad105:=(by injection e105); replace p105:=eq_true p105; replace q105:=eq_true q105) | (go_at_call 42; (with_reducible refine (hinterlandref09_Out.calls (rd_T23 l0 x3_1).f2 255 false _ A9.out).mono ?_); rintro e w' ⟨rfl,⟨nd,rfl⟩⟩; (try first | exact ⟨rfl,_,World.drewN_drewN _ _ _⟩ | exact ⟨rfl,_,Eq.trans (World.drewN_drewN _ _ _) (congrArg (World.drewN _) (Nat.add_assoc _ _ _))⟩); have p107 : 0 ≤ (x3_1 : Int):=of_decide_eq_true ba_; have q107 : x3_1 < (l0.length : Int):=of_decide_eq_true ba_; obtain ⟨ad107,e107,hx107_0,hx107_1,hx107_2,hx107_3⟩:=at_T23 HR0.out x3_1 p107 q107; obtain rfl : ad101 = ad107:=(by injection e107); replace p107:=eq_true p107; replace q107:=eq_true q107) | (go_at_call 42; (with_reducible refine (hinterlandref09_Out.calls (rd_T23 l0 x3_1).f3 255 false _ A11.out).mono ?_); rintro e w' ⟨rfl,⟨nd,rfl⟩⟩; (try first | exact ⟨rfl,_,World.drewN_drewN _ _ _⟩ | exact ⟨rfl,_,Eq.trans (World.drewN_drewN _ _ _) (congrArg (World.drewN _) (Nat.add_assoc _ _ _))⟩))); try go_wp2_with (first | (go_at_call 49; (with_reducible refine (hinterlandref09_Named.calls k1 (rd_T23 l0 x3_1).f0 true _ A5.out).mono ?_); rintro e w' ⟨rfl,⟨nd,rfl⟩⟩; (try first | exact ⟨rfl,_,World.drewN_drewN _ _ _⟩ | exact ⟨rfl,_,Eq.trans (World.drewN_drewN _ _ _) (congrArg (World.drewN _) (Nat.add_assoc _ _ _))⟩); have p103 : 0 ≤ (x3_1 : Int):=of_decide_eq_true ba_; have q103 : x3_1 < (l0.length : Int):=of_decide_eq_true ba_; obtain ⟨ad103,e103,hx103_0,hx103_1,hx103_2,hx103_3⟩:=at_T23 HR0.out x3_1 p103 q103; obtain rfl : ad101 = ad103:=(by injection e103); replace p103:=eq_true p103; replace q103:=eq_true q103) | (go_at_call 42; (with_reducible refine (hinterlandref09_Out.calls (rd_T23 l0 x3_1).f1 1000 false _ A7.out).mono ?_); rintro e w' ⟨rfl,⟨nd,rfl⟩⟩; (try first | exact ⟨rfl,_,World.drewN_drewN _ _ _⟩ | exact ⟨rfl,_,Eq.trans (World.drewN_drewN _ _ _) (congrArg (World.drewN _) (Nat.add_assoc _ _ _))⟩); have p105 : 0 ≤ (x3_1 : Int):=of_decide_eq_true ba_; have q105 : x3_1 < (l0.length : Int):=of_decide_eq_true ba_; obtain ⟨ad105,e105,hx105_0,hx105_1,hx105_2,hx105_3⟩:=at_T23 HR0.out x3_1 p105 q105; obtain rfl : ad101 = ad105:=(by injection e105); replace p105:=eq_true p105; replace q105:=eq_true q105) | (go_at_call 42; (with_reducible refine (hinterlandref09_Out.calls (rd_T23 l0 x3_1).f2 255 false _ A9.out).mono ?_); rintro e w' ⟨rfl,⟨nd,rfl⟩⟩; (try first | exact ⟨rfl,_,World.drewN_drewN _ _ _⟩ | exact ⟨rfl,_,Eq.trans (World.drewN_drewN _ _ _) (congrArg (World.drewN _) (Nat.add_assoc _ _ _))⟩); have p107 : 0 ≤ (x3_1 : Int):=of_decide_eq_true ba_; have q107 : x3_1 < (l0.length : Int):=of_decide_eq_true ba_; obtain ⟨ad107,e107,hx107_0,hx107_1,hx107_2,hx107_3⟩:=at_T23 HR0.out x3_1 p107 q107; obtain rfl : ad101 = ad107:=(by injection e107); replace p107:=eq_true p107; replace q107:=eq_true q107) | (go_at_call 42; (with_reducible refine (hinterlandref09_Out.calls (rd_T23 l0 x3_1).f3 255 false _ A11.out).mono ?_); rintro e w' ⟨rfl,⟨nd,rfl⟩⟩; (try first | exact ⟨rfl,_,World.drewN_drewN _ _ _⟩ | exact ⟨rfl,_,Eq.trans (World.drewN_drewN _ _ _) (congrArg (World.drewN _) (Nat.add_assoc _ _ _))⟩))))
          go_roundg k1
          case measure => have:=HK1.out; omega
          case rel => exact ⟨(wrap64 (x3_1 + 1)),(by first | rfl | (simp; done) | (simp [*]; done)),H',⟨by have:=HK1.out; omega⟩,by repeat (first | exact Drawn0.refl _ | apply Drawn0.step)⟩
      ·replace c6:=Bool.eq_false_iff.mpr c6
       subst c6
       have H1 : (some 1) = some r:=by rw [if_neg (show ¬ (false = true) by decide)] at H; exact H
       clear H;have H:=H1;clear H1;obtain rfl:=Option.some.inj H;have p101 : 0 ≤ (x3_1 : Int):=of_decide_eq_true ba_;have q101 : x3_1 < (l0.length : Int):=of_decide_eq_true ba_;obtain ⟨ad101,e101,hx101_0,hx101_1,hx101_2,hx101_3⟩:=at_T23 HR0.out x3_1 p101 q101
       cases e101
       replace p101:=eq_true p101;replace q101:=eq_true q101
       go_wp2_with (first | (go_at_call 49; (with_reducible refine (hinterlandref09_Named.calls k1 (rd_T23 l0 x3_1).f0 false _ A5.out).mono ?_); rintro e w' ⟨rfl,⟨nd,rfl⟩⟩; (try first | exact ⟨rfl,_,World.drewN_drewN _ _ _⟩ | exact ⟨rfl,_,Eq.trans (World.drewN_drewN _ _ _) (congrArg (World.drewN _) (Nat.add_assoc _ _ _))⟩)))
       repeat (go_quiet (first | (go_at_call 49; (with_reducible refine (hinterlandref09_Named.calls k1 (rd_T23 l0 x3_1).f0 false _ A5.out).mono ?_); rintro e w' ⟨rfl,⟨nd,rfl⟩⟩; (try first | exact ⟨rfl,_,World.drewN_drewN _ _ _⟩ | exact ⟨rfl,_,Eq.trans (World.drewN_drewN _ _ _) (congrArg (World.drewN _) (Nat.add_assoc _ _ _))⟩))); try go_wp2_with (first | (go_at_call 49; (with_reducible refine (hinterlandref09_Named.calls k1 (rd_T23 l0 x3_1).f0 false _ A5.out).mono ?_); rintro e w' ⟨rfl,⟨nd,rfl⟩⟩; (try first | exact ⟨rfl,_,World.drewN_drewN _ _ _⟩ | exact ⟨rfl,_,Eq.trans (World.drewN_drewN _ _ _) (congrArg (World.drewN _) (Nat.add_assoc _ _ _))⟩))))
       go_ret
       exact ⟨by first | rfl | (simp; done) | (simp [*]; done),by repeat (first | exact Drawn0.refl _ | apply Drawn0.step)⟩
     ·rw [if_neg c4] at H
      exact absurd H (by simp)
    ·rw [if_neg c3] at H
     have c3b0 : decide (x3_1 < (l0.length : Int)) = false:=decide_eq_false c3;clear c3;have H':=Aside0.mk H;clear H
     go_wp2
     repeat (go_quiet (fail); try go_wp2)
     go_loopg [4] k1 (fun kq v4 w' => ∃ (x4_2 : Int),v4 = .int .i64 x4_2 ∧ Aside0 (hinterlandref09_ValidateCargoes.l1 kq l0 x4_2 = some r) ∧ Aside0 (kq ≤ k1) ∧ Drawn0 w w')
     case atStart => exact ⟨(0),(by first | rfl | (simp; done) | (simp [*]; done)),H',⟨Nat.le_refl _⟩,by repeat (first | exact Drawn0.refl _ | apply Drawn0.step)⟩
     case round =>
      clear H'
      try clear c1
      try clear p1
      try clear q1
      try clear hx1
      try clear c2
      try clear c2b0
      try clear c2b1
      try clear p2
      try clear c3
      try clear c3b0
      try clear c4
      try clear c4b0
      try clear c6
      try clear p6
      try clear c8
      try clear c10
      try clear p10
      try clear q10
      try clear hx10
      try clear c12
      try clear hx101_0
      try clear hx101_1
      try clear hx101_2
      try clear hx101_3
      try clear hx103_0
      try clear hx103_1
      try clear hx103_2
      try clear hx103_3
      try clear hx105_0
      try clear hx105_1
      try clear hx105_2
      try clear hx105_3
      try clear hx107_0
      try clear hx107_1
      try clear hx107_2
      try clear hx107_3
      try clear p101
      try clear p103
      try clear p105
      try clear p107
      try clear p2
      try clear q101
      try clear q103
      try clear q105
      try clear q107
      obtain ⟨x4_2,rfl,HA,HK2,⟨m2,rfl⟩⟩:=hrel
      cases gk with
      | zero => exact absurd HA.out (by simp [hinterlandref09_ValidateCargoes.l1])
      | succ k2 =>
       have H:=HA.out;clear HA
       simp only [hinterlandref09_ValidateCargoes.l1] at H
       by_cases c13 : x4_2 < (l0.length : Int)
       ·rw [if_pos c13] at H
        have c13b0 : decide (x4_2 < (l0.length : Int)) = true:=decide_eq_true c13;clear c13;have H':=Aside0.mk H;clear H
        go_wp2
        repeat (go_quiet (fail); try go_wp2)
        go_loopg [5] k2 (fun kq v5 w' => ∃ (x5_3 : Int),v5 = .int .i64 x5_3 ∧ Aside0 (hinterlandref09_ValidateCargoes.l2 kq l0 x4_2 x5_3 = some r) ∧ Aside0 (kq ≤ k2) ∧ Drawn0 w w')
        case atStart => exact ⟨(0),(by first | rfl | (simp; done) | (simp [*]; done)),H',⟨Nat.le_refl _⟩,by repeat (first | exact Drawn0.refl _ | apply Drawn0.step)⟩
        case round =>
         clear H'
         try clear c1
         try clear p1
         try clear q1
         try clear hx1
         try clear c2
         try clear c2b0
         try clear c2b1
         try clear p2
         try clear c3
         try clear c3b0
         try clear c4
         try clear c4b0
         try clear c6
         try clear p6
         try clear c8
         try clear c10
         try clear p10
         try clear q10
         try clear hx10
         try clear c12
         try clear c13
         try clear c13b0
         try clear hx101_0
         try clear hx101_1
         try clear hx101_2
         try clear hx101_3
         try clear hx103_0
         try clear hx103_1
         try clear hx103_2
         try clear hx103_3
         try clear hx105_0
         try clear hx105_1
         try clear hx105_2
         try clear hx105_3
         try clear hx107_0
         try clear hx107_1
         try clear hx107_2
         try clear hx107_3
         try clear p1
         try clear p10
         try clear p101
         try clear p103
         try clear p105
         try clear p107
         try clear p2
         try clear p6
         try clear q1
         try clear q10
         try clear q101
         try clear q103
         try clear q105
         try clear q107
         obtain ⟨x5_3,rfl,HA,HK3,⟨m3,rfl⟩⟩:=hrel
         cases gk with
         | zero => exact absurd HA.out (by simp [hinterlandref09_ValidateCargoes.l2])
         | succ k3 =>
          have H:=HA.out;clear HA
          simp only [hinterlandref09_ValidateCargoes.l2] at H
          by_cases c14 : x5_3 < x4_2
          ·rw [if_pos c14] at H
           have c14b0 : decide (x5_3 < x4_2) = true:=decide_eq_true c14;clear c14
           by_cases c15 : 0 ≤ x4_2
           ·rw [if_pos c15] at H
            have c15b0 : decide (0 ≤ x4_2) = true:=decide_eq_true c15;clear c15
            by_cases c16 : x4_2 < (l0.length : Int)
            ·rw [if_pos c16] at H
             have c16b0 : decide (x4_2 < (l0.length : Int)) = true:=decide_eq_true c16;clear c16
             by_cases c17 : 0 ≤ x5_3
             ·rw [if_pos c17] at H
              have c17b0 : decide (0 ≤ x5_3) = true:=decide_eq_true c17;clear c17
              by_cases c18 : x5_3 < (l0.length : Int)
              ·rw [if_pos c18] at H
               have c18b0 : decide (x5_3 < (l0.length : Int)) = true:=decide_eq_true c18;clear c18
               by_cases c19 : (rd_T23 l0 x4_2).f0.toList = (rd_T23 l0 x5_3).f0.toList
               ·rw [if_pos c19] at H
                have c19b0 : ((rd_T23 l0 x4_2).f0.toList == (rd_T23 l0 x5_3).f0.toList) = true:=beq_iff_eq.mpr c19;have c19b1 : ((rd_T23 l0 x4_2).f0.toList != (rd_T23 l0 x5_3).f0.toList) = false:=bne_eq_false_iff_eq.mpr c19;clear c19;obtain rfl:=Option.some.inj H;have p109 : 0 ≤ (x4_2 : Int):=of_decide_eq_true ba_;have q109 : x4_2 < (l0.length : Int):=of_decide_eq_true ba_;obtain ⟨ad109,e109,hx109_0,hx109_1,hx109_2,hx109_3⟩:=at_T23 HR0.out x4_2 p109 q109
                cases e109
                replace p109:=eq_true p109;replace q109:=eq_true q109;have p110 : 0 ≤ (x5_3 : Int):=of_decide_eq_true ba_;have q110 : x5_3 < (l0.length : Int):=of_decide_eq_true ba_;obtain ⟨ad110,e110,hx110_0,hx110_1,hx110_2,hx110_3⟩:=at_T23 HR0.out x5_3 p110 q110;obtain rfl : ad109 = ad110:=(by injection e110);replace p110:=eq_true p110;replace q110:=eq_true q110
                go_wp2
                repeat (go_quiet (fail); try go_wp2)
                go_ret
                exact ⟨by first | rfl | (simp; done) | (simp [*]; done),by repeat (first | exact Drawn0.refl _ | apply Drawn0.step)⟩
               ·rw [if_neg c19] at H
                have c19b0 : ((rd_T23 l0 x4_2).f0.toList == (rd_T23 l0 x5_3).f0.toList) = false:=beq_eq_false_iff_ne.mpr c19;have c19b1 : ((rd_T23 l0 x4_2).f0.toList != (rd_T23 l0 x5_3).f0.toList) = true:=bne_iff_ne.mpr c19;have H':=Aside0.mk H;clear H;have p109 : 0 ≤ (x4_2 : Int):=of_decide_eq_true ba_;have q109 : x4_2 < (l0.length : Int):=of_decide_eq_true ba_;obtain ⟨ad109,e109,hx109_0,hx109_1,hx109_2,hx109_3⟩:=at_T23 HR0.out x4_2 p109 q109
                cases e109
                replace p109:=eq_true p109;replace q109:=eq_true q109;have p110 : 0 ≤ (x5_3 : Int):=of_decide_eq_true ba_;have q110 : x5_3 < (l0.length : Int):=of_decide_eq_true ba_;obtain ⟨ad110,e110,hx110_0,hx110_1,hx110_2,hx110_3⟩:=at_T23 HR0.out x5_3 p110 q110;obtain rfl : ad109 = ad110:=(by injection e110);replace p110:=eq_true p110;replace q110:=eq_true q110
                go_wp2
                repeat (go_quiet (fail); try go_wp2)
                go_roundg k3
                case measure => have:=HK1.out; have:=HK2.out; have:=HK3.out; omega
                case rel => exact ⟨(wrap64 (x5_3 + 1)),(by first | rfl | (simp; done) | (simp [*]; done)),H',⟨by have:=HK1.out; have:=HK2.out; have:=HK3.out; omega⟩,by repeat (first | exact Drawn0.refl _ | apply Drawn0.step)⟩
              ·rw [if_neg c18] at H
               exact absurd H (by simp)
             ·rw [if_neg c17] at H
              exact absurd H (by simp)
            ·rw [if_neg c16] at H
             exact absurd H (by simp)
           ·rw [if_neg c15] at H
            exact absurd H (by simp)
          ·rw [if_neg c14] at H
           have c14b0 : decide (x5_3 < x4_2) = false:=decide_eq_false c14;clear c14;have H':=Aside0.mk H;clear H
           go_wp2
           repeat (go_quiet (fail); try go_wp2)
           go_roundg k3
           case measure => have:=HK1.out; have:=HK2.out; have:=HK3.out; omega
           case rel => exact ⟨(wrap64 (x4_2 + 1)),(by first | rfl | (simp; done) | (simp [*]; done)),H',⟨by have:=HK1.out; have:=HK2.out; have:=HK3.out; omega⟩,by repeat (first | exact Drawn0.refl _ | apply Drawn0.step)⟩
       ·rw [if_neg c13] at H
        have c13b0 : decide (x4_2 < (l0.length : Int)) = false:=decide_eq_false c13;clear c13;obtain rfl:=Option.some.inj H
        go_wp2
        repeat (go_quiet (fail); try go_wp2)
        go_ret
        exact ⟨by first | rfl | (simp; done) | (simp [*]; done),by repeat (first | exact Drawn0.refl _ | apply Drawn0.step)⟩

end Go.Proofs.Ytmphplpfgjcpiaa.PCargo
