/- Lean functions with the answers of the Go functions that a law uses,and for each that the Go code comes to just that; written by a program of this session's. -/
import Derived.Test.YtmphplpfgjcpiaaPCargox0
import Derived.Test.YtmphplpfgjcpiaaPCargoxF45
import Derived.Test.YtmphplpfgjcpiaaPCargoxF53
import Derived.Test.YtmphplpfgjcpiaaPCargoxF54
import Derived.Test.YtmphplpfgjcpiaaPCargoxF55
namespace Go.Proofs.Ytmphplpfgjcpiaa.PCargo
open Go.RowKit Go.Proofs.YtmphplpfgjcpiaaW.PrintWords Go.Proofs.YtmphplpfgjcpiaaW.PrintLast Go.Proofs.YtmphplpfgjcpiaaW.PrintMore
attribute [local go_sem] max2_int min2_int max_two min_two max_three min_three max_four min_four   -- for this text's walks alone
set_option linter.unusedVariables false
set_option linter.unusedSimpArgs false

/-! ### cargo_Transfer: function 29 -/
def cargo_Transfer.l0 : Nat → List (S23) → Int → Int → Int → List (S44) → Int → Int → Option ((List (S44)) × Int × Int)
 | 0,_,_,_,_,_,_,_ => none
 | k + 1,x0,x2,x3,x13,x25,x27,x28 => if x28 < x27 then (if 0 ≤ x28 then (if x28 < (x25.length : Int) then (if 0 ≤ ((rd_T44 x25 x28).f0) then (if ((rd_T44 x25 x28).f0) < (x0.length : Int) then ((cargo_steps.f x2 ((rd_T44 x25 x28).f2) x3).bind fun t108 => ((cargo_paid.f ((rd_T23 x0 ((rd_T44 x25 x28).f0)).f0) ((rd_T23 x0 ((rd_T44 x25 x28).f0)).f1) ((rd_T23 x0 ((rd_T44 x25 x28).f0)).f2) ((rd_T23 x0 ((rd_T44 x25 x28).f0)).f3) ((rd_T44 x25 x28).f4) t108 ((rd_T44 x25 x28).f3)).bind fun t109 => ((some (x25.set (x28 : Int).toNat (⟨(rd_T44 x25 x28).f0,(rd_T44 x25 x28).f1,(rd_T44 x25 x28).f2,(rd_T44 x25 x28).f3,(rd_T44 x25 x28).f4,mx ((rd_T44 x25 x28).f5) t109⟩ : S44) : List (S44))).bind fun y110 => (if (wrap64 (x13 + (wrap64 (((rd_T44 y110 x28).f5) - ((rd_T44 x25 x28).f5))))) > 1000000000000 then (some (([] : List (S44)),0,10)) else (cargo_Transfer.l0 k x0 x2 x3 (wrap64 (x13 + (wrap64 (((rd_T44 y110 x28).f5) - ((rd_T44 x25 x28).f5))))) y110 x27 (wrap64 (x28 + 1))))))) else (none)) else (none)) else (none)) else (none)) else (some (x25,x13,0))
def cargo_Transfer.f (k : Nat) (l0 : List (S23)) (l1 : List (S44)) (a2 : Int) (a3 : Int) : Option ((List (S44)) × Int × Int):=(cargo_check.f k l0 l1 a2 a3).bind fun t101 => (if t101 = 0 then ((api_Parcel_55.f l1).bind fun t102 => (cargo_Transfer.l0 k l0 a2 a3 0 t102 (t102.length : Int) 0)) else (some (([] : List (S44)),0,t101)))
theorem cargo_Transfer.mono_l : ∀ k,(∀ y0 y1 y2 y3 y4 y5 y6,LeO (cargo_Transfer.l0 k y0 y1 y2 y3 y4 y5 y6) (cargo_Transfer.l0 (k + 1) y0 y1 y2 y3 y4 y5 y6))
 | 0 => fun _ _ _ _ _ _ _ r h => by simp [cargo_Transfer.l0] at h
 | k + 1 => by
  have ih0:=cargo_Transfer.mono_l k
  ·intro y0 y1 y2 y3 y4 y5 y6
   unfold cargo_Transfer.l0
   repeat' first
   | (with_reducible exact ih0 _ _ _ _ _ _ _)
   | (with_reducible exact cargo_check.mono _ _ _ _ _)
   | (with_reducible exact LeO.refl _)
   | (with_reducible exact LeO.none _)
   | (with_reducible refine LeO.ite ?_ ?_)
   | (with_reducible refine LeO.bind ?_ (fun _ => ?_))
   | exact ih0 _ _ _ _ _ _ _
   | exact cargo_check.mono _ _ _ _ _
   | exact LeO.none _
   | refine LeO.ite ?_ ?_
   | refine LeO.bind ?_ (fun _ => ?_)
theorem cargo_Transfer.mono : ∀ a0 a1 a2 a3 k,LeO (cargo_Transfer.f k a0 a1 a2 a3) (cargo_Transfer.f (k + 1) a0 a1 a2 a3):=by
 intro a0 a1 a2 a3 k
 have ih0:=cargo_Transfer.mono_l k
 unfold cargo_Transfer.f
 repeat' first
   | (with_reducible exact ih0 _ _ _ _ _ _ _)
   | (with_reducible exact cargo_check.mono _ _ _ _ _)
   | (with_reducible exact LeO.refl _)
   | (with_reducible exact LeO.none _)
   | (with_reducible refine LeO.ite ?_ ?_)
   | (with_reducible refine LeO.bind ?_ (fun _ => ?_))
   | exact ih0 _ _ _ _ _ _ _
   | exact cargo_check.mono _ _ _ _ _
   | exact LeO.none _
   | refine LeO.ite ?_ ?_
   | refine LeO.bind ?_ (fun _ => ?_)
def cargo_Transfer.T9 : Bool × List (List Nat × List Nat):=(true,[([],[]),([],[]),([],[]),([2],[2]),([],[]),([],[]),([5],[5]),([4,6],[4,6]),([7],[7]),([],[]),([9],[9]),([],[]),([],[]),([12],[12]),([],[]),([11,13,14],[11,13,14]),([],[]),([16],[16]),([8,10,15,17,15],[8,10,15,17]),([3,18],[3,18]),([0,1,0,1,2,3,4,5,6,7,8,9,10,11,12,13,14,15,16,17,18,19],[0,1]),([20,0,1,2,3,4,5,6,7,8,9,10,11,12,13,14,15,16,17,18,19],[20]),([21,19,18,0,1,2,3,4,5,6,7,8,9,10,11,12,13,14,15,16,17,18,19],[19,21])])
def cargo_Transfer.B9 : List Nat:=[0,0,0,4,0,0,32,112,240,0,512,0,0,4096,0,30720,0,65536,262128,524284,1048575,2097151,4194303]
theorem cargo_Transfer.tab9 : rtab .any (opsOf Try.f29 9) = cargo_Transfer.T9:=by kernel_rfl
theorem cargo_Transfer.bits9 : waitsOk cargo_Transfer.T9.2 cargo_Transfer.B9 = true:=by kernel_rfl
def cargo_Transfer.T10 : Bool × List (List Nat × List Nat):=(true,[([],[]),([],[]),([],[]),([1,2],[1,2]),([3],[3]),([4],[4]),([],[]),([6],[6]),([5,7],[5,7]),([0,8],[0,8]),([9,0,1,2,3,4,5,6,7,8,9],[0,9])])
def cargo_Transfer.B10 : List Nat:=[0,0,0,6,14,30,0,64,254,511,1023]
theorem cargo_Transfer.tab10 : rtab .any (opsOf Try.f29 10) = cargo_Transfer.T10:=by kernel_rfl
theorem cargo_Transfer.bits10 : waitsOk cargo_Transfer.T10.2 cargo_Transfer.B10 = true:=by kernel_rfl
set_option maxHeartbeats 8000000 in
set_option maxRecDepth 100000 in
theorem cargo_Transfer.calls (k : Nat) (A0 : Option Addr) (c0 : Nat) (l0 : List (S23)) (A1 : Option Addr) (c1 : Nat) (l1 : List (S44)) (a2 : Int) (a3 : Int) (r1 : List (S44)) (r2 : Int) (r3 : Int) (w : World) (hr0 : Kd.C k23 w A0 l0.length l0) (hc0 : l0.length ≤ c0) (hr1 : Kd.C k44 w A1 l1.length l1) (hc1 : l1.length ≤ c1) (h : cargo_Transfer.f k l0 l1 a2 a3 = some (r1,r2,r3)) :
  Calls Try.prog 29 #[.slice A0 l0.length c0,.slice A1 l1.length c1,.int .i64 a2,.int .i64 a3] w fun e w' => ∃ v0_ : Value,e = .returned (.tuple #[v0_,.int .i64 r2,.int .i64 r3]) ∧ Kd.R k44 44 w' w.heap.size (fun _ => True) v0_ r1 ∧ Below w.heap.size w w':=by
 have hu44:=Try.underlying44
 have hu23:=Try.underlying23
 have HR0:=Aside0.mk hr0
 have HC0:=Aside0.mk hc0
 clear hr0 hc0
 have HR1:=Aside0.mk hr1
 have HC1:=Aside0.mk hc1
 clear hr1 hc1
 have HB:=Aside0.mk (Below.refl w.heap.size w)
 have H : ((cargo_check.f k l0 l1 a2 a3).bind fun t101 => (if t101 = 0 then ((api_Parcel_55.f l1).bind fun t102 => (cargo_Transfer.l0 k l0 a2 a3 0 t102 (t102.length : Int) 0)) else (some (([] : List (S44)),0,t101)))) = some (r1,r2,r3):=h
 clear h
 replace H:=Option.bind_eq_some_iff.mp H
 obtain ⟨t101,A50,H⟩:=H
 replace H : (if t101 = 0 then ((api_Parcel_55.f l1).bind fun t102 => (cargo_Transfer.l0 k l0 a2 a3 0 t102 (t102.length : Int) 0)) else (some (([] : List (S44)),0,t101))) = some (r1,r2,r3):=H
 have A5:=Aside0.mk A50
 clear A50
 by_cases c6 : t101 = 0
 ·rw [if_pos c6] at H
  have c6b0 : (t101 == 0) = true:=beq_iff_eq.mpr c6
  have c6b1 : (t101 != 0) = false:=bne_eq_false_iff_eq.mpr c6
  clear c6
  replace H:=Option.bind_eq_some_iff.mp H
  obtain ⟨t102,A70,H⟩:=H
  replace H : (cargo_Transfer.l0 k l0 a2 a3 0 t102 (t102.length : Int) 0) = some (r1,r2,r3):=H
  have A7:=Aside0.mk A70
  clear A70
  have H':=Aside0.mk H
  clear H
  go_enter Try.func29,Try.ntmps29
  go_wp2_with (first | ((with_reducible refine gate_callee (f:=53) rfl ?_); refine goesL_ (some 20) rfl rfl Try.func53 (by kernel_rfl) rfl #[.slice A0 l0.length c0,.slice A1 l1.length c1,.int .i64 a2,.int .i64 a3] rfl (by (try simp only [List.map_toArray,List.map_cons,List.map_nil]); first | done | rfl | (simp only [List.length_drop,List.length_take]; rfl)) ?_; (with_reducible refine (cargo_check.calls k _ _ l0 _ _ l1 a2 a3 t101 _ ?side1 ?side2 ?side3 ?side4 A5.out).mono ?_); (case side1 => repeat (first | exact HR0.out | (with_reducible refine Kd.C_alloc ?_ _) | (with_reducible refine Kd.C_drewN ?_ _) | (with_reducible refine Kd.C_drew ?_))); (case side2 => exact HC0.out); (case side3 => repeat (first | exact HR1.out | (with_reducible refine Kd.C_alloc ?_ _) | (with_reducible refine Kd.C_drewN ?_ _) | (with_reducible refine Kd.C_drew ?_))); (case side4 => exact HC1.out); rintro e w8 ⟨rfl,hb⟩; refine ⟨_,rfl,?_⟩; have n0_:=Aside0.mk (below_step (by repeat (first | (with_reducible first | exact HB.out | apply below_alloc | apply pw_below_drewN | apply below_drew1) | exact HB.out)) hb); clear HB; have HB:=n0_; clear n0_; (try clear hb); (try clear hb2); (try clear hk); (try clear hi)) | ((with_reducible refine gate_callee (f:=55) rfl ?_); refine goesL_ (some 25) rfl rfl Try.func55 (by kernel_rfl) rfl #[.slice A1 l1.length c1] rfl (by (try simp only [List.map_toArray,List.map_cons,List.map_nil]); first | done | rfl | (simp only [List.length_drop,List.length_take]; rfl)) ?_; (with_reducible refine (api_Parcel_55.calls _ _ l1 t102 _ ?side1 ?side2 A7.out).mono ?_); (case side1 => repeat (first | exact (Kd.C_below HR1.out HB.out) | (with_reducible refine Kd.C_alloc ?_ _) | (with_reducible refine Kd.C_drewN ?_ _) | (with_reducible refine Kd.C_drew ?_))); (case side2 => exact HC1.out); rintro e w9 ⟨v103,rfl,ho0,hb⟩; refine ⟨_,rfl,?_⟩; have n0_:=Aside0.mk (Kd.R_lower ho0 (below_size (by repeat (first | (with_reducible first | exact HB.out | apply below_alloc | apply pw_below_drewN | apply below_drew1) | exact HB.out)))); have n1_:=Aside0.mk (below_step (by repeat (first | (with_reducible first | exact HB.out | apply below_alloc | apply pw_below_drewN | apply below_drew1) | exact HB.out)) hb); clear HB; have HO104:=n0_; have HB:=n1_; clear n0_ n1_; (try clear hb); (try clear hb2); (try clear hk); (try clear hi); (try clear ho0); obtain ⟨Ao10,co10,eo10⟩:=Kd.R_slice HO104.out; subst eo10))
  go_loopg [13,28] k (fun kq v13 v28 w' => ∃ (x13_1 : Int) (x25_1 : List (S44)) (x28_1 : Int),v13 = .int .i64 x13_1 ∧ v28 = .int .i64 x28_1 ∧ Aside0 (cargo_Transfer.l0 kq l0 a2 a3 x13_1 x25_1 (t102.length : Int) x28_1 = some (r1,r2,r3)) ∧ Aside0 (kq ≤ k) ∧ Aside0 (Kd.R k44 44 w' w.heap.size (fun _ => True) (.slice Ao10 t102.length co10) x25_1) ∧ Aside0 (Below w.heap.size w w'))
  case atStart => exact ⟨(0),(t102),(0),(by first | rfl | (simp; done) | (simp [*]; done)),(by first | rfl | (simp; done) | (simp [*]; done)),H',⟨Nat.le_refl _⟩,⟨by (with_reducible repeat (first | apply Kd.R_alloc | apply Kd.R_drewN | apply Kd.R_drew)); exact HO104.out⟩,⟨by repeat (first | (with_reducible first | exact HB.out | apply below_alloc | apply pw_below_drewN | apply below_drew1) | exact HB.out)⟩⟩
  case round =>
   clear H'
   try clear c1
   try clear c2
   try clear p2
   try clear c5
   try clear c6
   try clear c6b0
   try clear c6b1
   obtain ⟨x13_1,x25_1,x28_1,rfl,rfl,HA,HK1,HO_25,HB⟩:=hrel
   have hl25_1:=(Kd.R_reads' HO_25.out).1
   rw [hl25_1] at HO_25
   (try simp only [hl25_1])
   cases gk with
   | zero => exact absurd HA.out (by simp [cargo_Transfer.l0])
   | succ k1 =>
    have H:=HA.out
    clear HA
    simp only [cargo_Transfer.l0] at H
    by_cases c11 : x28_1 < (t102.length : Int)
    ·rw [if_pos c11] at H
     have c11b0 : decide (x28_1 < (t102.length : Int)) = true:=decide_eq_true c11
     clear c11
     by_cases c12 : 0 ≤ x28_1
     ·rw [if_pos c12] at H
      have c12b0 : decide (0 ≤ x28_1) = true:=decide_eq_true c12
      clear c12
      by_cases c13 : x28_1 < (x25_1.length : Int)
      ·rw [if_pos c13] at H
       have c13b0 : decide (x28_1 < (x25_1.length : Int)) = true:=decide_eq_true c13
       clear c13
       by_cases c14 : 0 ≤ ((rd_T44 x25_1 x28_1).f0)
       ·rw [if_pos c14] at H
        have c14b0 : decide (0 ≤ ((rd_T44 x25_1 x28_1).f0)) = true:=decide_eq_true c14
        clear c14
        by_cases c15 : ((rd_T44 x25_1 x28_1).f0) < (l0.length : Int)
        ·rw [if_pos c15] at H
         have c15b0 : decide (((rd_T44 x25_1 x28_1).f0) < (l0.length : Int)) = true:=decide_eq_true c15
         clear c15
         replace H:=Option.bind_eq_some_iff.mp H
         obtain ⟨t108,A160,H⟩:=H
         replace H : ((cargo_paid.f ((rd_T23 l0 ((rd_T44 x25_1 x28_1).f0)).f0) ((rd_T23 l0 ((rd_T44 x25_1 x28_1).f0)).f1) ((rd_T23 l0 ((rd_T44 x25_1 x28_1).f0)).f2) ((rd_T23 l0 ((rd_T44 x25_1 x28_1).f0)).f3) ((rd_T44 x25_1 x28_1).f4) t108 ((rd_T44 x25_1 x28_1).f3)).bind fun t109 => ((some (x25_1.set (x28_1 : Int).toNat (⟨(rd_T44 x25_1 x28_1).f0,(rd_T44 x25_1 x28_1).f1,(rd_T44 x25_1 x28_1).f2,(rd_T44 x25_1 x28_1).f3,(rd_T44 x25_1 x28_1).f4,mx ((rd_T44 x25_1 x28_1).f5) t109⟩ : S44) : List (S44))).bind fun y110 => (if (wrap64 (x13_1 + (wrap64 (((rd_T44 y110 x28_1).f5) - ((rd_T44 x25_1 x28_1).f5))))) > 1000000000000 then (some (([] : List (S44)),0,10)) else (cargo_Transfer.l0 k1 l0 a2 a3 (wrap64 (x13_1 + (wrap64 (((rd_T44 y110 x28_1).f5) - ((rd_T44 x25_1 x28_1).f5))))) y110 (t102.length : Int) (wrap64 (x28_1 + 1)))))) = some (r1,r2,r3):=H
         have A16:=Aside0.mk A160
         clear A160
         replace H:=Option.bind_eq_some_iff.mp H
         obtain ⟨t109,A170,H⟩:=H
         replace H : ((some (x25_1.set (x28_1 : Int).toNat (⟨(rd_T44 x25_1 x28_1).f0,(rd_T44 x25_1 x28_1).f1,(rd_T44 x25_1 x28_1).f2,(rd_T44 x25_1 x28_1).f3,(rd_T44 x25_1 x28_1).f4,mx ((rd_T44 x25_1 x28_1).f5) t109⟩ : S44) : List (S44))).bind fun y110 => (if (wrap64 (x13_1 + (wrap64 (((rd_T44 y110 x28_1).f5) - ((rd_T44 x25_1 x28_1).f5))))) > 1000000000000 then (some (([] : List (S44)),0,10)) else (cargo_Transfer.l0 k1 l0 a2 a3 (wrap64 (x13_1 + (wrap64 (((rd_T44 y110 x28_1).f5) - ((rd_T44 x25_1 x28_1).f5))))) y110 (t102.length : Int) (wrap64 (x28_1 + 1))))) = some (r1,r2,r3):=H
         have A17:=Aside0.mk A170
         clear A170
         obtain ⟨ji18,hji18⟩ : ∃ j_ : Int,(mx ((rd_T44 x25_1 x28_1).f5) t109) = j_:=⟨_,rfl⟩
         replace H : ((some (x25_1.set (x28_1 : Int).toNat (⟨(rd_T44 x25_1 x28_1).f0,(rd_T44 x25_1 x28_1).f1,(rd_T44 x25_1 x28_1).f2,(rd_T44 x25_1 x28_1).f3,(rd_T44 x25_1 x28_1).f4,ji18⟩ : S44) : List (S44))).bind fun y110 => (if (wrap64 (x13_1 + (wrap64 (((rd_T44 y110 x28_1).f5) - ((rd_T44 x25_1 x28_1).f5))))) > 1000000000000 then (some (([] : List (S44)),0,10)) else (cargo_Transfer.l0 k1 l0 a2 a3 (wrap64 (x13_1 + (wrap64 (((rd_T44 y110 x28_1).f5) - ((rd_T44 x25_1 x28_1).f5))))) y110 (t102.length : Int) (wrap64 (x28_1 + 1))))) = some (r1,r2,r3):=by first | (rw [hji18] at H; exact H) | (simp only [hji18] at H ⊢; exact H)
         (try rw [hji18] at A16)
         (try rw [hji18] at A17)
         have hji18_ : (if ((rd_T44 x25_1 x28_1).f5) < t109 then t109 else ((rd_T44 x25_1 x28_1).f5)) = ji18:=hji18
         obtain ⟨y110,hy110⟩ : ∃ y_ : List (S44),y_ = (x25_1.set (x28_1 : Int).toNat (⟨(rd_T44 x25_1 x28_1).f0,(rd_T44 x25_1 x28_1).f1,(rd_T44 x25_1 x28_1).f2,(rd_T44 x25_1 x28_1).f3,(rd_T44 x25_1 x28_1).f4,ji18⟩ : S44)):=⟨_,rfl⟩
         replace H : (if (wrap64 (x13_1 + (wrap64 (((rd_T44 y110 x28_1).f5) - ((rd_T44 x25_1 x28_1).f5))))) > 1000000000000 then (some (([] : List (S44)),0,10)) else (cargo_Transfer.l0 k1 l0 a2 a3 (wrap64 (x13_1 + (wrap64 (((rd_T44 y110 x28_1).f5) - ((rd_T44 x25_1 x28_1).f5))))) y110 (t102.length : Int) (wrap64 (x28_1 + 1)))) = some (r1,r2,r3):=by first | (rw [hy110]; with_reducible exact H) | (have H2_:=(Option.bind_some _ _).symm.trans H; rw [hy110]; with_reducible exact H2_) | (have H2_:=(Option.bind_some _ _).symm.trans H; with_reducible exact H2_) | with_reducible exact H | (rw [hy110]; exact H) | exact H
         have Ny110:=Aside0.mk hy110
         clear hy110
         by_cases c20 : (wrap64 (x13_1 + (wrap64 (((rd_T44 y110 x28_1).f5) - ((rd_T44 x25_1 x28_1).f5))))) > 1000000000000
         ·rw [if_pos c20] at H
          have c20b0 : decide (1000000000000 < (wrap64 (x13_1 + (wrap64 (((rd_T44 y110 x28_1).f5) - ((rd_T44 x25_1 x28_1).f5)))))) = true:=decide_eq_true c20
          clear c20
          simp only [Option.some.injEq,Prod.mk.injEq] at H
          obtain ⟨rfl,rfl,rfl⟩:=H
          have p105 : 0 ≤ (x28_1 : Int):=of_decide_eq_true (by first | (with_reducible assumption) | assumption)
          have q105 : x28_1 < (x25_1.length : Int):=of_decide_eq_true (by first | (with_reducible assumption) | assumption)
          obtain ⟨ad105,e105,hx105_0,hx105_1,hx105_2,hx105_3,hx105_4,hx105_5⟩:=at_T44 (Kd.R_reads' HO_25.out).2.2 x28_1 p105 q105
          cases e105
          replace p105:=eq_true p105
          replace q105:=eq_true q105
          try go_wp2_with (first | ((with_reducible refine gate_dst (N:=15) rfl ?_); refine box_event ?hg (N:=15) ?hd (cs:=#[.int .i64 0,.int .i64 0,.int .i64 0,.int .i64 0,.int .i64 0,.int .i64 0]) (t:=44) ?hr ?_; (case hd => rfl); (case hg => rfl); (case hr => first | (go_simp; done) | (go_simp; rfl)); intro gb106 hg w21 hbox hb; have n0_:=Aside0.mk (Kd.R_below (Kd.R_elderB (by (with_reducible repeat (first | apply Kd.R_alloc | apply Kd.R_drewN | apply Kd.R_drew)); exact HO_25.out) gb106 (Nat.le_of_eq hg.symm)) hb); have n1_:=Aside0.mk (below_step (by repeat (first | (with_reducible first | exact HB.out | apply below_alloc | apply pw_below_drewN | apply below_drew1) | exact HB.out)) hb); have n2_:=Aside0.mk (hbox); have n3_:=Aside0.mk ((by rw [hg]; exact (below_size (by repeat (first | (with_reducible first | exact HB.out | apply below_alloc | apply pw_below_drewN | apply below_drew1) | exact HB.out))) : w.heap.size ≤ gb106)); have n4_:=Aside0.mk ((by rw [hg]; exact (below_size (by repeat (first | (with_reducible first | exact HB.out | apply below_alloc | apply pw_below_drewN | apply below_drew1) | exact HB.out))) : w.heap.size ≤ gb106)); clear HO_25; clear HB; have HO_25:=n0_; have HB:=n1_; have BK106:=n2_; have GW106:=n3_; have GE106:=n4_; clear n0_ n1_ n2_ n3_ n4_; clear hb hbox hg; have hcz22_0 : w21.cell? ⟨gb106,0,none⟩ = some (.int .i64 0):=(blk_cell BK106.out 0).trans rfl; have hcz22_1 : w21.cell? ⟨gb106,1,none⟩ = some (.int .i64 0):=(blk_cell BK106.out 1).trans rfl; have hcz22_2 : w21.cell? ⟨gb106,2,none⟩ = some (.int .i64 0):=(blk_cell BK106.out 2).trans rfl; have hcz22_3 : w21.cell? ⟨gb106,3,none⟩ = some (.int .i64 0):=(blk_cell BK106.out 3).trans rfl; have hcz22_4 : w21.cell? ⟨gb106,4,none⟩ = some (.int .i64 0):=(blk_cell BK106.out 4).trans rfl; have hcz22_5 : w21.cell? ⟨gb106,5,none⟩ = some (.int .i64 0):=(blk_cell BK106.out 5).trans rfl; have hfz22_0:=blk_frozen BK106.out 0; have hfz22_1:=blk_frozen BK106.out 1; have hfz22_2:=blk_frozen BK106.out 2; have hfz22_3:=blk_frozen BK106.out 3; have hfz22_4:=blk_frozen BK106.out 4; have hfz22_5:=blk_frozen BK106.out 5))
          have n0_ : Aside0 (Kd.R k44 44 ((((((w21.setCell ⟨gb106,0,none⟩ (.int .i64 ((rd_T44 x25_1 x28_1).f0))).setCell ⟨gb106,1,none⟩ (.int .i64 ((rd_T44 x25_1 x28_1).f1))).setCell ⟨gb106,2,none⟩ (.int .i64 ((rd_T44 x25_1 x28_1).f2))).setCell ⟨gb106,3,none⟩ (.int .i64 ((rd_T44 x25_1 x28_1).f3))).setCell ⟨gb106,4,none⟩ (.int .i64 ((rd_T44 x25_1 x28_1).f4))).setCell ⟨gb106,5,none⟩ (.int .i64 ((rd_T44 x25_1 x28_1).f5))) w.heap.size (fun k_ => k_ ≠ gb106) (.slice (some ad105) x25_1.length co10) x25_1):=⟨by (with_reducible repeat (first | apply Kd.R_alloc | apply Kd.R_drewN | apply Kd.R_drew)); exact Kd.R_mono (Kd.R_far (p:=⟨gb106,5,none⟩) (Kd.R_far (p:=⟨gb106,4,none⟩) (Kd.R_far (p:=⟨gb106,3,none⟩) (Kd.R_far (p:=⟨gb106,2,none⟩) (Kd.R_far (p:=⟨gb106,1,none⟩) (Kd.R_far (p:=⟨gb106,0,none⟩) (Kd.R_mono HO_25.out (fun k_ hk => (⟨hk,hk.2⟩ : _ ∧ k_ ≠ gb106))) (fun _ hk => hk.2) (.int .i64 ((rd_T44 x25_1 x28_1).f0))) (fun _ hk => hk.2) (.int .i64 ((rd_T44 x25_1 x28_1).f1))) (fun _ hk => hk.2) (.int .i64 ((rd_T44 x25_1 x28_1).f2))) (fun _ hk => hk.2) (.int .i64 ((rd_T44 x25_1 x28_1).f3))) (fun _ hk => hk.2) (.int .i64 ((rd_T44 x25_1 x28_1).f4))) (fun _ hk => hk.2) (.int .i64 ((rd_T44 x25_1 x28_1).f5))) (fun _ hk => hk.1.2)⟩
          have n1_ : Aside0 (((((((w21.setCell ⟨gb106,0,none⟩ (.int .i64 ((rd_T44 x25_1 x28_1).f0))).setCell ⟨gb106,1,none⟩ (.int .i64 ((rd_T44 x25_1 x28_1).f1))).setCell ⟨gb106,2,none⟩ (.int .i64 ((rd_T44 x25_1 x28_1).f2))).setCell ⟨gb106,3,none⟩ (.int .i64 ((rd_T44 x25_1 x28_1).f3))).setCell ⟨gb106,4,none⟩ (.int .i64 ((rd_T44 x25_1 x28_1).f4))).setCell ⟨gb106,5,none⟩ (.int .i64 ((rd_T44 x25_1 x28_1).f5))).heap[gb106]? = some (.cells #[.int .i64 ((rd_T44 x25_1 x28_1).f0),.int .i64 ((rd_T44 x25_1 x28_1).f1),.int .i64 ((rd_T44 x25_1 x28_1).f2),.int .i64 ((rd_T44 x25_1 x28_1).f3),.int .i64 ((rd_T44 x25_1 x28_1).f4),.int .i64 ((rd_T44 x25_1 x28_1).f5)] 44 (0,0))):=⟨by (with_reducible repeat (first | refine blk_drewN ?_ _ | refine blk_drew ?_ | refine blk_alloc ?_ _)); refine blk_put (cs:=#[.int .i64 ((rd_T44 x25_1 x28_1).f0),.int .i64 ((rd_T44 x25_1 x28_1).f1),.int .i64 ((rd_T44 x25_1 x28_1).f2),.int .i64 ((rd_T44 x25_1 x28_1).f3),.int .i64 ((rd_T44 x25_1 x28_1).f4),.int .i64 0]) ?_ 5 _ rfl; (with_reducible repeat (first | refine blk_drewN ?_ _ | refine blk_drew ?_ | refine blk_alloc ?_ _)); refine blk_put (cs:=#[.int .i64 ((rd_T44 x25_1 x28_1).f0),.int .i64 ((rd_T44 x25_1 x28_1).f1),.int .i64 ((rd_T44 x25_1 x28_1).f2),.int .i64 ((rd_T44 x25_1 x28_1).f3),.int .i64 0,.int .i64 0]) ?_ 4 _ rfl; (with_reducible repeat (first | refine blk_drewN ?_ _ | refine blk_drew ?_ | refine blk_alloc ?_ _)); refine blk_put (cs:=#[.int .i64 ((rd_T44 x25_1 x28_1).f0),.int .i64 ((rd_T44 x25_1 x28_1).f1),.int .i64 ((rd_T44 x25_1 x28_1).f2),.int .i64 0,.int .i64 0,.int .i64 0]) ?_ 3 _ rfl; (with_reducible repeat (first | refine blk_drewN ?_ _ | refine blk_drew ?_ | refine blk_alloc ?_ _)); refine blk_put (cs:=#[.int .i64 ((rd_T44 x25_1 x28_1).f0),.int .i64 ((rd_T44 x25_1 x28_1).f1),.int .i64 0,.int .i64 0,.int .i64 0,.int .i64 0]) ?_ 2 _ rfl; (with_reducible repeat (first | refine blk_drewN ?_ _ | refine blk_drew ?_ | refine blk_alloc ?_ _)); refine blk_put (cs:=#[.int .i64 ((rd_T44 x25_1 x28_1).f0),.int .i64 0,.int .i64 0,.int .i64 0,.int .i64 0,.int .i64 0]) ?_ 1 _ rfl; (with_reducible repeat (first | refine blk_drewN ?_ _ | refine blk_drew ?_ | refine blk_alloc ?_ _)); refine blk_put (cs:=#[.int .i64 0,.int .i64 0,.int .i64 0,.int .i64 0,.int .i64 0,.int .i64 0]) ?_ 0 _ rfl; (with_reducible repeat (first | refine blk_drewN ?_ _ | refine blk_drew ?_ | refine blk_alloc ?_ _)); exact BK106.out⟩
          have n2_ : Aside0 (Below w.heap.size w ((((((w21.setCell ⟨gb106,0,none⟩ (.int .i64 ((rd_T44 x25_1 x28_1).f0))).setCell ⟨gb106,1,none⟩ (.int .i64 ((rd_T44 x25_1 x28_1).f1))).setCell ⟨gb106,2,none⟩ (.int .i64 ((rd_T44 x25_1 x28_1).f2))).setCell ⟨gb106,3,none⟩ (.int .i64 ((rd_T44 x25_1 x28_1).f3))).setCell ⟨gb106,4,none⟩ (.int .i64 ((rd_T44 x25_1 x28_1).f4))).setCell ⟨gb106,5,none⟩ (.int .i64 ((rd_T44 x25_1 x28_1).f5)))):=⟨by repeat (first | (with_reducible first | exact HB.out | apply below_alloc | apply pw_below_drewN | apply below_drew1 | refine below_set ?_ GE106.out) | exact HB.out)⟩
          (try clear HO_25)
          (try clear BK106)
          (try clear HB)
          generalize ((((((w21.setCell ⟨gb106,0,none⟩ (.int .i64 ((rd_T44 x25_1 x28_1).f0))).setCell ⟨gb106,1,none⟩ (.int .i64 ((rd_T44 x25_1 x28_1).f1))).setCell ⟨gb106,2,none⟩ (.int .i64 ((rd_T44 x25_1 x28_1).f2))).setCell ⟨gb106,3,none⟩ (.int .i64 ((rd_T44 x25_1 x28_1).f3))).setCell ⟨gb106,4,none⟩ (.int .i64 ((rd_T44 x25_1 x28_1).f4))).setCell ⟨gb106,5,none⟩ (.int .i64 ((rd_T44 x25_1 x28_1).f5))) = w23 at n0_ n1_ n2_ ⊢
          have HO_25:=n0_
          have BK106:=n1_
          have HB:=n2_
          clear n0_ n1_ n2_
          have n0_:=Aside0.mk (Kd.R_drew HO_25.out)
          have n1_:=Aside0.mk (blk_drew BK106.out)
          have n2_:=Aside0.mk (below_drew1 HB.out)
          clear HO_25
          clear BK106
          clear HB
          have HO_25:=n0_
          have BK106:=n1_
          have HB:=n2_
          clear n0_ n1_ n2_
          have p107 : 0 ≤ (((rd_T44 x25_1 x28_1).f0) : Int):=of_decide_eq_true (by first | (with_reducible assumption) | assumption)
          have q107 : ((rd_T44 x25_1 x28_1).f0) < (l0.length : Int):=of_decide_eq_true (by first | (with_reducible assumption) | assumption)
          obtain ⟨ad107,e107,hx107_0,hx107_1,hx107_2,hx107_3⟩:=at_T23 HR0.out ((rd_T44 x25_1 x28_1).f0) p107 q107
          have hw107_3:=hx107_3
          have hw107_2:=hx107_2
          have hw107_1:=hx107_1
          have hw107_0:=hx107_0
          cases e107
          replace hx107_0:=(HB.out.cell (World.block_lt_of_cell? w _ hx107_0)).trans hx107_0
          replace hx107_1:=(HB.out.cell (World.block_lt_of_cell? w _ hx107_1)).trans hx107_1
          replace hx107_2:=(HB.out.cell (World.block_lt_of_cell? w _ hx107_2)).trans hx107_2
          replace hx107_3:=(HB.out.cell (World.block_lt_of_cell? w _ hx107_3)).trans hx107_3
          replace p107:=eq_true p107
          replace q107:=eq_true q107
          refine start_ (n:=23) (S:=fun w' => w'.cell? ⟨gb106,0,none⟩ = some (.int .i64 ((rd_T44 x25_1 x28_1).f0)) ∧ w'.cell? ⟨gb106,1,none⟩ = some (.int .i64 ((rd_T44 x25_1 x28_1).f1)) ∧ w'.cell? ⟨gb106,2,none⟩ = some (.int .i64 ((rd_T44 x25_1 x28_1).f2)) ∧ w'.cell? ⟨gb106,3,none⟩ = some (.int .i64 ((rd_T44 x25_1 x28_1).f3)) ∧ w'.cell? ⟨gb106,4,none⟩ = some (.int .i64 ((rd_T44 x25_1 x28_1).f4)) ∧ w'.cell? ⟨gb106,5,none⟩ = some (.int .i64 ((rd_T44 x25_1 x28_1).f5)) ∧ w'.cell? (ad107.add ((((rd_T44 x25_1 x28_1).f0)).toNat * 4)) = some (.string ((rd_T23 l0 ((rd_T44 x25_1 x28_1).f0)).f0)) ∧ w'.cell? ⟨(ad107.add ((((rd_T44 x25_1 x28_1).f0)).toNat * 4)).block,(ad107.add ((((rd_T44 x25_1 x28_1).f0)).toNat * 4)).off + 1,none⟩ = some (.int .i64 ((rd_T23 l0 ((rd_T44 x25_1 x28_1).f0)).f1)) ∧ w'.cell? ⟨(ad107.add ((((rd_T44 x25_1 x28_1).f0)).toNat * 4)).block,(ad107.add ((((rd_T44 x25_1 x28_1).f0)).toNat * 4)).off + 2,none⟩ = some (.int .i64 ((rd_T23 l0 ((rd_T44 x25_1 x28_1).f0)).f2)) ∧ w'.cell? ⟨(ad107.add ((((rd_T44 x25_1 x28_1).f0)).toNat * 4)).block,(ad107.add ((((rd_T44 x25_1 x28_1).f0)).toNat * 4)).off + 3,none⟩ = some (.int .i64 ((rd_T23 l0 ((rd_T44 x25_1 x28_1).f0)).f3))) (ds:=[22]) (bm 23 0) (by kernel_rfl) rfl (by kernel_rfl) ⟨(blk_cell BK106.out 0).trans rfl,(blk_cell BK106.out 1).trans rfl,(blk_cell BK106.out 2).trans rfl,(blk_cell BK106.out 3).trans rfl,(blk_cell BK106.out 4).trans rfl,(blk_cell BK106.out 5).trans rfl,((HB.out.cell (World.block_lt_of_cell? w _ hw107_0)).trans hw107_0),((HB.out.cell (World.block_lt_of_cell? w _ hw107_1)).trans hw107_1),((HB.out.cell (World.block_lt_of_cell? w _ hw107_2)).trans hw107_2),((HB.out.cell (World.block_lt_of_cell? w _ hw107_3)).trans hw107_3)⟩ (fun hHeld => ?_); refine with_tabW cargo_Transfer.tab9 cargo_Transfer.bits9 (fun HT_ HW_ => ?_)
          generalize w23.drew = w24 at HO_25 BK106 HB hx107_0 hx107_1 hx107_2 hx107_3 hHeld ⊢
          refine pv 0 (some 33) (bm 23 1) HT_ ?_
          refine pv 1 (some 34) (bm 23 3) HT_ ?_
          refine pv 2 (some 35) (bm 23 7) HT_ ?_
          refine pv 4 (some 37) (bm 23 23) HT_ ?_
          refine pv 5 (some 38) (bm 23 55) HT_ ?_
          refine pv 9 (some 42) (bm 23 567) HT_ ?_
          refine pv 11 (some 44) (bm 23 2615) HT_ ?_
          refine pv 12 (some 45) (bm 23 6711) HT_ ?_
          refine pv 14 (some 47) (bm 23 23095) HT_ ?_
          refine pv 16 (some 49) (bm 23 88631) HT_ ?_
          refine tk 3 (some 36) (bm 23 88639) HT_ HW_ hHeld ?_
          refine tk 6 (some 39) (bm 23 88703) HT_ HW_ hHeld ?_
          refine pv 7 (some 40) (bm 23 88831) HT_ ?_
          refine tk 8 (some 41) (bm 23 89087) HT_ HW_ hHeld ?_
          refine tk 10 (some 43) (bm 23 90111) HT_ HW_ hHeld ?_
          refine tk 13 (some 46) (bm 23 98303) HT_ HW_ hHeld ?_
          refine tk 17 (some 50) (bm 23 229375) HT_ HW_ hHeld ?_
          refine ck 15 (some 48) (bm 23 262143) HT_ (fun K hK => ?_)
          refine gs Try.func54 #[.int .i64 a2,.int .i64 ((rd_T44 x25_1 x28_1).f2),.int .i64 a3] ?_
          with_reducible refine (cargo_steps.calls a2 ((rd_T44 x25_1 x28_1).f2) a3 t108 _ A16.out).mono ?_
          rintro e w25 ⟨rfl,hb⟩
          refine ⟨_,rfl,?_⟩
          have n0_:=Aside0.mk (Kd.R_below (by (with_reducible repeat (first | apply Kd.R_alloc | apply Kd.R_drewN | apply Kd.R_drew)); exact HO_25.out) hb)
          have n1_:=Aside0.mk (blk_below (g:=gb106) (o:=.cells #[.int .i64 ((rd_T44 x25_1 x28_1).f0),.int .i64 ((rd_T44 x25_1 x28_1).f1),.int .i64 ((rd_T44 x25_1 x28_1).f2),.int .i64 ((rd_T44 x25_1 x28_1).f3),.int .i64 ((rd_T44 x25_1 x28_1).f4),.int .i64 ((rd_T44 x25_1 x28_1).f5)] 44 (0,0)) (by (with_reducible repeat (first | refine blk_drewN ?_ _ | refine blk_drew ?_ | refine blk_alloc ?_ _)); exact BK106.out) hb)
          have n2_:=Aside0.mk (below_step (by repeat (first | (with_reducible first | exact HB.out | apply below_alloc | apply pw_below_drewN | apply below_drew1 | refine below_set ?_ GE106.out) | exact HB.out)) hb)
          clear HO_25
          clear BK106
          clear HB
          have HO_25:=n0_
          have BK106:=n1_
          have HB:=n2_
          clear n0_ n1_ n2_
          (try clear hb)
          (try clear hb2)
          (try clear hk)
          (try clear hi)
          refine hK.out _ _ ⟨(blk_cell BK106.out 0).trans rfl,(blk_cell BK106.out 1).trans rfl,(blk_cell BK106.out 2).trans rfl,(blk_cell BK106.out 3).trans rfl,(blk_cell BK106.out 4).trans rfl,(blk_cell BK106.out 5).trans rfl,((HB.out.cell (World.block_lt_of_cell? w _ hw107_0)).trans hw107_0),((HB.out.cell (World.block_lt_of_cell? w _ hw107_1)).trans hw107_1),((HB.out.cell (World.block_lt_of_cell? w _ hw107_2)).trans hw107_2),((HB.out.cell (World.block_lt_of_cell? w _ hw107_3)).trans hw107_3)⟩ (fun hHeld => ?_)
          clear hK K
          refine nm ?_
          refine ck 18 (some 51) (bm 23 524287) HT_ (fun K hK => ?_)
          refine gs Try.func45 #[.agg #[.string ((rd_T23 l0 ((rd_T44 x25_1 x28_1).f0)).f0),.int .i64 ((rd_T23 l0 ((rd_T44 x25_1 x28_1).f0)).f1),.int .i64 ((rd_T23 l0 ((rd_T44 x25_1 x28_1).f0)).f2),.int .i64 ((rd_T23 l0 ((rd_T44 x25_1 x28_1).f0)).f3)],.int .i64 ((rd_T44 x25_1 x28_1).f4),.int .i64 t108,.int .i64 ((rd_T44 x25_1 x28_1).f3)] ?_
          with_reducible refine (cargo_paid.calls ((rd_T23 l0 ((rd_T44 x25_1 x28_1).f0)).f0) ((rd_T23 l0 ((rd_T44 x25_1 x28_1).f0)).f1) ((rd_T23 l0 ((rd_T44 x25_1 x28_1).f0)).f2) ((rd_T23 l0 ((rd_T44 x25_1 x28_1).f0)).f3) ((rd_T44 x25_1 x28_1).f4) t108 ((rd_T44 x25_1 x28_1).f3) t109 _ A17.out).mono ?_
          rintro e w26 ⟨rfl,hb⟩
          refine ⟨_,rfl,?_⟩
          have n0_:=Aside0.mk (Kd.R_below (by (with_reducible repeat (first | apply Kd.R_alloc | apply Kd.R_drewN | apply Kd.R_drew)); exact HO_25.out) hb)
          have n1_:=Aside0.mk (blk_below (g:=gb106) (o:=.cells #[.int .i64 ((rd_T44 x25_1 x28_1).f0),.int .i64 ((rd_T44 x25_1 x28_1).f1),.int .i64 ((rd_T44 x25_1 x28_1).f2),.int .i64 ((rd_T44 x25_1 x28_1).f3),.int .i64 ((rd_T44 x25_1 x28_1).f4),.int .i64 ((rd_T44 x25_1 x28_1).f5)] 44 (0,0)) (by (with_reducible repeat (first | refine blk_drewN ?_ _ | refine blk_drew ?_ | refine blk_alloc ?_ _)); exact BK106.out) hb)
          have n2_:=Aside0.mk (below_step (by repeat (first | (with_reducible first | exact HB.out | apply below_alloc | apply pw_below_drewN | apply below_drew1 | refine below_set ?_ GE106.out) | exact HB.out)) hb)
          clear HO_25
          clear BK106
          clear HB
          have HO_25:=n0_
          have BK106:=n1_
          have HB:=n2_
          clear n0_ n1_ n2_
          (try clear hb)
          (try clear hb2)
          (try clear hk)
          (try clear hi)
          have p19 : 0 ≤ (x28_1 : Int):=of_decide_eq_true (by first | (with_reducible assumption) | assumption)
          have q19 : (x28_1 : Int) < ((x25_1.length : Int) : Int):=of_decide_eq_true (by first | (with_reducible assumption) | assumption)
          obtain ⟨go19,co19,eo19,gb19,gl19,cl19,HG19⟩:=Kd.R_form HO_25.out (by omega)
          (first | cases eo19 | (injection eo19 with ea_ en_ ec_; (first | subst ea_ | (injection ea_ with ea_; subst ea_)); subst ec_; clear en_))
          have GB19:=Aside0.mk gb19
          have GG19:=Aside0.mk HG19
          clear gb19 gl19 HG19
          (first | simp only [add_plain] at hx105_0 | skip)
          (first | simp only [add_plain] at hx105_1 | skip)
          (first | simp only [add_plain] at hx105_2 | skip)
          (first | simp only [add_plain] at hx105_3 | skip)
          (first | simp only [add_plain] at hx105_4 | skip)
          (first | simp only [add_plain] at hx105_5 | skip)
          obtain ⟨ce19,hcl19,hM19,hcc19,hfr19⟩:=Kd.R_elem HO_25.out z44 (x28_1 : Int) p19 q19
          obtain rfl:=k44_openM hM19
          have hx19_0 : World.cell? _ ⟨go19,(x28_1 : Int).toNat * 6,none⟩ = some (.int .i64 ((rd_T44 x25_1 x28_1).f0)):=hcc19 0 _ rfl
          have hx19_1 : World.cell? _ ⟨go19,(x28_1 : Int).toNat * 6 + 1,none⟩ = some (.int .i64 ((rd_T44 x25_1 x28_1).f1)):=hcc19 1 _ rfl
          have hx19_2 : World.cell? _ ⟨go19,(x28_1 : Int).toNat * 6 + 2,none⟩ = some (.int .i64 ((rd_T44 x25_1 x28_1).f2)):=hcc19 2 _ rfl
          have hx19_3 : World.cell? _ ⟨go19,(x28_1 : Int).toNat * 6 + 3,none⟩ = some (.int .i64 ((rd_T44 x25_1 x28_1).f3)):=hcc19 3 _ rfl
          have hx19_4 : World.cell? _ ⟨go19,(x28_1 : Int).toNat * 6 + 4,none⟩ = some (.int .i64 ((rd_T44 x25_1 x28_1).f4)):=hcc19 4 _ rfl
          have hx19_5 : World.cell? _ ⟨go19,(x28_1 : Int).toNat * 6 + 5,none⟩ = some (.int .i64 ((rd_T44 x25_1 x28_1).f5)):=hcc19 5 _ rfl
          have hf19_0 : World.frozen? _ ⟨go19,(x28_1 : Int).toNat * 6,none⟩ = false:=hfr19 0
          have hf19_1 : World.frozen? _ ⟨go19,(x28_1 : Int).toNat * 6 + 1,none⟩ = false:=hfr19 1
          have hf19_2 : World.frozen? _ ⟨go19,(x28_1 : Int).toNat * 6 + 2,none⟩ = false:=hfr19 2
          have hf19_3 : World.frozen? _ ⟨go19,(x28_1 : Int).toNat * 6 + 3,none⟩ = false:=hfr19 3
          have hf19_4 : World.frozen? _ ⟨go19,(x28_1 : Int).toNat * 6 + 4,none⟩ = false:=hfr19 4
          have hf19_5 : World.frozen? _ ⟨go19,(x28_1 : Int).toNat * 6 + 5,none⟩ = false:=hfr19 5
          clear hcl19 hcc19 hfr19 hM19
          replace p19:=eq_true p19
          replace q19:=eq_true q19
          obtain ⟨ce27,hcl27,hM27,hcc27,hfr27⟩:=Kd.R_elem HO_25.out z44 (x28_1 : Int) (of_decide_eq_true (by first | (with_reducible assumption) | assumption)) (by have h_ : (x28_1 : Int) < ((x25_1.length : Int) : Int):=of_decide_eq_true (by first | (with_reducible assumption) | assumption); first | exact h_ | (have e_:=(Kd.R_reads' HO_25.out).1; omega) | simpa using h_)
          obtain rfl:=k44_openM hM27
          have HP27:=(Kd.R_seg HO_25.out (x28_1 : Int) (of_decide_eq_true (by first | (with_reducible assumption) | assumption)) (by have h_ : (x28_1 : Int) < ((x25_1.length : Int) : Int):=of_decide_eq_true (by first | (with_reducible assumption) | assumption); first | exact h_ | (have e_:=(Kd.R_reads' HO_25.out).1; omega) | simpa using h_) (seg:=[.int .i64 ji18]) (j:=5) hcl27 hcc27 (show 6 ≤ 6 from by decide) (x':=(⟨(rd_T44 x25_1 x28_1).f0,(rd_T44 x25_1 x28_1).f1,(rd_T44 x25_1 x28_1).f2,(rd_T44 x25_1 x28_1).f3,(rd_T44 x25_1 x28_1).f4,ji18⟩ : S44)) (k44_mkM _ _ _ (⟨(rd_T44 x25_1 x28_1).f0,(rd_T44 x25_1 x28_1).f1,(rd_T44 x25_1 x28_1).f2,(rd_T44 x25_1 x28_1).f3,(rd_T44 x25_1 x28_1).f4,ji18⟩ : S44) ) (fun _ hk => hk)).1
          rw [← Ny110.out] at HP27
          have HQ27:=Aside0.mk HP27
          clear hcl27 hcc27 hfr27 hM27 HP27
          refine hK.out _ _ ⟨(blk_cell BK106.out 0).trans rfl,(blk_cell BK106.out 1).trans rfl,(blk_cell BK106.out 2).trans rfl,(blk_cell BK106.out 3).trans rfl,(blk_cell BK106.out 4).trans rfl,(blk_cell BK106.out 5).trans rfl,((HB.out.cell (World.block_lt_of_cell? w _ hw107_0)).trans hw107_0),((HB.out.cell (World.block_lt_of_cell? w _ hw107_1)).trans hw107_1),((HB.out.cell (World.block_lt_of_cell? w _ hw107_2)).trans hw107_2),((HB.out.cell (World.block_lt_of_cell? w _ hw107_3)).trans hw107_3)⟩ (fun hHeld => ?_)
          clear hK K
          refine nm ?_
          refine pv 19 (some 52) (bm 23 1048575) HT_ ?_
          refine pv 20 (some 53) (bm 23 2097151) HT_ ?_
          refine pv 21 (some 54) (bm 23 4194303) HT_ ?_
          refine last_ (i:=22) (N:=none) (bm 23 8388607) rfl rfl (one_of HT_.out (by kernel_rfl)) (by decide) (fun K hK => ?_)
          refine skip_ (w1:=?_) (by rfl) rfl ?_ ?_
          rotate_left
          ·go_simp
           rfl
          refine hK.out _ _ ?_
          clear hK K
          refine done_ (done_of HT_.out (by kernel_rfl)) ?_
          try go_wp2
          have n0_ : Aside0 (Kd.R k44 44 (w26.setCell ⟨go19,(x28_1 : Int).toNat * 6 + 5,none⟩ (.int .i64 ji18)) w.heap.size (fun k_ => k_ ≠ gb106) (.slice (some ⟨go19,0,none⟩) x25_1.length co10) y110):=⟨by (with_reducible repeat (first | apply Kd.R_alloc | apply Kd.R_drewN | apply Kd.R_drew)); exact HQ27.out⟩
          have n1_ : Aside0 ((w26.setCell ⟨go19,(x28_1 : Int).toNat * 6 + 5,none⟩ (.int .i64 ji18)).heap[gb106]? = some (.cells #[.int .i64 ((rd_T44 x25_1 x28_1).f0),.int .i64 ((rd_T44 x25_1 x28_1).f1),.int .i64 ((rd_T44 x25_1 x28_1).f2),.int .i64 ((rd_T44 x25_1 x28_1).f3),.int .i64 ((rd_T44 x25_1 x28_1).f4),.int .i64 ((rd_T44 x25_1 x28_1).f5)] 44 (0,0))):=⟨by (with_reducible repeat (first | refine blk_drewN ?_ _ | refine blk_drew ?_ | refine blk_alloc ?_ _)); refine blk_far ?_ (by have h_:=Kd.R_away HO_25.out (fun _ hk => hk); intro e_; exact h_ (by rw [e_]; rfl)) _; (with_reducible repeat (first | refine blk_drewN ?_ _ | refine blk_drew ?_ | refine blk_alloc ?_ _)); exact BK106.out⟩
          have n2_ : Aside0 (Below w.heap.size w (w26.setCell ⟨go19,(x28_1 : Int).toNat * 6 + 5,none⟩ (.int .i64 ji18))):=⟨by repeat (first | (with_reducible first | exact HB.out | apply below_alloc | apply pw_below_drewN | apply below_drew1 | refine below_set ?_ GB19.out | refine below_set ?_ GE106.out) | exact HB.out)⟩
          (try clear HO_25)
          (try clear BK106)
          (try clear HB)
          generalize (w26.setCell ⟨go19,(x28_1 : Int).toNat * 6 + 5,none⟩ (.int .i64 ji18)) = w28 at n0_ n1_ n2_ ⊢
          have HO_25:=n0_
          have BK106:=n1_
          have HB:=n2_
          clear n0_ n1_ n2_
          have n0_:=Aside0.mk (Kd.R_drew HO_25.out)
          have n1_:=Aside0.mk (blk_drew BK106.out)
          have n2_:=Aside0.mk (below_drew1 HB.out)
          clear HO_25
          clear BK106
          clear HB
          have HO_25:=n0_
          have BK106:=n1_
          have HB:=n2_
          clear n0_ n1_ n2_
          have p111 : 0 ≤ (x28_1 : Int):=of_decide_eq_true (by first | (with_reducible assumption) | assumption)
          have q111 : x28_1 < (y110.length : Int):=(by have h_ : (x28_1 : Int) < ((x25_1.length : Int) : Int):=of_decide_eq_true (by first | (with_reducible assumption) | assumption); first | (have e_:=(Kd.R_reads' HO_25.out).1; omega) | simpa only [Ny110.out,List.length_set] using h_)
          have ql111 : ((x28_1 : Int) < ((x25_1.length : Int) : Int)) = True:=eq_true (of_decide_eq_true (by first | (with_reducible assumption) | assumption))
          obtain ⟨ad111,e111,hx111_0,hx111_1,hx111_2,hx111_3,hx111_4,hx111_5⟩:=at_T44 (Kd.R_reads' HO_25.out).2.2 x28_1 p111 q111
          obtain rfl : (⟨go19,0,none⟩ : Addr) = ad111:=(by injection e111)
          (first | simp only [add_plain] at hx111_0 | simp only [add_at] at hx111_0 | simp only [Addr.add,Nat.zero_add] at hx111_0 | skip)
          (first | simp only [add_plain] at hx111_1 | simp only [add_at] at hx111_1 | simp only [Addr.add,Nat.zero_add] at hx111_1 | skip)
          (first | simp only [add_plain] at hx111_2 | simp only [add_at] at hx111_2 | simp only [Addr.add,Nat.zero_add] at hx111_2 | skip)
          (first | simp only [add_plain] at hx111_3 | simp only [add_at] at hx111_3 | simp only [Addr.add,Nat.zero_add] at hx111_3 | skip)
          (first | simp only [add_plain] at hx111_4 | simp only [add_at] at hx111_4 | simp only [Addr.add,Nat.zero_add] at hx111_4 | skip)
          (first | simp only [add_plain] at hx111_5 | simp only [add_at] at hx111_5 | simp only [Addr.add,Nat.zero_add] at hx111_5 | skip)
          replace p111:=eq_true p111
          replace q111:=eq_true q111
          refine start_ (n:=11) (S:=fun w' => w'.cell? ⟨gb106,0,none⟩ = some (.int .i64 ((rd_T44 x25_1 x28_1).f0)) ∧ w'.cell? ⟨gb106,1,none⟩ = some (.int .i64 ((rd_T44 x25_1 x28_1).f1)) ∧ w'.cell? ⟨gb106,2,none⟩ = some (.int .i64 ((rd_T44 x25_1 x28_1).f2)) ∧ w'.cell? ⟨gb106,3,none⟩ = some (.int .i64 ((rd_T44 x25_1 x28_1).f3)) ∧ w'.cell? ⟨gb106,4,none⟩ = some (.int .i64 ((rd_T44 x25_1 x28_1).f4)) ∧ w'.cell? ⟨gb106,5,none⟩ = some (.int .i64 ((rd_T44 x25_1 x28_1).f5)) ∧ w'.cell? ⟨go19,(x28_1).toNat * 6,none⟩ = some (.int .i64 ((rd_T44 y110 x28_1).f0)) ∧ w'.cell? ⟨go19,(x28_1).toNat * 6 + 1,none⟩ = some (.int .i64 ((rd_T44 y110 x28_1).f1)) ∧ w'.cell? ⟨go19,(x28_1).toNat * 6 + 2,none⟩ = some (.int .i64 ((rd_T44 y110 x28_1).f2)) ∧ w'.cell? ⟨go19,(x28_1).toNat * 6 + 3,none⟩ = some (.int .i64 ((rd_T44 y110 x28_1).f3)) ∧ w'.cell? ⟨go19,(x28_1).toNat * 6 + 4,none⟩ = some (.int .i64 ((rd_T44 y110 x28_1).f4)) ∧ w'.cell? ⟨go19,(x28_1).toNat * 6 + 5,none⟩ = some (.int .i64 ((rd_T44 y110 x28_1).f5))) (ds:=[]) (bm 11 0) (by kernel_rfl) rfl (by kernel_rfl) ⟨(blk_cell BK106.out 0).trans rfl,(blk_cell BK106.out 1).trans rfl,(blk_cell BK106.out 2).trans rfl,(blk_cell BK106.out 3).trans rfl,(blk_cell BK106.out 4).trans rfl,(blk_cell BK106.out 5).trans rfl,hx111_0,hx111_1,hx111_2,hx111_3,hx111_4,hx111_5⟩ (fun hHeld => ?_); refine with_tabW cargo_Transfer.tab10 cargo_Transfer.bits10 (fun HT_ HW_ => ?_)
          generalize w28.drew = w29 at HO_25 BK106 HB HQ27 hx111_0 hx111_1 hx111_2 hx111_3 hx111_4 hx111_5 hHeld ⊢
          refine pv 0 (some 55) (bm 11 1) HT_ ?_
          refine pv 1 (some 56) (bm 11 3) HT_ ?_
          refine pv 2 (some 57) (bm 11 7) HT_ ?_
          refine pv 3 (some 58) (bm 11 15) HT_ ?_
          refine pv 4 (some 59) (bm 11 31) HT_ ?_
          refine pv 6 (some 61) (bm 11 95) HT_ ?_
          refine tk 5 (some 60) (bm 11 127) HT_ HW_ hHeld ?_
          refine tk 7 (some 62) (bm 11 255) HT_ HW_ hHeld ?_
          refine pv 8 (some 63) (bm 11 511) HT_ ?_
          refine pv 9 (some 64) (bm 11 1023) HT_ ?_
          refine pv 10 (some 13) (bm 11 2047) HT_ ?_
          refine done_ (done_of HT_.out (by kernel_rfl)) ?_
          try go_wp2
          go_ret3
          exact ⟨_,by first | rfl | (simp [errW_none,errW_some] <;> rfl) | (simp only [← hji18]; first | rfl | (simp [errW_none,errW_some] <;> rfl)) | (simp [*,errW_none,errW_some] <;> rfl),by first | exact Kd.R_nil _ _ _ _ _ | exact Kd.N_nil _ _ _ _ _ | exact Kd.V_nil _ _ _ _ _ | exact Kd.Q_nil _ _ _ _ _ | exact Kd.S_nil _ _ _ _ _,by repeat (first | (with_reducible first | exact HB.out | apply below_alloc | apply pw_below_drewN | apply below_drew1 | refine below_set ?_ GE106.out) | exact HB.out)⟩
         ·rw [if_neg c20] at H
          have c20b0 : decide (1000000000000 < (wrap64 (x13_1 + (wrap64 (((rd_T44 y110 x28_1).f5) - ((rd_T44 x25_1 x28_1).f5)))))) = false:=decide_eq_false c20
          clear c20
          have H':=Aside0.mk H
          clear H
          have p105 : 0 ≤ (x28_1 : Int):=of_decide_eq_true (by first | (with_reducible assumption) | assumption)
          have q105 : x28_1 < (x25_1.length : Int):=of_decide_eq_true (by first | (with_reducible assumption) | assumption)
          obtain ⟨ad105,e105,hx105_0,hx105_1,hx105_2,hx105_3,hx105_4,hx105_5⟩:=at_T44 (Kd.R_reads' HO_25.out).2.2 x28_1 p105 q105
          cases e105
          replace p105:=eq_true p105
          replace q105:=eq_true q105
          try go_wp2_with (first | ((with_reducible refine gate_dst (N:=15) rfl ?_); refine box_event ?hg (N:=15) ?hd (cs:=#[.int .i64 0,.int .i64 0,.int .i64 0,.int .i64 0,.int .i64 0,.int .i64 0]) (t:=44) ?hr ?_; (case hd => rfl); (case hg => rfl); (case hr => first | (go_simp; done) | (go_simp; rfl)); intro gb106 hg w30 hbox hb; have n0_:=Aside0.mk (Kd.R_below (Kd.R_elderB (by (with_reducible repeat (first | apply Kd.R_alloc | apply Kd.R_drewN | apply Kd.R_drew)); exact HO_25.out) gb106 (Nat.le_of_eq hg.symm)) hb); have n1_:=Aside0.mk (below_step (by repeat (first | (with_reducible first | exact HB.out | apply below_alloc | apply pw_below_drewN | apply below_drew1) | exact HB.out)) hb); have n2_:=Aside0.mk (hbox); have n3_:=Aside0.mk ((by rw [hg]; exact (below_size (by repeat (first | (with_reducible first | exact HB.out | apply below_alloc | apply pw_below_drewN | apply below_drew1) | exact HB.out))) : w.heap.size ≤ gb106)); have n4_:=Aside0.mk ((by rw [hg]; exact (below_size (by repeat (first | (with_reducible first | exact HB.out | apply below_alloc | apply pw_below_drewN | apply below_drew1) | exact HB.out))) : w.heap.size ≤ gb106)); clear HO_25; clear HB; have HO_25:=n0_; have HB:=n1_; have BK106:=n2_; have GW106:=n3_; have GE106:=n4_; clear n0_ n1_ n2_ n3_ n4_; clear hb hbox hg; have hcz31_0 : w30.cell? ⟨gb106,0,none⟩ = some (.int .i64 0):=(blk_cell BK106.out 0).trans rfl; have hcz31_1 : w30.cell? ⟨gb106,1,none⟩ = some (.int .i64 0):=(blk_cell BK106.out 1).trans rfl; have hcz31_2 : w30.cell? ⟨gb106,2,none⟩ = some (.int .i64 0):=(blk_cell BK106.out 2).trans rfl; have hcz31_3 : w30.cell? ⟨gb106,3,none⟩ = some (.int .i64 0):=(blk_cell BK106.out 3).trans rfl; have hcz31_4 : w30.cell? ⟨gb106,4,none⟩ = some (.int .i64 0):=(blk_cell BK106.out 4).trans rfl; have hcz31_5 : w30.cell? ⟨gb106,5,none⟩ = some (.int .i64 0):=(blk_cell BK106.out 5).trans rfl; have hfz31_0:=blk_frozen BK106.out 0; have hfz31_1:=blk_frozen BK106.out 1; have hfz31_2:=blk_frozen BK106.out 2; have hfz31_3:=blk_frozen BK106.out 3; have hfz31_4:=blk_frozen BK106.out 4; have hfz31_5:=blk_frozen BK106.out 5))
          have n0_ : Aside0 (Kd.R k44 44 ((((((w30.setCell ⟨gb106,0,none⟩ (.int .i64 ((rd_T44 x25_1 x28_1).f0))).setCell ⟨gb106,1,none⟩ (.int .i64 ((rd_T44 x25_1 x28_1).f1))).setCell ⟨gb106,2,none⟩ (.int .i64 ((rd_T44 x25_1 x28_1).f2))).setCell ⟨gb106,3,none⟩ (.int .i64 ((rd_T44 x25_1 x28_1).f3))).setCell ⟨gb106,4,none⟩ (.int .i64 ((rd_T44 x25_1 x28_1).f4))).setCell ⟨gb106,5,none⟩ (.int .i64 ((rd_T44 x25_1 x28_1).f5))) w.heap.size (fun k_ => k_ ≠ gb106) (.slice (some ad105) x25_1.length co10) x25_1):=⟨by (with_reducible repeat (first | apply Kd.R_alloc | apply Kd.R_drewN | apply Kd.R_drew)); exact Kd.R_mono (Kd.R_far (p:=⟨gb106,5,none⟩) (Kd.R_far (p:=⟨gb106,4,none⟩) (Kd.R_far (p:=⟨gb106,3,none⟩) (Kd.R_far (p:=⟨gb106,2,none⟩) (Kd.R_far (p:=⟨gb106,1,none⟩) (Kd.R_far (p:=⟨gb106,0,none⟩) (Kd.R_mono HO_25.out (fun k_ hk => (⟨hk,hk.2⟩ : _ ∧ k_ ≠ gb106))) (fun _ hk => hk.2) (.int .i64 ((rd_T44 x25_1 x28_1).f0))) (fun _ hk => hk.2) (.int .i64 ((rd_T44 x25_1 x28_1).f1))) (fun _ hk => hk.2) (.int .i64 ((rd_T44 x25_1 x28_1).f2))) (fun _ hk => hk.2) (.int .i64 ((rd_T44 x25_1 x28_1).f3))) (fun _ hk => hk.2) (.int .i64 ((rd_T44 x25_1 x28_1).f4))) (fun _ hk => hk.2) (.int .i64 ((rd_T44 x25_1 x28_1).f5))) (fun _ hk => hk.1.2)⟩
          have n1_ : Aside0 (((((((w30.setCell ⟨gb106,0,none⟩ (.int .i64 ((rd_T44 x25_1 x28_1).f0))).setCell ⟨gb106,1,none⟩ (.int .i64 ((rd_T44 x25_1 x28_1).f1))).setCell ⟨gb106,2,none⟩ (.int .i64 ((rd_T44 x25_1 x28_1).f2))).setCell ⟨gb106,3,none⟩ (.int .i64 ((rd_T44 x25_1 x28_1).f3))).setCell ⟨gb106,4,none⟩ (.int .i64 ((rd_T44 x25_1 x28_1).f4))).setCell ⟨gb106,5,none⟩ (.int .i64 ((rd_T44 x25_1 x28_1).f5))).heap[gb106]? = some (.cells #[.int .i64 ((rd_T44 x25_1 x28_1).f0),.int .i64 ((rd_T44 x25_1 x28_1).f1),.int .i64 ((rd_T44 x25_1 x28_1).f2),.int .i64 ((rd_T44 x25_1 x28_1).f3),.int .i64 ((rd_T44 x25_1 x28_1).f4),.int .i64 ((rd_T44 x25_1 x28_1).f5)] 44 (0,0))):=⟨by (with_reducible repeat (first | refine blk_drewN ?_ _ | refine blk_drew ?_ | refine blk_alloc ?_ _)); refine blk_put (cs:=#[.int .i64 ((rd_T44 x25_1 x28_1).f0),.int .i64 ((rd_T44 x25_1 x28_1).f1),.int .i64 ((rd_T44 x25_1 x28_1).f2),.int .i64 ((rd_T44 x25_1 x28_1).f3),.int .i64 ((rd_T44 x25_1 x28_1).f4),.int .i64 0]) ?_ 5 _ rfl; (with_reducible repeat (first | refine blk_drewN ?_ _ | refine blk_drew ?_ | refine blk_alloc ?_ _)); refine blk_put (cs:=#[.int .i64 ((rd_T44 x25_1 x28_1).f0),.int .i64 ((rd_T44 x25_1 x28_1).f1),.int .i64 ((rd_T44 x25_1 x28_1).f2),.int .i64 ((rd_T44 x25_1 x28_1).f3),.int .i64 0,.int .i64 0]) ?_ 4 _ rfl; (with_reducible repeat (first | refine blk_drewN ?_ _ | refine blk_drew ?_ | refine blk_alloc ?_ _)); refine blk_put (cs:=#[.int .i64 ((rd_T44 x25_1 x28_1).f0),.int .i64 ((rd_T44 x25_1 x28_1).f1),.int .i64 ((rd_T44 x25_1 x28_1).f2),.int .i64 0,.int .i64 0,.int .i64 0]) ?_ 3 _ rfl; (with_reducible repeat (first | refine blk_drewN ?_ _ | refine blk_drew ?_ | refine blk_alloc ?_ _)); refine blk_put (cs:=#[.int .i64 ((rd_T44 x25_1 x28_1).f0),.int .i64 ((rd_T44 x25_1 x28_1).f1),.int .i64 0,.int .i64 0,.int .i64 0,.int .i64 0]) ?_ 2 _ rfl; (with_reducible repeat (first | refine blk_drewN ?_ _ | refine blk_drew ?_ | refine blk_alloc ?_ _)); refine blk_put (cs:=#[.int .i64 ((rd_T44 x25_1 x28_1).f0),.int .i64 0,.int .i64 0,.int .i64 0,.int .i64 0,.int .i64 0]) ?_ 1 _ rfl; (with_reducible repeat (first | refine blk_drewN ?_ _ | refine blk_drew ?_ | refine blk_alloc ?_ _)); refine blk_put (cs:=#[.int .i64 0,.int .i64 0,.int .i64 0,.int .i64 0,.int .i64 0,.int .i64 0]) ?_ 0 _ rfl; (with_reducible repeat (first | refine blk_drewN ?_ _ | refine blk_drew ?_ | refine blk_alloc ?_ _)); exact BK106.out⟩
          have n2_ : Aside0 (Below w.heap.size w ((((((w30.setCell ⟨gb106,0,none⟩ (.int .i64 ((rd_T44 x25_1 x28_1).f0))).setCell ⟨gb106,1,none⟩ (.int .i64 ((rd_T44 x25_1 x28_1).f1))).setCell ⟨gb106,2,none⟩ (.int .i64 ((rd_T44 x25_1 x28_1).f2))).setCell ⟨gb106,3,none⟩ (.int .i64 ((rd_T44 x25_1 x28_1).f3))).setCell ⟨gb106,4,none⟩ (.int .i64 ((rd_T44 x25_1 x28_1).f4))).setCell ⟨gb106,5,none⟩ (.int .i64 ((rd_T44 x25_1 x28_1).f5)))):=⟨by repeat (first | (with_reducible first | exact HB.out | apply below_alloc | apply pw_below_drewN | apply below_drew1 | refine below_set ?_ GE106.out) | exact HB.out)⟩
          (try clear HO_25)
          (try clear BK106)
          (try clear HB)
          generalize ((((((w30.setCell ⟨gb106,0,none⟩ (.int .i64 ((rd_T44 x25_1 x28_1).f0))).setCell ⟨gb106,1,none⟩ (.int .i64 ((rd_T44 x25_1 x28_1).f1))).setCell ⟨gb106,2,none⟩ (.int .i64 ((rd_T44 x25_1 x28_1).f2))).setCell ⟨gb106,3,none⟩ (.int .i64 ((rd_T44 x25_1 x28_1).f3))).setCell ⟨gb106,4,none⟩ (.int .i64 ((rd_T44 x25_1 x28_1).f4))).setCell ⟨gb106,5,none⟩ (.int .i64 ((rd_T44 x25_1 x28_1).f5))) = w32 at n0_ n1_ n2_ ⊢
          have HO_25:=n0_
          have BK106:=n1_
          have HB:=n2_
          clear n0_ n1_ n2_
          have n0_:=Aside0.mk (Kd.R_drew HO_25.out)
          have n1_:=Aside0.mk (blk_drew BK106.out)
          have n2_:=Aside0.mk (below_drew1 HB.out)
          clear HO_25
          clear BK106
          clear HB
          have HO_25:=n0_
          have BK106:=n1_
          have HB:=n2_
          clear n0_ n1_ n2_
          have p107 : 0 ≤ (((rd_T44 x25_1 x28_1).f0) : Int):=of_decide_eq_true (by first | (with_reducible assumption) | assumption)
          have q107 : ((rd_T44 x25_1 x28_1).f0) < (l0.length : Int):=of_decide_eq_true (by first | (with_reducible assumption) | assumption)
          obtain ⟨ad107,e107,hx107_0,hx107_1,hx107_2,hx107_3⟩:=at_T23 HR0.out ((rd_T44 x25_1 x28_1).f0) p107 q107
          have hw107_3:=hx107_3
          have hw107_2:=hx107_2
          have hw107_1:=hx107_1
          have hw107_0:=hx107_0
          cases e107
          replace hx107_0:=(HB.out.cell (World.block_lt_of_cell? w _ hx107_0)).trans hx107_0
          replace hx107_1:=(HB.out.cell (World.block_lt_of_cell? w _ hx107_1)).trans hx107_1
          replace hx107_2:=(HB.out.cell (World.block_lt_of_cell? w _ hx107_2)).trans hx107_2
          replace hx107_3:=(HB.out.cell (World.block_lt_of_cell? w _ hx107_3)).trans hx107_3
          replace p107:=eq_true p107
          replace q107:=eq_true q107
          refine start_ (n:=23) (S:=fun w' => w'.cell? ⟨gb106,0,none⟩ = some (.int .i64 ((rd_T44 x25_1 x28_1).f0)) ∧ w'.cell? ⟨gb106,1,none⟩ = some (.int .i64 ((rd_T44 x25_1 x28_1).f1)) ∧ w'.cell? ⟨gb106,2,none⟩ = some (.int .i64 ((rd_T44 x25_1 x28_1).f2)) ∧ w'.cell? ⟨gb106,3,none⟩ = some (.int .i64 ((rd_T44 x25_1 x28_1).f3)) ∧ w'.cell? ⟨gb106,4,none⟩ = some (.int .i64 ((rd_T44 x25_1 x28_1).f4)) ∧ w'.cell? ⟨gb106,5,none⟩ = some (.int .i64 ((rd_T44 x25_1 x28_1).f5)) ∧ w'.cell? (ad107.add ((((rd_T44 x25_1 x28_1).f0)).toNat * 4)) = some (.string ((rd_T23 l0 ((rd_T44 x25_1 x28_1).f0)).f0)) ∧ w'.cell? ⟨(ad107.add ((((rd_T44 x25_1 x28_1).f0)).toNat * 4)).block,(ad107.add ((((rd_T44 x25_1 x28_1).f0)).toNat * 4)).off + 1,none⟩ = some (.int .i64 ((rd_T23 l0 ((rd_T44 x25_1 x28_1).f0)).f1)) ∧ w'.cell? ⟨(ad107.add ((((rd_T44 x25_1 x28_1).f0)).toNat * 4)).block,(ad107.add ((((rd_T44 x25_1 x28_1).f0)).toNat * 4)).off + 2,none⟩ = some (.int .i64 ((rd_T23 l0 ((rd_T44 x25_1 x28_1).f0)).f2)) ∧ w'.cell? ⟨(ad107.add ((((rd_T44 x25_1 x28_1).f0)).toNat * 4)).block,(ad107.add ((((rd_T44 x25_1 x28_1).f0)).toNat * 4)).off + 3,none⟩ = some (.int .i64 ((rd_T23 l0 ((rd_T44 x25_1 x28_1).f0)).f3))) (ds:=[22]) (bm 23 0) (by kernel_rfl) rfl (by kernel_rfl) ⟨(blk_cell BK106.out 0).trans rfl,(blk_cell BK106.out 1).trans rfl,(blk_cell BK106.out 2).trans rfl,(blk_cell BK106.out 3).trans rfl,(blk_cell BK106.out 4).trans rfl,(blk_cell BK106.out 5).trans rfl,((HB.out.cell (World.block_lt_of_cell? w _ hw107_0)).trans hw107_0),((HB.out.cell (World.block_lt_of_cell? w _ hw107_1)).trans hw107_1),((HB.out.cell (World.block_lt_of_cell? w _ hw107_2)).trans hw107_2),((HB.out.cell (World.block_lt_of_cell? w _ hw107_3)).trans hw107_3)⟩ (fun hHeld => ?_); refine with_tabW cargo_Transfer.tab9 cargo_Transfer.bits9 (fun HT_ HW_ => ?_)
          generalize w32.drew = w33 at HO_25 BK106 HB hx107_0 hx107_1 hx107_2 hx107_3 hHeld ⊢
          refine pv 0 (some 33) (bm 23 1) HT_ ?_
          refine pv 1 (some 34) (bm 23 3) HT_ ?_
          refine pv 2 (some 35) (bm 23 7) HT_ ?_
          refine pv 4 (some 37) (bm 23 23) HT_ ?_
          refine pv 5 (some 38) (bm 23 55) HT_ ?_
          refine pv 9 (some 42) (bm 23 567) HT_ ?_
          refine pv 11 (some 44) (bm 23 2615) HT_ ?_
          refine pv 12 (some 45) (bm 23 6711) HT_ ?_
          refine pv 14 (some 47) (bm 23 23095) HT_ ?_
          refine pv 16 (some 49) (bm 23 88631) HT_ ?_
          refine tk 3 (some 36) (bm 23 88639) HT_ HW_ hHeld ?_
          refine tk 6 (some 39) (bm 23 88703) HT_ HW_ hHeld ?_
          refine pv 7 (some 40) (bm 23 88831) HT_ ?_
          refine tk 8 (some 41) (bm 23 89087) HT_ HW_ hHeld ?_
          refine tk 10 (some 43) (bm 23 90111) HT_ HW_ hHeld ?_
          refine tk 13 (some 46) (bm 23 98303) HT_ HW_ hHeld ?_
          refine tk 17 (some 50) (bm 23 229375) HT_ HW_ hHeld ?_
          refine ck 15 (some 48) (bm 23 262143) HT_ (fun K hK => ?_)
          refine gs Try.func54 #[.int .i64 a2,.int .i64 ((rd_T44 x25_1 x28_1).f2),.int .i64 a3] ?_
          with_reducible refine (cargo_steps.calls a2 ((rd_T44 x25_1 x28_1).f2) a3 t108 _ A16.out).mono ?_
          rintro e w34 ⟨rfl,hb⟩
          refine ⟨_,rfl,?_⟩
          have n0_:=Aside0.mk (Kd.R_below (by (with_reducible repeat (first | apply Kd.R_alloc | apply Kd.R_drewN | apply Kd.R_drew)); exact HO_25.out) hb)
          have n1_:=Aside0.mk (blk_below (g:=gb106) (o:=.cells #[.int .i64 ((rd_T44 x25_1 x28_1).f0),.int .i64 ((rd_T44 x25_1 x28_1).f1),.int .i64 ((rd_T44 x25_1 x28_1).f2),.int .i64 ((rd_T44 x25_1 x28_1).f3),.int .i64 ((rd_T44 x25_1 x28_1).f4),.int .i64 ((rd_T44 x25_1 x28_1).f5)] 44 (0,0)) (by (with_reducible repeat (first | refine blk_drewN ?_ _ | refine blk_drew ?_ | refine blk_alloc ?_ _)); exact BK106.out) hb)
          have n2_:=Aside0.mk (below_step (by repeat (first | (with_reducible first | exact HB.out | apply below_alloc | apply pw_below_drewN | apply below_drew1 | refine below_set ?_ GE106.out) | exact HB.out)) hb)
          clear HO_25
          clear BK106
          clear HB
          have HO_25:=n0_
          have BK106:=n1_
          have HB:=n2_
          clear n0_ n1_ n2_
          (try clear hb)
          (try clear hb2)
          (try clear hk)
          (try clear hi)
          refine hK.out _ _ ⟨(blk_cell BK106.out 0).trans rfl,(blk_cell BK106.out 1).trans rfl,(blk_cell BK106.out 2).trans rfl,(blk_cell BK106.out 3).trans rfl,(blk_cell BK106.out 4).trans rfl,(blk_cell BK106.out 5).trans rfl,((HB.out.cell (World.block_lt_of_cell? w _ hw107_0)).trans hw107_0),((HB.out.cell (World.block_lt_of_cell? w _ hw107_1)).trans hw107_1),((HB.out.cell (World.block_lt_of_cell? w _ hw107_2)).trans hw107_2),((HB.out.cell (World.block_lt_of_cell? w _ hw107_3)).trans hw107_3)⟩ (fun hHeld => ?_)
          clear hK K
          refine nm ?_
          refine ck 18 (some 51) (bm 23 524287) HT_ (fun K hK => ?_)
          refine gs Try.func45 #[.agg #[.string ((rd_T23 l0 ((rd_T44 x25_1 x28_1).f0)).f0),.int .i64 ((rd_T23 l0 ((rd_T44 x25_1 x28_1).f0)).f1),.int .i64 ((rd_T23 l0 ((rd_T44 x25_1 x28_1).f0)).f2),.int .i64 ((rd_T23 l0 ((rd_T44 x25_1 x28_1).f0)).f3)],.int .i64 ((rd_T44 x25_1 x28_1).f4),.int .i64 t108,.int .i64 ((rd_T44 x25_1 x28_1).f3)] ?_
          with_reducible refine (cargo_paid.calls ((rd_T23 l0 ((rd_T44 x25_1 x28_1).f0)).f0) ((rd_T23 l0 ((rd_T44 x25_1 x28_1).f0)).f1) ((rd_T23 l0 ((rd_T44 x25_1 x28_1).f0)).f2) ((rd_T23 l0 ((rd_T44 x25_1 x28_1).f0)).f3) ((rd_T44 x25_1 x28_1).f4) t108 ((rd_T44 x25_1 x28_1).f3) t109 _ A17.out).mono ?_
          rintro e w35 ⟨rfl,hb⟩
          refine ⟨_,rfl,?_⟩
          have n0_:=Aside0.mk (Kd.R_below (by (with_reducible repeat (first | apply Kd.R_alloc | apply Kd.R_drewN | apply Kd.R_drew)); exact HO_25.out) hb)
          have n1_:=Aside0.mk (blk_below (g:=gb106) (o:=.cells #[.int .i64 ((rd_T44 x25_1 x28_1).f0),.int .i64 ((rd_T44 x25_1 x28_1).f1),.int .i64 ((rd_T44 x25_1 x28_1).f2),.int .i64 ((rd_T44 x25_1 x28_1).f3),.int .i64 ((rd_T44 x25_1 x28_1).f4),.int .i64 ((rd_T44 x25_1 x28_1).f5)] 44 (0,0)) (by (with_reducible repeat (first | refine blk_drewN ?_ _ | refine blk_drew ?_ | refine blk_alloc ?_ _)); exact BK106.out) hb)
          have n2_:=Aside0.mk (below_step (by repeat (first | (with_reducible first | exact HB.out | apply below_alloc | apply pw_below_drewN | apply below_drew1 | refine below_set ?_ GE106.out) | exact HB.out)) hb)
          clear HO_25
          clear BK106
          clear HB
          have HO_25:=n0_
          have BK106:=n1_
          have HB:=n2_
          clear n0_ n1_ n2_
          (try clear hb)
          (try clear hb2)
          (try clear hk)
          (try clear hi)
          have p19 : 0 ≤ (x28_1 : Int):=of_decide_eq_true (by first | (with_reducible assumption) | assumption)
          have q19 : (x28_1 : Int) < ((x25_1.length : Int) : Int):=of_decide_eq_true (by first | (with_reducible assumption) | assumption)
          obtain ⟨go19,co19,eo19,gb19,gl19,cl19,HG19⟩:=Kd.R_form HO_25.out (by omega)
          (first | cases eo19 | (injection eo19 with ea_ en_ ec_; (first | subst ea_ | (injection ea_ with ea_; subst ea_)); subst ec_; clear en_))
          have GB19:=Aside0.mk gb19
          have GG19:=Aside0.mk HG19
          clear gb19 gl19 HG19
          (first | simp only [add_plain] at hx105_0 | skip)
          (first | simp only [add_plain] at hx105_1 | skip)
          (first | simp only [add_plain] at hx105_2 | skip)
          (first | simp only [add_plain] at hx105_3 | skip)
          (first | simp only [add_plain] at hx105_4 | skip)
          (first | simp only [add_plain] at hx105_5 | skip)
          obtain ⟨ce19,hcl19,hM19,hcc19,hfr19⟩:=Kd.R_elem HO_25.out z44 (x28_1 : Int) p19 q19
          obtain rfl:=k44_openM hM19
          have hx19_0 : World.cell? _ ⟨go19,(x28_1 : Int).toNat * 6,none⟩ = some (.int .i64 ((rd_T44 x25_1 x28_1).f0)):=hcc19 0 _ rfl
          have hx19_1 : World.cell? _ ⟨go19,(x28_1 : Int).toNat * 6 + 1,none⟩ = some (.int .i64 ((rd_T44 x25_1 x28_1).f1)):=hcc19 1 _ rfl
          have hx19_2 : World.cell? _ ⟨go19,(x28_1 : Int).toNat * 6 + 2,none⟩ = some (.int .i64 ((rd_T44 x25_1 x28_1).f2)):=hcc19 2 _ rfl
          have hx19_3 : World.cell? _ ⟨go19,(x28_1 : Int).toNat * 6 + 3,none⟩ = some (.int .i64 ((rd_T44 x25_1 x28_1).f3)):=hcc19 3 _ rfl
          have hx19_4 : World.cell? _ ⟨go19,(x28_1 : Int).toNat * 6 + 4,none⟩ = some (.int .i64 ((rd_T44 x25_1 x28_1).f4)):=hcc19 4 _ rfl
          have hx19_5 : World.cell? _ ⟨go19,(x28_1 : Int).toNat * 6 + 5,none⟩ = some (.int .i64 ((rd_T44 x25_1 x28_1).f5)):=hcc19 5 _ rfl
          have hf19_0 : World.frozen? _ ⟨go19,(x28_1 : Int).toNat * 6,none⟩ = false:=hfr19 0
          have hf19_1 : World.frozen? _ ⟨go19,(x28_1 : Int).toNat * 6 + 1,none⟩ = false:=hfr19 1
          have hf19_2 : World.frozen? _ ⟨go19,(x28_1 : Int).toNat * 6 + 2,none⟩ = false:=hfr19 2
          have hf19_3 : World.frozen? _ ⟨go19,(x28_1 : Int).toNat * 6 + 3,none⟩ = false:=hfr19 3
          have hf19_4 : World.frozen? _ ⟨go19,(x28_1 : Int).toNat * 6 + 4,none⟩ = false:=hfr19 4
          have hf19_5 : World.frozen? _ ⟨go19,(x28_1 : Int).toNat * 6 + 5,none⟩ = false:=hfr19 5
          clear hcl19 hcc19 hfr19 hM19
          replace p19:=eq_true p19
          replace q19:=eq_true q19
          obtain ⟨ce36,hcl36,hM36,hcc36,hfr36⟩:=Kd.R_elem HO_25.out z44 (x28_1 : Int) (of_decide_eq_true (by first | (with_reducible assumption) | assumption)) (by have h_ : (x28_1 : Int) < ((x25_1.length : Int) : Int):=of_decide_eq_true (by first | (with_reducible assumption) | assumption); first | exact h_ | (have e_:=(Kd.R_reads' HO_25.out).1; omega) | simpa using h_)
          obtain rfl:=k44_openM hM36
          have HP36:=(Kd.R_seg HO_25.out (x28_1 : Int) (of_decide_eq_true (by first | (with_reducible assumption) | assumption)) (by have h_ : (x28_1 : Int) < ((x25_1.length : Int) : Int):=of_decide_eq_true (by first | (with_reducible assumption) | assumption); first | exact h_ | (have e_:=(Kd.R_reads' HO_25.out).1; omega) | simpa using h_) (seg:=[.int .i64 ji18]) (j:=5) hcl36 hcc36 (show 6 ≤ 6 from by decide) (x':=(⟨(rd_T44 x25_1 x28_1).f0,(rd_T44 x25_1 x28_1).f1,(rd_T44 x25_1 x28_1).f2,(rd_T44 x25_1 x28_1).f3,(rd_T44 x25_1 x28_1).f4,ji18⟩ : S44)) (k44_mkM _ _ _ (⟨(rd_T44 x25_1 x28_1).f0,(rd_T44 x25_1 x28_1).f1,(rd_T44 x25_1 x28_1).f2,(rd_T44 x25_1 x28_1).f3,(rd_T44 x25_1 x28_1).f4,ji18⟩ : S44) ) (fun _ hk => hk)).1
          rw [← Ny110.out] at HP36
          have HQ36:=Aside0.mk HP36
          clear hcl36 hcc36 hfr36 hM36 HP36
          refine hK.out _ _ ⟨(blk_cell BK106.out 0).trans rfl,(blk_cell BK106.out 1).trans rfl,(blk_cell BK106.out 2).trans rfl,(blk_cell BK106.out 3).trans rfl,(blk_cell BK106.out 4).trans rfl,(blk_cell BK106.out 5).trans rfl,((HB.out.cell (World.block_lt_of_cell? w _ hw107_0)).trans hw107_0),((HB.out.cell (World.block_lt_of_cell? w _ hw107_1)).trans hw107_1),((HB.out.cell (World.block_lt_of_cell? w _ hw107_2)).trans hw107_2),((HB.out.cell (World.block_lt_of_cell? w _ hw107_3)).trans hw107_3)⟩ (fun hHeld => ?_)
          clear hK K
          refine nm ?_
          refine pv 19 (some 52) (bm 23 1048575) HT_ ?_
          refine pv 20 (some 53) (bm 23 2097151) HT_ ?_
          refine pv 21 (some 54) (bm 23 4194303) HT_ ?_
          refine last_ (i:=22) (N:=none) (bm 23 8388607) rfl rfl (one_of HT_.out (by kernel_rfl)) (by decide) (fun K hK => ?_)
          refine skip_ (w1:=?_) (by rfl) rfl ?_ ?_
          rotate_left
          ·go_simp
           rfl
          refine hK.out _ _ ?_
          clear hK K
          refine done_ (done_of HT_.out (by kernel_rfl)) ?_
          try go_wp2
          have n0_ : Aside0 (Kd.R k44 44 (w35.setCell ⟨go19,(x28_1 : Int).toNat * 6 + 5,none⟩ (.int .i64 ji18)) w.heap.size (fun k_ => k_ ≠ gb106) (.slice (some ⟨go19,0,none⟩) x25_1.length co10) y110):=⟨by (with_reducible repeat (first | apply Kd.R_alloc | apply Kd.R_drewN | apply Kd.R_drew)); exact HQ36.out⟩
          have n1_ : Aside0 ((w35.setCell ⟨go19,(x28_1 : Int).toNat * 6 + 5,none⟩ (.int .i64 ji18)).heap[gb106]? = some (.cells #[.int .i64 ((rd_T44 x25_1 x28_1).f0),.int .i64 ((rd_T44 x25_1 x28_1).f1),.int .i64 ((rd_T44 x25_1 x28_1).f2),.int .i64 ((rd_T44 x25_1 x28_1).f3),.int .i64 ((rd_T44 x25_1 x28_1).f4),.int .i64 ((rd_T44 x25_1 x28_1).f5)] 44 (0,0))):=⟨by (with_reducible repeat (first | refine blk_drewN ?_ _ | refine blk_drew ?_ | refine blk_alloc ?_ _)); refine blk_far ?_ (by have h_:=Kd.R_away HO_25.out (fun _ hk => hk); intro e_; exact h_ (by rw [e_]; rfl)) _; (with_reducible repeat (first | refine blk_drewN ?_ _ | refine blk_drew ?_ | refine blk_alloc ?_ _)); exact BK106.out⟩
          have n2_ : Aside0 (Below w.heap.size w (w35.setCell ⟨go19,(x28_1 : Int).toNat * 6 + 5,none⟩ (.int .i64 ji18))):=⟨by repeat (first | (with_reducible first | exact HB.out | apply below_alloc | apply pw_below_drewN | apply below_drew1 | refine below_set ?_ GB19.out | refine below_set ?_ GE106.out) | exact HB.out)⟩
          (try clear HO_25)
          (try clear BK106)
          (try clear HB)
          generalize (w35.setCell ⟨go19,(x28_1 : Int).toNat * 6 + 5,none⟩ (.int .i64 ji18)) = w37 at n0_ n1_ n2_ ⊢
          have HO_25:=n0_
          have BK106:=n1_
          have HB:=n2_
          clear n0_ n1_ n2_
          have n0_:=Aside0.mk (Kd.R_drew HO_25.out)
          have n1_:=Aside0.mk (blk_drew BK106.out)
          have n2_:=Aside0.mk (below_drew1 HB.out)
          clear HO_25
          clear BK106
          clear HB
          have HO_25:=n0_
          have BK106:=n1_
          have HB:=n2_
          clear n0_ n1_ n2_
          have p111 : 0 ≤ (x28_1 : Int):=of_decide_eq_true (by first | (with_reducible assumption) | assumption)
          have q111 : x28_1 < (y110.length : Int):=(by have h_ : (x28_1 : Int) < ((x25_1.length : Int) : Int):=of_decide_eq_true (by first | (with_reducible assumption) | assumption); first | (have e_:=(Kd.R_reads' HO_25.out).1; omega) | simpa only [Ny110.out,List.length_set] using h_)
          have ql111 : ((x28_1 : Int) < ((x25_1.length : Int) : Int)) = True:=eq_true (of_decide_eq_true (by first | (with_reducible assumption) | assumption))
          obtain ⟨ad111,e111,hx111_0,hx111_1,hx111_2,hx111_3,hx111_4,hx111_5⟩:=at_T44 (Kd.R_reads' HO_25.out).2.2 x28_1 p111 q111
          obtain rfl : (⟨go19,0,none⟩ : Addr) = ad111:=(by injection e111)
          (first | simp only [add_plain] at hx111_0 | simp only [add_at] at hx111_0 | simp only [Addr.add,Nat.zero_add] at hx111_0 | skip)
          (first | simp only [add_plain] at hx111_1 | simp only [add_at] at hx111_1 | simp only [Addr.add,Nat.zero_add] at hx111_1 | skip)
          (first | simp only [add_plain] at hx111_2 | simp only [add_at] at hx111_2 | simp only [Addr.add,Nat.zero_add] at hx111_2 | skip)
          (first | simp only [add_plain] at hx111_3 | simp only [add_at] at hx111_3 | simp only [Addr.add,Nat.zero_add] at hx111_3 | skip)
          (first | simp only [add_plain] at hx111_4 | simp only [add_at] at hx111_4 | simp only [Addr.add,Nat.zero_add] at hx111_4 | skip)
          (first | simp only [add_plain] at hx111_5 | simp only [add_at] at hx111_5 | simp only [Addr.add,Nat.zero_add] at hx111_5 | skip)
          replace p111:=eq_true p111
          replace q111:=eq_true q111
          refine start_ (n:=11) (S:=fun w' => w'.cell? ⟨gb106,0,none⟩ = some (.int .i64 ((rd_T44 x25_1 x28_1).f0)) ∧ w'.cell? ⟨gb106,1,none⟩ = some (.int .i64 ((rd_T44 x25_1 x28_1).f1)) ∧ w'.cell? ⟨gb106,2,none⟩ = some (.int .i64 ((rd_T44 x25_1 x28_1).f2)) ∧ w'.cell? ⟨gb106,3,none⟩ = some (.int .i64 ((rd_T44 x25_1 x28_1).f3)) ∧ w'.cell? ⟨gb106,4,none⟩ = some (.int .i64 ((rd_T44 x25_1 x28_1).f4)) ∧ w'.cell? ⟨gb106,5,none⟩ = some (.int .i64 ((rd_T44 x25_1 x28_1).f5)) ∧ w'.cell? ⟨go19,(x28_1).toNat * 6,none⟩ = some (.int .i64 ((rd_T44 y110 x28_1).f0)) ∧ w'.cell? ⟨go19,(x28_1).toNat * 6 + 1,none⟩ = some (.int .i64 ((rd_T44 y110 x28_1).f1)) ∧ w'.cell? ⟨go19,(x28_1).toNat * 6 + 2,none⟩ = some (.int .i64 ((rd_T44 y110 x28_1).f2)) ∧ w'.cell? ⟨go19,(x28_1).toNat * 6 + 3,none⟩ = some (.int .i64 ((rd_T44 y110 x28_1).f3)) ∧ w'.cell? ⟨go19,(x28_1).toNat * 6 + 4,none⟩ = some (.int .i64 ((rd_T44 y110 x28_1).f4)) ∧ w'.cell? ⟨go19,(x28_1).toNat * 6 + 5,none⟩ = some (.int .i64 ((rd_T44 y110 x28_1).f5))) (ds:=[]) (bm 11 0) (by kernel_rfl) rfl (by kernel_rfl) ⟨(blk_cell BK106.out 0).trans rfl,(blk_cell BK106.out 1).trans rfl,(blk_cell BK106.out 2).trans rfl,(blk_cell BK106.out 3).trans rfl,(blk_cell BK106.out 4).trans rfl,(blk_cell BK106.out 5).trans rfl,hx111_0,hx111_1,hx111_2,hx111_3,hx111_4,hx111_5⟩ (fun hHeld => ?_); refine with_tabW cargo_Transfer.tab10 cargo_Transfer.bits10 (fun HT_ HW_ => ?_)
          generalize w37.drew = w38 at HO_25 BK106 HB HQ36 hx111_0 hx111_1 hx111_2 hx111_3 hx111_4 hx111_5 hHeld ⊢
          refine pv 0 (some 55) (bm 11 1) HT_ ?_
          refine pv 1 (some 56) (bm 11 3) HT_ ?_
          refine pv 2 (some 57) (bm 11 7) HT_ ?_
          refine pv 3 (some 58) (bm 11 15) HT_ ?_
          refine pv 4 (some 59) (bm 11 31) HT_ ?_
          refine pv 6 (some 61) (bm 11 95) HT_ ?_
          refine tk 5 (some 60) (bm 11 127) HT_ HW_ hHeld ?_
          refine tk 7 (some 62) (bm 11 255) HT_ HW_ hHeld ?_
          refine pv 8 (some 63) (bm 11 511) HT_ ?_
          refine pv 9 (some 64) (bm 11 1023) HT_ ?_
          refine pv 10 (some 13) (bm 11 2047) HT_ ?_
          refine done_ (done_of HT_.out (by kernel_rfl)) ?_
          try go_wp2
          (try simp only [← hl25_1])
          go_roundg k1
          case measure => have:=HK1.out; omega
          case rel => exact ⟨(wrap64 (x13_1 + (wrap64 (((rd_T44 y110 x28_1).f5) - ((rd_T44 x25_1 x28_1).f5))))),(y110),(wrap64 (x28_1 + 1)),(by first | rfl | (simp; done) | (simp [*]; done)),(by first | rfl | (simp; done) | (simp [*]; done)),H',⟨by have:=HK1.out; omega⟩,⟨by (try simp only [hl25_1]); (with_reducible repeat (first | apply Kd.R_alloc | apply Kd.R_drewN | apply Kd.R_drew)); exact Kd.R_mono HO_25.out (fun _ hk => trivial)⟩,⟨by repeat (first | (with_reducible first | exact HB.out | apply below_alloc | apply pw_below_drewN | apply below_drew1 | refine below_set ?_ GE106.out) | exact HB.out)⟩⟩
        ·rw [if_neg c15] at H
         exact absurd H (by simp)
       ·rw [if_neg c14] at H
        exact absurd H (by simp)
      ·rw [if_neg c13] at H
       exact absurd H (by simp)
     ·rw [if_neg c12] at H
      exact absurd H (by simp)
    ·rw [if_neg c11] at H
     have c11b0 : decide (x28_1 < (t102.length : Int)) = false:=decide_eq_false c11
     have c11b9 : decide (x28_1 < (x25_1.length : Int)) = false:=decide_eq_false (by rw [← hl25_1]; exact c11)
     clear c11
     simp only [Option.some.injEq,Prod.mk.injEq] at H
     obtain ⟨rfl,rfl,rfl⟩:=H
     go_wp2
     go_ret3
     exact ⟨_,by first | rfl | (simp [errW_none,errW_some] <;> rfl) | (simp [*,errW_none,errW_some] <;> rfl),by (with_reducible repeat (first | apply Kd.R_alloc | apply Kd.R_drewN | apply Kd.R_drew)); exact HO_25.out,by repeat (first | (with_reducible first | exact HB.out | apply below_alloc | apply pw_below_drewN | apply below_drew1) | exact HB.out)⟩
 ·rw [if_neg c6] at H
  have c6b0 : (t101 == 0) = false:=beq_eq_false_iff_ne.mpr c6
  have c6b1 : (t101 != 0) = true:=bne_iff_ne.mpr c6
  simp only [Option.some.injEq,Prod.mk.injEq] at H
  obtain ⟨rfl,rfl,rfl⟩:=H
  go_enter Try.func29,Try.ntmps29
  go_wp2_with (first | ((with_reducible refine gate_callee (f:=53) rfl ?_); refine goesL_ (some 20) rfl rfl Try.func53 (by kernel_rfl) rfl #[.slice A0 l0.length c0,.slice A1 l1.length c1,.int .i64 a2,.int .i64 a3] rfl (by (try simp only [List.map_toArray,List.map_cons,List.map_nil]); first | done | rfl | (simp only [List.length_drop,List.length_take]; rfl)) ?_; (with_reducible refine (cargo_check.calls k _ _ l0 _ _ l1 a2 a3 t101 _ ?side1 ?side2 ?side3 ?side4 A5.out).mono ?_); (case side1 => repeat (first | exact HR0.out | (with_reducible refine Kd.C_alloc ?_ _) | (with_reducible refine Kd.C_drewN ?_ _) | (with_reducible refine Kd.C_drew ?_))); (case side2 => exact HC0.out); (case side3 => repeat (first | exact HR1.out | (with_reducible refine Kd.C_alloc ?_ _) | (with_reducible refine Kd.C_drewN ?_ _) | (with_reducible refine Kd.C_drew ?_))); (case side4 => exact HC1.out); rintro e w39 ⟨rfl,hb⟩; refine ⟨_,rfl,?_⟩; have n0_:=Aside0.mk (below_step (by repeat (first | (with_reducible first | exact HB.out | apply below_alloc | apply pw_below_drewN | apply below_drew1) | exact HB.out)) hb); clear HB; have HB:=n0_; clear n0_; (try clear hb); (try clear hb2); (try clear hk); (try clear hi)))
  go_ret3
  exact ⟨_,by first | rfl | (simp [errW_none,errW_some] <;> rfl) | (simp [*,errW_none,errW_some] <;> rfl),by first | exact Kd.R_nil _ _ _ _ _ | exact Kd.N_nil _ _ _ _ _ | exact Kd.V_nil _ _ _ _ _ | exact Kd.Q_nil _ _ _ _ _ | exact Kd.S_nil _ _ _ _ _,by repeat (first | (with_reducible first | exact HB.out | apply below_alloc | apply pw_below_drewN | apply below_drew1) | exact HB.out)⟩

end Go.Proofs.Ytmphplpfgjcpiaa.PCargo
