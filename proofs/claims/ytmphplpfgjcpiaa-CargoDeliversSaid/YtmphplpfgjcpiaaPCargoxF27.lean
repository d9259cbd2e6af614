/- Lean functions with the answers of the Go functions that a law uses,and for each that the Go code comes to just that; written by a program of this session's. -/
import Derived.Test.YtmphplpfgjcpiaaPCargox0
import Derived.Test.YtmphplpfgjcpiaaPCargoxF45
import Derived.Test.YtmphplpfgjcpiaaPCargoxF53
import Derived.Test.YtmphplpfgjcpiaaPCargoxF54
namespace Go.Proofs.Ytmphplpfgjcpiaa.PCargo
open Go.RowKit Go.Proofs.YtmphplpfgjcpiaaW.PrintWords Go.Proofs.YtmphplpfgjcpiaaW.PrintLast Go.Proofs.YtmphplpfgjcpiaaW.PrintMore
attribute [local go_sem] max2_int min2_int max_two min_two max_three min_three max_four min_four   -- for this text's walks alone
set_option linter.unusedVariables false
set_option linter.unusedSimpArgs false

/-! ### cargo_Deliver: function 27 -/
def cargo_Deliver.l0 : Nat → List (S23) → Int → Int → Int → Int → List (S44) → Int → Int → Option (Int × Int × Int)
 | 0,_,_,_,_,_,_,_,_ => none
 | k + 1,x0,x2,x3,x12,x13,x24,x25,x26 => if x26 < x25 then (if 0 ≤ x26 then (if x26 < (x24.length : Int) then (if 0 ≤ ((rd_T44 x24 x26).f0) then (if ((rd_T44 x24 x26).f0) < (x0.length : Int) then ((cargo_steps.f x2 ((rd_T44 x24 x26).f2) x3).bind fun t248 => ((cargo_paid.f ((rd_T23 x0 ((rd_T44 x24 x26).f0)).f0) ((rd_T23 x0 ((rd_T44 x24 x26).f0)).f1) ((rd_T23 x0 ((rd_T44 x24 x26).f0)).f2) ((rd_T23 x0 ((rd_T44 x24 x26).f0)).f3) ((rd_T44 x24 x26).f4) t248 ((rd_T44 x24 x26).f3)).bind fun t249 => (if (wrap64 (x12 + t249)) > 1000000000000 then (some (0,0,10)) else (cargo_Deliver.l0 k x0 x2 x3 (wrap64 (x12 + t249)) (mn (wrap64 (x13 + ((rd_T44 x24 x26).f5))) 1000000000000) x24 x25 (wrap64 (x26 + 1)))))) else (none)) else (none)) else (none)) else (none)) else (some (x12,mn x13 x12,0))
def cargo_Deliver.f (k : Nat) (l0 : List (S23)) (l1 : List (S44)) (a2 : Int) (a3 : Int) : Option (Int × Int × Int):=(cargo_check.f k l0 l1 a2 a3).bind fun t244 => (if t244 = 0 then (cargo_Deliver.l0 k l0 a2 a3 0 0 l1 (l1.length : Int) 0) else (some (0,0,t244)))
theorem cargo_Deliver.mono_l : ∀ k,(∀ y0 y1 y2 y3 y4 y5 y6 y7,LeO (cargo_Deliver.l0 k y0 y1 y2 y3 y4 y5 y6 y7) (cargo_Deliver.l0 (k + 1) y0 y1 y2 y3 y4 y5 y6 y7))
 | 0 => fun _ _ _ _ _ _ _ _ r h => by simp [cargo_Deliver.l0] at h
 | k + 1 => by
  have ih0:=cargo_Deliver.mono_l k
  ·intro y0 y1 y2 y3 y4 y5 y6 y7
   unfold cargo_Deliver.l0
   repeat' first
   | (with_reducible exact ih0 _ _ _ _ _ _ _ _)
   | (with_reducible exact cargo_check.mono _ _ _ _ _)
   | (with_reducible exact LeO.refl _)
   | (with_reducible exact LeO.none _)
   | (with_reducible refine LeO.ite ?_ ?_)
   | (with_reducible refine LeO.bind ?_ (fun _ => ?_))
   | exact ih0 _ _ _ _ _ _ _ _
   | exact cargo_check.mono _ _ _ _ _
   | exact LeO.none _
   | refine LeO.ite ?_ ?_
   | refine LeO.bind ?_ (fun _ => ?_)
theorem cargo_Deliver.mono : ∀ a0 a1 a2 a3 k,LeO (cargo_Deliver.f k a0 a1 a2 a3) (cargo_Deliver.f (k + 1) a0 a1 a2 a3):=by
 intro a0 a1 a2 a3 k
 have ih0:=cargo_Deliver.mono_l k
 unfold cargo_Deliver.f
 repeat' first
   | (with_reducible exact ih0 _ _ _ _ _ _ _ _)
   | (with_reducible exact cargo_check.mono _ _ _ _ _)
   | (with_reducible exact LeO.refl _)
   | (with_reducible exact LeO.none _)
   | (with_reducible refine LeO.ite ?_ ?_)
   | (with_reducible refine LeO.bind ?_ (fun _ => ?_))
   | exact ih0 _ _ _ _ _ _ _ _
   | exact cargo_check.mono _ _ _ _ _
   | exact LeO.none _
   | refine LeO.ite ?_ ?_
   | refine LeO.bind ?_ (fun _ => ?_)
def cargo_Deliver.T8 : Bool × List (List Nat × List Nat):=(true,[([],[]),([],[]),([],[]),([2],[2]),([1,3],[1,3]),([4],[4]),([],[]),([6],[6]),([],[]),([],[]),([9],[9]),([],[]),([8,10,11],[8,10,11]),([],[]),([13],[13]),([5,7,12,14,12],[5,7,12,14]),([0,15],[0,15]),([16,15,0,1,2,3,4,5,6,7,8,9,10,11,12,13,14,15,16],[0,16])])
def cargo_Deliver.B8 : List Nat:=[0,0,0,4,14,30,0,64,0,0,512,0,3840,0,8192,32766,65535,131071]
theorem cargo_Deliver.tab8 : rtab .any (opsOf Try.f27 8) = cargo_Deliver.T8:=by kernel_rfl
theorem cargo_Deliver.bits8 : waitsOk cargo_Deliver.T8.2 cargo_Deliver.B8 = true:=by kernel_rfl
set_option maxHeartbeats 8000000 in
set_option maxRecDepth 100000 in
theorem cargo_Deliver.calls (k : Nat) (A0 : Option Addr) (c0 : Nat) (l0 : List (S23)) (A1 : Option Addr) (c1 : Nat) (l1 : List (S44)) (a2 : Int) (a3 : Int) (r1 : Int) (r2 : Int) (r3 : Int) (w : World) (hr0 : Kd.C k23 w A0 l0.length l0) (hc0 : l0.length ≤ c0) (hr1 : Kd.C k44 w A1 l1.length l1) (hc1 : l1.length ≤ c1) (h : cargo_Deliver.f k l0 l1 a2 a3 = some (r1,r2,r3)) :
  Calls Try.prog 27 #[.slice A0 l0.length c0,.slice A1 l1.length c1,.int .i64 a2,.int .i64 a3] w fun e w' => e = .returned (.tuple #[.int .i64 r1,.int .i64 r2,.int .i64 r3]) ∧ Below w.heap.size w w':=by
 have hu44:=Try.underlying44
 have hu23:=Try.underlying23
 have HR0:=Aside0.mk hr0
 have HC0:=Aside0.mk hc0
 clear hr0 hc0
 have HR1:=Aside0.mk hr1
 have HC1:=Aside0.mk hc1
 clear hr1 hc1
 have HB:=Aside0.mk (Below.refl w.heap.size w)
 have H : ((cargo_check.f k l0 l1 a2 a3).bind fun t244 => (if t244 = 0 then (cargo_Deliver.l0 k l0 a2 a3 0 0 l1 (l1.length : Int) 0) else (some (0,0,t244)))) = some (r1,r2,r3):=h
 clear h
 replace H:=Option.bind_eq_some_iff.mp H
 obtain ⟨t244,A50,H⟩:=H
 replace H : (if t244 = 0 then (cargo_Deliver.l0 k l0 a2 a3 0 0 l1 (l1.length : Int) 0) else (some (0,0,t244))) = some (r1,r2,r3):=H
 have A5:=Aside0.mk A50
 clear A50
 by_cases c6 : t244 = 0
 ·rw [if_pos c6] at H
  have c6b0 : (t244 == 0) = true:=beq_iff_eq.mpr c6
  have c6b1 : (t244 != 0) = false:=bne_eq_false_iff_eq.mpr c6
  clear c6
  have H':=Aside0.mk H
  clear H
  go_enter Try.func27,Try.ntmps27
  go_wp2_with (first | ((with_reducible refine gate_callee (f:=53) rfl ?_); refine goesL_ (some 20) rfl rfl Try.func53 (by kernel_rfl) rfl #[.slice A0 l0.length c0,.slice A1 l1.length c1,.int .i64 a2,.int .i64 a3] rfl (by (try simp only [List.map_toArray,List.map_cons,List.map_nil]); first | done | rfl | (simp only [List.length_drop,List.length_take]; rfl)) ?_; (with_reducible refine (cargo_check.calls k _ _ l0 _ _ l1 a2 a3 t244 _ ?side1 ?side2 ?side3 ?side4 A5.out).mono ?_); (case side1 => repeat (first | exact HR0.out | (with_reducible refine Kd.C_alloc ?_ _) | (with_reducible refine Kd.C_drewN ?_ _) | (with_reducible refine Kd.C_drew ?_))); (case side2 => exact HC0.out); (case side3 => repeat (first | exact HR1.out | (with_reducible refine Kd.C_alloc ?_ _) | (with_reducible refine Kd.C_drewN ?_ _) | (with_reducible refine Kd.C_drew ?_))); (case side4 => exact HC1.out); rintro e w7 ⟨rfl,hb⟩; refine ⟨_,rfl,?_⟩; have n0_:=Aside0.mk (below_step (by repeat (first | (with_reducible first | exact HB.out | apply below_alloc | apply pw_below_drewN | apply below_drew1) | exact HB.out)) hb); clear HB; have HB:=n0_; clear n0_; (try clear hb); (try clear hb2); (try clear hk); (try clear hi)))
  go_loopg [12,13,26] k (fun kq v12 v13 v26 w' => ∃ (x12_1 : Int) (x13_1 : Int) (x26_1 : Int),v12 = .int .i64 x12_1 ∧ v13 = .int .i64 x13_1 ∧ v26 = .int .i64 x26_1 ∧ Aside0 (cargo_Deliver.l0 kq l0 a2 a3 x12_1 x13_1 l1 (l1.length : Int) x26_1 = some (r1,r2,r3)) ∧ Aside0 (kq ≤ k) ∧ Aside0 (Below w.heap.size w w'))
  case atStart => exact ⟨(0),(0),(0),(by first | rfl | (simp; done) | (simp [*]; done)),(by first | rfl | (simp; done) | (simp [*]; done)),(by first | rfl | (simp; done) | (simp [*]; done)),H',⟨Nat.le_refl _⟩,⟨by repeat (first | (with_reducible first | exact HB.out | apply below_alloc | apply pw_below_drewN | apply below_drew1) | exact HB.out)⟩⟩
  case round =>
   clear H'
   try clear c1
   try clear c2
   try clear p2
   try clear c5
   try clear c6
   try clear c6b0
   try clear c6b1
   obtain ⟨x12_1,x13_1,x26_1,rfl,rfl,rfl,HA,HK1,HB⟩:=hrel
   cases gk with
   | zero => exact absurd HA.out (by simp [cargo_Deliver.l0])
   | succ k1 =>
    have H:=HA.out
    clear HA
    simp only [cargo_Deliver.l0] at H
    by_cases c8 : x26_1 < (l1.length : Int)
    ·rw [if_pos c8] at H
     have c8b0 : decide (x26_1 < (l1.length : Int)) = true:=decide_eq_true c8
     clear c8
     by_cases c9 : 0 ≤ x26_1
     ·rw [if_pos c9] at H
      have c9b0 : decide (0 ≤ x26_1) = true:=decide_eq_true c9
      clear c9
      by_cases c10 : x26_1 < (l1.length : Int)
      ·rw [if_pos c10] at H
       have c10b0 : decide (x26_1 < (l1.length : Int)) = true:=decide_eq_true c10
       clear c10
       by_cases c11 : 0 ≤ ((rd_T44 l1 x26_1).f0)
       ·rw [if_pos c11] at H
        have c11b0 : decide (0 ≤ ((rd_T44 l1 x26_1).f0)) = true:=decide_eq_true c11
        clear c11
        by_cases c12 : ((rd_T44 l1 x26_1).f0) < (l0.length : Int)
        ·rw [if_pos c12] at H
         have c12b0 : decide (((rd_T44 l1 x26_1).f0) < (l0.length : Int)) = true:=decide_eq_true c12
         clear c12
         replace H:=Option.bind_eq_some_iff.mp H
         obtain ⟨t248,A130,H⟩:=H
         replace H : ((cargo_paid.f ((rd_T23 l0 ((rd_T44 l1 x26_1).f0)).f0) ((rd_T23 l0 ((rd_T44 l1 x26_1).f0)).f1) ((rd_T23 l0 ((rd_T44 l1 x26_1).f0)).f2) ((rd_T23 l0 ((rd_T44 l1 x26_1).f0)).f3) ((rd_T44 l1 x26_1).f4) t248 ((rd_T44 l1 x26_1).f3)).bind fun t249 => (if (wrap64 (x12_1 + t249)) > 1000000000000 then (some (0,0,10)) else (cargo_Deliver.l0 k1 l0 a2 a3 (wrap64 (x12_1 + t249)) (mn (wrap64 (x13_1 + ((rd_T44 l1 x26_1).f5))) 1000000000000) l1 (l1.length : Int) (wrap64 (x26_1 + 1))))) = some (r1,r2,r3):=H
         have A13:=Aside0.mk A130
         clear A130
         replace H:=Option.bind_eq_some_iff.mp H
         obtain ⟨t249,A140,H⟩:=H
         replace H : (if (wrap64 (x12_1 + t249)) > 1000000000000 then (some (0,0,10)) else (cargo_Deliver.l0 k1 l0 a2 a3 (wrap64 (x12_1 + t249)) (mn (wrap64 (x13_1 + ((rd_T44 l1 x26_1).f5))) 1000000000000) l1 (l1.length : Int) (wrap64 (x26_1 + 1)))) = some (r1,r2,r3):=H
         have A14:=Aside0.mk A140
         clear A140
         obtain ⟨ji15,hji15⟩ : ∃ j_ : Int,(mn (wrap64 (x13_1 + ((rd_T44 l1 x26_1).f5))) 1000000000000) = j_:=⟨_,rfl⟩
         replace H : (if (wrap64 (x12_1 + t249)) > 1000000000000 then (some (0,0,10)) else (cargo_Deliver.l0 k1 l0 a2 a3 (wrap64 (x12_1 + t249)) ji15 l1 (l1.length : Int) (wrap64 (x26_1 + 1)))) = some (r1,r2,r3):=by first | (rw [hji15] at H; exact H) | (simp only [hji15] at H ⊢; exact H)
         (try rw [hji15] at A13)
         (try rw [hji15] at A14)
         have hji15_ : (if 1000000000000 < (wrap64 (x13_1 + ((rd_T44 l1 x26_1).f5))) then 1000000000000 else (wrap64 (x13_1 + ((rd_T44 l1 x26_1).f5)))) = ji15:=hji15
         by_cases c16 : (wrap64 (x12_1 + t249)) > 1000000000000
         ·rw [if_pos c16] at H
          have c16b0 : decide (1000000000000 < (wrap64 (x12_1 + t249))) = true:=decide_eq_true c16
          clear c16
          simp only [Option.some.injEq,Prod.mk.injEq] at H
          obtain ⟨rfl,rfl,rfl⟩:=H
          have p245 : 0 ≤ (x26_1 : Int):=of_decide_eq_true (by first | (with_reducible assumption) | assumption)
          have q245 : x26_1 < (l1.length : Int):=of_decide_eq_true (by first | (with_reducible assumption) | assumption)
          obtain ⟨ad245,e245,hx245_0,hx245_1,hx245_2,hx245_3,hx245_4,hx245_5⟩:=at_T44 HR1.out x26_1 p245 q245
          cases e245
          replace hx245_0:=(HB.out.cell (World.block_lt_of_cell? w _ hx245_0)).trans hx245_0
          replace hx245_1:=(HB.out.cell (World.block_lt_of_cell? w _ hx245_1)).trans hx245_1
          replace hx245_2:=(HB.out.cell (World.block_lt_of_cell? w _ hx245_2)).trans hx245_2
          replace hx245_3:=(HB.out.cell (World.block_lt_of_cell? w _ hx245_3)).trans hx245_3
          replace hx245_4:=(HB.out.cell (World.block_lt_of_cell? w _ hx245_4)).trans hx245_4
          replace hx245_5:=(HB.out.cell (World.block_lt_of_cell? w _ hx245_5)).trans hx245_5
          replace p245:=eq_true p245
          replace q245:=eq_true q245
          try go_wp2_with (first | ((with_reducible refine gate_dst (N:=15) rfl ?_); refine box_event ?hg (N:=15) ?hd (cs:=#[.int .i64 0,.int .i64 0,.int .i64 0,.int .i64 0,.int .i64 0,.int .i64 0]) (t:=44) ?hr ?_; (case hd => rfl); (case hg => rfl); (case hr => first | (go_simp; done) | (go_simp; rfl)); intro gb246 hg w17 hbox hb; have n0_:=Aside0.mk (below_step (by repeat (first | (with_reducible first | exact HB.out | apply below_alloc | apply pw_below_drewN | apply below_drew1) | exact HB.out)) hb); have n1_:=Aside0.mk (hbox); have n2_:=Aside0.mk ((by rw [hg]; exact (below_size (by repeat (first | (with_reducible first | exact HB.out | apply below_alloc | apply pw_below_drewN | apply below_drew1) | exact HB.out))) : w.heap.size ≤ gb246)); have n3_:=Aside0.mk ((by rw [hg]; exact (below_size (by repeat (first | (with_reducible first | exact HB.out | apply below_alloc | apply pw_below_drewN | apply below_drew1) | exact HB.out))) : w.heap.size ≤ gb246)); clear HB; have HB:=n0_; have BK246:=n1_; have GW246:=n2_; have GE246:=n3_; clear n0_ n1_ n2_ n3_; clear hb hbox hg; have hcz18_0 : w17.cell? ⟨gb246,0,none⟩ = some (.int .i64 0):=(blk_cell BK246.out 0).trans rfl; have hcz18_1 : w17.cell? ⟨gb246,1,none⟩ = some (.int .i64 0):=(blk_cell BK246.out 1).trans rfl; have hcz18_2 : w17.cell? ⟨gb246,2,none⟩ = some (.int .i64 0):=(blk_cell BK246.out 2).trans rfl; have hcz18_3 : w17.cell? ⟨gb246,3,none⟩ = some (.int .i64 0):=(blk_cell BK246.out 3).trans rfl; have hcz18_4 : w17.cell? ⟨gb246,4,none⟩ = some (.int .i64 0):=(blk_cell BK246.out 4).trans rfl; have hcz18_5 : w17.cell? ⟨gb246,5,none⟩ = some (.int .i64 0):=(blk_cell BK246.out 5).trans rfl; have hfz18_0:=blk_frozen BK246.out 0; have hfz18_1:=blk_frozen BK246.out 1; have hfz18_2:=blk_frozen BK246.out 2; have hfz18_3:=blk_frozen BK246.out 3; have hfz18_4:=blk_frozen BK246.out 4; have hfz18_5:=blk_frozen BK246.out 5))
          have n0_ : Aside0 (((((((w17.setCell ⟨gb246,0,none⟩ (.int .i64 ((rd_T44 l1 x26_1).f0))).setCell ⟨gb246,1,none⟩ (.int .i64 ((rd_T44 l1 x26_1).f1))).setCell ⟨gb246,2,none⟩ (.int .i64 ((rd_T44 l1 x26_1).f2))).setCell ⟨gb246,3,none⟩ (.int .i64 ((rd_T44 l1 x26_1).f3))).setCell ⟨gb246,4,none⟩ (.int .i64 ((rd_T44 l1 x26_1).f4))).setCell ⟨gb246,5,none⟩ (.int .i64 ((rd_T44 l1 x26_1).f5))).heap[gb246]? = some (.cells #[.int .i64 ((rd_T44 l1 x26_1).f0),.int .i64 ((rd_T44 l1 x26_1).f1),.int .i64 ((rd_T44 l1 x26_1).f2),.int .i64 ((rd_T44 l1 x26_1).f3),.int .i64 ((rd_T44 l1 x26_1).f4),.int .i64 ((rd_T44 l1 x26_1).f5)] 44 (0,0))):=⟨by (with_reducible repeat (first | refine blk_drewN ?_ _ | refine blk_drew ?_ | refine blk_alloc ?_ _)); refine blk_put (cs:=#[.int .i64 ((rd_T44 l1 x26_1).f0),.int .i64 ((rd_T44 l1 x26_1).f1),.int .i64 ((rd_T44 l1 x26_1).f2),.int .i64 ((rd_T44 l1 x26_1).f3),.int .i64 ((rd_T44 l1 x26_1).f4),.int .i64 0]) ?_ 5 _ rfl; (with_reducible repeat (first | refine blk_drewN ?_ _ | refine blk_drew ?_ | refine blk_alloc ?_ _)); refine blk_put (cs:=#[.int .i64 ((rd_T44 l1 x26_1).f0),.int .i64 ((rd_T44 l1 x26_1).f1),.int .i64 ((rd_T44 l1 x26_1).f2),.int .i64 ((rd_T44 l1 x26_1).f3),.int .i64 0,.int .i64 0]) ?_ 4 _ rfl; (with_reducible repeat (first | refine blk_drewN ?_ _ | refine blk_drew ?_ | refine blk_alloc ?_ _)); refine blk_put (cs:=#[.int .i64 ((rd_T44 l1 x26_1).f0),.int .i64 ((rd_T44 l1 x26_1).f1),.int .i64 ((rd_T44 l1 x26_1).f2),.int .i64 0,.int .i64 0,.int .i64 0]) ?_ 3 _ rfl; (with_reducible repeat (first | refine blk_drewN ?_ _ | refine blk_drew ?_ | refine blk_alloc ?_ _)); refine blk_put (cs:=#[.int .i64 ((rd_T44 l1 x26_1).f0),.int .i64 ((rd_T44 l1 x26_1).f1),.int .i64 0,.int .i64 0,.int .i64 0,.int .i64 0]) ?_ 2 _ rfl; (with_reducible repeat (first | refine blk_drewN ?_ _ | refine blk_drew ?_ | refine blk_alloc ?_ _)); refine blk_put (cs:=#[.int .i64 ((rd_T44 l1 x26_1).f0),.int .i64 0,.int .i64 0,.int .i64 0,.int .i64 0,.int .i64 0]) ?_ 1 _ rfl; (with_reducible repeat (first | refine blk_drewN ?_ _ | refine blk_drew ?_ | refine blk_alloc ?_ _)); refine blk_put (cs:=#[.int .i64 0,.int .i64 0,.int .i64 0,.int .i64 0,.int .i64 0,.int .i64 0]) ?_ 0 _ rfl; (with_reducible repeat (first | refine blk_drewN ?_ _ | refine blk_drew ?_ | refine blk_alloc ?_ _)); exact BK246.out⟩
          have n1_ : Aside0 (Below w.heap.size w ((((((w17.setCell ⟨gb246,0,none⟩ (.int .i64 ((rd_T44 l1 x26_1).f0))).setCell ⟨gb246,1,none⟩ (.int .i64 ((rd_T44 l1 x26_1).f1))).setCell ⟨gb246,2,none⟩ (.int .i64 ((rd_T44 l1 x26_1).f2))).setCell ⟨gb246,3,none⟩ (.int .i64 ((rd_T44 l1 x26_1).f3))).setCell ⟨gb246,4,none⟩ (.int .i64 ((rd_T44 l1 x26_1).f4))).setCell ⟨gb246,5,none⟩ (.int .i64 ((rd_T44 l1 x26_1).f5)))):=⟨by repeat (first | (with_reducible first | exact HB.out | apply below_alloc | apply pw_below_drewN | apply below_drew1 | refine below_set ?_ GE246.out) | exact HB.out)⟩
          (try clear BK246)
          (try clear HB)
          generalize ((((((w17.setCell ⟨gb246,0,none⟩ (.int .i64 ((rd_T44 l1 x26_1).f0))).setCell ⟨gb246,1,none⟩ (.int .i64 ((rd_T44 l1 x26_1).f1))).setCell ⟨gb246,2,none⟩ (.int .i64 ((rd_T44 l1 x26_1).f2))).setCell ⟨gb246,3,none⟩ (.int .i64 ((rd_T44 l1 x26_1).f3))).setCell ⟨gb246,4,none⟩ (.int .i64 ((rd_T44 l1 x26_1).f4))).setCell ⟨gb246,5,none⟩ (.int .i64 ((rd_T44 l1 x26_1).f5))) = w19 at n0_ n1_ ⊢
          have BK246:=n0_
          have HB:=n1_
          clear n0_ n1_
          have n0_:=Aside0.mk (blk_drew BK246.out)
          have n1_:=Aside0.mk (below_drew1 HB.out)
          clear BK246
          clear HB
          have BK246:=n0_
          have HB:=n1_
          clear n0_ n1_
          have p247 : 0 ≤ (((rd_T44 l1 x26_1).f0) : Int):=of_decide_eq_true (by first | (with_reducible assumption) | assumption)
          have q247 : ((rd_T44 l1 x26_1).f0) < (l0.length : Int):=of_decide_eq_true (by first | (with_reducible assumption) | assumption)
          obtain ⟨ad247,e247,hx247_0,hx247_1,hx247_2,hx247_3⟩:=at_T23 HR0.out ((rd_T44 l1 x26_1).f0) p247 q247
          have hw247_3:=hx247_3
          have hw247_2:=hx247_2
          have hw247_1:=hx247_1
          have hw247_0:=hx247_0
          cases e247
          replace hx247_0:=(HB.out.cell (World.block_lt_of_cell? w _ hx247_0)).trans hx247_0
          replace hx247_1:=(HB.out.cell (World.block_lt_of_cell? w _ hx247_1)).trans hx247_1
          replace hx247_2:=(HB.out.cell (World.block_lt_of_cell? w _ hx247_2)).trans hx247_2
          replace hx247_3:=(HB.out.cell (World.block_lt_of_cell? w _ hx247_3)).trans hx247_3
          replace p247:=eq_true p247
          replace q247:=eq_true q247
          refine start_ (n:=18) (S:=fun w' => w'.cell? ⟨gb246,0,none⟩ = some (.int .i64 ((rd_T44 l1 x26_1).f0)) ∧ w'.cell? ⟨gb246,1,none⟩ = some (.int .i64 ((rd_T44 l1 x26_1).f1)) ∧ w'.cell? ⟨gb246,2,none⟩ = some (.int .i64 ((rd_T44 l1 x26_1).f2)) ∧ w'.cell? ⟨gb246,3,none⟩ = some (.int .i64 ((rd_T44 l1 x26_1).f3)) ∧ w'.cell? ⟨gb246,4,none⟩ = some (.int .i64 ((rd_T44 l1 x26_1).f4)) ∧ w'.cell? ⟨gb246,5,none⟩ = some (.int .i64 ((rd_T44 l1 x26_1).f5)) ∧ w'.cell? (ad247.add ((((rd_T44 l1 x26_1).f0)).toNat * 4)) = some (.string ((rd_T23 l0 ((rd_T44 l1 x26_1).f0)).f0)) ∧ w'.cell? ⟨(ad247.add ((((rd_T44 l1 x26_1).f0)).toNat * 4)).block,(ad247.add ((((rd_T44 l1 x26_1).f0)).toNat * 4)).off + 1,none⟩ = some (.int .i64 ((rd_T23 l0 ((rd_T44 l1 x26_1).f0)).f1)) ∧ w'.cell? ⟨(ad247.add ((((rd_T44 l1 x26_1).f0)).toNat * 4)).block,(ad247.add ((((rd_T44 l1 x26_1).f0)).toNat * 4)).off + 2,none⟩ = some (.int .i64 ((rd_T23 l0 ((rd_T44 l1 x26_1).f0)).f2)) ∧ w'.cell? ⟨(ad247.add ((((rd_T44 l1 x26_1).f0)).toNat * 4)).block,(ad247.add ((((rd_T44 l1 x26_1).f0)).toNat * 4)).off + 3,none⟩ = some (.int .i64 ((rd_T23 l0 ((rd_T44 l1 x26_1).f0)).f3))) (ds:=[]) (bm 18 0) (by kernel_rfl) rfl (by kernel_rfl) ⟨(blk_cell BK246.out 0).trans rfl,(blk_cell BK246.out 1).trans rfl,(blk_cell BK246.out 2).trans rfl,(blk_cell BK246.out 3).trans rfl,(blk_cell BK246.out 4).trans rfl,(blk_cell BK246.out 5).trans rfl,((HB.out.cell (World.block_lt_of_cell? w _ hw247_0)).trans hw247_0),((HB.out.cell (World.block_lt_of_cell? w _ hw247_1)).trans hw247_1),((HB.out.cell (World.block_lt_of_cell? w _ hw247_2)).trans hw247_2),((HB.out.cell (World.block_lt_of_cell? w _ hw247_3)).trans hw247_3)⟩ (fun hHeld => ?_); refine with_tabW cargo_Deliver.tab8 cargo_Deliver.bits8 (fun HT_ HW_ => ?_)
          generalize w19.drew = w20 at BK246 HB hx247_0 hx247_1 hx247_2 hx247_3 hHeld ⊢
          refine pv 0 (some 30) (bm 18 1) HT_ ?_
          refine pv 1 (some 31) (bm 18 3) HT_ ?_
          refine pv 2 (some 32) (bm 18 7) HT_ ?_
          refine pv 6 (some 36) (bm 18 71) HT_ ?_
          refine pv 8 (some 38) (bm 18 327) HT_ ?_
          refine pv 9 (some 39) (bm 18 839) HT_ ?_
          refine pv 11 (some 41) (bm 18 2887) HT_ ?_
          refine pv 13 (some 43) (bm 18 11079) HT_ ?_
          refine tk 3 (some 33) (bm 18 11087) HT_ HW_ hHeld ?_
          refine pv 4 (some 34) (bm 18 11103) HT_ ?_
          refine tk 5 (some 35) (bm 18 11135) HT_ HW_ hHeld ?_
          refine tk 7 (some 37) (bm 18 11263) HT_ HW_ hHeld ?_
          refine tk 10 (some 40) (bm 18 12287) HT_ HW_ hHeld ?_
          refine tk 14 (some 44) (bm 18 28671) HT_ HW_ hHeld ?_
          refine ck 12 (some 42) (bm 18 32767) HT_ (fun K hK => ?_)
          refine gs Try.func54 #[.int .i64 a2,.int .i64 ((rd_T44 l1 x26_1).f2),.int .i64 a3] ?_
          with_reducible refine (cargo_steps.calls a2 ((rd_T44 l1 x26_1).f2) a3 t248 _ A13.out).mono ?_
          rintro e w21 ⟨rfl,hb⟩
          refine ⟨_,rfl,?_⟩
          have n0_:=Aside0.mk (blk_below (g:=gb246) (o:=.cells #[.int .i64 ((rd_T44 l1 x26_1).f0),.int .i64 ((rd_T44 l1 x26_1).f1),.int .i64 ((rd_T44 l1 x26_1).f2),.int .i64 ((rd_T44 l1 x26_1).f3),.int .i64 ((rd_T44 l1 x26_1).f4),.int .i64 ((rd_T44 l1 x26_1).f5)] 44 (0,0)) (by (with_reducible repeat (first | refine blk_drewN ?_ _ | refine blk_drew ?_ | refine blk_alloc ?_ _)); exact BK246.out) hb)
          have n1_:=Aside0.mk (below_step (by repeat (first | (with_reducible first | exact HB.out | apply below_alloc | apply pw_below_drewN | apply below_drew1 | refine below_set ?_ GE246.out) | exact HB.out)) hb)
          clear BK246
          clear HB
          have BK246:=n0_
          have HB:=n1_
          clear n0_ n1_
          (try clear hb)
          (try clear hb2)
          (try clear hk)
          (try clear hi)
          refine hK.out _ _ ⟨(blk_cell BK246.out 0).trans rfl,(blk_cell BK246.out 1).trans rfl,(blk_cell BK246.out 2).trans rfl,(blk_cell BK246.out 3).trans rfl,(blk_cell BK246.out 4).trans rfl,(blk_cell BK246.out 5).trans rfl,((HB.out.cell (World.block_lt_of_cell? w _ hw247_0)).trans hw247_0),((HB.out.cell (World.block_lt_of_cell? w _ hw247_1)).trans hw247_1),((HB.out.cell (World.block_lt_of_cell? w _ hw247_2)).trans hw247_2),((HB.out.cell (World.block_lt_of_cell? w _ hw247_3)).trans hw247_3)⟩ (fun hHeld => ?_)
          clear hK K
          refine nm ?_
          refine ck 15 (some 45) (bm 18 65535) HT_ (fun K hK => ?_)
          refine gs Try.func45 #[.agg #[.string ((rd_T23 l0 ((rd_T44 l1 x26_1).f0)).f0),.int .i64 ((rd_T23 l0 ((rd_T44 l1 x26_1).f0)).f1),.int .i64 ((rd_T23 l0 ((rd_T44 l1 x26_1).f0)).f2),.int .i64 ((rd_T23 l0 ((rd_T44 l1 x26_1).f0)).f3)],.int .i64 ((rd_T44 l1 x26_1).f4),.int .i64 t248,.int .i64 ((rd_T44 l1 x26_1).f3)] ?_
          with_reducible refine (cargo_paid.calls ((rd_T23 l0 ((rd_T44 l1 x26_1).f0)).f0) ((rd_T23 l0 ((rd_T44 l1 x26_1).f0)).f1) ((rd_T23 l0 ((rd_T44 l1 x26_1).f0)).f2) ((rd_T23 l0 ((rd_T44 l1 x26_1).f0)).f3) ((rd_T44 l1 x26_1).f4) t248 ((rd_T44 l1 x26_1).f3) t249 _ A14.out).mono ?_
          rintro e w22 ⟨rfl,hb⟩
          refine ⟨_,rfl,?_⟩
          have n0_:=Aside0.mk (blk_below (g:=gb246) (o:=.cells #[.int .i64 ((rd_T44 l1 x26_1).f0),.int .i64 ((rd_T44 l1 x26_1).f1),.int .i64 ((rd_T44 l1 x26_1).f2),.int .i64 ((rd_T44 l1 x26_1).f3),.int .i64 ((rd_T44 l1 x26_1).f4),.int .i64 ((rd_T44 l1 x26_1).f5)] 44 (0,0)) (by (with_reducible repeat (first | refine blk_drewN ?_ _ | refine blk_drew ?_ | refine blk_alloc ?_ _)); exact BK246.out) hb)
          have n1_:=Aside0.mk (below_step (by repeat (first | (with_reducible first | exact HB.out | apply below_alloc | apply pw_below_drewN | apply below_drew1 | refine below_set ?_ GE246.out) | exact HB.out)) hb)
          clear BK246
          clear HB
          have BK246:=n0_
          have HB:=n1_
          clear n0_ n1_
          (try clear hb)
          (try clear hb2)
          (try clear hk)
          (try clear hi)
          refine hK.out _ _ ⟨(blk_cell BK246.out 0).trans rfl,(blk_cell BK246.out 1).trans rfl,(blk_cell BK246.out 2).trans rfl,(blk_cell BK246.out 3).trans rfl,(blk_cell BK246.out 4).trans rfl,(blk_cell BK246.out 5).trans rfl,((HB.out.cell (World.block_lt_of_cell? w _ hw247_0)).trans hw247_0),((HB.out.cell (World.block_lt_of_cell? w _ hw247_1)).trans hw247_1),((HB.out.cell (World.block_lt_of_cell? w _ hw247_2)).trans hw247_2),((HB.out.cell (World.block_lt_of_cell? w _ hw247_3)).trans hw247_3)⟩ (fun hHeld => ?_)
          clear hK K
          refine nm ?_
          refine pv 16 (some 46) (bm 18 131071) HT_ ?_
          refine pv 17 (some 12) (bm 18 262143) HT_ ?_
          refine done_ (done_of HT_.out (by kernel_rfl)) ?_
          have hcz23_0 : w22.cell? ⟨gb246,0,none⟩ = some (.int .i64 ((rd_T44 l1 x26_1).f0)):=(blk_cell BK246.out 0).trans rfl
          have hcz23_1 : w22.cell? ⟨gb246,1,none⟩ = some (.int .i64 ((rd_T44 l1 x26_1).f1)):=(blk_cell BK246.out 1).trans rfl
          have hcz23_2 : w22.cell? ⟨gb246,2,none⟩ = some (.int .i64 ((rd_T44 l1 x26_1).f2)):=(blk_cell BK246.out 2).trans rfl
          have hcz23_3 : w22.cell? ⟨gb246,3,none⟩ = some (.int .i64 ((rd_T44 l1 x26_1).f3)):=(blk_cell BK246.out 3).trans rfl
          have hcz23_4 : w22.cell? ⟨gb246,4,none⟩ = some (.int .i64 ((rd_T44 l1 x26_1).f4)):=(blk_cell BK246.out 4).trans rfl
          have hcz23_5 : w22.cell? ⟨gb246,5,none⟩ = some (.int .i64 ((rd_T44 l1 x26_1).f5)):=(blk_cell BK246.out 5).trans rfl
          have hfz23_0:=blk_frozen BK246.out 0
          have hfz23_1:=blk_frozen BK246.out 1
          have hfz23_2:=blk_frozen BK246.out 2
          have hfz23_3:=blk_frozen BK246.out 3
          have hfz23_4:=blk_frozen BK246.out 4
          have hfz23_5:=blk_frozen BK246.out 5
          try go_wp2
          go_ret3
          exact ⟨by first | rfl | (simp [errW_none,errW_some] <;> rfl) | (simp only [← hji15]; first | rfl | (simp [errW_none,errW_some] <;> rfl)) | (simp [*,errW_none,errW_some] <;> rfl),by repeat (first | (with_reducible first | exact HB.out | apply below_alloc | apply pw_below_drewN | apply below_drew1 | refine below_set ?_ GE246.out) | exact HB.out)⟩
         ·rw [if_neg c16] at H
          have c16b0 : decide (1000000000000 < (wrap64 (x12_1 + t249))) = false:=decide_eq_false c16
          clear c16
          have H':=Aside0.mk H
          clear H
          have p245 : 0 ≤ (x26_1 : Int):=of_decide_eq_true (by first | (with_reducible assumption) | assumption)
          have q245 : x26_1 < (l1.length : Int):=of_decide_eq_true (by first | (with_reducible assumption) | assumption)
          obtain ⟨ad245,e245,hx245_0,hx245_1,hx245_2,hx245_3,hx245_4,hx245_5⟩:=at_T44 HR1.out x26_1 p245 q245
          cases e245
          replace hx245_0:=(HB.out.cell (World.block_lt_of_cell? w _ hx245_0)).trans hx245_0
          replace hx245_1:=(HB.out.cell (World.block_lt_of_cell? w _ hx245_1)).trans hx245_1
          replace hx245_2:=(HB.out.cell (World.block_lt_of_cell? w _ hx245_2)).trans hx245_2
          replace hx245_3:=(HB.out.cell (World.block_lt_of_cell? w _ hx245_3)).trans hx245_3
          replace hx245_4:=(HB.out.cell (World.block_lt_of_cell? w _ hx245_4)).trans hx245_4
          replace hx245_5:=(HB.out.cell (World.block_lt_of_cell? w _ hx245_5)).trans hx245_5
          replace p245:=eq_true p245
          replace q245:=eq_true q245
          try go_wp2_with (first | ((with_reducible refine gate_dst (N:=15) rfl ?_); refine box_event ?hg (N:=15) ?hd (cs:=#[.int .i64 0,.int .i64 0,.int .i64 0,.int .i64 0,.int .i64 0,.int .i64 0]) (t:=44) ?hr ?_; (case hd => rfl); (case hg => rfl); (case hr => first | (go_simp; done) | (go_simp; rfl)); intro gb246 hg w24 hbox hb; have n0_:=Aside0.mk (below_step (by repeat (first | (with_reducible first | exact HB.out | apply below_alloc | apply pw_below_drewN | apply below_drew1) | exact HB.out)) hb); have n1_:=Aside0.mk (hbox); have n2_:=Aside0.mk ((by rw [hg]; exact (below_size (by repeat (first | (with_reducible first | exact HB.out | apply below_alloc | apply pw_below_drewN | apply below_drew1) | exact HB.out))) : w.heap.size ≤ gb246)); have n3_:=Aside0.mk ((by rw [hg]; exact (below_size (by repeat (first | (with_reducible first | exact HB.out | apply below_alloc | apply pw_below_drewN | apply below_drew1) | exact HB.out))) : w.heap.size ≤ gb246)); clear HB; have HB:=n0_; have BK246:=n1_; have GW246:=n2_; have GE246:=n3_; clear n0_ n1_ n2_ n3_; clear hb hbox hg; have hcz25_0 : w24.cell? ⟨gb246,0,none⟩ = some (.int .i64 0):=(blk_cell BK246.out 0).trans rfl; have hcz25_1 : w24.cell? ⟨gb246,1,none⟩ = some (.int .i64 0):=(blk_cell BK246.out 1).trans rfl; have hcz25_2 : w24.cell? ⟨gb246,2,none⟩ = some (.int .i64 0):=(blk_cell BK246.out 2).trans rfl; have hcz25_3 : w24.cell? ⟨gb246,3,none⟩ = some (.int .i64 0):=(blk_cell BK246.out 3).trans rfl; have hcz25_4 : w24.cell? ⟨gb246,4,none⟩ = some (.int .i64 0):=(blk_cell BK246.out 4).trans rfl; have hcz25_5 : w24.cell? ⟨gb246,5,none⟩ = some (.int .i64 0):=(blk_cell BK246.out 5).trans rfl; have hfz25_0:=blk_frozen BK246.out 0; have hfz25_1:=blk_frozen BK246.out 1; have hfz25_2:=blk_frozen BK246.out 2; have hfz25_3:=blk_frozen BK246.out 3; have hfz25_4:=blk_frozen BK246.out 4; have hfz25_5:=blk_frozen BK246.out 5))
          have n0_ : Aside0 (((((((w24.setCell ⟨gb246,0,none⟩ (.int .i64 ((rd_T44 l1 x26_1).f0))).setCell ⟨gb246,1,none⟩ (.int .i64 ((rd_T44 l1 x26_1).f1))).setCell ⟨gb246,2,none⟩ (.int .i64 ((rd_T44 l1 x26_1).f2))).setCell ⟨gb246,3,none⟩ (.int .i64 ((rd_T44 l1 x26_1).f3))).setCell ⟨gb246,4,none⟩ (.int .i64 ((rd_T44 l1 x26_1).f4))).setCell ⟨gb246,5,none⟩ (.int .i64 ((rd_T44 l1 x26_1).f5))).heap[gb246]? = some (.cells #[.int .i64 ((rd_T44 l1 x26_1).f0),.int .i64 ((rd_T44 l1 x26_1).f1),.int .i64 ((rd_T44 l1 x26_1).f2),.int .i64 ((rd_T44 l1 x26_1).f3),.int .i64 ((rd_T44 l1 x26_1).f4),.int .i64 ((rd_T44 l1 x26_1).f5)] 44 (0,0))):=⟨by (with_reducible repeat (first | refine blk_drewN ?_ _ | refine blk_drew ?_ | refine blk_alloc ?_ _)); refine blk_put (cs:=#[.int .i64 ((rd_T44 l1 x26_1).f0),.int .i64 ((rd_T44 l1 x26_1).f1),.int .i64 ((rd_T44 l1 x26_1).f2),.int .i64 ((rd_T44 l1 x26_1).f3),.int .i64 ((rd_T44 l1 x26_1).f4),.int .i64 0]) ?_ 5 _ rfl; (with_reducible repeat (first | refine blk_drewN ?_ _ | refine blk_drew ?_ | refine blk_alloc ?_ _)); refine blk_put (cs:=#[.int .i64 ((rd_T44 l1 x26_1).f0),.int .i64 ((rd_T44 l1 x26_1).f1),.int .i64 ((rd_T44 l1 x26_1).f2),.int .i64 ((rd_T44 l1 x26_1).f3),.int .i64 0,.int .i64 0]) ?_ 4 _ rfl; (with_reducible repeat (first | refine blk_drewN ?_ _ | refine blk_drew ?_ | refine blk_alloc ?_ _)); refine blk_put (cs:=#[.int .i64 ((rd_T44 l1 x26_1).f0),.int .i64 ((rd_T44 l1 x26_1).f1),.int .i64 ((rd_T44 l1 x26_1).f2),.int .i64 0,.int .i64 0,.int .i64 0]) ?_ 3 _ rfl; (with_reducible repeat (first | refine blk_drewN ?_ _ | refine blk_drew ?_ | refine blk_alloc ?_ _)); refine blk_put (cs:=#[.int .i64 ((rd_T44 l1 x26_1).f0),.int .i64 ((rd_T44 l1 x26_1).f1),.int .i64 0,.int .i64 0,.int .i64 0,.int .i64 0]) ?_ 2 _ rfl; (with_reducible repeat (first | refine blk_drewN ?_ _ | refine blk_drew ?_ | refine blk_alloc ?_ _)); refine blk_put (cs:=#[.int .i64 ((rd_T44 l1 x26_1).f0),.int .i64 0,.int .i64 0,.int .i64 0,.int .i64 0,.int .i64 0]) ?_ 1 _ rfl; (with_reducible repeat (first | refine blk_drewN ?_ _ | refine blk_drew ?_ | refine blk_alloc ?_ _)); refine blk_put (cs:=#[.int .i64 0,.int .i64 0,.int .i64 0,.int .i64 0,.int .i64 0,.int .i64 0]) ?_ 0 _ rfl; (with_reducible repeat (first | refine blk_drewN ?_ _ | refine blk_drew ?_ | refine blk_alloc ?_ _)); exact BK246.out⟩
          have n1_ : Aside0 (Below w.heap.size w ((((((w24.setCell ⟨gb246,0,none⟩ (.int .i64 ((rd_T44 l1 x26_1).f0))).setCell ⟨gb246,1,none⟩ (.int .i64 ((rd_T44 l1 x26_1).f1))).setCell ⟨gb246,2,none⟩ (.int .i64 ((rd_T44 l1 x26_1).f2))).setCell ⟨gb246,3,none⟩ (.int .i64 ((rd_T44 l1 x26_1).f3))).setCell ⟨gb246,4,none⟩ (.int .i64 ((rd_T44 l1 x26_1).f4))).setCell ⟨gb246,5,none⟩ (.int .i64 ((rd_T44 l1 x26_1).f5)))):=⟨by repeat (first | (with_reducible first | exact HB.out | apply below_alloc | apply pw_below_drewN | apply below_drew1 | refine below_set ?_ GE246.out) | exact HB.out)⟩
          (try clear BK246)
          (try clear HB)
          generalize ((((((w24.setCell ⟨gb246,0,none⟩ (.int .i64 ((rd_T44 l1 x26_1).f0))).setCell ⟨gb246,1,none⟩ (.int .i64 ((rd_T44 l1 x26_1).f1))).setCell ⟨gb246,2,none⟩ (.int .i64 ((rd_T44 l1 x26_1).f2))).setCell ⟨gb246,3,none⟩ (.int .i64 ((rd_T44 l1 x26_1).f3))).setCell ⟨gb246,4,none⟩ (.int .i64 ((rd_T44 l1 x26_1).f4))).setCell ⟨gb246,5,none⟩ (.int .i64 ((rd_T44 l1 x26_1).f5))) = w26 at n0_ n1_ ⊢
          have BK246:=n0_
          have HB:=n1_
          clear n0_ n1_
          have n0_:=Aside0.mk (blk_drew BK246.out)
          have n1_:=Aside0.mk (below_drew1 HB.out)
          clear BK246
          clear HB
          have BK246:=n0_
          have HB:=n1_
          clear n0_ n1_
          have p247 : 0 ≤ (((rd_T44 l1 x26_1).f0) : Int):=of_decide_eq_true (by first | (with_reducible assumption) | assumption)
          have q247 : ((rd_T44 l1 x26_1).f0) < (l0.length : Int):=of_decide_eq_true (by first | (with_reducible assumption) | assumption)
          obtain ⟨ad247,e247,hx247_0,hx247_1,hx247_2,hx247_3⟩:=at_T23 HR0.out ((rd_T44 l1 x26_1).f0) p247 q247
          have hw247_3:=hx247_3
          have hw247_2:=hx247_2
          have hw247_1:=hx247_1
          have hw247_0:=hx247_0
          cases e247
          replace hx247_0:=(HB.out.cell (World.block_lt_of_cell? w _ hx247_0)).trans hx247_0
          replace hx247_1:=(HB.out.cell (World.block_lt_of_cell? w _ hx247_1)).trans hx247_1
          replace hx247_2:=(HB.out.cell (World.block_lt_of_cell? w _ hx247_2)).trans hx247_2
          replace hx247_3:=(HB.out.cell (World.block_lt_of_cell? w _ hx247_3)).trans hx247_3
          replace p247:=eq_true p247
          replace q247:=eq_true q247
          refine start_ (n:=18) (S:=fun w' => w'.cell? ⟨gb246,0,none⟩ = some (.int .i64 ((rd_T44 l1 x26_1).f0)) ∧ w'.cell? ⟨gb246,1,none⟩ = some (.int .i64 ((rd_T44 l1 x26_1).f1)) ∧ w'.cell? ⟨gb246,2,none⟩ = some (.int .i64 ((rd_T44 l1 x26_1).f2)) ∧ w'.cell? ⟨gb246,3,none⟩ = some (.int .i64 ((rd_T44 l1 x26_1).f3)) ∧ w'.cell? ⟨gb246,4,none⟩ = some (.int .i64 ((rd_T44 l1 x26_1).f4)) ∧ w'.cell? ⟨gb246,5,none⟩ = some (.int .i64 ((rd_T44 l1 x26_1).f5)) ∧ w'.cell? (ad247.add ((((rd_T44 l1 x26_1).f0)).toNat * 4)) = some (.string ((rd_T23 l0 ((rd_T44 l1 x26_1).f0)).f0)) ∧ w'.cell? ⟨(ad247.add ((((rd_T44 l1 x26_1).f0)).toNat * 4)).block,(ad247.add ((((rd_T44 l1 x26_1).f0)).toNat * 4)).off + 1,none⟩ = some (.int .i64 ((rd_T23 l0 ((rd_T44 l1 x26_1).f0)).f1)) ∧ w'.cell? ⟨(ad247.add ((((rd_T44 l1 x26_1).f0)).toNat * 4)).block,(ad247.add ((((rd_T44 l1 x26_1).f0)).toNat * 4)).off + 2,none⟩ = some (.int .i64 ((rd_T23 l0 ((rd_T44 l1 x26_1).f0)).f2)) ∧ w'.cell? ⟨(ad247.add ((((rd_T44 l1 x26_1).f0)).toNat * 4)).block,(ad247.add ((((rd_T44 l1 x26_1).f0)).toNat * 4)).off + 3,none⟩ = some (.int .i64 ((rd_T23 l0 ((rd_T44 l1 x26_1).f0)).f3))) (ds:=[]) (bm 18 0) (by kernel_rfl) rfl (by kernel_rfl) ⟨(blk_cell BK246.out 0).trans rfl,(blk_cell BK246.out 1).trans rfl,(blk_cell BK246.out 2).trans rfl,(blk_cell BK246.out 3).trans rfl,(blk_cell BK246.out 4).trans rfl,(blk_cell BK246.out 5).trans rfl,((HB.out.cell (World.block_lt_of_cell? w _ hw247_0)).trans hw247_0),((HB.out.cell (World.block_lt_of_cell? w _ hw247_1)).trans hw247_1),((HB.out.cell (World.block_lt_of_cell? w _ hw247_2)).trans hw247_2),((HB.out.cell (World.block_lt_of_cell? w _ hw247_3)).trans hw247_3)⟩ (fun hHeld => ?_); refine with_tabW cargo_Deliver.tab8 cargo_Deliver.bits8 (fun HT_ HW_ => ?_)
          generalize w26.drew = w27 at BK246 HB hx247_0 hx247_1 hx247_2 hx247_3 hHeld ⊢
          refine pv 0 (some 30) (bm 18 1) HT_ ?_
          refine pv 1 (some 31) (bm 18 3) HT_ ?_
          refine pv 2 (some 32) (bm 18 7) HT_ ?_
          refine pv 6 (some 36) (bm 18 71) HT_ ?_
          refine pv 8 (some 38) (bm 18 327) HT_ ?_
          refine pv 9 (some 39) (bm 18 839) HT_ ?_
          refine pv 11 (some 41) (bm 18 2887) HT_ ?_
          refine pv 13 (some 43) (bm 18 11079) HT_ ?_
          refine tk 3 (some 33) (bm 18 11087) HT_ HW_ hHeld ?_
          refine pv 4 (some 34) (bm 18 11103) HT_ ?_
          refine tk 5 (some 35) (bm 18 11135) HT_ HW_ hHeld ?_
          refine tk 7 (some 37) (bm 18 11263) HT_ HW_ hHeld ?_
          refine tk 10 (some 40) (bm 18 12287) HT_ HW_ hHeld ?_
          refine tk 14 (some 44) (bm 18 28671) HT_ HW_ hHeld ?_
          refine ck 12 (some 42) (bm 18 32767) HT_ (fun K hK => ?_)
          refine gs Try.func54 #[.int .i64 a2,.int .i64 ((rd_T44 l1 x26_1).f2),.int .i64 a3] ?_
          with_reducible refine (cargo_steps.calls a2 ((rd_T44 l1 x26_1).f2) a3 t248 _ A13.out).mono ?_
          rintro e w28 ⟨rfl,hb⟩
          refine ⟨_,rfl,?_⟩
          have n0_:=Aside0.mk (blk_below (g:=gb246) (o:=.cells #[.int .i64 ((rd_T44 l1 x26_1).f0),.int .i64 ((rd_T44 l1 x26_1).f1),.int .i64 ((rd_T44 l1 x26_1).f2),.int .i64 ((rd_T44 l1 x26_1).f3),.int .i64 ((rd_T44 l1 x26_1).f4),.int .i64 ((rd_T44 l1 x26_1).f5)] 44 (0,0)) (by (with_reducible repeat (first | refine blk_drewN ?_ _ | refine blk_drew ?_ | refine blk_alloc ?_ _)); exact BK246.out) hb)
          have n1_:=Aside0.mk (below_step (by repeat (first | (with_reducible first | exact HB.out | apply below_alloc | apply pw_below_drewN | apply below_drew1 | refine below_set ?_ GE246.out) | exact HB.out)) hb)
          clear BK246
          clear HB
          have BK246:=n0_
          have HB:=n1_
          clear n0_ n1_
          (try clear hb)
          (try clear hb2)
          (try clear hk)
          (try clear hi)
          refine hK.out _ _ ⟨(blk_cell BK246.out 0).trans rfl,(blk_cell BK246.out 1).trans rfl,(blk_cell BK246.out 2).trans rfl,(blk_cell BK246.out 3).trans rfl,(blk_cell BK246.out 4).trans rfl,(blk_cell BK246.out 5).trans rfl,((HB.out.cell (World.block_lt_of_cell? w _ hw247_0)).trans hw247_0),((HB.out.cell (World.block_lt_of_cell? w _ hw247_1)).trans hw247_1),((HB.out.cell (World.block_lt_of_cell? w _ hw247_2)).trans hw247_2),((HB.out.cell (World.block_lt_of_cell? w _ hw247_3)).trans hw247_3)⟩ (fun hHeld => ?_)
          clear hK K
          refine nm ?_
          refine ck 15 (some 45) (bm 18 65535) HT_ (fun K hK => ?_)
          refine gs Try.func45 #[.agg #[.string ((rd_T23 l0 ((rd_T44 l1 x26_1).f0)).f0),.int .i64 ((rd_T23 l0 ((rd_T44 l1 x26_1).f0)).f1),.int .i64 ((rd_T23 l0 ((rd_T44 l1 x26_1).f0)).f2),.int .i64 ((rd_T23 l0 ((rd_T44 l1 x26_1).f0)).f3)],.int .i64 ((rd_T44 l1 x26_1).f4),.int .i64 t248,.int .i64 ((rd_T44 l1 x26_1).f3)] ?_
          with_reducible refine (cargo_paid.calls ((rd_T23 l0 ((rd_T44 l1 x26_1).f0)).f0) ((rd_T23 l0 ((rd_T44 l1 x26_1).f0)).f1) ((rd_T23 l0 ((rd_T44 l1 x26_1).f0)).f2) ((rd_T23 l0 ((rd_T44 l1 x26_1).f0)).f3) ((rd_T44 l1 x26_1).f4) t248 ((rd_T44 l1 x26_1).f3) t249 _ A14.out).mono ?_
          rintro e w29 ⟨rfl,hb⟩
          refine ⟨_,rfl,?_⟩
          have n0_:=Aside0.mk (blk_below (g:=gb246) (o:=.cells #[.int .i64 ((rd_T44 l1 x26_1).f0),.int .i64 ((rd_T44 l1 x26_1).f1),.int .i64 ((rd_T44 l1 x26_1).f2),.int .i64 ((rd_T44 l1 x26_1).f3),.int .i64 ((rd_T44 l1 x26_1).f4),.int .i64 ((rd_T44 l1 x26_1).f5)] 44 (0,0)) (by (with_reducible repeat (first | refine blk_drewN ?_ _ | refine blk_drew ?_ | refine blk_alloc ?_ _)); exact BK246.out) hb)
          have n1_:=Aside0.mk (below_step (by repeat (first | (with_reducible first | exact HB.out | apply below_alloc | apply pw_below_drewN | apply below_drew1 | refine below_set ?_ GE246.out) | exact HB.out)) hb)
          clear BK246
          clear HB
          have BK246:=n0_
          have HB:=n1_
          clear n0_ n1_
          (try clear hb)
          (try clear hb2)
          (try clear hk)
          (try clear hi)
          refine hK.out _ _ ⟨(blk_cell BK246.out 0).trans rfl,(blk_cell BK246.out 1).trans rfl,(blk_cell BK246.out 2).trans rfl,(blk_cell BK246.out 3).trans rfl,(blk_cell BK246.out 4).trans rfl,(blk_cell BK246.out 5).trans rfl,((HB.out.cell (World.block_lt_of_cell? w _ hw247_0)).trans hw247_0),((HB.out.cell (World.block_lt_of_cell? w _ hw247_1)).trans hw247_1),((HB.out.cell (World.block_lt_of_cell? w _ hw247_2)).trans hw247_2),((HB.out.cell (World.block_lt_of_cell? w _ hw247_3)).trans hw247_3)⟩ (fun hHeld => ?_)
          clear hK K
          refine nm ?_
          refine pv 16 (some 46) (bm 18 131071) HT_ ?_
          refine pv 17 (some 12) (bm 18 262143) HT_ ?_
          refine done_ (done_of HT_.out (by kernel_rfl)) ?_
          have hcz30_0 : w29.cell? ⟨gb246,0,none⟩ = some (.int .i64 ((rd_T44 l1 x26_1).f0)):=(blk_cell BK246.out 0).trans rfl
          have hcz30_1 : w29.cell? ⟨gb246,1,none⟩ = some (.int .i64 ((rd_T44 l1 x26_1).f1)):=(blk_cell BK246.out 1).trans rfl
          have hcz30_2 : w29.cell? ⟨gb246,2,none⟩ = some (.int .i64 ((rd_T44 l1 x26_1).f2)):=(blk_cell BK246.out 2).trans rfl
          have hcz30_3 : w29.cell? ⟨gb246,3,none⟩ = some (.int .i64 ((rd_T44 l1 x26_1).f3)):=(blk_cell BK246.out 3).trans rfl
          have hcz30_4 : w29.cell? ⟨gb246,4,none⟩ = some (.int .i64 ((rd_T44 l1 x26_1).f4)):=(blk_cell BK246.out 4).trans rfl
          have hcz30_5 : w29.cell? ⟨gb246,5,none⟩ = some (.int .i64 ((rd_T44 l1 x26_1).f5)):=(blk_cell BK246.out 5).trans rfl
          have hfz30_0:=blk_frozen BK246.out 0
          have hfz30_1:=blk_frozen BK246.out 1
          have hfz30_2:=blk_frozen BK246.out 2
          have hfz30_3:=blk_frozen BK246.out 3
          have hfz30_4:=blk_frozen BK246.out 4
          have hfz30_5:=blk_frozen BK246.out 5
          try go_wp2
          go_roundg k1
          case measure => have:=HK1.out; omega
          case rel => exact ⟨(wrap64 (x12_1 + t249)),(ji15),(wrap64 (x26_1 + 1)),(by first | rfl | (simp; done) | (simp [*]; done)),(by first | rfl | (simp; done) | (simp only [← hji15] <;> (first | rfl | simp)) | (simp [*]; done)),(by first | rfl | (simp; done) | (simp [*]; done)),H',⟨by have:=HK1.out; omega⟩,⟨by repeat (first | (with_reducible first | exact HB.out | apply below_alloc | apply pw_below_drewN | apply below_drew1 | refine below_set ?_ GE246.out) | exact HB.out)⟩⟩
        ·rw [if_neg c12] at H
         exact absurd H (by simp)
       ·rw [if_neg c11] at H
        exact absurd H (by simp)
      ·rw [if_neg c10] at H
       exact absurd H (by simp)
     ·rw [if_neg c9] at H
      exact absurd H (by simp)
    ·rw [if_neg c8] at H
     have c8b0 : decide (x26_1 < (l1.length : Int)) = false:=decide_eq_false c8
     clear c8
     obtain ⟨ji31,hji31⟩ : ∃ j_ : Int,(mn x13_1 x12_1) = j_:=⟨_,rfl⟩
     replace H : (some (x12_1,ji31,0)) = some (r1,r2,r3):=by first | (rw [hji31] at H; exact H) | (simp only [hji31] at H ⊢; exact H)
     have hji31_ : (if x12_1 < x13_1 then x12_1 else x13_1) = ji31:=hji31
     simp only [Option.some.injEq,Prod.mk.injEq] at H
     obtain ⟨rfl,rfl,rfl⟩:=H
     go_wp2
     go_ret3
     exact ⟨by first | rfl | (simp [errW_none,errW_some] <;> rfl) | (simp only [← hji31]; first | rfl | (simp [errW_none,errW_some] <;> rfl)) | (simp [*,errW_none,errW_some] <;> rfl),by repeat (first | (with_reducible first | exact HB.out | apply below_alloc | apply pw_below_drewN | apply below_drew1) | exact HB.out)⟩
 ·rw [if_neg c6] at H
  have c6b0 : (t244 == 0) = false:=beq_eq_false_iff_ne.mpr c6
  have c6b1 : (t244 != 0) = true:=bne_iff_ne.mpr c6
  simp only [Option.some.injEq,Prod.mk.injEq] at H
  obtain ⟨rfl,rfl,rfl⟩:=H
  go_enter Try.func27,Try.ntmps27
  go_wp2_with (first | ((with_reducible refine gate_callee (f:=53) rfl ?_); refine goesL_ (some 20) rfl rfl Try.func53 (by kernel_rfl) rfl #[.slice A0 l0.length c0,.slice A1 l1.length c1,.int .i64 a2,.int .i64 a3] rfl (by (try simp only [List.map_toArray,List.map_cons,List.map_nil]); first | done | rfl | (simp only [List.length_drop,List.length_take]; rfl)) ?_; (with_reducible refine (cargo_check.calls k _ _ l0 _ _ l1 a2 a3 t244 _ ?side1 ?side2 ?side3 ?side4 A5.out).mono ?_); (case side1 => repeat (first | exact HR0.out | (with_reducible refine Kd.C_alloc ?_ _) | (with_reducible refine Kd.C_drewN ?_ _) | (with_reducible refine Kd.C_drew ?_))); (case side2 => exact HC0.out); (case side3 => repeat (first | exact HR1.out | (with_reducible refine Kd.C_alloc ?_ _) | (with_reducible refine Kd.C_drewN ?_ _) | (with_reducible refine Kd.C_drew ?_))); (case side4 => exact HC1.out); rintro e w32 ⟨rfl,hb⟩; refine ⟨_,rfl,?_⟩; have n0_:=Aside0.mk (below_step (by repeat (first | (with_reducible first | exact HB.out | apply below_alloc | apply pw_below_drewN | apply below_drew1) | exact HB.out)) hb); clear HB; have HB:=n0_; clear n0_; (try clear hb); (try clear hb2); (try clear hk); (try clear hi)))
  go_ret3
  exact ⟨by first | rfl | (simp [errW_none,errW_some] <;> rfl) | (simp [*,errW_none,errW_some] <;> rfl),by repeat (first | (with_reducible first | exact HB.out | apply below_alloc | apply pw_below_drewN | apply below_drew1) | exact HB.out)⟩

end Go.Proofs.Ytmphplpfgjcpiaa.PCargo
