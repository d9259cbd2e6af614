/- Lean functions with the answers of the Go functions that a law uses,and for each that the Go code comes to just that; written by a program of this session's. -/
import Derived.Test.YtmphplpfgjcpiaaPCargox0
import Derived.Test.YtmphplpfgjcpiaaPCargoxF43
import Derived.Test.YtmphplpfgjcpiaaPCargoxF51
import Derived.Test.YtmphplpfgjcpiaaPCargoxF52
namespace Go.Proofs.Ytmphplpfgjcpiaa.PCargo
open Go.RowKit Go.Proofs.YtmphplpfgjcpiaaW.PrintWords Go.Proofs.YtmphplpfgjcpiaaW.PrintLast Go.Proofs.YtmphplpfgjcpiaaW.PrintMore
attribute [local go_sem] max2_int min2_int max_two min_two max_three min_three max_four min_four   -- for this text's walks alone
set_option linter.unusedVariables false
set_option linter.unusedSimpArgs false

/-! ### hinterlandref09_Deliver: function 26 -/
def hinterlandref09_Deliver.l0 : Nat → List (S23) → List (S44) → Int → Int → Int → Int → Int → Option (Int × Int × Int)
 | 0,_,_,_,_,_,_,_ => none
 | k + 1,x0,x1,x2,x3,x12,x13,x14 => if x14 < (x1.length : Int) then (if 0 ≤ x14 then (if 0 ≤ ((rd_T44 x1 x14).f0) then (if ((rd_T44 x1 x14).f0) < (x0.length : Int) then ((hinterlandref09_Far.f ((rd_T44 x1 x14).f2) x3 x2).bind fun t232 => ((hinterlandref09_pay.f ((rd_T23 x0 ((rd_T44 x1 x14).f0)).f0) ((rd_T23 x0 ((rd_T44 x1 x14).f0)).f1) ((rd_T23 x0 ((rd_T44 x1 x14).f0)).f2) ((rd_T23 x0 ((rd_T44 x1 x14).f0)).f3) ((rd_T44 x1 x14).f4) (mn 1000000 t232) ((rd_T44 x1 x14).f3)).bind fun t233 => (if (wrap64 (x12 + t233)) > 1000000000000 then (some (0,0,10)) else (hinterlandref09_Deliver.l0 k x0 x1 x2 x3 (wrap64 (x12 + t233)) (wrap64 (x13 + ((rd_T44 x1 x14).f5))) (wrap64 (x14 + 1)))))) else (none)) else (none)) else (none)) else (some (x12,mn x12 x13,0))
def hinterlandref09_Deliver.f (k : Nat) (l0 : List (S23)) (l1 : List (S44)) (a2 : Int) (a3 : Int) : Option (Int × Int × Int):=(hinterlandref09_judge.f k l0 l1 a2 a3).bind fun t228 => (if t228 = 0 then (hinterlandref09_Deliver.l0 k l0 l1 a2 a3 0 0 0) else (some (0,0,t228)))
theorem hinterlandref09_Deliver.mono_l : ∀ k,(∀ y0 y1 y2 y3 y4 y5 y6,LeO (hinterlandref09_Deliver.l0 k y0 y1 y2 y3 y4 y5 y6) (hinterlandref09_Deliver.l0 (k + 1) y0 y1 y2 y3 y4 y5 y6))
 | 0 => fun _ _ _ _ _ _ _ r h => by simp [hinterlandref09_Deliver.l0] at h
 | k + 1 => by
  have ih0:=hinterlandref09_Deliver.mono_l k
  ·intro y0 y1 y2 y3 y4 y5 y6
   unfold hinterlandref09_Deliver.l0
   repeat' first
   | (with_reducible exact ih0 _ _ _ _ _ _ _)
   | (with_reducible exact hinterlandref09_judge.mono _ _ _ _ _)
   | (with_reducible exact LeO.refl _)
   | (with_reducible exact LeO.none _)
   | (with_reducible refine LeO.ite ?_ ?_)
   | (with_reducible refine LeO.bind ?_ (fun _ => ?_))
   | exact ih0 _ _ _ _ _ _ _
   | exact hinterlandref09_judge.mono _ _ _ _ _
   | exact LeO.none _
   | refine LeO.ite ?_ ?_
   | refine LeO.bind ?_ (fun _ => ?_)
theorem hinterlandref09_Deliver.mono : ∀ a0 a1 a2 a3 k,LeO (hinterlandref09_Deliver.f k a0 a1 a2 a3) (hinterlandref09_Deliver.f (k + 1) a0 a1 a2 a3):=by
 intro a0 a1 a2 a3 k
 have ih0:=hinterlandref09_Deliver.mono_l k
 unfold hinterlandref09_Deliver.f
 repeat' first
   | (with_reducible exact ih0 _ _ _ _ _ _ _)
   | (with_reducible exact hinterlandref09_judge.mono _ _ _ _ _)
   | (with_reducible exact LeO.refl _)
   | (with_reducible exact LeO.none _)
   | (with_reducible refine LeO.ite ?_ ?_)
   | (with_reducible refine LeO.bind ?_ (fun _ => ?_))
   | exact ih0 _ _ _ _ _ _ _
   | exact hinterlandref09_judge.mono _ _ _ _ _
   | exact LeO.none _
   | refine LeO.ite ?_ ?_
   | refine LeO.bind ?_ (fun _ => ?_)
def hinterlandref09_Deliver.T9 : Bool × List (List Nat × List Nat):=(true,[([],[]),([],[]),([],[]),([2],[2]),([1,3],[1,3]),([4],[4]),([],[]),([6],[6]),([],[]),([8],[8]),([],[]),([],[]),([9,10,11],[9,10,11]),([12],[12]),([],[]),([14],[14]),([5,7,13,15,12],[5,7,13,15]),([0,16],[0,16]),([17,16,0,1,2,3,4,5,6,7,8,9,10,11,12,13,14,15,16,17],[0,17])])
def hinterlandref09_Deliver.B9 : List Nat:=[0,0,0,4,14,30,0,64,0,256,0,0,3840,7936,0,16384,65534,131071,262143]
theorem hinterlandref09_Deliver.tab9 : rtab .any (opsOf Try.f26 9) = hinterlandref09_Deliver.T9:=by kernel_rfl
theorem hinterlandref09_Deliver.bits9 : waitsOk hinterlandref09_Deliver.T9.2 hinterlandref09_Deliver.B9 = true:=by kernel_rfl
set_option maxHeartbeats 8000000 in
set_option maxRecDepth 100000 in
theorem hinterlandref09_Deliver.calls (k : Nat) (A0 : Option Addr) (c0 : Nat) (l0 : List (S23)) (A1 : Option Addr) (c1 : Nat) (l1 : List (S44)) (a2 : Int) (a3 : Int) (r1 : Int) (r2 : Int) (r3 : Int) (w : World) (hr0 : Kd.C k23 w A0 l0.length l0) (hc0 : l0.length ≤ c0) (hr1 : Kd.C k44 w A1 l1.length l1) (hc1 : l1.length ≤ c1) (h : hinterlandref09_Deliver.f k l0 l1 a2 a3 = some (r1,r2,r3)) :
  Calls Try.prog 26 #[.slice A0 l0.length c0,.slice A1 l1.length c1,.int .i64 a2,.int .i64 a3] w fun e w' => e = .returned (.tuple #[.int .i64 r1,.int .i64 r2,.int .i64 r3]) ∧ Below w.heap.size w w':=by
 have hu44:=Try.underlying44
 have hu23:=Try.underlying23
 have HR0:=Aside0.mk hr0
 have HC0:=Aside0.mk hc0
 clear hr0 hc0
 have HR1:=Aside0.mk hr1
 have HC1:=Aside0.mk hc1
 clear hr1 hc1
 have HB:=Aside0.mk (Below.refl w.heap.size w)
 have H : ((hinterlandref09_judge.f k l0 l1 a2 a3).bind fun t228 => (if t228 = 0 then (hinterlandref09_Deliver.l0 k l0 l1 a2 a3 0 0 0) else (some (0,0,t228)))) = some (r1,r2,r3):=h
 clear h
 replace H:=Option.bind_eq_some_iff.mp H
 obtain ⟨t228,A50,H⟩:=H
 replace H : (if t228 = 0 then (hinterlandref09_Deliver.l0 k l0 l1 a2 a3 0 0 0) else (some (0,0,t228))) = some (r1,r2,r3):=H
 have A5:=Aside0.mk A50
 clear A50
 by_cases c6 : t228 = 0
 ·rw [if_pos c6] at H
  have c6b0 : (t228 == 0) = true:=beq_iff_eq.mpr c6
  have c6b1 : (t228 != 0) = false:=bne_eq_false_iff_eq.mpr c6
  clear c6
  have H':=Aside0.mk H
  clear H
  go_enter Try.func26,Try.ntmps26
  go_wp2_with (first | ((with_reducible refine gate_callee (f:=51) rfl ?_); refine goesL_ (some 20) rfl rfl Try.func51 (by kernel_rfl) rfl #[.slice A0 l0.length c0,.slice A1 l1.length c1,.int .i64 a2,.int .i64 a3] rfl (by (try simp only [List.map_toArray,List.map_cons,List.map_nil]); first | done | rfl | (simp only [List.length_drop,List.length_take]; rfl)) ?_; (with_reducible refine (hinterlandref09_judge.calls k _ _ l0 _ _ l1 a2 a3 t228 _ ?side1 ?side2 ?side3 ?side4 A5.out).mono ?_); (case side1 => repeat (first | exact HR0.out | (with_reducible refine Kd.C_alloc ?_ _) | (with_reducible refine Kd.C_drewN ?_ _) | (with_reducible refine Kd.C_drew ?_))); (case side2 => exact HC0.out); (case side3 => repeat (first | exact HR1.out | (with_reducible refine Kd.C_alloc ?_ _) | (with_reducible refine Kd.C_drewN ?_ _) | (with_reducible refine Kd.C_drew ?_))); (case side4 => exact HC1.out); rintro e w7 ⟨rfl,hb⟩; refine ⟨_,rfl,?_⟩; have n0_:=Aside0.mk (below_step (by repeat (first | (with_reducible first | exact HB.out | apply below_alloc | apply pw_below_drewN | apply below_drew1) | exact HB.out)) hb); clear HB; have HB:=n0_; clear n0_; (try clear hb); (try clear hb2); (try clear hk); (try clear hi)))
  go_loopg [12,13,14] k (fun kq v12 v13 v14 w' => ∃ (x12_1 : Int) (x13_1 : Int) (x14_1 : Int),v12 = .int .i64 x12_1 ∧ v13 = .int .i64 x13_1 ∧ v14 = .int .i64 x14_1 ∧ Aside0 (hinterlandref09_Deliver.l0 kq l0 l1 a2 a3 x12_1 x13_1 x14_1 = some (r1,r2,r3)) ∧ Aside0 (kq ≤ k) ∧ Aside0 (Below w.heap.size w w'))
  case atStart => exact ⟨(0),(0),(0),(by first | rfl | (simp; done) | (simp [*]; done)),(by first | rfl | (simp; done) | (simp [*]; done)),(by first | rfl | (simp; done) | (simp [*]; done)),H',⟨Nat.le_refl _⟩,⟨by repeat (first | (with_reducible first | exact HB.out | apply below_alloc | apply pw_below_drewN | apply below_drew1) | exact HB.out)⟩⟩
  case round =>
   clear H'
   try clear c1
   try clear c2
   try clear p2
   try clear c5
   try clear c6
   try clear c6b0
   try clear c6b1
   obtain ⟨x12_1,x13_1,x14_1,rfl,rfl,rfl,HA,HK1,HB⟩:=hrel
   cases gk with
   | zero => exact absurd HA.out (by simp [hinterlandref09_Deliver.l0])
   | succ k1 =>
    have H:=HA.out
    clear HA
    simp only [hinterlandref09_Deliver.l0] at H
    by_cases c8 : x14_1 < (l1.length : Int)
    ·rw [if_pos c8] at H
     have c8b0 : decide (x14_1 < (l1.length : Int)) = true:=decide_eq_true c8
     clear c8
     by_cases c9 : 0 ≤ x14_1
     ·rw [if_pos c9] at H
      have c9b0 : decide (0 ≤ x14_1) = true:=decide_eq_true c9
      clear c9
      by_cases c10 : 0 ≤ ((rd_T44 l1 x14_1).f0)
      ·rw [if_pos c10] at H
       have c10b0 : decide (0 ≤ ((rd_T44 l1 x14_1).f0)) = true:=decide_eq_true c10
       clear c10
       by_cases c11 : ((rd_T44 l1 x14_1).f0) < (l0.length : Int)
       ·rw [if_pos c11] at H
        have c11b0 : decide (((rd_T44 l1 x14_1).f0) < (l0.length : Int)) = true:=decide_eq_true c11
        clear c11
        replace H:=Option.bind_eq_some_iff.mp H
        obtain ⟨t232,A120,H⟩:=H
        replace H : ((hinterlandref09_pay.f ((rd_T23 l0 ((rd_T44 l1 x14_1).f0)).f0) ((rd_T23 l0 ((rd_T44 l1 x14_1).f0)).f1) ((rd_T23 l0 ((rd_T44 l1 x14_1).f0)).f2) ((rd_T23 l0 ((rd_T44 l1 x14_1).f0)).f3) ((rd_T44 l1 x14_1).f4) (mn 1000000 t232) ((rd_T44 l1 x14_1).f3)).bind fun t233 => (if (wrap64 (x12_1 + t233)) > 1000000000000 then (some (0,0,10)) else (hinterlandref09_Deliver.l0 k1 l0 l1 a2 a3 (wrap64 (x12_1 + t233)) (wrap64 (x13_1 + ((rd_T44 l1 x14_1).f5))) (wrap64 (x14_1 + 1))))) = some (r1,r2,r3):=H
        have A12:=Aside0.mk A120
        clear A120
        obtain ⟨ji13,hji13⟩ : ∃ j_ : Int,(mn 1000000 t232) = j_:=⟨_,rfl⟩
        replace H : ((hinterlandref09_pay.f ((rd_T23 l0 ((rd_T44 l1 x14_1).f0)).f0) ((rd_T23 l0 ((rd_T44 l1 x14_1).f0)).f1) ((rd_T23 l0 ((rd_T44 l1 x14_1).f0)).f2) ((rd_T23 l0 ((rd_T44 l1 x14_1).f0)).f3) ((rd_T44 l1 x14_1).f4) (ji13) ((rd_T44 l1 x14_1).f3)).bind fun t233 => (if (wrap64 (x12_1 + t233)) > 1000000000000 then (some (0,0,10)) else (hinterlandref09_Deliver.l0 k1 l0 l1 a2 a3 (wrap64 (x12_1 + t233)) (wrap64 (x13_1 + ((rd_T44 l1 x14_1).f5))) (wrap64 (x14_1 + 1))))) = some (r1,r2,r3):=by first | (rw [hji13] at H; exact H) | (simp only [hji13] at H ⊢; exact H)
        (try rw [hji13] at A12)
        (try (have hji13h : ji13 ≤ 1000000:=by (rw [← hji13]; unfold mn; (repeat' split) <;> omega)))
        (try (have hji13g : ji13 ≤ 64:=by omega))
        have hji13_ : (if t232 < 1000000 then t232 else 1000000) = ji13:=hji13
        replace H:=Option.bind_eq_some_iff.mp H
        obtain ⟨t233,A140,H⟩:=H
        replace H : (if (wrap64 (x12_1 + t233)) > 1000000000000 then (some (0,0,10)) else (hinterlandref09_Deliver.l0 k1 l0 l1 a2 a3 (wrap64 (x12_1 + t233)) (wrap64 (x13_1 + ((rd_T44 l1 x14_1).f5))) (wrap64 (x14_1 + 1)))) = some (r1,r2,r3):=H
        have A14:=Aside0.mk A140
        clear A140
        by_cases c15 : (wrap64 (x12_1 + t233)) > 1000000000000
        ·rw [if_pos c15] at H
         have c15b0 : decide (1000000000000 < (wrap64 (x12_1 + t233))) = true:=decide_eq_true c15
         clear c15
         simp only [Option.some.injEq,Prod.mk.injEq] at H
         obtain ⟨rfl,rfl,rfl⟩:=H
         have p229 : 0 ≤ (x14_1 : Int):=of_decide_eq_true (by first | (with_reducible assumption) | assumption)
         have q229 : x14_1 < (l1.length : Int):=of_decide_eq_true (by first | (with_reducible assumption) | assumption)
         obtain ⟨ad229,e229,hx229_0,hx229_1,hx229_2,hx229_3,hx229_4,hx229_5⟩:=at_T44 HR1.out x14_1 p229 q229
         cases e229
         replace hx229_0:=(HB.out.cell (World.block_lt_of_cell? w _ hx229_0)).trans hx229_0
         replace hx229_1:=(HB.out.cell (World.block_lt_of_cell? w _ hx229_1)).trans hx229_1
         replace hx229_2:=(HB.out.cell (World.block_lt_of_cell? w _ hx229_2)).trans hx229_2
         replace hx229_3:=(HB.out.cell (World.block_lt_of_cell? w _ hx229_3)).trans hx229_3
         replace hx229_4:=(HB.out.cell (World.block_lt_of_cell? w _ hx229_4)).trans hx229_4
         replace hx229_5:=(HB.out.cell (World.block_lt_of_cell? w _ hx229_5)).trans hx229_5
         replace p229:=eq_true p229
         replace q229:=eq_true q229
         try go_wp2_with (first | ((with_reducible refine gate_dst (N:=15) rfl ?_); refine box_event ?hg (N:=15) ?hd (cs:=#[.int .i64 0,.int .i64 0,.int .i64 0,.int .i64 0,.int .i64 0,.int .i64 0]) (t:=44) ?hr ?_; (case hd => rfl); (case hg => rfl); (case hr => first | (go_simp; done) | (go_simp; rfl)); intro gb230 hg w16 hbox hb; have n0_:=Aside0.mk (below_step (by repeat (first | (with_reducible first | exact HB.out | apply below_alloc | apply pw_below_drewN | apply below_drew1) | exact HB.out)) hb); have n1_:=Aside0.mk (hbox); have n2_:=Aside0.mk ((by rw [hg]; exact (below_size (by repeat (first | (with_reducible first | exact HB.out | apply below_alloc | apply pw_below_drewN | apply below_drew1) | exact HB.out))) : w.heap.size ≤ gb230)); have n3_:=Aside0.mk ((by rw [hg]; exact (below_size (by repeat (first | (with_reducible first | exact HB.out | apply below_alloc | apply pw_below_drewN | apply below_drew1) | exact HB.out))) : w.heap.size ≤ gb230)); clear HB; have HB:=n0_; have BK230:=n1_; have GW230:=n2_; have GE230:=n3_; clear n0_ n1_ n2_ n3_; clear hb hbox hg; have hcz17_0 : w16.cell? ⟨gb230,0,none⟩ = some (.int .i64 0):=(blk_cell BK230.out 0).trans rfl; have hcz17_1 : w16.cell? ⟨gb230,1,none⟩ = some (.int .i64 0):=(blk_cell BK230.out 1).trans rfl; have hcz17_2 : w16.cell? ⟨gb230,2,none⟩ = some (.int .i64 0):=(blk_cell BK230.out 2).trans rfl; have hcz17_3 : w16.cell? ⟨gb230,3,none⟩ = some (.int .i64 0):=(blk_cell BK230.out 3).trans rfl; have hcz17_4 : w16.cell? ⟨gb230,4,none⟩ = some (.int .i64 0):=(blk_cell BK230.out 4).trans rfl; have hcz17_5 : w16.cell? ⟨gb230,5,none⟩ = some (.int .i64 0):=(blk_cell BK230.out 5).trans rfl; have hfz17_0:=blk_frozen BK230.out 0; have hfz17_1:=blk_frozen BK230.out 1; have hfz17_2:=blk_frozen BK230.out 2; have hfz17_3:=blk_frozen BK230.out 3; have hfz17_4:=blk_frozen BK230.out 4; have hfz17_5:=blk_frozen BK230.out 5))
         have n0_ : Aside0 (((((((w16.setCell ⟨gb230,0,none⟩ (.int .i64 ((rd_T44 l1 x14_1).f0))).setCell ⟨gb230,1,none⟩ (.int .i64 ((rd_T44 l1 x14_1).f1))).setCell ⟨gb230,2,none⟩ (.int .i64 ((rd_T44 l1 x14_1).f2))).setCell ⟨gb230,3,none⟩ (.int .i64 ((rd_T44 l1 x14_1).f3))).setCell ⟨gb230,4,none⟩ (.int .i64 ((rd_T44 l1 x14_1).f4))).setCell ⟨gb230,5,none⟩ (.int .i64 ((rd_T44 l1 x14_1).f5))).heap[gb230]? = some (.cells #[.int .i64 ((rd_T44 l1 x14_1).f0),.int .i64 ((rd_T44 l1 x14_1).f1),.int .i64 ((rd_T44 l1 x14_1).f2),.int .i64 ((rd_T44 l1 x14_1).f3),.int .i64 ((rd_T44 l1 x14_1).f4),.int .i64 ((rd_T44 l1 x14_1).f5)] 44 (0,0))):=⟨by (with_reducible repeat (first | refine blk_drewN ?_ _ | refine blk_drew ?_ | refine blk_alloc ?_ _)); refine blk_put (cs:=#[.int .i64 ((rd_T44 l1 x14_1).f0),.int .i64 ((rd_T44 l1 x14_1).f1),.int .i64 ((rd_T44 l1 x14_1).f2),.int .i64 ((rd_T44 l1 x14_1).f3),.int .i64 ((rd_T44 l1 x14_1).f4),.int .i64 0]) ?_ 5 _ rfl; (with_reducible repeat (first | refine blk_drewN ?_ _ | refine blk_drew ?_ | refine blk_alloc ?_ _)); refine blk_put (cs:=#[.int .i64 ((rd_T44 l1 x14_1).f0),.int .i64 ((rd_T44 l1 x14_1).f1),.int .i64 ((rd_T44 l1 x14_1).f2),.int .i64 ((rd_T44 l1 x14_1).f3),.int .i64 0,.int .i64 0]) ?_ 4 _ rfl; (with_reducible repeat (first | refine blk_drewN ?_ _ | refine blk_drew ?_ | refine blk_alloc ?_ _)); refine blk_put (cs:=#[.int .i64 ((rd_T44 l1 x14_1).f0),.int .i64 ((rd_T44 l1 x14_1).f1),.int .i64 ((rd_T44 l1 x14_1).f2),.int .i64 0,.int .i64 0,.int .i64 0]) ?_ 3 _ rfl; (with_reducible repeat (first | refine blk_drewN ?_ _ | refine blk_drew ?_ | refine blk_alloc ?_ _)); refine blk_put (cs:=#[.int .i64 ((rd_T44 l1 x14_1).f0),.int .i64 ((rd_T44 l1 x14_1).f1),.int .i64 0,.int .i64 0,.int .i64 0,.int .i64 0]) ?_ 2 _ rfl; (with_reducible repeat (first | refine blk_drewN ?_ _ | refine blk_drew ?_ | refine blk_alloc ?_ _)); refine blk_put (cs:=#[.int .i64 ((rd_T44 l1 x14_1).f0),.int .i64 0,.int .i64 0,.int .i64 0,.int .i64 0,.int .i64 0]) ?_ 1 _ rfl; (with_reducible repeat (first | refine blk_drewN ?_ _ | refine blk_drew ?_ | refine blk_alloc ?_ _)); refine blk_put (cs:=#[.int .i64 0,.int .i64 0,.int .i64 0,.int .i64 0,.int .i64 0,.int .i64 0]) ?_ 0 _ rfl; (with_reducible repeat (first | refine blk_drewN ?_ _ | refine blk_drew ?_ | refine blk_alloc ?_ _)); exact BK230.out⟩
         have n1_ : Aside0 (Below w.heap.size w ((((((w16.setCell ⟨gb230,0,none⟩ (.int .i64 ((rd_T44 l1 x14_1).f0))).setCell ⟨gb230,1,none⟩ (.int .i64 ((rd_T44 l1 x14_1).f1))).setCell ⟨gb230,2,none⟩ (.int .i64 ((rd_T44 l1 x14_1).f2))).setCell ⟨gb230,3,none⟩ (.int .i64 ((rd_T44 l1 x14_1).f3))).setCell ⟨gb230,4,none⟩ (.int .i64 ((rd_T44 l1 x14_1).f4))).setCell ⟨gb230,5,none⟩ (.int .i64 ((rd_T44 l1 x14_1).f5)))):=⟨by repeat (first | (with_reducible first | exact HB.out | apply below_alloc | apply pw_below_drewN | apply below_drew1 | refine below_set ?_ GE230.out) | exact HB.out)⟩
         (try clear BK230)
         (try clear HB)
         generalize ((((((w16.setCell ⟨gb230,0,none⟩ (.int .i64 ((rd_T44 l1 x14_1).f0))).setCell ⟨gb230,1,none⟩ (.int .i64 ((rd_T44 l1 x14_1).f1))).setCell ⟨gb230,2,none⟩ (.int .i64 ((rd_T44 l1 x14_1).f2))).setCell ⟨gb230,3,none⟩ (.int .i64 ((rd_T44 l1 x14_1).f3))).setCell ⟨gb230,4,none⟩ (.int .i64 ((rd_T44 l1 x14_1).f4))).setCell ⟨gb230,5,none⟩ (.int .i64 ((rd_T44 l1 x14_1).f5))) = w18 at n0_ n1_ ⊢
         have BK230:=n0_
         have HB:=n1_
         clear n0_ n1_
         have n0_:=Aside0.mk (blk_drew BK230.out)
         have n1_:=Aside0.mk (below_drew1 HB.out)
         clear BK230
         clear HB
         have BK230:=n0_
         have HB:=n1_
         clear n0_ n1_
         have p231 : 0 ≤ (((rd_T44 l1 x14_1).f0) : Int):=of_decide_eq_true (by first | (with_reducible assumption) | assumption)
         have q231 : ((rd_T44 l1 x14_1).f0) < (l0.length : Int):=of_decide_eq_true (by first | (with_reducible assumption) | assumption)
         obtain ⟨ad231,e231,hx231_0,hx231_1,hx231_2,hx231_3⟩:=at_T23 HR0.out ((rd_T44 l1 x14_1).f0) p231 q231
         have hw231_3:=hx231_3
         have hw231_2:=hx231_2
         have hw231_1:=hx231_1
         have hw231_0:=hx231_0
         cases e231
         replace hx231_0:=(HB.out.cell (World.block_lt_of_cell? w _ hx231_0)).trans hx231_0
         replace hx231_1:=(HB.out.cell (World.block_lt_of_cell? w _ hx231_1)).trans hx231_1
         replace hx231_2:=(HB.out.cell (World.block_lt_of_cell? w _ hx231_2)).trans hx231_2
         replace hx231_3:=(HB.out.cell (World.block_lt_of_cell? w _ hx231_3)).trans hx231_3
         replace p231:=eq_true p231
         replace q231:=eq_true q231
         refine start_ (n:=19) (S:=fun w' => w'.cell? ⟨gb230,0,none⟩ = some (.int .i64 ((rd_T44 l1 x14_1).f0)) ∧ w'.cell? ⟨gb230,1,none⟩ = some (.int .i64 ((rd_T44 l1 x14_1).f1)) ∧ w'.cell? ⟨gb230,2,none⟩ = some (.int .i64 ((rd_T44 l1 x14_1).f2)) ∧ w'.cell? ⟨gb230,3,none⟩ = some (.int .i64 ((rd_T44 l1 x14_1).f3)) ∧ w'.cell? ⟨gb230,4,none⟩ = some (.int .i64 ((rd_T44 l1 x14_1).f4)) ∧ w'.cell? ⟨gb230,5,none⟩ = some (.int .i64 ((rd_T44 l1 x14_1).f5)) ∧ w'.cell? (ad231.add ((((rd_T44 l1 x14_1).f0)).toNat * 4)) = some (.string ((rd_T23 l0 ((rd_T44 l1 x14_1).f0)).f0)) ∧ w'.cell? ⟨(ad231.add ((((rd_T44 l1 x14_1).f0)).toNat * 4)).block,(ad231.add ((((rd_T44 l1 x14_1).f0)).toNat * 4)).off + 1,none⟩ = some (.int .i64 ((rd_T23 l0 ((rd_T44 l1 x14_1).f0)).f1)) ∧ w'.cell? ⟨(ad231.add ((((rd_T44 l1 x14_1).f0)).toNat * 4)).block,(ad231.add ((((rd_T44 l1 x14_1).f0)).toNat * 4)).off + 2,none⟩ = some (.int .i64 ((rd_T23 l0 ((rd_T44 l1 x14_1).f0)).f2)) ∧ w'.cell? ⟨(ad231.add ((((rd_T44 l1 x14_1).f0)).toNat * 4)).block,(ad231.add ((((rd_T44 l1 x14_1).f0)).toNat * 4)).off + 3,none⟩ = some (.int .i64 ((rd_T23 l0 ((rd_T44 l1 x14_1).f0)).f3))) (ds:=[]) (bm 19 0) (by kernel_rfl) rfl (by kernel_rfl) ⟨(blk_cell BK230.out 0).trans rfl,(blk_cell BK230.out 1).trans rfl,(blk_cell BK230.out 2).trans rfl,(blk_cell BK230.out 3).trans rfl,(blk_cell BK230.out 4).trans rfl,(blk_cell BK230.out 5).trans rfl,((HB.out.cell (World.block_lt_of_cell? w _ hw231_0)).trans hw231_0),((HB.out.cell (World.block_lt_of_cell? w _ hw231_1)).trans hw231_1),((HB.out.cell (World.block_lt_of_cell? w _ hw231_2)).trans hw231_2),((HB.out.cell (World.block_lt_of_cell? w _ hw231_3)).trans hw231_3)⟩ (fun hHeld => ?_); refine with_tabW hinterlandref09_Deliver.tab9 hinterlandref09_Deliver.bits9 (fun HT_ HW_ => ?_)
         generalize w18.drew = w19 at BK230 HB hx231_0 hx231_1 hx231_2 hx231_3 hHeld ⊢
         refine pv 0 (some 34) (bm 19 1) HT_ ?_
         refine pv 1 (some 35) (bm 19 3) HT_ ?_
         refine pv 2 (some 36) (bm 19 7) HT_ ?_
         refine pv 6 (some 40) (bm 19 71) HT_ ?_
         refine pv 8 (some 42) (bm 19 327) HT_ ?_
         refine pv 10 (some 44) (bm 19 1351) HT_ ?_
         refine pv 11 (some 45) (bm 19 3399) HT_ ?_
         refine pv 14 (some 48) (bm 19 19783) HT_ ?_
         refine tk 3 (some 37) (bm 19 19791) HT_ HW_ hHeld ?_
         refine pv 4 (some 38) (bm 19 19807) HT_ ?_
         refine tk 5 (some 39) (bm 19 19839) HT_ HW_ hHeld ?_
         refine tk 7 (some 41) (bm 19 19967) HT_ HW_ hHeld ?_
         refine tk 9 (some 43) (bm 19 20479) HT_ HW_ hHeld ?_
         refine tk 15 (some 49) (bm 19 53247) HT_ HW_ hHeld ?_
         refine ck 12 (some 46) (bm 19 57343) HT_ (fun K hK => ?_)
         refine gs Try.func52 #[.int .i64 ((rd_T44 l1 x14_1).f2),.int .i64 a3,.int .i64 a2] ?_
         with_reducible refine (hinterlandref09_Far.calls ((rd_T44 l1 x14_1).f2) a3 a2 t232 _ A12.out).mono ?_
         rintro e w20 ⟨rfl,hb⟩
         refine ⟨_,rfl,?_⟩
         have n0_:=Aside0.mk (blk_below (g:=gb230) (o:=.cells #[.int .i64 ((rd_T44 l1 x14_1).f0),.int .i64 ((rd_T44 l1 x14_1).f1),.int .i64 ((rd_T44 l1 x14_1).f2),.int .i64 ((rd_T44 l1 x14_1).f3),.int .i64 ((rd_T44 l1 x14_1).f4),.int .i64 ((rd_T44 l1 x14_1).f5)] 44 (0,0)) (by (with_reducible repeat (first | refine blk_drewN ?_ _ | refine blk_drew ?_ | refine blk_alloc ?_ _)); exact BK230.out) hb)
         have n1_:=Aside0.mk (below_step (by repeat (first | (with_reducible first | exact HB.out | apply below_alloc | apply pw_below_drewN | apply below_drew1 | refine below_set ?_ GE230.out) | exact HB.out)) hb)
         clear BK230
         clear HB
         have BK230:=n0_
         have HB:=n1_
         clear n0_ n1_
         (try clear hb)
         (try clear hb2)
         (try clear hk)
         (try clear hi)
         refine hK.out _ _ ⟨(blk_cell BK230.out 0).trans rfl,(blk_cell BK230.out 1).trans rfl,(blk_cell BK230.out 2).trans rfl,(blk_cell BK230.out 3).trans rfl,(blk_cell BK230.out 4).trans rfl,(blk_cell BK230.out 5).trans rfl,((HB.out.cell (World.block_lt_of_cell? w _ hw231_0)).trans hw231_0),((HB.out.cell (World.block_lt_of_cell? w _ hw231_1)).trans hw231_1),((HB.out.cell (World.block_lt_of_cell? w _ hw231_2)).trans hw231_2),((HB.out.cell (World.block_lt_of_cell? w _ hw231_3)).trans hw231_3)⟩ (fun hHeld => ?_)
         clear hK K
         refine nm ?_
         refine pv 13 (some 47) (bm 19 65535) HT_ ?_
         refine ck 16 (some 50) (bm 19 131071) HT_ (fun K hK => ?_)
         refine goes_ Try.func43 (by kernel_rfl) rfl #[.agg #[.string ((rd_T23 l0 ((rd_T44 l1 x14_1).f0)).f0),.int .i64 ((rd_T23 l0 ((rd_T44 l1 x14_1).f0)).f1),.int .i64 ((rd_T23 l0 ((rd_T44 l1 x14_1).f0)).f2),.int .i64 ((rd_T23 l0 ((rd_T44 l1 x14_1).f0)).f3)],.int .i64 ((rd_T44 l1 x14_1).f4),.int .i64 ji13,.int .i64 ((rd_T44 l1 x14_1).f3)] (by rfl) rfl rfl (by (try simp only [List.map_toArray,List.map_cons,List.map_nil]); first | done | (simp only [hji13]; rfl) | rfl | (simp only [List.length_drop,List.length_take]; rfl)) ?_
         with_reducible refine (hinterlandref09_pay.calls ((rd_T23 l0 ((rd_T44 l1 x14_1).f0)).f0) ((rd_T23 l0 ((rd_T44 l1 x14_1).f0)).f1) ((rd_T23 l0 ((rd_T44 l1 x14_1).f0)).f2) ((rd_T23 l0 ((rd_T44 l1 x14_1).f0)).f3) ((rd_T44 l1 x14_1).f4) ji13 ((rd_T44 l1 x14_1).f3) t233 _ A14.out).mono ?_
         rintro e w21 ⟨rfl,hb⟩
         refine ⟨_,rfl,?_⟩
         have n0_:=Aside0.mk (blk_below (g:=gb230) (o:=.cells #[.int .i64 ((rd_T44 l1 x14_1).f0),.int .i64 ((rd_T44 l1 x14_1).f1),.int .i64 ((rd_T44 l1 x14_1).f2),.int .i64 ((rd_T44 l1 x14_1).f3),.int .i64 ((rd_T44 l1 x14_1).f4),.int .i64 ((rd_T44 l1 x14_1).f5)] 44 (0,0)) (by (with_reducible repeat (first | refine blk_drewN ?_ _ | refine blk_drew ?_ | refine blk_alloc ?_ _)); exact BK230.out) hb)
         have n1_:=Aside0.mk (below_step (by repeat (first | (with_reducible first | exact HB.out | apply below_alloc | apply pw_below_drewN | apply below_drew1 | refine below_set ?_ GE230.out) | exact HB.out)) hb)
         clear BK230
         clear HB
         have BK230:=n0_
         have HB:=n1_
         clear n0_ n1_
         (try clear hb)
         (try clear hb2)
         (try clear hk)
         (try clear hi)
         refine hK.out _ _ ⟨(blk_cell BK230.out 0).trans rfl,(blk_cell BK230.out 1).trans rfl,(blk_cell BK230.out 2).trans rfl,(blk_cell BK230.out 3).trans rfl,(blk_cell BK230.out 4).trans rfl,(blk_cell BK230.out 5).trans rfl,((HB.out.cell (World.block_lt_of_cell? w _ hw231_0)).trans hw231_0),((HB.out.cell (World.block_lt_of_cell? w _ hw231_1)).trans hw231_1),((HB.out.cell (World.block_lt_of_cell? w _ hw231_2)).trans hw231_2),((HB.out.cell (World.block_lt_of_cell? w _ hw231_3)).trans hw231_3)⟩ (fun hHeld => ?_)
         clear hK K
         refine nm ?_
         refine pv 17 (some 51) (bm 19 262143) HT_ ?_
         refine pv 18 (some 12) (bm 19 524287) HT_ ?_
         refine done_ (done_of HT_.out (by kernel_rfl)) ?_
         have hcz22_0 : w21.cell? ⟨gb230,0,none⟩ = some (.int .i64 ((rd_T44 l1 x14_1).f0)):=(blk_cell BK230.out 0).trans rfl
         have hcz22_1 : w21.cell? ⟨gb230,1,none⟩ = some (.int .i64 ((rd_T44 l1 x14_1).f1)):=(blk_cell BK230.out 1).trans rfl
         have hcz22_2 : w21.cell? ⟨gb230,2,none⟩ = some (.int .i64 ((rd_T44 l1 x14_1).f2)):=(blk_cell BK230.out 2).trans rfl
         have hcz22_3 : w21.cell? ⟨gb230,3,none⟩ = some (.int .i64 ((rd_T44 l1 x14_1).f3)):=(blk_cell BK230.out 3).trans rfl
         have hcz22_4 : w21.cell? ⟨gb230,4,none⟩ = some (.int .i64 ((rd_T44 l1 x14_1).f4)):=(blk_cell BK230.out 4).trans rfl
         have hcz22_5 : w21.cell? ⟨gb230,5,none⟩ = some (.int .i64 ((rd_T44 l1 x14_1).f5)):=(blk_cell BK230.out 5).trans rfl
         have hfz22_0:=blk_frozen BK230.out 0
         have hfz22_1:=blk_frozen BK230.out 1
         have hfz22_2:=blk_frozen BK230.out 2
         have hfz22_3:=blk_frozen BK230.out 3
         have hfz22_4:=blk_frozen BK230.out 4
         have hfz22_5:=blk_frozen BK230.out 5
         try go_wp2
         go_ret3
         exact ⟨by first | rfl | (simp [errW_none,errW_some] <;> rfl) | (simp only [← hji13]; first | rfl | (simp [errW_none,errW_some] <;> rfl)) | (simp [*,errW_none,errW_some] <;> rfl),by repeat (first | (with_reducible first | exact HB.out | apply below_alloc | apply pw_below_drewN | apply below_drew1 | refine below_set ?_ GE230.out) | exact HB.out)⟩
        ·rw [if_neg c15] at H
         have c15b0 : decide (1000000000000 < (wrap64 (x12_1 + t233))) = false:=decide_eq_false c15
         clear c15
         have H':=Aside0.mk H
         clear H
         have p229 : 0 ≤ (x14_1 : Int):=of_decide_eq_true (by first | (with_reducible assumption) | assumption)
         have q229 : x14_1 < (l1.length : Int):=of_decide_eq_true (by first | (with_reducible assumption) | assumption)
         obtain ⟨ad229,e229,hx229_0,hx229_1,hx229_2,hx229_3,hx229_4,hx229_5⟩:=at_T44 HR1.out x14_1 p229 q229
         cases e229
         replace hx229_0:=(HB.out.cell (World.block_lt_of_cell? w _ hx229_0)).trans hx229_0
         replace hx229_1:=(HB.out.cell (World.block_lt_of_cell? w _ hx229_1)).trans hx229_1
         replace hx229_2:=(HB.out.cell (World.block_lt_of_cell? w _ hx229_2)).trans hx229_2
         replace hx229_3:=(HB.out.cell (World.block_lt_of_cell? w _ hx229_3)).trans hx229_3
         replace hx229_4:=(HB.out.cell (World.block_lt_of_cell? w _ hx229_4)).trans hx229_4
         replace hx229_5:=(HB.out.cell (World.block_lt_of_cell? w _ hx229_5)).trans hx229_5
         replace p229:=eq_true p229
         replace q229:=eq_true q229
         try go_wp2_with (first | ((with_reducible refine gate_dst (N:=15) rfl ?_); refine box_event ?hg (N:=15) ?hd (cs:=#[.int .i64 0,.int .i64 0,.int .i64 0,.int .i64 0,.int .i64 0,.int .i64 0]) (t:=44) ?hr ?_; (case hd => rfl); (case hg => rfl); (case hr => first | (go_simp; done) | (go_simp; rfl)); intro gb230 hg w23 hbox hb; have n0_:=Aside0.mk (below_step (by repeat (first | (with_reducible first | exact HB.out | apply below_alloc | apply pw_below_drewN | apply below_drew1) | exact HB.out)) hb); have n1_:=Aside0.mk (hbox); have n2_:=Aside0.mk ((by rw [hg]; exact (below_size (by repeat (first | (with_reducible first | exact HB.out | apply below_alloc | apply pw_below_drewN | apply below_drew1) | exact HB.out))) : w.heap.size ≤ gb230)); have n3_:=Aside0.mk ((by rw [hg]; exact (below_size (by repeat (first | (with_reducible first | exact HB.out | apply below_alloc | apply pw_below_drewN | apply below_drew1) | exact HB.out))) : w.heap.size ≤ gb230)); clear HB; have HB:=n0_; have BK230:=n1_; have GW230:=n2_; have GE230:=n3_; clear n0_ n1_ n2_ n3_; clear hb hbox hg; have hcz24_0 : w23.cell? ⟨gb230,0,none⟩ = some (.int .i64 0):=(blk_cell BK230.out 0).trans rfl; have hcz24_1 : w23.cell? ⟨gb230,1,none⟩ = some (.int .i64 0):=(blk_cell BK230.out 1).trans rfl; have hcz24_2 : w23.cell? ⟨gb230,2,none⟩ = some (.int .i64 0):=(blk_cell BK230.out 2).trans rfl; have hcz24_3 : w23.cell? ⟨gb230,3,none⟩ = some (.int .i64 0):=(blk_cell BK230.out 3).trans rfl; have hcz24_4 : w23.cell? ⟨gb230,4,none⟩ = some (.int .i64 0):=(blk_cell BK230.out 4).trans rfl; have hcz24_5 : w23.cell? ⟨gb230,5,none⟩ = some (.int .i64 0):=(blk_cell BK230.out 5).trans rfl; have hfz24_0:=blk_frozen BK230.out 0; have hfz24_1:=blk_frozen BK230.out 1; have hfz24_2:=blk_frozen BK230.out 2; have hfz24_3:=blk_frozen BK230.out 3; have hfz24_4:=blk_frozen BK230.out 4; have hfz24_5:=blk_frozen BK230.out 5))
         have n0_ : Aside0 (((((((w23.setCell ⟨gb230,0,none⟩ (.int .i64 ((rd_T44 l1 x14_1).f0))).setCell ⟨gb230,1,none⟩ (.int .i64 ((rd_T44 l1 x14_1).f1))).setCell ⟨gb230,2,none⟩ (.int .i64 ((rd_T44 l1 x14_1).f2))).setCell ⟨gb230,3,none⟩ (.int .i64 ((rd_T44 l1 x14_1).f3))).setCell ⟨gb230,4,none⟩ (.int .i64 ((rd_T44 l1 x14_1).f4))).setCell ⟨gb230,5,none⟩ (.int .i64 ((rd_T44 l1 x14_1).f5))).heap[gb230]? = some (.cells #[.int .i64 ((rd_T44 l1 x14_1).f0),.int .i64 ((rd_T44 l1 x14_1).f1),.int .i64 ((rd_T44 l1 x14_1).f2),.int .i64 ((rd_T44 l1 x14_1).f3),.int .i64 ((rd_T44 l1 x14_1).f4),.int .i64 ((rd_T44 l1 x14_1).f5)] 44 (0,0))):=⟨by (with_reducible repeat (first | refine blk_drewN ?_ _ | refine blk_drew ?_ | refine blk_alloc ?_ _)); refine blk_put (cs:=#[.int .i64 ((rd_T44 l1 x14_1).f0),.int .i64 ((rd_T44 l1 x14_1).f1),.int .i64 ((rd_T44 l1 x14_1).f2),.int .i64 ((rd_T44 l1 x14_1).f3),.int .i64 ((rd_T44 l1 x14_1).f4),.int .i64 0]) ?_ 5 _ rfl; (with_reducible repeat (first | refine blk_drewN ?_ _ | refine blk_drew ?_ | refine blk_alloc ?_ _)); refine blk_put (cs:=#[.int .i64 ((rd_T44 l1 x14_1).f0),.int .i64 ((rd_T44 l1 x14_1).f1),.int .i64 ((rd_T44 l1 x14_1).f2),.int .i64 ((rd_T44 l1 x14_1).f3),.int .i64 0,.int .i64 0]) ?_ 4 _ rfl; (with_reducible repeat (first | refine blk_drewN ?_ _ | refine blk_drew ?_ | refine blk_alloc ?_ _)); refine blk_put (cs:=#[.int .i64 ((rd_T44 l1 x14_1).f0),.int .i64 ((rd_T44 l1 x14_1).f1),.int .i64 ((rd_T44 l1 x14_1).f2),.int .i64 0,.int .i64 0,.int .i64 0]) ?_ 3 _ rfl; (with_reducible repeat (first | refine blk_drewN ?_ _ | refine blk_drew ?_ | refine blk_alloc ?_ _)); refine blk_put (cs:=#[.int .i64 ((rd_T44 l1 x14_1).f0),.int .i64 ((rd_T44 l1 x14_1).f1),.int .i64 0,.int .i64 0,.int .i64 0,.int .i64 0]) ?_ 2 _ rfl; (with_reducible repeat (first | refine blk_drewN ?_ _ | refine blk_drew ?_ | refine blk_alloc ?_ _)); refine blk_put (cs:=#[.int .i64 ((rd_T44 l1 x14_1).f0),.int .i64 0,.int .i64 0,.int .i64 0,.int .i64 0,.int .i64 0]) ?_ 1 _ rfl; (with_reducible repeat (first | refine blk_drewN ?_ _ | refine blk_drew ?_ | refine blk_alloc ?_ _)); refine blk_put (cs:=#[.int .i64 0,.int .i64 0,.int .i64 0,.int .i64 0,.int .i64 0,.int .i64 0]) ?_ 0 _ rfl; (with_reducible repeat (first | refine blk_drewN ?_ _ | refine blk_drew ?_ | refine blk_alloc ?_ _)); exact BK230.out⟩
         have n1_ : Aside0 (Below w.heap.size w ((((((w23.setCell ⟨gb230,0,none⟩ (.int .i64 ((rd_T44 l1 x14_1).f0))).setCell ⟨gb230,1,none⟩ (.int .i64 ((rd_T44 l1 x14_1).f1))).setCell ⟨gb230,2,none⟩ (.int .i64 ((rd_T44 l1 x14_1).f2))).setCell ⟨gb230,3,none⟩ (.int .i64 ((rd_T44 l1 x14_1).f3))).setCell ⟨gb230,4,none⟩ (.int .i64 ((rd_T44 l1 x14_1).f4))).setCell ⟨gb230,5,none⟩ (.int .i64 ((rd_T44 l1 x14_1).f5)))):=⟨by repeat (first | (with_reducible first | exact HB.out | apply below_alloc | apply pw_below_drewN | apply below_drew1 | refine below_set ?_ GE230.out) | exact HB.out)⟩
         (try clear BK230)
         (try clear HB)
         generalize ((((((w23.setCell ⟨gb230,0,none⟩ (.int .i64 ((rd_T44 l1 x14_1).f0))).setCell ⟨gb230,1,none⟩ (.int .i64 ((rd_T44 l1 x14_1).f1))).setCell ⟨gb230,2,none⟩ (.int .i64 ((rd_T44 l1 x14_1).f2))).setCell ⟨gb230,3,none⟩ (.int .i64 ((rd_T44 l1 x14_1).f3))).setCell ⟨gb230,4,none⟩ (.int .i64 ((rd_T44 l1 x14_1).f4))).setCell ⟨gb230,5,none⟩ (.int .i64 ((rd_T44 l1 x14_1).f5))) = w25 at n0_ n1_ ⊢
         have BK230:=n0_
         have HB:=n1_
         clear n0_ n1_
         have n0_:=Aside0.mk (blk_drew BK230.out)
         have n1_:=Aside0.mk (below_drew1 HB.out)
         clear BK230
         clear HB
         have BK230:=n0_
         have HB:=n1_
         clear n0_ n1_
         have p231 : 0 ≤ (((rd_T44 l1 x14_1).f0) : Int):=of_decide_eq_true (by first | (with_reducible assumption) | assumption)
         have q231 : ((rd_T44 l1 x14_1).f0) < (l0.length : Int):=of_decide_eq_true (by first | (with_reducible assumption) | assumption)
         obtain ⟨ad231,e231,hx231_0,hx231_1,hx231_2,hx231_3⟩:=at_T23 HR0.out ((rd_T44 l1 x14_1).f0) p231 q231
         have hw231_3:=hx231_3
         have hw231_2:=hx231_2
         have hw231_1:=hx231_1
         have hw231_0:=hx231_0
         cases e231
         replace hx231_0:=(HB.out.cell (World.block_lt_of_cell? w _ hx231_0)).trans hx231_0
         replace hx231_1:=(HB.out.cell (World.block_lt_of_cell? w _ hx231_1)).trans hx231_1
         replace hx231_2:=(HB.out.cell (World.block_lt_of_cell? w _ hx231_2)).trans hx231_2
         replace hx231_3:=(HB.out.cell (World.block_lt_of_cell? w _ hx231_3)).trans hx231_3
         replace p231:=eq_true p231
         replace q231:=eq_true q231
         refine start_ (n:=19) (S:=fun w' => w'.cell? ⟨gb230,0,none⟩ = some (.int .i64 ((rd_T44 l1 x14_1).f0)) ∧ w'.cell? ⟨gb230,1,none⟩ = some (.int .i64 ((rd_T44 l1 x14_1).f1)) ∧ w'.cell? ⟨gb230,2,none⟩ = some (.int .i64 ((rd_T44 l1 x14_1).f2)) ∧ w'.cell? ⟨gb230,3,none⟩ = some (.int .i64 ((rd_T44 l1 x14_1).f3)) ∧ w'.cell? ⟨gb230,4,none⟩ = some (.int .i64 ((rd_T44 l1 x14_1).f4)) ∧ w'.cell? ⟨gb230,5,none⟩ = some (.int .i64 ((rd_T44 l1 x14_1).f5)) ∧ w'.cell? (ad231.add ((((rd_T44 l1 x14_1).f0)).toNat * 4)) = some (.string ((rd_T23 l0 ((rd_T44 l1 x14_1).f0)).f0)) ∧ w'.cell? ⟨(ad231.add ((((rd_T44 l1 x14_1).f0)).toNat * 4)).block,(ad231.add ((((rd_T44 l1 x14_1).f0)).toNat * 4)).off + 1,none⟩ = some (.int .i64 ((rd_T23 l0 ((rd_T44 l1 x14_1).f0)).f1)) ∧ w'.cell? ⟨(ad231.add ((((rd_T44 l1 x14_1).f0)).toNat * 4)).block,(ad231.add ((((rd_T44 l1 x14_1).f0)).toNat * 4)).off + 2,none⟩ = some (.int .i64 ((rd_T23 l0 ((rd_T44 l1 x14_1).f0)).f2)) ∧ w'.cell? ⟨(ad231.add ((((rd_T44 l1 x14_1).f0)).toNat * 4)).block,(ad231.add ((((rd_T44 l1 x14_1).f0)).toNat * 4)).off + 3,none⟩ = some (.int .i64 ((rd_T23 l0 ((rd_T44 l1 x14_1).f0)).f3))) (ds:=[]) (bm 19 0) (by kernel_rfl) rfl (by kernel_rfl) ⟨(blk_cell BK230.out 0).trans rfl,(blk_cell BK230.out 1).trans rfl,(blk_cell BK230.out 2).trans rfl,(blk_cell BK230.out 3).trans rfl,(blk_cell BK230.out 4).trans rfl,(blk_cell BK230.out 5).trans rfl,((HB.out.cell (World.block_lt_of_cell? w _ hw231_0)).trans hw231_0),((HB.out.cell (World.block_lt_of_cell? w _ hw231_1)).trans hw231_1),((HB.out.cell (World.block_lt_of_cell? w _ hw231_2)).trans hw231_2),((HB.out.cell (World.block_lt_of_cell? w _ hw231_3)).trans hw231_3)⟩ (fun hHeld => ?_); refine with_tabW hinterlandref09_Deliver.tab9 hinterlandref09_Deliver.bits9 (fun HT_ HW_ => ?_)
         generalize w25.drew = w26 at BK230 HB hx231_0 hx231_1 hx231_2 hx231_3 hHeld ⊢
         refine pv 0 (some 34) (bm 19 1) HT_ ?_
         refine pv 1 (some 35) (bm 19 3) HT_ ?_
         refine pv 2 (some 36) (bm 19 7) HT_ ?_
         refine pv 6 (some 40) (bm 19 71) HT_ ?_
         refine pv 8 (some 42) (bm 19 327) HT_ ?_
         refine pv 10 (some 44) (bm 19 1351) HT_ ?_
         refine pv 11 (some 45) (bm 19 3399) HT_ ?_
         refine pv 14 (some 48) (bm 19 19783) HT_ ?_
         refine tk 3 (some 37) (bm 19 19791) HT_ HW_ hHeld ?_
         refine pv 4 (some 38) (bm 19 19807) HT_ ?_
         refine tk 5 (some 39) (bm 19 19839) HT_ HW_ hHeld ?_
         refine tk 7 (some 41) (bm 19 19967) HT_ HW_ hHeld ?_
         refine tk 9 (some 43) (bm 19 20479) HT_ HW_ hHeld ?_
         refine tk 15 (some 49) (bm 19 53247) HT_ HW_ hHeld ?_
         refine ck 12 (some 46) (bm 19 57343) HT_ (fun K hK => ?_)
         refine gs Try.func52 #[.int .i64 ((rd_T44 l1 x14_1).f2),.int .i64 a3,.int .i64 a2] ?_
         with_reducible refine (hinterlandref09_Far.calls ((rd_T44 l1 x14_1).f2) a3 a2 t232 _ A12.out).mono ?_
         rintro e w27 ⟨rfl,hb⟩
         refine ⟨_,rfl,?_⟩
         have n0_:=Aside0.mk (blk_below (g:=gb230) (o:=.cells #[.int .i64 ((rd_T44 l1 x14_1).f0),.int .i64 ((rd_T44 l1 x14_1).f1),.int .i64 ((rd_T44 l1 x14_1).f2),.int .i64 ((rd_T44 l1 x14_1).f3),.int .i64 ((rd_T44 l1 x14_1).f4),.int .i64 ((rd_T44 l1 x14_1).f5)] 44 (0,0)) (by (with_reducible repeat (first | refine blk_drewN ?_ _ | refine blk_drew ?_ | refine blk_alloc ?_ _)); exact BK230.out) hb)
         have n1_:=Aside0.mk (below_step (by repeat (first | (with_reducible first | exact HB.out | apply below_alloc | apply pw_below_drewN | apply below_drew1 | refine below_set ?_ GE230.out) | exact HB.out)) hb)
         clear BK230
         clear HB
         have BK230:=n0_
         have HB:=n1_
         clear n0_ n1_
         (try clear hb)
         (try clear hb2)
         (try clear hk)
         (try clear hi)
         refine hK.out _ _ ⟨(blk_cell BK230.out 0).trans rfl,(blk_cell BK230.out 1).trans rfl,(blk_cell BK230.out 2).trans rfl,(blk_cell BK230.out 3).trans rfl,(blk_cell BK230.out 4).trans rfl,(blk_cell BK230.out 5).trans rfl,((HB.out.cell (World.block_lt_of_cell? w _ hw231_0)).trans hw231_0),((HB.out.cell (World.block_lt_of_cell? w _ hw231_1)).trans hw231_1),((HB.out.cell (World.block_lt_of_cell? w _ hw231_2)).trans hw231_2),((HB.out.cell (World.block_lt_of_cell? w _ hw231_3)).trans hw231_3)⟩ (fun hHeld => ?_)
         clear hK K
         refine nm ?_
         refine pv 13 (some 47) (bm 19 65535) HT_ ?_
         refine ck 16 (some 50) (bm 19 131071) HT_ (fun K hK => ?_)
         refine goes_ Try.func43 (by kernel_rfl) rfl #[.agg #[.string ((rd_T23 l0 ((rd_T44 l1 x14_1).f0)).f0),.int .i64 ((rd_T23 l0 ((rd_T44 l1 x14_1).f0)).f1),.int .i64 ((rd_T23 l0 ((rd_T44 l1 x14_1).f0)).f2),.int .i64 ((rd_T23 l0 ((rd_T44 l1 x14_1).f0)).f3)],.int .i64 ((rd_T44 l1 x14_1).f4),.int .i64 ji13,.int .i64 ((rd_T44 l1 x14_1).f3)] (by rfl) rfl rfl (by (try simp only [List.map_toArray,List.map_cons,List.map_nil]); first | done | (simp only [hji13]; rfl) | rfl | (simp only [List.length_drop,List.length_take]; rfl)) ?_
         with_reducible refine (hinterlandref09_pay.calls ((rd_T23 l0 ((rd_T44 l1 x14_1).f0)).f0) ((rd_T23 l0 ((rd_T44 l1 x14_1).f0)).f1) ((rd_T23 l0 ((rd_T44 l1 x14_1).f0)).f2) ((rd_T23 l0 ((rd_T44 l1 x14_1).f0)).f3) ((rd_T44 l1 x14_1).f4) ji13 ((rd_T44 l1 x14_1).f3) t233 _ A14.out).mono ?_
         rintro e w28 ⟨rfl,hb⟩
         refine ⟨_,rfl,?_⟩
         have n0_:=Aside0.mk (blk_below (g:=gb230) (o:=.cells #[.int .i64 ((rd_T44 l1 x14_1).f0),.int .i64 ((rd_T44 l1 x14_1).f1),.int .i64 ((rd_T44 l1 x14_1).f2),.int .i64 ((rd_T44 l1 x14_1).f3),.int .i64 ((rd_T44 l1 x14_1).f4),.int .i64 ((rd_T44 l1 x14_1).f5)] 44 (0,0)) (by (with_reducible repeat (first | refine blk_drewN ?_ _ | refine blk_drew ?_ | refine blk_alloc ?_ _)); exact BK230.out) hb)
         have n1_:=Aside0.mk (below_step (by repeat (first | (with_reducible first | exact HB.out | apply below_alloc | apply pw_below_drewN | apply below_drew1 | refine below_set ?_ GE230.out) | exact HB.out)) hb)
         clear BK230
         clear HB
         have BK230:=n0_
         have HB:=n1_
         clear n0_ n1_
         (try clear hb)
         (try clear hb2)
         (try clear hk)
         (try clear hi)
         refine hK.out _ _ ⟨(blk_cell BK230.out 0).trans rfl,(blk_cell BK230.out 1).trans rfl,(blk_cell BK230.out 2).trans rfl,(blk_cell BK230.out 3).trans rfl,(blk_cell BK230.out 4).trans rfl,(blk_cell BK230.out 5).trans rfl,((HB.out.cell (World.block_lt_of_cell? w _ hw231_0)).trans hw231_0),((HB.out.cell (World.block_lt_of_cell? w _ hw231_1)).trans hw231_1),((HB.out.cell (World.block_lt_of_cell? w _ hw231_2)).trans hw231_2),((HB.out.cell (World.block_lt_of_cell? w _ hw231_3)).trans hw231_3)⟩ (fun hHeld => ?_)
         clear hK K
         refine nm ?_
         refine pv 17 (some 51) (bm 19 262143) HT_ ?_
         refine pv 18 (some 12) (bm 19 524287) HT_ ?_
         refine done_ (done_of HT_.out (by kernel_rfl)) ?_
         have hcz29_0 : w28.cell? ⟨gb230,0,none⟩ = some (.int .i64 ((rd_T44 l1 x14_1).f0)):=(blk_cell BK230.out 0).trans rfl
         have hcz29_1 : w28.cell? ⟨gb230,1,none⟩ = some (.int .i64 ((rd_T44 l1 x14_1).f1)):=(blk_cell BK230.out 1).trans rfl
         have hcz29_2 : w28.cell? ⟨gb230,2,none⟩ = some (.int .i64 ((rd_T44 l1 x14_1).f2)):=(blk_cell BK230.out 2).trans rfl
         have hcz29_3 : w28.cell? ⟨gb230,3,none⟩ = some (.int .i64 ((rd_T44 l1 x14_1).f3)):=(blk_cell BK230.out 3).trans rfl
         have hcz29_4 : w28.cell? ⟨gb230,4,none⟩ = some (.int .i64 ((rd_T44 l1 x14_1).f4)):=(blk_cell BK230.out 4).trans rfl
         have hcz29_5 : w28.cell? ⟨gb230,5,none⟩ = some (.int .i64 ((rd_T44 l1 x14_1).f5)):=(blk_cell BK230.out 5).trans rfl
         have hfz29_0:=blk_frozen BK230.out 0
         have hfz29_1:=blk_frozen BK230.out 1
         have hfz29_2:=blk_frozen BK230.out 2
         have hfz29_3:=blk_frozen BK230.out 3
         have hfz29_4:=blk_frozen BK230.out 4
         have hfz29_5:=blk_frozen BK230.out 5
         try go_wp2
         go_roundg k1
         case measure => have:=HK1.out; omega
         case rel => exact ⟨(wrap64 (x12_1 + t233)),(wrap64 (x13_1 + ((rd_T44 l1 x14_1).f5))),(wrap64 (x14_1 + 1)),(by first | rfl | (simp; done) | (simp [*]; done)),(by first | rfl | (simp; done) | (simp [*]; done)),(by first | rfl | (simp; done) | (simp [*]; done)),H',⟨by have:=HK1.out; omega⟩,⟨by repeat (first | (with_reducible first | exact HB.out | apply below_alloc | apply pw_below_drewN | apply below_drew1 | refine below_set ?_ GE230.out) | exact HB.out)⟩⟩
       ·rw [if_neg c11] at H
        exact absurd H (by simp)
      ·rw [if_neg c10] at H
       exact absurd H (by simp)
     ·rw [if_neg c9] at H
      exact absurd H (by simp)
    ·rw [if_neg c8] at H
     have c8b0 : decide (x14_1 < (l1.length : Int)) = false:=decide_eq_false c8
     clear c8
     obtain ⟨ji30,hji30⟩ : ∃ j_ : Int,(mn x12_1 x13_1) = j_:=⟨_,rfl⟩
     replace H : (some (x12_1,ji30,0)) = some (r1,r2,r3):=by first | (rw [hji30] at H; exact H) | (simp only [hji30] at H ⊢; exact H)
     have hji30_ : (if x13_1 < x12_1 then x13_1 else x12_1) = ji30:=hji30
     simp only [Option.some.injEq,Prod.mk.injEq] at H
     obtain ⟨rfl,rfl,rfl⟩:=H
     go_wp2
     go_ret3
     exact ⟨by first | rfl | (simp [errW_none,errW_some] <;> rfl) | (simp only [← hji30]; first | rfl | (simp [errW_none,errW_some] <;> rfl)) | (simp [*,errW_none,errW_some] <;> rfl),by repeat (first | (with_reducible first | exact HB.out | apply below_alloc | apply pw_below_drewN | apply below_drew1) | exact HB.out)⟩
 ·rw [if_neg c6] at H
  have c6b0 : (t228 == 0) = false:=beq_eq_false_iff_ne.mpr c6
  have c6b1 : (t228 != 0) = true:=bne_iff_ne.mpr c6
  simp only [Option.some.injEq,Prod.mk.injEq] at H
  obtain ⟨rfl,rfl,rfl⟩:=H
  go_enter Try.func26,Try.ntmps26
  go_wp2_with (first | ((with_reducible refine gate_callee (f:=51) rfl ?_); refine goesL_ (some 20) rfl rfl Try.func51 (by kernel_rfl) rfl #[.slice A0 l0.length c0,.slice A1 l1.length c1,.int .i64 a2,.int .i64 a3] rfl (by (try simp only [List.map_toArray,List.map_cons,List.map_nil]); first | done | rfl | (simp only [List.length_drop,List.length_take]; rfl)) ?_; (with_reducible refine (hinterlandref09_judge.calls k _ _ l0 _ _ l1 a2 a3 t228 _ ?side1 ?side2 ?side3 ?side4 A5.out).mono ?_); (case side1 => repeat (first | exact HR0.out | (with_reducible refine Kd.C_alloc ?_ _) | (with_reducible refine Kd.C_drewN ?_ _) | (with_reducible refine Kd.C_drew ?_))); (case side2 => exact HC0.out); (case side3 => repeat (first | exact HR1.out | (with_reducible refine Kd.C_alloc ?_ _) | (with_reducible refine Kd.C_drewN ?_ _) | (with_reducible refine Kd.C_drew ?_))); (case side4 => exact HC1.out); rintro e w31 ⟨rfl,hb⟩; refine ⟨_,rfl,?_⟩; have n0_:=Aside0.mk (below_step (by repeat (first | (with_reducible first | exact HB.out | apply below_alloc | apply pw_below_drewN | apply below_drew1) | exact HB.out)) hb); clear HB; have HB:=n0_; clear n0_; (try clear hb); (try clear hb2); (try clear hk); (try clear hi)))
  go_ret3
  exact ⟨by first | rfl | (simp [errW_none,errW_some] <;> rfl) | (simp [*,errW_none,errW_some] <;> rfl),by repeat (first | (with_reducible first | exact HB.out | apply below_alloc | apply pw_below_drewN | apply below_drew1) | exact HB.out)⟩

end Go.Proofs.Ytmphplpfgjcpiaa.PCargo
