/- Lean functions with the answers of the Go functions that a law uses,and for each that the Go code comes to just that; written by a program of this session's. -/
import Derived.Test.YtmphplpfgjcpiaaPCargox0
import Derived.Test.YtmphplpfgjcpiaaPCargoxF42
import Derived.Test.YtmphplpfgjcpiaaPCargoxF46
namespace Go.Proofs.Ytmphplpfgjcpiaa.PCargo
open Go.RowKit Go.Proofs.YtmphplpfgjcpiaaW.PrintWords Go.Proofs.YtmphplpfgjcpiaaW.PrintLast Go.Proofs.YtmphplpfgjcpiaaW.PrintMore
attribute [local go_sem] max2_int min2_int max_two min_two max_three min_three max_four min_four   -- for this text's walks alone
set_option linter.unusedVariables false
set_option linter.unusedSimpArgs false

/-! ### hinterlandref09_Validate: function 20 -/
def hinterlandref09_Validate.l0 : Nat → List (S44) → Int → Option (Int)
 | 0,_,_ => none
 | k + 1,x0,x3 => if x3 < (x0.length : Int) then (if 0 ≤ x3 then (if x3 > 0 then (if 0 ≤ (wrap64 (x3 - 1)) then (if (wrap64 (x3 - 1)) < (x0.length : Int) then ((hinterlandref09_less.f ((rd_T44 x0 (wrap64 (x3 - 1))).f0) ((rd_T44 x0 (wrap64 (x3 - 1))).f1) ((rd_T44 x0 (wrap64 (x3 - 1))).f2) ((rd_T44 x0 (wrap64 (x3 - 1))).f3) ((rd_T44 x0 (wrap64 (x3 - 1))).f4) ((rd_T44 x0 (wrap64 (x3 - 1))).f5) ((rd_T44 x0 x3).f0) ((rd_T44 x0 x3).f1) ((rd_T44 x0 x3).f2) ((rd_T44 x0 x3).f3) ((rd_T44 x0 x3).f4) ((rd_T44 x0 x3).f5)).bind fun t171 => (if t171 = true then (if ((rd_T44 x0 x3).f4) < 1 then (some 1) else (if ((rd_T44 x0 x3).f4) > 1000000 then (some 1) else ((hinterlandref09_Out.f ((rd_T44 x0 x3).f3) 255).bind fun t172 => (if t172 = true then (some 1) else ((hinterlandref09_Out.f ((rd_T44 x0 x3).f5) 1000000000000).bind fun t173 => (if t173 = true then (some 1) else ((hinterlandref09_Out.f ((rd_T44 x0 x3).f0) 1000000).bind fun t174 => (if t174 = true then (some 1) else ((hinterlandref09_Out.f ((rd_T44 x0 x3).f1) 1000000).bind fun t175 => (if t175 = true then (some 1) else ((hinterlandref09_Out.f ((rd_T44 x0 x3).f2) 1000000).bind fun t176 => (if t176 = true then (some 1) else (hinterlandref09_Validate.l0 k x0 (wrap64 (x3 + 1))))))))))))))) else (some 1))) else (none)) else (none)) else (if ((rd_T44 x0 x3).f4) < 1 then (some 1) else (if ((rd_T44 x0 x3).f4) > 1000000 then (some 1) else ((hinterlandref09_Out.f ((rd_T44 x0 x3).f3) 255).bind fun t177 => (if t177 = true then (some 1) else ((hinterlandref09_Out.f ((rd_T44 x0 x3).f5) 1000000000000).bind fun t178 => (if t178 = true then (some 1) else ((hinterlandref09_Out.f ((rd_T44 x0 x3).f0) 1000000).bind fun t179 => (if t179 = true then (some 1) else ((hinterlandref09_Out.f ((rd_T44 x0 x3).f1) 1000000).bind fun t180 => (if t180 = true then (some 1) else ((hinterlandref09_Out.f ((rd_T44 x0 x3).f2) 1000000).bind fun t181 => (if t181 = true then (some 1) else (hinterlandref09_Validate.l0 k x0 (wrap64 (x3 + 1)))))))))))))))) else (none)) else (some 0)
def hinterlandref09_Validate.f (k : Nat) (l0 : List (S44)) : Option (Int):=if (l0.length : Int) > 200 then (some 4) else (hinterlandref09_Validate.l0 k l0 0)
theorem hinterlandref09_Validate.mono_l : ∀ k,(∀ y0 y1,LeO (hinterlandref09_Validate.l0 k y0 y1) (hinterlandref09_Validate.l0 (k + 1) y0 y1))
 | 0 => fun _ _ r h => by simp [hinterlandref09_Validate.l0] at h
 | k + 1 => by
  have ih0:=hinterlandref09_Validate.mono_l k
  ·intro y0 y1
   unfold hinterlandref09_Validate.l0
   repeat' first
   | (with_reducible exact ih0 _ _)
   | (with_reducible exact LeO.refl _)
   | (with_reducible exact LeO.none _)
   | (with_reducible refine LeO.ite ?_ ?_)
   | (with_reducible refine LeO.bind ?_ (fun _ => ?_))
   | exact ih0 _ _
   | exact LeO.none _
   | refine LeO.ite ?_ ?_
   | refine LeO.bind ?_ (fun _ => ?_)
theorem hinterlandref09_Validate.mono : ∀ a0 k,LeO (hinterlandref09_Validate.f k a0) (hinterlandref09_Validate.f (k + 1) a0):=by
 intro a0 k
 have ih0:=hinterlandref09_Validate.mono_l k
 unfold hinterlandref09_Validate.f
 repeat' first
   | (with_reducible exact ih0 _ _)
   | (with_reducible exact LeO.refl _)
   | (with_reducible exact LeO.none _)
   | (with_reducible refine LeO.ite ?_ ?_)
   | (with_reducible refine LeO.bind ?_ (fun _ => ?_))
   | exact ih0 _ _
   | exact LeO.none _
   | refine LeO.ite ?_ ?_
   | refine LeO.bind ?_ (fun _ => ?_)
def hinterlandref09_Validate.T7 : Bool × List (List Nat × List Nat):=(true,[([],[]),([0],[0]),([1],[1]),([2],[2]),([2],[2]),([4,2],[2,4]),([3,5,2],[2,3,5]),([6,2],[2,6]),([2],[2]),([7,8,2,2],[2,7,8]),([9,2],[2,9]),([2,10],[2,10]),([11,9],[11]),([12],[12]),([13,12],[12,13]),([14,12],[12,14]),([12,15],[12,15]),([16,12],[16]),([17],[17]),([18,17],[17,18]),([19,17],[17,19]),([17,20],[17,20]),([21,17],[21]),([22],[22]),([23,22],[22,23]),([24,22,22],[22,24]),([22,25],[22,25]),([26,25],[26]),([27],[27]),([28,27],[27,28]),([29,27,27],[27,29]),([27,30],[27,30]),([31,30],[31]),([32],[32]),([33,32],[32,33]),([34,32,32],[32,34]),([32,35],[32,35]),([36,35],[36]),([37],[37]),([38,37],[37,38]),([39,37,37],[37,39]),([37,40],[37,40]),([41,40],[41]),([42],[42]),([43,42],[42,43]),([44,42,42],[42,44]),([42,45],[42,45])])
def hinterlandref09_Validate.B7 : List Nat:=[0,1,3,7,7,23,63,127,7,511,1023,2047,4095,8191,16383,32767,65535,131071,262143,524287,1048575,2097151,4194303,8388607,16777215,33554431,67108863,134217727,268435455,536870911,1073741823,2147483647,4294967295,8589934591,17179869183,34359738367,68719476735,137438953471,274877906943,549755813887,1099511627775,2199023255551,4398046511103,8796093022207,17592186044415,35184372088831,70368744177663]
theorem hinterlandref09_Validate.tab7 : rtab .any (opsOf Try.f20 7) = hinterlandref09_Validate.T7:=by kernel_rfl
theorem hinterlandref09_Validate.bits7 : waitsOk hinterlandref09_Validate.T7.2 hinterlandref09_Validate.B7 = true:=by kernel_rfl
set_option maxHeartbeats 8000000 in
set_option maxRecDepth 100000 in
theorem hinterlandref09_Validate.calls (k : Nat) (A0 : Option Addr) (c0 : Nat) (l0 : List (S44)) (r : Int) (w : World) (hr0 : Kd.C k44 w A0 l0.length l0) (hc0 : l0.length ≤ c0) (h : hinterlandref09_Validate.f k l0 = some r) :
  Calls Try.prog 20 #[.slice A0 l0.length c0] w fun e w' => e = .returned (.int .i64 r) ∧ Below w.heap.size w w':=by
 have hu44:=Try.underlying44
 have HR0:=Aside0.mk hr0
 have HC0:=Aside0.mk hc0
 clear hr0 hc0
 have HB:=Aside0.mk (Below.refl w.heap.size w)
 have H : (if (l0.length : Int) > 200 then (some 4) else (hinterlandref09_Validate.l0 k l0 0)) = some r:=h
 clear h
 by_cases c2 : (l0.length : Int) > 200
 ·rw [if_pos c2] at H
  have c2b0 : decide (200 < (l0.length : Int)) = true:=decide_eq_true c2
  have c2b1 : decide (200 < l0.length) = true:=decide_eq_true (by omega)
  clear c2
  obtain rfl:=Option.some.inj H
  go_enter Try.func20,Try.ntmps20
  go_wp2
  go_ret
  exact ⟨by first | rfl | (simp [errW_none,errW_some] <;> rfl) | (simp [*,errW_none,errW_some] <;> rfl),by repeat (first | (with_reducible first | exact HB.out | apply below_alloc | apply pw_below_drewN | apply below_drew1) | exact HB.out)⟩
 ·rw [if_neg c2] at H
  have c2b0 : decide (200 < (l0.length : Int)) = false:=decide_eq_false c2
  have c2b1 : decide (200 < l0.length) = false:=decide_eq_false (by omega)
  clear c2
  have H':=Aside0.mk H
  clear H
  go_enter Try.func20,Try.ntmps20
  go_wp2
  go_loopg [3] k (fun kq v3 w' => ∃ (x3_1 : Int),v3 = .int .i64 x3_1 ∧ Aside0 (hinterlandref09_Validate.l0 kq l0 x3_1 = some r) ∧ Aside0 (kq ≤ k) ∧ Aside0 (Below w.heap.size w w'))
  case atStart => exact ⟨(0),(by first | rfl | (simp; done) | (simp [*]; done)),H',⟨Nat.le_refl _⟩,⟨by repeat (first | (with_reducible first | exact HB.out | apply below_alloc | apply pw_below_drewN | apply below_drew1) | exact HB.out)⟩⟩
  case round =>
   clear H'
   try clear c2
   try clear c2b0
   try clear c2b1
   try clear p2
   obtain ⟨x3_1,rfl,HA,HK1,HB⟩:=hrel
   cases gk with
   | zero => exact absurd HA.out (by simp [hinterlandref09_Validate.l0])
   | succ k1 =>
    have H:=HA.out
    clear HA
    simp only [hinterlandref09_Validate.l0] at H
    by_cases c3 : x3_1 < (l0.length : Int)
    ·rw [if_pos c3] at H
     have c3b0 : decide (x3_1 < (l0.length : Int)) = true:=decide_eq_true c3
     clear c3
     by_cases c4 : 0 ≤ x3_1
     ·rw [if_pos c4] at H
      have c4b0 : decide (0 ≤ x3_1) = true:=decide_eq_true c4
      clear c4
      by_cases c5 : x3_1 > 0
      ·rw [if_pos c5] at H
       have c5b0 : decide (0 < x3_1) = true:=decide_eq_true c5
       clear c5
       obtain ⟨ji6,hji6⟩ : ∃ j_ : Int,(wrap64 (x3_1 - 1)) = j_:=⟨_,rfl⟩
       replace H : (if 0 ≤ (ji6) then (if (ji6) < (l0.length : Int) then ((hinterlandref09_less.f ((rd_T44 l0 (ji6)).f0) ((rd_T44 l0 (ji6)).f1) ((rd_T44 l0 (ji6)).f2) ((rd_T44 l0 (ji6)).f3) ((rd_T44 l0 (ji6)).f4) ((rd_T44 l0 (ji6)).f5) ((rd_T44 l0 x3_1).f0) ((rd_T44 l0 x3_1).f1) ((rd_T44 l0 x3_1).f2) ((rd_T44 l0 x3_1).f3) ((rd_T44 l0 x3_1).f4) ((rd_T44 l0 x3_1).f5)).bind fun t171 => (if t171 = true then (if ((rd_T44 l0 x3_1).f4) < 1 then (some 1) else (if ((rd_T44 l0 x3_1).f4) > 1000000 then (some 1) else ((hinterlandref09_Out.f ((rd_T44 l0 x3_1).f3) 255).bind fun t172 => (if t172 = true then (some 1) else ((hinterlandref09_Out.f ((rd_T44 l0 x3_1).f5) 1000000000000).bind fun t173 => (if t173 = true then (some 1) else ((hinterlandref09_Out.f ((rd_T44 l0 x3_1).f0) 1000000).bind fun t174 => (if t174 = true then (some 1) else ((hinterlandref09_Out.f ((rd_T44 l0 x3_1).f1) 1000000).bind fun t175 => (if t175 = true then (some 1) else ((hinterlandref09_Out.f ((rd_T44 l0 x3_1).f2) 1000000).bind fun t176 => (if t176 = true then (some 1) else (hinterlandref09_Validate.l0 k1 l0 (wrap64 (x3_1 + 1))))))))))))))) else (some 1))) else (none)) else (none)) = some r:=by first | (rw [hji6] at H; exact H) | (simp only [hji6] at H ⊢; exact H)
       have hji6w : (IntKind.i64.wrap (x3_1 - 1)) = ji6:=(i64_w _).trans hji6
       by_cases c7 : 0 ≤ (ji6)
       ·rw [if_pos c7] at H
        have c7b0 : decide (0 ≤ (ji6)) = true:=decide_eq_true c7
        clear c7
        by_cases c8 : (ji6) < (l0.length : Int)
        ·rw [if_pos c8] at H
         have c8b0 : decide ((ji6) < (l0.length : Int)) = true:=decide_eq_true c8
         clear c8
         replace H:=Option.bind_eq_some_iff.mp H
         obtain ⟨t171,A90,H⟩:=H
         replace H : (if t171 = true then (if ((rd_T44 l0 x3_1).f4) < 1 then (some 1) else (if ((rd_T44 l0 x3_1).f4) > 1000000 then (some 1) else ((hinterlandref09_Out.f ((rd_T44 l0 x3_1).f3) 255).bind fun t172 => (if t172 = true then (some 1) else ((hinterlandref09_Out.f ((rd_T44 l0 x3_1).f5) 1000000000000).bind fun t173 => (if t173 = true then (some 1) else ((hinterlandref09_Out.f ((rd_T44 l0 x3_1).f0) 1000000).bind fun t174 => (if t174 = true then (some 1) else ((hinterlandref09_Out.f ((rd_T44 l0 x3_1).f1) 1000000).bind fun t175 => (if t175 = true then (some 1) else ((hinterlandref09_Out.f ((rd_T44 l0 x3_1).f2) 1000000).bind fun t176 => (if t176 = true then (some 1) else (hinterlandref09_Validate.l0 k1 l0 (wrap64 (x3_1 + 1))))))))))))))) else (some 1)) = some r:=H
         have A9:=Aside0.mk A90
         clear A90
         by_cases c10 : t171 = true
         ·subst c10
          have H1 : (if ((rd_T44 l0 x3_1).f4) < 1 then (some 1) else (if ((rd_T44 l0 x3_1).f4) > 1000000 then (some 1) else ((hinterlandref09_Out.f ((rd_T44 l0 x3_1).f3) 255).bind fun t172 => (if t172 = true then (some 1) else ((hinterlandref09_Out.f ((rd_T44 l0 x3_1).f5) 1000000000000).bind fun t173 => (if t173 = true then (some 1) else ((hinterlandref09_Out.f ((rd_T44 l0 x3_1).f0) 1000000).bind fun t174 => (if t174 = true then (some 1) else ((hinterlandref09_Out.f ((rd_T44 l0 x3_1).f1) 1000000).bind fun t175 => (if t175 = true then (some 1) else ((hinterlandref09_Out.f ((rd_T44 l0 x3_1).f2) 1000000).bind fun t176 => (if t176 = true then (some 1) else (hinterlandref09_Validate.l0 k1 l0 (wrap64 (x3_1 + 1))))))))))))))) = some r:=by rw [if_pos rfl] at H; exact H
          clear H
          have H:=H1
          clear H1
          by_cases c11 : ((rd_T44 l0 x3_1).f4) < 1
          ·rw [if_pos c11] at H
           have c11b0 : decide (((rd_T44 l0 x3_1).f4) < 1) = true:=decide_eq_true c11
           clear c11
           obtain rfl:=Option.some.inj H
           have p168 : 0 ≤ (x3_1 : Int):=of_decide_eq_true (by first | (with_reducible assumption) | assumption)
           have q168 : x3_1 < (l0.length : Int):=of_decide_eq_true (by first | (with_reducible assumption) | assumption)
           obtain ⟨ad168,e168,hx168_0,hx168_1,hx168_2,hx168_3,hx168_4,hx168_5⟩:=at_T44 HR0.out x3_1 p168 q168
           cases e168
           replace hx168_0:=(HB.out.cell (World.block_lt_of_cell? w _ hx168_0)).trans hx168_0
           replace hx168_1:=(HB.out.cell (World.block_lt_of_cell? w _ hx168_1)).trans hx168_1
           replace hx168_2:=(HB.out.cell (World.block_lt_of_cell? w _ hx168_2)).trans hx168_2
           replace hx168_3:=(HB.out.cell (World.block_lt_of_cell? w _ hx168_3)).trans hx168_3
           replace hx168_4:=(HB.out.cell (World.block_lt_of_cell? w _ hx168_4)).trans hx168_4
           replace hx168_5:=(HB.out.cell (World.block_lt_of_cell? w _ hx168_5)).trans hx168_5
           replace p168:=eq_true p168
           replace q168:=eq_true q168
           try go_wp2_with (first | ((with_reducible refine gate_dst (N:=4) rfl ?_); refine box_event ?hg (N:=4) ?hd (cs:=#[.int .i64 0,.int .i64 0,.int .i64 0,.int .i64 0,.int .i64 0,.int .i64 0]) (t:=44) ?hr ?_; (case hd => rfl); (case hg => rfl); (case hr => first | (go_simp; done) | (go_simp; rfl)); intro gb169 hg w12 hbox hb; have n0_:=Aside0.mk (below_step (by repeat (first | (with_reducible first | exact HB.out | apply below_alloc | apply pw_below_drewN | apply below_drew1) | exact HB.out)) hb); have n1_:=Aside0.mk (hbox); have n2_:=Aside0.mk ((by rw [hg]; exact (below_size (by repeat (first | (with_reducible first | exact HB.out | apply below_alloc | apply pw_below_drewN | apply below_drew1) | exact HB.out))) : w.heap.size ≤ gb169)); have n3_:=Aside0.mk ((by rw [hg]; exact (below_size (by repeat (first | (with_reducible first | exact HB.out | apply below_alloc | apply pw_below_drewN | apply below_drew1) | exact HB.out))) : w.heap.size ≤ gb169)); clear HB; have HB:=n0_; have BK169:=n1_; have GW169:=n2_; have GE169:=n3_; clear n0_ n1_ n2_ n3_; clear hb hbox hg; have hcz13_0 : w12.cell? ⟨gb169,0,none⟩ = some (.int .i64 0):=(blk_cell BK169.out 0).trans rfl; have hcz13_1 : w12.cell? ⟨gb169,1,none⟩ = some (.int .i64 0):=(blk_cell BK169.out 1).trans rfl; have hcz13_2 : w12.cell? ⟨gb169,2,none⟩ = some (.int .i64 0):=(blk_cell BK169.out 2).trans rfl; have hcz13_3 : w12.cell? ⟨gb169,3,none⟩ = some (.int .i64 0):=(blk_cell BK169.out 3).trans rfl; have hcz13_4 : w12.cell? ⟨gb169,4,none⟩ = some (.int .i64 0):=(blk_cell BK169.out 4).trans rfl; have hcz13_5 : w12.cell? ⟨gb169,5,none⟩ = some (.int .i64 0):=(blk_cell BK169.out 5).trans rfl; have hfz13_0:=blk_frozen BK169.out 0; have hfz13_1:=blk_frozen BK169.out 1; have hfz13_2:=blk_frozen BK169.out 2; have hfz13_3:=blk_frozen BK169.out 3; have hfz13_4:=blk_frozen BK169.out 4; have hfz13_5:=blk_frozen BK169.out 5))
           have n0_ : Aside0 (((((((w12.setCell ⟨gb169,0,none⟩ (.int .i64 ((rd_T44 l0 x3_1).f0))).setCell ⟨gb169,1,none⟩ (.int .i64 ((rd_T44 l0 x3_1).f1))).setCell ⟨gb169,2,none⟩ (.int .i64 ((rd_T44 l0 x3_1).f2))).setCell ⟨gb169,3,none⟩ (.int .i64 ((rd_T44 l0 x3_1).f3))).setCell ⟨gb169,4,none⟩ (.int .i64 ((rd_T44 l0 x3_1).f4))).setCell ⟨gb169,5,none⟩ (.int .i64 ((rd_T44 l0 x3_1).f5))).heap[gb169]? = some (.cells #[.int .i64 ((rd_T44 l0 x3_1).f0),.int .i64 ((rd_T44 l0 x3_1).f1),.int .i64 ((rd_T44 l0 x3_1).f2),.int .i64 ((rd_T44 l0 x3_1).f3),.int .i64 ((rd_T44 l0 x3_1).f4),.int .i64 ((rd_T44 l0 x3_1).f5)] 44 (0,0))):=⟨by (with_reducible repeat (first | refine blk_drewN ?_ _ | refine blk_drew ?_ | refine blk_alloc ?_ _)); refine blk_put (cs:=#[.int .i64 ((rd_T44 l0 x3_1).f0),.int .i64 ((rd_T44 l0 x3_1).f1),.int .i64 ((rd_T44 l0 x3_1).f2),.int .i64 ((rd_T44 l0 x3_1).f3),.int .i64 ((rd_T44 l0 x3_1).f4),.int .i64 0]) ?_ 5 _ rfl; (with_reducible repeat (first | refine blk_drewN ?_ _ | refine blk_drew ?_ | refine blk_alloc ?_ _)); refine blk_put (cs:=#[.int .i64 ((rd_T44 l0 x3_1).f0),.int .i64 ((rd_T44 l0 x3_1).f1),.int .i64 ((rd_T44 l0 x3_1).f2),.int .i64 ((rd_T44 l0 x3_1).f3),.int .i64 0,.int .i64 0]) ?_ 4 _ rfl; (with_reducible repeat (first | refine blk_drewN ?_ _ | refine blk_drew ?_ | refine blk_alloc ?_ _)); refine blk_put (cs:=#[.int .i64 ((rd_T44 l0 x3_1).f0),.int .i64 ((rd_T44 l0 x3_1).f1),.int .i64 ((rd_T44 l0 x3_1).f2),.int .i64 0,.int .i64 0,.int .i64 0]) ?_ 3 _ rfl; (with_reducible repeat (first | refine blk_drewN ?_ _ | refine blk_drew ?_ | refine blk_alloc ?_ _)); refine blk_put (cs:=#[.int .i64 ((rd_T44 l0 x3_1).f0),.int .i64 ((rd_T44 l0 x3_1).f1),.int .i64 0,.int .i64 0,.int .i64 0,.int .i64 0]) ?_ 2 _ rfl; (with_reducible repeat (first | refine blk_drewN ?_ _ | refine blk_drew ?_ | refine blk_alloc ?_ _)); refine blk_put (cs:=#[.int .i64 ((rd_T44 l0 x3_1).f0),.int .i64 0,.int .i64 0,.int .i64 0,.int .i64 0,.int .i64 0]) ?_ 1 _ rfl; (with_reducible repeat (first | refine blk_drewN ?_ _ | refine blk_drew ?_ | refine blk_alloc ?_ _)); refine blk_put (cs:=#[.int .i64 0,.int .i64 0,.int .i64 0,.int .i64 0,.int .i64 0,.int .i64 0]) ?_ 0 _ rfl; (with_reducible repeat (first | refine blk_drewN ?_ _ | refine blk_drew ?_ | refine blk_alloc ?_ _)); exact BK169.out⟩
           have n1_ : Aside0 (Below w.heap.size w ((((((w12.setCell ⟨gb169,0,none⟩ (.int .i64 ((rd_T44 l0 x3_1).f0))).setCell ⟨gb169,1,none⟩ (.int .i64 ((rd_T44 l0 x3_1).f1))).setCell ⟨gb169,2,none⟩ (.int .i64 ((rd_T44 l0 x3_1).f2))).setCell ⟨gb169,3,none⟩ (.int .i64 ((rd_T44 l0 x3_1).f3))).setCell ⟨gb169,4,none⟩ (.int .i64 ((rd_T44 l0 x3_1).f4))).setCell ⟨gb169,5,none⟩ (.int .i64 ((rd_T44 l0 x3_1).f5)))):=⟨by repeat (first | (with_reducible first | exact HB.out | apply below_alloc | apply pw_below_drewN | apply below_drew1 | refine below_set ?_ GE169.out) | exact HB.out)⟩
           (try clear BK169)
           (try clear HB)
           generalize ((((((w12.setCell ⟨gb169,0,none⟩ (.int .i64 ((rd_T44 l0 x3_1).f0))).setCell ⟨gb169,1,none⟩ (.int .i64 ((rd_T44 l0 x3_1).f1))).setCell ⟨gb169,2,none⟩ (.int .i64 ((rd_T44 l0 x3_1).f2))).setCell ⟨gb169,3,none⟩ (.int .i64 ((rd_T44 l0 x3_1).f3))).setCell ⟨gb169,4,none⟩ (.int .i64 ((rd_T44 l0 x3_1).f4))).setCell ⟨gb169,5,none⟩ (.int .i64 ((rd_T44 l0 x3_1).f5))) = w14 at n0_ n1_ ⊢
           have BK169:=n0_
           have HB:=n1_
           clear n0_ n1_
           have n0_:=Aside0.mk (blk_drew BK169.out)
           have n1_:=Aside0.mk (below_drew1 HB.out)
           clear BK169
           clear HB
           have BK169:=n0_
           have HB:=n1_
           clear n0_ n1_
           have p170 : 0 ≤ ((ji6) : Int):=of_decide_eq_true (by first | (with_reducible assumption) | assumption)
           have q170 : (ji6) < (l0.length : Int):=of_decide_eq_true (by first | (with_reducible assumption) | assumption)
           obtain ⟨ad170,e170,hx170_0,hx170_1,hx170_2,hx170_3,hx170_4,hx170_5⟩:=at_T44 HR0.out (ji6) p170 q170
           have hw170_5:=hx170_5
           have hw170_4:=hx170_4
           have hw170_3:=hx170_3
           have hw170_2:=hx170_2
           have hw170_1:=hx170_1
           have hw170_0:=hx170_0
           obtain rfl : ad168 = ad170:=(by injection e170)
           replace hx170_0:=(HB.out.cell (World.block_lt_of_cell? w _ hx170_0)).trans hx170_0
           replace hx170_1:=(HB.out.cell (World.block_lt_of_cell? w _ hx170_1)).trans hx170_1
           replace hx170_2:=(HB.out.cell (World.block_lt_of_cell? w _ hx170_2)).trans hx170_2
           replace hx170_3:=(HB.out.cell (World.block_lt_of_cell? w _ hx170_3)).trans hx170_3
           replace hx170_4:=(HB.out.cell (World.block_lt_of_cell? w _ hx170_4)).trans hx170_4
           replace hx170_5:=(HB.out.cell (World.block_lt_of_cell? w _ hx170_5)).trans hx170_5
           replace p170:=eq_true p170
           replace q170:=eq_true q170
           refine start_ (n:=47) (S:=fun w' => w'.cell? ⟨gb169,0,none⟩ = some (.int .i64 ((rd_T44 l0 x3_1).f0)) ∧ w'.cell? ⟨gb169,1,none⟩ = some (.int .i64 ((rd_T44 l0 x3_1).f1)) ∧ w'.cell? ⟨gb169,2,none⟩ = some (.int .i64 ((rd_T44 l0 x3_1).f2)) ∧ w'.cell? ⟨gb169,3,none⟩ = some (.int .i64 ((rd_T44 l0 x3_1).f3)) ∧ w'.cell? ⟨gb169,4,none⟩ = some (.int .i64 ((rd_T44 l0 x3_1).f4)) ∧ w'.cell? ⟨gb169,5,none⟩ = some (.int .i64 ((rd_T44 l0 x3_1).f5)) ∧ w'.cell? (ad168.add (((ji6)).toNat * 6)) = some (.int .i64 ((rd_T44 l0 (ji6)).f0)) ∧ w'.cell? ⟨(ad168.add (((ji6)).toNat * 6)).block,(ad168.add (((ji6)).toNat * 6)).off + 1,none⟩ = some (.int .i64 ((rd_T44 l0 (ji6)).f1)) ∧ w'.cell? ⟨(ad168.add (((ji6)).toNat * 6)).block,(ad168.add (((ji6)).toNat * 6)).off + 2,none⟩ = some (.int .i64 ((rd_T44 l0 (ji6)).f2)) ∧ w'.cell? ⟨(ad168.add (((ji6)).toNat * 6)).block,(ad168.add (((ji6)).toNat * 6)).off + 3,none⟩ = some (.int .i64 ((rd_T44 l0 (ji6)).f3)) ∧ w'.cell? ⟨(ad168.add (((ji6)).toNat * 6)).block,(ad168.add (((ji6)).toNat * 6)).off + 4,none⟩ = some (.int .i64 ((rd_T44 l0 (ji6)).f4)) ∧ w'.cell? ⟨(ad168.add (((ji6)).toNat * 6)).block,(ad168.add (((ji6)).toNat * 6)).off + 5,none⟩ = some (.int .i64 ((rd_T44 l0 (ji6)).f5))) (ds:=[]) (bm 47 0) (by kernel_rfl) rfl (by kernel_rfl) ⟨(blk_cell BK169.out 0).trans rfl,(blk_cell BK169.out 1).trans rfl,(blk_cell BK169.out 2).trans rfl,(blk_cell BK169.out 3).trans rfl,(blk_cell BK169.out 4).trans rfl,(blk_cell BK169.out 5).trans rfl,((HB.out.cell (World.block_lt_of_cell? w _ hw170_0)).trans hw170_0),((HB.out.cell (World.block_lt_of_cell? w _ hw170_1)).trans hw170_1),((HB.out.cell (World.block_lt_of_cell? w _ hw170_2)).trans hw170_2),((HB.out.cell (World.block_lt_of_cell? w _ hw170_3)).trans hw170_3),((HB.out.cell (World.block_lt_of_cell? w _ hw170_4)).trans hw170_4),((HB.out.cell (World.block_lt_of_cell? w _ hw170_5)).trans hw170_5)⟩ (fun hHeld => ?_); refine with_tabW hinterlandref09_Validate.tab7 hinterlandref09_Validate.bits7 (fun HT_ HW_ => ?_)
           generalize w14.drew = w15 at BK169 HB hx170_0 hx170_1 hx170_2 hx170_3 hx170_4 hx170_5 hHeld ⊢
           refine pv 0 (some 18) (bm 47 1) HT_ ?_
           refine pv 1 (some 19) (bm 47 3) HT_ ?_
           refine pv 2 (some 20) (bm 47 7) HT_ ?_
           refine pv 3 (some 21) (bm 47 15) HT_ ?_
           refine pv 4 (some 22) (bm 47 31) HT_ ?_
           refine pv 5 (some 23) (bm 47 63) HT_ ?_
           refine pv 6 (some 24) (bm 47 127) HT_ ?_
           refine tk 7 (some 25) (bm 47 255) HT_ HW_ hHeld ?_
           refine tk 8 (some 26) (bm 47 511) HT_ HW_ hHeld ?_
           refine ck 9 (some 27) (bm 47 1023) HT_ (fun K hK => ?_)
           refine goes_ Try.func46 (by kernel_rfl) rfl #[.agg #[.int .i64 ((rd_T44 l0 (ji6)).f0),.int .i64 ((rd_T44 l0 (ji6)).f1),.int .i64 ((rd_T44 l0 (ji6)).f2),.int .i64 ((rd_T44 l0 (ji6)).f3),.int .i64 ((rd_T44 l0 (ji6)).f4),.int .i64 ((rd_T44 l0 (ji6)).f5)],.agg #[.int .i64 ((rd_T44 l0 x3_1).f0),.int .i64 ((rd_T44 l0 x3_1).f1),.int .i64 ((rd_T44 l0 x3_1).f2),.int .i64 ((rd_T44 l0 x3_1).f3),.int .i64 ((rd_T44 l0 x3_1).f4),.int .i64 ((rd_T44 l0 x3_1).f5)]] (by rfl) rfl rfl (by (try simp only [List.map_toArray,List.map_cons,List.map_nil]); first | done | (simp only [hji6]; rfl) | rfl | (simp only [List.length_drop,List.length_take]; rfl)) ?_
           with_reducible refine (hinterlandref09_less.calls ((rd_T44 l0 (ji6)).f0) ((rd_T44 l0 (ji6)).f1) ((rd_T44 l0 (ji6)).f2) ((rd_T44 l0 (ji6)).f3) ((rd_T44 l0 (ji6)).f4) ((rd_T44 l0 (ji6)).f5) ((rd_T44 l0 x3_1).f0) ((rd_T44 l0 x3_1).f1) ((rd_T44 l0 x3_1).f2) ((rd_T44 l0 x3_1).f3) ((rd_T44 l0 x3_1).f4) ((rd_T44 l0 x3_1).f5) true _ A9.out).mono ?_
           rintro e w16 ⟨rfl,hb⟩
           refine ⟨_,rfl,?_⟩
           have n0_:=Aside0.mk (blk_below (g:=gb169) (o:=.cells #[.int .i64 ((rd_T44 l0 x3_1).f0),.int .i64 ((rd_T44 l0 x3_1).f1),.int .i64 ((rd_T44 l0 x3_1).f2),.int .i64 ((rd_T44 l0 x3_1).f3),.int .i64 ((rd_T44 l0 x3_1).f4),.int .i64 ((rd_T44 l0 x3_1).f5)] 44 (0,0)) (by (with_reducible repeat (first | refine blk_drewN ?_ _ | refine blk_drew ?_ | refine blk_alloc ?_ _)); exact BK169.out) hb)
           have n1_:=Aside0.mk (below_step (by repeat (first | (with_reducible first | exact HB.out | apply below_alloc | apply pw_below_drewN | apply below_drew1 | refine below_set ?_ GE169.out) | exact HB.out)) hb)
           clear BK169
           clear HB
           have BK169:=n0_
           have HB:=n1_
           clear n0_ n1_
           (try clear hb)
           (try clear hb2)
           (try clear hk)
           (try clear hi)
           refine hK.out _ _ ⟨(blk_cell BK169.out 0).trans rfl,(blk_cell BK169.out 1).trans rfl,(blk_cell BK169.out 2).trans rfl,(blk_cell BK169.out 3).trans rfl,(blk_cell BK169.out 4).trans rfl,(blk_cell BK169.out 5).trans rfl,((HB.out.cell (World.block_lt_of_cell? w _ hw170_0)).trans hw170_0),((HB.out.cell (World.block_lt_of_cell? w _ hw170_1)).trans hw170_1),((HB.out.cell (World.block_lt_of_cell? w _ hw170_2)).trans hw170_2),((HB.out.cell (World.block_lt_of_cell? w _ hw170_3)).trans hw170_3),((HB.out.cell (World.block_lt_of_cell? w _ hw170_4)).trans hw170_4),((HB.out.cell (World.block_lt_of_cell? w _ hw170_5)).trans hw170_5)⟩ (fun hHeld => ?_)
           clear hK K
           refine nm ?_
           refine pv 10 (some 28) (bm 47 2047) HT_ ?_
           refine pv 11 (some 29) (bm 47 4095) HT_ ?_
           refine pv 12 (some 30) (bm 47 8191) HT_ ?_
           refine pv 13 (some 31) (bm 47 16383) HT_ ?_
           refine tk 14 (some 32) (bm 47 32767) HT_ HW_ hHeld ?_
           refine pv 15 (some 33) (bm 47 65535) HT_ ?_
           refine pv 16 (some 34) (bm 47 131071) HT_ ?_
           refine pv 17 (some 35) (bm 47 262143) HT_ ?_
           refine pn 18 (some 36) (bm 47 524287) HT_ ?_
           refine pn 19 (some 37) (bm 47 1048575) HT_ ?_
           refine pn 20 (some 38) (bm 47 2097151) HT_ ?_
           refine pv 21 (some 39) (bm 47 4194303) HT_ ?_
           refine pv 22 (some 40) (bm 47 8388607) HT_ ?_
           refine pn 23 (some 41) (bm 47 16777215) HT_ ?_
           refine pn 24 (some 42) (bm 47 33554431) HT_ ?_
           refine pn 25 (some 43) (bm 47 67108863) HT_ ?_
           refine pv 26 (some 44) (bm 47 134217727) HT_ ?_
           refine pv 27 (some 45) (bm 47 268435455) HT_ ?_
           refine pn 28 (some 46) (bm 47 536870911) HT_ ?_
           refine pn 29 (some 47) (bm 47 1073741823) HT_ ?_
           refine pn 30 (some 48) (bm 47 2147483647) HT_ ?_
           refine pv 31 (some 49) (bm 47 4294967295) HT_ ?_
           refine pv 32 (some 50) (bm 47 8589934591) HT_ ?_
           refine pn 33 (some 51) (bm 47 17179869183) HT_ ?_
           refine pn 34 (some 52) (bm 47 34359738367) HT_ ?_
           refine pn 35 (some 53) (bm 47 68719476735) HT_ ?_
           refine pv 36 (some 54) (bm 47 137438953471) HT_ ?_
           refine pv 37 (some 55) (bm 47 274877906943) HT_ ?_
           refine pn 38 (some 56) (bm 47 549755813887) HT_ ?_
           refine pn 39 (some 57) (bm 47 1099511627775) HT_ ?_
           refine pn 40 (some 58) (bm 47 2199023255551) HT_ ?_
           refine pv 41 (some 59) (bm 47 4398046511103) HT_ ?_
           refine pv 42 (some 60) (bm 47 8796093022207) HT_ ?_
           refine pn 43 (some 61) (bm 47 17592186044415) HT_ ?_
           refine pn 44 (some 62) (bm 47 35184372088831) HT_ ?_
           refine pn 45 (some 63) (bm 47 70368744177663) HT_ ?_
           refine pv 46 (some 64) (bm 47 140737488355327) HT_ ?_
           refine done_ (done_of HT_.out (by kernel_rfl)) ?_
           try go_wp2
           go_ret
           exact ⟨by first | rfl | (simp [errW_none,errW_some] <;> rfl) | (simp only [← hji6]; first | rfl | (simp [errW_none,errW_some] <;> rfl)) | (simp [*,errW_none,errW_some] <;> rfl),by repeat (first | (with_reducible first | exact HB.out | apply below_alloc | apply pw_below_drewN | apply below_drew1 | refine below_set ?_ GE169.out) | exact HB.out)⟩
          ·rw [if_neg c11] at H
           have c11b0 : decide (((rd_T44 l0 x3_1).f4) < 1) = false:=decide_eq_false c11
           clear c11
           by_cases c17 : ((rd_T44 l0 x3_1).f4) > 1000000
           ·rw [if_pos c17] at H
            have c17b0 : decide (1000000 < ((rd_T44 l0 x3_1).f4)) = true:=decide_eq_true c17
            clear c17
            obtain rfl:=Option.some.inj H
            have p168 : 0 ≤ (x3_1 : Int):=of_decide_eq_true (by first | (with_reducible assumption) | assumption)
            have q168 : x3_1 < (l0.length : Int):=of_decide_eq_true (by first | (with_reducible assumption) | assumption)
            obtain ⟨ad168,e168,hx168_0,hx168_1,hx168_2,hx168_3,hx168_4,hx168_5⟩:=at_T44 HR0.out x3_1 p168 q168
            cases e168
            replace hx168_0:=(HB.out.cell (World.block_lt_of_cell? w _ hx168_0)).trans hx168_0
            replace hx168_1:=(HB.out.cell (World.block_lt_of_cell? w _ hx168_1)).trans hx168_1
            replace hx168_2:=(HB.out.cell (World.block_lt_of_cell? w _ hx168_2)).trans hx168_2
            replace hx168_3:=(HB.out.cell (World.block_lt_of_cell? w _ hx168_3)).trans hx168_3
            replace hx168_4:=(HB.out.cell (World.block_lt_of_cell? w _ hx168_4)).trans hx168_4
            replace hx168_5:=(HB.out.cell (World.block_lt_of_cell? w _ hx168_5)).trans hx168_5
            replace p168:=eq_true p168
            replace q168:=eq_true q168
            try go_wp2_with (first | ((with_reducible refine gate_dst (N:=4) rfl ?_); refine box_event ?hg (N:=4) ?hd (cs:=#[.int .i64 0,.int .i64 0,.int .i64 0,.int .i64 0,.int .i64 0,.int .i64 0]) (t:=44) ?hr ?_; (case hd => rfl); (case hg => rfl); (case hr => first | (go_simp; done) | (go_simp; rfl)); intro gb169 hg w18 hbox hb; have n0_:=Aside0.mk (below_step (by repeat (first | (with_reducible first | exact HB.out | apply below_alloc | apply pw_below_drewN | apply below_drew1) | exact HB.out)) hb); have n1_:=Aside0.mk (hbox); have n2_:=Aside0.mk ((by rw [hg]; exact (below_size (by repeat (first | (with_reducible first | exact HB.out | apply below_alloc | apply pw_below_drewN | apply below_drew1) | exact HB.out))) : w.heap.size ≤ gb169)); have n3_:=Aside0.mk ((by rw [hg]; exact (below_size (by repeat (first | (with_reducible first | exact HB.out | apply below_alloc | apply pw_below_drewN | apply below_drew1) | exact HB.out))) : w.heap.size ≤ gb169)); clear HB; have HB:=n0_; have BK169:=n1_; have GW169:=n2_; have GE169:=n3_; clear n0_ n1_ n2_ n3_; clear hb hbox hg; have hcz19_0 : w18.cell? ⟨gb169,0,none⟩ = some (.int .i64 0):=(blk_cell BK169.out 0).trans rfl; have hcz19_1 : w18.cell? ⟨gb169,1,none⟩ = some (.int .i64 0):=(blk_cell BK169.out 1).trans rfl; have hcz19_2 : w18.cell? ⟨gb169,2,none⟩ = some (.int .i64 0):=(blk_cell BK169.out 2).trans rfl; have hcz19_3 : w18.cell? ⟨gb169,3,none⟩ = some (.int .i64 0):=(blk_cell BK169.out 3).trans rfl; have hcz19_4 : w18.cell? ⟨gb169,4,none⟩ = some (.int .i64 0):=(blk_cell BK169.out 4).trans rfl; have hcz19_5 : w18.cell? ⟨gb169,5,none⟩ = some (.int .i64 0):=(blk_cell BK169.out 5).trans rfl; have hfz19_0:=blk_frozen BK169.out 0; have hfz19_1:=blk_frozen BK169.out 1; have hfz19_2:=blk_frozen BK169.out 2; have hfz19_3:=blk_frozen BK169.out 3; have hfz19_4:=blk_frozen BK169.out 4; have hfz19_5:=blk_frozen BK169.out 5))
            have n0_ : Aside0 (((((((w18.setCell ⟨gb169,0,none⟩ (.int .i64 ((rd_T44 l0 x3_1).f0))).setCell ⟨gb169,1,none⟩ (.int .i64 ((rd_T44 l0 x3_1).f1))).setCell ⟨gb169,2,none⟩ (.int .i64 ((rd_T44 l0 x3_1).f2))).setCell ⟨gb169,3,none⟩ (.int .i64 ((rd_T44 l0 x3_1).f3))).setCell ⟨gb169,4,none⟩ (.int .i64 ((rd_T44 l0 x3_1).f4))).setCell ⟨gb169,5,none⟩ (.int .i64 ((rd_T44 l0 x3_1).f5))).heap[gb169]? = some (.cells #[.int .i64 ((rd_T44 l0 x3_1).f0),.int .i64 ((rd_T44 l0 x3_1).f1),.int .i64 ((rd_T44 l0 x3_1).f2),.int .i64 ((rd_T44 l0 x3_1).f3),.int .i64 ((rd_T44 l0 x3_1).f4),.int .i64 ((rd_T44 l0 x3_1).f5)] 44 (0,0))):=⟨by (with_reducible repeat (first | refine blk_drewN ?_ _ | refine blk_drew ?_ | refine blk_alloc ?_ _)); refine blk_put (cs:=#[.int .i64 ((rd_T44 l0 x3_1).f0),.int .i64 ((rd_T44 l0 x3_1).f1),.int .i64 ((rd_T44 l0 x3_1).f2),.int .i64 ((rd_T44 l0 x3_1).f3),.int .i64 ((rd_T44 l0 x3_1).f4),.int .i64 0]) ?_ 5 _ rfl; (with_reducible repeat (first | refine blk_drewN ?_ _ | refine blk_drew ?_ | refine blk_alloc ?_ _)); refine blk_put (cs:=#[.int .i64 ((rd_T44 l0 x3_1).f0),.int .i64 ((rd_T44 l0 x3_1).f1),.int .i64 ((rd_T44 l0 x3_1).f2),.int .i64 ((rd_T44 l0 x3_1).f3),.int .i64 0,.int .i64 0]) ?_ 4 _ rfl; (with_reducible repeat (first | refine blk_drewN ?_ _ | refine blk_drew ?_ | refine blk_alloc ?_ _)); refine blk_put (cs:=#[.int .i64 ((rd_T44 l0 x3_1).f0),.int .i64 ((rd_T44 l0 x3_1).f1),.int .i64 ((rd_T44 l0 x3_1).f2),.int .i64 0,.int .i64 0,.int .i64 0]) ?_ 3 _ rfl; (with_reducible repeat (first | refine blk_drewN ?_ _ | refine blk_drew ?_ | refine blk_alloc ?_ _)); refine blk_put (cs:=#[.int .i64 ((rd_T44 l0 x3_1).f0),.int .i64 ((rd_T44 l0 x3_1).f1),.int .i64 0,.int .i64 0,.int .i64 0,.int .i64 0]) ?_ 2 _ rfl; (with_reducible repeat (first | refine blk_drewN ?_ _ | refine blk_drew ?_ | refine blk_alloc ?_ _)); refine blk_put (cs:=#[.int .i64 ((rd_T44 l0 x3_1).f0),.int .i64 0,.int .i64 0,.int .i64 0,.int .i64 0,.int .i64 0]) ?_ 1 _ rfl; (with_reducible repeat (first | refine blk_drewN ?_ _ | refine blk_drew ?_ | refine blk_alloc ?_ _)); refine blk_put (cs:=#[.int .i64 0,.int .i64 0,.int .i64 0,.int .i64 0,.int .i64 0,.int .i64 0]) ?_ 0 _ rfl; (with_reducible repeat (first | refine blk_drewN ?_ _ | refine blk_drew ?_ | refine blk_alloc ?_ _)); exact BK169.out⟩
            have n1_ : Aside0 (Below w.heap.size w ((((((w18.setCell ⟨gb169,0,none⟩ (.int .i64 ((rd_T44 l0 x3_1).f0))).setCell ⟨gb169,1,none⟩ (.int .i64 ((rd_T44 l0 x3_1).f1))).setCell ⟨gb169,2,none⟩ (.int .i64 ((rd_T44 l0 x3_1).f2))).setCell ⟨gb169,3,none⟩ (.int .i64 ((rd_T44 l0 x3_1).f3))).setCell ⟨gb169,4,none⟩ (.int .i64 ((rd_T44 l0 x3_1).f4))).setCell ⟨gb169,5,none⟩ (.int .i64 ((rd_T44 l0 x3_1).f5)))):=⟨by repeat (first | (with_reducible first | exact HB.out | apply below_alloc | apply pw_below_drewN | apply below_drew1 | refine below_set ?_ GE169.out) | exact HB.out)⟩
            (try clear BK169)
            (try clear HB)
            generalize ((((((w18.setCell ⟨gb169,0,none⟩ (.int .i64 ((rd_T44 l0 x3_1).f0))).setCell ⟨gb169,1,none⟩ (.int .i64 ((rd_T44 l0 x3_1).f1))).setCell ⟨gb169,2,none⟩ (.int .i64 ((rd_T44 l0 x3_1).f2))).setCell ⟨gb169,3,none⟩ (.int .i64 ((rd_T44 l0 x3_1).f3))).setCell ⟨gb169,4,none⟩ (.int .i64 ((rd_T44 l0 x3_1).f4))).setCell ⟨gb169,5,none⟩ (.int .i64 ((rd_T44 l0 x3_1).f5))) = w20 at n0_ n1_ ⊢
            have BK169:=n0_
            have HB:=n1_
            clear n0_ n1_
            have n0_:=Aside0.mk (blk_drew BK169.out)
            have n1_:=Aside0.mk (below_drew1 HB.out)
            clear BK169
            clear HB
            have BK169:=n0_
            have HB:=n1_
            clear n0_ n1_
            have p170 : 0 ≤ ((ji6) : Int):=of_decide_eq_true (by first | (with_reducible assumption) | assumption)
            have q170 : (ji6) < (l0.length : Int):=of_decide_eq_true (by first | (with_reducible assumption) | assumption)
            obtain ⟨ad170,e170,hx170_0,hx170_1,hx170_2,hx170_3,hx170_4,hx170_5⟩:=at_T44 HR0.out (ji6) p170 q170
            have hw170_5:=hx170_5
            have hw170_4:=hx170_4
            have hw170_3:=hx170_3
            have hw170_2:=hx170_2
            have hw170_1:=hx170_1
            have hw170_0:=hx170_0
            obtain rfl : ad168 = ad170:=(by injection e170)
            replace hx170_0:=(HB.out.cell (World.block_lt_of_cell? w _ hx170_0)).trans hx170_0
            replace hx170_1:=(HB.out.cell (World.block_lt_of_cell? w _ hx170_1)).trans hx170_1
            replace hx170_2:=(HB.out.cell (World.block_lt_of_cell? w _ hx170_2)).trans hx170_2
            replace hx170_3:=(HB.out.cell (World.block_lt_of_cell? w _ hx170_3)).trans hx170_3
            replace hx170_4:=(HB.out.cell (World.block_lt_of_cell? w _ hx170_4)).trans hx170_4
            replace hx170_5:=(HB.out.cell (World.block_lt_of_cell? w _ hx170_5)).trans hx170_5
            replace p170:=eq_true p170
            replace q170:=eq_true q170
            refine start_ (n:=47) (S:=fun w' => w'.cell? ⟨gb169,0,none⟩ = some (.int .i64 ((rd_T44 l0 x3_1).f0)) ∧ w'.cell? ⟨gb169,1,none⟩ = some (.int .i64 ((rd_T44 l0 x3_1).f1)) ∧ w'.cell? ⟨gb169,2,none⟩ = some (.int .i64 ((rd_T44 l0 x3_1).f2)) ∧ w'.cell? ⟨gb169,3,none⟩ = some (.int .i64 ((rd_T44 l0 x3_1).f3)) ∧ w'.cell? ⟨gb169,4,none⟩ = some (.int .i64 ((rd_T44 l0 x3_1).f4)) ∧ w'.cell? ⟨gb169,5,none⟩ = some (.int .i64 ((rd_T44 l0 x3_1).f5)) ∧ w'.cell? (ad168.add (((ji6)).toNat * 6)) = some (.int .i64 ((rd_T44 l0 (ji6)).f0)) ∧ w'.cell? ⟨(ad168.add (((ji6)).toNat * 6)).block,(ad168.add (((ji6)).toNat * 6)).off + 1,none⟩ = some (.int .i64 ((rd_T44 l0 (ji6)).f1)) ∧ w'.cell? ⟨(ad168.add (((ji6)).toNat * 6)).block,(ad168.add (((ji6)).toNat * 6)).off + 2,none⟩ = some (.int .i64 ((rd_T44 l0 (ji6)).f2)) ∧ w'.cell? ⟨(ad168.add (((ji6)).toNat * 6)).block,(ad168.add (((ji6)).toNat * 6)).off + 3,none⟩ = some (.int .i64 ((rd_T44 l0 (ji6)).f3)) ∧ w'.cell? ⟨(ad168.add (((ji6)).toNat * 6)).block,(ad168.add (((ji6)).toNat * 6)).off + 4,none⟩ = some (.int .i64 ((rd_T44 l0 (ji6)).f4)) ∧ w'.cell? ⟨(ad168.add (((ji6)).toNat * 6)).block,(ad168.add (((ji6)).toNat * 6)).off + 5,none⟩ = some (.int .i64 ((rd_T44 l0 (ji6)).f5))) (ds:=[]) (bm 47 0) (by kernel_rfl) rfl (by kernel_rfl) ⟨(blk_cell BK169.out 0).trans rfl,(blk_cell BK169.out 1).trans rfl,(blk_cell BK169.out 2).trans rfl,(blk_cell BK169.out 3).trans rfl,(blk_cell BK169.out 4).trans rfl,(blk_cell BK169.out 5).trans rfl,((HB.out.cell (World.block_lt_of_cell? w _ hw170_0)).trans hw170_0),((HB.out.cell (World.block_lt_of_cell? w _ hw170_1)).trans hw170_1),((HB.out.cell (World.block_lt_of_cell? w _ hw170_2)).trans hw170_2),((HB.out.cell (World.block_lt_of_cell? w _ hw170_3)).trans hw170_3),((HB.out.cell (World.block_lt_of_cell? w _ hw170_4)).trans hw170_4),((HB.out.cell (World.block_lt_of_cell? w _ hw170_5)).trans hw170_5)⟩ (fun hHeld => ?_); refine with_tabW hinterlandref09_Validate.tab7 hinterlandref09_Validate.bits7 (fun HT_ HW_ => ?_)
            generalize w20.drew = w21 at BK169 HB hx170_0 hx170_1 hx170_2 hx170_3 hx170_4 hx170_5 hHeld ⊢
            refine pv 0 (some 18) (bm 47 1) HT_ ?_
            refine pv 1 (some 19) (bm 47 3) HT_ ?_
            refine pv 2 (some 20) (bm 47 7) HT_ ?_
            refine pv 3 (some 21) (bm 47 15) HT_ ?_
            refine pv 4 (some 22) (bm 47 31) HT_ ?_
            refine pv 5 (some 23) (bm 47 63) HT_ ?_
            refine pv 6 (some 24) (bm 47 127) HT_ ?_
            refine tk 7 (some 25) (bm 47 255) HT_ HW_ hHeld ?_
            refine tk 8 (some 26) (bm 47 511) HT_ HW_ hHeld ?_
            refine ck 9 (some 27) (bm 47 1023) HT_ (fun K hK => ?_)
            refine goes_ Try.func46 (by kernel_rfl) rfl #[.agg #[.int .i64 ((rd_T44 l0 (ji6)).f0),.int .i64 ((rd_T44 l0 (ji6)).f1),.int .i64 ((rd_T44 l0 (ji6)).f2),.int .i64 ((rd_T44 l0 (ji6)).f3),.int .i64 ((rd_T44 l0 (ji6)).f4),.int .i64 ((rd_T44 l0 (ji6)).f5)],.agg #[.int .i64 ((rd_T44 l0 x3_1).f0),.int .i64 ((rd_T44 l0 x3_1).f1),.int .i64 ((rd_T44 l0 x3_1).f2),.int .i64 ((rd_T44 l0 x3_1).f3),.int .i64 ((rd_T44 l0 x3_1).f4),.int .i64 ((rd_T44 l0 x3_1).f5)]] (by rfl) rfl rfl (by (try simp only [List.map_toArray,List.map_cons,List.map_nil]); first | done | (simp only [hji6]; rfl) | rfl | (simp only [List.length_drop,List.length_take]; rfl)) ?_
            with_reducible refine (hinterlandref09_less.calls ((rd_T44 l0 (ji6)).f0) ((rd_T44 l0 (ji6)).f1) ((rd_T44 l0 (ji6)).f2) ((rd_T44 l0 (ji6)).f3) ((rd_T44 l0 (ji6)).f4) ((rd_T44 l0 (ji6)).f5) ((rd_T44 l0 x3_1).f0) ((rd_T44 l0 x3_1).f1) ((rd_T44 l0 x3_1).f2) ((rd_T44 l0 x3_1).f3) ((rd_T44 l0 x3_1).f4) ((rd_T44 l0 x3_1).f5) true _ A9.out).mono ?_
            rintro e w22 ⟨rfl,hb⟩
            refine ⟨_,rfl,?_⟩
            have n0_:=Aside0.mk (blk_below (g:=gb169) (o:=.cells #[.int .i64 ((rd_T44 l0 x3_1).f0),.int .i64 ((rd_T44 l0 x3_1).f1),.int .i64 ((rd_T44 l0 x3_1).f2),.int .i64 ((rd_T44 l0 x3_1).f3),.int .i64 ((rd_T44 l0 x3_1).f4),.int .i64 ((rd_T44 l0 x3_1).f5)] 44 (0,0)) (by (with_reducible repeat (first | refine blk_drewN ?_ _ | refine blk_drew ?_ | refine blk_alloc ?_ _)); exact BK169.out) hb)
            have n1_:=Aside0.mk (below_step (by repeat (first | (with_reducible first | exact HB.out | apply below_alloc | apply pw_below_drewN | apply below_drew1 | refine below_set ?_ GE169.out) | exact HB.out)) hb)
            clear BK169
            clear HB
            have BK169:=n0_
            have HB:=n1_
            clear n0_ n1_
            (try clear hb)
            (try clear hb2)
            (try clear hk)
            (try clear hi)
            refine hK.out _ _ ⟨(blk_cell BK169.out 0).trans rfl,(blk_cell BK169.out 1).trans rfl,(blk_cell BK169.out 2).trans rfl,(blk_cell BK169.out 3).trans rfl,(blk_cell BK169.out 4).trans rfl,(blk_cell BK169.out 5).trans rfl,((HB.out.cell (World.block_lt_of_cell? w _ hw170_0)).trans hw170_0),((HB.out.cell (World.block_lt_of_cell? w _ hw170_1)).trans hw170_1),((HB.out.cell (World.block_lt_of_cell? w _ hw170_2)).trans hw170_2),((HB.out.cell (World.block_lt_of_cell? w _ hw170_3)).trans hw170_3),((HB.out.cell (World.block_lt_of_cell? w _ hw170_4)).trans hw170_4),((HB.out.cell (World.block_lt_of_cell? w _ hw170_5)).trans hw170_5)⟩ (fun hHeld => ?_)
            clear hK K
            refine nm ?_
            refine pv 10 (some 28) (bm 47 2047) HT_ ?_
            refine pv 11 (some 29) (bm 47 4095) HT_ ?_
            refine pv 12 (some 30) (bm 47 8191) HT_ ?_
            refine pv 13 (some 31) (bm 47 16383) HT_ ?_
            refine tk 14 (some 32) (bm 47 32767) HT_ HW_ hHeld ?_
            refine pv 15 (some 33) (bm 47 65535) HT_ ?_
            refine pv 16 (some 34) (bm 47 131071) HT_ ?_
            refine pv 17 (some 35) (bm 47 262143) HT_ ?_
            refine pv 18 (some 36) (bm 47 524287) HT_ ?_
            refine tk 19 (some 37) (bm 47 1048575) HT_ HW_ hHeld ?_
            refine pv 20 (some 38) (bm 47 2097151) HT_ ?_
            refine pv 21 (some 39) (bm 47 4194303) HT_ ?_
            refine pv 22 (some 40) (bm 47 8388607) HT_ ?_
            refine pn 23 (some 41) (bm 47 16777215) HT_ ?_
            refine pn 24 (some 42) (bm 47 33554431) HT_ ?_
            refine pn 25 (some 43) (bm 47 67108863) HT_ ?_
            refine pv 26 (some 44) (bm 47 134217727) HT_ ?_
            refine pv 27 (some 45) (bm 47 268435455) HT_ ?_
            refine pn 28 (some 46) (bm 47 536870911) HT_ ?_
            refine pn 29 (some 47) (bm 47 1073741823) HT_ ?_
            refine pn 30 (some 48) (bm 47 2147483647) HT_ ?_
            refine pv 31 (some 49) (bm 47 4294967295) HT_ ?_
            refine pv 32 (some 50) (bm 47 8589934591) HT_ ?_
            refine pn 33 (some 51) (bm 47 17179869183) HT_ ?_
            refine pn 34 (some 52) (bm 47 34359738367) HT_ ?_
            refine pn 35 (some 53) (bm 47 68719476735) HT_ ?_
            refine pv 36 (some 54) (bm 47 137438953471) HT_ ?_
            refine pv 37 (some 55) (bm 47 274877906943) HT_ ?_
            refine pn 38 (some 56) (bm 47 549755813887) HT_ ?_
            refine pn 39 (some 57) (bm 47 1099511627775) HT_ ?_
            refine pn 40 (some 58) (bm 47 2199023255551) HT_ ?_
            refine pv 41 (some 59) (bm 47 4398046511103) HT_ ?_
            refine pv 42 (some 60) (bm 47 8796093022207) HT_ ?_
            refine pn 43 (some 61) (bm 47 17592186044415) HT_ ?_
            refine pn 44 (some 62) (bm 47 35184372088831) HT_ ?_
            refine pn 45 (some 63) (bm 47 70368744177663) HT_ ?_
            refine pv 46 (some 64) (bm 47 140737488355327) HT_ ?_
            refine done_ (done_of HT_.out (by kernel_rfl)) ?_
            try go_wp2
            go_ret
            exact ⟨by first | rfl | (simp [errW_none,errW_some] <;> rfl) | (simp only [← hji6]; first | rfl | (simp [errW_none,errW_some] <;> rfl)) | (simp [*,errW_none,errW_some] <;> rfl),by repeat (first | (with_reducible first | exact HB.out | apply below_alloc | apply pw_below_drewN | apply below_drew1 | refine below_set ?_ GE169.out) | exact HB.out)⟩
           ·rw [if_neg c17] at H
            have c17b0 : decide (1000000 < ((rd_T44 l0 x3_1).f4)) = false:=decide_eq_false c17
            clear c17
            replace H:=Option.bind_eq_some_iff.mp H
            obtain ⟨t172,A230,H⟩:=H
            replace H : (if t172 = true then (some 1) else ((hinterlandref09_Out.f ((rd_T44 l0 x3_1).f5) 1000000000000).bind fun t173 => (if t173 = true then (some 1) else ((hinterlandref09_Out.f ((rd_T44 l0 x3_1).f0) 1000000).bind fun t174 => (if t174 = true then (some 1) else ((hinterlandref09_Out.f ((rd_T44 l0 x3_1).f1) 1000000).bind fun t175 => (if t175 = true then (some 1) else ((hinterlandref09_Out.f ((rd_T44 l0 x3_1).f2) 1000000).bind fun t176 => (if t176 = true then (some 1) else (hinterlandref09_Validate.l0 k1 l0 (wrap64 (x3_1 + 1)))))))))))) = some r:=H
            have A23:=Aside0.mk A230
            clear A230
            by_cases c24 : t172 = true
            ·subst c24
             have H1 : (some 1) = some r:=by rw [if_pos rfl] at H; exact H
             clear H
             have H:=H1
             clear H1
             obtain rfl:=Option.some.inj H
             have p168 : 0 ≤ (x3_1 : Int):=of_decide_eq_true (by first | (with_reducible assumption) | assumption)
             have q168 : x3_1 < (l0.length : Int):=of_decide_eq_true (by first | (with_reducible assumption) | assumption)
             obtain ⟨ad168,e168,hx168_0,hx168_1,hx168_2,hx168_3,hx168_4,hx168_5⟩:=at_T44 HR0.out x3_1 p168 q168
             cases e168
             replace hx168_0:=(HB.out.cell (World.block_lt_of_cell? w _ hx168_0)).trans hx168_0
             replace hx168_1:=(HB.out.cell (World.block_lt_of_cell? w _ hx168_1)).trans hx168_1
             replace hx168_2:=(HB.out.cell (World.block_lt_of_cell? w _ hx168_2)).trans hx168_2
             replace hx168_3:=(HB.out.cell (World.block_lt_of_cell? w _ hx168_3)).trans hx168_3
             replace hx168_4:=(HB.out.cell (World.block_lt_of_cell? w _ hx168_4)).trans hx168_4
             replace hx168_5:=(HB.out.cell (World.block_lt_of_cell? w _ hx168_5)).trans hx168_5
             replace p168:=eq_true p168
             replace q168:=eq_true q168
             try go_wp2_with (first | ((with_reducible refine gate_dst (N:=4) rfl ?_); refine box_event ?hg (N:=4) ?hd (cs:=#[.int .i64 0,.int .i64 0,.int .i64 0,.int .i64 0,.int .i64 0,.int .i64 0]) (t:=44) ?hr ?_; (case hd => rfl); (case hg => rfl); (case hr => first | (go_simp; done) | (go_simp; rfl)); intro gb169 hg w25 hbox hb; have n0_:=Aside0.mk (below_step (by repeat (first | (with_reducible first | exact HB.out | apply below_alloc | apply pw_below_drewN | apply below_drew1) | exact HB.out)) hb); have n1_:=Aside0.mk (hbox); have n2_:=Aside0.mk ((by rw [hg]; exact (below_size (by repeat (first | (with_reducible first | exact HB.out | apply below_alloc | apply pw_below_drewN | apply below_drew1) | exact HB.out))) : w.heap.size ≤ gb169)); have n3_:=Aside0.mk ((by rw [hg]; exact (below_size (by repeat (first | (with_reducible first | exact HB.out | apply below_alloc | apply pw_below_drewN | apply below_drew1) | exact HB.out))) : w.heap.size ≤ gb169)); clear HB; have HB:=n0_; have BK169:=n1_; have GW169:=n2_; have GE169:=n3_; clear n0_ n1_ n2_ n3_; clear hb hbox hg; have hcz26_0 : w25.cell? ⟨gb169,0,none⟩ = some (.int .i64 0):=(blk_cell BK169.out 0).trans rfl; have hcz26_1 : w25.cell? ⟨gb169,1,none⟩ = some (.int .i64 0):=(blk_cell BK169.out 1).trans rfl; have hcz26_2 : w25.cell? ⟨gb169,2,none⟩ = some (.int .i64 0):=(blk_cell BK169.out 2).trans rfl; have hcz26_3 : w25.cell? ⟨gb169,3,none⟩ = some (.int .i64 0):=(blk_cell BK169.out 3).trans rfl; have hcz26_4 : w25.cell? ⟨gb169,4,none⟩ = some (.int .i64 0):=(blk_cell BK169.out 4).trans rfl; have hcz26_5 : w25.cell? ⟨gb169,5,none⟩ = some (.int .i64 0):=(blk_cell BK169.out 5).trans rfl; have hfz26_0:=blk_frozen BK169.out 0; have hfz26_1:=blk_frozen BK169.out 1; have hfz26_2:=blk_frozen BK169.out 2; have hfz26_3:=blk_frozen BK169.out 3; have hfz26_4:=blk_frozen BK169.out 4; have hfz26_5:=blk_frozen BK169.out 5))
             have n0_ : Aside0 (((((((w25.setCell ⟨gb169,0,none⟩ (.int .i64 ((rd_T44 l0 x3_1).f0))).setCell ⟨gb169,1,none⟩ (.int .i64 ((rd_T44 l0 x3_1).f1))).setCell ⟨gb169,2,none⟩ (.int .i64 ((rd_T44 l0 x3_1).f2))).setCell ⟨gb169,3,none⟩ (.int .i64 ((rd_T44 l0 x3_1).f3))).setCell ⟨gb169,4,none⟩ (.int .i64 ((rd_T44 l0 x3_1).f4))).setCell ⟨gb169,5,none⟩ (.int .i64 ((rd_T44 l0 x3_1).f5))).heap[gb169]? = some (.cells #[.int .i64 ((rd_T44 l0 x3_1).f0),.int .i64 ((rd_T44 l0 x3_1).f1),.int .i64 ((rd_T44 l0 x3_1).f2),.int .i64 ((rd_T44 l0 x3_1).f3),.int .i64 ((rd_T44 l0 x3_1).f4),.int .i64 ((rd_T44 l0 x3_1).f5)] 44 (0,0))):=⟨by (with_reducible repeat (first | refine blk_drewN ?_ _ | refine blk_drew ?_ | refine blk_alloc ?_ _)); refine blk_put (cs:=#[.int .i64 ((rd_T44 l0 x3_1).f0),.int .i64 ((rd_T44 l0 x3_1).f1),.int .i64 ((rd_T44 l0 x3_1).f2),.int .i64 ((rd_T44 l0 x3_1).f3),.int .i64 ((rd_T44 l0 x3_1).f4),.int .i64 0]) ?_ 5 _ rfl; (with_reducible repeat (first | refine blk_drewN ?_ _ | refine blk_drew ?_ | refine blk_alloc ?_ _)); refine blk_put (cs:=#[.int .i64 ((rd_T44 l0 x3_1).f0),.int .i64 ((rd_T44 l0 x3_1).f1),.int .i64 ((rd_T44 l0 x3_1).f2),.int .i64 ((rd_T44 l0 x3_1).f3),.int .i64 0,.int .i64 0]) ?_ 4 _ rfl; (with_reducible repeat (first | refine blk_drewN ?_ _ | refine blk_drew ?_ | refine blk_alloc ?_ _)); refine blk_put (cs:=#[.int .i64 ((rd_T44 l0 x3_1).f0),.int .i64 ((rd_T44 l0 x3_1).f1),.int .i64 ((rd_T44 l0 x3_1).f2),.int .i64 0,.int .i64 0,.int .i64 0]) ?_ 3 _ rfl; (with_reducible repeat (first | refine blk_drewN ?_ _ | refine blk_drew ?_ | refine blk_alloc ?_ _)); refine blk_put (cs:=#[.int .i64 ((rd_T44 l0 x3_1).f0),.int .i64 ((rd_T44 l0 x3_1).f1),.int .i64 0,.int .i64 0,.int .i64 0,.int .i64 0]) ?_ 2 _ rfl; (with_reducible repeat (first | refine blk_drewN ?_ _ | refine blk_drew ?_ | refine blk_alloc ?_ _)); refine blk_put (cs:=#[.int .i64 ((rd_T44 l0 x3_1).f0),.int .i64 0,.int .i64 0,.int .i64 0,.int .i64 0,.int .i64 0]) ?_ 1 _ rfl; (with_reducible repeat (first | refine blk_drewN ?_ _ | refine blk_drew ?_ | refine blk_alloc ?_ _)); refine blk_put (cs:=#[.int .i64 0,.int .i64 0,.int .i64 0,.int .i64 0,.int .i64 0,.int .i64 0]) ?_ 0 _ rfl; (with_reducible repeat (first | refine blk_drewN ?_ _ | refine blk_drew ?_ | refine blk_alloc ?_ _)); exact BK169.out⟩
             have n1_ : Aside0 (Below w.heap.size w ((((((w25.setCell ⟨gb169,0,none⟩ (.int .i64 ((rd_T44 l0 x3_1).f0))).setCell ⟨gb169,1,none⟩ (.int .i64 ((rd_T44 l0 x3_1).f1))).setCell ⟨gb169,2,none⟩ (.int .i64 ((rd_T44 l0 x3_1).f2))).setCell ⟨gb169,3,none⟩ (.int .i64 ((rd_T44 l0 x3_1).f3))).setCell ⟨gb169,4,none⟩ (.int .i64 ((rd_T44 l0 x3_1).f4))).setCell ⟨gb169,5,none⟩ (.int .i64 ((rd_T44 l0 x3_1).f5)))):=⟨by repeat (first | (with_reducible first | exact HB.out | apply below_alloc | apply pw_below_drewN | apply below_drew1 | refine below_set ?_ GE169.out) | exact HB.out)⟩
             (try clear BK169)
             (try clear HB)
             generalize ((((((w25.setCell ⟨gb169,0,none⟩ (.int .i64 ((rd_T44 l0 x3_1).f0))).setCell ⟨gb169,1,none⟩ (.int .i64 ((rd_T44 l0 x3_1).f1))).setCell ⟨gb169,2,none⟩ (.int .i64 ((rd_T44 l0 x3_1).f2))).setCell ⟨gb169,3,none⟩ (.int .i64 ((rd_T44 l0 x3_1).f3))).setCell ⟨gb169,4,none⟩ (.int .i64 ((rd_T44 l0 x3_1).f4))).setCell ⟨gb169,5,none⟩ (.int .i64 ((rd_T44 l0 x3_1).f5))) = w27 at n0_ n1_ ⊢
             have BK169:=n0_
             have HB:=n1_
             clear n0_ n1_
             have n0_:=Aside0.mk (blk_drew BK169.out)
             have n1_:=Aside0.mk (below_drew1 HB.out)
             clear BK169
             clear HB
             have BK169:=n0_
             have HB:=n1_
             clear n0_ n1_
             have p170 : 0 ≤ ((ji6) : Int):=of_decide_eq_true (by first | (with_reducible assumption) | assumption)
             have q170 : (ji6) < (l0.length : Int):=of_decide_eq_true (by first | (with_reducible assumption) | assumption)
             obtain ⟨ad170,e170,hx170_0,hx170_1,hx170_2,hx170_3,hx170_4,hx170_5⟩:=at_T44 HR0.out (ji6) p170 q170
             have hw170_5:=hx170_5
             have hw170_4:=hx170_4
             have hw170_3:=hx170_3
             have hw170_2:=hx170_2
             have hw170_1:=hx170_1
             have hw170_0:=hx170_0
             obtain rfl : ad168 = ad170:=(by injection e170)
             replace hx170_0:=(HB.out.cell (World.block_lt_of_cell? w _ hx170_0)).trans hx170_0
             replace hx170_1:=(HB.out.cell (World.block_lt_of_cell? w _ hx170_1)).trans hx170_1
             replace hx170_2:=(HB.out.cell (World.block_lt_of_cell? w _ hx170_2)).trans hx170_2
             replace hx170_3:=(HB.out.cell (World.block_lt_of_cell? w _ hx170_3)).trans hx170_3
             replace hx170_4:=(HB.out.cell (World.block_lt_of_cell? w _ hx170_4)).trans hx170_4
             replace hx170_5:=(HB.out.cell (World.block_lt_of_cell? w _ hx170_5)).trans hx170_5
             replace p170:=eq_true p170
             replace q170:=eq_true q170
             refine start_ (n:=47) (S:=fun w' => w'.cell? ⟨gb169,0,none⟩ = some (.int .i64 ((rd_T44 l0 x3_1).f0)) ∧ w'.cell? ⟨gb169,1,none⟩ = some (.int .i64 ((rd_T44 l0 x3_1).f1)) ∧ w'.cell? ⟨gb169,2,none⟩ = some (.int .i64 ((rd_T44 l0 x3_1).f2)) ∧ w'.cell? ⟨gb169,3,none⟩ = some (.int .i64 ((rd_T44 l0 x3_1).f3)) ∧ w'.cell? ⟨gb169,4,none⟩ = some (.int .i64 ((rd_T44 l0 x3_1).f4)) ∧ w'.cell? ⟨gb169,5,none⟩ = some (.int .i64 ((rd_T44 l0 x3_1).f5)) ∧ w'.cell? (ad168.add (((ji6)).toNat * 6)) = some (.int .i64 ((rd_T44 l0 (ji6)).f0)) ∧ w'.cell? ⟨(ad168.add (((ji6)).toNat * 6)).block,(ad168.add (((ji6)).toNat * 6)).off + 1,none⟩ = some (.int .i64 ((rd_T44 l0 (ji6)).f1)) ∧ w'.cell? ⟨(ad168.add (((ji6)).toNat * 6)).block,(ad168.add (((ji6)).toNat * 6)).off + 2,none⟩ = some (.int .i64 ((rd_T44 l0 (ji6)).f2)) ∧ w'.cell? ⟨(ad168.add (((ji6)).toNat * 6)).block,(ad168.add (((ji6)).toNat * 6)).off + 3,none⟩ = some (.int .i64 ((rd_T44 l0 (ji6)).f3)) ∧ w'.cell? ⟨(ad168.add (((ji6)).toNat * 6)).block,(ad168.add (((ji6)).toNat * 6)).off + 4,none⟩ = some (.int .i64 ((rd_T44 l0 (ji6)).f4)) ∧ w'.cell? ⟨(ad168.add (((ji6)).toNat * 6)).block,(ad168.add (((ji6)).toNat * 6)).off + 5,none⟩ = some (.int .i64 ((rd_T44 l0 (ji6)).f5))) (ds:=[]) (bm 47 0) (by kernel_rfl) rfl (by kernel_rfl) ⟨(blk_cell BK169.out 0).trans rfl,(blk_cell BK169.out 1).trans rfl,(blk_cell BK169.out 2).trans rfl,(blk_cell BK169.out 3).trans rfl,(blk_cell BK169.out 4).trans rfl,(blk_cell BK169.out 5).trans rfl,((HB.out.cell (World.block_lt_of_cell? w _ hw170_0)).trans hw170_0),((HB.out.cell (World.block_lt_of_cell? w _ hw170_1)).trans hw170_1),((HB.out.cell (World.block_lt_of_cell? w _ hw170_2)).trans hw170_2),((HB.out.cell (World.block_lt_of_cell? w _ hw170_3)).trans hw170_3),((HB.out.cell (World.block_lt_of_cell? w _ hw170_4)).trans hw170_4),((HB.out.cell (World.block_lt_of_cell? w _ hw170_5)).trans hw170_5)⟩ (fun hHeld => ?_); refine with_tabW hinterlandref09_Validate.tab7 hinterlandref09_Validate.bits7 (fun HT_ HW_ => ?_)
             generalize w27.drew = w28 at BK169 HB hx170_0 hx170_1 hx170_2 hx170_3 hx170_4 hx170_5 hHeld ⊢
             refine pv 0 (some 18) (bm 47 1) HT_ ?_
             refine pv 1 (some 19) (bm 47 3) HT_ ?_
             refine pv 2 (some 20) (bm 47 7) HT_ ?_
             refine pv 3 (some 21) (bm 47 15) HT_ ?_
             refine pv 4 (some 22) (bm 47 31) HT_ ?_
             refine pv 5 (some 23) (bm 47 63) HT_ ?_
             refine pv 6 (some 24) (bm 47 127) HT_ ?_
             refine tk 7 (some 25) (bm 47 255) HT_ HW_ hHeld ?_
             refine tk 8 (some 26) (bm 47 511) HT_ HW_ hHeld ?_
             refine ck 9 (some 27) (bm 47 1023) HT_ (fun K hK => ?_)
             refine goes_ Try.func46 (by kernel_rfl) rfl #[.agg #[.int .i64 ((rd_T44 l0 (ji6)).f0),.int .i64 ((rd_T44 l0 (ji6)).f1),.int .i64 ((rd_T44 l0 (ji6)).f2),.int .i64 ((rd_T44 l0 (ji6)).f3),.int .i64 ((rd_T44 l0 (ji6)).f4),.int .i64 ((rd_T44 l0 (ji6)).f5)],.agg #[.int .i64 ((rd_T44 l0 x3_1).f0),.int .i64 ((rd_T44 l0 x3_1).f1),.int .i64 ((rd_T44 l0 x3_1).f2),.int .i64 ((rd_T44 l0 x3_1).f3),.int .i64 ((rd_T44 l0 x3_1).f4),.int .i64 ((rd_T44 l0 x3_1).f5)]] (by rfl) rfl rfl (by (try simp only [List.map_toArray,List.map_cons,List.map_nil]); first | done | (simp only [hji6]; rfl) | rfl | (simp only [List.length_drop,List.length_take]; rfl)) ?_
             with_reducible refine (hinterlandref09_less.calls ((rd_T44 l0 (ji6)).f0) ((rd_T44 l0 (ji6)).f1) ((rd_T44 l0 (ji6)).f2) ((rd_T44 l0 (ji6)).f3) ((rd_T44 l0 (ji6)).f4) ((rd_T44 l0 (ji6)).f5) ((rd_T44 l0 x3_1).f0) ((rd_T44 l0 x3_1).f1) ((rd_T44 l0 x3_1).f2) ((rd_T44 l0 x3_1).f3) ((rd_T44 l0 x3_1).f4) ((rd_T44 l0 x3_1).f5) true _ A9.out).mono ?_
             rintro e w29 ⟨rfl,hb⟩
             refine ⟨_,rfl,?_⟩
             have n0_:=Aside0.mk (blk_below (g:=gb169) (o:=.cells #[.int .i64 ((rd_T44 l0 x3_1).f0),.int .i64 ((rd_T44 l0 x3_1).f1),.int .i64 ((rd_T44 l0 x3_1).f2),.int .i64 ((rd_T44 l0 x3_1).f3),.int .i64 ((rd_T44 l0 x3_1).f4),.int .i64 ((rd_T44 l0 x3_1).f5)] 44 (0,0)) (by (with_reducible repeat (first | refine blk_drewN ?_ _ | refine blk_drew ?_ | refine blk_alloc ?_ _)); exact BK169.out) hb)
             have n1_:=Aside0.mk (below_step (by repeat (first | (with_reducible first | exact HB.out | apply below_alloc | apply pw_below_drewN | apply below_drew1 | refine below_set ?_ GE169.out) | exact HB.out)) hb)
             clear BK169
             clear HB
             have BK169:=n0_
             have HB:=n1_
             clear n0_ n1_
             (try clear hb)
             (try clear hb2)
             (try clear hk)
             (try clear hi)
             refine hK.out _ _ ⟨(blk_cell BK169.out 0).trans rfl,(blk_cell BK169.out 1).trans rfl,(blk_cell BK169.out 2).trans rfl,(blk_cell BK169.out 3).trans rfl,(blk_cell BK169.out 4).trans rfl,(blk_cell BK169.out 5).trans rfl,((HB.out.cell (World.block_lt_of_cell? w _ hw170_0)).trans hw170_0),((HB.out.cell (World.block_lt_of_cell? w _ hw170_1)).trans hw170_1),((HB.out.cell (World.block_lt_of_cell? w _ hw170_2)).trans hw170_2),((HB.out.cell (World.block_lt_of_cell? w _ hw170_3)).trans hw170_3),((HB.out.cell (World.block_lt_of_cell? w _ hw170_4)).trans hw170_4),((HB.out.cell (World.block_lt_of_cell? w _ hw170_5)).trans hw170_5)⟩ (fun hHeld => ?_)
             clear hK K
             refine nm ?_
             refine pv 10 (some 28) (bm 47 2047) HT_ ?_
             refine pv 11 (some 29) (bm 47 4095) HT_ ?_
             refine pv 12 (some 30) (bm 47 8191) HT_ ?_
             refine pv 13 (some 31) (bm 47 16383) HT_ ?_
             refine tk 14 (some 32) (bm 47 32767) HT_ HW_ hHeld ?_
             refine pv 15 (some 33) (bm 47 65535) HT_ ?_
             refine pv 16 (some 34) (bm 47 131071) HT_ ?_
             refine pv 17 (some 35) (bm 47 262143) HT_ ?_
             refine pv 18 (some 36) (bm 47 524287) HT_ ?_
             refine tk 19 (some 37) (bm 47 1048575) HT_ HW_ hHeld ?_
             refine pv 20 (some 38) (bm 47 2097151) HT_ ?_
             refine pv 21 (some 39) (bm 47 4194303) HT_ ?_
             refine pv 22 (some 40) (bm 47 8388607) HT_ ?_
             refine pv 23 (some 41) (bm 47 16777215) HT_ ?_
             refine tk 24 (some 42) (bm 47 33554431) HT_ HW_ hHeld ?_
             refine ck 25 (some 43) (bm 47 67108863) HT_ (fun K hK => ?_)
             refine gs Try.func42 #[.int .i64 ((rd_T44 l0 x3_1).f3),.int .i64 255] ?_
             with_reducible refine (hinterlandref09_Out.calls ((rd_T44 l0 x3_1).f3) 255 true _ A23.out).mono ?_
             rintro e w' ⟨rfl,⟨nd,rfl⟩⟩
             refine ⟨_,rfl,?_⟩
             refine hK.out _ _ ⟨(blk_cell BK169.out 0).trans rfl,(blk_cell BK169.out 1).trans rfl,(blk_cell BK169.out 2).trans rfl,(blk_cell BK169.out 3).trans rfl,(blk_cell BK169.out 4).trans rfl,(blk_cell BK169.out 5).trans rfl,((HB.out.cell (World.block_lt_of_cell? w _ hw170_0)).trans hw170_0),((HB.out.cell (World.block_lt_of_cell? w _ hw170_1)).trans hw170_1),((HB.out.cell (World.block_lt_of_cell? w _ hw170_2)).trans hw170_2),((HB.out.cell (World.block_lt_of_cell? w _ hw170_3)).trans hw170_3),((HB.out.cell (World.block_lt_of_cell? w _ hw170_4)).trans hw170_4),((HB.out.cell (World.block_lt_of_cell? w _ hw170_5)).trans hw170_5)⟩ (fun hHeld => ?_)
             clear hK K
             refine nm ?_
             refine pv 26 (some 44) (bm 47 134217727) HT_ ?_
             refine pv 27 (some 45) (bm 47 268435455) HT_ ?_
             refine pn 28 (some 46) (bm 47 536870911) HT_ ?_
             refine pn 29 (some 47) (bm 47 1073741823) HT_ ?_
             refine pn 30 (some 48) (bm 47 2147483647) HT_ ?_
             refine pv 31 (some 49) (bm 47 4294967295) HT_ ?_
             refine pv 32 (some 50) (bm 47 8589934591) HT_ ?_
             refine pn 33 (some 51) (bm 47 17179869183) HT_ ?_
             refine pn 34 (some 52) (bm 47 34359738367) HT_ ?_
             refine pn 35 (some 53) (bm 47 68719476735) HT_ ?_
             refine pv 36 (some 54) (bm 47 137438953471) HT_ ?_
             refine pv 37 (some 55) (bm 47 274877906943) HT_ ?_
             refine pn 38 (some 56) (bm 47 549755813887) HT_ ?_
             refine pn 39 (some 57) (bm 47 1099511627775) HT_ ?_
             refine pn 40 (some 58) (bm 47 2199023255551) HT_ ?_
             refine pv 41 (some 59) (bm 47 4398046511103) HT_ ?_
             refine pv 42 (some 60) (bm 47 8796093022207) HT_ ?_
             refine pn 43 (some 61) (bm 47 17592186044415) HT_ ?_
             refine pn 44 (some 62) (bm 47 35184372088831) HT_ ?_
             refine pn 45 (some 63) (bm 47 70368744177663) HT_ ?_
             refine pv 46 (some 64) (bm 47 140737488355327) HT_ ?_
             refine done_ (done_of HT_.out (by kernel_rfl)) ?_
             try go_wp2
             go_ret
             exact ⟨by first | rfl | (simp [errW_none,errW_some] <;> rfl) | (simp only [← hji6]; first | rfl | (simp [errW_none,errW_some] <;> rfl)) | (simp [*,errW_none,errW_some] <;> rfl),by repeat (first | (with_reducible first | exact HB.out | apply below_alloc | apply pw_below_drewN | apply below_drew1 | refine below_set ?_ GE169.out) | exact HB.out)⟩
            ·replace c24:=Bool.eq_false_iff.mpr c24
             subst c24
             have H1 : ((hinterlandref09_Out.f ((rd_T44 l0 x3_1).f5) 1000000000000).bind fun t173 => (if t173 = true then (some 1) else ((hinterlandref09_Out.f ((rd_T44 l0 x3_1).f0) 1000000).bind fun t174 => (if t174 = true then (some 1) else ((hinterlandref09_Out.f ((rd_T44 l0 x3_1).f1) 1000000).bind fun t175 => (if t175 = true then (some 1) else ((hinterlandref09_Out.f ((rd_T44 l0 x3_1).f2) 1000000).bind fun t176 => (if t176 = true then (some 1) else (hinterlandref09_Validate.l0 k1 l0 (wrap64 (x3_1 + 1))))))))))) = some r:=by rw [if_neg (show ¬ (false = true) by decide)] at H; exact H
             clear H
             have H:=H1
             clear H1
             replace H:=Option.bind_eq_some_iff.mp H
             obtain ⟨t173,A300,H⟩:=H
             replace H : (if t173 = true then (some 1) else ((hinterlandref09_Out.f ((rd_T44 l0 x3_1).f0) 1000000).bind fun t174 => (if t174 = true then (some 1) else ((hinterlandref09_Out.f ((rd_T44 l0 x3_1).f1) 1000000).bind fun t175 => (if t175 = true then (some 1) else ((hinterlandref09_Out.f ((rd_T44 l0 x3_1).f2) 1000000).bind fun t176 => (if t176 = true then (some 1) else (hinterlandref09_Validate.l0 k1 l0 (wrap64 (x3_1 + 1)))))))))) = some r:=H
             have A30:=Aside0.mk A300
             clear A300
             by_cases c31 : t173 = true
             ·subst c31
              have H1 : (some 1) = some r:=by rw [if_pos rfl] at H; exact H
              clear H
              have H:=H1
              clear H1
              obtain rfl:=Option.some.inj H
              have p168 : 0 ≤ (x3_1 : Int):=of_decide_eq_true (by first | (with_reducible assumption) | assumption)
              have q168 : x3_1 < (l0.length : Int):=of_decide_eq_true (by first | (with_reducible assumption) | assumption)
              obtain ⟨ad168,e168,hx168_0,hx168_1,hx168_2,hx168_3,hx168_4,hx168_5⟩:=at_T44 HR0.out x3_1 p168 q168
              cases e168
              replace hx168_0:=(HB.out.cell (World.block_lt_of_cell? w _ hx168_0)).trans hx168_0
              replace hx168_1:=(HB.out.cell (World.block_lt_of_cell? w _ hx168_1)).trans hx168_1
              replace hx168_2:=(HB.out.cell (World.block_lt_of_cell? w _ hx168_2)).trans hx168_2
              replace hx168_3:=(HB.out.cell (World.block_lt_of_cell? w _ hx168_3)).trans hx168_3
              replace hx168_4:=(HB.out.cell (World.block_lt_of_cell? w _ hx168_4)).trans hx168_4
              replace hx168_5:=(HB.out.cell (World.block_lt_of_cell? w _ hx168_5)).trans hx168_5
              replace p168:=eq_true p168
              replace q168:=eq_true q168
              try go_wp2_with (first | ((with_reducible refine gate_dst (N:=4) rfl ?_); refine box_event ?hg (N:=4) ?hd (cs:=#[.int .i64 0,.int .i64 0,.int .i64 0,.int .i64 0,.int .i64 0,.int .i64 0]) (t:=44) ?hr ?_; (case hd => rfl); (case hg => rfl); (case hr => first | (go_simp; done) | (go_simp; rfl)); intro gb169 hg w32 hbox hb; have n0_:=Aside0.mk (below_step (by repeat (first | (with_reducible first | exact HB.out | apply below_alloc | apply pw_below_drewN | apply below_drew1) | exact HB.out)) hb); have n1_:=Aside0.mk (hbox); have n2_:=Aside0.mk ((by rw [hg]; exact (below_size (by repeat (first | (with_reducible first | exact HB.out | apply below_alloc | apply pw_below_drewN | apply below_drew1) | exact HB.out))) : w.heap.size ≤ gb169)); have n3_:=Aside0.mk ((by rw [hg]; exact (below_size (by repeat (first | (with_reducible first | exact HB.out | apply below_alloc | apply pw_below_drewN | apply below_drew1) | exact HB.out))) : w.heap.size ≤ gb169)); clear HB; have HB:=n0_; have BK169:=n1_; have GW169:=n2_; have GE169:=n3_; clear n0_ n1_ n2_ n3_; clear hb hbox hg; have hcz33_0 : w32.cell? ⟨gb169,0,none⟩ = some (.int .i64 0):=(blk_cell BK169.out 0).trans rfl; have hcz33_1 : w32.cell? ⟨gb169,1,none⟩ = some (.int .i64 0):=(blk_cell BK169.out 1).trans rfl; have hcz33_2 : w32.cell? ⟨gb169,2,none⟩ = some (.int .i64 0):=(blk_cell BK169.out 2).trans rfl; have hcz33_3 : w32.cell? ⟨gb169,3,none⟩ = some (.int .i64 0):=(blk_cell BK169.out 3).trans rfl; have hcz33_4 : w32.cell? ⟨gb169,4,none⟩ = some (.int .i64 0):=(blk_cell BK169.out 4).trans rfl; have hcz33_5 : w32.cell? ⟨gb169,5,none⟩ = some (.int .i64 0):=(blk_cell BK169.out 5).trans rfl; have hfz33_0:=blk_frozen BK169.out 0; have hfz33_1:=blk_frozen BK169.out 1; have hfz33_2:=blk_frozen BK169.out 2; have hfz33_3:=blk_frozen BK169.out 3; have hfz33_4:=blk_frozen BK169.out 4; have hfz33_5:=blk_frozen BK169.out 5))
              have n0_ : Aside0 (((((((w32.setCell ⟨gb169,0,none⟩ (.int .i64 ((rd_T44 l0 x3_1).f0))).setCell ⟨gb169,1,none⟩ (.int .i64 ((rd_T44 l0 x3_1).f1))).setCell ⟨gb169,2,none⟩ (.int .i64 ((rd_T44 l0 x3_1).f2))).setCell ⟨gb169,3,none⟩ (.int .i64 ((rd_T44 l0 x3_1).f3))).setCell ⟨gb169,4,none⟩ (.int .i64 ((rd_T44 l0 x3_1).f4))).setCell ⟨gb169,5,none⟩ (.int .i64 ((rd_T44 l0 x3_1).f5))).heap[gb169]? = some (.cells #[.int .i64 ((rd_T44 l0 x3_1).f0),.int .i64 ((rd_T44 l0 x3_1).f1),.int .i64 ((rd_T44 l0 x3_1).f2),.int .i64 ((rd_T44 l0 x3_1).f3),.int .i64 ((rd_T44 l0 x3_1).f4),.int .i64 ((rd_T44 l0 x3_1).f5)] 44 (0,0))):=⟨by (with_reducible repeat (first | refine blk_drewN ?_ _ | refine blk_drew ?_ | refine blk_alloc ?_ _)); refine blk_put (cs:=#[.int .i64 ((rd_T44 l0 x3_1).f0),.int .i64 ((rd_T44 l0 x3_1).f1),.int .i64 ((rd_T44 l0 x3_1).f2),.int .i64 ((rd_T44 l0 x3_1).f3),.int .i64 ((rd_T44 l0 x3_1).f4),.int .i64 0]) ?_ 5 _ rfl; (with_reducible repeat (first | refine blk_drewN ?_ _ | refine blk_drew ?_ | refine blk_alloc ?_ _)); refine blk_put (cs:=#[.int .i64 ((rd_T44 l0 x3_1).f0),.int .i64 ((rd_T44 l0 x3_1).f1),.int .i64 ((rd_T44 l0 x3_1).f2),.int .i64 ((rd_T44 l0 x3_1).f3),.int .i64 0,.int .i64 0]) ?_ 4 _ rfl; (with_reducible repeat (first | refine blk_drewN ?_ _ | refine blk_drew ?_ | refine blk_alloc ?_ _)); refine blk_put (cs:=#[.int .i64 ((rd_T44 l0 x3_1).f0),.int .i64 ((rd_T44 l0 x3_1).f1),.int .i64 ((rd_T44 l0 x3_1).f2),.int .i64 0,.int .i64 0,.int .i64 0]) ?_ 3 _ rfl; (with_reducible repeat (first | refine blk_drewN ?_ _ | refine blk_drew ?_ | refine blk_alloc ?_ _)); refine blk_put (cs:=#[.int .i64 ((rd_T44 l0 x3_1).f0),.int .i64 ((rd_T44 l0 x3_1).f1),.int .i64 0,.int .i64 0,.int .i64 0,.int .i64 0]) ?_ 2 _ rfl; (with_reducible repeat (first | refine blk_drewN ?_ _ | refine blk_drew ?_ | refine blk_alloc ?_ _)); refine blk_put (cs:=#[.int .i64 ((rd_T44 l0 x3_1).f0),.int .i64 0,.int .i64 0,.int .i64 0,.int .i64 0,.int .i64 0]) ?_ 1 _ rfl; (with_reducible repeat (first | refine blk_drewN ?_ _ | refine blk_drew ?_ | refine blk_alloc ?_ _)); refine blk_put (cs:=#[.int .i64 0,.int .i64 0,.int .i64 0,.int .i64 0,.int .i64 0,.int .i64 0]) ?_ 0 _ rfl; (with_reducible repeat (first | refine blk_drewN ?_ _ | refine blk_drew ?_ | refine blk_alloc ?_ _)); exact BK169.out⟩
              have n1_ : Aside0 (Below w.heap.size w ((((((w32.setCell ⟨gb169,0,none⟩ (.int .i64 ((rd_T44 l0 x3_1).f0))).setCell ⟨gb169,1,none⟩ (.int .i64 ((rd_T44 l0 x3_1).f1))).setCell ⟨gb169,2,none⟩ (.int .i64 ((rd_T44 l0 x3_1).f2))).setCell ⟨gb169,3,none⟩ (.int .i64 ((rd_T44 l0 x3_1).f3))).setCell ⟨gb169,4,none⟩ (.int .i64 ((rd_T44 l0 x3_1).f4))).setCell ⟨gb169,5,none⟩ (.int .i64 ((rd_T44 l0 x3_1).f5)))):=⟨by repeat (first | (with_reducible first | exact HB.out | apply below_alloc | apply pw_below_drewN | apply below_drew1 | refine below_set ?_ GE169.out) | exact HB.out)⟩
              (try clear BK169)
              (try clear HB)
              generalize ((((((w32.setCell ⟨gb169,0,none⟩ (.int .i64 ((rd_T44 l0 x3_1).f0))).setCell ⟨gb169,1,none⟩ (.int .i64 ((rd_T44 l0 x3_1).f1))).setCell ⟨gb169,2,none⟩ (.int .i64 ((rd_T44 l0 x3_1).f2))).setCell ⟨gb169,3,none⟩ (.int .i64 ((rd_T44 l0 x3_1).f3))).setCell ⟨gb169,4,none⟩ (.int .i64 ((rd_T44 l0 x3_1).f4))).setCell ⟨gb169,5,none⟩ (.int .i64 ((rd_T44 l0 x3_1).f5))) = w34 at n0_ n1_ ⊢
              have BK169:=n0_
              have HB:=n1_
              clear n0_ n1_
              have n0_:=Aside0.mk (blk_drew BK169.out)
              have n1_:=Aside0.mk (below_drew1 HB.out)
              clear BK169
              clear HB
              have BK169:=n0_
              have HB:=n1_
              clear n0_ n1_
              have p170 : 0 ≤ ((ji6) : Int):=of_decide_eq_true (by first | (with_reducible assumption) | assumption)
              have q170 : (ji6) < (l0.length : Int):=of_decide_eq_true (by first | (with_reducible assumption) | assumption)
              obtain ⟨ad170,e170,hx170_0,hx170_1,hx170_2,hx170_3,hx170_4,hx170_5⟩:=at_T44 HR0.out (ji6) p170 q170
              have hw170_5:=hx170_5
              have hw170_4:=hx170_4
              have hw170_3:=hx170_3
              have hw170_2:=hx170_2
              have hw170_1:=hx170_1
              have hw170_0:=hx170_0
              obtain rfl : ad168 = ad170:=(by injection e170)
              replace hx170_0:=(HB.out.cell (World.block_lt_of_cell? w _ hx170_0)).trans hx170_0
              replace hx170_1:=(HB.out.cell (World.block_lt_of_cell? w _ hx170_1)).trans hx170_1
              replace hx170_2:=(HB.out.cell (World.block_lt_of_cell? w _ hx170_2)).trans hx170_2
              replace hx170_3:=(HB.out.cell (World.block_lt_of_cell? w _ hx170_3)).trans hx170_3
              replace hx170_4:=(HB.out.cell (World.block_lt_of_cell? w _ hx170_4)).trans hx170_4
              replace hx170_5:=(HB.out.cell (World.block_lt_of_cell? w _ hx170_5)).trans hx170_5
              replace p170:=eq_true p170
              replace q170:=eq_true q170
              refine start_ (n:=47) (S:=fun w' => w'.cell? ⟨gb169,0,none⟩ = some (.int .i64 ((rd_T44 l0 x3_1).f0)) ∧ w'.cell? ⟨gb169,1,none⟩ = some (.int .i64 ((rd_T44 l0 x3_1).f1)) ∧ w'.cell? ⟨gb169,2,none⟩ = some (.int .i64 ((rd_T44 l0 x3_1).f2)) ∧ w'.cell? ⟨gb169,3,none⟩ = some (.int .i64 ((rd_T44 l0 x3_1).f3)) ∧ w'.cell? ⟨gb169,4,none⟩ = some (.int .i64 ((rd_T44 l0 x3_1).f4)) ∧ w'.cell? ⟨gb169,5,none⟩ = some (.int .i64 ((rd_T44 l0 x3_1).f5)) ∧ w'.cell? (ad168.add (((ji6)).toNat * 6)) = some (.int .i64 ((rd_T44 l0 (ji6)).f0)) ∧ w'.cell? ⟨(ad168.add (((ji6)).toNat * 6)).block,(ad168.add (((ji6)).toNat * 6)).off + 1,none⟩ = some (.int .i64 ((rd_T44 l0 (ji6)).f1)) ∧ w'.cell? ⟨(ad168.add (((ji6)).toNat * 6)).block,(ad168.add (((ji6)).toNat * 6)).off + 2,none⟩ = some (.int .i64 ((rd_T44 l0 (ji6)).f2)) ∧ w'.cell? ⟨(ad168.add (((ji6)).toNat * 6)).block,(ad168.add (((ji6)).toNat * 6)).off + 3,none⟩ = some (.int .i64 ((rd_T44 l0 (ji6)).f3)) ∧ w'.cell? ⟨(ad168.add (((ji6)).toNat * 6)).block,(ad168.add (((ji6)).toNat * 6)).off + 4,none⟩ = some (.int .i64 ((rd_T44 l0 (ji6)).f4)) ∧ w'.cell? ⟨(ad168.add (((ji6)).toNat * 6)).block,(ad168.add (((ji6)).toNat * 6)).off + 5,none⟩ = some (.int .i64 ((rd_T44 l0 (ji6)).f5))) (ds:=[]) (bm 47 0) (by kernel_rfl) rfl (by kernel_rfl) ⟨(blk_cell BK169.out 0).trans rfl,(blk_cell BK169.out 1).trans rfl,(blk_cell BK169.out 2).trans rfl,(blk_cell BK169.out 3).trans rfl,(blk_cell BK169.out 4).trans rfl,(blk_cell BK169.out 5).trans rfl,((HB.out.cell (World.block_lt_of_cell? w _ hw170_0)).trans hw170_0),((HB.out.cell (World.block_lt_of_cell? w _ hw170_1)).trans hw170_1),((HB.out.cell (World.block_lt_of_cell? w _ hw170_2)).trans hw170_2),((HB.out.cell (World.block_lt_of_cell? w _ hw170_3)).trans hw170_3),((HB.out.cell (World.block_lt_of_cell? w _ hw170_4)).trans hw170_4),((HB.out.cell (World.block_lt_of_cell? w _ hw170_5)).trans hw170_5)⟩ (fun hHeld => ?_); refine with_tabW hinterlandref09_Validate.tab7 hinterlandref09_Validate.bits7 (fun HT_ HW_ => ?_)
              generalize w34.drew = w35 at BK169 HB hx170_0 hx170_1 hx170_2 hx170_3 hx170_4 hx170_5 hHeld ⊢
              refine pv 0 (some 18) (bm 47 1) HT_ ?_
              refine pv 1 (some 19) (bm 47 3) HT_ ?_
              refine pv 2 (some 20) (bm 47 7) HT_ ?_
              refine pv 3 (some 21) (bm 47 15) HT_ ?_
              refine pv 4 (some 22) (bm 47 31) HT_ ?_
              refine pv 5 (some 23) (bm 47 63) HT_ ?_
              refine pv 6 (some 24) (bm 47 127) HT_ ?_
              refine tk 7 (some 25) (bm 47 255) HT_ HW_ hHeld ?_
              refine tk 8 (some 26) (bm 47 511) HT_ HW_ hHeld ?_
              refine ck 9 (some 27) (bm 47 1023) HT_ (fun K hK => ?_)
              refine goes_ Try.func46 (by kernel_rfl) rfl #[.agg #[.int .i64 ((rd_T44 l0 (ji6)).f0),.int .i64 ((rd_T44 l0 (ji6)).f1),.int .i64 ((rd_T44 l0 (ji6)).f2),.int .i64 ((rd_T44 l0 (ji6)).f3),.int .i64 ((rd_T44 l0 (ji6)).f4),.int .i64 ((rd_T44 l0 (ji6)).f5)],.agg #[.int .i64 ((rd_T44 l0 x3_1).f0),.int .i64 ((rd_T44 l0 x3_1).f1),.int .i64 ((rd_T44 l0 x3_1).f2),.int .i64 ((rd_T44 l0 x3_1).f3),.int .i64 ((rd_T44 l0 x3_1).f4),.int .i64 ((rd_T44 l0 x3_1).f5)]] (by rfl) rfl rfl (by (try simp only [List.map_toArray,List.map_cons,List.map_nil]); first | done | (simp only [hji6]; rfl) | rfl | (simp only [List.length_drop,List.length_take]; rfl)) ?_
              with_reducible refine (hinterlandref09_less.calls ((rd_T44 l0 (ji6)).f0) ((rd_T44 l0 (ji6)).f1) ((rd_T44 l0 (ji6)).f2) ((rd_T44 l0 (ji6)).f3) ((rd_T44 l0 (ji6)).f4) ((rd_T44 l0 (ji6)).f5) ((rd_T44 l0 x3_1).f0) ((rd_T44 l0 x3_1).f1) ((rd_T44 l0 x3_1).f2) ((rd_T44 l0 x3_1).f3) ((rd_T44 l0 x3_1).f4) ((rd_T44 l0 x3_1).f5) true _ A9.out).mono ?_
              rintro e w36 ⟨rfl,hb⟩
              refine ⟨_,rfl,?_⟩
              have n0_:=Aside0.mk (blk_below (g:=gb169) (o:=.cells #[.int .i64 ((rd_T44 l0 x3_1).f0),.int .i64 ((rd_T44 l0 x3_1).f1),.int .i64 ((rd_T44 l0 x3_1).f2),.int .i64 ((rd_T44 l0 x3_1).f3),.int .i64 ((rd_T44 l0 x3_1).f4),.int .i64 ((rd_T44 l0 x3_1).f5)] 44 (0,0)) (by (with_reducible repeat (first | refine blk_drewN ?_ _ | refine blk_drew ?_ | refine blk_alloc ?_ _)); exact BK169.out) hb)
              have n1_:=Aside0.mk (below_step (by repeat (first | (with_reducible first | exact HB.out | apply below_alloc | apply pw_below_drewN | apply below_drew1 | refine below_set ?_ GE169.out) | exact HB.out)) hb)
              clear BK169
              clear HB
              have BK169:=n0_
              have HB:=n1_
              clear n0_ n1_
              (try clear hb)
              (try clear hb2)
              (try clear hk)
              (try clear hi)
              refine hK.out _ _ ⟨(blk_cell BK169.out 0).trans rfl,(blk_cell BK169.out 1).trans rfl,(blk_cell BK169.out 2).trans rfl,(blk_cell BK169.out 3).trans rfl,(blk_cell BK169.out 4).trans rfl,(blk_cell BK169.out 5).trans rfl,((HB.out.cell (World.block_lt_of_cell? w _ hw170_0)).trans hw170_0),((HB.out.cell (World.block_lt_of_cell? w _ hw170_1)).trans hw170_1),((HB.out.cell (World.block_lt_of_cell? w _ hw170_2)).trans hw170_2),((HB.out.cell (World.block_lt_of_cell? w _ hw170_3)).trans hw170_3),((HB.out.cell (World.block_lt_of_cell? w _ hw170_4)).trans hw170_4),((HB.out.cell (World.block_lt_of_cell? w _ hw170_5)).trans hw170_5)⟩ (fun hHeld => ?_)
              clear hK K
              refine nm ?_
              refine pv 10 (some 28) (bm 47 2047) HT_ ?_
              refine pv 11 (some 29) (bm 47 4095) HT_ ?_
              refine pv 12 (some 30) (bm 47 8191) HT_ ?_
              refine pv 13 (some 31) (bm 47 16383) HT_ ?_
              refine tk 14 (some 32) (bm 47 32767) HT_ HW_ hHeld ?_
              refine pv 15 (some 33) (bm 47 65535) HT_ ?_
              refine pv 16 (some 34) (bm 47 131071) HT_ ?_
              refine pv 17 (some 35) (bm 47 262143) HT_ ?_
              refine pv 18 (some 36) (bm 47 524287) HT_ ?_
              refine tk 19 (some 37) (bm 47 1048575) HT_ HW_ hHeld ?_
              refine pv 20 (some 38) (bm 47 2097151) HT_ ?_
              refine pv 21 (some 39) (bm 47 4194303) HT_ ?_
              refine pv 22 (some 40) (bm 47 8388607) HT_ ?_
              refine pv 23 (some 41) (bm 47 16777215) HT_ ?_
              refine tk 24 (some 42) (bm 47 33554431) HT_ HW_ hHeld ?_
              refine ck 25 (some 43) (bm 47 67108863) HT_ (fun K hK => ?_)
              refine gs Try.func42 #[.int .i64 ((rd_T44 l0 x3_1).f3),.int .i64 255] ?_
              with_reducible refine (hinterlandref09_Out.calls ((rd_T44 l0 x3_1).f3) 255 false _ A23.out).mono ?_
              rintro e w' ⟨rfl,⟨nd,rfl⟩⟩
              refine ⟨_,rfl,?_⟩
              refine hK.out _ _ ⟨(blk_cell BK169.out 0).trans rfl,(blk_cell BK169.out 1).trans rfl,(blk_cell BK169.out 2).trans rfl,(blk_cell BK169.out 3).trans rfl,(blk_cell BK169.out 4).trans rfl,(blk_cell BK169.out 5).trans rfl,((HB.out.cell (World.block_lt_of_cell? w _ hw170_0)).trans hw170_0),((HB.out.cell (World.block_lt_of_cell? w _ hw170_1)).trans hw170_1),((HB.out.cell (World.block_lt_of_cell? w _ hw170_2)).trans hw170_2),((HB.out.cell (World.block_lt_of_cell? w _ hw170_3)).trans hw170_3),((HB.out.cell (World.block_lt_of_cell? w _ hw170_4)).trans hw170_4),((HB.out.cell (World.block_lt_of_cell? w _ hw170_5)).trans hw170_5)⟩ (fun hHeld => ?_)
              clear hK K
              refine nm ?_
              refine pv 26 (some 44) (bm 47 134217727) HT_ ?_
              refine pv 27 (some 45) (bm 47 268435455) HT_ ?_
              refine pv 28 (some 46) (bm 47 536870911) HT_ ?_
              refine tk 29 (some 47) (bm 47 1073741823) HT_ HW_ hHeld ?_
              refine ck 30 (some 48) (bm 47 2147483647) HT_ (fun K hK => ?_)
              refine gs Try.func42 #[.int .i64 ((rd_T44 l0 x3_1).f5),.int .i64 1000000000000] ?_
              with_reducible refine (hinterlandref09_Out.calls ((rd_T44 l0 x3_1).f5) 1000000000000 true _ A30.out).mono ?_
              rintro e w' ⟨rfl,⟨nd,rfl⟩⟩
              refine ⟨_,rfl,?_⟩
              refine hK.out _ _ ⟨(blk_cell BK169.out 0).trans rfl,(blk_cell BK169.out 1).trans rfl,(blk_cell BK169.out 2).trans rfl,(blk_cell BK169.out 3).trans rfl,(blk_cell BK169.out 4).trans rfl,(blk_cell BK169.out 5).trans rfl,((HB.out.cell (World.block_lt_of_cell? w _ hw170_0)).trans hw170_0),((HB.out.cell (World.block_lt_of_cell? w _ hw170_1)).trans hw170_1),((HB.out.cell (World.block_lt_of_cell? w _ hw170_2)).trans hw170_2),((HB.out.cell (World.block_lt_of_cell? w _ hw170_3)).trans hw170_3),((HB.out.cell (World.block_lt_of_cell? w _ hw170_4)).trans hw170_4),((HB.out.cell (World.block_lt_of_cell? w _ hw170_5)).trans hw170_5)⟩ (fun hHeld => ?_)
              clear hK K
              refine nm ?_
              refine pv 31 (some 49) (bm 47 4294967295) HT_ ?_
              refine pv 32 (some 50) (bm 47 8589934591) HT_ ?_
              refine pn 33 (some 51) (bm 47 17179869183) HT_ ?_
              refine pn 34 (some 52) (bm 47 34359738367) HT_ ?_
              refine pn 35 (some 53) (bm 47 68719476735) HT_ ?_
              refine pv 36 (some 54) (bm 47 137438953471) HT_ ?_
              refine pv 37 (some 55) (bm 47 274877906943) HT_ ?_
              refine pn 38 (some 56) (bm 47 549755813887) HT_ ?_
              refine pn 39 (some 57) (bm 47 1099511627775) HT_ ?_
              refine pn 40 (some 58) (bm 47 2199023255551) HT_ ?_
              refine pv 41 (some 59) (bm 47 4398046511103) HT_ ?_
              refine pv 42 (some 60) (bm 47 8796093022207) HT_ ?_
              refine pn 43 (some 61) (bm 47 17592186044415) HT_ ?_
              refine pn 44 (some 62) (bm 47 35184372088831) HT_ ?_
              refine pn 45 (some 63) (bm 47 70368744177663) HT_ ?_
              refine pv 46 (some 64) (bm 47 140737488355327) HT_ ?_
              refine done_ (done_of HT_.out (by kernel_rfl)) ?_
              try go_wp2
              go_ret
              exact ⟨by first | rfl | (simp [errW_none,errW_some] <;> rfl) | (simp only [← hji6]; first | rfl | (simp [errW_none,errW_some] <;> rfl)) | (simp [*,errW_none,errW_some] <;> rfl),by repeat (first | (with_reducible first | exact HB.out | apply below_alloc | apply pw_below_drewN | apply below_drew1 | refine below_set ?_ GE169.out) | exact HB.out)⟩
             ·replace c31:=Bool.eq_false_iff.mpr c31
              subst c31
              have H1 : ((hinterlandref09_Out.f ((rd_T44 l0 x3_1).f0) 1000000).bind fun t174 => (if t174 = true then (some 1) else ((hinterlandref09_Out.f ((rd_T44 l0 x3_1).f1) 1000000).bind fun t175 => (if t175 = true then (some 1) else ((hinterlandref09_Out.f ((rd_T44 l0 x3_1).f2) 1000000).bind fun t176 => (if t176 = true then (some 1) else (hinterlandref09_Validate.l0 k1 l0 (wrap64 (x3_1 + 1))))))))) = some r:=by rw [if_neg (show ¬ (false = true) by decide)] at H; exact H
              clear H
              have H:=H1
              clear H1
              replace H:=Option.bind_eq_some_iff.mp H
              obtain ⟨t174,A370,H⟩:=H
              replace H : (if t174 = true then (some 1) else ((hinterlandref09_Out.f ((rd_T44 l0 x3_1).f1) 1000000).bind fun t175 => (if t175 = true then (some 1) else ((hinterlandref09_Out.f ((rd_T44 l0 x3_1).f2) 1000000).bind fun t176 => (if t176 = true then (some 1) else (hinterlandref09_Validate.l0 k1 l0 (wrap64 (x3_1 + 1)))))))) = some r:=H
              have A37:=Aside0.mk A370
              clear A370
              by_cases c38 : t174 = true
              ·subst c38
               have H1 : (some 1) = some r:=by rw [if_pos rfl] at H; exact H
               clear H
               have H:=H1
               clear H1
               obtain rfl:=Option.some.inj H
               have p168 : 0 ≤ (x3_1 : Int):=of_decide_eq_true (by first | (with_reducible assumption) | assumption)
               have q168 : x3_1 < (l0.length : Int):=of_decide_eq_true (by first | (with_reducible assumption) | assumption)
               obtain ⟨ad168,e168,hx168_0,hx168_1,hx168_2,hx168_3,hx168_4,hx168_5⟩:=at_T44 HR0.out x3_1 p168 q168
               cases e168
               replace hx168_0:=(HB.out.cell (World.block_lt_of_cell? w _ hx168_0)).trans hx168_0
               replace hx168_1:=(HB.out.cell (World.block_lt_of_cell? w _ hx168_1)).trans hx168_1
               replace hx168_2:=(HB.out.cell (World.block_lt_of_cell? w _ hx168_2)).trans hx168_2
               replace hx168_3:=(HB.out.cell (World.block_lt_of_cell? w _ hx168_3)).trans hx168_3
               replace hx168_4:=(HB.out.cell (World.block_lt_of_cell? w _ hx168_4)).trans hx168_4
               replace hx168_5:=(HB.out.cell (World.block_lt_of_cell? w _ hx168_5)).trans hx168_5
               replace p168:=eq_true p168
               replace q168:=eq_true q168
               try go_wp2_with (first | ((with_reducible refine gate_dst (N:=4) rfl ?_); refine box_event ?hg (N:=4) ?hd (cs:=#[.int .i64 0,.int .i64 0,.int .i64 0,.int .i64 0,.int .i64 0,.int .i64 0]) (t:=44) ?hr ?_; (case hd => rfl); (case hg => rfl); (case hr => first | (go_simp; done) | (go_simp; rfl)); intro gb169 hg w39 hbox hb; have n0_:=Aside0.mk (below_step (by repeat (first | (with_reducible first | exact HB.out | apply below_alloc | apply pw_below_drewN | apply below_drew1) | exact HB.out)) hb); have n1_:=Aside0.mk (hbox); have n2_:=Aside0.mk ((by rw [hg]; exact (below_size (by repeat (first | (with_reducible first | exact HB.out | apply below_alloc | apply pw_below_drewN | apply below_drew1) | exact HB.out))) : w.heap.size ≤ gb169)); have n3_:=Aside0.mk ((by rw [hg]; exact (below_size (by repeat (first | (with_reducible first | exact HB.out | apply below_alloc | apply pw_below_drewN | apply below_drew1) | exact HB.out))) : w.heap.size ≤ gb169)); clear HB; have HB:=n0_; have BK169:=n1_; have GW169:=n2_; have GE169:=n3_; clear n0_ n1_ n2_ n3_; clear hb hbox hg; have hcz40_0 : w39.cell? ⟨gb169,0,none⟩ = some (.int .i64 0):=(blk_cell BK169.out 0).trans rfl; have hcz40_1 : w39.cell? ⟨gb169,1,none⟩ = some (.int .i64 0):=(blk_cell BK169.out 1).trans rfl; have hcz40_2 : w39.cell? ⟨gb169,2,none⟩ = some (.int .i64 0):=(blk_cell BK169.out 2).trans rfl; have hcz40_3 : w39.cell? ⟨gb169,3,none⟩ = some (.int .i64 0):=(blk_cell BK169.out 3).trans rfl; have hcz40_4 : w39.cell? ⟨gb169,4,none⟩ = some (.int .i64 0):=(blk_cell BK169.out 4).trans rfl; have hcz40_5 : w39.cell? ⟨gb169,5,none⟩ = some (.int .i64 0):=(blk_cell BK169.out 5).trans rfl; have hfz40_0:=blk_frozen BK169.out 0; have hfz40_1:=blk_frozen BK169.out 1; have hfz40_2:=blk_frozen BK169.out 2; have hfz40_3:=blk_frozen BK169.out 3; have hfz40_4:=blk_frozen BK169.out 4; have hfz40_5:=blk_frozen BK169.out 5))
               have n0_ : Aside0 (((((((w39.setCell ⟨gb169,0,none⟩ (.int .i64 ((rd_T44 l0 x3_1).f0))).setCell ⟨gb169,1,none⟩ (.int .i64 ((rd_T44 l0 x3_1).f1))).setCell ⟨gb169,2,none⟩ (.int .i64 ((rd_T44 l0 x3_1).f2))).setCell ⟨gb169,3,none⟩ (.int .i64 ((rd_T44 l0 x3_1).f3))).setCell ⟨gb169,4,none⟩ (.int .i64 ((rd_T44 l0 x3_1).f4))).setCell ⟨gb169,5,none⟩ (.int .i64 ((rd_T44 l0 x3_1).f5))).heap[gb169]? = some (.cells #[.int .i64 ((rd_T44 l0 x3_1).f0),.int .i64 ((rd_T44 l0 x3_1).f1),.int .i64 ((rd_T44 l0 x3_1).f2),.int .i64 ((rd_T44 l0 x3_1).f3),.int .i64 ((rd_T44 l0 x3_1).f4),.int .i64 ((rd_T44 l0 x3_1).f5)] 44 (0,0))):=⟨by (with_reducible repeat (first | refine blk_drewN ?_ _ | refine blk_drew ?_ | refine blk_alloc ?_ _)); refine blk_put (cs:=#[.int .i64 ((rd_T44 l0 x3_1).f0),.int .i64 ((rd_T44 l0 x3_1).f1),.int .i64 ((rd_T44 l0 x3_1).f2),.int .i64 ((rd_T44 l0 x3_1).f3),.int .i64 ((rd_T44 l0 x3_1).f4),.int .i64 0]) ?_ 5 _ rfl; (with_reducible repeat (first | refine blk_drewN ?_ _ | refine blk_drew ?_ | refine blk_alloc ?_ _)); refine blk_put (cs:=#[.int .i64 ((rd_T44 l0 x3_1).f0),.int .i64 ((rd_T44 l0 x3_1).f1),.int .i64 ((rd_T44 l0 x3_1).f2),.int .i64 ((rd_T44 l0 x3_1).f3),.int .i64 0,.int .i64 0]) ?_ 4 _ rfl; (with_reducible repeat (first | refine blk_drewN ?_ _ | refine blk_drew ?_ | refine blk_alloc ?_ _)); refine blk_put (cs:=#[.int .i64 ((rd_T44 l0 x3_1).f0),.int .i64 ((rd_T44 l0 x3_1).f1),.int .i64 ((rd_T44 l0 x3_1).f2),.int .i64 0,.int .i64 0,.int .i64 0]) ?_ 3 _ rfl; (with_reducible repeat (first | refine blk_drewN ?_ _ | refine blk_drew ?_ | refine blk_alloc ?_ _)); refine blk_put (cs:=#[.int .i64 ((rd_T44 l0 x3_1).f0),.int .i64 ((rd_T44 l0 x3_1).f1),.int .i64 0,.int .i64 0,.int .i64 0,.int .i64 0]) ?_ 2 _ rfl; (with_reducible repeat (first | refine blk_drewN ?_ _ | refine blk_drew ?_ | refine blk_alloc ?_ _)); refine blk_put (cs:=#[.int .i64 ((rd_T44 l0 x3_1).f0),.int .i64 0,.int .i64 0,.int .i64 0,.int .i64 0,.int .i64 0]) ?_ 1 _ rfl; (with_reducible repeat (first | refine blk_drewN ?_ _ | refine blk_drew ?_ | refine blk_alloc ?_ _)); refine blk_put (cs:=#[.int .i64 0,.int .i64 0,.int .i64 0,.int .i64 0,.int .i64 0,.int .i64 0]) ?_ 0 _ rfl; (with_reducible repeat (first | refine blk_drewN ?_ _ | refine blk_drew ?_ | refine blk_alloc ?_ _)); exact BK169.out⟩
               have n1_ : Aside0 (Below w.heap.size w ((((((w39.setCell ⟨gb169,0,none⟩ (.int .i64 ((rd_T44 l0 x3_1).f0))).setCell ⟨gb169,1,none⟩ (.int .i64 ((rd_T44 l0 x3_1).f1))).setCell ⟨gb169,2,none⟩ (.int .i64 ((rd_T44 l0 x3_1).f2))).setCell ⟨gb169,3,none⟩ (.int .i64 ((rd_T44 l0 x3_1).f3))).setCell ⟨gb169,4,none⟩ (.int .i64 ((rd_T44 l0 x3_1).f4))).setCell ⟨gb169,5,none⟩ (.int .i64 ((rd_T44 l0 x3_1).f5)))):=⟨by repeat (first | (with_reducible first | exact HB.out | apply below_alloc | apply pw_below_drewN | apply below_drew1 | refine below_set ?_ GE169.out) | exact HB.out)⟩
               (try clear BK169)
               (try clear HB)
               generalize ((((((w39.setCell ⟨gb169,0,none⟩ (.int .i64 ((rd_T44 l0 x3_1).f0))).setCell ⟨gb169,1,none⟩ (.int .i64 ((rd_T44 l0 x3_1).f1))).setCell ⟨gb169,2,none⟩ (.int .i64 ((rd_T44 l0 x3_1).f2))).setCell ⟨gb169,3,none⟩ (.int .i64 ((rd_T44 l0 x3_1).f3))).setCell ⟨gb169,4,none⟩ (.int .i64 ((rd_T44 l0 x3_1).f4))).setCell ⟨gb169,5,none⟩ (.int .i64 ((rd_T44 l0 x3_1).f5))) = w41 at n0_ n1_ ⊢
               have BK169:=n0_
               have HB:=n1_
               clear n0_ n1_
               have n0_:=Aside0.mk (blk_drew BK169.out)
               have n1_:=Aside0.mk (below_drew1 HB.out)
               clear BK169
               clear HB
               have BK169:=n0_
               have HB:=n1_
               clear n0_ n1_
               have p170 : 0 ≤ ((ji6) : Int):=of_decide_eq_true (by first | (with_reducible assumption) | assumption)
               have q170 : (ji6) < (l0.length : Int):=of_decide_eq_true (by first | (with_reducible assumption) | assumption)
               obtain ⟨ad170,e170,hx170_0,hx170_1,hx170_2,hx170_3,hx170_4,hx170_5⟩:=at_T44 HR0.out (ji6) p170 q170
               have hw170_5:=hx170_5
               have hw170_4:=hx170_4
               have hw170_3:=hx170_3
               have hw170_2:=hx170_2
               have hw170_1:=hx170_1
               have hw170_0:=hx170_0
               obtain rfl : ad168 = ad170:=(by injection e170)
               replace hx170_0:=(HB.out.cell (World.block_lt_of_cell? w _ hx170_0)).trans hx170_0
               replace hx170_1:=(HB.out.cell (World.block_lt_of_cell? w _ hx170_1)).trans hx170_1
               replace hx170_2:=(HB.out.cell (World.block_lt_of_cell? w _ hx170_2)).trans hx170_2
               replace hx170_3:=(HB.out.cell (World.block_lt_of_cell? w _ hx170_3)).trans hx170_3
               replace hx170_4:=(HB.out.cell (World.block_lt_of_cell? w _ hx170_4)).trans hx170_4
               replace hx170_5:=(HB.out.cell (World.block_lt_of_cell? w _ hx170_5)).trans hx170_5
               replace p170:=eq_true p170
               replace q170:=eq_true q170
               refine start_ (n:=47) (S:=fun w' => w'.cell? ⟨gb169,0,none⟩ = some (.int .i64 ((rd_T44 l0 x3_1).f0)) ∧ w'.cell? ⟨gb169,1,none⟩ = some (.int .i64 ((rd_T44 l0 x3_1).f1)) ∧ w'.cell? ⟨gb169,2,none⟩ = some (.int .i64 ((rd_T44 l0 x3_1).f2)) ∧ w'.cell? ⟨gb169,3,none⟩ = some (.int .i64 ((rd_T44 l0 x3_1).f3)) ∧ w'.cell? ⟨gb169,4,none⟩ = some (.int .i64 ((rd_T44 l0 x3_1).f4)) ∧ w'.cell? ⟨gb169,5,none⟩ = some (.int .i64 ((rd_T44 l0 x3_1).f5)) ∧ w'.cell? (ad168.add (((ji6)).toNat * 6)) = some (.int .i64 ((rd_T44 l0 (ji6)).f0)) ∧ w'.cell? ⟨(ad168.add (((ji6)).toNat * 6)).block,(ad168.add (((ji6)).toNat * 6)).off + 1,none⟩ = some (.int .i64 ((rd_T44 l0 (ji6)).f1)) ∧ w'.cell? ⟨(ad168.add (((ji6)).toNat * 6)).block,(ad168.add (((ji6)).toNat * 6)).off + 2,none⟩ = some (.int .i64 ((rd_T44 l0 (ji6)).f2)) ∧ w'.cell? ⟨(ad168.add (((ji6)).toNat * 6)).block,(ad168.add (((ji6)).toNat * 6)).off + 3,none⟩ = some (.int .i64 ((rd_T44 l0 (ji6)).f3)) ∧ w'.cell? ⟨(ad168.add (((ji6)).toNat * 6)).block,(ad168.add (((ji6)).toNat * 6)).off + 4,none⟩ = some (.int .i64 ((rd_T44 l0 (ji6)).f4)) ∧ w'.cell? ⟨(ad168.add (((ji6)).toNat * 6)).block,(ad168.add (((ji6)).toNat * 6)).off + 5,none⟩ = some (.int .i64 ((rd_T44 l0 (ji6)).f5))) (ds:=[]) (bm 47 0) (by kernel_rfl) rfl (by kernel_rfl) ⟨(blk_cell BK169.out 0).trans rfl,(blk_cell BK169.out 1).trans rfl,(blk_cell BK169.out 2).trans rfl,(blk_cell BK169.out 3).trans rfl,(blk_cell BK169.out 4).trans rfl,(blk_cell BK169.out 5).trans rfl,((HB.out.cell (World.block_lt_of_cell? w _ hw170_0)).trans hw170_0),((HB.out.cell (World.block_lt_of_cell? w _ hw170_1)).trans hw170_1),((HB.out.cell (World.block_lt_of_cell? w _ hw170_2)).trans hw170_2),((HB.out.cell (World.block_lt_of_cell? w _ hw170_3)).trans hw170_3),((HB.out.cell (World.block_lt_of_cell? w _ hw170_4)).trans hw170_4),((HB.out.cell (World.block_lt_of_cell? w _ hw170_5)).trans hw170_5)⟩ (fun hHeld => ?_); refine with_tabW hinterlandref09_Validate.tab7 hinterlandref09_Validate.bits7 (fun HT_ HW_ => ?_)
               generalize w41.drew = w42 at BK169 HB hx170_0 hx170_1 hx170_2 hx170_3 hx170_4 hx170_5 hHeld ⊢
               refine pv 0 (some 18) (bm 47 1) HT_ ?_
               refine pv 1 (some 19) (bm 47 3) HT_ ?_
               refine pv 2 (some 20) (bm 47 7) HT_ ?_
               refine pv 3 (some 21) (bm 47 15) HT_ ?_
               refine pv 4 (some 22) (bm 47 31) HT_ ?_
               refine pv 5 (some 23) (bm 47 63) HT_ ?_
               refine pv 6 (some 24) (bm 47 127) HT_ ?_
               refine tk 7 (some 25) (bm 47 255) HT_ HW_ hHeld ?_
               refine tk 8 (some 26) (bm 47 511) HT_ HW_ hHeld ?_
               refine ck 9 (some 27) (bm 47 1023) HT_ (fun K hK => ?_)
               refine goes_ Try.func46 (by kernel_rfl) rfl #[.agg #[.int .i64 ((rd_T44 l0 (ji6)).f0),.int .i64 ((rd_T44 l0 (ji6)).f1),.int .i64 ((rd_T44 l0 (ji6)).f2),.int .i64 ((rd_T44 l0 (ji6)).f3),.int .i64 ((rd_T44 l0 (ji6)).f4),.int .i64 ((rd_T44 l0 (ji6)).f5)],.agg #[.int .i64 ((rd_T44 l0 x3_1).f0),.int .i64 ((rd_T44 l0 x3_1).f1),.int .i64 ((rd_T44 l0 x3_1).f2),.int .i64 ((rd_T44 l0 x3_1).f3),.int .i64 ((rd_T44 l0 x3_1).f4),.int .i64 ((rd_T44 l0 x3_1).f5)]] (by rfl) rfl rfl (by (try simp only [List.map_toArray,List.map_cons,List.map_nil]); first | done | (simp only [hji6]; rfl) | rfl | (simp only [List.length_drop,List.length_take]; rfl)) ?_
               with_reducible refine (hinterlandref09_less.calls ((rd_T44 l0 (ji6)).f0) ((rd_T44 l0 (ji6)).f1) ((rd_T44 l0 (ji6)).f2) ((rd_T44 l0 (ji6)).f3) ((rd_T44 l0 (ji6)).f4) ((rd_T44 l0 (ji6)).f5) ((rd_T44 l0 x3_1).f0) ((rd_T44 l0 x3_1).f1) ((rd_T44 l0 x3_1).f2) ((rd_T44 l0 x3_1).f3) ((rd_T44 l0 x3_1).f4) ((rd_T44 l0 x3_1).f5) true _ A9.out).mono ?_
               rintro e w43 ⟨rfl,hb⟩
               refine ⟨_,rfl,?_⟩
               have n0_:=Aside0.mk (blk_below (g:=gb169) (o:=.cells #[.int .i64 ((rd_T44 l0 x3_1).f0),.int .i64 ((rd_T44 l0 x3_1).f1),.int .i64 ((rd_T44 l0 x3_1).f2),.int .i64 ((rd_T44 l0 x3_1).f3),.int .i64 ((rd_T44 l0 x3_1).f4),.int .i64 ((rd_T44 l0 x3_1).f5)] 44 (0,0)) (by (with_reducible repeat (first | refine blk_drewN ?_ _ | refine blk_drew ?_ | refine blk_alloc ?_ _)); exact BK169.out) hb)
               have n1_:=Aside0.mk (below_step (by repeat (first | (with_reducible first | exact HB.out | apply below_alloc | apply pw_below_drewN | apply below_drew1 | refine below_set ?_ GE169.out) | exact HB.out)) hb)
               clear BK169
               clear HB
               have BK169:=n0_
               have HB:=n1_
               clear n0_ n1_
               (try clear hb)
               (try clear hb2)
               (try clear hk)
               (try clear hi)
               refine hK.out _ _ ⟨(blk_cell BK169.out 0).trans rfl,(blk_cell BK169.out 1).trans rfl,(blk_cell BK169.out 2).trans rfl,(blk_cell BK169.out 3).trans rfl,(blk_cell BK169.out 4).trans rfl,(blk_cell BK169.out 5).trans rfl,((HB.out.cell (World.block_lt_of_cell? w _ hw170_0)).trans hw170_0),((HB.out.cell (World.block_lt_of_cell? w _ hw170_1)).trans hw170_1),((HB.out.cell (World.block_lt_of_cell? w _ hw170_2)).trans hw170_2),((HB.out.cell (World.block_lt_of_cell? w _ hw170_3)).trans hw170_3),((HB.out.cell (World.block_lt_of_cell? w _ hw170_4)).trans hw170_4),((HB.out.cell (World.block_lt_of_cell? w _ hw170_5)).trans hw170_5)⟩ (fun hHeld => ?_)
               clear hK K
               refine nm ?_
               refine pv 10 (some 28) (bm 47 2047) HT_ ?_
               refine pv 11 (some 29) (bm 47 4095) HT_ ?_
               refine pv 12 (some 30) (bm 47 8191) HT_ ?_
               refine pv 13 (some 31) (bm 47 16383) HT_ ?_
               refine tk 14 (some 32) (bm 47 32767) HT_ HW_ hHeld ?_
               refine pv 15 (some 33) (bm 47 65535) HT_ ?_
               refine pv 16 (some 34) (bm 47 131071) HT_ ?_
               refine pv 17 (some 35) (bm 47 262143) HT_ ?_
               refine pv 18 (some 36) (bm 47 524287) HT_ ?_
               refine tk 19 (some 37) (bm 47 1048575) HT_ HW_ hHeld ?_
               refine pv 20 (some 38) (bm 47 2097151) HT_ ?_
               refine pv 21 (some 39) (bm 47 4194303) HT_ ?_
               refine pv 22 (some 40) (bm 47 8388607) HT_ ?_
               refine pv 23 (some 41) (bm 47 16777215) HT_ ?_
               refine tk 24 (some 42) (bm 47 33554431) HT_ HW_ hHeld ?_
               refine ck 25 (some 43) (bm 47 67108863) HT_ (fun K hK => ?_)
               refine gs Try.func42 #[.int .i64 ((rd_T44 l0 x3_1).f3),.int .i64 255] ?_
               with_reducible refine (hinterlandref09_Out.calls ((rd_T44 l0 x3_1).f3) 255 false _ A23.out).mono ?_
               rintro e w' ⟨rfl,⟨nd,rfl⟩⟩
               refine ⟨_,rfl,?_⟩
               refine hK.out _ _ ⟨(blk_cell BK169.out 0).trans rfl,(blk_cell BK169.out 1).trans rfl,(blk_cell BK169.out 2).trans rfl,(blk_cell BK169.out 3).trans rfl,(blk_cell BK169.out 4).trans rfl,(blk_cell BK169.out 5).trans rfl,((HB.out.cell (World.block_lt_of_cell? w _ hw170_0)).trans hw170_0),((HB.out.cell (World.block_lt_of_cell? w _ hw170_1)).trans hw170_1),((HB.out.cell (World.block_lt_of_cell? w _ hw170_2)).trans hw170_2),((HB.out.cell (World.block_lt_of_cell? w _ hw170_3)).trans hw170_3),((HB.out.cell (World.block_lt_of_cell? w _ hw170_4)).trans hw170_4),((HB.out.cell (World.block_lt_of_cell? w _ hw170_5)).trans hw170_5)⟩ (fun hHeld => ?_)
               clear hK K
               refine nm ?_
               refine pv 26 (some 44) (bm 47 134217727) HT_ ?_
               refine pv 27 (some 45) (bm 47 268435455) HT_ ?_
               refine pv 28 (some 46) (bm 47 536870911) HT_ ?_
               refine tk 29 (some 47) (bm 47 1073741823) HT_ HW_ hHeld ?_
               refine ck 30 (some 48) (bm 47 2147483647) HT_ (fun K hK => ?_)
               refine gs Try.func42 #[.int .i64 ((rd_T44 l0 x3_1).f5),.int .i64 1000000000000] ?_
               with_reducible refine (hinterlandref09_Out.calls ((rd_T44 l0 x3_1).f5) 1000000000000 false _ A30.out).mono ?_
               rintro e w' ⟨rfl,⟨nd,rfl⟩⟩
               refine ⟨_,rfl,?_⟩
               refine hK.out _ _ ⟨(blk_cell BK169.out 0).trans rfl,(blk_cell BK169.out 1).trans rfl,(blk_cell BK169.out 2).trans rfl,(blk_cell BK169.out 3).trans rfl,(blk_cell BK169.out 4).trans rfl,(blk_cell BK169.out 5).trans rfl,((HB.out.cell (World.block_lt_of_cell? w _ hw170_0)).trans hw170_0),((HB.out.cell (World.block_lt_of_cell? w _ hw170_1)).trans hw170_1),((HB.out.cell (World.block_lt_of_cell? w _ hw170_2)).trans hw170_2),((HB.out.cell (World.block_lt_of_cell? w _ hw170_3)).trans hw170_3),((HB.out.cell (World.block_lt_of_cell? w _ hw170_4)).trans hw170_4),((HB.out.cell (World.block_lt_of_cell? w _ hw170_5)).trans hw170_5)⟩ (fun hHeld => ?_)
               clear hK K
               refine nm ?_
               refine pv 31 (some 49) (bm 47 4294967295) HT_ ?_
               refine pv 32 (some 50) (bm 47 8589934591) HT_ ?_
               refine pv 33 (some 51) (bm 47 17179869183) HT_ ?_
               refine tk 34 (some 52) (bm 47 34359738367) HT_ HW_ hHeld ?_
               refine ck 35 (some 53) (bm 47 68719476735) HT_ (fun K hK => ?_)
               refine gs Try.func42 #[.int .i64 ((rd_T44 l0 x3_1).f0),.int .i64 1000000] ?_
               with_reducible refine (hinterlandref09_Out.calls ((rd_T44 l0 x3_1).f0) 1000000 true _ A37.out).mono ?_
               rintro e w' ⟨rfl,⟨nd,rfl⟩⟩
               refine ⟨_,rfl,?_⟩
               refine hK.out _ _ ⟨(blk_cell BK169.out 0).trans rfl,(blk_cell BK169.out 1).trans rfl,(blk_cell BK169.out 2).trans rfl,(blk_cell BK169.out 3).trans rfl,(blk_cell BK169.out 4).trans rfl,(blk_cell BK169.out 5).trans rfl,((HB.out.cell (World.block_lt_of_cell? w _ hw170_0)).trans hw170_0),((HB.out.cell (World.block_lt_of_cell? w _ hw170_1)).trans hw170_1),((HB.out.cell (World.block_lt_of_cell? w _ hw170_2)).trans hw170_2),((HB.out.cell (World.block_lt_of_cell? w _ hw170_3)).trans hw170_3),((HB.out.cell (World.block_lt_of_cell? w _ hw170_4)).trans hw170_4),((HB.out.cell (World.block_lt_of_cell? w _ hw170_5)).trans hw170_5)⟩ (fun hHeld => ?_)
               clear hK K
               refine nm ?_
               refine pv 36 (some 54) (bm 47 137438953471) HT_ ?_
               refine pv 37 (some 55) (bm 47 274877906943) HT_ ?_
               refine pn 38 (some 56) (bm 47 549755813887) HT_ ?_
               refine pn 39 (some 57) (bm 47 1099511627775) HT_ ?_
               refine pn 40 (some 58) (bm 47 2199023255551) HT_ ?_
               refine pv 41 (some 59) (bm 47 4398046511103) HT_ ?_
               refine pv 42 (some 60) (bm 47 8796093022207) HT_ ?_
               refine pn 43 (some 61) (bm 47 17592186044415) HT_ ?_
               refine pn 44 (some 62) (bm 47 35184372088831) HT_ ?_
               refine pn 45 (some 63) (bm 47 70368744177663) HT_ ?_
               refine pv 46 (some 64) (bm 47 140737488355327) HT_ ?_
               refine done_ (done_of HT_.out (by kernel_rfl)) ?_
               try go_wp2
               go_ret
               exact ⟨by first | rfl | (simp [errW_none,errW_some] <;> rfl) | (simp only [← hji6]; first | rfl | (simp [errW_none,errW_some] <;> rfl)) | (simp [*,errW_none,errW_some] <;> rfl),by repeat (first | (with_reducible first | exact HB.out | apply below_alloc | apply pw_below_drewN | apply below_drew1 | refine below_set ?_ GE169.out) | exact HB.out)⟩
              ·replace c38:=Bool.eq_false_iff.mpr c38
               subst c38
               have H1 : ((hinterlandref09_Out.f ((rd_T44 l0 x3_1).f1) 1000000).bind fun t175 => (if t175 = true then (some 1) else ((hinterlandref09_Out.f ((rd_T44 l0 x3_1).f2) 1000000).bind fun t176 => (if t176 = true then (some 1) else (hinterlandref09_Validate.l0 k1 l0 (wrap64 (x3_1 + 1))))))) = some r:=by rw [if_neg (show ¬ (false = true) by decide)] at H; exact H
               clear H
               have H:=H1
               clear H1
               replace H:=Option.bind_eq_some_iff.mp H
               obtain ⟨t175,A440,H⟩:=H
               replace H : (if t175 = true then (some 1) else ((hinterlandref09_Out.f ((rd_T44 l0 x3_1).f2) 1000000).bind fun t176 => (if t176 = true then (some 1) else (hinterlandref09_Validate.l0 k1 l0 (wrap64 (x3_1 + 1)))))) = some r:=H
               have A44:=Aside0.mk A440
               clear A440
               by_cases c45 : t175 = true
               ·subst c45
                have H1 : (some 1) = some r:=by rw [if_pos rfl] at H; exact H
                clear H
                have H:=H1
                clear H1
                obtain rfl:=Option.some.inj H
                have p168 : 0 ≤ (x3_1 : Int):=of_decide_eq_true (by first | (with_reducible assumption) | assumption)
                have q168 : x3_1 < (l0.length : Int):=of_decide_eq_true (by first | (with_reducible assumption) | assumption)
                obtain ⟨ad168,e168,hx168_0,hx168_1,hx168_2,hx168_3,hx168_4,hx168_5⟩:=at_T44 HR0.out x3_1 p168 q168
                cases e168
                replace hx168_0:=(HB.out.cell (World.block_lt_of_cell? w _ hx168_0)).trans hx168_0
                replace hx168_1:=(HB.out.cell (World.block_lt_of_cell? w _ hx168_1)).trans hx168_1
                replace hx168_2:=(HB.out.cell (World.block_lt_of_cell? w _ hx168_2)).trans hx168_2
                replace hx168_3:=(HB.out.cell (World.block_lt_of_cell? w _ hx168_3)).trans hx168_3
                replace hx168_4:=(HB.out.cell (World.block_lt_of_cell? w _ hx168_4)).trans hx168_4
                replace hx168_5:=(HB.out.cell (World.block_lt_of_cell? w _ hx168_5)).trans hx168_5
                replace p168:=eq_true p168
                replace q168:=eq_true q168
                try go_wp2_with (first | ((with_reducible refine gate_dst (N:=4) rfl ?_); refine box_event ?hg (N:=4) ?hd (cs:=#[.int .i64 0,.int .i64 0,.int .i64 0,.int .i64 0,.int .i64 0,.int .i64 0]) (t:=44) ?hr ?_; (case hd => rfl); (case hg => rfl); (case hr => first | (go_simp; done) | (go_simp; rfl)); intro gb169 hg w46 hbox hb; have n0_:=Aside0.mk (below_step (by repeat (first | (with_reducible first | exact HB.out | apply below_alloc | apply pw_below_drewN | apply below_drew1) | exact HB.out)) hb); have n1_:=Aside0.mk (hbox); have n2_:=Aside0.mk ((by rw [hg]; exact (below_size (by repeat (first | (with_reducible first | exact HB.out | apply below_alloc | apply pw_below_drewN | apply below_drew1) | exact HB.out))) : w.heap.size ≤ gb169)); have n3_:=Aside0.mk ((by rw [hg]; exact (below_size (by repeat (first | (with_reducible first | exact HB.out | apply below_alloc | apply pw_below_drewN | apply below_drew1) | exact HB.out))) : w.heap.size ≤ gb169)); clear HB; have HB:=n0_; have BK169:=n1_; have GW169:=n2_; have GE169:=n3_; clear n0_ n1_ n2_ n3_; clear hb hbox hg; have hcz47_0 : w46.cell? ⟨gb169,0,none⟩ = some (.int .i64 0):=(blk_cell BK169.out 0).trans rfl; have hcz47_1 : w46.cell? ⟨gb169,1,none⟩ = some (.int .i64 0):=(blk_cell BK169.out 1).trans rfl; have hcz47_2 : w46.cell? ⟨gb169,2,none⟩ = some (.int .i64 0):=(blk_cell BK169.out 2).trans rfl; have hcz47_3 : w46.cell? ⟨gb169,3,none⟩ = some (.int .i64 0):=(blk_cell BK169.out 3).trans rfl; have hcz47_4 : w46.cell? ⟨gb169,4,none⟩ = some (.int .i64 0):=(blk_cell BK169.out 4).trans rfl; have hcz47_5 : w46.cell? ⟨gb169,5,none⟩ = some (.int .i64 0):=(blk_cell BK169.out 5).trans rfl; have hfz47_0:=blk_frozen BK169.out 0; have hfz47_1:=blk_frozen BK169.out 1; have hfz47_2:=blk_frozen BK169.out 2; have hfz47_3:=blk_frozen BK169.out 3; have hfz47_4:=blk_frozen BK169.out 4; have hfz47_5:=blk_frozen BK169.out 5))
                have n0_ : Aside0 (((((((w46.setCell ⟨gb169,0,none⟩ (.int .i64 ((rd_T44 l0 x3_1).f0))).setCell ⟨gb169,1,none⟩ (.int .i64 ((rd_T44 l0 x3_1).f1))).setCell ⟨gb169,2,none⟩ (.int .i64 ((rd_T44 l0 x3_1).f2))).setCell ⟨gb169,3,none⟩ (.int .i64 ((rd_T44 l0 x3_1).f3))).setCell ⟨gb169,4,none⟩ (.int .i64 ((rd_T44 l0 x3_1).f4))).setCell ⟨gb169,5,none⟩ (.int .i64 ((rd_T44 l0 x3_1).f5))).heap[gb169]? = some (.cells #[.int .i64 ((rd_T44 l0 x3_1).f0),.int .i64 ((rd_T44 l0 x3_1).f1),.int .i64 ((rd_T44 l0 x3_1).f2),.int .i64 ((rd_T44 l0 x3_1).f3),.int .i64 ((rd_T44 l0 x3_1).f4),.int .i64 ((rd_T44 l0 x3_1).f5)] 44 (0,0))):=⟨by (with_reducible repeat (first | refine blk_drewN ?_ _ | refine blk_drew ?_ | refine blk_alloc ?_ _)); refine blk_put (cs:=#[.int .i64 ((rd_T44 l0 x3_1).f0),.int .i64 ((rd_T44 l0 x3_1).f1),.int .i64 ((rd_T44 l0 x3_1).f2),.int .i64 ((rd_T44 l0 x3_1).f3),.int .i64 ((rd_T44 l0 x3_1).f4),.int .i64 0]) ?_ 5 _ rfl; (with_reducible repeat (first | refine blk_drewN ?_ _ | refine blk_drew ?_ | refine blk_alloc ?_ _)); refine blk_put (cs:=#[.int .i64 ((rd_T44 l0 x3_1).f0),.int .i64 ((rd_T44 l0 x3_1).f1),.int .i64 ((rd_T44 l0 x3_1).f2),.int .i64 ((rd_T44 l0 x3_1).f3),.int .i64 0,.int .i64 0]) ?_ 4 _ rfl; (with_reducible repeat (first | refine blk_drewN ?_ _ | refine blk_drew ?_ | refine blk_alloc ?_ _)); refine blk_put (cs:=#[.int .i64 ((rd_T44 l0 x3_1).f0),.int .i64 ((rd_T44 l0 x3_1).f1),.int .i64 ((rd_T44 l0 x3_1).f2),.int .i64 0,.int .i64 0,.int .i64 0]) ?_ 3 _ rfl; (with_reducible repeat (first | refine blk_drewN ?_ _ | refine blk_drew ?_ | refine blk_alloc ?_ _)); refine blk_put (cs:=#[.int .i64 ((rd_T44 l0 x3_1).f0),.int .i64 ((rd_T44 l0 x3_1).f1),.int .i64 0,.int .i64 0,.int .i64 0,.int .i64 0]) ?_ 2 _ rfl; (with_reducible repeat (first | refine blk_drewN ?_ _ | refine blk_drew ?_ | refine blk_alloc ?_ _)); refine blk_put (cs:=#[.int .i64 ((rd_T44 l0 x3_1).f0),.int .i64 0,.int .i64 0,.int .i64 0,.int .i64 0,.int .i64 0]) ?_ 1 _ rfl; (with_reducible repeat (first | refine blk_drewN ?_ _ | refine blk_drew ?_ | refine blk_alloc ?_ _)); refine blk_put (cs:=#[.int .i64 0,.int .i64 0,.int .i64 0,.int .i64 0,.int .i64 0,.int .i64 0]) ?_ 0 _ rfl; (with_reducible repeat (first | refine blk_drewN ?_ _ | refine blk_drew ?_ | refine blk_alloc ?_ _)); exact BK169.out⟩
                have n1_ : Aside0 (Below w.heap.size w ((((((w46.setCell ⟨gb169,0,none⟩ (.int .i64 ((rd_T44 l0 x3_1).f0))).setCell ⟨gb169,1,none⟩ (.int .i64 ((rd_T44 l0 x3_1).f1))).setCell ⟨gb169,2,none⟩ (.int .i64 ((rd_T44 l0 x3_1).f2))).setCell ⟨gb169,3,none⟩ (.int .i64 ((rd_T44 l0 x3_1).f3))).setCell ⟨gb169,4,none⟩ (.int .i64 ((rd_T44 l0 x3_1).f4))).setCell ⟨gb169,5,none⟩ (.int .i64 ((rd_T44 l0 x3_1).f5)))):=⟨by repeat (first | (with_reducible first | exact HB.out | apply below_alloc | apply pw_below_drewN | apply below_drew1 | refine below_set ?_ GE169.out) | exact HB.out)⟩
                (try clear BK169)
                (try clear HB)
                generalize ((((((w46.setCell ⟨gb169,0,none⟩ (.int .i64 ((rd_T44 l0 x3_1).f0))).setCell ⟨gb169,1,none⟩ (.int .i64 ((rd_T44 l0 x3_1).f1))).setCell ⟨gb169,2,none⟩ (.int .i64 ((rd_T44 l0 x3_1).f2))).setCell ⟨gb169,3,none⟩ (.int .i64 ((rd_T44 l0 x3_1).f3))).setCell ⟨gb169,4,none⟩ (.int .i64 ((rd_T44 l0 x3_1).f4))).setCell ⟨gb169,5,none⟩ (.int .i64 ((rd_T44 l0 x3_1).f5))) = w48 at n0_ n1_ ⊢
                have BK169:=n0_
                have HB:=n1_
                clear n0_ n1_
                have n0_:=Aside0.mk (blk_drew BK169.out)
                have n1_:=Aside0.mk (below_drew1 HB.out)
                clear BK169
                clear HB
                have BK169:=n0_
                have HB:=n1_
                clear n0_ n1_
                have p170 : 0 ≤ ((ji6) : Int):=of_decide_eq_true (by first | (with_reducible assumption) | assumption)
                have q170 : (ji6) < (l0.length : Int):=of_decide_eq_true (by first | (with_reducible assumption) | assumption)
                obtain ⟨ad170,e170,hx170_0,hx170_1,hx170_2,hx170_3,hx170_4,hx170_5⟩:=at_T44 HR0.out (ji6) p170 q170
                have hw170_5:=hx170_5
                have hw170_4:=hx170_4
                have hw170_3:=hx170_3
                have hw170_2:=hx170_2
                have hw170_1:=hx170_1
                have hw170_0:=hx170_0
                obtain rfl : ad168 = ad170:=(by injection e170)
                replace hx170_0:=(HB.out.cell (World.block_lt_of_cell? w _ hx170_0)).trans hx170_0
                replace hx170_1:=(HB.out.cell (World.block_lt_of_cell? w _ hx170_1)).trans hx170_1
                replace hx170_2:=(HB.out.cell (World.block_lt_of_cell? w _ hx170_2)).trans hx170_2
                replace hx170_3:=(HB.out.cell (World.block_lt_of_cell? w _ hx170_3)).trans hx170_3
                replace hx170_4:=(HB.out.cell (World.block_lt_of_cell? w _ hx170_4)).trans hx170_4
                replace hx170_5:=(HB.out.cell (World.block_lt_of_cell? w _ hx170_5)).trans hx170_5
                replace p170:=eq_true p170
                replace q170:=eq_true q170
                refine start_ (n:=47) (S:=fun w' => w'.cell? ⟨gb169,0,none⟩ = some (.int .i64 ((rd_T44 l0 x3_1).f0)) ∧ w'.cell? ⟨gb169,1,none⟩ = some (.int .i64 ((rd_T44 l0 x3_1).f1)) ∧ w'.cell? ⟨gb169,2,none⟩ = some (.int .i64 ((rd_T44 l0 x3_1).f2)) ∧ w'.cell? ⟨gb169,3,none⟩ = some (.int .i64 ((rd_T44 l0 x3_1).f3)) ∧ w'.cell? ⟨gb169,4,none⟩ = some (.int .i64 ((rd_T44 l0 x3_1).f4)) ∧ w'.cell? ⟨gb169,5,none⟩ = some (.int .i64 ((rd_T44 l0 x3_1).f5)) ∧ w'.cell? (ad168.add (((ji6)).toNat * 6)) = some (.int .i64 ((rd_T44 l0 (ji6)).f0)) ∧ w'.cell? ⟨(ad168.add (((ji6)).toNat * 6)).block,(ad168.add (((ji6)).toNat * 6)).off + 1,none⟩ = some (.int .i64 ((rd_T44 l0 (ji6)).f1)) ∧ w'.cell? ⟨(ad168.add (((ji6)).toNat * 6)).block,(ad168.add (((ji6)).toNat * 6)).off + 2,none⟩ = some (.int .i64 ((rd_T44 l0 (ji6)).f2)) ∧ w'.cell? ⟨(ad168.add (((ji6)).toNat * 6)).block,(ad168.add (((ji6)).toNat * 6)).off + 3,none⟩ = some (.int .i64 ((rd_T44 l0 (ji6)).f3)) ∧ w'.cell? ⟨(ad168.add (((ji6)).toNat * 6)).block,(ad168.add (((ji6)).toNat * 6)).off + 4,none⟩ = some (.int .i64 ((rd_T44 l0 (ji6)).f4)) ∧ w'.cell? ⟨(ad168.add (((ji6)).toNat * 6)).block,(ad168.add (((ji6)).toNat * 6)).off + 5,none⟩ = some (.int .i64 ((rd_T44 l0 (ji6)).f5))) (ds:=[]) (bm 47 0) (by kernel_rfl) rfl (by kernel_rfl) ⟨(blk_cell BK169.out 0).trans rfl,(blk_cell BK169.out 1).trans rfl,(blk_cell BK169.out 2).trans rfl,(blk_cell BK169.out 3).trans rfl,(blk_cell BK169.out 4).trans rfl,(blk_cell BK169.out 5).trans rfl,((HB.out.cell (World.block_lt_of_cell? w _ hw170_0)).trans hw170_0),((HB.out.cell (World.block_lt_of_cell? w _ hw170_1)).trans hw170_1),((HB.out.cell (World.block_lt_of_cell? w _ hw170_2)).trans hw170_2),((HB.out.cell (World.block_lt_of_cell? w _ hw170_3)).trans hw170_3),((HB.out.cell (World.block_lt_of_cell? w _ hw170_4)).trans hw170_4),((HB.out.cell (World.block_lt_of_cell? w _ hw170_5)).trans hw170_5)⟩ (fun hHeld => ?_); refine with_tabW hinterlandref09_Validate.tab7 hinterlandref09_Validate.bits7 (fun HT_ HW_ => ?_)
                generalize w48.drew = w49 at BK169 HB hx170_0 hx170_1 hx170_2 hx170_3 hx170_4 hx170_5 hHeld ⊢
                refine pv 0 (some 18) (bm 47 1) HT_ ?_
                refine pv 1 (some 19) (bm 47 3) HT_ ?_
                refine pv 2 (some 20) (bm 47 7) HT_ ?_
                refine pv 3 (some 21) (bm 47 15) HT_ ?_
                refine pv 4 (some 22) (bm 47 31) HT_ ?_
                refine pv 5 (some 23) (bm 47 63) HT_ ?_
                refine pv 6 (some 24) (bm 47 127) HT_ ?_
                refine tk 7 (some 25) (bm 47 255) HT_ HW_ hHeld ?_
                refine tk 8 (some 26) (bm 47 511) HT_ HW_ hHeld ?_
                refine ck 9 (some 27) (bm 47 1023) HT_ (fun K hK => ?_)
                refine goes_ Try.func46 (by kernel_rfl) rfl #[.agg #[.int .i64 ((rd_T44 l0 (ji6)).f0),.int .i64 ((rd_T44 l0 (ji6)).f1),.int .i64 ((rd_T44 l0 (ji6)).f2),.int .i64 ((rd_T44 l0 (ji6)).f3),.int .i64 ((rd_T44 l0 (ji6)).f4),.int .i64 ((rd_T44 l0 (ji6)).f5)],.agg #[.int .i64 ((rd_T44 l0 x3_1).f0),.int .i64 ((rd_T44 l0 x3_1).f1),.int .i64 ((rd_T44 l0 x3_1).f2),.int .i64 ((rd_T44 l0 x3_1).f3),.int .i64 ((rd_T44 l0 x3_1).f4),.int .i64 ((rd_T44 l0 x3_1).f5)]] (by rfl) rfl rfl (by (try simp only [List.map_toArray,List.map_cons,List.map_nil]); first | done | (simp only [hji6]; rfl) | rfl | (simp only [List.length_drop,List.length_take]; rfl)) ?_
                with_reducible refine (hinterlandref09_less.calls ((rd_T44 l0 (ji6)).f0) ((rd_T44 l0 (ji6)).f1) ((rd_T44 l0 (ji6)).f2) ((rd_T44 l0 (ji6)).f3) ((rd_T44 l0 (ji6)).f4) ((rd_T44 l0 (ji6)).f5) ((rd_T44 l0 x3_1).f0) ((rd_T44 l0 x3_1).f1) ((rd_T44 l0 x3_1).f2) ((rd_T44 l0 x3_1).f3) ((rd_T44 l0 x3_1).f4) ((rd_T44 l0 x3_1).f5) true _ A9.out).mono ?_
                rintro e w50 ⟨rfl,hb⟩
                refine ⟨_,rfl,?_⟩
                have n0_:=Aside0.mk (blk_below (g:=gb169) (o:=.cells #[.int .i64 ((rd_T44 l0 x3_1).f0),.int .i64 ((rd_T44 l0 x3_1).f1),.int .i64 ((rd_T44 l0 x3_1).f2),.int .i64 ((rd_T44 l0 x3_1).f3),.int .i64 ((rd_T44 l0 x3_1).f4),.int .i64 ((rd_T44 l0 x3_1).f5)] 44 (0,0)) (by (with_reducible repeat (first | refine blk_drewN ?_ _ | refine blk_drew ?_ | refine blk_alloc ?_ _)); exact BK169.out) hb)
                have n1_:=Aside0.mk (below_step (by repeat (first | (with_reducible first | exact HB.out | apply below_alloc | apply pw_below_drewN | apply below_drew1 | refine below_set ?_ GE169.out) | exact HB.out)) hb)
                clear BK169
                clear HB
                have BK169:=n0_
                have HB:=n1_
                clear n0_ n1_
                (try clear hb)
                (try clear hb2)
                (try clear hk)
                (try clear hi)
                refine hK.out _ _ ⟨(blk_cell BK169.out 0).trans rfl,(blk_cell BK169.out 1).trans rfl,(blk_cell BK169.out 2).trans rfl,(blk_cell BK169.out 3).trans rfl,(blk_cell BK169.out 4).trans rfl,(blk_cell BK169.out 5).trans rfl,((HB.out.cell (World.block_lt_of_cell? w _ hw170_0)).trans hw170_0),((HB.out.cell (World.block_lt_of_cell? w _ hw170_1)).trans hw170_1),((HB.out.cell (World.block_lt_of_cell? w _ hw170_2)).trans hw170_2),((HB.out.cell (World.block_lt_of_cell? w _ hw170_3)).trans hw170_3),((HB.out.cell (World.block_lt_of_cell? w _ hw170_4)).trans hw170_4),((HB.out.cell (World.block_lt_of_cell? w _ hw170_5)).trans hw170_5)⟩ (fun hHeld => ?_)
                clear hK K
                refine nm ?_
                refine pv 10 (some 28) (bm 47 2047) HT_ ?_
                refine pv 11 (some 29) (bm 47 4095) HT_ ?_
                refine pv 12 (some 30) (bm 47 8191) HT_ ?_
                refine pv 13 (some 31) (bm 47 16383) HT_ ?_
                refine tk 14 (some 32) (bm 47 32767) HT_ HW_ hHeld ?_
                refine pv 15 (some 33) (bm 47 65535) HT_ ?_
                refine pv 16 (some 34) (bm 47 131071) HT_ ?_
                refine pv 17 (some 35) (bm 47 262143) HT_ ?_
                refine pv 18 (some 36) (bm 47 524287) HT_ ?_
                refine tk 19 (some 37) (bm 47 1048575) HT_ HW_ hHeld ?_
                refine pv 20 (some 38) (bm 47 2097151) HT_ ?_
                refine pv 21 (some 39) (bm 47 4194303) HT_ ?_
                refine pv 22 (some 40) (bm 47 8388607) HT_ ?_
                refine pv 23 (some 41) (bm 47 16777215) HT_ ?_
                refine tk 24 (some 42) (bm 47 33554431) HT_ HW_ hHeld ?_
                refine ck 25 (some 43) (bm 47 67108863) HT_ (fun K hK => ?_)
                refine gs Try.func42 #[.int .i64 ((rd_T44 l0 x3_1).f3),.int .i64 255] ?_
                with_reducible refine (hinterlandref09_Out.calls ((rd_T44 l0 x3_1).f3) 255 false _ A23.out).mono ?_
                rintro e w' ⟨rfl,⟨nd,rfl⟩⟩
                refine ⟨_,rfl,?_⟩
                refine hK.out _ _ ⟨(blk_cell BK169.out 0).trans rfl,(blk_cell BK169.out 1).trans rfl,(blk_cell BK169.out 2).trans rfl,(blk_cell BK169.out 3).trans rfl,(blk_cell BK169.out 4).trans rfl,(blk_cell BK169.out 5).trans rfl,((HB.out.cell (World.block_lt_of_cell? w _ hw170_0)).trans hw170_0),((HB.out.cell (World.block_lt_of_cell? w _ hw170_1)).trans hw170_1),((HB.out.cell (World.block_lt_of_cell? w _ hw170_2)).trans hw170_2),((HB.out.cell (World.block_lt_of_cell? w _ hw170_3)).trans hw170_3),((HB.out.cell (World.block_lt_of_cell? w _ hw170_4)).trans hw170_4),((HB.out.cell (World.block_lt_of_cell? w _ hw170_5)).trans hw170_5)⟩ (fun hHeld => ?_)
                clear hK K
                refine nm ?_
                refine pv 26 (some 44) (bm 47 134217727) HT_ ?_
                refine pv 27 (some 45) (bm 47 268435455) HT_ ?_
                refine pv 28 (some 46) (bm 47 536870911) HT_ ?_
                refine tk 29 (some 47) (bm 47 1073741823) HT_ HW_ hHeld ?_
                refine ck 30 (some 48) (bm 47 2147483647) HT_ (fun K hK => ?_)
                refine gs Try.func42 #[.int .i64 ((rd_T44 l0 x3_1).f5),.int .i64 1000000000000] ?_
                with_reducible refine (hinterlandref09_Out.calls ((rd_T44 l0 x3_1).f5) 1000000000000 false _ A30.out).mono ?_
                rintro e w' ⟨rfl,⟨nd,rfl⟩⟩
                refine ⟨_,rfl,?_⟩
                refine hK.out _ _ ⟨(blk_cell BK169.out 0).trans rfl,(blk_cell BK169.out 1).trans rfl,(blk_cell BK169.out 2).trans rfl,(blk_cell BK169.out 3).trans rfl,(blk_cell BK169.out 4).trans rfl,(blk_cell BK169.out 5).trans rfl,((HB.out.cell (World.block_lt_of_cell? w _ hw170_0)).trans hw170_0),((HB.out.cell (World.block_lt_of_cell? w _ hw170_1)).trans hw170_1),((HB.out.cell (World.block_lt_of_cell? w _ hw170_2)).trans hw170_2),((HB.out.cell (World.block_lt_of_cell? w _ hw170_3)).trans hw170_3),((HB.out.cell (World.block_lt_of_cell? w _ hw170_4)).trans hw170_4),((HB.out.cell (World.block_lt_of_cell? w _ hw170_5)).trans hw170_5)⟩ (fun hHeld => ?_)
                clear hK K
                refine nm ?_
                refine pv 31 (some 49) (bm 47 4294967295) HT_ ?_
                refine pv 32 (some 50) (bm 47 8589934591) HT_ ?_
                refine pv 33 (some 51) (bm 47 17179869183) HT_ ?_
                refine tk 34 (some 52) (bm 47 34359738367) HT_ HW_ hHeld ?_
                refine ck 35 (some 53) (bm 47 68719476735) HT_ (fun K hK => ?_)
                refine gs Try.func42 #[.int .i64 ((rd_T44 l0 x3_1).f0),.int .i64 1000000] ?_
                with_reducible refine (hinterlandref09_Out.calls ((rd_T44 l0 x3_1).f0) 1000000 false _ A37.out).mono ?_
                rintro e w' ⟨rfl,⟨nd,rfl⟩⟩
                refine ⟨_,rfl,?_⟩
                refine hK.out _ _ ⟨(blk_cell BK169.out 0).trans rfl,(blk_cell BK169.out 1).trans rfl,(blk_cell BK169.out 2).trans rfl,(blk_cell BK169.out 3).trans rfl,(blk_cell BK169.out 4).trans rfl,(blk_cell BK169.out 5).trans rfl,((HB.out.cell (World.block_lt_of_cell? w _ hw170_0)).trans hw170_0),((HB.out.cell (World.block_lt_of_cell? w _ hw170_1)).trans hw170_1),((HB.out.cell (World.block_lt_of_cell? w _ hw170_2)).trans hw170_2),((HB.out.cell (World.block_lt_of_cell? w _ hw170_3)).trans hw170_3),((HB.out.cell (World.block_lt_of_cell? w _ hw170_4)).trans hw170_4),((HB.out.cell (World.block_lt_of_cell? w _ hw170_5)).trans hw170_5)⟩ (fun hHeld => ?_)
                clear hK K
                refine nm ?_
                refine pv 36 (some 54) (bm 47 137438953471) HT_ ?_
                refine pv 37 (some 55) (bm 47 274877906943) HT_ ?_
                refine pv 38 (some 56) (bm 47 549755813887) HT_ ?_
                refine tk 39 (some 57) (bm 47 1099511627775) HT_ HW_ hHeld ?_
                refine ck 40 (some 58) (bm 47 2199023255551) HT_ (fun K hK => ?_)
                refine gs Try.func42 #[.int .i64 ((rd_T44 l0 x3_1).f1),.int .i64 1000000] ?_
                with_reducible refine (hinterlandref09_Out.calls ((rd_T44 l0 x3_1).f1) 1000000 true _ A44.out).mono ?_
                rintro e w' ⟨rfl,⟨nd,rfl⟩⟩
                refine ⟨_,rfl,?_⟩
                refine hK.out _ _ ⟨(blk_cell BK169.out 0).trans rfl,(blk_cell BK169.out 1).trans rfl,(blk_cell BK169.out 2).trans rfl,(blk_cell BK169.out 3).trans rfl,(blk_cell BK169.out 4).trans rfl,(blk_cell BK169.out 5).trans rfl,((HB.out.cell (World.block_lt_of_cell? w _ hw170_0)).trans hw170_0),((HB.out.cell (World.block_lt_of_cell? w _ hw170_1)).trans hw170_1),((HB.out.cell (World.block_lt_of_cell? w _ hw170_2)).trans hw170_2),((HB.out.cell (World.block_lt_of_cell? w _ hw170_3)).trans hw170_3),((HB.out.cell (World.block_lt_of_cell? w _ hw170_4)).trans hw170_4),((HB.out.cell (World.block_lt_of_cell? w _ hw170_5)).trans hw170_5)⟩ (fun hHeld => ?_)
                clear hK K
                refine nm ?_
                refine pv 41 (some 59) (bm 47 4398046511103) HT_ ?_
                refine pv 42 (some 60) (bm 47 8796093022207) HT_ ?_
                refine pn 43 (some 61) (bm 47 17592186044415) HT_ ?_
                refine pn 44 (some 62) (bm 47 35184372088831) HT_ ?_
                refine pn 45 (some 63) (bm 47 70368744177663) HT_ ?_
                refine pv 46 (some 64) (bm 47 140737488355327) HT_ ?_
                refine done_ (done_of HT_.out (by kernel_rfl)) ?_
                try go_wp2
                go_ret
                exact ⟨by first | rfl | (simp [errW_none,errW_some] <;> rfl) | (simp only [← hji6]; first | rfl | (simp [errW_none,errW_some] <;> rfl)) | (simp [*,errW_none,errW_some] <;> rfl),by repeat (first | (with_reducible first | exact HB.out | apply below_alloc | apply pw_below_drewN | apply below_drew1 | refine below_set ?_ GE169.out) | exact HB.out)⟩
               ·replace c45:=Bool.eq_false_iff.mpr c45
                subst c45
                have H1 : ((hinterlandref09_Out.f ((rd_T44 l0 x3_1).f2) 1000000).bind fun t176 => (if t176 = true then (some 1) else (hinterlandref09_Validate.l0 k1 l0 (wrap64 (x3_1 + 1))))) = some r:=by rw [if_neg (show ¬ (false = true) by decide)] at H; exact H
                clear H
                have H:=H1
                clear H1
                replace H:=Option.bind_eq_some_iff.mp H
                obtain ⟨t176,A510,H⟩:=H
                replace H : (if t176 = true then (some 1) else (hinterlandref09_Validate.l0 k1 l0 (wrap64 (x3_1 + 1)))) = some r:=H
                have A51:=Aside0.mk A510
                clear A510
                by_cases c52 : t176 = true
                ·subst c52
                 have H1 : (some 1) = some r:=by rw [if_pos rfl] at H; exact H
                 clear H
                 have H:=H1
                 clear H1
                 obtain rfl:=Option.some.inj H
                 have p168 : 0 ≤ (x3_1 : Int):=of_decide_eq_true (by first | (with_reducible assumption) | assumption)
                 have q168 : x3_1 < (l0.length : Int):=of_decide_eq_true (by first | (with_reducible assumption) | assumption)
                 obtain ⟨ad168,e168,hx168_0,hx168_1,hx168_2,hx168_3,hx168_4,hx168_5⟩:=at_T44 HR0.out x3_1 p168 q168
                 cases e168
                 replace hx168_0:=(HB.out.cell (World.block_lt_of_cell? w _ hx168_0)).trans hx168_0
                 replace hx168_1:=(HB.out.cell (World.block_lt_of_cell? w _ hx168_1)).trans hx168_1
                 replace hx168_2:=(HB.out.cell (World.block_lt_of_cell? w _ hx168_2)).trans hx168_2
                 replace hx168_3:=(HB.out.cell (World.block_lt_of_cell? w _ hx168_3)).trans hx168_3
                 replace hx168_4:=(HB.out.cell (World.block_lt_of_cell? w _ hx168_4)).trans hx168_4
                 replace hx168_5:=(HB.out.cell (World.block_lt_of_cell? w _ hx168_5)).trans hx168_5
                 replace p168:=eq_true p168
                 replace q168:=eq_true q168
                 try go_wp2_with (first | ((with_reducible refine gate_dst (N:=4) rfl ?_); refine box_event ?hg (N:=4) ?hd (cs:=#[.int .i64 0,.int .i64 0,.int .i64 0,.int .i64 0,.int .i64 0,.int .i64 0]) (t:=44) ?hr ?_; (case hd => rfl); (case hg => rfl); (case hr => first | (go_simp; done) | (go_simp; rfl)); intro gb169 hg w53 hbox hb; have n0_:=Aside0.mk (below_step (by repeat (first | (with_reducible first | exact HB.out | apply below_alloc | apply pw_below_drewN | apply below_drew1) | exact HB.out)) hb); have n1_:=Aside0.mk (hbox); have n2_:=Aside0.mk ((by rw [hg]; exact (below_size (by repeat (first | (with_reducible first | exact HB.out | apply below_alloc | apply pw_below_drewN | apply below_drew1) | exact HB.out))) : w.heap.size ≤ gb169)); have n3_:=Aside0.mk ((by rw [hg]; exact (below_size (by repeat (first | (with_reducible first | exact HB.out | apply below_alloc | apply pw_below_drewN | apply below_drew1) | exact HB.out))) : w.heap.size ≤ gb169)); clear HB; have HB:=n0_; have BK169:=n1_; have GW169:=n2_; have GE169:=n3_; clear n0_ n1_ n2_ n3_; clear hb hbox hg; have hcz54_0 : w53.cell? ⟨gb169,0,none⟩ = some (.int .i64 0):=(blk_cell BK169.out 0).trans rfl; have hcz54_1 : w53.cell? ⟨gb169,1,none⟩ = some (.int .i64 0):=(blk_cell BK169.out 1).trans rfl; have hcz54_2 : w53.cell? ⟨gb169,2,none⟩ = some (.int .i64 0):=(blk_cell BK169.out 2).trans rfl; have hcz54_3 : w53.cell? ⟨gb169,3,none⟩ = some (.int .i64 0):=(blk_cell BK169.out 3).trans rfl; have hcz54_4 : w53.cell? ⟨gb169,4,none⟩ = some (.int .i64 0):=(blk_cell BK169.out 4).trans rfl; have hcz54_5 : w53.cell? ⟨gb169,5,none⟩ = some (.int .i64 0):=(blk_cell BK169.out 5).trans rfl; have hfz54_0:=blk_frozen BK169.out 0; have hfz54_1:=blk_frozen BK169.out 1; have hfz54_2:=blk_frozen BK169.out 2; have hfz54_3:=blk_frozen BK169.out 3; have hfz54_4:=blk_frozen BK169.out 4; have hfz54_5:=blk_frozen BK169.out 5))
                 have n0_ : Aside0 (((((((w53.setCell ⟨gb169,0,none⟩ (.int .i64 ((rd_T44 l0 x3_1).f0))).setCell ⟨gb169,1,none⟩ (.int .i64 ((rd_T44 l0 x3_1).f1))).setCell ⟨gb169,2,none⟩ (.int .i64 ((rd_T44 l0 x3_1).f2))).setCell ⟨gb169,3,none⟩ (.int .i64 ((rd_T44 l0 x3_1).f3))).setCell ⟨gb169,4,none⟩ (.int .i64 ((rd_T44 l0 x3_1).f4))).setCell ⟨gb169,5,none⟩ (.int .i64 ((rd_T44 l0 x3_1).f5))).heap[gb169]? = some (.cells #[.int .i64 ((rd_T44 l0 x3_1).f0),.int .i64 ((rd_T44 l0 x3_1).f1),.int .i64 ((rd_T44 l0 x3_1).f2),.int .i64 ((rd_T44 l0 x3_1).f3),.int .i64 ((rd_T44 l0 x3_1).f4),.int .i64 ((rd_T44 l0 x3_1).f5)] 44 (0,0))):=⟨by (with_reducible repeat (first | refine blk_drewN ?_ _ | refine blk_drew ?_ | refine blk_alloc ?_ _)); refine blk_put (cs:=#[.int .i64 ((rd_T44 l0 x3_1).f0),.int .i64 ((rd_T44 l0 x3_1).f1),.int .i64 ((rd_T44 l0 x3_1).f2),.int .i64 ((rd_T44 l0 x3_1).f3),.int .i64 ((rd_T44 l0 x3_1).f4),.int .i64 0]) ?_ 5 _ rfl; (with_reducible repeat (first | refine blk_drewN ?_ _ | refine blk_drew ?_ | refine blk_alloc ?_ _)); refine blk_put (cs:=#[.int .i64 ((rd_T44 l0 x3_1).f0),.int .i64 ((rd_T44 l0 x3_1).f1),.int .i64 ((rd_T44 l0 x3_1).f2),.int .i64 ((rd_T44 l0 x3_1).f3),.int .i64 0,.int .i64 0]) ?_ 4 _ rfl; (with_reducible repeat (first | refine blk_drewN ?_ _ | refine blk_drew ?_ | refine blk_alloc ?_ _)); refine blk_put (cs:=#[.int .i64 ((rd_T44 l0 x3_1).f0),.int .i64 ((rd_T44 l0 x3_1).f1),.int .i64 ((rd_T44 l0 x3_1).f2),.int .i64 0,.int .i64 0,.int .i64 0]) ?_ 3 _ rfl; (with_reducible repeat (first | refine blk_drewN ?_ _ | refine blk_drew ?_ | refine blk_alloc ?_ _)); refine blk_put (cs:=#[.int .i64 ((rd_T44 l0 x3_1).f0),.int .i64 ((rd_T44 l0 x3_1).f1),.int .i64 0,.int .i64 0,.int .i64 0,.int .i64 0]) ?_ 2 _ rfl; (with_reducible repeat (first | refine blk_drewN ?_ _ | refine blk_drew ?_ | refine blk_alloc ?_ _)); refine blk_put (cs:=#[.int .i64 ((rd_T44 l0 x3_1).f0),.int .i64 0,.int .i64 0,.int .i64 0,.int .i64 0,.int .i64 0]) ?_ 1 _ rfl; (with_reducible repeat (first | refine blk_drewN ?_ _ | refine blk_drew ?_ | refine blk_alloc ?_ _)); refine blk_put (cs:=#[.int .i64 0,.int .i64 0,.int .i64 0,.int .i64 0,.int .i64 0,.int .i64 0]) ?_ 0 _ rfl; (with_reducible repeat (first | refine blk_drewN ?_ _ | refine blk_drew ?_ | refine blk_alloc ?_ _)); exact BK169.out⟩
                 have n1_ : Aside0 (Below w.heap.size w ((((((w53.setCell ⟨gb169,0,none⟩ (.int .i64 ((rd_T44 l0 x3_1).f0))).setCell ⟨gb169,1,none⟩ (.int .i64 ((rd_T44 l0 x3_1).f1))).setCell ⟨gb169,2,none⟩ (.int .i64 ((rd_T44 l0 x3_1).f2))).setCell ⟨gb169,3,none⟩ (.int .i64 ((rd_T44 l0 x3_1).f3))).setCell ⟨gb169,4,none⟩ (.int .i64 ((rd_T44 l0 x3_1).f4))).setCell ⟨gb169,5,none⟩ (.int .i64 ((rd_T44 l0 x3_1).f5)))):=⟨by repeat (first | (with_reducible first | exact HB.out | apply below_alloc | apply pw_below_drewN | apply below_drew1 | refine below_set ?_ GE169.out) | exact HB.out)⟩
                 (try clear BK169)
                 (try clear HB)
                 generalize ((((((w53.setCell ⟨gb169,0,none⟩ (.int .i64 ((rd_T44 l0 x3_1).f0))).setCell ⟨gb169,1,none⟩ (.int .i64 ((rd_T44 l0 x3_1).f1))).setCell ⟨gb169,2,none⟩ (.int .i64 ((rd_T44 l0 x3_1).f2))).setCell ⟨gb169,3,none⟩ (.int .i64 ((rd_T44 l0 x3_1).f3))).setCell ⟨gb169,4,none⟩ (.int .i64 ((rd_T44 l0 x3_1).f4))).setCell ⟨gb169,5,none⟩ (.int .i64 ((rd_T44 l0 x3_1).f5))) = w55 at n0_ n1_ ⊢
                 have BK169:=n0_
                 have HB:=n1_
                 clear n0_ n1_
                 have n0_:=Aside0.mk (blk_drew BK169.out)
                 have n1_:=Aside0.mk (below_drew1 HB.out)
                 clear BK169
                 clear HB
                 have BK169:=n0_
                 have HB:=n1_
                 clear n0_ n1_
                 have p170 : 0 ≤ ((ji6) : Int):=of_decide_eq_true (by first | (with_reducible assumption) | assumption)
                 have q170 : (ji6) < (l0.length : Int):=of_decide_eq_true (by first | (with_reducible assumption) | assumption)
                 obtain ⟨ad170,e170,hx170_0,hx170_1,hx170_2,hx170_3,hx170_4,hx170_5⟩:=at_T44 HR0.out (ji6) p170 q170
                 have hw170_5:=hx170_5
                 have hw170_4:=hx170_4
                 have hw170_3:=hx170_3
                 have hw170_2:=hx170_2
                 have hw170_1:=hx170_1
                 have hw170_0:=hx170_0
                 obtain rfl : ad168 = ad170:=(by injection e170)
                 replace hx170_0:=(HB.out.cell (World.block_lt_of_cell? w _ hx170_0)).trans hx170_0
                 replace hx170_1:=(HB.out.cell (World.block_lt_of_cell? w _ hx170_1)).trans hx170_1
                 replace hx170_2:=(HB.out.cell (World.block_lt_of_cell? w _ hx170_2)).trans hx170_2
                 replace hx170_3:=(HB.out.cell (World.block_lt_of_cell? w _ hx170_3)).trans hx170_3
                 replace hx170_4:=(HB.out.cell (World.block_lt_of_cell? w _ hx170_4)).trans hx170_4
                 replace hx170_5:=(HB.out.cell (World.block_lt_of_cell? w _ hx170_5)).trans hx170_5
                 replace p170:=eq_true p170
                 replace q170:=eq_true q170
                 refine start_ (n:=47) (S:=fun w' => w'.cell? ⟨gb169,0,none⟩ = some (.int .i64 ((rd_T44 l0 x3_1).f0)) ∧ w'.cell? ⟨gb169,1,none⟩ = some (.int .i64 ((rd_T44 l0 x3_1).f1)) ∧ w'.cell? ⟨gb169,2,none⟩ = some (.int .i64 ((rd_T44 l0 x3_1).f2)) ∧ w'.cell? ⟨gb169,3,none⟩ = some (.int .i64 ((rd_T44 l0 x3_1).f3)) ∧ w'.cell? ⟨gb169,4,none⟩ = some (.int .i64 ((rd_T44 l0 x3_1).f4)) ∧ w'.cell? ⟨gb169,5,none⟩ = some (.int .i64 ((rd_T44 l0 x3_1).f5)) ∧ w'.cell? (ad168.add (((ji6)).toNat * 6)) = some (.int .i64 ((rd_T44 l0 (ji6)).f0)) ∧ w'.cell? ⟨(ad168.add (((ji6)).toNat * 6)).block,(ad168.add (((ji6)).toNat * 6)).off + 1,none⟩ = some (.int .i64 ((rd_T44 l0 (ji6)).f1)) ∧ w'.cell? ⟨(ad168.add (((ji6)).toNat * 6)).block,(ad168.add (((ji6)).toNat * 6)).off + 2,none⟩ = some (.int .i64 ((rd_T44 l0 (ji6)).f2)) ∧ w'.cell? ⟨(ad168.add (((ji6)).toNat * 6)).block,(ad168.add (((ji6)).toNat * 6)).off + 3,none⟩ = some (.int .i64 ((rd_T44 l0 (ji6)).f3)) ∧ w'.cell? ⟨(ad168.add (((ji6)).toNat * 6)).block,(ad168.add (((ji6)).toNat * 6)).off + 4,none⟩ = some (.int .i64 ((rd_T44 l0 (ji6)).f4)) ∧ w'.cell? ⟨(ad168.add (((ji6)).toNat * 6)).block,(ad168.add (((ji6)).toNat * 6)).off + 5,none⟩ = some (.int .i64 ((rd_T44 l0 (ji6)).f5))) (ds:=[]) (bm 47 0) (by kernel_rfl) rfl (by kernel_rfl) ⟨(blk_cell BK169.out 0).trans rfl,(blk_cell BK169.out 1).trans rfl,(blk_cell BK169.out 2).trans rfl,(blk_cell BK169.out 3).trans rfl,(blk_cell BK169.out 4).trans rfl,(blk_cell BK169.out 5).trans rfl,((HB.out.cell (World.block_lt_of_cell? w _ hw170_0)).trans hw170_0),((HB.out.cell (World.block_lt_of_cell? w _ hw170_1)).trans hw170_1),((HB.out.cell (World.block_lt_of_cell? w _ hw170_2)).trans hw170_2),((HB.out.cell (World.block_lt_of_cell? w _ hw170_3)).trans hw170_3),((HB.out.cell (World.block_lt_of_cell? w _ hw170_4)).trans hw170_4),((HB.out.cell (World.block_lt_of_cell? w _ hw170_5)).trans hw170_5)⟩ (fun hHeld => ?_); refine with_tabW hinterlandref09_Validate.tab7 hinterlandref09_Validate.bits7 (fun HT_ HW_ => ?_)
                 generalize w55.drew = w56 at BK169 HB hx170_0 hx170_1 hx170_2 hx170_3 hx170_4 hx170_5 hHeld ⊢
                 refine pv 0 (some 18) (bm 47 1) HT_ ?_
                 refine pv 1 (some 19) (bm 47 3) HT_ ?_
                 refine pv 2 (some 20) (bm 47 7) HT_ ?_
                 refine pv 3 (some 21) (bm 47 15) HT_ ?_
                 refine pv 4 (some 22) (bm 47 31) HT_ ?_
                 refine pv 5 (some 23) (bm 47 63) HT_ ?_
                 refine pv 6 (some 24) (bm 47 127) HT_ ?_
                 refine tk 7 (some 25) (bm 47 255) HT_ HW_ hHeld ?_
                 refine tk 8 (some 26) (bm 47 511) HT_ HW_ hHeld ?_
                 refine ck 9 (some 27) (bm 47 1023) HT_ (fun K hK => ?_)
                 refine goes_ Try.func46 (by kernel_rfl) rfl #[.agg #[.int .i64 ((rd_T44 l0 (ji6)).f0),.int .i64 ((rd_T44 l0 (ji6)).f1),.int .i64 ((rd_T44 l0 (ji6)).f2),.int .i64 ((rd_T44 l0 (ji6)).f3),.int .i64 ((rd_T44 l0 (ji6)).f4),.int .i64 ((rd_T44 l0 (ji6)).f5)],.agg #[.int .i64 ((rd_T44 l0 x3_1).f0),.int .i64 ((rd_T44 l0 x3_1).f1),.int .i64 ((rd_T44 l0 x3_1).f2),.int .i64 ((rd_T44 l0 x3_1).f3),.int .i64 ((rd_T44 l0 x3_1).f4),.int .i64 ((rd_T44 l0 x3_1).f5)]] (by rfl) rfl rfl (by (try simp only [List.map_toArray,List.map_cons,List.map_nil]); first | done | (simp only [hji6]; rfl) | rfl | (simp only [List.length_drop,List.length_take]; rfl)) ?_
                 with_reducible refine (hinterlandref09_less.calls ((rd_T44 l0 (ji6)).f0) ((rd_T44 l0 (ji6)).f1) ((rd_T44 l0 (ji6)).f2) ((rd_T44 l0 (ji6)).f3) ((rd_T44 l0 (ji6)).f4) ((rd_T44 l0 (ji6)).f5) ((rd_T44 l0 x3_1).f0) ((rd_T44 l0 x3_1).f1) ((rd_T44 l0 x3_1).f2) ((rd_T44 l0 x3_1).f3) ((rd_T44 l0 x3_1).f4) ((rd_T44 l0 x3_1).f5) true _ A9.out).mono ?_
                 rintro e w57 ⟨rfl,hb⟩
                 refine ⟨_,rfl,?_⟩
                 have n0_:=Aside0.mk (blk_below (g:=gb169) (o:=.cells #[.int .i64 ((rd_T44 l0 x3_1).f0),.int .i64 ((rd_T44 l0 x3_1).f1),.int .i64 ((rd_T44 l0 x3_1).f2),.int .i64 ((rd_T44 l0 x3_1).f3),.int .i64 ((rd_T44 l0 x3_1).f4),.int .i64 ((rd_T44 l0 x3_1).f5)] 44 (0,0)) (by (with_reducible repeat (first | refine blk_drewN ?_ _ | refine blk_drew ?_ | refine blk_alloc ?_ _)); exact BK169.out) hb)
                 have n1_:=Aside0.mk (below_step (by repeat (first | (with_reducible first | exact HB.out | apply below_alloc | apply pw_below_drewN | apply below_drew1 | refine below_set ?_ GE169.out) | exact HB.out)) hb)
                 clear BK169
                 clear HB
                 have BK169:=n0_
                 have HB:=n1_
                 clear n0_ n1_
                 (try clear hb)
                 (try clear hb2)
                 (try clear hk)
                 (try clear hi)
                 refine hK.out _ _ ⟨(blk_cell BK169.out 0).trans rfl,(blk_cell BK169.out 1).trans rfl,(blk_cell BK169.out 2).trans rfl,(blk_cell BK169.out 3).trans rfl,(blk_cell BK169.out 4).trans rfl,(blk_cell BK169.out 5).trans rfl,((HB.out.cell (World.block_lt_of_cell? w _ hw170_0)).trans hw170_0),((HB.out.cell (World.block_lt_of_cell? w _ hw170_1)).trans hw170_1),((HB.out.cell (World.block_lt_of_cell? w _ hw170_2)).trans hw170_2),((HB.out.cell (World.block_lt_of_cell? w _ hw170_3)).trans hw170_3),((HB.out.cell (World.block_lt_of_cell? w _ hw170_4)).trans hw170_4),((HB.out.cell (World.block_lt_of_cell? w _ hw170_5)).trans hw170_5)⟩ (fun hHeld => ?_)
                 clear hK K
                 refine nm ?_
                 refine pv 10 (some 28) (bm 47 2047) HT_ ?_
                 refine pv 11 (some 29) (bm 47 4095) HT_ ?_
                 refine pv 12 (some 30) (bm 47 8191) HT_ ?_
                 refine pv 13 (some 31) (bm 47 16383) HT_ ?_
                 refine tk 14 (some 32) (bm 47 32767) HT_ HW_ hHeld ?_
                 refine pv 15 (some 33) (bm 47 65535) HT_ ?_
                 refine pv 16 (some 34) (bm 47 131071) HT_ ?_
                 refine pv 17 (some 35) (bm 47 262143) HT_ ?_
                 refine pv 18 (some 36) (bm 47 524287) HT_ ?_
                 refine tk 19 (some 37) (bm 47 1048575) HT_ HW_ hHeld ?_
                 refine pv 20 (some 38) (bm 47 2097151) HT_ ?_
                 refine pv 21 (some 39) (bm 47 4194303) HT_ ?_
                 refine pv 22 (some 40) (bm 47 8388607) HT_ ?_
                 refine pv 23 (some 41) (bm 47 16777215) HT_ ?_
                 refine tk 24 (some 42) (bm 47 33554431) HT_ HW_ hHeld ?_
                 refine ck 25 (some 43) (bm 47 67108863) HT_ (fun K hK => ?_)
                 refine gs Try.func42 #[.int .i64 ((rd_T44 l0 x3_1).f3),.int .i64 255] ?_
                 with_reducible refine (hinterlandref09_Out.calls ((rd_T44 l0 x3_1).f3) 255 false _ A23.out).mono ?_
                 rintro e w' ⟨rfl,⟨nd,rfl⟩⟩
                 refine ⟨_,rfl,?_⟩
                 refine hK.out _ _ ⟨(blk_cell BK169.out 0).trans rfl,(blk_cell BK169.out 1).trans rfl,(blk_cell BK169.out 2).trans rfl,(blk_cell BK169.out 3).trans rfl,(blk_cell BK169.out 4).trans rfl,(blk_cell BK169.out 5).trans rfl,((HB.out.cell (World.block_lt_of_cell? w _ hw170_0)).trans hw170_0),((HB.out.cell (World.block_lt_of_cell? w _ hw170_1)).trans hw170_1),((HB.out.cell (World.block_lt_of_cell? w _ hw170_2)).trans hw170_2),((HB.out.cell (World.block_lt_of_cell? w _ hw170_3)).trans hw170_3),((HB.out.cell (World.block_lt_of_cell? w _ hw170_4)).trans hw170_4),((HB.out.cell (World.block_lt_of_cell? w _ hw170_5)).trans hw170_5)⟩ (fun hHeld => ?_)
                 clear hK K
                 refine nm ?_
                 refine pv 26 (some 44) (bm 47 134217727) HT_ ?_
                 refine pv 27 (some 45) (bm 47 268435455) HT_ ?_
                 refine pv 28 (some 46) (bm 47 536870911) HT_ ?_
                 refine tk 29 (some 47) (bm 47 1073741823) HT_ HW_ hHeld ?_
                 refine ck 30 (some 48) (bm 47 2147483647) HT_ (fun K hK => ?_)
                 refine gs Try.func42 #[.int .i64 ((rd_T44 l0 x3_1).f5),.int .i64 1000000000000] ?_
                 with_reducible refine (hinterlandref09_Out.calls ((rd_T44 l0 x3_1).f5) 1000000000000 false _ A30.out).mono ?_
                 rintro e w' ⟨rfl,⟨nd,rfl⟩⟩
                 refine ⟨_,rfl,?_⟩
                 refine hK.out _ _ ⟨(blk_cell BK169.out 0).trans rfl,(blk_cell BK169.out 1).trans rfl,(blk_cell BK169.out 2).trans rfl,(blk_cell BK169.out 3).trans rfl,(blk_cell BK169.out 4).trans rfl,(blk_cell BK169.out 5).trans rfl,((HB.out.cell (World.block_lt_of_cell? w _ hw170_0)).trans hw170_0),((HB.out.cell (World.block_lt_of_cell? w _ hw170_1)).trans hw170_1),((HB.out.cell (World.block_lt_of_cell? w _ hw170_2)).trans hw170_2),((HB.out.cell (World.block_lt_of_cell? w _ hw170_3)).trans hw170_3),((HB.out.cell (World.block_lt_of_cell? w _ hw170_4)).trans hw170_4),((HB.out.cell (World.block_lt_of_cell? w _ hw170_5)).trans hw170_5)⟩ (fun hHeld => ?_)
                 clear hK K
                 refine nm ?_
                 refine pv 31 (some 49) (bm 47 4294967295) HT_ ?_
                 refine pv 32 (some 50) (bm 47 8589934591) HT_ ?_
                 refine pv 33 (some 51) (bm 47 17179869183) HT_ ?_
                 refine tk 34 (some 52) (bm 47 34359738367) HT_ HW_ hHeld ?_
                 refine ck 35 (some 53) (bm 47 68719476735) HT_ (fun K hK => ?_)
                 refine gs Try.func42 #[.int .i64 ((rd_T44 l0 x3_1).f0),.int .i64 1000000] ?_
                 with_reducible refine (hinterlandref09_Out.calls ((rd_T44 l0 x3_1).f0) 1000000 false _ A37.out).mono ?_
                 rintro e w' ⟨rfl,⟨nd,rfl⟩⟩
                 refine ⟨_,rfl,?_⟩
                 refine hK.out _ _ ⟨(blk_cell BK169.out 0).trans rfl,(blk_cell BK169.out 1).trans rfl,(blk_cell BK169.out 2).trans rfl,(blk_cell BK169.out 3).trans rfl,(blk_cell BK169.out 4).trans rfl,(blk_cell BK169.out 5).trans rfl,((HB.out.cell (World.block_lt_of_cell? w _ hw170_0)).trans hw170_0),((HB.out.cell (World.block_lt_of_cell? w _ hw170_1)).trans hw170_1),((HB.out.cell (World.block_lt_of_cell? w _ hw170_2)).trans hw170_2),((HB.out.cell (World.block_lt_of_cell? w _ hw170_3)).trans hw170_3),((HB.out.cell (World.block_lt_of_cell? w _ hw170_4)).trans hw170_4),((HB.out.cell (World.block_lt_of_cell? w _ hw170_5)).trans hw170_5)⟩ (fun hHeld => ?_)
                 clear hK K
                 refine nm ?_
                 refine pv 36 (some 54) (bm 47 137438953471) HT_ ?_
                 refine pv 37 (some 55) (bm 47 274877906943) HT_ ?_
                 refine pv 38 (some 56) (bm 47 549755813887) HT_ ?_
                 refine tk 39 (some 57) (bm 47 1099511627775) HT_ HW_ hHeld ?_
                 refine ck 40 (some 58) (bm 47 2199023255551) HT_ (fun K hK => ?_)
                 refine gs Try.func42 #[.int .i64 ((rd_T44 l0 x3_1).f1),.int .i64 1000000] ?_
                 with_reducible refine (hinterlandref09_Out.calls ((rd_T44 l0 x3_1).f1) 1000000 false _ A44.out).mono ?_
                 rintro e w' ⟨rfl,⟨nd,rfl⟩⟩
                 refine ⟨_,rfl,?_⟩
                 refine hK.out _ _ ⟨(blk_cell BK169.out 0).trans rfl,(blk_cell BK169.out 1).trans rfl,(blk_cell BK169.out 2).trans rfl,(blk_cell BK169.out 3).trans rfl,(blk_cell BK169.out 4).trans rfl,(blk_cell BK169.out 5).trans rfl,((HB.out.cell (World.block_lt_of_cell? w _ hw170_0)).trans hw170_0),((HB.out.cell (World.block_lt_of_cell? w _ hw170_1)).trans hw170_1),((HB.out.cell (World.block_lt_of_cell? w _ hw170_2)).trans hw170_2),((HB.out.cell (World.block_lt_of_cell? w _ hw170_3)).trans hw170_3),((HB.out.cell (World.block_lt_of_cell? w _ hw170_4)).trans hw170_4),((HB.out.cell (World.block_lt_of_cell? w _ hw170_5)).trans hw170_5)⟩ (fun hHeld => ?_)
                 clear hK K
                 refine nm ?_
                 refine pv 41 (some 59) (bm 47 4398046511103) HT_ ?_
                 refine pv 42 (some 60) (bm 47 8796093022207) HT_ ?_
                 refine pv 43 (some 61) (bm 47 17592186044415) HT_ ?_
                 refine tk 44 (some 62) (bm 47 35184372088831) HT_ HW_ hHeld ?_
                 refine ck 45 (some 63) (bm 47 70368744177663) HT_ (fun K hK => ?_)
                 refine gs Try.func42 #[.int .i64 ((rd_T44 l0 x3_1).f2),.int .i64 1000000] ?_
                 with_reducible refine (hinterlandref09_Out.calls ((rd_T44 l0 x3_1).f2) 1000000 true _ A51.out).mono ?_
                 rintro e w' ⟨rfl,⟨nd,rfl⟩⟩
                 refine ⟨_,rfl,?_⟩
                 refine hK.out _ _ ⟨(blk_cell BK169.out 0).trans rfl,(blk_cell BK169.out 1).trans rfl,(blk_cell BK169.out 2).trans rfl,(blk_cell BK169.out 3).trans rfl,(blk_cell BK169.out 4).trans rfl,(blk_cell BK169.out 5).trans rfl,((HB.out.cell (World.block_lt_of_cell? w _ hw170_0)).trans hw170_0),((HB.out.cell (World.block_lt_of_cell? w _ hw170_1)).trans hw170_1),((HB.out.cell (World.block_lt_of_cell? w _ hw170_2)).trans hw170_2),((HB.out.cell (World.block_lt_of_cell? w _ hw170_3)).trans hw170_3),((HB.out.cell (World.block_lt_of_cell? w _ hw170_4)).trans hw170_4),((HB.out.cell (World.block_lt_of_cell? w _ hw170_5)).trans hw170_5)⟩ (fun hHeld => ?_)
                 clear hK K
                 refine nm ?_
                 refine pv 46 (some 64) (bm 47 140737488355327) HT_ ?_
                 refine done_ (done_of HT_.out (by kernel_rfl)) ?_
                 try go_wp2
                 go_ret
                 exact ⟨by first | rfl | (simp [errW_none,errW_some] <;> rfl) | (simp only [← hji6]; first | rfl | (simp [errW_none,errW_some] <;> rfl)) | (simp [*,errW_none,errW_some] <;> rfl),by repeat (first | (with_reducible first | exact HB.out | apply below_alloc | apply pw_below_drewN | apply below_drew1 | refine below_set ?_ GE169.out) | exact HB.out)⟩
                ·replace c52:=Bool.eq_false_iff.mpr c52
                 subst c52
                 have H1 : (hinterlandref09_Validate.l0 k1 l0 (wrap64 (x3_1 + 1))) = some r:=by rw [if_neg (show ¬ (false = true) by decide)] at H; exact H
                 clear H
                 have H:=H1
                 clear H1
                 have H':=Aside0.mk H
                 clear H
                 have p168 : 0 ≤ (x3_1 : Int):=of_decide_eq_true (by first | (with_reducible assumption) | assumption)
                 have q168 : x3_1 < (l0.length : Int):=of_decide_eq_true (by first | (with_reducible assumption) | assumption)
                 obtain ⟨ad168,e168,hx168_0,hx168_1,hx168_2,hx168_3,hx168_4,hx168_5⟩:=at_T44 HR0.out x3_1 p168 q168
                 cases e168
                 replace hx168_0:=(HB.out.cell (World.block_lt_of_cell? w _ hx168_0)).trans hx168_0
                 replace hx168_1:=(HB.out.cell (World.block_lt_of_cell? w _ hx168_1)).trans hx168_1
                 replace hx168_2:=(HB.out.cell (World.block_lt_of_cell? w _ hx168_2)).trans hx168_2
                 replace hx168_3:=(HB.out.cell (World.block_lt_of_cell? w _ hx168_3)).trans hx168_3
                 replace hx168_4:=(HB.out.cell (World.block_lt_of_cell? w _ hx168_4)).trans hx168_4
                 replace hx168_5:=(HB.out.cell (World.block_lt_of_cell? w _ hx168_5)).trans hx168_5
                 replace p168:=eq_true p168
                 replace q168:=eq_true q168
                 try go_wp2_with (first | ((with_reducible refine gate_dst (N:=4) rfl ?_); refine box_event ?hg (N:=4) ?hd (cs:=#[.int .i64 0,.int .i64 0,.int .i64 0,.int .i64 0,.int .i64 0,.int .i64 0]) (t:=44) ?hr ?_; (case hd => rfl); (case hg => rfl); (case hr => first | (go_simp; done) | (go_simp; rfl)); intro gb169 hg w58 hbox hb; have n0_:=Aside0.mk (below_step (by repeat (first | (with_reducible first | exact HB.out | apply below_alloc | apply pw_below_drewN | apply below_drew1) | exact HB.out)) hb); have n1_:=Aside0.mk (hbox); have n2_:=Aside0.mk ((by rw [hg]; exact (below_size (by repeat (first | (with_reducible first | exact HB.out | apply below_alloc | apply pw_below_drewN | apply below_drew1) | exact HB.out))) : w.heap.size ≤ gb169)); have n3_:=Aside0.mk ((by rw [hg]; exact (below_size (by repeat (first | (with_reducible first | exact HB.out | apply below_alloc | apply pw_below_drewN | apply below_drew1) | exact HB.out))) : w.heap.size ≤ gb169)); clear HB; have HB:=n0_; have BK169:=n1_; have GW169:=n2_; have GE169:=n3_; clear n0_ n1_ n2_ n3_; clear hb hbox hg; have hcz59_0 : w58.cell? ⟨gb169,0,none⟩ = some (.int .i64 0):=(blk_cell BK169.out 0).trans rfl; have hcz59_1 : w58.cell? ⟨gb169,1,none⟩ = some (.int .i64 0):=(blk_cell BK169.out 1).trans rfl; have hcz59_2 : w58.cell? ⟨gb169,2,none⟩ = some (.int .i64 0):=(blk_cell BK169.out 2).trans rfl; have hcz59_3 : w58.cell? ⟨gb169,3,none⟩ = some (.int .i64 0):=(blk_cell BK169.out 3).trans rfl; have hcz59_4 : w58.cell? ⟨gb169,4,none⟩ = some (.int .i64 0):=(blk_cell BK169.out 4).trans rfl; have hcz59_5 : w58.cell? ⟨gb169,5,none⟩ = some (.int .i64 0):=(blk_cell BK169.out 5).trans rfl; have hfz59_0:=blk_frozen BK169.out 0; have hfz59_1:=blk_frozen BK169.out 1; have hfz59_2:=blk_frozen BK169.out 2; have hfz59_3:=blk_frozen BK169.out 3; have hfz59_4:=blk_frozen BK169.out 4; have hfz59_5:=blk_frozen BK169.out 5))
                 have n0_ : Aside0 (((((((w58.setCell ⟨gb169,0,none⟩ (.int .i64 ((rd_T44 l0 x3_1).f0))).setCell ⟨gb169,1,none⟩ (.int .i64 ((rd_T44 l0 x3_1).f1))).setCell ⟨gb169,2,none⟩ (.int .i64 ((rd_T44 l0 x3_1).f2))).setCell ⟨gb169,3,none⟩ (.int .i64 ((rd_T44 l0 x3_1).f3))).setCell ⟨gb169,4,none⟩ (.int .i64 ((rd_T44 l0 x3_1).f4))).setCell ⟨gb169,5,none⟩ (.int .i64 ((rd_T44 l0 x3_1).f5))).heap[gb169]? = some (.cells #[.int .i64 ((rd_T44 l0 x3_1).f0),.int .i64 ((rd_T44 l0 x3_1).f1),.int .i64 ((rd_T44 l0 x3_1).f2),.int .i64 ((rd_T44 l0 x3_1).f3),.int .i64 ((rd_T44 l0 x3_1).f4),.int .i64 ((rd_T44 l0 x3_1).f5)] 44 (0,0))):=⟨by (with_reducible repeat (first | refine blk_drewN ?_ _ | refine blk_drew ?_ | refine blk_alloc ?_ _)); refine blk_put (cs:=#[.int .i64 ((rd_T44 l0 x3_1).f0),.int .i64 ((rd_T44 l0 x3_1).f1),.int .i64 ((rd_T44 l0 x3_1).f2),.int .i64 ((rd_T44 l0 x3_1).f3),.int .i64 ((rd_T44 l0 x3_1).f4),.int .i64 0]) ?_ 5 _ rfl; (with_reducible repeat (first | refine blk_drewN ?_ _ | refine blk_drew ?_ | refine blk_alloc ?_ _)); refine blk_put (cs:=#[.int .i64 ((rd_T44 l0 x3_1).f0),.int .i64 ((rd_T44 l0 x3_1).f1),.int .i64 ((rd_T44 l0 x3_1).f2),.int .i64 ((rd_T44 l0 x3_1).f3),.int .i64 0,.int .i64 0]) ?_ 4 _ rfl; (with_reducible repeat (first | refine blk_drewN ?_ _ | refine blk_drew ?_ | refine blk_alloc ?_ _)); refine blk_put (cs:=#[.int .i64 ((rd_T44 l0 x3_1).f0),.int .i64 ((rd_T44 l0 x3_1).f1),.int .i64 ((rd_T44 l0 x3_1).f2),.int .i64 0,.int .i64 0,.int .i64 0]) ?_ 3 _ rfl; (with_reducible repeat (first | refine blk_drewN ?_ _ | refine blk_drew ?_ | refine blk_alloc ?_ _)); refine blk_put (cs:=#[.int .i64 ((rd_T44 l0 x3_1).f0),.int .i64 ((rd_T44 l0 x3_1).f1),.int .i64 0,.int .i64 0,.int .i64 0,.int .i64 0]) ?_ 2 _ rfl; (with_reducible repeat (first | refine blk_drewN ?_ _ | refine blk_drew ?_ | refine blk_alloc ?_ _)); refine blk_put (cs:=#[.int .i64 ((rd_T44 l0 x3_1).f0),.int .i64 0,.int .i64 0,.int .i64 0,.int .i64 0,.int .i64 0]) ?_ 1 _ rfl; (with_reducible repeat (first | refine blk_drewN ?_ _ | refine blk_drew ?_ | refine blk_alloc ?_ _)); refine blk_put (cs:=#[.int .i64 0,.int .i64 0,.int .i64 0,.int .i64 0,.int .i64 0,.int .i64 0]) ?_ 0 _ rfl; (with_reducible repeat (first | refine blk_drewN ?_ _ | refine blk_drew ?_ | refine blk_alloc ?_ _)); exact BK169.out⟩
                 have n1_ : Aside0 (Below w.heap.size w ((((((w58.setCell ⟨gb169,0,none⟩ (.int .i64 ((rd_T44 l0 x3_1).f0))).setCell ⟨gb169,1,none⟩ (.int .i64 ((rd_T44 l0 x3_1).f1))).setCell ⟨gb169,2,none⟩ (.int .i64 ((rd_T44 l0 x3_1).f2))).setCell ⟨gb169,3,none⟩ (.int .i64 ((rd_T44 l0 x3_1).f3))).setCell ⟨gb169,4,none⟩ (.int .i64 ((rd_T44 l0 x3_1).f4))).setCell ⟨gb169,5,none⟩ (.int .i64 ((rd_T44 l0 x3_1).f5)))):=⟨by repeat (first | (with_reducible first | exact HB.out | apply below_alloc | apply pw_below_drewN | apply below_drew1 | refine below_set ?_ GE169.out) | exact HB.out)⟩
                 (try clear BK169)
                 (try clear HB)
                 generalize ((((((w58.setCell ⟨gb169,0,none⟩ (.int .i64 ((rd_T44 l0 x3_1).f0))).setCell ⟨gb169,1,none⟩ (.int .i64 ((rd_T44 l0 x3_1).f1))).setCell ⟨gb169,2,none⟩ (.int .i64 ((rd_T44 l0 x3_1).f2))).setCell ⟨gb169,3,none⟩ (.int .i64 ((rd_T44 l0 x3_1).f3))).setCell ⟨gb169,4,none⟩ (.int .i64 ((rd_T44 l0 x3_1).f4))).setCell ⟨gb169,5,none⟩ (.int .i64 ((rd_T44 l0 x3_1).f5))) = w60 at n0_ n1_ ⊢
                 have BK169:=n0_
                 have HB:=n1_
                 clear n0_ n1_
                 have n0_:=Aside0.mk (blk_drew BK169.out)
                 have n1_:=Aside0.mk (below_drew1 HB.out)
                 clear BK169
                 clear HB
                 have BK169:=n0_
                 have HB:=n1_
                 clear n0_ n1_
                 have p170 : 0 ≤ ((ji6) : Int):=of_decide_eq_true (by first | (with_reducible assumption) | assumption)
                 have q170 : (ji6) < (l0.length : Int):=of_decide_eq_true (by first | (with_reducible assumption) | assumption)
                 obtain ⟨ad170,e170,hx170_0,hx170_1,hx170_2,hx170_3,hx170_4,hx170_5⟩:=at_T44 HR0.out (ji6) p170 q170
                 have hw170_5:=hx170_5
                 have hw170_4:=hx170_4
                 have hw170_3:=hx170_3
                 have hw170_2:=hx170_2
                 have hw170_1:=hx170_1
                 have hw170_0:=hx170_0
                 obtain rfl : ad168 = ad170:=(by injection e170)
                 replace hx170_0:=(HB.out.cell (World.block_lt_of_cell? w _ hx170_0)).trans hx170_0
                 replace hx170_1:=(HB.out.cell (World.block_lt_of_cell? w _ hx170_1)).trans hx170_1
                 replace hx170_2:=(HB.out.cell (World.block_lt_of_cell? w _ hx170_2)).trans hx170_2
                 replace hx170_3:=(HB.out.cell (World.block_lt_of_cell? w _ hx170_3)).trans hx170_3
                 replace hx170_4:=(HB.out.cell (World.block_lt_of_cell? w _ hx170_4)).trans hx170_4
                 replace hx170_5:=(HB.out.cell (World.block_lt_of_cell? w _ hx170_5)).trans hx170_5
                 replace p170:=eq_true p170
                 replace q170:=eq_true q170
                 refine start_ (n:=47) (S:=fun w' => w'.cell? ⟨gb169,0,none⟩ = some (.int .i64 ((rd_T44 l0 x3_1).f0)) ∧ w'.cell? ⟨gb169,1,none⟩ = some (.int .i64 ((rd_T44 l0 x3_1).f1)) ∧ w'.cell? ⟨gb169,2,none⟩ = some (.int .i64 ((rd_T44 l0 x3_1).f2)) ∧ w'.cell? ⟨gb169,3,none⟩ = some (.int .i64 ((rd_T44 l0 x3_1).f3)) ∧ w'.cell? ⟨gb169,4,none⟩ = some (.int .i64 ((rd_T44 l0 x3_1).f4)) ∧ w'.cell? ⟨gb169,5,none⟩ = some (.int .i64 ((rd_T44 l0 x3_1).f5)) ∧ w'.cell? (ad168.add (((ji6)).toNat * 6)) = some (.int .i64 ((rd_T44 l0 (ji6)).f0)) ∧ w'.cell? ⟨(ad168.add (((ji6)).toNat * 6)).block,(ad168.add (((ji6)).toNat * 6)).off + 1,none⟩ = some (.int .i64 ((rd_T44 l0 (ji6)).f1)) ∧ w'.cell? ⟨(ad168.add (((ji6)).toNat * 6)).block,(ad168.add (((ji6)).toNat * 6)).off + 2,none⟩ = some (.int .i64 ((rd_T44 l0 (ji6)).f2)) ∧ w'.cell? ⟨(ad168.add (((ji6)).toNat * 6)).block,(ad168.add (((ji6)).toNat * 6)).off + 3,none⟩ = some (.int .i64 ((rd_T44 l0 (ji6)).f3)) ∧ w'.cell? ⟨(ad168.add (((ji6)).toNat * 6)).block,(ad168.add (((ji6)).toNat * 6)).off + 4,none⟩ = some (.int .i64 ((rd_T44 l0 (ji6)).f4)) ∧ w'.cell? ⟨(ad168.add (((ji6)).toNat * 6)).block,(ad168.add (((ji6)).toNat * 6)).off + 5,none⟩ = some (.int .i64 ((rd_T44 l0 (ji6)).f5))) (ds:=[]) (bm 47 0) (by kernel_rfl) rfl (by kernel_rfl) ⟨(blk_cell BK169.out 0).trans rfl,(blk_cell BK169.out 1).trans rfl,(blk_cell BK169.out 2).trans rfl,(blk_cell BK169.out 3).trans rfl,(blk_cell BK169.out 4).trans rfl,(blk_cell BK169.out 5).trans rfl,((HB.out.cell (World.block_lt_of_cell? w _ hw170_0)).trans hw170_0),((HB.out.cell (World.block_lt_of_cell? w _ hw170_1)).trans hw170_1),((HB.out.cell (World.block_lt_of_cell? w _ hw170_2)).trans hw170_2),((HB.out.cell (World.block_lt_of_cell? w _ hw170_3)).trans hw170_3),((HB.out.cell (World.block_lt_of_cell? w _ hw170_4)).trans hw170_4),((HB.out.cell (World.block_lt_of_cell? w _ hw170_5)).trans hw170_5)⟩ (fun hHeld => ?_); refine with_tabW hinterlandref09_Validate.tab7 hinterlandref09_Validate.bits7 (fun HT_ HW_ => ?_)
                 generalize w60.drew = w61 at BK169 HB hx170_0 hx170_1 hx170_2 hx170_3 hx170_4 hx170_5 hHeld ⊢
                 refine pv 0 (some 18) (bm 47 1) HT_ ?_
                 refine pv 1 (some 19) (bm 47 3) HT_ ?_
                 refine pv 2 (some 20) (bm 47 7) HT_ ?_
                 refine pv 3 (some 21) (bm 47 15) HT_ ?_
                 refine pv 4 (some 22) (bm 47 31) HT_ ?_
                 refine pv 5 (some 23) (bm 47 63) HT_ ?_
                 refine pv 6 (some 24) (bm 47 127) HT_ ?_
                 refine tk 7 (some 25) (bm 47 255) HT_ HW_ hHeld ?_
                 refine tk 8 (some 26) (bm 47 511) HT_ HW_ hHeld ?_
                 refine ck 9 (some 27) (bm 47 1023) HT_ (fun K hK => ?_)
                 refine goes_ Try.func46 (by kernel_rfl) rfl #[.agg #[.int .i64 ((rd_T44 l0 (ji6)).f0),.int .i64 ((rd_T44 l0 (ji6)).f1),.int .i64 ((rd_T44 l0 (ji6)).f2),.int .i64 ((rd_T44 l0 (ji6)).f3),.int .i64 ((rd_T44 l0 (ji6)).f4),.int .i64 ((rd_T44 l0 (ji6)).f5)],.agg #[.int .i64 ((rd_T44 l0 x3_1).f0),.int .i64 ((rd_T44 l0 x3_1).f1),.int .i64 ((rd_T44 l0 x3_1).f2),.int .i64 ((rd_T44 l0 x3_1).f3),.int .i64 ((rd_T44 l0 x3_1).f4),.int .i64 ((rd_T44 l0 x3_1).f5)]] (by rfl) rfl rfl (by (try simp only [List.map_toArray,List.map_cons,List.map_nil]); first | done | (simp only [hji6]; rfl) | rfl | (simp only [List.length_drop,List.length_take]; rfl)) ?_
                 with_reducible refine (hinterlandref09_less.calls ((rd_T44 l0 (ji6)).f0) ((rd_T44 l0 (ji6)).f1) ((rd_T44 l0 (ji6)).f2) ((rd_T44 l0 (ji6)).f3) ((rd_T44 l0 (ji6)).f4) ((rd_T44 l0 (ji6)).f5) ((rd_T44 l0 x3_1).f0) ((rd_T44 l0 x3_1).f1) ((rd_T44 l0 x3_1).f2) ((rd_T44 l0 x3_1).f3) ((rd_T44 l0 x3_1).f4) ((rd_T44 l0 x3_1).f5) true _ A9.out).mono ?_
                 rintro e w62 ⟨rfl,hb⟩
                 refine ⟨_,rfl,?_⟩
                 have n0_:=Aside0.mk (blk_below (g:=gb169) (o:=.cells #[.int .i64 ((rd_T44 l0 x3_1).f0),.int .i64 ((rd_T44 l0 x3_1).f1),.int .i64 ((rd_T44 l0 x3_1).f2),.int .i64 ((rd_T44 l0 x3_1).f3),.int .i64 ((rd_T44 l0 x3_1).f4),.int .i64 ((rd_T44 l0 x3_1).f5)] 44 (0,0)) (by (with_reducible repeat (first | refine blk_drewN ?_ _ | refine blk_drew ?_ | refine blk_alloc ?_ _)); exact BK169.out) hb)
                 have n1_:=Aside0.mk (below_step (by repeat (first | (with_reducible first | exact HB.out | apply below_alloc | apply pw_below_drewN | apply below_drew1 | refine below_set ?_ GE169.out) | exact HB.out)) hb)
                 clear BK169
                 clear HB
                 have BK169:=n0_
                 have HB:=n1_
                 clear n0_ n1_
                 (try clear hb)
                 (try clear hb2)
                 (try clear hk)
                 (try clear hi)
                 refine hK.out _ _ ⟨(blk_cell BK169.out 0).trans rfl,(blk_cell BK169.out 1).trans rfl,(blk_cell BK169.out 2).trans rfl,(blk_cell BK169.out 3).trans rfl,(blk_cell BK169.out 4).trans rfl,(blk_cell BK169.out 5).trans rfl,((HB.out.cell (World.block_lt_of_cell? w _ hw170_0)).trans hw170_0),((HB.out.cell (World.block_lt_of_cell? w _ hw170_1)).trans hw170_1),((HB.out.cell (World.block_lt_of_cell? w _ hw170_2)).trans hw170_2),((HB.out.cell (World.block_lt_of_cell? w _ hw170_3)).trans hw170_3),((HB.out.cell (World.block_lt_of_cell? w _ hw170_4)).trans hw170_4),((HB.out.cell (World.block_lt_of_cell? w _ hw170_5)).trans hw170_5)⟩ (fun hHeld => ?_)
                 clear hK K
                 refine nm ?_
                 refine pv 10 (some 28) (bm 47 2047) HT_ ?_
                 refine pv 11 (some 29) (bm 47 4095) HT_ ?_
                 refine pv 12 (some 30) (bm 47 8191) HT_ ?_
                 refine pv 13 (some 31) (bm 47 16383) HT_ ?_
                 refine tk 14 (some 32) (bm 47 32767) HT_ HW_ hHeld ?_
                 refine pv 15 (some 33) (bm 47 65535) HT_ ?_
                 refine pv 16 (some 34) (bm 47 131071) HT_ ?_
                 refine pv 17 (some 35) (bm 47 262143) HT_ ?_
                 refine pv 18 (some 36) (bm 47 524287) HT_ ?_
                 refine tk 19 (some 37) (bm 47 1048575) HT_ HW_ hHeld ?_
                 refine pv 20 (some 38) (bm 47 2097151) HT_ ?_
                 refine pv 21 (some 39) (bm 47 4194303) HT_ ?_
                 refine pv 22 (some 40) (bm 47 8388607) HT_ ?_
                 refine pv 23 (some 41) (bm 47 16777215) HT_ ?_
                 refine tk 24 (some 42) (bm 47 33554431) HT_ HW_ hHeld ?_
                 refine ck 25 (some 43) (bm 47 67108863) HT_ (fun K hK => ?_)
                 refine gs Try.func42 #[.int .i64 ((rd_T44 l0 x3_1).f3),.int .i64 255] ?_
                 with_reducible refine (hinterlandref09_Out.calls ((rd_T44 l0 x3_1).f3) 255 false _ A23.out).mono ?_
                 rintro e w' ⟨rfl,⟨nd,rfl⟩⟩
                 refine ⟨_,rfl,?_⟩
                 refine hK.out _ _ ⟨(blk_cell BK169.out 0).trans rfl,(blk_cell BK169.out 1).trans rfl,(blk_cell BK169.out 2).trans rfl,(blk_cell BK169.out 3).trans rfl,(blk_cell BK169.out 4).trans rfl,(blk_cell BK169.out 5).trans rfl,((HB.out.cell (World.block_lt_of_cell? w _ hw170_0)).trans hw170_0),((HB.out.cell (World.block_lt_of_cell? w _ hw170_1)).trans hw170_1),((HB.out.cell (World.block_lt_of_cell? w _ hw170_2)).trans hw170_2),((HB.out.cell (World.block_lt_of_cell? w _ hw170_3)).trans hw170_3),((HB.out.cell (World.block_lt_of_cell? w _ hw170_4)).trans hw170_4),((HB.out.cell (World.block_lt_of_cell? w _ hw170_5)).trans hw170_5)⟩ (fun hHeld => ?_)
                 clear hK K
                 refine nm ?_
                 refine pv 26 (some 44) (bm 47 134217727) HT_ ?_
                 refine pv 27 (some 45) (bm 47 268435455) HT_ ?_
                 refine pv 28 (some 46) (bm 47 536870911) HT_ ?_
                 refine tk 29 (some 47) (bm 47 1073741823) HT_ HW_ hHeld ?_
                 refine ck 30 (some 48) (bm 47 2147483647) HT_ (fun K hK => ?_)
                 refine gs Try.func42 #[.int .i64 ((rd_T44 l0 x3_1).f5),.int .i64 1000000000000] ?_
                 with_reducible refine (hinterlandref09_Out.calls ((rd_T44 l0 x3_1).f5) 1000000000000 false _ A30.out).mono ?_
                 rintro e w' ⟨rfl,⟨nd,rfl⟩⟩
                 refine ⟨_,rfl,?_⟩
                 refine hK.out _ _ ⟨(blk_cell BK169.out 0).trans rfl,(blk_cell BK169.out 1).trans rfl,(blk_cell BK169.out 2).trans rfl,(blk_cell BK169.out 3).trans rfl,(blk_cell BK169.out 4).trans rfl,(blk_cell BK169.out 5).trans rfl,((HB.out.cell (World.block_lt_of_cell? w _ hw170_0)).trans hw170_0),((HB.out.cell (World.block_lt_of_cell? w _ hw170_1)).trans hw170_1),((HB.out.cell (World.block_lt_of_cell? w _ hw170_2)).trans hw170_2),((HB.out.cell (World.block_lt_of_cell? w _ hw170_3)).trans hw170_3),((HB.out.cell (World.block_lt_of_cell? w _ hw170_4)).trans hw170_4),((HB.out.cell (World.block_lt_of_cell? w _ hw170_5)).trans hw170_5)⟩ (fun hHeld => ?_)
                 clear hK K
                 refine nm ?_
                 refine pv 31 (some 49) (bm 47 4294967295) HT_ ?_
                 refine pv 32 (some 50) (bm 47 8589934591) HT_ ?_
                 refine pv 33 (some 51) (bm 47 17179869183) HT_ ?_
                 refine tk 34 (some 52) (bm 47 34359738367) HT_ HW_ hHeld ?_
                 refine ck 35 (some 53) (bm 47 68719476735) HT_ (fun K hK => ?_)
                 refine gs Try.func42 #[.int .i64 ((rd_T44 l0 x3_1).f0),.int .i64 1000000] ?_
                 with_reducible refine (hinterlandref09_Out.calls ((rd_T44 l0 x3_1).f0) 1000000 false _ A37.out).mono ?_
                 rintro e w' ⟨rfl,⟨nd,rfl⟩⟩
                 refine ⟨_,rfl,?_⟩
                 refine hK.out _ _ ⟨(blk_cell BK169.out 0).trans rfl,(blk_cell BK169.out 1).trans rfl,(blk_cell BK169.out 2).trans rfl,(blk_cell BK169.out 3).trans rfl,(blk_cell BK169.out 4).trans rfl,(blk_cell BK169.out 5).trans rfl,((HB.out.cell (World.block_lt_of_cell? w _ hw170_0)).trans hw170_0),((HB.out.cell (World.block_lt_of_cell? w _ hw170_1)).trans hw170_1),((HB.out.cell (World.block_lt_of_cell? w _ hw170_2)).trans hw170_2),((HB.out.cell (World.block_lt_of_cell? w _ hw170_3)).trans hw170_3),((HB.out.cell (World.block_lt_of_cell? w _ hw170_4)).trans hw170_4),((HB.out.cell (World.block_lt_of_cell? w _ hw170_5)).trans hw170_5)⟩ (fun hHeld => ?_)
                 clear hK K
                 refine nm ?_
                 refine pv 36 (some 54) (bm 47 137438953471) HT_ ?_
                 refine pv 37 (some 55) (bm 47 274877906943) HT_ ?_
                 refine pv 38 (some 56) (bm 47 549755813887) HT_ ?_
                 refine tk 39 (some 57) (bm 47 1099511627775) HT_ HW_ hHeld ?_
                 refine ck 40 (some 58) (bm 47 2199023255551) HT_ (fun K hK => ?_)
                 refine gs Try.func42 #[.int .i64 ((rd_T44 l0 x3_1).f1),.int .i64 1000000] ?_
                 with_reducible refine (hinterlandref09_Out.calls ((rd_T44 l0 x3_1).f1) 1000000 false _ A44.out).mono ?_
                 rintro e w' ⟨rfl,⟨nd,rfl⟩⟩
                 refine ⟨_,rfl,?_⟩
                 refine hK.out _ _ ⟨(blk_cell BK169.out 0).trans rfl,(blk_cell BK169.out 1).trans rfl,(blk_cell BK169.out 2).trans rfl,(blk_cell BK169.out 3).trans rfl,(blk_cell BK169.out 4).trans rfl,(blk_cell BK169.out 5).trans rfl,((HB.out.cell (World.block_lt_of_cell? w _ hw170_0)).trans hw170_0),((HB.out.cell (World.block_lt_of_cell? w _ hw170_1)).trans hw170_1),((HB.out.cell (World.block_lt_of_cell? w _ hw170_2)).trans hw170_2),((HB.out.cell (World.block_lt_of_cell? w _ hw170_3)).trans hw170_3),((HB.out.cell (World.block_lt_of_cell? w _ hw170_4)).trans hw170_4),((HB.out.cell (World.block_lt_of_cell? w _ hw170_5)).trans hw170_5)⟩ (fun hHeld => ?_)
                 clear hK K
                 refine nm ?_
                 refine pv 41 (some 59) (bm 47 4398046511103) HT_ ?_
                 refine pv 42 (some 60) (bm 47 8796093022207) HT_ ?_
                 refine pv 43 (some 61) (bm 47 17592186044415) HT_ ?_
                 refine tk 44 (some 62) (bm 47 35184372088831) HT_ HW_ hHeld ?_
                 refine ck 45 (some 63) (bm 47 70368744177663) HT_ (fun K hK => ?_)
                 refine gs Try.func42 #[.int .i64 ((rd_T44 l0 x3_1).f2),.int .i64 1000000] ?_
                 with_reducible refine (hinterlandref09_Out.calls ((rd_T44 l0 x3_1).f2) 1000000 false _ A51.out).mono ?_
                 rintro e w' ⟨rfl,⟨nd,rfl⟩⟩
                 refine ⟨_,rfl,?_⟩
                 refine hK.out _ _ ⟨(blk_cell BK169.out 0).trans rfl,(blk_cell BK169.out 1).trans rfl,(blk_cell BK169.out 2).trans rfl,(blk_cell BK169.out 3).trans rfl,(blk_cell BK169.out 4).trans rfl,(blk_cell BK169.out 5).trans rfl,((HB.out.cell (World.block_lt_of_cell? w _ hw170_0)).trans hw170_0),((HB.out.cell (World.block_lt_of_cell? w _ hw170_1)).trans hw170_1),((HB.out.cell (World.block_lt_of_cell? w _ hw170_2)).trans hw170_2),((HB.out.cell (World.block_lt_of_cell? w _ hw170_3)).trans hw170_3),((HB.out.cell (World.block_lt_of_cell? w _ hw170_4)).trans hw170_4),((HB.out.cell (World.block_lt_of_cell? w _ hw170_5)).trans hw170_5)⟩ (fun hHeld => ?_)
                 clear hK K
                 refine nm ?_
                 refine pv 46 (some 64) (bm 47 140737488355327) HT_ ?_
                 refine done_ (done_of HT_.out (by kernel_rfl)) ?_
                 try go_wp2
                 go_roundg k1
                 case measure => have:=HK1.out; omega
                 case rel => exact ⟨(wrap64 (x3_1 + 1)),(by first | rfl | (simp; done) | (simp [*]; done)),H',⟨by have:=HK1.out; omega⟩,⟨by repeat (first | (with_reducible first | exact HB.out | apply below_alloc | apply pw_below_drewN | apply below_drew1 | refine below_set ?_ GE169.out) | exact HB.out)⟩⟩
         ·replace c10:=Bool.eq_false_iff.mpr c10
          subst c10
          have H1 : (some 1) = some r:=by rw [if_neg (show ¬ (false = true) by decide)] at H; exact H
          clear H
          have H:=H1
          clear H1
          obtain rfl:=Option.some.inj H
          have p168 : 0 ≤ (x3_1 : Int):=of_decide_eq_true (by first | (with_reducible assumption) | assumption)
          have q168 : x3_1 < (l0.length : Int):=of_decide_eq_true (by first | (with_reducible assumption) | assumption)
          obtain ⟨ad168,e168,hx168_0,hx168_1,hx168_2,hx168_3,hx168_4,hx168_5⟩:=at_T44 HR0.out x3_1 p168 q168
          cases e168
          replace hx168_0:=(HB.out.cell (World.block_lt_of_cell? w _ hx168_0)).trans hx168_0
          replace hx168_1:=(HB.out.cell (World.block_lt_of_cell? w _ hx168_1)).trans hx168_1
          replace hx168_2:=(HB.out.cell (World.block_lt_of_cell? w _ hx168_2)).trans hx168_2
          replace hx168_3:=(HB.out.cell (World.block_lt_of_cell? w _ hx168_3)).trans hx168_3
          replace hx168_4:=(HB.out.cell (World.block_lt_of_cell? w _ hx168_4)).trans hx168_4
          replace hx168_5:=(HB.out.cell (World.block_lt_of_cell? w _ hx168_5)).trans hx168_5
          replace p168:=eq_true p168
          replace q168:=eq_true q168
          try go_wp2_with (first | ((with_reducible refine gate_dst (N:=4) rfl ?_); refine box_event ?hg (N:=4) ?hd (cs:=#[.int .i64 0,.int .i64 0,.int .i64 0,.int .i64 0,.int .i64 0,.int .i64 0]) (t:=44) ?hr ?_; (case hd => rfl); (case hg => rfl); (case hr => first | (go_simp; done) | (go_simp; rfl)); intro gb169 hg w63 hbox hb; have n0_:=Aside0.mk (below_step (by repeat (first | (with_reducible first | exact HB.out | apply below_alloc | apply pw_below_drewN | apply below_drew1) | exact HB.out)) hb); have n1_:=Aside0.mk (hbox); have n2_:=Aside0.mk ((by rw [hg]; exact (below_size (by repeat (first | (with_reducible first | exact HB.out | apply below_alloc | apply pw_below_drewN | apply below_drew1) | exact HB.out))) : w.heap.size ≤ gb169)); have n3_:=Aside0.mk ((by rw [hg]; exact (below_size (by repeat (first | (with_reducible first | exact HB.out | apply below_alloc | apply pw_below_drewN | apply below_drew1) | exact HB.out))) : w.heap.size ≤ gb169)); clear HB; have HB:=n0_; have BK169:=n1_; have GW169:=n2_; have GE169:=n3_; clear n0_ n1_ n2_ n3_; clear hb hbox hg; have hcz64_0 : w63.cell? ⟨gb169,0,none⟩ = some (.int .i64 0):=(blk_cell BK169.out 0).trans rfl; have hcz64_1 : w63.cell? ⟨gb169,1,none⟩ = some (.int .i64 0):=(blk_cell BK169.out 1).trans rfl; have hcz64_2 : w63.cell? ⟨gb169,2,none⟩ = some (.int .i64 0):=(blk_cell BK169.out 2).trans rfl; have hcz64_3 : w63.cell? ⟨gb169,3,none⟩ = some (.int .i64 0):=(blk_cell BK169.out 3).trans rfl; have hcz64_4 : w63.cell? ⟨gb169,4,none⟩ = some (.int .i64 0):=(blk_cell BK169.out 4).trans rfl; have hcz64_5 : w63.cell? ⟨gb169,5,none⟩ = some (.int .i64 0):=(blk_cell BK169.out 5).trans rfl; have hfz64_0:=blk_frozen BK169.out 0; have hfz64_1:=blk_frozen BK169.out 1; have hfz64_2:=blk_frozen BK169.out 2; have hfz64_3:=blk_frozen BK169.out 3; have hfz64_4:=blk_frozen BK169.out 4; have hfz64_5:=blk_frozen BK169.out 5))
          have n0_ : Aside0 (((((((w63.setCell ⟨gb169,0,none⟩ (.int .i64 ((rd_T44 l0 x3_1).f0))).setCell ⟨gb169,1,none⟩ (.int .i64 ((rd_T44 l0 x3_1).f1))).setCell ⟨gb169,2,none⟩ (.int .i64 ((rd_T44 l0 x3_1).f2))).setCell ⟨gb169,3,none⟩ (.int .i64 ((rd_T44 l0 x3_1).f3))).setCell ⟨gb169,4,none⟩ (.int .i64 ((rd_T44 l0 x3_1).f4))).setCell ⟨gb169,5,none⟩ (.int .i64 ((rd_T44 l0 x3_1).f5))).heap[gb169]? = some (.cells #[.int .i64 ((rd_T44 l0 x3_1).f0),.int .i64 ((rd_T44 l0 x3_1).f1),.int .i64 ((rd_T44 l0 x3_1).f2),.int .i64 ((rd_T44 l0 x3_1).f3),.int .i64 ((rd_T44 l0 x3_1).f4),.int .i64 ((rd_T44 l0 x3_1).f5)] 44 (0,0))):=⟨by (with_reducible repeat (first | refine blk_drewN ?_ _ | refine blk_drew ?_ | refine blk_alloc ?_ _)); refine blk_put (cs:=#[.int .i64 ((rd_T44 l0 x3_1).f0),.int .i64 ((rd_T44 l0 x3_1).f1),.int .i64 ((rd_T44 l0 x3_1).f2),.int .i64 ((rd_T44 l0 x3_1).f3),.int .i64 ((rd_T44 l0 x3_1).f4),.int .i64 0]) ?_ 5 _ rfl; (with_reducible repeat (first | refine blk_drewN ?_ _ | refine blk_drew ?_ | refine blk_alloc ?_ _)); refine blk_put (cs:=#[.int .i64 ((rd_T44 l0 x3_1).f0),.int .i64 ((rd_T44 l0 x3_1).f1),.int .i64 ((rd_T44 l0 x3_1).f2),.int .i64 ((rd_T44 l0 x3_1).f3),.int .i64 0,.int .i64 0]) ?_ 4 _ rfl; (with_reducible repeat (first | refine blk_drewN ?_ _ | refine blk_drew ?_ | refine blk_alloc ?_ _)); refine blk_put (cs:=#[.int .i64 ((rd_T44 l0 x3_1).f0),.int .i64 ((rd_T44 l0 x3_1).f1),.int .i64 ((rd_T44 l0 x3_1).f2),.int .i64 0,.int .i64 0,.int .i64 0]) ?_ 3 _ rfl; (with_reducible repeat (first | refine blk_drewN ?_ _ | refine blk_drew ?_ | refine blk_alloc ?_ _)); refine blk_put (cs:=#[.int .i64 ((rd_T44 l0 x3_1).f0),.int .i64 ((rd_T44 l0 x3_1).f1),.int .i64 0,.int .i64 0,.int .i64 0,.int .i64 0]) ?_ 2 _ rfl; (with_reducible repeat (first | refine blk_drewN ?_ _ | refine blk_drew ?_ | refine blk_alloc ?_ _)); refine blk_put (cs:=#[.int .i64 ((rd_T44 l0 x3_1).f0),.int .i64 0,.int .i64 0,.int .i64 0,.int .i64 0,.int .i64 0]) ?_ 1 _ rfl; (with_reducible repeat (first | refine blk_drewN ?_ _ | refine blk_drew ?_ | refine blk_alloc ?_ _)); refine blk_put (cs:=#[.int .i64 0,.int .i64 0,.int .i64 0,.int .i64 0,.int .i64 0,.int .i64 0]) ?_ 0 _ rfl; (with_reducible repeat (first | refine blk_drewN ?_ _ | refine blk_drew ?_ | refine blk_alloc ?_ _)); exact BK169.out⟩
          have n1_ : Aside0 (Below w.heap.size w ((((((w63.setCell ⟨gb169,0,none⟩ (.int .i64 ((rd_T44 l0 x3_1).f0))).setCell ⟨gb169,1,none⟩ (.int .i64 ((rd_T44 l0 x3_1).f1))).setCell ⟨gb169,2,none⟩ (.int .i64 ((rd_T44 l0 x3_1).f2))).setCell ⟨gb169,3,none⟩ (.int .i64 ((rd_T44 l0 x3_1).f3))).setCell ⟨gb169,4,none⟩ (.int .i64 ((rd_T44 l0 x3_1).f4))).setCell ⟨gb169,5,none⟩ (.int .i64 ((rd_T44 l0 x3_1).f5)))):=⟨by repeat (first | (with_reducible first | exact HB.out | apply below_alloc | apply pw_below_drewN | apply below_drew1 | refine below_set ?_ GE169.out) | exact HB.out)⟩
          (try clear BK169)
          (try clear HB)
          generalize ((((((w63.setCell ⟨gb169,0,none⟩ (.int .i64 ((rd_T44 l0 x3_1).f0))).setCell ⟨gb169,1,none⟩ (.int .i64 ((rd_T44 l0 x3_1).f1))).setCell ⟨gb169,2,none⟩ (.int .i64 ((rd_T44 l0 x3_1).f2))).setCell ⟨gb169,3,none⟩ (.int .i64 ((rd_T44 l0 x3_1).f3))).setCell ⟨gb169,4,none⟩ (.int .i64 ((rd_T44 l0 x3_1).f4))).setCell ⟨gb169,5,none⟩ (.int .i64 ((rd_T44 l0 x3_1).f5))) = w65 at n0_ n1_ ⊢
          have BK169:=n0_
          have HB:=n1_
          clear n0_ n1_
          have n0_:=Aside0.mk (blk_drew BK169.out)
          have n1_:=Aside0.mk (below_drew1 HB.out)
          clear BK169
          clear HB
          have BK169:=n0_
          have HB:=n1_
          clear n0_ n1_
          have p170 : 0 ≤ ((ji6) : Int):=of_decide_eq_true (by first | (with_reducible assumption) | assumption)
          have q170 : (ji6) < (l0.length : Int):=of_decide_eq_true (by first | (with_reducible assumption) | assumption)
          obtain ⟨ad170,e170,hx170_0,hx170_1,hx170_2,hx170_3,hx170_4,hx170_5⟩:=at_T44 HR0.out (ji6) p170 q170
          have hw170_5:=hx170_5
          have hw170_4:=hx170_4
          have hw170_3:=hx170_3
          have hw170_2:=hx170_2
          have hw170_1:=hx170_1
          have hw170_0:=hx170_0
          obtain rfl : ad168 = ad170:=(by injection e170)
          replace hx170_0:=(HB.out.cell (World.block_lt_of_cell? w _ hx170_0)).trans hx170_0
          replace hx170_1:=(HB.out.cell (World.block_lt_of_cell? w _ hx170_1)).trans hx170_1
          replace hx170_2:=(HB.out.cell (World.block_lt_of_cell? w _ hx170_2)).trans hx170_2
          replace hx170_3:=(HB.out.cell (World.block_lt_of_cell? w _ hx170_3)).trans hx170_3
          replace hx170_4:=(HB.out.cell (World.block_lt_of_cell? w _ hx170_4)).trans hx170_4
          replace hx170_5:=(HB.out.cell (World.block_lt_of_cell? w _ hx170_5)).trans hx170_5
          replace p170:=eq_true p170
          replace q170:=eq_true q170
          refine start_ (n:=47) (S:=fun w' => w'.cell? ⟨gb169,0,none⟩ = some (.int .i64 ((rd_T44 l0 x3_1).f0)) ∧ w'.cell? ⟨gb169,1,none⟩ = some (.int .i64 ((rd_T44 l0 x3_1).f1)) ∧ w'.cell? ⟨gb169,2,none⟩ = some (.int .i64 ((rd_T44 l0 x3_1).f2)) ∧ w'.cell? ⟨gb169,3,none⟩ = some (.int .i64 ((rd_T44 l0 x3_1).f3)) ∧ w'.cell? ⟨gb169,4,none⟩ = some (.int .i64 ((rd_T44 l0 x3_1).f4)) ∧ w'.cell? ⟨gb169,5,none⟩ = some (.int .i64 ((rd_T44 l0 x3_1).f5)) ∧ w'.cell? (ad168.add (((ji6)).toNat * 6)) = some (.int .i64 ((rd_T44 l0 (ji6)).f0)) ∧ w'.cell? ⟨(ad168.add (((ji6)).toNat * 6)).block,(ad168.add (((ji6)).toNat * 6)).off + 1,none⟩ = some (.int .i64 ((rd_T44 l0 (ji6)).f1)) ∧ w'.cell? ⟨(ad168.add (((ji6)).toNat * 6)).block,(ad168.add (((ji6)).toNat * 6)).off + 2,none⟩ = some (.int .i64 ((rd_T44 l0 (ji6)).f2)) ∧ w'.cell? ⟨(ad168.add (((ji6)).toNat * 6)).block,(ad168.add (((ji6)).toNat * 6)).off + 3,none⟩ = some (.int .i64 ((rd_T44 l0 (ji6)).f3)) ∧ w'.cell? ⟨(ad168.add (((ji6)).toNat * 6)).block,(ad168.add (((ji6)).toNat * 6)).off + 4,none⟩ = some (.int .i64 ((rd_T44 l0 (ji6)).f4)) ∧ w'.cell? ⟨(ad168.add (((ji6)).toNat * 6)).block,(ad168.add (((ji6)).toNat * 6)).off + 5,none⟩ = some (.int .i64 ((rd_T44 l0 (ji6)).f5))) (ds:=[]) (bm 47 0) (by kernel_rfl) rfl (by kernel_rfl) ⟨(blk_cell BK169.out 0).trans rfl,(blk_cell BK169.out 1).trans rfl,(blk_cell BK169.out 2).trans rfl,(blk_cell BK169.out 3).trans rfl,(blk_cell BK169.out 4).trans rfl,(blk_cell BK169.out 5).trans rfl,((HB.out.cell (World.block_lt_of_cell? w _ hw170_0)).trans hw170_0),((HB.out.cell (World.block_lt_of_cell? w _ hw170_1)).trans hw170_1),((HB.out.cell (World.block_lt_of_cell? w _ hw170_2)).trans hw170_2),((HB.out.cell (World.block_lt_of_cell? w _ hw170_3)).trans hw170_3),((HB.out.cell (World.block_lt_of_cell? w _ hw170_4)).trans hw170_4),((HB.out.cell (World.block_lt_of_cell? w _ hw170_5)).trans hw170_5)⟩ (fun hHeld => ?_); refine with_tabW hinterlandref09_Validate.tab7 hinterlandref09_Validate.bits7 (fun HT_ HW_ => ?_)
          generalize w65.drew = w66 at BK169 HB hx170_0 hx170_1 hx170_2 hx170_3 hx170_4 hx170_5 hHeld ⊢
          refine pv 0 (some 18) (bm 47 1) HT_ ?_
          refine pv 1 (some 19) (bm 47 3) HT_ ?_
          refine pv 2 (some 20) (bm 47 7) HT_ ?_
          refine pv 3 (some 21) (bm 47 15) HT_ ?_
          refine pv 4 (some 22) (bm 47 31) HT_ ?_
          refine pv 5 (some 23) (bm 47 63) HT_ ?_
          refine pv 6 (some 24) (bm 47 127) HT_ ?_
          refine tk 7 (some 25) (bm 47 255) HT_ HW_ hHeld ?_
          refine tk 8 (some 26) (bm 47 511) HT_ HW_ hHeld ?_
          refine ck 9 (some 27) (bm 47 1023) HT_ (fun K hK => ?_)
          refine goes_ Try.func46 (by kernel_rfl) rfl #[.agg #[.int .i64 ((rd_T44 l0 (ji6)).f0),.int .i64 ((rd_T44 l0 (ji6)).f1),.int .i64 ((rd_T44 l0 (ji6)).f2),.int .i64 ((rd_T44 l0 (ji6)).f3),.int .i64 ((rd_T44 l0 (ji6)).f4),.int .i64 ((rd_T44 l0 (ji6)).f5)],.agg #[.int .i64 ((rd_T44 l0 x3_1).f0),.int .i64 ((rd_T44 l0 x3_1).f1),.int .i64 ((rd_T44 l0 x3_1).f2),.int .i64 ((rd_T44 l0 x3_1).f3),.int .i64 ((rd_T44 l0 x3_1).f4),.int .i64 ((rd_T44 l0 x3_1).f5)]] (by rfl) rfl rfl (by (try simp only [List.map_toArray,List.map_cons,List.map_nil]); first | done | (simp only [hji6]; rfl) | rfl | (simp only [List.length_drop,List.length_take]; rfl)) ?_
          with_reducible refine (hinterlandref09_less.calls ((rd_T44 l0 (ji6)).f0) ((rd_T44 l0 (ji6)).f1) ((rd_T44 l0 (ji6)).f2) ((rd_T44 l0 (ji6)).f3) ((rd_T44 l0 (ji6)).f4) ((rd_T44 l0 (ji6)).f5) ((rd_T44 l0 x3_1).f0) ((rd_T44 l0 x3_1).f1) ((rd_T44 l0 x3_1).f2) ((rd_T44 l0 x3_1).f3) ((rd_T44 l0 x3_1).f4) ((rd_T44 l0 x3_1).f5) false _ A9.out).mono ?_
          rintro e w67 ⟨rfl,hb⟩
          refine ⟨_,rfl,?_⟩
          have n0_:=Aside0.mk (blk_below (g:=gb169) (o:=.cells #[.int .i64 ((rd_T44 l0 x3_1).f0),.int .i64 ((rd_T44 l0 x3_1).f1),.int .i64 ((rd_T44 l0 x3_1).f2),.int .i64 ((rd_T44 l0 x3_1).f3),.int .i64 ((rd_T44 l0 x3_1).f4),.int .i64 ((rd_T44 l0 x3_1).f5)] 44 (0,0)) (by (with_reducible repeat (first | refine blk_drewN ?_ _ | refine blk_drew ?_ | refine blk_alloc ?_ _)); exact BK169.out) hb)
          have n1_:=Aside0.mk (below_step (by repeat (first | (with_reducible first | exact HB.out | apply below_alloc | apply pw_below_drewN | apply below_drew1 | refine below_set ?_ GE169.out) | exact HB.out)) hb)
          clear BK169
          clear HB
          have BK169:=n0_
          have HB:=n1_
          clear n0_ n1_
          (try clear hb)
          (try clear hb2)
          (try clear hk)
          (try clear hi)
          refine hK.out _ _ ⟨(blk_cell BK169.out 0).trans rfl,(blk_cell BK169.out 1).trans rfl,(blk_cell BK169.out 2).trans rfl,(blk_cell BK169.out 3).trans rfl,(blk_cell BK169.out 4).trans rfl,(blk_cell BK169.out 5).trans rfl,((HB.out.cell (World.block_lt_of_cell? w _ hw170_0)).trans hw170_0),((HB.out.cell (World.block_lt_of_cell? w _ hw170_1)).trans hw170_1),((HB.out.cell (World.block_lt_of_cell? w _ hw170_2)).trans hw170_2),((HB.out.cell (World.block_lt_of_cell? w _ hw170_3)).trans hw170_3),((HB.out.cell (World.block_lt_of_cell? w _ hw170_4)).trans hw170_4),((HB.out.cell (World.block_lt_of_cell? w _ hw170_5)).trans hw170_5)⟩ (fun hHeld => ?_)
          clear hK K
          refine nm ?_
          refine pv 10 (some 28) (bm 47 2047) HT_ ?_
          refine pv 11 (some 29) (bm 47 4095) HT_ ?_
          refine pv 12 (some 30) (bm 47 8191) HT_ ?_
          refine pn 13 (some 31) (bm 47 16383) HT_ ?_
          refine pn 14 (some 32) (bm 47 32767) HT_ ?_
          refine pn 15 (some 33) (bm 47 65535) HT_ ?_
          refine pv 16 (some 34) (bm 47 131071) HT_ ?_
          refine pv 17 (some 35) (bm 47 262143) HT_ ?_
          refine pn 18 (some 36) (bm 47 524287) HT_ ?_
          refine pn 19 (some 37) (bm 47 1048575) HT_ ?_
          refine pn 20 (some 38) (bm 47 2097151) HT_ ?_
          refine pv 21 (some 39) (bm 47 4194303) HT_ ?_
          refine pv 22 (some 40) (bm 47 8388607) HT_ ?_
          refine pn 23 (some 41) (bm 47 16777215) HT_ ?_
          refine pn 24 (some 42) (bm 47 33554431) HT_ ?_
          refine pn 25 (some 43) (bm 47 67108863) HT_ ?_
          refine pv 26 (some 44) (bm 47 134217727) HT_ ?_
          refine pv 27 (some 45) (bm 47 268435455) HT_ ?_
          refine pn 28 (some 46) (bm 47 536870911) HT_ ?_
          refine pn 29 (some 47) (bm 47 1073741823) HT_ ?_
          refine pn 30 (some 48) (bm 47 2147483647) HT_ ?_
          refine pv 31 (some 49) (bm 47 4294967295) HT_ ?_
          refine pv 32 (some 50) (bm 47 8589934591) HT_ ?_
          refine pn 33 (some 51) (bm 47 17179869183) HT_ ?_
          refine pn 34 (some 52) (bm 47 34359738367) HT_ ?_
          refine pn 35 (some 53) (bm 47 68719476735) HT_ ?_
          refine pv 36 (some 54) (bm 47 137438953471) HT_ ?_
          refine pv 37 (some 55) (bm 47 274877906943) HT_ ?_
          refine pn 38 (some 56) (bm 47 549755813887) HT_ ?_
          refine pn 39 (some 57) (bm 47 1099511627775) HT_ ?_
          refine pn 40 (some 58) (bm 47 2199023255551) HT_ ?_
          refine pv 41 (some 59) (bm 47 4398046511103) HT_ ?_
          refine pv 42 (some 60) (bm 47 8796093022207) HT_ ?_
          refine pn 43 (some 61) (bm 47 17592186044415) HT_ ?_
          refine pn 44 (some 62) (bm 47 35184372088831) HT_ ?_
          refine pn 45 (some 63) (bm 47 70368744177663) HT_ ?_
          refine pv 46 (some 64) (bm 47 140737488355327) HT_ ?_
          refine done_ (done_of HT_.out (by kernel_rfl)) ?_
          try go_wp2
          go_ret
          exact ⟨by first | rfl | (simp [errW_none,errW_some] <;> rfl) | (simp only [← hji6]; first | rfl | (simp [errW_none,errW_some] <;> rfl)) | (simp [*,errW_none,errW_some] <;> rfl),by repeat (first | (with_reducible first | exact HB.out | apply below_alloc | apply pw_below_drewN | apply below_drew1 | refine below_set ?_ GE169.out) | exact HB.out)⟩
        ·rw [if_neg c8] at H
         exact absurd H (by simp)
       ·rw [if_neg c7] at H
        exact absurd H (by simp)
      ·rw [if_neg c5] at H
       have c5b0 : decide (0 < x3_1) = false:=decide_eq_false c5
       clear c5
       by_cases c68 : ((rd_T44 l0 x3_1).f4) < 1
       ·rw [if_pos c68] at H
        have c68b0 : decide (((rd_T44 l0 x3_1).f4) < 1) = true:=decide_eq_true c68
        clear c68
        obtain rfl:=Option.some.inj H
        have p168 : 0 ≤ (x3_1 : Int):=of_decide_eq_true (by first | (with_reducible assumption) | assumption)
        have q168 : x3_1 < (l0.length : Int):=of_decide_eq_true (by first | (with_reducible assumption) | assumption)
        obtain ⟨ad168,e168,hx168_0,hx168_1,hx168_2,hx168_3,hx168_4,hx168_5⟩:=at_T44 HR0.out x3_1 p168 q168
        cases e168
        replace hx168_0:=(HB.out.cell (World.block_lt_of_cell? w _ hx168_0)).trans hx168_0
        replace hx168_1:=(HB.out.cell (World.block_lt_of_cell? w _ hx168_1)).trans hx168_1
        replace hx168_2:=(HB.out.cell (World.block_lt_of_cell? w _ hx168_2)).trans hx168_2
        replace hx168_3:=(HB.out.cell (World.block_lt_of_cell? w _ hx168_3)).trans hx168_3
        replace hx168_4:=(HB.out.cell (World.block_lt_of_cell? w _ hx168_4)).trans hx168_4
        replace hx168_5:=(HB.out.cell (World.block_lt_of_cell? w _ hx168_5)).trans hx168_5
        replace p168:=eq_true p168
        replace q168:=eq_true q168
        try go_wp2_with (first | ((with_reducible refine gate_dst (N:=4) rfl ?_); refine box_event ?hg (N:=4) ?hd (cs:=#[.int .i64 0,.int .i64 0,.int .i64 0,.int .i64 0,.int .i64 0,.int .i64 0]) (t:=44) ?hr ?_; (case hd => rfl); (case hg => rfl); (case hr => first | (go_simp; done) | (go_simp; rfl)); intro gb169 hg w69 hbox hb; have n0_:=Aside0.mk (below_step (by repeat (first | (with_reducible first | exact HB.out | apply below_alloc | apply pw_below_drewN | apply below_drew1) | exact HB.out)) hb); have n1_:=Aside0.mk (hbox); have n2_:=Aside0.mk ((by rw [hg]; exact (below_size (by repeat (first | (with_reducible first | exact HB.out | apply below_alloc | apply pw_below_drewN | apply below_drew1) | exact HB.out))) : w.heap.size ≤ gb169)); have n3_:=Aside0.mk ((by rw [hg]; exact (below_size (by repeat (first | (with_reducible first | exact HB.out | apply below_alloc | apply pw_below_drewN | apply below_drew1) | exact HB.out))) : w.heap.size ≤ gb169)); clear HB; have HB:=n0_; have BK169:=n1_; have GW169:=n2_; have GE169:=n3_; clear n0_ n1_ n2_ n3_; clear hb hbox hg; have hcz70_0 : w69.cell? ⟨gb169,0,none⟩ = some (.int .i64 0):=(blk_cell BK169.out 0).trans rfl; have hcz70_1 : w69.cell? ⟨gb169,1,none⟩ = some (.int .i64 0):=(blk_cell BK169.out 1).trans rfl; have hcz70_2 : w69.cell? ⟨gb169,2,none⟩ = some (.int .i64 0):=(blk_cell BK169.out 2).trans rfl; have hcz70_3 : w69.cell? ⟨gb169,3,none⟩ = some (.int .i64 0):=(blk_cell BK169.out 3).trans rfl; have hcz70_4 : w69.cell? ⟨gb169,4,none⟩ = some (.int .i64 0):=(blk_cell BK169.out 4).trans rfl; have hcz70_5 : w69.cell? ⟨gb169,5,none⟩ = some (.int .i64 0):=(blk_cell BK169.out 5).trans rfl; have hfz70_0:=blk_frozen BK169.out 0; have hfz70_1:=blk_frozen BK169.out 1; have hfz70_2:=blk_frozen BK169.out 2; have hfz70_3:=blk_frozen BK169.out 3; have hfz70_4:=blk_frozen BK169.out 4; have hfz70_5:=blk_frozen BK169.out 5))
        have n0_ : Aside0 (((((((w69.setCell ⟨gb169,0,none⟩ (.int .i64 ((rd_T44 l0 x3_1).f0))).setCell ⟨gb169,1,none⟩ (.int .i64 ((rd_T44 l0 x3_1).f1))).setCell ⟨gb169,2,none⟩ (.int .i64 ((rd_T44 l0 x3_1).f2))).setCell ⟨gb169,3,none⟩ (.int .i64 ((rd_T44 l0 x3_1).f3))).setCell ⟨gb169,4,none⟩ (.int .i64 ((rd_T44 l0 x3_1).f4))).setCell ⟨gb169,5,none⟩ (.int .i64 ((rd_T44 l0 x3_1).f5))).heap[gb169]? = some (.cells #[.int .i64 ((rd_T44 l0 x3_1).f0),.int .i64 ((rd_T44 l0 x3_1).f1),.int .i64 ((rd_T44 l0 x3_1).f2),.int .i64 ((rd_T44 l0 x3_1).f3),.int .i64 ((rd_T44 l0 x3_1).f4),.int .i64 ((rd_T44 l0 x3_1).f5)] 44 (0,0))):=⟨by (with_reducible repeat (first | refine blk_drewN ?_ _ | refine blk_drew ?_ | refine blk_alloc ?_ _)); refine blk_put (cs:=#[.int .i64 ((rd_T44 l0 x3_1).f0),.int .i64 ((rd_T44 l0 x3_1).f1),.int .i64 ((rd_T44 l0 x3_1).f2),.int .i64 ((rd_T44 l0 x3_1).f3),.int .i64 ((rd_T44 l0 x3_1).f4),.int .i64 0]) ?_ 5 _ rfl; (with_reducible repeat (first | refine blk_drewN ?_ _ | refine blk_drew ?_ | refine blk_alloc ?_ _)); refine blk_put (cs:=#[.int .i64 ((rd_T44 l0 x3_1).f0),.int .i64 ((rd_T44 l0 x3_1).f1),.int .i64 ((rd_T44 l0 x3_1).f2),.int .i64 ((rd_T44 l0 x3_1).f3),.int .i64 0,.int .i64 0]) ?_ 4 _ rfl; (with_reducible repeat (first | refine blk_drewN ?_ _ | refine blk_drew ?_ | refine blk_alloc ?_ _)); refine blk_put (cs:=#[.int .i64 ((rd_T44 l0 x3_1).f0),.int .i64 ((rd_T44 l0 x3_1).f1),.int .i64 ((rd_T44 l0 x3_1).f2),.int .i64 0,.int .i64 0,.int .i64 0]) ?_ 3 _ rfl; (with_reducible repeat (first | refine blk_drewN ?_ _ | refine blk_drew ?_ | refine blk_alloc ?_ _)); refine blk_put (cs:=#[.int .i64 ((rd_T44 l0 x3_1).f0),.int .i64 ((rd_T44 l0 x3_1).f1),.int .i64 0,.int .i64 0,.int .i64 0,.int .i64 0]) ?_ 2 _ rfl; (with_reducible repeat (first | refine blk_drewN ?_ _ | refine blk_drew ?_ | refine blk_alloc ?_ _)); refine blk_put (cs:=#[.int .i64 ((rd_T44 l0 x3_1).f0),.int .i64 0,.int .i64 0,.int .i64 0,.int .i64 0,.int .i64 0]) ?_ 1 _ rfl; (with_reducible repeat (first | refine blk_drewN ?_ _ | refine blk_drew ?_ | refine blk_alloc ?_ _)); refine blk_put (cs:=#[.int .i64 0,.int .i64 0,.int .i64 0,.int .i64 0,.int .i64 0,.int .i64 0]) ?_ 0 _ rfl; (with_reducible repeat (first | refine blk_drewN ?_ _ | refine blk_drew ?_ | refine blk_alloc ?_ _)); exact BK169.out⟩
        have n1_ : Aside0 (Below w.heap.size w ((((((w69.setCell ⟨gb169,0,none⟩ (.int .i64 ((rd_T44 l0 x3_1).f0))).setCell ⟨gb169,1,none⟩ (.int .i64 ((rd_T44 l0 x3_1).f1))).setCell ⟨gb169,2,none⟩ (.int .i64 ((rd_T44 l0 x3_1).f2))).setCell ⟨gb169,3,none⟩ (.int .i64 ((rd_T44 l0 x3_1).f3))).setCell ⟨gb169,4,none⟩ (.int .i64 ((rd_T44 l0 x3_1).f4))).setCell ⟨gb169,5,none⟩ (.int .i64 ((rd_T44 l0 x3_1).f5)))):=⟨by repeat (first | (with_reducible first | exact HB.out | apply below_alloc | apply pw_below_drewN | apply below_drew1 | refine below_set ?_ GE169.out) | exact HB.out)⟩
        (try clear BK169)
        (try clear HB)
        generalize ((((((w69.setCell ⟨gb169,0,none⟩ (.int .i64 ((rd_T44 l0 x3_1).f0))).setCell ⟨gb169,1,none⟩ (.int .i64 ((rd_T44 l0 x3_1).f1))).setCell ⟨gb169,2,none⟩ (.int .i64 ((rd_T44 l0 x3_1).f2))).setCell ⟨gb169,3,none⟩ (.int .i64 ((rd_T44 l0 x3_1).f3))).setCell ⟨gb169,4,none⟩ (.int .i64 ((rd_T44 l0 x3_1).f4))).setCell ⟨gb169,5,none⟩ (.int .i64 ((rd_T44 l0 x3_1).f5))) = w71 at n0_ n1_ ⊢
        have BK169:=n0_
        have HB:=n1_
        clear n0_ n1_
        have n0_:=Aside0.mk (blk_drew BK169.out)
        have n1_:=Aside0.mk (below_drew1 HB.out)
        clear BK169
        clear HB
        have BK169:=n0_
        have HB:=n1_
        clear n0_ n1_
        refine start_ (n:=47) (S:=fun w' => w'.cell? ⟨gb169,0,none⟩ = some (.int .i64 ((rd_T44 l0 x3_1).f0)) ∧ w'.cell? ⟨gb169,1,none⟩ = some (.int .i64 ((rd_T44 l0 x3_1).f1)) ∧ w'.cell? ⟨gb169,2,none⟩ = some (.int .i64 ((rd_T44 l0 x3_1).f2)) ∧ w'.cell? ⟨gb169,3,none⟩ = some (.int .i64 ((rd_T44 l0 x3_1).f3)) ∧ w'.cell? ⟨gb169,4,none⟩ = some (.int .i64 ((rd_T44 l0 x3_1).f4)) ∧ w'.cell? ⟨gb169,5,none⟩ = some (.int .i64 ((rd_T44 l0 x3_1).f5))) (ds:=[]) (bm 47 0) (by kernel_rfl) rfl (by kernel_rfl) ⟨(blk_cell BK169.out 0).trans rfl,(blk_cell BK169.out 1).trans rfl,(blk_cell BK169.out 2).trans rfl,(blk_cell BK169.out 3).trans rfl,(blk_cell BK169.out 4).trans rfl,(blk_cell BK169.out 5).trans rfl⟩ (fun hHeld => ?_); refine with_tabW hinterlandref09_Validate.tab7 hinterlandref09_Validate.bits7 (fun HT_ HW_ => ?_)
        generalize w71.drew = w72 at BK169 HB hHeld ⊢
        refine pv 0 (some 18) (bm 47 1) HT_ ?_
        refine pv 1 (some 19) (bm 47 3) HT_ ?_
        refine pv 2 (some 20) (bm 47 7) HT_ ?_
        refine pn 3 (some 21) (bm 47 15) HT_ ?_
        refine pn 4 (some 22) (bm 47 31) HT_ ?_
        refine pn 5 (some 23) (bm 47 63) HT_ ?_
        refine pn 6 (some 24) (bm 47 127) HT_ ?_
        refine pn 7 (some 25) (bm 47 255) HT_ ?_
        refine pn 8 (some 26) (bm 47 511) HT_ ?_
        refine pn 9 (some 27) (bm 47 1023) HT_ ?_
        refine pn 10 (some 28) (bm 47 2047) HT_ ?_
        refine pv 11 (some 29) (bm 47 4095) HT_ ?_
        refine pv 12 (some 30) (bm 47 8191) HT_ ?_
        refine pv 13 (some 31) (bm 47 16383) HT_ ?_
        refine tk 14 (some 32) (bm 47 32767) HT_ HW_ hHeld ?_
        refine pv 15 (some 33) (bm 47 65535) HT_ ?_
        refine pv 16 (some 34) (bm 47 131071) HT_ ?_
        refine pv 17 (some 35) (bm 47 262143) HT_ ?_
        refine pn 18 (some 36) (bm 47 524287) HT_ ?_
        refine pn 19 (some 37) (bm 47 1048575) HT_ ?_
        refine pn 20 (some 38) (bm 47 2097151) HT_ ?_
        refine pv 21 (some 39) (bm 47 4194303) HT_ ?_
        refine pv 22 (some 40) (bm 47 8388607) HT_ ?_
        refine pn 23 (some 41) (bm 47 16777215) HT_ ?_
        refine pn 24 (some 42) (bm 47 33554431) HT_ ?_
        refine pn 25 (some 43) (bm 47 67108863) HT_ ?_
        refine pv 26 (some 44) (bm 47 134217727) HT_ ?_
        refine pv 27 (some 45) (bm 47 268435455) HT_ ?_
        refine pn 28 (some 46) (bm 47 536870911) HT_ ?_
        refine pn 29 (some 47) (bm 47 1073741823) HT_ ?_
        refine pn 30 (some 48) (bm 47 2147483647) HT_ ?_
        refine pv 31 (some 49) (bm 47 4294967295) HT_ ?_
        refine pv 32 (some 50) (bm 47 8589934591) HT_ ?_
        refine pn 33 (some 51) (bm 47 17179869183) HT_ ?_
        refine pn 34 (some 52) (bm 47 34359738367) HT_ ?_
        refine pn 35 (some 53) (bm 47 68719476735) HT_ ?_
        refine pv 36 (some 54) (bm 47 137438953471) HT_ ?_
        refine pv 37 (some 55) (bm 47 274877906943) HT_ ?_
        refine pn 38 (some 56) (bm 47 549755813887) HT_ ?_
        refine pn 39 (some 57) (bm 47 1099511627775) HT_ ?_
        refine pn 40 (some 58) (bm 47 2199023255551) HT_ ?_
        refine pv 41 (some 59) (bm 47 4398046511103) HT_ ?_
        refine pv 42 (some 60) (bm 47 8796093022207) HT_ ?_
        refine pn 43 (some 61) (bm 47 17592186044415) HT_ ?_
        refine pn 44 (some 62) (bm 47 35184372088831) HT_ ?_
        refine pn 45 (some 63) (bm 47 70368744177663) HT_ ?_
        refine pv 46 (some 64) (bm 47 140737488355327) HT_ ?_
        refine done_ (done_of HT_.out (by kernel_rfl)) ?_
        try go_wp2
        go_ret
        exact ⟨by first | rfl | (simp [errW_none,errW_some] <;> rfl) | (simp [*,errW_none,errW_some] <;> rfl),by repeat (first | (with_reducible first | exact HB.out | apply below_alloc | apply pw_below_drewN | apply below_drew1 | refine below_set ?_ GE169.out) | exact HB.out)⟩
       ·rw [if_neg c68] at H
        have c68b0 : decide (((rd_T44 l0 x3_1).f4) < 1) = false:=decide_eq_false c68
        clear c68
        by_cases c73 : ((rd_T44 l0 x3_1).f4) > 1000000
        ·rw [if_pos c73] at H
         have c73b0 : decide (1000000 < ((rd_T44 l0 x3_1).f4)) = true:=decide_eq_true c73
         clear c73
         obtain rfl:=Option.some.inj H
         have p168 : 0 ≤ (x3_1 : Int):=of_decide_eq_true (by first | (with_reducible assumption) | assumption)
         have q168 : x3_1 < (l0.length : Int):=of_decide_eq_true (by first | (with_reducible assumption) | assumption)
         obtain ⟨ad168,e168,hx168_0,hx168_1,hx168_2,hx168_3,hx168_4,hx168_5⟩:=at_T44 HR0.out x3_1 p168 q168
         cases e168
         replace hx168_0:=(HB.out.cell (World.block_lt_of_cell? w _ hx168_0)).trans hx168_0
         replace hx168_1:=(HB.out.cell (World.block_lt_of_cell? w _ hx168_1)).trans hx168_1
         replace hx168_2:=(HB.out.cell (World.block_lt_of_cell? w _ hx168_2)).trans hx168_2
         replace hx168_3:=(HB.out.cell (World.block_lt_of_cell? w _ hx168_3)).trans hx168_3
         replace hx168_4:=(HB.out.cell (World.block_lt_of_cell? w _ hx168_4)).trans hx168_4
         replace hx168_5:=(HB.out.cell (World.block_lt_of_cell? w _ hx168_5)).trans hx168_5
         replace p168:=eq_true p168
         replace q168:=eq_true q168
         try go_wp2_with (first | ((with_reducible refine gate_dst (N:=4) rfl ?_); refine box_event ?hg (N:=4) ?hd (cs:=#[.int .i64 0,.int .i64 0,.int .i64 0,.int .i64 0,.int .i64 0,.int .i64 0]) (t:=44) ?hr ?_; (case hd => rfl); (case hg => rfl); (case hr => first | (go_simp; done) | (go_simp; rfl)); intro gb169 hg w74 hbox hb; have n0_:=Aside0.mk (below_step (by repeat (first | (with_reducible first | exact HB.out | apply below_alloc | apply pw_below_drewN | apply below_drew1) | exact HB.out)) hb); have n1_:=Aside0.mk (hbox); have n2_:=Aside0.mk ((by rw [hg]; exact (below_size (by repeat (first | (with_reducible first | exact HB.out | apply below_alloc | apply pw_below_drewN | apply below_drew1) | exact HB.out))) : w.heap.size ≤ gb169)); have n3_:=Aside0.mk ((by rw [hg]; exact (below_size (by repeat (first | (with_reducible first | exact HB.out | apply below_alloc | apply pw_below_drewN | apply below_drew1) | exact HB.out))) : w.heap.size ≤ gb169)); clear HB; have HB:=n0_; have BK169:=n1_; have GW169:=n2_; have GE169:=n3_; clear n0_ n1_ n2_ n3_; clear hb hbox hg; have hcz75_0 : w74.cell? ⟨gb169,0,none⟩ = some (.int .i64 0):=(blk_cell BK169.out 0).trans rfl; have hcz75_1 : w74.cell? ⟨gb169,1,none⟩ = some (.int .i64 0):=(blk_cell BK169.out 1).trans rfl; have hcz75_2 : w74.cell? ⟨gb169,2,none⟩ = some (.int .i64 0):=(blk_cell BK169.out 2).trans rfl; have hcz75_3 : w74.cell? ⟨gb169,3,none⟩ = some (.int .i64 0):=(blk_cell BK169.out 3).trans rfl; have hcz75_4 : w74.cell? ⟨gb169,4,none⟩ = some (.int .i64 0):=(blk_cell BK169.out 4).trans rfl; have hcz75_5 : w74.cell? ⟨gb169,5,none⟩ = some (.int .i64 0):=(blk_cell BK169.out 5).trans rfl; have hfz75_0:=blk_frozen BK169.out 0; have hfz75_1:=blk_frozen BK169.out 1; have hfz75_2:=blk_frozen BK169.out 2; have hfz75_3:=blk_frozen BK169.out 3; have hfz75_4:=blk_frozen BK169.out 4; have hfz75_5:=blk_frozen BK169.out 5))
         have n0_ : Aside0 (((((((w74.setCell ⟨gb169,0,none⟩ (.int .i64 ((rd_T44 l0 x3_1).f0))).setCell ⟨gb169,1,none⟩ (.int .i64 ((rd_T44 l0 x3_1).f1))).setCell ⟨gb169,2,none⟩ (.int .i64 ((rd_T44 l0 x3_1).f2))).setCell ⟨gb169,3,none⟩ (.int .i64 ((rd_T44 l0 x3_1).f3))).setCell ⟨gb169,4,none⟩ (.int .i64 ((rd_T44 l0 x3_1).f4))).setCell ⟨gb169,5,none⟩ (.int .i64 ((rd_T44 l0 x3_1).f5))).heap[gb169]? = some (.cells #[.int .i64 ((rd_T44 l0 x3_1).f0),.int .i64 ((rd_T44 l0 x3_1).f1),.int .i64 ((rd_T44 l0 x3_1).f2),.int .i64 ((rd_T44 l0 x3_1).f3),.int .i64 ((rd_T44 l0 x3_1).f4),.int .i64 ((rd_T44 l0 x3_1).f5)] 44 (0,0))):=⟨by (with_reducible repeat (first | refine blk_drewN ?_ _ | refine blk_drew ?_ | refine blk_alloc ?_ _)); refine blk_put (cs:=#[.int .i64 ((rd_T44 l0 x3_1).f0),.int .i64 ((rd_T44 l0 x3_1).f1),.int .i64 ((rd_T44 l0 x3_1).f2),.int .i64 ((rd_T44 l0 x3_1).f3),.int .i64 ((rd_T44 l0 x3_1).f4),.int .i64 0]) ?_ 5 _ rfl; (with_reducible repeat (first | refine blk_drewN ?_ _ | refine blk_drew ?_ | refine blk_alloc ?_ _)); refine blk_put (cs:=#[.int .i64 ((rd_T44 l0 x3_1).f0),.int .i64 ((rd_T44 l0 x3_1).f1),.int .i64 ((rd_T44 l0 x3_1).f2),.int .i64 ((rd_T44 l0 x3_1).f3),.int .i64 0,.int .i64 0]) ?_ 4 _ rfl; (with_reducible repeat (first | refine blk_drewN ?_ _ | refine blk_drew ?_ | refine blk_alloc ?_ _)); refine blk_put (cs:=#[.int .i64 ((rd_T44 l0 x3_1).f0),.int .i64 ((rd_T44 l0 x3_1).f1),.int .i64 ((rd_T44 l0 x3_1).f2),.int .i64 0,.int .i64 0,.int .i64 0]) ?_ 3 _ rfl; (with_reducible repeat (first | refine blk_drewN ?_ _ | refine blk_drew ?_ | refine blk_alloc ?_ _)); refine blk_put (cs:=#[.int .i64 ((rd_T44 l0 x3_1).f0),.int .i64 ((rd_T44 l0 x3_1).f1),.int .i64 0,.int .i64 0,.int .i64 0,.int .i64 0]) ?_ 2 _ rfl; (with_reducible repeat (first | refine blk_drewN ?_ _ | refine blk_drew ?_ | refine blk_alloc ?_ _)); refine blk_put (cs:=#[.int .i64 ((rd_T44 l0 x3_1).f0),.int .i64 0,.int .i64 0,.int .i64 0,.int .i64 0,.int .i64 0]) ?_ 1 _ rfl; (with_reducible repeat (first | refine blk_drewN ?_ _ | refine blk_drew ?_ | refine blk_alloc ?_ _)); refine blk_put (cs:=#[.int .i64 0,.int .i64 0,.int .i64 0,.int .i64 0,.int .i64 0,.int .i64 0]) ?_ 0 _ rfl; (with_reducible repeat (first | refine blk_drewN ?_ _ | refine blk_drew ?_ | refine blk_alloc ?_ _)); exact BK169.out⟩
         have n1_ : Aside0 (Below w.heap.size w ((((((w74.setCell ⟨gb169,0,none⟩ (.int .i64 ((rd_T44 l0 x3_1).f0))).setCell ⟨gb169,1,none⟩ (.int .i64 ((rd_T44 l0 x3_1).f1))).setCell ⟨gb169,2,none⟩ (.int .i64 ((rd_T44 l0 x3_1).f2))).setCell ⟨gb169,3,none⟩ (.int .i64 ((rd_T44 l0 x3_1).f3))).setCell ⟨gb169,4,none⟩ (.int .i64 ((rd_T44 l0 x3_1).f4))).setCell ⟨gb169,5,none⟩ (.int .i64 ((rd_T44 l0 x3_1).f5)))):=⟨by repeat (first | (with_reducible first | exact HB.out | apply below_alloc | apply pw_below_drewN | apply below_drew1 | refine below_set ?_ GE169.out) | exact HB.out)⟩
         (try clear BK169)
         (try clear HB)
         generalize ((((((w74.setCell ⟨gb169,0,none⟩ (.int .i64 ((rd_T44 l0 x3_1).f0))).setCell ⟨gb169,1,none⟩ (.int .i64 ((rd_T44 l0 x3_1).f1))).setCell ⟨gb169,2,none⟩ (.int .i64 ((rd_T44 l0 x3_1).f2))).setCell ⟨gb169,3,none⟩ (.int .i64 ((rd_T44 l0 x3_1).f3))).setCell ⟨gb169,4,none⟩ (.int .i64 ((rd_T44 l0 x3_1).f4))).setCell ⟨gb169,5,none⟩ (.int .i64 ((rd_T44 l0 x3_1).f5))) = w76 at n0_ n1_ ⊢
         have BK169:=n0_
         have HB:=n1_
         clear n0_ n1_
         have n0_:=Aside0.mk (blk_drew BK169.out)
         have n1_:=Aside0.mk (below_drew1 HB.out)
         clear BK169
         clear HB
         have BK169:=n0_
         have HB:=n1_
         clear n0_ n1_
         refine start_ (n:=47) (S:=fun w' => w'.cell? ⟨gb169,0,none⟩ = some (.int .i64 ((rd_T44 l0 x3_1).f0)) ∧ w'.cell? ⟨gb169,1,none⟩ = some (.int .i64 ((rd_T44 l0 x3_1).f1)) ∧ w'.cell? ⟨gb169,2,none⟩ = some (.int .i64 ((rd_T44 l0 x3_1).f2)) ∧ w'.cell? ⟨gb169,3,none⟩ = some (.int .i64 ((rd_T44 l0 x3_1).f3)) ∧ w'.cell? ⟨gb169,4,none⟩ = some (.int .i64 ((rd_T44 l0 x3_1).f4)) ∧ w'.cell? ⟨gb169,5,none⟩ = some (.int .i64 ((rd_T44 l0 x3_1).f5))) (ds:=[]) (bm 47 0) (by kernel_rfl) rfl (by kernel_rfl) ⟨(blk_cell BK169.out 0).trans rfl,(blk_cell BK169.out 1).trans rfl,(blk_cell BK169.out 2).trans rfl,(blk_cell BK169.out 3).trans rfl,(blk_cell BK169.out 4).trans rfl,(blk_cell BK169.out 5).trans rfl⟩ (fun hHeld => ?_); refine with_tabW hinterlandref09_Validate.tab7 hinterlandref09_Validate.bits7 (fun HT_ HW_ => ?_)
         generalize w76.drew = w77 at BK169 HB hHeld ⊢
         refine pv 0 (some 18) (bm 47 1) HT_ ?_
         refine pv 1 (some 19) (bm 47 3) HT_ ?_
         refine pv 2 (some 20) (bm 47 7) HT_ ?_
         refine pn 3 (some 21) (bm 47 15) HT_ ?_
         refine pn 4 (some 22) (bm 47 31) HT_ ?_
         refine pn 5 (some 23) (bm 47 63) HT_ ?_
         refine pn 6 (some 24) (bm 47 127) HT_ ?_
         refine pn 7 (some 25) (bm 47 255) HT_ ?_
         refine pn 8 (some 26) (bm 47 511) HT_ ?_
         refine pn 9 (some 27) (bm 47 1023) HT_ ?_
         refine pn 10 (some 28) (bm 47 2047) HT_ ?_
         refine pv 11 (some 29) (bm 47 4095) HT_ ?_
         refine pv 12 (some 30) (bm 47 8191) HT_ ?_
         refine pv 13 (some 31) (bm 47 16383) HT_ ?_
         refine tk 14 (some 32) (bm 47 32767) HT_ HW_ hHeld ?_
         refine pv 15 (some 33) (bm 47 65535) HT_ ?_
         refine pv 16 (some 34) (bm 47 131071) HT_ ?_
         refine pv 17 (some 35) (bm 47 262143) HT_ ?_
         refine pv 18 (some 36) (bm 47 524287) HT_ ?_
         refine tk 19 (some 37) (bm 47 1048575) HT_ HW_ hHeld ?_
         refine pv 20 (some 38) (bm 47 2097151) HT_ ?_
         refine pv 21 (some 39) (bm 47 4194303) HT_ ?_
         refine pv 22 (some 40) (bm 47 8388607) HT_ ?_
         refine pn 23 (some 41) (bm 47 16777215) HT_ ?_
         refine pn 24 (some 42) (bm 47 33554431) HT_ ?_
         refine pn 25 (some 43) (bm 47 67108863) HT_ ?_
         refine pv 26 (some 44) (bm 47 134217727) HT_ ?_
         refine pv 27 (some 45) (bm 47 268435455) HT_ ?_
         refine pn 28 (some 46) (bm 47 536870911) HT_ ?_
         refine pn 29 (some 47) (bm 47 1073741823) HT_ ?_
         refine pn 30 (some 48) (bm 47 2147483647) HT_ ?_
         refine pv 31 (some 49) (bm 47 4294967295) HT_ ?_
         refine pv 32 (some 50) (bm 47 8589934591) HT_ ?_
         refine pn 33 (some 51) (bm 47 17179869183) HT_ ?_
         refine pn 34 (some 52) (bm 47 34359738367) HT_ ?_
         refine pn 35 (some 53) (bm 47 68719476735) HT_ ?_
         refine pv 36 (some 54) (bm 47 137438953471) HT_ ?_
         refine pv 37 (some 55) (bm 47 274877906943) HT_ ?_
         refine pn 38 (some 56) (bm 47 549755813887) HT_ ?_
         refine pn 39 (some 57) (bm 47 1099511627775) HT_ ?_
         refine pn 40 (some 58) (bm 47 2199023255551) HT_ ?_
         refine pv 41 (some 59) (bm 47 4398046511103) HT_ ?_
         refine pv 42 (some 60) (bm 47 8796093022207) HT_ ?_
         refine pn 43 (some 61) (bm 47 17592186044415) HT_ ?_
         refine pn 44 (some 62) (bm 47 35184372088831) HT_ ?_
         refine pn 45 (some 63) (bm 47 70368744177663) HT_ ?_
         refine pv 46 (some 64) (bm 47 140737488355327) HT_ ?_
         refine done_ (done_of HT_.out (by kernel_rfl)) ?_
         try go_wp2
         go_ret
         exact ⟨by first | rfl | (simp [errW_none,errW_some] <;> rfl) | (simp [*,errW_none,errW_some] <;> rfl),by repeat (first | (with_reducible first | exact HB.out | apply below_alloc | apply pw_below_drewN | apply below_drew1 | refine below_set ?_ GE169.out) | exact HB.out)⟩
        ·rw [if_neg c73] at H
         have c73b0 : decide (1000000 < ((rd_T44 l0 x3_1).f4)) = false:=decide_eq_false c73
         clear c73
         replace H:=Option.bind_eq_some_iff.mp H
         obtain ⟨t177,A780,H⟩:=H
         replace H : (if t177 = true then (some 1) else ((hinterlandref09_Out.f ((rd_T44 l0 x3_1).f5) 1000000000000).bind fun t178 => (if t178 = true then (some 1) else ((hinterlandref09_Out.f ((rd_T44 l0 x3_1).f0) 1000000).bind fun t179 => (if t179 = true then (some 1) else ((hinterlandref09_Out.f ((rd_T44 l0 x3_1).f1) 1000000).bind fun t180 => (if t180 = true then (some 1) else ((hinterlandref09_Out.f ((rd_T44 l0 x3_1).f2) 1000000).bind fun t181 => (if t181 = true then (some 1) else (hinterlandref09_Validate.l0 k1 l0 (wrap64 (x3_1 + 1)))))))))))) = some r:=H
         have A78:=Aside0.mk A780
         clear A780
         by_cases c79 : t177 = true
         ·subst c79
          have H1 : (some 1) = some r:=by rw [if_pos rfl] at H; exact H
          clear H
          have H:=H1
          clear H1
          obtain rfl:=Option.some.inj H
          have p168 : 0 ≤ (x3_1 : Int):=of_decide_eq_true (by first | (with_reducible assumption) | assumption)
          have q168 : x3_1 < (l0.length : Int):=of_decide_eq_true (by first | (with_reducible assumption) | assumption)
          obtain ⟨ad168,e168,hx168_0,hx168_1,hx168_2,hx168_3,hx168_4,hx168_5⟩:=at_T44 HR0.out x3_1 p168 q168
          cases e168
          replace hx168_0:=(HB.out.cell (World.block_lt_of_cell? w _ hx168_0)).trans hx168_0
          replace hx168_1:=(HB.out.cell (World.block_lt_of_cell? w _ hx168_1)).trans hx168_1
          replace hx168_2:=(HB.out.cell (World.block_lt_of_cell? w _ hx168_2)).trans hx168_2
          replace hx168_3:=(HB.out.cell (World.block_lt_of_cell? w _ hx168_3)).trans hx168_3
          replace hx168_4:=(HB.out.cell (World.block_lt_of_cell? w _ hx168_4)).trans hx168_4
          replace hx168_5:=(HB.out.cell (World.block_lt_of_cell? w _ hx168_5)).trans hx168_5
          replace p168:=eq_true p168
          replace q168:=eq_true q168
          try go_wp2_with (first | ((with_reducible refine gate_dst (N:=4) rfl ?_); refine box_event ?hg (N:=4) ?hd (cs:=#[.int .i64 0,.int .i64 0,.int .i64 0,.int .i64 0,.int .i64 0,.int .i64 0]) (t:=44) ?hr ?_; (case hd => rfl); (case hg => rfl); (case hr => first | (go_simp; done) | (go_simp; rfl)); intro gb169 hg w80 hbox hb; have n0_:=Aside0.mk (below_step (by repeat (first | (with_reducible first | exact HB.out | apply below_alloc | apply pw_below_drewN | apply below_drew1) | exact HB.out)) hb); have n1_:=Aside0.mk (hbox); have n2_:=Aside0.mk ((by rw [hg]; exact (below_size (by repeat (first | (with_reducible first | exact HB.out | apply below_alloc | apply pw_below_drewN | apply below_drew1) | exact HB.out))) : w.heap.size ≤ gb169)); have n3_:=Aside0.mk ((by rw [hg]; exact (below_size (by repeat (first | (with_reducible first | exact HB.out | apply below_alloc | apply pw_below_drewN | apply below_drew1) | exact HB.out))) : w.heap.size ≤ gb169)); clear HB; have HB:=n0_; have BK169:=n1_; have GW169:=n2_; have GE169:=n3_; clear n0_ n1_ n2_ n3_; clear hb hbox hg; have hcz81_0 : w80.cell? ⟨gb169,0,none⟩ = some (.int .i64 0):=(blk_cell BK169.out 0).trans rfl; have hcz81_1 : w80.cell? ⟨gb169,1,none⟩ = some (.int .i64 0):=(blk_cell BK169.out 1).trans rfl; have hcz81_2 : w80.cell? ⟨gb169,2,none⟩ = some (.int .i64 0):=(blk_cell BK169.out 2).trans rfl; have hcz81_3 : w80.cell? ⟨gb169,3,none⟩ = some (.int .i64 0):=(blk_cell BK169.out 3).trans rfl; have hcz81_4 : w80.cell? ⟨gb169,4,none⟩ = some (.int .i64 0):=(blk_cell BK169.out 4).trans rfl; have hcz81_5 : w80.cell? ⟨gb169,5,none⟩ = some (.int .i64 0):=(blk_cell BK169.out 5).trans rfl; have hfz81_0:=blk_frozen BK169.out 0; have hfz81_1:=blk_frozen BK169.out 1; have hfz81_2:=blk_frozen BK169.out 2; have hfz81_3:=blk_frozen BK169.out 3; have hfz81_4:=blk_frozen BK169.out 4; have hfz81_5:=blk_frozen BK169.out 5))
          have n0_ : Aside0 (((((((w80.setCell ⟨gb169,0,none⟩ (.int .i64 ((rd_T44 l0 x3_1).f0))).setCell ⟨gb169,1,none⟩ (.int .i64 ((rd_T44 l0 x3_1).f1))).setCell ⟨gb169,2,none⟩ (.int .i64 ((rd_T44 l0 x3_1).f2))).setCell ⟨gb169,3,none⟩ (.int .i64 ((rd_T44 l0 x3_1).f3))).setCell ⟨gb169,4,none⟩ (.int .i64 ((rd_T44 l0 x3_1).f4))).setCell ⟨gb169,5,none⟩ (.int .i64 ((rd_T44 l0 x3_1).f5))).heap[gb169]? = some (.cells #[.int .i64 ((rd_T44 l0 x3_1).f0),.int .i64 ((rd_T44 l0 x3_1).f1),.int .i64 ((rd_T44 l0 x3_1).f2),.int .i64 ((rd_T44 l0 x3_1).f3),.int .i64 ((rd_T44 l0 x3_1).f4),.int .i64 ((rd_T44 l0 x3_1).f5)] 44 (0,0))):=⟨by (with_reducible repeat (first | refine blk_drewN ?_ _ | refine blk_drew ?_ | refine blk_alloc ?_ _)); refine blk_put (cs:=#[.int .i64 ((rd_T44 l0 x3_1).f0),.int .i64 ((rd_T44 l0 x3_1).f1),.int .i64 ((rd_T44 l0 x3_1).f2),.int .i64 ((rd_T44 l0 x3_1).f3),.int .i64 ((rd_T44 l0 x3_1).f4),.int .i64 0]) ?_ 5 _ rfl; (with_reducible repeat (first | refine blk_drewN ?_ _ | refine blk_drew ?_ | refine blk_alloc ?_ _)); refine blk_put (cs:=#[.int .i64 ((rd_T44 l0 x3_1).f0),.int .i64 ((rd_T44 l0 x3_1).f1),.int .i64 ((rd_T44 l0 x3_1).f2),.int .i64 ((rd_T44 l0 x3_1).f3),.int .i64 0,.int .i64 0]) ?_ 4 _ rfl; (with_reducible repeat (first | refine blk_drewN ?_ _ | refine blk_drew ?_ | refine blk_alloc ?_ _)); refine blk_put (cs:=#[.int .i64 ((rd_T44 l0 x3_1).f0),.int .i64 ((rd_T44 l0 x3_1).f1),.int .i64 ((rd_T44 l0 x3_1).f2),.int .i64 0,.int .i64 0,.int .i64 0]) ?_ 3 _ rfl; (with_reducible repeat (first | refine blk_drewN ?_ _ | refine blk_drew ?_ | refine blk_alloc ?_ _)); refine blk_put (cs:=#[.int .i64 ((rd_T44 l0 x3_1).f0),.int .i64 ((rd_T44 l0 x3_1).f1),.int .i64 0,.int .i64 0,.int .i64 0,.int .i64 0]) ?_ 2 _ rfl; (with_reducible repeat (first | refine blk_drewN ?_ _ | refine blk_drew ?_ | refine blk_alloc ?_ _)); refine blk_put (cs:=#[.int .i64 ((rd_T44 l0 x3_1).f0),.int .i64 0,.int .i64 0,.int .i64 0,.int .i64 0,.int .i64 0]) ?_ 1 _ rfl; (with_reducible repeat (first | refine blk_drewN ?_ _ | refine blk_drew ?_ | refine blk_alloc ?_ _)); refine blk_put (cs:=#[.int .i64 0,.int .i64 0,.int .i64 0,.int .i64 0,.int .i64 0,.int .i64 0]) ?_ 0 _ rfl; (with_reducible repeat (first | refine blk_drewN ?_ _ | refine blk_drew ?_ | refine blk_alloc ?_ _)); exact BK169.out⟩
          have n1_ : Aside0 (Below w.heap.size w ((((((w80.setCell ⟨gb169,0,none⟩ (.int .i64 ((rd_T44 l0 x3_1).f0))).setCell ⟨gb169,1,none⟩ (.int .i64 ((rd_T44 l0 x3_1).f1))).setCell ⟨gb169,2,none⟩ (.int .i64 ((rd_T44 l0 x3_1).f2))).setCell ⟨gb169,3,none⟩ (.int .i64 ((rd_T44 l0 x3_1).f3))).setCell ⟨gb169,4,none⟩ (.int .i64 ((rd_T44 l0 x3_1).f4))).setCell ⟨gb169,5,none⟩ (.int .i64 ((rd_T44 l0 x3_1).f5)))):=⟨by repeat (first | (with_reducible first | exact HB.out | apply below_alloc | apply pw_below_drewN | apply below_drew1 | refine below_set ?_ GE169.out) | exact HB.out)⟩
          (try clear BK169)
          (try clear HB)
          generalize ((((((w80.setCell ⟨gb169,0,none⟩ (.int .i64 ((rd_T44 l0 x3_1).f0))).setCell ⟨gb169,1,none⟩ (.int .i64 ((rd_T44 l0 x3_1).f1))).setCell ⟨gb169,2,none⟩ (.int .i64 ((rd_T44 l0 x3_1).f2))).setCell ⟨gb169,3,none⟩ (.int .i64 ((rd_T44 l0 x3_1).f3))).setCell ⟨gb169,4,none⟩ (.int .i64 ((rd_T44 l0 x3_1).f4))).setCell ⟨gb169,5,none⟩ (.int .i64 ((rd_T44 l0 x3_1).f5))) = w82 at n0_ n1_ ⊢
          have BK169:=n0_
          have HB:=n1_
          clear n0_ n1_
          have n0_:=Aside0.mk (blk_drew BK169.out)
          have n1_:=Aside0.mk (below_drew1 HB.out)
          clear BK169
          clear HB
          have BK169:=n0_
          have HB:=n1_
          clear n0_ n1_
          refine start_ (n:=47) (S:=fun w' => w'.cell? ⟨gb169,0,none⟩ = some (.int .i64 ((rd_T44 l0 x3_1).f0)) ∧ w'.cell? ⟨gb169,1,none⟩ = some (.int .i64 ((rd_T44 l0 x3_1).f1)) ∧ w'.cell? ⟨gb169,2,none⟩ = some (.int .i64 ((rd_T44 l0 x3_1).f2)) ∧ w'.cell? ⟨gb169,3,none⟩ = some (.int .i64 ((rd_T44 l0 x3_1).f3)) ∧ w'.cell? ⟨gb169,4,none⟩ = some (.int .i64 ((rd_T44 l0 x3_1).f4)) ∧ w'.cell? ⟨gb169,5,none⟩ = some (.int .i64 ((rd_T44 l0 x3_1).f5))) (ds:=[]) (bm 47 0) (by kernel_rfl) rfl (by kernel_rfl) ⟨(blk_cell BK169.out 0).trans rfl,(blk_cell BK169.out 1).trans rfl,(blk_cell BK169.out 2).trans rfl,(blk_cell BK169.out 3).trans rfl,(blk_cell BK169.out 4).trans rfl,(blk_cell BK169.out 5).trans rfl⟩ (fun hHeld => ?_); refine with_tabW hinterlandref09_Validate.tab7 hinterlandref09_Validate.bits7 (fun HT_ HW_ => ?_)
          generalize w82.drew = w83 at BK169 HB hHeld ⊢
          refine pv 0 (some 18) (bm 47 1) HT_ ?_
          refine pv 1 (some 19) (bm 47 3) HT_ ?_
          refine pv 2 (some 20) (bm 47 7) HT_ ?_
          refine pn 3 (some 21) (bm 47 15) HT_ ?_
          refine pn 4 (some 22) (bm 47 31) HT_ ?_
          refine pn 5 (some 23) (bm 47 63) HT_ ?_
          refine pn 6 (some 24) (bm 47 127) HT_ ?_
          refine pn 7 (some 25) (bm 47 255) HT_ ?_
          refine pn 8 (some 26) (bm 47 511) HT_ ?_
          refine pn 9 (some 27) (bm 47 1023) HT_ ?_
          refine pn 10 (some 28) (bm 47 2047) HT_ ?_
          refine pv 11 (some 29) (bm 47 4095) HT_ ?_
          refine pv 12 (some 30) (bm 47 8191) HT_ ?_
          refine pv 13 (some 31) (bm 47 16383) HT_ ?_
          refine tk 14 (some 32) (bm 47 32767) HT_ HW_ hHeld ?_
          refine pv 15 (some 33) (bm 47 65535) HT_ ?_
          refine pv 16 (some 34) (bm 47 131071) HT_ ?_
          refine pv 17 (some 35) (bm 47 262143) HT_ ?_
          refine pv 18 (some 36) (bm 47 524287) HT_ ?_
          refine tk 19 (some 37) (bm 47 1048575) HT_ HW_ hHeld ?_
          refine pv 20 (some 38) (bm 47 2097151) HT_ ?_
          refine pv 21 (some 39) (bm 47 4194303) HT_ ?_
          refine pv 22 (some 40) (bm 47 8388607) HT_ ?_
          refine pv 23 (some 41) (bm 47 16777215) HT_ ?_
          refine tk 24 (some 42) (bm 47 33554431) HT_ HW_ hHeld ?_
          refine ck 25 (some 43) (bm 47 67108863) HT_ (fun K hK => ?_)
          refine gs Try.func42 #[.int .i64 ((rd_T44 l0 x3_1).f3),.int .i64 255] ?_
          with_reducible refine (hinterlandref09_Out.calls ((rd_T44 l0 x3_1).f3) 255 true _ A78.out).mono ?_
          rintro e w' ⟨rfl,⟨nd,rfl⟩⟩
          refine ⟨_,rfl,?_⟩
          refine hK.out _ _ ⟨(blk_cell BK169.out 0).trans rfl,(blk_cell BK169.out 1).trans rfl,(blk_cell BK169.out 2).trans rfl,(blk_cell BK169.out 3).trans rfl,(blk_cell BK169.out 4).trans rfl,(blk_cell BK169.out 5).trans rfl⟩ (fun hHeld => ?_)
          clear hK K
          refine nm ?_
          refine pv 26 (some 44) (bm 47 134217727) HT_ ?_
          refine pv 27 (some 45) (bm 47 268435455) HT_ ?_
          refine pn 28 (some 46) (bm 47 536870911) HT_ ?_
          refine pn 29 (some 47) (bm 47 1073741823) HT_ ?_
          refine pn 30 (some 48) (bm 47 2147483647) HT_ ?_
          refine pv 31 (some 49) (bm 47 4294967295) HT_ ?_
          refine pv 32 (some 50) (bm 47 8589934591) HT_ ?_
          refine pn 33 (some 51) (bm 47 17179869183) HT_ ?_
          refine pn 34 (some 52) (bm 47 34359738367) HT_ ?_
          refine pn 35 (some 53) (bm 47 68719476735) HT_ ?_
          refine pv 36 (some 54) (bm 47 137438953471) HT_ ?_
          refine pv 37 (some 55) (bm 47 274877906943) HT_ ?_
          refine pn 38 (some 56) (bm 47 549755813887) HT_ ?_
          refine pn 39 (some 57) (bm 47 1099511627775) HT_ ?_
          refine pn 40 (some 58) (bm 47 2199023255551) HT_ ?_
          refine pv 41 (some 59) (bm 47 4398046511103) HT_ ?_
          refine pv 42 (some 60) (bm 47 8796093022207) HT_ ?_
          refine pn 43 (some 61) (bm 47 17592186044415) HT_ ?_
          refine pn 44 (some 62) (bm 47 35184372088831) HT_ ?_
          refine pn 45 (some 63) (bm 47 70368744177663) HT_ ?_
          refine pv 46 (some 64) (bm 47 140737488355327) HT_ ?_
          refine done_ (done_of HT_.out (by kernel_rfl)) ?_
          try go_wp2
          go_ret
          exact ⟨by first | rfl | (simp [errW_none,errW_some] <;> rfl) | (simp [*,errW_none,errW_some] <;> rfl),by repeat (first | (with_reducible first | exact HB.out | apply below_alloc | apply pw_below_drewN | apply below_drew1 | refine below_set ?_ GE169.out) | exact HB.out)⟩
         ·replace c79:=Bool.eq_false_iff.mpr c79
          subst c79
          have H1 : ((hinterlandref09_Out.f ((rd_T44 l0 x3_1).f5) 1000000000000).bind fun t178 => (if t178 = true then (some 1) else ((hinterlandref09_Out.f ((rd_T44 l0 x3_1).f0) 1000000).bind fun t179 => (if t179 = true then (some 1) else ((hinterlandref09_Out.f ((rd_T44 l0 x3_1).f1) 1000000).bind fun t180 => (if t180 = true then (some 1) else ((hinterlandref09_Out.f ((rd_T44 l0 x3_1).f2) 1000000).bind fun t181 => (if t181 = true then (some 1) else (hinterlandref09_Validate.l0 k1 l0 (wrap64 (x3_1 + 1))))))))))) = some r:=by rw [if_neg (show ¬ (false = true) by decide)] at H; exact H
          clear H
          have H:=H1
          clear H1
          replace H:=Option.bind_eq_some_iff.mp H
          obtain ⟨t178,A840,H⟩:=H
          replace H : (if t178 = true then (some 1) else ((hinterlandref09_Out.f ((rd_T44 l0 x3_1).f0) 1000000).bind fun t179 => (if t179 = true then (some 1) else ((hinterlandref09_Out.f ((rd_T44 l0 x3_1).f1) 1000000).bind fun t180 => (if t180 = true then (some 1) else ((hinterlandref09_Out.f ((rd_T44 l0 x3_1).f2) 1000000).bind fun t181 => (if t181 = true then (some 1) else (hinterlandref09_Validate.l0 k1 l0 (wrap64 (x3_1 + 1)))))))))) = some r:=H
          have A84:=Aside0.mk A840
          clear A840
          by_cases c85 : t178 = true
          ·subst c85
           have H1 : (some 1) = some r:=by rw [if_pos rfl] at H; exact H
           clear H
           have H:=H1
           clear H1
           obtain rfl:=Option.some.inj H
           have p168 : 0 ≤ (x3_1 : Int):=of_decide_eq_true (by first | (with_reducible assumption) | assumption)
           have q168 : x3_1 < (l0.length : Int):=of_decide_eq_true (by first | (with_reducible assumption) | assumption)
           obtain ⟨ad168,e168,hx168_0,hx168_1,hx168_2,hx168_3,hx168_4,hx168_5⟩:=at_T44 HR0.out x3_1 p168 q168
           cases e168
           replace hx168_0:=(HB.out.cell (World.block_lt_of_cell? w _ hx168_0)).trans hx168_0
           replace hx168_1:=(HB.out.cell (World.block_lt_of_cell? w _ hx168_1)).trans hx168_1
           replace hx168_2:=(HB.out.cell (World.block_lt_of_cell? w _ hx168_2)).trans hx168_2
           replace hx168_3:=(HB.out.cell (World.block_lt_of_cell? w _ hx168_3)).trans hx168_3
           replace hx168_4:=(HB.out.cell (World.block_lt_of_cell? w _ hx168_4)).trans hx168_4
           replace hx168_5:=(HB.out.cell (World.block_lt_of_cell? w _ hx168_5)).trans hx168_5
           replace p168:=eq_true p168
           replace q168:=eq_true q168
           try go_wp2_with (first | ((with_reducible refine gate_dst (N:=4) rfl ?_); refine box_event ?hg (N:=4) ?hd (cs:=#[.int .i64 0,.int .i64 0,.int .i64 0,.int .i64 0,.int .i64 0,.int .i64 0]) (t:=44) ?hr ?_; (case hd => rfl); (case hg => rfl); (case hr => first | (go_simp; done) | (go_simp; rfl)); intro gb169 hg w86 hbox hb; have n0_:=Aside0.mk (below_step (by repeat (first | (with_reducible first | exact HB.out | apply below_alloc | apply pw_below_drewN | apply below_drew1) | exact HB.out)) hb); have n1_:=Aside0.mk (hbox); have n2_:=Aside0.mk ((by rw [hg]; exact (below_size (by repeat (first | (with_reducible first | exact HB.out | apply below_alloc | apply pw_below_drewN | apply below_drew1) | exact HB.out))) : w.heap.size ≤ gb169)); have n3_:=Aside0.mk ((by rw [hg]; exact (below_size (by repeat (first | (with_reducible first | exact HB.out | apply below_alloc | apply pw_below_drewN | apply below_drew1) | exact HB.out))) : w.heap.size ≤ gb169)); clear HB; have HB:=n0_; have BK169:=n1_; have GW169:=n2_; have GE169:=n3_; clear n0_ n1_ n2_ n3_; clear hb hbox hg; have hcz87_0 : w86.cell? ⟨gb169,0,none⟩ = some (.int .i64 0):=(blk_cell BK169.out 0).trans rfl; have hcz87_1 : w86.cell? ⟨gb169,1,none⟩ = some (.int .i64 0):=(blk_cell BK169.out 1).trans rfl; have hcz87_2 : w86.cell? ⟨gb169,2,none⟩ = some (.int .i64 0):=(blk_cell BK169.out 2).trans rfl; have hcz87_3 : w86.cell? ⟨gb169,3,none⟩ = some (.int .i64 0):=(blk_cell BK169.out 3).trans rfl; have hcz87_4 : w86.cell? ⟨gb169,4,none⟩ = some (.int .i64 0):=(blk_cell BK169.out 4).trans rfl; have hcz87_5 : w86.cell? ⟨gb169,5,none⟩ = some (.int .i64 0):=(blk_cell BK169.out 5).trans rfl; have hfz87_0:=blk_frozen BK169.out 0; have hfz87_1:=blk_frozen BK169.out 1; have hfz87_2:=blk_frozen BK169.out 2; have hfz87_3:=blk_frozen BK169.out 3; have hfz87_4:=blk_frozen BK169.out 4; have hfz87_5:=blk_frozen BK169.out 5))
           have n0_ : Aside0 (((((((w86.setCell ⟨gb169,0,none⟩ (.int .i64 ((rd_T44 l0 x3_1).f0))).setCell ⟨gb169,1,none⟩ (.int .i64 ((rd_T44 l0 x3_1).f1))).setCell ⟨gb169,2,none⟩ (.int .i64 ((rd_T44 l0 x3_1).f2))).setCell ⟨gb169,3,none⟩ (.int .i64 ((rd_T44 l0 x3_1).f3))).setCell ⟨gb169,4,none⟩ (.int .i64 ((rd_T44 l0 x3_1).f4))).setCell ⟨gb169,5,none⟩ (.int .i64 ((rd_T44 l0 x3_1).f5))).heap[gb169]? = some (.cells #[.int .i64 ((rd_T44 l0 x3_1).f0),.int .i64 ((rd_T44 l0 x3_1).f1),.int .i64 ((rd_T44 l0 x3_1).f2),.int .i64 ((rd_T44 l0 x3_1).f3),.int .i64 ((rd_T44 l0 x3_1).f4),.int .i64 ((rd_T44 l0 x3_1).f5)] 44 (0,0))):=⟨by (with_reducible repeat (first | refine blk_drewN ?_ _ | refine blk_drew ?_ | refine blk_alloc ?_ _)); refine blk_put (cs:=#[.int .i64 ((rd_T44 l0 x3_1).f0),.int .i64 ((rd_T44 l0 x3_1).f1),.int .i64 ((rd_T44 l0 x3_1).f2),.int .i64 ((rd_T44 l0 x3_1).f3),.int .i64 ((rd_T44 l0 x3_1).f4),.int .i64 0]) ?_ 5 _ rfl; (with_reducible repeat (first | refine blk_drewN ?_ _ | refine blk_drew ?_ | refine blk_alloc ?_ _)); refine blk_put (cs:=#[.int .i64 ((rd_T44 l0 x3_1).f0),.int .i64 ((rd_T44 l0 x3_1).f1),.int .i64 ((rd_T44 l0 x3_1).f2),.int .i64 ((rd_T44 l0 x3_1).f3),.int .i64 0,.int .i64 0]) ?_ 4 _ rfl; (with_reducible repeat (first | refine blk_drewN ?_ _ | refine blk_drew ?_ | refine blk_alloc ?_ _)); refine blk_put (cs:=#[.int .i64 ((rd_T44 l0 x3_1).f0),.int .i64 ((rd_T44 l0 x3_1).f1),.int .i64 ((rd_T44 l0 x3_1).f2),.int .i64 0,.int .i64 0,.int .i64 0]) ?_ 3 _ rfl; (with_reducible repeat (first | refine blk_drewN ?_ _ | refine blk_drew ?_ | refine blk_alloc ?_ _)); refine blk_put (cs:=#[.int .i64 ((rd_T44 l0 x3_1).f0),.int .i64 ((rd_T44 l0 x3_1).f1),.int .i64 0,.int .i64 0,.int .i64 0,.int .i64 0]) ?_ 2 _ rfl; (with_reducible repeat (first | refine blk_drewN ?_ _ | refine blk_drew ?_ | refine blk_alloc ?_ _)); refine blk_put (cs:=#[.int .i64 ((rd_T44 l0 x3_1).f0),.int .i64 0,.int .i64 0,.int .i64 0,.int .i64 0,.int .i64 0]) ?_ 1 _ rfl; (with_reducible repeat (first | refine blk_drewN ?_ _ | refine blk_drew ?_ | refine blk_alloc ?_ _)); refine blk_put (cs:=#[.int .i64 0,.int .i64 0,.int .i64 0,.int .i64 0,.int .i64 0,.int .i64 0]) ?_ 0 _ rfl; (with_reducible repeat (first | refine blk_drewN ?_ _ | refine blk_drew ?_ | refine blk_alloc ?_ _)); exact BK169.out⟩
           have n1_ : Aside0 (Below w.heap.size w ((((((w86.setCell ⟨gb169,0,none⟩ (.int .i64 ((rd_T44 l0 x3_1).f0))).setCell ⟨gb169,1,none⟩ (.int .i64 ((rd_T44 l0 x3_1).f1))).setCell ⟨gb169,2,none⟩ (.int .i64 ((rd_T44 l0 x3_1).f2))).setCell ⟨gb169,3,none⟩ (.int .i64 ((rd_T44 l0 x3_1).f3))).setCell ⟨gb169,4,none⟩ (.int .i64 ((rd_T44 l0 x3_1).f4))).setCell ⟨gb169,5,none⟩ (.int .i64 ((rd_T44 l0 x3_1).f5)))):=⟨by repeat (first | (with_reducible first | exact HB.out | apply below_alloc | apply pw_below_drewN | apply below_drew1 | refine below_set ?_ GE169.out) | exact HB.out)⟩
           (try clear BK169)
           (try clear HB)
           generalize ((((((w86.setCell ⟨gb169,0,none⟩ (.int .i64 ((rd_T44 l0 x3_1).f0))).setCell ⟨gb169,1,none⟩ (.int .i64 ((rd_T44 l0 x3_1).f1))).setCell ⟨gb169,2,none⟩ (.int .i64 ((rd_T44 l0 x3_1).f2))).setCell ⟨gb169,3,none⟩ (.int .i64 ((rd_T44 l0 x3_1).f3))).setCell ⟨gb169,4,none⟩ (.int .i64 ((rd_T44 l0 x3_1).f4))).setCell ⟨gb169,5,none⟩ (.int .i64 ((rd_T44 l0 x3_1).f5))) = w88 at n0_ n1_ ⊢
           have BK169:=n0_
           have HB:=n1_
           clear n0_ n1_
           have n0_:=Aside0.mk (blk_drew BK169.out)
           have n1_:=Aside0.mk (below_drew1 HB.out)
           clear BK169
           clear HB
           have BK169:=n0_
           have HB:=n1_
           clear n0_ n1_
           refine start_ (n:=47) (S:=fun w' => w'.cell? ⟨gb169,0,none⟩ = some (.int .i64 ((rd_T44 l0 x3_1).f0)) ∧ w'.cell? ⟨gb169,1,none⟩ = some (.int .i64 ((rd_T44 l0 x3_1).f1)) ∧ w'.cell? ⟨gb169,2,none⟩ = some (.int .i64 ((rd_T44 l0 x3_1).f2)) ∧ w'.cell? ⟨gb169,3,none⟩ = some (.int .i64 ((rd_T44 l0 x3_1).f3)) ∧ w'.cell? ⟨gb169,4,none⟩ = some (.int .i64 ((rd_T44 l0 x3_1).f4)) ∧ w'.cell? ⟨gb169,5,none⟩ = some (.int .i64 ((rd_T44 l0 x3_1).f5))) (ds:=[]) (bm 47 0) (by kernel_rfl) rfl (by kernel_rfl) ⟨(blk_cell BK169.out 0).trans rfl,(blk_cell BK169.out 1).trans rfl,(blk_cell BK169.out 2).trans rfl,(blk_cell BK169.out 3).trans rfl,(blk_cell BK169.out 4).trans rfl,(blk_cell BK169.out 5).trans rfl⟩ (fun hHeld => ?_); refine with_tabW hinterlandref09_Validate.tab7 hinterlandref09_Validate.bits7 (fun HT_ HW_ => ?_)
           generalize w88.drew = w89 at BK169 HB hHeld ⊢
           refine pv 0 (some 18) (bm 47 1) HT_ ?_
           refine pv 1 (some 19) (bm 47 3) HT_ ?_
           refine pv 2 (some 20) (bm 47 7) HT_ ?_
           refine pn 3 (some 21) (bm 47 15) HT_ ?_
           refine pn 4 (some 22) (bm 47 31) HT_ ?_
           refine pn 5 (some 23) (bm 47 63) HT_ ?_
           refine pn 6 (some 24) (bm 47 127) HT_ ?_
           refine pn 7 (some 25) (bm 47 255) HT_ ?_
           refine pn 8 (some 26) (bm 47 511) HT_ ?_
           refine pn 9 (some 27) (bm 47 1023) HT_ ?_
           refine pn 10 (some 28) (bm 47 2047) HT_ ?_
           refine pv 11 (some 29) (bm 47 4095) HT_ ?_
           refine pv 12 (some 30) (bm 47 8191) HT_ ?_
           refine pv 13 (some 31) (bm 47 16383) HT_ ?_
           refine tk 14 (some 32) (bm 47 32767) HT_ HW_ hHeld ?_
           refine pv 15 (some 33) (bm 47 65535) HT_ ?_
           refine pv 16 (some 34) (bm 47 131071) HT_ ?_
           refine pv 17 (some 35) (bm 47 262143) HT_ ?_
           refine pv 18 (some 36) (bm 47 524287) HT_ ?_
           refine tk 19 (some 37) (bm 47 1048575) HT_ HW_ hHeld ?_
           refine pv 20 (some 38) (bm 47 2097151) HT_ ?_
           refine pv 21 (some 39) (bm 47 4194303) HT_ ?_
           refine pv 22 (some 40) (bm 47 8388607) HT_ ?_
           refine pv 23 (some 41) (bm 47 16777215) HT_ ?_
           refine tk 24 (some 42) (bm 47 33554431) HT_ HW_ hHeld ?_
           refine ck 25 (some 43) (bm 47 67108863) HT_ (fun K hK => ?_)
           refine gs Try.func42 #[.int .i64 ((rd_T44 l0 x3_1).f3),.int .i64 255] ?_
           with_reducible refine (hinterlandref09_Out.calls ((rd_T44 l0 x3_1).f3) 255 false _ A78.out).mono ?_
           rintro e w' ⟨rfl,⟨nd,rfl⟩⟩
           refine ⟨_,rfl,?_⟩
           refine hK.out _ _ ⟨(blk_cell BK169.out 0).trans rfl,(blk_cell BK169.out 1).trans rfl,(blk_cell BK169.out 2).trans rfl,(blk_cell BK169.out 3).trans rfl,(blk_cell BK169.out 4).trans rfl,(blk_cell BK169.out 5).trans rfl⟩ (fun hHeld => ?_)
           clear hK K
           refine nm ?_
           refine pv 26 (some 44) (bm 47 134217727) HT_ ?_
           refine pv 27 (some 45) (bm 47 268435455) HT_ ?_
           refine pv 28 (some 46) (bm 47 536870911) HT_ ?_
           refine tk 29 (some 47) (bm 47 1073741823) HT_ HW_ hHeld ?_
           refine ck 30 (some 48) (bm 47 2147483647) HT_ (fun K hK => ?_)
           refine gs Try.func42 #[.int .i64 ((rd_T44 l0 x3_1).f5),.int .i64 1000000000000] ?_
           with_reducible refine (hinterlandref09_Out.calls ((rd_T44 l0 x3_1).f5) 1000000000000 true _ A84.out).mono ?_
           rintro e w' ⟨rfl,⟨nd,rfl⟩⟩
           refine ⟨_,rfl,?_⟩
           refine hK.out _ _ ⟨(blk_cell BK169.out 0).trans rfl,(blk_cell BK169.out 1).trans rfl,(blk_cell BK169.out 2).trans rfl,(blk_cell BK169.out 3).trans rfl,(blk_cell BK169.out 4).trans rfl,(blk_cell BK169.out 5).trans rfl⟩ (fun hHeld => ?_)
           clear hK K
           refine nm ?_
           refine pv 31 (some 49) (bm 47 4294967295) HT_ ?_
           refine pv 32 (some 50) (bm 47 8589934591) HT_ ?_
           refine pn 33 (some 51) (bm 47 17179869183) HT_ ?_
           refine pn 34 (some 52) (bm 47 34359738367) HT_ ?_
           refine pn 35 (some 53) (bm 47 68719476735) HT_ ?_
           refine pv 36 (some 54) (bm 47 137438953471) HT_ ?_
           refine pv 37 (some 55) (bm 47 274877906943) HT_ ?_
           refine pn 38 (some 56) (bm 47 549755813887) HT_ ?_
           refine pn 39 (some 57) (bm 47 1099511627775) HT_ ?_
           refine pn 40 (some 58) (bm 47 2199023255551) HT_ ?_
           refine pv 41 (some 59) (bm 47 4398046511103) HT_ ?_
           refine pv 42 (some 60) (bm 47 8796093022207) HT_ ?_
           refine pn 43 (some 61) (bm 47 17592186044415) HT_ ?_
           refine pn 44 (some 62) (bm 47 35184372088831) HT_ ?_
           refine pn 45 (some 63) (bm 47 70368744177663) HT_ ?_
           refine pv 46 (some 64) (bm 47 140737488355327) HT_ ?_
           refine done_ (done_of HT_.out (by kernel_rfl)) ?_
           try go_wp2
           go_ret
           exact ⟨by first | rfl | (simp [errW_none,errW_some] <;> rfl) | (simp [*,errW_none,errW_some] <;> rfl),by repeat (first | (with_reducible first | exact HB.out | apply below_alloc | apply pw_below_drewN | apply below_drew1 | refine below_set ?_ GE169.out) | exact HB.out)⟩
          ·replace c85:=Bool.eq_false_iff.mpr c85
           subst c85
           have H1 : ((hinterlandref09_Out.f ((rd_T44 l0 x3_1).f0) 1000000).bind fun t179 => (if t179 = true then (some 1) else ((hinterlandref09_Out.f ((rd_T44 l0 x3_1).f1) 1000000).bind fun t180 => (if t180 = true then (some 1) else ((hinterlandref09_Out.f ((rd_T44 l0 x3_1).f2) 1000000).bind fun t181 => (if t181 = true then (some 1) else (hinterlandref09_Validate.l0 k1 l0 (wrap64 (x3_1 + 1))))))))) = some r:=by rw [if_neg (show ¬ (false = true) by decide)] at H; exact H
           clear H
           have H:=H1
           clear H1
           replace H:=Option.bind_eq_some_iff.mp H
           obtain ⟨t179,A900,H⟩:=H
           replace H : (if t179 = true then (some 1) else ((hinterlandref09_Out.f ((rd_T44 l0 x3_1).f1) 1000000).bind fun t180 => (if t180 = true then (some 1) else ((hinterlandref09_Out.f ((rd_T44 l0 x3_1).f2) 1000000).bind fun t181 => (if t181 = true then (some 1) else (hinterlandref09_Validate.l0 k1 l0 (wrap64 (x3_1 + 1)))))))) = some r:=H
           have A90:=Aside0.mk A900
           clear A900
           by_cases c91 : t179 = true
           ·subst c91
            have H1 : (some 1) = some r:=by rw [if_pos rfl] at H; exact H
            clear H
            have H:=H1
            clear H1
            obtain rfl:=Option.some.inj H
            have p168 : 0 ≤ (x3_1 : Int):=of_decide_eq_true (by first | (with_reducible assumption) | assumption)
            have q168 : x3_1 < (l0.length : Int):=of_decide_eq_true (by first | (with_reducible assumption) | assumption)
            obtain ⟨ad168,e168,hx168_0,hx168_1,hx168_2,hx168_3,hx168_4,hx168_5⟩:=at_T44 HR0.out x3_1 p168 q168
            cases e168
            replace hx168_0:=(HB.out.cell (World.block_lt_of_cell? w _ hx168_0)).trans hx168_0
            replace hx168_1:=(HB.out.cell (World.block_lt_of_cell? w _ hx168_1)).trans hx168_1
            replace hx168_2:=(HB.out.cell (World.block_lt_of_cell? w _ hx168_2)).trans hx168_2
            replace hx168_3:=(HB.out.cell (World.block_lt_of_cell? w _ hx168_3)).trans hx168_3
            replace hx168_4:=(HB.out.cell (World.block_lt_of_cell? w _ hx168_4)).trans hx168_4
            replace hx168_5:=(HB.out.cell (World.block_lt_of_cell? w _ hx168_5)).trans hx168_5
            replace p168:=eq_true p168
            replace q168:=eq_true q168
            try go_wp2_with (first | ((with_reducible refine gate_dst (N:=4) rfl ?_); refine box_event ?hg (N:=4) ?hd (cs:=#[.int .i64 0,.int .i64 0,.int .i64 0,.int .i64 0,.int .i64 0,.int .i64 0]) (t:=44) ?hr ?_; (case hd => rfl); (case hg => rfl); (case hr => first | (go_simp; done) | (go_simp; rfl)); intro gb169 hg w92 hbox hb; have n0_:=Aside0.mk (below_step (by repeat (first | (with_reducible first | exact HB.out | apply below_alloc | apply pw_below_drewN | apply below_drew1) | exact HB.out)) hb); have n1_:=Aside0.mk (hbox); have n2_:=Aside0.mk ((by rw [hg]; exact (below_size (by repeat (first | (with_reducible first | exact HB.out | apply below_alloc | apply pw_below_drewN | apply below_drew1) | exact HB.out))) : w.heap.size ≤ gb169)); have n3_:=Aside0.mk ((by rw [hg]; exact (below_size (by repeat (first | (with_reducible first | exact HB.out | apply below_alloc | apply pw_below_drewN | apply below_drew1) | exact HB.out))) : w.heap.size ≤ gb169)); clear HB; have HB:=n0_; have BK169:=n1_; have GW169:=n2_; have GE169:=n3_; clear n0_ n1_ n2_ n3_; clear hb hbox hg; have hcz93_0 : w92.cell? ⟨gb169,0,none⟩ = some (.int .i64 0):=(blk_cell BK169.out 0).trans rfl; have hcz93_1 : w92.cell? ⟨gb169,1,none⟩ = some (.int .i64 0):=(blk_cell BK169.out 1).trans rfl; have hcz93_2 : w92.cell? ⟨gb169,2,none⟩ = some (.int .i64 0):=(blk_cell BK169.out 2).trans rfl; have hcz93_3 : w92.cell? ⟨gb169,3,none⟩ = some (.int .i64 0):=(blk_cell BK169.out 3).trans rfl; have hcz93_4 : w92.cell? ⟨gb169,4,none⟩ = some (.int .i64 0):=(blk_cell BK169.out 4).trans rfl; have hcz93_5 : w92.cell? ⟨gb169,5,none⟩ = some (.int .i64 0):=(blk_cell BK169.out 5).trans rfl; have hfz93_0:=blk_frozen BK169.out 0; have hfz93_1:=blk_frozen BK169.out 1; have hfz93_2:=blk_frozen BK169.out 2; have hfz93_3:=blk_frozen BK169.out 3; have hfz93_4:=blk_frozen BK169.out 4; have hfz93_5:=blk_frozen BK169.out 5))
            have n0_ : Aside0 (((((((w92.setCell ⟨gb169,0,none⟩ (.int .i64 ((rd_T44 l0 x3_1).f0))).setCell ⟨gb169,1,none⟩ (.int .i64 ((rd_T44 l0 x3_1).f1))).setCell ⟨gb169,2,none⟩ (.int .i64 ((rd_T44 l0 x3_1).f2))).setCell ⟨gb169,3,none⟩ (.int .i64 ((rd_T44 l0 x3_1).f3))).setCell ⟨gb169,4,none⟩ (.int .i64 ((rd_T44 l0 x3_1).f4))).setCell ⟨gb169,5,none⟩ (.int .i64 ((rd_T44 l0 x3_1).f5))).heap[gb169]? = some (.cells #[.int .i64 ((rd_T44 l0 x3_1).f0),.int .i64 ((rd_T44 l0 x3_1).f1),.int .i64 ((rd_T44 l0 x3_1).f2),.int .i64 ((rd_T44 l0 x3_1).f3),.int .i64 ((rd_T44 l0 x3_1).f4),.int .i64 ((rd_T44 l0 x3_1).f5)] 44 (0,0))):=⟨by (with_reducible repeat (first | refine blk_drewN ?_ _ | refine blk_drew ?_ | refine blk_alloc ?_ _)); refine blk_put (cs:=#[.int .i64 ((rd_T44 l0 x3_1).f0),.int .i64 ((rd_T44 l0 x3_1).f1),.int .i64 ((rd_T44 l0 x3_1).f2),.int .i64 ((rd_T44 l0 x3_1).f3),.int .i64 ((rd_T44 l0 x3_1).f4),.int .i64 0]) ?_ 5 _ rfl; (with_reducible repeat (first | refine blk_drewN ?_ _ | refine blk_drew ?_ | refine blk_alloc ?_ _)); refine blk_put (cs:=#[.int .i64 ((rd_T44 l0 x3_1).f0),.int .i64 ((rd_T44 l0 x3_1).f1),.int .i64 ((rd_T44 l0 x3_1).f2),.int .i64 ((rd_T44 l0 x3_1).f3),.int .i64 0,.int .i64 0]) ?_ 4 _ rfl; (with_reducible repeat (first | refine blk_drewN ?_ _ | refine blk_drew ?_ | refine blk_alloc ?_ _)); refine blk_put (cs:=#[.int .i64 ((rd_T44 l0 x3_1).f0),.int .i64 ((rd_T44 l0 x3_1).f1),.int .i64 ((rd_T44 l0 x3_1).f2),.int .i64 0,.int .i64 0,.int .i64 0]) ?_ 3 _ rfl; (with_reducible repeat (first | refine blk_drewN ?_ _ | refine blk_drew ?_ | refine blk_alloc ?_ _)); refine blk_put (cs:=#[.int .i64 ((rd_T44 l0 x3_1).f0),.int .i64 ((rd_T44 l0 x3_1).f1),.int .i64 0,.int .i64 0,.int .i64 0,.int .i64 0]) ?_ 2 _ rfl; (with_reducible repeat (first | refine blk_drewN ?_ _ | refine blk_drew ?_ | refine blk_alloc ?_ _)); refine blk_put (cs:=#[.int .i64 ((rd_T44 l0 x3_1).f0),.int .i64 0,.int .i64 0,.int .i64 0,.int .i64 0,.int .i64 0]) ?_ 1 _ rfl; (with_reducible repeat (first | refine blk_drewN ?_ _ | refine blk_drew ?_ | refine blk_alloc ?_ _)); refine blk_put (cs:=#[.int .i64 0,.int .i64 0,.int .i64 0,.int .i64 0,.int .i64 0,.int .i64 0]) ?_ 0 _ rfl; (with_reducible repeat (first | refine blk_drewN ?_ _ | refine blk_drew ?_ | refine blk_alloc ?_ _)); exact BK169.out⟩
            have n1_ : Aside0 (Below w.heap.size w ((((((w92.setCell ⟨gb169,0,none⟩ (.int .i64 ((rd_T44 l0 x3_1).f0))).setCell ⟨gb169,1,none⟩ (.int .i64 ((rd_T44 l0 x3_1).f1))).setCell ⟨gb169,2,none⟩ (.int .i64 ((rd_T44 l0 x3_1).f2))).setCell ⟨gb169,3,none⟩ (.int .i64 ((rd_T44 l0 x3_1).f3))).setCell ⟨gb169,4,none⟩ (.int .i64 ((rd_T44 l0 x3_1).f4))).setCell ⟨gb169,5,none⟩ (.int .i64 ((rd_T44 l0 x3_1).f5)))):=⟨by repeat (first | (with_reducible first | exact HB.out | apply below_alloc | apply pw_below_drewN | apply below_drew1 | refine below_set ?_ GE169.out) | exact HB.out)⟩
            (try clear BK169)
            (try clear HB)
            generalize ((((((w92.setCell ⟨gb169,0,none⟩ (.int .i64 ((rd_T44 l0 x3_1).f0))).setCell ⟨gb169,1,none⟩ (.int .i64 ((rd_T44 l0 x3_1).f1))).setCell ⟨gb169,2,none⟩ (.int .i64 ((rd_T44 l0 x3_1).f2))).setCell ⟨gb169,3,none⟩ (.int .i64 ((rd_T44 l0 x3_1).f3))).setCell ⟨gb169,4,none⟩ (.int .i64 ((rd_T44 l0 x3_1).f4))).setCell ⟨gb169,5,none⟩ (.int .i64 ((rd_T44 l0 x3_1).f5))) = w94 at n0_ n1_ ⊢
            have BK169:=n0_
            have HB:=n1_
            clear n0_ n1_
            have n0_:=Aside0.mk (blk_drew BK169.out)
            have n1_:=Aside0.mk (below_drew1 HB.out)
            clear BK169
            clear HB
            have BK169:=n0_
            have HB:=n1_
            clear n0_ n1_
            refine start_ (n:=47) (S:=fun w' => w'.cell? ⟨gb169,0,none⟩ = some (.int .i64 ((rd_T44 l0 x3_1).f0)) ∧ w'.cell? ⟨gb169,1,none⟩ = some (.int .i64 ((rd_T44 l0 x3_1).f1)) ∧ w'.cell? ⟨gb169,2,none⟩ = some (.int .i64 ((rd_T44 l0 x3_1).f2)) ∧ w'.cell? ⟨gb169,3,none⟩ = some (.int .i64 ((rd_T44 l0 x3_1).f3)) ∧ w'.cell? ⟨gb169,4,none⟩ = some (.int .i64 ((rd_T44 l0 x3_1).f4)) ∧ w'.cell? ⟨gb169,5,none⟩ = some (.int .i64 ((rd_T44 l0 x3_1).f5))) (ds:=[]) (bm 47 0) (by kernel_rfl) rfl (by kernel_rfl) ⟨(blk_cell BK169.out 0).trans rfl,(blk_cell BK169.out 1).trans rfl,(blk_cell BK169.out 2).trans rfl,(blk_cell BK169.out 3).trans rfl,(blk_cell BK169.out 4).trans rfl,(blk_cell BK169.out 5).trans rfl⟩ (fun hHeld => ?_); refine with_tabW hinterlandref09_Validate.tab7 hinterlandref09_Validate.bits7 (fun HT_ HW_ => ?_)
            generalize w94.drew = w95 at BK169 HB hHeld ⊢
            refine pv 0 (some 18) (bm 47 1) HT_ ?_
            refine pv 1 (some 19) (bm 47 3) HT_ ?_
            refine pv 2 (some 20) (bm 47 7) HT_ ?_
            refine pn 3 (some 21) (bm 47 15) HT_ ?_
            refine pn 4 (some 22) (bm 47 31) HT_ ?_
            refine pn 5 (some 23) (bm 47 63) HT_ ?_
            refine pn 6 (some 24) (bm 47 127) HT_ ?_
            refine pn 7 (some 25) (bm 47 255) HT_ ?_
            refine pn 8 (some 26) (bm 47 511) HT_ ?_
            refine pn 9 (some 27) (bm 47 1023) HT_ ?_
            refine pn 10 (some 28) (bm 47 2047) HT_ ?_
            refine pv 11 (some 29) (bm 47 4095) HT_ ?_
            refine pv 12 (some 30) (bm 47 8191) HT_ ?_
            refine pv 13 (some 31) (bm 47 16383) HT_ ?_
            refine tk 14 (some 32) (bm 47 32767) HT_ HW_ hHeld ?_
            refine pv 15 (some 33) (bm 47 65535) HT_ ?_
            refine pv 16 (some 34) (bm 47 131071) HT_ ?_
            refine pv 17 (some 35) (bm 47 262143) HT_ ?_
            refine pv 18 (some 36) (bm 47 524287) HT_ ?_
            refine tk 19 (some 37) (bm 47 1048575) HT_ HW_ hHeld ?_
            refine pv 20 (some 38) (bm 47 2097151) HT_ ?_
            refine pv 21 (some 39) (bm 47 4194303) HT_ ?_
            refine pv 22 (some 40) (bm 47 8388607) HT_ ?_
            refine pv 23 (some 41) (bm 47 16777215) HT_ ?_
            refine tk 24 (some 42) (bm 47 33554431) HT_ HW_ hHeld ?_
            refine ck 25 (some 43) (bm 47 67108863) HT_ (fun K hK => ?_)
            refine gs Try.func42 #[.int .i64 ((rd_T44 l0 x3_1).f3),.int .i64 255] ?_
            with_reducible refine (hinterlandref09_Out.calls ((rd_T44 l0 x3_1).f3) 255 false _ A78.out).mono ?_
            rintro e w' ⟨rfl,⟨nd,rfl⟩⟩
            refine ⟨_,rfl,?_⟩
            refine hK.out _ _ ⟨(blk_cell BK169.out 0).trans rfl,(blk_cell BK169.out 1).trans rfl,(blk_cell BK169.out 2).trans rfl,(blk_cell BK169.out 3).trans rfl,(blk_cell BK169.out 4).trans rfl,(blk_cell BK169.out 5).trans rfl⟩ (fun hHeld => ?_)
            clear hK K
            refine nm ?_
            refine pv 26 (some 44) (bm 47 134217727) HT_ ?_
            refine pv 27 (some 45) (bm 47 268435455) HT_ ?_
            refine pv 28 (some 46) (bm 47 536870911) HT_ ?_
            refine tk 29 (some 47) (bm 47 1073741823) HT_ HW_ hHeld ?_
            refine ck 30 (some 48) (bm 47 2147483647) HT_ (fun K hK => ?_)
            refine gs Try.func42 #[.int .i64 ((rd_T44 l0 x3_1).f5),.int .i64 1000000000000] ?_
            with_reducible refine (hinterlandref09_Out.calls ((rd_T44 l0 x3_1).f5) 1000000000000 false _ A84.out).mono ?_
            rintro e w' ⟨rfl,⟨nd,rfl⟩⟩
            refine ⟨_,rfl,?_⟩
            refine hK.out _ _ ⟨(blk_cell BK169.out 0).trans rfl,(blk_cell BK169.out 1).trans rfl,(blk_cell BK169.out 2).trans rfl,(blk_cell BK169.out 3).trans rfl,(blk_cell BK169.out 4).trans rfl,(blk_cell BK169.out 5).trans rfl⟩ (fun hHeld => ?_)
            clear hK K
            refine nm ?_
            refine pv 31 (some 49) (bm 47 4294967295) HT_ ?_
            refine pv 32 (some 50) (bm 47 8589934591) HT_ ?_
            refine pv 33 (some 51) (bm 47 17179869183) HT_ ?_
            refine tk 34 (some 52) (bm 47 34359738367) HT_ HW_ hHeld ?_
            refine ck 35 (some 53) (bm 47 68719476735) HT_ (fun K hK => ?_)
            refine gs Try.func42 #[.int .i64 ((rd_T44 l0 x3_1).f0),.int .i64 1000000] ?_
            with_reducible refine (hinterlandref09_Out.calls ((rd_T44 l0 x3_1).f0) 1000000 true _ A90.out).mono ?_
            rintro e w' ⟨rfl,⟨nd,rfl⟩⟩
            refine ⟨_,rfl,?_⟩
            refine hK.out _ _ ⟨(blk_cell BK169.out 0).trans rfl,(blk_cell BK169.out 1).trans rfl,(blk_cell BK169.out 2).trans rfl,(blk_cell BK169.out 3).trans rfl,(blk_cell BK169.out 4).trans rfl,(blk_cell BK169.out 5).trans rfl⟩ (fun hHeld => ?_)
            clear hK K
            refine nm ?_
            refine pv 36 (some 54) (bm 47 137438953471) HT_ ?_
            refine pv 37 (some 55) (bm 47 274877906943) HT_ ?_
            refine pn 38 (some 56) (bm 47 549755813887) HT_ ?_
            refine pn 39 (some 57) (bm 47 1099511627775) HT_ ?_
            refine pn 40 (some 58) (bm 47 2199023255551) HT_ ?_
            refine pv 41 (some 59) (bm 47 4398046511103) HT_ ?_
            refine pv 42 (some 60) (bm 47 8796093022207) HT_ ?_
            refine pn 43 (some 61) (bm 47 17592186044415) HT_ ?_
            refine pn 44 (some 62) (bm 47 35184372088831) HT_ ?_
            refine pn 45 (some 63) (bm 47 70368744177663) HT_ ?_
            refine pv 46 (some 64) (bm 47 140737488355327) HT_ ?_
            refine done_ (done_of HT_.out (by kernel_rfl)) ?_
            try go_wp2
            go_ret
            exact ⟨by first | rfl | (simp [errW_none,errW_some] <;> rfl) | (simp [*,errW_none,errW_some] <;> rfl),by repeat (first | (with_reducible first | exact HB.out | apply below_alloc | apply pw_below_drewN | apply below_drew1 | refine below_set ?_ GE169.out) | exact HB.out)⟩
           ·replace c91:=Bool.eq_false_iff.mpr c91
            subst c91
            have H1 : ((hinterlandref09_Out.f ((rd_T44 l0 x3_1).f1) 1000000).bind fun t180 => (if t180 = true then (some 1) else ((hinterlandref09_Out.f ((rd_T44 l0 x3_1).f2) 1000000).bind fun t181 => (if t181 = true then (some 1) else (hinterlandref09_Validate.l0 k1 l0 (wrap64 (x3_1 + 1))))))) = some r:=by rw [if_neg (show ¬ (false = true) by decide)] at H; exact H
            clear H
            have H:=H1
            clear H1
            replace H:=Option.bind_eq_some_iff.mp H
            obtain ⟨t180,A960,H⟩:=H
            replace H : (if t180 = true then (some 1) else ((hinterlandref09_Out.f ((rd_T44 l0 x3_1).f2) 1000000).bind fun t181 => (if t181 = true then (some 1) else (hinterlandref09_Validate.l0 k1 l0 (wrap64 (x3_1 + 1)))))) = some r:=H
            have A96:=Aside0.mk A960
            clear A960
            by_cases c97 : t180 = true
            ·subst c97
             have H1 : (some 1) = some r:=by rw [if_pos rfl] at H; exact H
             clear H
             have H:=H1
             clear H1
             obtain rfl:=Option.some.inj H
             have p168 : 0 ≤ (x3_1 : Int):=of_decide_eq_true (by first | (with_reducible assumption) | assumption)
             have q168 : x3_1 < (l0.length : Int):=of_decide_eq_true (by first | (with_reducible assumption) | assumption)
             obtain ⟨ad168,e168,hx168_0,hx168_1,hx168_2,hx168_3,hx168_4,hx168_5⟩:=at_T44 HR0.out x3_1 p168 q168
             cases e168
             replace hx168_0:=(HB.out.cell (World.block_lt_of_cell? w _ hx168_0)).trans hx168_0
             replace hx168_1:=(HB.out.cell (World.block_lt_of_cell? w _ hx168_1)).trans hx168_1
             replace hx168_2:=(HB.out.cell (World.block_lt_of_cell? w _ hx168_2)).trans hx168_2
             replace hx168_3:=(HB.out.cell (World.block_lt_of_cell? w _ hx168_3)).trans hx168_3
             replace hx168_4:=(HB.out.cell (World.block_lt_of_cell? w _ hx168_4)).trans hx168_4
             replace hx168_5:=(HB.out.cell (World.block_lt_of_cell? w _ hx168_5)).trans hx168_5
             replace p168:=eq_true p168
             replace q168:=eq_true q168
             try go_wp2_with (first | ((with_reducible refine gate_dst (N:=4) rfl ?_); refine box_event ?hg (N:=4) ?hd (cs:=#[.int .i64 0,.int .i64 0,.int .i64 0,.int .i64 0,.int .i64 0,.int .i64 0]) (t:=44) ?hr ?_; (case hd => rfl); (case hg => rfl); (case hr => first | (go_simp; done) | (go_simp; rfl)); intro gb169 hg w98 hbox hb; have n0_:=Aside0.mk (below_step (by repeat (first | (with_reducible first | exact HB.out | apply below_alloc | apply pw_below_drewN | apply below_drew1) | exact HB.out)) hb); have n1_:=Aside0.mk (hbox); have n2_:=Aside0.mk ((by rw [hg]; exact (below_size (by repeat (first | (with_reducible first | exact HB.out | apply below_alloc | apply pw_below_drewN | apply below_drew1) | exact HB.out))) : w.heap.size ≤ gb169)); have n3_:=Aside0.mk ((by rw [hg]; exact (below_size (by repeat (first | (with_reducible first | exact HB.out | apply below_alloc | apply pw_below_drewN | apply below_drew1) | exact HB.out))) : w.heap.size ≤ gb169)); clear HB; have HB:=n0_; have BK169:=n1_; have GW169:=n2_; have GE169:=n3_; clear n0_ n1_ n2_ n3_; clear hb hbox hg; have hcz99_0 : w98.cell? ⟨gb169,0,none⟩ = some (.int .i64 0):=(blk_cell BK169.out 0).trans rfl; have hcz99_1 : w98.cell? ⟨gb169,1,none⟩ = some (.int .i64 0):=(blk_cell BK169.out 1).trans rfl; have hcz99_2 : w98.cell? ⟨gb169,2,none⟩ = some (.int .i64 0):=(blk_cell BK169.out 2).trans rfl; have hcz99_3 : w98.cell? ⟨gb169,3,none⟩ = some (.int .i64 0):=(blk_cell BK169.out 3).trans rfl; have hcz99_4 : w98.cell? ⟨gb169,4,none⟩ = some (.int .i64 0):=(blk_cell BK169.out 4).trans rfl; have hcz99_5 : w98.cell? ⟨gb169,5,none⟩ = some (.int .i64 0):=(blk_cell BK169.out 5).trans rfl; have hfz99_0:=blk_frozen BK169.out 0; have hfz99_1:=blk_frozen BK169.out 1; have hfz99_2:=blk_frozen BK169.out 2; have hfz99_3:=blk_frozen BK169.out 3; have hfz99_4:=blk_frozen BK169.out 4; have hfz99_5:=blk_frozen BK169.out 5))
             have n0_ : Aside0 (((((((w98.setCell ⟨gb169,0,none⟩ (.int .i64 ((rd_T44 l0 x3_1).f0))).setCell ⟨gb169,1,none⟩ (.int .i64 ((rd_T44 l0 x3_1).f1))).setCell ⟨gb169,2,none⟩ (.int .i64 ((rd_T44 l0 x3_1).f2))).setCell ⟨gb169,3,none⟩ (.int .i64 ((rd_T44 l0 x3_1).f3))).setCell ⟨gb169,4,none⟩ (.int .i64 ((rd_T44 l0 x3_1).f4))).setCell ⟨gb169,5,none⟩ (.int .i64 ((rd_T44 l0 x3_1).f5))).heap[gb169]? = some (.cells #[.int .i64 ((rd_T44 l0 x3_1).f0),.int .i64 ((rd_T44 l0 x3_1).f1),.int .i64 ((rd_T44 l0 x3_1).f2),.int .i64 ((rd_T44 l0 x3_1).f3),.int .i64 ((rd_T44 l0 x3_1).f4),.int .i64 ((rd_T44 l0 x3_1).f5)] 44 (0,0))):=⟨by (with_reducible repeat (first | refine blk_drewN ?_ _ | refine blk_drew ?_ | refine blk_alloc ?_ _)); refine blk_put (cs:=#[.int .i64 ((rd_T44 l0 x3_1).f0),.int .i64 ((rd_T44 l0 x3_1).f1),.int .i64 ((rd_T44 l0 x3_1).f2),.int .i64 ((rd_T44 l0 x3_1).f3),.int .i64 ((rd_T44 l0 x3_1).f4),.int .i64 0]) ?_ 5 _ rfl; (with_reducible repeat (first | refine blk_drewN ?_ _ | refine blk_drew ?_ | refine blk_alloc ?_ _)); refine blk_put (cs:=#[.int .i64 ((rd_T44 l0 x3_1).f0),.int .i64 ((rd_T44 l0 x3_1).f1),.int .i64 ((rd_T44 l0 x3_1).f2),.int .i64 ((rd_T44 l0 x3_1).f3),.int .i64 0,.int .i64 0]) ?_ 4 _ rfl; (with_reducible repeat (first | refine blk_drewN ?_ _ | refine blk_drew ?_ | refine blk_alloc ?_ _)); refine blk_put (cs:=#[.int .i64 ((rd_T44 l0 x3_1).f0),.int .i64 ((rd_T44 l0 x3_1).f1),.int .i64 ((rd_T44 l0 x3_1).f2),.int .i64 0,.int .i64 0,.int .i64 0]) ?_ 3 _ rfl; (with_reducible repeat (first | refine blk_drewN ?_ _ | refine blk_drew ?_ | refine blk_alloc ?_ _)); refine blk_put (cs:=#[.int .i64 ((rd_T44 l0 x3_1).f0),.int .i64 ((rd_T44 l0 x3_1).f1),.int .i64 0,.int .i64 0,.int .i64 0,.int .i64 0]) ?_ 2 _ rfl; (with_reducible repeat (first | refine blk_drewN ?_ _ | refine blk_drew ?_ | refine blk_alloc ?_ _)); refine blk_put (cs:=#[.int .i64 ((rd_T44 l0 x3_1).f0),.int .i64 0,.int .i64 0,.int .i64 0,.int .i64 0,.int .i64 0]) ?_ 1 _ rfl; (with_reducible repeat (first | refine blk_drewN ?_ _ | refine blk_drew ?_ | refine blk_alloc ?_ _)); refine blk_put (cs:=#[.int .i64 0,.int .i64 0,.int .i64 0,.int .i64 0,.int .i64 0,.int .i64 0]) ?_ 0 _ rfl; (with_reducible repeat (first | refine blk_drewN ?_ _ | refine blk_drew ?_ | refine blk_alloc ?_ _)); exact BK169.out⟩
             have n1_ : Aside0 (Below w.heap.size w ((((((w98.setCell ⟨gb169,0,none⟩ (.int .i64 ((rd_T44 l0 x3_1).f0))).setCell ⟨gb169,1,none⟩ (.int .i64 ((rd_T44 l0 x3_1).f1))).setCell ⟨gb169,2,none⟩ (.int .i64 ((rd_T44 l0 x3_1).f2))).setCell ⟨gb169,3,none⟩ (.int .i64 ((rd_T44 l0 x3_1).f3))).setCell ⟨gb169,4,none⟩ (.int .i64 ((rd_T44 l0 x3_1).f4))).setCell ⟨gb169,5,none⟩ (.int .i64 ((rd_T44 l0 x3_1).f5)))):=⟨by repeat (first | (with_reducible first | exact HB.out | apply below_alloc | apply pw_below_drewN | apply below_drew1 | refine below_set ?_ GE169.out) | exact HB.out)⟩
             (try clear BK169)
             (try clear HB)
             generalize ((((((w98.setCell ⟨gb169,0,none⟩ (.int .i64 ((rd_T44 l0 x3_1).f0))).setCell ⟨gb169,1,none⟩ (.int .i64 ((rd_T44 l0 x3_1).f1))).setCell ⟨gb169,2,none⟩ (.int .i64 ((rd_T44 l0 x3_1).f2))).setCell ⟨gb169,3,none⟩ (.int .i64 ((rd_T44 l0 x3_1).f3))).setCell ⟨gb169,4,none⟩ (.int .i64 ((rd_T44 l0 x3_1).f4))).setCell ⟨gb169,5,none⟩ (.int .i64 ((rd_T44 l0 x3_1).f5))) = w100 at n0_ n1_ ⊢
             have BK169:=n0_
             have HB:=n1_
             clear n0_ n1_
             have n0_:=Aside0.mk (blk_drew BK169.out)
             have n1_:=Aside0.mk (below_drew1 HB.out)
             clear BK169
             clear HB
             have BK169:=n0_
             have HB:=n1_
             clear n0_ n1_
             refine start_ (n:=47) (S:=fun w' => w'.cell? ⟨gb169,0,none⟩ = some (.int .i64 ((rd_T44 l0 x3_1).f0)) ∧ w'.cell? ⟨gb169,1,none⟩ = some (.int .i64 ((rd_T44 l0 x3_1).f1)) ∧ w'.cell? ⟨gb169,2,none⟩ = some (.int .i64 ((rd_T44 l0 x3_1).f2)) ∧ w'.cell? ⟨gb169,3,none⟩ = some (.int .i64 ((rd_T44 l0 x3_1).f3)) ∧ w'.cell? ⟨gb169,4,none⟩ = some (.int .i64 ((rd_T44 l0 x3_1).f4)) ∧ w'.cell? ⟨gb169,5,none⟩ = some (.int .i64 ((rd_T44 l0 x3_1).f5))) (ds:=[]) (bm 47 0) (by kernel_rfl) rfl (by kernel_rfl) ⟨(blk_cell BK169.out 0).trans rfl,(blk_cell BK169.out 1).trans rfl,(blk_cell BK169.out 2).trans rfl,(blk_cell BK169.out 3).trans rfl,(blk_cell BK169.out 4).trans rfl,(blk_cell BK169.out 5).trans rfl⟩ (fun hHeld => ?_); refine with_tabW hinterlandref09_Validate.tab7 hinterlandref09_Validate.bits7 (fun HT_ HW_ => ?_)
             generalize w100.drew = w101 at BK169 HB hHeld ⊢
             refine pv 0 (some 18) (bm 47 1) HT_ ?_
             refine pv 1 (some 19) (bm 47 3) HT_ ?_
             refine pv 2 (some 20) (bm 47 7) HT_ ?_
             refine pn 3 (some 21) (bm 47 15) HT_ ?_
             refine pn 4 (some 22) (bm 47 31) HT_ ?_
             refine pn 5 (some 23) (bm 47 63) HT_ ?_
             refine pn 6 (some 24) (bm 47 127) HT_ ?_
             refine pn 7 (some 25) (bm 47 255) HT_ ?_
             refine pn 8 (some 26) (bm 47 511) HT_ ?_
             refine pn 9 (some 27) (bm 47 1023) HT_ ?_
             refine pn 10 (some 28) (bm 47 2047) HT_ ?_
             refine pv 11 (some 29) (bm 47 4095) HT_ ?_
             refine pv 12 (some 30) (bm 47 8191) HT_ ?_
             refine pv 13 (some 31) (bm 47 16383) HT_ ?_
             refine tk 14 (some 32) (bm 47 32767) HT_ HW_ hHeld ?_
             refine pv 15 (some 33) (bm 47 65535) HT_ ?_
             refine pv 16 (some 34) (bm 47 131071) HT_ ?_
             refine pv 17 (some 35) (bm 47 262143) HT_ ?_
             refine pv 18 (some 36) (bm 47 524287) HT_ ?_
             refine tk 19 (some 37) (bm 47 1048575) HT_ HW_ hHeld ?_
             refine pv 20 (some 38) (bm 47 2097151) HT_ ?_
             refine pv 21 (some 39) (bm 47 4194303) HT_ ?_
             refine pv 22 (some 40) (bm 47 8388607) HT_ ?_
             refine pv 23 (some 41) (bm 47 16777215) HT_ ?_
             refine tk 24 (some 42) (bm 47 33554431) HT_ HW_ hHeld ?_
             refine ck 25 (some 43) (bm 47 67108863) HT_ (fun K hK => ?_)
             refine gs Try.func42 #[.int .i64 ((rd_T44 l0 x3_1).f3),.int .i64 255] ?_
             with_reducible refine (hinterlandref09_Out.calls ((rd_T44 l0 x3_1).f3) 255 false _ A78.out).mono ?_
             rintro e w' ⟨rfl,⟨nd,rfl⟩⟩
             refine ⟨_,rfl,?_⟩
             refine hK.out _ _ ⟨(blk_cell BK169.out 0).trans rfl,(blk_cell BK169.out 1).trans rfl,(blk_cell BK169.out 2).trans rfl,(blk_cell BK169.out 3).trans rfl,(blk_cell BK169.out 4).trans rfl,(blk_cell BK169.out 5).trans rfl⟩ (fun hHeld => ?_)
             clear hK K
             refine nm ?_
             refine pv 26 (some 44) (bm 47 134217727) HT_ ?_
             refine pv 27 (some 45) (bm 47 268435455) HT_ ?_
             refine pv 28 (some 46) (bm 47 536870911) HT_ ?_
             refine tk 29 (some 47) (bm 47 1073741823) HT_ HW_ hHeld ?_
             refine ck 30 (some 48) (bm 47 2147483647) HT_ (fun K hK => ?_)
             refine gs Try.func42 #[.int .i64 ((rd_T44 l0 x3_1).f5),.int .i64 1000000000000] ?_
             with_reducible refine (hinterlandref09_Out.calls ((rd_T44 l0 x3_1).f5) 1000000000000 false _ A84.out).mono ?_
             rintro e w' ⟨rfl,⟨nd,rfl⟩⟩
             refine ⟨_,rfl,?_⟩
             refine hK.out _ _ ⟨(blk_cell BK169.out 0).trans rfl,(blk_cell BK169.out 1).trans rfl,(blk_cell BK169.out 2).trans rfl,(blk_cell BK169.out 3).trans rfl,(blk_cell BK169.out 4).trans rfl,(blk_cell BK169.out 5).trans rfl⟩ (fun hHeld => ?_)
             clear hK K
             refine nm ?_
             refine pv 31 (some 49) (bm 47 4294967295) HT_ ?_
             refine pv 32 (some 50) (bm 47 8589934591) HT_ ?_
             refine pv 33 (some 51) (bm 47 17179869183) HT_ ?_
             refine tk 34 (some 52) (bm 47 34359738367) HT_ HW_ hHeld ?_
             refine ck 35 (some 53) (bm 47 68719476735) HT_ (fun K hK => ?_)
             refine gs Try.func42 #[.int .i64 ((rd_T44 l0 x3_1).f0),.int .i64 1000000] ?_
             with_reducible refine (hinterlandref09_Out.calls ((rd_T44 l0 x3_1).f0) 1000000 false _ A90.out).mono ?_
             rintro e w' ⟨rfl,⟨nd,rfl⟩⟩
             refine ⟨_,rfl,?_⟩
             refine hK.out _ _ ⟨(blk_cell BK169.out 0).trans rfl,(blk_cell BK169.out 1).trans rfl,(blk_cell BK169.out 2).trans rfl,(blk_cell BK169.out 3).trans rfl,(blk_cell BK169.out 4).trans rfl,(blk_cell BK169.out 5).trans rfl⟩ (fun hHeld => ?_)
             clear hK K
             refine nm ?_
             refine pv 36 (some 54) (bm 47 137438953471) HT_ ?_
             refine pv 37 (some 55) (bm 47 274877906943) HT_ ?_
             refine pv 38 (some 56) (bm 47 549755813887) HT_ ?_
             refine tk 39 (some 57) (bm 47 1099511627775) HT_ HW_ hHeld ?_
             refine ck 40 (some 58) (bm 47 2199023255551) HT_ (fun K hK => ?_)
             refine gs Try.func42 #[.int .i64 ((rd_T44 l0 x3_1).f1),.int .i64 1000000] ?_
             with_reducible refine (hinterlandref09_Out.calls ((rd_T44 l0 x3_1).f1) 1000000 true _ A96.out).mono ?_
             rintro e w' ⟨rfl,⟨nd,rfl⟩⟩
             refine ⟨_,rfl,?_⟩
             refine hK.out _ _ ⟨(blk_cell BK169.out 0).trans rfl,(blk_cell BK169.out 1).trans rfl,(blk_cell BK169.out 2).trans rfl,(blk_cell BK169.out 3).trans rfl,(blk_cell BK169.out 4).trans rfl,(blk_cell BK169.out 5).trans rfl⟩ (fun hHeld => ?_)
             clear hK K
             refine nm ?_
             refine pv 41 (some 59) (bm 47 4398046511103) HT_ ?_
             refine pv 42 (some 60) (bm 47 8796093022207) HT_ ?_
             refine pn 43 (some 61) (bm 47 17592186044415) HT_ ?_
             refine pn 44 (some 62) (bm 47 35184372088831) HT_ ?_
             refine pn 45 (some 63) (bm 47 70368744177663) HT_ ?_
             refine pv 46 (some 64) (bm 47 140737488355327) HT_ ?_
             refine done_ (done_of HT_.out (by kernel_rfl)) ?_
             try go_wp2
             go_ret
             exact ⟨by first | rfl | (simp [errW_none,errW_some] <;> rfl) | (simp [*,errW_none,errW_some] <;> rfl),by repeat (first | (with_reducible first | exact HB.out | apply below_alloc | apply pw_below_drewN | apply below_drew1 | refine below_set ?_ GE169.out) | exact HB.out)⟩
            ·replace c97:=Bool.eq_false_iff.mpr c97
             subst c97
             have H1 : ((hinterlandref09_Out.f ((rd_T44 l0 x3_1).f2) 1000000).bind fun t181 => (if t181 = true then (some 1) else (hinterlandref09_Validate.l0 k1 l0 (wrap64 (x3_1 + 1))))) = some r:=by rw [if_neg (show ¬ (false = true) by decide)] at H; exact H
             clear H
             have H:=H1
             clear H1
             replace H:=Option.bind_eq_some_iff.mp H
             obtain ⟨t181,A1020,H⟩:=H
             replace H : (if t181 = true then (some 1) else (hinterlandref09_Validate.l0 k1 l0 (wrap64 (x3_1 + 1)))) = some r:=H
             have A102:=Aside0.mk A1020
             clear A1020
             by_cases c103 : t181 = true
             ·subst c103
              have H1 : (some 1) = some r:=by rw [if_pos rfl] at H; exact H
              clear H
              have H:=H1
              clear H1
              obtain rfl:=Option.some.inj H
              have p168 : 0 ≤ (x3_1 : Int):=of_decide_eq_true (by first | (with_reducible assumption) | assumption)
              have q168 : x3_1 < (l0.length : Int):=of_decide_eq_true (by first | (with_reducible assumption) | assumption)
              obtain ⟨ad168,e168,hx168_0,hx168_1,hx168_2,hx168_3,hx168_4,hx168_5⟩:=at_T44 HR0.out x3_1 p168 q168
              cases e168
              replace hx168_0:=(HB.out.cell (World.block_lt_of_cell? w _ hx168_0)).trans hx168_0
              replace hx168_1:=(HB.out.cell (World.block_lt_of_cell? w _ hx168_1)).trans hx168_1
              replace hx168_2:=(HB.out.cell (World.block_lt_of_cell? w _ hx168_2)).trans hx168_2
              replace hx168_3:=(HB.out.cell (World.block_lt_of_cell? w _ hx168_3)).trans hx168_3
              replace hx168_4:=(HB.out.cell (World.block_lt_of_cell? w _ hx168_4)).trans hx168_4
              replace hx168_5:=(HB.out.cell (World.block_lt_of_cell? w _ hx168_5)).trans hx168_5
              replace p168:=eq_true p168
              replace q168:=eq_true q168
              try go_wp2_with (first | ((with_reducible refine gate_dst (N:=4) rfl ?_); refine box_event ?hg (N:=4) ?hd (cs:=#[.int .i64 0,.int .i64 0,.int .i64 0,.int .i64 0,.int .i64 0,.int .i64 0]) (t:=44) ?hr ?_; (case hd => rfl); (case hg => rfl); (case hr => first | (go_simp; done) | (go_simp; rfl)); intro gb169 hg w104 hbox hb; have n0_:=Aside0.mk (below_step (by repeat (first | (with_reducible first | exact HB.out | apply below_alloc | apply pw_below_drewN | apply below_drew1) | exact HB.out)) hb); have n1_:=Aside0.mk (hbox); have n2_:=Aside0.mk ((by rw [hg]; exact (below_size (by repeat (first | (with_reducible first | exact HB.out | apply below_alloc | apply pw_below_drewN | apply below_drew1) | exact HB.out))) : w.heap.size ≤ gb169)); have n3_:=Aside0.mk ((by rw [hg]; exact (below_size (by repeat (first | (with_reducible first | exact HB.out | apply below_alloc | apply pw_below_drewN | apply below_drew1) | exact HB.out))) : w.heap.size ≤ gb169)); clear HB; have HB:=n0_; have BK169:=n1_; have GW169:=n2_; have GE169:=n3_; clear n0_ n1_ n2_ n3_; clear hb hbox hg; have hcz105_0 : w104.cell? ⟨gb169,0,none⟩ = some (.int .i64 0):=(blk_cell BK169.out 0).trans rfl; have hcz105_1 : w104.cell? ⟨gb169,1,none⟩ = some (.int .i64 0):=(blk_cell BK169.out 1).trans rfl; have hcz105_2 : w104.cell? ⟨gb169,2,none⟩ = some (.int .i64 0):=(blk_cell BK169.out 2).trans rfl; have hcz105_3 : w104.cell? ⟨gb169,3,none⟩ = some (.int .i64 0):=(blk_cell BK169.out 3).trans rfl; have hcz105_4 : w104.cell? ⟨gb169,4,none⟩ = some (.int .i64 0):=(blk_cell BK169.out 4).trans rfl; have hcz105_5 : w104.cell? ⟨gb169,5,none⟩ = some (.int .i64 0):=(blk_cell BK169.out 5).trans rfl; have hfz105_0:=blk_frozen BK169.out 0; have hfz105_1:=blk_frozen BK169.out 1; have hfz105_2:=blk_frozen BK169.out 2; have hfz105_3:=blk_frozen BK169.out 3; have hfz105_4:=blk_frozen BK169.out 4; have hfz105_5:=blk_frozen BK169.out 5))
              have n0_ : Aside0 (((((((w104.setCell ⟨gb169,0,none⟩ (.int .i64 ((rd_T44 l0 x3_1).f0))).setCell ⟨gb169,1,none⟩ (.int .i64 ((rd_T44 l0 x3_1).f1))).setCell ⟨gb169,2,none⟩ (.int .i64 ((rd_T44 l0 x3_1).f2))).setCell ⟨gb169,3,none⟩ (.int .i64 ((rd_T44 l0 x3_1).f3))).setCell ⟨gb169,4,none⟩ (.int .i64 ((rd_T44 l0 x3_1).f4))).setCell ⟨gb169,5,none⟩ (.int .i64 ((rd_T44 l0 x3_1).f5))).heap[gb169]? = some (.cells #[.int .i64 ((rd_T44 l0 x3_1).f0),.int .i64 ((rd_T44 l0 x3_1).f1),.int .i64 ((rd_T44 l0 x3_1).f2),.int .i64 ((rd_T44 l0 x3_1).f3),.int .i64 ((rd_T44 l0 x3_1).f4),.int .i64 ((rd_T44 l0 x3_1).f5)] 44 (0,0))):=⟨by (with_reducible repeat (first | refine blk_drewN ?_ _ | refine blk_drew ?_ | refine blk_alloc ?_ _)); refine blk_put (cs:=#[.int .i64 ((rd_T44 l0 x3_1).f0),.int .i64 ((rd_T44 l0 x3_1).f1),.int .i64 ((rd_T44 l0 x3_1).f2),.int .i64 ((rd_T44 l0 x3_1).f3),.int .i64 ((rd_T44 l0 x3_1).f4),.int .i64 0]) ?_ 5 _ rfl; (with_reducible repeat (first | refine blk_drewN ?_ _ | refine blk_drew ?_ | refine blk_alloc ?_ _)); refine blk_put (cs:=#[.int .i64 ((rd_T44 l0 x3_1).f0),.int .i64 ((rd_T44 l0 x3_1).f1),.int .i64 ((rd_T44 l0 x3_1).f2),.int .i64 ((rd_T44 l0 x3_1).f3),.int .i64 0,.int .i64 0]) ?_ 4 _ rfl; (with_reducible repeat (first | refine blk_drewN ?_ _ | refine blk_drew ?_ | refine blk_alloc ?_ _)); refine blk_put (cs:=#[.int .i64 ((rd_T44 l0 x3_1).f0),.int .i64 ((rd_T44 l0 x3_1).f1),.int .i64 ((rd_T44 l0 x3_1).f2),.int .i64 0,.int .i64 0,.int .i64 0]) ?_ 3 _ rfl; (with_reducible repeat (first | refine blk_drewN ?_ _ | refine blk_drew ?_ | refine blk_alloc ?_ _)); refine blk_put (cs:=#[.int .i64 ((rd_T44 l0 x3_1).f0),.int .i64 ((rd_T44 l0 x3_1).f1),.int .i64 0,.int .i64 0,.int .i64 0,.int .i64 0]) ?_ 2 _ rfl; (with_reducible repeat (first | refine blk_drewN ?_ _ | refine blk_drew ?_ | refine blk_alloc ?_ _)); refine blk_put (cs:=#[.int .i64 ((rd_T44 l0 x3_1).f0),.int .i64 0,.int .i64 0,.int .i64 0,.int .i64 0,.int .i64 0]) ?_ 1 _ rfl; (with_reducible repeat (first | refine blk_drewN ?_ _ | refine blk_drew ?_ | refine blk_alloc ?_ _)); refine blk_put (cs:=#[.int .i64 0,.int .i64 0,.int .i64 0,.int .i64 0,.int .i64 0,.int .i64 0]) ?_ 0 _ rfl; (with_reducible repeat (first | refine blk_drewN ?_ _ | refine blk_drew ?_ | refine blk_alloc ?_ _)); exact BK169.out⟩
              have n1_ : Aside0 (Below w.heap.size w ((((((w104.setCell ⟨gb169,0,none⟩ (.int .i64 ((rd_T44 l0 x3_1).f0))).setCell ⟨gb169,1,none⟩ (.int .i64 ((rd_T44 l0 x3_1).f1))).setCell ⟨gb169,2,none⟩ (.int .i64 ((rd_T44 l0 x3_1).f2))).setCell ⟨gb169,3,none⟩ (.int .i64 ((rd_T44 l0 x3_1).f3))).setCell ⟨gb169,4,none⟩ (.int .i64 ((rd_T44 l0 x3_1).f4))).setCell ⟨gb169,5,none⟩ (.int .i64 ((rd_T44 l0 x3_1).f5)))):=⟨by repeat (first | (with_reducible first | exact HB.out | apply below_alloc | apply pw_below_drewN | apply below_drew1 | refine below_set ?_ GE169.out) | exact HB.out)⟩
              (try clear BK169)
              (try clear HB)
              generalize ((((((w104.setCell ⟨gb169,0,none⟩ (.int .i64 ((rd_T44 l0 x3_1).f0))).setCell ⟨gb169,1,none⟩ (.int .i64 ((rd_T44 l0 x3_1).f1))).setCell ⟨gb169,2,none⟩ (.int .i64 ((rd_T44 l0 x3_1).f2))).setCell ⟨gb169,3,none⟩ (.int .i64 ((rd_T44 l0 x3_1).f3))).setCell ⟨gb169,4,none⟩ (.int .i64 ((rd_T44 l0 x3_1).f4))).setCell ⟨gb169,5,none⟩ (.int .i64 ((rd_T44 l0 x3_1).f5))) = w106 at n0_ n1_ ⊢
              have BK169:=n0_
              have HB:=n1_
              clear n0_ n1_
              have n0_:=Aside0.mk (blk_drew BK169.out)
              have n1_:=Aside0.mk (below_drew1 HB.out)
              clear BK169
              clear HB
              have BK169:=n0_
              have HB:=n1_
              clear n0_ n1_
              refine start_ (n:=47) (S:=fun w' => w'.cell? ⟨gb169,0,none⟩ = some (.int .i64 ((rd_T44 l0 x3_1).f0)) ∧ w'.cell? ⟨gb169,1,none⟩ = some (.int .i64 ((rd_T44 l0 x3_1).f1)) ∧ w'.cell? ⟨gb169,2,none⟩ = some (.int .i64 ((rd_T44 l0 x3_1).f2)) ∧ w'.cell? ⟨gb169,3,none⟩ = some (.int .i64 ((rd_T44 l0 x3_1).f3)) ∧ w'.cell? ⟨gb169,4,none⟩ = some (.int .i64 ((rd_T44 l0 x3_1).f4)) ∧ w'.cell? ⟨gb169,5,none⟩ = some (.int .i64 ((rd_T44 l0 x3_1).f5))) (ds:=[]) (bm 47 0) (by kernel_rfl) rfl (by kernel_rfl) ⟨(blk_cell BK169.out 0).trans rfl,(blk_cell BK169.out 1).trans rfl,(blk_cell BK169.out 2).trans rfl,(blk_cell BK169.out 3).trans rfl,(blk_cell BK169.out 4).trans rfl,(blk_cell BK169.out 5).trans rfl⟩ (fun hHeld => ?_); refine with_tabW hinterlandref09_Validate.tab7 hinterlandref09_Validate.bits7 (fun HT_ HW_ => ?_)
              generalize w106.drew = w107 at BK169 HB hHeld ⊢
              refine pv 0 (some 18) (bm 47 1) HT_ ?_
              refine pv 1 (some 19) (bm 47 3) HT_ ?_
              refine pv 2 (some 20) (bm 47 7) HT_ ?_
              refine pn 3 (some 21) (bm 47 15) HT_ ?_
              refine pn 4 (some 22) (bm 47 31) HT_ ?_
              refine pn 5 (some 23) (bm 47 63) HT_ ?_
              refine pn 6 (some 24) (bm 47 127) HT_ ?_
              refine pn 7 (some 25) (bm 47 255) HT_ ?_
              refine pn 8 (some 26) (bm 47 511) HT_ ?_
              refine pn 9 (some 27) (bm 47 1023) HT_ ?_
              refine pn 10 (some 28) (bm 47 2047) HT_ ?_
              refine pv 11 (some 29) (bm 47 4095) HT_ ?_
              refine pv 12 (some 30) (bm 47 8191) HT_ ?_
              refine pv 13 (some 31) (bm 47 16383) HT_ ?_
              refine tk 14 (some 32) (bm 47 32767) HT_ HW_ hHeld ?_
              refine pv 15 (some 33) (bm 47 65535) HT_ ?_
              refine pv 16 (some 34) (bm 47 131071) HT_ ?_
              refine pv 17 (some 35) (bm 47 262143) HT_ ?_
              refine pv 18 (some 36) (bm 47 524287) HT_ ?_
              refine tk 19 (some 37) (bm 47 1048575) HT_ HW_ hHeld ?_
              refine pv 20 (some 38) (bm 47 2097151) HT_ ?_
              refine pv 21 (some 39) (bm 47 4194303) HT_ ?_
              refine pv 22 (some 40) (bm 47 8388607) HT_ ?_
              refine pv 23 (some 41) (bm 47 16777215) HT_ ?_
              refine tk 24 (some 42) (bm 47 33554431) HT_ HW_ hHeld ?_
              refine ck 25 (some 43) (bm 47 67108863) HT_ (fun K hK => ?_)
              refine gs Try.func42 #[.int .i64 ((rd_T44 l0 x3_1).f3),.int .i64 255] ?_
              with_reducible refine (hinterlandref09_Out.calls ((rd_T44 l0 x3_1).f3) 255 false _ A78.out).mono ?_
              rintro e w' ⟨rfl,⟨nd,rfl⟩⟩
              refine ⟨_,rfl,?_⟩
              refine hK.out _ _ ⟨(blk_cell BK169.out 0).trans rfl,(blk_cell BK169.out 1).trans rfl,(blk_cell BK169.out 2).trans rfl,(blk_cell BK169.out 3).trans rfl,(blk_cell BK169.out 4).trans rfl,(blk_cell BK169.out 5).trans rfl⟩ (fun hHeld => ?_)
              clear hK K
              refine nm ?_
              refine pv 26 (some 44) (bm 47 134217727) HT_ ?_
              refine pv 27 (some 45) (bm 47 268435455) HT_ ?_
              refine pv 28 (some 46) (bm 47 536870911) HT_ ?_
              refine tk 29 (some 47) (bm 47 1073741823) HT_ HW_ hHeld ?_
              refine ck 30 (some 48) (bm 47 2147483647) HT_ (fun K hK => ?_)
              refine gs Try.func42 #[.int .i64 ((rd_T44 l0 x3_1).f5),.int .i64 1000000000000] ?_
              with_reducible refine (hinterlandref09_Out.calls ((rd_T44 l0 x3_1).f5) 1000000000000 false _ A84.out).mono ?_
              rintro e w' ⟨rfl,⟨nd,rfl⟩⟩
              refine ⟨_,rfl,?_⟩
              refine hK.out _ _ ⟨(blk_cell BK169.out 0).trans rfl,(blk_cell BK169.out 1).trans rfl,(blk_cell BK169.out 2).trans rfl,(blk_cell BK169.out 3).trans rfl,(blk_cell BK169.out 4).trans rfl,(blk_cell BK169.out 5).trans rfl⟩ (fun hHeld => ?_)
              clear hK K
              refine nm ?_
              refine pv 31 (some 49) (bm 47 4294967295) HT_ ?_
              refine pv 32 (some 50) (bm 47 8589934591) HT_ ?_
              refine pv 33 (some 51) (bm 47 17179869183) HT_ ?_
              refine tk 34 (some 52) (bm 47 34359738367) HT_ HW_ hHeld ?_
              refine ck 35 (some 53) (bm 47 68719476735) HT_ (fun K hK => ?_)
              refine gs Try.func42 #[.int .i64 ((rd_T44 l0 x3_1).f0),.int .i64 1000000] ?_
              with_reducible refine (hinterlandref09_Out.calls ((rd_T44 l0 x3_1).f0) 1000000 false _ A90.out).mono ?_
              rintro e w' ⟨rfl,⟨nd,rfl⟩⟩
              refine ⟨_,rfl,?_⟩
              refine hK.out _ _ ⟨(blk_cell BK169.out 0).trans rfl,(blk_cell BK169.out 1).trans rfl,(blk_cell BK169.out 2).trans rfl,(blk_cell BK169.out 3).trans rfl,(blk_cell BK169.out 4).trans rfl,(blk_cell BK169.out 5).trans rfl⟩ (fun hHeld => ?_)
              clear hK K
              refine nm ?_
              refine pv 36 (some 54) (bm 47 137438953471) HT_ ?_
              refine pv 37 (some 55) (bm 47 274877906943) HT_ ?_
              refine pv 38 (some 56) (bm 47 549755813887) HT_ ?_
              refine tk 39 (some 57) (bm 47 1099511627775) HT_ HW_ hHeld ?_
              refine ck 40 (some 58) (bm 47 2199023255551) HT_ (fun K hK => ?_)
              refine gs Try.func42 #[.int .i64 ((rd_T44 l0 x3_1).f1),.int .i64 1000000] ?_
              with_reducible refine (hinterlandref09_Out.calls ((rd_T44 l0 x3_1).f1) 1000000 false _ A96.out).mono ?_
              rintro e w' ⟨rfl,⟨nd,rfl⟩⟩
              refine ⟨_,rfl,?_⟩
              refine hK.out _ _ ⟨(blk_cell BK169.out 0).trans rfl,(blk_cell BK169.out 1).trans rfl,(blk_cell BK169.out 2).trans rfl,(blk_cell BK169.out 3).trans rfl,(blk_cell BK169.out 4).trans rfl,(blk_cell BK169.out 5).trans rfl⟩ (fun hHeld => ?_)
              clear hK K
              refine nm ?_
              refine pv 41 (some 59) (bm 47 4398046511103) HT_ ?_
              refine pv 42 (some 60) (bm 47 8796093022207) HT_ ?_
              refine pv 43 (some 61) (bm 47 17592186044415) HT_ ?_
              refine tk 44 (some 62) (bm 47 35184372088831) HT_ HW_ hHeld ?_
              refine ck 45 (some 63) (bm 47 70368744177663) HT_ (fun K hK => ?_)
              refine gs Try.func42 #[.int .i64 ((rd_T44 l0 x3_1).f2),.int .i64 1000000] ?_
              with_reducible refine (hinterlandref09_Out.calls ((rd_T44 l0 x3_1).f2) 1000000 true _ A102.out).mono ?_
              rintro e w' ⟨rfl,⟨nd,rfl⟩⟩
              refine ⟨_,rfl,?_⟩
              refine hK.out _ _ ⟨(blk_cell BK169.out 0).trans rfl,(blk_cell BK169.out 1).trans rfl,(blk_cell BK169.out 2).trans rfl,(blk_cell BK169.out 3).trans rfl,(blk_cell BK169.out 4).trans rfl,(blk_cell BK169.out 5).trans rfl⟩ (fun hHeld => ?_)
              clear hK K
              refine nm ?_
              refine pv 46 (some 64) (bm 47 140737488355327) HT_ ?_
              refine done_ (done_of HT_.out (by kernel_rfl)) ?_
              try go_wp2
              go_ret
              exact ⟨by first | rfl | (simp [errW_none,errW_some] <;> rfl) | (simp [*,errW_none,errW_some] <;> rfl),by repeat (first | (with_reducible first | exact HB.out | apply below_alloc | apply pw_below_drewN | apply below_drew1 | refine below_set ?_ GE169.out) | exact HB.out)⟩
             ·replace c103:=Bool.eq_false_iff.mpr c103
              subst c103
              have H1 : (hinterlandref09_Validate.l0 k1 l0 (wrap64 (x3_1 + 1))) = some r:=by rw [if_neg (show ¬ (false = true) by decide)] at H; exact H
              clear H
              have H:=H1
              clear H1
              have H':=Aside0.mk H
              clear H
              have p168 : 0 ≤ (x3_1 : Int):=of_decide_eq_true (by first | (with_reducible assumption) | assumption)
              have q168 : x3_1 < (l0.length : Int):=of_decide_eq_true (by first | (with_reducible assumption) | assumption)
              obtain ⟨ad168,e168,hx168_0,hx168_1,hx168_2,hx168_3,hx168_4,hx168_5⟩:=at_T44 HR0.out x3_1 p168 q168
              cases e168
              replace hx168_0:=(HB.out.cell (World.block_lt_of_cell? w _ hx168_0)).trans hx168_0
              replace hx168_1:=(HB.out.cell (World.block_lt_of_cell? w _ hx168_1)).trans hx168_1
              replace hx168_2:=(HB.out.cell (World.block_lt_of_cell? w _ hx168_2)).trans hx168_2
              replace hx168_3:=(HB.out.cell (World.block_lt_of_cell? w _ hx168_3)).trans hx168_3
              replace hx168_4:=(HB.out.cell (World.block_lt_of_cell? w _ hx168_4)).trans hx168_4
              replace hx168_5:=(HB.out.cell (World.block_lt_of_cell? w _ hx168_5)).trans hx168_5
              replace p168:=eq_true p168
              replace q168:=eq_true q168
              try go_wp2_with (first | ((with_reducible refine gate_dst (N:=4) rfl ?_); refine box_event ?hg (N:=4) ?hd (cs:=#[.int .i64 0,.int .i64 0,.int .i64 0,.int .i64 0,.int .i64 0,.int .i64 0]) (t:=44) ?hr ?_; (case hd => rfl); (case hg => rfl); (case hr => first | (go_simp; done) | (go_simp; rfl)); intro gb169 hg w108 hbox hb; have n0_:=Aside0.mk (below_step (by repeat (first | (with_reducible first | exact HB.out | apply below_alloc | apply pw_below_drewN | apply below_drew1) | exact HB.out)) hb); have n1_:=Aside0.mk (hbox); have n2_:=Aside0.mk ((by rw [hg]; exact (below_size (by repeat (first | (with_reducible first | exact HB.out | apply below_alloc | apply pw_below_drewN | apply below_drew1) | exact HB.out))) : w.heap.size ≤ gb169)); have n3_:=Aside0.mk ((by rw [hg]; exact (below_size (by repeat (first | (with_reducible first | exact HB.out | apply below_alloc | apply pw_below_drewN | apply below_drew1) | exact HB.out))) : w.heap.size ≤ gb169)); clear HB; have HB:=n0_; have BK169:=n1_; have GW169:=n2_; have GE169:=n3_; clear n0_ n1_ n2_ n3_; clear hb hbox hg; have hcz109_0 : w108.cell? ⟨gb169,0,none⟩ = some (.int .i64 0):=(blk_cell BK169.out 0).trans rfl; have hcz109_1 : w108.cell? ⟨gb169,1,none⟩ = some (.int .i64 0):=(blk_cell BK169.out 1).trans rfl; have hcz109_2 : w108.cell? ⟨gb169,2,none⟩ = some (.int .i64 0):=(blk_cell BK169.out 2).trans rfl; have hcz109_3 : w108.cell? ⟨gb169,3,none⟩ = some (.int .i64 0):=(blk_cell BK169.out 3).trans rfl; have hcz109_4 : w108.cell? ⟨gb169,4,none⟩ = some (.int .i64 0):=(blk_cell BK169.out 4).trans rfl; have hcz109_5 : w108.cell? ⟨gb169,5,none⟩ = some (.int .i64 0):=(blk_cell BK169.out 5).trans rfl; have hfz109_0:=blk_frozen BK169.out 0; have hfz109_1:=blk_frozen BK169.out 1; have hfz109_2:=blk_frozen BK169.out 2; have hfz109_3:=blk_frozen BK169.out 3; have hfz109_4:=blk_frozen BK169.out 4; have hfz109_5:=blk_frozen BK169.out 5))
              have n0_ : Aside0 (((((((w108.setCell ⟨gb169,0,none⟩ (.int .i64 ((rd_T44 l0 x3_1).f0))).setCell ⟨gb169,1,none⟩ (.int .i64 ((rd_T44 l0 x3_1).f1))).setCell ⟨gb169,2,none⟩ (.int .i64 ((rd_T44 l0 x3_1).f2))).setCell ⟨gb169,3,none⟩ (.int .i64 ((rd_T44 l0 x3_1).f3))).setCell ⟨gb169,4,none⟩ (.int .i64 ((rd_T44 l0 x3_1).f4))).setCell ⟨gb169,5,none⟩ (.int .i64 ((rd_T44 l0 x3_1).f5))).heap[gb169]? = some (.cells #[.int .i64 ((rd_T44 l0 x3_1).f0),.int .i64 ((rd_T44 l0 x3_1).f1),.int .i64 ((rd_T44 l0 x3_1).f2),.int .i64 ((rd_T44 l0 x3_1).f3),.int .i64 ((rd_T44 l0 x3_1).f4),.int .i64 ((rd_T44 l0 x3_1).f5)] 44 (0,0))):=⟨by (with_reducible repeat (first | refine blk_drewN ?_ _ | refine blk_drew ?_ | refine blk_alloc ?_ _)); refine blk_put (cs:=#[.int .i64 ((rd_T44 l0 x3_1).f0),.int .i64 ((rd_T44 l0 x3_1).f1),.int .i64 ((rd_T44 l0 x3_1).f2),.int .i64 ((rd_T44 l0 x3_1).f3),.int .i64 ((rd_T44 l0 x3_1).f4),.int .i64 0]) ?_ 5 _ rfl; (with_reducible repeat (first | refine blk_drewN ?_ _ | refine blk_drew ?_ | refine blk_alloc ?_ _)); refine blk_put (cs:=#[.int .i64 ((rd_T44 l0 x3_1).f0),.int .i64 ((rd_T44 l0 x3_1).f1),.int .i64 ((rd_T44 l0 x3_1).f2),.int .i64 ((rd_T44 l0 x3_1).f3),.int .i64 0,.int .i64 0]) ?_ 4 _ rfl; (with_reducible repeat (first | refine blk_drewN ?_ _ | refine blk_drew ?_ | refine blk_alloc ?_ _)); refine blk_put (cs:=#[.int .i64 ((rd_T44 l0 x3_1).f0),.int .i64 ((rd_T44 l0 x3_1).f1),.int .i64 ((rd_T44 l0 x3_1).f2),.int .i64 0,.int .i64 0,.int .i64 0]) ?_ 3 _ rfl; (with_reducible repeat (first | refine blk_drewN ?_ _ | refine blk_drew ?_ | refine blk_alloc ?_ _)); refine blk_put (cs:=#[.int .i64 ((rd_T44 l0 x3_1).f0),.int .i64 ((rd_T44 l0 x3_1).f1),.int .i64 0,.int .i64 0,.int .i64 0,.int .i64 0]) ?_ 2 _ rfl; (with_reducible repeat (first | refine blk_drewN ?_ _ | refine blk_drew ?_ | refine blk_alloc ?_ _)); refine blk_put (cs:=#[.int .i64 ((rd_T44 l0 x3_1).f0),.int .i64 0,.int .i64 0,.int .i64 0,.int .i64 0,.int .i64 0]) ?_ 1 _ rfl; (with_reducible repeat (first | refine blk_drewN ?_ _ | refine blk_drew ?_ | refine blk_alloc ?_ _)); refine blk_put (cs:=#[.int .i64 0,.int .i64 0,.int .i64 0,.int .i64 0,.int .i64 0,.int .i64 0]) ?_ 0 _ rfl; (with_reducible repeat (first | refine blk_drewN ?_ _ | refine blk_drew ?_ | refine blk_alloc ?_ _)); exact BK169.out⟩
              have n1_ : Aside0 (Below w.heap.size w ((((((w108.setCell ⟨gb169,0,none⟩ (.int .i64 ((rd_T44 l0 x3_1).f0))).setCell ⟨gb169,1,none⟩ (.int .i64 ((rd_T44 l0 x3_1).f1))).setCell ⟨gb169,2,none⟩ (.int .i64 ((rd_T44 l0 x3_1).f2))).setCell ⟨gb169,3,none⟩ (.int .i64 ((rd_T44 l0 x3_1).f3))).setCell ⟨gb169,4,none⟩ (.int .i64 ((rd_T44 l0 x3_1).f4))).setCell ⟨gb169,5,none⟩ (.int .i64 ((rd_T44 l0 x3_1).f5)))):=⟨by repeat (first | (with_reducible first | exact HB.out | apply below_alloc | apply pw_below_drewN | apply below_drew1 | refine below_set ?_ GE169.out) | exact HB.out)⟩
              (try clear BK169)
              (try clear HB)
              generalize ((((((w108.setCell ⟨gb169,0,none⟩ (.int .i64 ((rd_T44 l0 x3_1).f0))).setCell ⟨gb169,1,none⟩ (.int .i64 ((rd_T44 l0 x3_1).f1))).setCell ⟨gb169,2,none⟩ (.int .i64 ((rd_T44 l0 x3_1).f2))).setCell ⟨gb169,3,none⟩ (.int .i64 ((rd_T44 l0 x3_1).f3))).setCell ⟨gb169,4,none⟩ (.int .i64 ((rd_T44 l0 x3_1).f4))).setCell ⟨gb169,5,none⟩ (.int .i64 ((rd_T44 l0 x3_1).f5))) = w110 at n0_ n1_ ⊢
              have BK169:=n0_
              have HB:=n1_
              clear n0_ n1_
              have n0_:=Aside0.mk (blk_drew BK169.out)
              have n1_:=Aside0.mk (below_drew1 HB.out)
              clear BK169
              clear HB
              have BK169:=n0_
              have HB:=n1_
              clear n0_ n1_
              refine start_ (n:=47) (S:=fun w' => w'.cell? ⟨gb169,0,none⟩ = some (.int .i64 ((rd_T44 l0 x3_1).f0)) ∧ w'.cell? ⟨gb169,1,none⟩ = some (.int .i64 ((rd_T44 l0 x3_1).f1)) ∧ w'.cell? ⟨gb169,2,none⟩ = some (.int .i64 ((rd_T44 l0 x3_1).f2)) ∧ w'.cell? ⟨gb169,3,none⟩ = some (.int .i64 ((rd_T44 l0 x3_1).f3)) ∧ w'.cell? ⟨gb169,4,none⟩ = some (.int .i64 ((rd_T44 l0 x3_1).f4)) ∧ w'.cell? ⟨gb169,5,none⟩ = some (.int .i64 ((rd_T44 l0 x3_1).f5))) (ds:=[]) (bm 47 0) (by kernel_rfl) rfl (by kernel_rfl) ⟨(blk_cell BK169.out 0).trans rfl,(blk_cell BK169.out 1).trans rfl,(blk_cell BK169.out 2).trans rfl,(blk_cell BK169.out 3).trans rfl,(blk_cell BK169.out 4).trans rfl,(blk_cell BK169.out 5).trans rfl⟩ (fun hHeld => ?_); refine with_tabW hinterlandref09_Validate.tab7 hinterlandref09_Validate.bits7 (fun HT_ HW_ => ?_)
              generalize w110.drew = w111 at BK169 HB hHeld ⊢
              refine pv 0 (some 18) (bm 47 1) HT_ ?_
              refine pv 1 (some 19) (bm 47 3) HT_ ?_
              refine pv 2 (some 20) (bm 47 7) HT_ ?_
              refine pn 3 (some 21) (bm 47 15) HT_ ?_
              refine pn 4 (some 22) (bm 47 31) HT_ ?_
              refine pn 5 (some 23) (bm 47 63) HT_ ?_
              refine pn 6 (some 24) (bm 47 127) HT_ ?_
              refine pn 7 (some 25) (bm 47 255) HT_ ?_
              refine pn 8 (some 26) (bm 47 511) HT_ ?_
              refine pn 9 (some 27) (bm 47 1023) HT_ ?_
              refine pn 10 (some 28) (bm 47 2047) HT_ ?_
              refine pv 11 (some 29) (bm 47 4095) HT_ ?_
              refine pv 12 (some 30) (bm 47 8191) HT_ ?_
              refine pv 13 (some 31) (bm 47 16383) HT_ ?_
              refine tk 14 (some 32) (bm 47 32767) HT_ HW_ hHeld ?_
              refine pv 15 (some 33) (bm 47 65535) HT_ ?_
              refine pv 16 (some 34) (bm 47 131071) HT_ ?_
              refine pv 17 (some 35) (bm 47 262143) HT_ ?_
              refine pv 18 (some 36) (bm 47 524287) HT_ ?_
              refine tk 19 (some 37) (bm 47 1048575) HT_ HW_ hHeld ?_
              refine pv 20 (some 38) (bm 47 2097151) HT_ ?_
              refine pv 21 (some 39) (bm 47 4194303) HT_ ?_
              refine pv 22 (some 40) (bm 47 8388607) HT_ ?_
              refine pv 23 (some 41) (bm 47 16777215) HT_ ?_
              refine tk 24 (some 42) (bm 47 33554431) HT_ HW_ hHeld ?_
              refine ck 25 (some 43) (bm 47 67108863) HT_ (fun K hK => ?_)
              refine gs Try.func42 #[.int .i64 ((rd_T44 l0 x3_1).f3),.int .i64 255] ?_
              with_reducible refine (hinterlandref09_Out.calls ((rd_T44 l0 x3_1).f3) 255 false _ A78.out).mono ?_
              rintro e w' ⟨rfl,⟨nd,rfl⟩⟩
              refine ⟨_,rfl,?_⟩
              refine hK.out _ _ ⟨(blk_cell BK169.out 0).trans rfl,(blk_cell BK169.out 1).trans rfl,(blk_cell BK169.out 2).trans rfl,(blk_cell BK169.out 3).trans rfl,(blk_cell BK169.out 4).trans rfl,(blk_cell BK169.out 5).trans rfl⟩ (fun hHeld => ?_)
              clear hK K
              refine nm ?_
              refine pv 26 (some 44) (bm 47 134217727) HT_ ?_
              refine pv 27 (some 45) (bm 47 268435455) HT_ ?_
              refine pv 28 (some 46) (bm 47 536870911) HT_ ?_
              refine tk 29 (some 47) (bm 47 1073741823) HT_ HW_ hHeld ?_
              refine ck 30 (some 48) (bm 47 2147483647) HT_ (fun K hK => ?_)
              refine gs Try.func42 #[.int .i64 ((rd_T44 l0 x3_1).f5),.int .i64 1000000000000] ?_
              with_reducible refine (hinterlandref09_Out.calls ((rd_T44 l0 x3_1).f5) 1000000000000 false _ A84.out).mono ?_
              rintro e w' ⟨rfl,⟨nd,rfl⟩⟩
              refine ⟨_,rfl,?_⟩
              refine hK.out _ _ ⟨(blk_cell BK169.out 0).trans rfl,(blk_cell BK169.out 1).trans rfl,(blk_cell BK169.out 2).trans rfl,(blk_cell BK169.out 3).trans rfl,(blk_cell BK169.out 4).trans rfl,(blk_cell BK169.out 5).trans rfl⟩ (fun hHeld => ?_)
              clear hK K
              refine nm ?_
              refine pv 31 (some 49) (bm 47 4294967295) HT_ ?_
              refine pv 32 (some 50) (bm 47 8589934591) HT_ ?_
              refine pv 33 (some 51) (bm 47 17179869183) HT_ ?_
              refine tk 34 (some 52) (bm 47 34359738367) HT_ HW_ hHeld ?_
              refine ck 35 (some 53) (bm 47 68719476735) HT_ (fun K hK => ?_)
              refine gs Try.func42 #[.int .i64 ((rd_T44 l0 x3_1).f0),.int .i64 1000000] ?_
              with_reducible refine (hinterlandref09_Out.calls ((rd_T44 l0 x3_1).f0) 1000000 false _ A90.out).mono ?_
              rintro e w' ⟨rfl,⟨nd,rfl⟩⟩
              refine ⟨_,rfl,?_⟩
              refine hK.out _ _ ⟨(blk_cell BK169.out 0).trans rfl,(blk_cell BK169.out 1).trans rfl,(blk_cell BK169.out 2).trans rfl,(blk_cell BK169.out 3).trans rfl,(blk_cell BK169.out 4).trans rfl,(blk_cell BK169.out 5).trans rfl⟩ (fun hHeld => ?_)
              clear hK K
              refine nm ?_
              refine pv 36 (some 54) (bm 47 137438953471) HT_ ?_
              refine pv 37 (some 55) (bm 47 274877906943) HT_ ?_
              refine pv 38 (some 56) (bm 47 549755813887) HT_ ?_
              refine tk 39 (some 57) (bm 47 1099511627775) HT_ HW_ hHeld ?_
              refine ck 40 (some 58) (bm 47 2199023255551) HT_ (fun K hK => ?_)
              refine gs Try.func42 #[.int .i64 ((rd_T44 l0 x3_1).f1),.int .i64 1000000] ?_
              with_reducible refine (hinterlandref09_Out.calls ((rd_T44 l0 x3_1).f1) 1000000 false _ A96.out).mono ?_
              rintro e w' ⟨rfl,⟨nd,rfl⟩⟩
              refine ⟨_,rfl,?_⟩
              refine hK.out _ _ ⟨(blk_cell BK169.out 0).trans rfl,(blk_cell BK169.out 1).trans rfl,(blk_cell BK169.out 2).trans rfl,(blk_cell BK169.out 3).trans rfl,(blk_cell BK169.out 4).trans rfl,(blk_cell BK169.out 5).trans rfl⟩ (fun hHeld => ?_)
              clear hK K
              refine nm ?_
              refine pv 41 (some 59) (bm 47 4398046511103) HT_ ?_
              refine pv 42 (some 60) (bm 47 8796093022207) HT_ ?_
              refine pv 43 (some 61) (bm 47 17592186044415) HT_ ?_
              refine tk 44 (some 62) (bm 47 35184372088831) HT_ HW_ hHeld ?_
              refine ck 45 (some 63) (bm 47 70368744177663) HT_ (fun K hK => ?_)
              refine gs Try.func42 #[.int .i64 ((rd_T44 l0 x3_1).f2),.int .i64 1000000] ?_
              with_reducible refine (hinterlandref09_Out.calls ((rd_T44 l0 x3_1).f2) 1000000 false _ A102.out).mono ?_
              rintro e w' ⟨rfl,⟨nd,rfl⟩⟩
              refine ⟨_,rfl,?_⟩
              refine hK.out _ _ ⟨(blk_cell BK169.out 0).trans rfl,(blk_cell BK169.out 1).trans rfl,(blk_cell BK169.out 2).trans rfl,(blk_cell BK169.out 3).trans rfl,(blk_cell BK169.out 4).trans rfl,(blk_cell BK169.out 5).trans rfl⟩ (fun hHeld => ?_)
              clear hK K
              refine nm ?_
              refine pv 46 (some 64) (bm 47 140737488355327) HT_ ?_
              refine done_ (done_of HT_.out (by kernel_rfl)) ?_
              try go_wp2
              go_roundg k1
              case measure => have:=HK1.out; omega
              case rel => exact ⟨(wrap64 (x3_1 + 1)),(by first | rfl | (simp; done) | (simp [*]; done)),H',⟨by have:=HK1.out; omega⟩,⟨by repeat (first | (with_reducible first | exact HB.out | apply below_alloc | apply pw_below_drewN | apply below_drew1 | refine below_set ?_ GE169.out) | exact HB.out)⟩⟩
     ·rw [if_neg c4] at H
      exact absurd H (by simp)
    ·rw [if_neg c3] at H
     have c3b0 : decide (x3_1 < (l0.length : Int)) = false:=decide_eq_false c3
     clear c3
     obtain rfl:=Option.some.inj H
     go_wp2
     go_ret
     exact ⟨by first | rfl | (simp [errW_none,errW_some] <;> rfl) | (simp [*,errW_none,errW_some] <;> rfl),by repeat (first | (with_reducible first | exact HB.out | apply below_alloc | apply pw_below_drewN | apply below_drew1) | exact HB.out)⟩

end Go.Proofs.Ytmphplpfgjcpiaa.PCargo
