/- Lean functions with the answers of the Go functions that a law uses,and for each that the Go code comes to just that; written by a program of this session's. -/
import Derived.Test.YtmphplpfgjcpiaaPCargox0
import Derived.Test.YtmphplpfgjcpiaaPCargoxF47
import Derived.Test.YtmphplpfgjcpiaaPCargoxF48
namespace Go.Proofs.Ytmphplpfgjcpiaa.PCargo
open Go.RowKit Go.Proofs.YtmphplpfgjcpiaaW.PrintWords Go.Proofs.YtmphplpfgjcpiaaW.PrintLast Go.Proofs.YtmphplpfgjcpiaaW.PrintMore
attribute [local go_sem] max2_int min2_int max_two min_two max_three min_three max_four min_four   -- for this text's walks alone
set_option linter.unusedVariables false
set_option linter.unusedSimpArgs false

/-! ### cargo_Validate: function 21 -/
def cargo_Validate.l0 : Nat → List (S44) → List (S44) → Int → Int → Option (Int)
 | 0,_,_,_,_ => none
 | k + 1,x0,x8,x9,x10 => if x10 < x9 then (if 0 ≤ x10 then (if x10 < (x8.length : Int) then ((cargo_sound.f ((rd_T44 x8 x10).f0) ((rd_T44 x8 x10).f1) ((rd_T44 x8 x10).f2) ((rd_T44 x8 x10).f3) ((rd_T44 x8 x10).f4) ((rd_T44 x8 x10).f5)).bind fun t103 => (if t103 = true then (if x10 > 0 then (if 0 ≤ (wrap64 (x10 - 1)) then (if (wrap64 (x10 - 1)) < (x0.length : Int) then ((cargo_compare.f k ((rd_T44 x0 (wrap64 (x10 - 1))).f0) ((rd_T44 x0 (wrap64 (x10 - 1))).f1) ((rd_T44 x0 (wrap64 (x10 - 1))).f2) ((rd_T44 x0 (wrap64 (x10 - 1))).f3) ((rd_T44 x0 (wrap64 (x10 - 1))).f4) ((rd_T44 x0 (wrap64 (x10 - 1))).f5) ((rd_T44 x8 x10).f0) ((rd_T44 x8 x10).f1) ((rd_T44 x8 x10).f2) ((rd_T44 x8 x10).f3) ((rd_T44 x8 x10).f4) ((rd_T44 x8 x10).f5)).bind fun t105 => (if t105 ≥ 0 then (some 1) else (cargo_Validate.l0 k x0 x8 x9 (wrap64 (x10 + 1))))) else (none)) else (none)) else (cargo_Validate.l0 k x0 x8 x9 (wrap64 (x10 + 1)))) else (some 1))) else (none)) else (none)) else (some 0)
def cargo_Validate.f (k : Nat) (l0 : List (S44)) : Option (Int):=if (l0.length : Int) > 200 then (some 4) else (cargo_Validate.l0 k l0 l0 (l0.length : Int) 0)
theorem cargo_Validate.mono_l : ∀ k,(∀ y0 y1 y2 y3,LeO (cargo_Validate.l0 k y0 y1 y2 y3) (cargo_Validate.l0 (k + 1) y0 y1 y2 y3))
 | 0 => fun _ _ _ _ r h => by simp [cargo_Validate.l0] at h
 | k + 1 => by
  have ih0:=cargo_Validate.mono_l k
  ·intro y0 y1 y2 y3
   unfold cargo_Validate.l0
   repeat' first
   | (with_reducible exact ih0 _ _ _ _)
   | (with_reducible exact cargo_compare.mono _ _ _ _ _ _ _ _ _ _ _ _ _)
   | (with_reducible exact LeO.refl _)
   | (with_reducible exact LeO.none _)
   | (with_reducible refine LeO.ite ?_ ?_)
   | (with_reducible refine LeO.bind ?_ (fun _ => ?_))
   | exact ih0 _ _ _ _
   | exact cargo_compare.mono _ _ _ _ _ _ _ _ _ _ _ _ _
   | exact LeO.none _
   | refine LeO.ite ?_ ?_
   | refine LeO.bind ?_ (fun _ => ?_)
theorem cargo_Validate.mono : ∀ a0 k,LeO (cargo_Validate.f k a0) (cargo_Validate.f (k + 1) a0):=by
 intro a0 k
 have ih0:=cargo_Validate.mono_l k
 unfold cargo_Validate.f
 repeat' first
   | (with_reducible exact ih0 _ _ _ _)
   | (with_reducible exact cargo_compare.mono _ _ _ _ _ _ _ _ _ _ _ _ _)
   | (with_reducible exact LeO.refl _)
   | (with_reducible exact LeO.none _)
   | (with_reducible refine LeO.ite ?_ ?_)
   | (with_reducible refine LeO.bind ?_ (fun _ => ?_))
   | exact ih0 _ _ _ _
   | exact cargo_compare.mono _ _ _ _ _ _ _ _ _ _ _ _ _
   | exact LeO.none _
   | refine LeO.ite ?_ ?_
   | refine LeO.bind ?_ (fun _ => ?_)
def cargo_Validate.T6 : Bool × List (List Nat × List Nat):=(true,[([],[]),([0],[0]),([1],[1]),([2,1],[2]),([3],[3]),([4,3],[3,4]),([5,3,3],[3,5]),([6],[6]),([6],[6]),([8,6],[6,8]),([7,9,6],[6,7,9]),([10,6],[6,10]),([6],[6]),([11,12,6,6],[6,11,12]),([13,6],[6,13]),([6,14,3],[3,6,14]),([3,15],[3,15])])
def cargo_Validate.B6 : List Nat:=[0,1,3,7,15,31,63,127,127,383,1023,2047,127,8191,16383,32767,65535]
theorem cargo_Validate.tab6 : rtab .any (opsOf Try.f21 6) = cargo_Validate.T6:=by kernel_rfl
theorem cargo_Validate.bits6 : waitsOk cargo_Validate.T6.2 cargo_Validate.B6 = true:=by kernel_rfl
set_option maxHeartbeats 8000000 in
set_option maxRecDepth 100000 in
theorem cargo_Validate.calls (k : Nat) (A0 : Option Addr) (c0 : Nat) (l0 : List (S44)) (r : Int) (w : World) (hr0 : Kd.C k44 w A0 l0.length l0) (hc0 : l0.length ≤ c0) (h : cargo_Validate.f k l0 = some r) :
  Calls Try.prog 21 #[.slice A0 l0.length c0] w fun e w' => e = .returned (.int .i64 r) ∧ Below w.heap.size w w':=by
 have hu44:=Try.underlying44
 have HR0:=Aside0.mk hr0
 have HC0:=Aside0.mk hc0
 clear hr0 hc0
 have HB:=Aside0.mk (Below.refl w.heap.size w)
 have H : (if (l0.length : Int) > 200 then (some 4) else (cargo_Validate.l0 k l0 l0 (l0.length : Int) 0)) = some r:=h
 clear h
 by_cases c2 : (l0.length : Int) > 200
 ·rw [if_pos c2] at H
  have c2b0 : decide (200 < (l0.length : Int)) = true:=decide_eq_true c2
  have c2b1 : decide (200 < l0.length) = true:=decide_eq_true (by omega)
  clear c2
  obtain rfl:=Option.some.inj H
  go_enter Try.func21,Try.ntmps21
  go_wp2
  go_ret
  exact ⟨by first | rfl | (simp [errW_none,errW_some] <;> rfl) | (simp [*,errW_none,errW_some] <;> rfl),by repeat (first | (with_reducible first | exact HB.out | apply below_alloc | apply pw_below_drewN | apply below_drew1) | exact HB.out)⟩
 ·rw [if_neg c2] at H
  have c2b0 : decide (200 < (l0.length : Int)) = false:=decide_eq_false c2
  have c2b1 : decide (200 < l0.length) = false:=decide_eq_false (by omega)
  clear c2
  have H':=Aside0.mk H
  clear H
  go_enter Try.func21,Try.ntmps21
  go_wp2
  go_loopg [10] k (fun kq v10 w' => ∃ (x10_1 : Int),v10 = .int .i64 x10_1 ∧ Aside0 (cargo_Validate.l0 kq l0 l0 (l0.length : Int) x10_1 = some r) ∧ Aside0 (kq ≤ k) ∧ Aside0 (Below w.heap.size w w'))
  case atStart => exact ⟨(0),(by first | rfl | (simp; done) | (simp [*]; done)),H',⟨Nat.le_refl _⟩,⟨by repeat (first | (with_reducible first | exact HB.out | apply below_alloc | apply pw_below_drewN | apply below_drew1) | exact HB.out)⟩⟩
  case round =>
   clear H'
   try clear c2
   try clear c2b0
   try clear c2b1
   try clear p2
   obtain ⟨x10_1,rfl,HA,HK1,HB⟩:=hrel
   cases gk with
   | zero => exact absurd HA.out (by simp [cargo_Validate.l0])
   | succ k1 =>
    have H:=HA.out
    clear HA
    simp only [cargo_Validate.l0] at H
    by_cases c3 : x10_1 < (l0.length : Int)
    ·rw [if_pos c3] at H
     have c3b0 : decide (x10_1 < (l0.length : Int)) = true:=decide_eq_true c3
     clear c3
     by_cases c4 : 0 ≤ x10_1
     ·rw [if_pos c4] at H
      have c4b0 : decide (0 ≤ x10_1) = true:=decide_eq_true c4
      clear c4
      by_cases c5 : x10_1 < (l0.length : Int)
      ·rw [if_pos c5] at H
       have c5b0 : decide (x10_1 < (l0.length : Int)) = true:=decide_eq_true c5
       clear c5
       replace H:=Option.bind_eq_some_iff.mp H
       obtain ⟨t103,A60,H⟩:=H
       replace H : (if t103 = true then (if x10_1 > 0 then (if 0 ≤ (wrap64 (x10_1 - 1)) then (if (wrap64 (x10_1 - 1)) < (l0.length : Int) then ((cargo_compare.f k1 ((rd_T44 l0 (wrap64 (x10_1 - 1))).f0) ((rd_T44 l0 (wrap64 (x10_1 - 1))).f1) ((rd_T44 l0 (wrap64 (x10_1 - 1))).f2) ((rd_T44 l0 (wrap64 (x10_1 - 1))).f3) ((rd_T44 l0 (wrap64 (x10_1 - 1))).f4) ((rd_T44 l0 (wrap64 (x10_1 - 1))).f5) ((rd_T44 l0 x10_1).f0) ((rd_T44 l0 x10_1).f1) ((rd_T44 l0 x10_1).f2) ((rd_T44 l0 x10_1).f3) ((rd_T44 l0 x10_1).f4) ((rd_T44 l0 x10_1).f5)).bind fun t105 => (if t105 ≥ 0 then (some 1) else (cargo_Validate.l0 k1 l0 l0 (l0.length : Int) (wrap64 (x10_1 + 1))))) else (none)) else (none)) else (cargo_Validate.l0 k1 l0 l0 (l0.length : Int) (wrap64 (x10_1 + 1)))) else (some 1)) = some r:=H
       have A6:=Aside0.mk A60
       clear A60
       by_cases c7 : t103 = true
       ·subst c7
        have H1 : (if x10_1 > 0 then (if 0 ≤ (wrap64 (x10_1 - 1)) then (if (wrap64 (x10_1 - 1)) < (l0.length : Int) then ((cargo_compare.f k1 ((rd_T44 l0 (wrap64 (x10_1 - 1))).f0) ((rd_T44 l0 (wrap64 (x10_1 - 1))).f1) ((rd_T44 l0 (wrap64 (x10_1 - 1))).f2) ((rd_T44 l0 (wrap64 (x10_1 - 1))).f3) ((rd_T44 l0 (wrap64 (x10_1 - 1))).f4) ((rd_T44 l0 (wrap64 (x10_1 - 1))).f5) ((rd_T44 l0 x10_1).f0) ((rd_T44 l0 x10_1).f1) ((rd_T44 l0 x10_1).f2) ((rd_T44 l0 x10_1).f3) ((rd_T44 l0 x10_1).f4) ((rd_T44 l0 x10_1).f5)).bind fun t105 => (if t105 ≥ 0 then (some 1) else (cargo_Validate.l0 k1 l0 l0 (l0.length : Int) (wrap64 (x10_1 + 1))))) else (none)) else (none)) else (cargo_Validate.l0 k1 l0 l0 (l0.length : Int) (wrap64 (x10_1 + 1)))) = some r:=by rw [if_pos rfl] at H; exact H
        clear H
        have H:=H1
        clear H1
        by_cases c8 : x10_1 > 0
        ·rw [if_pos c8] at H
         have c8b0 : decide (0 < x10_1) = true:=decide_eq_true c8
         clear c8
         obtain ⟨ji9,hji9⟩ : ∃ j_ : Int,(wrap64 (x10_1 - 1)) = j_:=⟨_,rfl⟩
         replace H : (if 0 ≤ (ji9) then (if (ji9) < (l0.length : Int) then ((cargo_compare.f k1 ((rd_T44 l0 (ji9)).f0) ((rd_T44 l0 (ji9)).f1) ((rd_T44 l0 (ji9)).f2) ((rd_T44 l0 (ji9)).f3) ((rd_T44 l0 (ji9)).f4) ((rd_T44 l0 (ji9)).f5) ((rd_T44 l0 x10_1).f0) ((rd_T44 l0 x10_1).f1) ((rd_T44 l0 x10_1).f2) ((rd_T44 l0 x10_1).f3) ((rd_T44 l0 x10_1).f4) ((rd_T44 l0 x10_1).f5)).bind fun t105 => (if t105 ≥ 0 then (some 1) else (cargo_Validate.l0 k1 l0 l0 (l0.length : Int) (wrap64 (x10_1 + 1))))) else (none)) else (none)) = some r:=by first | (rw [hji9] at H; exact H) | (simp only [hji9] at H ⊢; exact H)
         (try rw [hji9] at A6)
         have hji9w : (IntKind.i64.wrap (x10_1 - 1)) = ji9:=(i64_w _).trans hji9
         by_cases c10 : 0 ≤ (ji9)
         ·rw [if_pos c10] at H
          have c10b0 : decide (0 ≤ (ji9)) = true:=decide_eq_true c10
          clear c10
          by_cases c11 : (ji9) < (l0.length : Int)
          ·rw [if_pos c11] at H
           have c11b0 : decide ((ji9) < (l0.length : Int)) = true:=decide_eq_true c11
           clear c11
           replace H:=Option.bind_eq_some_iff.mp H
           obtain ⟨t105,A120,H⟩:=H
           replace H : (if t105 ≥ 0 then (some 1) else (cargo_Validate.l0 k1 l0 l0 (l0.length : Int) (wrap64 (x10_1 + 1)))) = some r:=H
           have A12:=Aside0.mk A120
           clear A120
           by_cases c13 : t105 ≥ 0
           ·rw [if_pos c13] at H
            have c13b0 : decide (0 ≤ t105) = true:=decide_eq_true c13
            clear c13
            obtain rfl:=Option.some.inj H
            have p101 : 0 ≤ (x10_1 : Int):=of_decide_eq_true (by first | (with_reducible assumption) | assumption)
            have q101 : x10_1 < (l0.length : Int):=of_decide_eq_true (by first | (with_reducible assumption) | assumption)
            obtain ⟨ad101,e101,hx101_0,hx101_1,hx101_2,hx101_3,hx101_4,hx101_5⟩:=at_T44 HR0.out x10_1 p101 q101
            cases e101
            replace hx101_0:=(HB.out.cell (World.block_lt_of_cell? w _ hx101_0)).trans hx101_0
            replace hx101_1:=(HB.out.cell (World.block_lt_of_cell? w _ hx101_1)).trans hx101_1
            replace hx101_2:=(HB.out.cell (World.block_lt_of_cell? w _ hx101_2)).trans hx101_2
            replace hx101_3:=(HB.out.cell (World.block_lt_of_cell? w _ hx101_3)).trans hx101_3
            replace hx101_4:=(HB.out.cell (World.block_lt_of_cell? w _ hx101_4)).trans hx101_4
            replace hx101_5:=(HB.out.cell (World.block_lt_of_cell? w _ hx101_5)).trans hx101_5
            replace p101:=eq_true p101
            replace q101:=eq_true q101
            try go_wp2_with (first | ((with_reducible refine gate_dst (N:=4) rfl ?_); refine box_event ?hg (N:=4) ?hd (cs:=#[.int .i64 0,.int .i64 0,.int .i64 0,.int .i64 0,.int .i64 0,.int .i64 0]) (t:=44) ?hr ?_; (case hd => rfl); (case hg => rfl); (case hr => first | (go_simp; done) | (go_simp; rfl)); intro gb102 hg w14 hbox hb; have n0_:=Aside0.mk (below_step (by repeat (first | (with_reducible first | exact HB.out | apply below_alloc | apply pw_below_drewN | apply below_drew1) | exact HB.out)) hb); have n1_:=Aside0.mk (hbox); have n2_:=Aside0.mk ((by rw [hg]; exact (below_size (by repeat (first | (with_reducible first | exact HB.out | apply below_alloc | apply pw_below_drewN | apply below_drew1) | exact HB.out))) : w.heap.size ≤ gb102)); have n3_:=Aside0.mk ((by rw [hg]; exact (below_size (by repeat (first | (with_reducible first | exact HB.out | apply below_alloc | apply pw_below_drewN | apply below_drew1) | exact HB.out))) : w.heap.size ≤ gb102)); clear HB; have HB:=n0_; have BK102:=n1_; have GW102:=n2_; have GE102:=n3_; clear n0_ n1_ n2_ n3_; clear hb hbox hg; have hcz15_0 : w14.cell? ⟨gb102,0,none⟩ = some (.int .i64 0):=(blk_cell BK102.out 0).trans rfl; have hcz15_1 : w14.cell? ⟨gb102,1,none⟩ = some (.int .i64 0):=(blk_cell BK102.out 1).trans rfl; have hcz15_2 : w14.cell? ⟨gb102,2,none⟩ = some (.int .i64 0):=(blk_cell BK102.out 2).trans rfl; have hcz15_3 : w14.cell? ⟨gb102,3,none⟩ = some (.int .i64 0):=(blk_cell BK102.out 3).trans rfl; have hcz15_4 : w14.cell? ⟨gb102,4,none⟩ = some (.int .i64 0):=(blk_cell BK102.out 4).trans rfl; have hcz15_5 : w14.cell? ⟨gb102,5,none⟩ = some (.int .i64 0):=(blk_cell BK102.out 5).trans rfl; have hfz15_0:=blk_frozen BK102.out 0; have hfz15_1:=blk_frozen BK102.out 1; have hfz15_2:=blk_frozen BK102.out 2; have hfz15_3:=blk_frozen BK102.out 3; have hfz15_4:=blk_frozen BK102.out 4; have hfz15_5:=blk_frozen BK102.out 5))
            have n0_ : Aside0 (((((((w14.setCell ⟨gb102,0,none⟩ (.int .i64 ((rd_T44 l0 x10_1).f0))).setCell ⟨gb102,1,none⟩ (.int .i64 ((rd_T44 l0 x10_1).f1))).setCell ⟨gb102,2,none⟩ (.int .i64 ((rd_T44 l0 x10_1).f2))).setCell ⟨gb102,3,none⟩ (.int .i64 ((rd_T44 l0 x10_1).f3))).setCell ⟨gb102,4,none⟩ (.int .i64 ((rd_T44 l0 x10_1).f4))).setCell ⟨gb102,5,none⟩ (.int .i64 ((rd_T44 l0 x10_1).f5))).heap[gb102]? = some (.cells #[.int .i64 ((rd_T44 l0 x10_1).f0),.int .i64 ((rd_T44 l0 x10_1).f1),.int .i64 ((rd_T44 l0 x10_1).f2),.int .i64 ((rd_T44 l0 x10_1).f3),.int .i64 ((rd_T44 l0 x10_1).f4),.int .i64 ((rd_T44 l0 x10_1).f5)] 44 (0,0))):=⟨by (with_reducible repeat (first | refine blk_drewN ?_ _ | refine blk_drew ?_ | refine blk_alloc ?_ _)); refine blk_put (cs:=#[.int .i64 ((rd_T44 l0 x10_1).f0),.int .i64 ((rd_T44 l0 x10_1).f1),.int .i64 ((rd_T44 l0 x10_1).f2),.int .i64 ((rd_T44 l0 x10_1).f3),.int .i64 ((rd_T44 l0 x10_1).f4),.int .i64 0]) ?_ 5 _ rfl; (with_reducible repeat (first | refine blk_drewN ?_ _ | refine blk_drew ?_ | refine blk_alloc ?_ _)); refine blk_put (cs:=#[.int .i64 ((rd_T44 l0 x10_1).f0),.int .i64 ((rd_T44 l0 x10_1).f1),.int .i64 ((rd_T44 l0 x10_1).f2),.int .i64 ((rd_T44 l0 x10_1).f3),.int .i64 0,.int .i64 0]) ?_ 4 _ rfl; (with_reducible repeat (first | refine blk_drewN ?_ _ | refine blk_drew ?_ | refine blk_alloc ?_ _)); refine blk_put (cs:=#[.int .i64 ((rd_T44 l0 x10_1).f0),.int .i64 ((rd_T44 l0 x10_1).f1),.int .i64 ((rd_T44 l0 x10_1).f2),.int .i64 0,.int .i64 0,.int .i64 0]) ?_ 3 _ rfl; (with_reducible repeat (first | refine blk_drewN ?_ _ | refine blk_drew ?_ | refine blk_alloc ?_ _)); refine blk_put (cs:=#[.int .i64 ((rd_T44 l0 x10_1).f0),.int .i64 ((rd_T44 l0 x10_1).f1),.int .i64 0,.int .i64 0,.int .i64 0,.int .i64 0]) ?_ 2 _ rfl; (with_reducible repeat (first | refine blk_drewN ?_ _ | refine blk_drew ?_ | refine blk_alloc ?_ _)); refine blk_put (cs:=#[.int .i64 ((rd_T44 l0 x10_1).f0),.int .i64 0,.int .i64 0,.int .i64 0,.int .i64 0,.int .i64 0]) ?_ 1 _ rfl; (with_reducible repeat (first | refine blk_drewN ?_ _ | refine blk_drew ?_ | refine blk_alloc ?_ _)); refine blk_put (cs:=#[.int .i64 0,.int .i64 0,.int .i64 0,.int .i64 0,.int .i64 0,.int .i64 0]) ?_ 0 _ rfl; (with_reducible repeat (first | refine blk_drewN ?_ _ | refine blk_drew ?_ | refine blk_alloc ?_ _)); exact BK102.out⟩
            have n1_ : Aside0 (Below w.heap.size w ((((((w14.setCell ⟨gb102,0,none⟩ (.int .i64 ((rd_T44 l0 x10_1).f0))).setCell ⟨gb102,1,none⟩ (.int .i64 ((rd_T44 l0 x10_1).f1))).setCell ⟨gb102,2,none⟩ (.int .i64 ((rd_T44 l0 x10_1).f2))).setCell ⟨gb102,3,none⟩ (.int .i64 ((rd_T44 l0 x10_1).f3))).setCell ⟨gb102,4,none⟩ (.int .i64 ((rd_T44 l0 x10_1).f4))).setCell ⟨gb102,5,none⟩ (.int .i64 ((rd_T44 l0 x10_1).f5)))):=⟨by repeat (first | (with_reducible first | exact HB.out | apply below_alloc | apply pw_below_drewN | apply below_drew1 | refine below_set ?_ GE102.out) | exact HB.out)⟩
            (try clear BK102)
            (try clear HB)
            generalize ((((((w14.setCell ⟨gb102,0,none⟩ (.int .i64 ((rd_T44 l0 x10_1).f0))).setCell ⟨gb102,1,none⟩ (.int .i64 ((rd_T44 l0 x10_1).f1))).setCell ⟨gb102,2,none⟩ (.int .i64 ((rd_T44 l0 x10_1).f2))).setCell ⟨gb102,3,none⟩ (.int .i64 ((rd_T44 l0 x10_1).f3))).setCell ⟨gb102,4,none⟩ (.int .i64 ((rd_T44 l0 x10_1).f4))).setCell ⟨gb102,5,none⟩ (.int .i64 ((rd_T44 l0 x10_1).f5))) = w16 at n0_ n1_ ⊢
            have BK102:=n0_
            have HB:=n1_
            clear n0_ n1_
            have n0_:=Aside0.mk (blk_drew BK102.out)
            have n1_:=Aside0.mk (below_drew1 HB.out)
            clear BK102
            clear HB
            have BK102:=n0_
            have HB:=n1_
            clear n0_ n1_
            have p104 : 0 ≤ ((ji9) : Int):=of_decide_eq_true (by first | (with_reducible assumption) | assumption)
            have q104 : (ji9) < (l0.length : Int):=of_decide_eq_true (by first | (with_reducible assumption) | assumption)
            obtain ⟨ad104,e104,hx104_0,hx104_1,hx104_2,hx104_3,hx104_4,hx104_5⟩:=at_T44 HR0.out (ji9) p104 q104
            have hw104_5:=hx104_5
            have hw104_4:=hx104_4
            have hw104_3:=hx104_3
            have hw104_2:=hx104_2
            have hw104_1:=hx104_1
            have hw104_0:=hx104_0
            obtain rfl : ad101 = ad104:=(by injection e104)
            replace hx104_0:=(HB.out.cell (World.block_lt_of_cell? w _ hx104_0)).trans hx104_0
            replace hx104_1:=(HB.out.cell (World.block_lt_of_cell? w _ hx104_1)).trans hx104_1
            replace hx104_2:=(HB.out.cell (World.block_lt_of_cell? w _ hx104_2)).trans hx104_2
            replace hx104_3:=(HB.out.cell (World.block_lt_of_cell? w _ hx104_3)).trans hx104_3
            replace hx104_4:=(HB.out.cell (World.block_lt_of_cell? w _ hx104_4)).trans hx104_4
            replace hx104_5:=(HB.out.cell (World.block_lt_of_cell? w _ hx104_5)).trans hx104_5
            replace p104:=eq_true p104
            replace q104:=eq_true q104
            refine start_ (n:=17) (S:=fun w' => w'.cell? ⟨gb102,0,none⟩ = some (.int .i64 ((rd_T44 l0 x10_1).f0)) ∧ w'.cell? ⟨gb102,1,none⟩ = some (.int .i64 ((rd_T44 l0 x10_1).f1)) ∧ w'.cell? ⟨gb102,2,none⟩ = some (.int .i64 ((rd_T44 l0 x10_1).f2)) ∧ w'.cell? ⟨gb102,3,none⟩ = some (.int .i64 ((rd_T44 l0 x10_1).f3)) ∧ w'.cell? ⟨gb102,4,none⟩ = some (.int .i64 ((rd_T44 l0 x10_1).f4)) ∧ w'.cell? ⟨gb102,5,none⟩ = some (.int .i64 ((rd_T44 l0 x10_1).f5)) ∧ w'.cell? (ad101.add (((ji9)).toNat * 6)) = some (.int .i64 ((rd_T44 l0 (ji9)).f0)) ∧ w'.cell? ⟨(ad101.add (((ji9)).toNat * 6)).block,(ad101.add (((ji9)).toNat * 6)).off + 1,none⟩ = some (.int .i64 ((rd_T44 l0 (ji9)).f1)) ∧ w'.cell? ⟨(ad101.add (((ji9)).toNat * 6)).block,(ad101.add (((ji9)).toNat * 6)).off + 2,none⟩ = some (.int .i64 ((rd_T44 l0 (ji9)).f2)) ∧ w'.cell? ⟨(ad101.add (((ji9)).toNat * 6)).block,(ad101.add (((ji9)).toNat * 6)).off + 3,none⟩ = some (.int .i64 ((rd_T44 l0 (ji9)).f3)) ∧ w'.cell? ⟨(ad101.add (((ji9)).toNat * 6)).block,(ad101.add (((ji9)).toNat * 6)).off + 4,none⟩ = some (.int .i64 ((rd_T44 l0 (ji9)).f4)) ∧ w'.cell? ⟨(ad101.add (((ji9)).toNat * 6)).block,(ad101.add (((ji9)).toNat * 6)).off + 5,none⟩ = some (.int .i64 ((rd_T44 l0 (ji9)).f5))) (ds:=[]) (bm 17 0) (by kernel_rfl) rfl (by kernel_rfl) ⟨(blk_cell BK102.out 0).trans rfl,(blk_cell BK102.out 1).trans rfl,(blk_cell BK102.out 2).trans rfl,(blk_cell BK102.out 3).trans rfl,(blk_cell BK102.out 4).trans rfl,(blk_cell BK102.out 5).trans rfl,((HB.out.cell (World.block_lt_of_cell? w _ hw104_0)).trans hw104_0),((HB.out.cell (World.block_lt_of_cell? w _ hw104_1)).trans hw104_1),((HB.out.cell (World.block_lt_of_cell? w _ hw104_2)).trans hw104_2),((HB.out.cell (World.block_lt_of_cell? w _ hw104_3)).trans hw104_3),((HB.out.cell (World.block_lt_of_cell? w _ hw104_4)).trans hw104_4),((HB.out.cell (World.block_lt_of_cell? w _ hw104_5)).trans hw104_5)⟩ (fun hHeld => ?_); refine with_tabW cargo_Validate.tab6 cargo_Validate.bits6 (fun HT_ HW_ => ?_)
            generalize w16.drew = w17 at BK102 HB hx104_0 hx104_1 hx104_2 hx104_3 hx104_4 hx104_5 hHeld ⊢
            refine tk 0 (some 15) (bm 17 1) HT_ HW_ hHeld ?_
            refine ck 1 (some 16) (bm 17 3) HT_ (fun K hK => ?_)
            refine gs Try.func47 #[.agg #[.int .i64 ((rd_T44 l0 x10_1).f0),.int .i64 ((rd_T44 l0 x10_1).f1),.int .i64 ((rd_T44 l0 x10_1).f2),.int .i64 ((rd_T44 l0 x10_1).f3),.int .i64 ((rd_T44 l0 x10_1).f4),.int .i64 ((rd_T44 l0 x10_1).f5)]] ?_
            with_reducible refine (cargo_sound.calls ((rd_T44 l0 x10_1).f0) ((rd_T44 l0 x10_1).f1) ((rd_T44 l0 x10_1).f2) ((rd_T44 l0 x10_1).f3) ((rd_T44 l0 x10_1).f4) ((rd_T44 l0 x10_1).f5) true _ A6.out).mono ?_
            rintro e w18 ⟨rfl,hb⟩
            refine ⟨_,rfl,?_⟩
            have n0_:=Aside0.mk (blk_below (g:=gb102) (o:=.cells #[.int .i64 ((rd_T44 l0 x10_1).f0),.int .i64 ((rd_T44 l0 x10_1).f1),.int .i64 ((rd_T44 l0 x10_1).f2),.int .i64 ((rd_T44 l0 x10_1).f3),.int .i64 ((rd_T44 l0 x10_1).f4),.int .i64 ((rd_T44 l0 x10_1).f5)] 44 (0,0)) (by (with_reducible repeat (first | refine blk_drewN ?_ _ | refine blk_drew ?_ | refine blk_alloc ?_ _)); exact BK102.out) hb)
            have n1_:=Aside0.mk (below_step (by repeat (first | (with_reducible first | exact HB.out | apply below_alloc | apply pw_below_drewN | apply below_drew1 | refine below_set ?_ GE102.out) | exact HB.out)) hb)
            clear BK102
            clear HB
            have BK102:=n0_
            have HB:=n1_
            clear n0_ n1_
            (try clear hb)
            (try clear hb2)
            (try clear hk)
            (try clear hi)
            refine hK.out _ _ ⟨(blk_cell BK102.out 0).trans rfl,(blk_cell BK102.out 1).trans rfl,(blk_cell BK102.out 2).trans rfl,(blk_cell BK102.out 3).trans rfl,(blk_cell BK102.out 4).trans rfl,(blk_cell BK102.out 5).trans rfl,((HB.out.cell (World.block_lt_of_cell? w _ hw104_0)).trans hw104_0),((HB.out.cell (World.block_lt_of_cell? w _ hw104_1)).trans hw104_1),((HB.out.cell (World.block_lt_of_cell? w _ hw104_2)).trans hw104_2),((HB.out.cell (World.block_lt_of_cell? w _ hw104_3)).trans hw104_3),((HB.out.cell (World.block_lt_of_cell? w _ hw104_4)).trans hw104_4),((HB.out.cell (World.block_lt_of_cell? w _ hw104_5)).trans hw104_5)⟩ (fun hHeld => ?_)
            clear hK K
            refine nm ?_
            refine pv 2 (some 17) (bm 17 7) HT_ ?_
            refine pv 3 (some 18) (bm 17 15) HT_ ?_
            refine pv 4 (some 19) (bm 17 31) HT_ ?_
            refine pv 5 (some 20) (bm 17 63) HT_ ?_
            refine pv 6 (some 21) (bm 17 127) HT_ ?_
            refine pv 7 (some 22) (bm 17 255) HT_ ?_
            refine pv 8 (some 23) (bm 17 511) HT_ ?_
            refine pv 9 (some 24) (bm 17 1023) HT_ ?_
            refine pv 10 (some 25) (bm 17 2047) HT_ ?_
            refine tk 11 (some 26) (bm 17 4095) HT_ HW_ hHeld ?_
            refine tk 12 (some 27) (bm 17 8191) HT_ HW_ hHeld ?_
            refine ck 13 (some 28) (bm 17 16383) HT_ (fun K hK => ?_)
            refine goes_ Try.func48 (by kernel_rfl) rfl #[.agg #[.int .i64 ((rd_T44 l0 (ji9)).f0),.int .i64 ((rd_T44 l0 (ji9)).f1),.int .i64 ((rd_T44 l0 (ji9)).f2),.int .i64 ((rd_T44 l0 (ji9)).f3),.int .i64 ((rd_T44 l0 (ji9)).f4),.int .i64 ((rd_T44 l0 (ji9)).f5)],.agg #[.int .i64 ((rd_T44 l0 x10_1).f0),.int .i64 ((rd_T44 l0 x10_1).f1),.int .i64 ((rd_T44 l0 x10_1).f2),.int .i64 ((rd_T44 l0 x10_1).f3),.int .i64 ((rd_T44 l0 x10_1).f4),.int .i64 ((rd_T44 l0 x10_1).f5)]] (by rfl) rfl rfl (by (try simp only [List.map_toArray,List.map_cons,List.map_nil]); first | done | (simp only [hji9]; rfl) | rfl | (simp only [List.length_drop,List.length_take]; rfl)) ?_
            with_reducible refine (cargo_compare.calls k1 ((rd_T44 l0 (ji9)).f0) ((rd_T44 l0 (ji9)).f1) ((rd_T44 l0 (ji9)).f2) ((rd_T44 l0 (ji9)).f3) ((rd_T44 l0 (ji9)).f4) ((rd_T44 l0 (ji9)).f5) ((rd_T44 l0 x10_1).f0) ((rd_T44 l0 x10_1).f1) ((rd_T44 l0 x10_1).f2) ((rd_T44 l0 x10_1).f3) ((rd_T44 l0 x10_1).f4) ((rd_T44 l0 x10_1).f5) t105 _ A12.out).mono ?_
            rintro e w19 ⟨rfl,hb⟩
            refine ⟨_,rfl,?_⟩
            have n0_:=Aside0.mk (blk_below (g:=gb102) (o:=.cells #[.int .i64 ((rd_T44 l0 x10_1).f0),.int .i64 ((rd_T44 l0 x10_1).f1),.int .i64 ((rd_T44 l0 x10_1).f2),.int .i64 ((rd_T44 l0 x10_1).f3),.int .i64 ((rd_T44 l0 x10_1).f4),.int .i64 ((rd_T44 l0 x10_1).f5)] 44 (0,0)) (by (with_reducible repeat (first | refine blk_drewN ?_ _ | refine blk_drew ?_ | refine blk_alloc ?_ _)); exact BK102.out) hb)
            have n1_:=Aside0.mk (below_step (by repeat (first | (with_reducible first | exact HB.out | apply below_alloc | apply pw_below_drewN | apply below_drew1 | refine below_set ?_ GE102.out) | exact HB.out)) hb)
            clear BK102
            clear HB
            have BK102:=n0_
            have HB:=n1_
            clear n0_ n1_
            (try clear hb)
            (try clear hb2)
            (try clear hk)
            (try clear hi)
            refine hK.out _ _ ⟨(blk_cell BK102.out 0).trans rfl,(blk_cell BK102.out 1).trans rfl,(blk_cell BK102.out 2).trans rfl,(blk_cell BK102.out 3).trans rfl,(blk_cell BK102.out 4).trans rfl,(blk_cell BK102.out 5).trans rfl,((HB.out.cell (World.block_lt_of_cell? w _ hw104_0)).trans hw104_0),((HB.out.cell (World.block_lt_of_cell? w _ hw104_1)).trans hw104_1),((HB.out.cell (World.block_lt_of_cell? w _ hw104_2)).trans hw104_2),((HB.out.cell (World.block_lt_of_cell? w _ hw104_3)).trans hw104_3),((HB.out.cell (World.block_lt_of_cell? w _ hw104_4)).trans hw104_4),((HB.out.cell (World.block_lt_of_cell? w _ hw104_5)).trans hw104_5)⟩ (fun hHeld => ?_)
            clear hK K
            refine nm ?_
            refine pv 14 (some 29) (bm 17 32767) HT_ ?_
            refine pv 15 (some 30) (bm 17 65535) HT_ ?_
            refine pv 16 (some 31) (bm 17 131071) HT_ ?_
            refine done_ (done_of HT_.out (by kernel_rfl)) ?_
            try go_wp2
            go_ret
            exact ⟨by first | rfl | (simp [errW_none,errW_some] <;> rfl) | (simp only [← hji9]; first | rfl | (simp [errW_none,errW_some] <;> rfl)) | (simp [*,errW_none,errW_some] <;> rfl),by repeat (first | (with_reducible first | exact HB.out | apply below_alloc | apply pw_below_drewN | apply below_drew1 | refine below_set ?_ GE102.out) | exact HB.out)⟩
           ·rw [if_neg c13] at H
            have c13b0 : decide (0 ≤ t105) = false:=decide_eq_false c13
            clear c13
            have H':=Aside0.mk H
            clear H
            have p101 : 0 ≤ (x10_1 : Int):=of_decide_eq_true (by first | (with_reducible assumption) | assumption)
            have q101 : x10_1 < (l0.length : Int):=of_decide_eq_true (by first | (with_reducible assumption) | assumption)
            obtain ⟨ad101,e101,hx101_0,hx101_1,hx101_2,hx101_3,hx101_4,hx101_5⟩:=at_T44 HR0.out x10_1 p101 q101
            cases e101
            replace hx101_0:=(HB.out.cell (World.block_lt_of_cell? w _ hx101_0)).trans hx101_0
            replace hx101_1:=(HB.out.cell (World.block_lt_of_cell? w _ hx101_1)).trans hx101_1
            replace hx101_2:=(HB.out.cell (World.block_lt_of_cell? w _ hx101_2)).trans hx101_2
            replace hx101_3:=(HB.out.cell (World.block_lt_of_cell? w _ hx101_3)).trans hx101_3
            replace hx101_4:=(HB.out.cell (World.block_lt_of_cell? w _ hx101_4)).trans hx101_4
            replace hx101_5:=(HB.out.cell (World.block_lt_of_cell? w _ hx101_5)).trans hx101_5
            replace p101:=eq_true p101
            replace q101:=eq_true q101
            try go_wp2_with (first | ((with_reducible refine gate_dst (N:=4) rfl ?_); refine box_event ?hg (N:=4) ?hd (cs:=#[.int .i64 0,.int .i64 0,.int .i64 0,.int .i64 0,.int .i64 0,.int .i64 0]) (t:=44) ?hr ?_; (case hd => rfl); (case hg => rfl); (case hr => first | (go_simp; done) | (go_simp; rfl)); intro gb102 hg w20 hbox hb; have n0_:=Aside0.mk (below_step (by repeat (first | (with_reducible first | exact HB.out | apply below_alloc | apply pw_below_drewN | apply below_drew1) | exact HB.out)) hb); have n1_:=Aside0.mk (hbox); have n2_:=Aside0.mk ((by rw [hg]; exact (below_size (by repeat (first | (with_reducible first | exact HB.out | apply below_alloc | apply pw_below_drewN | apply below_drew1) | exact HB.out))) : w.heap.size ≤ gb102)); have n3_:=Aside0.mk ((by rw [hg]; exact (below_size (by repeat (first | (with_reducible first | exact HB.out | apply below_alloc | apply pw_below_drewN | apply below_drew1) | exact HB.out))) : w.heap.size ≤ gb102)); clear HB; have HB:=n0_; have BK102:=n1_; have GW102:=n2_; have GE102:=n3_; clear n0_ n1_ n2_ n3_; clear hb hbox hg; have hcz21_0 : w20.cell? ⟨gb102,0,none⟩ = some (.int .i64 0):=(blk_cell BK102.out 0).trans rfl; have hcz21_1 : w20.cell? ⟨gb102,1,none⟩ = some (.int .i64 0):=(blk_cell BK102.out 1).trans rfl; have hcz21_2 : w20.cell? ⟨gb102,2,none⟩ = some (.int .i64 0):=(blk_cell BK102.out 2).trans rfl; have hcz21_3 : w20.cell? ⟨gb102,3,none⟩ = some (.int .i64 0):=(blk_cell BK102.out 3).trans rfl; have hcz21_4 : w20.cell? ⟨gb102,4,none⟩ = some (.int .i64 0):=(blk_cell BK102.out 4).trans rfl; have hcz21_5 : w20.cell? ⟨gb102,5,none⟩ = some (.int .i64 0):=(blk_cell BK102.out 5).trans rfl; have hfz21_0:=blk_frozen BK102.out 0; have hfz21_1:=blk_frozen BK102.out 1; have hfz21_2:=blk_frozen BK102.out 2; have hfz21_3:=blk_frozen BK102.out 3; have hfz21_4:=blk_frozen BK102.out 4; have hfz21_5:=blk_frozen BK102.out 5))
            have n0_ : Aside0 (((((((w20.setCell ⟨gb102,0,none⟩ (.int .i64 ((rd_T44 l0 x10_1).f0))).setCell ⟨gb102,1,none⟩ (.int .i64 ((rd_T44 l0 x10_1).f1))).setCell ⟨gb102,2,none⟩ (.int .i64 ((rd_T44 l0 x10_1).f2))).setCell ⟨gb102,3,none⟩ (.int .i64 ((rd_T44 l0 x10_1).f3))).setCell ⟨gb102,4,none⟩ (.int .i64 ((rd_T44 l0 x10_1).f4))).setCell ⟨gb102,5,none⟩ (.int .i64 ((rd_T44 l0 x10_1).f5))).heap[gb102]? = some (.cells #[.int .i64 ((rd_T44 l0 x10_1).f0),.int .i64 ((rd_T44 l0 x10_1).f1),.int .i64 ((rd_T44 l0 x10_1).f2),.int .i64 ((rd_T44 l0 x10_1).f3),.int .i64 ((rd_T44 l0 x10_1).f4),.int .i64 ((rd_T44 l0 x10_1).f5)] 44 (0,0))):=⟨by (with_reducible repeat (first | refine blk_drewN ?_ _ | refine blk_drew ?_ | refine blk_alloc ?_ _)); refine blk_put (cs:=#[.int .i64 ((rd_T44 l0 x10_1).f0),.int .i64 ((rd_T44 l0 x10_1).f1),.int .i64 ((rd_T44 l0 x10_1).f2),.int .i64 ((rd_T44 l0 x10_1).f3),.int .i64 ((rd_T44 l0 x10_1).f4),.int .i64 0]) ?_ 5 _ rfl; (with_reducible repeat (first | refine blk_drewN ?_ _ | refine blk_drew ?_ | refine blk_alloc ?_ _)); refine blk_put (cs:=#[.int .i64 ((rd_T44 l0 x10_1).f0),.int .i64 ((rd_T44 l0 x10_1).f1),.int .i64 ((rd_T44 l0 x10_1).f2),.int .i64 ((rd_T44 l0 x10_1).f3),.int .i64 0,.int .i64 0]) ?_ 4 _ rfl; (with_reducible repeat (first | refine blk_drewN ?_ _ | refine blk_drew ?_ | refine blk_alloc ?_ _)); refine blk_put (cs:=#[.int .i64 ((rd_T44 l0 x10_1).f0),.int .i64 ((rd_T44 l0 x10_1).f1),.int .i64 ((rd_T44 l0 x10_1).f2),.int .i64 0,.int .i64 0,.int .i64 0]) ?_ 3 _ rfl; (with_reducible repeat (first | refine blk_drewN ?_ _ | refine blk_drew ?_ | refine blk_alloc ?_ _)); refine blk_put (cs:=#[.int .i64 ((rd_T44 l0 x10_1).f0),.int .i64 ((rd_T44 l0 x10_1).f1),.int .i64 0,.int .i64 0,.int .i64 0,.int .i64 0]) ?_ 2 _ rfl; (with_reducible repeat (first | refine blk_drewN ?_ _ | refine blk_drew ?_ | refine blk_alloc ?_ _)); refine blk_put (cs:=#[.int .i64 ((rd_T44 l0 x10_1).f0),.int .i64 0,.int .i64 0,.int .i64 0,.int .i64 0,.int .i64 0]) ?_ 1 _ rfl; (with_reducible repeat (first | refine blk_drewN ?_ _ | refine blk_drew ?_ | refine blk_alloc ?_ _)); refine blk_put (cs:=#[.int .i64 0,.int .i64 0,.int .i64 0,.int .i64 0,.int .i64 0,.int .i64 0]) ?_ 0 _ rfl; (with_reducible repeat (first | refine blk_drewN ?_ _ | refine blk_drew ?_ | refine blk_alloc ?_ _)); exact BK102.out⟩
            have n1_ : Aside0 (Below w.heap.size w ((((((w20.setCell ⟨gb102,0,none⟩ (.int .i64 ((rd_T44 l0 x10_1).f0))).setCell ⟨gb102,1,none⟩ (.int .i64 ((rd_T44 l0 x10_1).f1))).setCell ⟨gb102,2,none⟩ (.int .i64 ((rd_T44 l0 x10_1).f2))).setCell ⟨gb102,3,none⟩ (.int .i64 ((rd_T44 l0 x10_1).f3))).setCell ⟨gb102,4,none⟩ (.int .i64 ((rd_T44 l0 x10_1).f4))).setCell ⟨gb102,5,none⟩ (.int .i64 ((rd_T44 l0 x10_1).f5)))):=⟨by repeat (first | (with_reducible first | exact HB.out | apply below_alloc | apply pw_below_drewN | apply below_drew1 | refine below_set ?_ GE102.out) | exact HB.out)⟩
            (try clear BK102)
            (try clear HB)
            generalize ((((((w20.setCell ⟨gb102,0,none⟩ (.int .i64 ((rd_T44 l0 x10_1).f0))).setCell ⟨gb102,1,none⟩ (.int .i64 ((rd_T44 l0 x10_1).f1))).setCell ⟨gb102,2,none⟩ (.int .i64 ((rd_T44 l0 x10_1).f2))).setCell ⟨gb102,3,none⟩ (.int .i64 ((rd_T44 l0 x10_1).f3))).setCell ⟨gb102,4,none⟩ (.int .i64 ((rd_T44 l0 x10_1).f4))).setCell ⟨gb102,5,none⟩ (.int .i64 ((rd_T44 l0 x10_1).f5))) = w22 at n0_ n1_ ⊢
            have BK102:=n0_
            have HB:=n1_
            clear n0_ n1_
            have n0_:=Aside0.mk (blk_drew BK102.out)
            have n1_:=Aside0.mk (below_drew1 HB.out)
            clear BK102
            clear HB
            have BK102:=n0_
            have HB:=n1_
            clear n0_ n1_
            have p104 : 0 ≤ ((ji9) : Int):=of_decide_eq_true (by first | (with_reducible assumption) | assumption)
            have q104 : (ji9) < (l0.length : Int):=of_decide_eq_true (by first | (with_reducible assumption) | assumption)
            obtain ⟨ad104,e104,hx104_0,hx104_1,hx104_2,hx104_3,hx104_4,hx104_5⟩:=at_T44 HR0.out (ji9) p104 q104
            have hw104_5:=hx104_5
            have hw104_4:=hx104_4
            have hw104_3:=hx104_3
            have hw104_2:=hx104_2
            have hw104_1:=hx104_1
            have hw104_0:=hx104_0
            obtain rfl : ad101 = ad104:=(by injection e104)
            replace hx104_0:=(HB.out.cell (World.block_lt_of_cell? w _ hx104_0)).trans hx104_0
            replace hx104_1:=(HB.out.cell (World.block_lt_of_cell? w _ hx104_1)).trans hx104_1
            replace hx104_2:=(HB.out.cell (World.block_lt_of_cell? w _ hx104_2)).trans hx104_2
            replace hx104_3:=(HB.out.cell (World.block_lt_of_cell? w _ hx104_3)).trans hx104_3
            replace hx104_4:=(HB.out.cell (World.block_lt_of_cell? w _ hx104_4)).trans hx104_4
            replace hx104_5:=(HB.out.cell (World.block_lt_of_cell? w _ hx104_5)).trans hx104_5
            replace p104:=eq_true p104
            replace q104:=eq_true q104
            refine start_ (n:=17) (S:=fun w' => w'.cell? ⟨gb102,0,none⟩ = some (.int .i64 ((rd_T44 l0 x10_1).f0)) ∧ w'.cell? ⟨gb102,1,none⟩ = some (.int .i64 ((rd_T44 l0 x10_1).f1)) ∧ w'.cell? ⟨gb102,2,none⟩ = some (.int .i64 ((rd_T44 l0 x10_1).f2)) ∧ w'.cell? ⟨gb102,3,none⟩ = some (.int .i64 ((rd_T44 l0 x10_1).f3)) ∧ w'.cell? ⟨gb102,4,none⟩ = some (.int .i64 ((rd_T44 l0 x10_1).f4)) ∧ w'.cell? ⟨gb102,5,none⟩ = some (.int .i64 ((rd_T44 l0 x10_1).f5)) ∧ w'.cell? (ad101.add (((ji9)).toNat * 6)) = some (.int .i64 ((rd_T44 l0 (ji9)).f0)) ∧ w'.cell? ⟨(ad101.add (((ji9)).toNat * 6)).block,(ad101.add (((ji9)).toNat * 6)).off + 1,none⟩ = some (.int .i64 ((rd_T44 l0 (ji9)).f1)) ∧ w'.cell? ⟨(ad101.add (((ji9)).toNat * 6)).block,(ad101.add (((ji9)).toNat * 6)).off + 2,none⟩ = some (.int .i64 ((rd_T44 l0 (ji9)).f2)) ∧ w'.cell? ⟨(ad101.add (((ji9)).toNat * 6)).block,(ad101.add (((ji9)).toNat * 6)).off + 3,none⟩ = some (.int .i64 ((rd_T44 l0 (ji9)).f3)) ∧ w'.cell? ⟨(ad101.add (((ji9)).toNat * 6)).block,(ad101.add (((ji9)).toNat * 6)).off + 4,none⟩ = some (.int .i64 ((rd_T44 l0 (ji9)).f4)) ∧ w'.cell? ⟨(ad101.add (((ji9)).toNat * 6)).block,(ad101.add (((ji9)).toNat * 6)).off + 5,none⟩ = some (.int .i64 ((rd_T44 l0 (ji9)).f5))) (ds:=[]) (bm 17 0) (by kernel_rfl) rfl (by kernel_rfl) ⟨(blk_cell BK102.out 0).trans rfl,(blk_cell BK102.out 1).trans rfl,(blk_cell BK102.out 2).trans rfl,(blk_cell BK102.out 3).trans rfl,(blk_cell BK102.out 4).trans rfl,(blk_cell BK102.out 5).trans rfl,((HB.out.cell (World.block_lt_of_cell? w _ hw104_0)).trans hw104_0),((HB.out.cell (World.block_lt_of_cell? w _ hw104_1)).trans hw104_1),((HB.out.cell (World.block_lt_of_cell? w _ hw104_2)).trans hw104_2),((HB.out.cell (World.block_lt_of_cell? w _ hw104_3)).trans hw104_3),((HB.out.cell (World.block_lt_of_cell? w _ hw104_4)).trans hw104_4),((HB.out.cell (World.block_lt_of_cell? w _ hw104_5)).trans hw104_5)⟩ (fun hHeld => ?_); refine with_tabW cargo_Validate.tab6 cargo_Validate.bits6 (fun HT_ HW_ => ?_)
            generalize w22.drew = w23 at BK102 HB hx104_0 hx104_1 hx104_2 hx104_3 hx104_4 hx104_5 hHeld ⊢
            refine tk 0 (some 15) (bm 17 1) HT_ HW_ hHeld ?_
            refine ck 1 (some 16) (bm 17 3) HT_ (fun K hK => ?_)
            refine gs Try.func47 #[.agg #[.int .i64 ((rd_T44 l0 x10_1).f0),.int .i64 ((rd_T44 l0 x10_1).f1),.int .i64 ((rd_T44 l0 x10_1).f2),.int .i64 ((rd_T44 l0 x10_1).f3),.int .i64 ((rd_T44 l0 x10_1).f4),.int .i64 ((rd_T44 l0 x10_1).f5)]] ?_
            with_reducible refine (cargo_sound.calls ((rd_T44 l0 x10_1).f0) ((rd_T44 l0 x10_1).f1) ((rd_T44 l0 x10_1).f2) ((rd_T44 l0 x10_1).f3) ((rd_T44 l0 x10_1).f4) ((rd_T44 l0 x10_1).f5) true _ A6.out).mono ?_
            rintro e w24 ⟨rfl,hb⟩
            refine ⟨_,rfl,?_⟩
            have n0_:=Aside0.mk (blk_below (g:=gb102) (o:=.cells #[.int .i64 ((rd_T44 l0 x10_1).f0),.int .i64 ((rd_T44 l0 x10_1).f1),.int .i64 ((rd_T44 l0 x10_1).f2),.int .i64 ((rd_T44 l0 x10_1).f3),.int .i64 ((rd_T44 l0 x10_1).f4),.int .i64 ((rd_T44 l0 x10_1).f5)] 44 (0,0)) (by (with_reducible repeat (first | refine blk_drewN ?_ _ | refine blk_drew ?_ | refine blk_alloc ?_ _)); exact BK102.out) hb)
            have n1_:=Aside0.mk (below_step (by repeat (first | (with_reducible first | exact HB.out | apply below_alloc | apply pw_below_drewN | apply below_drew1 | refine below_set ?_ GE102.out) | exact HB.out)) hb)
            clear BK102
            clear HB
            have BK102:=n0_
            have HB:=n1_
            clear n0_ n1_
            (try clear hb)
            (try clear hb2)
            (try clear hk)
            (try clear hi)
            refine hK.out _ _ ⟨(blk_cell BK102.out 0).trans rfl,(blk_cell BK102.out 1).trans rfl,(blk_cell BK102.out 2).trans rfl,(blk_cell BK102.out 3).trans rfl,(blk_cell BK102.out 4).trans rfl,(blk_cell BK102.out 5).trans rfl,((HB.out.cell (World.block_lt_of_cell? w _ hw104_0)).trans hw104_0),((HB.out.cell (World.block_lt_of_cell? w _ hw104_1)).trans hw104_1),((HB.out.cell (World.block_lt_of_cell? w _ hw104_2)).trans hw104_2),((HB.out.cell (World.block_lt_of_cell? w _ hw104_3)).trans hw104_3),((HB.out.cell (World.block_lt_of_cell? w _ hw104_4)).trans hw104_4),((HB.out.cell (World.block_lt_of_cell? w _ hw104_5)).trans hw104_5)⟩ (fun hHeld => ?_)
            clear hK K
            refine nm ?_
            refine pv 2 (some 17) (bm 17 7) HT_ ?_
            refine pv 3 (some 18) (bm 17 15) HT_ ?_
            refine pv 4 (some 19) (bm 17 31) HT_ ?_
            refine pv 5 (some 20) (bm 17 63) HT_ ?_
            refine pv 6 (some 21) (bm 17 127) HT_ ?_
            refine pv 7 (some 22) (bm 17 255) HT_ ?_
            refine pv 8 (some 23) (bm 17 511) HT_ ?_
            refine pv 9 (some 24) (bm 17 1023) HT_ ?_
            refine pv 10 (some 25) (bm 17 2047) HT_ ?_
            refine tk 11 (some 26) (bm 17 4095) HT_ HW_ hHeld ?_
            refine tk 12 (some 27) (bm 17 8191) HT_ HW_ hHeld ?_
            refine ck 13 (some 28) (bm 17 16383) HT_ (fun K hK => ?_)
            refine goes_ Try.func48 (by kernel_rfl) rfl #[.agg #[.int .i64 ((rd_T44 l0 (ji9)).f0),.int .i64 ((rd_T44 l0 (ji9)).f1),.int .i64 ((rd_T44 l0 (ji9)).f2),.int .i64 ((rd_T44 l0 (ji9)).f3),.int .i64 ((rd_T44 l0 (ji9)).f4),.int .i64 ((rd_T44 l0 (ji9)).f5)],.agg #[.int .i64 ((rd_T44 l0 x10_1).f0),.int .i64 ((rd_T44 l0 x10_1).f1),.int .i64 ((rd_T44 l0 x10_1).f2),.int .i64 ((rd_T44 l0 x10_1).f3),.int .i64 ((rd_T44 l0 x10_1).f4),.int .i64 ((rd_T44 l0 x10_1).f5)]] (by rfl) rfl rfl (by (try simp only [List.map_toArray,List.map_cons,List.map_nil]); first | done | (simp only [hji9]; rfl) | rfl | (simp only [List.length_drop,List.length_take]; rfl)) ?_
            with_reducible refine (cargo_compare.calls k1 ((rd_T44 l0 (ji9)).f0) ((rd_T44 l0 (ji9)).f1) ((rd_T44 l0 (ji9)).f2) ((rd_T44 l0 (ji9)).f3) ((rd_T44 l0 (ji9)).f4) ((rd_T44 l0 (ji9)).f5) ((rd_T44 l0 x10_1).f0) ((rd_T44 l0 x10_1).f1) ((rd_T44 l0 x10_1).f2) ((rd_T44 l0 x10_1).f3) ((rd_T44 l0 x10_1).f4) ((rd_T44 l0 x10_1).f5) t105 _ A12.out).mono ?_
            rintro e w25 ⟨rfl,hb⟩
            refine ⟨_,rfl,?_⟩
            have n0_:=Aside0.mk (blk_below (g:=gb102) (o:=.cells #[.int .i64 ((rd_T44 l0 x10_1).f0),.int .i64 ((rd_T44 l0 x10_1).f1),.int .i64 ((rd_T44 l0 x10_1).f2),.int .i64 ((rd_T44 l0 x10_1).f3),.int .i64 ((rd_T44 l0 x10_1).f4),.int .i64 ((rd_T44 l0 x10_1).f5)] 44 (0,0)) (by (with_reducible repeat (first | refine blk_drewN ?_ _ | refine blk_drew ?_ | refine blk_alloc ?_ _)); exact BK102.out) hb)
            have n1_:=Aside0.mk (below_step (by repeat (first | (with_reducible first | exact HB.out | apply below_alloc | apply pw_below_drewN | apply below_drew1 | refine below_set ?_ GE102.out) | exact HB.out)) hb)
            clear BK102
            clear HB
            have BK102:=n0_
            have HB:=n1_
            clear n0_ n1_
            (try clear hb)
            (try clear hb2)
            (try clear hk)
            (try clear hi)
            refine hK.out _ _ ⟨(blk_cell BK102.out 0).trans rfl,(blk_cell BK102.out 1).trans rfl,(blk_cell BK102.out 2).trans rfl,(blk_cell BK102.out 3).trans rfl,(blk_cell BK102.out 4).trans rfl,(blk_cell BK102.out 5).trans rfl,((HB.out.cell (World.block_lt_of_cell? w _ hw104_0)).trans hw104_0),((HB.out.cell (World.block_lt_of_cell? w _ hw104_1)).trans hw104_1),((HB.out.cell (World.block_lt_of_cell? w _ hw104_2)).trans hw104_2),((HB.out.cell (World.block_lt_of_cell? w _ hw104_3)).trans hw104_3),((HB.out.cell (World.block_lt_of_cell? w _ hw104_4)).trans hw104_4),((HB.out.cell (World.block_lt_of_cell? w _ hw104_5)).trans hw104_5)⟩ (fun hHeld => ?_)
            clear hK K
            refine nm ?_
            refine pv 14 (some 29) (bm 17 32767) HT_ ?_
            refine pv 15 (some 30) (bm 17 65535) HT_ ?_
            refine pv 16 (some 31) (bm 17 131071) HT_ ?_
            refine done_ (done_of HT_.out (by kernel_rfl)) ?_
            try go_wp2
            go_roundg k1
            case measure => have:=HK1.out; omega
            case rel => exact ⟨(wrap64 (x10_1 + 1)),(by first | rfl | (simp; done) | (simp [*]; done)),H',⟨by have:=HK1.out; omega⟩,⟨by repeat (first | (with_reducible first | exact HB.out | apply below_alloc | apply pw_below_drewN | apply below_drew1 | refine below_set ?_ GE102.out) | exact HB.out)⟩⟩
          ·rw [if_neg c11] at H
           exact absurd H (by simp)
         ·rw [if_neg c10] at H
          exact absurd H (by simp)
        ·rw [if_neg c8] at H
         have c8b0 : decide (0 < x10_1) = false:=decide_eq_false c8
         clear c8
         have H':=Aside0.mk H
         clear H
         have p101 : 0 ≤ (x10_1 : Int):=of_decide_eq_true (by first | (with_reducible assumption) | assumption)
         have q101 : x10_1 < (l0.length : Int):=of_decide_eq_true (by first | (with_reducible assumption) | assumption)
         obtain ⟨ad101,e101,hx101_0,hx101_1,hx101_2,hx101_3,hx101_4,hx101_5⟩:=at_T44 HR0.out x10_1 p101 q101
         cases e101
         replace hx101_0:=(HB.out.cell (World.block_lt_of_cell? w _ hx101_0)).trans hx101_0
         replace hx101_1:=(HB.out.cell (World.block_lt_of_cell? w _ hx101_1)).trans hx101_1
         replace hx101_2:=(HB.out.cell (World.block_lt_of_cell? w _ hx101_2)).trans hx101_2
         replace hx101_3:=(HB.out.cell (World.block_lt_of_cell? w _ hx101_3)).trans hx101_3
         replace hx101_4:=(HB.out.cell (World.block_lt_of_cell? w _ hx101_4)).trans hx101_4
         replace hx101_5:=(HB.out.cell (World.block_lt_of_cell? w _ hx101_5)).trans hx101_5
         replace p101:=eq_true p101
         replace q101:=eq_true q101
         try go_wp2_with (first | ((with_reducible refine gate_dst (N:=4) rfl ?_); refine box_event ?hg (N:=4) ?hd (cs:=#[.int .i64 0,.int .i64 0,.int .i64 0,.int .i64 0,.int .i64 0,.int .i64 0]) (t:=44) ?hr ?_; (case hd => rfl); (case hg => rfl); (case hr => first | (go_simp; done) | (go_simp; rfl)); intro gb102 hg w26 hbox hb; have n0_:=Aside0.mk (below_step (by repeat (first | (with_reducible first | exact HB.out | apply below_alloc | apply pw_below_drewN | apply below_drew1) | exact HB.out)) hb); have n1_:=Aside0.mk (hbox); have n2_:=Aside0.mk ((by rw [hg]; exact (below_size (by repeat (first | (with_reducible first | exact HB.out | apply below_alloc | apply pw_below_drewN | apply below_drew1) | exact HB.out))) : w.heap.size ≤ gb102)); have n3_:=Aside0.mk ((by rw [hg]; exact (below_size (by repeat (first | (with_reducible first | exact HB.out | apply below_alloc | apply pw_below_drewN | apply below_drew1) | exact HB.out))) : w.heap.size ≤ gb102)); clear HB; have HB:=n0_; have BK102:=n1_; have GW102:=n2_; have GE102:=n3_; clear n0_ n1_ n2_ n3_; clear hb hbox hg; have hcz27_0 : w26.cell? ⟨gb102,0,none⟩ = some (.int .i64 0):=(blk_cell BK102.out 0).trans rfl; have hcz27_1 : w26.cell? ⟨gb102,1,none⟩ = some (.int .i64 0):=(blk_cell BK102.out 1).trans rfl; have hcz27_2 : w26.cell? ⟨gb102,2,none⟩ = some (.int .i64 0):=(blk_cell BK102.out 2).trans rfl; have hcz27_3 : w26.cell? ⟨gb102,3,none⟩ = some (.int .i64 0):=(blk_cell BK102.out 3).trans rfl; have hcz27_4 : w26.cell? ⟨gb102,4,none⟩ = some (.int .i64 0):=(blk_cell BK102.out 4).trans rfl; have hcz27_5 : w26.cell? ⟨gb102,5,none⟩ = some (.int .i64 0):=(blk_cell BK102.out 5).trans rfl; have hfz27_0:=blk_frozen BK102.out 0; have hfz27_1:=blk_frozen BK102.out 1; have hfz27_2:=blk_frozen BK102.out 2; have hfz27_3:=blk_frozen BK102.out 3; have hfz27_4:=blk_frozen BK102.out 4; have hfz27_5:=blk_frozen BK102.out 5))
         have n0_ : Aside0 (((((((w26.setCell ⟨gb102,0,none⟩ (.int .i64 ((rd_T44 l0 x10_1).f0))).setCell ⟨gb102,1,none⟩ (.int .i64 ((rd_T44 l0 x10_1).f1))).setCell ⟨gb102,2,none⟩ (.int .i64 ((rd_T44 l0 x10_1).f2))).setCell ⟨gb102,3,none⟩ (.int .i64 ((rd_T44 l0 x10_1).f3))).setCell ⟨gb102,4,none⟩ (.int .i64 ((rd_T44 l0 x10_1).f4))).setCell ⟨gb102,5,none⟩ (.int .i64 ((rd_T44 l0 x10_1).f5))).heap[gb102]? = some (.cells #[.int .i64 ((rd_T44 l0 x10_1).f0),.int .i64 ((rd_T44 l0 x10_1).f1),.int .i64 ((rd_T44 l0 x10_1).f2),.int .i64 ((rd_T44 l0 x10_1).f3),.int .i64 ((rd_T44 l0 x10_1).f4),.int .i64 ((rd_T44 l0 x10_1).f5)] 44 (0,0))):=⟨by (with_reducible repeat (first | refine blk_drewN ?_ _ | refine blk_drew ?_ | refine blk_alloc ?_ _)); refine blk_put (cs:=#[.int .i64 ((rd_T44 l0 x10_1).f0),.int .i64 ((rd_T44 l0 x10_1).f1),.int .i64 ((rd_T44 l0 x10_1).f2),.int .i64 ((rd_T44 l0 x10_1).f3),.int .i64 ((rd_T44 l0 x10_1).f4),.int .i64 0]) ?_ 5 _ rfl; (with_reducible repeat (first | refine blk_drewN ?_ _ | refine blk_drew ?_ | refine blk_alloc ?_ _)); refine blk_put (cs:=#[.int .i64 ((rd_T44 l0 x10_1).f0),.int .i64 ((rd_T44 l0 x10_1).f1),.int .i64 ((rd_T44 l0 x10_1).f2),.int .i64 ((rd_T44 l0 x10_1).f3),.int .i64 0,.int .i64 0]) ?_ 4 _ rfl; (with_reducible repeat (first | refine blk_drewN ?_ _ | refine blk_drew ?_ | refine blk_alloc ?_ _)); refine blk_put (cs:=#[.int .i64 ((rd_T44 l0 x10_1).f0),.int .i64 ((rd_T44 l0 x10_1).f1),.int .i64 ((rd_T44 l0 x10_1).f2),.int .i64 0,.int .i64 0,.int .i64 0]) ?_ 3 _ rfl; (with_reducible repeat (first | refine blk_drewN ?_ _ | refine blk_drew ?_ | refine blk_alloc ?_ _)); refine blk_put (cs:=#[.int .i64 ((rd_T44 l0 x10_1).f0),.int .i64 ((rd_T44 l0 x10_1).f1),.int .i64 0,.int .i64 0,.int .i64 0,.int .i64 0]) ?_ 2 _ rfl; (with_reducible repeat (first | refine blk_drewN ?_ _ | refine blk_drew ?_ | refine blk_alloc ?_ _)); refine blk_put (cs:=#[.int .i64 ((rd_T44 l0 x10_1).f0),.int .i64 0,.int .i64 0,.int .i64 0,.int .i64 0,.int .i64 0]) ?_ 1 _ rfl; (with_reducible repeat (first | refine blk_drewN ?_ _ | refine blk_drew ?_ | refine blk_alloc ?_ _)); refine blk_put (cs:=#[.int .i64 0,.int .i64 0,.int .i64 0,.int .i64 0,.int .i64 0,.int .i64 0]) ?_ 0 _ rfl; (with_reducible repeat (first | refine blk_drewN ?_ _ | refine blk_drew ?_ | refine blk_alloc ?_ _)); exact BK102.out⟩
         have n1_ : Aside0 (Below w.heap.size w ((((((w26.setCell ⟨gb102,0,none⟩ (.int .i64 ((rd_T44 l0 x10_1).f0))).setCell ⟨gb102,1,none⟩ (.int .i64 ((rd_T44 l0 x10_1).f1))).setCell ⟨gb102,2,none⟩ (.int .i64 ((rd_T44 l0 x10_1).f2))).setCell ⟨gb102,3,none⟩ (.int .i64 ((rd_T44 l0 x10_1).f3))).setCell ⟨gb102,4,none⟩ (.int .i64 ((rd_T44 l0 x10_1).f4))).setCell ⟨gb102,5,none⟩ (.int .i64 ((rd_T44 l0 x10_1).f5)))):=⟨by repeat (first | (with_reducible first | exact HB.out | apply below_alloc | apply pw_below_drewN | apply below_drew1 | refine below_set ?_ GE102.out) | exact HB.out)⟩
         (try clear BK102)
         (try clear HB)
         generalize ((((((w26.setCell ⟨gb102,0,none⟩ (.int .i64 ((rd_T44 l0 x10_1).f0))).setCell ⟨gb102,1,none⟩ (.int .i64 ((rd_T44 l0 x10_1).f1))).setCell ⟨gb102,2,none⟩ (.int .i64 ((rd_T44 l0 x10_1).f2))).setCell ⟨gb102,3,none⟩ (.int .i64 ((rd_T44 l0 x10_1).f3))).setCell ⟨gb102,4,none⟩ (.int .i64 ((rd_T44 l0 x10_1).f4))).setCell ⟨gb102,5,none⟩ (.int .i64 ((rd_T44 l0 x10_1).f5))) = w28 at n0_ n1_ ⊢
         have BK102:=n0_
         have HB:=n1_
         clear n0_ n1_
         have n0_:=Aside0.mk (blk_drew BK102.out)
         have n1_:=Aside0.mk (below_drew1 HB.out)
         clear BK102
         clear HB
         have BK102:=n0_
         have HB:=n1_
         clear n0_ n1_
         refine start_ (n:=17) (S:=fun w' => w'.cell? ⟨gb102,0,none⟩ = some (.int .i64 ((rd_T44 l0 x10_1).f0)) ∧ w'.cell? ⟨gb102,1,none⟩ = some (.int .i64 ((rd_T44 l0 x10_1).f1)) ∧ w'.cell? ⟨gb102,2,none⟩ = some (.int .i64 ((rd_T44 l0 x10_1).f2)) ∧ w'.cell? ⟨gb102,3,none⟩ = some (.int .i64 ((rd_T44 l0 x10_1).f3)) ∧ w'.cell? ⟨gb102,4,none⟩ = some (.int .i64 ((rd_T44 l0 x10_1).f4)) ∧ w'.cell? ⟨gb102,5,none⟩ = some (.int .i64 ((rd_T44 l0 x10_1).f5))) (ds:=[]) (bm 17 0) (by kernel_rfl) rfl (by kernel_rfl) ⟨(blk_cell BK102.out 0).trans rfl,(blk_cell BK102.out 1).trans rfl,(blk_cell BK102.out 2).trans rfl,(blk_cell BK102.out 3).trans rfl,(blk_cell BK102.out 4).trans rfl,(blk_cell BK102.out 5).trans rfl⟩ (fun hHeld => ?_); refine with_tabW cargo_Validate.tab6 cargo_Validate.bits6 (fun HT_ HW_ => ?_)
         generalize w28.drew = w29 at BK102 HB hHeld ⊢
         refine tk 0 (some 15) (bm 17 1) HT_ HW_ hHeld ?_
         refine ck 1 (some 16) (bm 17 3) HT_ (fun K hK => ?_)
         refine gs Try.func47 #[.agg #[.int .i64 ((rd_T44 l0 x10_1).f0),.int .i64 ((rd_T44 l0 x10_1).f1),.int .i64 ((rd_T44 l0 x10_1).f2),.int .i64 ((rd_T44 l0 x10_1).f3),.int .i64 ((rd_T44 l0 x10_1).f4),.int .i64 ((rd_T44 l0 x10_1).f5)]] ?_
         with_reducible refine (cargo_sound.calls ((rd_T44 l0 x10_1).f0) ((rd_T44 l0 x10_1).f1) ((rd_T44 l0 x10_1).f2) ((rd_T44 l0 x10_1).f3) ((rd_T44 l0 x10_1).f4) ((rd_T44 l0 x10_1).f5) true _ A6.out).mono ?_
         rintro e w30 ⟨rfl,hb⟩
         refine ⟨_,rfl,?_⟩
         have n0_:=Aside0.mk (blk_below (g:=gb102) (o:=.cells #[.int .i64 ((rd_T44 l0 x10_1).f0),.int .i64 ((rd_T44 l0 x10_1).f1),.int .i64 ((rd_T44 l0 x10_1).f2),.int .i64 ((rd_T44 l0 x10_1).f3),.int .i64 ((rd_T44 l0 x10_1).f4),.int .i64 ((rd_T44 l0 x10_1).f5)] 44 (0,0)) (by (with_reducible repeat (first | refine blk_drewN ?_ _ | refine blk_drew ?_ | refine blk_alloc ?_ _)); exact BK102.out) hb)
         have n1_:=Aside0.mk (below_step (by repeat (first | (with_reducible first | exact HB.out | apply below_alloc | apply pw_below_drewN | apply below_drew1 | refine below_set ?_ GE102.out) | exact HB.out)) hb)
         clear BK102
         clear HB
         have BK102:=n0_
         have HB:=n1_
         clear n0_ n1_
         (try clear hb)
         (try clear hb2)
         (try clear hk)
         (try clear hi)
         refine hK.out _ _ ⟨(blk_cell BK102.out 0).trans rfl,(blk_cell BK102.out 1).trans rfl,(blk_cell BK102.out 2).trans rfl,(blk_cell BK102.out 3).trans rfl,(blk_cell BK102.out 4).trans rfl,(blk_cell BK102.out 5).trans rfl⟩ (fun hHeld => ?_)
         clear hK K
         refine nm ?_
         refine pv 2 (some 17) (bm 17 7) HT_ ?_
         refine pv 3 (some 18) (bm 17 15) HT_ ?_
         refine pv 4 (some 19) (bm 17 31) HT_ ?_
         refine pv 5 (some 20) (bm 17 63) HT_ ?_
         refine pv 6 (some 21) (bm 17 127) HT_ ?_
         refine pn 7 (some 22) (bm 17 255) HT_ ?_
         refine pn 8 (some 23) (bm 17 511) HT_ ?_
         refine pn 9 (some 24) (bm 17 1023) HT_ ?_
         refine pn 10 (some 25) (bm 17 2047) HT_ ?_
         refine pn 11 (some 26) (bm 17 4095) HT_ ?_
         refine pn 12 (some 27) (bm 17 8191) HT_ ?_
         refine pn 13 (some 28) (bm 17 16383) HT_ ?_
         refine pn 14 (some 29) (bm 17 32767) HT_ ?_
         refine pv 15 (some 30) (bm 17 65535) HT_ ?_
         refine pv 16 (some 31) (bm 17 131071) HT_ ?_
         refine done_ (done_of HT_.out (by kernel_rfl)) ?_
         try go_wp2
         go_roundg k1
         case measure => have:=HK1.out; omega
         case rel => exact ⟨(wrap64 (x10_1 + 1)),(by first | rfl | (simp; done) | (simp [*]; done)),H',⟨by have:=HK1.out; omega⟩,⟨by repeat (first | (with_reducible first | exact HB.out | apply below_alloc | apply pw_below_drewN | apply below_drew1 | refine below_set ?_ GE102.out) | exact HB.out)⟩⟩
       ·replace c7:=Bool.eq_false_iff.mpr c7
        subst c7
        have H1 : (some 1) = some r:=by rw [if_neg (show ¬ (false = true) by decide)] at H; exact H
        clear H
        have H:=H1
        clear H1
        obtain rfl:=Option.some.inj H
        have p101 : 0 ≤ (x10_1 : Int):=of_decide_eq_true (by first | (with_reducible assumption) | assumption)
        have q101 : x10_1 < (l0.length : Int):=of_decide_eq_true (by first | (with_reducible assumption) | assumption)
        obtain ⟨ad101,e101,hx101_0,hx101_1,hx101_2,hx101_3,hx101_4,hx101_5⟩:=at_T44 HR0.out x10_1 p101 q101
        cases e101
        replace hx101_0:=(HB.out.cell (World.block_lt_of_cell? w _ hx101_0)).trans hx101_0
        replace hx101_1:=(HB.out.cell (World.block_lt_of_cell? w _ hx101_1)).trans hx101_1
        replace hx101_2:=(HB.out.cell (World.block_lt_of_cell? w _ hx101_2)).trans hx101_2
        replace hx101_3:=(HB.out.cell (World.block_lt_of_cell? w _ hx101_3)).trans hx101_3
        replace hx101_4:=(HB.out.cell (World.block_lt_of_cell? w _ hx101_4)).trans hx101_4
        replace hx101_5:=(HB.out.cell (World.block_lt_of_cell? w _ hx101_5)).trans hx101_5
        replace p101:=eq_true p101
        replace q101:=eq_true q101
        try go_wp2_with (first | ((with_reducible refine gate_dst (N:=4) rfl ?_); refine box_event ?hg (N:=4) ?hd (cs:=#[.int .i64 0,.int .i64 0,.int .i64 0,.int .i64 0,.int .i64 0,.int .i64 0]) (t:=44) ?hr ?_; (case hd => rfl); (case hg => rfl); (case hr => first | (go_simp; done) | (go_simp; rfl)); intro gb102 hg w31 hbox hb; have n0_:=Aside0.mk (below_step (by repeat (first | (with_reducible first | exact HB.out | apply below_alloc | apply pw_below_drewN | apply below_drew1) | exact HB.out)) hb); have n1_:=Aside0.mk (hbox); have n2_:=Aside0.mk ((by rw [hg]; exact (below_size (by repeat (first | (with_reducible first | exact HB.out | apply below_alloc | apply pw_below_drewN | apply below_drew1) | exact HB.out))) : w.heap.size ≤ gb102)); have n3_:=Aside0.mk ((by rw [hg]; exact (below_size (by repeat (first | (with_reducible first | exact HB.out | apply below_alloc | apply pw_below_drewN | apply below_drew1) | exact HB.out))) : w.heap.size ≤ gb102)); clear HB; have HB:=n0_; have BK102:=n1_; have GW102:=n2_; have GE102:=n3_; clear n0_ n1_ n2_ n3_; clear hb hbox hg; have hcz32_0 : w31.cell? ⟨gb102,0,none⟩ = some (.int .i64 0):=(blk_cell BK102.out 0).trans rfl; have hcz32_1 : w31.cell? ⟨gb102,1,none⟩ = some (.int .i64 0):=(blk_cell BK102.out 1).trans rfl; have hcz32_2 : w31.cell? ⟨gb102,2,none⟩ = some (.int .i64 0):=(blk_cell BK102.out 2).trans rfl; have hcz32_3 : w31.cell? ⟨gb102,3,none⟩ = some (.int .i64 0):=(blk_cell BK102.out 3).trans rfl; have hcz32_4 : w31.cell? ⟨gb102,4,none⟩ = some (.int .i64 0):=(blk_cell BK102.out 4).trans rfl; have hcz32_5 : w31.cell? ⟨gb102,5,none⟩ = some (.int .i64 0):=(blk_cell BK102.out 5).trans rfl; have hfz32_0:=blk_frozen BK102.out 0; have hfz32_1:=blk_frozen BK102.out 1; have hfz32_2:=blk_frozen BK102.out 2; have hfz32_3:=blk_frozen BK102.out 3; have hfz32_4:=blk_frozen BK102.out 4; have hfz32_5:=blk_frozen BK102.out 5))
        have n0_ : Aside0 (((((((w31.setCell ⟨gb102,0,none⟩ (.int .i64 ((rd_T44 l0 x10_1).f0))).setCell ⟨gb102,1,none⟩ (.int .i64 ((rd_T44 l0 x10_1).f1))).setCell ⟨gb102,2,none⟩ (.int .i64 ((rd_T44 l0 x10_1).f2))).setCell ⟨gb102,3,none⟩ (.int .i64 ((rd_T44 l0 x10_1).f3))).setCell ⟨gb102,4,none⟩ (.int .i64 ((rd_T44 l0 x10_1).f4))).setCell ⟨gb102,5,none⟩ (.int .i64 ((rd_T44 l0 x10_1).f5))).heap[gb102]? = some (.cells #[.int .i64 ((rd_T44 l0 x10_1).f0),.int .i64 ((rd_T44 l0 x10_1).f1),.int .i64 ((rd_T44 l0 x10_1).f2),.int .i64 ((rd_T44 l0 x10_1).f3),.int .i64 ((rd_T44 l0 x10_1).f4),.int .i64 ((rd_T44 l0 x10_1).f5)] 44 (0,0))):=⟨by (with_reducible repeat (first | refine blk_drewN ?_ _ | refine blk_drew ?_ | refine blk_alloc ?_ _)); refine blk_put (cs:=#[.int .i64 ((rd_T44 l0 x10_1).f0),.int .i64 ((rd_T44 l0 x10_1).f1),.int .i64 ((rd_T44 l0 x10_1).f2),.int .i64 ((rd_T44 l0 x10_1).f3),.int .i64 ((rd_T44 l0 x10_1).f4),.int .i64 0]) ?_ 5 _ rfl; (with_reducible repeat (first | refine blk_drewN ?_ _ | refine blk_drew ?_ | refine blk_alloc ?_ _)); refine blk_put (cs:=#[.int .i64 ((rd_T44 l0 x10_1).f0),.int .i64 ((rd_T44 l0 x10_1).f1),.int .i64 ((rd_T44 l0 x10_1).f2),.int .i64 ((rd_T44 l0 x10_1).f3),.int .i64 0,.int .i64 0]) ?_ 4 _ rfl; (with_reducible repeat (first | refine blk_drewN ?_ _ | refine blk_drew ?_ | refine blk_alloc ?_ _)); refine blk_put (cs:=#[.int .i64 ((rd_T44 l0 x10_1).f0),.int .i64 ((rd_T44 l0 x10_1).f1),.int .i64 ((rd_T44 l0 x10_1).f2),.int .i64 0,.int .i64 0,.int .i64 0]) ?_ 3 _ rfl; (with_reducible repeat (first | refine blk_drewN ?_ _ | refine blk_drew ?_ | refine blk_alloc ?_ _)); refine blk_put (cs:=#[.int .i64 ((rd_T44 l0 x10_1).f0),.int .i64 ((rd_T44 l0 x10_1).f1),.int .i64 0,.int .i64 0,.int .i64 0,.int .i64 0]) ?_ 2 _ rfl; (with_reducible repeat (first | refine blk_drewN ?_ _ | refine blk_drew ?_ | refine blk_alloc ?_ _)); refine blk_put (cs:=#[.int .i64 ((rd_T44 l0 x10_1).f0),.int .i64 0,.int .i64 0,.int .i64 0,.int .i64 0,.int .i64 0]) ?_ 1 _ rfl; (with_reducible repeat (first | refine blk_drewN ?_ _ | refine blk_drew ?_ | refine blk_alloc ?_ _)); refine blk_put (cs:=#[.int .i64 0,.int .i64 0,.int .i64 0,.int .i64 0,.int .i64 0,.int .i64 0]) ?_ 0 _ rfl; (with_reducible repeat (first | refine blk_drewN ?_ _ | refine blk_drew ?_ | refine blk_alloc ?_ _)); exact BK102.out⟩
        have n1_ : Aside0 (Below w.heap.size w ((((((w31.setCell ⟨gb102,0,none⟩ (.int .i64 ((rd_T44 l0 x10_1).f0))).setCell ⟨gb102,1,none⟩ (.int .i64 ((rd_T44 l0 x10_1).f1))).setCell ⟨gb102,2,none⟩ (.int .i64 ((rd_T44 l0 x10_1).f2))).setCell ⟨gb102,3,none⟩ (.int .i64 ((rd_T44 l0 x10_1).f3))).setCell ⟨gb102,4,none⟩ (.int .i64 ((rd_T44 l0 x10_1).f4))).setCell ⟨gb102,5,none⟩ (.int .i64 ((rd_T44 l0 x10_1).f5)))):=⟨by repeat (first | (with_reducible first | exact HB.out | apply below_alloc | apply pw_below_drewN | apply below_drew1 | refine below_set ?_ GE102.out) | exact HB.out)⟩
        (try clear BK102)
        (try clear HB)
        generalize ((((((w31.setCell ⟨gb102,0,none⟩ (.int .i64 ((rd_T44 l0 x10_1).f0))).setCell ⟨gb102,1,none⟩ (.int .i64 ((rd_T44 l0 x10_1).f1))).setCell ⟨gb102,2,none⟩ (.int .i64 ((rd_T44 l0 x10_1).f2))).setCell ⟨gb102,3,none⟩ (.int .i64 ((rd_T44 l0 x10_1).f3))).setCell ⟨gb102,4,none⟩ (.int .i64 ((rd_T44 l0 x10_1).f4))).setCell ⟨gb102,5,none⟩ (.int .i64 ((rd_T44 l0 x10_1).f5))) = w33 at n0_ n1_ ⊢
        have BK102:=n0_
        have HB:=n1_
        clear n0_ n1_
        have n0_:=Aside0.mk (blk_drew BK102.out)
        have n1_:=Aside0.mk (below_drew1 HB.out)
        clear BK102
        clear HB
        have BK102:=n0_
        have HB:=n1_
        clear n0_ n1_
        refine start_ (n:=17) (S:=fun w' => w'.cell? ⟨gb102,0,none⟩ = some (.int .i64 ((rd_T44 l0 x10_1).f0)) ∧ w'.cell? ⟨gb102,1,none⟩ = some (.int .i64 ((rd_T44 l0 x10_1).f1)) ∧ w'.cell? ⟨gb102,2,none⟩ = some (.int .i64 ((rd_T44 l0 x10_1).f2)) ∧ w'.cell? ⟨gb102,3,none⟩ = some (.int .i64 ((rd_T44 l0 x10_1).f3)) ∧ w'.cell? ⟨gb102,4,none⟩ = some (.int .i64 ((rd_T44 l0 x10_1).f4)) ∧ w'.cell? ⟨gb102,5,none⟩ = some (.int .i64 ((rd_T44 l0 x10_1).f5))) (ds:=[]) (bm 17 0) (by kernel_rfl) rfl (by kernel_rfl) ⟨(blk_cell BK102.out 0).trans rfl,(blk_cell BK102.out 1).trans rfl,(blk_cell BK102.out 2).trans rfl,(blk_cell BK102.out 3).trans rfl,(blk_cell BK102.out 4).trans rfl,(blk_cell BK102.out 5).trans rfl⟩ (fun hHeld => ?_); refine with_tabW cargo_Validate.tab6 cargo_Validate.bits6 (fun HT_ HW_ => ?_)
        generalize w33.drew = w34 at BK102 HB hHeld ⊢
        refine tk 0 (some 15) (bm 17 1) HT_ HW_ hHeld ?_
        refine ck 1 (some 16) (bm 17 3) HT_ (fun K hK => ?_)
        refine gs Try.func47 #[.agg #[.int .i64 ((rd_T44 l0 x10_1).f0),.int .i64 ((rd_T44 l0 x10_1).f1),.int .i64 ((rd_T44 l0 x10_1).f2),.int .i64 ((rd_T44 l0 x10_1).f3),.int .i64 ((rd_T44 l0 x10_1).f4),.int .i64 ((rd_T44 l0 x10_1).f5)]] ?_
        with_reducible refine (cargo_sound.calls ((rd_T44 l0 x10_1).f0) ((rd_T44 l0 x10_1).f1) ((rd_T44 l0 x10_1).f2) ((rd_T44 l0 x10_1).f3) ((rd_T44 l0 x10_1).f4) ((rd_T44 l0 x10_1).f5) false _ A6.out).mono ?_
        rintro e w35 ⟨rfl,hb⟩
        refine ⟨_,rfl,?_⟩
        have n0_:=Aside0.mk (blk_below (g:=gb102) (o:=.cells #[.int .i64 ((rd_T44 l0 x10_1).f0),.int .i64 ((rd_T44 l0 x10_1).f1),.int .i64 ((rd_T44 l0 x10_1).f2),.int .i64 ((rd_T44 l0 x10_1).f3),.int .i64 ((rd_T44 l0 x10_1).f4),.int .i64 ((rd_T44 l0 x10_1).f5)] 44 (0,0)) (by (with_reducible repeat (first | refine blk_drewN ?_ _ | refine blk_drew ?_ | refine blk_alloc ?_ _)); exact BK102.out) hb)
        have n1_:=Aside0.mk (below_step (by repeat (first | (with_reducible first | exact HB.out | apply below_alloc | apply pw_below_drewN | apply below_drew1 | refine below_set ?_ GE102.out) | exact HB.out)) hb)
        clear BK102
        clear HB
        have BK102:=n0_
        have HB:=n1_
        clear n0_ n1_
        (try clear hb)
        (try clear hb2)
        (try clear hk)
        (try clear hi)
        refine hK.out _ _ ⟨(blk_cell BK102.out 0).trans rfl,(blk_cell BK102.out 1).trans rfl,(blk_cell BK102.out 2).trans rfl,(blk_cell BK102.out 3).trans rfl,(blk_cell BK102.out 4).trans rfl,(blk_cell BK102.out 5).trans rfl⟩ (fun hHeld => ?_)
        clear hK K
        refine nm ?_
        refine pv 2 (some 17) (bm 17 7) HT_ ?_
        refine pv 3 (some 18) (bm 17 15) HT_ ?_
        refine pn 4 (some 19) (bm 17 31) HT_ ?_
        refine pn 5 (some 20) (bm 17 63) HT_ ?_
        refine pn 6 (some 21) (bm 17 127) HT_ ?_
        refine pn 7 (some 22) (bm 17 255) HT_ ?_
        refine pn 8 (some 23) (bm 17 511) HT_ ?_
        refine pn 9 (some 24) (bm 17 1023) HT_ ?_
        refine pn 10 (some 25) (bm 17 2047) HT_ ?_
        refine pn 11 (some 26) (bm 17 4095) HT_ ?_
        refine pn 12 (some 27) (bm 17 8191) HT_ ?_
        refine pn 13 (some 28) (bm 17 16383) HT_ ?_
        refine pn 14 (some 29) (bm 17 32767) HT_ ?_
        refine pn 15 (some 30) (bm 17 65535) HT_ ?_
        refine pv 16 (some 31) (bm 17 131071) HT_ ?_
        refine done_ (done_of HT_.out (by kernel_rfl)) ?_
        try go_wp2
        go_ret
        exact ⟨by first | rfl | (simp [errW_none,errW_some] <;> rfl) | (simp [*,errW_none,errW_some] <;> rfl),by repeat (first | (with_reducible first | exact HB.out | apply below_alloc | apply pw_below_drewN | apply below_drew1 | refine below_set ?_ GE102.out) | exact HB.out)⟩
      ·rw [if_neg c5] at H
       exact absurd H (by simp)
     ·rw [if_neg c4] at H
      exact absurd H (by simp)
    ·rw [if_neg c3] at H
     have c3b0 : decide (x10_1 < (l0.length : Int)) = false:=decide_eq_false c3
     clear c3
     obtain rfl:=Option.some.inj H
     go_wp2
     go_ret
     exact ⟨by first | rfl | (simp [errW_none,errW_some] <;> rfl) | (simp [*,errW_none,errW_some] <;> rfl),by repeat (first | (with_reducible first | exact HB.out | apply below_alloc | apply pw_below_drewN | apply below_drew1) | exact HB.out)⟩

end Go.Proofs.Ytmphplpfgjcpiaa.PCargo
