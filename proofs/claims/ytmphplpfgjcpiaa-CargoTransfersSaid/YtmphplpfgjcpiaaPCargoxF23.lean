/- Lean functions with the answers of the Go functions that a law uses,and for each that the Go code comes to just that; written by a program of this session's. -/
import Derived.Test.YtmphplpfgjcpiaaPCargox0
import Derived.Test.YtmphplpfgjcpiaaBq
import Derived.Test.YtmphplpfgjcpiaaPCargoxF44
import Derived.Test.YtmphplpfgjcpiaaPCargoxF50
namespace Go.Proofs.Ytmphplpfgjcpiaa.PCargo
open Go.RowKit Go.Proofs.YtmphplpfgjcpiaaW.PrintWords Go.Proofs.YtmphplpfgjcpiaaW.PrintLast Go.Proofs.YtmphplpfgjcpiaaW.PrintMore
attribute [local go_sem] max2_int min2_int max_two min_two max_three min_three max_four min_four   -- for this text's walks alone
set_option linter.unusedVariables false
set_option linter.unusedSimpArgs false

/-! ### cargo_ValidateCargoes: function 23 -/
mutual
def cargo_ValidateCargoes.l0 : Nat → List (S23) → List (S23) → Int → Int → Option (Int)
 | 0,_,_,_,_ => none
 | k + 1,x0,x12,x13,x14 => if x14 < x13 then (if 0 ≤ x14 then (if x14 < (x12.length : Int) then ((cargo_name.f k (rd_T23 x12 x14).f0).bind fun t103 => (if t103 = true then ((cargo_within.f (rd_T23 x12 x14).f1 1000).bind fun t104 => (if t104 = true then ((cargo_within.f (rd_T23 x12 x14).f2 255).bind fun t105 => (if t105 = true then ((cargo_within.f (rd_T23 x12 x14).f3 255).bind fun t106 => (if t106 = true then (cargo_ValidateCargoes.l0 k x0 x12 x13 (wrap64 (x14 + 1))) else (some 1))) else (some 1))) else (some 1))) else (some 1))) else (none)) else (none)) else (cargo_ValidateCargoes.l1 k x0 x0 (x0.length : Int) 0)
def cargo_ValidateCargoes.l1 : Nat → List (S23) → List (S23) → Int → Int → Option (Int)
 | 0,_,_,_,_ => none
 | k + 1,x0,x41,x42,x43 => if x43 < x42 then (if 0 ≤ x43 then (if x43 < (x41.length : Int) then (if x43 ≤ (x0.length : Int) then ((some (x0.take (x43 : Int).toNat : List (S23))).bind fun y109 => (cargo_ValidateCargoes.l2 k x0 x41 x42 x43 y109 (y109.length : Int) 0 (rd_T23 x41 x43).f0 (rd_T23 x41 x43).f1 (rd_T23 x41 x43).f2 (rd_T23 x41 x43).f3)) else (none)) else (none)) else (none)) else (some 0)
def cargo_ValidateCargoes.l2 : Nat → List (S23) → List (S23) → Int → Int → List (S23) → Int → Int → ByteArray → Int → Int → Int → Option (Int)
 | 0,_,_,_,_,_,_,_,_,_,_,_ => none
 | k + 1,x0,x41,x42,x43,x50,x51,x52,x109000,x109001,x109002,x109003 => if x52 < x51 then (if 0 ≤ x52 then (if x52 < (x50.length : Int) then (if x109000.toList = (rd_T23 x50 x52).f0.toList then (some 3) else (cargo_ValidateCargoes.l2 k x0 x41 x42 x43 x50 x51 (wrap64 (x52 + 1)) x109000 x109001 x109002 x109003)) else (none)) else (none)) else (cargo_ValidateCargoes.l1 k x0 x41 x42 (wrap64 (x43 + 1)))
end
def cargo_ValidateCargoes.f (k : Nat) (l0 : List (S23)) : Option (Int):=if (l0.length : Int) > 16 then (some 4) else (cargo_ValidateCargoes.l0 k l0 l0 (l0.length : Int) 0)
theorem cargo_ValidateCargoes.mono_l : ∀ k,(∀ y0 y1 y2 y3,LeO (cargo_ValidateCargoes.l0 k y0 y1 y2 y3) (cargo_ValidateCargoes.l0 (k + 1) y0 y1 y2 y3)) ∧ (∀ y0 y1 y2 y3,LeO (cargo_ValidateCargoes.l1 k y0 y1 y2 y3) (cargo_ValidateCargoes.l1 (k + 1) y0 y1 y2 y3)) ∧ (∀ y0 y1 y2 y3 y4 y5 y6 y7 y8 y9 y10,LeO (cargo_ValidateCargoes.l2 k y0 y1 y2 y3 y4 y5 y6 y7 y8 y9 y10) (cargo_ValidateCargoes.l2 (k + 1) y0 y1 y2 y3 y4 y5 y6 y7 y8 y9 y10))
 | 0 => ⟨fun _ _ _ _ r h => by simp [cargo_ValidateCargoes.l0] at h,fun _ _ _ _ r h => by simp [cargo_ValidateCargoes.l1] at h,fun _ _ _ _ _ _ _ _ _ _ _ r h => by simp [cargo_ValidateCargoes.l2] at h⟩
 | k + 1 => by
  obtain ⟨ih0,ih1,ih2⟩:=cargo_ValidateCargoes.mono_l k
  refine ⟨?_,?_,?_⟩
  ·intro y0 y1 y2 y3
   unfold cargo_ValidateCargoes.l0
   repeat' first
   | (with_reducible exact ih0 _ _ _ _)
   | (with_reducible exact ih1 _ _ _ _)
   | (with_reducible exact ih2 _ _ _ _ _ _ _ _ _ _ _)
   | (with_reducible exact cargo_name.mono _ _)
   | (with_reducible exact LeO.refl _)
   | (with_reducible exact LeO.none _)
   | (with_reducible refine LeO.ite ?_ ?_)
   | (with_reducible refine LeO.bind ?_ (fun _ => ?_))
   | exact ih0 _ _ _ _
   | exact ih1 _ _ _ _
   | exact ih2 _ _ _ _ _ _ _ _ _ _ _
   | exact cargo_name.mono _ _
   | exact LeO.none _
   | refine LeO.ite ?_ ?_
   | refine LeO.bind ?_ (fun _ => ?_)
  ·intro y0 y1 y2 y3
   unfold cargo_ValidateCargoes.l1
   repeat' first
   | (with_reducible exact ih0 _ _ _ _)
   | (with_reducible exact ih1 _ _ _ _)
   | (with_reducible exact ih2 _ _ _ _ _ _ _ _ _ _ _)
   | (with_reducible exact cargo_name.mono _ _)
   | (with_reducible exact LeO.refl _)
   | (with_reducible exact LeO.none _)
   | (with_reducible refine LeO.ite ?_ ?_)
   | (with_reducible refine LeO.bind ?_ (fun _ => ?_))
   | exact ih0 _ _ _ _
   | exact ih1 _ _ _ _
   | exact ih2 _ _ _ _ _ _ _ _ _ _ _
   | exact cargo_name.mono _ _
   | exact LeO.none _
   | refine LeO.ite ?_ ?_
   | refine LeO.bind ?_ (fun _ => ?_)
  ·intro y0 y1 y2 y3 y4 y5 y6 y7 y8 y9 y10
   unfold cargo_ValidateCargoes.l2
   repeat' first
   | (with_reducible exact ih0 _ _ _ _)
   | (with_reducible exact ih1 _ _ _ _)
   | (with_reducible exact ih2 _ _ _ _ _ _ _ _ _ _ _)
   | (with_reducible exact cargo_name.mono _ _)
   | (with_reducible exact LeO.refl _)
   | (with_reducible exact LeO.none _)
   | (with_reducible refine LeO.ite ?_ ?_)
   | (with_reducible refine LeO.bind ?_ (fun _ => ?_))
   | exact ih0 _ _ _ _
   | exact ih1 _ _ _ _
   | exact ih2 _ _ _ _ _ _ _ _ _ _ _
   | exact cargo_name.mono _ _
   | exact LeO.none _
   | refine LeO.ite ?_ ?_
   | refine LeO.bind ?_ (fun _ => ?_)
theorem cargo_ValidateCargoes.mono : ∀ a0 k,LeO (cargo_ValidateCargoes.f k a0) (cargo_ValidateCargoes.f (k + 1) a0):=by
 intro a0 k;obtain ⟨ih0,ih1,ih2⟩:=cargo_ValidateCargoes.mono_l k
 unfold cargo_ValidateCargoes.f
 repeat' first
   | (with_reducible exact ih0 _ _ _ _)
   | (with_reducible exact ih1 _ _ _ _)
   | (with_reducible exact ih2 _ _ _ _ _ _ _ _ _ _ _)
   | (with_reducible exact cargo_name.mono _ _)
   | (with_reducible exact LeO.refl _)
   | (with_reducible exact LeO.none _)
   | (with_reducible refine LeO.ite ?_ ?_)
   | (with_reducible refine LeO.bind ?_ (fun _ => ?_))
   | exact ih0 _ _ _ _
   | exact ih1 _ _ _ _
   | exact ih2 _ _ _ _ _ _ _ _ _ _ _
   | exact cargo_name.mono _ _
   | exact LeO.none _
   | refine LeO.ite ?_ ?_
   | refine LeO.bind ?_ (fun _ => ?_)
set_option maxHeartbeats 8000000 in
set_option maxRecDepth 100000 in
theorem cargo_ValidateCargoes.calls (k : Nat) (A0 : Option Addr) (c0 : Nat) (l0 : List (S23)) (r : Int) (w : World) (hr0 : Kd.C k23 w A0 l0.length l0) (hc0 : l0.length ≤ c0) (h : cargo_ValidateCargoes.f k l0 = some r) :
  Calls Try.prog 23 #[.slice A0 l0.length c0] w fun e w' => e = .returned (.int .i64 r) ∧ Below w.heap.size w w':=by
 have hu23:=Try.underlying23;have HR0:=Aside0.mk hr0;have HC0:=Aside0.mk hc0;clear hr0 hc0;have HB:=Aside0.mk (Below.refl w.heap.size w);have H : (if (l0.length : Int) > 16 then (some 4) else (cargo_ValidateCargoes.l0 k l0 l0 (l0.length : Int) 0)) = some r:=h;clear h
 by_cases c2 : (l0.length : Int) > 16
 ·rw [if_pos c2] at H
  have c2b0 : decide (16 < (l0.length : Int)) = true:=decide_eq_true c2;have c2b1 : decide (16 < l0.length) = true:=decide_eq_true (by omega);clear c2;obtain rfl:=Option.some.inj H
  go_enter Try.func23,Try.ntmps23
  go_wp2
  go_ret
  exact ⟨by first | rfl | (simp [errW_none,errW_some] <;> rfl) | (simp [*,errW_none,errW_some] <;> rfl),by repeat (first | (with_reducible first | exact HB.out | apply below_alloc | apply pw_below_drewN | apply below_drew1) | exact HB.out)⟩
 ·rw [if_neg c2] at H
  have c2b0 : decide (16 < (l0.length : Int)) = false:=decide_eq_false c2;have c2b1 : decide (16 < l0.length) = false:=decide_eq_false (by omega);clear c2;have H':=Aside0.mk H;clear H
  go_enter Try.func23,Try.ntmps23
  go_wp2
  go_loopg [14] k (fun kq v14 w' => ∃ (x14_1 : Int),v14 = .int .i64 x14_1 ∧ Aside0 (cargo_ValidateCargoes.l0 kq l0 l0 (l0.length : Int) x14_1 = some r) ∧ Aside0 (kq ≤ k) ∧ Aside0 (Below w.heap.size w w'))
  case atStart => exact ⟨(0),(by first | rfl | (simp; done) | (simp [*]; done)),H',⟨Nat.le_refl _⟩,⟨by repeat (first | (with_reducible first | exact HB.out | apply below_alloc | apply pw_below_drewN | apply below_drew1) | exact HB.out)⟩⟩
  case round =>
   clear H'
   try clear c2
   try clear c2b0
   try clear c2b1
   try clear p2
   obtain ⟨x14_1,rfl,HA,HK1,HB⟩:=hrel
   cases gk with
   | zero => exact absurd HA.out (by simp [cargo_ValidateCargoes.l0])
   | succ k1 =>
    have H:=HA.out;clear HA
    simp only [cargo_ValidateCargoes.l0] at H
    by_cases c3 : x14_1 < (l0.length : Int)
    ·rw [if_pos c3] at H
     have c3b0 : decide (x14_1 < (l0.length : Int)) = true:=decide_eq_true c3;clear c3
     by_cases c4 : 0 ≤ x14_1
     ·rw [if_pos c4] at H
      have c4b0 : decide (0 ≤ x14_1) = true:=decide_eq_true c4;clear c4
      by_cases c5 : x14_1 < (l0.length : Int)
      ·rw [if_pos c5] at H
       have c5b0 : decide (x14_1 < (l0.length : Int)) = true:=decide_eq_true c5;clear c5;replace H:=Option.bind_eq_some_iff.mp H;obtain ⟨t103,A60,H⟩:=H;replace H : (if t103 = true then ((cargo_within.f (rd_T23 l0 x14_1).f1 1000).bind fun t104 => (if t104 = true then ((cargo_within.f (rd_T23 l0 x14_1).f2 255).bind fun t105 => (if t105 = true then ((cargo_within.f (rd_T23 l0 x14_1).f3 255).bind fun t106 => (if t106 = true then (cargo_ValidateCargoes.l0 k1 l0 l0 (l0.length : Int) (wrap64 (x14_1 + 1))) else (some 1))) else (some 1))) else (some 1))) else (some 1)) = some r:=H;have A6:=Aside0.mk A60;clear A60
       by_cases c7 : t103 = true
       ·subst c7
        have H1 : ((cargo_within.f (rd_T23 l0 x14_1).f1 1000).bind fun t104 => (if t104 = true then ((cargo_within.f (rd_T23 l0 x14_1).f2 255).bind fun t105 => (if t105 = true then ((cargo_within.f (rd_T23 l0 x14_1).f3 255).bind fun t106 => (if t106 = true then (cargo_ValidateCargoes.l0 k1 l0 l0 (l0.length : Int) (wrap64 (x14_1 + 1))) else (some 1))) else (some 1))) else (some 1))) = some r:=by rw [if_pos rfl] at H; exact H
        clear H;have H:=H1;clear H1;replace H:=Option.bind_eq_some_iff.mp H;obtain ⟨t104,A80,H⟩:=H;replace H : (if t104 = true then ((cargo_within.f (rd_T23 l0 x14_1).f2 255).bind fun t105 => (if t105 = true then ((cargo_within.f (rd_T23 l0 x14_1).f3 255).bind fun t106 => (if t106 = true then (cargo_ValidateCargoes.l0 k1 l0 l0 (l0.length : Int) (wrap64 (x14_1 + 1))) else (some 1))) else (some 1))) else (some 1)) = some r:=H;have A8:=Aside0.mk A80;clear A80
        by_cases c9 : t104 = true
        ·subst c9
         have H1 : ((cargo_within.f (rd_T23 l0 x14_1).f2 255).bind fun t105 => (if t105 = true then ((cargo_within.f (rd_T23 l0 x14_1).f3 255).bind fun t106 => (if t106 = true then (cargo_ValidateCargoes.l0 k1 l0 l0 (l0.length : Int) (wrap64 (x14_1 + 1))) else (some 1))) else (some 1))) = some r:=by rw [if_pos rfl] at H; exact H
         clear H;have H:=H1;clear H1;replace H:=Option.bind_eq_some_iff.mp H;obtain ⟨t105,A100,H⟩:=H;replace H : (if t105 = true then ((cargo_within.f (rd_T23 l0 x14_1).f3 255).bind fun t106 => (if t106 = true then (cargo_ValidateCargoes.l0 k1 l0 l0 (l0.length : Int) (wrap64 (x14_1 + 1))) else (some 1))) else (some 1)) = some r:=H;have A10:=Aside0.mk A100;clear A100
         by_cases c11 : t105 = true
         ·subst c11
          have H1 : ((cargo_within.f (rd_T23 l0 x14_1).f3 255).bind fun t106 => (if t106 = true then (cargo_ValidateCargoes.l0 k1 l0 l0 (l0.length : Int) (wrap64 (x14_1 + 1))) else (some 1))) = some r:=by rw [if_pos rfl] at H; exact H
          clear H;have H:=H1;clear H1;replace H:=Option.bind_eq_some_iff.mp H;obtain ⟨t106,A120,H⟩:=H;replace H : (if t106 = true then (cargo_ValidateCargoes.l0 k1 l0 l0 (l0.length : Int) (wrap64 (x14_1 + 1))) else (some 1)) = some r:=H;have A12:=Aside0.mk A120;clear A120
          by_cases c13 : t106 = true
          ·subst c13
           have H1 : (cargo_ValidateCargoes.l0 k1 l0 l0 (l0.length : Int) (wrap64 (x14_1 + 1))) = some r:=by rw [if_pos rfl] at H; exact H
           clear H;have H:=H1;clear H1;have H':=Aside0.mk H;clear H;have p101 : 0 ≤ (x14_1 : Int):=of_decide_eq_true ba_;have q101 : x14_1 < (l0.length : Int):=of_decide_eq_true ba_;obtain ⟨ad101,e101,hx101_0,hx101_1,hx101_2,hx101_3⟩:=at_T23 HR0.out x14_1 p101 q101
           cases e101
           replace hx101_0:=pw_cell_below HB.out hx101_0;replace hx101_1:=pw_cell_below HB.out hx101_1;replace hx101_2:=pw_cell_below HB.out hx101_2;replace hx101_3:=pw_cell_below HB.out hx101_3;replace p101:=eq_true p101;replace q101:=eq_true q101
           go_wp2_with (first | ((with_reducible refine gate_dst (N:=4) rfl ?_); refine box_event ?hg (N:=4) ?hd (cs:=#[.string (⟨#[]⟩ : ByteArray),.int .i64 0,.int .i64 0,.int .i64 0]) (t:=23) ?hr ?_; (case hd => rfl); (case hg => rfl); (case hr => first | (go_simp; done) | (go_simp; rfl)); intro gb102 hg w14 hbox hb; have n0_:=Aside0.mk (below_step bq_ hb); have n1_:=Aside0.mk (hbox); have n2_:=Aside0.mk ((by rw [hg]; exact (below_size bq_) : w.heap.size ≤ gb102)); have n3_:=Aside0.mk ((by rw [hg]; exact (below_size bq_) : w.heap.size ≤ gb102)); clear HB; have HB:=n0_; have BK102:=n1_; have GW102:=n2_; have GE102:=n3_; clear n0_ n1_ n2_ n3_; clear hb hbox hg; have hcz15_0 : w14.cell? ⟨gb102,0,none⟩ = some (.string (⟨#[]⟩ : ByteArray)):=(blk_cell BK102.out 0).trans rfl; have hcz15_1 : w14.cell? ⟨gb102,1,none⟩ = some (.int .i64 0):=(blk_cell BK102.out 1).trans rfl; have hcz15_2 : w14.cell? ⟨gb102,2,none⟩ = some (.int .i64 0):=(blk_cell BK102.out 2).trans rfl; have hcz15_3 : w14.cell? ⟨gb102,3,none⟩ = some (.int .i64 0):=(blk_cell BK102.out 3).trans rfl; have hfz15_0:=blk_frozen BK102.out 0; have hfz15_1:=blk_frozen BK102.out 1; have hfz15_2:=blk_frozen BK102.out 2; have hfz15_3:=blk_frozen BK102.out 3) | ((with_reducible refine gate_callee (f:=50) rfl ?_); refine goesL_ (some 20) rfl rfl Try.func50 (by kernel_rfl) rfl #[.string (rd_T23 l0 x14_1).f0] rfl (by (try simp only [List.map_toArray,List.map_cons,List.map_nil]); first | done | rfl | (simp only [List.length_drop,List.length_take]; rfl)) ?_; (with_reducible refine (cargo_name.calls k1 (rd_T23 l0 x14_1).f0 true _ A6.out).mono ?_); rintro e w' ⟨rfl,⟨nd,rfl⟩⟩; refine ⟨_,rfl,?_⟩) | (go_at_call 44; (with_reducible refine (cargo_within.calls (rd_T23 l0 x14_1).f1 1000 true _ A8.out).mono ?_); rintro e w' ⟨rfl,⟨nd,rfl⟩⟩) | (go_at_call 44; (with_reducible refine (cargo_within.calls (rd_T23 l0 x14_1).f2 255 true _ A10.out).mono ?_); rintro e w' ⟨rfl,⟨nd,rfl⟩⟩) | (go_at_call 44; (with_reducible refine (cargo_within.calls (rd_T23 l0 x14_1).f3 255 true _ A12.out).mono ?_); rintro e w' ⟨rfl,⟨nd,rfl⟩⟩))
           go_roundg k1
           case measure => have:=HK1.out; omega
           case rel => exact ⟨(wrap64 (x14_1 + 1)),(by first | rfl | (simp; done) | (simp [*]; done)),H',⟨by have:=HK1.out; omega⟩,⟨by repeat (first | (with_reducible first | exact HB.out | apply below_alloc | apply pw_below_drewN | apply below_drew1 | refine below_set ?_ GE102.out) | exact HB.out)⟩⟩
          ·replace c13:=Bool.eq_false_iff.mpr c13
           subst c13
           have H1 : (some 1) = some r:=by rw [if_neg (show ¬ (false = true) by decide)] at H; exact H
           clear H;have H:=H1;clear H1;obtain rfl:=Option.some.inj H;have p101 : 0 ≤ (x14_1 : Int):=of_decide_eq_true ba_;have q101 : x14_1 < (l0.length : Int):=of_decide_eq_true ba_;obtain ⟨ad101,e101,hx101_0,hx101_1,hx101_2,hx101_3⟩:=at_T23 HR0.out x14_1 p101 q101
           cases e101
           replace hx101_0:=pw_cell_below HB.out hx101_0;replace hx101_1:=pw_cell_below HB.out hx101_1;replace hx101_2:=pw_cell_below HB.out hx101_2;replace hx101_3:=pw_cell_below HB.out hx101_3;replace p101:=eq_true p101;replace q101:=eq_true q101
           go_wp2_with (first | ((with_reducible refine gate_dst (N:=4) rfl ?_); refine box_event ?hg (N:=4) ?hd (cs:=#[.string (⟨#[]⟩ : ByteArray),.int .i64 0,.int .i64 0,.int .i64 0]) (t:=23) ?hr ?_; (case hd => rfl); (case hg => rfl); (case hr => first | (go_simp; done) | (go_simp; rfl)); intro gb102 hg w16 hbox hb; have n0_:=Aside0.mk (below_step bq_ hb); have n1_:=Aside0.mk (hbox); have n2_:=Aside0.mk ((by rw [hg]; exact (below_size bq_) : w.heap.size ≤ gb102)); have n3_:=Aside0.mk ((by rw [hg]; exact (below_size bq_) : w.heap.size ≤ gb102)); clear HB; have HB:=n0_; have BK102:=n1_; have GW102:=n2_; have GE102:=n3_; clear n0_ n1_ n2_ n3_; clear hb hbox hg; have hcz17_0 : w16.cell? ⟨gb102,0,none⟩ = some (.string (⟨#[]⟩ : ByteArray)):=(blk_cell BK102.out 0).trans rfl; have hcz17_1 : w16.cell? ⟨gb102,1,none⟩ = some (.int .i64 0):=(blk_cell BK102.out 1).trans rfl; have hcz17_2 : w16.cell? ⟨gb102,2,none⟩ = some (.int .i64 0):=(blk_cell BK102.out 2).trans rfl; have hcz17_3 : w16.cell? ⟨gb102,3,none⟩ = some (.int .i64 0):=(blk_cell BK102.out 3).trans rfl; have hfz17_0:=blk_frozen BK102.out 0; have hfz17_1:=blk_frozen BK102.out 1; have hfz17_2:=blk_frozen BK102.out 2; have hfz17_3:=blk_frozen BK102.out 3) | ((with_reducible refine gate_callee (f:=50) rfl ?_); refine goesL_ (some 20) rfl rfl Try.func50 (by kernel_rfl) rfl #[.string (rd_T23 l0 x14_1).f0] rfl (by (try simp only [List.map_toArray,List.map_cons,List.map_nil]); first | done | rfl | (simp only [List.length_drop,List.length_take]; rfl)) ?_; (with_reducible refine (cargo_name.calls k1 (rd_T23 l0 x14_1).f0 true _ A6.out).mono ?_); rintro e w' ⟨rfl,⟨nd,rfl⟩⟩; refine ⟨_,rfl,?_⟩) | (go_at_call 44; (with_reducible refine (cargo_within.calls (rd_T23 l0 x14_1).f1 1000 true _ A8.out).mono ?_); rintro e w' ⟨rfl,⟨nd,rfl⟩⟩) | (go_at_call 44; (with_reducible refine (cargo_within.calls (rd_T23 l0 x14_1).f2 255 true _ A10.out).mono ?_); rintro e w' ⟨rfl,⟨nd,rfl⟩⟩) | (go_at_call 44; (with_reducible refine (cargo_within.calls (rd_T23 l0 x14_1).f3 255 false _ A12.out).mono ?_); rintro e w' ⟨rfl,⟨nd,rfl⟩⟩))
           go_ret
           exact ⟨by first | rfl | (simp [errW_none,errW_some] <;> rfl) | (simp [*,errW_none,errW_some] <;> rfl),by repeat (first | (with_reducible first | exact HB.out | apply below_alloc | apply pw_below_drewN | apply below_drew1 | refine below_set ?_ GE102.out) | exact HB.out)⟩
         ·replace c11:=Bool.eq_false_iff.mpr c11
          subst c11
          have H1 : (some 1) = some r:=by rw [if_neg (show ¬ (false = true) by decide)] at H; exact H
          clear H;have H:=H1;clear H1;obtain rfl:=Option.some.inj H;have p101 : 0 ≤ (x14_1 : Int):=of_decide_eq_true ba_;have q101 : x14_1 < (l0.length : Int):=of_decide_eq_true ba_;obtain ⟨ad101,e101,hx101_0,hx101_1,hx101_2,hx101_3⟩:=at_T23 HR0.out x14_1 p101 q101
          cases e101
          replace hx101_0:=pw_cell_below HB.out hx101_0;replace hx101_1:=pw_cell_below HB.out hx101_1;replace hx101_2:=pw_cell_below HB.out hx101_2;replace hx101_3:=pw_cell_below HB.out hx101_3;replace p101:=eq_true p101;replace q101:=eq_true q101
          go_wp2_with (first | ((with_reducible refine gate_dst (N:=4) rfl ?_); refine box_event ?hg (N:=4) ?hd (cs:=#[.string (⟨#[]⟩ : ByteArray),.int .i64 0,.int .i64 0,.int .i64 0]) (t:=23) ?hr ?_; (case hd => rfl); (case hg => rfl); (case hr => first | (go_simp; done) | (go_simp; rfl)); intro gb102 hg w18 hbox hb; have n0_:=Aside0.mk (below_step bq_ hb); have n1_:=Aside0.mk (hbox); have n2_:=Aside0.mk ((by rw [hg]; exact (below_size bq_) : w.heap.size ≤ gb102)); have n3_:=Aside0.mk ((by rw [hg]; exact (below_size bq_) : w.heap.size ≤ gb102)); clear HB; have HB:=n0_; have BK102:=n1_; have GW102:=n2_; have GE102:=n3_; clear n0_ n1_ n2_ n3_; clear hb hbox hg; have hcz19_0 : w18.cell? ⟨gb102,0,none⟩ = some (.string (⟨#[]⟩ : ByteArray)):=(blk_cell BK102.out 0).trans rfl; have hcz19_1 : w18.cell? ⟨gb102,1,none⟩ = some (.int .i64 0):=(blk_cell BK102.out 1).trans rfl; have hcz19_2 : w18.cell? ⟨gb102,2,none⟩ = some (.int .i64 0):=(blk_cell BK102.out 2).trans rfl; have hcz19_3 : w18.cell? ⟨gb102,3,none⟩ = some (.int .i64 0):=(blk_cell BK102.out 3).trans rfl; have hfz19_0:=blk_frozen BK102.out 0; have hfz19_1:=blk_frozen BK102.out 1; have hfz19_2:=blk_frozen BK102.out 2; have hfz19_3:=blk_frozen BK102.out 3) | ((with_reducible refine gate_callee (f:=50) rfl ?_); refine goesL_ (some 20) rfl rfl Try.func50 (by kernel_rfl) rfl #[.string (rd_T23 l0 x14_1).f0] rfl (by (try simp only [List.map_toArray,List.map_cons,List.map_nil]); first | done | rfl | (simp only [List.length_drop,List.length_take]; rfl)) ?_; (with_reducible refine (cargo_name.calls k1 (rd_T23 l0 x14_1).f0 true _ A6.out).mono ?_); rintro e w' ⟨rfl,⟨nd,rfl⟩⟩; refine ⟨_,rfl,?_⟩) | (go_at_call 44; (with_reducible refine (cargo_within.calls (rd_T23 l0 x14_1).f1 1000 true _ A8.out).mono ?_); rintro e w' ⟨rfl,⟨nd,rfl⟩⟩) | (go_at_call 44; (with_reducible refine (cargo_within.calls (rd_T23 l0 x14_1).f2 255 false _ A10.out).mono ?_); rintro e w' ⟨rfl,⟨nd,rfl⟩⟩))
          go_ret
          exact ⟨by first | rfl | (simp [errW_none,errW_some] <;> rfl) | (simp [*,errW_none,errW_some] <;> rfl),by repeat (first | (with_reducible first | exact HB.out | apply below_alloc | apply pw_below_drewN | apply below_drew1 | refine below_set ?_ GE102.out) | exact HB.out)⟩
        ·replace c9:=Bool.eq_false_iff.mpr c9
         subst c9
         have H1 : (some 1) = some r:=by rw [if_neg (show ¬ (false = true) by decide)] at H; exact H
         clear H;have H:=H1;clear H1;obtain rfl:=Option.some.inj H;have p101 : 0 ≤ (x14_1 : Int):=of_decide_eq_true ba_;have q101 : x14_1 < (l0.length : Int):=of_decide_eq_true ba_;obtain ⟨ad101,e101,hx101_0,hx101_1,hx101_2,hx101_3⟩:=at_T23 HR0.out x14_1 p101 q101
         cases e101
         replace hx101_0:=pw_cell_below HB.out hx101_0;replace hx101_1:=pw_cell_below HB.out hx101_1;replace hx101_2:=pw_cell_below HB.out hx101_2;replace hx101_3:=pw_cell_below HB.out hx101_3;replace p101:=eq_true p101;replace q101:=eq_true q101
         go_wp2_with (first | ((with_reducible refine gate_dst (N:=4) rfl ?_); refine box_event ?hg (N:=4) ?hd (cs:=#[.string (⟨#[]⟩ : ByteArray),.int .i64 0,.int .i64 0,.int .i64 0]) (t:=23) ?hr ?_; (case hd => rfl); (case hg => rfl); (case hr => first | (go_simp; done) | (go_simp; rfl)); intro gb102 hg w20 hbox hb; have n0_:=Aside0.mk (below_step bq_ hb); have n1_:=Aside0.mk (hbox); have n2_:=Aside0.mk ((by rw [hg]; exact (below_size bq_) : w.heap.size ≤ gb102)); have n3_:=Aside0.mk ((by rw [hg]; exact (below_size bq_) : w.heap.size ≤ gb102)); clear HB; have HB:=n0_; have BK102:=n1_; have GW102:=n2_; have GE102:=n3_; clear n0_ n1_ n2_ n3_; clear hb hbox hg; have hcz21_0 : w20.cell? ⟨gb102,0,none⟩ = some (.string (⟨#[]⟩ : ByteArray)):=(blk_cell BK102.out 0).trans rfl; have hcz21_1 : w20.cell? ⟨gb102,1,none⟩ = some (.int .i64 0):=(blk_cell BK102.out 1).trans rfl; have hcz21_2 : w20.cell? ⟨gb102,2,none⟩ = some (.int .i64 0):=(blk_cell BK102.out 2).trans rfl; have hcz21_3 : w20.cell? ⟨gb102,3,none⟩ = some (.int .i64 0):=(blk_cell BK102.out 3).trans rfl; have hfz21_0:=blk_frozen BK102.out 0; have hfz21_1:=blk_frozen BK102.out 1; have hfz21_2:=blk_frozen BK102.out 2; have hfz21_3:=blk_frozen BK102.out 3) | ((with_reducible refine gate_callee (f:=50) rfl ?_); refine goesL_ (some 20) rfl rfl Try.func50 (by kernel_rfl) rfl #[.string (rd_T23 l0 x14_1).f0] rfl (by (try simp only [List.map_toArray,List.map_cons,List.map_nil]); first | done | rfl | (simp only [List.length_drop,List.length_take]; rfl)) ?_; (with_reducible refine (cargo_name.calls k1 (rd_T23 l0 x14_1).f0 true _ A6.out).mono ?_); rintro e w' ⟨rfl,⟨nd,rfl⟩⟩; refine ⟨_,rfl,?_⟩) | (go_at_call 44; (with_reducible refine (cargo_within.calls (rd_T23 l0 x14_1).f1 1000 false _ A8.out).mono ?_); rintro e w' ⟨rfl,⟨nd,rfl⟩⟩))
         go_ret
         exact ⟨by first | rfl | (simp [errW_none,errW_some] <;> rfl) | (simp [*,errW_none,errW_some] <;> rfl),by repeat (first | (with_reducible first | exact HB.out | apply below_alloc | apply pw_below_drewN | apply below_drew1 | refine below_set ?_ GE102.out) | exact HB.out)⟩
       ·replace c7:=Bool.eq_false_iff.mpr c7
        subst c7
        have H1 : (some 1) = some r:=by rw [if_neg (show ¬ (false = true) by decide)] at H; exact H
        clear H;have H:=H1;clear H1;obtain rfl:=Option.some.inj H;have p101 : 0 ≤ (x14_1 : Int):=of_decide_eq_true ba_;have q101 : x14_1 < (l0.length : Int):=of_decide_eq_true ba_;obtain ⟨ad101,e101,hx101_0,hx101_1,hx101_2,hx101_3⟩:=at_T23 HR0.out x14_1 p101 q101
        cases e101
        replace hx101_0:=pw_cell_below HB.out hx101_0;replace hx101_1:=pw_cell_below HB.out hx101_1;replace hx101_2:=pw_cell_below HB.out hx101_2;replace hx101_3:=pw_cell_below HB.out hx101_3;replace p101:=eq_true p101;replace q101:=eq_true q101
        go_wp2_with (first | ((with_reducible refine gate_dst (N:=4) rfl ?_); refine box_event ?hg (N:=4) ?hd (cs:=#[.string (⟨#[]⟩ : ByteArray),.int .i64 0,.int .i64 0,.int .i64 0]) (t:=23) ?hr ?_; (case hd => rfl); (case hg => rfl); (case hr => first | (go_simp; done) | (go_simp; rfl)); intro gb102 hg w22 hbox hb; have n0_:=Aside0.mk (below_step bq_ hb); have n1_:=Aside0.mk (hbox); have n2_:=Aside0.mk ((by rw [hg]; exact (below_size bq_) : w.heap.size ≤ gb102)); have n3_:=Aside0.mk ((by rw [hg]; exact (below_size bq_) : w.heap.size ≤ gb102)); clear HB; have HB:=n0_; have BK102:=n1_; have GW102:=n2_; have GE102:=n3_; clear n0_ n1_ n2_ n3_; clear hb hbox hg; have hcz23_0 : w22.cell? ⟨gb102,0,none⟩ = some (.string (⟨#[]⟩ : ByteArray)):=(blk_cell BK102.out 0).trans rfl; have hcz23_1 : w22.cell? ⟨gb102,1,none⟩ = some (.int .i64 0):=(blk_cell BK102.out 1).trans rfl; have hcz23_2 : w22.cell? ⟨gb102,2,none⟩ = some (.int .i64 0):=(blk_cell BK102.out 2).trans rfl; have hcz23_3 : w22.cell? ⟨gb102,3,none⟩ = some (.int .i64 0):=(blk_cell BK102.out 3).trans rfl; have hfz23_0:=blk_frozen BK102.out 0; have hfz23_1:=blk_frozen BK102.out 1; have hfz23_2:=blk_frozen BK102.out 2; have hfz23_3:=blk_frozen BK102.out 3) | ((with_reducible refine gate_callee (f:=50) rfl ?_); refine goesL_ (some 20) rfl rfl Try.func50 (by kernel_rfl) rfl #[.string (rd_T23 l0 x14_1).f0] rfl (by (try simp only [List.map_toArray,List.map_cons,List.map_nil]); first | done | rfl | (simp only [List.length_drop,List.length_take]; rfl)) ?_; (with_reducible refine (cargo_name.calls k1 (rd_T23 l0 x14_1).f0 false _ A6.out).mono ?_); rintro e w' ⟨rfl,⟨nd,rfl⟩⟩; refine ⟨_,rfl,?_⟩))
        go_ret
        exact ⟨by first | rfl | (simp [errW_none,errW_some] <;> rfl) | (simp [*,errW_none,errW_some] <;> rfl),by repeat (first | (with_reducible first | exact HB.out | apply below_alloc | apply pw_below_drewN | apply below_drew1 | refine below_set ?_ GE102.out) | exact HB.out)⟩
      ·rw [if_neg c5] at H
       exact absurd H (by simp)
     ·rw [if_neg c4] at H
      exact absurd H (by simp)
    ·rw [if_neg c3] at H
     have c3b0 : decide (x14_1 < (l0.length : Int)) = false:=decide_eq_false c3;clear c3;have H':=Aside0.mk H;clear H
     go_wp2
     go_loopg [43] k1 (fun kq v43 w' => ∃ (x43_2 : Int),v43 = .int .i64 x43_2 ∧ Aside0 (cargo_ValidateCargoes.l1 kq l0 l0 (l0.length : Int) x43_2 = some r) ∧ Aside0 (kq ≤ k1) ∧ Aside0 (Below w.heap.size w w'))
     case atStart => exact ⟨(0),(by first | rfl | (simp; done) | (simp [*]; done)),H',⟨Nat.le_refl _⟩,⟨by repeat (first | (with_reducible first | exact HB.out | apply below_alloc | apply pw_below_drewN | apply below_drew1) | exact HB.out)⟩⟩
     case round =>
      clear H'
      try clear c1
      try clear p1
      try clear q1
      try clear hx1
      try clear c2
      try clear c2b0
      try clear c2b1
      try clear p2
      try clear c3
      try clear c3b0
      try clear c4
      try clear c4b0
      try clear c5
      try clear c5b0
      try clear p6
      try clear c7
      try clear c9
      try clear p10
      try clear q10
      try clear hx10
      try clear c11
      try clear c13
      try clear c23
      try clear hcz15_0
      try clear hcz15_1
      try clear hcz15_2
      try clear hcz15_3
      try clear hcz17_0
      try clear hcz17_1
      try clear hcz17_2
      try clear hcz17_3
      try clear hcz19_0
      try clear hcz19_1
      try clear hcz19_2
      try clear hcz19_3
      try clear hcz21_0
      try clear hcz21_1
      try clear hcz21_2
      try clear hcz21_3
      try clear hcz23_0
      try clear hcz23_1
      try clear hcz23_2
      try clear hcz23_3
      try clear hfz15_0
      try clear hfz15_1
      try clear hfz15_2
      try clear hfz15_3
      try clear hfz17_0
      try clear hfz17_1
      try clear hfz17_2
      try clear hfz17_3
      try clear hfz19_0
      try clear hfz19_1
      try clear hfz19_2
      try clear hfz19_3
      try clear hfz21_0
      try clear hfz21_1
      try clear hfz21_2
      try clear hfz21_3
      try clear hfz23_0
      try clear hfz23_1
      try clear hfz23_2
      try clear hfz23_3
      try clear hx101_0
      try clear hx101_1
      try clear hx101_2
      try clear hx101_3
      try clear p101
      try clear p2
      try clear q101
      obtain ⟨x43_2,rfl,HA,HK2,HB⟩:=hrel
      cases gk with
      | zero => exact absurd HA.out (by simp [cargo_ValidateCargoes.l1])
      | succ k2 =>
       have H:=HA.out;clear HA
       simp only [cargo_ValidateCargoes.l1] at H
       by_cases c24 : x43_2 < (l0.length : Int)
       ·rw [if_pos c24] at H
        have c24b0 : decide (x43_2 < (l0.length : Int)) = true:=decide_eq_true c24;clear c24
        by_cases c25 : 0 ≤ x43_2
        ·rw [if_pos c25] at H
         have c25b0 : decide (0 ≤ x43_2) = true:=decide_eq_true c25;clear c25
         by_cases c26 : x43_2 < (l0.length : Int)
         ·rw [if_pos c26] at H
          have c26b0 : decide (x43_2 < (l0.length : Int)) = true:=decide_eq_true c26;clear c26;have c27b0:=eq_true (of_decide_eq_true ba_ : 0 ≤ x43_2)
          by_cases c28 : x43_2 ≤ (l0.length : Int)
          ·rw [if_pos c28] at H
           have c28b0:=eq_true c28;have c28b1 : decide (x43_2 ≤ (l0.length : Int)) = true:=decide_eq_true c28;clear c28;obtain ⟨y109,hy109⟩ : ∃ y_ : List (S23),y_ = (l0.take (x43_2 : Int).toNat):=⟨_,rfl⟩
           replace H : (cargo_ValidateCargoes.l2 k2 l0 l0 (l0.length : Int) x43_2 y109 (y109.length : Int) 0 (rd_T23 l0 x43_2).f0 (rd_T23 l0 x43_2).f1 (rd_T23 l0 x43_2).f2 (rd_T23 l0 x43_2).f3) = some r:=by first | (rw [hy109]; with_reducible exact H) | (have H2_:=(Option.bind_some _ _).symm.trans H; rw [hy109]; with_reducible exact H2_) | (have H2_:=(Option.bind_some _ _).symm.trans H; with_reducible exact H2_) | with_reducible exact H | (rw [hy109]; exact H) | exact H
           have Ny109:=Aside0.mk hy109;clear hy109;have H':=Aside0.mk H;clear H;have p107 : 0 ≤ (x43_2 : Int):=of_decide_eq_true ba_;have q107 : x43_2 < (l0.length : Int):=of_decide_eq_true ba_;obtain ⟨ad107,e107,hx107_0,hx107_1,hx107_2,hx107_3⟩:=at_T23 HR0.out x43_2 p107 q107
           cases e107
           replace hx107_0:=pw_cell_below HB.out hx107_0;replace hx107_1:=pw_cell_below HB.out hx107_1;replace hx107_2:=pw_cell_below HB.out hx107_2;replace hx107_3:=pw_cell_below HB.out hx107_3;replace p107:=eq_true p107;replace q107:=eq_true q107
           go_wp2_with (first | ((with_reducible refine gate_dst (N:=6) rfl ?_); refine box_event ?hg (N:=6) ?hd (cs:=#[.string (⟨#[]⟩ : ByteArray),.int .i64 0,.int .i64 0,.int .i64 0]) (t:=23) ?hr ?_; (case hd => rfl); (case hg => rfl); (case hr => first | (go_simp; done) | (go_simp; rfl)); intro gb108 hg w29 hbox hb; have n0_:=Aside0.mk (below_step bq_ hb); have n1_:=Aside0.mk (hbox); have n2_:=Aside0.mk ((by rw [hg]; exact (below_size bq_) : w.heap.size ≤ gb108)); have n3_:=Aside0.mk ((by rw [hg]; exact (below_size bq_) : w.heap.size ≤ gb108)); clear HB; have HB:=n0_; have BK108:=n1_; have GW108:=n2_; have GE108:=n3_; clear n0_ n1_ n2_ n3_; clear hb hbox hg; have hcz30_0 : w29.cell? ⟨gb108,0,none⟩ = some (.string (⟨#[]⟩ : ByteArray)):=(blk_cell BK108.out 0).trans rfl; have hcz30_1 : w29.cell? ⟨gb108,1,none⟩ = some (.int .i64 0):=(blk_cell BK108.out 1).trans rfl; have hcz30_2 : w29.cell? ⟨gb108,2,none⟩ = some (.int .i64 0):=(blk_cell BK108.out 2).trans rfl; have hcz30_3 : w29.cell? ⟨gb108,3,none⟩ = some (.int .i64 0):=(blk_cell BK108.out 3).trans rfl; have hfz30_0:=blk_frozen BK108.out 0; have hfz30_1:=blk_frozen BK108.out 1; have hfz30_2:=blk_frozen BK108.out 2; have hfz30_3:=blk_frozen BK108.out 3) | ((with_reducible refine gate_store (t:=23) (p:=6) rfl ?_); refine store_event (t:=23) (p:=6) (v:=?vo_w31) (w1:=((((w29.setCell ⟨gb108,0,none⟩ (.string (rd_T23 l0 x43_2).f0)).setCell ⟨gb108,1,none⟩ (.int .i64 (rd_T23 l0 x43_2).f1)).setCell ⟨gb108,2,none⟩ (.int .i64 (rd_T23 l0 x43_2).f2)).setCell ⟨gb108,3,none⟩ (.int .i64 (rd_T23 l0 x43_2).f3))) ?hg ?ho ?hn ?hr ?_; (case ho => rfl); (case hg => rfl); (case hn => rfl); (case hr => first | (go_simp; done) | (go_simp; rfl)); intro w31 hw; have n0_ : Aside0 (w31.heap[gb108]? = some (.cells #[.string (rd_T23 l0 x43_2).f0,.int .i64 (rd_T23 l0 x43_2).f1,.int .i64 (rd_T23 l0 x43_2).f2,.int .i64 (rd_T23 l0 x43_2).f3] 23 (0,0))):=⟨(by rw [hw]; exact (by (with_reducible repeat (first | refine blk_drewN ?_ _ | refine blk_drew ?_ | refine blk_alloc ?_ _)); refine blk_put (cs:=#[.string (rd_T23 l0 x43_2).f0,.int .i64 (rd_T23 l0 x43_2).f1,.int .i64 (rd_T23 l0 x43_2).f2,.int .i64 0]) ?_ 3 _ rfl; (with_reducible repeat (first | refine blk_drewN ?_ _ | refine blk_drew ?_ | refine blk_alloc ?_ _)); refine blk_put (cs:=#[.string (rd_T23 l0 x43_2).f0,.int .i64 (rd_T23 l0 x43_2).f1,.int .i64 0,.int .i64 0]) ?_ 2 _ rfl; (with_reducible repeat (first | refine blk_drewN ?_ _ | refine blk_drew ?_ | refine blk_alloc ?_ _)); refine blk_put (cs:=#[.string (rd_T23 l0 x43_2).f0,.int .i64 0,.int .i64 0,.int .i64 0]) ?_ 1 _ rfl; (with_reducible repeat (first | refine blk_drewN ?_ _ | refine blk_drew ?_ | refine blk_alloc ?_ _)); refine blk_put (cs:=#[.string (⟨#[]⟩ : ByteArray),.int .i64 0,.int .i64 0,.int .i64 0]) ?_ 0 _ rfl; (with_reducible repeat (first | refine blk_drewN ?_ _ | refine blk_drew ?_ | refine blk_alloc ?_ _)); exact BK108.out))⟩; have n1_ : Aside0 (Below w.heap.size w w31):=⟨(by rw [hw]; exact (by repeat (first | (with_reducible first | exact HB.out | apply below_alloc | apply pw_below_drewN | apply below_drew1 | refine below_set ?_ GE108.out) | exact HB.out)))⟩; clear hw; clear BK108; clear HB; have BK108:=n0_; have HB:=n1_; clear n0_ n1_; have q32 : (x43_2 : Int) ≤ ((l0.length : Int) : Int):=of_decide_eq_true ba_; obtain ⟨i032,hi032,_,hsz32,_⟩:=info_parts info23; have hroom32 : l0.length ≤ c0:=HC0.out; have hC32 : Kd.C k23 _ (some ad107) l0.length l0:=HR0.out; have hcut32:=cut_to (P:=Try.prog) 31 23 .i64 Try.underlying31 hi032 (some ad107) l0.length c0 x43_2 (of_decide_eq_true ba_) q32 hroom32; have hr32:=Kd.C_take (m:=(x43_2 : Int).toNat) hC32 (by omega); have hy32 : y109.length = (x43_2 : Int).toNat:=(by rw [Ny109.out,List.length_take]; omega); rw [← Ny109.out] at hr32; rw [← hy32] at hcut32; have HR112:=Aside0.mk hr32; have HC112:=Aside0.mk (show y109.length ≤ c0 from by omega); clear hr32 hC32 hroom32 hi032 hsz32; have KY32:=Aside0.mk hy32; clear hy32; replace q32:=eq_true q32))
           go_loopg [52] k2 (fun kq v52 w' => ∃ (x52_3 : Int),v52 = .int .i64 x52_3 ∧ Aside0 (cargo_ValidateCargoes.l2 kq l0 l0 (l0.length : Int) x43_2 y109 (y109.length : Int) x52_3 (rd_T23 l0 x43_2).f0 (rd_T23 l0 x43_2).f1 (rd_T23 l0 x43_2).f2 (rd_T23 l0 x43_2).f3 = some r) ∧ Aside0 (kq ≤ k2) ∧ Aside0 (w'.heap[gb108]? = some (.cells #[.string (rd_T23 l0 x43_2).f0,.int .i64 (rd_T23 l0 x43_2).f1,.int .i64 (rd_T23 l0 x43_2).f2,.int .i64 (rd_T23 l0 x43_2).f3] 23 (0,0))) ∧ Aside0 (Below w.heap.size w w'))
           case atStart => exact ⟨(0),(by first | rfl | (simp; done) | (simp [*]; done)),H',⟨Nat.le_refl _⟩,⟨by (with_reducible repeat (first | refine blk_drewN ?_ _ | refine blk_drew ?_ | refine blk_alloc ?_ _)); exact BK108.out⟩,⟨by repeat (first | (with_reducible first | exact HB.out | apply below_alloc | apply pw_below_drewN | apply below_drew1 | refine below_set ?_ GE108.out) | exact HB.out)⟩⟩
           case round =>
            clear H'
            try clear c1
            try clear p1
            try clear q1
            try clear hx1
            try clear c2
            try clear c2b0
            try clear c2b1
            try clear p2
            try clear c3
            try clear c3b0
            try clear q3
            try clear c4
            try clear c4b0
            try clear c5
            try clear c5b0
            try clear p6
            try clear c7
            try clear c9
            try clear p10
            try clear q10
            try clear hx10
            try clear c11
            try clear c13
            try clear c23
            try clear c24
            try clear c24b0
            try clear c25
            try clear c25b0
            try clear c26
            try clear c26b0
            try clear c27
            try clear c27b0
            try clear c28
            try clear c28b0
            try clear c28b1
            try clear q32
            try clear hcz15_0
            try clear hcz15_1
            try clear hcz15_2
            try clear hcz15_3
            try clear hcz17_0
            try clear hcz17_1
            try clear hcz17_2
            try clear hcz17_3
            try clear hcz19_0
            try clear hcz19_1
            try clear hcz19_2
            try clear hcz19_3
            try clear hcz21_0
            try clear hcz21_1
            try clear hcz21_2
            try clear hcz21_3
            try clear hcz23_0
            try clear hcz23_1
            try clear hcz23_2
            try clear hcz23_3
            try clear hcz30_0
            try clear hcz30_1
            try clear hcz30_2
            try clear hcz30_3
            try clear hfz15_0
            try clear hfz15_1
            try clear hfz15_2
            try clear hfz15_3
            try clear hfz17_0
            try clear hfz17_1
            try clear hfz17_2
            try clear hfz17_3
            try clear hfz19_0
            try clear hfz19_1
            try clear hfz19_2
            try clear hfz19_3
            try clear hfz21_0
            try clear hfz21_1
            try clear hfz21_2
            try clear hfz21_3
            try clear hfz23_0
            try clear hfz23_1
            try clear hfz23_2
            try clear hfz23_3
            try clear hfz30_0
            try clear hfz30_1
            try clear hfz30_2
            try clear hfz30_3
            try clear hx101_0
            try clear hx101_1
            try clear hx101_2
            try clear hx101_3
            try clear hx107_0
            try clear hx107_1
            try clear hx107_2
            try clear hx107_3
            try clear p1
            try clear p10
            try clear p101
            try clear p107
            try clear p2
            try clear p6
            try clear q1
            try clear q10
            try clear q101
            try clear q107
            try clear q32
            obtain ⟨x52_3,rfl,HA,HK3,BK108,HB⟩:=hrel
            cases gk with
            | zero => exact absurd HA.out (by simp [cargo_ValidateCargoes.l2])
            | succ k3 =>
             have H:=HA.out;clear HA
             simp only [cargo_ValidateCargoes.l2] at H
             by_cases c33 : x52_3 < (y109.length : Int)
             ·rw [if_pos c33] at H
              have c33b0 : decide (x52_3 < (y109.length : Int)) = true:=decide_eq_true c33;clear c33
              by_cases c34 : 0 ≤ x52_3
              ·rw [if_pos c34] at H
               have c34b0 : decide (0 ≤ x52_3) = true:=decide_eq_true c34;clear c34
               by_cases c35 : x52_3 < (y109.length : Int)
               ·rw [if_pos c35] at H
                have c35b0 : decide (x52_3 < (y109.length : Int)) = true:=decide_eq_true c35;clear c35
                by_cases c36 : (rd_T23 l0 x43_2).f0.toList = (rd_T23 y109 x52_3).f0.toList
                ·rw [if_pos c36] at H
                 have c36b0 : ((rd_T23 l0 x43_2).f0.toList == (rd_T23 y109 x52_3).f0.toList) = true:=beq_iff_eq.mpr c36;have c36b1 : ((rd_T23 l0 x43_2).f0.toList != (rd_T23 y109 x52_3).f0.toList) = false:=bne_eq_false_iff_eq.mpr c36;clear c36;obtain rfl:=Option.some.inj H;have p113 : 0 ≤ (x52_3 : Int):=of_decide_eq_true ba_;have q113 : x52_3 < (y109.length : Int):=of_decide_eq_true ba_;obtain ⟨ad113,e113,hx113_0,hx113_1,hx113_2,hx113_3⟩:=at_T23 HR112.out x52_3 p113 q113;obtain rfl : ad107 = ad113:=(by injection e113);replace hx113_0:=pw_cell_below HB.out hx113_0;replace hx113_1:=pw_cell_below HB.out hx113_1;replace hx113_2:=pw_cell_below HB.out hx113_2;replace hx113_3:=pw_cell_below HB.out hx113_3;replace p113:=eq_true p113;replace q113:=eq_true q113
                 go_wp2_with (first | ((with_reducible refine gate_dst (N:=8) rfl ?_); refine box_event ?hg (N:=8) ?hd (cs:=#[.string (⟨#[]⟩ : ByteArray),.int .i64 0,.int .i64 0,.int .i64 0]) (t:=23) ?hr ?_; (case hd => rfl); (case hg => rfl); (case hr => first | (go_simp; done) | (go_simp; rfl)); intro gb114 hg w37 hbox hb; have n0_:=Aside0.mk (blk_below (g:=gb108) (o:=.cells #[.string (rd_T23 l0 x43_2).f0,.int .i64 (rd_T23 l0 x43_2).f1,.int .i64 (rd_T23 l0 x43_2).f2,.int .i64 (rd_T23 l0 x43_2).f3] 23 (0,0)) (by (with_reducible repeat (first | refine blk_drewN ?_ _ | refine blk_drew ?_ | refine blk_alloc ?_ _)); exact BK108.out) hb); have n1_:=Aside0.mk (below_step (by repeat (first | (with_reducible first | exact HB.out | apply below_alloc | apply pw_below_drewN | apply below_drew1 | refine below_set ?_ GE108.out) | exact HB.out)) hb); have n2_:=Aside0.mk (hbox); have n3_:=Aside0.mk ((by rw [hg]; exact (below_size (by repeat (first | (with_reducible first | exact HB.out | apply below_alloc | apply pw_below_drewN | apply below_drew1 | refine below_set ?_ GE108.out) | exact HB.out))) : w.heap.size ≤ gb114)); have n4_:=Aside0.mk ((by rw [hg]; exact (below_size (by repeat (first | (with_reducible first | exact HB.out | apply below_alloc | apply pw_below_drewN | apply below_drew1 | refine below_set ?_ GE108.out) | exact HB.out))) : w.heap.size ≤ gb114)); have n5_:=Aside0.mk ((by rw [hg]; exact Nat.ne_of_lt (blk_lt (g:=gb108) (o:=.cells #[.string (rd_T23 l0 x43_2).f0,.int .i64 (rd_T23 l0 x43_2).f1,.int .i64 (rd_T23 l0 x43_2).f2,.int .i64 (rd_T23 l0 x43_2).f3] 23 (0,0)) (by (with_reducible repeat (first | refine blk_drewN ?_ _ | refine blk_drew ?_ | refine blk_alloc ?_ _)); exact BK108.out)) : gb108 ≠ gb114)); have n6_:=Aside0.mk ((by rw [hg]; exact Nat.ne_of_gt (blk_lt (g:=gb108) (o:=.cells #[.string (rd_T23 l0 x43_2).f0,.int .i64 (rd_T23 l0 x43_2).f1,.int .i64 (rd_T23 l0 x43_2).f2,.int .i64 (rd_T23 l0 x43_2).f3] 23 (0,0)) (by (with_reducible repeat (first | refine blk_drewN ?_ _ | refine blk_drew ?_ | refine blk_alloc ?_ _)); exact BK108.out)) : gb114 ≠ gb108)); clear BK108; clear HB; have BK108:=n0_; have HB:=n1_; have BK114:=n2_; have GW114:=n3_; have GE114:=n4_; have NB108_114:=n5_; have NB114_108:=n6_; clear n0_ n1_ n2_ n3_ n4_ n5_ n6_; clear hb hbox hg; have hnb38:=NB114_108.out; have hnc38:=NB108_114.out; have hcz39_0 : w37.cell? ⟨gb114,0,none⟩ = some (.string (⟨#[]⟩ : ByteArray)):=(blk_cell BK114.out 0).trans rfl; have hcz39_1 : w37.cell? ⟨gb114,1,none⟩ = some (.int .i64 0):=(blk_cell BK114.out 1).trans rfl; have hcz39_2 : w37.cell? ⟨gb114,2,none⟩ = some (.int .i64 0):=(blk_cell BK114.out 2).trans rfl; have hcz39_3 : w37.cell? ⟨gb114,3,none⟩ = some (.int .i64 0):=(blk_cell BK114.out 3).trans rfl; have hfz39_0:=blk_frozen BK114.out 0; have hfz39_1:=blk_frozen BK114.out 1; have hfz39_2:=blk_frozen BK114.out 2; have hfz39_3:=blk_frozen BK114.out 3; have hcz40_0 : w37.cell? ⟨gb108,0,none⟩ = some (.string (rd_T23 l0 x43_2).f0):=(blk_cell BK108.out 0).trans rfl; have hcz40_1 : w37.cell? ⟨gb108,1,none⟩ = some (.int .i64 (rd_T23 l0 x43_2).f1):=(blk_cell BK108.out 1).trans rfl; have hcz40_2 : w37.cell? ⟨gb108,2,none⟩ = some (.int .i64 (rd_T23 l0 x43_2).f2):=(blk_cell BK108.out 2).trans rfl; have hcz40_3 : w37.cell? ⟨gb108,3,none⟩ = some (.int .i64 (rd_T23 l0 x43_2).f3):=(blk_cell BK108.out 3).trans rfl; have hfz40_0:=blk_frozen BK108.out 0; have hfz40_1:=blk_frozen BK108.out 1; have hfz40_2:=blk_frozen BK108.out 2; have hfz40_3:=blk_frozen BK108.out 3))
                 go_ret
                 exact ⟨by first | rfl | (simp [errW_none,errW_some] <;> rfl) | (simp [*,errW_none,errW_some] <;> rfl),by repeat (first | (with_reducible first | exact HB.out | apply below_alloc | apply pw_below_drewN | apply below_drew1 | refine below_set ?_ GE108.out | refine below_set ?_ GE114.out) | exact HB.out)⟩
                ·rw [if_neg c36] at H
                 have c36b0 : ((rd_T23 l0 x43_2).f0.toList == (rd_T23 y109 x52_3).f0.toList) = false:=beq_eq_false_iff_ne.mpr c36;have c36b1 : ((rd_T23 l0 x43_2).f0.toList != (rd_T23 y109 x52_3).f0.toList) = true:=bne_iff_ne.mpr c36;have H':=Aside0.mk H;clear H;have p113 : 0 ≤ (x52_3 : Int):=of_decide_eq_true ba_;have q113 : x52_3 < (y109.length : Int):=of_decide_eq_true ba_;obtain ⟨ad113,e113,hx113_0,hx113_1,hx113_2,hx113_3⟩:=at_T23 HR112.out x52_3 p113 q113;obtain rfl : ad107 = ad113:=(by injection e113);replace hx113_0:=pw_cell_below HB.out hx113_0;replace hx113_1:=pw_cell_below HB.out hx113_1;replace hx113_2:=pw_cell_below HB.out hx113_2;replace hx113_3:=pw_cell_below HB.out hx113_3;replace p113:=eq_true p113;replace q113:=eq_true q113
                 go_wp2_with (first | ((with_reducible refine gate_dst (N:=8) rfl ?_); refine box_event ?hg (N:=8) ?hd (cs:=#[.string (⟨#[]⟩ : ByteArray),.int .i64 0,.int .i64 0,.int .i64 0]) (t:=23) ?hr ?_; (case hd => rfl); (case hg => rfl); (case hr => first | (go_simp; done) | (go_simp; rfl)); intro gb114 hg w41 hbox hb; have n0_:=Aside0.mk (blk_below (g:=gb108) (o:=.cells #[.string (rd_T23 l0 x43_2).f0,.int .i64 (rd_T23 l0 x43_2).f1,.int .i64 (rd_T23 l0 x43_2).f2,.int .i64 (rd_T23 l0 x43_2).f3] 23 (0,0)) (by (with_reducible repeat (first | refine blk_drewN ?_ _ | refine blk_drew ?_ | refine blk_alloc ?_ _)); exact BK108.out) hb); have n1_:=Aside0.mk (below_step (by repeat (first | (with_reducible first | exact HB.out | apply below_alloc | apply pw_below_drewN | apply below_drew1 | refine below_set ?_ GE108.out) | exact HB.out)) hb); have n2_:=Aside0.mk (hbox); have n3_:=Aside0.mk ((by rw [hg]; exact (below_size (by repeat (first | (with_reducible first | exact HB.out | apply below_alloc | apply pw_below_drewN | apply below_drew1 | refine below_set ?_ GE108.out) | exact HB.out))) : w.heap.size ≤ gb114)); have n4_:=Aside0.mk ((by rw [hg]; exact (below_size (by repeat (first | (with_reducible first | exact HB.out | apply below_alloc | apply pw_below_drewN | apply below_drew1 | refine below_set ?_ GE108.out) | exact HB.out))) : w.heap.size ≤ gb114)); have n5_:=Aside0.mk ((by rw [hg]; exact Nat.ne_of_lt (blk_lt (g:=gb108) (o:=.cells #[.string (rd_T23 l0 x43_2).f0,.int .i64 (rd_T23 l0 x43_2).f1,.int .i64 (rd_T23 l0 x43_2).f2,.int .i64 (rd_T23 l0 x43_2).f3] 23 (0,0)) (by (with_reducible repeat (first | refine blk_drewN ?_ _ | refine blk_drew ?_ | refine blk_alloc ?_ _)); exact BK108.out)) : gb108 ≠ gb114)); have n6_:=Aside0.mk ((by rw [hg]; exact Nat.ne_of_gt (blk_lt (g:=gb108) (o:=.cells #[.string (rd_T23 l0 x43_2).f0,.int .i64 (rd_T23 l0 x43_2).f1,.int .i64 (rd_T23 l0 x43_2).f2,.int .i64 (rd_T23 l0 x43_2).f3] 23 (0,0)) (by (with_reducible repeat (first | refine blk_drewN ?_ _ | refine blk_drew ?_ | refine blk_alloc ?_ _)); exact BK108.out)) : gb114 ≠ gb108)); clear BK108; clear HB; have BK108:=n0_; have HB:=n1_; have BK114:=n2_; have GW114:=n3_; have GE114:=n4_; have NB108_114:=n5_; have NB114_108:=n6_; clear n0_ n1_ n2_ n3_ n4_ n5_ n6_; clear hb hbox hg; have hnb42:=NB114_108.out; have hnc42:=NB108_114.out; have hcz43_0 : w41.cell? ⟨gb114,0,none⟩ = some (.string (⟨#[]⟩ : ByteArray)):=(blk_cell BK114.out 0).trans rfl; have hcz43_1 : w41.cell? ⟨gb114,1,none⟩ = some (.int .i64 0):=(blk_cell BK114.out 1).trans rfl; have hcz43_2 : w41.cell? ⟨gb114,2,none⟩ = some (.int .i64 0):=(blk_cell BK114.out 2).trans rfl; have hcz43_3 : w41.cell? ⟨gb114,3,none⟩ = some (.int .i64 0):=(blk_cell BK114.out 3).trans rfl; have hfz43_0:=blk_frozen BK114.out 0; have hfz43_1:=blk_frozen BK114.out 1; have hfz43_2:=blk_frozen BK114.out 2; have hfz43_3:=blk_frozen BK114.out 3; have hcz44_0 : w41.cell? ⟨gb108,0,none⟩ = some (.string (rd_T23 l0 x43_2).f0):=(blk_cell BK108.out 0).trans rfl; have hcz44_1 : w41.cell? ⟨gb108,1,none⟩ = some (.int .i64 (rd_T23 l0 x43_2).f1):=(blk_cell BK108.out 1).trans rfl; have hcz44_2 : w41.cell? ⟨gb108,2,none⟩ = some (.int .i64 (rd_T23 l0 x43_2).f2):=(blk_cell BK108.out 2).trans rfl; have hcz44_3 : w41.cell? ⟨gb108,3,none⟩ = some (.int .i64 (rd_T23 l0 x43_2).f3):=(blk_cell BK108.out 3).trans rfl; have hfz44_0:=blk_frozen BK108.out 0; have hfz44_1:=blk_frozen BK108.out 1; have hfz44_2:=blk_frozen BK108.out 2; have hfz44_3:=blk_frozen BK108.out 3))
                 go_roundg k3
                 case measure => have:=HK1.out; have:=HK2.out; have:=HK3.out; omega
                 case rel => exact ⟨(wrap64 (x52_3 + 1)),(by first | rfl | (simp; done) | (simp [*]; done)),H',⟨by have:=HK1.out; have:=HK2.out; have:=HK3.out; omega⟩,⟨by (with_reducible repeat (first | refine blk_drewN ?_ _ | refine blk_drew ?_ | refine blk_alloc ?_ _)); refine blk_far ?_ NB108_114.out _; (with_reducible repeat (first | refine blk_drewN ?_ _ | refine blk_drew ?_ | refine blk_alloc ?_ _)); refine blk_far ?_ NB108_114.out _; (with_reducible repeat (first | refine blk_drewN ?_ _ | refine blk_drew ?_ | refine blk_alloc ?_ _)); refine blk_far ?_ NB108_114.out _; (with_reducible repeat (first | refine blk_drewN ?_ _ | refine blk_drew ?_ | refine blk_alloc ?_ _)); refine blk_far ?_ NB108_114.out _; (with_reducible repeat (first | refine blk_drewN ?_ _ | refine blk_drew ?_ | refine blk_alloc ?_ _)); exact BK108.out⟩,⟨by repeat (first | (with_reducible first | exact HB.out | apply below_alloc | apply pw_below_drewN | apply below_drew1 | refine below_set ?_ GE108.out | refine below_set ?_ GE114.out) | exact HB.out)⟩⟩
               ·rw [if_neg c35] at H
                exact absurd H (by simp)
              ·rw [if_neg c34] at H
               exact absurd H (by simp)
             ·rw [if_neg c33] at H
              have c33b0 : decide (x52_3 < (y109.length : Int)) = false:=decide_eq_false c33;clear c33;have H':=Aside0.mk H;clear H
              go_wp2
              go_roundg k3
              case measure => have:=HK1.out; have:=HK2.out; have:=HK3.out; omega
              case rel => exact ⟨(wrap64 (x43_2 + 1)),(by first | rfl | (simp; done) | (simp [*]; done)),H',⟨by have:=HK1.out; have:=HK2.out; have:=HK3.out; omega⟩,⟨by repeat (first | (with_reducible first | exact HB.out | apply below_alloc | apply pw_below_drewN | apply below_drew1 | refine below_set ?_ GE108.out) | exact HB.out)⟩⟩
          ·rw [if_neg c28] at H
           exact absurd H (by simp)
         ·rw [if_neg c26] at H
          exact absurd H (by simp)
        ·rw [if_neg c25] at H
         exact absurd H (by simp)
       ·rw [if_neg c24] at H
        have c24b0 : decide (x43_2 < (l0.length : Int)) = false:=decide_eq_false c24;clear c24;obtain rfl:=Option.some.inj H
        go_wp2
        go_ret
        exact ⟨by first | rfl | (simp [errW_none,errW_some] <;> rfl) | (simp [*,errW_none,errW_some] <;> rfl),by repeat (first | (with_reducible first | exact HB.out | apply below_alloc | apply pw_below_drewN | apply below_drew1) | exact HB.out)⟩

end Go.Proofs.Ytmphplpfgjcpiaa.PCargo
