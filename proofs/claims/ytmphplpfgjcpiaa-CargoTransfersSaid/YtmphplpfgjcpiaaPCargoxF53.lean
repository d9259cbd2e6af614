/- Lean functions with the answers of the Go functions that a law uses,and for each that the Go code comes to just that; written by a program of this session's. -/
import Derived.Test.YtmphplpfgjcpiaaPCargox0
import Derived.Test.YtmphplpfgjcpiaaBq
import Derived.Test.YtmphplpfgjcpiaaPCargoxF44
import Derived.Test.YtmphplpfgjcpiaaPCargoxF23
import Derived.Test.YtmphplpfgjcpiaaPCargoxF21
import Derived.Test.YtmphplpfgjcpiaaPCargoxF64
namespace Go.Proofs.Ytmphplpfgjcpiaa.PCargo
open Go.RowKit Go.Proofs.YtmphplpfgjcpiaaW.PrintWords Go.Proofs.YtmphplpfgjcpiaaW.PrintLast Go.Proofs.YtmphplpfgjcpiaaW.PrintMore
attribute [local go_sem] max2_int min2_int max_two min_two max_three min_three max_four min_four   -- for this text's walks alone
set_option linter.unusedVariables false
set_option linter.unusedSimpArgs false

/-! ### cargo_check: function 53 -/
def cargo_check.l0 : Nat → List (S23) → Int → Int → List (S44) → Int → Int → Option (Int)
 | 0,_,_,_,_,_,_ => none
 | k + 1,x0,x2,x3,x21,x22,x23 => if x23 < x22 then (if 0 ≤ x23 then (if x23 < (x21.length : Int) then (if (rd_T44 x21 x23).f0 ≥ (x0.length : Int) then (some 2) else (cargo_check.l0 k x0 x2 x3 x21 x22 (wrap64 (x23 + 1)))) else (none)) else (none)) else (if x2 < 4 then (some 1) else (if x2 > 32 then (some 1) else ((cargo_within.f x3 1000000).bind fun t109 => (if t109 = true then (some 0) else (some 1)))))
def cargo_check.f (k : Nat) (l0 : List (S23)) (l1 : List (S44)) (a2 : Int) (a3 : Int) : Option (Int):=(cargo_ValidateCargoes.f k l0).bind fun t101 => ((cargo_Validate.f k l1).bind fun t102 => ((api_Errno.f k (([t101,t102] : List Int))).bind fun t106 => (if t106 = 0 then (cargo_check.l0 k l0 a2 a3 l1 (l1.length : Int) 0) else (some t106))))
theorem cargo_check.mono_l : ∀ k,(∀ y0 y1 y2 y3 y4 y5,LeO (cargo_check.l0 k y0 y1 y2 y3 y4 y5) (cargo_check.l0 (k + 1) y0 y1 y2 y3 y4 y5))
 | 0 => fun _ _ _ _ _ _ r h => by simp [cargo_check.l0] at h
 | k + 1 => by
  have ih0:=cargo_check.mono_l k
  ·intro y0 y1 y2 y3 y4 y5
   unfold cargo_check.l0
   repeat' first
   | (with_reducible exact ih0 _ _ _ _ _ _)
   | (with_reducible exact api_Errno.mono _ _)
   | (with_reducible exact cargo_Validate.mono _ _)
   | (with_reducible exact cargo_ValidateCargoes.mono _ _)
   | (with_reducible exact LeO.refl _)
   | (with_reducible exact LeO.none _)
   | (with_reducible refine LeO.ite ?_ ?_)
   | (with_reducible refine LeO.bind ?_ (fun _ => ?_))
   | exact ih0 _ _ _ _ _ _
   | exact api_Errno.mono _ _
   | exact cargo_Validate.mono _ _
   | exact cargo_ValidateCargoes.mono _ _
   | exact LeO.none _
   | refine LeO.ite ?_ ?_
   | refine LeO.bind ?_ (fun _ => ?_)
theorem cargo_check.mono : ∀ a0 a1 a2 a3 k,LeO (cargo_check.f k a0 a1 a2 a3) (cargo_check.f (k + 1) a0 a1 a2 a3):=by
 intro a0 a1 a2 a3 k;have ih0:=cargo_check.mono_l k
 unfold cargo_check.f
 repeat' first
   | (with_reducible exact ih0 _ _ _ _ _ _)
   | (with_reducible exact api_Errno.mono _ _)
   | (with_reducible exact cargo_Validate.mono _ _)
   | (with_reducible exact cargo_ValidateCargoes.mono _ _)
   | (with_reducible exact LeO.refl _)
   | (with_reducible exact LeO.none _)
   | (with_reducible refine LeO.ite ?_ ?_)
   | (with_reducible refine LeO.bind ?_ (fun _ => ?_))
   | exact ih0 _ _ _ _ _ _
   | exact api_Errno.mono _ _
   | exact cargo_Validate.mono _ _
   | exact cargo_ValidateCargoes.mono _ _
   | exact LeO.none _
   | refine LeO.ite ?_ ?_
   | refine LeO.bind ?_ (fun _ => ?_)
set_option maxHeartbeats 8000000 in
set_option maxRecDepth 100000 in
theorem cargo_check.calls (k : Nat) (A0 : Option Addr) (c0 : Nat) (l0 : List (S23)) (A1 : Option Addr) (c1 : Nat) (l1 : List (S44)) (a2 : Int) (a3 : Int) (r : Int) (w : World) (hr0 : Kd.C k23 w A0 l0.length l0) (hc0 : l0.length ≤ c0) (hr1 : Kd.C k44 w A1 l1.length l1) (hc1 : l1.length ≤ c1) (h : cargo_check.f k l0 l1 a2 a3 = some r) :
  Calls Try.prog 53 #[.slice A0 l0.length c0,.slice A1 l1.length c1,.int .i64 a2,.int .i64 a3] w fun e w' => e = .returned (.int .i64 r) ∧ Below w.heap.size w w':=by
 have hu44:=Try.underlying44;have HR0:=Aside0.mk hr0;have HC0:=Aside0.mk hc0;clear hr0 hc0;have HR1:=Aside0.mk hr1;have HC1:=Aside0.mk hc1;clear hr1 hc1;have HB:=Aside0.mk (Below.refl w.heap.size w);have H : ((cargo_ValidateCargoes.f k l0).bind fun t101 => ((cargo_Validate.f k l1).bind fun t102 => ((api_Errno.f k (([t101,t102] : List Int))).bind fun t106 => (if t106 = 0 then (cargo_check.l0 k l0 a2 a3 l1 (l1.length : Int) 0) else (some t106))))) = some r:=h;clear h;replace H:=Option.bind_eq_some_iff.mp H;obtain ⟨t101,A50,H⟩:=H;replace H : ((cargo_Validate.f k l1).bind fun t102 => ((api_Errno.f k (([t101,t102] : List Int))).bind fun t106 => (if t106 = 0 then (cargo_check.l0 k l0 a2 a3 l1 (l1.length : Int) 0) else (some t106)))) = some r:=H;have A5:=Aside0.mk A50;clear A50;replace H:=Option.bind_eq_some_iff.mp H;obtain ⟨t102,A60,H⟩:=H;replace H : ((api_Errno.f k (([t101,t102] : List Int))).bind fun t106 => (if t106 = 0 then (cargo_check.l0 k l0 a2 a3 l1 (l1.length : Int) 0) else (some t106))) = some r:=H;have A6:=Aside0.mk A60;clear A60;obtain ⟨y103,hy103⟩ : ∃ y_ : List Int,y_ = (([t101,t102] : List Int)):=⟨_,rfl⟩
 replace H : ((api_Errno.f k y103).bind fun t106 => (if t106 = 0 then (cargo_check.l0 k l0 a2 a3 l1 (l1.length : Int) 0) else (some t106))) = some r:=by first | (rw [hy103]; with_reducible exact H) | (have H2_:=(Option.bind_some _ _).symm.trans H; rw [hy103]; with_reducible exact H2_) | (have H2_:=(Option.bind_some _ _).symm.trans H; with_reducible exact H2_) | with_reducible exact H | (rw [hy103]; exact H) | exact H
 have Ny103:=Aside0.mk hy103;clear hy103;replace H:=Option.bind_eq_some_iff.mp H;obtain ⟨t106,A70,H⟩:=H;replace H : (if t106 = 0 then (cargo_check.l0 k l0 a2 a3 l1 (l1.length : Int) 0) else (some t106)) = some r:=H;have A7:=Aside0.mk A70;clear A70
 by_cases c8 : t106 = 0
 ·rw [if_pos c8] at H
  have c8b0 : (t106 == 0) = true:=beq_iff_eq.mpr c8;have c8b1 : (t106 != 0) = false:=bne_eq_false_iff_eq.mpr c8;clear c8;have H':=Aside0.mk H;clear H
  go_enter Try.func53,Try.ntmps53
  go_wp2_with (first | ((with_reducible refine gate_callee (f:=23) rfl ?_); refine goesL_ (some 13) rfl rfl Try.func23 (by kernel_rfl) rfl #[.slice A0 l0.length c0] rfl (by (try simp only [List.map_toArray,List.map_cons,List.map_nil]); first | done | rfl | (simp only [List.length_drop,List.length_take]; rfl)) ?_; (with_reducible refine (cargo_ValidateCargoes.calls k _ _ l0 t101 _ ?side1 ?side2 A5.out).mono ?_); (case side1 => repeat (first | exact HR0.out | (with_reducible refine Kd.C_alloc ?_ _) | (with_reducible refine Kd.C_drewN ?_ _) | (with_reducible refine Kd.C_drew ?_))); (case side2 => exact HC0.out); rintro e w9 ⟨rfl,hb⟩; refine ⟨_,rfl,?_⟩; have n0_:=Aside0.mk (below_step bq_ hb); clear HB; have HB:=n0_; clear n0_; (try clear hb); (try clear hb2); (try clear hk); (try clear hi)) | ((with_reducible refine gate_callee (f:=21) rfl ?_); refine goesL_ (some 15) rfl rfl Try.func21 (by kernel_rfl) rfl #[.slice A1 l1.length c1] rfl (by (try simp only [List.map_toArray,List.map_cons,List.map_nil]); first | done | rfl | (simp only [List.length_drop,List.length_take]; rfl)) ?_; (with_reducible refine (cargo_Validate.calls k _ _ l1 t102 _ ?side1 ?side2 A6.out).mono ?_); (case side1 => repeat (first | exact (Kd.C_below HR1.out HB.out) | (with_reducible refine Kd.C_alloc ?_ _) | (with_reducible refine Kd.C_drewN ?_ _) | (with_reducible refine Kd.C_drew ?_))); (case side2 => exact HC1.out); rintro e w10 ⟨rfl,hb⟩; refine ⟨_,rfl,?_⟩; have n0_:=Aside0.mk (below_step bq_ hb); clear HB; have HB:=n0_; clear n0_; (try clear hb); (try clear hb2); (try clear hk); (try clear hi)) | ((with_reducible refine gate_dst (N:=16) rfl ?_); refine Kd.R_lit (Kd.int .i64) _ 24 ?hg (N:=16) ?hd (xs:=([t101,t102] : List Int)) (inner:=[.int .i64 t101,.int .i64 t102]) (ok:=fun _ => True) (okp:=fun _ => True) ?hr ?hp (fun _ hk => hk) trivial (Below.refl _ _) (Nat.le_refl _) (by simp) ?_; (case hd => rfl); (case hg => rfl); (case hr => first | (go_simp; done) | (go_simp; rfl)); (case hp => exact (Reps.one (show Kd.M (Kd.int .i64) _ _ _ t101 [.int .i64 t101] from rfl) (Reps.one (show Kd.M (Kd.int .i64) _ _ _ t102 [.int .i64 t102] from rfl) (Reps.none _ _)))); intro v104 w11 ho12 hb hg_ hnew_; clear hg_ hnew_; (first | rw [← Ny103.out] at ho12 | (simp only [Int.reduceToNat] at ho12; rw [← Ny103.out] at ho12)); have n0_:=Aside0.mk (Kd.R_lower ho12 (below_size bq_)); have n1_:=Aside0.mk (below_step bq_ hb); clear HB; have HO105:=n0_; have HB:=n1_; clear n0_ n1_; clear hb ho12; obtain ⟨Ao13,co13,eo13⟩:=Kd.R_slice HO105.out; subst eo13) | ((with_reducible refine gate_callee (f:=64) rfl ?_); refine goesL_ (some 17) rfl rfl Try.func64 (by kernel_rfl) rfl #[.slice Ao13 y103.length co13] rfl (by (try simp only [List.map_toArray,List.map_cons,List.map_nil]); first | done | rfl | (simp only [List.length_drop,List.length_take]; rfl)) ?_; (with_reducible refine (api_Errno.calls k _ _ y103 t106 _ ?side1 ?side2 A7.out).mono ?_); (case side1 => repeat (first | exact (Kd.R_reads' HO105.out).2.2 | (with_reducible refine Kd.C_alloc ?_ _) | (with_reducible refine Kd.C_drewN ?_ _) | (with_reducible refine Kd.C_drew ?_))); (case side2 => exact (Kd.R_reads' HO105.out).2.1); rintro e w' ⟨rfl,⟨nd,rfl⟩⟩; refine ⟨_,rfl,?_⟩))
  go_loopg [23] k (fun kq v23 w' => ∃ (x23_1 : Int),v23 = .int .i64 x23_1 ∧ Aside0 (cargo_check.l0 kq l0 a2 a3 l1 (l1.length : Int) x23_1 = some r) ∧ Aside0 (kq ≤ k) ∧ Aside0 (Below w.heap.size w w'))
  case atStart => exact ⟨(0),(by first | rfl | (simp; done) | (simp [*]; done)),H',⟨Nat.le_refl _⟩,⟨by repeat (first | (with_reducible first | exact HB.out | apply below_alloc | apply pw_below_drewN | apply below_drew1) | exact HB.out)⟩⟩
  case round =>
   clear H'
   try clear c1
   try clear c2
   try clear p2
   try clear c5
   try clear c6
   try clear c8
   try clear c8b0
   try clear c8b1
   obtain ⟨x23_1,rfl,HA,HK1,HB⟩:=hrel
   cases gk with
   | zero => exact absurd HA.out (by simp [cargo_check.l0])
   | succ k1 =>
    have H:=HA.out;clear HA
    simp only [cargo_check.l0] at H
    by_cases c14 : x23_1 < (l1.length : Int)
    ·rw [if_pos c14] at H
     have c14b0 : decide (x23_1 < (l1.length : Int)) = true:=decide_eq_true c14;clear c14
     by_cases c15 : 0 ≤ x23_1
     ·rw [if_pos c15] at H
      have c15b0 : decide (0 ≤ x23_1) = true:=decide_eq_true c15;clear c15
      by_cases c16 : x23_1 < (l1.length : Int)
      ·rw [if_pos c16] at H
       have c16b0 : decide (x23_1 < (l1.length : Int)) = true:=decide_eq_true c16;clear c16
       by_cases c17 : (rd_T44 l1 x23_1).f0 ≥ (l0.length : Int)
       ·rw [if_pos c17] at H
        have c17b0 : decide ((l0.length : Int) ≤ (rd_T44 l1 x23_1).f0) = true:=decide_eq_true c17;clear c17;obtain rfl:=Option.some.inj H;have p107 : 0 ≤ (x23_1 : Int):=of_decide_eq_true ba_;have q107 : x23_1 < (l1.length : Int):=of_decide_eq_true ba_;obtain ⟨ad107,e107,hx107_0,hx107_1,hx107_2,hx107_3,hx107_4,hx107_5⟩:=at_T44 HR1.out x23_1 p107 q107
        cases e107
        replace hx107_0:=pw_cell_below HB.out hx107_0;replace hx107_1:=pw_cell_below HB.out hx107_1;replace hx107_2:=pw_cell_below HB.out hx107_2;replace hx107_3:=pw_cell_below HB.out hx107_3;replace hx107_4:=pw_cell_below HB.out hx107_4;replace hx107_5:=pw_cell_below HB.out hx107_5;replace p107:=eq_true p107;replace q107:=eq_true q107
        go_wp2_with (first | ((with_reducible refine gate_dst (N:=11) rfl ?_); refine box_event ?hg (N:=11) ?hd (cs:=#[.int .i64 0,.int .i64 0,.int .i64 0,.int .i64 0,.int .i64 0,.int .i64 0]) (t:=44) ?hr ?_; (case hd => rfl); (case hg => rfl); (case hr => first | (go_simp; done) | (go_simp; rfl)); intro gb108 hg w18 hbox hb; have n0_:=Aside0.mk (below_step bq_ hb); have n1_:=Aside0.mk (hbox); have n2_:=Aside0.mk ((by rw [hg]; exact (below_size bq_) : w.heap.size ≤ gb108)); have n3_:=Aside0.mk ((by rw [hg]; exact (below_size bq_) : w.heap.size ≤ gb108)); clear HB; have HB:=n0_; have BK108:=n1_; have GW108:=n2_; have GE108:=n3_; clear n0_ n1_ n2_ n3_; clear hb hbox hg; have hcz19_0 : w18.cell? ⟨gb108,0,none⟩ = some (.int .i64 0):=(blk_cell BK108.out 0).trans rfl; have hcz19_1 : w18.cell? ⟨gb108,1,none⟩ = some (.int .i64 0):=(blk_cell BK108.out 1).trans rfl; have hcz19_2 : w18.cell? ⟨gb108,2,none⟩ = some (.int .i64 0):=(blk_cell BK108.out 2).trans rfl; have hcz19_3 : w18.cell? ⟨gb108,3,none⟩ = some (.int .i64 0):=(blk_cell BK108.out 3).trans rfl; have hcz19_4 : w18.cell? ⟨gb108,4,none⟩ = some (.int .i64 0):=(blk_cell BK108.out 4).trans rfl; have hcz19_5 : w18.cell? ⟨gb108,5,none⟩ = some (.int .i64 0):=(blk_cell BK108.out 5).trans rfl; have hfz19_0:=blk_frozen BK108.out 0; have hfz19_1:=blk_frozen BK108.out 1; have hfz19_2:=blk_frozen BK108.out 2; have hfz19_3:=blk_frozen BK108.out 3; have hfz19_4:=blk_frozen BK108.out 4; have hfz19_5:=blk_frozen BK108.out 5))
        go_ret
        exact ⟨by first | rfl | (simp [errW_none,errW_some] <;> rfl) | (simp [*,errW_none,errW_some] <;> rfl),by repeat (first | (with_reducible first | exact HB.out | apply below_alloc | apply pw_below_drewN | apply below_drew1 | refine below_set ?_ GE108.out) | exact HB.out)⟩
       ·rw [if_neg c17] at H
        have c17b0 : decide ((l0.length : Int) ≤ (rd_T44 l1 x23_1).f0) = false:=decide_eq_false c17;clear c17;have H':=Aside0.mk H;clear H;have p107 : 0 ≤ (x23_1 : Int):=of_decide_eq_true ba_;have q107 : x23_1 < (l1.length : Int):=of_decide_eq_true ba_;obtain ⟨ad107,e107,hx107_0,hx107_1,hx107_2,hx107_3,hx107_4,hx107_5⟩:=at_T44 HR1.out x23_1 p107 q107
        cases e107
        replace hx107_0:=pw_cell_below HB.out hx107_0;replace hx107_1:=pw_cell_below HB.out hx107_1;replace hx107_2:=pw_cell_below HB.out hx107_2;replace hx107_3:=pw_cell_below HB.out hx107_3;replace hx107_4:=pw_cell_below HB.out hx107_4;replace hx107_5:=pw_cell_below HB.out hx107_5;replace p107:=eq_true p107;replace q107:=eq_true q107
        go_wp2_with (first | ((with_reducible refine gate_dst (N:=11) rfl ?_); refine box_event ?hg (N:=11) ?hd (cs:=#[.int .i64 0,.int .i64 0,.int .i64 0,.int .i64 0,.int .i64 0,.int .i64 0]) (t:=44) ?hr ?_; (case hd => rfl); (case hg => rfl); (case hr => first | (go_simp; done) | (go_simp; rfl)); intro gb108 hg w20 hbox hb; have n0_:=Aside0.mk (below_step bq_ hb); have n1_:=Aside0.mk (hbox); have n2_:=Aside0.mk ((by rw [hg]; exact (below_size bq_) : w.heap.size ≤ gb108)); have n3_:=Aside0.mk ((by rw [hg]; exact (below_size bq_) : w.heap.size ≤ gb108)); clear HB; have HB:=n0_; have BK108:=n1_; have GW108:=n2_; have GE108:=n3_; clear n0_ n1_ n2_ n3_; clear hb hbox hg; have hcz21_0 : w20.cell? ⟨gb108,0,none⟩ = some (.int .i64 0):=(blk_cell BK108.out 0).trans rfl; have hcz21_1 : w20.cell? ⟨gb108,1,none⟩ = some (.int .i64 0):=(blk_cell BK108.out 1).trans rfl; have hcz21_2 : w20.cell? ⟨gb108,2,none⟩ = some (.int .i64 0):=(blk_cell BK108.out 2).trans rfl; have hcz21_3 : w20.cell? ⟨gb108,3,none⟩ = some (.int .i64 0):=(blk_cell BK108.out 3).trans rfl; have hcz21_4 : w20.cell? ⟨gb108,4,none⟩ = some (.int .i64 0):=(blk_cell BK108.out 4).trans rfl; have hcz21_5 : w20.cell? ⟨gb108,5,none⟩ = some (.int .i64 0):=(blk_cell BK108.out 5).trans rfl; have hfz21_0:=blk_frozen BK108.out 0; have hfz21_1:=blk_frozen BK108.out 1; have hfz21_2:=blk_frozen BK108.out 2; have hfz21_3:=blk_frozen BK108.out 3; have hfz21_4:=blk_frozen BK108.out 4; have hfz21_5:=blk_frozen BK108.out 5))
        go_roundg k1
        case measure => have:=HK1.out; omega
        case rel => exact ⟨(wrap64 (x23_1 + 1)),(by first | rfl | (simp; done) | (simp [*]; done)),H',⟨by have:=HK1.out; omega⟩,⟨by repeat (first | (with_reducible first | exact HB.out | apply below_alloc | apply pw_below_drewN | apply below_drew1 | refine below_set ?_ GE108.out) | exact HB.out)⟩⟩
      ·rw [if_neg c16] at H
       exact absurd H (by simp)
     ·rw [if_neg c15] at H
      exact absurd H (by simp)
    ·rw [if_neg c14] at H
     have c14b0 : decide (x23_1 < (l1.length : Int)) = false:=decide_eq_false c14;clear c14
     by_cases c22 : a2 < 4
     ·rw [if_pos c22] at H
      have c22b0 : decide (a2 < 4) = true:=decide_eq_true c22;clear c22;obtain rfl:=Option.some.inj H
      go_wp2
      go_ret
      exact ⟨by first | rfl | (simp [errW_none,errW_some] <;> rfl) | (simp [*,errW_none,errW_some] <;> rfl),by repeat (first | (with_reducible first | exact HB.out | apply below_alloc | apply pw_below_drewN | apply below_drew1) | exact HB.out)⟩
     ·rw [if_neg c22] at H
      have c22b0 : decide (a2 < 4) = false:=decide_eq_false c22;clear c22
      by_cases c23 : a2 > 32
      ·rw [if_pos c23] at H
       have c23b0 : decide (32 < a2) = true:=decide_eq_true c23;clear c23;obtain rfl:=Option.some.inj H
       go_wp2
       go_ret
       exact ⟨by first | rfl | (simp [errW_none,errW_some] <;> rfl) | (simp [*,errW_none,errW_some] <;> rfl),by repeat (first | (with_reducible first | exact HB.out | apply below_alloc | apply pw_below_drewN | apply below_drew1) | exact HB.out)⟩
      ·rw [if_neg c23] at H
       have c23b0 : decide (32 < a2) = false:=decide_eq_false c23;clear c23;replace H:=Option.bind_eq_some_iff.mp H;obtain ⟨t109,A240,H⟩:=H;replace H : (if t109 = true then (some 0) else (some 1)) = some r:=H;have A24:=Aside0.mk A240;clear A240
       by_cases c25 : t109 = true
       ·subst c25
        have H1 : (some 0) = some r:=by rw [if_pos rfl] at H; exact H
        clear H;have H:=H1;clear H1;obtain rfl:=Option.some.inj H
        go_wp2_with (first | (go_at_call 44; (with_reducible refine (cargo_within.calls a3 1000000 true _ A24.out).mono ?_); rintro e w' ⟨rfl,⟨nd,rfl⟩⟩))
        go_ret
        exact ⟨by first | rfl | (simp [errW_none,errW_some] <;> rfl) | (simp [*,errW_none,errW_some] <;> rfl),by repeat (first | (with_reducible first | exact HB.out | apply below_alloc | apply pw_below_drewN | apply below_drew1) | exact HB.out)⟩
       ·replace c25:=Bool.eq_false_iff.mpr c25
        subst c25
        have H1 : (some 1) = some r:=by rw [if_neg (show ¬ (false = true) by decide)] at H; exact H
        clear H;have H:=H1;clear H1;obtain rfl:=Option.some.inj H
        go_wp2_with (first | (go_at_call 44; (with_reducible refine (cargo_within.calls a3 1000000 false _ A24.out).mono ?_); rintro e w' ⟨rfl,⟨nd,rfl⟩⟩))
        go_ret
        exact ⟨by first | rfl | (simp [errW_none,errW_some] <;> rfl) | (simp [*,errW_none,errW_some] <;> rfl),by repeat (first | (with_reducible first | exact HB.out | apply below_alloc | apply pw_below_drewN | apply below_drew1) | exact HB.out)⟩
 ·rw [if_neg c8] at H
  have c8b0 : (t106 == 0) = false:=beq_eq_false_iff_ne.mpr c8;have c8b1 : (t106 != 0) = true:=bne_iff_ne.mpr c8;obtain rfl:=Option.some.inj H
  go_enter Try.func53,Try.ntmps53
  go_wp2_with (first | ((with_reducible refine gate_callee (f:=23) rfl ?_); refine goesL_ (some 13) rfl rfl Try.func23 (by kernel_rfl) rfl #[.slice A0 l0.length c0] rfl (by (try simp only [List.map_toArray,List.map_cons,List.map_nil]); first | done | rfl | (simp only [List.length_drop,List.length_take]; rfl)) ?_; (with_reducible refine (cargo_ValidateCargoes.calls k _ _ l0 t101 _ ?side1 ?side2 A5.out).mono ?_); (case side1 => repeat (first | exact HR0.out | (with_reducible refine Kd.C_alloc ?_ _) | (with_reducible refine Kd.C_drewN ?_ _) | (with_reducible refine Kd.C_drew ?_))); (case side2 => exact HC0.out); rintro e w26 ⟨rfl,hb⟩; refine ⟨_,rfl,?_⟩; have n0_:=Aside0.mk (below_step bq_ hb); clear HB; have HB:=n0_; clear n0_; (try clear hb); (try clear hb2); (try clear hk); (try clear hi)) | ((with_reducible refine gate_callee (f:=21) rfl ?_); refine goesL_ (some 15) rfl rfl Try.func21 (by kernel_rfl) rfl #[.slice A1 l1.length c1] rfl (by (try simp only [List.map_toArray,List.map_cons,List.map_nil]); first | done | rfl | (simp only [List.length_drop,List.length_take]; rfl)) ?_; (with_reducible refine (cargo_Validate.calls k _ _ l1 t102 _ ?side1 ?side2 A6.out).mono ?_); (case side1 => repeat (first | exact (Kd.C_below HR1.out HB.out) | (with_reducible refine Kd.C_alloc ?_ _) | (with_reducible refine Kd.C_drewN ?_ _) | (with_reducible refine Kd.C_drew ?_))); (case side2 => exact HC1.out); rintro e w27 ⟨rfl,hb⟩; refine ⟨_,rfl,?_⟩; have n0_:=Aside0.mk (below_step bq_ hb); clear HB; have HB:=n0_; clear n0_; (try clear hb); (try clear hb2); (try clear hk); (try clear hi)) | ((with_reducible refine gate_dst (N:=16) rfl ?_); refine Kd.R_lit (Kd.int .i64) _ 24 ?hg (N:=16) ?hd (xs:=([t101,t102] : List Int)) (inner:=[.int .i64 t101,.int .i64 t102]) (ok:=fun _ => True) (okp:=fun _ => True) ?hr ?hp (fun _ hk => hk) trivial (Below.refl _ _) (Nat.le_refl _) (by simp) ?_; (case hd => rfl); (case hg => rfl); (case hr => first | (go_simp; done) | (go_simp; rfl)); (case hp => exact (Reps.one (show Kd.M (Kd.int .i64) _ _ _ t101 [.int .i64 t101] from rfl) (Reps.one (show Kd.M (Kd.int .i64) _ _ _ t102 [.int .i64 t102] from rfl) (Reps.none _ _)))); intro v104 w28 ho29 hb hg_ hnew_; clear hg_ hnew_; (first | rw [← Ny103.out] at ho29 | (simp only [Int.reduceToNat] at ho29; rw [← Ny103.out] at ho29)); have n0_:=Aside0.mk (Kd.R_lower ho29 (below_size bq_)); have n1_:=Aside0.mk (below_step bq_ hb); clear HB; have HO105:=n0_; have HB:=n1_; clear n0_ n1_; clear hb ho29; obtain ⟨Ao30,co30,eo30⟩:=Kd.R_slice HO105.out; subst eo30) | ((with_reducible refine gate_callee (f:=64) rfl ?_); refine goesL_ (some 17) rfl rfl Try.func64 (by kernel_rfl) rfl #[.slice Ao30 y103.length co30] rfl (by (try simp only [List.map_toArray,List.map_cons,List.map_nil]); first | done | rfl | (simp only [List.length_drop,List.length_take]; rfl)) ?_; (with_reducible refine (api_Errno.calls k _ _ y103 t106 _ ?side1 ?side2 A7.out).mono ?_); (case side1 => repeat (first | exact (Kd.R_reads' HO105.out).2.2 | (with_reducible refine Kd.C_alloc ?_ _) | (with_reducible refine Kd.C_drewN ?_ _) | (with_reducible refine Kd.C_drew ?_))); (case side2 => exact (Kd.R_reads' HO105.out).2.1); rintro e w' ⟨rfl,⟨nd,rfl⟩⟩; refine ⟨_,rfl,?_⟩))
  go_ret
  exact ⟨by first | rfl | (simp [errW_none,errW_some] <;> rfl) | (simp [*,errW_none,errW_some] <;> rfl),by repeat (first | (with_reducible first | exact HB.out | apply below_alloc | apply pw_below_drewN | apply below_drew1) | exact HB.out)⟩

end Go.Proofs.Ytmphplpfgjcpiaa.PCargo
