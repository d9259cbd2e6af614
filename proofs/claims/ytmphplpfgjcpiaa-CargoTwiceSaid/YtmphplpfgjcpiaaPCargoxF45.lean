/- Lean functions with the answers of the Go functions that a law uses,and for each that the Go code comes to just that; written by a program of this session's. -/
import Derived.Test.YtmphplpfgjcpiaaPCargox0
import Derived.Test.YtmphplpfgjcpiaaPCargoxF68
import Derived.Test.YtmphplpfgjcpiaaPCargoxF69
namespace Go.Proofs.Ytmphplpfgjcpiaa.PCargo
open Go.RowKit Go.Proofs.YtmphplpfgjcpiaaW.PrintWords Go.Proofs.YtmphplpfgjcpiaaW.PrintLast Go.Proofs.YtmphplpfgjcpiaaW.PrintMore
attribute [local go_sem] max2_int min2_int max_two min_two max_three min_three max_four min_four   -- for this text's walks alone
set_option linter.unusedVariables false
set_option linter.unusedSimpArgs false

/-! ### cargo_paid: function 45 -/
def cargo_paid.f (a0_0 : ByteArray) (a0_1 : Int) (a0_2 : Int) (a0_3 : Int) (a1 : Int) (a2 : Int) (a3 : Int) : Option (Int):=(bits_Mul64.f (IntKind.u64.wrap ((IntKind.u64.wrap (a0_1)) * (IntKind.u64.wrap (mx (wrap64 ((wrap64 (255 - (mx 0 (wrap64 (a3 - a0_2))))) - (mx 0 (wrap64 ((wrap64 (a3 - a0_2)) - a0_3))))) 31)))) (IntKind.u64.wrap ((IntKind.u64.wrap (a1)) * (IntKind.u64.wrap (a2))))).bind fun bt102 => (if bt102.1 ≥ 4096 then (some 1000000000000) else ((bits_Div64.f bt102.1 bt102.2 4096).bind fun bt104 => (some (wrap64 (mn bt104.1 1000000000000)))))
set_option maxHeartbeats 8000000 in
set_option maxRecDepth 100000 in
theorem cargo_paid.calls (a0_0 : ByteArray) (a0_1 : Int) (a0_2 : Int) (a0_3 : Int) (a1 : Int) (a2 : Int) (a3 : Int) (r : Int) (w : World) (h : cargo_paid.f a0_0 a0_1 a0_2 a0_3 a1 a2 a3 = some r) :
  Calls Try.prog 45 #[.agg #[.string a0_0,.int .i64 a0_1,.int .i64 a0_2,.int .i64 a0_3],.int .i64 a1,.int .i64 a2,.int .i64 a3] w fun e w' => e = .returned (.int .i64 r) ∧ Below w.heap.size w w':=by
 have hu23:=Try.underlying23
 have HB:=Aside0.mk (Below.refl w.heap.size w)
 have H : ((bits_Mul64.f (IntKind.u64.wrap ((IntKind.u64.wrap (a0_1)) * (IntKind.u64.wrap (mx (wrap64 ((wrap64 (255 - (mx 0 (wrap64 (a3 - a0_2))))) - (mx 0 (wrap64 ((wrap64 (a3 - a0_2)) - a0_3))))) 31)))) (IntKind.u64.wrap ((IntKind.u64.wrap (a1)) * (IntKind.u64.wrap (a2))))).bind fun bt102 => (if bt102.1 ≥ 4096 then (some 1000000000000) else ((bits_Div64.f bt102.1 bt102.2 4096).bind fun bt104 => (some (wrap64 (mn bt104.1 1000000000000)))))) = some r:=h
 clear h
 obtain ⟨ji5,hji5⟩ : ∃ j_ : Int,(mx 0 (wrap64 (a3 - a0_2))) = j_:=⟨_,rfl⟩
 replace H : ((bits_Mul64.f (IntKind.u64.wrap ((IntKind.u64.wrap (a0_1)) * (IntKind.u64.wrap (mx (wrap64 ((wrap64 (255 - (ji5))) - (mx 0 (wrap64 ((wrap64 (a3 - a0_2)) - a0_3))))) 31)))) (IntKind.u64.wrap ((IntKind.u64.wrap (a1)) * (IntKind.u64.wrap (a2))))).bind fun bt102 => (if bt102.1 ≥ 4096 then (some 1000000000000) else ((bits_Div64.f bt102.1 bt102.2 4096).bind fun bt104 => (some (wrap64 (mn bt104.1 1000000000000)))))) = some r:=by first | (rw [hji5] at H; exact H) | (simp only [hji5] at H ⊢; exact H)
 (try (have hji5l : 0 ≤ ji5:=by (rw [← hji5]; unfold mx; (repeat' split) <;> omega)))
 (try (have hji5m : 0 ≤ ji5:=by omega))
 have hji5_ : (if 0 < (wrap64 (a3 - a0_2)) then (wrap64 (a3 - a0_2)) else 0) = ji5:=hji5
 obtain ⟨ji6,hji6⟩ : ∃ j_ : Int,(mx 0 (wrap64 ((wrap64 (a3 - a0_2)) - a0_3))) = j_:=⟨_,rfl⟩
 replace H : ((bits_Mul64.f (IntKind.u64.wrap ((IntKind.u64.wrap (a0_1)) * (IntKind.u64.wrap (mx (wrap64 ((wrap64 (255 - (ji5))) - (ji6))) 31)))) (IntKind.u64.wrap ((IntKind.u64.wrap (a1)) * (IntKind.u64.wrap (a2))))).bind fun bt102 => (if bt102.1 ≥ 4096 then (some 1000000000000) else ((bits_Div64.f bt102.1 bt102.2 4096).bind fun bt104 => (some (wrap64 (mn bt104.1 1000000000000)))))) = some r:=by first | (rw [hji6] at H; exact H) | (simp only [hji6] at H ⊢; exact H)
 (try (have hji6l : 0 ≤ ji6:=by (rw [← hji6]; unfold mx; (repeat' split) <;> omega)))
 (try (have hji6m : 0 ≤ ji6:=by omega))
 have hji6_ : (if 0 < (wrap64 ((wrap64 (a3 - a0_2)) - a0_3)) then (wrap64 ((wrap64 (a3 - a0_2)) - a0_3)) else 0) = ji6:=hji6
 obtain ⟨ji7,hji7⟩ : ∃ j_ : Int,(mx (wrap64 ((wrap64 (255 - (ji5))) - (ji6))) 31) = j_:=⟨_,rfl⟩
 replace H : ((bits_Mul64.f (IntKind.u64.wrap ((IntKind.u64.wrap (a0_1)) * (IntKind.u64.wrap (ji7)))) (IntKind.u64.wrap ((IntKind.u64.wrap (a1)) * (IntKind.u64.wrap (a2))))).bind fun bt102 => (if bt102.1 ≥ 4096 then (some 1000000000000) else ((bits_Div64.f bt102.1 bt102.2 4096).bind fun bt104 => (some (wrap64 (mn bt104.1 1000000000000)))))) = some r:=by first | (rw [hji7] at H; exact H) | (simp only [hji7] at H ⊢; exact H)
 have hji7_ : (if (wrap64 ((wrap64 (255 - (ji5))) - (ji6))) < 31 then 31 else (wrap64 ((wrap64 (255 - (ji5))) - (ji6)))) = ji7:=hji7
 replace H:=Option.bind_eq_some_iff.mp H
 obtain ⟨⟨t102,t103⟩,A80,H⟩:=H
 replace H : (if t102 ≥ 4096 then (some 1000000000000) else ((bits_Div64.f t102 t103 4096).bind fun bt104 => (some (wrap64 (mn bt104.1 1000000000000))))) = some r:=H
 have A8:=Aside0.mk A80
 clear A80
 by_cases c9 : t102 ≥ 4096
 ·rw [if_pos c9] at H
  have c9b0 : decide (4096 ≤ t102) = true:=decide_eq_true c9
  clear c9
  obtain rfl:=Option.some.inj H
  go_enter Try.func45,Try.ntmps45
  go_wp2_with (first | ((with_reducible refine gate_dst (N:=4) rfl ?_); refine box_event ?hg (N:=4) ?hd (cs:=#[.string a0_0,.int .i64 a0_1,.int .i64 a0_2,.int .i64 a0_3]) (t:=23) ?hr ?_; (case hd => rfl); (case hg => rfl); (case hr => first | (go_simp; done) | (go_simp; rfl)); intro gb101 hg w10 hbox hb; have n0_:=Aside0.mk (below_step (by repeat (first | (with_reducible first | exact HB.out | apply below_alloc | apply pw_below_drewN | apply below_drew1) | exact HB.out)) hb); have n1_:=Aside0.mk (hbox); have n2_:=Aside0.mk ((by rw [hg]; exact (below_size (by repeat (first | (with_reducible first | exact HB.out | apply below_alloc | apply pw_below_drewN | apply below_drew1) | exact HB.out))) : w.heap.size ≤ gb101)); have n3_:=Aside0.mk ((by rw [hg]; exact (below_size (by repeat (first | (with_reducible first | exact HB.out | apply below_alloc | apply pw_below_drewN | apply below_drew1) | exact HB.out))) : w.heap.size ≤ gb101)); clear HB; have HB:=n0_; have BK101:=n1_; have GW101:=n2_; have GE101:=n3_; clear n0_ n1_ n2_ n3_; clear hb hbox hg; have hcz11_0 : w10.cell? ⟨gb101,0,none⟩ = some (.string a0_0):=(blk_cell BK101.out 0).trans rfl; have hcz11_1 : w10.cell? ⟨gb101,1,none⟩ = some (.int .i64 a0_1):=(blk_cell BK101.out 1).trans rfl; have hcz11_2 : w10.cell? ⟨gb101,2,none⟩ = some (.int .i64 a0_2):=(blk_cell BK101.out 2).trans rfl; have hcz11_3 : w10.cell? ⟨gb101,3,none⟩ = some (.int .i64 a0_3):=(blk_cell BK101.out 3).trans rfl; have hfz11_0:=blk_frozen BK101.out 0; have hfz11_1:=blk_frozen BK101.out 1; have hfz11_2:=blk_frozen BK101.out 2; have hfz11_3:=blk_frozen BK101.out 3) | ((with_reducible refine gate_callee (f:=68) rfl ?_); refine goesL_ (some 42) rfl rfl Try.func68 (by kernel_rfl) rfl #[.int .u64 (IntKind.u64.wrap ((IntKind.u64.wrap (a0_1)) * (IntKind.u64.wrap (ji7)))),.int .u64 (IntKind.u64.wrap ((IntKind.u64.wrap (a1)) * (IntKind.u64.wrap (a2))))] rfl (by (try simp only [List.map_toArray,List.map_cons,List.map_nil]); first | done | (simp only [hji7]; rfl) | rfl | (simp only [List.length_drop,List.length_take]; rfl)) ?_; (with_reducible refine (bits_Mul64.calls (IntKind.u64.wrap ((IntKind.u64.wrap (a0_1)) * (IntKind.u64.wrap (ji7)))) (IntKind.u64.wrap ((IntKind.u64.wrap (a1)) * (IntKind.u64.wrap (a2)))) t102 t103 _ A8.out).mono ?_); rintro e w' ⟨rfl,⟨nd,rfl⟩⟩; refine ⟨_,rfl,?_⟩))
  go_ret
  exact ⟨by first | rfl | (simp [errW_none,errW_some] <;> rfl) | (simp only [← hji5,← hji6,← hji7]; first | rfl | (simp [errW_none,errW_some] <;> rfl)) | (simp [*,errW_none,errW_some] <;> rfl),by repeat (first | (with_reducible first | exact HB.out | apply below_alloc | apply pw_below_drewN | apply below_drew1 | refine below_set ?_ GE101.out) | exact HB.out)⟩
 ·rw [if_neg c9] at H
  have c9b0 : decide (4096 ≤ t102) = false:=decide_eq_false c9
  clear c9
  replace H:=Option.bind_eq_some_iff.mp H
  obtain ⟨⟨t104,t105⟩,A120,H⟩:=H
  replace H : (some (wrap64 (mn t104 1000000000000))) = some r:=H
  have A12:=Aside0.mk A120
  clear A120
  obtain ⟨ji13,hji13⟩ : ∃ j_ : Int,(mn t104 1000000000000) = j_:=⟨_,rfl⟩
  replace H : (some (wrap64 (ji13))) = some r:=by first | (rw [hji13] at H; exact H) | (simp only [hji13] at H ⊢; exact H)
  (try rw [hji13] at A8)
  (try rw [hji13] at A12)
  (try (have hji13h : ji13 ≤ 1000000000000:=by (rw [← hji13]; unfold mn; (repeat' split) <;> omega)))
  (try (have hji13g : ji13 ≤ 64:=by omega))
  have hji13_ : (if 1000000000000 < t104 then 1000000000000 else t104) = ji13:=hji13
  obtain rfl:=Option.some.inj H
  go_enter Try.func45,Try.ntmps45
  go_wp2_with (first | ((with_reducible refine gate_dst (N:=4) rfl ?_); refine box_event ?hg (N:=4) ?hd (cs:=#[.string a0_0,.int .i64 a0_1,.int .i64 a0_2,.int .i64 a0_3]) (t:=23) ?hr ?_; (case hd => rfl); (case hg => rfl); (case hr => first | (go_simp; done) | (go_simp; rfl)); intro gb101 hg w14 hbox hb; have n0_:=Aside0.mk (below_step (by repeat (first | (with_reducible first | exact HB.out | apply below_alloc | apply pw_below_drewN | apply below_drew1) | exact HB.out)) hb); have n1_:=Aside0.mk (hbox); have n2_:=Aside0.mk ((by rw [hg]; exact (below_size (by repeat (first | (with_reducible first | exact HB.out | apply below_alloc | apply pw_below_drewN | apply below_drew1) | exact HB.out))) : w.heap.size ≤ gb101)); have n3_:=Aside0.mk ((by rw [hg]; exact (below_size (by repeat (first | (with_reducible first | exact HB.out | apply below_alloc | apply pw_below_drewN | apply below_drew1) | exact HB.out))) : w.heap.size ≤ gb101)); clear HB; have HB:=n0_; have BK101:=n1_; have GW101:=n2_; have GE101:=n3_; clear n0_ n1_ n2_ n3_; clear hb hbox hg; have hcz15_0 : w14.cell? ⟨gb101,0,none⟩ = some (.string a0_0):=(blk_cell BK101.out 0).trans rfl; have hcz15_1 : w14.cell? ⟨gb101,1,none⟩ = some (.int .i64 a0_1):=(blk_cell BK101.out 1).trans rfl; have hcz15_2 : w14.cell? ⟨gb101,2,none⟩ = some (.int .i64 a0_2):=(blk_cell BK101.out 2).trans rfl; have hcz15_3 : w14.cell? ⟨gb101,3,none⟩ = some (.int .i64 a0_3):=(blk_cell BK101.out 3).trans rfl; have hfz15_0:=blk_frozen BK101.out 0; have hfz15_1:=blk_frozen BK101.out 1; have hfz15_2:=blk_frozen BK101.out 2; have hfz15_3:=blk_frozen BK101.out 3) | ((with_reducible refine gate_callee (f:=68) rfl ?_); refine goesL_ (some 42) rfl rfl Try.func68 (by kernel_rfl) rfl #[.int .u64 (IntKind.u64.wrap ((IntKind.u64.wrap (a0_1)) * (IntKind.u64.wrap (ji7)))),.int .u64 (IntKind.u64.wrap ((IntKind.u64.wrap (a1)) * (IntKind.u64.wrap (a2))))] rfl (by (try simp only [List.map_toArray,List.map_cons,List.map_nil]); first | done | (simp only [hji7]; rfl) | rfl | (simp only [List.length_drop,List.length_take]; rfl)) ?_; (with_reducible refine (bits_Mul64.calls (IntKind.u64.wrap ((IntKind.u64.wrap (a0_1)) * (IntKind.u64.wrap (ji7)))) (IntKind.u64.wrap ((IntKind.u64.wrap (a1)) * (IntKind.u64.wrap (a2)))) t102 t103 _ A8.out).mono ?_); rintro e w' ⟨rfl,⟨nd,rfl⟩⟩; refine ⟨_,rfl,?_⟩) | ((with_reducible refine gate_callee (f:=69) rfl ?_); refine goesL_ (some 50) rfl rfl Try.func69 (by kernel_rfl) rfl #[.int .u64 t102,.int .u64 t103,.int .u64 4096] rfl (by (try simp only [List.map_toArray,List.map_cons,List.map_nil]); first | done | rfl | (simp only [List.length_drop,List.length_take]; rfl)) ?_; (with_reducible refine (bits_Div64.calls t102 t103 4096 t104 t105 _ A12.out).mono ?_); rintro e w' ⟨rfl,⟨nd,rfl⟩⟩; refine ⟨_,rfl,?_⟩))
  go_ret
  exact ⟨by first | rfl | (simp [errW_none,errW_some] <;> rfl) | (simp only [← hji5,← hji6,← hji7,← hji13]; first | rfl | (simp [errW_none,errW_some] <;> rfl)) | (simp [*,errW_none,errW_some] <;> rfl),by repeat (first | (with_reducible first | exact HB.out | apply below_alloc | apply pw_below_drewN | apply below_drew1 | refine below_set ?_ GE101.out) | exact HB.out)⟩

end Go.Proofs.Ytmphplpfgjcpiaa.PCargo
