/- Lean functions with the answers of the Go functions that a law uses,and for each that the Go code comes to just that; written by a program of this session's. -/
import Derived.Test.YtmphplpfgjcpiaaPCargox0
import Derived.Test.YtmphplpfgjcpiaaPCargoxF67
namespace Go.Proofs.Ytmphplpfgjcpiaa.PCargo
open Go.RowKit Go.Proofs.YtmphplpfgjcpiaaW.PrintWords Go.Proofs.YtmphplpfgjcpiaaW.PrintLast Go.Proofs.YtmphplpfgjcpiaaW.PrintMore
attribute [local go_sem] max2_int min2_int max_two min_two max_three min_three max_four min_four   -- for this text's walks alone
set_option linter.unusedVariables false
set_option linter.unusedSimpArgs false

/-! ### hinterlandref09_pay: function 43 -/
def hinterlandref09_pay.f (a0_0 : ByteArray) (a0_1 : Int) (a0_2 : Int) (a0_3 : Int) (a1 : Int) (a2 : Int) (a3 : Int) : Option (Int):=(hinterlandref09_MulDiv.f (wrap64 (a0_1 * (mx 31 (wrap64 ((wrap64 (255 - (mx 0 (wrap64 (a3 - a0_2))))) - (mx 0 (wrap64 ((wrap64 (a3 - a0_2)) - a0_3)))))))) (wrap64 (a1 * a2)) 4096).bind fun t102 => (some (mn 1000000000000 t102))
set_option maxHeartbeats 8000000 in
set_option maxRecDepth 100000 in
theorem hinterlandref09_pay.calls (a0_0 : ByteArray) (a0_1 : Int) (a0_2 : Int) (a0_3 : Int) (a1 : Int) (a2 : Int) (a3 : Int) (r : Int) (w : World) (h : hinterlandref09_pay.f a0_0 a0_1 a0_2 a0_3 a1 a2 a3 = some r) :
  Calls Try.prog 43 #[.agg #[.string a0_0,.int .i64 a0_1,.int .i64 a0_2,.int .i64 a0_3],.int .i64 a1,.int .i64 a2,.int .i64 a3] w fun e w' => e = .returned (.int .i64 r) ∧ Below w.heap.size w w':=by
 have hu23:=Try.underlying23;have HB:=Aside0.mk (Below.refl w.heap.size w);have H : ((hinterlandref09_MulDiv.f (wrap64 (a0_1 * (mx 31 (wrap64 ((wrap64 (255 - (mx 0 (wrap64 (a3 - a0_2))))) - (mx 0 (wrap64 ((wrap64 (a3 - a0_2)) - a0_3)))))))) (wrap64 (a1 * a2)) 4096).bind fun t102 => (some (mn 1000000000000 t102))) = some r:=h;clear h;obtain ⟨ji5,hji5⟩ : ∃ j_ : Int,(mx 0 (wrap64 (a3 - a0_2))) = j_:=⟨_,rfl⟩
 replace H : ((hinterlandref09_MulDiv.f (wrap64 (a0_1 * (mx 31 (wrap64 ((wrap64 (255 - ji5)) - (mx 0 (wrap64 ((wrap64 (a3 - a0_2)) - a0_3)))))))) (wrap64 (a1 * a2)) 4096).bind fun t102 => (some (mn 1000000000000 t102))) = some r:=by first | (rw [hji5] at H; exact H) | (simp only [hji5] at H ⊢; exact H)
 (try (have hji5l : 0 ≤ ji5:=by (rw [← hji5]; unfold mx; (repeat' split) <;> omega)))
 (try (have hji5m : 0 ≤ ji5:=by omega))
 have hji5_ : (if 0 < (wrap64 (a3 - a0_2)) then (wrap64 (a3 - a0_2)) else 0) = ji5:=hji5;obtain ⟨ji6,hji6⟩ : ∃ j_ : Int,(mx 0 (wrap64 ((wrap64 (a3 - a0_2)) - a0_3))) = j_:=⟨_,rfl⟩
 replace H : ((hinterlandref09_MulDiv.f (wrap64 (a0_1 * (mx 31 (wrap64 ((wrap64 (255 - ji5)) - ji6))))) (wrap64 (a1 * a2)) 4096).bind fun t102 => (some (mn 1000000000000 t102))) = some r:=by first | (rw [hji6] at H; exact H) | (simp only [hji6] at H ⊢; exact H)
 (try (have hji6l : 0 ≤ ji6:=by (rw [← hji6]; unfold mx; (repeat' split) <;> omega)))
 (try (have hji6m : 0 ≤ ji6:=by omega))
 have hji6_ : (if 0 < (wrap64 ((wrap64 (a3 - a0_2)) - a0_3)) then (wrap64 ((wrap64 (a3 - a0_2)) - a0_3)) else 0) = ji6:=hji6;obtain ⟨ji7,hji7⟩ : ∃ j_ : Int,(mx 31 (wrap64 ((wrap64 (255 - ji5)) - ji6))) = j_:=⟨_,rfl⟩
 replace H : ((hinterlandref09_MulDiv.f (wrap64 (a0_1 * ji7)) (wrap64 (a1 * a2)) 4096).bind fun t102 => (some (mn 1000000000000 t102))) = some r:=by first | (rw [hji7] at H; exact H) | (simp only [hji7] at H ⊢; exact H)
 have hji7_ : (if 31 < (wrap64 ((wrap64 (255 - ji5)) - ji6)) then (wrap64 ((wrap64 (255 - ji5)) - ji6)) else 31) = ji7:=hji7;replace H:=Option.bind_eq_some_iff.mp H;obtain ⟨t102,A80,H⟩:=H;replace H : (some (mn 1000000000000 t102)) = some r:=H;have A8:=Aside0.mk A80;clear A80;obtain ⟨ji9,hji9⟩ : ∃ j_ : Int,(mn 1000000000000 t102) = j_:=⟨_,rfl⟩
 replace H : (some ji9) = some r:=by first | (rw [hji9] at H; exact H) | (simp only [hji9] at H ⊢; exact H)
 (try rw [hji9] at A8)
 (try (have hji9h : ji9 ≤ 1000000000000:=by (rw [← hji9]; unfold mn; (repeat' split) <;> omega)))
 (try (have hji9g : ji9 ≤ 64:=by omega))
 have hji9_ : (if t102 < 1000000000000 then t102 else 1000000000000) = ji9:=hji9;obtain rfl:=Option.some.inj H
 go_enter Try.func43,Try.ntmps43
 go_wp2_with (first | ((with_reducible refine gate_dst (N:=4) rfl ?_); refine box_event ?hg (N:=4) ?hd (cs:=#[.string a0_0,.int .i64 a0_1,.int .i64 a0_2,.int .i64 a0_3]) (t:=23) ?hr ?_; (case hd => rfl); (case hg => rfl); (case hr => first | (go_simp; done) | (go_simp; rfl)); intro gb101 hg w10 hbox hb; have n0_:=Aside0.mk (below_step (by repeat (first | (with_reducible first | exact HB.out | apply below_alloc | apply pw_below_drewN | apply below_drew1) | exact HB.out)) hb); have n1_:=Aside0.mk (hbox); have n2_:=Aside0.mk ((by rw [hg]; exact (below_size (by repeat (first | (with_reducible first | exact HB.out | apply below_alloc | apply pw_below_drewN | apply below_drew1) | exact HB.out))) : w.heap.size ≤ gb101)); have n3_:=Aside0.mk ((by rw [hg]; exact (below_size (by repeat (first | (with_reducible first | exact HB.out | apply below_alloc | apply pw_below_drewN | apply below_drew1) | exact HB.out))) : w.heap.size ≤ gb101)); clear HB; have HB:=n0_; have BK101:=n1_; have GW101:=n2_; have GE101:=n3_; clear n0_ n1_ n2_ n3_; clear hb hbox hg; have hcz11_0 : w10.cell? ⟨gb101,0,none⟩ = some (.string a0_0):=(blk_cell BK101.out 0).trans rfl; have hcz11_1 : w10.cell? ⟨gb101,1,none⟩ = some (.int .i64 a0_1):=(blk_cell BK101.out 1).trans rfl; have hcz11_2 : w10.cell? ⟨gb101,2,none⟩ = some (.int .i64 a0_2):=(blk_cell BK101.out 2).trans rfl; have hcz11_3 : w10.cell? ⟨gb101,3,none⟩ = some (.int .i64 a0_3):=(blk_cell BK101.out 3).trans rfl; have hfz11_0:=blk_frozen BK101.out 0; have hfz11_1:=blk_frozen BK101.out 1; have hfz11_2:=blk_frozen BK101.out 2; have hfz11_3:=blk_frozen BK101.out 3) | ((with_reducible refine gate_callee (f:=67) rfl ?_); refine goesL_ (some 33) rfl rfl Try.func67 (by kernel_rfl) rfl #[.int .i64 (wrap64 (a0_1 * ji7)),.int .i64 (wrap64 (a1 * a2)),.int .i64 4096] rfl (by (try simp only [List.map_toArray,List.map_cons,List.map_nil]); first | done | (simp only [hji7]; rfl) | rfl | (simp only [List.length_drop,List.length_take]; rfl)) ?_; (with_reducible refine (hinterlandref09_MulDiv.calls (wrap64 (a0_1 * ji7)) (wrap64 (a1 * a2)) 4096 t102 _ A8.out).mono ?_); rintro e w' ⟨rfl,⟨nd,rfl⟩⟩; refine ⟨_,rfl,?_⟩))
 go_ret
 exact ⟨by first | rfl | (simp [errW_none,errW_some] <;> rfl) | (simp only [← hji5,← hji6,← hji7,← hji9]; first | rfl | (simp [errW_none,errW_some] <;> rfl)) | (simp [*,errW_none,errW_some] <;> rfl),by repeat (first | (with_reducible first | exact HB.out | apply below_alloc | apply pw_below_drewN | apply below_drew1 | refine below_set ?_ GE101.out) | exact HB.out)⟩

end Go.Proofs.Ytmphplpfgjcpiaa.PCargo
