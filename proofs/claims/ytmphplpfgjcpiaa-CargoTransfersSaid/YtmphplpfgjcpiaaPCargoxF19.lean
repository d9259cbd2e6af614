/- Lean functions with the answers of the Go functions that a law uses,and for each that the Go code comes to just that; written by a program of this session's. -/
import Derived.Test.YtmphplpfgjcpiaaPCargox0
import Derived.Test.YtmphplpfgjcpiaaPCargoxF18
namespace Go.Proofs.Ytmphplpfgjcpiaa.PCargo
open Go.RowKit Go.Proofs.YtmphplpfgjcpiaaW.PrintWords Go.Proofs.YtmphplpfgjcpiaaW.PrintLast Go.Proofs.YtmphplpfgjcpiaaW.PrintMore
attribute [local go_sem] max2_int min2_int max_two min_two max_three min_three max_four min_four   -- for this text's walks alone
set_option linter.unusedVariables false
set_option linter.unusedSimpArgs false

/-! ### hinterlandlaw09_known: function 19 -/
def hinterlandlaw09_known.f (k : Nat)  : Option (Bool):=(cargo_Pay.f k (⟨#[97]⟩ : ByteArray) 16 10 5 10 8 12).bind fun bt101 => (if bt101.1 = 79 then (some (bt101.2 == 0)) else (some false))
theorem hinterlandlaw09_known.mono : ∀ k,LeO (hinterlandlaw09_known.f k ) (hinterlandlaw09_known.f (k + 1) ):=by
 intro  k
 unfold hinterlandlaw09_known.f
 repeat' first
   | (with_reducible exact cargo_Pay.mono _ _ _ _ _ _ _ _)
   | (with_reducible exact LeO.refl _)
   | (with_reducible exact LeO.none _)
   | (with_reducible refine LeO.ite ?_ ?_)
   | (with_reducible refine LeO.bind ?_ (fun _ => ?_))
   | exact cargo_Pay.mono _ _ _ _ _ _ _ _
   | exact LeO.none _
   | refine LeO.ite ?_ ?_
   | refine LeO.bind ?_ (fun _ => ?_)
set_option maxHeartbeats 8000000 in
set_option maxRecDepth 100000 in
theorem hinterlandlaw09_known.calls (k : Nat)  (r : Bool) (w : World) (h : hinterlandlaw09_known.f k  = some r) :
  Calls Try.prog 19 #[] w fun e w' => e = .returned (.bool r) ∧ Below w.heap.size w w':=by
 have hu23:=Try.underlying23;have HB:=Aside0.mk (Below.refl w.heap.size w);have H : ((cargo_Pay.f k (⟨#[97]⟩ : ByteArray) 16 10 5 10 8 12).bind fun bt101 => (if bt101.1 = 79 then (some (bt101.2 == 0)) else (some false))) = some r:=h;clear h;replace H:=Option.bind_eq_some_iff.mp H;obtain ⟨⟨t101,t102⟩,A10,H⟩:=H;replace H : (if t101 = 79 then (some (t102 == 0)) else (some false)) = some r:=H;have A1:=Aside0.mk A10;clear A10
 by_cases c2 : t101 = 79
 ·rw [if_pos c2] at H
  have c2b0 : (t101 == 79) = true:=beq_iff_eq.mpr c2;have c2b1 : (t101 != 79) = false:=bne_eq_false_iff_eq.mpr c2;clear c2;obtain rfl:=Option.some.inj H
  go_enter Try.func19,Try.ntmps19
  go_wp2_with (first | ((with_reducible refine gate_callee (f:=18) rfl ?_); refine goesL_ (some 5) rfl rfl Try.func18 (by kernel_rfl) rfl #[.agg #[.string (⟨#[97]⟩ : ByteArray),.int .i64 16,.int .i64 10,.int .i64 5],.int .i64 10,.int .i64 8,.int .i64 12] rfl (by (try simp only [List.map_toArray,List.map_cons,List.map_nil]); first | done | rfl | (simp only [List.length_drop,List.length_take]; rfl)) ?_; (with_reducible refine (cargo_Pay.calls k (⟨#[97]⟩ : ByteArray) 16 10 5 10 8 12 t101 t102 _ A1.out).mono ?_); rintro e w3 ⟨rfl,hb⟩; refine ⟨_,rfl,?_⟩; have n0_:=Aside0.mk (below_step (by repeat (first | (with_reducible first | exact HB.out | apply below_alloc | apply pw_below_drewN | apply below_drew1) | exact HB.out)) hb); clear HB; have HB:=n0_; clear n0_; (try clear hb); (try clear hb2); (try clear hk); (try clear hi)))
  go_ret
  exact ⟨by first | rfl | (simp [errW_none,errW_some] <;> rfl) | (simp [*,errW_none,errW_some] <;> rfl),by repeat (first | (with_reducible first | exact HB.out | apply below_alloc | apply pw_below_drewN | apply below_drew1) | exact HB.out)⟩
 ·rw [if_neg c2] at H
  have c2b0 : (t101 == 79) = false:=beq_eq_false_iff_ne.mpr c2;have c2b1 : (t101 != 79) = true:=bne_iff_ne.mpr c2;obtain rfl:=Option.some.inj H
  go_enter Try.func19,Try.ntmps19
  go_wp2_with (first | ((with_reducible refine gate_callee (f:=18) rfl ?_); refine goesL_ (some 5) rfl rfl Try.func18 (by kernel_rfl) rfl #[.agg #[.string (⟨#[97]⟩ : ByteArray),.int .i64 16,.int .i64 10,.int .i64 5],.int .i64 10,.int .i64 8,.int .i64 12] rfl (by (try simp only [List.map_toArray,List.map_cons,List.map_nil]); first | done | rfl | (simp only [List.length_drop,List.length_take]; rfl)) ?_; (with_reducible refine (cargo_Pay.calls k (⟨#[97]⟩ : ByteArray) 16 10 5 10 8 12 t101 t102 _ A1.out).mono ?_); rintro e w4 ⟨rfl,hb⟩; refine ⟨_,rfl,?_⟩; have n0_:=Aside0.mk (below_step (by repeat (first | (with_reducible first | exact HB.out | apply below_alloc | apply pw_below_drewN | apply below_drew1) | exact HB.out)) hb); clear HB; have HB:=n0_; clear n0_; (try clear hb); (try clear hb2); (try clear hk); (try clear hi)))
  go_ret
  exact ⟨by first | rfl | (simp [errW_none,errW_some] <;> rfl) | (simp [*,errW_none,errW_some] <;> rfl),by repeat (first | (with_reducible first | exact HB.out | apply below_alloc | apply pw_below_drewN | apply below_drew1) | exact HB.out)⟩

end Go.Proofs.Ytmphplpfgjcpiaa.PCargo
