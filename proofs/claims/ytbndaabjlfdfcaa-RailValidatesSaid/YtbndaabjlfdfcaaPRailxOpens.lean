/- How this law's struct arguments are read (written by a program of this session's: mylaw.py). -/
import Derived.Test.YtbndaabjlfdfcaaOpens
import Derived.Test.YtbndaabjlfdfcaaPRailx0
namespace Go.Proofs.Ytbndaabjlfdfcaa.PRail
open Go.RowKit Go.Proofs.YtbndaabjlfdfcaaW.Opening Go.Proofs.YtbndaabjlfdfcaaW.PrintWords
def GS25 (x : S25) : Prop := (GPair (GInt .i64) (GPair (GInt .i64) (GPair (GSlice 8 (GInt .i64)) (GSlice 1 GBool)))) (x.f0, x.f1, x.f2, x.f3)
instance : Inhabited S25 := ⟨z25⟩
theorem opens25 {H : Type} {enc : TypeId × Value → H} {w : World} : Opens enc Try.prog w k25 25 GS25 :=
  Opens.iso (fun x : S25 => (x.f0, x.f1, x.f2, x.f3)) (fun p => ⟨p.1, p.2.1, p.2.2.1, p.2.2.2⟩) (fun _ => rfl) (Opens.struct Try.underlying25 (by kernel_rfl) (OpensF.cons rfl (by kernel_rfl) (Opens.int Try.underlying3) (OpensF.cons rfl (by kernel_rfl) (Opens.int Try.underlying3) (OpensF.cons rfl (by kernel_rfl) (Opens.slice (B := 8) Try.underlying22 (by kernel_rfl) (by kernel_rfl) (Opens.int Try.underlying3)) (OpensF.one rfl (by kernel_rfl) (Opens.slice (B := 1) Try.underlying23 (by kernel_rfl) (by kernel_rfl) (Opens.bool Try.underlying4)))))))
def GS31 (x : S31) : Prop := (GPair (GInt .i64) (GPair (GInt .i64) (GInt .i64))) (x.f0, x.f1, x.f2)
instance : Inhabited S31 := ⟨z31⟩
theorem opens31 {H : Type} {enc : TypeId × Value → H} {w : World} : Opens enc Try.prog w k31 31 GS31 :=
  Opens.iso (fun x : S31 => (x.f0, x.f1, x.f2)) (fun p => ⟨p.1, p.2.1, p.2.2⟩) (fun _ => rfl) (Opens.struct Try.underlying31 (by kernel_rfl) (OpensF.cons rfl (by kernel_rfl) (Opens.int Try.underlying3) (OpensF.cons rfl (by kernel_rfl) (Opens.int Try.underlying3) (OpensF.one rfl (by kernel_rfl) (Opens.int Try.underlying3)))))
end Go.Proofs.Ytbndaabjlfdfcaa.PRail
