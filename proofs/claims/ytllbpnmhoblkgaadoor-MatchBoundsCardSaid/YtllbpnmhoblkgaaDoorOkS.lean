/- A part of the proof: OkS. It holds for whatever its statements name; no condition beyond theirs. -/
import Derived.Test.YtllbpnmhoblkgaaDoorAmD
import Derived.Test.YtllbpnmhoblkgaaDoorCodeS
import Derived.Test.YtllbpnmhoblkgaaDoorProg
namespace DC
open Go Am Go.Proofs
set_option maxRecDepth 100000
theorem k73 : FnOk Tryd.prog 73 A73 := ⟨Tryd.f73, Tryd.f73.body.getD .skip, Tryd.func73, by kernel_rfl, by kernel_rfl, ⟨by kernel_rfl, by kernel_rfl⟩, by unfold ResR; kernel_rfl⟩
theorem k74 : FnOk Tryd.prog 74 A74 := ⟨Tryd.f74, Tryd.f74.body.getD .skip, Tryd.func74, by kernel_rfl, by kernel_rfl, ⟨by kernel_rfl, by kernel_rfl⟩, by unfold ResR; kernel_rfl⟩
theorem k75 : FnOk Tryd.prog 75 A75 := ⟨Tryd.f75, Tryd.f75.body.getD .skip, Tryd.func75, by kernel_rfl, by kernel_rfl, ⟨by kernel_rfl, by kernel_rfl⟩, by unfold ResR; kernel_rfl⟩
theorem k77 : FnOk Tryd.prog 77 A77 := ⟨Tryd.f77, Tryd.f77.body.getD .skip, Tryd.func77, by kernel_rfl, by kernel_rfl, ⟨by kernel_rfl, by kernel_rfl⟩, by unfold ResR; kernel_rfl⟩
theorem k78 : FnOk Tryd.prog 78 A78 := ⟨Tryd.f78, Tryd.f78.body.getD .skip, Tryd.func78, by kernel_rfl, by kernel_rfl, ⟨by kernel_rfl, by kernel_rfl⟩, by unfold ResR; kernel_rfl⟩
theorem k116 : FnOk Tryd.prog 116 A116 := ⟨Tryd.f116, Tryd.f116.body.getD .skip, Tryd.func116, by kernel_rfl, by kernel_rfl, ⟨by kernel_rfl, by kernel_rfl⟩, by unfold ResR; kernel_rfl⟩
theorem fnsS_ok : ∀ f af, fnsS f = some af → FnOk Tryd.prog f af := by
  intro f af h
  unfold fnsS at h
  split at h
  · cases h; exact k73
  · cases h; exact k74
  · cases h; exact k75
  · cases h; exact k77
  · cases h; exact k78
  · cases h; exact k116
  · cases h
end DC
