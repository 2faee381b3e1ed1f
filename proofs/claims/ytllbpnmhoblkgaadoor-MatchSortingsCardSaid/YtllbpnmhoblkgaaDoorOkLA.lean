/- A part of the proof: OkLA. It holds for whatever its statements name; no condition beyond theirs. -/
import Derived.Test.YtllbpnmhoblkgaaDoorAmD
import Derived.Test.YtllbpnmhoblkgaaDoorLawA
import Derived.Test.YtllbpnmhoblkgaaDoorProg
namespace DC
open Go Am Go.Proofs
set_option maxRecDepth 100000
theorem k3 : FnOk Tryd.prog 3 A3 := ⟨Tryd.f3, Tryd.f3.body.getD .skip, Tryd.func3, by kernel_rfl, by kernel_rfl, ⟨by kernel_rfl, by kernel_rfl⟩, by unfold ResR; kernel_rfl⟩
theorem fnsL3_ok : ∀ f af, fnsL3 f = some af → FnOk Tryd.prog f af := by
  intro f af h
  unfold fnsL3 at h
  split at h
  · cases h; exact k3
  · cases h
end DC
