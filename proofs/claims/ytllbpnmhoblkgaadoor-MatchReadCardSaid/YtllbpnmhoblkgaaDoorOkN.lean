/- A part of the proof: OkN. It holds for whatever its statements name; no condition beyond theirs. -/
import Derived.Test.YtllbpnmhoblkgaaDoorAmD
import Derived.Test.YtllbpnmhoblkgaaDoorCodeL
import Derived.Test.YtllbpnmhoblkgaaDoorProg
namespace DC
open Go Am Go.Proofs
set_option maxRecDepth 100000
theorem k15 : FnOk Tryd.prog 15 A15 := ⟨Tryd.f15, Tryd.f15.body.getD .skip, Tryd.func15, by kernel_rfl, by kernel_rfl, ⟨by kernel_rfl, by kernel_rfl⟩, by unfold ResR; kernel_rfl⟩
theorem fnsL15_ok : ∀ f af, fnsL15 f = some af → FnOk Tryd.prog f af := by
  intro f af h
  unfold fnsL15 at h
  split at h
  · cases h; exact k15
  · cases h
end DC
