/- A part of the proof: OkLB. It holds for whatever its statements name; no condition beyond theirs. -/
import Derived.Test.YtllbpnmhoblkgaaDoorAmD
import Derived.Test.YtllbpnmhoblkgaaDoorLawB
import Derived.Test.YtllbpnmhoblkgaaDoorProg
namespace DC
open Go Am Go.Proofs
set_option maxRecDepth 100000
theorem k6 : FnOk Tryd.prog 6 A6 := ⟨Tryd.f6, Tryd.f6.body.getD .skip, Tryd.func6, by kernel_rfl, by kernel_rfl, ⟨by kernel_rfl, by kernel_rfl⟩, by unfold ResR; kernel_rfl⟩
theorem fnsL6_ok : ∀ f af, fnsL6 f = some af → FnOk Tryd.prog f af := by
  intro f af h
  unfold fnsL6 at h
  split at h
  · cases h; exact k6
  · cases h
end DC
