/- A part of the proof: OkL. It holds for whatever its statements name; no condition beyond theirs. -/
import Derived.Test.YtllbpnmhoblkgaaDoorAmD
import Derived.Test.YtllbpnmhoblkgaaDoorCodeL
import Derived.Test.YtllbpnmhoblkgaaDoorProg
namespace DC
open Go Am Go.Proofs
set_option maxRecDepth 100000
theorem k14 : FnOk Tryd.prog 14 A14 := ⟨Tryd.f14, Tryd.f14.body.getD .skip, Tryd.func14, by kernel_rfl, by kernel_rfl, ⟨by kernel_rfl, by kernel_rfl⟩, by unfold ResR; kernel_rfl⟩
theorem fnsL14_ok : ∀ f af, fnsL14 f = some af → FnOk Tryd.prog f af := by
  intro f af h
  unfold fnsL14 at h
  split at h
  · cases h; exact k14
  · cases h
end DC
