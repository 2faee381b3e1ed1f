/- A part of the proof: OkA. It holds for whatever its statements name; no condition beyond theirs. -/
import Derived.Test.YtllbpnmhoblkgaaDoorAmD
import Derived.Test.YtllbpnmhoblkgaaDoorCodeA
import Derived.Test.YtllbpnmhoblkgaaDoorProg
namespace DC
open Go Am Go.Proofs
set_option maxRecDepth 100000
theorem k16 : FnOk Tryd.prog 16 A16 := ⟨Tryd.f16, Tryd.f16.body.getD .skip, Tryd.func16, by kernel_rfl, by kernel_rfl, ⟨by kernel_rfl, by kernel_rfl⟩, by unfold ResR; kernel_rfl⟩
theorem k18 : FnOk Tryd.prog 18 A18 := ⟨Tryd.f18, Tryd.f18.body.getD .skip, Tryd.func18, by kernel_rfl, by kernel_rfl, ⟨by kernel_rfl, by kernel_rfl⟩, by unfold ResR; kernel_rfl⟩
theorem k19 : FnOk Tryd.prog 19 A19 := ⟨Tryd.f19, Tryd.f19.body.getD .skip, Tryd.func19, by kernel_rfl, by kernel_rfl, ⟨by kernel_rfl, by kernel_rfl⟩, by unfold ResR; kernel_rfl⟩
theorem k20 : FnOk Tryd.prog 20 A20 := ⟨Tryd.f20, Tryd.f20.body.getD .skip, Tryd.func20, by kernel_rfl, by kernel_rfl, ⟨by kernel_rfl, by kernel_rfl⟩, by unfold ResR; kernel_rfl⟩
theorem k21 : FnOk Tryd.prog 21 A21 := ⟨Tryd.f21, Tryd.f21.body.getD .skip, Tryd.func21, by kernel_rfl, by kernel_rfl, ⟨by kernel_rfl, by kernel_rfl⟩, by unfold ResR; kernel_rfl⟩
theorem k22 : FnOk Tryd.prog 22 A22 := ⟨Tryd.f22, Tryd.f22.body.getD .skip, Tryd.func22, by kernel_rfl, by kernel_rfl, ⟨by kernel_rfl, by kernel_rfl⟩, by unfold ResR; kernel_rfl⟩
theorem k23 : FnOk Tryd.prog 23 A23 := ⟨Tryd.f23, Tryd.f23.body.getD .skip, Tryd.func23, by kernel_rfl, by kernel_rfl, ⟨by kernel_rfl, by kernel_rfl⟩, by unfold ResR; kernel_rfl⟩
theorem k34 : FnOk Tryd.prog 34 A34 := ⟨Tryd.f34, Tryd.f34.body.getD .skip, Tryd.func34, by kernel_rfl, by kernel_rfl, ⟨by kernel_rfl, by kernel_rfl⟩, by unfold ResR; kernel_rfl⟩
theorem k41 : FnOk Tryd.prog 41 A41 := ⟨Tryd.f41, Tryd.f41.body.getD .skip, Tryd.func41, by kernel_rfl, by kernel_rfl, ⟨by kernel_rfl, by kernel_rfl⟩, by unfold ResR; kernel_rfl⟩
theorem k57 : FnOk Tryd.prog 57 A57 := ⟨Tryd.f57, Tryd.f57.body.getD .skip, Tryd.func57, by kernel_rfl, by kernel_rfl, ⟨by kernel_rfl, by kernel_rfl⟩, by unfold ResR; kernel_rfl⟩
theorem k65 : FnOk Tryd.prog 65 A65 := ⟨Tryd.f65, Tryd.f65.body.getD .skip, Tryd.func65, by kernel_rfl, by kernel_rfl, ⟨by kernel_rfl, by kernel_rfl⟩, by unfold ResR; kernel_rfl⟩
theorem k66 : FnOk Tryd.prog 66 A66 := ⟨Tryd.f66, Tryd.f66.body.getD .skip, Tryd.func66, by kernel_rfl, by kernel_rfl, ⟨by kernel_rfl, by kernel_rfl⟩, by unfold ResR; kernel_rfl⟩
theorem k67 : FnOk Tryd.prog 67 A67 := ⟨Tryd.f67, Tryd.f67.body.getD .skip, Tryd.func67, by kernel_rfl, by kernel_rfl, ⟨by kernel_rfl, by kernel_rfl⟩, by unfold ResR; kernel_rfl⟩
theorem k68 : FnOk Tryd.prog 68 A68 := ⟨Tryd.f68, Tryd.f68.body.getD .skip, Tryd.func68, by kernel_rfl, by kernel_rfl, ⟨by kernel_rfl, by kernel_rfl⟩, by unfold ResR; kernel_rfl⟩
theorem k69 : FnOk Tryd.prog 69 A69 := ⟨Tryd.f69, Tryd.f69.body.getD .skip, Tryd.func69, by kernel_rfl, by kernel_rfl, ⟨by kernel_rfl, by kernel_rfl⟩, by unfold ResR; kernel_rfl⟩
theorem k70 : FnOk Tryd.prog 70 A70 := ⟨Tryd.f70, Tryd.f70.body.getD .skip, Tryd.func70, by kernel_rfl, by kernel_rfl, ⟨by kernel_rfl, by kernel_rfl⟩, by unfold ResR; kernel_rfl⟩
theorem k71 : FnOk Tryd.prog 71 A71 := ⟨Tryd.f71, Tryd.f71.body.getD .skip, Tryd.func71, by kernel_rfl, by kernel_rfl, ⟨by kernel_rfl, by kernel_rfl⟩, by unfold ResR; kernel_rfl⟩
theorem k72 : FnOk Tryd.prog 72 A72 := ⟨Tryd.f72, Tryd.f72.body.getD .skip, Tryd.func72, by kernel_rfl, by kernel_rfl, ⟨by kernel_rfl, by kernel_rfl⟩, by unfold ResR; kernel_rfl⟩
theorem k114 : FnOk Tryd.prog 114 A114 := ⟨Tryd.f114, Tryd.f114.body.getD .skip, Tryd.func114, by kernel_rfl, by kernel_rfl, ⟨by kernel_rfl, by kernel_rfl⟩, by unfold ResR; kernel_rfl⟩
theorem fns1_ok : ∀ f af, fns1 f = some af → FnOk Tryd.prog f af := by
  intro f af h
  unfold fns1 at h
  split at h
  · cases h; exact k16
  · cases h; exact k18
  · cases h; exact k19
  · cases h; exact k20
  · cases h; exact k21
  · cases h; exact k22
  · cases h; exact k23
  · cases h; exact k34
  · cases h; exact k41
  · cases h; exact k57
  · cases h; exact k65
  · cases h; exact k66
  · cases h; exact k67
  · cases h; exact k68
  · cases h; exact k69
  · cases h; exact k70
  · cases h; exact k71
  · cases h; exact k72
  · cases h; exact k114
  · cases h
end DC
