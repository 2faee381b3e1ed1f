/- A part of the proof: OkM. It holds for whatever its statements name; no condition beyond theirs. -/
import Derived.Test.YtllbpnmhoblkgaaDoorAmD
import Derived.Test.YtllbpnmhoblkgaaDoorCodeM
import Derived.Test.YtllbpnmhoblkgaaDoorProg
namespace DC
open Go Am Go.Proofs
set_option maxRecDepth 100000
theorem k58 : FnOk Tryd.prog 58 A58 := ⟨Tryd.f58, Tryd.f58.body.getD .skip, Tryd.func58, by kernel_rfl, by kernel_rfl, ⟨by kernel_rfl, by kernel_rfl⟩, by unfold ResR; kernel_rfl⟩
theorem k59 : FnOk Tryd.prog 59 A59 := ⟨Tryd.f59, Tryd.f59.body.getD .skip, Tryd.func59, by kernel_rfl, by kernel_rfl, ⟨by kernel_rfl, by kernel_rfl⟩, by unfold ResR; kernel_rfl⟩
theorem k60 : FnOk Tryd.prog 60 A60 := ⟨Tryd.f60, Tryd.f60.body.getD .skip, Tryd.func60, by kernel_rfl, by kernel_rfl, ⟨by kernel_rfl, by kernel_rfl⟩, by unfold ResR; kernel_rfl⟩
theorem k61 : FnOk Tryd.prog 61 A61 := ⟨Tryd.f61, Tryd.f61.body.getD .skip, Tryd.func61, by kernel_rfl, by kernel_rfl, ⟨by kernel_rfl, by kernel_rfl⟩, by unfold ResR; kernel_rfl⟩
theorem k62 : FnOk Tryd.prog 62 A62 := ⟨Tryd.f62, Tryd.f62.body.getD .skip, Tryd.func62, by kernel_rfl, by kernel_rfl, ⟨by kernel_rfl, by kernel_rfl⟩, by unfold ResR; kernel_rfl⟩
theorem k63 : FnOk Tryd.prog 63 A63 := ⟨Tryd.f63, Tryd.f63.body.getD .skip, Tryd.func63, by kernel_rfl, by kernel_rfl, ⟨by kernel_rfl, by kernel_rfl⟩, by unfold ResR; kernel_rfl⟩
theorem k102 : FnOk Tryd.prog 102 A102 := ⟨Tryd.f102, Tryd.f102.body.getD .skip, Tryd.func102, by kernel_rfl, by kernel_rfl, ⟨by kernel_rfl, by kernel_rfl⟩, by unfold ResR; kernel_rfl⟩
theorem k103 : FnOk Tryd.prog 103 A103 := ⟨Tryd.f103, Tryd.f103.body.getD .skip, Tryd.func103, by kernel_rfl, by kernel_rfl, ⟨by kernel_rfl, by kernel_rfl⟩, by unfold ResR; kernel_rfl⟩
theorem k104 : FnOk Tryd.prog 104 A104 := ⟨Tryd.f104, Tryd.f104.body.getD .skip, Tryd.func104, by kernel_rfl, by kernel_rfl, ⟨by kernel_rfl, by kernel_rfl⟩, by unfold ResR; kernel_rfl⟩
theorem k105 : FnOk Tryd.prog 105 A105 := ⟨Tryd.f105, Tryd.f105.body.getD .skip, Tryd.func105, by kernel_rfl, by kernel_rfl, ⟨by kernel_rfl, by kernel_rfl⟩, by unfold ResR; kernel_rfl⟩
theorem k106 : FnOk Tryd.prog 106 A106 := ⟨Tryd.f106, Tryd.f106.body.getD .skip, Tryd.func106, by kernel_rfl, by kernel_rfl, ⟨by kernel_rfl, by kernel_rfl⟩, by unfold ResR; kernel_rfl⟩
theorem k107 : FnOk Tryd.prog 107 A107 := ⟨Tryd.f107, Tryd.f107.body.getD .skip, Tryd.func107, by kernel_rfl, by kernel_rfl, ⟨by kernel_rfl, by kernel_rfl⟩, by unfold ResR; kernel_rfl⟩
theorem k110 : FnOk Tryd.prog 110 A110 := ⟨Tryd.f110, Tryd.f110.body.getD .skip, Tryd.func110, by kernel_rfl, by kernel_rfl, ⟨by kernel_rfl, by kernel_rfl⟩, by unfold ResR; kernel_rfl⟩
theorem k111 : FnOk Tryd.prog 111 A111 := ⟨Tryd.f111, Tryd.f111.body.getD .skip, Tryd.func111, by kernel_rfl, by kernel_rfl, ⟨by kernel_rfl, by kernel_rfl⟩, by unfold ResR; kernel_rfl⟩
theorem k112 : FnOk Tryd.prog 112 A112 := ⟨Tryd.f112, Tryd.f112.body.getD .skip, Tryd.func112, by kernel_rfl, by kernel_rfl, ⟨by kernel_rfl, by kernel_rfl⟩, by unfold ResR; kernel_rfl⟩
theorem k113 : FnOk Tryd.prog 113 A113 := ⟨Tryd.f113, Tryd.f113.body.getD .skip, Tryd.func113, by kernel_rfl, by kernel_rfl, ⟨by kernel_rfl, by kernel_rfl⟩, by unfold ResR; kernel_rfl⟩
theorem k130 : FnOk Tryd.prog 130 A130 := ⟨Tryd.f130, Tryd.f130.body.getD .skip, Tryd.func130, by kernel_rfl, by kernel_rfl, ⟨by kernel_rfl, by kernel_rfl⟩, by unfold ResR; kernel_rfl⟩
theorem k136 : FnOk Tryd.prog 136 A136 := ⟨Tryd.f136, Tryd.f136.body.getD .skip, Tryd.func136, by kernel_rfl, by kernel_rfl, ⟨by kernel_rfl, by kernel_rfl⟩, by unfold ResR; kernel_rfl⟩
theorem fnsM_ok : ∀ f af, fnsM f = some af → FnOk Tryd.prog f af := by
  intro f af h
  unfold fnsM at h
  split at h
  · cases h; exact k58
  · cases h; exact k59
  · cases h; exact k60
  · cases h; exact k61
  · cases h; exact k62
  · cases h; exact k63
  · cases h; exact k102
  · cases h; exact k103
  · cases h; exact k104
  · cases h; exact k105
  · cases h; exact k106
  · cases h; exact k107
  · cases h; exact k110
  · cases h; exact k111
  · cases h; exact k112
  · cases h; exact k113
  · cases h; exact k130
  · cases h; exact k136
  · cases h
end DC
