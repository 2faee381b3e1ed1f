/- A part of the proof: AwkAmb. It holds for whatever its statements name; no condition beyond theirs. -/
import Derived.Test.YtllbpnmhoblkgaaDoorAmD
import Derived.Test.YtllbpnmhoblkgaaDoorAwkRun
import Derived.Test.YtllbpnmhoblkgaaDoorShelf
namespace AmAwake
open Go Am Go.Proofs
set_option maxRecDepth 100000
theorem k17 : FnOk Tryd.prog 17 A17 := ⟨Tryd.f17, Tryd.f17.body.getD .skip, Tryd.func17, by kernel_rfl, by kernel_rfl, ⟨by kernel_rfl, by kernel_rfl⟩, by unfold ResR; kernel_rfl⟩
theorem k20 : FnOk Tryd.prog 20 A20 := ⟨Tryd.f20, Tryd.f20.body.getD .skip, Tryd.func20, by kernel_rfl, by kernel_rfl, ⟨by kernel_rfl, by kernel_rfl⟩, by unfold ResR; kernel_rfl⟩
theorem k24 : FnOk Tryd.prog 24 A24 := ⟨Tryd.f24, Tryd.f24.body.getD .skip, Tryd.func24, by kernel_rfl, by kernel_rfl, ⟨by kernel_rfl, by kernel_rfl⟩, by unfold ResR; kernel_rfl⟩
theorem k33 : FnOk Tryd.prog 33 A33 := ⟨Tryd.f33, Tryd.f33.body.getD .skip, Tryd.func33, by kernel_rfl, by kernel_rfl, ⟨by kernel_rfl, by kernel_rfl⟩, by unfold ResR; kernel_rfl⟩
theorem k56 : FnOk Tryd.prog 56 A56 := ⟨Tryd.f56, Tryd.f56.body.getD .skip, Tryd.func56, by kernel_rfl, by kernel_rfl, ⟨by kernel_rfl, by kernel_rfl⟩, by unfold ResR; kernel_rfl⟩
theorem k59 : FnOk Tryd.prog 59 A59 := ⟨Tryd.f59, Tryd.f59.body.getD .skip, Tryd.func59, by kernel_rfl, by kernel_rfl, ⟨by kernel_rfl, by kernel_rfl⟩, by unfold ResR; kernel_rfl⟩
theorem k64 : FnOk Tryd.prog 64 A64 := ⟨Tryd.f64, Tryd.f64.body.getD .skip, Tryd.func64, by kernel_rfl, by kernel_rfl, ⟨by kernel_rfl, by kernel_rfl⟩, by unfold ResR; kernel_rfl⟩
theorem k66 : FnOk Tryd.prog 66 A66 := ⟨Tryd.f66, Tryd.f66.body.getD .skip, Tryd.func66, by kernel_rfl, by kernel_rfl, ⟨by kernel_rfl, by kernel_rfl⟩, by unfold ResR; kernel_rfl⟩
theorem k67 : FnOk Tryd.prog 67 A67 := ⟨Tryd.f67, Tryd.f67.body.getD .skip, Tryd.func67, by kernel_rfl, by kernel_rfl, ⟨by kernel_rfl, by kernel_rfl⟩, by unfold ResR; kernel_rfl⟩
theorem k68 : FnOk Tryd.prog 68 A68 := ⟨Tryd.f68, Tryd.f68.body.getD .skip, Tryd.func68, by kernel_rfl, by kernel_rfl, ⟨by kernel_rfl, by kernel_rfl⟩, by unfold ResR; kernel_rfl⟩
theorem k71 : FnOk Tryd.prog 71 A71 := ⟨Tryd.f71, Tryd.f71.body.getD .skip, Tryd.func71, by kernel_rfl, by kernel_rfl, ⟨by kernel_rfl, by kernel_rfl⟩, by unfold ResR; kernel_rfl⟩
theorem k73 : FnOk Tryd.prog 73 A73 := ⟨Tryd.f73, Tryd.f73.body.getD .skip, Tryd.func73, by kernel_rfl, by kernel_rfl, ⟨by kernel_rfl, by kernel_rfl⟩, by unfold ResR; kernel_rfl⟩
theorem k74 : FnOk Tryd.prog 74 A74 := ⟨Tryd.f74, Tryd.f74.body.getD .skip, Tryd.func74, by kernel_rfl, by kernel_rfl, ⟨by kernel_rfl, by kernel_rfl⟩, by unfold ResR; kernel_rfl⟩
theorem k75 : FnOk Tryd.prog 75 A75 := ⟨Tryd.f75, Tryd.f75.body.getD .skip, Tryd.func75, by kernel_rfl, by kernel_rfl, ⟨by kernel_rfl, by kernel_rfl⟩, by unfold ResR; kernel_rfl⟩
theorem k76 : FnOk Tryd.prog 76 A76 := ⟨Tryd.f76, Tryd.f76.body.getD .skip, Tryd.func76, by kernel_rfl, by kernel_rfl, ⟨by kernel_rfl, by kernel_rfl⟩, by unfold ResR; kernel_rfl⟩
theorem k77 : FnOk Tryd.prog 77 A77 := ⟨Tryd.f77, Tryd.f77.body.getD .skip, Tryd.func77, by kernel_rfl, by kernel_rfl, ⟨by kernel_rfl, by kernel_rfl⟩, by unfold ResR; kernel_rfl⟩
theorem k78 : FnOk Tryd.prog 78 A78 := ⟨Tryd.f78, Tryd.f78.body.getD .skip, Tryd.func78, by kernel_rfl, by kernel_rfl, ⟨by kernel_rfl, by kernel_rfl⟩, by unfold ResR; kernel_rfl⟩
theorem k102 : FnOk Tryd.prog 102 A102 := ⟨Tryd.f102, Tryd.f102.body.getD .skip, Tryd.func102, by kernel_rfl, by kernel_rfl, ⟨by kernel_rfl, by kernel_rfl⟩, by unfold ResR; kernel_rfl⟩
theorem k103 : FnOk Tryd.prog 103 A103 := ⟨Tryd.f103, Tryd.f103.body.getD .skip, Tryd.func103, by kernel_rfl, by kernel_rfl, ⟨by kernel_rfl, by kernel_rfl⟩, by unfold ResR; kernel_rfl⟩
theorem k104 : FnOk Tryd.prog 104 A104 := ⟨Tryd.f104, Tryd.f104.body.getD .skip, Tryd.func104, by kernel_rfl, by kernel_rfl, ⟨by kernel_rfl, by kernel_rfl⟩, by unfold ResR; kernel_rfl⟩
theorem k114 : FnOk Tryd.prog 114 A114 := ⟨Tryd.f114, Tryd.f114.body.getD .skip, Tryd.func114, by kernel_rfl, by kernel_rfl, ⟨by kernel_rfl, by kernel_rfl⟩, by unfold ResR; kernel_rfl⟩
theorem k115 : FnOk Tryd.prog 115 A115 := ⟨Tryd.f115, Tryd.f115.body.getD .skip, Tryd.func115, by kernel_rfl, by kernel_rfl, ⟨by kernel_rfl, by kernel_rfl⟩, by unfold ResR; kernel_rfl⟩
theorem k116 : FnOk Tryd.prog 116 A116 := ⟨Tryd.f116, Tryd.f116.body.getD .skip, Tryd.func116, by kernel_rfl, by kernel_rfl, ⟨by kernel_rfl, by kernel_rfl⟩, by unfold ResR; kernel_rfl⟩
theorem k128 : FnOk Tryd.prog 128 A128 := ⟨Tryd.f128, Tryd.f128.body.getD .skip, Tryd.func128, by kernel_rfl, by kernel_rfl, ⟨by kernel_rfl, by kernel_rfl⟩, by unfold ResR; kernel_rfl⟩
theorem k137 : FnOk Tryd.prog 137 A137 := ⟨Tryd.f137, Tryd.f137.body.getD .skip, Tryd.func137, by kernel_rfl, by kernel_rfl, ⟨by kernel_rfl, by kernel_rfl⟩, by unfold ResR; kernel_rfl⟩
theorem k142 : FnOk Tryd.prog 142 A142 := ⟨Tryd.f142, Tryd.f142.body.getD .skip, Tryd.func142, by kernel_rfl, by kernel_rfl, ⟨by kernel_rfl, by kernel_rfl⟩, by unfold ResR; kernel_rfl⟩
theorem k143 : FnOk Tryd.prog 143 A143 := ⟨Tryd.f143, Tryd.f143.body.getD .skip, Tryd.func143, by kernel_rfl, by kernel_rfl, ⟨by kernel_rfl, by kernel_rfl⟩, by unfold ResR; kernel_rfl⟩
theorem k144 : FnOk Tryd.prog 144 A144 := ⟨Tryd.f144, Tryd.f144.body.getD .skip, Tryd.func144, by kernel_rfl, by kernel_rfl, ⟨by kernel_rfl, by kernel_rfl⟩, by unfold ResR; kernel_rfl⟩
theorem k145 : FnOk Tryd.prog 145 A145 := ⟨Tryd.f145, Tryd.f145.body.getD .skip, Tryd.func145, by kernel_rfl, by kernel_rfl, ⟨by kernel_rfl, by kernel_rfl⟩, by unfold ResR; kernel_rfl⟩
theorem k146 : FnOk Tryd.prog 146 A146 := ⟨Tryd.f146, Tryd.f146.body.getD .skip, Tryd.func146, by kernel_rfl, by kernel_rfl, ⟨by kernel_rfl, by kernel_rfl⟩, by unfold ResR; kernel_rfl⟩
theorem k147 : FnOk Tryd.prog 147 A147 := ⟨Tryd.f147, Tryd.f147.body.getD .skip, Tryd.func147, by kernel_rfl, by kernel_rfl, ⟨by kernel_rfl, by kernel_rfl⟩, by unfold ResR; kernel_rfl⟩
theorem k156 : FnOk Tryd.prog 156 A156 := ⟨Tryd.f156, Tryd.f156.body.getD .skip, Tryd.func156, by kernel_rfl, by kernel_rfl, ⟨by kernel_rfl, by kernel_rfl⟩, by unfold ResR; kernel_rfl⟩
theorem k157 : FnOk Tryd.prog 157 A157 := ⟨Tryd.f157, Tryd.f157.body.getD .skip, Tryd.func157, by kernel_rfl, by kernel_rfl, ⟨by kernel_rfl, by kernel_rfl⟩, by unfold ResR; kernel_rfl⟩
theorem k158 : FnOk Tryd.prog 158 A158 := ⟨Tryd.f158, Tryd.f158.body.getD .skip, Tryd.func158, by kernel_rfl, by kernel_rfl, ⟨by kernel_rfl, by kernel_rfl⟩, by unfold ResR; kernel_rfl⟩
theorem k163 : FnOk Tryd.prog 163 A163 := ⟨Tryd.f163, Tryd.f163.body.getD .skip, Tryd.func163, by kernel_rfl, by kernel_rfl, ⟨by kernel_rfl, by kernel_rfl⟩, by unfold ResR; kernel_rfl⟩
theorem k164 : FnOk Tryd.prog 164 A164 := ⟨Tryd.f164, Tryd.f164.body.getD .skip, Tryd.func164, by kernel_rfl, by kernel_rfl, ⟨by kernel_rfl, by kernel_rfl⟩, by unfold ResR; kernel_rfl⟩
theorem k165 : FnOk Tryd.prog 165 A165 := ⟨Tryd.f165, Tryd.f165.body.getD .skip, Tryd.func165, by kernel_rfl, by kernel_rfl, ⟨by kernel_rfl, by kernel_rfl⟩, by unfold ResR; kernel_rfl⟩
theorem k166 : FnOk Tryd.prog 166 A166 := ⟨Tryd.f166, Tryd.f166.body.getD .skip, Tryd.func166, by kernel_rfl, by kernel_rfl, ⟨by kernel_rfl, by kernel_rfl⟩, by unfold ResR; kernel_rfl⟩
theorem k167 : FnOk Tryd.prog 167 A167 := ⟨Tryd.f167, Tryd.f167.body.getD .skip, Tryd.func167, by kernel_rfl, by kernel_rfl, ⟨by kernel_rfl, by kernel_rfl⟩, by unfold ResR; kernel_rfl⟩
theorem k171 : FnOk Tryd.prog 171 A171 := ⟨Tryd.f171, Tryd.f171.body.getD .skip, Tryd.func171, by kernel_rfl, by kernel_rfl, ⟨by kernel_rfl, by kernel_rfl⟩, by unfold ResR; kernel_rfl⟩
theorem k172 : FnOk Tryd.prog 172 A172 := ⟨Tryd.f172, Tryd.f172.body.getD .skip, Tryd.func172, by kernel_rfl, by kernel_rfl, ⟨by kernel_rfl, by kernel_rfl⟩, by unfold ResR; kernel_rfl⟩
theorem fnAll : ∀ f af, fns f = some af → FnOk Tryd.prog f af := by
  intro f af h
  unfold fns at h
  split at h
  · cases h; exact k17
  · cases h; exact k20
  · cases h; exact k24
  · cases h; exact k33
  · cases h; exact k56
  · cases h; exact k59
  · cases h; exact k64
  · cases h; exact k66
  · cases h; exact k67
  · cases h; exact k68
  · cases h; exact k71
  · cases h; exact k73
  · cases h; exact k74
  · cases h; exact k75
  · cases h; exact k76
  · cases h; exact k77
  · cases h; exact k78
  · cases h; exact k102
  · cases h; exact k103
  · cases h; exact k104
  · cases h; exact k114
  · cases h; exact k115
  · cases h; exact k116
  · cases h; exact k128
  · cases h; exact k137
  · cases h; exact k142
  · cases h; exact k143
  · cases h; exact k144
  · cases h; exact k145
  · cases h; exact k146
  · cases h; exact k147
  · cases h; exact k156
  · cases h; exact k157
  · cases h; exact k158
  · cases h; exact k163
  · cases h; exact k164
  · cases h; exact k165
  · cases h; exact k166
  · cases h; exact k167
  · cases h; exact k171
  · cases h; exact k172
  · cases h
theorem gTab : Tryd.prog.globalNamed "internal/strconv.uint64pow10" = some 3 := by kernel_rfl
theorem primAll : ∀ f g, prims f = some g → PrimOk Tryd.prog (3 + 1) (Tab10 Tryd.prog) f g := by
  intro f g h
  unfold prims at h
  split at h
  · cases h; exact itoa_prim ⟨_, Tryd.func127, by kernel_rfl, by kernel_rfl⟩ Tryd.strconv_Itoa
  · cases h; exact indexRune_prim ⟨_, Tryd.func129, by kernel_rfl, by kernel_rfl⟩ Tryd.strings_IndexRune_ascii
  · cases h; exact contains_prim ⟨_, Tryd.func109, by kernel_rfl, by kernel_rfl⟩ Tryd.strings_Contains_one
  · cases h
def amb : Amb Tryd.prog T := ambOf (3 + 1) (Tab10 Tryd.prog) (tab10_keep gTab) fnAll primAll
theorem run_true : ∃ H', run T 100000 (.call (.fn 17 []) []) { next := 0, t := .nil } = some (.val (.bool true), H') := by
  have := ok_true
  unfold ok at this
  split at this
  · rename_i b H' h
    rw [runS_eq] at h
    exact ⟨H', by rw [h, this]⟩
  · cases this
/-- awake() returns true. -/
theorem awake_prim : PrimOk Tryd.prog (3 + 1) (Tab10 Tryd.prog) 17 pAwake := by
  refine ⟨⟨_, Tryd.func17, by kernel_rfl, by kernel_rfl⟩, fun μ args vals v w hg hv hs hB => ?_⟩
  cases hv with
  | cons => cases hg
  | nil =>
  cases hg
  obtain ⟨H', hr⟩ := run_true
  refine ⟨.bool true, .bool true, (calls_closed amb hr rfl hs hB).mono fun e w' ⟨hb, v', μ', he, hv⟩ => ?_⟩
  obtain rfl := vr_bool hv
  exact ⟨he, hb⟩
end AmAwake
