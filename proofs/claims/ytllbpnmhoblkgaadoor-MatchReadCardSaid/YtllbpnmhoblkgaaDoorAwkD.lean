/- A part of the proof: AwkD. It holds for whatever its statements name; no condition beyond theirs. -/
import Derived.Test.YtllbpnmhoblkgaaDoorAwkAmb
import Derived.Test.YtllbpnmhoblkgaaDoorSpM
import Derived.Shelf.Strings.SlTrimAscii
namespace AmMark
open Go Am Sp Go.Proofs Go.RowKit
theorem repeatL_one (c : UInt8) : ∀ n, Lib.repeatL [c] n = List.replicate n c
  | 0 => rfl
  | n + 1 => by rw [Lib.repeatL, repeatL_one c n]; rfl
theorem repeat_prim {P : Program} {f : FuncId} {B0 : Nat} {stab : World → Prop} (hf : ∃ fn, P.funcs[f]? = some fn ∧ fn.body.isSome = true ∧ (fn.name == "runtime.NumGoroutine") = false)
    (h : ∀ (s : ByteArray) (c : Nat) (w : World), c ≤ 9223372036854775807 → s.size * c ≤ 140737488355328 → Calls P f #[.string s, .int .i64 c] w fun e w' => e = .returned (.string ⟨(Lib.repeatL s.data.toList c).toArray⟩) ∧ Below w.heap.size w w') : PrimOk P B0 stab f pRepeat := by
  refine ⟨hf, fun μ args vals v w hg hv hs _ => ?_⟩
  unfold pRepeat at hg
  split at hg
  case h_2 => cases hg
  rename_i k
  split at hg
  case isFalse => cases hg
  rename_i hn
  cases hg
  cases hv with
  | cons _ v l r h1 h2 =>
  cases h2 with
  | cons _ v2 l r h3 h4 =>
  cases h4
  rw [vr_int h3, vr_str h1]
  have hk : k = (k.toNat : Int) := by omega
  have := h ⟨⟨[48]⟩⟩ k.toNat w (by omega) (by show 1 * k.toNat ≤ _; omega)
  rw [← hk] at this
  refine ⟨_, .str _, this.mono fun e w' ⟨he, hw⟩ => ⟨?_, hw⟩⟩
  rw [he, repeatL_one]
theorem upper_contains (c : UInt8) : upper.contains c = isUp c := by
  have : ∀ n : Fin 256, upper.contains (UInt8.ofNat n.val) = isUp (UInt8.ofNat n.val) := by decide +kernel
  have h := this ⟨c.toNat, c.toNat_lt⟩
  simpa using h
theorem trimLeft_prim {P : Program} {f : FuncId} {B0 : Nat} {stab : World → Prop} (hf : ∃ fn, P.funcs[f]? = some fn ∧ fn.body.isSome = true ∧ (fn.name == "runtime.NumGoroutine") = false)
    (h : ∀ (s cutset : ByteArray) (w : World), cutset.size < 4294967281 → (∀ (j : Nat) b, cutset.data.toList[j]? = some b → b.toNat < 128) → Calls P f #[.string s, .string cutset] w fun e w' => e = .returned (.string ⟨(Lib.trimLeftS s.data.toList cutset.data.toList).toArray⟩) ∧ Below w.heap.size w w') : PrimOk P B0 stab f pTrimLeft := by
  refine ⟨hf, fun μ args vals v w hg hv hs _ => ?_⟩
  unfold pTrimLeft at hg
  split at hg
  case h_2 => cases hg
  rename_i s c
  split at hg
  case isFalse => cases hg
  rename_i hn
  subst hn
  cases hg
  cases hv with
  | cons _ v l r h1 h2 =>
  cases h2 with
  | cons _ v2 l r h3 h4 =>
  cases h4
  rw [vr_str h3, vr_str h1]
  have key : Lib.trimLeftS s upper = s.dropWhile isUp := by
    unfold Lib.trimLeftS
    rw [show (fun c => upper.contains c) = isUp from funext upper_contains]
  rw [← key]
  exact ⟨_, .str _, (h ⟨⟨s⟩⟩ ⟨⟨upper⟩⟩ w (by decide) (ascii_of_all (by decide))).mono fun e w' ⟨he, hw⟩ => ⟨he, hw⟩⟩
def prims : FuncId → Option (List AV → Option AV)
  | 17 => some pAwake
  | 127 => some pItoa
  | 128 => some pRepeat
  | 108 => some pTrimLeft
  | 109 => some pContains
  | 129 => some pIndexRune
  | _ => none
theorem primAll : ∀ f g, prims f = some g → PrimOk Tryd.prog (3 + 1) (Tab10 Tryd.prog) f g := by
  intro f g h
  unfold prims at h
  split at h
  · cases h; exact AmAwake.awake_prim
  · cases h; exact itoa_prim ⟨_, Tryd.func127, by kernel_rfl, by kernel_rfl⟩ Tryd.strconv_Itoa
  · cases h; exact repeat_prim ⟨_, Tryd.func128, by kernel_rfl, by kernel_rfl⟩ Tryd.strings_Repeat
  · cases h; exact trimLeft_prim ⟨_, Tryd.func108, by kernel_rfl, by kernel_rfl⟩ (Any.strings_TrimLeft_laid Tryd.lays161 (by kernel_rfl))
  · cases h; exact contains_prim ⟨_, Tryd.func109, by kernel_rfl, by kernel_rfl⟩ Tryd.strings_Contains_one
  · cases h; exact indexRune_prim ⟨_, Tryd.func129, by kernel_rfl, by kernel_rfl⟩ Tryd.strings_IndexRune_ascii
  · cases h
end AmMark
