/- A part of the proof: Reads. It holds for whatever its statements name; no condition beyond theirs. -/
import Derived.Test.YtllbpnmhoblkgaaDoorBaseB
import Derived.Test.YtllbpnmhoblkgaaDoorOkA
import Derived.Test.YtllbpnmhoblkgaaDoorOkM
import Derived.Test.YtllbpnmhoblkgaaDoorOkN
import Derived.Test.YtllbpnmhoblkgaaDoorWalkQ

namespace Go.Proofs.YtllbpnmhoblkgaaDoor
namespace MatchRead
open Go.ChangeShapes Go.WideShapes Go.ChangeAt Go.RowKit Am DC Sp Wk
def T : Tab := ⟨fun f => match fns1 f with | some a => some a | none => match fnsM f with | some a => some a | none => fnsL15 f, fun f => AmMark.prims f⟩
theorem e_fns1 : Ext fns1 T := fun f af h => by
  have hp : AmMark.prims f = none := by unfold fns1 at h; split at h <;> first | rfl | cases h
  exact ⟨by simp [T, hp], by simp [T, h]⟩
theorem e_fnsM : Ext fnsM T := fun f af h => by
  have hp : AmMark.prims f = none := by unfold fnsM at h; split at h <;> first | rfl | cases h
  have h_fns1 : fns1 f = none := by unfold fnsM at h; split at h <;> first | rfl | cases h
  exact ⟨by simp [T, hp], by simp [T, h, h_fns1]⟩
theorem e_fnsL15 : Ext fnsL15 T := fun f af h => by
  have hp : AmMark.prims f = none := by unfold fnsL15 at h; split at h <;> first | rfl | cases h
  have h_fns1 : fns1 f = none := by unfold fnsL15 at h; split at h <;> first | rfl | cases h
  have h_fnsM : fnsM f = none := by unfold fnsL15 at h; split at h <;> first | rfl | cases h
  exact ⟨by simp [T, hp], by simp [T, h, h_fns1, h_fnsM]⟩
theorem fn_ok : ∀ f af, T.fns f = some af → FnOk Tryd.prog f af := fun f af h => by
  simp only [T] at h
  split at h
  · rename_i a h1; cases h; exact fns1_ok f _ h1
  · split at h
    · rename_i a h1; cases h; exact fnsM_ok f _ h1
    · exact fnsL15_ok f _ h
def amb : Amb Tryd.prog T := ambOf (3 + 1) (Tab10 Tryd.prog) (tab10_keep AmAwake.gTab) fn_ok
  AmMark.primAll

set_option maxRecDepth 100000 in
theorem law {Hd : Type} {enc : TypeId × Value → Hd} {W : World} {base : Nat} {v0 v1 v2 : Value} {d0 d1 d2 : DataW Hd} {p0 p1 p2 : List MemPlace} (ht : Tab10 Tryd.prog W)
    (k0 : Value.okWide Tryd.prog W .any base 22 v0) (k1 : Value.okWide Tryd.prog W .any base 3 v1) (k2 : Value.okWide Tryd.prog W .any base 3 v2)
    (h0 : DataW.Trod enc Tryd.prog W 0 (fun _ => true) true 22 v0 d0 p0) (h1 : DataW.Trod enc Tryd.prog W 0 (fun _ => true) true 3 v1 d1 p1) (h2 : DataW.Trod enc Tryd.prog W 0 (fun _ => true) true 3 v2 d2 p2) :
    Calls Tryd.prog 15 #[v0, v1, v2] W fun e W' => Below W.heap.size W W' ∧ e = .returned (.bool true) := by
  obtain ⟨hB, hc⟩ := tab_facts ht
  have i0 := Imp.nil Tryd.prog W
  obtain ⟨μ0, H0, u0, l0, j0, le0, s0, r0, a0, b0, _⟩ := arg_ints i0 hc k0 h0
  obtain ⟨x1, rfl, hx1⟩ := arg_int k1 h1
  obtain ⟨x2, rfl, hx2⟩ := arg_int k2 h2
  exact law_calls amb rfl j0 (.cons _ _ _ _ r0 (.cons _ _ _ _ (.int _ _) (.cons _ _ _ _ (.int _ _) .nil))) hB ht (l15 e_fns1 e_fnsM e_fnsL15 rfl rfl rfl rfl rfl rfl a0 b0 _ _)

abbrev laidL : List (String × DataW Unit) := Rows.matchReadRow.laid
set_option maxRecDepth 100000 in
theorem lifted (os : Os) (started : os.Started) (H : Type) (enc : TypeId × Value → H) :
    ReturnsInHanded {} Tryd.checked os 15 .any (fun w args => (Rows.matchReadSpec.pre enc Tryd.prog Tryd.f15 [] false w args ∧ laidMetH Tryd.prog laidL w) ∧ sizedMet enc Tryd.prog Tryd.f15 (OpenSpec.ofChange Rows.matchReadSpec) false w args)
      (Rows.matchReadSpec.post enc Tryd.prog Tryd.f15 false true false false) := by
  refine returnsInHanded_of_change_and (C := Tryd.checked) (X := fun w _ => laidMetH Tryd.prog laidL w) (fun _ _ _ hh h => h.of_heap hh) own started (by kernel_rfl) Tryd.func15
    (ChangeSpec.witness_shaped (enc := enc) (C := Tryd.checked) (os := os) (X := fun w _ => laidMetH Tryd.prog laidL w) false (World.laidAll Tryd.prog os laidL) #[.slice none 0 0, .int .i64 0, .int .i64 0] 8 (World.laidAll_os _ _ _) (World.shaped_of_ZipB (by kernel_rfl) (by kernel_rfl)) (by kernel_rfl) (by kernel_rfl) (by kernel_rfl) (by rw [MakeChecks.laidMetH_plain _ _ _ (by kernel_rfl)]; exact laidMet_laidAll _ (by kernel_rfl) (by kernel_rfl))) ?_
  intro W base args ds gs before hval0 hW _ _ hL _
  have hW' := hW
  obtain ⟨p, q, hA0, hV, rfl, hfz, hnd⟩ := hW
  have hA : DataW.TrodAll enc Tryd.prog W 0 (fun _ => true) true Tryd.f15.params.toList args.toList ds p := hA0
  have hval : ∀ (j : Nat) t v, Tryd.f15.params[j]? = some t → args[j]? = some v → Value.okWide Tryd.prog W .any base t v := hval0
  rw [Tryd.params15] at hA hval
  obtain ⟨v0, v1, v2, d0, d1, d2, p0, p1, p2, rfl, rfl, rfl, h0, h1, h2⟩ := trodAll_three hA
  obtain ⟨rfl, rfl⟩ := trodVars_none hV
  rw [MakeChecks.laidMetH_plain _ _ _ (by kernel_rfl)] at hL
  have ht := tab_of (by simp [laidL, Rows.matchReadRow]) hL
  refine (law ht (hval 0 _ _ rfl rfl) (hval 1 _ _ rfl rfl) (hval 2 _ _ rfl rfl) h0 h1 h2).mono fun e W' ⟨hb, he⟩ => ?_
  subst he
  exact ⟨_, rfl, _, _, _, [], _, [], hW', trodAll_mk1 (shut_bool Tryd.underlying4 _), trodAll_below laidOut hb _ _ _ _ (by rw [Tryd.params15]; decide) (by rw [Tryd.params15]; exact hA) hA.lt, rfl, hb.frame _, fun h => by cases h⟩

theorem holds : Rows.MatchReadSaid :=
  OpenClaim.holds_of_wide 15 Tryd.f15 rfl rfl rfl rfl rfl rfl rfl ⟨rfl, rfl, rfl, rfl, rfl⟩ rfl rfl rfl rfl rfl (by kernel_rfl) Tryd.func15 (by kernel_rfl)
    (of_decide_eq_true (by kernel_rfl)) (by unfold Func.isWrapper; first | (rw [if_pos (by decide +kernel)]; kernel_rfl) | (rw [if_neg (by decide +kernel)]; exact ⟨rfl, rfl⟩))
    (fun os started H enc _ => lifted os started H enc)

theorem card : Rows.MatchReadCardSaid :=
  Claim7.holds_tied_plain_at .later [] Rows.matchReadCard.laidKinds true Rows.matchReadCard.stood.harness false
    holds (fun _ h => by cases h) (by kernel_rfl) (fun _ h => by cases h) matchRead_row_tie rfl ⟨rfl, rfl⟩ (by kernel_rfl) rfl
    (fun f fn hf hfn => by
      obtain rfl : f = 15 := Option.some.inj ((show Tryd.prog.funcNamed "thermion/thermionlaw08.MatchRead" = some 15 by kernel_rfl).symm.trans hf) |>.symm
      obtain rfl : fn = Tryd.f15 := (Option.some.inj (Tryd.func15.symm.trans hfn)).symm
      exact ⟨by kernel_rfl, fun j t ht => by
        rw [Tryd.params15] at ht
        have : t = 22 ∨ t = 3 := by rcases j with _ | _ | _ | j <;> simp at ht <;> simp [← ht]
        rcases this with rfl | rfl
        · exact (show Tryd.prog.wantsStandIn 22 = false by kernel_rfl)
        · exact (show Tryd.prog.wantsStandIn 3 = false by kernel_rfl)⟩)
    (by kernel_rfl)
end MatchRead
end Go.Proofs.YtllbpnmhoblkgaaDoor
