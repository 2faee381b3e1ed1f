/- A part of the proof: Marks. It holds for whatever its statements name; no condition beyond theirs. -/
import Derived.Test.YtllbpnmhoblkgaaDoorBaseB
import Derived.Test.YtllbpnmhoblkgaaDoorOkA
import Derived.Test.YtllbpnmhoblkgaaDoorOkM
import Derived.Test.YtllbpnmhoblkgaaDoorOkL
import Derived.Test.YtllbpnmhoblkgaaDoorWalkP

namespace Go.Proofs.YtllbpnmhoblkgaaDoor
namespace MatchMarks
open Go.ChangeShapes Go.WideShapes Go.ChangeAt Go.RowKit Am DC Sp Wk
def T : Tab := ⟨fun f => match fns1 f with | some a => some a | none => match fnsM f with | some a => some a | none => fnsL14 f, fun f => AmMark.prims f⟩
theorem e_fns1 : Ext fns1 T := fun f af h => by
  have hp : AmMark.prims f = none := by unfold fns1 at h; split at h <;> first | rfl | cases h
  exact ⟨by simp [T, hp], by simp [T, h]⟩
theorem e_fnsM : Ext fnsM T := fun f af h => by
  have hp : AmMark.prims f = none := by unfold fnsM at h; split at h <;> first | rfl | cases h
  have h_fns1 : fns1 f = none := by unfold fnsM at h; split at h <;> first | rfl | cases h
  exact ⟨by simp [T, hp], by simp [T, h, h_fns1]⟩
theorem e_fnsL14 : Ext fnsL14 T := fun f af h => by
  have hp : AmMark.prims f = none := by unfold fnsL14 at h; split at h <;> first | rfl | cases h
  have h_fns1 : fns1 f = none := by unfold fnsL14 at h; split at h <;> first | rfl | cases h
  have h_fnsM : fnsM f = none := by unfold fnsL14 at h; split at h <;> first | rfl | cases h
  exact ⟨by simp [T, hp], by simp [T, h, h_fns1, h_fnsM]⟩
theorem fn_ok : ∀ f af, T.fns f = some af → FnOk Tryd.prog f af := fun f af h => by
  simp only [T] at h
  split at h
  · rename_i a h1; cases h; exact fns1_ok f _ h1
  · split at h
    · rename_i a h1; cases h; exact fnsM_ok f _ h1
    · exact fnsL14_ok f _ h
def amb : Amb Tryd.prog T := ambOf (3 + 1) (Tab10 Tryd.prog) (tab10_keep AmAwake.gTab) fn_ok
  AmMark.primAll

set_option maxRecDepth 100000 in
theorem law {Hd : Type} {enc : TypeId × Value → Hd} {W : World} {base : Nat} {v0 v1 v2 : Value} {d0 d1 d2 : DataW Hd} {p0 p1 p2 : List MemPlace} (ht : Tab10 Tryd.prog W)
    (k0 : Value.okWide Tryd.prog W .any base 81 v0) (k1 : Value.okWide Tryd.prog W .any base 9 v1) (k2 : Value.okWide Tryd.prog W .any base 22 v2)
    (h0 : DataW.Trod enc Tryd.prog W 0 (fun _ => true) true 81 v0 d0 p0) (h1 : DataW.Trod enc Tryd.prog W 0 (fun _ => true) true 9 v1 d1 p1) (h2 : DataW.Trod enc Tryd.prog W 0 (fun _ => true) true 22 v2 d2 p2) :
    Calls Tryd.prog 14 #[v0, v1, v2] W fun e W' => Below W.heap.size W W' ∧ e = .returned (.bool true) := by
  obtain ⟨hB, hc⟩ := tab_facts ht
  have i0 := Imp.nil Tryd.prog W
  obtain ⟨x0, rfl⟩ := arg_mark k0 h0
  obtain ⟨x1, rfl⟩ := arg_str k1 h1
  obtain ⟨μ2, H2, u2, l2, j2, le2, s2, r2, a2, b2, _⟩ := arg_ints i0 hc k2 h2
  exact law_calls amb rfl j2 (.cons _ _ _ _ (.agg _ _ (.cons _ _ _ _ (.str _) (.cons _ _ _ _ (.int _ _) (.cons _ _ _ _ (.int _ _) (.cons _ _ _ _ (.int _ _) (.cons _ _ _ _ (.int _ _) .nil)))))) (.cons _ _ _ _ (.str _) (.cons _ _ _ _ r2 .nil))) hB ht (l14 e_fns1 e_fnsM e_fnsL14 rfl rfl rfl rfl rfl rfl _ _ a2 b2)

abbrev laidL : List (String × DataW Unit) := Rows.matchMarksRow.laid
set_option maxRecDepth 100000 in
theorem lifted (os : Os) (started : os.Started) (H : Type) (enc : TypeId × Value → H) :
    ReturnsInHanded {} Tryd.checked os 14 .any (fun w args => (Rows.matchMarksSpec.pre enc Tryd.prog Tryd.f14 [] false w args ∧ laidMetH Tryd.prog laidL w) ∧ sizedMet enc Tryd.prog Tryd.f14 (OpenSpec.ofChange Rows.matchMarksSpec) false w args)
      (Rows.matchMarksSpec.post enc Tryd.prog Tryd.f14 false true false false) := by
  refine returnsInHanded_of_change_and (C := Tryd.checked) (X := fun w _ => laidMetH Tryd.prog laidL w) (fun _ _ _ hh h => h.of_heap hh) own started (by kernel_rfl) Tryd.func14
    (ChangeSpec.witness_shaped (enc := enc) (C := Tryd.checked) (os := os) (X := fun w _ => laidMetH Tryd.prog laidL w) false (World.laidAll Tryd.prog os laidL) #[.agg #[.string ⟨#[]⟩, .int .i64 0, .int .i64 0, .int .i64 0, .int .i64 0], .string ⟨#[]⟩, .slice none 0 0] 8 (World.laidAll_os _ _ _) (World.shaped_of_ZipB (by kernel_rfl) (by kernel_rfl)) (by kernel_rfl) (by kernel_rfl) (by kernel_rfl) (by rw [MakeChecks.laidMetH_plain _ _ _ (by kernel_rfl)]; exact laidMet_laidAll _ (by kernel_rfl) (by kernel_rfl))) ?_
  intro W base args ds gs before hval0 hW _ _ hL _
  have hW' := hW
  obtain ⟨p, q, hA0, hV, rfl, hfz, hnd⟩ := hW
  have hA : DataW.TrodAll enc Tryd.prog W 0 (fun _ => true) true Tryd.f14.params.toList args.toList ds p := hA0
  have hval : ∀ (j : Nat) t v, Tryd.f14.params[j]? = some t → args[j]? = some v → Value.okWide Tryd.prog W .any base t v := hval0
  rw [Tryd.params14] at hA hval
  obtain ⟨v0, v1, v2, d0, d1, d2, p0, p1, p2, rfl, rfl, rfl, h0, h1, h2⟩ := trodAll_three hA
  obtain ⟨rfl, rfl⟩ := trodVars_none hV
  rw [MakeChecks.laidMetH_plain _ _ _ (by kernel_rfl)] at hL
  have ht := tab_of (by simp [laidL, Rows.matchMarksRow]) hL
  refine (law ht (hval 0 _ _ rfl rfl) (hval 1 _ _ rfl rfl) (hval 2 _ _ rfl rfl) h0 h1 h2).mono fun e W' ⟨hb, he⟩ => ?_
  subst he
  exact ⟨_, rfl, _, _, _, [], _, [], hW', trodAll_mk1 (shut_bool Tryd.underlying4 _), trodAll_below laidOut hb _ _ _ _ (by rw [Tryd.params14]; decide) (by rw [Tryd.params14]; exact hA) hA.lt, rfl, hb.frame _, fun h => by cases h⟩

theorem holds : Rows.MatchMarksSaid :=
  OpenClaim.holds_of_wide 14 Tryd.f14 rfl rfl rfl rfl rfl rfl rfl ⟨rfl, rfl, rfl, rfl, rfl⟩ rfl rfl rfl rfl rfl (by kernel_rfl) Tryd.func14 (by kernel_rfl)
    (of_decide_eq_true (by kernel_rfl)) (by unfold Func.isWrapper; first | (rw [if_pos (by decide +kernel)]; kernel_rfl) | (rw [if_neg (by decide +kernel)]; exact ⟨rfl, rfl⟩))
    (fun os started H enc _ => lifted os started H enc)

theorem card : Rows.MatchMarksCardSaid :=
  Claim7.holds_tied_plain_at .later [] Rows.matchMarksCard.laidKinds true Rows.matchMarksCard.stood.harness false
    holds (fun _ h => by cases h) (by kernel_rfl) (fun _ h => by cases h) matchMarks_row_tie rfl ⟨rfl, rfl⟩ (by kernel_rfl) rfl
    (fun f fn hf hfn => by
      obtain rfl : f = 14 := Option.some.inj ((show Tryd.prog.funcNamed "thermion/thermionlaw08.MatchMarks" = some 14 by kernel_rfl).symm.trans hf) |>.symm
      obtain rfl : fn = Tryd.f14 := (Option.some.inj (Tryd.func14.symm.trans hfn)).symm
      exact ⟨by kernel_rfl, fun j t ht => by
        rw [Tryd.params14] at ht
        have : t = 81 ∨ t = 9 ∨ t = 22 := by rcases j with _ | _ | _ | j <;> simp at ht <;> simp [← ht]
        rcases this with rfl | rfl | rfl
        · exact (show Tryd.prog.wantsStandIn 81 = false by kernel_rfl)
        · exact (show Tryd.prog.wantsStandIn 9 = false by kernel_rfl)
        · exact (show Tryd.prog.wantsStandIn 22 = false by kernel_rfl)⟩)
    (by kernel_rfl)
end MatchMarks
end Go.Proofs.YtllbpnmhoblkgaaDoor
