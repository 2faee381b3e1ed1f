/- A part of the proof: Sortings. It holds for whatever its statements name; no condition beyond theirs. -/
import Derived.Test.YtllbpnmhoblkgaaDoorAwkAmb
import Derived.Test.YtllbpnmhoblkgaaDoorOkA
import Derived.Test.YtllbpnmhoblkgaaDoorOkLA
import Derived.Test.YtllbpnmhoblkgaaDoorAmI
import Derived.Test.YtllbpnmhoblkgaaDoorWalkLA
import Derived.Test.YtllbpnmhoblkgaaDoorRows
import Derived.Test.YtllbpnmhoblkgaaDoorCards
import Derived.Test.YtllbpnmhoblkgaaDoorTie
import Derived.ProofKit
import Derived.LaidMore
import Derived.OpenShut
import Derived.Stop.Joined
import Derived.Lay
import Derived.Lib.LaidU8
import Derived.SevenTiedAt
namespace Go.Proofs.YtllbpnmhoblkgaaDoor
open Go.ChangeShapes Go.WideShapes Go.ChangeAt Go.RowKit Am DC Sp Wk

theorem own : ownKnob Tryd.prog.godebug = none := by kernel_rfl
theorem laidOut : laidOutB Tryd.prog = true := by kernel_rfl

/-- The table that Itoa reads lies in the world. -/
theorem tab_of {L : List (String × DataW Unit)} {W : World} (hm : ("internal/strconv.uint64pow10", Rows.laid_internal_strconv_uint64pow10) ∈ L) (h : laidMet Tryd.prog L W) : Am.Tab10 Tryd.prog W := by
  obtain ⟨g, t, cs, fuel, p, h1, h2, h3, h4⟩ := Lib.laidMet.reads h (n := "internal/strconv.uint64pow10") (d := Rows.laid_internal_strconv_uint64pow10) hm
  obtain rfl := Option.some.inj (AmAwake.gTab.symm.trans h1)
  obtain rfl := Option.some.inj ((show (Tryd.prog.globals[3]?).map (·.type) = some 222 by kernel_rfl).symm.trans h2)
  have hc := Lib.cells_of_tab (k := .u64) (zs := Lib.pow10Tab) (n := 20) Tryd.underlying222 Tryd.underlying94 (by kernel_rfl) (by kernel_rfl) h4
  unfold Am.Tab10 Lib.TabIs
  rw [h3, ← hc]

/-- A table lies in the world: so there is a block of cells, and the heap is not small. -/
theorem tab_facts {W : World} (h : Am.Tab10 Tryd.prog W) : 3 + 1 ≤ W.heap.size ∧ HasCells W := by
  unfold Am.Tab10 Lib.TabIs World.var? at h
  rw [AmAwake.gTab] at h
  simp only [Option.bind_some] at h
  split at h
  · rename_i cs ty fz hg
    have := (Array.getElem?_eq_some_iff.1 hg).1
    exact ⟨this, 3, cs, ty, fz, hg⟩
  · cases h

/-- What a law is proved by: a run of the abstract machine that ends in true. -/
theorem law_calls {T : Tab} (A : Amb Tryd.prog T) {f : FuncId} (hp : T.prim f = none) {W : World} {μ : Mu} {H : AH} (hi : Imp Tryd.prog W μ H) {args : List AV} {vals : Array Value} (ha : VRs μ args vals.toList) (hB : A.B0 ≤ W.heap.size) (hs : A.stab W)
    (hr : wpF T (.fn f []) args H fun r _ => r = .bool true) : Calls Tryd.prog f vals W fun e W' => Below W.heap.size W W' ∧ e = .returned (.bool true) := by
  obtain ⟨n, v, H', h1, rfl⟩ := hr
  refine (calls_of_run A h1 hi.sim ha ⟨hB, hs, fun B _ => hi.own B⟩ hi.own hp).mono fun e W' ⟨hb, v', μ', he, hv, _⟩ => ?_
  obtain rfl := vr_bool hv
  exact ⟨hb, he⟩

set_option maxRecDepth 100000 in
theorem sortTy : ∃ f0 f1 g0 g1, SortTy Tryd.prog 25 22 3 23 61 76 f0 f1 g0 g1 :=
  ⟨_, _, _, _, ⟨Tryd.underlying25, by kernel_rfl, ⟨rfl, rfl⟩, ⟨rfl, rfl⟩, Tryd.underlying22, Tryd.underlying3, Tryd.underlying23, Tryd.underlying61, Tryd.underlying76, by kernel_rfl, rfl, rfl, Tryd.underlying3, Tryd.underlying3, ⟨by kernel_rfl, by kernel_rfl, by kernel_rfl, by kernel_rfl, by kernel_rfl, by kernel_rfl⟩⟩⟩

def T3 : Tab := ⟨fun f => match fns1 f with | some a => some a | none => fnsL3 f, fun f => if f = 17 then some pAwake else none⟩
theorem ext1 : Ext fns1 T3 := fun f af h => by
  have : f ≠ 17 := by rintro rfl; cases h
  exact ⟨by simp [T3, this], by simp [T3, h]⟩
theorem extL : Ext fnsL3 T3 := fun f af h => by
  have : f ≠ 17 := by rintro rfl; cases h
  have h1 : fns1 f = none := by unfold fnsL3 at h; split at h; rfl; cases h
  exact ⟨by simp [T3, this], by simp [T3, h1, h]⟩
def amb3 : Amb Tryd.prog T3 := ambOf (3 + 1) (Tab10 Tryd.prog) (tab10_keep AmAwake.gTab)
  (fun f af h => by
    simp only [T3] at h
    split at h
    · rename_i a h1; cases h; exact fns1_ok f _ h1
    · exact fnsL3_ok f _ h)
  (fun f g h => by
    simp only [T3] at h
    split at h
    · rename_i h1; subst h1; cases h; exact AmAwake.awake_prim
    · cases h)

set_option maxRecDepth 100000 in
/-- An argument of type int. -/
theorem arg_int {Hd : Type} {enc : TypeId × Value → Hd} {W : World} {base : Nat} {v : Value} {d : DataW Hd} {p : List MemPlace} (k : Value.okWide Tryd.prog W .any base 3 v) (h : DataW.Trod enc Tryd.prog W 0 (fun _ => true) true 3 v d p) : ∃ n, v = .int .i64 n ∧ i64ok n := by
  obtain ⟨n, rfl, _, _, hw⟩ := open_int Tryd.underlying3 k h
  exact ⟨n, rfl, wf_i64 hw⟩
set_option maxRecDepth 100000 in
/-- An argument of type []int. -/
theorem arg_ints {Hd : Type} {enc : TypeId × Value → Hd} {W : World} {base : Nat} {μ : Mu} {H : AH} (hi : Imp Tryd.prog W μ H) (hc : HasCells W) {v : Value} {d : DataW Hd} {p : List MemPlace} (k : Value.okWide Tryd.prog W .any base 22 v) (h : DataW.Trod enc Tryd.prog W 0 (fun _ => true) true 22 v d p) :
    ∃ (μ' : Mu) (H' : AH) (u : AV) (l : List Int), Imp Tryd.prog W μ' H' ∧ μ.le μ' ∧ H.Sub H' ∧ VR μ' u v ∧ Ints H' u l ∧ l.length < 9223372036854775808 ∧ ∀ i, i64ok (l.getD i 0) := by
  obtain ⟨a, len, cap, rfl⟩ := okWide_slice Tryd.underlying22 k
  obtain ⟨fuel, h⟩ := h
  exact in_ints hi hc Tryd.underlying22 Tryd.underlying3 (by kernel_rfl) h
set_option maxRecDepth 100000 in
/-- An argument of type Sorting. -/
theorem arg_sort {Hd : Type} {enc : TypeId × Value → Hd} {W : World} {base : Nat} {μ : Mu} {H : AH} (hi : Imp Tryd.prog W μ H) (hc : HasCells W) {v : Value} {d : DataW Hd} {p : List MemPlace} (k : Value.okWide Tryd.prog W .any base 25 v) (h : DataW.Trod enc Tryd.prog W 0 (fun _ => true) true 25 v d p) :
    ∃ (μ' : Mu) (H' : AH) (a b : AV) (t : List Int) (I : List (List Rng)) (vs : List AV), Imp Tryd.prog W μ' H' ∧ μ.le μ' ∧ H.Sub H' ∧ VR μ' (.agg [a, b]) v ∧ SortAt0 H' a b t I vs ∧ (∀ i k, i64ok ((I.getD i []).getD k (0, 0)).1 ∧ i64ok ((I.getD i []).getD k (0, 0)).2) := by
  obtain ⟨f0, f1, g0, g1, Y⟩ := sortTy
  refine in_sort Y hi hc ?_ h
  unfold Value.okWide at k
  rw [Y.s] at k
  obtain ⟨cs, rfl, hs, _⟩ := k
  unfold Value.formed
  rw [Y.s]
  simp [hs]

set_option maxRecDepth 100000 in
theorem law3 {Hd : Type} {enc : TypeId × Value → Hd} {W : World} {base : Nat} {v0 v1 v2 v3 : Value} {d0 d1 d2 d3 : DataW Hd} {p0 p1 p2 p3 : List MemPlace} (ht : Tab10 Tryd.prog W)
    (k0 : Value.okWide Tryd.prog W .any base 25 v0) (k1 : Value.okWide Tryd.prog W .any base 3 v1) (k2 : Value.okWide Tryd.prog W .any base 3 v2) (k3 : Value.okWide Tryd.prog W .any base 22 v3)
    (h0 : DataW.Trod enc Tryd.prog W 0 (fun _ => true) true 25 v0 d0 p0) (h1 : DataW.Trod enc Tryd.prog W 0 (fun _ => true) true 3 v1 d1 p1) (h2 : DataW.Trod enc Tryd.prog W 0 (fun _ => true) true 3 v2 d2 p2) (h3 : DataW.Trod enc Tryd.prog W 0 (fun _ => true) true 22 v3 d3 p3) :
    Calls Tryd.prog 3 #[v0, v1, v2, v3] W fun e W' => Below W.heap.size W W' ∧ e = .returned (.bool true) := by
  obtain ⟨hB, hc⟩ := tab_facts ht
  obtain ⟨x, rfl, _⟩ := arg_int k1 h1
  obtain ⟨y, rfl, _⟩ := arg_int k2 h2
  obtain ⟨μ1, H1, a, b, t, I, vs, i1, _, _, i4, i5, _⟩ := arg_sort (Imp.nil Tryd.prog W) hc k0 h0
  obtain ⟨μ2, H2, u, l, j1, j2, j3, j4, j5, j6, _⟩ := arg_ints i1 hc k3 h3
  exact law_calls amb3 rfl j1 (.cons _ _ _ _ (i4.mono j2) (.cons _ _ _ _ (.int _ _) (.cons _ _ _ _ (.int _ _) (.cons _ _ _ _ j4 .nil)))) hB ht (l3 ext1 extL rfl (i5.mono j3) x y j5 j6)

abbrev laidL : List (String × DataW Unit) := Rows.matchSortingsRow.laid
set_option maxRecDepth 100000 in
theorem lifted (os : Os) (started : os.Started) (H : Type) (enc : TypeId × Value → H) :
    ReturnsInHanded {} Tryd.checked os 3 .any (fun w args => (Rows.matchSortingsSpec.pre enc Tryd.prog Tryd.f3 [] false w args ∧ laidMetH Tryd.prog laidL w) ∧ sizedMet enc Tryd.prog Tryd.f3 (OpenSpec.ofChange Rows.matchSortingsSpec) false w args)
      (Rows.matchSortingsSpec.post enc Tryd.prog Tryd.f3 false true false false) := by
  refine returnsInHanded_of_change_and (C := Tryd.checked) (X := fun w _ => laidMetH Tryd.prog laidL w) (fun _ _ _ hh h => h.of_heap hh) own started (by kernel_rfl) Tryd.func3
    (ChangeSpec.witness_shaped (enc := enc) (C := Tryd.checked) (os := os) (X := fun w _ => laidMetH Tryd.prog laidL w) false (World.laidAll Tryd.prog os laidL) #[.agg #[.slice none 0 0, .slice none 0 0], .int .i64 0, .int .i64 0, .slice none 0 0] 8 (World.laidAll_os _ _ _) (World.shaped_of_ZipB (by kernel_rfl) (by kernel_rfl)) (by kernel_rfl) (by kernel_rfl) (by kernel_rfl) (by rw [MakeChecks.laidMetH_plain _ _ _ (by kernel_rfl)]; exact laidMet_laidAll _ (by kernel_rfl) (by kernel_rfl))) ?_
  intro W base args ds gs before hval0 hW _ _ hL _
  have hW' := hW
  obtain ⟨p, q, hA0, hV, rfl, hfz, hnd⟩ := hW
  have hA : DataW.TrodAll enc Tryd.prog W 0 (fun _ => true) true Tryd.f3.params.toList args.toList ds p := hA0
  have hval : ∀ (j : Nat) t v, Tryd.f3.params[j]? = some t → args[j]? = some v → Value.okWide Tryd.prog W .any base t v := hval0
  rw [Tryd.params3] at hA hval
  obtain ⟨v0, v1, v2, v3, d0, d1, d2, d3, p0, p1, p2, p3, rfl, rfl, rfl, h0, h1, h2, h3⟩ := trodAll_four hA
  obtain ⟨rfl, rfl⟩ := trodVars_none hV
  rw [MakeChecks.laidMetH_plain _ _ _ (by kernel_rfl)] at hL
  have ht := tab_of (by simp [laidL, Rows.matchSortingsRow]) hL
  refine (law3 ht (hval 0 _ _ rfl rfl) (hval 1 _ _ rfl rfl) (hval 2 _ _ rfl rfl) (hval 3 _ _ rfl rfl) h0 h1 h2 h3).mono fun e W' ⟨hb, he⟩ => ?_
  subst he
  exact ⟨_, rfl, _, _, _, [], _, [], hW', trodAll_mk1 (shut_bool Tryd.underlying4 _), trodAll_below laidOut hb _ _ _ _ (by rw [Tryd.params3]; decide) (by rw [Tryd.params3]; exact hA) hA.lt, rfl, hb.frame _, fun h => by cases h⟩

theorem matchSortings_holds : Rows.MatchSortingsSaid :=
  OpenClaim.holds_of_wide 3 Tryd.f3 rfl rfl rfl rfl rfl rfl rfl ⟨rfl, rfl, rfl, rfl, rfl⟩ rfl rfl rfl rfl rfl (by kernel_rfl) Tryd.func3 (by kernel_rfl)
    (of_decide_eq_true (by kernel_rfl)) (by unfold Func.isWrapper; first | (rw [if_pos (by decide +kernel)]; kernel_rfl) | (rw [if_neg (by decide +kernel)]; exact ⟨rfl, rfl⟩))
    (fun os started H enc _ => lifted os started H enc)

theorem matchSortings_card : Rows.MatchSortingsCardSaid :=
  Claim7.holds_tied_plain_at .later [] Rows.matchSortingsCard.laidKinds true Rows.matchSortingsCard.stood.harness false
    matchSortings_holds (fun _ h => by cases h) (by kernel_rfl) (fun _ h => by cases h) matchSortings_row_tie rfl ⟨rfl, rfl⟩ (by kernel_rfl) rfl
    (fun f fn hf hfn => by
      obtain rfl : f = 3 := Option.some.inj ((show Tryd.prog.funcNamed "thermion/thermionlaw08.MatchSortings" = some 3 by kernel_rfl).symm.trans hf) |>.symm
      obtain rfl : fn = Tryd.f3 := (Option.some.inj (Tryd.func3.symm.trans hfn)).symm
      exact ⟨by kernel_rfl, fun j t ht => by
        rw [Tryd.params3] at ht
        have : t = 25 ∨ t = 3 ∨ t = 22 := by rcases j with _ | _ | _ | _ | j <;> simp at ht <;> simp [← ht]
        rcases this with rfl | rfl | rfl
        · exact (show Tryd.prog.wantsStandIn 25 = false by kernel_rfl)
        · exact (show Tryd.prog.wantsStandIn 3 = false by kernel_rfl)
        · exact (show Tryd.prog.wantsStandIn 22 = false by kernel_rfl)⟩)
    (by kernel_rfl)
end Go.Proofs.YtllbpnmhoblkgaaDoor
