/- A part of the proof: Base. It holds for whatever its statements name; no condition beyond theirs. -/
import Derived.Test.YtllbpnmhoblkgaaDoorAwkAmb
import Derived.Test.YtllbpnmhoblkgaaDoorAmI
import Derived.Test.YtllbpnmhoblkgaaDoorRows
import Derived.Test.YtllbpnmhoblkgaaDoorCards
import Derived.Test.YtllbpnmhoblkgaaDoorTie
import Derived.ProofKit
import Derived.LaidMore
import Derived.OpenShut
import Derived.Stop.Joined
import Derived.Lay
import Derived.Lib.LaidU8
import Derived.SevenTiedAt
namespace Go.Proofs.YtllbpnmhoblkgaaDoor
open Go.ChangeShapes Go.WideShapes Go.ChangeAt Go.RowKit Am Sp

theorem own : ownKnob Tryd.prog.godebug = none := by kernel_rfl
theorem laidOut : laidOutB Tryd.prog = true := by kernel_rfl

/-- The table that Itoa reads lies in the world. -/
theorem tab_of {L : List (String × DataW Unit)} {W : World} (hm : ("internal/strconv.uint64pow10", Rows.laid_internal_strconv_uint64pow10) ∈ L) (h : laidMet Tryd.prog L W) : Am.Tab10 Tryd.prog W := by
  obtain ⟨g, t, cs, fuel, p, h1, h2, h3, h4⟩ := Lib.laidMet.reads h (n := "internal/strconv.uint64pow10") (d := Rows.laid_internal_strconv_uint64pow10) hm
  obtain rfl := Option.some.inj (AmAwake.gTab.symm.trans h1)
  obtain rfl := Option.some.inj ((show (Tryd.prog.globals[3]?).map (·.type) = some 222 by kernel_rfl).symm.trans h2)
  have hc := Lib.cells_of_tab (k := .u64) (zs := Lib.pow10Tab) (n := 20) Tryd.underlying222 Tryd.underlying94 (by kernel_rfl) (by kernel_rfl) h4
  unfold Am.Tab10 Lib.TabIs
  rw [h3, ← hc]

/-- A table lies in the world: so there is a block of cells, and the heap is not small. -/
theorem tab_facts {W : World} (h : Am.Tab10 Tryd.prog W) : 3 + 1 ≤ W.heap.size ∧ HasCells W := by
  unfold Am.Tab10 Lib.TabIs World.var? at h
  rw [AmAwake.gTab] at h
  simp only [Option.bind_some] at h
  split at h
  · rename_i cs ty fz hg
    have := (Array.getElem?_eq_some_iff.1 hg).1
    exact ⟨this, 3, cs, ty, fz, hg⟩
  · cases h

/-- What a law is proved by: a run of the abstract machine that ends in true. -/
theorem law_calls {T : Tab} (A : Amb Tryd.prog T) {f : FuncId} (hp : T.prim f = none) {W : World} {μ : Mu} {H : AH} (hi : Imp Tryd.prog W μ H) {args : List AV} {vals : Array Value} (ha : VRs μ args vals.toList) (hB : A.B0 ≤ W.heap.size) (hs : A.stab W)
    (hr : wpF T (.fn f []) args H fun r _ => r = .bool true) : Calls Tryd.prog f vals W fun e W' => Below W.heap.size W W' ∧ e = .returned (.bool true) := by
  obtain ⟨n, v, H', h1, rfl⟩ := hr
  refine (calls_of_run A h1 hi.sim ha ⟨hB, hs, fun B _ => hi.own B⟩ hi.own hp).mono fun e W' ⟨hb, v', μ', he, hv, _⟩ => ?_
  obtain rfl := vr_bool hv
  exact ⟨hb, he⟩

set_option maxRecDepth 100000 in
theorem sortTy : ∃ f0 f1 g0 g1, SortTy Tryd.prog 25 22 3 23 61 76 f0 f1 g0 g1 :=
  ⟨_, _, _, _, ⟨Tryd.underlying25, by kernel_rfl, ⟨rfl, rfl⟩, ⟨rfl, rfl⟩, Tryd.underlying22, Tryd.underlying3, Tryd.underlying23, Tryd.underlying61, Tryd.underlying76, by kernel_rfl, rfl, rfl, Tryd.underlying3, Tryd.underlying3, ⟨by kernel_rfl, by kernel_rfl, by kernel_rfl, by kernel_rfl, by kernel_rfl, by kernel_rfl⟩⟩⟩

set_option maxRecDepth 100000 in
/-- An argument of type int. -/
theorem arg_int {Hd : Type} {enc : TypeId × Value → Hd} {W : World} {base : Nat} {v : Value} {d : DataW Hd} {p : List MemPlace} (k : Value.okWide Tryd.prog W .any base 3 v) (h : DataW.Trod enc Tryd.prog W 0 (fun _ => true) true 3 v d p) : ∃ n, v = .int .i64 n ∧ i64ok n := by
  obtain ⟨n, rfl, _, _, hw⟩ := open_int Tryd.underlying3 k h
  exact ⟨n, rfl, wf_i64 hw⟩
set_option maxRecDepth 100000 in
/-- An argument of type []int. -/
theorem arg_ints {Hd : Type} {enc : TypeId × Value → Hd} {W : World} {base : Nat} {μ : Mu} {H : AH} (hi : Imp Tryd.prog W μ H) (hc : HasCells W) {v : Value} {d : DataW Hd} {p : List MemPlace} (k : Value.okWide Tryd.prog W .any base 22 v) (h : DataW.Trod enc Tryd.prog W 0 (fun _ => true) true 22 v d p) :
    ∃ (μ' : Mu) (H' : AH) (u : AV) (l : List Int), Imp Tryd.prog W μ' H' ∧ μ.le μ' ∧ H.Sub H' ∧ VR μ' u v ∧ Ints H' u l ∧ l.length < 9223372036854775808 ∧ ∀ i, i64ok (l.getD i 0) := by
  obtain ⟨a, len, cap, rfl⟩ := okWide_slice Tryd.underlying22 k
  obtain ⟨fuel, h⟩ := h
  exact in_ints hi hc Tryd.underlying22 Tryd.underlying3 (by kernel_rfl) h
set_option maxRecDepth 100000 in
/-- An argument of type Sorting. -/
theorem arg_sort {Hd : Type} {enc : TypeId × Value → Hd} {W : World} {base : Nat} {μ : Mu} {H : AH} (hi : Imp Tryd.prog W μ H) (hc : HasCells W) {v : Value} {d : DataW Hd} {p : List MemPlace} (k : Value.okWide Tryd.prog W .any base 25 v) (h : DataW.Trod enc Tryd.prog W 0 (fun _ => true) true 25 v d p) :
    ∃ (μ' : Mu) (H' : AH) (a b : AV) (t : List Int) (I : List (List Rng)) (vs : List AV), Imp Tryd.prog W μ' H' ∧ μ.le μ' ∧ H.Sub H' ∧ VR μ' (.agg [a, b]) v ∧ SortAt0 H' a b t I vs ∧ (∀ i k, i64ok ((I.getD i []).getD k (0, 0)).1 ∧ i64ok ((I.getD i []).getD k (0, 0)).2) := by
  obtain ⟨f0, f1, g0, g1, Y⟩ := sortTy
  refine in_sort Y hi hc ?_ h
  unfold Value.okWide at k
  rw [Y.s] at k
  obtain ⟨cs, rfl, hs, _⟩ := k
  unfold Value.formed
  rw [Y.s]
  simp [hs]

end Go.Proofs.YtllbpnmhoblkgaaDoor
