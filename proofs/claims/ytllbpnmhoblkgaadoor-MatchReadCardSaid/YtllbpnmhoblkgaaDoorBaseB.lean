/- A part of the proof: BaseB. It holds for whatever its statements name; no condition beyond theirs. -/
import Derived.Test.YtllbpnmhoblkgaaDoorBase
import Derived.Test.YtllbpnmhoblkgaaDoorAwkD
import Derived.Test.YtllbpnmhoblkgaaDoorSpM
import Derived.ChangeMaps5
namespace Go.Proofs.YtllbpnmhoblkgaaDoor
open Go.ChangeShapes Go.WideShapes Go.ChangeAt Go.RowKit Go.Deep Am Sp

set_option maxRecDepth 100000 in
/-- An argument of type string. -/
theorem arg_str {Hd : Type} {enc : TypeId × Value → Hd} {W : World} {base : Nat} {v : Value} {d : DataW Hd} {p : List MemPlace} (k : Value.okWide Tryd.prog W .any base 9 v) (h : DataW.Trod enc Tryd.prog W 0 (fun _ => true) true 9 v d p) : ∃ s : List UInt8, v = .string ⟨⟨s⟩⟩ := by
  obtain ⟨s, rfl, _⟩ := Go.ChangeMaps.open_string Tryd.underlying9 k h
  exact ⟨s.data.toList, rfl⟩
structure MarkTy (P : Program) (t st it : TypeId) (f0 f1 f2 f3 f4 : Field) : Prop where
  s : P.underlying t = some (.struct #[f0, f1, f2, f3, f4])
  size : P.cellsOf t = 5
  n0 : f0.type = st ∧ f0.offset = 0
  n1 : f1.type = it ∧ f1.offset = 1
  n2 : f2.type = it ∧ f2.offset = 2
  n3 : f3.type = it ∧ f3.offset = 3
  n4 : f4.type = it ∧ f4.offset = 4
  ks : P.underlying st = some .string
  ki : P.underlying it = some (.int .i64)
  c : P.cellsOf st = 1 ∧ P.cellsOf it = 1
set_option maxRecDepth 100000 in
theorem markTy : ∃ f0 f1 f2 f3 f4, MarkTy Tryd.prog 81 9 3 f0 f1 f2 f3 f4 :=
  ⟨_, _, _, _, _, ⟨Tryd.underlying81, by kernel_rfl, ⟨rfl, rfl⟩, ⟨rfl, rfl⟩, ⟨rfl, rfl⟩, ⟨rfl, rfl⟩, ⟨rfl, rfl⟩, Tryd.underlying9, Tryd.underlying3, ⟨by kernel_rfl, by kernel_rfl⟩⟩⟩
theorem in_mark {Hd : Type} {enc : TypeId × Value → Hd} {P : Program} {w : World} {t st it : TypeId} {f0 f1 f2 f3 f4 : Field} (Y : MarkTy P t st it f0 f1 f2 f3 f4) {v : Value} {d : DataW Hd} {ps : List MemPlace} (hf : v.formed P t = true)
    (hd : DataW.Trod enc P w 0 (fun _ => true) true t v d ps) : ∃ m : MarkS, v = .agg #[.string ⟨⟨m.t⟩⟩, .int .i64 m.y, .int .i64 m.w, .int .i64 m.l, .int .i64 m.n] := by
  obtain ⟨fuel, hd⟩ := hd
  obtain ⟨xs, n, rfl, _, hlen, hxl, hfs⟩ := DataW.trod_struct Y.s hd
  have hv : ∃ cs, v = .agg cs := by
    unfold Value.formed at hf
    rw [Y.s] at hf
    cases v <;> simp at hf
    exact ⟨_, rfl⟩
  obtain ⟨cs, rfl⟩ := hv
  rw [Y.size] at hlen
  simp only [Value.cells] at hlen hfs
  obtain ⟨v0, v1, v2, v3, v4, hcs⟩ : ∃ v0 v1 v2 v3 v4, cs.toList = [v0, v1, v2, v3, v4] := by
    match h : cs.toList, hlen with
    | [a, b, c, d, e], _ => exact ⟨a, b, c, d, e, rfl⟩
  rw [hcs] at hfs
  match xs, hxl with
  | [x0, x1, x2, x3, x4], _ =>
    have e0 := hfs 0 f0 rfl
    have e1 := hfs 1 f1 rfl
    have e2 := hfs 2 f2 rfl
    have e3 := hfs 3 f3 rfl
    have e4 := hfs 4 f4 rfl
    rw [Y.n0.1, Y.n0.2, Y.c.1] at e0
    rw [Y.n1.1, Y.n1.2, Y.c.2] at e1
    rw [Y.n2.1, Y.n2.2, Y.c.2] at e2
    rw [Y.n3.1, Y.n3.2, Y.c.2] at e3
    rw [Y.n4.1, Y.n4.2, Y.c.2] at e4
    simp at e0 e1 e2 e3 e4
    obtain ⟨s, h0, _⟩ := DataW.trod_string Y.ks e0
    obtain ⟨y, h1, _⟩ := DataW.trod_int Y.ki e1
    obtain ⟨ww, h2, _⟩ := DataW.trod_int Y.ki e2
    obtain ⟨l, h3, _⟩ := DataW.trod_int Y.ki e3
    obtain ⟨nn, h4, _⟩ := DataW.trod_int Y.ki e4
    simp only [List.cons.injEq, and_true] at h0 h1 h2 h3 h4
    subst h0 h1 h2 h3 h4
    refine ⟨⟨s.data.toList, y, ww, l, nn⟩, ?_⟩
    congr 1
    exact Array.toList_inj.1 hcs
set_option maxRecDepth 100000 in
/-- An argument of type Mark. -/
theorem arg_mark {Hd : Type} {enc : TypeId × Value → Hd} {W : World} {base : Nat} {v : Value} {d : DataW Hd} {p : List MemPlace} (k : Value.okWide Tryd.prog W .any base 81 v) (h : DataW.Trod enc Tryd.prog W 0 (fun _ => true) true 81 v d p) :
    ∃ m : MarkS, v = .agg #[.string ⟨⟨m.t⟩⟩, .int .i64 m.y, .int .i64 m.w, .int .i64 m.l, .int .i64 m.n] := by
  obtain ⟨f0, f1, f2, f3, f4, Y⟩ := markTy
  refine in_mark Y ?_ h
  unfold Value.okWide at k
  rw [Y.s] at k
  obtain ⟨cs, rfl, hs, _⟩ := k
  unfold Value.formed
  rw [Y.s]
  simp [hs]
end Go.Proofs.YtllbpnmhoblkgaaDoor
