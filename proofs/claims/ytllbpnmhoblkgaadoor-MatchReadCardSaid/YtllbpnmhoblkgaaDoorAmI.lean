/- A part of the proof: AmI. It holds for whatever its statements name; no condition beyond theirs. -/
import Derived.Test.YtllbpnmhoblkgaaDoorAmE
import Derived.ProofKit
import Derived.Deep.Slices
import Derived.Deep.SlicePairs
import Derived.ChangeOld
import Derived.Carry
namespace Am
open Go Go.RowKit

/-! ### inputs that lie in the world: one block of the abstract heap for each slice -/
/-- An abstract heap of blocks that are only read. -/
structure Imp (P : Program) (w : World) (μ : Mu) (H : AH) : Prop where
  sim : Sim P μ H w
  own : ∀ B, ¬ Own μ B

theorem Imp.nil (P : Program) (w : World) : Imp P w (fun _ => .unborn) { next := 0, t := .nil } :=
  ⟨⟨fun _ _ => rfl, fun _ h => by (cases h), fun _ _ _ _ _ h => by (cases h), fun _ _ h => by (cases h), fun _ _ _ h => by
    rcases h with ⟨_, _, h⟩ | h <;> cases h⟩, fun B ⟨_, h⟩ => by rcases h with ⟨_, _, h⟩ | h <;> cases h⟩

theorem Imp.add {P : Program} {w : World} {μ : Mu} {H : AH} (h : Imp P w μ H) {B off : Nat} {cs : Array Value} {ty : TypeId} {fz : Nat × Nat} {vs : List AV} (hB : w.heap[B]? = some (.cells cs ty fz)) (hl : off + vs.length ≤ cs.size)
    (hv : VRs μ vs ((cs.toList.drop off).take vs.length)) :
    Imp P w (μ.set H.next (.cells B off cs.size false)) (H.new (.cells vs false)) ∧ μ.le (μ.set H.next (.cells B off cs.size false)) := by
  have hb : μ H.next = .unborn := h.sim.bound _ (Nat.le_refl _)
  have hle : μ.le (μ.set H.next (.cells B off cs.size false)) := Mu.set_le _ _ _ (.inl hb)
  have hset : ∀ i, i ≠ H.next → (μ.set H.next (.cells B off cs.size false)) i = μ i := fun i hi => by simp [Mu.set, hi]
  have hsame : (μ.set H.next (.cells B off cs.size false)) H.next = .cells B off cs.size false := by simp [Mu.set]
  have hown : ∀ i B', ((∃ base csz, (μ.set H.next (.cells B off cs.size false)) i = .cells B' base csz true) ∨ (μ.set H.next (.cells B off cs.size false)) i = .obj B') → ((∃ base csz, μ i = .cells B' base csz true) ∨ μ i = .obj B') := by
    intro i B' hi
    by_cases e : i = H.next
    · subst e; rw [hsame] at hi; rcases hi with ⟨_, _, hi⟩ | hi <;> cases hi
    · rw [hset i e] at hi; exact hi
  refine ⟨⟨⟨fun i hi => ?_, fun i hi => ?_, fun i B' base csz own hi => ?_, fun i B' hi => ?_, fun i i' B' hi _ => ?_⟩, fun B' ⟨i, hi⟩ => h.own B' ⟨i, hown i B' hi⟩⟩, hle⟩
  · have : H.next + 1 ≤ i := hi
    rw [hset i (by omega)]; exact h.sim.bound i (by omega)
  · by_cases e : i = H.next
    · subst e; rw [hsame] at hi; cases hi
    · rw [hset i e] at hi; exact AH.get_new_old (h.sim.dead i hi)
  · by_cases e : i = H.next
    · subst e
      rw [hsame] at hi
      cases hi
      exact ⟨vs, AH.get_new_self, cs, ty, fz, hB, rfl, hl, fun c => (by cases c), hv.mono hle⟩
    · rw [hset i e] at hi
      obtain ⟨us, hu, hc⟩ := h.sim.live i B' base csz own hi
      exact ⟨us, AH.get_new_old hu, hc.mono hle rfl⟩
  · exact absurd ⟨i, hown i B' (.inr hi)⟩ (h.own B')
  · exact absurd ⟨i, hown i B' hi⟩ (h.own B')

/-- Some block of cells is there. -/
def HasCells (w : World) : Prop := ∃ (B : Nat) (cs : Array Value) (ty : TypeId) (fz : Nat × Nat), w.heap[B]? = some (.cells cs ty fz)
/-- A slice of the world. -/
theorem Imp.slice {P : Program} {w : World} {μ : Mu} {H : AH} (h : Imp P w μ H) {a : Addr} {len cap z : Nat} {vs : List AV} (hz : 0 < z) (hl : len ≤ cap) (hc0 : HasCells w)
    (hcell : ∀ i, i < cap * z → ∃ v, w.cell? (a.add i) = some v ∧ (i < len * z → ∃ u, vs[i]? = some u ∧ VR μ u v)) (hvl : vs.length = len * z) :
    ∃ μ' H' v, Imp P w μ' H' ∧ μ.le μ' ∧ H.Sub H' ∧ VR μ' v (.slice (some a) len cap) ∧ At H' v z vs := by
  rcases Nat.eq_zero_or_pos cap with rfl | hcap
  · obtain rfl : len = 0 := by omega
    obtain ⟨B, cs, ty, fz, hB⟩ := hc0
    have hvs : vs = [] := List.eq_nil_of_length_eq_zero (by simpa using hvl)
    subst hvs
    obtain ⟨h1, h2⟩ := h.add (vs := []) (off := 0) hB (by simp) (by simpa using VRs.nil)
    refine ⟨_, _, .sl H.next 0 0 z, h1, h2, AH.Sub.new _ _, .sl _ _ _ _ _ _ (Nat.le_refl _) ?_, .inr ⟨_, 0, 0, rfl, by simp, [], false, AH.get_new_self, by simp, fun k hk => by simp at hk⟩⟩
    simp [Mu.set, Slot.slOk]
  · obtain ⟨v0, hv0, _⟩ := hcell 0 (Nat.mul_pos hcap hz)
    have ha : a.spot = none ∧ ∃ (cs : Array Value) (ty : TypeId) (fz : Nat × Nat), w.heap[a.block]? = some (.cells cs ty fz) := by
      unfold World.cell? at hv0
      simp only [Addr.add, if_true] at hv0
      split at hv0
      · rename_i c ty fz hh
        split at hv0
        · cases hv0
        · rename_i hs
          exact ⟨by cases hsp : a.spot <;> simp_all, c, ty, fz, hh⟩
      · cases hv0
    obtain ⟨hsp, cs, ty, fz, hB⟩ := ha
    have hget : ∀ i, w.cell? (a.add i) = cs[a.off + i]? := by
      intro i
      unfold World.cell?
      have hb : (a.add i).block = a.block := by unfold Addr.add; split <;> rfl
      have ho : (a.add i).off = a.off + i := by unfold Addr.add; split <;> simp_all
      have hs : (a.add i).spot = none := by unfold Addr.add; split <;> simp_all
      rw [hb, hB]
      simp [ho, hs]
    have hsize : a.off + cap * z ≤ cs.size := by
      obtain ⟨v, hv, _⟩ := hcell (cap * z - 1) (by have := Nat.mul_pos hcap hz; omega)
      rw [hget] at hv
      have := (Array.getElem?_eq_some_iff.1 hv).1
      have := Nat.mul_pos hcap hz
      omega
    have hlz : len * z ≤ cap * z := Nat.mul_le_mul_right z hl
    obtain ⟨h1, h2⟩ := h.add (vs := vs) (off := a.off) hB (by omega) (VRs.of_get (by simp; omega) fun i x y hx hy => by
      have hi : i < len * z := by rw [← hvl]; exact (List.getElem?_eq_some_iff.1 hx).1
      obtain ⟨v, hv, hu⟩ := hcell i (by omega)
      obtain ⟨u, hu1, hu2⟩ := hu hi
      rw [hget] at hv
      rw [List.getElem?_take_of_lt (by omega), List.getElem?_drop, Array.getElem?_toList, hv] at hy
      rw [hx] at hu1
      cases hu1
      cases hy
      exact hu2)
    refine ⟨_, _, .sl H.next 0 len z, h1, h2, AH.Sub.new _ _, .sl _ _ _ _ _ _ hl ?_, .inr ⟨_, 0, len, rfl, by omega, vs, false, AH.get_new_self, by omega, fun k _ => by rw [Nat.zero_add]⟩⟩
    have : a = ⟨a.block, a.off, none⟩ := by cases a; simp_all
    simp only [Mu.set, if_true, Slot.slOk]
    exact .inr ⟨by simpa using this, by omega⟩

section
open Go.ChangeShapes Go.WideShapes Go.Deep
variable {Hd : Type} {enc : TypeId × Value → Hd} {P : Program} {w : World}

def i64ok (n : Int) : Prop := -9223372036854775808 ≤ n ∧ n ≤ 9223372036854775807
theorem wf_i64 {n : Int} (h : (Lit.int .i64 n).wf = true) : i64ok n := by
  simp only [Lit.wf, Bool.and_eq_true, decide_eq_true_eq] at h
  exact ⟨h.1, h.2⟩

/-- '[]int'. -/
theorem in_ints {μ : Mu} {H : AH} (h : Imp P w μ H) (hc0 : HasCells w) {t e : TypeId} {fuel : Nat} {v : Value} {x : DataW Hd × List MemPlace} (ht : P.underlying t = some (.slice e)) (he : P.underlying e = some (.int .i64)) (hc : P.cellsOf e = 1)
    (hd : DataW.trod enc P w 0 (fun _ => true) true fuel t [v] = some x) :
    ∃ μ' H' u l, Imp P w μ' H' ∧ μ.le μ' ∧ H.Sub H' ∧ VR μ' u v ∧ Ints H' u l ∧ l.length < 9223372036854775808 ∧ ∀ i, i64ok (l.getD i 0) := by
  rcases open_slice1 ht hc hd with ⟨e1, _⟩ | ⟨a, len, cap, m, n, V, D, Pl, e1, _, hl, hm, hmm, _, hx⟩
  · cases e1
    exact ⟨μ, H, .nils, [], h, Mu.le_refl _, AH.Sub.refl _, .nils, Ints.nils _, by simp, fun i => by simp [i64ok]⟩
  · cases e1
    simp only [if_true] at hmm
    subst hmm
    have hV : ∀ i, i < m → ∃ q : Int, V i = .int .i64 q ∧ i64ok q := by
      intro i hi
      obtain ⟨q, hq, _, hw⟩ := DataW.trod_int he (hx i hi).2
      simp only [List.cons.injEq, and_true] at hq
      exact ⟨q, hq, wf_i64 hw⟩
    obtain ⟨f, hf⟩ := choose_lt hV
    obtain ⟨μ', H', u, h1, h2, h3, h4, h5⟩ := h.slice (a := a) (vs := cInts ((List.range len).map f)) (z := 1) (by decide) hl hc0 (fun i hi => ⟨V i, (hx i (by omega)).1, fun hi' => ⟨.int .i64 (f i), by
      simp [cInts, show i < len by omega], by rw [(hf i (by omega)).1]; exact .int _ _⟩⟩) (by simp)
    refine ⟨μ', H', u, (List.range len).map f, h1, h2, h3, h4, h5, by simp; unfold maxLen at hm; omega, fun i => ?_⟩
    rcases Nat.lt_or_ge i len with c | c
    · simp only [List.getD_eq_getElem?_getD, List.getElem?_map, List.getElem?_range c, Option.map_some, Option.getD_some]
      exact (hf i (by omega)).2
    · rw [List.getD_eq_getElem?_getD, List.getElem?_eq_none (by simpa using c)]; simp [i64ok]

/-- '[]Range'. -/
theorem in_rngs {μ : Mu} {H : AH} (h : Imp P w μ H) (hc0 : HasCells w) {t e : TypeId} {f0 f1 : Field} {fuel : Nat} {v : Value} {x : DataW Hd × List MemPlace} (ht : P.underlying t = some (.slice e)) (he : P.underlying e = some (.struct #[f0, f1]))
    (ce : P.cellsOf e = 2) (o0 : f0.offset = 0) (o1 : f1.offset = 1) (c0 : P.cellsOf f0.type = 1) (c1 : P.cellsOf f1.type = 1) (u0 : P.underlying f0.type = some (.int .i64)) (u1 : P.underlying f1.type = some (.int .i64))
    (hd : DataW.trod enc P w 0 (fun _ => true) true fuel t [v] = some x) :
    ∃ μ' H' u l, Imp P w μ' H' ∧ μ.le μ' ∧ H.Sub H' ∧ VR μ' u v ∧ Rngs H' u l ∧ l.length < 9223372036854775808 ∧ ∀ i, i64ok (l.getD i (0, 0)).1 ∧ i64ok (l.getD i (0, 0)).2 := by
  rcases open_slice_pairs ht he ce o0 o1 c0 c1 hd with ⟨e1, _⟩ | ⟨a, len, cap, m, n, V0, V1, D0, D1, P0, P1, e1, _, hl, hm, hmm, _, hx⟩
  · cases e1
    exact ⟨μ, H, .nils, [], h, Mu.le_refl _, AH.Sub.refl _, .nils, Rngs.nils _, by simp, fun i => by simp [i64ok]⟩
  · cases e1
    simp only [if_true] at hmm
    subst hmm
    have hV : ∀ i, i < m → ∃ q : Int × Int, V0 i = .int .i64 q.1 ∧ V1 i = .int .i64 q.2 ∧ i64ok q.1 ∧ i64ok q.2 := by
      intro i hi
      obtain ⟨_, _, g0, g1⟩ := hx i hi
      obtain ⟨q, hq, _, hw⟩ := DataW.trod_int u0 g0
      obtain ⟨r, hr, _, hw'⟩ := DataW.trod_int u1 g1
      simp only [List.cons.injEq, and_true] at hq hr
      exact ⟨(q, r), hq, hr, wf_i64 hw, wf_i64 hw'⟩
    obtain ⟨f, hf⟩ := choose_lt hV
    have hget : ∀ i, i < len → ((List.range len).map f).getD i (0, 0) = f i := fun i hi => by simp [hi]
    obtain ⟨μ', H', u, h1, h2, h3, h4, h5⟩ := h.slice (a := a) (vs := cRngs ((List.range len).map f)) (z := 2) (by decide) hl hc0 (fun i hi => by
      obtain ⟨g0, g1, _, _⟩ := hx (i / 2) (by omega)
      rcases Nat.mod_two_eq_zero_or_one i with c | c
      · rw [show i / 2 * 2 = i by omega] at g0
        refine ⟨V0 (i / 2), g0, fun hi' => ⟨.int .i64 (f (i / 2)).1, ?_, by rw [(hf (i / 2) (by omega)).1]; exact .int _ _⟩⟩
        have := (cRngs_get ((List.range len).map f) (i / 2) (by simp; omega)).1
        rw [hget _ (by omega), show i / 2 * 2 = i by omega] at this
        exact this
      · rw [show i / 2 * 2 + 1 = i by omega] at g1
        refine ⟨V1 (i / 2), g1, fun hi' => ⟨.int .i64 (f (i / 2)).2, ?_, by rw [(hf (i / 2) (by omega)).2.1]; exact .int _ _⟩⟩
        have := (cRngs_get ((List.range len).map f) (i / 2) (by simp; omega)).2
        rw [hget _ (by omega), show i / 2 * 2 + 1 = i by omega] at this
        exact this) (by simp)
    refine ⟨μ', H', u, (List.range len).map f, h1, h2, h3, h4, h5, by simp; unfold maxLen at hm; omega, fun i => ?_⟩
    rcases Nat.lt_or_ge i len with c | c
    · rw [hget i c]; exact ⟨(hf i (by omega)).2.2.1, (hf i (by omega)).2.2.2⟩
    · rw [List.getD_eq_getElem?_getD, List.getElem?_eq_none (by simpa using c)]; simp [i64ok]

/-- Many values, one after the other. -/
theorem in_many {μ : Mu} {H : AH} (h : Imp P w μ H) {α : Type} (V : Nat → Value) (R : AH → AV → α → Prop) (mono : ∀ H H' v x, R H v x → H.Sub H' → R H' v x) (d : α) :
    ∀ (n : Nat), (∀ i, i < n → ∀ μ H, Imp P w μ H → ∃ (μ' : Mu) (H' : AH) (u : AV) (x : α), Imp P w μ' H' ∧ μ.le μ' ∧ H.Sub H' ∧ VR μ' u (V i) ∧ R H' u x) →
      ∃ (μ' : Mu) (H' : AH) (us : List AV) (xs : List α), Imp P w μ' H' ∧ μ.le μ' ∧ H.Sub H' ∧ us.length = n ∧ xs.length = n ∧ ∀ i, i < n → VR μ' (us.getD i .junk) (V i) ∧ R H' (us.getD i .junk) (xs.getD i d)
  | 0, _ => ⟨μ, H, [], [], h, Mu.le_refl _, AH.Sub.refl _, rfl, rfl, fun i hi => by omega⟩
  | n + 1, hs => by
    obtain ⟨μ1, H1, us, xs, h1, h2, h3, h4, h5, h6⟩ := in_many h V R mono d n fun i hi => hs i (by omega)
    obtain ⟨μ2, H2, u, x, g1, g2, g3, g4, g5⟩ := hs n (by omega) μ1 H1 h1
    refine ⟨μ2, H2, us ++ [u], xs ++ [x], g1, Mu.le_trans h2 g2, h3.trans g3, by simp [h4], by simp [h5], fun i hi => ?_⟩
    rcases Nat.lt_or_ge i n with c | c
    · rw [List.getD_eq_getElem?_getD, List.getElem?_append_left (by omega), ← List.getD_eq_getElem?_getD, List.getD_eq_getElem?_getD (l := xs ++ [x]), List.getElem?_append_left (by omega), ← List.getD_eq_getElem?_getD]
      exact ⟨(h6 i c).1.mono g2, mono _ _ _ _ (h6 i c).2 g3⟩
    · obtain rfl : i = n := by omega
      have e1 : (us ++ [u]).getD i .junk = u := by rw [← h4]; simp
      have e2 : (xs ++ [x]).getD i d = x := by rw [← h5]; simp
      rw [e1, e2]
      exact ⟨g4, g5⟩

/-- All arguments read behind the call as they did. -/
theorem trodAll_below (hl : laidOutB P = true) {w' : World} (hb : Below w.heap.size w w') : ∀ (ts : List TypeId) (vs : List Value) (ds : List (DataW Hd)) (ps : List MemPlace),
    (∀ t, t ∈ ts → P.readableRec t = true ∧ t < P.types.size) → DataW.TrodAll enc P w 0 (fun _ => true) true ts vs ds ps → (∀ x, x ∈ ps → x.block < w.heap.size) →
    DataW.TrodAll enc P w' 0 (fun b => decide (b < w.heap.size)) true ts vs ds ps
  | [], [], [], ps, _, h, _ => h
  | t :: ts, v :: vs, d :: ds, ps, ht, h, hp => by
    obtain ⟨p, q, h1, h2, rfl⟩ := h
    exact ⟨p, q, Below.trod hl (ht t (by simp)).1 (ht t (by simp)).2 h1 hb (fun x hx => hp x (by simp [hx])), trodAll_below hl hb ts vs ds q (fun t' h' => ht t' (by simp [h'])) h2 (fun x hx => hp x (by simp [hx])), rfl⟩
  | [], _ :: _, _, _, _, h, _ => h.elim
  | [], [], _ :: _, _, _, h, _ => h.elim
  | _ :: _, [], _, _, _, h, _ => h.elim
  | _ :: _, _ :: _, [], _, _, h, _ => h.elim
end
end Am

namespace Sp
open Go Am
abbrev Rng := Int × Int
def okTol (x : Int) : Bool := decide (0 ≤ x ∧ x ≤ 1000000)
def chkRngs : List Rng → Int
  | [] => 0
  | r :: l => if r.2 < r.1 then 11 else if r.1 < -1000000000 then 2 else if 1000000000 < r.2 then 2 else chkRngs l
def chkItem (n : Nat) (l : List Rng) : Int := if l.length = n then chkRngs l else 3
def chkItems (n : Nat) : List (List Rng) → Int
  | [] => 0
  | l :: r => if chkItem n l = 0 then chkItems n r else chkItem n l
def check (t : List Int) (I : List (List Rng)) : Int :=
  if t.length = 0 then 6 else if 4 < t.length then 8 else if t.any (fun x => !okTol x) then 2 else if 24 < I.length then 8 else chkItems t.length I
theorem ci_form {n : Nat} {l : List Rng} {r : List (List Rng)} (h : l.length ≠ n) : chkItems n (l :: r) = 3 := by
  simp [chkItems, chkItem, h]
theorem ci_bad {n : Nat} {l : List Rng} {r : List (List Rng)} {v : Int} (h : l.length = n) (hv : chkRngs l = v) (h0 : v ≠ 0) : chkItems n (l :: r) = v := by
  simp [chkItems, chkItem, h, hv, h0]
theorem ci_ok {n : Nat} {l : List Rng} {r : List (List Rng)} (h : l.length = n) (hv : chkRngs l = 0) : chkItems n (l :: r) = chkItems n r := by
  simp [chkItems, chkItem, h, hv]
theorem ci_err {n : Nat} {l : List Rng} {r : List (List Rng)} (h : chkItem n l ≠ 0) : chkItems n (l :: r) = chkItem n l := by
  simp [chkItems, h]
theorem ci_zero {n : Nat} {l : List Rng} {r : List (List Rng)} (h : chkItem n l = 0) : chkItems n (l :: r) = chkItems n r := by
  simp [chkItems, h]
theorem cr_11 {r : Rng} {l : List Rng} (h : r.2 < r.1) : chkRngs (r :: l) = 11 := by simp [chkRngs, h]
theorem cr_2 {r : Rng} {l : List Rng} (h : ¬ r.2 < r.1) (h2 : r.1 < -1000000000 ∨ 1000000000 < r.2) : chkRngs (r :: l) = 2 := by
  rcases h2 with h2 | h2 <;> simp [chkRngs, h, h2]
theorem cr_ok {r : Rng} {l : List Rng} (h : ¬ r.2 < r.1) (h1 : ¬ r.1 < -1000000000) (h2 : ¬ 1000000000 < r.2) : chkRngs (r :: l) = chkRngs l := by
  simp [chkRngs, h, h1, h2]
/-- Are two items alike for the values from one on? -/
def near (t : List Int) (x y : List Rng) : Bool :=
  (List.range t.length).all fun i => decide ((x.getD i (0, 0)).2 - (y.getD i (0, 0)).1 ≤ t.getD i 0) && decide ((y.getD i (0, 0)).2 - (x.getD i (0, 0)).1 ≤ t.getD i 0)
def alike (t : List Int) (I : List (List Rng)) (a b : Nat) : Bool := decide (a ≠ b) && near t (I.getD a []) (I.getD b [])
def alikeS (t : List Int) (I : List (List Rng)) (a b : Int) : Bool :=
  decide (check t I = 0) && (decide (0 ≤ a ∧ a < I.length) && decide (0 ≤ b ∧ b < I.length)) && alike t I a.toNat b.toNat
def idxf {α : Type} (p : α → Bool) (l : List α) : Int := if l.any p then (l.findIdx p : Nat) else -1

/-- A valid sorting. -/
structure Ok (t : List Int) (I : List (List Rng)) : Prop where
  tl : 1 ≤ t.length ∧ t.length ≤ 4
  tol : ∀ i, i < t.length → 0 ≤ t.getD i 0 ∧ t.getD i 0 ≤ 1000000
  il : I.length ≤ 24
  len : ∀ i, i < I.length → (I.getD i []).length = t.length
  rng : ∀ i k, i < I.length → k < t.length → -1000000000 ≤ ((I.getD i []).getD k (0, 0)).1 ∧ ((I.getD i []).getD k (0, 0)).1 ≤ ((I.getD i []).getD k (0, 0)).2 ∧ ((I.getD i []).getD k (0, 0)).2 ≤ 1000000000
theorem chkRngs_ok : ∀ (l : List Rng), chkRngs l = 0 ↔ ∀ k, k < l.length → -1000000000 ≤ (l.getD k (0, 0)).1 ∧ (l.getD k (0, 0)).1 ≤ (l.getD k (0, 0)).2 ∧ (l.getD k (0, 0)).2 ≤ 1000000000
  | [] => by simp [chkRngs]
  | r :: l => by
    have ih := chkRngs_ok l
    unfold chkRngs
    constructor
    · intro h
      split at h
      · omega
      split at h
      · omega
      split at h
      · omega
      intro k hk
      cases k with
      | zero => simp; omega
      | succ k => have := ih.1 h k (by simpa using hk); simpa using this
    · intro h
      have h0 := h 0 (by simp)
      simp only [List.getD_cons_zero] at h0
      rw [if_neg (by omega), if_neg (by omega), if_neg (by omega)]
      exact ih.2 fun k hk => by have := h (k + 1) (by simpa using hk); simpa using this
theorem chkItems_ok (n : Nat) : ∀ (I : List (List Rng)), chkItems n I = 0 ↔ ∀ i, i < I.length → (I.getD i []).length = n ∧ chkRngs (I.getD i []) = 0
  | [] => by simp [chkItems]
  | l :: I => by
    have ih := chkItems_ok n I
    unfold chkItems
    constructor
    · intro h
      split at h
      · rename_i h0
        unfold chkItem at h0
        split at h0
        · intro i hi
          cases i with
          | zero => simp; exact ⟨by assumption, h0⟩
          | succ i => have := ih.1 h i (by simpa using hi); simpa using this
        · omega
      · exact absurd h (by assumption)
    · intro h
      have h0 := h 0 (by simp)
      simp only [List.getD_cons_zero] at h0
      have : chkItem n l = 0 := by simp [chkItem, h0.1, h0.2]
      rw [if_pos this]
      exact ih.2 fun i hi => by have := h (i + 1) (by simpa using hi); simpa using this
theorem check_ok (t : List Int) (I : List (List Rng)) : check t I = 0 ↔ Ok t I := by
  unfold check
  constructor
  · intro h
    split at h
    · omega
    split at h
    · omega
    split at h
    · omega
    rename_i h1 h2 h3
    split at h
    · omega
    have hI := (chkItems_ok _ I).1 h
    refine ⟨by omega, fun i hi => ?_, by omega, fun i hi => (hI i hi).1, fun i k hi hk => (chkRngs_ok _).1 (hI i hi).2 k (by rw [(hI i hi).1]; exact hk)⟩
    have h3 : ∀ x, x ∈ t → okTol x = true := by simpa using h3
    have := h3 t[i] (List.getElem_mem hi)
    simp only [okTol, decide_eq_true_eq] at this
    simpa [hi] using this
  · intro h
    rw [if_neg (by have := h.tl; omega), if_neg (by have := h.tl; omega), if_neg, if_neg (by have := h.il; omega)]
    · exact (chkItems_ok _ I).2 fun i hi => ⟨h.len i hi, (chkRngs_ok _).2 fun k hk => h.rng i k hi (by rw [← h.len i hi]; exact hk)⟩
    · simp only [List.any_eq_true, not_exists, not_and]
      intro x hx
      obtain ⟨i, hi, rfl⟩ := List.mem_iff_getElem.1 hx
      have := h.tol i hi
      have e : t.getD i 0 = t[i] := by simp [hi]
      rw [e] at this
      simp [okTol, this.1, this.2]
theorem any_bad {t : List Int} {i : Nat} (hi : i < t.length) (h : okTol (t.getD i 0) = false) : t.any (fun x => !okTol x) = true := by
  rw [List.any_eq_true]
  exact ⟨t[i], List.getElem_mem hi, by rw [show t.getD i 0 = t[i] by simp [hi]] at h; rw [h]; rfl⟩
theorem any_good {t : List Int} (h : ∀ j, j < t.length → okTol (t.getD j 0) = true) : t.any (fun x => !okTol x) = false := by
  rw [← Bool.not_eq_true, List.any_eq_true]
  rintro ⟨x, hx, hx'⟩
  obtain ⟨j, hj, rfl⟩ := List.mem_iff_getElem.1 hx
  have := h j hj
  rw [show t.getD j 0 = t[j] by simp [hj]] at this
  simp [this] at hx'
theorem check6 {t : List Int} {I : List (List Rng)} (h : t.length = 0) : check t I = 6 := by unfold check; rw [if_pos h]
theorem check8 {t : List Int} {I : List (List Rng)} (h : 4 < t.length) : check t I = 8 := by unfold check; rw [if_neg (by omega), if_pos h]
theorem check2 {t : List Int} {I : List (List Rng)} (h0 : t.length ≠ 0) (h : ¬ 4 < t.length) (h2 : t.any (fun x => !okTol x) = true) : check t I = 2 := by unfold check; rw [if_neg h0, if_neg h, if_pos h2]
theorem check8' {t : List Int} {I : List (List Rng)} (h0 : t.length ≠ 0) (h : ¬ 4 < t.length) (h2 : t.any (fun x => !okTol x) = false) (h3 : 24 < I.length) : check t I = 8 := by unfold check; rw [if_neg h0, if_neg h, h2, if_neg (by simp), if_pos h3]
theorem check_items {t : List Int} {I : List (List Rng)} (h0 : t.length ≠ 0) (h : ¬ 4 < t.length) (h2 : t.any (fun x => !okTol x) = false) (h3 : ¬ 24 < I.length) : check t I = chkItems t.length I := by unfold check; rw [if_neg h0, if_neg h, h2, if_neg (by simp), if_neg h3]
theorem near_true {t : List Int} {x y : List Rng} (h : ∀ i, i < t.length → (x.getD i (0, 0)).2 - (y.getD i (0, 0)).1 ≤ t.getD i 0 ∧ (y.getD i (0, 0)).2 - (x.getD i (0, 0)).1 ≤ t.getD i 0) : near t x y = true := by
  unfold near
  rw [List.all_eq_true]
  intro i hi
  have := h i (by simpa using hi)
  simp only [this.1, this.2, decide_true, Bool.and_self]
theorem near_false {t : List Int} {x y : List Rng} (i : Nat) (hi : i < t.length) (h : ¬ ((x.getD i (0, 0)).2 - (y.getD i (0, 0)).1 ≤ t.getD i 0 ∧ (y.getD i (0, 0)).2 - (x.getD i (0, 0)).1 ≤ t.getD i 0)) : near t x y = false := by
  unfold near
  rw [← Bool.not_eq_true, List.all_eq_true]
  intro c
  have := c i (by simpa using hi)
  simp only [Bool.and_eq_true, decide_eq_true_eq] at this
  exact h this
theorem near_symm (t : List Int) (x y : List Rng) : near t x y = near t y x := by
  unfold near
  congr 1
  funext i
  exact Bool.and_comm _ _

/-- A sorting that lies in memory. -/
structure SortAt (H : AH) (a b : AV) (t : List Int) (I : List (List Rng)) (vs : List AV) : Prop where
  tol : Ints H a t
  items : Vals H b vs
  len : vs.length = I.length
  item : ∀ i, i < I.length → Rngs H (vs.getD i .junk) (I.getD i [])
  small : t.length ≤ 40 ∧ I.length ≤ 40 ∧ ∀ i, (I.getD i []).length ≤ 40
theorem SortAt.mono {H H' : AH} {a b : AV} {t : List Int} {I : List (List Rng)} {vs : List AV} (h : SortAt H a b t I vs) (hs : H.Sub H') : SortAt H' a b t I vs :=
  ⟨h.tol.mono hs, h.items.mono hs, h.len, fun i hi => (h.item i hi).mono hs, h.small⟩

/-- A sorting in memory, of whatever size. -/
structure SortAt0 (H : AH) (a b : AV) (t : List Int) (I : List (List Rng)) (vs : List AV) : Prop where
  tol : Ints H a t
  items : Vals H b vs
  len : vs.length = I.length
  item : ∀ i, i < I.length → Rngs H (vs.getD i .junk) (I.getD i [])
  t62 : t.length < 9223372036854775808
  i62 : I.length < 9223372036854775808
  n62 : ∀ i, (I.getD i []).length < 9223372036854775808
theorem SortAt0.mono {H H' : AH} {a b : AV} {t : List Int} {I : List (List Rng)} {vs : List AV} (h : SortAt0 H a b t I vs) (hs : H.Sub H') : SortAt0 H' a b t I vs :=
  ⟨h.tol.mono hs, h.items.mono hs, h.len, fun i hi => (h.item i hi).mono hs, h.t62, h.i62, h.n62⟩
def largeS (t : List Int) (I : List (List Rng)) : Bool := decide (20 < t.length) || decide (40 < I.length) || I.any fun l => decide (20 < l.length)
theorem largeS_tol {t : List Int} {I : List (List Rng)} (h : 20 < t.length) : largeS t I = true := by simp [largeS, h]
theorem largeS_items {t : List Int} {I : List (List Rng)} (h : 40 < I.length) : largeS t I = true := by simp [largeS, h]
theorem largeS_item {t : List Int} {I : List (List Rng)} (i : Nat) (hi : i < I.length) (h : 20 < (I.getD i []).length) : largeS t I = true := by
  have : I.any (fun l => decide (20 < l.length)) = true := List.any_eq_true.2 ⟨I[i], List.getElem_mem hi, by rw [show I.getD i [] = I[i] by simp [hi]] at h; simpa using h⟩
  simp [largeS, this]
theorem largeS_no {t : List Int} {I : List (List Rng)} (h : ¬ 20 < t.length) (h2 : ¬ 40 < I.length) (h3 : ∀ j, j < I.length → (I.getD j []).length ≤ 20) : largeS t I = false := by
  have : I.any (fun l => decide (20 < l.length)) = false := by
    rw [← Bool.not_eq_true, List.any_eq_true]
    rintro ⟨x, hx, hx'⟩
    obtain ⟨j, hj, rfl⟩ := List.mem_iff_getElem.1 hx
    have := h3 j hj
    rw [show I.getD j [] = I[j] by simp [hj]] at this
    simp at hx'
    omega
  rw [largeS, this, decide_eq_false h, decide_eq_false h2]; rfl
theorem largeS_small {t : List Int} {I : List (List Rng)} (h : largeS t I = false) : t.length ≤ 20 ∧ I.length ≤ 40 ∧ ∀ i, (I.getD i []).length ≤ 20 := by
  simp only [largeS, Bool.or_eq_false_iff, decide_eq_false_iff_not] at h
  refine ⟨by omega, by omega, fun i => ?_⟩
  rcases Nat.lt_or_ge i I.length with c | c
  · have h3 := h.2
    rw [← Bool.not_eq_true, List.any_eq_true] at h3
    rw [show I.getD i [] = I[i] by simp [c]]
    refine Classical.byContradiction fun hc => h3 ⟨I[i], List.getElem_mem c, by simpa using hc⟩
  · rw [List.getD_eq_getElem?_getD, List.getElem?_eq_none c]; simp
theorem SortAt0.small {H : AH} {a b : AV} {t : List Int} {I : List (List Rng)} {vs : List AV} (h : SortAt0 H a b t I vs) (hl : largeS t I = false) : SortAt H a b t I vs := by
  obtain ⟨h1, h2, h3⟩ := largeS_small hl
  exact ⟨h.tol, h.items, h.len, h.item, by omega, by omega, fun i => by have := h3 i; omega⟩
theorem drop_cons {α : Type} (l : List α) (i : Nat) (d : α) (h : i < l.length) : l.drop i = l.getD i d :: l.drop (i + 1) := by
  rw [List.drop_eq_getElem_cons h]
  congr 1
  simp [h]
theorem idxf_none {α : Type} (p : α → Bool) (l : List α) (d : α) (h : ∀ j, j < l.length → p (l.getD j d) = false) : idxf p l = -1 := by
  unfold idxf
  rw [if_neg]
  simp only [List.any_eq_true, not_exists, not_and, Bool.not_eq_true]
  intro x hx
  obtain ⟨j, hj, rfl⟩ := List.mem_iff_getElem.1 hx
  have := h j hj
  simpa [hj] using this
theorem idxf_some {α : Type} (p : α → Bool) (l : List α) (d : α) (i : Nat) (hi : i < l.length) (h : ∀ j, j < i → p (l.getD j d) = false) (hp : p (l.getD i d) = true) : idxf p l = i := by
  unfold idxf
  have e : l.getD i d = l[i] := by simp [hi]
  rw [e] at hp
  rw [if_pos (List.any_eq_true.2 ⟨_, List.getElem_mem hi, hp⟩)]
  congr 1
  rw [List.findIdx_eq hi]
  exact ⟨hp, fun j hj => by have := h j hj; have hj' : j < l.length := by omega
                            simpa [hj'] using this⟩
theorem idxf_nonneg {α : Type} (p : α → Bool) (l : List α) : decide (0 ≤ idxf p l) = l.any p := by
  unfold idxf
  split
  · rename_i h; rw [h]; simp
  · rename_i h; simp only [Bool.not_eq_true] at h; rw [h]; rfl
end Sp

namespace Sp
open Go Am Go.Deep
variable {Hd : Type} {enc : TypeId × Value → Hd} {P : Program} {w : World}

structure SortTy (P : Program) (ts tol ti items tr : TypeId) (rng : TypeId) (f0 f1 g0 g1 : Field) : Prop where
  s : P.underlying ts = some (.struct #[f0, f1])
  size : P.cellsOf ts = 2
  n0 : f0.type = tol ∧ f0.offset = 0
  n1 : f1.type = items ∧ f1.offset = 1
  ktol : P.underlying tol = some (.slice ti)
  kti : P.underlying ti = some (.int .i64)
  kitems : P.underlying items = some (.slice tr)
  ktr : P.underlying tr = some (.slice rng)
  krng : P.underlying rng = some (.struct #[g0, g1])
  crng : P.cellsOf rng = 2
  o0 : g0.offset = 0
  o1 : g1.offset = 1
  u0 : P.underlying g0.type = some (.int .i64)
  u1 : P.underlying g1.type = some (.int .i64)
  c1 : P.cellsOf ti = 1 ∧ P.cellsOf tol = 1 ∧ P.cellsOf items = 1 ∧ P.cellsOf tr = 1 ∧ P.cellsOf g0.type = 1 ∧ P.cellsOf g1.type = 1

/-- A sorting, from two cells. -/
theorem in_sort2 {ts tol ti items tr rng : TypeId} {f0 f1 g0 g1 : Field} (Y : SortTy P ts tol ti items tr rng f0 f1 g0 g1) {μ : Mu} {H : AH} (h : Imp P w μ H) (hc0 : HasCells w) {n : Nat} {v0 v1 : Value} {x0 x1 : DataW Hd × List MemPlace}
    (h0 : DataW.trod enc P w 0 (fun _ => true) true n tol [v0] = some x0) (h1 : DataW.trod enc P w 0 (fun _ => true) true n items [v1] = some x1) :
    ∃ (μ' : Mu) (H' : AH) (a b : AV) (t : List Int) (I : List (List Rng)) (vs : List AV), Imp P w μ' H' ∧ μ.le μ' ∧ H.Sub H' ∧ VR μ' a v0 ∧ VR μ' b v1 ∧ SortAt0 H' a b t I vs ∧ (∀ i k, i64ok ((I.getD i []).getD k (0, 0)).1 ∧ i64ok ((I.getD i []).getD k (0, 0)).2) := by
  obtain ⟨μ1, H1, a, t, i1, i2, i3, i4, i5, i6, i7⟩ := in_ints h hc0 Y.ktol Y.kti Y.c1.1 h0
  rcases open_slice1 Y.kitems Y.c1.2.2.2.1 h1 with ⟨e1, _⟩ | ⟨ad, len, cap, m, k, V, D, Pl, e1, _, hl, hm, hmm, _, hx⟩
  · cases e1
    exact ⟨μ1, H1, a, .nils, t, [], [], i1, i2, i3, i4, .nils, ⟨i5, Vals.nils _, rfl, fun i hi => by simp at hi, i6, by simp, fun i => by simp⟩, fun i k => by simp [i64ok]⟩
  · cases e1
    simp only [if_true] at hmm
    subst hmm
    obtain ⟨μ2, H2, us, xs, j1, j2, j3, j4, j5, j6⟩ := in_many i1 (α := List Rng) V (fun H v x => Rngs H v x ∧ x.length < 9223372036854775808 ∧ ∀ i, i64ok (x.getD i (0, 0)).1 ∧ i64ok (x.getD i (0, 0)).2)
      (fun H H' v x hr hs => ⟨hr.1.mono hs, hr.2⟩) [] m (fun i hi μ H hi' => by
        obtain ⟨μ3, H3, u, l, k1, k2, k3, k4, k5, k6, k7⟩ := in_rngs hi' hc0 Y.ktr Y.krng Y.crng Y.o0 Y.o1 Y.c1.2.2.2.2.1 Y.c1.2.2.2.2.2 Y.u0 Y.u1 (hx i hi).2
        exact ⟨μ3, H3, u, l, k1, k2, k3, k4, k5, k6, k7⟩)
    obtain ⟨μ4, H4, b, l1, l2, l3, l4, l5⟩ := j1.slice (a := ad) (vs := us.take len) (z := 1) (by decide) hl hc0 (fun i hi => ⟨V i, (hx i (by omega)).1, fun hi' => ⟨us.getD i .junk, by
      rw [List.getElem?_take_of_lt (by omega), List.getD_eq_getElem?_getD, List.getElem?_eq_getElem (by omega)]; simp, (j6 i (by omega)).1⟩⟩) (by simp; omega)
    have hg : ∀ i, i < len → (us.take len).getD i .junk = us.getD i .junk := fun i hi => by simp [List.getD_eq_getElem?_getD, List.getElem?_take_of_lt hi]
    have hgx : ∀ i, i < len → (xs.take len).getD i [] = xs.getD i [] := fun i hi => by simp [List.getD_eq_getElem?_getD, List.getElem?_take_of_lt hi]
    have hgn : ∀ i, ¬ i < len → (xs.take len).getD i [] = [] := fun i hi => by rw [List.getD_eq_getElem?_getD, List.getElem?_eq_none (by simp; omega)]; rfl
    refine ⟨μ4, H4, a, b, t, xs.take len, us.take len, l1, Mu.le_trans i2 (Mu.le_trans j2 l2), i3.trans (j3.trans l3), (i4.mono j2).mono l2, l4, ⟨(i5.mono j3).mono l3, l5, by simp; omega, fun i hi => ?_, i6, by simp; unfold maxLen at hm; omega, fun i => ?_⟩, fun i k => ?_⟩
    · have hi' : i < len := by simp at hi; omega
      rw [hg i hi', hgx i hi']
      exact (j6 i (by omega)).2.1.mono l3
    · by_cases c : i < len
      · rw [hgx i c]; exact (j6 i (by omega)).2.2.1
      · rw [hgn i c]; simp
    · by_cases c : i < len
      · rw [hgx i c]; exact (j6 i (by omega)).2.2.2 k
      · rw [hgn i c]; simp [i64ok]

/-- A sorting as an argument. -/
theorem in_sort {ts tol ti items tr rng : TypeId} {f0 f1 g0 g1 : Field} (Y : SortTy P ts tol ti items tr rng f0 f1 g0 g1) {μ : Mu} {H : AH} (h : Imp P w μ H) (hc0 : HasCells w) {v : Value} {d : DataW Hd} {ps : List MemPlace} (hf : v.formed P ts = true)
    (hd : DataW.Trod enc P w 0 (fun _ => true) true ts v d ps) :
    ∃ (μ' : Mu) (H' : AH) (a b : AV) (t : List Int) (I : List (List Rng)) (vs : List AV), Imp P w μ' H' ∧ μ.le μ' ∧ H.Sub H' ∧ VR μ' (.agg [a, b]) v ∧ SortAt0 H' a b t I vs ∧ (∀ i k, i64ok ((I.getD i []).getD k (0, 0)).1 ∧ i64ok ((I.getD i []).getD k (0, 0)).2) := by
  obtain ⟨fuel, hd⟩ := hd
  obtain ⟨xs, n, rfl, _, hlen, hxl, hfs⟩ := DataW.trod_struct Y.s hd
  have hv : ∃ cs, v = .agg cs := by
    unfold Value.formed at hf
    rw [Y.s] at hf
    cases v <;> simp at hf
    exact ⟨_, rfl⟩
  obtain ⟨cs, rfl⟩ := hv
  rw [Y.size] at hlen
  simp only [Value.cells] at hlen hfs
  obtain ⟨v0, v1, hcs⟩ : ∃ v0 v1, cs.toList = [v0, v1] := by
    match h : cs.toList, hlen with
    | [a, b], _ => exact ⟨a, b, rfl⟩
  rw [hcs] at hfs
  match xs, hxl with
  | [x0, x1], _ =>
    have e0 := hfs 0 f0 rfl
    have e1 := hfs 1 f1 rfl
    rw [Y.n0.1, Y.n0.2, Y.c1.2.1] at e0
    rw [Y.n1.1, Y.n1.2, Y.c1.2.2.1] at e1
    simp at e0 e1
    obtain ⟨μ', H', a, b, t, I, vs, g1, g2, g3, g4, g5, g6, g7⟩ := in_sort2 Y h hc0 e0 e1
    exact ⟨μ', H', a, b, t, I, vs, g1, g2, g3, .agg _ _ (by rw [hcs]; exact .cons _ _ _ _ g4 (.cons _ _ _ _ g5 .nil)), g6, g7⟩
end Sp

namespace Am
open Go Sp
theorem OwnS.intsLen {H : AH} {v : AV} {l : List Int} (h : OwnS H v 1 (cInts l)) : LenOf v l.length := h.len (by decide) (by simp)
theorem OwnS.valsLen {H : AH} {v : AV} {l : List AV} (h : OwnS H v 1 l) : LenOf v l.length := h.len (by decide) (by simp)
theorem OwnS.rngsLen {H : AH} {v : AV} {l : List Rng} (h : OwnS H v 2 (cRngs l)) : LenOf v l.length := h.len (by decide) (by simp)
theorem OwnS.keepX {H H' : AH} {v : AV} {z : Nat} {cs : List AV} {ds : List Nat} (h : OwnS H v z cs) (hs : AH.SubX ds H H') (k : ∀ c, c ∈ v.blocks → c ∉ ds) : OwnS H' v z cs :=
  h.keep fun b x hb hx => hs.get b x (k b hb) hx
end Am
namespace Sp
open Go Am
/-- A sorting that is being made. -/
structure SData (H : AH) (N : Nat) (u w : AV) (t : List Int) (I : List (List Rng)) (vs : List AV) : Prop where
  fu : OwnS H u 1 (cInts t)
  ub : ∀ c, c ∈ u.blocks → N ≤ c
  fw : OwnS H w 1 vs
  wb : ∀ c, c ∈ w.blocks → N ≤ c
  uw : ∀ c, c ∈ u.blocks → c ∉ w.blocks
  len : vs.length = I.length
  item : ∀ k, k < I.length → OwnS H (vs.getD k .junk) 2 (cRngs (I.getD k [])) ∧ ∀ c, c ∈ (vs.getD k .junk).blocks → N ≤ c ∧ c ∉ w.blocks
theorem SData.keep {H H' : AH} {N : Nat} {u w : AV} {t : List Int} {I : List (List Rng)} {vs : List AV} {ds : List Nat} (h : SData H N u w t I vs) (hs : AH.SubX ds H H') (hd : ∀ b, b ∈ ds → b < N) : SData H' N u w t I vs :=
  ⟨h.fu.keepX hs fun c hc hm => by have := h.ub c hc; have := hd c hm; omega, h.ub, h.fw.keepX hs fun c hc hm => by have := h.wb c hc; have := hd c hm; omega, h.wb, h.uw, h.len,
   fun k hk => ⟨(h.item k hk).1.keepX hs fun c hc hm => by have := ((h.item k hk).2 c hc).1; have := hd c hm; omega, (h.item k hk).2⟩⟩
theorem getD_snoc_lt {α : Type} {l : List α} {a d : α} {k : Nat} (h : k < l.length) : (l ++ [a]).getD k d = l.getD k d := by
  simp [h, List.getElem?_append_left]
theorem getD_snoc_eq {α : Type} {l : List α} {a d : α} : (l ++ [a]).getD l.length d = a := by simp
theorem SData.push {H H' : AH} {N : Nat} {u w w' g : AV} {t : List Int} {I : List (List Rng)} {vs : List AV} {l : List Rng} (h : SData H N u w t I vs) (hw : OwnS H' w' 1 (vs ++ [g])) (hb : ∀ c, c ∈ w'.blocks → c ∈ w.blocks ∨ c = H.next)
    (hN : N ≤ H.next) (hs : AH.SubX w.blocks H H') (hg : OwnS H g 2 (cRngs l)) (hgb : ∀ c, c ∈ g.blocks → N ≤ c ∧ c ∉ w.blocks) : SData H' N u w' t (I ++ [l]) (vs ++ [g]) where
  fu := h.fu.keepX hs h.uw
  ub := h.ub
  fw := hw
  wb := fun c hc => by rcases hb c hc with k | k; exact h.wb c k; omega
  uw := fun c hc hm => by
    rcases hb c hm with k | k
    · exact h.uw c hc k
    · have := h.fu.lt hc; omega
  len := by simp [h.len]
  item := fun k hk => by
    simp only [List.length_append, List.length_singleton] at hk
    rcases Nat.lt_or_ge k I.length with c | c
    · rw [getD_snoc_lt (by rw [h.len]; exact c), getD_snoc_lt c]
      refine ⟨(h.item k c).1.keepX hs fun b hb => ((h.item k c).2 b hb).2, fun b hb' => ⟨((h.item k c).2 b hb').1, fun hm => ?_⟩⟩
      rcases hb b hm with q | q
      · exact ((h.item k c).2 b hb').2 q
      · have := (h.item k c).1.lt hb'; omega
    · obtain rfl : k = I.length := by omega
      rw [getD_snoc_eq, ← h.len, getD_snoc_eq]
      refine ⟨hg.keepX hs fun b hb => (hgb b hb).2, fun b hb' => ⟨(hgb b hb').1, fun hm => ?_⟩⟩
      rcases hb b hm with q | q
      · exact (hgb b hb').2 q
      · have := hg.lt hb'; omega
theorem SData.sort {H : AH} {N : Nat} {u w : AV} {t : List Int} {I : List (List Rng)} {vs : List AV} (h : SData H N u w t I vs) (h1 : t.length ≤ 40) (h2 : I.length ≤ 40) (h3 : ∀ i, (I.getD i []).length ≤ 40) : SortAt H u w t I vs :=
  ⟨h.fu.at, h.fw.at, h.len, fun i hi => (h.item i hi).1.at, h1, h2, h3⟩
theorem cInts_snoc (l : List Int) (z : Int) : cInts l ++ [.int .i64 z] = cInts (l ++ [z]) := by simp [cInts]
theorem cRngs_snoc (l : List Rng) (p : Rng) : cRngs l ++ [.int .i64 p.1, .int .i64 p.2] = cRngs (l ++ [p]) := by simp [cRngs, cRng]
end Sp
