/- A part of the proof: AmB. It holds for whatever its statements name; no condition beyond theirs. -/
import Derived.Test.YtllbpnmhoblkgaaDoorAmA
import Derived.Laws.Strings
namespace Am
open Go Go.RowKit

section
variable {P : Program} {w : World}

theorem run_und {t : TypeId} {d : TypeDesc} (h : P.underlying t = some d) : (underlying t).run P w = .ok d w := by simp [underlying, h]
theorem run_isAgg' {t : TypeId} {g : Bool} (h : aggAt P t = some g) : (isAgg t).run P w = .ok g w := by
  unfold aggAt at h
  cases hu : P.underlying t with
  | none => rw [hu] at h; cases h
  | some d => rw [hu] at h; simp only [isAgg, Sem.run_bind, run_und hu, Result.andThen_ok]; cases d <;> (simp at h; subst h; rfl)
theorem run_size' {t : TypeId} {n : Nat} (h : sizeAt P t = some n) : (Go.sizeOf t).run P w = .ok n w := by
  unfold sizeAt at h
  cases hi : P.info? t with
  | none => rw [hi] at h; cases h
  | some i => rw [hi] at h; simp at h; subst h; simp [Go.sizeOf, typeInfo, hi]
theorem run_info {t : TypeId} {i : TypeInfo} (hi : P.info? t = some i) : (typeInfo t).run P w = .ok i w := by simp [typeInfo, hi]
theorem run_bytes {t : TypeId} {n : Nat} (h : bytesAt P t = some n) : ∃ i, P.info? t = some i ∧ i.bytes = n := by
  unfold bytesAt at h
  cases hi : P.info? t with
  | none => rw [hi] at h; cases h
  | some i => rw [hi] at h; simp at h; exact ⟨i, rfl, h⟩
theorem run_zero {t : TypeId} {cs : List AV} (h : zeroAt P t = some cs) : ∃ z, (∀ w, (zeroValue t).run P w = .ok z w) ∧ cellsOf z = some cs := by
  unfold zeroAt at h
  cases hi : P.info? t with
  | none => rw [hi] at h; cases h
  | some i =>
    cases hz : i.zero with
    | none => rw [hi] at h; simp [hz] at h
    | some z =>
      rw [hi] at h
      simp [hz] at h
      exact ⟨z, fun w => by simp [zeroValue, typeInfo, hi, hz], h⟩
theorem shAt_one {t : TypeId} (h : shAt P t = some .one) : aggAt P t = some false := by
  unfold shAt at h
  cases hg : aggAt P t with
  | none => simp [hg] at h
  | some g =>
    cases g with
    | false => rfl
    | true =>
      simp only [hg, Option.bind_eq_bind, Option.bind_some, if_true] at h
      cases hs : sizeAt P t <;> simp [hs] at h
theorem shAt_many {t : TypeId} {n : Nat} (h : shAt P t = some (.many n)) : aggAt P t = some true ∧ sizeAt P t = some n := by
  unfold shAt at h
  cases hg : aggAt P t with
  | none => simp [hg] at h
  | some g =>
    cases g with
    | false => simp [hg] at h
    | true =>
      simp only [hg, Option.bind_eq_bind, Option.bind_some, if_true] at h
      cases hs : sizeAt P t with
      | none => simp [hs] at h
      | some k => simp [hs] at h; exact ⟨rfl, by rw [h]⟩

theorem cell_at {B : Nat} {cs : Array Value} {ty : TypeId} {fz : Nat × Nat} (h : w.heap[B]? = some (.cells cs ty fz)) (i : Nat) : w.cell? ⟨B, i, none⟩ = cs[i]? := by simp [World.cell?, h]

variable {μ : Mu}
theorem cellsR_get {B base csz : Nat} {own : Bool} {vs : List AV} (h : CellsR μ w B base csz own vs) {o : Nat} {v : AV} (hv : vs[o]? = some v) :
    ∃ c, w.cell? ⟨B, base + o, none⟩ = some c ∧ VR μ v c := by
  obtain ⟨cs, ty, fz, h1, h2, h3, h4, h5⟩ := h
  obtain ⟨y, hy, hr⟩ := h5.get hv
  refine ⟨y, ?_, hr⟩
  rw [cell_at h1]
  rw [List.getElem?_take] at hy
  split at hy
  · rw [List.getElem?_drop] at hy; simpa using hy
  · cases hy
theorem addr_add (B o i : Nat) : (⟨B, o, none⟩ : Addr).add i = ⟨B, o + i, none⟩ := by unfold Addr.add; split <;> simp_all

theorem load_seg {B base csz : Nat} {own : Bool} {vs : List AV} (h : CellsR μ w B base csz own vs) {o n : Nat} (hn : o + n ≤ vs.length) :
    ∃ us : List Value, (loadCells ⟨B, base + o, none⟩ n).run P w = .ok us.toArray w ∧ VRs μ ((vs.drop o).take n) us := by
  have h' := h
  obtain ⟨cs, ty, fz, h1, h2, h3, h4, h5⟩ := h
  have h6 := (h5.drop o).take n
  refine ⟨_, ?_, h6⟩
  have hl : ((((cs.toList.drop base).take vs.length).drop o).take n).length = n := by
    have := h6.length
    rw [← this]; simp; omega
  have := run_loadCells_list (P := P) w ⟨B, base + o, none⟩ ((((cs.toList.drop base).take vs.length).drop o).take n) (fun j v hj => by
    rw [addr_add, cell_at h1]
    rw [List.getElem?_take] at hj
    split at hj
    · rw [List.getElem?_drop, List.getElem?_take] at hj
      split at hj
      · rw [List.getElem?_drop] at hj
        rw [Nat.add_assoc]
        simpa using hj
      · cases hj
    · cases hj)
  rw [hl] at this
  exact this

variable {H : AH}
theorem loadSh_cells {s : Sh} {b o : Nat} {v : AV} (h : H.loadSh s b o = some v) : ∃ vs own, H.get b = some (.cells vs own) ∧ (match s with | .one => vs[o]? = some v | .many n => o + n ≤ vs.length ∧ v = .agg ((vs.drop o).take n)) := by
  unfold AH.loadSh AH.cells at h
  cases hg : H.get b with
  | none => simp [hg] at h
  | some x =>
    cases x with
    | cells vs own =>
      simp only [hg] at h
      refine ⟨vs, own, rfl, ?_⟩
      cases s with
      | one => cases hv : vs[o]? <;> simp_all
      | many n =>
        simp only at h
        split at h
        · rename_i hle; cases h; exact ⟨hle, rfl⟩
        · cases h
    | _ => simp [hg] at h

theorem ptrOk_cells {s : Slot} {o : Nat} {ad : Addr} {B base csz : Nat} {own : Bool} (h : s.ptrOk o ad) (e : s = .cells B base csz own) : ad = ⟨B, base + o, none⟩ := by subst e; exact h
theorem ptrOk_born {s : Slot} {o : Nat} {ad : Addr} (h : s.ptrOk o ad) : s ≠ .unborn := by intro e; subst e; exact h
theorem slOk_born {s : Slot} {o c z : Nat} {ad : Addr} (h : s.slOk o c z ad) : s ≠ .unborn := by intro e; subst e; exact h
theorem objOk_born {s : Slot} {r : Nat} (h : s.objOk r) : s ≠ .unborn := by intro e; subst e; exact h

theorem s_load (h : Sim P μ H w) {t : TypeId} {s : Sh} (hsh : shAt P t = some s) {b o : Nat} {ad : Addr} (hp : (μ b).ptrOk o ad) {v : AV} (hl : H.loadSh s b o = some v) :
    ∃ v', (loadVar t ad).run P w = .ok v' w ∧ VR μ v v' := by
  obtain ⟨vs, own, hg, hv⟩ := loadSh_cells hl
  obtain ⟨B, base, csz, hm, hc⟩ := h.at_cells (ptrOk_born hp) hg
  have := ptrOk_cells hp hm
  subst this
  cases s with
  | one =>
    obtain ⟨c, hcell, hr⟩ := cellsR_get hc hv
    refine ⟨c, ?_, hr⟩
    simp [loadVar, run_isAgg' (shAt_one hsh), hcell]
  | many n =>
    obtain ⟨hle, rfl⟩ := hv
    obtain ⟨ha, hs⟩ := shAt_many hsh
    obtain ⟨us, hrun, hr⟩ := load_seg (P := P) hc hle
    exact ⟨.agg us.toArray, by simp [loadVar, run_isAgg' ha, run_size' hs, hrun], .agg _ _ (by simpa using hr)⟩

/-! ### fill: parts laid into an aggregate -/
theorem foldl_lay (vs : List Value) (o : Nat) (cs : Array Value) (h : o + vs.length ≤ cs.size) :
    (vs.zipIdx.foldl (fun (cs : Array Value) (x : Value × Nat) => cs.setIfInBounds (o + x.2) x.1) cs).toList = cs.toList.take o ++ vs ++ cs.toList.drop (o + vs.length) := by
  suffices hs : ∀ (vs : List Value) (k : Nat) (cs : Array Value), o + k + vs.length ≤ cs.size →
      ((vs.zipIdx k).foldl (fun (cs : Array Value) (x : Value × Nat) => cs.setIfInBounds (o + x.2) x.1) cs).toList = cs.toList.take (o + k) ++ vs ++ cs.toList.drop (o + k + vs.length) by
    simpa using hs vs 0 cs (by simpa using h)
  intro vs
  induction vs with
  | nil => intro k cs _; simp
  | cons v r ih =>
    intro k cs hk
    simp only [List.zipIdx_cons, List.foldl_cons]
    rw [ih (k + 1) (cs.setIfInBounds (o + k) v) (by simp at hk ⊢; omega)]
    have e := list_seg_step cs.toList (o + k) v r (by simp at hk ⊢; omega)
    simpa [Array.toList_setIfInBounds, Nat.add_assoc] using e
end

theorem VRs.lay {μ : Mu} {cs ws cs' : List AV} {us vs : List Value} {o : Nat} (h : VRs μ cs us) (k : VRs μ ws vs) (hl : lay cs o ws = some cs') :
    VRs μ cs' (us.take o ++ vs ++ us.drop (o + vs.length)) ∧ o + vs.length ≤ us.length := by
  unfold Am.lay at hl
  split at hl
  · rename_i hle
    cases hl
    rw [← k.length, ← h.length]
    exact ⟨((h.take o).append k).append (h.drop _), hle⟩
  · cases hl

theorem fill_rel {μ : Mu} (place : Nat → Option (Nat × Nat)) : ∀ (parts : List (Nat × Value)) (ps : List (Nat × List AV)) (cs cs' : List AV) (us : Array Value),
    ps.length = parts.length → (∀ (j : Nat) (p : Nat × Value) (q : Nat × List AV), parts[j]? = some p → ps[j]? = some q → ∃ s, place p.1 = some (q.1, s) ∧ q.2.length = s ∧ VRs μ q.2 p.2.cells.toList) →
    VRs μ cs us.toList → layAll cs ps = some cs' → ∃ us', Instr.fill place us parts = some us' ∧ VRs μ cs' us'.toList
  | [], [], cs, cs', us, _, _, h, hl => by simp [layAll] at hl; subst hl; exact ⟨us, rfl, h⟩
  | [], _ :: _, _, _, _, hlen, _, _, _ => by simp at hlen
  | _ :: _, [], _, _, _, hlen, _, _, _ => by simp at hlen
  | (i, v) :: parts, (o, ws) :: ps, cs, cs', us, hlen, hp, h, hl => by
    obtain ⟨s, hpl, hs, hr⟩ := hp 0 (i, v) (o, ws) rfl rfl
    simp only [layAll] at hl
    cases hla : lay cs o ws with
    | none => rw [hla] at hl; cases hl
    | some cs1 =>
      rw [hla] at hl
      obtain ⟨h1, hle⟩ := h.lay hr hla
      have hsz : v.cells.size = s := by rw [← hs, hr.length]; simp
      have hle' : o + v.cells.toList.length ≤ us.size := by simpa using hle
      have e1 := foldl_lay v.cells.toList o us hle'
      have hfold : (v.cells.zipIdx.foldl (fun cs (c, j) => cs.setIfInBounds (o + j) c) us) = (v.cells.toList.zipIdx.foldl (fun (cs : Array Value) (x : Value × Nat) => cs.setIfInBounds (o + x.2) x.1) us) := by
        rw [← Array.foldl_toList, Array.toList_zipIdx]
      obtain ⟨us', hf, hr'⟩ := fill_rel place parts ps cs1 cs' _ (by simpa using hlen) (fun j p q hj hq => hp (j + 1) p q (by simpa using hj) (by simpa using hq))
        (by rw [← e1] at h1; exact h1) hl
      refine ⟨us', ?_, hr'⟩
      unfold Instr.fill
      simp only at hpl
      rw [hpl]
      simp only
      rw [if_neg (by simp [hsz]; simp at hle'; omega), hfold]
      exact hf
end Am

namespace Am
open Go Go.RowKit

section
variable {P : Program} {w : World} {μ : Mu} {H : AH} {e : Env} {a : Act}

theorem compX_rel {x : AX} {y : Operand} (h : compX y = some x) (he : EnvR μ e a.tmps) : VR μ (x.ev e) (a.eval y) := by
  cases y with
  | tmp t => simp [compX] at h; subst h; exact he t
  | const v =>
    simp only [compX, Option.map_eq_some_iff] at h
    obtain ⟨r, hr, rfl⟩ := h
    exact avOf_rel μ _ _ _ hr
  | global g => simp [compX] at h
  | func f => simp [compX] at h; subst h; exact .fn f [] #[] (by simpa using VRs.nil)
theorem compXs_rel : ∀ {xs : List AX} {ys : List Operand}, ys.mapM compX = some xs → EnvR μ e a.tmps → VRs μ (xs.map (·.ev e)) (ys.map a.eval)
  | xs, [], h, _ => by rw [mapM_some_nil h]; exact .nil
  | xs, y :: ys, h, he => by
    obtain ⟨b, t, h1, h2, rfl⟩ := mapM_some_cons h
    exact .cons _ _ _ _ (compX_rel h1 he) (compXs_rel h2 he)

theorem natOf_rel {x : AV} {v : Value} {n : Nat} (h : natOf x = some n) (hr : VR μ x v) : ∃ k, v = .int k n ∧ x = .int k n := by
  cases x <;> simp [natOf] at h
  obtain ⟨h0, rfl⟩ := h
  cases hr
  rename_i k m
  refine ⟨k, ?_, ?_⟩
  · congr 1; omega
  · congr 1; omega

theorem eqCell_run {t : TypeId} {k : EK} (hk : ekAt P t = some k) {x y : AV} {v u : Value} (hx : VR μ x v) (hy : VR μ y u) {r : Bool} (h : eqCell k x y = some r) (d : Nat) :
    (Op.equalIn (d + 1) t v u).run P w = .ok r w := by
  unfold ekAt at hk
  cases hu : P.underlying t with
  | none => rw [hu] at hk; cases hk
  | some ds =>
    rw [hu] at hk
    unfold Op.equalIn
    rw [Sem.run_bind, run_und hu, Result.andThen_ok]
    cases ds <;> simp at hk <;> subst hk
    · cases x <;> cases y <;> simp [eqCell] at h
      cases hx; cases hy
      simp [h]
    · cases x <;> cases y <;> simp [eqCell] at h
      obtain ⟨rfl, h⟩ := h
      cases hx; cases hy
      simp [← h]
    · cases x <;> cases y <;> simp [eqCell] at h
      cases hx; cases hy
      rename_i p q
      simp only [Sem.run_pure]
      congr 1
      rw [beq_toListBytes, ByteArray.toList_eq, ByteArray.toList_eq, ← h]
      exact Bool.beq_eq_decide_eq p q

theorem binAny_run {op : BinOp} {t : TypeId} {x y : AV} {v u : Value} (hx : VR μ x v) (hy : VR μ y u) {r : AV} (h : binAny op x y = some r) (h1 : op ≠ .eql) (h2 : op ≠ .neq) (X Y : Operand) :
    ∃ r', (do eqGuard op t X Y v u; binOp op t v u : Sem Value).run P w = .ok r' w ∧ VR μ r r' := by
  have hg : (eqGuard op t X Y v u).run P w = .ok () w := by
    unfold eqGuard
    cases op <;> first | (exact absurd rfl h1) | (exact absurd rfl h2) | simp
  simp only [Sem.run_bind, hg, Result.andThen_ok]
  cases x with
  | int k a =>
    cases y with
    | int j b =>
      cases hx; cases hy
      cases op <;> first
        | (exact absurd rfl h1)
        | (exact absurd rfl h2)
        | (simp only [binAny] at h; split at h
           · subst_vars
             simp only [binInt] at h
             first
               | (cases h; exact ⟨_, by simp only [binOp, Op.intArith, Op.intCmp, Op.intBits, ne_eq, not_true_eq_false, if_false]; rfl, by constructor⟩)
               | (split at h
                  · cases h
                  · rename_i hb; cases h; exact ⟨_, by simp only [binOp, Op.intDiv, ne_eq, not_true_eq_false, if_false, if_neg hb]; rfl, by constructor⟩)
               | cases h
           · cases h)
        | (simp only [binAny] at h; split at h
           · cases h
           · rename_i hb; cases h; exact ⟨_, by simp only [binOp, Op.shift, if_neg hb]; rfl, by constructor⟩)
    | _ => cases op <;> simp [binAny] at h
  | str s =>
    cases y with
    | str s' =>
      cases hx; cases hy
      cases op <;> simp [binAny] at h
      obtain ⟨hle, rfl⟩ := h
      refine ⟨.string ⟨⟨s ++ s'⟩⟩, ?_, .str _⟩
      simp only [binOp, Op.stringOp]
      rw [if_neg (by simp [IntKind.max, IntKind.signed, IntKind.bits, ByteArray.size]; omega)]
      simp only [Sem.run_pure]
      congr 2
    | _ => cases op <;> simp [binAny] at h
  | _ => cases op <;> cases y <;> simp [binAny] at h
end
end Am

namespace Am
open Go Go.RowKit

section
variable {P : Program} {w : World} {μ : Mu} {H : AH} {e : Env} {a : Act}

/-! ### '==' on aggregates -/
theorem run_part_one {t : TypeId} (hk : aggAt P t = some false) {cs : Array Value} {i : Nat} {c : Value} (h : cs[i]? = some c) : (part t cs i).run P w = .ok c w := by
  simp [part, run_isAgg' hk, h]
theorem ek_agg {t : TypeId} {k : EK} (h : ekAt P t = some k) : aggAt P t = some false := by
  unfold ekAt at h
  unfold aggAt
  cases hu : P.underlying t with
  | none => rw [hu] at h; cases h
  | some d => rw [hu] at h; cases d <;> simp at h <;> rfl

theorem eqCells_len : ∀ {ks : List EK} {x y : List AV} {r : Bool}, eqCells ks x y = some r → r = true → ks.length = x.length ∧ ks.length = y.length
  | [], [], [], _, _, _ => ⟨rfl, rfl⟩
  | k :: ks, a :: l, b :: q, r, h, hr => by
    simp only [eqCells] at h
    cases hc : eqCell k a b with
    | none => rw [hc] at h; cases h
    | some c =>
      cases c with
      | false => rw [hc] at h; simp at h; subst h; cases hr
      | true => rw [hc] at h; have := eqCells_len h hr; simp [this.1, this.2]; omega
  | [], _ :: _, _, _, h, _ => by simp [eqCells] at h
  | [], [], _ :: _, _, h, _ => by simp [eqCells] at h
  | _ :: _, [], _, _, h, _ => by simp [eqCells] at h
  | _ :: _, _ :: _, [], _, h, _ => by simp [eqCells] at h

/-- The loop over an array's elements. -/
theorem eqArr_loop {t : TypeId} {k : EK} (hk : ekAt P t = some k) (d : Nat) (xs ys : Array Value) : ∀ (m i : Nat) (x y : List AV) (r : Bool),
    eqCells (List.replicate m k) x y = some r → VRs μ x (xs.toList.drop i) → VRs μ y (ys.toList.drop i) →
    ∃ o, (forIn (List.range' i m) ((none, ()) : Option Bool × Unit) (fun j (_ : Option Bool × Unit) => do
        let v ← part t xs (j * 1)
        let u ← part t ys (j * 1)
        let q ← Op.equalIn (d + 1) t v u
        if (!q) = true then pure (ForInStep.done (some false, ())) else pure (ForInStep.yield (none, ()))) : Sem (Option Bool × Unit)).run P w = .ok (o, ()) w ∧ (r = true → o = none) ∧ (r = false → o = some false)
  | 0, i, x, y, r, h, hx, hy => by
    cases x <;> cases y <;> simp [eqCells] at h
    subst h
    exact ⟨none, by simp, fun _ => rfl, fun h => by cases h⟩
  | m + 1, i, x, y, r, h, hx, hy => by
    cases x with
    | nil => simp [List.replicate_succ, eqCells] at h
    | cons ax x =>
      cases y with
      | nil => simp [List.replicate_succ, eqCells] at h
      | cons ay y =>
        simp only [List.replicate_succ, eqCells] at h
        obtain ⟨cx, hcx, rx⟩ := hx.get (i := 0) rfl
        obtain ⟨cy, hcy, ry⟩ := hy.get (i := 0) rfl
        have hcx' : xs[i]? = some cx := by rw [List.getElem?_drop] at hcx; simpa using hcx
        have hcy' : ys[i]? = some cy := by rw [List.getElem?_drop] at hcy; simpa using hcy
        cases hc : eqCell k ax ay with
        | none => rw [hc] at h; cases h
        | some c =>
          have hrun := eqCell_run (w := w) hk rx ry hc d
          have hag := ek_agg hk
          rw [List.range'_succ]
          simp only [List.forIn_cons, Nat.mul_one, Sem.run_bind, run_part_one hag hcx', run_part_one hag hcy', Result.andThen_ok, hrun]
          cases c with
          | false =>
            rw [hc] at h
            simp at h
            subst h
            exact ⟨some false, by simp, fun h => (by cases h), fun _ => rfl⟩
          | true =>
            rw [hc] at h
            simp only at h
            have hx' : VRs μ x (xs.toList.drop (i + 1)) := by have := hx.drop 1; simpa [List.drop_drop] using this
            have hy' : VRs μ y (ys.toList.drop (i + 1)) := by have := hy.drop 1; simpa [List.drop_drop] using this
            obtain ⟨o, ho, h1, h2⟩ := eqArr_loop hk d xs ys m (i + 1) x y r h hx' hy'
            refine ⟨o, ?_, h1, h2⟩
            simp only [Nat.mul_one] at ho
            simpa using ho

/-- The loop over a struct's fields. -/
theorem eqStr_loop (d : Nat) (xs ys : Array Value) : ∀ (fs : List Field) (i : Nat) (ks : List EK) (x y : List AV) (r : Bool),
    (fs.zipIdx i).mapM (fun (f, i) => if f.name ≠ "_" ∧ f.offset = i ∧ sizeAt P f.type = some 1 then ekAt P f.type else none) = some ks →
    eqCells ks x y = some r → VRs μ x (xs.toList.drop i) → VRs μ y (ys.toList.drop i) →
    ∃ o, (forIn fs ((none, ()) : Option Bool × Unit) (fun f (_ : Option Bool × Unit) => if f.name ≠ "_" then do
        let v ← part f.type xs f.offset
        let u ← part f.type ys f.offset
        let q ← Op.equalIn (d + 1) f.type v u
        if (!q) = true then pure (ForInStep.done (some false, ())) else pure (ForInStep.yield (none, ()))
        else pure (ForInStep.yield (none, ()))) : Sem (Option Bool × Unit)).run P w = .ok (o, ()) w ∧ (r = true → o = none) ∧ (r = false → o = some false)
  | [], i, ks, x, y, r, hm, h, hx, hy => by
    rw [List.zipIdx_nil] at hm
    rw [mapM_some_nil hm] at h
    cases x <;> cases y <;> simp [eqCells] at h
    subst h
    exact ⟨none, by simp, fun _ => rfl, fun h => by cases h⟩
  | f :: fs, i, ks, x, y, r, hm, h, hx, hy => by
    rw [List.zipIdx_cons] at hm
    obtain ⟨k, ks, hf, hm2, rfl⟩ := mapM_some_cons hm
    simp only at hf
    split at hf
    case isFalse => cases hf
    rename_i hcond
    obtain ⟨hn, ho, _⟩ := hcond
    cases x with
    | nil => simp [eqCells] at h
    | cons ax x =>
      cases y with
      | nil => simp [eqCells] at h
      | cons ay y =>
        simp only [eqCells] at h
        obtain ⟨cx, hcx, rx⟩ := hx.get (i := 0) rfl
        obtain ⟨cy, hcy, ry⟩ := hy.get (i := 0) rfl
        have hcx' : xs[f.offset]? = some cx := by rw [ho]; rw [List.getElem?_drop] at hcx; simpa using hcx
        have hcy' : ys[f.offset]? = some cy := by rw [ho]; rw [List.getElem?_drop] at hcy; simpa using hcy
        cases hc : eqCell k ax ay with
        | none => rw [hc] at h; cases h
        | some c =>
          have hrun := eqCell_run (w := w) hf rx ry hc d
          have hag := ek_agg hf
          simp only [List.forIn_cons, Sem.run_bind]
          rw [if_pos hn]
          simp only [Sem.run_bind, run_part_one hag hcx', run_part_one hag hcy', Result.andThen_ok, hrun]
          cases c with
          | false =>
            rw [hc] at h
            simp at h
            subst h
            exact ⟨some false, by simp, fun h => (by cases h), fun _ => rfl⟩
          | true =>
            rw [hc] at h
            simp only at h
            have hx' : VRs μ x (xs.toList.drop (i + 1)) := by have := hx.drop 1; simpa [List.drop_drop] using this
            have hy' : VRs μ y (ys.toList.drop (i + 1)) := by have := hy.drop 1; simpa [List.drop_drop] using this
            obtain ⟨o, ho, h1, h2⟩ := eqStr_loop d xs ys fs (i + 1) ks x y r hm2 h hx' hy'
            exact ⟨o, by simpa using ho, h1, h2⟩

theorem eqAgg_run {t : TypeId} {ks : List EK} (hk : eqsAt P t = some ks) {x y : List AV} {v u : Array Value} (hx : VRs μ x v.toList) (hy : VRs μ y u.toList) {r : Bool} (h : eqCells ks x y = some r) :
    (Op.equal t (.agg v) (.agg u)).run P w = .ok r w ∧ P.eqGuardType P.depth t = false := by
  unfold eqsAt at hk
  split at hk
  · cases hk
  rename_i hg
  refine ⟨?_, by simpa using hg⟩
  unfold Op.equal
  show (Op.equalIn (9998 + 1 + 1) t (.agg v) (.agg u)).run P w = _
  unfold Op.equalIn
  cases hu : P.underlying t with
  | none => rw [hu] at hk; cases hk
  | some ds =>
    rw [hu] at hk
    rw [Sem.run_bind, run_und hu, Result.andThen_ok]
    cases ds with
    | array n el =>
      simp only [Option.bind_eq_bind] at hk
      cases hek : ekAt P el with
      | none => rw [hek] at hk; cases hk
      | some k =>
        rw [hek] at hk
        simp only [Option.bind_some] at hk
        split at hk
        case isFalse => cases hk
        rename_i hs
        cases hk
        simp only [Sem.run_bind, run_size' hs, Result.andThen_ok]
        rw [Std.Legacy.Range.forIn_eq_forIn_range']
        obtain ⟨o, ho, h1, h2⟩ := eqArr_loop (w := w) hek 9998 v u n 0 x y r h (by simpa using hx) (by simpa using hy)
        simp only [Std.Legacy.Range.size, Nat.sub_zero, Nat.add_sub_cancel, Nat.div_one] at *
        rw [ho]
        simp only [Result.andThen_ok]
        cases r with
        | true => rw [h1 rfl]; rfl
        | false => rw [h2 rfl]; rfl
    | struct fs =>
      simp only at hk
      split at hk
      · cases hk
      rename_i hst
      simp only [Sem.run_bind, run_program, Result.andThen_ok]
      rw [if_neg hst]
      obtain ⟨o, ho, h1, h2⟩ := eqStr_loop (w := w) 9998 v u fs.toList 0 ks x y r hk h (by simpa using hx) (by simpa using hy)
      rw [Array.forIn_toList] at ho
      simp only [Sem.run_bind]
      rw [ho]
      simp only [Result.andThen_ok]
      cases r with
      | true => rw [h1 rfl]; rfl
      | false => rw [h2 rfl]; rfl
    | _ => cases hk

theorem eq1_run {t : TypeId} {k : EK} (hk : ekAt P t = some k) {x y : AV} {v u : Value} (hx : VR μ x v) (hy : VR μ y u) {r : Bool} (h : eqCell k x y = some r) (neg : Bool) (X Y : Operand) :
    (do eqGuard (bif neg then .neq else .eql) t X Y v u; binOp (bif neg then .neq else .eql) t v u : Sem Value).run P w = .ok (.bool (bif neg then !r else r)) w := by
  have hq := eqCell_run (w := w) hk hx hy h 9999
  cases k with
  | int =>
    cases x <;> cases y <;> simp [eqCell] at h
    obtain ⟨rfl, h⟩ := h
    cases hx; cases hy
    cases neg <;> simp [eqGuard, binOp, Op.intCmp, ← h, bne]
  | str =>
    cases x <;> cases y <;> simp [eqCell] at h
    cases hx; cases hy
    rename_i p q
    have e1 : (p == q) = r := by rw [← h]; exact Bool.beq_eq_decide_eq p q
    cases neg <;> simp [eqGuard, binOp, Op.stringOp, ByteArray.toList_eq, e1]
  | bool =>
    cases x <;> cases y <;> simp [eqCell] at h
    cases hx; cases hy
    rename_i p q
    cases neg
    · simp only [cond_false, eqGuard, binOp, Sem.run_bind]
      have : (Op.equal t (.bool p) (.bool q)).run P w = .ok r w := hq
      simp [this]
    · simp only [cond_true, eqGuard, binOp, Sem.run_bind]
      have : (Op.equal t (.bool p) (.bool q)).run P w = .ok r w := hq
      simp [this]

theorem eqA_run {t : TypeId} {ks : List EK} (hk : eqsAt P t = some ks) {x y : List AV} {v u : Array Value} (hx : VRs μ x v.toList) (hy : VRs μ y u.toList) {r : Bool} (h : eqCells ks x y = some r) (neg : Bool) (X Y : Operand) :
    (do eqGuard (bif neg then .neq else .eql) t X Y (.agg v) (.agg u); binOp (bif neg then .neq else .eql) t (.agg v) (.agg u) : Sem Value).run P w = .ok (.bool (bif neg then !r else r)) w := by
  obtain ⟨h1, h2⟩ := eqAgg_run (w := w) hk hx hy h
  cases neg <;> simp [eqGuard, binOp, h1, h2]

/-! ### bytes to a string -/
theorem bytes_loop : ∀ (l : List AV) (us : List Value) (bs : List UInt8) (s0 : List UInt8), VRs μ l us → bytesOf l = some bs →
    (forIn us (⟨⟨s0⟩⟩ : ByteArray) (fun c s => match c with
      | Value.int IntKind.u8 n => pure (ForInStep.yield (s.push (UInt8.ofNat n.toNat)))
      | _ => do
        stuck "bytesToString: byte expected"
        pure (ForInStep.yield s)) : Sem ByteArray).run P w = .ok ⟨⟨s0 ++ bs⟩⟩ w
  | [], us, bs, s0, h, hb => by
    cases h
    simp [bytesOf] at hb
    subst hb
    simp
  | x :: l, us, bs, s0, h, hb => by
    cases h with
    | cons a v l r k m =>
      cases x with
      | int kk n =>
        cases kk <;> simp [bytesOf] at hb
        obtain ⟨bs', hb', rfl⟩ := hb
        cases k
        have ih := bytes_loop l r bs' (s0 ++ [UInt8.ofNat n.toNat]) m hb'
        simp only [List.forIn_cons, Sem.run_bind, Sem.run_pure, Result.andThen_ok]
        have e : (⟨⟨s0⟩⟩ : ByteArray).push (UInt8.ofNat n.toNat) = ⟨⟨s0 ++ [UInt8.ofNat n.toNat]⟩⟩ := by
          apply ByteArray.ext; simp [ByteArray.push]
        rw [e, ih]
        simp
      | _ => simp [bytesOf] at hb
end
end Am

namespace Am
open Go Go.RowKit

section
variable {P : Program} {w : World} {μ : Mu} {H : AH} {e : Env} {a : Act}

/-! ### slices -/
theorem sliceBound_ok (k : IntKind) (n y : Nat) (c : BoundsCode) (h : n ≤ y) : (Instr.sliceBound (.int k n) y c).run P w = .ok n w := by
  simp only [Instr.sliceBound, asIntOf, Sem.run_bind, Sem.run_pure, Result.andThen_ok]
  rw [if_pos ⟨by omega, by omega⟩]
  simp

theorem bounds_ok (isS : Bool) (len cap : Nat) (lo hi : Option Value) (l h : Nat)
    (hh : match hi with | some v => ∃ k, v = .int k h | none => h = len) (hl : match lo with | some v => ∃ k, v = .int k l | none => l = 0)
    (h1 : h ≤ cap) (h2 : l ≤ h) : (Instr.sliceBounds isS len cap lo hi none).run P w = .ok (l, h, cap) w := by
  unfold Instr.sliceBounds
  cases hi with
  | none =>
    cases lo with
    | none => simp only at hh hl; subst hh; subst hl; simp
    | some v => obtain ⟨k, rfl⟩ := hl; simp only at hh; subst hh; simp [sliceBound_ok k l h _ h2]
  | some v =>
    obtain ⟨k, rfl⟩ := hh
    cases lo with
    | none => simp only at hl; subst hl; simp [sliceBound_ok k h cap _ h1]
    | some u => obtain ⟨k', rfl⟩ := hl; simp [sliceBound_ok k h cap _ h1, sliceBound_ok k' l h _ h2]

theorem opt_rel {lo : Option Operand} {lo' : Option AX} (hc : lo.mapM compX = some lo') (he : EnvR μ e a.tmps) {d l : Nat}
    (hl : optNat e d lo' = some l) : match lo.map a.eval with | some v => ∃ k, v = .int k l | none => l = d := by
  cases lo with
  | none =>
    simp at hc
    subst hc
    simp [optNat] at hl
    simp [hl]
  | some x =>
    simp only [Option.mapM_some, Option.map_eq_map, Option.map_eq_some_iff] at hc
    obtain ⟨y, hy, rfl⟩ := hc
    obtain ⟨k, hk, _⟩ := natOf_rel hl (compX_rel hy he)
    exact ⟨k, hk⟩

theorem slOk_cut {s : Slot} {o cap esz l : Nat} {ad : Addr} (h : s.slOk o cap esz ad) (hl : l ≤ cap) :
    s.slOk (o + l * esz) (cap - l) esz (if cap = l then ad else ad.add (l * esz)) := by
  cases s with
  | cells B base csz own =>
    simp only [Slot.slOk] at h ⊢
    by_cases e : cap = l
    · left; omega
    · right
      rcases h with h | ⟨rfl, h⟩
      · omega
      · rw [if_neg e, addr_add]
        refine ⟨by rw [Nat.add_assoc], ?_⟩
        have : l * esz + (cap - l) * esz = cap * esz := by rw [← Nat.add_mul]; congr 1; omega
        omega
  | _ => simp_all [Slot.slOk]

theorem s_sliceSl {t el : TypeId} (hu : P.underlying t = some (.slice el)) {esz : Nat} (hs : sizeAt P el = some esz) {b o n h l : Nat} {ad : Addr} {cap : Nat} {lo hi : Option Value}
    (hn : n ≤ cap) (hk : (μ b).slOk o cap esz ad) (hh : match hi with | some v => ∃ k, v = .int k h | none => h = n) (hl : match lo with | some v => ∃ k, v = .int k l | none => l = 0)
    (h1 : h ≤ n) (h2 : l ≤ h) : ∃ v', (Instr.sliceAt t (.slice (some ad) n cap) lo hi none).run P w = .ok v' w ∧ VR μ (.sl b (o + l * esz) (h - l) esz) v' := by
  refine ⟨.slice (some (if cap = l then ad else ad.add (l * esz))) (h - l) (cap - l), ?_, .sl _ _ _ _ _ _ (by omega) (slOk_cut hk (by omega))⟩
  unfold Instr.sliceAt
  rw [Sem.run_bind, run_und hu, Result.andThen_ok]
  simp only [Instr.slice, Sem.run_bind, run_und hu, Result.andThen_ok, bounds_ok true n cap lo hi l h hh hl (by omega) h2, run_size' hs, Sem.run_pure]
  congr 2
  split <;> rfl

theorem s_sliceStr {t : TypeId} (hu : P.underlying t = some .string) {s : List UInt8} {h l : Nat} {lo hi : Option Value}
    (hh : match hi with | some v => ∃ k, v = .int k h | none => h = s.length) (hl : match lo with | some v => ∃ k, v = .int k l | none => l = 0)
    (h1 : h ≤ s.length) (h2 : l ≤ h) : ∃ v', (Instr.sliceAt t (.string ⟨⟨s⟩⟩) lo hi none).run P w = .ok v' w ∧ VR μ (.str ((s.drop l).take (h - l))) v' := by
  refine ⟨.string ⟨⟨(s.drop l).take (h - l)⟩⟩, ?_, .str _⟩
  unfold Instr.sliceAt
  rw [Sem.run_bind, run_und hu, Result.andThen_ok]
  have hsz : (⟨⟨s⟩⟩ : ByteArray).size = s.length := rfl
  simp only [Instr.slice, Sem.run_bind, run_und hu, Result.andThen_ok, hsz, bounds_ok false s.length s.length lo hi l h hh hl (by omega) h2, Sem.run_pure, Option.isSome_none, Bool.false_eq_true, if_false]
  congr 2
  apply ByteArray.ext
  rw [ByteArray.data_extract]
  apply Array.ext'
  simp [List.extract_eq_take_drop]

theorem s_sliceArr {t el : TypeId} {n : Nat} (hu : P.underlying t = some (.array n el)) {esz : Nat} (hs : sizeAt P el = some esz) (h : Sim P μ H w) {b o : Nat} {ad : Addr} (hp : (μ b).ptrOk o ad) {vs : List AV} {own : Bool}
    (hg : H.get b = some (.cells vs own)) (hle : o + n * esz ≤ vs.length) : ∃ v', (Instr.sliceAt t (.pointer (some ad)) none none none).run P w = .ok v' w ∧ VR μ (.sl b o n esz) v' := by
  obtain ⟨B, base, csz, hm, hc⟩ := h.at_cells (ptrOk_born hp) hg
  have := ptrOk_cells hp hm
  subst this
  refine ⟨.slice (some ⟨B, base + o, none⟩) n n, ?_, .sl _ _ _ _ _ _ (Nat.le_refl _) ?_⟩
  · unfold Instr.sliceAt
    rw [Sem.run_bind, run_und hu, Result.andThen_ok]
    simp only [Instr.sureAddr, Sem.run_bind, Sem.run_pure, Result.andThen_ok, bounds_ok false n n none none 0 n rfl rfl (Nat.le_refl _) (Nat.zero_le _), run_size' hs]
    congr 2
    simp [Addr.add]
  · rw [hm]
    obtain ⟨cs, ty, fz, h1, h2, h3, h4, h5⟩ := hc
    exact .inr ⟨rfl, by omega⟩

theorem s_arrPtr {t el : TypeId} {n : Nat} (hu : P.underlying t = some (.array n el)) {b o len esz : Nat} {ad : Addr} {cap : Nat} (hn : len ≤ cap) (hk : (μ b).slOk o cap esz ad) (h1 : n ≤ len) (h2 : 0 < len) :
    ∃ v', (Instr.arrayAt t (.slice (some ad) len cap)).run P w = .ok v' w ∧ VR μ (.ptr b o) v' := by
  refine ⟨.pointer (some ad), ?_, .ptr _ _ _ ?_⟩
  · simp only [Instr.arrayAt, Sem.run_bind, run_und hu, Result.andThen_ok]
    rw [if_neg (by omega)]
    rfl
  · cases hm : μ b <;> rw [hm] at hk <;> simp_all [Slot.slOk, Slot.ptrOk]
    rcases hk with hk | hk
    · omega
    · exact hk.1

/-! ### addresses -/
theorem ptrOk_add {s : Slot} {o k : Nat} {ad : Addr} (h : s.ptrOk o ad) : s.ptrOk (o + k) (ad.add k) := by
  cases s with
  | cells B base csz own => simp only [Slot.ptrOk] at h ⊢; subst h; rw [addr_add, Nat.add_assoc]
  | obj B => simp only [Slot.ptrOk] at h ⊢; subst h; rw [addr_add]
  | _ => simp_all [Slot.ptrOk]
theorem s_fieldAddr {t : TypeId} {fs : Array Field} (hu : P.underlying t = some (.struct fs)) {i : Nat} {f : Field} (hf : fs[i]? = some f) {n : Nat} (hs : sizeAt P f.type = some n) (hn : n ≠ 0)
    {b o : Nat} {ad : Addr} (hp : (μ b).ptrOk o ad) : ∃ v', (Instr.fieldAt t (.pointer (some ad)) i).run P w = .ok v' w ∧ VR μ (.ptr b (o + f.offset)) v' := by
  refine ⟨.pointer (some (ad.add f.offset)), ?_, .ptr _ _ _ (ptrOk_add hp)⟩
  simp only [Instr.fieldAt, Sem.run_bind, run_und hu, Result.andThen_ok, hf, Instr.sureAddr, Sem.run_pure, fieldPlace, run_size' hs]
  rw [if_neg hn]
  rfl

theorem s_part {t : TypeId} {s : Sh} (hsh : shAt P t = some s) {cs : List AV} {us : Array Value} (h : VRs μ cs us.toList) {o : Nat} {v : AV} (hv : partSh s cs o = some v) :
    ∃ v', (part t us o).run P w = .ok v' w ∧ VR μ v v' := by
  cases s with
  | one =>
    obtain ⟨y, hy, hr⟩ := h.get hv
    exact ⟨y, run_part_one (shAt_one hsh) (by simpa using hy), hr⟩
  | many n =>
    obtain ⟨ha, hs⟩ := shAt_many hsh
    simp only [partSh] at hv
    split at hv
    case isFalse => cases hv
    rename_i hle
    cases hv
    refine ⟨.agg (us.extract o (o + n)), by simp [part, run_isAgg' ha, run_size' hs], .agg _ _ ?_⟩
    have := (h.drop o).take n
    simpa [List.extract_eq_take_drop] using this

theorem s_field {t : TypeId} {fs : Array Field} (hu : P.underlying t = some (.struct fs)) {i : Nat} {f : Field} (hf : fs[i]? = some f) {s : Sh} (hsh : shAt P f.type = some s) {cs : List AV} {us : Array Value} (h : VRs μ cs us.toList) {v : AV}
    (hv : partSh s cs f.offset = some v) : ∃ v', (Instr.field t (.agg us) i).run P w = .ok v' w ∧ VR μ v v' := by
  obtain ⟨v', hrun, hr⟩ := s_part (w := w) hsh h hv
  exact ⟨v', by simp [Instr.field, run_und hu, hf, asAgg, hrun], hr⟩

theorem s_indexAddrS {t el : TypeId} (hu : P.underlying t = some (.slice el)) {esz : Nat} (hs : sizeAt P el = some esz) {b o n : Nat} {ad : Addr} {cap : Nat} (hn : n ≤ cap) (hk : (μ b).slOk o cap esz ad) {k : IntKind} {i : Nat} (hi : i < n) :
    ∃ v', (Instr.indexAt t (.slice (some ad) n cap) (.int k i)).run P w = .ok v' w ∧ VR μ (.ptr b (o + i * esz)) v' := by
  refine ⟨.pointer (some (ad.add (i * esz))), ?_, .ptr _ _ _ (ptrOk_add ?_)⟩
  · simp only [Instr.indexAt, asIntOf, Sem.run_bind, Sem.run_pure, Result.andThen_ok, run_und hu, run_size' hs]
    rw [if_pos ⟨by omega, by omega⟩]
    simp [run_size' hs]
  · cases hm : μ b <;> rw [hm] at hk <;> simp_all [Slot.slOk, Slot.ptrOk]
    rcases hk with hk | hk
    · omega
    · exact hk.1

theorem s_indexAddrA {t el : TypeId} {len : Nat} (hu : P.underlying t = some (.array len el)) {esz : Nat} (hs : sizeAt P el = some esz) {b o : Nat} {ad : Addr} (hp : (μ b).ptrOk o ad) {k : IntKind} {i : Nat} (hi : i < len) :
    ∃ v', (Instr.indexAt t (.pointer (some ad)) (.int k i)).run P w = .ok v' w ∧ VR μ (.ptr b (o + i * esz)) v' := by
  refine ⟨.pointer (some (ad.add (i * esz))), ?_, .ptr _ _ _ (ptrOk_add hp)⟩
  simp only [Instr.indexAt, asIntOf, Sem.run_bind, Sem.run_pure, Result.andThen_ok, run_und hu, Instr.sureAddr]
  rw [if_pos ⟨by omega, by omega⟩]
  simp [run_size' hs]

theorem s_indexA {t el : TypeId} {len : Nat} (hu : P.underlying t = some (.array len el)) {s : Sh} (hsh : shAt P el = some s) (hs : sizeAt P el = some s.size) {cs : List AV} {us : Array Value} (h : VRs μ cs us.toList) {k : IntKind} {i : Nat} (hi : i < len) {v : AV}
    (hv : partSh s cs (i * s.size) = some v) : ∃ v', (Instr.index t (.agg us) (.int k i)).run P w = .ok v' w ∧ VR μ v v' := by
  obtain ⟨v', hrun, hr⟩ := s_part (w := w) hsh h hv
  refine ⟨v', ?_, hr⟩
  simp only [Instr.index, asIntOf, Sem.run_bind, Sem.run_pure, Result.andThen_ok, run_und hu]
  rw [if_pos ⟨by omega, by omega⟩]
  simp [run_size' hs, hrun]

theorem s_indexStr {t : TypeId} (hu : P.underlying t = some .string) {s : List UInt8} {k : IntKind} {i : Nat} {c : UInt8} (hc : s[i]? = some c) :
    (Instr.index t (.string ⟨⟨s⟩⟩) (.int k i)).run P w = .ok (.int .u8 c.toNat) w := by
  simp only [Instr.index, asIntOf, Sem.run_bind, Sem.run_pure, Result.andThen_ok, run_und hu]
  rw [if_pos (by omega)]
  have : (⟨⟨s⟩⟩ : ByteArray)[(i : Int).toNat]? = some c := by
    have hlt := (List.getElem?_eq_some_iff.1 hc).1
    rw [Int.toNat_natCast, getElem?_pos _ _ (by exact hlt)]
    rw [ByteArray.getElem_eq_getElem_data]
    have := (List.getElem?_eq_some_iff.1 hc).2
    simpa using this
  rw [this]
  rfl

/-! ### maps -/
theorem checkKey_int {t : TypeId} {k0 : IntKind} (hu : P.underlying t = some (.int k0)) (em : Bool) (n : Nat) (k : IntKind) (i : Int) : (Instr.checkKey em (n + 1) t (.int k i)).run P w = .ok () w := by
  unfold Instr.checkKey
  rw [Sem.run_bind, run_und hu, Result.andThen_ok]
  rfl

theorem find_rel {es : List (AV × AV × Nat)} {ms : List MapEntry} (h : EntR μ es ms) {kk : IntKind} (hk : keysOf kk es = true) (k0 : IntKind) (n : Int) : ∀ i,
    (match findEntry (.int kk n) es with
     | some (v, s) => ∃ j me, Instr.findNow (.int k0) (.int kk n) ms i = some (some (i + j, me.val)) ∧ ms[j]? = some me ∧ VR μ v me.val ∧ s = me.born ∧ me.key = .int kk n
     | none => Instr.findNow (.int k0) (.int kk n) ms i = some none) := by
  induction h with
  | nil => intro i; rfl
  | cons k v s me l r h1 h2 h3 _ ih =>
    intro i
    cases k with
    | int j m =>
      cases h1' : me.key with
      | int j' m' =>
        rw [h1'] at h1
        cases h1
        simp only [keysOf, Bool.and_eq_true, decide_eq_true_eq] at hk
        obtain ⟨rfl, hk⟩ := hk
        simp only [findEntry, AV.same, decide_true, Bool.true_and, Instr.findNow, Instr.sameNow, h1', if_true]
        by_cases e : n = m
        · subst e
          simp only [decide_true, cond_true, beq_self_eq_true]
          exact ⟨0, me, by simp, by simp, h2, h3, h1'⟩
        · have e' : (n == m) = false := by simp; exact e
          simp only [e, decide_false, cond_false, e']
          have := ih hk (i + 1)
          revert this
          cases hf : findEntry (.int j n) l with
          | none => exact fun h => h
          | some x =>
            rintro ⟨q, me', a1, a2, a3, a4, a5⟩
            exact ⟨q + 1, me', by rw [a1]; simp; omega, by simpa using a2, a3, a4, a5⟩
      | _ => rw [h1'] at h1; cases h1
    | _ => simp [keysOf] at hk

theorem s_lookup {t kt el : TypeId} {k0 : IntKind} (hu : P.underlying t = some (.map kt el)) (hkt : P.underlying kt = some (.int k0)) {z : AV} (hz : zeroVAt P el = some z) (h : Sim P μ H w) {b r : Nat} (hb : (μ b).objOk r)
    {es : List (AV × AV × Nat)} {c : Nat} (hg : H.get b = some (.map es c)) {kk : IntKind} {n : Int} (hk : keysOf kk es = true) (ok : Bool) :
    ∃ v', (Instr.lookup t (.map (some r)) (.int kk n) ok).run P w = .ok v' w ∧
      VR μ (match findEntry (.int kk n) es with | some (v, _) => (bif ok then .tup [v, .bool true] else v) | none => (bif ok then .tup [z, .bool false] else z)) v' := by
  obtain ⟨B, o, hm, ho, hr⟩ := h.at_obj (objOk_born hb) hg (by simp) (by simp)
  rw [hm] at hb
  have hb' : r = B := hb
  subst hb'
  cases hr with
  | map es c cs he hlt hnd =>
  have hget : (getObj r).run P w = .ok (.map cs c) w := by simp [getObj, Sem.run, ho]
  have hf := find_rel he hk k0 n 0
  obtain ⟨zv, hzr, hzv⟩ : ∃ zv, (∀ w, (zeroValue el).run P w = .ok zv w) ∧ VR μ z zv := by
    unfold zeroVAt at hz
    cases hi : P.info? el with
    | none => rw [hi] at hz; cases hz
    | some i =>
      cases hzz : i.zero with
      | none => rw [hi] at hz; simp [hzz] at hz
      | some zv => rw [hi] at hz; simp [hzz] at hz; exact ⟨zv, fun w => by simp [zeroValue, typeInfo, hi, hzz], avOf_rel μ _ _ _ hz⟩
  unfold Instr.lookup
  simp only [Sem.run_bind, run_und hu, Result.andThen_ok, hget, Sem.run_pure, checkKey_int hkt, Instr.findKey, run_und hkt]
  cases hfe : findEntry (.int kk n) es with
  | none =>
    rw [hfe] at hf
    simp only at hf
    rw [hf]
    simp only [Sem.run_pure, Result.andThen_ok, Sem.run_bind, hzr]
    cases ok with
    | true => exact ⟨_, rfl, .tup _ _ (.cons _ _ _ _ hzv (.cons _ _ _ _ (.bool _) .nil))⟩
    | false => exact ⟨_, rfl, hzv⟩
  | some x =>
    obtain ⟨v, s⟩ := x
    rw [hfe] at hf
    obtain ⟨j, me, a1, a2, a3, a4, a5⟩ := hf
    rw [a1]
    simp only [Sem.run_pure, Result.andThen_ok, Sem.run_bind]
    cases ok with
    | true => exact ⟨_, rfl, .tup _ _ (.cons _ _ _ _ a3 (.cons _ _ _ _ (.bool _) .nil))⟩
    | false => exact ⟨_, rfl, a3⟩

theorem s_max : ∀ (l : List AV) (us : List Value) (x : AV) (u : Value) (v : AV), VR μ x u → VRs μ l us → maxes x l = some v → ∃ v', (us.foldlM Builtin.max2 u).run P w = .ok v' w ∧ VR μ v v'
  | [], us, x, u, v, hx, h, hm => by cases h; simp [maxes] at hm; subst hm; exact ⟨u, by simp, hx⟩
  | y :: l, us, x, u, v, hx, h, hm => by
    cases h with
    | cons a q l r k m =>
      simp only [maxes] at hm
      cases h2 : max2 x y with
      | none => rw [h2] at hm; cases hm
      | some z =>
        rw [h2] at hm
        cases x <;> cases y <;> simp [max2] at h2
        obtain ⟨rfl, rfl⟩ := h2
        cases hx; cases k
        obtain ⟨v', h1, h3⟩ := s_max l r _ _ v (.int _ _) m hm
        exact ⟨v', by simp [Builtin.max2, h1], h3⟩
end
end Am

namespace Am
open Go Go.RowKit

section
variable {P : Program} {w : World} {μ : Mu} {H : AH} {e : Env} {a : Act}

theorem encode_ascii {n : Int} (h0 : 0 ≤ n) (h1 : n < 128) : Utf8.encode n = ⟨⟨[UInt8.ofNat n.toNat]⟩⟩ := by
  unfold Utf8.encode
  have hv : Utf8.valid n = true := by simp [Utf8.valid]; omega
  simp only [hv, if_true]
  rw [if_pos (by omega)]

theorem vr_ptr {v : Value} {b o : Nat} (h : VR μ (.ptr b o) v) : ∃ ad, v = .pointer (some ad) ∧ (μ b).ptrOk o ad := by cases h; exact ⟨_, rfl, by assumption⟩
theorem vr_sl {v : Value} {b o n z : Nat} (h : VR μ (.sl b o n z) v) : ∃ ad cap, v = .slice (some ad) n cap ∧ n ≤ cap ∧ (μ b).slOk o cap z ad := by cases h; exact ⟨_, _, rfl, by assumption, by assumption⟩
theorem vr_nils {v : Value} (h : VR μ .nils v) : v = .slice none 0 0 := by cases h; rfl
theorem vr_str {v : Value} {s : List UInt8} (h : VR μ (.str s) v) : v = .string ⟨⟨s⟩⟩ := by cases h; rfl
theorem vr_int {v : Value} {k : IntKind} {n : Int} (h : VR μ (.int k n) v) : v = .int k n := by cases h; rfl
theorem vr_bool {v : Value} {b : Bool} (h : VR μ (.bool b) v) : v = .bool b := by cases h; rfl
theorem vr_map {v : Value} {b : Nat} (h : VR μ (.map b) v) : ∃ r, v = .map (some r) ∧ (μ b).objOk r := by cases h; exact ⟨_, rfl, by assumption⟩
theorem vr_agg {v : Value} {c : List AV} (h : VR μ (.agg c) v) : ∃ us, v = .agg us ∧ VRs μ c us.toList := by cases h; exact ⟨_, rfl, by assumption⟩
theorem vr_tup {v : Value} {c : List AV} (h : VR μ (.tup c) v) : ∃ us, v = .tuple us ∧ VRs μ c us.toList := by cases h; exact ⟨_, rfl, by assumption⟩

theorem bytes_run (h : Sim P μ H w) {b o n : Nat} {ad : Addr} {cap : Nat} (hn : n ≤ cap) (hk : (μ b).slOk o cap 1 ad) {vs : List AV} (hg : H.cells b = some vs) (hle : o + n ≤ vs.length) {s : List UInt8}
    (hs : bytesOf ((vs.drop o).take n) = some s) : (Conv.bytesToString (.slice (some ad) n cap)).run P w = .ok (.string ⟨⟨s⟩⟩) w := by
  obtain ⟨own, hg'⟩ : ∃ own, H.get b = some (.cells vs own) := by
    unfold AH.cells at hg
    cases hx : H.get b with
    | none => rw [hx] at hg; cases hg
    | some x => rw [hx] at hg; cases x <;> simp at hg; subst hg; exact ⟨_, rfl⟩
  obtain ⟨B, base, csz, hm, hc⟩ := h.at_cells (slOk_born hk) hg'
  unfold Conv.bytesToString
  simp only
  rw [hm] at hk
  by_cases h0 : n = 0
  · subst h0
    simp [bytesOf] at hs
    subst hs
    simp [loadCells, loadCellsFrom]
    rfl
  · rcases hk with hk | ⟨rfl, hk⟩
    · omega
    obtain ⟨us, hrun, hr⟩ := load_seg (P := P) hc hle
    simp only [Sem.run_bind, hrun, Result.andThen_ok, List.forIn_toArray]
    have := bytes_loop (P := P) (w := w) _ us s [] hr hs
    simp only [List.nil_append] at this
    have e : (ByteArray.empty : ByteArray) = ⟨⟨[]⟩⟩ := rfl
    rw [e]
    exact congrArg (fun (r : Result ByteArray) => r.andThen fun a w' => Sem.run P (pure (Value.string a)) w') this

theorem cells_get {b : Nat} {vs : List AV} (hg : H.cells b = some vs) : ∃ own, H.get b = some (.cells vs own) := by
  unfold AH.cells at hg
  cases hx : H.get b with
  | none => rw [hx] at hg; cases hg
  | some x => rw [hx] at hg; cases x <;> simp at hg; subst hg; exact ⟨_, rfl⟩

end
end Am
namespace Am
open Go Go.RowKit
section
variable {P : Program} {w : World} {μ : Mu} {H H' : AH} {e : Env} {a : Act}

theorem run_v {s : Sem Value} {v : Value} {w w' : World} (h : s.run P w = .ok v w') : (do pure (Next.value (← s)) : Sem Next).run P w = .ok (.value v) w' := by simp [h]

theorem binOp_cases {op : BinOp} {t : TypeId} {x y : Operand} {ty : TypeId} {aop : AOp} (hc : compOp P (.binOp op t x y ty) = some aop) :
    ∃ x' y', compX x = some x' ∧ compX y = some y' ∧
      ((∃ neg k, op = (bif neg then .neq else .eql) ∧ ekAt P t = some k ∧ aop = .eq1 k neg x' y') ∨ (∃ neg ks, op = (bif neg then .neq else .eql) ∧ eqsAt P t = some ks ∧ aop = .eqAgg ks neg x' y') ∨ (op ≠ .eql ∧ op ≠ .neq ∧ aop = .bin op x' y')) := by
  unfold compOp at hc
  simp only at hc
  cases hx : compX x with
  | none =>
    exfalso
    cases op <;> simp only [hx] at hc <;> first | (cases hc; done) | (cases hek : ekAt P t <;> rw [hek] at hc <;> first | (cases hc; done) | (cases hes : eqsAt P t <;> rw [hes] at hc <;> cases hc))
  | some x' =>
    cases hy : compX y with
    | none =>
      exfalso
      cases op <;> simp only [hx, hy] at hc <;> first | (cases hc; done) | (cases hek : ekAt P t <;> rw [hek] at hc <;> first | (cases hc; done) | (cases hes : eqsAt P t <;> rw [hes] at hc <;> cases hc))
    | some y' =>
      refine ⟨x', y', rfl, rfl, ?_⟩
      cases op <;> simp only [hx, hy] at hc <;> first
        | (cases hc; exact .inr (.inr ⟨by simp, by simp, rfl⟩))
        | (cases hek : ekAt P t with
           | some k => rw [hek] at hc; cases hc; first | exact .inl ⟨false, k, rfl, rfl, rfl⟩ | exact .inl ⟨true, k, rfl, rfl, rfl⟩
           | none =>
             rw [hek] at hc
             cases hes : eqsAt P t with
             | none => rw [hes] at hc; cases hc
             | some ks => rw [hes] at hc; cases hc; first | exact .inr (.inl ⟨false, ks, rfl, rfl, rfl⟩) | exact .inr (.inl ⟨true, ks, rfl, rfl, rfl⟩))
end
end Am

namespace Am
open Go Go.RowKit
section
variable {P : Program} {w : World} {μ : Mu} {H H' : AH} {e : Env} {a : Act}

theorem mapM_sem {α β : Type} (f : α → Sem β) (g : α → Option β) (w : World) : ∀ (l : List α) (r : List β), l.mapM g = some r → (∀ x b, x ∈ l → g x = some b → (f x).run P w = .ok b w) → (l.mapM f).run P w = .ok r w
  | [], r, h, _ => by rw [mapM_some_nil h]; simp
  | x :: l, r, h, k => by
    obtain ⟨b, t, h1, h2, rfl⟩ := mapM_some_cons h
    rw [List.mapM_cons]
    simp only [Sem.run_bind, k x b (by simp) h1, Result.andThen_ok, mapM_sem f g w l t h2 (fun y c hy => k y c (by simp [hy])), Sem.run_pure]

theorem q_build {t : TypeId} {parts : Array (Nat × Operand)} {op : AOp} {v : AV} (hc : compOp P (.build t parts) = some op) (hv : op.ev1 e H = some (v, H')) (he : EnvR μ e a.tmps) :
    H' = H ∧ ∃ v', (Instr.build t (parts.map fun (i, x) => (i, a.eval x))).run P w = .ok v' w ∧ VR μ v v' := by
  unfold compOp at hc
  simp only at hc
  cases hu : P.underlying t with
  | none => rw [hu] at hc; cases hc
  | some ds =>
    rw [hu] at hc
    have fin : ∀ (ps : List (Nat × Nat × AX)) (z : List AV) (place : Nat → Option (Nat × Nat)), op = .build z ps → zeroAt P t = some z →
        (∀ (j : Nat) (p : Nat × Operand) (q : Nat × Nat × AX), parts.toList[j]? = some p → ps[j]? = some q → place p.1 = some (q.1, q.2.1) ∧ compX p.2 = some q.2.2) → ps.length = parts.size →
        H' = H ∧ ∃ cs zv us', v = .agg cs ∧ (∀ w, (zeroValue t).run P w = .ok zv w) ∧ Instr.fill place zv.cells (parts.map fun (i, x) => (i, a.eval x)).toList = some us' ∧ VRs μ cs us'.toList := by
      intro ps z place hop hz hp hlen
      subst hop
      simp only [AOp.ev1] at hv
      split at hv
      case isFalse => cases hv
      rename_i hall
      cases hla : layAll z (ps.map fun p => (p.1, (p.2.2.ev e).cells)) with
      | none => rw [hla] at hv; cases hv
      | some cs =>
        rw [hla] at hv
        cases hv
        rw [List.all_eq_true] at hall
        obtain ⟨zv, hzr, hzc⟩ := run_zero hz
        obtain ⟨us', hf, hr⟩ := fill_rel (μ := μ) place (parts.map fun (i, x) => (i, a.eval x)).toList (ps.map fun p => (p.1, (p.2.2.ev e).cells)) z cs zv.cells (by simp [hlen]) (by
          intro j p q hj hq
          simp only [Array.toList_map, List.getElem?_map, Option.map_eq_some_iff] at hj hq
          obtain ⟨p0, hp0, rfl⟩ := hj
          obtain ⟨q0, hq0, rfl⟩ := hq
          obtain ⟨h1, h2⟩ := hp j p0 q0 hp0 hq0
          have := hall q0 (List.mem_of_getElem? hq0)
          simp only [Bool.and_eq_true, decide_eq_true_eq] at this
          exact ⟨q0.2.1, h1, this.1, (compX_rel h2 he).cells this.2⟩) (cellsOf_rel μ hzc) hla
        exact ⟨rfl, cs, zv, us', rfl, hzr, hf, hr⟩
    cases ds with
    | struct fs =>
      simp only [Option.bind_eq_bind, Option.pure_def, Option.bind_eq_some_iff, Option.some.injEq] at hc
      obtain ⟨pl, hpl, ps, hps, z, hz, rfl⟩ := hc
      obtain ⟨h1, cs, zv, us', rfl, hzr, hf, hr⟩ := fin ps z (fun (i : Nat) => pl[i]?) rfl hz (by
        intro j p q hj hq
        obtain ⟨b, hb, hfb⟩ := mapM_get' hps hj
        rw [hq] at hb
        cases hb
        simp only [Option.bind_eq_some_iff, Option.some.injEq] at hfb
        obtain ⟨r, hr, x, hx, rfl⟩ := hfb
        exact ⟨by rw [hr], hx⟩) (by rw [mapM_length hps]; simp)
      refine ⟨h1, .agg us', ?_, .agg _ _ hr⟩
      have hplaces : (fs.mapM fun f => do pure (f.offset, ← Go.sizeOf f.type) : Sem (Array (Nat × Nat))).run P w = .ok pl.toArray w := by
        rw [Array.mapM_eq_mapM_toList]
        rw [Sem.run_map, mapM_sem (P := P) _ _ w fs.toList pl hpl (fun x b _ hb => by
          simp only [Option.bind_eq_some_iff, Option.some.injEq] at hb
          obtain ⟨s, hs, rfl⟩ := hb
          simp [run_size' hs])]
        rfl
      unfold Instr.build
      simp only [Sem.run_bind, hzr, Result.andThen_ok, run_und hu, hplaces]
      have e1 : (fun x => pl.toArray[x]?) = fun (i : Nat) => pl[i]? := by funext i; simp
      rw [e1, hf]
      rfl
    | array n el =>
      simp only [Option.bind_eq_bind, Option.pure_def, Option.bind_eq_some_iff, Option.some.injEq] at hc
      obtain ⟨s, hs, ps, hps, z, hz, rfl⟩ := hc
      obtain ⟨h1, cs, zv, us', rfl, hzr, hf, hr⟩ := fin ps z (fun i => some (i * s, s)) rfl hz (by
        intro j p q hj hq
        obtain ⟨b, hb, hfb⟩ := mapM_get' hps hj
        rw [hq] at hb
        cases hb
        simp only [Option.bind_eq_some_iff, Option.some.injEq] at hfb
        obtain ⟨x, hx, rfl⟩ := hfb
        exact ⟨rfl, hx⟩) (by rw [mapM_length hps]; simp)
      refine ⟨h1, .agg us', ?_, .agg _ _ hr⟩
      unfold Instr.build
      simp only [Sem.run_bind, hzr, Result.andThen_ok, run_und hu, run_size' hs]
      rw [hf]
      rfl
    | _ => cases hc

theorem optM_some {lo : Option Operand} {r : Option AX} (h : lo.mapM compX = some r) : True := trivial

theorem q_slice {t : TypeId} {x : Operand} {lo hi : Option Operand} {op : AOp} {v : AV} (hc : compOp P (.slice t x lo hi none) = some op) (hv : op.ev1 e H = some (v, H')) (h : Sim P μ H w) (he : EnvR μ e a.tmps) :
    H' = H ∧ ∃ v', (Instr.sliceAt t (a.eval x) (lo.map a.eval) (hi.map a.eval) none).run P w = .ok v' w ∧ VR μ v v' := by
  unfold compOp at hc
  simp only at hc
  cases hu : P.underlying t with
  | none => rw [hu] at hc; cases hc
  | some ds =>
    rw [hu] at hc
    cases ds with
    | slice el =>
      simp only [Option.bind_eq_bind, Option.pure_def, Option.bind_eq_some_iff, Option.some.injEq] at hc
      obtain ⟨lo', hlo, hi', hhi, s, hs, x', hx, rfl⟩ := hc
      have rx := compX_rel hx he
      simp only [AOp.ev1] at hv
      cases hxv : x'.ev e <;> rw [hxv] at hv rx <;> simp only at hv <;> try (cases hv; done)
      · -- nil
        have := vr_nils rx
        rw [this]
        split at hv
        · rename_i h1 h2
          cases hv
          have e1 := opt_rel hhi he h1
          have e2 := opt_rel hlo he h2
          refine ⟨rfl, .slice none 0 0, ?_, .nils⟩
          unfold Instr.sliceAt
          rw [Sem.run_bind, run_und hu, Result.andThen_ok]
          simp only [Instr.slice, Sem.run_bind, run_und hu, Result.andThen_ok, bounds_ok true 0 0 _ _ 0 0 e1 e2 (Nat.le_refl _) (Nat.le_refl _), run_size' hs, Sem.run_pure]
          rfl
        · cases hv
      · obtain ⟨ad, cap, hval, hn, hk⟩ := vr_sl rx
        rw [hval]
        split at hv
        · rename_i h1 h2
          split at hv
          case isFalse => cases hv
          rename_i hcond
          obtain ⟨rfl, h3, h4⟩ := hcond
          cases hv
          obtain ⟨v', hr, hvr⟩ := s_sliceSl (w := w) hu hs hn hk (opt_rel hhi he h1) (opt_rel hlo he h2) h3 h4
          exact ⟨rfl, v', hr, hvr⟩
        · cases hv
    | string =>
      simp only [Option.bind_eq_bind, Option.pure_def, Option.bind_eq_some_iff, Option.some.injEq] at hc
      obtain ⟨lo', hlo, hi', hhi, x', hx, rfl⟩ := hc
      have rx := compX_rel hx he
      simp only [AOp.ev1] at hv
      cases hxv : x'.ev e <;> rw [hxv] at hv rx <;> simp only at hv <;> try (cases hv; done)
      rw [vr_str rx]
      split at hv
      · rename_i h1 h2
        split at hv
        case isFalse => cases hv
        rename_i hcond
        obtain ⟨h3, h4⟩ := hcond
        cases hv
        obtain ⟨v', hr, hvr⟩ := s_sliceStr (w := w) (μ := μ) hu (opt_rel hhi he h1) (opt_rel hlo he h2) h3 h4
        exact ⟨rfl, v', hr, hvr⟩
      · cases hv
    | array n el =>
      cases lo <;> cases hi <;> simp only at hc <;> try (cases hc; done)
      simp only [Option.bind_eq_bind, Option.pure_def, Option.bind_eq_some_iff, Option.some.injEq] at hc
      obtain ⟨s, hs, x', hx, rfl⟩ := hc
      have rx := compX_rel hx he
      simp only [AOp.ev1] at hv
      cases hxv : x'.ev e <;> rw [hxv] at hv rx <;> simp only at hv <;> try (cases hv; done)
      rename_i b o
      obtain ⟨ad, hval, hp⟩ := vr_ptr rx
      rw [hval]
      split at hv
      · rename_i vs own hg
        split at hv
        case isFalse => cases hv
        rename_i hle
        cases hv
        obtain ⟨v', hr, hvr⟩ := s_sliceArr (w := w) hu hs h hp hg hle
        exact ⟨rfl, v', hr, hvr⟩
      · cases hv
    | _ => cases hc
end
end Am

namespace Am
open Go Go.RowKit
section
variable {P : Program} {w : World} {μ : Mu} {H H' : AH} {e : Env} {a : Act}

theorem run_vv {s : Sem Value} {v : Value} (h : s.run P w = .ok v w) : (s >>= fun x => pure (Next.value x)).run P w = .ok (.value v) w := by simp [h]

set_option maxHeartbeats 4000000 in
theorem ev1_quiet {o : Oper} {op : AOp} {v : AV} (hc : compOp P o.op = some op) (hq : op.eff = false) (hv : op.ev1 e H = some (v, H')) (h : Sim P μ H w) (he : EnvR μ e a.tmps) :
    H' = H ∧ ∃ v', (execOp a.eval o).run P w = .ok (.value v') w ∧ VR μ v v' := by
  cases hop : o.op with
  | move x =>
    rw [hop] at hc; simp only [execOp, hop]
    simp only [compOp, Option.bind_eq_bind, Option.pure_def, Option.bind_eq_some_iff, Option.some.injEq] at hc
    obtain ⟨x', hx, rfl⟩ := hc
    simp [AOp.ev1] at hv
    obtain ⟨rfl, rfl⟩ := hv
    exact ⟨rfl, _, rfl, compX_rel hx he⟩
  | assign x =>
    rw [hop] at hc; simp only [execOp, hop]
    simp only [compOp, Option.bind_eq_bind, Option.pure_def, Option.bind_eq_some_iff, Option.some.injEq] at hc
    obtain ⟨x', hx, rfl⟩ := hc
    simp [AOp.ev1] at hv
    obtain ⟨rfl, rfl⟩ := hv
    exact ⟨rfl, _, rfl, compX_rel hx he⟩
  | pick c x y =>
    rw [hop] at hc; simp only [execOp, hop]
    simp only [compOp, Option.bind_eq_bind, Option.pure_def, Option.bind_eq_some_iff, Option.some.injEq] at hc
    obtain ⟨c', hcc, x', hx, y', hy, rfl⟩ := hc
    simp only [AOp.ev1] at hv
    have rc := compX_rel hcc he
    cases hcv : c'.ev e <;> rw [hcv] at hv <;> simp only at hv <;> try (cases hv; done)
    rename_i t
    cases hv
    rw [hcv] at rc
    rw [vr_bool rc]
    refine ⟨rfl, if t = true then a.eval x else a.eval y, by simp [asBool], ?_⟩
    cases t
    · exact compX_rel hy he
    · exact compX_rel hx he
  | alloc t =>
    rw [hop] at hc
    simp only [compOp, Option.bind_eq_bind, Option.pure_def, Option.bind_eq_some_iff, Option.some.injEq] at hc
    obtain ⟨x', hx, rfl⟩ := hc
    simp [AOp.ev1] at hv
  | box t x =>
    rw [hop] at hc
    simp only [compOp, Option.bind_eq_bind, Option.pure_def, Option.bind_eq_some_iff, Option.some.injEq] at hc
    obtain ⟨x', hx, rfl⟩ := hc
    simp [AOp.ev1] at hv
  | build t parts =>
    rw [hop] at hc; simp only [execOp, hop]
    obtain ⟨h1, v', h2, h3⟩ := q_build (w := w) hc hv he
    exact ⟨h1, v', run_vv h2, h3⟩
  | buildSlice t len parts =>
    rw [hop] at hc
    unfold compOp at hc
    simp only at hc
    cases hu : P.underlying t with
    | none => rw [hu] at hc; cases hc
    | some ds =>
      rw [hu] at hc
      cases ds <;> simp only at hc <;> try (cases hc; done)
      simp only [Option.bind_eq_bind, Option.pure_def, Option.bind_eq_some_iff] at hc
      obtain ⟨s, _, z, _, ps, _, hc⟩ := hc
      split at hc
      · split at hc <;> (cases hc; simp [AOp.ev1] at hv)
      · cases hc
  | load t x =>
    rw [hop] at hc; simp only [execOp, hop]
    simp only [compOp, Option.bind_eq_bind, Option.pure_def, Option.bind_eq_some_iff, Option.some.injEq] at hc
    obtain ⟨s, hs, x', hx, rfl⟩ := hc
    have rx := compX_rel hx he
    simp only [AOp.ev1] at hv
    cases hxv : x'.ev e <;> rw [hxv] at hv rx <;> simp only at hv <;> try (cases hv; done)
    rename_i b o
    obtain ⟨ad, hval, hp⟩ := vr_ptr rx
    rw [hval]
    cases hl : H.loadSh s b o with
    | none => rw [hl] at hv; cases hv
    | some u =>
      rw [hl] at hv
      cases hv
      obtain ⟨v', h2, h3⟩ := s_load (w := w) h hs hp hl
      exact ⟨rfl, v', by simp [Instr.loadAt, Instr.sureAddr, h2], h3⟩
  | store t x y =>
    rw [hop] at hc
    simp only [compOp, Option.bind_eq_bind, Option.pure_def, Option.bind_eq_some_iff, Option.some.injEq] at hc
    obtain ⟨_, _, _, _, _, _, rfl⟩ := hc
    simp [AOp.eff] at hq
  | nilCheck x =>
    rw [hop] at hc; simp only [execOp, hop]
    simp only [compOp, Option.bind_eq_bind, Option.pure_def, Option.bind_eq_some_iff, Option.some.injEq] at hc
    obtain ⟨x', hx, rfl⟩ := hc
    have rx := compX_rel hx he
    simp only [AOp.ev1] at hv
    cases hxv : x'.ev e <;> rw [hxv] at hv rx <;> simp only at hv <;> try (cases hv; done)
    rename_i b o
    obtain ⟨ad, hval, hp⟩ := vr_ptr rx
    cases hv
    rw [hval] at rx ⊢
    exact ⟨rfl, _, rfl, rx⟩
  | binOp bop t x y ty =>
    rw [hop] at hc; simp only [execOp, hop]
    obtain ⟨x', y', hx, hy, ⟨neg, k, rfl, hk, rfl⟩ | ⟨neg, ks, rfl, hk, rfl⟩ | ⟨h1, h2, rfl⟩⟩ := binOp_cases hc
    · simp only [AOp.ev1] at hv
      cases hq : eqCell k (x'.ev e) (y'.ev e) with
      | none => rw [hq] at hv; cases hv
      | some r =>
        rw [hq] at hv
        cases hv
        exact ⟨rfl, _, run_vv (eq1_run (w := w) hk (compX_rel hx he) (compX_rel hy he) hq neg x y), .bool _⟩
    · simp only [AOp.ev1] at hv
      have rx := compX_rel hx he
      have ry := compX_rel hy he
      cases hxv : x'.ev e <;> rw [hxv] at hv rx <;> (try simp only at hv) <;> try (cases hv; done)
      cases hyv : y'.ev e <;> rw [hyv] at hv ry <;> simp only at hv <;> try (cases hv; done)
      rename_i c1 c2
      cases hq : eqCells ks c1 c2 with
      | none => rw [hq] at hv; cases hv
      | some r =>
        rw [hq] at hv
        cases hv
        obtain ⟨us, hu1, hr1⟩ := vr_agg rx
        obtain ⟨ws, hu2, hr2⟩ := vr_agg ry
        rw [hu1, hu2]
        exact ⟨rfl, _, run_vv (eqA_run (w := w) hk hr1 hr2 hq neg x y), .bool _⟩
    · simp only [AOp.ev1] at hv
      cases hb : binAny bop (x'.ev e) (y'.ev e) with
      | none => rw [hb] at hv; cases hv
      | some r =>
        rw [hb] at hv
        cases hv
        obtain ⟨v', h3, h4⟩ := binAny_run (P := P) (w := w) (t := t) (compX_rel hx he) (compX_rel hy he) hb h1 h2 x y
        exact ⟨rfl, v', run_vv h3, h4⟩
  | unOp uop t x =>
    rw [hop] at hc; simp only [execOp, hop]
    simp only [compOp, Option.bind_eq_bind, Option.pure_def, Option.bind_eq_some_iff, Option.some.injEq] at hc
    obtain ⟨x', hx, rfl⟩ := hc
    have rx := compX_rel hx he
    simp only [AOp.ev1] at hv
    cases hxv : x'.ev e <;> rw [hxv] at hv rx <;> cases uop <;> simp [unAny] at hv
    · obtain ⟨rfl, rfl⟩ := hv
      rw [vr_bool rx]
      exact ⟨rfl, _, rfl, .bool _⟩
    · obtain ⟨rfl, rfl⟩ := hv
      rw [vr_int rx]
      refine ⟨rfl, _, by simp [Op.unary, Op.intArith], .int _ _⟩
  | convert s d x =>
    rw [hop] at hc; simp only [execOp, hop]
    unfold compOp at hc
    simp only at hc
    cases hus : P.underlying s with
    | none => rw [hus] at hc; cases hc
    | some ds =>
      rw [hus] at hc
      cases hud : P.underlying d with
      | none => rw [hud] at hc; cases ds <;> cases hc
      | some dd =>
        rw [hud] at hc
        cases ds <;> cases dd <;> simp only at hc <;> try (cases hc; done)
        · simp only [Option.bind_eq_bind, Option.pure_def, Option.bind_eq_some_iff, Option.some.injEq] at hc
          obtain ⟨x', hx, rfl⟩ := hc
          have rx := compX_rel hx he
          simp only [AOp.ev1] at hv
          cases hxv : x'.ev e <;> rw [hxv] at hv rx <;> simp only at hv <;> try (cases hv; done)
          cases hv
          rw [vr_int rx]
          exact ⟨rfl, _, run_vv (by simp [convert, run_und hus, run_und hud, Conv.intToInt]), .int _ _⟩
        · simp only [Option.bind_eq_bind, Option.pure_def, Option.bind_eq_some_iff, Option.some.injEq] at hc
          obtain ⟨x', hx, rfl⟩ := hc
          have rx := compX_rel hx he
          simp only [AOp.ev1] at hv
          cases hxv : x'.ev e <;> rw [hxv] at hv rx <;> simp only at hv <;> try (cases hv; done)
          split at hv
          case isFalse => cases hv
          rename_i hcond
          cases hv
          rw [vr_int rx]
          exact ⟨rfl, _, run_vv (by simp [convert, run_und hus, run_und hud, Conv.intToString, encode_ascii hcond.1 hcond.2]), .str _⟩
        · rename_i el
          cases hue : P.underlying el with
          | none => rw [hue] at hc; cases hc
          | some de =>
            rw [hue] at hc
            cases de with
            | int kk =>
              cases kk <;> simp only at hc <;> try (cases hc; done)
              simp only [Option.bind_eq_bind, Option.pure_def, Option.bind_eq_some_iff, Option.some.injEq] at hc
              obtain ⟨x', hx, rfl⟩ := hc
              have rx := compX_rel hx he
              simp only [AOp.ev1] at hv
              cases hxv : x'.ev e <;> rw [hxv] at hv rx <;> simp only at hv <;> try (cases hv; done)
              · cases hv
                rw [vr_nils rx]
                exact ⟨rfl, _, run_vv (by simp [convert, run_und hus, run_und hud, run_und hue, Conv.bytesToString]; rfl), .str _⟩
              · rename_i b o n z
                obtain ⟨ad, cap, hval, hn, hk⟩ := vr_sl rx
                rw [hval]
                cases hg : H.cells b with
                | none => rw [hg] at hv; cases hv
                | some vs =>
                  rw [hg] at hv
                  simp only at hv
                  split at hv
                  case isFalse => cases hv
                  rename_i hcond
                  obtain ⟨rfl, hle⟩ := hcond
                  cases hbs : bytesOf ((vs.drop o).take n) with
                  | none => rw [hbs] at hv; cases hv
                  | some bs =>
                    rw [hbs] at hv
                    cases hv
                    exact ⟨rfl, _, run_vv (by simp [convert, run_und hus, run_und hud, run_und hue, bytes_run (w := w) h hn hk hg hle hbs]), .str _⟩
            | _ => cases hc
  | sliceToArrayPointer t x =>
    rw [hop] at hc; simp only [execOp, hop]
    unfold compOp at hc
    simp only at hc
    cases hu : P.underlying t with
    | none => rw [hu] at hc; cases hc
    | some ds =>
      rw [hu] at hc
      cases ds <;> simp only at hc <;> try (cases hc; done)
      simp only [Option.bind_eq_bind, Option.pure_def, Option.bind_eq_some_iff, Option.some.injEq] at hc
      obtain ⟨x', hx, rfl⟩ := hc
      have rx := compX_rel hx he
      simp only [AOp.ev1] at hv
      cases hxv : x'.ev e <;> rw [hxv] at hv rx <;> simp only at hv <;> try (cases hv; done)
      split at hv
      case isFalse => cases hv
      rename_i hcond
      cases hv
      obtain ⟨ad, cap, hval, hn, hk⟩ := vr_sl rx
      rw [hval]
      obtain ⟨v', h2, h3⟩ := s_arrPtr (w := w) hu hn hk hcond.1 hcond.2
      exact ⟨rfl, v', run_vv h2, h3⟩
  | makeInterface t x => rw [hop] at hc; cases hc
  | makeFunc fn first cap =>
    rw [hop] at hc; simp only [execOp, hop]
    cases fn <;> simp only [compOp] at hc <;> try (cases hc; done)
    split at hc
    case isFalse => cases hc
    rename_i hf
    subst hf
    simp only [Option.bind_eq_bind, Option.pure_def, Option.bind_eq_some_iff, Option.some.injEq] at hc
    obtain ⟨xs, hxs, rfl⟩ := hc
    simp only [AOp.ev1] at hv
    cases hv
    have := compXs_rel hxs he
    exact ⟨rfl, .func (.func _) #[] (cap.map a.eval), by simp [Instr.makeFunc], .fn _ _ _ (by simpa using this)⟩
  | makeMap t r =>
    rw [hop] at hc
    cases r <;> simp only [compOp] at hc <;> cases hc
    simp [AOp.ev1] at hv
  | makeChan t s => rw [hop] at hc; cases hc
  | makeSlice t l c =>
    rw [hop] at hc
    unfold compOp at hc
    simp only at hc
    cases hu : P.underlying t with
    | none => rw [hu] at hc; cases hc
    | some ds =>
      rw [hu] at hc
      cases ds <;> simp only at hc <;> try (cases hc; done)
      split at hc
      case isFalse => cases hc
      simp only [Option.bind_eq_bind, Option.pure_def, Option.bind_eq_some_iff] at hc
      obtain ⟨z, _, s, _, hc⟩ := hc
      split at hc
      case isFalse => cases hc
      simp only [Option.bind_eq_some_iff, Option.some.injEq] at hc
      obtain ⟨_, _, _, _, rfl⟩ := hc
      simp [AOp.ev1] at hv
  | slice t x lo hi mx =>
    rw [hop] at hc; simp only [execOp, hop]
    cases mx with
    | some m => simp [compOp] at hc
    | none =>
      obtain ⟨h1, v', h2, h3⟩ := q_slice (w := w) hc hv h he
      exact ⟨h1, v', run_vv h2, h3⟩
  | fieldAddr t x i =>
    rw [hop] at hc; simp only [execOp, hop]
    unfold compOp at hc
    simp only at hc
    cases hu : P.underlying t with
    | none => rw [hu] at hc; cases hc
    | some ds =>
      rw [hu] at hc
      cases ds <;> simp only at hc <;> try (cases hc; done)
      rename_i fs
      cases hf : fs[i]? with
      | none => rw [hf] at hc; cases hc
      | some f =>
        rw [hf] at hc
        simp only at hc
        cases hs : sizeAt P f.type with
        | none => rw [hs] at hc; cases hc
        | some n =>
          rw [hs] at hc
          cases n with
          | zero => cases hc
          | succ n =>
            simp only [Option.bind_eq_bind, Option.pure_def, Option.bind_eq_some_iff, Option.some.injEq] at hc
            obtain ⟨x', hx, rfl⟩ := hc
            have rx := compX_rel hx he
            simp only [AOp.ev1] at hv
            cases hxv : x'.ev e <;> rw [hxv] at hv rx <;> simp only at hv <;> try (cases hv; done)
            obtain ⟨ad, hval, hp⟩ := vr_ptr rx
            rw [hval]
            cases hv
            obtain ⟨v', h2, h3⟩ := s_fieldAddr (w := w) hu hf hs (by omega) hp
            exact ⟨rfl, v', run_vv h2, h3⟩
  | field t x i =>
    rw [hop] at hc; simp only [execOp, hop]
    unfold compOp at hc
    simp only at hc
    cases hu : P.underlying t with
    | none => rw [hu] at hc; cases hc
    | some ds =>
      rw [hu] at hc
      cases ds <;> simp only at hc <;> try (cases hc; done)
      rename_i fs
      cases hf : fs[i]? with
      | none => rw [hf] at hc; cases hc
      | some f =>
        rw [hf] at hc
        simp only [Option.bind_eq_bind, Option.pure_def, Option.bind_eq_some_iff, Option.some.injEq] at hc
        obtain ⟨s, hs, x', hx, rfl⟩ := hc
        have rx := compX_rel hx he
        simp only [AOp.ev1] at hv
        cases hxv : x'.ev e <;> rw [hxv] at hv rx <;> simp only at hv <;> try (cases hv; done)
        rename_i cs
        obtain ⟨us, hval, hr⟩ := vr_agg rx
        rw [hval]
        cases hp : partSh s cs f.offset with
        | none => rw [hp] at hv; cases hv
        | some u =>
          rw [hp] at hv
          cases hv
          obtain ⟨v', h2, h3⟩ := s_field (w := w) hu hf hs hr hp
          exact ⟨rfl, v', run_vv h2, h3⟩
  | indexAddr t x i =>
    rw [hop] at hc; simp only [execOp, hop]
    unfold compOp at hc
    simp only at hc
    cases hu : P.underlying t with
    | none => rw [hu] at hc; cases hc
    | some ds =>
      rw [hu] at hc
      cases ds <;> simp only at hc <;> try (cases hc; done)
      · simp only [Option.bind_eq_bind, Option.pure_def, Option.bind_eq_some_iff, Option.some.injEq] at hc
        obtain ⟨s, hs, x', hx, i', hi, rfl⟩ := hc
        have rx := compX_rel hx he
        have ri := compX_rel hi he
        simp only [AOp.ev1] at hv
        cases hin : natOf (i'.ev e) with
        | none => rw [hin] at hv; cases hxv : x'.ev e <;> rw [hxv] at hv <;> cases hv
        | some n =>
          rw [hin] at hv
          obtain ⟨k, hk, _⟩ := natOf_rel hin ri
          rw [hk]
          cases hxv : x'.ev e <;> rw [hxv] at hv rx <;> simp only at hv <;> try (cases hv; done)
          split at hv
          case isFalse => cases hv
          rename_i hcond
          obtain ⟨rfl, hlt⟩ := hcond
          cases hv
          obtain ⟨ad, cap, hval, hn, hkk⟩ := vr_sl rx
          rw [hval]
          obtain ⟨v', h2, h3⟩ := s_indexAddrS (w := w) (k := k) hu hs hn hkk hlt
          exact ⟨rfl, v', run_vv h2, h3⟩
      · simp only [Option.bind_eq_bind, Option.pure_def, Option.bind_eq_some_iff, Option.some.injEq] at hc
        obtain ⟨s, hs, x', hx, i', hi, rfl⟩ := hc
        have rx := compX_rel hx he
        have ri := compX_rel hi he
        simp only [AOp.ev1] at hv
        cases hin : natOf (i'.ev e) with
        | none => rw [hin] at hv; cases hxv : x'.ev e <;> rw [hxv] at hv <;> cases hv
        | some n =>
          rw [hin] at hv
          obtain ⟨k, hk, _⟩ := natOf_rel hin ri
          rw [hk]
          cases hxv : x'.ev e <;> rw [hxv] at hv rx <;> simp only at hv <;> try (cases hv; done)
          split at hv
          case isFalse => cases hv
          rename_i hlt
          cases hv
          obtain ⟨ad, hval, hp⟩ := vr_ptr rx
          rw [hval]
          obtain ⟨v', h2, h3⟩ := s_indexAddrA (w := w) (k := k) hu hs hp hlt
          exact ⟨rfl, v', run_vv h2, h3⟩
  | index t x i =>
    rw [hop] at hc; simp only [execOp, hop]
    unfold compOp at hc
    simp only at hc
    cases hu : P.underlying t with
    | none => rw [hu] at hc; cases hc
    | some ds =>
      rw [hu] at hc
      cases ds <;> simp only at hc <;> try (cases hc; done)
      · simp only [Option.bind_eq_bind, Option.pure_def, Option.bind_eq_some_iff, Option.some.injEq] at hc
        obtain ⟨x', hx, i', hi, rfl⟩ := hc
        have rx := compX_rel hx he
        have ri := compX_rel hi he
        simp only [AOp.ev1] at hv
        cases hin : natOf (i'.ev e) with
        | none => rw [hin] at hv; cases hxv : x'.ev e <;> rw [hxv] at hv <;> cases hv
        | some n =>
          rw [hin] at hv
          obtain ⟨k, hk, _⟩ := natOf_rel hin ri
          rw [hk]
          cases hxv : x'.ev e <;> rw [hxv] at hv rx <;> simp only at hv <;> try (cases hv; done)
          rename_i s
          cases hch : s[n]? with
          | none => rw [hch] at hv; cases hv
          | some c =>
            rw [hch] at hv
            cases hv
            rw [vr_str rx]
            exact ⟨rfl, _, run_vv (s_indexStr (w := w) (k := k) hu hch), .int _ _⟩
      · simp only [Option.bind_eq_bind, Option.pure_def, Option.bind_eq_some_iff] at hc
        obtain ⟨s, hsh, hc⟩ := hc
        split at hc
        case isFalse => cases hc
        rename_i hs
        simp only [Option.bind_eq_some_iff, Option.some.injEq] at hc
        obtain ⟨x', hx, i', hi, rfl⟩ := hc
        have rx := compX_rel hx he
        have ri := compX_rel hi he
        simp only [AOp.ev1] at hv
        cases hin : natOf (i'.ev e) with
        | none => rw [hin] at hv; cases hxv : x'.ev e <;> rw [hxv] at hv <;> cases hv
        | some n =>
          rw [hin] at hv
          obtain ⟨k, hk, _⟩ := natOf_rel hin ri
          rw [hk]
          cases hxv : x'.ev e <;> rw [hxv] at hv rx <;> simp only at hv <;> try (cases hv; done)
          rename_i cs
          split at hv
          case isFalse => cases hv
          rename_i hlt
          obtain ⟨us, hval, hr⟩ := vr_agg rx
          rw [hval]
          cases hp : partSh s cs (n * s.size) with
          | none => rw [hp] at hv; cases hv
          | some u =>
            rw [hp] at hv
            cases hv
            obtain ⟨v', h2, h3⟩ := s_indexA (w := w) (k := k) hu hsh hs hr hlt hp
            exact ⟨rfl, v', run_vv h2, h3⟩
  | lookup t x k ok =>
    rw [hop] at hc; simp only [execOp, hop]
    unfold compOp at hc
    simp only at hc
    cases hu : P.underlying t with
    | none => rw [hu] at hc; cases hc
    | some ds =>
      rw [hu] at hc
      cases ds <;> simp only at hc <;> try (cases hc; done)
      rename_i kt el
      cases hkt : P.underlying kt with
      | none => rw [hkt] at hc; cases hc
      | some dk =>
        rw [hkt] at hc
        cases dk <;> simp only at hc <;> try (cases hc; done)
        simp only [Option.bind_eq_bind, Option.pure_def, Option.bind_eq_some_iff, Option.some.injEq] at hc
        obtain ⟨z, hz, x', hx, k', hk, rfl⟩ := hc
        have rx := compX_rel hx he
        have rk := compX_rel hk he
        simp only [AOp.ev1] at hv
        cases hxv : x'.ev e <;> rw [hxv] at hv rx <;> (try simp only at hv) <;> try (cases hv; done)
        cases hkv : k'.ev e <;> rw [hkv] at hv rk <;> simp only at hv <;> try (cases hv; done)
        rename_i b kk n
        split at hv
        · rename_i es c hg
          split at hv
          case isFalse => cases hv
          rename_i hks
          obtain ⟨r, hval, hb⟩ := vr_map rx
          rw [hval, vr_int rk]
          obtain ⟨v', h2, h3⟩ := s_lookup (w := w) (n := n) hu hkt hz h hb hg hks ok
          refine ⟨?_, v', run_vv h2, ?_⟩
          · cases hfe : findEntry (.int kk n) es with
            | none => rw [hfe] at hv; cases hv; rfl
            | some q => rw [hfe] at hv; cases hv; rfl
          · cases hfe : findEntry (.int kk n) es with
            | none => rw [hfe] at hv h3; cases hv; exact h3
            | some q => rw [hfe] at hv h3; cases hv; exact h3
        · cases hv
  | mapUpdate t m k x =>
    rw [hop] at hc
    unfold compOp at hc
    simp only at hc
    cases hu : P.underlying t with
    | none => rw [hu] at hc; cases hc
    | some ds =>
      rw [hu] at hc
      cases ds <;> simp only at hc <;> try (cases hc; done)
      rename_i kt el
      cases hkt : P.underlying kt with
      | none => rw [hkt] at hc; cases hc
      | some dk =>
        rw [hkt] at hc
        cases dk <;> simp only at hc <;> try (cases hc; done)
        simp only [Option.bind_eq_bind, Option.pure_def, Option.bind_eq_some_iff, Option.some.injEq] at hc
        obtain ⟨_, _, _, _, _, _, rfl⟩ := hc
        simp [AOp.eff] at hq
  | mapEntry t m k =>
    rw [hop] at hc
    unfold compOp at hc
    simp only at hc
    cases hu : P.underlying t with
    | none => rw [hu] at hc; cases hc
    | some ds =>
      rw [hu] at hc
      cases ds <;> simp only at hc <;> try (cases hc; done)
      rename_i kt el
      cases hkt : P.underlying kt with
      | none => rw [hkt] at hc; cases hc
      | some dk =>
        rw [hkt] at hc
        cases dk <;> simp only at hc <;> try (cases hc; done)
        simp only [Option.bind_eq_bind, Option.pure_def, Option.bind_eq_some_iff, Option.some.injEq] at hc
        obtain ⟨_, _, _, _, _, _, rfl⟩ := hc
        simp [AOp.eff] at hq
  | entryStore t m s x =>
    rw [hop] at hc
    simp only [compOp, Option.bind_eq_bind, Option.pure_def, Option.bind_eq_some_iff, Option.some.injEq] at hc
    obtain ⟨_, _, _, _, _, _, rfl⟩ := hc
    simp [AOp.eff] at hq
  | range t x =>
    rw [hop] at hc
    unfold compOp at hc
    simp only at hc
    cases hu : P.underlying t with
    | none => rw [hu] at hc; cases hc
    | some ds =>
      rw [hu] at hc
      cases ds <;> simp only at hc <;> try (cases hc; done)
      simp only [Option.bind_eq_bind, Option.pure_def, Option.bind_eq_some_iff, Option.some.injEq] at hc
      obtain ⟨_, _, rfl⟩ := hc
      simp [AOp.eff] at hq
  | next x s =>
    rw [hop] at hc
    cases s <;> simp only [compOp, Option.bind_eq_bind, Option.pure_def, Option.bind_eq_some_iff, Option.some.injEq] at hc
    · cases hc
    · obtain ⟨_, _, rfl⟩ := hc
      simp [AOp.eff] at hq
  | extract x i =>
    rw [hop] at hc; simp only [execOp, hop]
    simp only [compOp, Option.bind_eq_bind, Option.pure_def, Option.bind_eq_some_iff, Option.some.injEq] at hc
    obtain ⟨x', hx, rfl⟩ := hc
    have rx := compX_rel hx he
    simp only [AOp.ev1] at hv
    cases hxv : x'.ev e <;> rw [hxv] at hv rx <;> simp only at hv <;> try (cases hv; done)
    rename_i vs
    obtain ⟨us, hval, hr⟩ := vr_tup rx
    rw [hval]
    cases hi : vs[i]? with
    | none => rw [hi] at hv; cases hv
    | some u =>
      rw [hi] at hv
      cases hv
      obtain ⟨y, hy, hry⟩ := hr.get hi
      have hy' : us[i]? = some y := by simpa using hy
      exact ⟨rfl, y, by simp [Instr.extract, hy'], hry⟩
  | call c =>
    rw [hop] at hc; simp only [execOp, hop]
    unfold compOp at hc
    simp only at hc
    cases hcal : c.callee with
    | value f =>
      rw [hcal] at hc
      exfalso
      cases f <;> simp only [Option.bind_eq_bind, Option.pure_def, Option.bind_eq_some_iff, Option.some.injEq] at hc
      · obtain ⟨_, _, _, _, rfl⟩ := hc; simp [AOp.eff] at hq
      · obtain ⟨_, _, _, _, rfl⟩ := hc; simp [AOp.eff] at hq
      · obtain ⟨_, _, _, _, rfl⟩ := hc; simp [AOp.eff] at hq
      · obtain ⟨_, _, rfl⟩ := hc; simp [AOp.eff] at hq
    | invoke r m => rw [hcal] at hc; cases hc
    | builtin bi =>
      rw [hcal] at hc
      cases bi <;> simp only at hc <;> try (cases hc; done)
      · -- append
        exfalso
        split at hc
        · split at hc
          · simp only [Option.bind_eq_bind, Option.pure_def, Option.bind_eq_some_iff] at hc
            obtain ⟨_, _, _, _, hc⟩ := hc
            split at hc
            case isFalse => cases hc
            simp only [Option.bind_eq_some_iff, Option.some.injEq] at hc
            obtain ⟨_, _, _, _, _, _, rfl⟩ := hc
            simp [AOp.eff] at hq
          · cases hc
        · cases hc
      · -- len
        split at hc
        · rename_i t x hat har
          have e1 : c.argTypes = #[t] := by rw [← Array.toList_inj]; exact hat
          have e2 : c.args = #[x] := by rw [← Array.toList_inj]; exact har
          simp only [resolve, hcal, Sem.run_bind, Sem.run_pure, Result.andThen_ok, invoke, builtin, e1, e2]
          cases hu : P.underlying t with
          | none => rw [hu] at hc; cases hc
          | some ds =>
            rw [hu] at hc
            cases ds <;> simp only at hc <;> try (cases hc; done)
            · simp only [Option.bind_eq_bind, Option.pure_def, Option.bind_eq_some_iff, Option.some.injEq] at hc
              obtain ⟨x', hx, rfl⟩ := hc
              have rx := compX_rel hx he
              simp only [AOp.ev1] at hv
              cases hxv : x'.ev e <;> rw [hxv] at hv rx <;> simp only at hv <;> try (cases hv; done)
              cases hv
              rw [show (#[x] : Array Operand).map a.eval = #[a.eval x] by simp, vr_str rx]
              rename_i s
              have hl : (Builtin.len_ #[t] o.type #[.string ⟨⟨s⟩⟩]).run P w = .ok (.int .i64 s.length) w := by
                have e : (⟨⟨s⟩⟩ : ByteArray).size = s.length := rfl
                simp only [Builtin.len_, List.getElem?_toArray, List.getElem?_cons_zero, Sem.run_bind, run_und hu, Result.andThen_ok, Sem.run_pure, goInt, e]
              exact ⟨rfl, .int .i64 s.length, by rw [hl]; rfl, .int _ _⟩
            · simp only [Option.bind_eq_bind, Option.pure_def, Option.bind_eq_some_iff, Option.some.injEq] at hc
              obtain ⟨x', hx, rfl⟩ := hc
              have rx := compX_rel hx he
              simp only [AOp.ev1] at hv
              cases hxv : x'.ev e <;> rw [hxv] at hv rx <;> simp only at hv <;> try (cases hv; done)
              · cases hv
                rw [show (#[x] : Array Operand).map a.eval = #[a.eval x] by simp, vr_nils rx]
                exact ⟨rfl, .int .i64 0, by simp [Builtin.len_, run_und hu, goInt], .int _ _⟩
              · cases hv
                obtain ⟨ad, cap, hval, _, _⟩ := vr_sl rx
                rw [show (#[x] : Array Operand).map a.eval = #[a.eval x] by simp, hval]
                exact ⟨rfl, .int .i64 _, by simp [Builtin.len_, run_und hu, goInt], .int _ _⟩
        · cases hc
      · -- max
        simp only [Option.bind_eq_bind, Option.pure_def, Option.bind_eq_some_iff, Option.some.injEq] at hc
        obtain ⟨xs, hxs, rfl⟩ := hc
        have rxs := compXs_rel hxs he
        simp only [AOp.ev1] at hv
        split at hv
        · cases hv
        · rename_i x r hxr
          cases hm : maxes x r with
          | none => rw [hm] at hv; cases hv
          | some u =>
            rw [hm] at hv
            cases hv
            rw [hxr] at rxs
            cases har : c.args.toList.map a.eval with
            | nil => rw [har] at rxs; cases rxs
            | cons y ys =>
              rw [har] at rxs
              cases rxs with
              | cons _ _ _ _ r1 r2 =>
                obtain ⟨v', h2, h3⟩ := s_max (P := P) (w := w) r ys x y _ r1 r2 hm
                refine ⟨rfl, v', ?_, h3⟩
                simp only [resolve, hcal, Sem.run_bind, Sem.run_pure, Result.andThen_ok, invoke, builtin, Builtin.max_, Array.toList_map, har, h2]
  | go c => rw [hop] at hc; cases hc
  | defer c => rw [hop] at hc; cases hc
  | panic x => rw [hop] at hc; cases hc
  | send x y => rw [hop] at hc; cases hc
  | recv t x b => rw [hop] at hc; cases hc
  | select cs b => rw [hop] at hc; cases hc
  | ready g => rw [hop] at hc; cases hc
  | waits g => rw [hop] at hc; cases hc
  | typeAssert x t u b => rw [hop] at hc; cases hc
  | entry x => rw [hop] at hc; cases hc
  | insert t m k v => rw [hop] at hc; cases hc
end
end Am

namespace Am
open Go Go.RowKit
section
variable {P : Program} {w : World} {μ : Mu} {H H' : AH} {e : Env} {a : Act}

theorem new_alloc (w : World) (o : Obj) : New w { w with heap := w.heap.push o } o :=
  ⟨by simp, by simp, fun k hk => by simp only [Array.getElem?_push]; rw [if_neg hk], rfl, rfl, rfl⟩

/-- What the making of a block of cells owes. -/
theorem mk_cells {Y : AH} {b : Nat} {vs : List AV} {cs : Array Value} {ty : TypeId} {w' : World} (h : Sim P μ Y w) (hb : μ b = .unborn) (hlt : b < Y.next) (hg : Y.get b = some (.cells vs true)) (hr : VRs μ vs (cs.toList.take vs.length))
    (hsz : vs.length ≤ cs.size) (hw : New w w' (.cells cs ty (0, 0))) :
    Sim P (μ.set b (.cells w.heap.size 0 cs.size true)) Y w' ∧ ∀ N, N ≤ b → FR N μ w (μ.set b (.cells w.heap.size 0 cs.size true)) w' := by
  have hle : μ.le (μ.set b (.cells w.heap.size 0 cs.size true)) := Mu.set_le _ _ _ (.inl hb)
  refine h.alloc hb hlt hg hw (.inl ⟨vs, cs.size, rfl, rfl, cs, ty, (0, 0), hw.at', rfl, by simpa using hsz, fun _ => rfl, ?_⟩)
  simpa using hr.mono hle

theorem replicate_flat (z : List Value) (n : Nat) : ((Array.range (n * z.length)).map fun i => z.toArray[i % z.length]!).toList = (List.replicate n z).flatten := by
  rw [Array.toList_map, Array.toList_range]
  induction n with
  | zero => simp
  | succ n ih =>
    rw [Nat.add_mul, Nat.one_mul, List.range_add, List.map_append, ih, List.replicate_succ', List.flatten_append, List.map_map]
    congr 1
    simp only [List.flatten_cons, List.flatten_nil, List.append_nil]
    apply List.ext_getElem
    · simp
    · intro i h1 h2
      simp only [List.getElem_map, List.getElem_range, Function.comp]
      have : (n * z.length + i) % z.length = i := by rw [Nat.add_comm, Nat.add_mul_mod_self_right]; exact Nat.mod_eq_of_lt h2
      rw [this]
      simp [h2]

theorem repl_rel {z : List AV} {zc : List Value} (h : VRs μ z zc) : ∀ n, VRs μ (repl n z) (List.replicate n zc).flatten
  | 0 => .nil
  | n + 1 => by
    unfold repl
    rw [List.replicate_succ, List.replicate_succ, List.flatten_cons, List.flatten_cons]
    exact h.append (repl_rel h n)

def MkOk (P : Program) (μ : Mu) (Y : AH) (w : World) (b : Nat) (f : Nat → AV) (s : Sem Next) : Prop :=
  ∃ v' w' sl, s.run P w = .ok (.value v') w' ∧ sl ≠ .unborn ∧ Sim P (μ.set b sl) Y w' ∧ (∀ N, N ≤ b → FR N μ w (μ.set b sl) w') ∧ VR (μ.set b sl) (f b) v'

theorem mk_fin {Y : AH} {b : Nat} {vs : List AV} {cs : Array Value} {ty : TypeId} {f : Nat → AV} {s : Sem Next} {v' : Value} (h : Sim P μ Y w) (hb : μ b = .unborn) (hlt : b < Y.next) (hg : Y.get b = some (.cells vs true)) (hr : VRs μ vs cs.toList)
    (hrun : s.run P w = .ok (.value v') { w with heap := w.heap.push (.cells cs ty (0, 0)) }) (hv : VR (μ.set b (.cells w.heap.size 0 cs.size true)) (f b) v') : MkOk P μ Y w b f s := by
  obtain ⟨h1, h2⟩ := mk_cells h hb hlt hg (by rw [List.take_of_length_le (by rw [hr.length]; exact Nat.le_refl _)]; exact hr) (by rw [hr.length]; simp) (new_alloc w (.cells cs ty (0, 0)))
  exact ⟨v', _, _, hrun, by simp, h1, h2, hv⟩

theorem vr_new_ptr {b B csz : Nat} : VR (μ.set b (.cells B 0 csz true)) (.ptr b 0) (.pointer (some ⟨B, 0, none⟩)) := .ptr _ _ _ (by simp [Mu.set, Slot.ptrOk])
theorem vr_new_sl {b B csz n cap esz : Nat} (h : n ≤ cap) (hc : cap * esz ≤ csz) : VR (μ.set b (.cells B 0 csz true)) (.sl b 0 n esz) (.slice (some ⟨B, 0, none⟩) n cap) :=
  .sl _ _ _ _ _ _ h (by simp [Mu.set, Slot.slOk]; omega)

theorem ne_mk {op : AOp} {r : Blk × (Nat → AV)} (h : op.mk e = some r) : (∃ z, op = .alloc z) ∨ (∃ x, op = .box x) ∨ (∃ c z l p, op = .buildSlice c z l p) ∨ (∃ z b l, op = .makeSlice z b l) ∨ op = .makeMap := by
  cases op <;> simp [AOp.mk] at h <;> simp

set_option maxHeartbeats 1000000 in
theorem mk_sound {o : Oper} {op : AOp} {blk : Blk} {f : Nat → AV} {Y : AH} {b : Nat} (hc : compOp P o.op = some op) (hm : op.mk e = some (blk, f)) (h : Sim P μ Y w) (he : EnvR μ e a.tmps)
    (hb : μ b = .unborn) (hlt : b < Y.next) (hg : Y.get b = some blk) : MkOk P μ Y w b f (execOp a.eval o) := by
  cases hop : o.op with
  | alloc t =>
    rw [hop] at hc; simp only [execOp, hop]
    simp only [compOp, Option.bind_eq_bind, Option.pure_def, Option.bind_eq_some_iff, Option.some.injEq] at hc
    obtain ⟨z, hz, rfl⟩ := hc
    simp only [AOp.mk, Option.some.injEq, Prod.mk.injEq] at hm
    obtain ⟨rfl, rfl⟩ := hm
    obtain ⟨zv, hzr, hzc⟩ := run_zero hz
    exact mk_fin (cs := zv.cells) (ty := t) h hb hlt hg (cellsOf_rel μ hzc) (by simp [Instr.alloc, hzr, newVar, newRow]) vr_new_ptr
  | box t x =>
    rw [hop] at hc; simp only [execOp, hop]
    simp only [compOp, Option.bind_eq_bind, Option.pure_def, Option.bind_eq_some_iff, Option.some.injEq] at hc
    obtain ⟨x', hx, rfl⟩ := hc
    simp only [AOp.mk] at hm
    split at hm
    case isFalse => cases hm
    rename_i hall
    cases hm
    exact mk_fin (cs := (a.eval x).cells) (ty := t) h hb hlt hg ((compX_rel hx he).cells hall) (by simp [Instr.box, newVar, newRow]) vr_new_ptr
  | buildSlice t len parts =>
    rw [hop] at hc; simp only [execOp, hop]
    unfold compOp at hc
    simp only at hc
    cases hu : P.underlying t with
    | none => rw [hu] at hc; cases hc
    | some ds =>
      rw [hu] at hc
      cases ds <;> simp only at hc <;> try (cases hc; done)
      rename_i el
      simp only [Option.bind_eq_bind, Option.pure_def, Option.bind_eq_some_iff] at hc
      obtain ⟨s, hs, z, hz, ps, hps, hc⟩ := hc
      split at hc
      case isFalse => cases hc
      rename_i hcond
      obtain ⟨hzl, hle⟩ := hcond
      obtain ⟨zv, hzr, hzc⟩ := run_zero hz
      have hzrel := cellsOf_rel μ hzc
      have hzsz : zv.cells.toList.length = s := by rw [← hzrel.length, hzl]
      have key : ∀ (cells : List AV) (start : Array Value), op = .buildSlice cells s len ps → VRs μ cells start.toList → start.size = len * s →
          (Instr.buildSlice t len (parts.map fun (i, x) => (i, a.eval x))).run P w = (match Instr.fill (fun i => some (i * s, s)) start (parts.map fun (i, x) => (i, a.eval x)).toList with
            | some cells => .ok (.slice (some ⟨w.heap.size, 0, none⟩) len len) { w with heap := w.heap.push (.cells cells el (0, 0)) }
            | none => .halt (.stuck "buildSlice: a part of the wrong size") w) → MkOk P μ Y w b f (do pure (Next.value (← Instr.buildSlice t len (parts.map fun (i, x) => (i, a.eval x))))) := by
        intro cells start hopp hst hssz hrun
        subst hopp
        simp only [AOp.mk] at hm
        split at hm
        case isFalse => cases hm
        rename_i hall
        rw [List.all_eq_true] at hall
        cases hla : layAll cells (ps.map fun p => (p.1 * s, (p.2.ev e).cells)) with
        | none => rw [hla] at hm; cases hm
        | some cs =>
          rw [hla] at hm
          cases hm
          obtain ⟨us', hf, hr⟩ := fill_rel (μ := μ) (fun i => some (i * s, s)) (parts.map fun (i, x) => (i, a.eval x)).toList (ps.map fun p => (p.1 * s, (p.2.ev e).cells)) cells cs start (by simp [mapM_length hps]) (by
            intro j p q hj hq
            simp only [Array.toList_map, List.getElem?_map, Option.map_eq_some_iff] at hj hq
            obtain ⟨p0, hp0, rfl⟩ := hj
            obtain ⟨q0, hq0, rfl⟩ := hq
            obtain ⟨bb, hbb, hfb⟩ := mapM_get' hps hp0
            rw [hq0] at hbb
            cases hbb
            simp only [Option.bind_eq_some_iff, Option.some.injEq] at hfb
            obtain ⟨x, hx, rfl⟩ := hfb
            have := hall _ (List.mem_of_getElem? hq0)
            simp only [Bool.and_eq_true, decide_eq_true_eq] at this
            exact ⟨s, rfl, this.1, (compX_rel hx he).cells this.2⟩) hst hla
          rw [hf] at hrun
          have hsz' : us'.size = len * s := by
            have : ∀ (parts : List (Nat × Value)) (c c' : Array Value), Instr.fill (fun i => some (i * s, s)) c parts = some c' → c'.size = c.size := by
              intro parts
              induction parts with
              | nil => intro c c' hh; simp [Instr.fill] at hh; rw [hh]
              | cons p r ih =>
                intro c c' hh
                obtain ⟨i, v⟩ := p
                unfold Instr.fill at hh
                simp only at hh
                split at hh
                · cases hh
                · rename_i hnn
                  have := ih _ _ hh
                  rw [this]
                  have e1 : ∀ (l : List (Value × Nat)) (c : Array Value), (l.foldl (fun (cs : Array Value) (x : Value × Nat) => cs.setIfInBounds (i * s + x.2) x.1) c).size = c.size := by
                    intro l
                    induction l with
                    | nil => intro c; rfl
                    | cons x l ihl => intro c; rw [List.foldl_cons, ihl]; simp
                  rw [← Array.foldl_toList]
                  exact e1 _ _
            rw [this _ _ _ hf, hssz]
          refine mk_fin (cs := us') (ty := el) (v' := .slice (some ⟨w.heap.size, 0, none⟩) len len) h hb hlt hg hr ?_ (vr_new_sl (Nat.le_refl _) (by omega))
          simp [hrun]
      split at hc
      · rename_i h0
        cases hc
        refine key [] #[] rfl .nil (by simp [h0]) ?_
        unfold Instr.buildSlice
        simp only [Sem.run_bind, run_und hu, Result.andThen_ok, run_size' hs]
        rw [if_neg (by omega)]
        simp only [h0, if_true, Sem.run_bind, Sem.run_pure, Result.andThen_ok]
        have e0 : ∀ (f : Nat → Value), (Array.range 0).map f = #[] := fun f => by simp [Array.range]
        rw [e0]
        cases Instr.fill (fun i => some (i * s, s)) #[] (parts.map fun (i, x) => (i, a.eval x)).toList <;> simp [newRow]
      · rename_i h0
        cases hc
        have e0 : zv.cells = zv.cells.toList.toArray := by simp
        refine key (repl len z) ((Array.range (len * s)).map (fun i => zv.cells[i % zv.cells.size]!)) rfl ?_ (by simp) ?_
        · have := replicate_flat zv.cells.toList len
          rw [hzsz] at this
          have e1 : ((Array.range (len * s)).map (fun i => zv.cells[i % zv.cells.size]!)).toList = (List.replicate len zv.cells.toList).flatten := by
            rw [← this]
            have : zv.cells.size = s := by simpa using hzsz
            rw [this]
          rw [e1]
          exact repl_rel hzrel len
        · unfold Instr.buildSlice
          simp only [Sem.run_bind, run_und hu, Result.andThen_ok, run_size' hs]
          rw [if_neg (by omega)]
          rw [if_neg h0]
          simp only [Sem.run_bind, hzr, Sem.run_pure, Result.andThen_ok]
          cases Instr.fill (fun i => some (i * s, s)) ((Array.range (len * s)).map (fun i => zv.cells[i % zv.cells.size]!)) (parts.map fun (i, x) => (i, a.eval x)).toList <;> simp [newRow]
  | makeSlice t l c =>
    rw [hop] at hc; simp only [execOp, hop]
    unfold compOp at hc
    simp only at hc
    cases hu : P.underlying t with
    | none => rw [hu] at hc; cases hc
    | some ds =>
      rw [hu] at hc
      cases ds <;> simp only at hc <;> try (cases hc; done)
      rename_i el
      split at hc
      case isFalse => cases hc
      rename_i hsame
      simp only [Option.bind_eq_bind, Option.pure_def, Option.bind_eq_some_iff] at hc
      obtain ⟨z, hz, s, hs, hc⟩ := hc
      split at hc
      case isFalse => cases hc
      rename_i hcond
      obtain ⟨hzl, hspos⟩ := hcond
      simp only [Option.bind_eq_some_iff, Option.some.injEq] at hc
      obtain ⟨by', hby, l', hl, rfl⟩ := hc
      simp only [AOp.mk] at hm
      cases hn : natOf (l'.ev e) with
      | none => rw [hn] at hm; cases hm
      | some n =>
        rw [hn] at hm
        simp only at hm
        split at hm
        case isFalse => cases hm
        rename_i hroom
        cases hm
        obtain ⟨k, hk, _⟩ := natOf_rel hn (compX_rel hl he)
        have hcl : a.eval c = a.eval l := by
          cases l <;> cases c <;> simp [sameX] at hsame
          · subst hsame; rfl
          · rename_i v u
            cases v <;> cases u <;> simp [sameX] at hsame
            obtain ⟨rfl, rfl⟩ := hsame
            rfl
        obtain ⟨i, hi, hib⟩ := run_bytes hby
        obtain ⟨zv, hzr, hzc⟩ := run_zero hz
        have hzrel := cellsOf_rel μ hzc
        have hzsz : zv.cells.size = s := by have := hzrel.length; simp at this; omega
        have hroom' : room = 1099511627776 := rfl
        have hwrap : IntKind.i64.wrap (n : Int) = n := by
          exact IntWalk.i64_in _ ⟨by omega, by omega⟩
        have e1 : ((Array.range (n * s)).map (fun x => zv.cells[x % zv.cells.size]!)).toList = (List.replicate n zv.cells.toList).flatten := by
          have := replicate_flat zv.cells.toList n
          rw [show zv.cells.toList.length = s by simpa using hzsz] at this
          rw [← this, hzsz]
        refine mk_fin (cs := (Array.range (n * s)).map (fun x => zv.cells[x % zv.cells.size]!)) (ty := el) (v' := .slice (some ⟨w.heap.size, 0, none⟩) n n) h hb hlt hg (by rw [e1]; exact repl_rel hzrel n) ?_ (by
          rw [← hzl] at hzsz
          refine vr_new_sl (Nat.le_refl _) ?_
          simp [hzl])
        have hz0 : ∀ (m : Nat), m = n * s → (if m = 0 then pure #[] else do pure (← zeroValue el).cells : Sem (Array Value)).run P w = .ok (if m = 0 then #[] else zv.cells) w := by
          intro m _
          split <;> simp [hzr]
        have hb2 : ¬ ((i.bytes : Int) * (n : Int) > 2 ^ 48) := by
          rw [hib]
          have : by' * n ≤ room := by rw [Nat.mul_comm]; exact hroom.2
          have : ((by' * n : Nat) : Int) ≤ 1099511627776 := by rw [hroom'] at this; omega
          rw [Int.natCast_mul] at this
          omega
        simp only [Instr.makeSlice, Sem.run_bind, run_und hu, Result.andThen_ok, hk, hcl, asInt, asIntOf, Sem.run_pure, run_info hi, hwrap]
        rw [if_neg (by simp; omega)]
        simp only [Sem.run_bind, run_askRoom, Result.andThen_ok, run_size' hs, Int.toNat_natCast]
        by_cases h0 : n * s = 0
        · have : n = 0 := by rcases Nat.mul_eq_zero.1 h0 with h | h; exact h; omega
          subst this
          have e0 : ∀ (f : Nat → Value), (Array.range (0 * s)).map f = #[] := fun f => by simp [Array.range]
          rw [e0]
          have e2 : ∀ (f : Nat → Value), (Array.range 0).map f = #[] := fun f => by simp [Array.range]
          simp only [Nat.zero_mul, if_true, Sem.run_pure, Result.andThen_ok, newRow, Sem.run_bind, run_newObj, e2]
        · rw [if_neg h0]
          simp [hzr, newRow]
  | makeMap t r =>
    rw [hop] at hc; simp only [execOp, hop]
    cases r <;> simp only [compOp] at hc <;> cases hc
    simp only [AOp.mk, Option.some.injEq, Prod.mk.injEq] at hm
    obtain ⟨rfl, rfl⟩ := hm
    have hle : μ.le (μ.set b (.obj w.heap.size)) := Mu.set_le _ _ _ (.inl hb)
    obtain ⟨h1, h2⟩ := h.alloc (s := .obj w.heap.size) hb hlt hg (new_alloc w (.map #[] 0)) (.inr ⟨rfl, .map [] 0 #[] .nil (by simp) (by simp)⟩)
    exact ⟨.map (some w.heap.size), _, _, by simp [Instr.makeMap], by simp, h1, h2, .map _ _ (by simp [Mu.set, Slot.objOk])⟩
  | binOp bop t x y ty =>
    exfalso
    rw [hop] at hc
    obtain ⟨x', y', _, _, h1⟩ := binOp_cases hc
    rcases h1 with ⟨_, _, _, _, h1⟩ | ⟨_, _, _, _, h1⟩ | ⟨_, _, h1⟩ <;> (subst h1; cases hm)
  | _ =>
    exfalso
    rw [hop] at hc
    rcases ne_mk hm with ⟨_, rfl⟩ | ⟨_, rfl⟩ | ⟨_, _, _, _, rfl⟩ | ⟨_, _, _, rfl⟩ | rfl
    all_goals (clear hm h he hb hlt hg; revert hc; unfold compOp; simp only [Option.bind_eq_bind, Option.pure_def]; intro hc; (repeat' split at hc) <;> first | (simp [Option.bind_eq_some_iff] at hc; done) | (simp_all; done))
end
end Am

namespace Am
open Go Go.RowKit
section
variable {P : Program} {w w' : World} {μ : Mu} {H H' Y : AH} {e : Env} {a : Act}

def EffOk (P : Program) (μ : Mu) (H : AH) (w : World) (v : AV) (H' : AH) (s : Sem Next) : Prop :=
  ∃ nx w' μ' v', s.run P w = .ok nx w' ∧ (nx = .value v' ∨ (nx = .skip ∧ v' = undef)) ∧ VR μ' v v' ∧ Sim P μ' H' w' ∧ FR H.next μ w μ' w' ∧ H.next ≤ H'.next

theorem setRow_upd {B : Nat} {cs cs' : Array Value} {ty : TypeId} {fz : Nat × Nat} (h : w.heap[B]? = some (.cells cs ty fz)) : Upd w (w.setRow B cs') B (.cells cs' ty fz) :=
  ⟨by simp [World.setRow], setRow_heap w B cs cs' ty fz h, fun k hk => by simp only [World.setRow, Array.getElem?_modify]; rw [if_neg (fun hh => hk hh.symm)], rfl, rfl, rfl⟩

theorem seg_eq (A us : List Value) (base o n : Nat) (h1 : o + us.length ≤ n) (h2 : base + n ≤ A.length) :
    ((A.take (base + o) ++ us ++ A.drop (base + o + us.length)).drop base).take n = ((A.drop base).take n).take o ++ us ++ ((A.drop base).take n).drop (o + us.length) := by
  apply List.ext_getElem?
  intro i
  simp only [List.getElem?_take, List.getElem?_drop, List.getElem?_append, List.length_append, List.length_take, List.length_drop]
  by_cases c1 : i < n
  · rw [if_pos c1]
    by_cases c2 : i < o
    · rw [if_pos (by omega), if_pos (by omega), if_pos (by omega), if_pos (by omega), if_pos (by omega), if_pos c2, if_pos c1]
    · by_cases c3 : i < o + us.length
      · rw [if_pos (by omega), if_neg (by omega), if_pos (by omega), if_neg (by omega)]
        congr 1; omega
      · rw [if_neg (by omega), if_neg (by omega), if_pos (by omega)]
        congr 1; omega
  · rw [if_neg c1]
    rw [if_neg (by omega), if_neg (by omega)]

theorem lay_len {cs ws cs' : List AV} {o : Nat} (h : lay cs o ws = some cs') : cs'.length = cs.length ∧ o + ws.length ≤ cs.length := by
  unfold lay at h
  split at h
  · rename_i hle
    cases h
    simp
    omega
  · cases h

theorem s_store (h : Sim P μ H w) {t : TypeId} {n : Nat} (hn : sizeAt P t = some n) {b o : Nat} {ad : Addr} (hp : (μ b).ptrOk o ad) {v : AV} {u : Value} (hv : VR μ v u) (hl : v.cells.length = n) {H' : AH}
    (hs : H.storeAt b o v.cells = some H') : ∃ w', (storeVar t ad u).run P w = .ok () w' ∧ Sim P μ H' w' ∧ (∀ N, FR N μ w μ w') ∧ H'.next = H.next := by
  unfold AH.storeAt at hs
  split at hs
  case h_2 => cases hs
  rename_i vs hg
  split at hs
  case isFalse => cases hs
  rename_i hall
  cases hla : lay vs o v.cells with
  | none => rw [hla] at hs; cases hs
  | some vs' =>
    rw [hla] at hs
    cases hs
    obtain ⟨B, base, csz, hm, hc⟩ := h.at_cells (ptrOk_born hp) hg
    have := ptrOk_cells hp hm
    subst this
    obtain ⟨cs, ty, fz, h1, h2, h3, h4, h5⟩ := hc
    have hfz := h4 rfl
    subst hfz
    have hvc := hv.cells hall
    obtain ⟨hlen, hle⟩ := lay_len hla
    have hul : u.cells.toList.length = v.cells.length := hvc.length.symm
    have hrun := run_storeCells_at P B (base + o) ty u.cells.toList 0 cs w h1 (by omega) (hvc.oneCell hall)
    simp only [Nat.add_zero] at hrun
    refine ⟨w.setRow B (cs.toList.take (base + o) ++ u.cells.toList ++ cs.toList.drop (base + o + u.cells.toList.length)).toArray, ?_, ?_⟩
    · unfold storeVar
      simp only [Sem.run_bind, run_size' hn, Result.andThen_ok]
      have : u.cells.size = n := by rw [← hl]; simpa using hul
      rw [if_neg (by omega)]
      exact hrun
    · have hcr : CellsR μ (w.setRow B (cs.toList.take (base + o) ++ u.cells.toList ++ cs.toList.drop (base + o + u.cells.toList.length)).toArray) B base csz true vs' := by
        refine ⟨_, ty, (0, 0), setRow_heap w B cs _ ty _ h1, ?_, by omega, fun _ => rfl, ?_⟩
        · simp; simp at hul; omega
        · rw [hlen, seg_eq _ _ _ _ _ (by omega) (by simp; omega)]
          exact (h5.lay hvc hla).1
      have key := fun N => h.update (N := N) (setRow_upd h1) (.inl ⟨vs', base, csz, hm, rfl, hcr⟩) (fun r hr => by rw [h1] at hr; cases hr)
      exact ⟨(key 0).1, fun N => (key N).2, rfl⟩

/-- A block of the call's own goes on under a new name; the old name is dead. -/
theorem Sim.move (h : Sim P μ H w) {ab b B base csz base' csz' : Nat} {B' : Nat} {o : Obj} {vs' : List AV} (hm : μ ab = .cells B base csz true) (hb : μ b = .unborn) (hlt : b < Y.next) (hnext : H.next ≤ b)
    (hY : ∀ i, i ≠ ab → i ≠ b → Y.get i = H.get i) (hd : Y.get ab = some .dead) (hg : Y.get b = some (.cells vs' true)) (hn : ∀ i, Y.next ≤ i → H.next ≤ i)
    (hw : (B' = B ∧ Upd w w' B o) ∨ (B' = w.heap.size ∧ New w w' o)) (hc : CellsR ((μ.set ab .dead).set b (.cells B' base' csz' true)) w' B' base' csz' true vs') :
    Sim P ((μ.set ab .dead).set b (.cells B' base' csz' true)) Y w' ∧ FR H.next μ w ((μ.set ab .dead).set b (.cells B' base' csz' true)) w' := by
  have hab : ab ≠ b := by intro e; rw [e, hb] at hm; cases hm
  have hls : ab < H.next := h.born (by rw [hm]; simp)
  generalize hμ : (μ.set ab .dead).set b (.cells B' base' csz' true) = μ' at *
  have e1 : μ' b = .cells B' base' csz' true := by rw [← hμ]; simp [Mu.set]
  have e2 : μ' ab = .dead := by rw [← hμ]; simp [Mu.set, hab]
  have e3 : ∀ i, i ≠ ab → i ≠ b → μ' i = μ i := fun i h1 h2 => by rw [← hμ]; simp [Mu.set, h1, h2]
  have hle : μ.le μ' := fun i => by
    by_cases c1 : i = b
    · subst c1; exact .inl hb
    · by_cases c2 : i = ab
      · subst c2; rw [e2, hm]; exact .inr (.inr ⟨rfl, by simp⟩)
      · rw [e3 i c2 c1]; exact Slot.le_refl _
  have hblk : ∀ k, k ≠ B' → w'.heap[k]? = w.heap[k]? := by
    rcases hw with ⟨rfl, hw⟩ | ⟨rfl, hw⟩
    · exact hw.other
    · exact hw.other
  have hoth : ∀ i C, i ≠ ab → Img μ i C → C ≠ B' := by
    intro i C hi k ec
    subst ec
    rcases hw with ⟨rfl, hw⟩ | ⟨rfl, hw⟩
    · exact hi (h.inj ab i _ (.inl ⟨_, _, hm⟩) k).symm
    · exact absurd (k.lt h) (Nat.lt_irrefl _)
  have himg : ∀ i C, Img μ' i C → (i = b ∧ C = B') ∨ (i ≠ b ∧ i ≠ ab ∧ Img μ i C) := by
    intro i C k
    by_cases c1 : i = b
    · subst c1
      left
      unfold Img at k
      rw [e1] at k
      rcases k with ⟨_, _, _, k⟩ | k <;> cases k
      exact ⟨rfl, rfl⟩
    · by_cases c2 : i = ab
      · subst c2
        unfold Img at k
        rw [e2] at k
        rcases k with ⟨_, _, _, k⟩ | k <;> cases k
      · right
        unfold Img at k ⊢
        rw [e3 i c2 c1] at k
        exact ⟨c1, c2, k⟩
  refine ⟨⟨fun i hi => ?_, fun i hi => ?_, fun i C bs cz own hi => ?_, fun i C hi => ?_, fun i i' C hi hi' => ?_⟩, ?_⟩
  · have := hn i hi
    rw [e3 i (by omega) (by omega)]
    exact h.bound i this
  · by_cases c2 : i = ab
    · subst c2; exact hd
    · by_cases c1 : i = b
      · subst c1; rw [e1] at hi; cases hi
      · rw [e3 i c2 c1] at hi; rw [hY i c2 c1]; exact h.dead i hi
  · by_cases c1 : i = b
    · subst c1; rw [e1] at hi; cases hi; exact ⟨vs', hg, hc⟩
    · by_cases c2 : i = ab
      · subst c2; rw [e2] at hi; cases hi
      · rw [e3 i c2 c1] at hi
        obtain ⟨vs, hv, hcc⟩ := h.live i C bs cz own hi
        exact ⟨vs, by rw [hY i c2 c1]; exact hv, hcc.mono hle (hblk C (hoth i C c2 (.inl ⟨_, _, _, hi⟩)))⟩
  · by_cases c1 : i = b
    · subst c1; rw [e1] at hi; cases hi
    · by_cases c2 : i = ab
      · subst c2; rw [e2] at hi; cases hi
      · rw [e3 i c2 c1] at hi
        obtain ⟨x, o', hx, ho, hr⟩ := h.obj i C hi
        exact ⟨x, o', by rw [hY i c2 c1]; exact hx, by rw [hblk C (hoth i C c2 (.inr hi))]; exact ho, hr.mono hle⟩
  · have h1 : Img μ' i C := by
      rcases hi with ⟨bs, cz, hi⟩ | hi
      · exact .inl ⟨_, _, _, hi⟩
      · exact .inr hi
    rcases himg i C h1 with ⟨c1, c2⟩ | ⟨c1, c2, c3⟩
    · rcases himg i' C hi' with ⟨d1, _⟩ | ⟨_, d2, d3⟩
      · rw [c1, d1]
      · exact absurd c2 (hoth i' C d2 d3)
    · rcases himg i' C hi' with ⟨_, d2⟩ | ⟨_, _, d3⟩
      · exact absurd d2 (hoth i C c2 c3)
      · rw [e3 i c2 c1] at hi
        exact h.inj i i' C hi d3
  · have hsz : w.heap.size ≤ w'.heap.size := by
      rcases hw with ⟨_, hw⟩ | ⟨_, hw⟩
      · exact Nat.le_of_eq hw.size.symm
      · rw [hw.size]; omega
    refine ⟨hle, fun i hi hu => ?_, hsz, fun C hC ho => hblk C ?_, fun C hC => ?_, fun C r hr => ?_, ?_, ?_, ?_⟩
    · rw [e3 i (fun c => by subst c; rw [hm] at hu; cases hu) (by omega)]; exact hu
    · intro ec
      subst ec
      rcases hw with ⟨rfl, _⟩ | ⟨rfl, _⟩
      · exact ho ⟨ab, .inl ⟨_, _, hm⟩⟩
      · exact absurd hC (Nat.lt_irrefl _)
    · obtain ⟨i, hi⟩ := hC
      have h1 : Img μ' i C := by
        rcases hi with ⟨bs, cz, hi⟩ | hi
        · exact .inl ⟨_, _, _, hi⟩
        · exact .inr hi
      rcases himg i C h1 with ⟨_, c2⟩ | ⟨c1, c2, _⟩
      · rcases hw with ⟨rfl, _⟩ | ⟨rfl, _⟩
        · left; subst c2; exact ⟨ab, .inl ⟨_, _, hm⟩⟩
        · right; omega
      · left; rw [e3 i c2 c1] at hi; exact ⟨i, hi⟩
    · refine ⟨r, ?_⟩
      have hne : C ≠ B' := by
        intro ec
        subst ec
        rcases hw with ⟨rfl, _⟩ | ⟨rfl, _⟩
        · obtain ⟨vs, _, cs, ty, fz, hcs, _⟩ := h.live ab _ _ _ _ hm
          rw [hcs] at hr
          cases hr
        · have := (Array.getElem?_eq_some_iff.1 hr).1
          exact absurd this (Nat.lt_irrefl _)
      rw [hblk C hne]
      exact hr
    · rcases hw with ⟨_, hw⟩ | ⟨_, hw⟩ <;> exact hw.os
    · rcases hw with ⟨_, hw⟩ | ⟨_, hw⟩ <;> exact hw.tape
    · rcases hw with ⟨_, hw⟩ | ⟨_, hw⟩ <;> exact hw.output
end
end Am

namespace Am
open Go Go.RowKit
section
variable {P : Program} {w w' : World} {μ : Mu} {H H' Y : AH} {e : Env} {a : Act}

theorem growBy_le (n : Nat) : ∀ (r c : Nat), 255 ≤ c → c ≤ 2 * n → Builtin.growBy n r c ≤ 2 * n
  | 0, c, _, h => h
  | r + 1, c, h0, h => by
    unfold Builtin.growBy
    split
    · exact h
    · exact growBy_le n r _ (by omega) (by omega)
theorem nextcap_le (n c : Nat) (h : c < n) : Builtin.nextslicecap n c ≤ 2 * n := by
  unfold Builtin.nextslicecap
  split
  · omega
  · split
    · omega
    · exact growBy_le n 4 c (by omega) (by omega)

theorem app_fits {t u ty el eu : TypeId} (hu : P.underlying t = some (.slice el)) (hu2 : P.underlying u = some (.slice eu)) {esz : Nat} (hs : sizeAt P el = some esz)
    {ad : Addr} {sLen sCap n xc : Nat} {xb : Option Addr} {new : Array Value} (hfit : sLen + n ≤ sCap) (hnew : (Builtin.firstCells esz n (.slice xb n xc)).run P w = .ok new w) (hst : (storeCells (ad.add (sLen * esz)) new.toList).run P w = .ok () w') :
    (Builtin.append_ #[t, u] ty #[.slice (some ad) sLen sCap, .slice xb n xc]).run P w = .ok (.slice (some ad) (sLen + n) sCap) w' := by
  unfold Builtin.append_
  simp only [List.getElem?_toArray, List.getElem?_cons_zero, List.getElem?_cons_succ, Sem.run_bind, run_und hu, run_und hu2, Result.andThen_ok, run_size' hs, Sem.run_pure, Builtin.lenOf, Bool.false_eq_true, if_false, Bool.not_false, if_true, hfit, hnew, hst]

theorem app_nil0 {t u ty el eu : TypeId} (hu : P.underlying t = some (.slice el)) (hu2 : P.underlying u = some (.slice eu)) {esz : Nat} (hs : sizeAt P el = some esz)
    {xc : Nat} {xb : Option Addr} {new : Array Value} (hnew : (Builtin.firstCells esz 0 (.slice xb 0 xc)).run P w = .ok new w) :
    (Builtin.append_ #[t, u] ty #[.slice none 0 0, .slice xb 0 xc]).run P w = .ok (.slice none 0 0) w := by
  unfold Builtin.append_
  simp only [List.getElem?_toArray, List.getElem?_cons_zero, List.getElem?_cons_succ, Sem.run_bind, run_und hu, run_und hu2, Result.andThen_ok, run_size' hs, Sem.run_pure, Builtin.lenOf, Bool.false_eq_true, if_false, Bool.not_false, if_true, hnew, Nat.add_zero, Nat.le_refl]

theorem app_grows {t u ty el eu : TypeId} (hu : P.underlying t = some (.slice el)) (hu2 : P.underlying u = some (.slice eu)) {esz by' : Nat} (hs : sizeAt P el = some esz) (hb : bytesAt P el = some by') {zv : Value} (hz : ∀ w, (zeroValue el).run P w = .ok zv w)
    {ad : Option Addr} {sLen sCap n xc : Nat} {xb : Option Addr} {new old : Array Value} (hfit : ¬ sLen + n ≤ sCap) (hroom : (sLen + n) * by' ≤ room) (hroom2 : sLen + n ≤ room)
    (hnew : ∀ d, (Builtin.firstCells esz n (.slice xb n xc)).run P { w with drawn := d } = .ok new { w with drawn := d }) (hold : ∀ d, (Builtin.firstCells esz sLen (.slice ad sLen sCap)).run P { w with drawn := d } = .ok old { w with drawn := d }) :
    ∃ cap, sLen + n ≤ cap ∧ (Builtin.append_ #[t, u] ty #[.slice ad sLen sCap, .slice xb n xc]).run P w = .ok (.slice (some ⟨w.heap.size, 0, none⟩) (sLen + n) cap)
      { w with drawn := w.drawn + 1, heap := w.heap.push (.cells (old ++ new ++ Builtin.zeroCells zv.cells (cap - (sLen + n))) el (0, 0)) } := by
  obtain ⟨i, hi, hib⟩ := run_bytes hb
  have hr : room = 1099511627776 := rfl
  refine ⟨(Question.appendCap (sLen + n) sCap el).cut (w.tape w.drawn (.appendCap (sLen + n) sCap el)), by simp [Question.cut], ?_⟩
  have h1 : ¬ (((sLen + n : Nat) : Int) > IntKind.i64.max ∧ (False ∨ i.bytes = 0)) := by
    intro hc
    have : ((sLen + n : Nat) : Int) > 9223372036854775807 := hc.1
    omega
  have h2 : ¬ (Builtin.nextslicecap (sLen + n) sCap * i.bytes > 2 ^ 48) := by
    have h3 := Nat.mul_le_mul_right by' (nextcap_le (sLen + n) sCap (by omega))
    rw [hib]
    rw [Nat.mul_assoc] at h3
    omega
  unfold Builtin.append_
  simp only [List.getElem?_toArray, List.getElem?_cons_zero, List.getElem?_cons_succ, Sem.run_bind, run_und hu, run_und hu2, Result.andThen_ok, run_size' hs, Sem.run_pure, Builtin.lenOf, Bool.false_eq_true, if_false, Bool.not_false, if_true, hfit, run_info hi]
  rw [if_neg h1]
  simp only [Sem.run_bind, Result.andThen_ok, run_info hi]
  rw [if_neg h2]
  simp only [Sem.run_bind, run_choose, Question.forced, Bool.false_eq_true, if_false, Result.andThen_ok, run_info hi, run_askRoom, hnew, hold, hz, newRow, run_newObj, Sem.run_pure]

theorem load_segd {B base csz : Nat} {own : Bool} {vs : List AV} (h : CellsR μ w B base csz own vs) {o n : Nat} (hn : o + n ≤ vs.length) :
    ∃ us : List Value, (∀ d, (loadCells ⟨B, base + o, none⟩ n).run P { w with drawn := d } = .ok us.toArray { w with drawn := d }) ∧ VRs μ ((vs.drop o).take n) us := by
  obtain ⟨cs, ty, fz, h1, h2, h3, h4, h5⟩ := h
  have h6 := (h5.drop o).take n
  refine ⟨_, fun d => ?_, h6⟩
  have hl : ((((cs.toList.drop base).take vs.length).drop o).take n).length = n := by
    have := h6.length
    rw [← this]; simp; omega
  have h1' : ({ w with drawn := d } : World).heap[B]? = some (.cells cs ty fz) := h1
  have := run_loadCells_list (P := P) { w with drawn := d } ⟨B, base + o, none⟩ ((((cs.toList.drop base).take vs.length).drop o).take n) (fun j v hj => by
    rw [addr_add, cell_at h1']
    rw [List.getElem?_take] at hj
    split at hj
    · rw [List.getElem?_drop, List.getElem?_take] at hj
      split at hj
      · rw [List.getElem?_drop] at hj
        rw [Nat.add_assoc]
        simpa using hj
      · cases hj
    · cases hj)
  rw [hl] at this
  exact this

theorem first_rel (h : Sim P μ H w) {b o n esz cap : Nat} {ad : Addr} (hn : n ≤ cap) (hk : (μ b).slOk o cap esz ad) {vs : List AV} (hg : H.cells b = some vs) (hle : o + n * esz ≤ vs.length) :
    ∃ us : List Value, (∀ d, (Builtin.firstCells esz n (.slice (some ad) n cap)).run P { w with drawn := d } = .ok us.toArray { w with drawn := d }) ∧ VRs μ ((vs.drop o).take (n * esz)) us := by
  by_cases h0 : n * esz = 0
  · exact ⟨[], fun d => by simp [Builtin.firstCells, h0, loadCells, loadCellsFrom], by rw [h0]; exact .nil⟩
  · obtain ⟨own, hg'⟩ := cells_get hg
    obtain ⟨B, base, csz, hm, hc⟩ := h.at_cells (slOk_born hk) hg'
    rw [hm] at hk
    have hn0 : n ≠ 0 := by intro c; subst c; simp at h0
    rcases hk with hk | ⟨rfl, hk⟩
    · omega
    · exact load_segd (P := P) hc hle

/-- The source of an append. -/
theorem src_rel (h : Sim P μ H w) {x : AV} {v : Value} (hv : VR μ x v) {esz n : Nat} {new : List AV}
    (hs : srcCells H esz x = some new) (hn : srcLen x = n) :
    ∃ xb xc us, v = .slice xb n xc ∧ (∀ d, (Builtin.firstCells esz n v).run P { w with drawn := d } = .ok (List.toArray us) { w with drawn := d }) ∧ VRs μ new us ∧ new.length = n * esz := by
  cases x <;> simp only [srcCells, srcLen] at hs hn <;> try (cases hs; done)
  · cases hs
    subst hn
    rw [vr_nils hv]
    exact ⟨none, 0, [], rfl, fun d => by simp [Builtin.firstCells], .nil, by simp⟩
  · rename_i bb bo bl bs
    subst hn
    obtain ⟨ad, cap, rfl, hle, hk⟩ := vr_sl hv
    cases hg : H.cells bb with
    | none => rw [hg] at hs; cases hs
    | some vs =>
      rw [hg] at hs
      simp only at hs
      split at hs
      case isFalse => cases hs
      rename_i hcond
      obtain ⟨rfl, hb⟩ := hcond
      cases hs
      obtain ⟨us, h1, h2⟩ := first_rel (P := P) h hle hk hg hb
      exact ⟨some ad, cap, us, rfl, h1, h2, by simp; omega⟩

theorem zeroCells_size (z : Array Value) (n : Nat) : (Builtin.zeroCells z n).size = n * z.size := by simp [Builtin.zeroCells]

set_option maxHeartbeats 1000000 in
theorem append_sound {t u ty el eu : TypeId} (hu : P.underlying t = some (.slice el)) (hu2 : P.underlying u = some (.slice eu)) {esz by' : Nat} (hs : sizeAt P el = some esz) (hb : bytesAt P el = some by') {z : List AV} (hz : zeroAt P el = some z) (hzl : z.length = esz)
    (h : Sim P μ H w) {x y : AX} {va vb : Value} (ha : VR μ (x.ev e) va) (hbv : VR μ (y.ev e) vb) {v : AV} (hv : (AOp.append esz by' x y).ev1 e H = some (v, H')) :
    ∃ w' μ' v', (Builtin.append_ #[t, u] ty #[va, vb]).run P w = .ok v' w' ∧ VR μ' v v' ∧ Sim P μ' H' w' ∧ FR H.next μ w μ' w' ∧ H.next ≤ H'.next := by
  obtain ⟨zv, hzr, hzc⟩ := run_zero hz
  have hzsz : zv.cells.size = esz := by have := (cellsOf_rel μ hzc).length; simp at this; omega
  simp only [AOp.ev1] at hv
  split at hv
  case h_2 => cases hv
  rename_i _ new hnew
  generalize hn : srcLen (y.ev e) = n at hv
  split at hv
  case isFalse => cases hv
  rename_i hesz
  obtain ⟨xb, xc, us, rfl, hfirst, hrel, hlen⟩ := src_rel (P := P) (w := w) h hbv hnew hn
  have hf0 : (Builtin.firstCells esz n (.slice xb n xc)).run P w = .ok us.toArray w := hfirst w.drawn
  cases hxv : x.ev e <;> rw [hxv] at hv ha <;> simp only at hv <;> try (cases hv; done)
  · -- nil
    have := vr_nils ha
    subst this
    split at hv
    · rename_i h0
      subst h0
      cases hv
      exact ⟨w, μ, _, app_nil0 hu hu2 hs hf0, .nils, h, FR.refl _ _ _, Nat.le_refl _⟩
    · rename_i h0
      split at hv
      case isFalse => cases hv
      rename_i hroom
      cases hv
      obtain ⟨cap, hcap, hrun⟩ := app_grows (ty := ty) hu hu2 hs hb hzr (ad := none) (sLen := 0) (sCap := 0) (n := n) (xb := xb) (xc := xc) (new := us.toArray) (old := #[]) (by omega) (by simpa using hroom.2) (by simpa using hroom.1) hfirst (fun d => by simp [Builtin.firstCells])
      simp only [Nat.zero_add] at hrun hcap
      have hw : New w { w with drawn := w.drawn + 1, heap := w.heap.push (.cells (#[] ++ us.toArray ++ Builtin.zeroCells zv.cells (cap - n)) el (0, 0)) } (.cells (#[] ++ us.toArray ++ Builtin.zeroCells zv.cells (cap - n)) el (0, 0)) :=
        ⟨by simp, by simp, fun k hk => by simp only [Array.getElem?_push]; rw [if_neg hk], rfl, rfl, rfl⟩
      have hunb : μ H.next = .unborn := h.bound _ (Nat.le_refl _)
      have hsz : (#[] ++ us.toArray ++ Builtin.zeroCells zv.cells (cap - n)).size = cap * esz := by
        have := hrel.length
        simp only [Array.size_append, List.length_nil, List.size_toArray, zeroCells_size, hzsz]
        have : n * esz + (cap - n) * esz = cap * esz := by rw [← Nat.add_mul]; congr 1; omega
        omega
      obtain ⟨h1, h2⟩ := mk_cells (Y := H.new (.cells new true)) (b := H.next) (vs := new) (cs := #[] ++ us.toArray ++ Builtin.zeroCells zv.cells (cap - n)) (ty := el) (h.sub (AH.Sub.new _ _)) hunb (by simp) (by rw [AH.get_new]; simp) (by
        have e1 : ((#[] ++ us.toArray ++ Builtin.zeroCells zv.cells (cap - n)).toList.take new.length) = us := by
          rw [hrel.length]; simp
        rw [e1]; exact hrel) (by rw [hsz, hlen]; exact Nat.mul_le_mul_right _ hcap) hw
      refine ⟨_, _, _, hrun, ?_, h1, h2 _ (Nat.le_refl _), by simp⟩
      rw [hsz]
      exact vr_new_sl hcap (Nat.le_refl _)
  · rename_i ab ao al as'
    obtain ⟨ad, cap, rfl, hle, hk⟩ := vr_sl ha
    split at hv
    · rename_i h0
      subst h0
      cases hv
      have : us = [] := by have := hrel.length; rw [hlen] at this; simp at this; exact List.eq_nil_of_length_eq_zero this.symm
      subst this
      exact ⟨w, μ, _, app_fits (w' := w) hu hu2 hs (by omega) hf0 (by simp [storeCells]), .sl _ _ _ _ _ _ hle hk, h, FR.refl _ _ _, Nat.le_refl _⟩
    · rename_i h0
      split at hv
      case h_2 => cases hv
      rename_i vs hg
      split at hv
      case isFalse => cases hv
      rename_i hcond
      obtain ⟨rfl, hend, hr1, hr2, hall1⟩ := hcond
      cases hv
      obtain ⟨B, base, csz, hm, hc⟩ := h.at_cells (slOk_born hk) hg
      have hk0 := hk
      rw [hm] at hk
      have hab : ab < H.next := h.born (by rw [hm]; simp)
      have hunb : μ H.next = .unborn := h.bound _ (Nat.le_refl _)
      have hY1 : ∀ i, i ≠ ab → i ≠ H.next → ((H.put ab .dead).new (.cells (vs.drop ao ++ new) true)).get i = H.get i := fun i h1 h2 => by
        rw [AH.get_new, AH.next_put, if_neg h2, AH.get_put' H hab, if_neg h1]
      have hY2 : ((H.put ab .dead).new (.cells (vs.drop ao ++ new) true)).get ab = some .dead := by rw [AH.get_new, AH.next_put, if_neg (by omega), AH.get_put' H hab, if_pos rfl]
      have hY3 : ((H.put ab .dead).new (.cells (vs.drop ao ++ new) true)).get H.next = some (.cells (vs.drop ao ++ new) true) := by rw [AH.get_new, AH.next_put, if_pos rfl]
      have hmle : ∀ s, μ.le ((μ.set ab .dead).set H.next s) := fun s i => by
        unfold Mu.set
        by_cases c1 : i = H.next
        · subst c1; exact .inl hunb
        · by_cases c2 : i = ab
          · subst c2; simp only [if_neg c1, if_true]; rw [hm]; exact .inr (.inr ⟨rfl, by simp⟩)
          · simp only [if_neg c1, if_neg c2]; exact Slot.le_refl _
      obtain ⟨cs, cty, fz, g1, g2, g3, g4, g5⟩ := hc
      have hfz := g4 rfl
      subst hfz
      have hvl : vs.length = ao + al * as' := hend.symm
      by_cases hfit : al + n ≤ cap
      · -- in place
        rcases hk with hk | ⟨rfl, hk⟩
        · omega
        have hspace : base + vs.length + us.length ≤ cs.size := by
          rw [← hrel.length, hlen, g2, hvl]
          have : (al + n) * as' ≤ cap * as' := Nat.mul_le_mul_right _ hfit
          rw [Nat.add_mul] at this
          omega
        have hone : ∀ q ∈ us, q.oneCell' = true := hrel.oneCell hall1
        have hrun := run_storeCells_at P B (base + vs.length) cty us 0 cs w g1 (by omega) hone
        simp only [Nat.add_zero] at hrun
        have hrun' := app_fits (ty := ty) hu hu2 hs (ad := ⟨B, base + ao, none⟩) (sLen := al) (sCap := cap) (n := n) (xb := xb) (xc := xc) hfit hf0 (w' := w.setRow B (cs.toList.take (base + vs.length) ++ us ++ cs.toList.drop (base + vs.length + us.length)).toArray) (by
          rw [addr_add]
          have : base + ao + al * as' = base + vs.length := by omega
          rw [this]
          simpa using hrun)
        have hcr : CellsR ((μ.set ab .dead).set H.next (.cells B (base + ao) csz true)) (w.setRow B (cs.toList.take (base + vs.length) ++ us ++ cs.toList.drop (base + vs.length + us.length)).toArray) B (base + ao) csz true (vs.drop ao ++ new) := by
          refine ⟨_, cty, (0, 0), setRow_heap w B cs _ cty _ g1, by simp; omega, ?_, fun _ => rfl, ?_⟩
          · simp only [List.length_append, List.length_drop]
            have := hrel.length
            omega
          · have e1 : ((cs.toList.take (base + vs.length) ++ us ++ cs.toList.drop (base + vs.length + us.length)).toArray.toList.drop (base + ao)).take (vs.drop ao ++ new).length = (((cs.toList.drop base).take vs.length).drop ao) ++ us := by
              apply List.ext_getElem?
              intro i
              have := hrel.length
              simp only [List.getElem?_take, List.getElem?_drop, List.getElem?_append, List.length_append, List.length_take, List.length_drop, Array.length_toList]
              by_cases c1 : i < vs.length - ao
              · rw [if_pos (by omega), if_pos (by omega), if_pos (by omega), if_pos (by omega), if_pos (by omega), if_pos (by omega)]
                congr 1; omega
              · by_cases c2 : i < vs.length - ao + us.length
                · rw [if_pos (by omega), if_pos (by omega), if_neg (by omega), if_neg (by omega)]
                  congr 1; omega
                · rw [if_neg (by omega), if_neg (by omega)]
                  rw [List.getElem?_eq_none (by omega)]
            rw [e1]
            exact ((g5.drop ao).append hrel).mono (hmle _)
        obtain ⟨q1, q2⟩ := h.move (Y := (H.put ab .dead).new (.cells (vs.drop ao ++ new) true)) (b := H.next) hm hunb (by simp) (Nat.le_refl _) hY1 hY2 hY3 (fun i hi => by simp at hi; omega) (.inl ⟨rfl, setRow_upd g1⟩) hcr
        refine ⟨_, _, _, hrun', ?_, q1, q2, by simp⟩
        refine .sl _ _ _ _ _ _ hfit ?_
        simp only [Mu.set, if_true, Slot.slOk]
        exact .inr ⟨rfl, by omega⟩
      · -- anew
        have hcells : H.cells ab = some vs := by simp [AH.cells, hg]
        obtain ⟨os, hold, horel⟩ := first_rel (P := P) h (n := al) hle hk0 hcells (by omega)
        obtain ⟨c', hcap, hrun⟩ := app_grows (ty := ty) hu hu2 hs hb hzr (ad := some ad) (sLen := al) (sCap := cap) (n := n) (xb := xb) (xc := xc) (new := us.toArray) (old := os.toArray) hfit hr2 hr1 hfirst hold
        have hol : os.length = al * as' := by rw [← horel.length]; simp; omega
        have hul : us.length = n * as' := by rw [← hrel.length, hlen]
        have hdrop : (vs.drop ao).take (al * as') = vs.drop ao := by rw [List.take_of_length_le]; simp; omega
        rw [hdrop] at horel
        generalize hcs : os.toArray ++ us.toArray ++ Builtin.zeroCells zv.cells (c' - (al + n)) = cells at *
        have hsz : cells.size = c' * as' := by
          rw [← hcs]
          simp only [Array.size_append, List.size_toArray, zeroCells_size, hzsz, hol, hul]
          rw [← Nat.add_mul, ← Nat.add_mul]; congr 1; omega
        have hw : New w { w with drawn := w.drawn + 1, heap := w.heap.push (.cells cells el (0, 0)) } (.cells cells el (0, 0)) :=
          ⟨by simp, by simp, fun k hk => by simp only [Array.getElem?_push]; rw [if_neg hk], rfl, rfl, rfl⟩
        have hcr : CellsR ((μ.set ab .dead).set H.next (.cells w.heap.size 0 (c' * as') true)) { w with drawn := w.drawn + 1, heap := w.heap.push (.cells cells el (0, 0)) } w.heap.size 0 (c' * as') true (vs.drop ao ++ new) := by
          refine ⟨cells, el, (0, 0), hw.at', hsz, ?_, fun _ => rfl, ?_⟩
          · simp only [List.length_append, List.length_drop, hlen]
            have : (al + n) * as' ≤ c' * as' := Nat.mul_le_mul_right _ hcap
            rw [Nat.add_mul] at this
            omega
          · have e1 : (cells.toList.drop 0).take (vs.drop ao ++ new).length = os ++ us := by
              have h2 : cells.toList = (os ++ us) ++ (Builtin.zeroCells zv.cells (c' - (al + n))).toList := by rw [← hcs]; simp
              have h3 : (vs.drop ao ++ new).length = (os ++ us).length := by rw [List.length_append, horel.length, hrel.length, List.length_append]
              rw [h3, h2, List.drop_zero, List.take_left]
            rw [e1]
            exact (horel.append hrel).mono (hmle _)
        obtain ⟨q1, q2⟩ := h.move (Y := (H.put ab .dead).new (.cells (vs.drop ao ++ new) true)) (b := H.next) hm hunb (by simp) (Nat.le_refl _) hY1 hY2 hY3 (fun i hi => by simp at hi; omega) (.inr ⟨rfl, hw⟩) hcr
        refine ⟨_, _, _, hrun, ?_, q1, q2, by simp⟩
        refine .sl _ _ _ _ _ _ hcap ?_
        simp only [Mu.set, if_true, Slot.slOk]
        exact .inr ⟨by simp, by simp⟩
end
end Am

namespace Am
open Go Go.RowKit
section
variable {P : Program} {w w' : World} {μ : Mu} {H H' Y : AH} {e : Env} {a : Act}

theorem find_rel2 {es : List (AV × AV × Nat)} {ms : List MapEntry} (h : EntR μ es ms) {kk : IntKind} (hk : keysOf kk es = true) (k0 : IntKind) (n : Int) : ∀ i,
    (match findEntry (.int kk n) es with
     | some (v, s) => ∃ j me, Instr.findNow (.int k0) (.int kk n) ms i = some (some (i + j, me.val)) ∧ ms[j]? = some me ∧ VR μ v me.val ∧ s = me.born ∧ me.key = .int kk n ∧
         (∀ v' u', VR μ v' u' → EntR μ (setEntry (.int kk n) v' es) (ms.modify j fun e => { e with key := .int kk n, val := u' }))
     | none => Instr.findNow (.int k0) (.int kk n) ms i = some none) := by
  induction h with
  | nil => intro i; rfl
  | cons k v s me l r h1 h2 h3 hr ih =>
    intro i
    cases k with
    | int j m =>
      cases h1' : me.key with
      | int j' m' =>
        rw [h1'] at h1
        cases h1
        simp only [keysOf, Bool.and_eq_true, decide_eq_true_eq] at hk
        obtain ⟨rfl, hk⟩ := hk
        simp only [findEntry, setEntry, AV.same, decide_true, Bool.true_and, Instr.findNow, Instr.sameNow, h1', if_true]
        by_cases e : n = m
        · subst e
          simp only [decide_true, cond_true, beq_self_eq_true]
          refine ⟨0, me, by simp, by simp, h2, h3, h1', fun v' u' hv => ?_⟩
          simp only [List.modify_zero_cons]
          exact .cons _ _ _ _ _ _ (.int _ _) hv h3 hr
        · have e' : (n == m) = false := by simp; exact e
          simp only [e, decide_false, cond_false, e']
          have := ih hk (i + 1)
          revert this
          cases hf : findEntry (.int j n) l with
          | none => exact fun h => h
          | some x =>
            rintro ⟨q, me', a1, a2, a3, a4, a5, a6⟩
            refine ⟨q + 1, me', by rw [a1]; simp; omega, by simpa using a2, a3, a4, a5, fun v' u' hv => ?_⟩
            simp only [List.modify_succ_cons]
            exact .cons _ _ _ _ _ _ (by rw [h1']; exact .int _ _) h2 h3 (a6 v' u' hv)
      | _ => rw [h1'] at h1; cases h1
    | _ => simp [keysOf] at hk

theorem setEntry_stamps (k v : AV) : ∀ es : List (AV × AV × Nat), (setEntry k v es).map (·.2.2) = es.map (·.2.2)
  | [] => rfl
  | (a, u, s) :: r => by
    simp only [setEntry]
    cases AV.same k a <;> simp [setEntry_stamps k v r]

theorem EntR.push {es : List (AV × AV × Nat)} {ms : List MapEntry} (h : EntR μ es ms) {k v : AV} {me : MapEntry} (h1 : VR μ k me.key) (h2 : VR μ v me.val) : EntR μ (es ++ [(k, v, me.born)]) (ms ++ [me]) := by
  induction h with
  | nil => exact .cons _ _ _ _ _ _ h1 h2 rfl .nil
  | cons k v n e l r a b c _ ih => exact .cons _ _ _ _ _ _ a b c ih

theorem keyStays (kk : IntKind) (n : Int) : (Instr.keyThatStays (.int kk n) (.int kk n)).run P w = .ok (.int kk n) w := by
  simp [Instr.keyThatStays, Instr.sameBits]

theorem putObj_upd {B : Nat} {o o' : Obj} (h : w.heap[B]? = some o') : Upd w (w.putObj B o) B o :=
  ⟨by simp, World.putObj_heap_same (Array.getElem?_eq_some_iff.1 h).1, fun k hk => World.putObj_heap_other hk, rfl, rfl, rfl⟩
theorem run_setMap {B : Nat} {cs : Array MapEntry} {c : Nat} (h : w.heap[B]? = some (.map cs c)) (o : Obj) : (setObj B o).run P w = .ok () (w.putObj B o) := by simp [setObj, Sem.run, h, World.putObj]

theorem map_at (h : Sim P μ H w) {b r : Nat} (hb : (μ b).objOk r) {es : List (AV × AV × Nat)} {c : Nat} (hg : H.get b = some (.map es c)) :
    ∃ cs, μ b = .obj r ∧ w.heap[r]? = some (.map cs c) ∧ EntR μ es cs.toList ∧ (∀ k v n, (k, v, n) ∈ es → n < c) ∧ (es.map (·.2.2)).Nodup := by
  obtain ⟨B, o, hm, ho, hr⟩ := h.at_obj (objOk_born hb) hg (by simp) (by simp)
  rw [hm] at hb
  have hb' : r = B := hb
  subst hb'
  cases hr with
  | map es c cs he hlt hnd => exact ⟨cs, hm, ho, he, hlt, hnd⟩

theorem map_put (h : Sim P μ H w) {b r : Nat} (hm : μ b = .obj r) {cs cs' : Array MapEntry} {c c' : Nat} (ho : w.heap[r]? = some (.map cs c)) {es : List (AV × AV × Nat)} (he : EntR μ es cs'.toList) (hlt : ∀ k v n, (k, v, n) ∈ es → n < c') (hnd : (es.map (·.2.2)).Nodup) (N : Nat) :
    Sim P μ (H.put b (.map es c')) (w.putObj r (.map cs' c')) ∧ FR N μ w μ (w.putObj r (.map cs' c')) :=
  h.update (putObj_upd ho) (.inr ⟨hm, .map _ _ _ he hlt hnd⟩) (fun q hq => by rw [ho] at hq; cases hq) N

theorem stamps_lt {es : List (AV × AV × Nat)} {c : Nat} (h : ∀ n ∈ es.map (·.2.2), n < c) : ∀ k v n, (k, v, n) ∈ es → n < c := fun k v n hm => h n (List.mem_map.2 ⟨_, hm, rfl⟩)
theorem lt_stamps {es : List (AV × AV × Nat)} {c : Nat} (h : ∀ k v n, (k, v, n) ∈ es → n < c) : ∀ n ∈ es.map (·.2.2), n < c := fun n hn => by
  obtain ⟨⟨k, v, m⟩, hm, rfl⟩ := List.mem_map.1 hn
  exact h k v m hm

theorem s_mapUpdate {t kt el : TypeId} {k0 : IntKind} (hu : P.underlying t = some (.map kt el)) (hkt : P.underlying kt = some (.int k0)) (h : Sim P μ H w) {b r : Nat} (hb : (μ b).objOk r)
    {es : List (AV × AV × Nat)} {c : Nat} (hg : H.get b = some (.map es c)) {kk : IntKind} {n : Int} (hk : keysOf kk es = true) {v : AV} {u : Value} (hv : VR μ v u) :
    ∃ w', (Instr.mapUpdate t (.map (some r)) (.int kk n) u).run P w = .ok () w' ∧
      Sim P μ (match findEntry (.int kk n) es with | some _ => H.put b (.map (setEntry (.int kk n) v es) c) | none => H.put b (.map (es ++ [(.int kk n, v, c)]) (c + 1))) w' ∧ (∀ N, FR N μ w μ w') := by
  obtain ⟨cs, hm, ho, he, hlt, hnd⟩ := map_at h hb hg
  have hget : (getObj r).run P w = .ok (.map cs c) w := by simp [getObj, Sem.run, ho]
  have hf := find_rel2 he hk k0 n 0
  have hck := checkKey_int (P := P) (w := w) hkt false 9999 kk n
  unfold Instr.mapUpdate
  simp only [Sem.run_bind, run_und hu, Result.andThen_ok, hget, Sem.run_pure, hck, Instr.findKey, run_und hkt]
  cases hfe : findEntry (.int kk n) es with
  | none =>
    rw [hfe] at hf
    simp only at hf
    rw [hf]
    simp only [Sem.run_pure, Result.andThen_ok, Sem.run_bind, run_setMap ho]
    have hs := map_put h hm ho (cs' := cs.push { key := .int kk n, val := u, born := c }) (c' := c + 1) (es := es ++ [(.int kk n, v, c)]) (by
        have := he.push (me := { key := .int kk n, val := u, born := c }) (.int kk n) hv
        simpa using this) (stamps_lt fun m hmm => by
          simp at hmm
          rcases hmm with ⟨k1, v1, hmm⟩ | rfl
          · have := hlt _ _ _ hmm; omega
          · omega) (by
          rw [List.map_append, List.nodup_append]
          refine ⟨hnd, by simp, fun x hx y hy => ?_⟩
          simp at hy
          subst hy
          have := lt_stamps hlt x hx
          omega)
    exact ⟨_, rfl, (hs 0).1, fun N => (hs N).2⟩
  | some x =>
    obtain ⟨v0, s0⟩ := x
    rw [hfe] at hf
    obtain ⟨j, me, a1, a2, a3, a4, a5, a6⟩ := hf
    rw [a1]
    have a2' : cs[j]? = some me := by simpa using a2
    simp only [Sem.run_pure, Result.andThen_ok, Sem.run_bind, Nat.zero_add, a2', Option.map_some, Option.getD_some, a5, keyStays, run_setMap ho]
    have hs := map_put h hm ho (cs' := cs.modify j fun e => { e with key := .int kk n, val := u }) (c' := c) (es := setEntry (.int kk n) v es) (by
        have := a6 v u hv
        simpa using this) (stamps_lt fun m hmm => by rw [setEntry_stamps] at hmm; exact lt_stamps hlt m hmm) (by rw [setEntry_stamps]; exact hnd)
    exact ⟨_, rfl, (hs 0).1, fun N => (hs N).2⟩

theorem s_mapEntry {t kt el : TypeId} {k0 : IntKind} (hu : P.underlying t = some (.map kt el)) (hkt : P.underlying kt = some (.int k0)) {z : AV} (hz : zeroVAt P el = some z) (h : Sim P μ H w) {b r : Nat} (hb : (μ b).objOk r)
    {es : List (AV × AV × Nat)} {c : Nat} (hg : H.get b = some (.map es c)) {kk : IntKind} {n : Int} (hk : keysOf kk es = true) :
    ∃ w' v', (Instr.mapEntry t (.map (some r)) (.int kk n)).run P w = .ok v' w' ∧
      VR μ (match findEntry (.int kk n) es with | some (v, s) => .tup [v, .int .i64 s] | none => .tup [z, .int .i64 c]) v' ∧
      Sim P μ (match findEntry (.int kk n) es with | some _ => H.put b (.map es c) | none => H.put b (.map (es ++ [(.int kk n, z, c)]) (c + 1))) w' ∧ (∀ N, FR N μ w μ w') := by
  obtain ⟨cs, hm, ho, he, hlt, hnd⟩ := map_at h hb hg
  have hget : (getObj r).run P w = .ok (.map cs c) w := by simp [getObj, Sem.run, ho]
  have hf := find_rel2 he hk k0 n 0
  have hck := checkKey_int (P := P) (w := w) hkt false 9999 kk n
  obtain ⟨zv, hzr, hzv⟩ : ∃ zv, (∀ w, (zeroValue el).run P w = .ok zv w) ∧ VR μ z zv := by
    unfold zeroVAt at hz
    cases hi : P.info? el with
    | none => rw [hi] at hz; cases hz
    | some i =>
      cases hzz : i.zero with
      | none => rw [hi] at hz; simp [hzz] at hz
      | some zv => rw [hi] at hz; simp [hzz] at hz; exact ⟨zv, fun w => by simp [zeroValue, typeInfo, hi, hzz], avOf_rel μ _ _ _ hz⟩
  unfold Instr.mapEntry
  simp only [Sem.run_bind, run_und hu, Result.andThen_ok, hget, Sem.run_pure, hck, Instr.findKey, run_und hkt]
  cases hfe : findEntry (.int kk n) es with
  | none =>
    rw [hfe] at hf
    simp only at hf
    rw [hf]
    simp only [Sem.run_pure, Result.andThen_ok, Sem.run_bind, run_setMap ho, hzr]
    have hs := map_put h hm ho (cs' := cs.push { key := .int kk n, val := zv, born := c }) (c' := c + 1) (es := es ++ [(.int kk n, z, c)]) (by
        have := he.push (me := { key := .int kk n, val := zv, born := c }) (.int kk n) hzv
        simpa using this) (stamps_lt fun m hmm => by
          simp at hmm
          rcases hmm with ⟨k1, v1, hmm⟩ | rfl
          · have := hlt _ _ _ hmm; omega
          · omega) (by
          rw [List.map_append, List.nodup_append]
          refine ⟨hnd, by simp, fun x hx y hy => ?_⟩
          simp at hy
          subst hy
          have := lt_stamps hlt x hx
          omega)
    exact ⟨_, _, rfl, .tup _ _ (.cons _ _ _ _ hzv (.cons _ _ _ _ (.int _ _) .nil)), (hs 0).1, fun N => (hs N).2⟩
  | some x =>
    obtain ⟨v0, s0⟩ := x
    rw [hfe] at hf
    obtain ⟨j, me, a1, a2, a3, a4, a5, a6⟩ := hf
    rw [a1]
    have a2' : cs[j]? = some me := by simpa using a2
    simp only [Sem.run_pure, Result.andThen_ok, Sem.run_bind, Nat.zero_add, a2', Option.map_some, Option.getD_some, a5, keyStays, run_setMap ho]
    have e1 : (cs.modify j fun e => { e with key := .int kk n }).toList = cs.toList := by
      rw [Array.toList_modify]
      apply List.ext_getElem?
      intro i
      rw [List.getElem?_modify]
      by_cases c1 : j = i
      · subst c1
        simp only [if_true, a2, Option.map_eq_map, Option.map_some]
        rw [← a5]
      · simp [c1]
    have hs := map_put h hm ho (cs' := cs.modify j fun e => { e with key := .int kk n }) (c' := c) (es := es) (by rw [e1]; exact he) hlt hnd
    refine ⟨_, _, rfl, ?_, (hs 0).1, fun N => (hs N).2⟩
    subst a4
    exact .tup _ _ (.cons _ _ _ _ a3 (.cons _ _ _ _ (.int _ _) .nil))

theorem stamp_rel {es : List (AV × AV × Nat)} {ms : List MapEntry} (h : EntR μ es ms) {s : Nat} {v : AV} {u : Value} (hv : VR μ v u) {es' : List (AV × AV × Nat)} (hs : stampEntry s v es = some es') :
    ∃ j, ms.findIdx? (fun e => (e.born : Int) == (s : Int)) = some j ∧ EntR μ es' (ms.modify j fun e => { e with val := u }) ∧ es'.map (·.2.2) = es.map (·.2.2) := by
  induction h generalizing es' with
  | nil => simp [stampEntry] at hs
  | cons k v0 n e l r h1 h2 h3 hr ih =>
    simp only [stampEntry] at hs
    by_cases c : n = s
    · subst c
      have hb : Nat.beq n n = true := Nat.beq_refl n
      rw [hb] at hs
      simp at hs
      subst hs
      refine ⟨0, by simp [List.findIdx?_cons, ← h3], ?_, by simp⟩
      simp only [List.modify_zero_cons]
      exact .cons _ _ _ _ _ _ h1 hv h3 hr
    · have hb : Nat.beq n s = false := by
        cases hbb : Nat.beq n s with
        | false => rfl
        | true => exact absurd (Nat.eq_of_beq_eq_true hbb) c
      rw [hb] at hs
      simp only [cond_false, Option.map_eq_some_iff] at hs
      obtain ⟨es1, he1, rfl⟩ := hs
      obtain ⟨j, a1, a2, a3⟩ := ih he1
      refine ⟨j + 1, ?_, ?_, by simp [a3]⟩
      · rw [List.findIdx?_cons]
        have : ((e.born : Int) == (s : Int)) = false := by rw [← h3]; simp; omega
        simp only [this]
        rw [a1]
        rfl
      · simp only [List.modify_succ_cons]
        exact .cons _ _ _ _ _ _ h1 h2 h3 a2

theorem s_entryStore (t : TypeId) (h : Sim P μ H w) {b r : Nat} (hb : (μ b).objOk r) {es es' : List (AV × AV × Nat)} {c s : Nat} (hg : H.get b = some (.map es c)) {k : IntKind} {v : AV} {u : Value} (hv : VR μ v u) (hs : stampEntry s v es = some es') :
    ∃ w', (Instr.entryStore t (.map (some r)) (.int k s) u).run P w = .ok () w' ∧ Sim P μ (H.put b (.map es' c)) w' ∧ (∀ N, FR N μ w μ w') := by
  obtain ⟨cs, hm, ho, he, hlt, hnd⟩ := map_at h hb hg
  have hget : (getObj r).run P w = .ok (.map cs c) w := by simp [getObj, Sem.run, ho]
  obtain ⟨j, a1, a2, a3⟩ := stamp_rel he hv hs
  have a1' : cs.findIdx? (fun e => (e.born : Int) == (s : Int)) = some j := by rw [← List.findIdx?_toArray, Array.toArray_toList] at a1; exact a1
  unfold Instr.entryStore
  simp only [Sem.run_bind, hget, Result.andThen_ok, asInt, asIntOf, Sem.run_pure, a1', run_setMap ho]
  have hq := map_put h hm ho (cs' := cs.modify j fun e => { e with val := u }) (c' := c) (es := es') (by simpa using a2) (stamps_lt fun m hmm => by rw [a3] at hmm; exact lt_stamps hlt m hmm) (by rw [a3]; exact hnd)
  exact ⟨_, rfl, (hq 0).1, fun N => (hq N).2⟩
end
end Am

namespace Am
open Go Go.RowKit
section
variable {P : Program} {w w' : World} {μ : Mu} {H H' Y : AH} {e : Env} {a : Act}

theorem s_rangeStr {t : TypeId} (hu : P.underlying t = some .string) (h : Sim P μ H w) (s : List UInt8) :
    ∃ w' μ' v', (Instr.range t (.string ⟨⟨s⟩⟩)).run P w = .ok v' w' ∧ VR μ' (.ptr H.next 0) v' ∧ Sim P μ' (H.new (.iter s 0)) w' ∧ FR H.next μ w μ' w' := by
  have hunb : μ H.next = .unborn := h.bound _ (Nat.le_refl _)
  obtain ⟨h1, h2⟩ := (h.sub (AH.Sub.new H (.iter s 0))).alloc (b := H.next) (s := .obj w.heap.size) hunb (by simp) (by rw [AH.get_new]; simp) (new_alloc w (.stringIter ⟨⟨s⟩⟩ 0)) (.inr ⟨rfl, .iter s 0⟩)
  refine ⟨_, _, .pointer (some ⟨w.heap.size, 0, none⟩), ?_, .ptr _ _ _ (by simp [Mu.set, Slot.ptrOk]), h1, h2 _ (Nat.le_refl _)⟩
  simp [Instr.range, run_und hu]

theorem s_nextStr (h : Sim P μ H w) {b : Nat} {ad : Addr} (hp : (μ b).ptrOk 0 ad) {s : List UInt8} {pos : Nat} (hg : H.get b = some (.iter s pos)) (t : TypeId) :
    ∃ w' v', (Instr.next (.pointer (some ad)) true t).run P w = .ok v' w' ∧
      (if pos < s.length then VR μ (.tup [.bool true, .int .i64 pos, .int .i32 (Utf8.decode ⟨⟨s⟩⟩ pos).1]) v' ∧ Sim P μ (H.put b (.iter s (pos + (Utf8.decode ⟨⟨s⟩⟩ pos).2))) w' else VR μ (.tup [.bool false]) v' ∧ Sim P μ H w') ∧ (∀ N, FR N μ w μ w') := by
  obtain ⟨B, o, hm, ho, hr⟩ := h.at_obj (ptrOk_born hp) hg (by simp) (by simp)
  rw [hm] at hp
  have hp' : ad = ⟨B, 0, none⟩ := hp
  subst hp'
  cases hr
  have hget : (getObj B).run P w = .ok (.stringIter ⟨⟨s⟩⟩ pos) w := by simp [getObj, Sem.run, ho]
  have hset : ∀ o, (setObj B o).run P w = .ok () (w.putObj B o) := fun o => by simp [setObj, Sem.run, ho, World.putObj]
  unfold Instr.next
  simp only [Sem.run_bind, hget, Result.andThen_ok]
  have hsz : (⟨⟨s⟩⟩ : ByteArray).size = s.length := rfl
  by_cases hlt : pos < s.length
  · simp only [hlt, hsz, if_true, Sem.run_bind, hset, Result.andThen_ok, Sem.run_pure]
    have hq := fun N => h.update (N := N) (putObj_upd (o := .stringIter ⟨⟨s⟩⟩ (pos + (Utf8.decode ⟨⟨s⟩⟩ pos).2)) ho) (.inr ⟨hm, .iter s (pos + (Utf8.decode ⟨⟨s⟩⟩ pos).2)⟩) (fun q hq => by rw [ho] at hq; cases hq)
    exact ⟨_, _, rfl, ⟨.tup _ _ (.cons _ _ _ _ (.bool _) (.cons _ _ _ _ (.int _ _) (.cons _ _ _ _ (.int _ _) .nil))), (hq 0).1⟩, fun N => (hq N).2⟩
  · simp only [hlt, hsz, if_false, Sem.run_pure]
    exact ⟨_, _, rfl, ⟨.tup _ _ (.cons _ _ _ _ (.bool _) .nil), h⟩, fun N => FR.refl _ _ _⟩

theorem vr_unit : VR μ (.tup []) undef := .tup [] #[] .nil

set_option maxHeartbeats 2000000 in
theorem eff_sound {o : Oper} {op : AOp} {v : AV} (hc : compOp P o.op = some op) (hq : op.eff = true) (hv : op.ev1 e H = some (v, H')) (h : Sim P μ H w) (he : EnvR μ e a.tmps) :
    EffOk P μ H w v H' (execOp a.eval o) := by
  cases hop : o.op with
  | store t x y =>
    rw [hop] at hc; simp only [execOp, hop]
    simp only [compOp, Option.bind_eq_bind, Option.pure_def, Option.bind_eq_some_iff, Option.some.injEq] at hc
    obtain ⟨n, hn, x', hx, y', hy, rfl⟩ := hc
    have rx := compX_rel hx he
    have ry := compX_rel hy he
    simp only [AOp.ev1] at hv
    cases hxv : x'.ev e <;> rw [hxv] at hv rx <;> simp only at hv <;> try (cases hv; done)
    rename_i b off
    obtain ⟨ad, hval, hp⟩ := vr_ptr rx
    rw [hval]
    split at hv
    case isFalse => cases hv
    rename_i hl
    cases hst : H.storeAt b off (y'.ev e).cells with
    | none => rw [hst] at hv; cases hv
    | some H1 =>
      rw [hst] at hv
      cases hv
      obtain ⟨w', h1, h2, h3, h4⟩ := s_store (P := P) h hn hp ry hl hst
      exact ⟨.skip, w', μ, undef, by simp [Instr.storeAt, Instr.sureAddr, h1], .inr ⟨rfl, rfl⟩, vr_unit, h2, h3 _, Nat.le_of_eq h4.symm⟩
  | mapUpdate t m k x =>
    rw [hop] at hc; simp only [execOp, hop]
    unfold compOp at hc
    simp only at hc
    cases hu : P.underlying t with
    | none => rw [hu] at hc; cases hc
    | some ds =>
      rw [hu] at hc
      cases ds <;> simp only at hc <;> try (cases hc; done)
      rename_i kt el
      cases hkt : P.underlying kt with
      | none => rw [hkt] at hc; cases hc
      | some dk =>
        rw [hkt] at hc
        cases dk <;> simp only at hc <;> try (cases hc; done)
        simp only [Option.bind_eq_bind, Option.pure_def, Option.bind_eq_some_iff, Option.some.injEq] at hc
        obtain ⟨m', hm, k', hk, x', hx, rfl⟩ := hc
        have rm := compX_rel hm he
        have rk := compX_rel hk he
        have rx := compX_rel hx he
        simp only [AOp.ev1] at hv
        cases hmv : m'.ev e <;> rw [hmv] at hv rm <;> (try simp only at hv) <;> try (cases hv; done)
        cases hkv : k'.ev e <;> rw [hkv] at hv rk <;> simp only at hv <;> try (cases hv; done)
        rename_i b kk n
        obtain ⟨r, hval, hb⟩ := vr_map rm
        rw [hval, vr_int rk]
        split at hv
        case h_2 => cases hv
        rename_i es c hg
        split at hv
        case isFalse => cases hv
        rename_i hks
        obtain ⟨w', h1, h2, h3⟩ := s_mapUpdate (w := w) (n := n) hu hkt h hb hg hks rx
        cases hfe : findEntry (.int kk n) es with
        | none => rw [hfe] at hv h2; cases hv; exact ⟨.skip, w', μ, undef, by simp [h1], .inr ⟨rfl, rfl⟩, vr_unit, h2, h3 _, Nat.le_refl _⟩
        | some q => rw [hfe] at hv h2; cases hv; exact ⟨.skip, w', μ, undef, by simp [h1], .inr ⟨rfl, rfl⟩, vr_unit, h2, h3 _, Nat.le_refl _⟩
  | mapEntry t m k =>
    rw [hop] at hc; simp only [execOp, hop]
    unfold compOp at hc
    simp only at hc
    cases hu : P.underlying t with
    | none => rw [hu] at hc; cases hc
    | some ds =>
      rw [hu] at hc
      cases ds <;> simp only at hc <;> try (cases hc; done)
      rename_i kt el
      cases hkt : P.underlying kt with
      | none => rw [hkt] at hc; cases hc
      | some dk =>
        rw [hkt] at hc
        cases dk <;> simp only at hc <;> try (cases hc; done)
        simp only [Option.bind_eq_bind, Option.pure_def, Option.bind_eq_some_iff, Option.some.injEq] at hc
        obtain ⟨z, hz, m', hm, k', hk, rfl⟩ := hc
        have rm := compX_rel hm he
        have rk := compX_rel hk he
        simp only [AOp.ev1] at hv
        cases hmv : m'.ev e <;> rw [hmv] at hv rm <;> (try simp only at hv) <;> try (cases hv; done)
        cases hkv : k'.ev e <;> rw [hkv] at hv rk <;> simp only at hv <;> try (cases hv; done)
        rename_i b kk n
        obtain ⟨r, hval, hb⟩ := vr_map rm
        rw [hval, vr_int rk]
        split at hv
        case h_2 => cases hv
        rename_i es c hg
        split at hv
        case isFalse => cases hv
        rename_i hks
        obtain ⟨w', v', h1, h2, h3, h4⟩ := s_mapEntry (w := w) (n := n) hu hkt hz h hb hg hks
        cases hfe : findEntry (.int kk n) es with
        | none => rw [hfe] at hv h2 h3; cases hv; exact ⟨.value v', w', μ, v', by simp [h1], .inl rfl, h2, h3, h4 _, Nat.le_refl _⟩
        | some q => rw [hfe] at hv h2 h3; cases hv; exact ⟨.value v', w', μ, v', by simp [h1], .inl rfl, h2, h3, h4 _, Nat.le_refl _⟩
  | entryStore t m s x =>
    rw [hop] at hc; simp only [execOp, hop]
    simp only [compOp, Option.bind_eq_bind, Option.pure_def, Option.bind_eq_some_iff, Option.some.injEq] at hc
    obtain ⟨m', hm, s', hs, x', hx, rfl⟩ := hc
    have rm := compX_rel hm he
    have rs := compX_rel hs he
    have rx := compX_rel hx he
    simp only [AOp.ev1] at hv
    cases hin : natOf (s'.ev e) with
    | none => rw [hin] at hv; cases hmv : m'.ev e <;> rw [hmv] at hv <;> cases hv
    | some st =>
      rw [hin] at hv
      obtain ⟨k, hk, _⟩ := natOf_rel hin rs
      rw [hk]
      cases hmv : m'.ev e <;> rw [hmv] at hv rm <;> simp only at hv <;> try (cases hv; done)
      rename_i b
      obtain ⟨r, hval, hb⟩ := vr_map rm
      rw [hval]
      split at hv
      case h_2 => cases hv
      rename_i es c hg
      cases hse : stampEntry st (x'.ev e) es with
      | none => rw [hse] at hv; cases hv
      | some es' =>
        rw [hse] at hv
        cases hv
        obtain ⟨w', h1, h2, h3⟩ := s_entryStore (P := P) (k := k) t h hb hg rx hse
        exact ⟨.skip, w', μ, undef, by simp [h1], .inr ⟨rfl, rfl⟩, vr_unit, h2, h3 _, Nat.le_refl _⟩
  | range t x =>
    rw [hop] at hc; simp only [execOp, hop]
    unfold compOp at hc
    simp only at hc
    cases hu : P.underlying t with
    | none => rw [hu] at hc; cases hc
    | some ds =>
      rw [hu] at hc
      cases ds <;> simp only at hc <;> try (cases hc; done)
      simp only [Option.bind_eq_bind, Option.pure_def, Option.bind_eq_some_iff, Option.some.injEq] at hc
      obtain ⟨x', hx, rfl⟩ := hc
      have rx := compX_rel hx he
      simp only [AOp.ev1] at hv
      cases hxv : x'.ev e <;> rw [hxv] at hv rx <;> simp only at hv <;> try (cases hv; done)
      cases hv
      rw [vr_str rx]
      obtain ⟨w', μ', v', h1, h2, h3, h4⟩ := s_rangeStr (w := w) hu h _
      exact ⟨.value v', w', μ', v', by simp [h1], .inl rfl, h2, h3, h4, by simp⟩
  | next x s =>
    rw [hop] at hc; simp only [execOp, hop]
    cases s <;> simp only [compOp, Option.bind_eq_bind, Option.pure_def, Option.bind_eq_some_iff, Option.some.injEq] at hc
    · cases hc
    · obtain ⟨x', hx, rfl⟩ := hc
      have rx := compX_rel hx he
      simp only [AOp.ev1] at hv
      split at hv
      case h_2 => cases hv
      rename_i b hxv
      rw [hxv] at rx
      obtain ⟨ad, hval, hp⟩ := vr_ptr rx
      rw [hval]
      split at hv
      case h_2 => cases hv
      rename_i s pos hg
      obtain ⟨w', v', h1, h2, h3⟩ := s_nextStr (w := w) h hp hg o.type
      split at hv
      · rename_i hlt
        rw [if_pos hlt] at h2
        cases hv
        exact ⟨.value v', w', μ, v', by simp [h1], .inl rfl, h2.1, h2.2, h3 _, Nat.le_refl _⟩
      · rename_i hlt
        rw [if_neg hlt] at h2
        cases hv
        exact ⟨.value v', w', μ, v', by simp [h1], .inl rfl, h2.1, h2.2, h3 _, Nat.le_refl _⟩
  | call c =>
    rw [hop] at hc; simp only [execOp, hop]
    unfold compOp at hc
    simp only at hc
    cases hcal : c.callee with
    | value f =>
      rw [hcal] at hc
      exfalso
      cases f <;> simp only [Option.bind_eq_bind, Option.pure_def, Option.bind_eq_some_iff, Option.some.injEq] at hc
      · obtain ⟨_, _, _, _, rfl⟩ := hc; simp [AOp.ev1] at hv
      · obtain ⟨_, _, _, _, rfl⟩ := hc; simp [AOp.ev1] at hv
      · obtain ⟨_, _, _, _, rfl⟩ := hc; simp [AOp.ev1] at hv
      · obtain ⟨_, _, rfl⟩ := hc; simp [AOp.ev1] at hv
    | invoke r m => rw [hcal] at hc; cases hc
    | builtin bi =>
      rw [hcal] at hc
      cases bi <;> simp only at hc <;> try (cases hc; done)
      · -- append
        split at hc
        case h_2 => cases hc
        rename_i t u x y hat har
        have e1 : c.argTypes = #[t, u] := by rw [← Array.toList_inj]; exact hat
        have e2 : c.args = #[x, y] := by rw [← Array.toList_inj]; exact har
        split at hc
        case h_2 => cases hc
        rename_i el eu hu hu2
        simp only [Option.bind_eq_bind, Option.pure_def, Option.bind_eq_some_iff] at hc
        obtain ⟨s, hs, z, hz, hc⟩ := hc
        split at hc
        case isFalse => cases hc
        rename_i hzl
        simp only [Option.bind_eq_some_iff, Option.some.injEq] at hc
        obtain ⟨by', hby, x', hx, y', hy, rfl⟩ := hc
        obtain ⟨w', μ', v', h1, h2, h3, h4, h5⟩ := append_sound (ty := o.type) hu hu2 hs hby hz hzl h (compX_rel hx he) (compX_rel hy he) hv
        refine ⟨.value v', w', μ', v', ?_, .inl rfl, h2, h3, h4, h5⟩
        simp only [resolve, hcal, Sem.run_bind, Sem.run_pure, Result.andThen_ok, invoke, builtin, e1, e2]
        rw [show (#[x, y] : Array Operand).map a.eval = #[a.eval x, a.eval y] by simp, h1]
        rfl
      · exfalso
        split at hc
        case h_2 => cases hc
        split at hc
        · simp only [Option.bind_eq_bind, Option.pure_def, Option.bind_eq_some_iff, Option.some.injEq] at hc
          obtain ⟨_, _, rfl⟩ := hc
          simp [AOp.eff] at hq
        · simp only [Option.bind_eq_bind, Option.pure_def, Option.bind_eq_some_iff, Option.some.injEq] at hc
          obtain ⟨_, _, rfl⟩ := hc
          simp [AOp.eff] at hq
        · cases hc
      · exfalso
        simp only [Option.bind_eq_bind, Option.pure_def, Option.bind_eq_some_iff, Option.some.injEq] at hc
        obtain ⟨_, _, rfl⟩ := hc
        simp [AOp.eff] at hq
  | binOp bop t x y ty =>
    exfalso
    rw [hop] at hc
    obtain ⟨x', y', _, _, h1⟩ := binOp_cases hc
    rcases h1 with ⟨_, _, _, _, h1⟩ | ⟨_, _, _, _, h1⟩ | ⟨_, _, h1⟩ <;> (subst h1; cases hq)
  | buildSlice t len parts =>
    exfalso
    rw [hop] at hc
    unfold compOp at hc
    simp only at hc
    cases hu : P.underlying t with
    | none => rw [hu] at hc; cases hc
    | some ds =>
      rw [hu] at hc
      cases ds <;> simp only at hc <;> try (cases hc; done)
      simp only [Option.bind_eq_bind, Option.pure_def, Option.bind_eq_some_iff] at hc
      obtain ⟨s, _, z, _, ps, _, hc⟩ := hc
      split at hc
      · split at hc <;> (cases hc; simp [AOp.eff] at hq)
      · cases hc
  | makeSlice t l c =>
    exfalso
    rw [hop] at hc
    unfold compOp at hc
    simp only at hc
    cases hu : P.underlying t with
    | none => rw [hu] at hc; cases hc
    | some ds =>
      rw [hu] at hc
      cases ds <;> simp only at hc <;> try (cases hc; done)
      split at hc
      case isFalse => cases hc
      simp only [Option.bind_eq_bind, Option.pure_def, Option.bind_eq_some_iff] at hc
      obtain ⟨z, _, s, _, hc⟩ := hc
      split at hc
      case isFalse => cases hc
      simp only [Option.bind_eq_some_iff, Option.some.injEq] at hc
      obtain ⟨_, _, _, _, rfl⟩ := hc
      simp [AOp.eff] at hq
  | index t x i =>
    exfalso
    rw [hop] at hc
    unfold compOp at hc
    simp only at hc
    cases hu : P.underlying t with
    | none => rw [hu] at hc; cases hc
    | some ds =>
      rw [hu] at hc
      cases ds <;> simp only at hc <;> try (cases hc; done)
      · simp only [Option.bind_eq_bind, Option.pure_def, Option.bind_eq_some_iff, Option.some.injEq] at hc
        obtain ⟨_, _, _, _, rfl⟩ := hc
        simp [AOp.eff] at hq
      · simp only [Option.bind_eq_bind, Option.pure_def, Option.bind_eq_some_iff] at hc
        obtain ⟨s, _, hc⟩ := hc
        split at hc
        case isFalse => cases hc
        simp only [Option.bind_eq_some_iff, Option.some.injEq] at hc
        obtain ⟨_, _, _, _, rfl⟩ := hc
        simp [AOp.eff] at hq
  | _ =>
    exfalso
    rw [hop] at hc
    have hq' : (∃ n a x, op = .store n a x) ∨ (∃ z b x y, op = .append z b x y) ∨ (∃ f xs, op = .call f xs) ∨ (∃ f xs, op = .callv f xs) ∨ (∃ m k v, op = .mapUpdate m k v) ∨ (∃ z m k, op = .mapEntry z m k) ∨ (∃ m s v, op = .entryStore m s v) ∨ (∃ x, op = .rangeStr x) ∨ (∃ x, op = .nextStr x) := by
      cases op <;> simp [AOp.eff] at hq <;> simp
    clear hq hv h he
    rcases hq' with ⟨_, _, _, rfl⟩ | ⟨_, _, _, _, rfl⟩ | ⟨_, _, rfl⟩ | ⟨_, _, rfl⟩ | ⟨_, _, _, rfl⟩ | ⟨_, _, _, rfl⟩ | ⟨_, _, _, rfl⟩ | ⟨_, rfl⟩ | ⟨_, rfl⟩
    all_goals (revert hc; unfold compOp; simp only [Option.bind_eq_bind, Option.pure_def]; intro hc; (repeat' split at hc) <;> first | (simp [Option.bind_eq_some_iff] at hc; done) | (simp_all; done))
end
end Am
