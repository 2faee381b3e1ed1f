/- A part of the proof: AmE. It holds for whatever its statements name; no condition beyond theirs. -/
import Derived.Test.YtllbpnmhoblkgaaDoorAmC
import Derived.Test.YtllbpnmhoblkgaaDoorAmD
namespace Am
open Go

/-! ### more fuel does not hurt -/
theorem run_mono (T : Tab) : ∀ (n : Nat) (t : Task) (H : AH) (r : Res × AH), run T n t H = some r → run T (n + 1) t H = some r
  | 0, t, H, r, h => by simp [run] at h
  | n + 1, t, H, r, h => by
    have ih := run_mono T n
    cases t with
    | items l e =>
      cases l with
      | nil => rw [run] at h ⊢; exact h
      | cons x l =>
        cases x with
        | ins x =>
          rw [run_ins] at h ⊢
          split at h
          · split at h
            · rename_i v H' hs
              have : stepIns T (n + 1) x e H = some (v, H') := by
                unfold stepIns at hs ⊢
                split at hs
                · rename_i f args heq
                  split at hs
                  · rename_i v1 H1 hr
                    rw [ih _ _ _ hr]
                    exact hs
                  · cases hs
                · rename_i f args heq
                  split at hs
                  · rename_i v1 H1 hr
                    rw [ih _ _ _ hr]
                    exact hs
                  · cases hs
                · simpa using hs
              rw [this]
              exact ih _ _ _ h
            · cases h
          · exact ih _ _ _ h
          · cases h
        | chk x =>
          rw [run] at h ⊢
          split at h
          · split at h
            · cases hag : x.op.again e H (e.get _) with
              | false => rw [hag] at h; cases h
              | true => rw [hag] at h; exact ih _ _ _ h
            · cases h
          · exact ih _ _ _ h
          · cases h
    | code fn c e =>
      cases c with
      | skip => rw [run] at h ⊢; exact h
      | exit id => rw [run] at h ⊢; exact h
      | ret => rw [run] at h ⊢; exact h
      | ops l keep =>
        rw [run] at h ⊢
        split at h
        · rename_i hr; rw [ih _ _ _ hr]; exact h
        · cases h
      | seq a b =>
        rw [run] at h ⊢
        cases hr : run T n (.code fn a e) H with
        | none => rw [hr] at h; cases h
        | some q =>
          rw [hr] at h
          rw [ih _ _ _ hr]
          obtain ⟨q, H1⟩ := q
          cases q with
          | val v => exact h
          | code o e1 =>
            cases o with
            | normal => exact ih _ _ _ h
            | exit id => exact h
            | ret => exact h
      | cond x a b =>
        rw [run] at h ⊢
        split at h
        · exact ih _ _ _ h
        · cases h
      | block id b =>
        rw [run] at h ⊢
        cases hr : run T n (.code fn b e) H with
        | none => rw [hr] at h; cases h
        | some q => rw [hr] at h; rw [ih _ _ _ hr]; exact h
      | loop b keep =>
        rw [run] at h ⊢
        cases hr : run T n (.code fn b (e.only keep)) H with
        | none => rw [hr] at h; cases h
        | some q =>
          rw [hr] at h
          rw [ih _ _ _ hr]
          obtain ⟨q, H1⟩ := q
          cases q with
          | val v => exact h
          | code o e1 =>
            cases o with
            | normal => exact ih _ _ _ h
            | exit id => exact h
            | ret => exact h
      | rangeFunc f ps a b =>
        rw [run] at h ⊢
        split at h
        · rename_i hr; rw [ih _ _ _ hr]; exact h
        · cases h
    | call f args =>
      cases f with
      | fn f cap =>
        rw [run] at h ⊢
        split at h
        · exact h
        · split at h
          · rename_i af _
            cases hr : run T n (.code f af.body (argEnv 0 (args ++ cap))) H with
            | none => rw [hr] at h; cases h
            | some q => rw [hr] at h; rw [ih _ _ _ hr]; exact h
          · cases h
      | yield l =>
        rw [run] at h ⊢
        split at h
        case h_2 => cases h
        rename_i rr _
        split at h
        case isFalse => cases h
        rename_i hst
        rw [if_pos hst]
        split at h
        case h_2 => cases h
        rename_i e0 _
        split at h
        case h_2 => cases h
        rename_i e1 H1 hr
        rw [ih _ _ _ hr]
        simp only
        split at h
        case h_2 => cases h
        rename_i r1 hg
        split at h
        case isFalse => cases h
        rename_i hst1
        rw [if_pos hst1]
        cases hr2 : run T n (.code rr.fn rr.body e1) (H1.put l (.loop { r1 with state := .busy })) with
        | none => rw [hr2] at h; cases h
        | some q => rw [hr2] at h; rw [ih _ _ _ hr2]; exact h
      | _ => rw [run] at h <;> first | cases h | simp
theorem run_le (T : Tab) {n m : Nat} (hnm : n ≤ m) {t : Task} {H : AH} {r : Res × AH} (h : run T n t H = some r) : run T m t H = some r := by
  induction hnm with
  | refl => exact h
  | step _ ih => exact run_mono T _ _ _ _ ih

/-! ### what a run leads to -/
def wpC (T : Tab) (fn : FuncId) (c : ACode) (e : Env) (H : AH) (Q : Out → Env → AH → Prop) : Prop := ∃ n o e' H', run T n (.code fn c e) H = some (.code o e', H') ∧ Q o e' H'
def wpI (T : Tab) (l : List AItem) (e : Env) (H : AH) (Q : Env → AH → Prop) : Prop := ∃ n e' H', run T n (.items l e) H = some (.code .normal e', H') ∧ Q e' H'
def wpF (T : Tab) (f : AV) (args : List AV) (H : AH) (Q : AV → AH → Prop) : Prop := ∃ n v H', run T n (.call f args) H = some (.val v, H') ∧ Q v H'

variable {T : Tab} {fn : FuncId} {e : Env} {H : AH} {Q : Out → Env → AH → Prop}

theorem wpC_mono {c : ACode} {Q' : Out → Env → AH → Prop} (h : wpC T fn c e H Q) (k : ∀ o e' H', Q o e' H' → Q' o e' H') : wpC T fn c e H Q' := by
  obtain ⟨n, o, e', H', h1, h2⟩ := h
  exact ⟨n, o, e', H', h1, k _ _ _ h2⟩
theorem wpF_mono {f : AV} {args : List AV} {R R' : AV → AH → Prop} (h : wpF T f args H R) (k : ∀ v H', R v H' → R' v H') : wpF T f args H R' := by
  obtain ⟨n, v, H', h1, h2⟩ := h
  exact ⟨n, v, H', h1, k _ _ h2⟩

theorem wpC_skip (h : Q .normal e H) : wpC T fn .skip e H Q := ⟨1, _, _, _, by rw [run], h⟩
theorem wpC_exit {id : Nat} (h : Q (.exit id) e H) : wpC T fn (.exit id) e H Q := ⟨1, _, _, _, by rw [run], h⟩
theorem wpC_ret (h : Q .ret e H) : wpC T fn .ret e H Q := ⟨1, _, _, _, by rw [run], h⟩
theorem wpC_ops {l : List AItem} {keep : Option (List Nat)} (h : wpI T l e H fun e' H' => Q .normal (e'.only keep) H') : wpC T fn (.ops l keep) e H Q := by
  obtain ⟨n, e', H', h1, h2⟩ := h
  exact ⟨n + 1, _, _, _, by rw [run, h1], h2⟩
theorem wpC_seq {a b : ACode} (h : wpC T fn a e H fun o e' H' => match o with | .normal => wpC T fn b e' H' Q | o => Q o e' H') : wpC T fn (.seq a b) e H Q := by
  obtain ⟨n, o, e', H', h1, h2⟩ := h
  cases o with
  | normal =>
    obtain ⟨m, o2, e2, H2, h3, h4⟩ := h2
    exact ⟨max n m + 1, o2, e2, H2, by rw [run, run_le T (Nat.le_max_left n m) h1]; exact run_le T (Nat.le_max_right n m) h3, h4⟩
  | exit id => exact ⟨n + 1, _, _, _, by rw [run, h1], h2⟩
  | ret => exact ⟨n + 1, _, _, _, by rw [run, h1], h2⟩
theorem wpC_cond {x : AX} {a b : ACode} {t : Bool} (hx : x.ev e = .bool t) (h : wpC T fn (bif t then a else b) e H Q) : wpC T fn (.cond x a b) e H Q := by
  obtain ⟨n, o, e', H', h1, h2⟩ := h
  exact ⟨n + 1, _, _, _, by rw [run, hx]; exact h1, h2⟩
theorem wpC_block {id : Nat} {b : ACode} (h : wpC T fn b e H fun o e' H' => match o with | .exit j => (bif Nat.beq j id then Q .normal e' H' else Q (.exit j) e' H') | o => Q o e' H') : wpC T fn (.block id b) e H Q := by
  obtain ⟨n, o, e', H', h1, h2⟩ := h
  cases o with
  | normal => exact ⟨n + 1, _, _, _, by rw [run, h1], h2⟩
  | ret => exact ⟨n + 1, _, _, _, by rw [run, h1], h2⟩
  | exit j =>
    cases hj : Nat.beq j id with
    | true =>
      simp only [hj, cond_true] at h2
      exact ⟨n + 1, .normal, _, _, by rw [run, h1]; simp [hj], h2⟩
    | false =>
      simp only [hj, cond_false] at h2
      exact ⟨n + 1, .exit j, _, _, by rw [run, h1]; simp [hj], h2⟩
/-- A loop, by an invariant and a measure. -/
theorem wpC_loop {b : ACode} {keep : Option (List Nat)} (I : Nat → Env → AH → Prop) (step : ∀ m e H, I m e H → wpC T fn b e H fun o e' H' => match o with | .normal => ∃ m', m' < m ∧ I m' (e'.only keep) H' | o => Q o e' H') :
    ∀ (m : Nat) (e : Env) (H : AH), I m (e.only keep) H → wpC T fn (.loop b keep) e H Q := by
  intro m
  induction m using Nat.strongRecOn with
  | _ m ih =>
    intro e H hI
    obtain ⟨n, o, e', H', h1, h2⟩ := step m _ H hI
    cases o with
    | normal =>
      obtain ⟨m', hm, hI'⟩ := h2
      obtain ⟨k, o2, e2, H2, h3, h4⟩ := ih m' hm e' H' hI'
      exact ⟨max n k + 1, o2, e2, H2, by rw [run, run_le T (Nat.le_max_left n k) h1]; exact run_le T (Nat.le_max_right n k) h3, h4⟩
    | exit id => exact ⟨n + 1, _, _, _, by rw [run, h1], h2⟩
    | ret => exact ⟨n + 1, _, _, _, by rw [run, h1], h2⟩

variable {R : Env → AH → Prop}
theorem wpI_nil (h : R e H) : wpI T [] e H R := ⟨1, _, _, by rw [run], h⟩
/-- An operation that calls nothing. -/
theorem wpI_op {d : Option Nat} {op : AOp} {l : List AItem} {v : AV} {H' : AH} (hop : op.eval e H = some (v, H')) (h : wpI T l (e.put d v) H' R) : wpI T (.ins ⟨d, op, none⟩ :: l) e H R := by
  obtain ⟨n, e', H2, h1, h2⟩ := h
  have hs : stepIns T n ⟨d, op, none⟩ e H = some (v, H') := by
    unfold stepIns
    split
    · rename_i f args heq; simp only at heq; subst heq; simp [AOp.eval, AOp.mk, AOp.ev1] at hop
    · rename_i f args heq; simp only at heq; subst heq; simp [AOp.eval, AOp.mk, AOp.ev1] at hop
    · exact hop
  exact ⟨n + 1, e', H2, by rw [run_ins]; simp [wanted, hs, h1], h2⟩
/-- A guard. -/
theorem wpI_yes {d : Option Nat} {op : AOp} {l : List AItem} {t : Nat} {w b : Bool} (hg : e.get t = .bool b) (hb : b = w) (h : wpI T (.ins ⟨d, op, none⟩ :: l) e H R) : wpI T (.ins ⟨d, op, some (t, w)⟩ :: l) e H R := by
  obtain ⟨n, e', H2, h1, h2⟩ := h
  cases n with
  | zero => simp [run] at h1
  | succ n =>
    refine ⟨n + 1, e', H2, ?_, h2⟩
    rw [run_ins] at h1 ⊢
    have : wanted (some (t, w)) e = some true := by simp [wanted, hg, hb]
    rw [this]
    simp only [wanted] at h1
    exact h1
theorem wpI_no {d : Option Nat} {op : AOp} {l : List AItem} {t : Nat} {w b : Bool} (hg : e.get t = .bool b) (hb : b ≠ w) (h : wpI T l (e.put d (.tup [])) H R) : wpI T (.ins ⟨d, op, some (t, w)⟩ :: l) e H R := by
  obtain ⟨n, e', H2, h1, h2⟩ := h
  have : wanted (some (t, w)) e = some false := by simp [wanted, hg, hb]
  exact ⟨n + 1, e', H2, by rw [run_ins]; simp [this, h1], h2⟩
theorem wpI_none {d : Option Nat} {op : AOp} {l : List AItem} {t : Nat} {w : Bool} (hg : e.get t = .tup []) (h : wpI T l (e.put d (.tup [])) H R) : wpI T (.ins ⟨d, op, some (t, w)⟩ :: l) e H R := by
  obtain ⟨n, e', H2, h1, h2⟩ := h
  have : wanted (some (t, w)) e = some false := by simp [wanted, hg]
  exact ⟨n + 1, e', H2, by rw [run_ins]; simp [this, h1], h2⟩
/-- A call, by its contract. -/
theorem wpI_call {d : Option Nat} {f : FuncId} {args : List AX} {l : List AItem} (h : wpF T (.fn f []) (args.map (·.ev e)) H fun v H' => wpI T l (e.put d v) H' R) : wpI T (.ins ⟨d, .call f args, none⟩ :: l) e H R := by
  obtain ⟨n, v, H1, h1, k, e', H2, h3, h4⟩ := h
  have hs : stepIns T (max n k) ⟨d, .call f args, none⟩ e H = some (v, H1) := by
    unfold stepIns
    simp only
    rw [run_le T (Nat.le_max_left n k) h1]
  exact ⟨max n k + 1, e', H2, by rw [run_ins]; simp only [wanted, hs]; exact run_le T (Nat.le_max_right n k) h3, h4⟩
theorem wpI_callv {d : Option Nat} {f : AX} {args : List AX} {l : List AItem} (h : wpF T (f.ev e) (args.map (·.ev e)) H fun v H' => wpI T l (e.put d v) H' R) : wpI T (.ins ⟨d, .callv f args, none⟩ :: l) e H R := by
  obtain ⟨n, v, H1, h1, k, e', H2, h3, h4⟩ := h
  have hs : stepIns T (max n k) ⟨d, .callv f args, none⟩ e H = some (v, H1) := by
    unfold stepIns
    simp only
    rw [run_le T (Nat.le_max_left n k) h1]
  exact ⟨max n k + 1, e', H2, by rw [run_ins]; simp only [wanted, hs]; exact run_le T (Nat.le_max_right n k) h3, h4⟩

variable {S : AV → AH → Prop}
theorem wpF_fn {f : FuncId} {cap args : List AV} {af : AFn} (hp : T.prim f = none) (hf : T.fns f = some af) (h : wpC T f af.body (argEnv 0 (args ++ cap)) H fun o e' H' => (∀ id, o ≠ .exit id) ∧ ∃ vs, resVals e' H' af.res = some vs ∧ S (resOf vs) H') : wpF T (.fn f cap) args H S := by
  obtain ⟨n, o, e', H', h1, h2, vs, h3, h4⟩ := h
  refine ⟨n + 1, _, H', ?_, h4⟩
  rw [run, hp]
  simp only [hf, h1]
  cases o with
  | normal => simp [h3]
  | ret => simp [h3]
  | exit id => exact absurd rfl (h2 id)
theorem wpF_prim {f : FuncId} {cap args : List AV} {g : List AV → Option AV} {v : AV} (hp : T.prim f = some g) (hg : g (args ++ cap) = some v) (h : S v H) : wpF T (.fn f cap) args H S :=
  ⟨1, v, H, by rw [run, hp]; simp [hg], h⟩
end Am

namespace Am
open Go

/-! ### looking into an environment -/
inductive Lk : Env → Nat → AV → Prop
  | here {n : Nat} {v : AV} {e : Env} : Lk ((n, v) :: e) n v
  | there {k n : Nat} {u v : AV} {e : Env} : Nat.beq k n = false → Lk e n v → Lk ((k, u) :: e) n v
inductive X : Env → AX → AV → Prop
  | c {e : Env} {v : AV} : X e (.c v) v
  | t {e : Env} {n : Nat} {v : AV} : Lk e n v → X e (.t n) v
inductive Xs : Env → List AX → List AV → Prop
  | nil {e : Env} : Xs e [] []
  | cons {e : Env} {x : AX} {v : AV} {xs : List AX} {vs : List AV} : X e x v → Xs e xs vs → Xs e (x :: xs) (v :: vs)
inductive Only : Env → List Nat → Env → Prop
  | nil {e : Env} : Only e [] []
  | cons {e : Env} {n : Nat} {v : AV} {ns : List Nat} {e' : Env} : Lk e n v → Only e ns e' → Only e (n :: ns) ((n, v) :: e')

theorem Lk.eq {e : Env} {n : Nat} {v : AV} (h : Lk e n v) : e.get n = v := by
  induction h with
  | here => simp [Env.get]
  | there h _ ih => rw [Env.get, h]; exact ih
theorem X.eq {e : Env} {x : AX} {v : AV} (h : X e x v) : x.ev e = v := by
  cases h with
  | c => rfl
  | t h => exact h.eq
theorem Xs.eq {e : Env} {x : List AX} {v : List AV} (h : Xs e x v) : x.map (·.ev e) = v := by
  induction h with
  | nil => rfl
  | cons h _ ih => rw [List.map_cons, h.eq, ih]
theorem Only.eq {e : Env} {ns : List Nat} {e' : Env} (h : Only e ns e') : e.only (some ns) = e' := by
  unfold Env.only
  induction h with
  | nil => rfl
  | cons h _ ih => simp only [List.map_cons, h.eq]; exact congrArg _ ih

/-! ### heaps -/
theorem AH.get_new_self {H : AH} {x : Blk} : (H.new x).get H.next = some x := by rw [AH.get_new, if_pos rfl]
theorem AH.get_new_old {H : AH} {x y : Blk} {b : Nat} (h : H.get b = some y) : (H.new x).get b = some y := by
  rw [AH.get_new, if_neg (Nat.ne_of_lt (AH.get_lt h)), h]
theorem AH.get_put_self {H : AH} {x : Blk} {b : Nat} (h : b < H.next) : (H.put b x).get b = some x := by rw [AH.get_put' H h, if_pos rfl]
theorem AH.get_put_old {H : AH} {x y : Blk} {b c : Nat} (hne : c ≠ b) (h : H.get c = some y) : (H.put b x).get c = some y := by
  rw [AH.get_put_ne H b x c hne, h]

theorem AH.Sub.put {H H' : AH} (h : H.Sub H') {b : Nat} (hb : H.next ≤ b) (x : Blk) : H.Sub (H'.put b x) :=
  ⟨h.next, fun c y hc hy => AH.get_put_old (by omega) (h.get c y hc hy)⟩
theorem AH.Sub.new' {H H' : AH} (h : H.Sub H') (x : Blk) : H.Sub (H'.new x) := h.trans (AH.Sub.new H' x)
theorem AH.Sub.get' {H H' : AH} (h : H.Sub H') {b : Nat} {x : Blk} (hx : H.get b = some x) : H'.get b = some x := h.get b x (AH.get_lt hx) hx
/-- What H holds, Y holds, but for some blocks. -/
structure AH.SubX (bs : List Nat) (H Y : AH) : Prop where
  next : H.next ≤ Y.next
  get : ∀ b x, b ∉ bs → H.get b = some x → Y.get b = some x
theorem AH.Sub.x {H Y : AH} (h : H.Sub Y) (bs : List Nat) : AH.SubX bs H Y := ⟨h.next, fun _ _ _ hx => h.get' hx⟩
theorem AH.SubX.refl (bs : List Nat) (H : AH) : AH.SubX bs H H := ⟨Nat.le_refl _, fun _ _ _ h => h⟩
theorem AH.SubX.trans {bs : List Nat} {a b c : AH} (h : AH.SubX bs a b) (k : AH.SubX bs b c) : AH.SubX bs a c := ⟨Nat.le_trans h.next k.next, fun i x hi hx => k.get i x hi (h.get i x hi hx)⟩
theorem AH.SubX.new {bs : List Nat} {H Y : AH} (h : AH.SubX bs H Y) (x : Blk) : AH.SubX bs H (Y.new x) := ⟨Nat.le_succ_of_le h.next, fun b y hb hy => AH.get_new_old (h.get b y hb hy)⟩
theorem AH.SubX.put {bs : List Nat} {H Y : AH} (h : AH.SubX bs H Y) {b : Nat} (hb : b ∈ bs ∨ H.next ≤ b) (x : Blk) : AH.SubX bs H (Y.put b x) :=
  ⟨h.next, fun c y hc hy => AH.get_put_old (by
    rintro rfl
    rcases hb with hb | hb
    · exact hc hb
    · have := AH.get_lt hy; omega) (h.get c y hc hy)⟩
theorem AH.SubX.sub {bs : List Nat} {H Y : AH} (h : AH.SubX bs H Y) (hbs : ∀ b ∈ bs, H.next ≤ b) : H.Sub Y :=
  ⟨h.next, fun b x hb hx => h.get b x (fun hm => by have := hbs b hm; omega) hx⟩
theorem AH.SubX.weak {bs cs : List Nat} {H Y : AH} (h : AH.SubX bs H Y) (k : ∀ b ∈ bs, b ∈ cs ∨ H.next ≤ b) : AH.SubX cs H Y :=
  ⟨h.next, fun b x hb hx => h.get b x (fun hm => by
    rcases k b hm with c | c
    · exact hb c
    · have := AH.get_lt hx; omega) hx⟩

/-! ### the operations -/
section
variable {T : Tab} {fn : FuncId} {e : Env} {H : AH} {Q : Out → Env → AH → Prop} {R : Env → AH → Prop} {d : Nat} {l : List AItem}

theorem wI {op : AOp} {v : AV} {H' : AH} (hop : op.eval e H = some (v, H')) (h : wpI T l ((d, v) :: e) H' R) : wpI T (.ins ⟨some d, op, none⟩ :: l) e H R := wpI_op hop h

theorem wI_nil {keep : List Nat} {e' : Env} (ho : Only e keep e') (h : Q .normal e' H) : wpI T [] e H fun e' H' => Q .normal (e'.only (some keep)) H' :=
  wpI_nil (by rw [ho.eq]; exact h)

theorem wI_mov {x : AX} {v : AV} (hx : X e x v) (h : wpI T l ((d, v) :: e) H R) : wpI T (.ins ⟨some d, .mov x, none⟩ :: l) e H R := by
  refine wI (v := v) (H' := H) ?_ h
  simp [AOp.eval, AOp.mk, AOp.ev1, hx.eq]
theorem wI_pick {c a b : AX} {t : Bool} {u v : AV} (hc : X e c (.bool t)) (ha : X e a u) (hb : X e b v) (h : wpI T l ((d, bif t then u else v) :: e) H R) : wpI T (.ins ⟨some d, .pick c a b, none⟩ :: l) e H R := by
  refine wI (v := bif t then u else v) (H' := H) ?_ h
  simp [AOp.eval, AOp.mk, AOp.ev1, hc.eq, ha.eq, hb.eq]
theorem wI_pickT {c a b : AX} {u : AV} {t : Bool} (hc : X e c (.bool t)) (ht : t = true) (ha : X e a u) (h : wpI T l ((d, u) :: e) H R) : wpI T (.ins ⟨some d, .pick c a b, none⟩ :: l) e H R := by
  refine wI (v := u) (H' := H) ?_ h
  simp [AOp.eval, AOp.mk, AOp.ev1, hc.eq, ha.eq, ht]
theorem wI_pickF {c a b : AX} {u : AV} {t : Bool} (hc : X e c (.bool t)) (ht : t = false) (hb : X e b u) (h : wpI T l ((d, u) :: e) H R) : wpI T (.ins ⟨some d, .pick c a b, none⟩ :: l) e H R := by
  refine wI (v := u) (H' := H) ?_ h
  simp [AOp.eval, AOp.mk, AOp.ev1, hc.eq, hb.eq, ht]
theorem wI_alloc {z : List AV} (h : wpI T l ((d, .ptr H.next 0) :: e) (H.new (.cells z true)) R) : wpI T (.ins ⟨some d, .alloc z, none⟩ :: l) e H R :=
  wI (op := .alloc z) rfl h
theorem wI_box {x : AX} {v : AV} (hx : X e x v) (hc : v.cells.all AV.one = true) (h : wpI T l ((d, .ptr H.next 0) :: e) (H.new (.cells v.cells true)) R) : wpI T (.ins ⟨some d, .box x, none⟩ :: l) e H R := by
  refine wI (v := .ptr H.next 0) (H' := H.new (.cells v.cells true)) ?_ h
  simp only [AOp.eval, AOp.mk, hx.eq, hc, if_true]
theorem wI_makeMap (h : wpI T l ((d, .map H.next) :: e) (H.new (.map [] 0)) R) : wpI T (.ins ⟨some d, .makeMap, none⟩ :: l) e H R :=
  wI (op := .makeMap) rfl h
theorem wI_makeFn {f : FuncId} {cap : List AX} {vs : List AV} (hx : Xs e cap vs) (h : wpI T l ((d, .fn f vs) :: e) H R) : wpI T (.ins ⟨some d, .makeFn f cap, none⟩ :: l) e H R := by
  refine wI (v := .fn f vs) (H' := H) ?_ h
  simp only [AOp.eval, AOp.mk, AOp.ev1, hx.eq]
theorem wI_makeSlice {z : List AV} {bytes n : Nat} {k : IntKind} {x : AX} {i : Int} (hx : X e x (.int k i)) (hi : i = n) (hn : n ≤ room ∧ n * bytes ≤ room) (h : wpI T l ((d, .sl H.next 0 n z.length) :: e) (H.new (.cells (repl n z) true)) R) :
    wpI T (.ins ⟨some d, .makeSlice z bytes x, none⟩ :: l) e H R := by
  refine wI (v := .sl H.next 0 n z.length) (H' := H.new (.cells (repl n z) true)) ?_ h
  have : natOf (.int k i) = some n := by subst hi; simp [natOf]
  simp only [AOp.eval, AOp.mk, hx.eq, this, if_pos hn]
theorem wI_load1 {x : AX} {b o : Nat} {vs : List AV} {w : Bool} {v : AV} (hx : X e x (.ptr b o)) (hb : H.get b = some (.cells vs w)) (hv : vs[o]? = some v) (h : wpI T l ((d, v) :: e) H R) :
    wpI T (.ins ⟨some d, .load .one x, none⟩ :: l) e H R := by
  refine wI (v := v) (H' := H) ?_ h
  simp [AOp.eval, AOp.mk, AOp.ev1, hx.eq, AH.loadSh, AH.cells, hb, hv]
theorem wI_loadN {x : AX} {b o n : Nat} {vs cs : List AV} {w : Bool} (hx : X e x (.ptr b o)) (hb : H.get b = some (.cells vs w)) (hn : o + n ≤ vs.length) (hc : (vs.drop o).take n = cs) (h : wpI T l ((d, .agg cs) :: e) H R) :
    wpI T (.ins ⟨some d, .load (.many n) x, none⟩ :: l) e H R := by
  refine wI (v := .agg cs) (H' := H) ?_ h
  simp only [AOp.eval, AOp.mk, AOp.ev1, hx.eq, AH.loadSh, AH.cells, hb, hn, hc, if_true]
theorem wI_store {n : Nat} {a x : AX} {b o : Nat} {vs vs' cs : List AV} {v : AV} (ha : X e a (.ptr b o)) (hx : X e x v) (hb : H.get b = some (.cells vs true)) (hc : v.cells = cs) (hn : cs.length = n) (h1 : cs.all AV.one = true) (hl : lay vs o cs = some vs')
    (h : wpI T l e (H.put b (.cells vs' true)) R) : wpI T (.ins ⟨none, .store n a x, none⟩ :: l) e H R := by
  refine wpI_op (v := .tup []) (H' := H.put b (.cells vs' true)) ?_ h
  simp only [AOp.eval, AOp.mk, AOp.ev1, ha.eq, hx.eq, hc, hn, AH.storeAt, hb, h1, hl, if_true]
theorem wI_nilCheck {x : AX} {b o : Nat} (hx : X e x (.ptr b o)) (h : wpI T l ((d, .ptr b o) :: e) H R) : wpI T (.ins ⟨some d, .nilCheck x, none⟩ :: l) e H R := by
  refine wI (v := .ptr b o) (H' := H) ?_ h
  simp [AOp.eval, AOp.mk, AOp.ev1, hx.eq]
theorem wI_nilCheck0 {x : AX} {b o : Nat} (hx : X e x (.ptr b o)) (h : wpI T l e H R) : wpI T (.ins ⟨none, .nilCheck x, none⟩ :: l) e H R := by
  refine wpI_op (v := .ptr b o) (H' := H) ?_ h
  simp [AOp.eval, AOp.mk, AOp.ev1, hx.eq]
theorem wI_fieldAddr {off : Nat} {x : AX} {b o : Nat} (hx : X e x (.ptr b o)) (h : wpI T l ((d, .ptr b (o + off)) :: e) H R) : wpI T (.ins ⟨some d, .fieldAddr off x, none⟩ :: l) e H R := by
  refine wI (v := .ptr b (o + off)) (H' := H) ?_ h
  simp [AOp.eval, AOp.mk, AOp.ev1, hx.eq]
theorem wI_field1 {off : Nat} {x : AX} {cs : List AV} {v : AV} (hx : X e x (.agg cs)) (hv : cs[off]? = some v) (h : wpI T l ((d, v) :: e) H R) : wpI T (.ins ⟨some d, .field .one off x, none⟩ :: l) e H R := by
  refine wI (v := v) (H' := H) ?_ h
  simp [AOp.eval, AOp.mk, AOp.ev1, hx.eq, partSh, hv]
theorem wI_fieldN {off n : Nat} {x : AX} {cs ds : List AV} (hx : X e x (.agg cs)) (hn : off + n ≤ cs.length) (hv : (cs.drop off).take n = ds) (h : wpI T l ((d, .agg ds) :: e) H R) : wpI T (.ins ⟨some d, .field (.many n) off x, none⟩ :: l) e H R := by
  refine wI (v := .agg ds) (H' := H) ?_ h
  simp only [AOp.eval, AOp.mk, AOp.ev1, hx.eq, partSh, hn, hv, if_true]
theorem wI_indexAddrS {esz : Nat} {x i : AX} {b o n m : Nat} {k : IntKind} {j : Int} (hx : X e x (.sl b o n esz)) (hi : X e i (.int k j)) (hj : j = m) (hm : m < n) (h : wpI T l ((d, .ptr b (o + m * esz)) :: e) H R) :
    wpI T (.ins ⟨some d, .indexAddrS esz x i, none⟩ :: l) e H R := by
  refine wI (v := .ptr b (o + m * esz)) (H' := H) ?_ h
  have : natOf (.int k j) = some m := by subst hj; simp [natOf]
  simp [AOp.eval, AOp.mk, AOp.ev1, hx.eq, hi.eq, this, hm]
theorem wI_indexAddrA {len esz : Nat} {x i : AX} {b o m : Nat} {k : IntKind} {j : Int} (hx : X e x (.ptr b o)) (hi : X e i (.int k j)) (hj : j = m) (hm : m < len) (h : wpI T l ((d, .ptr b (o + m * esz)) :: e) H R) :
    wpI T (.ins ⟨some d, .indexAddrA len esz x i, none⟩ :: l) e H R := by
  refine wI (v := .ptr b (o + m * esz)) (H' := H) ?_ h
  have : natOf (.int k j) = some m := by subst hj; simp [natOf]
  simp [AOp.eval, AOp.mk, AOp.ev1, hx.eq, hi.eq, this, hm]
theorem wI_indexA1 {len : Nat} {x i : AX} {cs : List AV} {m : Nat} {k : IntKind} {j : Int} {v : AV} (hx : X e x (.agg cs)) (hi : X e i (.int k j)) (hj : j = m) (hm : m < len) (hv : cs[m]? = some v) (h : wpI T l ((d, v) :: e) H R) :
    wpI T (.ins ⟨some d, .indexA len .one x i, none⟩ :: l) e H R := by
  refine wI (v := v) (H' := H) ?_ h
  have : natOf (.int k j) = some m := by subst hj; simp [natOf]
  simp [AOp.eval, AOp.mk, AOp.ev1, hx.eq, hi.eq, this, hm, partSh, Sh.size, hv]
theorem wI_indexStr {x i : AX} {s : List UInt8} {m : Nat} {k : IntKind} {j : Int} {c : UInt8} (hx : X e x (.str s)) (hi : X e i (.int k j)) (hj : j = m) (hv : s[m]? = some c) (h : wpI T l ((d, .int .u8 c.toNat) :: e) H R) :
    wpI T (.ins ⟨some d, .indexStr x i, none⟩ :: l) e H R := by
  refine wI (v := .int .u8 c.toNat) (H' := H) ?_ h
  have : natOf (.int k j) = some m := by subst hj; simp [natOf]
  simp [AOp.eval, AOp.mk, AOp.ev1, hx.eq, hi.eq, this, hv]
theorem wI_extract {x : AX} {i : Nat} {vs : List AV} {v : AV} (hx : X e x (.tup vs)) (hv : vs[i]? = some v) (h : wpI T l ((d, v) :: e) H R) : wpI T (.ins ⟨some d, .extract x i, none⟩ :: l) e H R := by
  refine wI (v := v) (H' := H) ?_ h
  simp [AOp.eval, AOp.mk, AOp.ev1, hx.eq, hv]
theorem wI_lenStr {x : AX} {s : List UInt8} (hx : X e x (.str s)) (h : wpI T l ((d, .int .i64 s.length) :: e) H R) : wpI T (.ins ⟨some d, .lenStr x, none⟩ :: l) e H R := by
  refine wI (v := .int .i64 s.length) (H' := H) ?_ h
  simp [AOp.eval, AOp.mk, AOp.ev1, hx.eq]
theorem wI_convInt {k k' : IntKind} {x : AX} {n m : Int} (hx : X e x (.int k' n)) (hm : k.wrap n = m) (h : wpI T l ((d, .int k m) :: e) H R) : wpI T (.ins ⟨some d, .convInt k x, none⟩ :: l) e H R := by
  refine wI (v := .int k m) (H' := H) ?_ h
  simp [AOp.eval, AOp.mk, AOp.ev1, hx.eq, hm]
theorem wI_bin {op : BinOp} {x y : AX} {u v w : AV} (hx : X e x u) (hy : X e y v) (hv : binAny op u v = some w) (h : wpI T l ((d, w) :: e) H R) : wpI T (.ins ⟨some d, .bin op x y, none⟩ :: l) e H R := by
  refine wI (v := w) (H' := H) ?_ h
  simp [AOp.eval, AOp.mk, AOp.ev1, hx.eq, hy.eq, hv]
theorem wI_cmp {op : BinOp} {x y : AX} {k : IntKind} {a b : Int} {w : Bool} (hx : X e x (.int k a)) (hy : X e y (.int k b)) (hv : binInt op k a b = some (.bool w)) (hop : op = .lss ∨ op = .leq ∨ op = .gtr ∨ op = .geq) (h : wpI T l ((d, .bool w) :: e) H R) : wpI T (.ins ⟨some d, .bin op x y, none⟩ :: l) e H R := by
  refine wI_bin hx hy ?_ h
  rcases hop with rfl | rfl | rfl | rfl <;> (simp only [binAny, if_true]; exact hv)
theorem wI_lss {x y : AX} {k : IntKind} {a b : Int} (hx : X e x (.int k a)) (hy : X e y (.int k b)) (h : wpI T l ((d, .bool (decide (a < b))) :: e) H R) : wpI T (.ins ⟨some d, .bin .lss x y, none⟩ :: l) e H R :=
  wI_cmp hx hy rfl (by simp) h
theorem wI_leq {x y : AX} {k : IntKind} {a b : Int} (hx : X e x (.int k a)) (hy : X e y (.int k b)) (h : wpI T l ((d, .bool (decide (a ≤ b))) :: e) H R) : wpI T (.ins ⟨some d, .bin .leq x y, none⟩ :: l) e H R :=
  wI_cmp hx hy rfl (by simp) h
theorem wI_gtr {x y : AX} {k : IntKind} {a b : Int} (hx : X e x (.int k a)) (hy : X e y (.int k b)) (h : wpI T l ((d, .bool (decide (b < a))) :: e) H R) : wpI T (.ins ⟨some d, .bin .gtr x y, none⟩ :: l) e H R :=
  wI_cmp hx hy rfl (by simp) h
theorem wI_geq {x y : AX} {k : IntKind} {a b : Int} (hx : X e x (.int k a)) (hy : X e y (.int k b)) (h : wpI T l ((d, .bool (decide (b ≤ a))) :: e) H R) : wpI T (.ins ⟨some d, .bin .geq x y, none⟩ :: l) e H R :=
  wI_cmp hx hy rfl (by simp) h
theorem wI_ar {op : BinOp} {x y : AX} {k : IntKind} {a b c : Int} (hx : X e x (.int k a)) (hy : X e y (.int k b)) (hop : op ≠ .shl ∧ op ≠ .shr) (hv : binInt op k a b = some (.int k c)) (h : wpI T l ((d, .int k c) :: e) H R) : wpI T (.ins ⟨some d, .bin op x y, none⟩ :: l) e H R := by
  refine wI_bin hx hy ?_ h
  have : binAny op (.int k a) (.int k b) = binInt op k a b := by
    cases op <;> first | rfl | (simp [binAny]; done) | simp_all
  rw [this, hv]
theorem wI_add {x y : AX} {k : IntKind} {a b c : Int} (hx : X e x (.int k a)) (hy : X e y (.int k b)) (hc : k.wrap (a + b) = c) (h : wpI T l ((d, .int k c) :: e) H R) : wpI T (.ins ⟨some d, .bin .add x y, none⟩ :: l) e H R :=
  wI_ar hx hy (by simp) (by simp only [binInt, hc]) h
theorem wI_sub {x y : AX} {k : IntKind} {a b c : Int} (hx : X e x (.int k a)) (hy : X e y (.int k b)) (hc : k.wrap (a - b) = c) (h : wpI T l ((d, .int k c) :: e) H R) : wpI T (.ins ⟨some d, .bin .sub x y, none⟩ :: l) e H R :=
  wI_ar hx hy (by simp) (by simp only [binInt, hc]) h
theorem wI_mul {x y : AX} {k : IntKind} {a b c : Int} (hx : X e x (.int k a)) (hy : X e y (.int k b)) (hc : k.wrap (a * b) = c) (h : wpI T l ((d, .int k c) :: e) H R) : wpI T (.ins ⟨some d, .bin .mul x y, none⟩ :: l) e H R :=
  wI_ar hx hy (by simp) (by simp only [binInt, hc]) h
theorem wI_quo {x y : AX} {k : IntKind} {a b c : Int} (hx : X e x (.int k a)) (hy : X e y (.int k b)) (hb : b ≠ 0) (hc : k.wrap (a.tdiv b) = c) (h : wpI T l ((d, .int k c) :: e) H R) : wpI T (.ins ⟨some d, .bin .quo x y, none⟩ :: l) e H R :=
  wI_ar hx hy (by simp) (by simp only [binInt, hb, if_false, hc]) h
theorem wI_rem {x y : AX} {k : IntKind} {a b c : Int} (hx : X e x (.int k a)) (hy : X e y (.int k b)) (hb : b ≠ 0) (hc : a.tmod b = c) (h : wpI T l ((d, .int k c) :: e) H R) : wpI T (.ins ⟨some d, .bin .rem x y, none⟩ :: l) e H R :=
  wI_ar hx hy (by simp) (by simp only [binInt, hb, if_false, hc]) h
theorem wI_eqI {x y : AX} {k : IntKind} {a b : Int} (hx : X e x (.int k a)) (hy : X e y (.int k b)) (h : wpI T l ((d, .bool (decide (a = b))) :: e) H R) : wpI T (.ins ⟨some d, .eq1 .int false x y, none⟩ :: l) e H R := by
  refine wI (v := .bool (decide (a = b))) (H' := H) ?_ h
  simp [AOp.eval, AOp.mk, AOp.ev1, hx.eq, hy.eq, eqCell]
  rfl
theorem wI_neI {x y : AX} {k : IntKind} {a b : Int} (hx : X e x (.int k a)) (hy : X e y (.int k b)) (h : wpI T l ((d, .bool (decide (a ≠ b))) :: e) H R) : wpI T (.ins ⟨some d, .eq1 .int true x y, none⟩ :: l) e H R := by
  refine wI (v := .bool (decide (a ≠ b))) (H' := H) ?_ h
  simp [AOp.eval, AOp.mk, AOp.ev1, hx.eq, hy.eq, eqCell]
  rfl
theorem wI_eqB {x y : AX} {a b : Bool} (hx : X e x (.bool a)) (hy : X e y (.bool b)) (h : wpI T l ((d, .bool (a == b)) :: e) H R) : wpI T (.ins ⟨some d, .eq1 .bool false x y, none⟩ :: l) e H R := by
  refine wI (v := .bool (a == b)) (H' := H) ?_ h
  simp [AOp.eval, AOp.mk, AOp.ev1, hx.eq, hy.eq, eqCell]
theorem wI_neB {x y : AX} {a b : Bool} (hx : X e x (.bool a)) (hy : X e y (.bool b)) (h : wpI T l ((d, .bool (a != b)) :: e) H R) : wpI T (.ins ⟨some d, .eq1 .bool true x y, none⟩ :: l) e H R := by
  refine wI (v := .bool (a != b)) (H' := H) ?_ h
  simp [AOp.eval, AOp.mk, AOp.ev1, hx.eq, hy.eq, eqCell, bne]
theorem wI_eqS {x y : AX} {a b : List UInt8} (hx : X e x (.str a)) (hy : X e y (.str b)) (h : wpI T l ((d, .bool (decide (a = b))) :: e) H R) : wpI T (.ins ⟨some d, .eq1 .str false x y, none⟩ :: l) e H R := by
  refine wI (v := .bool (decide (a = b))) (H' := H) ?_ h
  simp [AOp.eval, AOp.mk, AOp.ev1, hx.eq, hy.eq, eqCell]
theorem wI_neS {x y : AX} {a b : List UInt8} (hx : X e x (.str a)) (hy : X e y (.str b)) (h : wpI T l ((d, .bool (decide (a ≠ b))) :: e) H R) : wpI T (.ins ⟨some d, .eq1 .str true x y, none⟩ :: l) e H R := by
  refine wI (v := .bool (decide (a ≠ b))) (H' := H) ?_ h
  simp [AOp.eval, AOp.mk, AOp.ev1, hx.eq, hy.eq, eqCell]
theorem wI_not {x : AX} {a : Bool} (hx : X e x (.bool a)) (h : wpI T l ((d, .bool (!a)) :: e) H R) : wpI T (.ins ⟨some d, .un .not x, none⟩ :: l) e H R := by
  refine wI (v := .bool (!a)) (H' := H) ?_ h
  simp [AOp.eval, AOp.mk, AOp.ev1, hx.eq, unAny]

/-- A guard. -/
theorem wI_gd {d : Option Nat} {op : AOp} {t : Nat} {w b : Bool} (hg : Lk e t (.bool b)) (h1 : b = w → wpI T (.ins ⟨d, op, none⟩ :: l) e H R) (h2 : b ≠ w → wpI T l (e.put d (.tup [])) H R) : wpI T (.ins ⟨d, op, some (t, w)⟩ :: l) e H R := by
  by_cases hb : b = w
  · exact wpI_yes hg.eq hb (h1 hb)
  · exact wpI_no hg.eq hb (h2 hb)
theorem wI_yes {d : Option Nat} {op : AOp} {t : Nat} {w b : Bool} (hg : Lk e t (.bool b)) (hb : b = w) (h : wpI T (.ins ⟨d, op, none⟩ :: l) e H R) : wpI T (.ins ⟨d, op, some (t, w)⟩ :: l) e H R := wpI_yes hg.eq hb h
theorem wI_no {op : AOp} {t : Nat} {w b : Bool} (hg : Lk e t (.bool b)) (hb : b ≠ w) (h : wpI T l ((d, .tup []) :: e) H R) : wpI T (.ins ⟨some d, op, some (t, w)⟩ :: l) e H R := wpI_no hg.eq hb h
theorem wI_no0 {op : AOp} {t : Nat} {w b : Bool} (hg : Lk e t (.bool b)) (hb : b ≠ w) (h : wpI T l e H R) : wpI T (.ins ⟨none, op, some (t, w)⟩ :: l) e H R := wpI_no hg.eq hb h
theorem wI_none {op : AOp} {t : Nat} {w : Bool} (hg : Lk e t (.tup [])) (h : wpI T l ((d, .tup []) :: e) H R) : wpI T (.ins ⟨some d, op, some (t, w)⟩ :: l) e H R := wpI_none hg.eq h
theorem wI_none0 {op : AOp} {t : Nat} {w : Bool} (hg : Lk e t (.tup [])) (h : wpI T l e H R) : wpI T (.ins ⟨none, op, some (t, w)⟩ :: l) e H R := wpI_none hg.eq h

/-- A call, by its contract. -/
theorem wI_call {f : FuncId} {args : List AX} {vs : List AV} {S : AV → AH → Prop} (hx : Xs e args vs) (hf : wpF T (.fn f []) vs H S) (h : ∀ v H', S v H' → wpI T l ((d, v) :: e) H' R) : wpI T (.ins ⟨some d, .call f args, none⟩ :: l) e H R :=
  wpI_call (by rw [hx.eq]; exact wpF_mono hf h)
theorem wI_call0 {f : FuncId} {args : List AX} {vs : List AV} {S : AV → AH → Prop} (hx : Xs e args vs) (hf : wpF T (.fn f []) vs H S) (h : ∀ v H', S v H' → wpI T l e H' R) : wpI T (.ins ⟨none, .call f args, none⟩ :: l) e H R :=
  wpI_call (by rw [hx.eq]; exact wpF_mono hf h)
theorem wI_callv {f : AX} {args : List AX} {g : AV} {vs : List AV} {S : AV → AH → Prop} (hg : X e f g) (hx : Xs e args vs) (hf : wpF T g vs H S) (h : ∀ v H', S v H' → wpI T l ((d, v) :: e) H' R) : wpI T (.ins ⟨some d, .callv f args, none⟩ :: l) e H R :=
  wpI_callv (by rw [hg.eq, hx.eq]; exact wpF_mono hf h)
theorem wI_callv0 {f : AX} {args : List AX} {g : AV} {vs : List AV} {S : AV → AH → Prop} (hg : X e f g) (hx : Xs e args vs) (hf : wpF T g vs H S) (h : ∀ v H', S v H' → wpI T l e H' R) : wpI T (.ins ⟨none, .callv f args, none⟩ :: l) e H R :=
  wpI_callv (by rw [hg.eq, hx.eq]; exact wpF_mono hf h)

/-! ### code -/
theorem wC_cond {x : AX} {a b : ACode} {t : Bool} (hx : X e x (.bool t)) (h1 : t = true → wpC T fn a e H Q) (h2 : t = false → wpC T fn b e H Q) : wpC T fn (.cond x a b) e H Q := by
  refine wpC_cond hx.eq ?_
  cases t with
  | true => exact h1 rfl
  | false => exact h2 rfl
theorem wC_if {x : AX} {a b : ACode} {p : Prop} [Decidable p] (hx : X e x (.bool (decide p))) (h1 : p → wpC T fn a e H Q) (h2 : ¬ p → wpC T fn b e H Q) : wpC T fn (.cond x a b) e H Q :=
  wC_cond hx (fun h => h1 (of_decide_eq_true h)) (fun h => h2 (of_decide_eq_false h))
/-- A sequence whose first part ends normally or not. -/
theorem wC_seq {a b : ACode} (h : wpC T fn a e H fun o e' H' => match o with | .normal => wpC T fn b e' H' Q | o => Q o e' H') : wpC T fn (.seq a b) e H Q := wpC_seq h
end

/-! ### arithmetic -/
theorem wrap64 {n : Int} (h : -9223372036854775808 ≤ n ∧ n ≤ 9223372036854775807) : IntKind.i64.wrap n = n := by rw [IntKind.wrap_i64]; omega
theorem wrap_u64 {n : Int} (h : 0 ≤ n ∧ n ≤ 18446744073709551615) : IntKind.u64.wrap n = n := IntWalk.u64_in n h
theorem wrap_u64_range (n : Int) : 0 ≤ IntKind.u64.wrap n ∧ IntKind.u64.wrap n ≤ 18446744073709551615 := by rw [IntKind.wrap_u64]; omega
end Am

namespace Am
open Go

/-! ### slices -/
inductive LenOf : AV → Nat → Prop
  | nils : LenOf .nils 0
  | sl {b o n z : Nat} : LenOf (.sl b o n z) n
theorem LenOf.one {v : AV} {n : Nat} (h : LenOf v n) : v.one = true := by cases h <;> rfl
theorem LenOf.cells {v : AV} {n : Nat} (h : LenOf v n) : v.cells = [v] := by cases h <;> rfl

/-- The cells from a place on. -/
def Cells (H : AH) (b o : Nat) (cs : List AV) : Prop := ∃ vs w, H.get b = some (.cells vs w) ∧ o + cs.length ≤ vs.length ∧ ∀ k, k < cs.length → vs[o + k]? = cs[k]?
theorem Cells.mono {H H' : AH} {b o : Nat} {cs : List AV} (h : Cells H b o cs) (hs : H.Sub H') : Cells H' b o cs := by
  obtain ⟨vs, w, h1, h2, h3⟩ := h
  exact ⟨vs, w, hs.get' h1, h2, h3⟩

/-- A slice, and the cells that it shows. -/
def At (H : AH) (v : AV) (z : Nat) (cs : List AV) : Prop :=
  (v = .nils ∧ cs = []) ∨ ∃ b o n, v = .sl b o n z ∧ n * z = cs.length ∧ Cells H b o cs
theorem At.mono {H H' : AH} {v : AV} {z : Nat} {cs : List AV} (h : At H v z cs) (hs : H.Sub H') : At H' v z cs := by
  rcases h with h | ⟨b, o, n, h1, h2, h3⟩
  · exact .inl h
  · exact .inr ⟨b, o, n, h1, h2, h3.mono hs⟩
theorem At.nils (H : AH) (z : Nat) : At H .nils z [] := .inl ⟨rfl, rfl⟩
theorem At.of_get {H : AH} {b n z : Nat} {cs : List AV} {w : Bool} (h : H.get b = some (.cells cs w)) (hn : n * z = cs.length) : At H (.sl b 0 n z) z cs :=
  .inr ⟨b, 0, n, rfl, hn, cs, w, h, by omega, fun k _ => by rw [Nat.zero_add]⟩
theorem At.one {H : AH} {v : AV} {z : Nat} {cs : List AV} (h : At H v z cs) : v.one = true := by
  rcases h with ⟨rfl, _⟩ | ⟨b, o, n, rfl, _⟩ <;> rfl
theorem At.len {H : AH} {v : AV} {z : Nat} {cs : List AV} {n : Nat} (h : At H v z cs) (hz : 0 < z) (hn : n * z = cs.length) : LenOf v n := by
  rcases h with ⟨rfl, rfl⟩ | ⟨b, o, m, rfl, h2, _⟩
  · rcases Nat.mul_eq_zero.1 (show n * z = 0 from hn) with rfl | rfl
    · exact .nils
    · omega
  · have : m = n := Nat.eq_of_mul_eq_mul_right hz (by rw [h2, hn])
    subst this
    exact .sl

def cInts (l : List Int) : List AV := l.map (AV.int .i64)
def cRng (p : Int × Int) : List AV := [.int .i64 p.1, .int .i64 p.2]
def cRngs (l : List (Int × Int)) : List AV := l.flatMap cRng
def cBools (l : List Bool) : List AV := l.map AV.bool
def Ints (H : AH) (v : AV) (l : List Int) : Prop := At H v 1 (cInts l)
def Rngs (H : AH) (v : AV) (l : List (Int × Int)) : Prop := At H v 2 (cRngs l)
def Vals (H : AH) (v : AV) (l : List AV) : Prop := At H v 1 l
def Bools (H : AH) (v : AV) (l : List Bool) : Prop := At H v 1 (cBools l)
@[simp] theorem cInts_length (l : List Int) : (cInts l).length = l.length := by simp [cInts]
@[simp] theorem cBools_length (l : List Bool) : (cBools l).length = l.length := by simp [cBools]
@[simp] theorem cRngs_length (l : List (Int × Int)) : (cRngs l).length = l.length * 2 := by
  unfold cRngs
  induction l with
  | nil => rfl
  | cons a l ih => simp only [List.flatMap_cons, List.length_append, ih, List.length_cons, cRng, List.length_nil]; omega
theorem cRngs_get : ∀ (l : List (Int × Int)) (m : Nat), m < l.length → (cRngs l)[m * 2]? = some (.int .i64 (l.getD m (0, 0)).1) ∧ (cRngs l)[m * 2 + 1]? = some (.int .i64 (l.getD m (0, 0)).2)
  | [], _, h => by simp at h
  | a :: l, 0, _ => by simp [cRngs, cRng]
  | a :: l, m + 1, h => by
    have := cRngs_get l m (by simpa using h)
    simp only [cRngs, List.flatMap_cons, cRng] at this ⊢
    constructor
    · rw [show (m + 1) * 2 = m * 2 + 1 + 1 by omega]; simpa using this.1
    · rw [show (m + 1) * 2 + 1 = m * 2 + 1 + 1 + 1 by omega]; simpa using this.2
theorem Ints.mono {H H' : AH} {v : AV} {l : List Int} (h : Ints H v l) (hs : H.Sub H') : Ints H' v l := At.mono h hs
theorem Rngs.mono {H H' : AH} {v : AV} {l : List (Int × Int)} (h : Rngs H v l) (hs : H.Sub H') : Rngs H' v l := At.mono h hs
theorem Vals.mono {H H' : AH} {v : AV} {l : List AV} (h : Vals H v l) (hs : H.Sub H') : Vals H' v l := At.mono h hs
theorem Bools.mono {H H' : AH} {v : AV} {l : List Bool} (h : Bools H v l) (hs : H.Sub H') : Bools H' v l := At.mono h hs
theorem Ints.len {H : AH} {v : AV} {l : List Int} (h : Ints H v l) : LenOf v l.length := At.len h (by omega) (by simp)
theorem Rngs.len {H : AH} {v : AV} {l : List (Int × Int)} (h : Rngs H v l) : LenOf v l.length := At.len h (by omega) (by simp)
theorem Vals.len {H : AH} {v : AV} {l : List AV} (h : Vals H v l) : LenOf v l.length := At.len h (by omega) (by simp)
theorem Bools.len {H : AH} {v : AV} {l : List Bool} (h : Bools H v l) : LenOf v l.length := At.len h (by omega) (by simp)
theorem Ints.nils (H : AH) : Ints H .nils [] := At.nils H 1
theorem Rngs.nils (H : AH) : Rngs H .nils [] := At.nils H 2
theorem Vals.nils (H : AH) : Vals H .nils [] := At.nils H 1
theorem Bools.nils (H : AH) : Bools H .nils [] := At.nils H 1

/-- The place of an element. -/
theorem At.elem {H : AH} {v : AV} {z : Nat} {cs : List AV} {m : Nat} (h : At H v z cs) (hm : m * z + z ≤ cs.length) (hz : 0 < z) :
    ∃ b o n, v = .sl b o n z ∧ m < n ∧ Cells H b (o + m * z) ((cs.drop (m * z)).take z) := by
  rcases h with ⟨rfl, rfl⟩ | ⟨b, o, n, rfl, h2, vs, w, h3, h5, h4⟩
  · simp at hm; omega
  · refine ⟨b, o, n, rfl, ?_, vs, w, h3, ?_, fun k hk => ?_⟩
    · rcases Nat.lt_or_ge m n with c | c
      · exact c
      · have := Nat.mul_le_mul_right z c; omega
    · simp only [List.length_take, List.length_drop]; omega
    · simp only [List.length_take, List.length_drop] at hk
      rw [List.getElem?_take_of_lt (by omega), List.getElem?_drop, ← h4 _ (by omega)]
      congr 1
      omega

section
variable {T : Tab} {fn : FuncId} {e : Env} {H : AH} {Q : Out → Env → AH → Prop} {R : Env → AH → Prop} {d : Nat} {l : List AItem}

theorem wI_lenSl {x : AX} {v : AV} {n : Nat} (hx : X e x v) (hn : LenOf v n) (h : wpI T l ((d, .int .i64 n) :: e) H R) : wpI T (.ins ⟨some d, .lenSl x, none⟩ :: l) e H R := by
  refine wI (v := .int .i64 n) (H' := H) ?_ h
  cases hn <;> simp [AOp.eval, AOp.mk, AOp.ev1, hx.eq]
theorem wI_ix {z : Nat} {x i : AX} {v : AV} {cs : List AV} {k : IntKind} {j : Int} {m : Nat} (hx : X e x v) (hA : At H v z cs) (hi : X e i (.int k j)) (hj : j = m) (hm : m * z + z ≤ cs.length) (hz : 0 < z)
    (h : ∀ b o, Cells H b o ((cs.drop (m * z)).take z) → wpI T l ((d, .ptr b o) :: e) H R) : wpI T (.ins ⟨some d, .indexAddrS z x i, none⟩ :: l) e H R := by
  obtain ⟨b, o, n, rfl, hmn, hc⟩ := hA.elem hm hz
  exact wI_indexAddrS hx hi hj hmn (h b _ hc)
theorem wI_ixInts {x i : AX} {v : AV} {cs : List Int} {k : IntKind} {j : Int} {m : Nat} (hx : X e x v) (hA : Ints H v cs) (hi : X e i (.int k j)) (hj : j = m) (hm : m < cs.length)
    (h : ∀ b o, Cells H b o [.int .i64 (cs.getD m 0)] → wpI T l ((d, .ptr b o) :: e) H R) : wpI T (.ins ⟨some d, .indexAddrS 1 x i, none⟩ :: l) e H R := by
  refine wI_ix hx hA hi hj (by simp; omega) (by omega) fun b o hc => h b o ?_
  have : ((cInts cs).drop (m * 1)).take 1 = [.int .i64 (cs.getD m 0)] := by
    unfold cInts
    rw [List.take_one, List.head?_drop]
    simp [hm]
  rw [← this]; exact hc
theorem wI_ixBools {x i : AX} {v : AV} {cs : List Bool} {k : IntKind} {j : Int} {m : Nat} (hx : X e x v) (hA : Bools H v cs) (hi : X e i (.int k j)) (hj : j = m) (hm : m < cs.length)
    (h : ∀ b o, Cells H b o [.bool (cs.getD m false)] → wpI T l ((d, .ptr b o) :: e) H R) : wpI T (.ins ⟨some d, .indexAddrS 1 x i, none⟩ :: l) e H R := by
  refine wI_ix hx hA hi hj (by simp; omega) (by omega) fun b o hc => h b o ?_
  have : ((cBools cs).drop (m * 1)).take 1 = [.bool (cs.getD m false)] := by
    unfold cBools
    rw [List.take_one, List.head?_drop]
    simp [hm]
  rw [← this]; exact hc
theorem wI_ixVals {x i : AX} {v : AV} {cs : List AV} {k : IntKind} {j : Int} {m : Nat} (hx : X e x v) (hA : Vals H v cs) (hi : X e i (.int k j)) (hj : j = m) (hm : m < cs.length)
    (h : ∀ b o, Cells H b o [cs.getD m .junk] → wpI T l ((d, .ptr b o) :: e) H R) : wpI T (.ins ⟨some d, .indexAddrS 1 x i, none⟩ :: l) e H R := by
  refine wI_ix hx hA hi hj (by simp; omega) (by omega) fun b o hc => h b o ?_
  have : (cs.drop (m * 1)).take 1 = [cs.getD m .junk] := by
    rw [List.take_one, List.head?_drop]
    simp [hm]
  rw [← this]; exact hc
theorem wI_ixRngs {x i : AX} {v : AV} {cs : List (Int × Int)} {k : IntKind} {j : Int} {m : Nat} (hx : X e x v) (hA : Rngs H v cs) (hi : X e i (.int k j)) (hj : j = m) (hm : m < cs.length)
    (h : ∀ b o, Cells H b o [.int .i64 (cs.getD m (0, 0)).1, .int .i64 (cs.getD m (0, 0)).2] → wpI T l ((d, .ptr b o) :: e) H R) : wpI T (.ins ⟨some d, .indexAddrS 2 x i, none⟩ :: l) e H R := by
  refine wI_ix hx hA hi hj (by simp; omega) (by omega) fun b o hc => h b o ?_
  have : ((cRngs cs).drop (m * 2)).take 2 = [.int .i64 (cs.getD m (0, 0)).1, .int .i64 (cs.getD m (0, 0)).2] := by
    obtain ⟨h1, h2⟩ := cRngs_get cs m hm
    apply List.ext_getElem?
    intro i
    match i with
    | 0 => rw [List.getElem?_take_of_lt (by omega), List.getElem?_drop]; simpa using h1
    | 1 => rw [List.getElem?_take_of_lt (by omega), List.getElem?_drop]; simpa using h2
    | i + 2 => rw [List.getElem?_eq_none (by simp; omega)]; simp
  rw [← this]; exact hc
theorem wI_ldc1 (k : Nat) {x : AX} {b o : Nat} {cs : List AV} {v : AV} (hx : X e x (.ptr b (o + k))) (hc : Cells H b o cs) (hv : cs[k]? = some v) (h : wpI T l ((d, v) :: e) H R) : wpI T (.ins ⟨some d, .load .one x, none⟩ :: l) e H R := by
  obtain ⟨vs, w, h1, _, h2⟩ := hc
  refine wI_load1 hx h1 ?_ h
  rw [h2 k (by rcases Nat.lt_or_ge k cs.length with c | c; exact c; rw [List.getElem?_eq_none c] at hv; cases hv), hv]
theorem wI_ldcN {n : Nat} {x : AX} {b o : Nat} {cs : List AV} (hx : X e x (.ptr b o)) (hc : Cells H b o cs) (hn : cs.length = n) (h : wpI T l ((d, .agg cs) :: e) H R) : wpI T (.ins ⟨some d, .load (.many n) x, none⟩ :: l) e H R := by
  obtain ⟨vs, w, h1, hlen', h2⟩ := hc
  have hlen : o + n ≤ vs.length := by omega
  refine wI_loadN hx h1 hlen ?_ h
  apply List.ext_getElem?
  intro i
  rcases Nat.lt_or_ge i n with c | c
  · rw [List.getElem?_take_of_lt c, List.getElem?_drop, h2 i (by omega)]
  · rw [List.getElem?_eq_none (by simp; omega), List.getElem?_eq_none (by omega)]

theorem wI_max2 {x y : AX} {k : IntKind} {a b : Int} (hx : X e x (.int k a)) (hy : X e y (.int k b)) (h : wpI T l ((d, .int k (if b > a then b else a)) :: e) H R) : wpI T (.ins ⟨some d, .maxOf [x, y], none⟩ :: l) e H R := by
  refine wI (v := .int k (if b > a then b else a)) (H' := H) ?_ h
  simp [AOp.eval, AOp.mk, AOp.ev1, hx.eq, hy.eq, maxes, max2]

/-- What is kept. -/
def Kp (keep : List Nat) (P : Env → AH → Prop) : Env → AH → Prop := fun e H => P (e.only (some keep)) H
theorem wC_ops {it : List AItem} {keep : List Nat} (h : wpI T it e H (Kp keep (Q .normal))) : wpC T fn (.ops it (some keep)) e H Q := wpC_ops h
theorem wI_end {keep : List Nat} {P : Env → AH → Prop} {e' : Env} (ho : Only e keep e') (h : P e' H) : wpI T [] e H (Kp keep P) := wpI_nil (by unfold Kp; rw [ho.eq]; exact h)

def LQ (N : Env → AH → Prop) (Q : Out → Env → AH → Prop) : Out → Env → AH → Prop := fun o e H => match o with
  | .normal => N e H
  | o => Q o e H
theorem wC_loop {α : Type} (env : α → Env) (P : α → AH → Prop) (μ : α → Nat) (a0 : α) {b : ACode} {keep : List Nat} (ho : Only e keep (env a0)) (h0 : P a0 H)
    (step : ∀ a H, P a H → wpC T fn b (env a) H (LQ (fun e' H' => ∃ a', Only e' keep (env a') ∧ P a' H' ∧ μ a' < μ a) Q)) : wpC T fn (.loop b (some keep)) e H Q := by
  refine wpC_loop (fun m e H => ∃ a, e = env a ∧ P a H ∧ m = μ a) (fun m e H ⟨a, h1, h2, h3⟩ => ?_) (μ a0) e H ⟨a0, ho.eq, h0, rfl⟩
  subst h1 h3
  refine wpC_mono (step a H h2) fun o e' H' h => ?_
  cases o with
  | normal =>
    obtain ⟨a', h4, h5, h6⟩ := h
    exact ⟨μ a', h6, a', h4.eq, h5, rfl⟩
  | exit id => exact h
  | ret => exact h

structure FQ (res : List ARes) (S : AV → AH → Prop) (o : Out) (e : Env) (H : AH) : Prop where
  no : ∀ id, o ≠ .exit id
  vs : ∃ vs, resVals e H res = some vs ∧ S (resOf vs) H
def Ext (G : FuncId → Option AFn) (T : Tab) : Prop := ∀ f af, G f = some af → T.prim f = none ∧ T.fns f = some af
theorem wF {G : FuncId → Option AFn} (hT : Ext G T) {f : FuncId} {cap args : List AV} {af : AFn} {S : AV → AH → Prop} (hf : G f = some af) (h : wpC T f af.body (argEnv 0 (args ++ cap)) H (FQ af.res S)) : wpF T (.fn f cap) args H S := by
  obtain ⟨h1, h2⟩ := hT f af hf
  exact wpF_fn h1 h2 (wpC_mono h fun o e' H' k => ⟨k.no, k.vs⟩)
variable {S : AV → AH → Prop}
theorem ret0 : S (.tup []) H → FQ [] S .ret e H := fun h => ⟨fun _ c => (by cases c), [], rfl, h⟩
theorem ret1 {t : Nat} {v : AV} (h : Lk e t v) (k : S v H) : FQ [.tmp t] S .ret e H := ⟨fun _ c => (by cases c), [v], by simp [resVals, h.eq], k⟩
theorem ret2 {t u : Nat} {v w : AV} (h : Lk e t v) (h2 : Lk e u w) (k : S (.tup [v, w]) H) : FQ [.tmp t, .tmp u] S .ret e H := ⟨fun _ c => (by cases c), [v, w], by simp [resVals, h.eq, h2.eq], k⟩
theorem retC {t n b o : Nat} {vs cs : List AV} {w : Bool} (h : Lk e t (.ptr b o)) (hb : H.get b = some (.cells vs w)) (hn : o + n ≤ vs.length) (hc : (vs.drop o).take n = cs) (k : S (.agg cs) H) : FQ [.cell t (.many n)] S .ret e H :=
  ⟨fun _ c => (by cases c), [.agg cs], by simp [resVals, h.eq, AH.loadSh, AH.cells, hb, hn, hc], k⟩
theorem nret0 : S (.tup []) H → FQ [] S .normal e H := fun h => ⟨fun _ c => (by cases c), [], rfl, h⟩

theorem wI_gdT {d : Option Nat} {op : AOp} {t : Nat} {b : Bool} (hg : Lk e t (.bool b)) (h1 : b = true → wpI T (.ins ⟨d, op, none⟩ :: l) e H R) (h2 : b = false → wpI T l (e.put d (.tup [])) H R) : wpI T (.ins ⟨d, op, some (t, true)⟩ :: l) e H R :=
  wI_gd hg h1 fun h => h2 (by cases b <;> simp_all)
theorem wI_gdF {d : Option Nat} {op : AOp} {t : Nat} {b : Bool} (hg : Lk e t (.bool b)) (h1 : b = false → wpI T (.ins ⟨d, op, none⟩ :: l) e H R) (h2 : b = true → wpI T l (e.put d (.tup [])) H R) : wpI T (.ins ⟨d, op, some (t, false)⟩ :: l) e H R :=
  wI_gd hg h1 fun h => h2 (by cases b <;> simp_all)
theorem wC_condT {x : AX} {a b : ACode} {t : Bool} (hx : X e x (.bool t)) (ht : t = true) (h : wpC T fn a e H Q) : wpC T fn (.cond x a b) e H Q :=
  wC_cond hx (fun _ => h) (fun h => by rw [ht] at h; cases h)
theorem wC_condF {x : AX} {a b : ACode} {t : Bool} (hx : X e x (.bool t)) (ht : t = false) (h : wpC T fn b e H Q) : wpC T fn (.cond x a b) e H Q :=
  wC_cond hx (fun h => by rw [ht] at h; cases h) (fun _ => h)
/-- An operation asked again. -/
theorem wI_chk {op : AOp} {v : AV} (hd : Lk e d v) (ha : op.again e H v = true) (h : wpI T l e H R) : wpI T (.chk ⟨some d, op, none⟩ :: l) e H R := by
  obtain ⟨n, e', H2, h1, h2⟩ := h
  exact ⟨n + 1, e', H2, by rw [run]; simp [wanted, hd.eq, ha, h1], h2⟩
theorem LenOf.same {v : AV} {n : Nat} (h : LenOf v n) : AV.same v v = true := by
  cases h <;> simp [AV.same]
theorem same_int (k : IntKind) (n : Int) : AV.same (.int k n) (.int k n) = true := by simp [AV.same]
theorem same_bool (b : Bool) : AV.same (.bool b) (.bool b) = true := by simp [AV.same]
theorem same_str (s : List UInt8) : AV.same (.str s) (.str s) = true := by simp [AV.same]
theorem same_ptr (b o : Nat) : AV.same (.ptr b o) (.ptr b o) = true := by simp [AV.same]
theorem same_map (b : Nat) : AV.same (.map b) (.map b) = true := by simp [AV.same]
theorem wI_chkLoad1 {x : AX} {b o : Nat} {vs : List AV} {w : Bool} {v : AV} (hd : Lk e d v) (hx : X e x (.ptr b o)) (hb : H.get b = some (.cells vs w)) (hv : vs[o]? = some v) (hs : AV.same v v = true) (h : wpI T l e H R) :
    wpI T (.chk ⟨some d, .load .one x, none⟩ :: l) e H R := by
  refine wI_chk hd ?_ h
  simp [AOp.again, AOp.mk, AOp.ev1, hx.eq, AH.loadSh, AH.cells, hb, hv, hs]
theorem wI_chkLoadN {x : AX} {b o n : Nat} {vs cs : List AV} {w : Bool} (hd : Lk e d (.agg cs)) (hx : X e x (.ptr b o)) (hb : H.get b = some (.cells vs w)) (hn : o + n ≤ vs.length) (hc : (vs.drop o).take n = cs) (hs : AV.sames cs cs = true) (h : wpI T l e H R) :
    wpI T (.chk ⟨some d, .load (.many n) x, none⟩ :: l) e H R := by
  refine wI_chk hd ?_ h
  simp [AOp.again, AOp.mk, AOp.ev1, hx.eq, AH.loadSh, AH.cells, hb, hn, hc, hs, AV.same]
theorem wI_chkldc1 (k : Nat) {x : AX} {b o : Nat} {cs : List AV} {v : AV} (hd : Lk e d v) (hx : X e x (.ptr b (o + k))) (hc : Cells H b o cs) (hv : cs[k]? = some v) (hs : AV.same v v = true) (h : wpI T l e H R) :
    wpI T (.chk ⟨some d, .load .one x, none⟩ :: l) e H R := by
  obtain ⟨vs, w, h1, _, h2⟩ := hc
  exact wI_chkLoad1 hd hx h1 (by rw [h2 k (by rcases Nat.lt_or_ge k cs.length with c | c; exact c; rw [List.getElem?_eq_none c] at hv; cases hv), hv]) hs h
theorem wI_chkldcN {n : Nat} {x : AX} {b o : Nat} {cs : List AV} (hd : Lk e d (.agg cs)) (hx : X e x (.ptr b o)) (hc : Cells H b o cs) (hn : cs.length = n) (hs : AV.sames cs cs = true) (h : wpI T l e H R) :
    wpI T (.chk ⟨some d, .load (.many n) x, none⟩ :: l) e H R := by
  obtain ⟨vs, w, h1, hlen, h2⟩ := hc
  have hl : (vs.drop o).take n = cs := by
    apply List.ext_getElem?
    intro i
    rcases Nat.lt_or_ge i n with c | c
    · rw [List.getElem?_take_of_lt c, List.getElem?_drop, h2 i (by omega)]
    · rw [List.getElem?_eq_none (by simp; omega), List.getElem?_eq_none (by omega)]
  exact wI_chkLoadN hd hx h1 (by omega) hl hs h
theorem wI_chkyes {d : Option Nat} {op : AOp} {t : Nat} {w b : Bool} (hg : Lk e t (.bool b)) (hb : b = w) (h : wpI T (.chk ⟨d, op, none⟩ :: l) e H R) : wpI T (.chk ⟨d, op, some (t, w)⟩ :: l) e H R := by
  obtain ⟨n, e', H2, h1, h2⟩ := h
  cases n with
  | zero => simp [run] at h1
  | succ n =>
    refine ⟨n + 1, e', H2, ?_, h2⟩
    rw [run] at h1 ⊢
    have : wanted (some (t, w)) e = some true := by simp [wanted, hg.eq, hb]
    simp only [this]
    simpa [wanted] using h1
theorem wI_chkno {i : AIns} {t : Nat} {w b : Bool} (hg : Lk e t (.bool b)) (hb : b ≠ w) (hi : i.guard = some (t, w)) (h : wpI T l e H R) : wpI T (.chk i :: l) e H R := by
  obtain ⟨n, e', H2, h1, h2⟩ := h
  refine ⟨n + 1, e', H2, ?_, h2⟩
  rw [run]
  have : wanted i.guard e = some false := by rw [hi]; simp [wanted, hg.eq, hb]
  simp only [this, h1]
theorem wI_chknone {i : AIns} {t : Nat} {w : Bool} (hg : Lk e t (.tup [])) (hi : i.guard = some (t, w)) (h : wpI T l e H R) : wpI T (.chk i :: l) e H R := by
  obtain ⟨n, e', H2, h1, h2⟩ := h
  refine ⟨n + 1, e', H2, ?_, h2⟩
  rw [run]
  have : wanted i.guard e = some false := by rw [hi]; simp [wanted, hg.eq]
  simp only [this, h1]

/-! ### appending -/
/-- A slice of the call's own that ends where its block ends. -/
def OwnS (H : AH) (v : AV) (z : Nat) (cs : List AV) : Prop :=
  (v = .nils ∧ cs = []) ∨ ∃ b o n vs, v = .sl b o n z ∧ H.get b = some (.cells vs true) ∧ o + n * z = vs.length ∧ vs.drop o = cs
def AV.blocks : AV → List Nat
  | .sl b _ _ _ => [b]
  | _ => []
theorem OwnS.nils (H : AH) (z : Nat) : OwnS H .nils z [] := .inl ⟨rfl, rfl⟩
theorem OwnS.at {H : AH} {v : AV} {z : Nat} {cs : List AV} (h : OwnS H v z cs) : At H v z cs := by
  rcases h with h | ⟨b, o, n, vs, rfl, h2, h3, rfl⟩
  · exact .inl h
  · exact .inr ⟨b, o, n, rfl, by simp; omega, vs, true, h2, by simp; omega, fun k _ => by rw [List.getElem?_drop]⟩
theorem OwnS.len {H : AH} {v : AV} {z : Nat} {cs : List AV} {n : Nat} (h : OwnS H v z cs) (hz : 0 < z) (hn : n * z = cs.length) : LenOf v n := h.at.len hz hn
theorem OwnS.keep {H H' : AH} {v : AV} {z : Nat} {cs : List AV} (h : OwnS H v z cs) (k : ∀ b x, b ∈ v.blocks → H.get b = some x → H'.get b = some x) : OwnS H' v z cs := by
  rcases h with h | ⟨b, o, n, vs, rfl, h2, h3⟩
  · exact .inl h
  · exact .inr ⟨b, o, n, vs, rfl, k b _ (by simp [AV.blocks]) h2, h3⟩
theorem OwnS.lt {H : AH} {v : AV} {z : Nat} {cs : List AV} (h : OwnS H v z cs) {b : Nat} (hb : b ∈ v.blocks) : b < H.next := by
  rcases h with ⟨rfl, _⟩ | ⟨b', o, n, vs, rfl, h2, h3⟩
  · simp [AV.blocks] at hb
  · simp [AV.blocks] at hb; subst hb; exact AH.get_lt h2
theorem OwnS.new {b n z : Nat} {cs : List AV} {H : AH} (hn : n * z = cs.length) (h : H.get b = some (.cells cs true)) : OwnS H (.sl b 0 n z) z cs :=
  .inr ⟨b, 0, n, cs, rfl, h, by omega, rfl⟩

theorem srcCells_of_at {v : AV} {z : Nat} {cs : List AV} (h : At H v z cs) : srcCells H z v = some cs ∧ (0 < z → srcLen v * z = cs.length) := by
  rcases h with ⟨rfl, rfl⟩ | ⟨b, o, n, rfl, h2, vs, w, h3, h5, h4⟩
  · simp [srcCells, srcLen]
  · have hl : o + n * z ≤ vs.length := by omega
    refine ⟨?_, fun _ => by simpa [srcLen] using h2⟩
    simp only [srcCells, AH.cells, h3, hl, and_self, if_true]
    congr 1
    apply List.ext_getElem?
    intro i
    rcases Nat.lt_or_ge i (n * z) with c | c
    · rw [List.getElem?_take_of_lt c, List.getElem?_drop, h4 i (by omega)]
    · rw [List.getElem?_eq_none (by simp; omega), List.getElem?_eq_none (by omega)]
end

/-! ### layouts, by their text -/
inductive LayR : List AV → Nat → List AV → List AV → Prop
  | nil {vs : List AV} : LayR vs 0 [] vs
  | here {a c : AV} {vs cs vs' : List AV} : LayR vs 0 cs vs' → LayR (a :: vs) 0 (c :: cs) (c :: vs')
  | there {a : AV} {vs cs vs' : List AV} {o : Nat} : LayR vs o cs vs' → LayR (a :: vs) (o + 1) cs (a :: vs')
theorem LayR.eq {vs cs vs' : List AV} {o : Nat} (h : LayR vs o cs vs') : lay vs o cs = some vs' := by
  have key : o + cs.length ≤ vs.length ∧ vs.take o ++ cs ++ vs.drop (o + cs.length) = vs' := by
    induction h with
    | nil => simp
    | here _ ih => simp only [List.length_cons, List.take_zero, List.nil_append, Nat.zero_add] at ih ⊢; exact ⟨by omega, by simp [ih.2]⟩
    | there _ ih => simp only [List.length_cons]; exact ⟨by omega, by rw [show ∀ a b, a + 1 + b = a + b + 1 by omega]; simp only [List.take_succ_cons, List.drop_succ_cons, List.cons_append]; rw [ih.2]⟩
  unfold lay
  rw [if_pos key.1, key.2]
inductive TakeR : List AV → Nat → Nat → List AV → Prop
  | nil {vs : List AV} : TakeR vs 0 0 []
  | here {a : AV} {vs cs : List AV} {n : Nat} : TakeR vs 0 n cs → TakeR (a :: vs) 0 (n + 1) (a :: cs)
  | there {a : AV} {vs cs : List AV} {o n : Nat} : TakeR vs o n cs → TakeR (a :: vs) (o + 1) n cs
theorem TakeR.eq {vs cs : List AV} {o n : Nat} (h : TakeR vs o n cs) : o + n ≤ vs.length ∧ (vs.drop o).take n = cs := by
  induction h with
  | nil => simp
  | here _ ih => simp only [List.length_cons, List.drop_zero, List.take_succ_cons, Nat.zero_add] at ih ⊢; exact ⟨by omega, by simp [ih.2]⟩
  | there _ ih => simp only [List.length_cons, List.drop_succ_cons]; exact ⟨by omega, ih.2⟩
inductive BuildR (e : Env) (z : Nat) : List AV → List (Nat × AX) → List AV → Prop
  | nil {vs : List AV} : BuildR e z vs [] vs
  | one {vs vs' cs : List AV} {o : Nat} {x : AX} {v : AV} {ps : List (Nat × AX)} : X e x v → v.one = true → z = 1 → LayR vs (o * z) [v] vs' → BuildR e z vs' ps cs → BuildR e z vs ((o, x) :: ps) cs
  | agg {vs vs' cs us : List AV} {o : Nat} {x : AX} {ps : List (Nat × AX)} : X e x (.agg us) → us.all AV.one = true → us.length = z → LayR vs (o * z) us vs' → BuildR e z vs' ps cs → BuildR e z vs ((o, x) :: ps) cs
theorem cells_one {v : AV} (h : v.one = true) : v.cells = [v] := by cases v <;> simp_all [AV.one, AV.cells]
theorem BuildR.eq {e : Env} {z : Nat} {vs cs : List AV} {ps : List (Nat × AX)} (h : BuildR e z vs ps cs) :
    ps.all (fun p => decide ((p.2.ev e).cells.length = z) && (p.2.ev e).cells.all AV.one) = true ∧ layAll vs (ps.map fun p => (p.1 * z, (p.2.ev e).cells)) = some cs := by
  induction h with
  | nil => simp [layAll]
  | one h1 h2 h3 h4 _ ih =>
    subst h3
    constructor
    · rw [List.all_cons, ih.1]; simp [h1.eq, cells_one h2, h2]
    · simp only [List.map_cons, layAll, h1.eq, cells_one h2, h4.eq]; exact ih.2
  | agg h1 h2 h3 h4 _ ih =>
    constructor
    · rw [List.all_cons, ih.1]; simp only [h1.eq, AV.cells, h2, h3]; simp
    · simp only [List.map_cons, layAll, h1.eq, AV.cells, h4.eq]; exact ih.2
inductive BuildS (e : Env) : List AV → List (Nat × Nat × AX) → List AV → Prop
  | nil {vs : List AV} : BuildS e vs [] vs
  | one {vs vs' cs : List AV} {o : Nat} {x : AX} {v : AV} {ps : List (Nat × Nat × AX)} : X e x v → v.one = true → LayR vs o [v] vs' → BuildS e vs' ps cs → BuildS e vs ((o, 1, x) :: ps) cs
  | agg {vs vs' cs us : List AV} {o z : Nat} {x : AX} {ps : List (Nat × Nat × AX)} : X e x (.agg us) → us.all AV.one = true → us.length = z → LayR vs o us vs' → BuildS e vs' ps cs → BuildS e vs ((o, z, x) :: ps) cs
theorem BuildS.eq {e : Env} {vs cs : List AV} {ps : List (Nat × Nat × AX)} (h : BuildS e vs ps cs) :
    ps.all (fun p => decide ((p.2.2.ev e).cells.length = p.2.1) && (p.2.2.ev e).cells.all AV.one) = true ∧ layAll vs (ps.map fun p => (p.1, (p.2.2.ev e).cells)) = some cs := by
  induction h with
  | nil => simp [layAll]
  | one h1 h2 h4 _ ih =>
    constructor
    · rw [List.all_cons, ih.1]; simp [h1.eq, cells_one h2, h2]
    · simp only [List.map_cons, layAll, h1.eq, cells_one h2, h4.eq]; exact ih.2
  | agg h1 h2 h3 h4 _ ih =>
    constructor
    · rw [List.all_cons, ih.1]; simp only [h1.eq, AV.cells, h2, h3]; simp
    · simp only [List.map_cons, layAll, h1.eq, AV.cells, h4.eq]; exact ih.2
section
variable {T : Tab} {fn : FuncId} {e : Env} {H : AH} {Q : Out → Env → AH → Prop} {R : Env → AH → Prop} {d : Nat} {l : List AItem}
theorem wI_build {z cs : List AV} {ps : List (Nat × Nat × AX)} (hb : BuildS e z ps cs) (h : wpI T l ((d, .agg cs) :: e) H R) : wpI T (.ins ⟨some d, .build z ps, none⟩ :: l) e H R := by
  refine wI (v := .agg cs) (H' := H) ?_ h
  obtain ⟨h1, h2⟩ := hb.eq
  simp only [AOp.eval, AOp.mk, AOp.ev1, h1, h2, if_true]
theorem wI_buildSlice {zs cs : List AV} {z len : Nat} {ps : List (Nat × AX)} (hb : BuildR e z zs ps cs) (h : wpI T l ((d, .sl H.next 0 len z) :: e) (H.new (.cells cs true)) R) : wpI T (.ins ⟨some d, .buildSlice zs z len ps, none⟩ :: l) e H R := by
  refine wI (v := .sl H.next 0 len z) (H' := H.new (.cells cs true)) ?_ h
  obtain ⟨h1, h2⟩ := hb.eq
  simp only [AOp.eval, AOp.mk, h1, h2, if_true]
theorem wI_store1 {a x : AX} {b o : Nat} {vs vs' : List AV} {v : AV} (ha : X e a (.ptr b o)) (hx : X e x v) (hb : H.get b = some (.cells vs true)) (ho : v.one = true) (hl : LayR vs o [v] vs')
    (h : wpI T l e (H.put b (.cells vs' true)) R) : wpI T (.ins ⟨none, .store 1 a x, none⟩ :: l) e H R :=
  wI_store ha hx hb (cells_one ho) rfl (by simp [ho]) hl.eq h
theorem wI_storeA {n : Nat} {a x : AX} {b o : Nat} {vs vs' cs : List AV} (ha : X e a (.ptr b o)) (hx : X e x (.agg cs)) (hb : H.get b = some (.cells vs true)) (hn : cs.length = n) (ho : cs.all AV.one = true) (hl : LayR vs o cs vs')
    (h : wpI T l e (H.put b (.cells vs' true)) R) : wpI T (.ins ⟨none, .store n a x, none⟩ :: l) e H R :=
  wI_store ha hx hb rfl hn ho hl.eq h
theorem wI_loadT {x : AX} {b o n : Nat} {vs cs : List AV} {w : Bool} (hx : X e x (.ptr b o)) (hb : H.get b = some (.cells vs w)) (ht : TakeR vs o n cs) (h : wpI T l ((d, .agg cs) :: e) H R) :
    wpI T (.ins ⟨some d, .load (.many n) x, none⟩ :: l) e H R := wI_loadN hx hb ht.eq.1 ht.eq.2 h
theorem wI_fieldT {off n : Nat} {x : AX} {cs ds : List AV} (hx : X e x (.agg cs)) (ht : TakeR cs off n ds) (h : wpI T l ((d, .agg ds) :: e) H R) : wpI T (.ins ⟨some d, .field (.many n) off x, none⟩ :: l) e H R := wI_fieldN hx ht.eq.1 ht.eq.2 h
theorem wI_chkLoadT {x : AX} {b o n : Nat} {vs cs : List AV} {w : Bool} (hd : Lk e d (.agg cs)) (hx : X e x (.ptr b o)) (hb : H.get b = some (.cells vs w)) (ht : TakeR vs o n cs) (hs : AV.sames cs cs = true) (h : wpI T l e H R) :
    wpI T (.chk ⟨some d, .load (.many n) x, none⟩ :: l) e H R := wI_chkLoadN hd hx hb ht.eq.1 ht.eq.2 hs h
theorem retT {res : Nat} {n b o : Nat} {vs cs : List AV} {w : Bool} {S : AV → AH → Prop} (h : Lk e res (.ptr b o)) (hb : H.get b = some (.cells vs w)) (ht : TakeR vs o n cs) (k : S (.agg cs) H) : FQ [.cell res (.many n)] S .ret e H := retC h hb ht.eq.1 ht.eq.2 k

/-- Appending to a slice of the call's own. -/
theorem wI_append {z bytes : Nat} {a b : AX} {u v : AV} {cs ds : List AV} {m k : Nat} (ha : X e a u) (hu : OwnS H u z cs) (hb : X e b v) (hv : At H v z ds) (hone : ds.all AV.one = true) (hz : 0 < z) (hm : m * z = cs.length) (hk : k * z = ds.length)
    (hr : m + k ≤ room ∧ (m + k) * bytes ≤ room)
    (h : ∀ u' H', OwnS H' u' z (cs ++ ds) → (∀ c, c ∈ u'.blocks → c ∈ u.blocks ∨ c = H.next) → AH.SubX u.blocks H H' → wpI T l ((d, u') :: e) H' R) : wpI T (.ins ⟨some d, .append z bytes a b, none⟩ :: l) e H R := by
  obtain ⟨h1, h2⟩ := srcCells_of_at hv
  have h2 := h2 hz
  have hsl : srcLen v = k := Nat.eq_of_mul_eq_mul_right hz (by rw [h2, hk])
  have hop : ∃ u' H', AOp.ev1 (.append z bytes a b) e H = some (u', H') ∧ OwnS H' u' z (cs ++ ds) ∧ (∀ c, c ∈ u'.blocks → c ∈ u.blocks ∨ c = H.next) ∧ AH.SubX u.blocks H H' := by
    simp only [AOp.ev1, hb.eq, h1, hsl, hz, if_true, ha.eq]
    rcases hu with ⟨rfl, rfl⟩ | ⟨bb, o, n, vs, rfl, g1, g2, rfl⟩
    · by_cases h0 : k = 0
      · subst h0
        have : ds = [] := by apply List.eq_nil_of_length_eq_zero; omega
        subst this
        exact ⟨.nils, H, by simp, OwnS.nils _ _, fun c hc => by simp [AV.blocks] at hc, AH.SubX.refl _ _⟩
      · have hm0 : m = 0 := by
          rcases Nat.mul_eq_zero.1 (show m * z = 0 from hm) with c | c
          · exact c
          · omega
        subst hm0
        simp only [h0, if_false]
        rw [if_pos (by simpa using hr)]
        refine ⟨_, _, rfl, .inr ⟨_, 0, k, ds, rfl, AH.get_new_self, by omega, by simp⟩, fun c hc => .inr (by simpa [AV.blocks] using hc), (AH.SubX.refl _ _).new _⟩
    · have hmn : m = n := by
        refine Nat.eq_of_mul_eq_mul_right hz ?_
        rw [hm]; simp; omega
      subst hmn
      by_cases h0 : k = 0
      · subst h0
        have : ds = [] := by apply List.eq_nil_of_length_eq_zero; omega
        subst this
        simp only [if_true]
        exact ⟨_, _, rfl, .inr ⟨bb, o, m, vs, rfl, g1, g2, by simp⟩, fun c hc => .inl hc, AH.SubX.refl _ _⟩
      · simp only [h0, if_false, g1]
        rw [if_pos ⟨trivial, g2, hr.1, hr.2, hone⟩]
        refine ⟨_, _, rfl, .inr ⟨_, 0, m + k, _, rfl, AH.get_new_self, ?_, by simp⟩, fun c hc => .inr (by simpa [AV.blocks] using hc), ?_⟩
        · simp only [List.length_append, List.length_drop] at hm ⊢
          rw [Nat.add_mul]; omega
        · exact ((AH.SubX.refl _ _).put (.inl (by simp [AV.blocks])) _).new _
  obtain ⟨u', H', h3, h4, h5, h6⟩ := hop
  refine wI (v := u') (H' := H') ?_ (h u' H' h4 h5 h6)
  simp only [AOp.eval, AOp.mk, h3]

/-- Arithmetic of unsigned words, of which only the bounds are kept. -/
theorem wI_u64 {op : BinOp} {x y : AX} {a b : Int} (hx : X e x (.int .u64 a)) (hy : X e y (.int .u64 b)) (hop : op = .add ∨ op = .mul ∨ op = .xor) (h : ∀ c, 0 ≤ c ∧ c ≤ 18446744073709551615 → wpI T l ((d, .int .u64 c) :: e) H R) :
    wpI T (.ins ⟨some d, .bin op x y, none⟩ :: l) e H R := by
  rcases hop with rfl | rfl | rfl
  · exact wI_add hx hy rfl (h _ (wrap_u64_range _))
  · exact wI_mul hx hy rfl (h _ (wrap_u64_range _))
  · exact wI_ar hx hy (by simp) rfl (h _ (wrap_u64_range _))
theorem wI_shr {x y : AX} {k j : IntKind} {a b c : Int} (hx : X e x (.int k a)) (hy : X e y (.int j b)) (hb : 0 ≤ b) (hc : a.fdiv (2 ^ (min b.toNat k.bits)) = c) (h : wpI T l ((d, .int k c) :: e) H R) :
    wpI T (.ins ⟨some d, .bin .shr x y, none⟩ :: l) e H R := by
  refine wI_bin hx hy ?_ h
  have : ¬ b < 0 := by omega
  simp only [binAny, this, if_false, hc]
end
theorem AH.Sub.transX {A B C : AH} {bs : List Nat} (h : A.Sub B) (k : AH.SubX bs B C) (hb : ∀ b, b ∈ bs → A.next ≤ b) : A.Sub C :=
  ⟨Nat.le_trans h.next k.next, fun b x hb' hx => k.get b x (fun hm => by have := hb b hm; omega) (h.get' hx)⟩
theorem AH.Sub.toX {A B C : AH} {bs : List Nat} (h : A.Sub B) (k : AH.SubX bs B C) : AH.SubX bs A C :=
  ⟨Nat.le_trans h.next k.next, fun b x hb' hx => k.get b x hb' (h.get' hx)⟩
theorem AH.SubX.transS {A B C : AH} {bs : List Nat} (h : AH.SubX bs A B) (k : B.Sub C) : AH.SubX bs A C :=
  ⟨Nat.le_trans h.next k.next, fun b x hb' hx => k.get' (h.get b x hb' hx)⟩
theorem AH.SubX.transW {A B C : AH} {bs cs : List Nat} (h : AH.SubX bs A B) (k : AH.SubX cs B C) (hc : ∀ b, b ∈ cs → b ∈ bs ∨ A.next ≤ b) : AH.SubX bs A C :=
  ⟨Nat.le_trans h.next k.next, fun b x hb' hx => k.get b x (fun hm => by
    rcases hc b hm with c | c
    · exact hb' c
    · have := AH.get_lt hx; omega) (h.get b x hb' hx)⟩
/-- Dice. -/
def DiceAt (H : AH) (d : Nat) : Prop := ∃ w : Int, H.get d = some (.cells [.int .u64 w] true) ∧ 0 ≤ w ∧ w ≤ 18446744073709551615
theorem DiceAt.lt {H : AH} {d : Nat} (h : DiceAt H d) : d < H.next := by obtain ⟨w, h, _⟩ := h; exact AH.get_lt h
theorem DiceAt.keep {H H' : AH} {d : Nat} (h : DiceAt H d) (k : ∀ x, H.get d = some x → H'.get d = some x) : DiceAt H' d := by
  obtain ⟨w, h, hw⟩ := h
  exact ⟨w, k _ h, hw⟩

/-! ### what the walks ask again and again -/
section
theorem aLE {p : Prop} (h : p := by (first | exact Nat.le_refl _ | exact Nat.ne_of_lt (AH.get_lt (by assumption)) | ((try simp only [AH.next_new, AH.next_put] at *); omega))) : p := h
theorem aSUB {p : Prop} (h : p := by (repeat (first | assumption | exact AH.Sub.refl _ | refine AH.Sub.new' ?_ _ | refine AH.Sub.put ?_ aLE _ | refine AH.Sub.trans ?_ (by assumption) | refine AH.Sub.transX ?_ (by assumption) (by simp only [List.mem_cons, List.not_mem_nil, or_false, forall_eq_or_imp, forall_eq]; exact aLE)))) : p := h
theorem aNOTIN {p : Prop} (h : p := by (simp only [List.mem_cons, List.not_mem_nil, or_false, not_or, not_false_eq_true]; exact aLE)) : p := h
theorem aGET {p : Prop} (h : p := by (repeat (first | assumption | exact AH.get_new_self | exact AH.get_put_self aLE | refine AH.get_new_old ?_ | refine AH.get_put_old aLE ?_ | refine AH.Sub.get' (by assumption) ?_ | refine AH.SubX.get (by assumption) _ _ aNOTIN ?_))) : p := h
theorem aLEN {p : Prop} (h : p := by (first | assumption | exact LenOf.nils | exact LenOf.sl | exact Ints.len (by assumption) | exact Rngs.len (by assumption) | exact Vals.len (by assumption) | exact Bools.len (by assumption))) : p := h
theorem aONE {p : Prop} (h : p := by (first | rfl | assumption | exact LenOf.one aLEN)) : p := h
theorem aBOX {p : Prop} (h : p := by (first | rfl | (simp only [AV.cells, List.all_cons, List.all_nil, Bool.and_true, Bool.and_eq_true, AV.one, and_self, true_and, and_true] <;> (repeat (first | refine ⟨?_, ?_⟩ | exact aONE))))) : p := h
theorem aATI {p : Prop} (h : p := by (first | assumption | exact Ints.mono (by assumption) aSUB | exact Rngs.mono (by assumption) aSUB | exact Vals.mono (by assumption) aSUB | exact Bools.mono (by assumption) aSUB)) : p := h
theorem aSAME1 {p : Prop} (h : p := by (first | rfl | exact same_int _ _ | exact same_bool _ | exact same_str _ | exact same_ptr _ _ | exact same_map _ | exact LenOf.same aLEN)) : p := h
theorem aSAME {p : Prop} (h : p := by (first | exact aSAME1 | (simp only [AV.sames, Bool.and_true, Bool.and_eq_true, Bool.true_and]; (repeat (first | refine ⟨?_, ?_⟩ | exact aSAME1))))) : p := h
theorem aRC {p : Prop} (h : p := by repeat constructor) : p := h
theorem aOM {p : Prop} (h : p := by omega) : p := h
theorem aSIMPL {p : Prop} (h : p := by (first | assumption | (simp only [decide_eq_true_eq, decide_eq_false_iff_not] at *; first | assumption | omega))) : p := h
theorem aSUBX {p : Prop} (h : p := by (repeat (first | assumption | exact AH.SubX.refl _ _ | refine AH.SubX.new ?_ _ | refine AH.SubX.put ?_ (.inl (.head _)) _ | refine AH.SubX.put ?_ (.inl (.tail _ (.head _))) _ | refine AH.SubX.put ?_ (.inr aLE) _ | refine AH.SubX.transS ?_ (by assumption) | refine AH.SubX.trans ?_ (by assumption)))) : p := h
end
end Am

namespace Am
open Go
section
variable {T : Tab} {fn : FuncId} {e : Env} {H : AH} {Q : Out → Env → AH → Prop}

/-- Ranging over a function. -/
theorem wpC_rangeFunc {f : AX} {ps : List Nat} {asg body : ACode} {g : AV} (hf : X e f g)
    (h : wpF T g [.yield H.next] (H.new (.loop ⟨.ready, none, fn, e, ps, asg, body⟩)) fun _ H' => ∃ r, H'.get H.next = some (.loop r) ∧ r.state ≠ .busy ∧
      (match r.pending with
      | none => Q .normal e (H'.put H.next (.loop { r with state := .over }))
      | some o => Q o e (H'.put H.next (.loop { r with state := .over })))) : wpC T fn (.rangeFunc f ps asg body) e H Q := by
  obtain ⟨n, v, H', h1, r, h2, h3, h4⟩ := h
  cases hp : r.pending with
  | none =>
    rw [hp] at h4
    exact ⟨n + 1, .normal, e, _, by rw [run]; simp only [hf.eq, h1, h2, h3, if_false, hp], h4⟩
  | some o =>
    rw [hp] at h4
    exact ⟨n + 1, o, e, _, by rw [run]; simp only [hf.eq, h1, h2, h3, if_false, hp], h4⟩

/-- The loop's body, called by who yields. -/
theorem wpF_yield {l : Nat} {ps : List Nat} {asg body : ACode} {args : List AV} {e0 e1 : Env} {S : AV → AH → Prop} (hl : H.get l = some (.loop ⟨.ready, none, fn, e, ps, asg, body⟩)) (hp : setParams e ps args = some e0)
    (ha : wpC T fn asg e0 H fun o e' H' => o = .normal ∧ e' = e1 ∧ H' = H)
    (hb : wpC T fn body e1 (H.put l (.loop ⟨.busy, none, fn, e, ps, asg, body⟩)) fun o _ H2 => H2.get l = some (.loop ⟨.busy, none, fn, e, ps, asg, body⟩) ∧
      (match o with
      | .normal => S (.bool true) (H2.put l (.loop ⟨.ready, none, fn, e, ps, asg, body⟩))
      | o => S (.bool false) (H2.put l (.loop ⟨.done, some o, fn, e, ps, asg, body⟩)))) : wpF T (.yield l) args H S := by
  obtain ⟨n, o, e', H1, h1, rfl, rfl, rfl⟩ := ha
  obtain ⟨m, o2, e2, H2, h2, h3, h4⟩ := hb
  have r1 := run_le T (Nat.le_max_left n m) h1
  have r2 := run_le T (Nat.le_max_right n m) h2
  cases o2 with
  | normal =>
    refine ⟨max n m + 1, .bool true, _, ?_, h4⟩
    rw [run]
    simp only [hl, if_true, hp, r1, r2, h3]
  | exit id =>
    refine ⟨max n m + 1, .bool false, _, ?_, h4⟩
    rw [run]
    simp only [hl, if_true, hp, r1, r2, h3]
  | ret =>
    refine ⟨max n m + 1, .bool false, _, ?_, h4⟩
    rw [run]
    simp only [hl, if_true, hp, r1, r2, h3]
end

/-! ### sets in words of 32 bits -/
theorem u32_small {n : Nat} (h : n < 4294967296) : IntKind.u32.wrap (n : Int) = n := IntWalk.u32_in n (by omega)
theorem u32_ofInt {n : Nat} : BitVec.ofInt 32 (n : Int) = BitVec.ofNat 32 n := by
  simp
theorem u32_and {a b : Nat} (ha : a < 4294967296) (hb : b < 4294967296) : binInt .and .u32 (a : Int) (b : Int) = some (.int .u32 ((a &&& b : Nat) : Int)) := by
  have h : ((BitVec.ofInt 32 (a : Int)) &&& (BitVec.ofInt 32 (b : Int))).toNat = a &&& b := by
    rw [u32_ofInt, u32_ofInt, BitVec.toNat_and, BitVec.toNat_ofNat, BitVec.toNat_ofNat, Nat.mod_eq_of_lt (by omega), Nat.mod_eq_of_lt (by omega)]
  show some (AV.int .u32 (IntKind.u32.wrap (((BitVec.ofInt 32 (a : Int)) &&& (BitVec.ofInt 32 (b : Int))).toNat : Int))) = _
  rw [h, u32_small (Nat.lt_of_le_of_lt Nat.and_le_left ha)]
theorem u32_or {a b : Nat} (ha : a < 4294967296) (hb : b < 4294967296) : binInt .or .u32 (a : Int) (b : Int) = some (.int .u32 ((a ||| b : Nat) : Int)) := by
  have h : ((BitVec.ofInt 32 (a : Int)) ||| (BitVec.ofInt 32 (b : Int))).toNat = a ||| b := by
    rw [u32_ofInt, u32_ofInt, BitVec.toNat_or, BitVec.toNat_ofNat, BitVec.toNat_ofNat, Nat.mod_eq_of_lt (by omega), Nat.mod_eq_of_lt (by omega)]
  show some (AV.int .u32 (IntKind.u32.wrap (((BitVec.ofInt 32 (a : Int)) ||| (BitVec.ofInt 32 (b : Int))).toNat : Int))) = _
  rw [h, u32_small (Nat.or_lt_two_pow (n := 32) ha hb)]
/-- a without b. -/
def sdiff (a b : Nat) : Nat := (BitVec.ofNat 32 a &&& ~~~BitVec.ofNat 32 b).toNat
theorem sdiff_lt (a b : Nat) : sdiff a b < 4294967296 := BitVec.isLt _
theorem sdiff_testBit {a b : Nat} (ha : a < 4294967296) (i : Nat) : (sdiff a b).testBit i = (a.testBit i && !b.testBit i) := by
  unfold sdiff
  rw [BitVec.testBit_toNat, BitVec.getLsbD_and, BitVec.getLsbD_not, BitVec.getLsbD_ofNat, BitVec.getLsbD_ofNat]
  rcases Nat.lt_or_ge i 32 with c | c
  · simp [c]
  · have : a.testBit i = false := Nat.testBit_lt_two_pow (Nat.lt_of_lt_of_le ha (show 2 ^ 32 ≤ 2 ^ _ from Nat.pow_le_pow_right (by decide) c))
    simp [this]
theorem u32_andNot {a b : Nat} : binInt .andNot .u32 (a : Int) (b : Int) = some (.int .u32 (sdiff a b : Nat)) := by
  have h : ((BitVec.ofInt 32 (a : Int)) &&& ~~~(BitVec.ofInt 32 (b : Int))).toNat = sdiff a b := by
    rw [u32_ofInt, u32_ofInt]; rfl
  show some (AV.int .u32 (IntKind.u32.wrap (((BitVec.ofInt 32 (a : Int)) &&& ~~~(BitVec.ofInt 32 (b : Int))).toNat : Int))) = _
  rw [h, u32_small (sdiff_lt a b)]
section
variable {T : Tab} {e : Env} {H : AH} {R : Env → AH → Prop} {d : Nat} {l : List AItem} {x y : AX} {a b : Nat}
theorem wI_sand (hx : X e x (.int .u32 a)) (hy : X e y (.int .u32 b)) (ha : a < 4294967296) (hb : b < 4294967296) (h : wpI T l ((d, .int .u32 (a &&& b : Nat)) :: e) H R) : wpI T (.ins ⟨some d, .bin .and x y, none⟩ :: l) e H R :=
  wI_ar hx hy (by simp) (u32_and ha hb) h
theorem wI_sor (hx : X e x (.int .u32 a)) (hy : X e y (.int .u32 b)) (ha : a < 4294967296) (hb : b < 4294967296) (h : wpI T l ((d, .int .u32 (a ||| b : Nat)) :: e) H R) : wpI T (.ins ⟨some d, .bin .or x y, none⟩ :: l) e H R :=
  wI_ar hx hy (by simp) (u32_or ha hb) h
theorem wI_sdiff (hx : X e x (.int .u32 a)) (hy : X e y (.int .u32 b)) (h : wpI T l ((d, .int .u32 (sdiff a b : Nat)) :: e) H R) : wpI T (.ins ⟨some d, .bin .andNot x y, none⟩ :: l) e H R :=
  wI_ar hx hy (by simp) u32_andNot h
/-- 1 << i. -/
theorem wI_bit {i : Nat} (hy : X e y (.int .i64 i)) (hi : i < 32) (h : wpI T l ((d, .int .u32 (2 ^ i : Nat)) :: e) H R) : wpI T (.ins ⟨some d, .bin .shl (.c (.int .u32 1)) y, none⟩ :: l) e H R := by
  refine wI_bin .c hy ?_ h
  have h2 : (1 : Int) * 2 ^ (min (Int.toNat (i : Int)) 32) = ((2 ^ i : Nat) : Int) := by
    rw [Int.toNat_natCast, Nat.min_eq_left (by omega)]; simp
  simp only [binAny, show ¬ ((i : Int) < 0) by omega, if_false, IntKind.bits, h2]
  rw [u32_small (show 2 ^ i < 4294967296 from Nat.pow_lt_pow_right (by decide) hi)]
/-- s >> i. -/
theorem wI_sshr {i : Nat} (hx : X e x (.int .u32 a)) (hy : X e y (.int .i64 i)) (h : wpI T l ((d, .int .u32 (a >>> min i 32 : Nat)) :: e) H R) : wpI T (.ins ⟨some d, .bin .shr x y, none⟩ :: l) e H R := by
  refine wI_bin hx hy ?_ h
  have h2 : (a : Int).fdiv (2 ^ (min (Int.toNat (i : Int)) 32)) = ((a >>> min i 32 : Nat) : Int) := by
    rw [Int.toNat_natCast, Nat.shiftRight_eq_div_pow]
    have : (2 : Int) ^ (min i 32) = ((2 ^ (min i 32) : Nat) : Int) := by simp
    rw [this, Int.fdiv_eq_ediv_of_nonneg _ (Int.natCast_nonneg _)]
    rfl
  simp only [binAny, show ¬ ((i : Int) < 0) by omega, if_false, IntKind.bits, h2]
end
def cSets (l : List Nat) : List AV := l.map fun (s : Nat) => AV.int .u32 (s : Int)
@[simp] theorem cSets_length (l : List Nat) : (cSets l).length = l.length := by simp [cSets]
def Sets (H : AH) (v : AV) (l : List Nat) : Prop := At H v 1 (cSets l)
theorem Sets.mono {H H' : AH} {v : AV} {l : List Nat} (h : Sets H v l) (hs : H.Sub H') : Sets H' v l := At.mono h hs
theorem Sets.len {H : AH} {v : AV} {l : List Nat} (h : Sets H v l) : LenOf v l.length := At.len h (by omega) (by simp)
theorem cSets_snoc (l : List Nat) (z : Nat) : cSets l ++ [.int .u32 z] = cSets (l ++ [z]) := by simp [cSets]
theorem wI_ixSets {T : Tab} {e : Env} {H : AH} {R : Env → AH → Prop} {d : Nat} {l : List AItem} {x i : AX} {v : AV} {cs : List Nat} {k : IntKind} {j : Int} {m : Nat} (hx : X e x v) (hA : Sets H v cs) (hi : X e i (.int k j)) (hj : j = m) (hm : m < cs.length)
    (h : ∀ b o, Cells H b o [.int .u32 (cs.getD m 0 : Nat)] → wpI T l ((d, .ptr b o) :: e) H R) : wpI T (.ins ⟨some d, .indexAddrS 1 x i, none⟩ :: l) e H R := by
  refine wI_ix hx hA hi hj (by simp; omega) (by omega) fun b o hc => h b o ?_
  have : ((cSets cs).drop (m * 1)).take 1 = [.int .u32 (cs.getD m 0 : Nat)] := by
    unfold cSets
    rw [List.take_one, List.head?_drop]
    simp [hm]
  rw [← this]; exact hc
theorem lay_set {vs : List AV} {m : Nat} {v : AV} (h : m < vs.length) : lay vs m [v] = some (vs.set m v) := by
  unfold lay
  rw [if_pos (by simp; omega)]
  congr 1
  rw [List.set_eq_take_append_cons_drop, if_pos h]
  simp
section
variable {T : Tab} {e : Env} {H : AH} {R : Env → AH → Prop} {d : Nat} {l : List AItem} {a x : AX} {b m : Nat}
theorem wI_setBools {cs : List Bool} {t : Bool} (ha : X e a (.ptr b (0 + m * 1))) (hx : X e x (.bool t)) (hb : H.get b = some (.cells (cBools cs) true)) (hm : m < cs.length) (h : wpI T l e (H.put b (.cells (cBools (cs.set m t)) true)) R) :
    wpI T (.ins ⟨none, .store 1 a x, none⟩ :: l) e H R := by
  refine wI_store ha hx hb rfl rfl rfl ?_ h
  rw [Nat.zero_add, Nat.mul_one]
  exact (lay_set (by simpa using hm)).trans (by simp [cBools, List.map_set])
theorem wI_setInts {cs : List Int} {t : Int} (ha : X e a (.ptr b (0 + m * 1))) (hx : X e x (.int .i64 t)) (hb : H.get b = some (.cells (cInts cs) true)) (hm : m < cs.length) (h : wpI T l e (H.put b (.cells (cInts (cs.set m t)) true)) R) :
    wpI T (.ins ⟨none, .store 1 a x, none⟩ :: l) e H R := by
  refine wI_store ha hx hb rfl rfl rfl ?_ h
  rw [Nat.zero_add, Nat.mul_one]
  exact (lay_set (by simpa using hm)).trans (by simp [cInts, List.map_set])
theorem wI_setVals {cs : List AV} {t : AV} (ha : X e a (.ptr b (0 + m * 1))) (hx : X e x t) (ho : t.one = true) (hb : H.get b = some (.cells cs true)) (hm : m < cs.length) (h : wpI T l e (H.put b (.cells (cs.set m t) true)) R) :
    wpI T (.ins ⟨none, .store 1 a x, none⟩ :: l) e H R := by
  refine wI_store ha hx hb (cells_one ho) rfl (by simp [ho]) ?_ h
  rw [Nat.zero_add, Nat.mul_one]
  exact lay_set hm
end
theorem repl_bools (n : Nat) : repl n [.bool false] = cBools (List.replicate n false) := by
  unfold repl cBools
  induction n with
  | zero => rfl
  | succ n ih => simp only [List.replicate_succ, List.flatten_cons, ih, List.map_cons]; rfl
theorem repl_ints (n : Nat) (z : Int) : repl n [.int .i64 z] = cInts (List.replicate n z) := by
  unfold repl cInts
  induction n with
  | zero => rfl
  | succ n ih => simp only [List.replicate_succ, List.flatten_cons, ih, List.map_cons]; rfl
theorem shr_pos {a i : Nat} (ha : a < 4294967296) (h : a >>> min i 32 = 0) : ∀ j, i ≤ j → a.testBit j = false := by
  intro j hj
  rcases Nat.lt_or_ge j 32 with c | c
  · have h1 : (a >>> i).testBit (j - i) = a.testBit (i + (j - i)) := Nat.testBit_shiftRight ..
    rw [Nat.min_eq_left (by omega)] at h
    rw [h, show i + (j - i) = j by omega] at h1
    rw [← h1]; simp
  · exact Nat.testBit_lt_two_pow (Nat.lt_of_lt_of_le ha (show 2 ^ 32 ≤ 2 ^ _ from Nat.pow_le_pow_right (by decide) c))
theorem nat_zero_of {n : Nat} (h : ¬ (0 : Int) < (n : Int)) : n = 0 := by omega
theorem shr_lt {a i : Nat} (ha : a < 4294967296) (h : (0 : Int) < ((a >>> min i 32 : Nat) : Int)) : i < 32 := by
  rcases Nat.lt_or_ge i 32 with c | c
  · exact c
  · rw [Nat.min_eq_right c, Nat.shiftRight_eq_div_pow, Nat.div_eq_of_lt (show a < 2 ^ 32 from ha)] at h
    simp at h
theorem has_eq {a i : Nat} (ha : a < 4294967296) : decide (((a >>> min i 32 &&& 1 : Nat) : Int) = 1) = a.testBit i := by
  rcases Nat.lt_or_ge i 32 with c | c
  · rw [Nat.min_eq_left (by omega), Nat.testBit, Nat.and_comm 1]
    have : a >>> i &&& 1 = 0 ∨ a >>> i &&& 1 = 1 := by
      have := Nat.and_le_right (n := a >>> i) (m := 1); omega
    rcases this with h | h <;> simp [h]
  · have h1 : a.testBit i = false := Nat.testBit_lt_two_pow (Nat.lt_of_lt_of_le ha (show 2 ^ 32 ≤ 2 ^ _ from Nat.pow_le_pow_right (by decide) c))
    rw [h1, Nat.min_eq_right c, Nat.shiftRight_eq_div_pow, Nat.div_eq_of_lt ha]
    simp
end Am
