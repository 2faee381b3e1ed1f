/- A part of the proof: AmD. It holds for whatever its statements name; no condition beyond theirs. -/
import Derived.Test.YtllbpnmhoblkgaaDoorAmA
import Derived.Lib.Bytealg
import Derived.Test.YtllbpnmhoblkgaaDoorAmC
import Derived.Lib.AppendIntMem
import Derived.Lib.ItoaNum
import Derived.Lib.LaidTab
import Derived.WalkSmall
namespace Am
open Go
def decF : Nat → Nat → List UInt8
  | 0, _ => []
  | f + 1, u => if u < 10 then [UInt8.ofNat (48 + u)] else decF f (u / 10) ++ [UInt8.ofNat (48 + u % 10)]
def pItoa : List AV → Option AV
  | [.int .i64 n] => if 0 ≤ n ∧ n < 1000000000000000000 then some (.str (decF 20 n.toNat)) else none
  | _ => none
def pIndexRune : List AV → Option AV
  | [.str s, .int .i32 c] => if 0 ≤ c ∧ c < 128 then some (.int .i64 (Lib.indexByte s c.toNat.toUInt8)) else none
  | _ => none
def pContains : List AV → Option AV
  | [.str s, .str [c]] => some (.bool (decide (0 ≤ Lib.indexByte s c)))
  | _ => none
def pAwake : List AV → Option AV
  | [] => some (.bool true)
  | _ => none
end Am

namespace Am
open Go Go.RowKit

/-- The abstract code of a function, and the function. -/
def FnOk (P : Program) (f : FuncId) (af : AFn) : Prop :=
  ∃ fn c, P.funcs[f]? = some fn ∧ fn.body = some c ∧ (fn.name == "runtime.NumGoroutine") = false ∧ CodeR P fn.ntmps af.body c ∧ ResR P af.res fn.results.toList

/-- A function that is taken by its contract. -/
def PrimOk (P : Program) (B0 : Nat) (stab : World → Prop) (f : FuncId) (g : List AV → Option AV) : Prop :=
  (∃ fn, P.funcs[f]? = some fn ∧ fn.body.isSome = true ∧ (fn.name == "runtime.NumGoroutine") = false) ∧
  ∀ μ args vals v w, g args = some v → VRs μ args vals → stab w → B0 ≤ w.heap.size → ∃ v', VR μ v v' ∧ Calls P f vals.toArray w fun e w' => e = .returned v' ∧ Below w.heap.size w w'

def ambOf {P : Program} {T : Tab} (B0 : Nat) (stab : World → Prop)
    (keep : ∀ w w', stab w → (∀ k, k < B0 → w'.heap[k]? = w.heap[k]?) → stab w')
    (fn : ∀ f af, T.fns f = some af → FnOk P f af) (prim : ∀ f g, T.prim f = some g → PrimOk P B0 stab f g) : Amb P T where
  B0 := B0
  stab := stab
  keep := fun w w' h k _ _ _ => keep w w' h k
  fn := fun f af _ h => fn f af h
  prim := prim

/-- The table that Itoa reads. -/
def Tab10 (P : Program) (w : World) : Prop := Lib.TabIs P w "internal/strconv.uint64pow10" .u64 Lib.pow10Tab
theorem tab10_keep {P : Program} {g : Nat} (hg : P.globalNamed "internal/strconv.uint64pow10" = some g) (w w' : World) (h : Tab10 P w) (hk : ∀ k, k < g + 1 → w'.heap[k]? = w.heap[k]?) : Tab10 P w' := by
  unfold Tab10 Lib.TabIs World.var? at *
  rw [hg] at h ⊢
  simp only [Option.bind_some] at h ⊢
  rw [hk g (by omega)]
  exact h

theorem decF_eq : ∀ (f u : Nat), u < 10 ^ (f + 1) → decF (f + 1) u = Lib.decDigits u
  | f, u, h => by
    rw [Lib.decDigits]
    unfold decF
    split
    · rfl
    · cases f with
      | zero => omega
      | succ f => rw [decF_eq f (u / 10) (by rw [Nat.pow_succ] at h; omega)]

theorem itoa_prim {P : Program} {f : FuncId} {B0 : Nat} (hf : ∃ fn, P.funcs[f]? = some fn ∧ fn.body.isSome = true ∧ (fn.name == "runtime.NumGoroutine") = false)
    (h : ∀ n : Int, -9223372036854775808 ≤ n → n ≤ 9223372036854775807 → ∀ (w : World), Lib.TabIs P w "internal/strconv.uint64pow10" .u64 Lib.pow10Tab →
      Calls P f #[.int .i64 n] w fun e w' => e = .returned (.string ⟨(Lib.itoa n).toArray⟩) ∧ ∃ k os, w' = «Sort».grow (w.drewN k) os) : PrimOk P B0 (Tab10 P) f pItoa := by
  refine ⟨hf, fun μ args vals v w hg hv hs _ => ?_⟩
  unfold pItoa at hg
  split at hg
  case h_2 => cases hg
  rename_i n
  split at hg
  case isFalse => cases hg
  rename_i hn
  cases hg
  cases hv with
  | cons _ v l r h1 h2 =>
  cases h2
  rw [vr_int h1]
  refine ⟨_, .str _, (h n (by omega) (by omega) w hs).mono fun e w' ⟨he, k, os, hw⟩ => ⟨?_, ?_⟩⟩
  · rw [he, decF_eq 19 n.toNat (by omega)]
    simp [Lib.itoa, show ¬ n < 0 by omega]
  · rw [hw]; exact Lib.below_grow _ w (Nat.le_refl _) k os

theorem indexRune_prim {P : Program} {f : FuncId} {B0 : Nat} {stab : World → Prop} (hf : ∃ fn, P.funcs[f]? = some fn ∧ fn.body.isSome = true ∧ (fn.name == "runtime.NumGoroutine") = false)
    (h : ∀ (s : ByteArray) (r : Int) (w : World), 0 ≤ r → r < 128 → Calls P f #[.string s, .int .i32 r] w fun e w' => e = .returned (.int .i64 (Lib.indexByte s.data.toList r.toNat.toUInt8)) ∧ w' = w) : PrimOk P B0 stab f pIndexRune := by
  refine ⟨hf, fun μ args vals v w hg hv hs _ => ?_⟩
  unfold pIndexRune at hg
  split at hg
  case h_2 => cases hg
  rename_i s c
  split at hg
  case isFalse => cases hg
  rename_i hn
  cases hg
  cases hv with
  | cons _ v l r h1 h2 =>
  cases h2 with
  | cons _ v2 l r h3 h4 =>
  cases h4
  rw [vr_int h3, vr_str h1]
  refine ⟨_, .int _ _, (h ⟨⟨s⟩⟩ c w hn.1 hn.2).mono fun e w' ⟨he, hw⟩ => ⟨he, by rw [hw]; exact Below.refl _ _⟩⟩

theorem contains_prim {P : Program} {f : FuncId} {B0 : Nat} {stab : World → Prop} (hf : ∃ fn, P.funcs[f]? = some fn ∧ fn.body.isSome = true ∧ (fn.name == "runtime.NumGoroutine") = false)
    (h : ∀ (s : ByteArray) (c : UInt8) (w : World), Calls P f #[.string s, .string { data := #[c] }] w fun e w' => e = .returned (.bool (decide (0 ≤ Lib.indexByte s.data.toList c))) ∧ w' = w) : PrimOk P B0 stab f pContains := by
  refine ⟨hf, fun μ args vals v w hg hv hs _ => ?_⟩
  unfold pContains at hg
  split at hg
  case h_2 => cases hg
  rename_i s c
  cases hg
  cases hv with
  | cons _ v l r h1 h2 =>
  cases h2 with
  | cons _ v2 l r h3 h4 =>
  cases h4
  rw [vr_str h3, vr_str h1]
  refine ⟨_, .bool _, (h ⟨⟨s⟩⟩ c w).mono fun e w' ⟨he, hw⟩ => ⟨he, by rw [hw]; exact Below.refl _ _⟩⟩

/-- A closed call. -/
theorem calls_closed {P : Program} {T : Tab} (A : Amb P T) {n : Nat} {f : FuncId} {v : AV} {H' : AH} (hr : run T n (.call (.fn f []) []) { next := 0, t := .nil } = some (.val v, H')) (hp : T.prim f = none) {w : World} (hs : A.stab w) (hB : A.B0 ≤ w.heap.size) :
    Calls P f #[] w fun e w' => Below w.heap.size w w' ∧ ∃ v' μ', e = .returned v' ∧ VR μ' v v' := by
  have hsim : Sim P (fun _ => .unborn) { next := 0, t := .nil } w := ⟨fun _ _ => rfl, fun _ h => by (cases h), fun _ _ _ _ _ h => by (cases h), fun _ _ h => by (cases h), fun _ _ _ h => by
    rcases h with ⟨_, _, h⟩ | h <;> cases h⟩
  have hown : ∀ B, ¬ Own (fun _ => .unborn) B := fun B ⟨_, h⟩ => by rcases h with ⟨_, _, h⟩ | h <;> cases h
  exact (calls_of_run A hr hsim .nil ⟨hB, hs, fun B _ => hown B⟩ hown hp).mono fun e w' ⟨h1, v', μ', h2, h3, _⟩ => ⟨h1, v', μ', h2, h3⟩
end Am

namespace Am
open Go
section
variable {α : Type}
def fNat (n : Nat) (k : Nat → α) : α := match n with | 0 => k 0 | m + 1 => k (m + 1)
theorem fNat_eq (n : Nat) (k : Nat → α) : fNat n k = k n := by cases n <;> rfl
def fInt (i : Int) (k : Int → α) : α := match i with | .ofNat n => fNat n fun n => k (.ofNat n) | .negSucc n => fNat n fun n => k (.negSucc n)
theorem fInt_eq (i : Int) (k : Int → α) : fInt i k = k i := by cases i <;> simp [fInt, fNat_eq]
def fBool (i : Bool) (k : Bool → α) : α := match i with | true => k true | false => k false
theorem fBool_eq (i : Bool) (k : Bool → α) : fBool i k = k i := by cases i <;> rfl
def fKind (i : IntKind) (k : IntKind → α) : α := match i with | .i8 => k .i8 | .i16 => k .i16 | .i32 => k .i32 | .i64 => k .i64 | .u8 => k .u8 | .u16 => k .u16 | .u32 => k .u32 | .u64 => k .u64
theorem fKind_eq (i : IntKind) (k : IntKind → α) : fKind i k = k i := by cases i <;> rfl
def fSpine {β : Type} : List β → (List β → α) → α
  | [], k => k []
  | a :: l, k => fSpine l fun l => k (a :: l)
theorem fSpine_eq {β : Type} : ∀ (l : List β) (k : List β → α), fSpine l k = k l
  | [], _ => rfl
  | a :: l, k => by simp [fSpine, fSpine_eq l]
mutual
def fAV : AV → (AV → α) → α
  | .junk, k => k .junk
  | .bool b, k => fBool b fun b => k (.bool b)
  | .int i n, k => fKind i fun i => fInt n fun n => k (.int i n)
  | .str s, k => fSpine s fun s => k (.str s)
  | .nilp, k => k .nilp
  | .ptr a b, k => fNat a fun a => fNat b fun b => k (.ptr a b)
  | .nils, k => k .nils
  | .sl a b c d, k => fNat a fun a => fNat b fun b => fNat c fun c => fNat d fun d => k (.sl a b c d)
  | .nilm, k => k .nilm
  | .map a, k => fNat a fun a => k (.map a)
  | .fn f c, k => fNat f fun f => fAVs c fun c => k (.fn f c)
  | .yield a, k => fNat a fun a => k (.yield a)
  | .nilf, k => k .nilf
  | .agg c, k => fAVs c fun c => k (.agg c)
  | .tup c, k => fAVs c fun c => k (.tup c)
def fAVs : List AV → (List AV → α) → α
  | [], k => k []
  | a :: l, k => fAV a fun a => fAVs l fun l => k (a :: l)
end
mutual
theorem fAV_eq : ∀ (v : AV) (k : AV → α), fAV v k = k v
  | .junk, k => rfl
  | .bool b, k => by simp [fAV, fBool_eq]
  | .int i n, k => by simp [fAV, fKind_eq, fInt_eq]
  | .str s, k => by simp [fAV, fSpine_eq]
  | .nilp, k => rfl
  | .ptr a b, k => by simp [fAV, fNat_eq]
  | .nils, k => rfl
  | .sl a b c d, k => by simp [fAV, fNat_eq]
  | .nilm, k => rfl
  | .map a, k => by simp [fAV, fNat_eq]
  | .fn f c, k => by simp [fAV, fNat_eq, fAVs_eq c]
  | .yield a, k => by simp [fAV, fNat_eq]
  | .nilf, k => rfl
  | .agg c, k => by simp [fAV, fAVs_eq c]
  | .tup c, k => by simp [fAV, fAVs_eq c]
theorem fAVs_eq : ∀ (v : List AV) (k : List AV → α), fAVs v k = k v
  | [], _ => rfl
  | a :: l, k => by simp [fAVs, fAV_eq a, fAVs_eq l]
end
def fEs : List (AV × AV × Nat) → (List (AV × AV × Nat) → α) → α
  | [], k => k []
  | (a, b, n) :: l, k => fAV a fun a => fAV b fun b => fNat n fun n => fEs l fun l => k ((a, b, n) :: l)
theorem fEs_eq : ∀ (l : List (AV × AV × Nat)) (k : List (AV × AV × Nat) → α), fEs l k = k l
  | [], _ => rfl
  | (a, b, n) :: l, k => by simp [fEs, fAV_eq, fNat_eq, fEs_eq l]
/-- An environment: the values in it are made already. -/
def fEnv : Env → (Env → α) → α
  | [], k => k []
  | (t, v) :: l, k => fNat t fun t => fAV v fun v => fEnv l fun l => k ((t, v) :: l)
theorem fEnv_eq : ∀ (l : Env) (k : Env → α), fEnv l k = k l
  | [], _ => rfl
  | (t, v) :: l, k => by simp [fEnv, fAV_eq, fNat_eq, fEnv_eq l]
def fOut (o : Out) (k : Out → α) : α := match o with | .normal => k .normal | .exit i => fNat i fun i => k (.exit i) | .ret => k .ret
theorem fOut_eq (o : Out) (k : Out → α) : fOut o k = k o := by cases o <;> simp [fOut, fNat_eq]
def fOO (o : Option Out) (k : Option Out → α) : α := match o with | none => k none | some o => fOut o fun o => k (some o)
theorem fOO_eq (o : Option Out) (k : Option Out → α) : fOO o k = k o := by cases o <;> simp [fOO, fOut_eq]
def fSt (o : LState) (k : LState → α) : α := match o with | .ready => k .ready | .busy => k .busy | .done => k .done | .over => k .over
theorem fSt_eq (o : LState) (k : LState → α) : fSt o k = k o := by cases o <;> rfl
def fBlk : Blk → (Blk → α) → α
  | .cells vs b, k => fAVs vs fun vs => fBool b fun b => k (.cells vs b)
  | .map es c, k => fEs es fun es => fNat c fun c => k (.map es c)
  | .iter s p, k => fSpine s fun s => fNat p fun p => k (.iter s p)
  | .loop ⟨a, b, c, d, e, f, g⟩, k => fSt a fun a => fOO b fun b => fNat c fun c => fEnv d fun d => fSpine e fun e => k (.loop ⟨a, b, c, d, e, f, g⟩)
  | .dead, k => k .dead
theorem fBlk_eq (x : Blk) (k : Blk → α) : fBlk x k = k x := by
  cases x with
  | loop l => obtain ⟨a, b, c, d, e, f, g⟩ := l; simp [fBlk, fSt_eq, fOO_eq, fNat_eq, fEnv_eq, fSpine_eq]
  | _ => simp [fBlk, fAVs_eq, fBool_eq, fEs_eq, fNat_eq, fSpine_eq]
/-- The way to a block. -/
def fTr : Nat → Tr → Nat → (Tr → α) → α
  | 0, t, _, k => k t
  | _ + 1, .nil, _, k => k .nil
  | f + 1, .node l v r, b, k => bif Nat.beq b 0 then (match v with | some x => fBlk x fun x => k (.node l (some x) r) | none => k (.node l none r))
    else bif Nat.beq (b % 2) 1 then fTr f l (b / 2) fun l => k (.node l v r) else fTr f r (b / 2 - 1) fun r => k (.node l v r)
theorem fTr_eq : ∀ (f : Nat) (t : Tr) (b : Nat) (k : Tr → α), fTr f t b k = k t
  | 0, _, _, _ => rfl
  | _ + 1, .nil, _, _ => rfl
  | f + 1, .node l v r, b, k => by
    unfold fTr
    cases Nat.beq b 0 with
    | true => cases v <;> simp [fBlk_eq]
    | false =>
      cases Nat.beq (b % 2) 1 with
      | true => simp [fTr_eq f]
      | false => simp [fTr_eq f]
def fAH (bs : List Nat) (H : AH) (k : AH → α) : α :=
  match H with
  | ⟨n, t⟩ => fNat n fun n => go bs n t k
where
  go : List Nat → Nat → Tr → (AH → α) → α
    | [], n, t, k => k ⟨n, t⟩
    | b :: bs, n, t, k => fNat b fun b => fTr 40 t b fun t => go bs n t k
theorem fAH_go : ∀ (bs : List Nat) (n : Nat) (t : Tr) (k : AH → α), fAH.go bs n t k = k ⟨n, t⟩
  | [], _, _, _ => rfl
  | b :: bs, n, t, k => by simp [fAH.go, fNat_eq, fTr_eq, fAH_go bs]
theorem fAH_eq (bs : List Nat) (H : AH) (k : AH → α) : fAH bs H k = k H := by
  cases H; simp [fAH, fNat_eq, fAH_go]
end

/-- Which blocks an operation may have turned. -/
def AOp.hint (op : AOp) (e : Env) (H H' : AH) : Option (List Nat) :=
  match op with
  | .store _ a _ => some [(a.ev e).block]
  | .mapUpdate m _ _ | .mapEntry _ m _ | .entryStore m _ _ => some [(m.ev e).block]
  | .nextStr x => some [(x.ev e).block]
  | .append _ _ a _ => some [(a.ev e).block, H'.next - 1]
  | .alloc _ | .box _ | .buildSlice .. | .makeSlice .. | .makeMap | .rangeStr _ => some [H'.next - 1]
  | _ => none
def fOp {α : Type} (op : AOp) (e : Env) (H H' : AH) (k : AH → α) : α :=
  match op.hint e H H' with
  | some bs => fAH bs H' k
  | none => k H'
theorem fOp_eq {α : Type} (op : AOp) (e : Env) (H H' : AH) (k : AH → α) : fOp op e H H' k = k H' := by
  unfold fOp
  split
  · exact fAH_eq ..
  · rfl

/-- 'run', its values made as it goes. -/
def runS (T : Tab) : Nat → Task → AH → Option (Res × AH)
  | 0, _, _ => none
  | n + 1, .items [] e, H => some (.code .normal e, H)
  | n + 1, .items (.chk i :: l) e, H =>
    match wanted i.guard e with
    | some true => (match i.dst with
      | some d => bif i.op.again e H (e.get d) then runS T n (.items l e) H else none
      | none => none)
    | some false => runS T n (.items l e) H
    | none => none
  | n + 1, .items (.ins i :: l) e, H =>
    match wanted i.guard e with
    | some true =>
      (match i.op with
      | .call f args => fAVs (args.map (·.ev e)) fun as =>
        match runS T n (.call (.fn f []) as) H with
        | some (.val v, H') => fAV v fun v => runS T n (.items l (e.put i.dst v)) H'
        | _ => none
      | .callv g args => fAV (g.ev e) fun g => fAVs (args.map (·.ev e)) fun as =>
        match runS T n (.call g as) H with
        | some (.val v, H') => fAV v fun v => runS T n (.items l (e.put i.dst v)) H'
        | _ => none
      | op => match op.eval e H with
        | some (v, H') => fAV v fun v => fOp op e H H' fun H' => runS T n (.items l (e.put i.dst v)) H'
        | none => none)
    | some false => runS T n (.items l (e.put i.dst (.tup []))) H
    | none => none
  | n + 1, .code fn c e, H =>
    match c with
    | .skip => some (.code .normal e, H)
    | .exit id => some (.code (.exit id) e, H)
    | .ret => some (.code .ret e, H)
    | .ops l keep => match runS T n (.items l e) H with
      | some (.code .normal e', H') => fEnv (e'.only keep) fun e' => some (.code .normal e', H')
      | _ => none
    | .seq a b => match runS T n (.code fn a e) H with
      | some (.code .normal e', H') => runS T n (.code fn b e') H'
      | r => r
    | .cond x a b => match x.ev e with
      | .bool t => runS T n (.code fn (bif t then a else b) e) H
      | _ => none
    | .block id b => match runS T n (.code fn b e) H with
      | some (.code (.exit j) e', H') => bif Nat.beq j id then some (.code .normal e', H') else some (.code (.exit j) e', H')
      | r => r
    | .loop b keep => fEnv (e.only keep) fun e => match runS T n (.code fn b e) H with
      | some (.code .normal e', H') => runS T n (.code fn (.loop b keep) e') H'
      | r => r
    | .rangeFunc f ps asg body =>
      let l := H.next
      fAV (f.ev e) fun g => fAH [l] (H.new (.loop { state := .ready, pending := none, fn, env := e, params := ps, assign := asg, body })) fun H1 =>
      match runS T n (.call g [.yield l]) H1 with
      | some (.val _, H') =>
        match H'.get l with
        | some (.loop r) =>
          if r.state = .busy then none else
          match r.pending with
          | none => fAH [l] (H'.put l (.loop { r with state := .over })) fun H2 => some (.code .normal e, H2)
          | some o => fAH [l] (H'.put l (.loop { r with state := .over })) fun H2 => some (.code o e, H2)
        | _ => none
      | _ => none
  | n + 1, .call f args, H =>
    match f with
    | .fn f cap =>
      match T.prim f with
      | some g => match g (args ++ cap) with
        | some v => some (.val v, H)
        | none => none
      | none => match T.fns f with
        | some fn => fEnv (argEnv 0 (args ++ cap)) fun e => match runS T n (.code f fn.body e) H with
          | some (.code (.exit _) _, _) => none
          | some (.code _ e, H') => match resVals e H' fn.res with
            | some vs => fAV (resOf vs) fun v => some (.val v, H')
            | none => none
          | _ => none
        | none => none
    | .yield l =>
      match H.get l with
      | some (.loop r) =>
        if r.state = .ready then
          match setParams r.env r.params args with
          | some e0 => match runS T n (.code r.fn r.assign e0) H with
            | some (.code .normal e1, H1) =>
              match H1.get l with
              | some (.loop r1) =>
                if r1.state = .ready then
                fAH [l] (H1.put l (.loop { r1 with state := .busy })) fun Hb =>
                match runS T n (.code r.fn r.body e1) Hb with
                | some (.code o _, H2) =>
                  match H2.get l with
                  | some (.loop r2) =>
                    match o with
                    | .normal => fAH [l] (H2.put l (.loop { r2 with state := .ready, pending := none })) fun H3 => some (.val (.bool true), H3)
                    | o => fAH [l] (H2.put l (.loop { r2 with state := .done, pending := some o })) fun H3 => some (.val (.bool false), H3)
                  | _ => none
                | _ => none
                else none
              | _ => none
            | _ => none
          | none => none
        else none
      | _ => none
    | _ => none
end Am

namespace Am
open Go
theorem runS_eq (T : Tab) : ∀ (n : Nat) (t : Task) (H : AH), runS T n t H = run T n t H
  | 0, t, H => by rw [runS, run]
  | n + 1, t, H => by
    have ih := runS_eq T n
    cases t with
    | items l e =>
      cases l with
      | nil => rw [runS, run]
      | cons x l =>
        cases x with
        | ins x =>
          rw [runS, run]
          simp only [fAVs_eq, fAV_eq, fOp_eq, ih]
          rfl
        | chk x =>
          rw [runS, run]
          simp only [ih]
          rfl
    | code fn c e =>
      cases c <;> (rw [runS, run]; try simp only [fEnv_eq, fAV_eq, fAH_eq, ih]) <;> first | done | rfl | simp
    | call f args =>
      cases f <;> (rw [runS, run]; try simp only [fEnv_eq, fAV_eq, fAH_eq, ih]) <;> first | done | rfl | simp
end Am
