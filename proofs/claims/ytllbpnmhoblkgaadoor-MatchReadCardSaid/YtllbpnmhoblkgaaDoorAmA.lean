/- An abstract machine for programs of the model: values without capacities, a heap of blocks by identity, code that is read off the program; and the relation between its states and the model's. -/
import Derived.WalkKit
import Derived.RangeFuncRecord
import Derived.RangeFuncIn
namespace Am
open Go

/-- Abstract values: blocks by identity, no capacities. -/
inductive AV where
  | junk
  | bool (b : Bool)
  | int (k : IntKind) (n : Int)
  | str (s : List UInt8)
  | nilp
  | ptr (b o : Nat)
  | nils
  | sl (b o len esz : Nat)
  | nilm
  | map (b : Nat)
  | fn (f : FuncId) (cap : List AV)
  | yield (l : Nat)
  | nilf
  | agg (cs : List AV)
  | tup (vs : List AV)
  deriving Inhabited

mutual
def AV.same : AV → AV → Bool
  | .bool a, .bool b => a == b
  | .int k a, .int j b => decide (k = j) && decide (a = b)
  | .str a, .str b => decide (a = b)
  | .nilp, .nilp => true
  | .ptr a b, .ptr c d => Nat.beq a c && Nat.beq b d
  | .nils, .nils => true
  | .sl a b c d, .sl a' b' c' d' => Nat.beq a a' && Nat.beq b b' && Nat.beq c c' && Nat.beq d d'
  | .nilm, .nilm => true
  | .map a, .map b => Nat.beq a b
  | .fn f a, .fn g b => Nat.beq f g && AV.sames a b
  | .yield a, .yield b => Nat.beq a b
  | .nilf, .nilf => true
  | .agg a, .agg b => AV.sames a b
  | .tup a, .tup b => AV.sames a b
  | _, _ => false
def AV.sames : List AV → List AV → Bool
  | [], [] => true
  | a :: l, b :: r => AV.same a b && AV.sames l r
  | _, _ => false
end

/-- An operand: a slot, or a constant. -/
inductive AX where
  | t (n : Nat)
  | c (v : AV)
  deriving Inhabited

/-- How a value lies in cells: one cell, or an aggregate of so many. -/
inductive Sh where
  | one
  | many (n : Nat)
  deriving Inhabited, DecidableEq
def Sh.size : Sh → Nat | .one => 1 | .many n => n

/-- What kind of cell '==' compares. -/
inductive EK where
  | int | str | bool
  deriving Inhabited, DecidableEq

inductive AOp where
  | mov (x : AX)
  | pick (c a b : AX)
  | alloc (zero : List AV)
  | box (x : AX)
  | build (zero : List AV) (parts : List (Nat × Nat × AX))
  | buildSlice (cells : List AV) (esz len : Nat) (parts : List (Nat × AX))
  | load (s : Sh) (x : AX)
  | store (n : Nat) (a x : AX)
  | nilCheck (x : AX)
  | bin (op : BinOp) (x y : AX)
  | eq1 (k : EK) (neg : Bool) (x y : AX)
  | eqAgg (ks : List EK) (neg : Bool) (x y : AX)
  | un (op : UnOp) (x : AX)
  | convInt (k : IntKind) (x : AX)
  | intToStr (x : AX)
  | bytesToStr (x : AX)
  | sliceSl (esz : Nat) (x : AX) (lo hi : Option AX)
  | sliceStr (x : AX) (lo hi : Option AX)
  | sliceArr (n esz : Nat) (x : AX)
  | arrPtr (n : Nat) (x : AX)
  | fieldAddr (off : Nat) (x : AX)
  | field (s : Sh) (off : Nat) (x : AX)
  | indexAddrS (esz : Nat) (x i : AX)
  | indexAddrA (len esz : Nat) (x i : AX)
  | indexA (len : Nat) (s : Sh) (x i : AX)
  | indexStr (x i : AX)
  | makeSlice (zero : List AV) (bytes : Nat) (l : AX)
  | makeMap
  | makeFn (f : FuncId) (cap : List AX)
  | lookup (zero : AV) (ok : Bool) (x k : AX)
  | mapUpdate (m k v : AX)
  | mapEntry (zero : AV) (m k : AX)
  | entryStore (m s v : AX)
  | rangeStr (x : AX)
  | nextStr (x : AX)
  | extract (x : AX) (i : Nat)
  | lenSl (x : AX)
  | lenStr (x : AX)
  | maxOf (xs : List AX)
  | append (esz bytes : Nat) (a b : AX)
  | call (f : FuncId) (args : List AX)
  | callv (f : AX) (args : List AX)
  deriving Inhabited

structure AIns where
  dst : Option Nat
  op : AOp
  guard : Option (Nat × Bool) := none
  deriving Inhabited

inductive AItem where
  | ins (i : AIns)
  | chk (i : AIns)
  deriving Inhabited

inductive ACode where
  | skip
  | ops (l : List AItem) (keep : Option (List Nat))
  | seq (a b : ACode)
  | cond (c : AX) (thn els : ACode)
  | block (id : Nat) (body : ACode)
  | loop (body : ACode) (keep : Option (List Nat))
  | rangeFunc (f : AX) (params : List Nat) (assign body : ACode)
  | exit (id : Nat)
  | ret
  deriving Inhabited

abbrev Env := List (Nat × AV)
def Env.get : Env → Nat → AV
  | [], _ => .junk
  | (k, v) :: r, t => bif Nat.beq k t then v else Env.get r t
def Env.put (e : Env) (d : Option Nat) (v : AV) : Env :=
  match d with
  | some d => (d, v) :: e
  | none => e
def Env.only (e : Env) : Option (List Nat) → Env
  | none => e
  | some l => l.map fun t => (t, e.get t)
def AX.ev (e : Env) : AX → AV
  | .t n => e.get n
  | .c v => v

inductive Out where
  | normal
  | exit (id : Nat)
  | ret
  deriving Inhabited

inductive LState | ready | busy | done | over
  deriving DecidableEq, Inhabited
structure ALoop where
  state : LState
  pending : Option Out
  fn : FuncId
  env : Env
  params : List Nat
  assign : ACode
  body : ACode
  deriving Inhabited

inductive Blk where
  | cells (vs : List AV) (own : Bool)
  | map (es : List (AV × AV × Nat)) (clock : Nat)
  | iter (s : List UInt8) (pos : Nat)
  | loop (l : ALoop)
  | dead
  deriving Inhabited

inductive Tr where
  | nil
  | node (l : Tr) (v : Option Blk) (r : Tr)
  deriving Inhabited
def Tr.get : Tr → Nat → Option Blk
  | .nil, _ => none
  | .node l v r, k => bif Nat.beq k 0 then v else bif Nat.beq (k % 2) 1 then l.get (k / 2) else r.get (k / 2 - 1)
def Tr.put : Nat → Tr → Nat → Blk → Tr
  | 0, t, _, _ => t
  | f + 1, .nil, k, a => bif Nat.beq k 0 then .node .nil (some a) .nil else bif Nat.beq (k % 2) 1 then .node (Tr.put f .nil (k / 2) a) none .nil else .node .nil none (Tr.put f .nil (k / 2 - 1) a)
  | f + 1, .node l v r, k, a => bif Nat.beq k 0 then .node l (some a) r else bif Nat.beq (k % 2) 1 then .node (Tr.put f l (k / 2) a) v r else .node l v (Tr.put f r (k / 2 - 1) a)

structure AH where
  next : Nat
  t : Tr
  deriving Inhabited
def AH.get (H : AH) (b : Nat) : Option Blk := bif Nat.blt b H.next then H.t.get b else none
def AH.put (H : AH) (b : Nat) (x : Blk) : AH := { H with t := H.t.put (b + 1) b x }
def AH.new (H : AH) (x : Blk) : AH := { next := H.next + 1, t := H.t.put (H.next + 1) H.next x }

def AH.cells (H : AH) (b : Nat) : Option (List AV) :=
  match H.get b with
  | some (.cells vs _) => some vs
  | _ => none

/-! ### pure parts -/
def AV.cells : AV → List AV
  | .agg cs => cs
  | v => [v]
def AV.one : AV → Bool
  | .agg _ | .tup _ | .junk => false
  | _ => true

def binInt (op : BinOp) (k : IntKind) (a b : Int) : Option AV :=
  match op with
  | .add => some (.int k (k.wrap (a + b)))
  | .sub => some (.int k (k.wrap (a - b)))
  | .mul => some (.int k (k.wrap (a * b)))
  | .quo => if b = 0 then none else some (.int k (k.wrap (a.tdiv b)))
  | .rem => if b = 0 then none else some (.int k (a.tmod b))
  | .and => some (.int k (k.wrap (BitVec.ofInt k.bits a &&& BitVec.ofInt k.bits b).toNat))
  | .or => some (.int k (k.wrap (BitVec.ofInt k.bits a ||| BitVec.ofInt k.bits b).toNat))
  | .xor => some (.int k (k.wrap (BitVec.ofInt k.bits a ^^^ BitVec.ofInt k.bits b).toNat))
  | .andNot => some (.int k (k.wrap (BitVec.ofInt k.bits a &&& ~~~BitVec.ofInt k.bits b).toNat))
  | .lss => some (.bool (a < b))
  | .leq => some (.bool (a ≤ b))
  | .gtr => some (.bool (a > b))
  | .geq => some (.bool (a ≥ b))
  | _ => none

/-- Cells that '==' compares one by one: whole numbers, strings, bools. -/
def eqCell : EK → AV → AV → Option Bool
  | .int, .int k a, .int j b => if k = j then some (a == b) else none
  | .str, .str a, .str b => some (decide (a = b))
  | .bool, .bool a, .bool b => some (a == b)
  | _, _, _ => none
def eqCells : List EK → List AV → List AV → Option Bool
  | [], [], [] => some true
  | k :: ks, a :: l, b :: r => match eqCell k a b with
    | some true => eqCells ks l r
    | some false => some false
    | none => none
  | _, _, _ => none

def binAny (op : BinOp) (x y : AV) : Option AV :=
  match op, x, y with
  | .shl, .int k a, .int _ b => if b < 0 then none else some (.int k (k.wrap (a * 2 ^ (min b.toNat k.bits))))
  | .shr, .int k a, .int _ b => if b < 0 then none else some (.int k (a.fdiv (2 ^ (min b.toNat k.bits))))
  | op, .int k a, .int j b => if k = j then binInt op k a b else none
  | .add, .str a, .str b => if a.length + b.length ≤ 1099511627776 then some (.str (a ++ b)) else none
  | _, _, _ => none

def unAny (op : UnOp) (x : AV) : Option AV :=
  match op, x with
  | .neg, .int k n => some (.int k (k.wrap (0 - n)))
  | .not, .bool b => some (.bool !b)
  | _, _ => none

def natOf (x : AV) : Option Nat :=
  match x with
  | .int _ n => if 0 ≤ n then some n.toNat else none
  | _ => none

def optNat (e : Env) (d : Nat) : Option AX → Option Nat
  | some x => natOf (x.ev e)
  | none => some d

/-- 'cs' with 'vs' laid from place 'o' on, if there is room. -/
def lay (cs : List AV) (o : Nat) (vs : List AV) : Option (List AV) :=
  if o + vs.length ≤ cs.length then some (cs.take o ++ vs ++ cs.drop (o + vs.length)) else none

def layAll (cs : List AV) : List (Nat × List AV) → Option (List AV)
  | [] => some cs
  | (o, vs) :: r => match lay cs o vs with
    | some cs' => layAll cs' r
    | none => none

def AH.loadSh (H : AH) (s : Sh) (b o : Nat) : Option AV :=
  match H.cells b with
  | none => none
  | some vs =>
    match s with
    | .one => match vs[o]? with
      | some v => some v
      | none => none
    | .many n => if o + n ≤ vs.length then some (.agg ((vs.drop o).take n)) else none

def AH.storeAt (H : AH) (b o : Nat) (ws : List AV) : Option AH :=
  match H.get b with
  | some (.cells vs true) =>
    if ws.all AV.one then
      match lay vs o ws with
      | some vs' => some (H.put b (.cells vs' true))
      | none => none
    else none
  | _ => none

def partSh (s : Sh) (cs : List AV) (o : Nat) : Option AV :=
  match s with
  | .one => cs[o]?
  | .many n => if o + n ≤ cs.length then some (.agg ((cs.drop o).take n)) else none

def repl (n : Nat) (z : List AV) : List AV := (List.replicate n z).flatten

/-- Keys that are whole numbers. -/
def findEntry (k : AV) : List (AV × AV × Nat) → Option (AV × Nat)
  | [] => none
  | (a, v, s) :: r => bif AV.same k a then some (v, s) else findEntry k r
def setEntry (k : AV) (v : AV) : List (AV × AV × Nat) → List (AV × AV × Nat)
  | [] => []
  | (a, u, s) :: r => bif AV.same k a then (a, v, s) :: r else (a, u, s) :: setEntry k v r
def stampEntry (s : Nat) (v : AV) : List (AV × AV × Nat) → Option (List (AV × AV × Nat))
  | [] => none
  | (a, u, t) :: r => bif Nat.beq t s then some ((a, v, t) :: r) else (stampEntry s v r).map ((a, u, t) :: ·)
def intKey : AV → Bool
  | .int _ _ => true
  | _ => false
/-- All keys are of one kind. -/
def keysOf (k : IntKind) : List (AV × AV × Nat) → Bool
  | [] => true
  | (.int j _, _, _) :: r => decide (j = k) && keysOf k r
  | _ => false

def max2 : AV → AV → Option AV
  | .int k x, .int j y => if k = j then some (.int k (if y > x then y else x)) else none
  | _, _ => none
def maxes : AV → List AV → Option AV
  | x, [] => some x
  | x, y :: r => match max2 x y with
    | some z => maxes z r
    | none => none

def bytesOf : List AV → Option (List UInt8)
  | [] => some []
  | .int .u8 n :: r => (bytesOf r).map (UInt8.ofNat n.toNat :: ·)
  | _ => none

/-- The cells that an append takes over. -/
def srcCells (H : AH) (esz : Nat) : AV → Option (List AV)
  | .nils => some []
  | .sl bb bo bl bs => match H.cells bb with
    | some vs => if bs = esz ∧ bo + bl * esz ≤ vs.length then some ((vs.drop bo).take (bl * esz)) else none
    | none => none
  | _ => none
def srcLen : AV → Nat
  | .sl _ _ n _ => n
  | _ => 0

def room : Nat := 1099511627776      -- 2^40

/-- What an operation that makes memory makes: the block, and the value that leads to it. -/
def AOp.mk (op : AOp) (e : Env) : Option (Blk × (Nat → AV)) :=
  match op with
  | .alloc z => some (.cells z true, fun b => .ptr b 0)
  | .box x => if (x.ev e).cells.all AV.one then some (.cells (x.ev e).cells true, fun b => .ptr b 0) else none
  | .buildSlice cells esz len parts =>
    if parts.all (fun p => decide ((p.2.ev e).cells.length = esz) && (p.2.ev e).cells.all AV.one) then
      match layAll cells (parts.map fun p => (p.1 * esz, (p.2.ev e).cells)) with
      | some cs => some (.cells cs true, fun b => .sl b 0 len esz)
      | none => none
    else none
  | .makeSlice z bytes l => match natOf (l.ev e) with
    | some n => if n ≤ room ∧ n * bytes ≤ room then some (.cells (repl n z) true, fun b => .sl b 0 n z.length) else none
    | none => none
  | .makeMap => some (.map [] 0, fun b => .map b)
  | _ => none

/-- The other operations that call nothing. -/
def AOp.ev1 (op : AOp) (e : Env) (H : AH) : Option (AV × AH) :=
  match op with
  | .mov x => some (x.ev e, H)
  | .pick c a b => match c.ev e with
    | .bool t => some (bif t then a.ev e else b.ev e, H)
    | _ => none
  | .build z parts =>
    if parts.all (fun p => decide ((p.2.2.ev e).cells.length = p.2.1) && (p.2.2.ev e).cells.all AV.one) then
      match layAll z (parts.map fun p => (p.1, (p.2.2.ev e).cells)) with
      | some cs => some (.agg cs, H)
      | none => none
    else none
  | .load s x => match x.ev e with
    | .ptr b o => match H.loadSh s b o with
      | some v => some (v, H)
      | none => none
    | _ => none
  | .store n a x => match a.ev e with
    | .ptr b o =>
      let cs := (x.ev e).cells
      if cs.length = n then
        match H.storeAt b o cs with
        | some H' => some (.tup [], H')
        | none => none
      else none
    | _ => none
  | .nilCheck x => match x.ev e with
    | .ptr b o => some (.ptr b o, H)
    | _ => none
  | .bin op x y => match binAny op (x.ev e) (y.ev e) with
    | some v => some (v, H)
    | none => none
  | .eq1 k neg x y => match eqCell k (x.ev e) (y.ev e) with
    | some r => some (.bool (bif neg then !r else r), H)
    | none => none
  | .eqAgg ks neg x y => match x.ev e, y.ev e with
    | .agg a, .agg b => match eqCells ks a b with
      | some r => some (.bool (bif neg then !r else r), H)
      | none => none
    | _, _ => none
  | .un op x => match unAny op (x.ev e) with
    | some v => some (v, H)
    | none => none
  | .convInt k x => match x.ev e with
    | .int _ n => some (.int k (k.wrap n), H)
    | _ => none
  | .intToStr x => match x.ev e with
    | .int _ n => if 0 ≤ n ∧ n < 128 then some (.str [UInt8.ofNat n.toNat], H) else none
    | _ => none
  | .bytesToStr x => match x.ev e with
    | .nils => some (.str [], H)
    | .sl b o len esz => match H.cells b with
      | some vs => if esz = 1 ∧ o + len ≤ vs.length then
          match bytesOf ((vs.drop o).take len) with
          | some s => some (.str s, H)
          | none => none
        else none
      | none => none
    | _ => none
  | .sliceSl esz x lo hi => match x.ev e with
    | .sl b o len sz =>
      match optNat e len hi, optNat e 0 lo with
      | some h, some l => if sz = esz ∧ h ≤ len ∧ l ≤ h then some (.sl b (o + l * esz) (h - l) esz, H) else none
      | _, _ => none
    | .nils =>
      match optNat e 0 hi, optNat e 0 lo with
      | some 0, some 0 => some (.nils, H)
      | _, _ => none
    | _ => none
  | .sliceStr x lo hi => match x.ev e with
    | .str s =>
      match optNat e s.length hi, optNat e 0 lo with
      | some h, some l => if h ≤ s.length ∧ l ≤ h then some (.str ((s.drop l).take (h - l)), H) else none
      | _, _ => none
    | _ => none
  | .sliceArr n esz x => match x.ev e with
    | .ptr b o => match H.get b with
      | some (.cells vs _) => if o + n * esz ≤ vs.length then some (.sl b o n esz, H) else none
      | _ => none
    | _ => none
  | .arrPtr n x => match x.ev e with
    | .sl b o len _ => if n ≤ len ∧ 0 < len then some (.ptr b o, H) else none
    | _ => none
  | .fieldAddr off x => match x.ev e with
    | .ptr b o => some (.ptr b (o + off), H)
    | _ => none
  | .field s off x => match x.ev e with
    | .agg cs => match partSh s cs off with
      | some v => some (v, H)
      | none => none
    | _ => none
  | .indexAddrS esz x i => match x.ev e, natOf (i.ev e) with
    | .sl b o len sz, some i => if sz = esz ∧ i < len then some (.ptr b (o + i * esz), H) else none
    | _, _ => none
  | .indexAddrA len esz x i => match x.ev e, natOf (i.ev e) with
    | .ptr b o, some i => if i < len then some (.ptr b (o + i * esz), H) else none
    | _, _ => none
  | .indexA len s x i => match x.ev e, natOf (i.ev e) with
    | .agg cs, some i => if i < len then
        match partSh s cs (i * s.size) with
        | some v => some (v, H)
        | none => none
      else none
    | _, _ => none
  | .indexStr x i => match x.ev e, natOf (i.ev e) with
    | .str s, some i => match s[i]? with
      | some c => some (.int .u8 c.toNat, H)
      | none => none
    | _, _ => none
  | .makeFn f cap => some (.fn f (cap.map (·.ev e)), H)
  | .lookup z ok x k => match x.ev e, k.ev e with
    | .map b, .int kk n => match H.get b with
      | some (.map es _) =>
        if keysOf kk es then
          match findEntry (.int kk n) es with
          | some (v, _) => some (bif ok then .tup [v, .bool true] else v, H)
          | none => some (bif ok then .tup [z, .bool false] else z, H)
        else none
      | _ => none
    | _, _ => none
  | .mapUpdate m k v => match m.ev e, k.ev e with
    | .map b, .int kk n => match H.get b with
      | some (.map es clock) =>
        if keysOf kk es then
          match findEntry (.int kk n) es with
          | some _ => some (.tup [], H.put b (.map (setEntry (.int kk n) (v.ev e) es) clock))
          | none => some (.tup [], H.put b (.map (es ++ [(.int kk n, v.ev e, clock)]) (clock + 1)))
        else none
      | _ => none
    | _, _ => none
  | .mapEntry z m k => match m.ev e, k.ev e with
    | .map b, .int kk n => match H.get b with
      | some (.map es clock) =>
        if keysOf kk es then
          match findEntry (.int kk n) es with
          | some (v, s) => some (.tup [v, .int .i64 s], H.put b (.map es clock))
          | none => some (.tup [z, .int .i64 clock], H.put b (.map (es ++ [(.int kk n, z, clock)]) (clock + 1)))
        else none
      | _ => none
    | _, _ => none
  | .entryStore m s v => match m.ev e, natOf (s.ev e) with
    | .map b, some s => match H.get b with
      | some (.map es clock) =>
        match stampEntry s (v.ev e) es with
        | some es' => some (.tup [], H.put b (.map es' clock))
        | none => none
      | _ => none
    | _, _ => none
  | .rangeStr x => match x.ev e with
    | .str s => some (.ptr H.next 0, H.new (.iter s 0))
    | _ => none
  | .nextStr x => match x.ev e with
    | .ptr b 0 => match H.get b with
      | some (.iter s pos) =>
        if pos < s.length then
          let d := Utf8.decode ⟨⟨s⟩⟩ pos
          some (.tup [.bool true, .int .i64 pos, .int .i32 d.1], H.put b (.iter s (pos + d.2)))
        else some (.tup [.bool false], H)
      | _ => none
    | _ => none
  | .extract x i => match x.ev e with
    | .tup vs => match vs[i]? with
      | some v => some (v, H)
      | none => none
    | _ => none
  | .lenSl x => match x.ev e with
    | .nils => some (.int .i64 0, H)
    | .sl _ _ n _ => some (.int .i64 n, H)
    | _ => none
  | .lenStr x => match x.ev e with
    | .str s => some (.int .i64 s.length, H)
    | _ => none
  | .maxOf xs => match xs.map (·.ev e) with
    | [] => none
    | x :: r => match maxes x r with
      | some v => some (v, H)
      | none => none
  | .append esz bytes a b =>
    match srcCells H esz (b.ev e), srcLen (b.ev e) with
    | some new, n =>
      if 0 < esz then
      match a.ev e with
      | .nils => if n = 0 then some (.nils, H) else
          if n ≤ room ∧ n * bytes ≤ room then some (.sl H.next 0 n esz, H.new (.cells new true)) else none
      | .sl ab ao al as' =>
        if n = 0 then some (.sl ab ao al as', H) else
        match H.get ab with
        | some (.cells vs true) =>
          if as' = esz ∧ ao + al * esz = vs.length ∧ al + n ≤ room ∧ (al + n) * bytes ≤ room ∧ new.all AV.one = true then
            some (.sl H.next 0 (al + n) esz, (H.put ab .dead).new (.cells (vs.drop ao ++ new) true))
          else none
        | _ => none
      | _ => none
      else none
    | none, _ => none
  | _ => none

def AOp.eval (op : AOp) (e : Env) (H : AH) : Option (AV × AH) :=
  match op.mk e with
  | some r => some (r.2 H.next, H.new r.1)
  | none => op.ev1 e H

def Blk.same : Blk → Blk → Bool
  | .cells a o, .cells b p => AV.sames a b && (o == p)
  | .map [] c, .map [] d => Nat.beq c d
  | _, _ => false
def AV.block : AV → Nat
  | .ptr b _ | .sl b _ _ _ | .map b => b
  | _ => 0

/-- Asked again behind an effect: would the operation give the same? -/
def AOp.again (op : AOp) (e : Env) (H : AH) (old : AV) : Bool :=
  match op.mk e with
  | some r => AV.same (r.2 old.block) old && (match H.get old.block with | some x => Blk.same x r.1 | none => false)
  | none => match op.ev1 e H with
    | some (v, _) => AV.same v old
    | none => false

inductive ARes where
  | tmp (t : Nat)
  | cell (t : Nat) (s : Sh)
  deriving Inhabited
structure AFn where
  body : ACode
  res : List ARes
  deriving Inhabited

/-- What the machine is given: its functions; and pure functions that it takes by contract. -/
structure Tab where
  fns : FuncId → Option AFn
  prim : FuncId → Option (List AV → Option AV)

def resVals (e : Env) (H : AH) : List ARes → Option (List AV)
  | [] => some []
  | .tmp t :: r => match resVals e H r with
    | some vs => some (e.get t :: vs)
    | none => none
  | .cell t s :: r => match e.get t with
    | .ptr b o => match H.loadSh s b o, resVals e H r with
      | some v, some vs => some (v :: vs)
      | _, _ => none
    | _ => none
def resOf (vs : List AV) : AV := match vs with | [v] => v | vs => .tup vs

def argEnv : Nat → List AV → Env
  | _, [] => []
  | n, v :: r => (n, v) :: argEnv (n + 1) r

def setParams : Env → List Nat → List AV → Option Env
  | e, [], [] => some e
  | e, t :: ts, v :: vs => setParams ((t, v) :: e) ts vs
  | _, _, _ => none

inductive Task where
  | code (fn : FuncId) (c : ACode) (e : Env)
  | items (l : List AItem) (e : Env)
  | call (f : AV) (args : List AV)
  deriving Inhabited
inductive Res where
  | code (o : Out) (e : Env)
  | val (v : AV)
  deriving Inhabited

def wanted (g : Option (Nat × Bool)) (e : Env) : Option Bool :=
  match g with
  | none => some true
  | some (t, w) => match e.get t with
    | .bool b => some (b == w)
    | .tup [] => some false
    | _ => none

def run (T : Tab) : Nat → Task → AH → Option (Res × AH)
  | 0, _, _ => none
  | n + 1, .items [] e, H => some (.code .normal e, H)
  | n + 1, .items (.chk i :: l) e, H =>
    match wanted i.guard e with
    | some true => (match i.dst with
      | some d => bif i.op.again e H (e.get d) then run T n (.items l e) H else none
      | none => none)
    | some false => run T n (.items l e) H
    | none => none
  | n + 1, .items (.ins i :: l) e, H =>
    match wanted i.guard e with
    | some true =>
      (match i.op with
      | .call f args =>
        match run T n (.call (.fn f []) (args.map (·.ev e))) H with
        | some (.val v, H') => run T n (.items l (e.put i.dst v)) H'
        | _ => none
      | .callv g args =>
        match run T n (.call (g.ev e) (args.map (·.ev e))) H with
        | some (.val v, H') => run T n (.items l (e.put i.dst v)) H'
        | _ => none
      | op => match op.eval e H with
        | some (v, H') => run T n (.items l (e.put i.dst v)) H'
        | none => none)
    | some false => run T n (.items l (e.put i.dst (.tup []))) H
    | none => none
  | n + 1, .code fn c e, H =>
    match c with
    | .skip => some (.code .normal e, H)
    | .exit id => some (.code (.exit id) e, H)
    | .ret => some (.code .ret e, H)
    | .ops l keep => match run T n (.items l e) H with
      | some (.code .normal e', H') => some (.code .normal (e'.only keep), H')
      | _ => none
    | .seq a b => match run T n (.code fn a e) H with
      | some (.code .normal e', H') => run T n (.code fn b e') H'
      | r => r
    | .cond x a b => match x.ev e with
      | .bool t => run T n (.code fn (bif t then a else b) e) H
      | _ => none
    | .block id b => match run T n (.code fn b e) H with
      | some (.code (.exit j) e', H') => bif Nat.beq j id then some (.code .normal e', H') else some (.code (.exit j) e', H')
      | r => r
    | .loop b keep => match run T n (.code fn b (e.only keep)) H with
      | some (.code .normal e', H') => run T n (.code fn (.loop b keep) e') H'
      | r => r
    | .rangeFunc f ps asg body =>
      let l := H.next
      match run T n (.call (f.ev e) [.yield l]) (H.new (.loop { state := .ready, pending := none, fn, env := e, params := ps, assign := asg, body })) with
      | some (.val _, H') =>
        match H'.get l with
        | some (.loop r) =>
          if r.state = .busy then none else
          match r.pending with
          | none => some (.code .normal e, H'.put l (.loop { r with state := .over }))
          | some o => some (.code o e, H'.put l (.loop { r with state := .over }))
        | _ => none
      | _ => none
  | n + 1, .call f args, H =>
    match f with
    | .fn f cap =>
      match T.prim f with
      | some g => match g (args ++ cap) with
        | some v => some (.val v, H)
        | none => none
      | none => match T.fns f with
        | some fn => match run T n (.code f fn.body (argEnv 0 (args ++ cap))) H with
          | some (.code (.exit _) _, _) => none
          | some (.code _ e, H') => match resVals e H' fn.res with
            | some vs => some (.val (resOf vs), H')
            | none => none
          | _ => none
        | none => none
    | .yield l =>
      match H.get l with
      | some (.loop r) =>
        if r.state = .ready then
          match setParams r.env r.params args with
          | some e0 => match run T n (.code r.fn r.assign e0) H with
            | some (.code .normal e1, H1) =>
              match H1.get l with
              | some (.loop r1) =>
                if r1.state = .ready then
                match run T n (.code r.fn r.body e1) (H1.put l (.loop { r1 with state := .busy })) with
                | some (.code o _, H2) =>
                  match H2.get l with
                  | some (.loop r2) =>
                    match o with
                    | .normal => some (.val (.bool true), H2.put l (.loop { r2 with state := .ready, pending := none }))
                    | o => some (.val (.bool false), H2.put l (.loop { r2 with state := .done, pending := some o }))
                  | _ => none
                | _ => none
                else none
              | _ => none
            | _ => none
          | none => none
        else none
      | _ => none
    | _ => none
end Am

namespace Am
open Go

def avOf : Nat → Value → Option AV
  | 0, _ => none
  | n + 1, v => match v with
    | .bool b => some (.bool b)
    | .int k i => some (.int k i)
    | .string s => some (.str s.data.toList)
    | .pointer none => some .nilp
    | .slice none 0 0 => some .nils
    | .map none => some .nilm
    | .nilFunc => some .nilf
    | .agg cs => (cs.toList.mapM (avOf n)).map .agg
    | .tuple cs => (cs.toList.mapM (avOf n)).map .tup
    | _ => none
def cellsOf (v : Value) : Option (List AV) := v.cells.toList.mapM (avOf 3)

def compX : Operand → Option AX
  | .tmp t => some (.t t)
  | .const v => (avOf 3 v).map .c
  | .func f => some (.c (.fn f []))
  | .global _ => none

section
variable (P : Program)
def sizeAt (t : TypeId) : Option Nat := (P.info? t).map (·.size)
def bytesAt (t : TypeId) : Option Nat := (P.info? t).map (·.bytes)
def zeroAt (t : TypeId) : Option (List AV) := do cellsOf (← (← P.info? t).zero)
def zeroVAt (t : TypeId) : Option AV := do avOf 3 (← (← P.info? t).zero)
def aggAt (t : TypeId) : Option Bool :=
  match P.underlying t with
  | some (.struct _) | some (.array _ _) => some true
  | some _ => some false
  | none => none
def shAt (t : TypeId) : Option Sh := do
  if ← aggAt P t then pure (.many (← sizeAt P t)) else pure .one
def ekAt (t : TypeId) : Option EK :=
  match P.underlying t with
  | some (.int _) => some .int
  | some .string => some .str
  | some .bool => some .bool
  | _ => none
/-- May '==' and '!=' compare aggregates of this type cell by cell, and as what? -/
def eqsAt (t : TypeId) : Option (List EK) :=
  if P.eqGuardType P.depth t then none else
  match P.underlying t with
  | some (.array n e) => do
    let k ← ekAt P e
    if sizeAt P e = some 1 then pure (List.replicate n k) else none
  | some (.struct fs) =>
    if P.stoodInHeld t then none else
    fs.toList.zipIdx.mapM fun (f, i) => if f.name ≠ "_" ∧ f.offset = i ∧ sizeAt P f.type = some 1 then ekAt P f.type else none
  | _ => none
def sameX : Operand → Operand → Bool
  | .tmp a, .tmp b => a == b
  | .const (.int k a), .const (.int j b) => k == j && a == b
  | _, _ => false

def compOp (op : Op) : Option AOp :=
  match op with
  | .move x | .assign x => do pure (.mov (← compX x))
  | .pick c a b => do pure (.pick (← compX c) (← compX a) (← compX b))
  | .alloc t => do pure (.alloc (← zeroAt P t))
  | .box _ x => do pure (.box (← compX x))
  | .build t parts =>
    match P.underlying t with
    | some (.struct fs) => do
      let pl ← fs.toList.mapM fun f => do pure (f.offset, ← sizeAt P f.type)
      let ps ← parts.toList.mapM fun p => do
        let q ← pl[p.1]?
        pure (q.1, q.2, ← compX p.2)
      pure (.build (← zeroAt P t) ps)
    | some (.array _ el) => do
      let s ← sizeAt P el
      let ps ← parts.toList.mapM fun p => do pure (p.1 * s, s, ← compX p.2)
      pure (.build (← zeroAt P t) ps)
    | _ => none
  | .buildSlice t len parts =>
    match P.underlying t with
    | some (.slice el) => do
      let s ← sizeAt P el
      let z ← zeroAt P el
      let ps ← parts.toList.mapM fun p => do pure (p.1, ← compX p.2)
      if z.length = s ∧ len * s ≤ 16777216 then
        if len * s = 0 then pure (.buildSlice [] s len ps) else pure (.buildSlice (repl len z) s len ps)
      else none
    | _ => none
  | .load t a => do pure (.load (← shAt P t) (← compX a))
  | .store t a x => do pure (.store (← sizeAt P t) (← compX a) (← compX x))
  | .nilCheck x => do pure (.nilCheck (← compX x))
  | .binOp op t x y _ => do
    match op with
    | .eql => match ekAt P t with
      | some k => pure (.eq1 k false (← compX x) (← compX y))
      | none => pure (.eqAgg (← eqsAt P t) false (← compX x) (← compX y))
    | .neq => match ekAt P t with
      | some k => pure (.eq1 k true (← compX x) (← compX y))
      | none => pure (.eqAgg (← eqsAt P t) true (← compX x) (← compX y))
    | op => pure (.bin op (← compX x) (← compX y))
  | .unOp op _ x => do pure (.un op (← compX x))
  | .convert s d x =>
    match P.underlying s, P.underlying d with
    | some (.int _), some (.int k) => do pure (.convInt k (← compX x))
    | some (.int _), some .string => do pure (.intToStr (← compX x))
    | some (.slice e), some .string =>
      match P.underlying e with
      | some (.int .u8) => do pure (.bytesToStr (← compX x))
      | _ => none
    | _, _ => none
  | .sliceToArrayPointer t x =>
    match P.underlying t with
    | some (.array n _) => do pure (.arrPtr n (← compX x))
    | _ => none
  | .makeFunc (.func f) first cap =>
    if first = #[] then do pure (.makeFn f (← cap.toList.mapM compX)) else none
  | .makeMap _ none => pure .makeMap
  | .makeSlice t l c =>
    match P.underlying t with
    | some (.slice el) =>
      if sameX l c then do
        let z ← zeroAt P el
        let s ← sizeAt P el
        if z.length = s ∧ 0 < s then pure (.makeSlice z (← bytesAt P el) (← compX l)) else none
      else none
    | _ => none
  | .slice t x lo hi none =>
    match P.underlying t with
    | some (.slice e) => do
      let lo' ← lo.mapM compX
      let hi' ← hi.mapM compX
      pure (.sliceSl (← sizeAt P e) (← compX x) lo' hi')
    | some .string => do
      let lo' ← lo.mapM compX
      let hi' ← hi.mapM compX
      pure (.sliceStr (← compX x) lo' hi')
    | some (.array n e) =>
      match lo, hi with
      | none, none => do pure (.sliceArr n (← sizeAt P e) (← compX x))
      | _, _ => none
    | _ => none
  | .fieldAddr t x i =>
    match P.underlying t with
    | some (.struct fs) =>
      match fs[i]? with
      | some f =>
        match sizeAt P f.type with
        | some (_ + 1) => do pure (.fieldAddr f.offset (← compX x))
        | _ => none
      | none => none
    | _ => none
  | .field t x i =>
    match P.underlying t with
    | some (.struct fs) =>
      match fs[i]? with
      | some f => do pure (.field (← shAt P f.type) f.offset (← compX x))
      | none => none
    | _ => none
  | .indexAddr t x i =>
    match P.underlying t with
    | some (.slice e) => do pure (.indexAddrS (← sizeAt P e) (← compX x) (← compX i))
    | some (.array n e) => do pure (.indexAddrA n (← sizeAt P e) (← compX x) (← compX i))
    | _ => none
  | .index t x i =>
    match P.underlying t with
    | some (.array n e) => do
      let s ← shAt P e
      if sizeAt P e = some s.size then pure (.indexA n s (← compX x) (← compX i)) else none
    | some .string => do pure (.indexStr (← compX x) (← compX i))
    | _ => none
  | .lookup t x k ok =>
    match P.underlying t with
    | some (.map kt e) =>
      match P.underlying kt with
      | some (.int _) => do pure (.lookup (← zeroVAt P e) ok (← compX x) (← compX k))
      | _ => none
    | _ => none
  | .mapUpdate t m k v =>
    match P.underlying t with
    | some (.map kt _) =>
      match P.underlying kt with
      | some (.int _) => do pure (.mapUpdate (← compX m) (← compX k) (← compX v))
      | _ => none
    | _ => none
  | .mapEntry t m k =>
    match P.underlying t with
    | some (.map kt e) =>
      match P.underlying kt with
      | some (.int _) => do pure (.mapEntry (← zeroVAt P e) (← compX m) (← compX k))
      | _ => none
    | _ => none
  | .entryStore _ m s v => do pure (.entryStore (← compX m) (← compX s) (← compX v))
  | .range t x =>
    match P.underlying t with
    | some .string => do pure (.rangeStr (← compX x))
    | _ => none
  | .next x true => do pure (.nextStr (← compX x))
  | .extract x i => do pure (.extract (← compX x) i)
  | .call c =>
    match c.callee with
    | .value (.func f) => do pure (.call f (← c.args.toList.mapM compX))
    | .value x => do pure (.callv (← compX x) (← c.args.toList.mapM compX))
    | .builtin .len =>
      match c.argTypes.toList, c.args.toList with
      | [t], [x] =>
        match P.underlying t with
        | some (.slice _) => do pure (.lenSl (← compX x))
        | some .string => do pure (.lenStr (← compX x))
        | _ => none
      | _, _ => none
    | .builtin .max => do
      let xs ← c.args.toList.mapM compX
      pure (.maxOf xs)
    | .builtin .append =>
      match c.argTypes.toList, c.args.toList with
      | [t, u], [a, b] =>
        match P.underlying t, P.underlying u with
        | some (.slice e), some (.slice _) => do
          let s ← sizeAt P e
          let z ← zeroAt P e
          if z.length = s then pure (.append s (← bytesAt P e) (← compX a) (← compX b)) else none
        | _, _ => none
      | _, _ => none
    | _ => none
  | _ => none
end

/-- Does it turn memory, or call? -/
def AOp.eff : AOp → Bool
  | .store .. | .append .. | .call .. | .callv .. | .mapUpdate .. | .mapEntry .. | .entryStore .. | .rangeStr _ | .nextStr _ => true
  | _ => false
/-- Does its answer hang on memory, or does it make some? -/
def AOp.looks : AOp → Bool
  | .load .. | .lookup .. | .bytesToStr _ | .sliceArr .. | .alloc _ | .box _ | .buildSlice .. | .makeSlice .. | .makeMap => true
  | _ => false

/-- The slots that an operation looks at. -/
def AX.uses : AX → List Nat
  | .t n => [n]
  | .c _ => []
def optUses : Option AX → List Nat
  | some x => x.uses
  | none => []
def AOp.uses : AOp → List Nat
  | .mov x | .box x | .load _ x | .nilCheck x | .un _ x | .convInt _ x | .intToStr x | .bytesToStr x | .sliceArr _ _ x | .arrPtr _ x | .fieldAddr _ x | .field _ _ x | .makeSlice _ _ x | .rangeStr x | .nextStr x | .extract x _ | .lenSl x | .lenStr x => x.uses
  | .pick a b c | .mapUpdate a b c | .entryStore a b c => a.uses ++ b.uses ++ c.uses
  | .alloc _ | .makeMap => []
  | .build _ ps => ps.flatMap fun p => p.2.2.uses
  | .buildSlice _ _ _ ps => ps.flatMap fun p => p.2.uses
  | .store _ a x | .bin _ a x | .eq1 _ _ a x | .eqAgg _ _ a x | .indexAddrS _ a x | .indexAddrA _ _ a x | .indexA _ _ a x | .indexStr a x | .lookup _ _ a x | .mapEntry _ a x | .append _ _ a x => a.uses ++ x.uses
  | .sliceSl _ x l h | .sliceStr x l h => x.uses ++ optUses l ++ optUses h
  | .makeFn _ c => c.flatMap AX.uses
  | .maxOf xs => xs.flatMap AX.uses
  | .call _ xs => xs.flatMap AX.uses
  | .callv f xs => f.uses ++ xs.flatMap AX.uses
def AIns.uses (i : AIns) : List Nat := i.op.uses ++ (match i.guard with | some (t, _) => [t] | none => [])
/-- Does it make memory? -/
def AOp.makes : AOp → Bool
  | .alloc _ | .box _ | .buildSlice .. | .makeSlice .. | .makeMap => true
  | _ => false

/-- A canonical order of a region that draws: each effect as late as its place in the text, whatever need not wait for it ahead of it; behind it, the places that are asked again. -/
def canon (n : Nat) (bef : Nat → Nat → Bool) (eff looks : Nat → Bool) : List (Nat × Bool) :=
  let effs := (List.range n).filter eff
  let r := effs.foldl (init := (([] : List (Nat × Bool)), ([] : List Nat))) fun (acc, put) f =>
    let q := (List.range n).filter fun i => !eff i && !put.contains i && !bef i f
    let put' := put ++ q
    let chk := put'.filter fun i => looks i && !bef f i
    (acc ++ q.map (·, false) ++ [(f, false)] ++ chk.map (·, true), put' ++ [f])
  r.1 ++ ((List.range n).filter fun i => !r.2.contains i).map (·, false)

/-- Is 'c' an order that stands for every other one? 'S': what is behind us. -/
def ckOrder (n : Nat) (eff looks : Nat → Bool) (bef : Nat → Nat → Bool) : List Nat → List (Nat × Bool) → Bool
  | S, [] => (List.range n).all fun i => S.contains i
  | S, (i, true) :: R => S.contains i && !eff i && looks i && ckOrder n eff looks bef S R
  | S, (i, false) :: R =>
    decide (i < n) && !S.contains i && ((List.range n).all fun j => !bef i j || S.contains j) && (S.all fun f => !eff f || bef i f) &&
    (!eff i || S.all fun r => eff r || !looks r || bef i r || (R.takeWhile (·.2)).contains (r, true)) && ckOrder n eff looks bef (i :: S) R

/-- What is asked of a region that draws, beside its order. -/
def drawOk (ops : Array Oper) (is : List AIns) (bef : Nat → Nat → Bool) : Bool :=
  let n := ops.size
  let dst := fun i => (is[i]?).bind (·.dst)
  let uses := fun i => ((is[i]?).map (·.uses)).getD []
  -- what is before, is before by way of the edges that bind
  ((List.range n).all fun i => (List.range n).all fun j => !bef i j ||
    ((ops[i]?).map fun o => o.after.any fun e => Region.binds .any e && (e.on == j || bef e.on j)).getD false) &&
  -- an edge that binds leads back
  ((List.range n).all fun i => ((ops[i]?).map fun o => o.after.all fun e => !Region.binds .any e || (decide (e.on < i) && bef i e.on)).getD false) &&
  -- each slot is written once
  ((List.range n).all fun i => (List.range n).all fun j => i == j || (dst i).isNone || dst i != dst j) &&
  -- who looks at a slot that another one writes, is before or behind it; who looks at memory, is behind it
  ((List.range n).all fun i => (List.range n).all fun j => match dst j with
    | some t => !(uses i).contains t || (i != j && (bef i j || (bef j i && !((is[i]?).map (·.op.looks)).getD true)))
    | none => true) &&
  -- who makes memory, names it
  (is.all fun x => !x.op.looks || x.dst.isSome)

def compIns (P : Program) (ops : Array Oper) (o : Oper) : Option AIns := do
  let op ← compOp P o.op
  match o.guard with
  | none => pure { dst := o.dst, op, guard := none }
  | some (j, w) => do
    let oj ← ops[j]?
    let t ← oj.dst
    pure { dst := o.dst, op, guard := some (t, w) }

/-- What the abstract machine does not know: a run does not go through it. -/
def badOp : AOp := .bin .eql (.c .junk) (.c .junk)
def badIns : AIns := { dst := none, op := badOp, guard := none }
/-- Like 'compIns'; an operation that is not known stands as one that no run goes through. -/
def compLax (P : Program) (ops : Array Oper) (o : Oper) : AIns :=
  match compIns P ops o with
  | some x => x
  | none =>
    match o.guard with
    | none => badIns
    | some (j, w) =>
      match (ops[j]?).bind (·.dst) with
      | some t => { dst := o.dst, op := badOp, guard := some (t, w) }
      | none => badIns

def compDrawn (P : Program) (ops : Array Oper) : Option (List AItem) := do
  let is ← ops.toList.mapM (compIns P ops)
  let b := Region.before ops
  let bef := fun i j => (b.getD i 0).testBit j
  let eff := fun i => ((is[i]?).map (·.op.eff)).getD true
  let looks := fun i => ((is[i]?).map (·.op.looks)).getD true
  let c := canon ops.size bef eff looks
  if P.follows .mixedOrders && drawOk ops is bef && ckOrder ops.size eff looks bef [] c then
    c.mapM fun (i, k) => (is[i]?).map fun x => if k then AItem.chk x else .ins x
  else none

def compRegion (P : Program) (ops : Array Oper) (draw : Bool) : List AItem :=
  if draw then (compDrawn P ops).getD [.ins badIns] else ops.toList.map fun o => .ins (compLax P ops o)

def comp (P : Program) : Code → Option ACode
  | .skip => some .skip
  | .region _ ops draw => some (.ops (compRegion P ops draw) none)
  | .seq a b => do pure (.seq (← comp P a) (← comp P b))
  | .cond c a b => do pure (.cond ((compX c).getD (.c .junk)) (← comp P a) (← comp P b))
  | .block id b => do pure (.block id (← comp P b))
  | .loop b => do pure (.loop (← comp P b) none)
  | .rangeFunc f ps a b => do pure (.rangeFunc ((compX f).getD (.c .junk)) ps.toList (← comp P a) (← comp P b))
  | .exit id => some (.exit id)
  | .ret => some .ret
  | _ => some (.ops [.ins badIns] none)

def compFn (P : Program) (fn : Func) : Option AFn := do
  let body ← comp P (← fn.body)
  let res ← fn.results.toList.mapM fun
    | .tmp t => some (ARes.tmp t)
    | .cell t ty => do pure (ARes.cell t (← shAt P ty))
  pure { body, res }
end Am

namespace Am
open Go Go.RowKit

inductive Slot where
  | unborn
  | dead
  | cells (B base csz : Nat) (own : Bool)
  | obj (B : Nat)
abbrev Mu := Nat → Slot

def Slot.ptrOk (s : Slot) (o : Nat) (a : Addr) : Prop :=
  match s with
  | .unborn => False
  | .dead => True
  | .cells B base _ _ => a = ⟨B, base + o, none⟩
  | .obj B => a = ⟨B, o, none⟩
def Slot.slOk (s : Slot) (o cap esz : Nat) (a : Addr) : Prop :=
  match s with
  | .unborn => False
  | .dead => True
  | .cells B base csz _ => cap = 0 ∨ (a = ⟨B, base + o, none⟩ ∧ base + o + cap * esz ≤ csz)
  | .obj _ => False
def Slot.objOk (s : Slot) (r : Nat) : Prop :=
  match s with
  | .unborn => False
  | .dead => True
  | .cells .. => False
  | .obj B => r = B

mutual
inductive VR (μ : Mu) : AV → Value → Prop
  | junk (v : Value) : VR μ .junk v
  | bool (b : Bool) : VR μ (.bool b) (.bool b)
  | int (k : IntKind) (n : Int) : VR μ (.int k n) (.int k n)
  | str (s : List UInt8) : VR μ (.str s) (.string ⟨⟨s⟩⟩)
  | nilp : VR μ .nilp (.pointer none)
  | ptr (b o : Nat) (a : Addr) : (μ b).ptrOk o a → VR μ (.ptr b o) (.pointer (some a))
  | nils : VR μ .nils (.slice none 0 0)
  | sl (b o n esz : Nat) (a : Addr) (cap : Nat) : n ≤ cap → (μ b).slOk o cap esz a → VR μ (.sl b o n esz) (.slice (some a) n cap)
  | nilm : VR μ .nilm (.map none)
  | map (b r : Nat) : (μ b).objOk r → VR μ (.map b) (.map (some r))
  | fn (f : FuncId) (c : List AV) (vs : Array Value) : VRs μ c vs.toList → VR μ (.fn f c) (.func (.func f) #[] vs)
  | yield (l r : Nat) : (μ l).objOk r → VR μ (.yield l) (.func (.yield r) #[] #[])
  | nilf : VR μ .nilf .nilFunc
  | agg (c : List AV) (vs : Array Value) : VRs μ c vs.toList → VR μ (.agg c) (.agg vs)
  | tup (c : List AV) (vs : Array Value) : VRs μ c vs.toList → VR μ (.tup c) (.tuple vs)
inductive VRs (μ : Mu) : List AV → List Value → Prop
  | nil : VRs μ [] []
  | cons (a : AV) (v : Value) (l : List AV) (r : List Value) : VR μ a v → VRs μ l r → VRs μ (a :: l) (v :: r)
end

def Slot.le (s s' : Slot) : Prop := s = .unborn ∨ s' = s ∨ (s' = .dead ∧ s ≠ .unborn)
def Mu.le (μ μ' : Mu) : Prop := ∀ b, (μ b).le (μ' b)
theorem Slot.le_refl (s : Slot) : s.le s := .inr (.inl rfl)
theorem Slot.le_trans {a b c : Slot} (h : a.le b) (k : b.le c) : a.le c := by
  rcases h with h | h | ⟨h, h'⟩
  · exact .inl h
  · subst h; exact k
  · subst h
    rcases k with k | k | ⟨k, _⟩
    · cases k
    · exact .inr (.inr ⟨k, h'⟩)
    · exact .inr (.inr ⟨k, h'⟩)
theorem Mu.le_refl (μ : Mu) : μ.le μ := fun b => (μ b).le_refl
theorem Mu.le_trans {a b c : Mu} (h : a.le b) (k : b.le c) : a.le c := fun i => Slot.le_trans (h i) (k i)

theorem Slot.ptrOk_le {s s' : Slot} (h : s.le s') {o : Nat} {a : Addr} (k : s.ptrOk o a) : s'.ptrOk o a := by
  rcases h with h | h | ⟨h, _⟩ <;> subst h <;> simp_all [Slot.ptrOk]
theorem Slot.slOk_le {s s' : Slot} (h : s.le s') {o c z : Nat} {a : Addr} (k : s.slOk o c z a) : s'.slOk o c z a := by
  rcases h with h | h | ⟨h, _⟩ <;> subst h <;> simp_all [Slot.slOk]
theorem Slot.objOk_le {s s' : Slot} (h : s.le s') {r : Nat} (k : s.objOk r) : s'.objOk r := by
  rcases h with h | h | ⟨h, _⟩ <;> subst h <;> simp_all [Slot.objOk]

mutual
theorem VR.mono {μ μ' : Mu} (h : μ.le μ') : ∀ {a : AV} {v : Value}, VR μ a v → VR μ' a v
  | _, _, .junk v => .junk v
  | _, _, .bool b => .bool b
  | _, _, .int k n => .int k n
  | _, _, .str s => .str s
  | _, _, .nilp => .nilp
  | _, _, .ptr b o a k => .ptr b o a (Slot.ptrOk_le (h b) k)
  | _, _, .nils => .nils
  | _, _, .sl b o n e a c l k => .sl b o n e a c l (Slot.slOk_le (h b) k)
  | _, _, .nilm => .nilm
  | _, _, .map b r k => .map b r (Slot.objOk_le (h b) k)
  | _, _, .fn f c vs k => .fn f c vs (VRs.mono h k)
  | _, _, .yield l r k => .yield l r (Slot.objOk_le (h l) k)
  | _, _, .nilf => .nilf
  | _, _, .agg c vs k => .agg c vs (VRs.mono h k)
  | _, _, .tup c vs k => .tup c vs (VRs.mono h k)
theorem VRs.mono {μ μ' : Mu} (h : μ.le μ') : ∀ {a : List AV} {v : List Value}, VRs μ a v → VRs μ' a v
  | _, _, .nil => .nil
  | _, _, .cons a v l r k m => .cons a v l r (VR.mono h k) (VRs.mono h m)
end

theorem VRs.length {μ : Mu} : ∀ {a : List AV} {v : List Value}, VRs μ a v → a.length = v.length
  | _, _, .nil => rfl
  | _, _, .cons _ _ _ _ _ m => by simp [m.length]
theorem VRs.get {μ : Mu} : ∀ {a : List AV} {v : List Value} {i : Nat} {x : AV}, VRs μ a v → a[i]? = some x → ∃ y, v[i]? = some y ∧ VR μ x y
  | _, _, _, _, .nil, h => by simp at h
  | _, _, 0, _, .cons a v l r k m, h => by simp at h; subst h; exact ⟨v, by simp, k⟩
  | _, _, i + 1, _, .cons a v l r k m, h => by simp at h; obtain ⟨y, hy, hr⟩ := m.get h; exact ⟨y, by simpa using hy, hr⟩
theorem VRs.of_get {μ : Mu} : ∀ {a : List AV} {v : List Value}, a.length = v.length → (∀ (i : Nat) (x : AV) (y : Value), a[i]? = some x → v[i]? = some y → VR μ x y) → VRs μ a v
  | [], [], _, _ => .nil
  | [], _ :: _, h, _ => by simp at h
  | _ :: _, [], h, _ => by simp at h
  | a :: l, v :: r, h, k => .cons a v l r (k 0 a v rfl rfl) (VRs.of_get (by simpa using h) fun i x y hx hy => k (i + 1) x y (by simpa using hx) (by simpa using hy))
theorem VRs.append {μ : Mu} : ∀ {a : List AV} {v : List Value} {b : List AV} {u : List Value}, VRs μ a v → VRs μ b u → VRs μ (a ++ b) (v ++ u)
  | _, _, _, _, .nil, h => h
  | _, _, _, _, .cons a v l r k m, h => .cons a v _ _ k (m.append h)
theorem VRs.drop {μ : Mu} : ∀ {a : List AV} {v : List Value} (n : Nat), VRs μ a v → VRs μ (a.drop n) (v.drop n)
  | _, _, 0, h => by simpa using h
  | _, _, _ + 1, .nil => by simpa using VRs.nil
  | _, _, n + 1, .cons _ _ _ _ _ m => by simpa using m.drop n
theorem VRs.take {μ : Mu} : ∀ {a : List AV} {v : List Value} (n : Nat), VRs μ a v → VRs μ (a.take n) (v.take n)
  | _, _, 0, h => by simpa using VRs.nil
  | _, _, _ + 1, .nil => by simpa using VRs.nil
  | _, _, n + 1, .cons _ _ _ _ k m => by simpa using VRs.cons _ _ _ _ k (m.take n)

/-- No cell holds an aggregate. -/
theorem VR.oneCell {μ : Mu} {a : AV} {v : Value} (h : VR μ a v) (ho : a.one = true) : v.oneCell' = true := by
  cases h <;> simp_all [AV.one, Value.oneCell']
theorem VR.cells_one {μ : Mu} {a : AV} {v : Value} (h : VR μ a v) (ho : a.one = true) : v.cells = #[v] := by
  cases h <;> simp_all [AV.one, Value.cells]
theorem VR.cells {μ : Mu} {a : AV} {v : Value} (h : VR μ a v) (ho : a.cells.all AV.one = true) : VRs μ a.cells v.cells.toList := by
  cases h <;> first
    | (simp_all [AV.cells, AV.one]; done)
    | (simp only [AV.cells, Value.cells]; assumption)
    | (simp only [AV.cells, Value.cells]; exact .cons _ _ _ _ (by constructor <;> assumption) .nil)
theorem VRs.oneCell {μ : Mu} : ∀ {a : List AV} {v : List Value}, VRs μ a v → a.all AV.one = true → ∀ x ∈ v, x.oneCell' = true
  | _, _, .nil, _ => by simp
  | _, _, .cons a v l r k m, h => by
    simp at h
    intro x hx
    simp at hx
    rcases hx with rfl | hx
    · exact k.oneCell h.1
    · exact m.oneCell (by simpa using h.2) x hx

/-! ### constants -/
theorem mapM_some_cons {α β : Type} {f : α → Option β} {a : α} {l : List α} {r : List β} (h : (a :: l).mapM f = some r) :
    ∃ b t, f a = some b ∧ l.mapM f = some t ∧ r = b :: t := by
  rw [List.mapM_cons] at h
  cases hf : f a with
  | none => rw [hf] at h; cases h
  | some b =>
    cases ht : l.mapM f with
    | none => rw [hf, ht] at h; cases h
    | some t => rw [hf, ht] at h; cases h; exact ⟨b, t, rfl, rfl, rfl⟩
theorem mapM_some_nil {α β : Type} {f : α → Option β} {r : List β} (h : ([] : List α).mapM f = some r) : r = [] := by
  rw [List.mapM_nil] at h; cases h; rfl
theorem mapM_length {α β : Type} {f : α → Option β} : ∀ {l : List α} {r : List β}, l.mapM f = some r → r.length = l.length
  | [], r, h => by rw [mapM_some_nil h]; rfl
  | a :: l, r, h => by obtain ⟨b, t, _, ht, rfl⟩ := mapM_some_cons h; simp [mapM_length ht]
theorem mapM_get {α β : Type} {f : α → Option β} : ∀ {l : List α} {r : List β} {i : Nat} {b : β}, l.mapM f = some r → r[i]? = some b → ∃ a, l[i]? = some a ∧ f a = some b
  | [], r, i, b, h, hb => by rw [mapM_some_nil h] at hb; simp at hb
  | a :: l, r, 0, b, h, hb => by obtain ⟨b', t, h1, ht, rfl⟩ := mapM_some_cons h; simp at hb; subst hb; exact ⟨a, rfl, h1⟩
  | a :: l, r, i + 1, b, h, hb => by
    obtain ⟨b', t, h1, ht, rfl⟩ := mapM_some_cons h
    simp at hb
    obtain ⟨x, hx, hf⟩ := mapM_get ht hb
    exact ⟨x, by simpa using hx, hf⟩
theorem mapM_get' {α β : Type} {f : α → Option β} : ∀ {l : List α} {r : List β} {i : Nat} {a : α}, l.mapM f = some r → l[i]? = some a → ∃ b, r[i]? = some b ∧ f a = some b
  | [], r, i, b, h, hb => by simp at hb
  | a :: l, r, 0, b, h, hb => by obtain ⟨b', t, h1, ht, rfl⟩ := mapM_some_cons h; simp at hb; subst hb; exact ⟨b', rfl, h1⟩
  | a :: l, r, i + 1, b, h, hb => by
    obtain ⟨b', t, h1, ht, rfl⟩ := mapM_some_cons h
    simp at hb
    obtain ⟨x, hx, hf⟩ := mapM_get' ht hb
    exact ⟨x, by simpa using hx, hf⟩

theorem avOf_rel (μ : Mu) : ∀ (n : Nat) (v : Value) (a : AV), avOf n v = some a → VR μ a v
  | 0, _, _, h => by simp [avOf] at h
  | n + 1, v, a, h => by
    have hl : ∀ (l : List Value) (r : List AV), l.mapM (avOf n) = some r → VRs μ r l := by
      intro l r hm
      refine VRs.of_get (mapM_length hm) fun i x y hx hy => ?_
      obtain ⟨b, hb, hf⟩ := mapM_get' hm hy
      rw [hx] at hb
      cases hb
      exact avOf_rel μ n y x hf
    cases v with
    | bool b => simp [avOf] at h; subst h; exact .bool b
    | int k i => simp [avOf] at h; subst h; exact .int k i
    | string s => simp [avOf] at h; subst h; exact .str _
    | pointer p => cases p <;> simp [avOf] at h; subst h; exact .nilp
    | slice p l c =>
      cases p with
      | some _ => simp [avOf] at h
      | none =>
        cases l <;> cases c <;> simp [avOf] at h
        subst h; exact .nils
    | map r => cases r <;> simp [avOf] at h; subst h; exact .nilm
    | nilFunc => simp [avOf] at h; subst h; exact .nilf
    | agg cs =>
      simp only [avOf, Option.map_eq_some_iff] at h
      obtain ⟨r, hr, rfl⟩ := h
      exact .agg _ _ (hl _ _ hr)
    | tuple cs =>
      simp only [avOf, Option.map_eq_some_iff] at h
      obtain ⟨r, hr, rfl⟩ := h
      exact .tup _ _ (hl _ _ hr)
    | _ => simp [avOf] at h
theorem cellsOf_rel (μ : Mu) {v : Value} {cs : List AV} (h : cellsOf v = some cs) : VRs μ cs v.cells.toList := by
  refine VRs.of_get (mapM_length h) fun i x y hx hy => ?_
  obtain ⟨b, hb, hf⟩ := mapM_get' h hy
  rw [hx] at hb
  cases hb
  exact avOf_rel μ _ _ _ hf

def XR (μ : Mu) (e : Env) (ρ : Operand → Value) (x : AX) (y : Operand) : Prop := VR μ (x.ev e) (ρ y)

end Am

namespace Am
open Go Go.RowKit

theorem Tr.get_put : ∀ (f : Nat) (t : Tr) (k : Nat) (a : Blk) (j : Nat), k < f → (Tr.put f t k a).get j = if j = k then some a else t.get j
  | 0, _, _, _, _, h => by omega
  | f + 1, t, k, a, j, h => by
    have ih := fun (t : Tr) (k' j' : Nat) (hk : k' < f) => Tr.get_put f t k' a j' hk
    cases t with
    | nil =>
      by_cases h0 : k = 0
      · subst h0
        cases j with
        | zero => rfl
        | succ j => simp [Tr.put, Tr.get, show Nat.beq (j + 1) 0 = false from rfl]
      · have hb : Nat.beq k 0 = false := by cases k <;> simp_all [Nat.beq]
        by_cases h1 : k % 2 = 1
        · simp only [Tr.put, hb, h1, cond_false, show Nat.beq 1 1 = true from rfl, cond_true]
          by_cases hj : j = 0
          · subst hj; simp [Tr.get, Ne.symm h0]
          · have hjb : Nat.beq j 0 = false := by cases j <;> simp_all [Nat.beq]
            simp only [Tr.get, hjb, cond_false]
            by_cases h2 : j % 2 = 1
            · simp only [h2, show Nat.beq 1 1 = true from rfl, cond_true]
              rw [ih _ _ _ (by omega)]
              by_cases e : j = k
              · subst e; simp
              · rw [if_neg (by omega), if_neg e]; rfl
            · have h2b : Nat.beq (j % 2) 1 = false := by rw [show j % 2 = 0 by omega]; rfl
              simp only [h2b, cond_false]
              rw [if_neg (by omega)]
        · have h1b : Nat.beq (k % 2) 1 = false := by rw [show k % 2 = 0 by omega]; rfl
          simp only [Tr.put, hb, h1b, cond_false]
          by_cases hj : j = 0
          · subst hj; simp [Tr.get, Ne.symm h0]
          · have hjb : Nat.beq j 0 = false := by cases j <;> simp_all [Nat.beq]
            simp only [Tr.get, hjb, cond_false]
            by_cases h2 : j % 2 = 1
            · simp only [h2, show Nat.beq 1 1 = true from rfl, cond_true]
              rw [if_neg (by omega)]
            · have h2b : Nat.beq (j % 2) 1 = false := by rw [show j % 2 = 0 by omega]; rfl
              simp only [h2b, cond_false]
              rw [ih _ _ _ (by omega)]
              by_cases e : j = k
              · subst e; simp
              · rw [if_neg (by omega), if_neg e]; rfl
    | node l v r =>
      by_cases h0 : k = 0
      · subst h0
        cases j with
        | zero => rfl
        | succ j => simp [Tr.put, Tr.get, show Nat.beq (j + 1) 0 = false from rfl]
      · have hb : Nat.beq k 0 = false := by cases k <;> simp_all [Nat.beq]
        by_cases h1 : k % 2 = 1
        · simp only [Tr.put, hb, h1, cond_false, show Nat.beq 1 1 = true from rfl, cond_true]
          by_cases hj : j = 0
          · subst hj; simp [Tr.get, Ne.symm h0]
          · have hjb : Nat.beq j 0 = false := by cases j <;> simp_all [Nat.beq]
            simp only [Tr.get, hjb, cond_false]
            by_cases h2 : j % 2 = 1
            · simp only [h2, show Nat.beq 1 1 = true from rfl, cond_true]
              rw [ih _ _ _ (by omega)]
              by_cases e : j = k
              · subst e; simp
              · rw [if_neg (by omega), if_neg e]
            · have h2b : Nat.beq (j % 2) 1 = false := by rw [show j % 2 = 0 by omega]; rfl
              simp only [h2b, cond_false]
              rw [if_neg (by omega)]
        · have h1b : Nat.beq (k % 2) 1 = false := by rw [show k % 2 = 0 by omega]; rfl
          simp only [Tr.put, hb, h1b, cond_false]
          by_cases hj : j = 0
          · subst hj; simp [Tr.get, Ne.symm h0]
          · have hjb : Nat.beq j 0 = false := by cases j <;> simp_all [Nat.beq]
            simp only [Tr.get, hjb, cond_false]
            by_cases h2 : j % 2 = 1
            · simp only [h2, show Nat.beq 1 1 = true from rfl, cond_true]
              rw [if_neg (by omega)]
            · have h2b : Nat.beq (j % 2) 1 = false := by rw [show j % 2 = 0 by omega]; rfl
              simp only [h2b, cond_false]
              rw [ih _ _ _ (by omega)]
              by_cases e : j = k
              · subst e; simp
              · rw [if_neg (by omega), if_neg e]

theorem blt_iff {a b : Nat} : Nat.blt a b = true ↔ a < b := by rw [Nat.blt_eq]
theorem AH.get_lt {H : AH} {b : Nat} {x : Blk} (h : H.get b = some x) : b < H.next := by
  unfold AH.get at h
  cases hb : Nat.blt b H.next with
  | true => exact blt_iff.1 hb
  | false => rw [hb] at h; cases h
theorem AH.get_ge {H : AH} {b : Nat} (h : H.next ≤ b) : H.get b = none := by
  cases hg : H.get b with
  | none => rfl
  | some x => have := AH.get_lt hg; omega
theorem AH.get_put' (H : AH) {b : Nat} (hb : b < H.next) (x : Blk) (j : Nat) : (H.put b x).get j = if j = b then some x else H.get j := by
  unfold AH.get AH.put
  simp only
  by_cases hj : j < H.next
  · rw [blt_iff.2 hj]
    simp only [cond_true]
    exact Tr.get_put _ _ _ _ _ (by omega)
  · have : Nat.blt j H.next = false := by rw [Bool.eq_false_iff]; intro h; exact hj (blt_iff.1 h)
    rw [this]
    simp only [cond_false]
    rw [if_neg (by omega)]
theorem AH.get_put_ne (H : AH) (b : Nat) (x : Blk) (j : Nat) (h : j ≠ b) : (H.put b x).get j = H.get j := by
  unfold AH.get AH.put
  simp only
  rw [Tr.get_put _ _ _ _ _ (by omega), if_neg h]
theorem AH.get_new (H : AH) (x : Blk) (j : Nat) : (H.new x).get j = if j = H.next then some x else H.get j := by
  unfold AH.get AH.new
  simp only
  by_cases hj : j < H.next + 1
  · rw [blt_iff.2 hj]
    simp only [cond_true]
    rw [Tr.get_put _ _ _ _ _ (by omega)]
    split
    · rfl
    · rw [blt_iff.2 (by omega)]; rfl
  · have : Nat.blt j (H.next + 1) = false := by rw [Bool.eq_false_iff]; intro h; exact hj (blt_iff.1 h)
    rw [this]
    simp only [cond_false]
    rw [if_neg (by omega)]
    have : Nat.blt j H.next = false := by rw [Bool.eq_false_iff]; intro h; have := blt_iff.1 h; omega
    rw [this]
    rfl
@[simp] theorem AH.next_put (H : AH) (b : Nat) (x : Blk) : (H.put b x).next = H.next := rfl
@[simp] theorem AH.next_new (H : AH) (x : Blk) : (H.new x).next = H.next + 1 := rfl

/-- What H holds, Y holds. -/
structure AH.Sub (H Y : AH) : Prop where
  next : H.next ≤ Y.next
  get : ∀ b x, b < H.next → H.get b = some x → Y.get b = some x
theorem AH.Sub.refl (H : AH) : H.Sub H := ⟨Nat.le_refl _, fun _ _ _ h => h⟩
theorem AH.Sub.trans {a b c : AH} (h : a.Sub b) (k : b.Sub c) : a.Sub c := ⟨Nat.le_trans h.next k.next, fun i x hi hx => k.get i x (Nat.lt_of_lt_of_le hi h.next) (h.get i x hi hx)⟩
theorem AH.Sub.new (H : AH) (x : Blk) : H.Sub (H.new x) := ⟨Nat.le_succ _, fun b y hb hy => by rw [AH.get_new, if_neg (by omega)]; exact hy⟩

def CellsR (μ : Mu) (w : World) (B base csz : Nat) (own : Bool) (vs : List AV) : Prop :=
  ∃ (cs : Array Value) (ty : TypeId) (fz : Nat × Nat), w.heap[B]? = some (.cells cs ty fz) ∧ cs.size = csz ∧ base + vs.length ≤ csz ∧ (own = true → fz = (0, 0)) ∧
    VRs μ vs ((cs.toList.drop base).take vs.length)

inductive EntR (μ : Mu) : List (AV × AV × Nat) → List MapEntry → Prop
  | nil : EntR μ [] []
  | cons (k v : AV) (n : Nat) (e : MapEntry) (l : List (AV × AV × Nat)) (r : List MapEntry) : VR μ k e.key → VR μ v e.val → n = e.born → EntR μ l r → EntR μ ((k, v, n) :: l) (e :: r)

def jumpCode : Out → Option Code
  | .normal => none
  | .exit id => some (.exit id)
  | .ret => some .ret

/-- The code without what is kept. -/
def ACode.erase : ACode → ACode
  | .ops l _ => .ops l none
  | .seq a b => .seq a.erase b.erase
  | .cond c a b => .cond c a.erase b.erase
  | .block id b => .block id b.erase
  | .loop b _ => .loop b.erase none
  | .rangeFunc f ps a b => .rangeFunc f ps a.erase b.erase
  | .skip => .skip
  | .exit id => .exit id
  | .ret => .ret

/-- Every slot that the code writes is one of the first 'nt'. -/
def codeFits (nt : Nat) : Code → Bool
  | .region _ ops _ => ops.all fun o => match o.dst with | some d => decide (d < nt) | none => true
  | .seq a b => codeFits nt a && codeFits nt b
  | .cond _ a b => codeFits nt a && codeFits nt b
  | .block _ b => codeFits nt b
  | .loop b => codeFits nt b
  | .rangeFunc _ ps a b => ps.all (fun p => decide (p < nt)) && codeFits nt a && codeFits nt b
  | _ => true

def CodeR (P : Program) (nt : Nat) (a : ACode) (c : Code) : Prop := comp P c = some a.erase ∧ codeFits nt c = true

def EnvR (μ : Mu) (e : Env) (tmps : Array Value) : Prop := ∀ t, VR μ (e.get t) (tmps.getD t undef)
theorem EnvR.mono {μ μ' : Mu} (h : μ.le μ') {e : Env} {tmps : Array Value} (k : EnvR μ e tmps) : EnvR μ' e tmps := fun t => VR.mono h (k t)

def stateR : LState → LoopState → Prop
  | .ready, .ready => True
  | .busy, .busy => True
  | .done, .done => True
  | .over, .exhausted => True
  | _, _ => False

inductive ObjR (P : Program) (μ : Mu) : Blk → Obj → Prop
  | map (es : List (AV × AV × Nat)) (c : Nat) (cs : Array MapEntry) : EntR μ es cs.toList → (∀ k v n, (k, v, n) ∈ es → n < c) → (es.map (·.2.2)).Nodup → ObjR P μ (.map es c) (.map cs c)
  | iter (s : List UInt8) (pos : Nat) : ObjR P μ (.iter s pos) (.stringIter ⟨⟨s⟩⟩ pos)
  | loop (a : ALoop) (r : Loop) (nt : Nat) : stateR a.state r.state → (a.pending.bind jumpCode = r.pending ∧ a.pending ≠ some .normal) → a.fn = r.fn → EnvR μ a.env r.tmps → nt ≤ r.tmps.size →
      r.params.toList = a.params → (∀ p ∈ a.params, p < nt) → CodeR P nt a.assign r.assign → CodeR P nt a.body r.body → ObjR P μ (.loop a) (.loop r)

def Own (μ : Mu) (B : Nat) : Prop := ∃ b, (∃ base csz, μ b = .cells B base csz true) ∨ μ b = .obj B
def Img (μ : Mu) (b B : Nat) : Prop := (∃ base csz own, μ b = .cells B base csz own) ∨ μ b = .obj B

structure Sim (P : Program) (μ : Mu) (H : AH) (w : World) : Prop where
  bound : ∀ b, H.next ≤ b → μ b = .unborn
  dead : ∀ b, μ b = .dead → H.get b = some .dead
  live : ∀ b B base csz own, μ b = .cells B base csz own → ∃ vs, H.get b = some (.cells vs own) ∧ CellsR μ w B base csz own vs
  obj : ∀ b B, μ b = .obj B → ∃ x o, H.get b = some x ∧ w.heap[B]? = some o ∧ ObjR P μ x o
  inj : ∀ b b' B, ((∃ base csz, μ b = .cells B base csz true) ∨ μ b = .obj B) → Img μ b' B → b = b'

structure FR (N : Nat) (μ : Mu) (w : World) (μ' : Mu) (w' : World) : Prop where
  le : μ.le μ'
  fresh : ∀ b, b < N → μ b = .unborn → μ' b = .unborn
  size : w.heap.size ≤ w'.heap.size
  keep : ∀ B, B < w.heap.size → ¬ Own μ B → w'.heap[B]? = w.heap[B]?
  own : ∀ B, Own μ' B → Own μ B ∨ w.heap.size ≤ B
  loops : ∀ (B : Nat) (r : Loop), w.heap[B]? = some (.loop r) → ∃ r' : Loop, w'.heap[B]? = some (.loop r')
  os : w'.os = w.os
  tape : w'.tape = w.tape
  output : w'.output = w.output

theorem FR.refl (N : Nat) (μ : Mu) (w : World) : FR N μ w μ w := ⟨Mu.le_refl μ, fun _ _ h => h, Nat.le_refl _, fun _ _ _ => rfl, fun _ h => .inl h, fun _ r h => ⟨r, h⟩, rfl, rfl, rfl⟩
theorem FR.trans {N N' : Nat} {μ μ₁ μ₂ : Mu} {w w₁ w₂ : World} (h : FR N μ w μ₁ w₁) (k : FR N' μ₁ w₁ μ₂ w₂) (hN : N ≤ N') : FR N μ w μ₂ w₂ where
  le := Mu.le_trans h.le k.le
  fresh := fun b hb hu => k.fresh b (Nat.lt_of_lt_of_le hb hN) (h.fresh b hb hu)
  size := Nat.le_trans h.size k.size
  keep := fun B hB ho => by
    rw [k.keep B (Nat.lt_of_lt_of_le hB h.size) (fun c => by rcases h.own B c with c | c; exact ho c; omega), h.keep B hB ho]
  own := fun B hB => by
    rcases k.own B hB with c | c
    · exact h.own B c
    · exact .inr (Nat.le_trans h.size c)
  loops := fun B r hr => by
    obtain ⟨r', hr'⟩ := h.loops B r hr
    exact k.loops B r' hr'
  os := k.os.trans h.os
  tape := k.tape.trans h.tape
  output := k.output.trans h.output
theorem FR.weaken {N N' : Nat} {μ μ' : Mu} {w w' : World} (h : FR N μ w μ' w') (hN : N' ≤ N) : FR N' μ w μ' w' :=
  { h with fresh := fun b hb => h.fresh b (Nat.lt_of_lt_of_le hb hN) }

section
variable {P : Program} {μ : Mu} {H Y : AH} {w : World}

theorem Sim.born (h : Sim P μ H w) {b : Nat} (hb : μ b ≠ .unborn) : b < H.next := by
  rcases Nat.lt_or_ge b H.next with c | c
  · exact c
  · exact absurd (h.bound b c) hb

theorem Sim.sub (h : Sim P μ H w) (s : H.Sub Y) : Sim P μ Y w where
  bound := fun b hb => h.bound b (Nat.le_trans s.next hb)
  dead := fun b hb => s.get b _ (h.born (by rw [hb]; simp)) (h.dead b hb)
  live := fun b B base csz own hb => by
    obtain ⟨vs, hv, hc⟩ := h.live b B base csz own hb
    exact ⟨vs, s.get b _ (h.born (by rw [hb]; simp)) hv, hc⟩
  obj := fun b B hb => by
    obtain ⟨x, o, hx, ho, hr⟩ := h.obj b B hb
    exact ⟨x, o, s.get b _ (h.born (by rw [hb]; simp)) hx, ho, hr⟩
  inj := h.inj

/-- A block of cells that is there. -/
theorem Sim.at_cells (h : Sim P μ H w) {b : Nat} {vs : List AV} {own : Bool} (hb : μ b ≠ .unborn) (hg : H.get b = some (.cells vs own)) :
    ∃ B base csz, μ b = .cells B base csz own ∧ CellsR μ w B base csz own vs := by
  cases hm : μ b with
  | unborn => exact absurd hm hb
  | dead => have := h.dead b hm; rw [hg] at this; cases this
  | cells B base csz o =>
    obtain ⟨vs', hv, hc⟩ := h.live b B base csz o hm
    rw [hg] at hv
    cases hv
    exact ⟨B, base, csz, rfl, hc⟩
  | obj B =>
    obtain ⟨x, o, hx, _, hr⟩ := h.obj b B hm
    rw [hg] at hx
    cases hx
    cases hr
theorem Sim.at_obj (h : Sim P μ H w) {b : Nat} {x : Blk} (hb : μ b ≠ .unborn) (hg : H.get b = some x) (hx : ∀ vs own, x ≠ .cells vs own) (hd : x ≠ .dead) :
    ∃ B o, μ b = .obj B ∧ w.heap[B]? = some o ∧ ObjR P μ x o := by
  cases hm : μ b with
  | unborn => exact absurd hm hb
  | dead => have := h.dead b hm; rw [hg] at this; cases this; exact absurd rfl hd
  | cells B base csz o =>
    obtain ⟨vs', hv, hc⟩ := h.live b B base csz o hm
    rw [hg] at hv
    cases hv
    exact absurd rfl (hx _ _)
  | obj B =>
    obtain ⟨y, o, hy, ho, hr⟩ := h.obj b B hm
    rw [hg] at hy
    cases hy
    exact ⟨B, o, rfl, ho, hr⟩
end

theorem CellsR.mono {μ μ' : Mu} (h : μ.le μ') {w w' : World} {B base csz : Nat} {own : Bool} {vs : List AV} (hw : w'.heap[B]? = w.heap[B]?) (k : CellsR μ w B base csz own vs) : CellsR μ' w' B base csz own vs := by
  obtain ⟨cs, ty, fz, h1, h2, h3, h4, h5⟩ := k
  exact ⟨cs, ty, fz, by rw [hw]; exact h1, h2, h3, h4, h5.mono h⟩
theorem EntR.mono {μ μ' : Mu} (h : μ.le μ') {a : List (AV × AV × Nat)} {b : List MapEntry} (k : EntR μ a b) : EntR μ' a b := by
  induction k with
  | nil => exact .nil
  | cons k v n e l r h1 h2 h3 _ ih => exact .cons k v n e l r (h1.mono h) (h2.mono h) h3 ih
theorem ObjR.mono {P : Program} {μ μ' : Mu} (h : μ.le μ') {x : Blk} {o : Obj} (k : ObjR P μ x o) : ObjR P μ' x o := by
  cases k with
  | map es c cs h1 h2 h3 => exact .map es c cs (h1.mono h) h2 h3
  | iter s pos => exact .iter s pos
  | loop a r nt h1 h2 h3 h4 h5 h6 h7 h8 h9 => exact .loop a r nt h1 h2 h3 (h4.mono h) h5 h6 h7 h8 h9

/-- The world with one block turned; with one block more. -/
structure Upd (w w' : World) (B : Nat) (o : Obj) : Prop where
  size : w'.heap.size = w.heap.size
  at' : w'.heap[B]? = some o
  other : ∀ k, k ≠ B → w'.heap[k]? = w.heap[k]?
  os : w'.os = w.os
  tape : w'.tape = w.tape
  output : w'.output = w.output
structure New (w w' : World) (o : Obj) : Prop where
  size : w'.heap.size = w.heap.size + 1
  at' : w'.heap[w.heap.size]? = some o
  other : ∀ k, k ≠ w.heap.size → w'.heap[k]? = w.heap[k]?
  os : w'.os = w.os
  tape : w'.tape = w.tape
  output : w'.output = w.output

def Mu.set (μ : Mu) (b : Nat) (s : Slot) : Mu := fun i => if i = b then s else μ i
theorem Mu.set_le (μ : Mu) (b : Nat) (s : Slot) (h : (μ b).le s) : μ.le (μ.set b s) := fun i => by
  unfold Mu.set
  by_cases e : i = b
  · subst e; simpa using h
  · simp [e, Slot.le_refl]

section
variable {P : Program} {μ : Mu} {H : AH} {w w' : World}

theorem Own.lt (h : Sim P μ H w) {B : Nat} (k : Own μ B) : B < w.heap.size := by
  obtain ⟨b, ⟨base, csz, hb⟩ | hb⟩ := k
  · obtain ⟨vs, _, cs, ty, fz, hc, _⟩ := h.live b B base csz true hb
    exact (Array.getElem?_eq_some_iff.1 hc).1
  · obtain ⟨x, o, _, ho, _⟩ := h.obj b B hb
    exact (Array.getElem?_eq_some_iff.1 ho).1
theorem Img.lt (h : Sim P μ H w) {b B : Nat} (k : Img μ b B) : B < w.heap.size := by
  rcases k with ⟨base, csz, own, hb⟩ | hb
  · obtain ⟨vs, _, cs, ty, fz, hc, _⟩ := h.live b B base csz own hb
    exact (Array.getElem?_eq_some_iff.1 hc).1
  · obtain ⟨x, o, _, ho, _⟩ := h.obj b B hb
    exact (Array.getElem?_eq_some_iff.1 ho).1

/-- A new block of the call's own, whose identity is not yet born. -/
theorem Sim.alloc (h : Sim P μ H w) {b : Nat} {o : Obj} {s : Slot} {x : Blk} (hb : μ b = .unborn) (hlt : b < H.next) (hg : H.get b = some x) (hw : New w w' o)
    (hs : (∃ vs csz, s = .cells w.heap.size 0 csz true ∧ x = .cells vs true ∧ CellsR (μ.set b s) w' w.heap.size 0 csz true vs) ∨ (s = .obj w.heap.size ∧ ObjR P (μ.set b s) x o)) :
    Sim P (μ.set b s) H w' ∧ ∀ N, N ≤ b → FR N μ w (μ.set b s) w' := by
  have hle : μ.le (μ.set b s) := Mu.set_le _ _ _ (.inl hb)
  have hne : ∀ {i B}, Img μ i B → B ≠ w.heap.size := fun k => Nat.ne_of_lt (k.lt h)
  have hset : ∀ i, i ≠ b → (μ.set b s) i = μ i := fun i hi => by simp [Mu.set, hi]
  have hsame : (μ.set b s) b = s := by simp [Mu.set]
  have himg : ∀ i B, Img (μ.set b s) i B → (i = b ∧ B = w.heap.size) ∨ (i ≠ b ∧ Img μ i B) := by
    intro i B hi
    by_cases e : i = b
    · subst e
      left
      refine ⟨rfl, ?_⟩
      unfold Img at hi
      rw [hsame] at hi
      rcases hs with ⟨vs, csz, rfl, _, _⟩ | ⟨rfl, _⟩
      · rcases hi with ⟨_, _, _, hi⟩ | hi <;> cases hi; rfl
      · rcases hi with ⟨_, _, _, hi⟩ | hi <;> cases hi; rfl
    · right
      unfold Img at hi ⊢
      rw [hset i e] at hi
      exact ⟨e, hi⟩
  refine ⟨?_, fun N hN => ?_⟩
  · refine ⟨fun i hi => ?_, fun i hi => ?_, fun i B base csz own hi => ?_, fun i B hi => ?_, fun i i' B hi hi' => ?_⟩
    · rw [hset i (by omega)]; exact h.bound i hi
    · by_cases e : i = b
      · subst e; rw [hsame] at hi; rcases hs with ⟨vs, csz, rfl, _, _⟩ | ⟨rfl, _⟩ <;> cases hi
      · rw [hset i e] at hi; exact h.dead i hi
    · by_cases e : i = b
      · subst e
        rw [hsame] at hi
        rcases hs with ⟨vs, csz', rfl, rfl, hc⟩ | ⟨rfl, _⟩
        · cases hi; exact ⟨vs, hg, hc⟩
        · cases hi
      · rw [hset i e] at hi
        obtain ⟨vs, hv, hc⟩ := h.live i B base csz own hi
        exact ⟨vs, hv, hc.mono hle (hw.other B (hne (i := i) (.inl ⟨_, _, _, hi⟩)))⟩
    · by_cases e : i = b
      · subst e
        rw [hsame] at hi
        rcases hs with ⟨vs, csz', rfl, rfl, hc⟩ | ⟨rfl, hr⟩
        · cases hi
        · cases hi; exact ⟨x, o, hg, hw.at', hr⟩
      · rw [hset i e] at hi
        obtain ⟨y, o', hy, ho, hr⟩ := h.obj i B hi
        exact ⟨y, o', hy, by rw [hw.other B (hne (i := i) (.inr hi))]; exact ho, hr.mono hle⟩
    · have h1 : Img (μ.set b s) i B := by
        rcases hi with ⟨base, csz, hi⟩ | hi
        · exact .inl ⟨_, _, _, hi⟩
        · exact .inr hi
      rcases himg i B h1 with ⟨e1, e2⟩ | ⟨e1, e2⟩
      · rcases himg i' B hi' with ⟨e3, _⟩ | ⟨_, e4⟩
        · rw [e1, e3]
        · exact absurd e2 (hne e4)
      · rcases himg i' B hi' with ⟨_, e4⟩ | ⟨e3, e4⟩
        · exact absurd e4 (hne e2)
        · refine h.inj i i' B ?_ e4
          rw [hset i e1] at hi
          exact hi
  · refine ⟨hle, fun i hi hu => ?_, by rw [hw.size]; omega, fun B hB _ => hw.other B (by omega), fun B hB => ?_, fun B r hr => ?_, hw.os, hw.tape, hw.output⟩
    · rw [hset i (by omega)]; exact hu
    · obtain ⟨i, hi⟩ := hB
      have h1 : Img (μ.set b s) i B := by
        rcases hi with ⟨base, csz, hi⟩ | hi
        · exact .inl ⟨_, _, _, hi⟩
        · exact .inr hi
      rcases himg i B h1 with ⟨_, e2⟩ | ⟨e1, _⟩
      · right; omega
      · left; rw [hset i e1] at hi; exact ⟨i, hi⟩
    · have hlt' := (Array.getElem?_eq_some_iff.1 hr).1
      exact ⟨r, by rw [hw.other B (by omega)]; exact hr⟩

/-- A block of the call's own is turned. -/
theorem Sim.update (h : Sim P μ H w) {b B : Nat} {o : Obj} {x : Blk} (hw : Upd w w' B o)
    (hs : (∃ vs base csz, μ b = .cells B base csz true ∧ x = .cells vs true ∧ CellsR μ w' B base csz true vs) ∨ (μ b = .obj B ∧ ObjR P μ x o))
    (hl : ∀ r : Loop, w.heap[B]? = some (.loop r) → ∃ r' : Loop, o = .loop r') (N : Nat) :
    Sim P μ (H.put b x) w' ∧ FR N μ w μ w' := by
  have hown : (∃ base csz, μ b = .cells B base csz true) ∨ μ b = .obj B := by
    rcases hs with ⟨vs, base, csz, hb, _⟩ | ⟨hb, _⟩
    · exact .inl ⟨_, _, hb⟩
    · exact .inr hb
  have hblt : b < H.next := h.born (by rcases hown with ⟨_, _, c⟩ | c <;> (rw [c]; simp))
  have hne : ∀ {i B'}, i ≠ b → Img μ i B' → B' ≠ B := by
    intro i B' hi k e
    subst e
    exact hi (h.inj b i B' hown k).symm
  refine ⟨⟨fun i hi => h.bound i hi, fun i hi => ?_, fun i B' base csz own hi => ?_, fun i B' hi => ?_, h.inj⟩, ?_⟩
  · rw [AH.get_put' H hblt]
    by_cases e : i = b
    · subst e; rcases hown with ⟨_, _, c⟩ | c <;> rw [hi] at c <;> cases c
    · rw [if_neg e]; exact h.dead i hi
  · rw [AH.get_put' H hblt]
    by_cases e : i = b
    · subst e
      rcases hs with ⟨vs, base', csz', hb, rfl, hc⟩ | ⟨hb, _⟩
      · rw [hb] at hi; cases hi; exact ⟨vs, by simp, hc⟩
      · rw [hb] at hi; cases hi
    · rw [if_neg e]
      obtain ⟨vs, hv, hc⟩ := h.live i B' base csz own hi
      exact ⟨vs, hv, hc.mono (Mu.le_refl μ) (hw.other B' (hne e (.inl ⟨_, _, _, hi⟩)))⟩
  · rw [AH.get_put' H hblt]
    by_cases e : i = b
    · subst e
      rcases hs with ⟨vs, base', csz', hb, rfl, hc⟩ | ⟨hb, hr⟩
      · rw [hb] at hi; cases hi
      · rw [hb] at hi; cases hi; exact ⟨x, o, by simp, hw.at', hr⟩
    · rw [if_neg e]
      obtain ⟨y, o', hy, ho, hr⟩ := h.obj i B' hi
      exact ⟨y, o', hy, by rw [hw.other B' (hne e (.inr hi))]; exact ho, hr⟩
  · refine ⟨Mu.le_refl μ, fun _ _ hu => hu, Nat.le_of_eq hw.size.symm, fun B' hB ho => hw.other B' ?_, fun _ hB => .inl hB, fun B' r hr => ?_, hw.os, hw.tape, hw.output⟩
    · intro e; subst e
      exact ho ⟨b, hown⟩
    · by_cases e : B' = B
      · subst e
        obtain ⟨r', rfl⟩ := hl r hr
        exact ⟨r', hw.at'⟩
      · exact ⟨r, by rw [hw.other B' e]; exact hr⟩
end
end Am
