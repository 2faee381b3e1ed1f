/- A part of the proof: SpM. It holds for whatever its statements name; no condition beyond theirs. -/
import Derived.Test.YtllbpnmhoblkgaaDoorAmE
import Derived.Lib.TrimUEq
import Derived.Lib.Bytealg
import Derived.Test.YtllbpnmhoblkgaaDoorAmI
namespace Am
open Go
/-! ### strings -/
def dec (s : List UInt8) (pos : Nat) : Nat × Nat := Utf8.decode ⟨⟨s⟩⟩ pos
theorem dec_ascii {s : List UInt8} {pos : Nat} {c : UInt8} (h : s[pos]? = some c) (hc : c.toNat < 128) : dec s pos = (c.toNat, 1) := by
  unfold dec
  rw [Lib.decode_N]
  have : (s.getD pos 0) = c := by simp [List.getD_eq_getElem?_getD, h]
  simp only [this]
  exact Lib.decodeN_ascii _ _ _ _ _ hc
theorem dec_big {s : List UInt8} {pos : Nat} {c : UInt8} (h : s[pos]? = some c) (hc : 128 ≤ c.toNat) : 128 ≤ (dec s pos).1 := by
  unfold dec
  rw [Lib.decode_N]
  have : (s.getD pos 0) = c := by simp [List.getD_eq_getElem?_getD, h]
  simp only [this]
  unfold Lib.decodeN
  repeat' split
  all_goals (simp only []; omega)
theorem dec_le (s : List UInt8) (pos : Nat) : (dec s pos).1 ≤ 1114111 := by
  unfold dec; exact Lib.rune_le _ _
def cBytes (s : List UInt8) : List AV := s.map fun c => AV.int .u8 (c.toNat : Int)
@[simp] theorem cBytes_length (s : List UInt8) : (cBytes s).length = s.length := by simp [cBytes]
theorem bytesOf_cBytes : ∀ s : List UInt8, bytesOf (cBytes s) = some s
  | [] => rfl
  | c :: s => by
    have ih := bytesOf_cBytes s
    simp only [cBytes, List.map_cons] at ih ⊢
    simp only [bytesOf, ih, Option.map_some, Int.toNat_natCast, UInt8.ofNat_toNat]
theorem sames_cBytes : ∀ s : List UInt8, AV.sames (cBytes s) (cBytes s) = true
  | [] => rfl
  | c :: s => by
    have ih := sames_cBytes s
    simp only [cBytes, List.map_cons] at ih ⊢
    simp only [AV.sames, same_int, Bool.true_and, ih]
theorem At.bytes {H : AH} {v : AV} {s : List UInt8} (h : At H v 1 (cBytes s)) : (v = .nils ∧ s = []) ∨ ∃ b o vs w, v = .sl b o s.length 1 ∧ H.get b = some (.cells vs w) ∧ o + s.length ≤ vs.length ∧ (vs.drop o).take s.length = cBytes s := by
  rcases h with ⟨rfl, h2⟩ | ⟨b, o, n, rfl, h2, vs, w, h3, h4, h5⟩
  · exact .inl ⟨rfl, by cases s; rfl; simp [cBytes] at h2⟩
  · simp only [Nat.mul_one, cBytes_length] at h2
    subst h2
    simp only [cBytes_length] at h4 h5
    refine .inr ⟨b, o, vs, w, rfl, h3, h4, ?_⟩
    apply List.ext_getElem?
    intro i
    rcases Nat.lt_or_ge i s.length with c | c
    · rw [List.getElem?_take_of_lt c, List.getElem?_drop, h5 i c]
    · rw [List.getElem?_eq_none (by simp; omega), List.getElem?_eq_none (by simpa using c)]
section
variable {T : Tab} {e : Env} {H : AH} {R : Env → AH → Prop} {d : Nat} {l : List AItem} {x y : AX} {s t : List UInt8}
theorem wI_rangeStr (hx : X e x (.str s)) (h : wpI T l ((d, .ptr H.next 0) :: e) (H.new (.iter s 0)) R) : wpI T (.ins ⟨some d, .rangeStr x, none⟩ :: l) e H R := by
  refine wI (v := .ptr H.next 0) (H' := H.new (.iter s 0)) ?_ h
  simp [AOp.eval, AOp.mk, AOp.ev1, hx.eq]
theorem wI_next {b pos : Nat} (hx : X e x (.ptr b 0)) (hb : H.get b = some (.iter s pos)) (hp : pos < s.length) (h : wpI T l ((d, .tup [.bool true, .int .i64 pos, .int .i32 ((dec s pos).1 : Nat)]) :: e) (H.put b (.iter s (pos + (dec s pos).2))) R) :
    wpI T (.ins ⟨some d, .nextStr x, none⟩ :: l) e H R := by
  refine wI (v := .tup [.bool true, .int .i64 pos, .int .i32 ((dec s pos).1 : Nat)]) (H' := H.put b (.iter s (pos + (dec s pos).2))) ?_ h
  simp [AOp.eval, AOp.mk, AOp.ev1, hx.eq, hb, hp, dec]
theorem wI_nextEnd {b pos : Nat} (hx : X e x (.ptr b 0)) (hb : H.get b = some (.iter s pos)) (hp : s.length ≤ pos) (h : wpI T l ((d, .tup [.bool false]) :: e) H R) : wpI T (.ins ⟨some d, .nextStr x, none⟩ :: l) e H R := by
  refine wI (v := .tup [.bool false]) (H' := H) ?_ h
  simp [AOp.eval, AOp.mk, AOp.ev1, hx.eq, hb, show ¬ pos < s.length by omega]
theorem wI_sliceStr {lo hi : Option AX} {a b : Nat} (hx : X e x (.str s)) (hl : optNat e 0 lo = some a) (hh : optNat e s.length hi = some b) (hc : b ≤ s.length ∧ a ≤ b) (h : wpI T l ((d, .str ((s.drop a).take (b - a))) :: e) H R) :
    wpI T (.ins ⟨some d, .sliceStr x lo hi, none⟩ :: l) e H R := by
  refine wI (v := .str ((s.drop a).take (b - a))) (H' := H) ?_ h
  simp only [AOp.eval, AOp.mk, AOp.ev1, hx.eq, hl, hh, hc, and_self, if_true]
theorem optNat_some {k : IntKind} {i : Int} {n D : Nat} (hx : X e x (.int k i)) (hi : i = n) : optNat e D (some x) = some n := by
  subst hi; simp [optNat, hx.eq, natOf]
theorem wI_intToStr {k : IntKind} {n : Int} (hx : X e x (.int k n)) (hn : 0 ≤ n ∧ n < 128) (h : wpI T l ((d, .str [UInt8.ofNat n.toNat]) :: e) H R) : wpI T (.ins ⟨some d, .intToStr x, none⟩ :: l) e H R := by
  refine wI (v := .str [UInt8.ofNat n.toNat]) (H' := H) ?_ h
  simp only [AOp.eval, AOp.mk, AOp.ev1, hx.eq, hn, and_self, if_true]
theorem wI_sadd (hx : X e x (.str s)) (hy : X e y (.str t)) (hl : s.length + t.length ≤ 1099511627776) (h : wpI T l ((d, .str (s ++ t)) :: e) H R) : wpI T (.ins ⟨some d, .bin .add x y, none⟩ :: l) e H R := by
  refine wI_bin hx hy ?_ h
  simp only [binAny, hl, if_true]
theorem wI_bytesToStr {v : AV} (hx : X e x v) (hA : At H v 1 (cBytes s)) (h : wpI T l ((d, .str s) :: e) H R) : wpI T (.ins ⟨some d, .bytesToStr x, none⟩ :: l) e H R := by
  refine wI (v := .str s) (H' := H) ?_ h
  rcases hA.bytes with ⟨rfl, rfl⟩ | ⟨b, o, vs, w, rfl, h2, h3, h4⟩
  · simp [AOp.eval, AOp.mk, AOp.ev1, hx.eq]
  · simp only [AOp.eval, AOp.mk, AOp.ev1, hx.eq, AH.cells, h2, h3, h4, bytesOf_cBytes, and_self, if_true]
theorem wI_chkBytes {v : AV} (hd : Lk e d (.str s)) (hx : X e x v) (hA : At H v 1 (cBytes s)) (h : wpI T l e H R) : wpI T (.chk ⟨some d, .bytesToStr x, none⟩ :: l) e H R := by
  refine wI_chk hd ?_ h
  rcases hA.bytes with ⟨rfl, rfl⟩ | ⟨b, o, vs, w, rfl, h2, h3, h4⟩
  · simp [AOp.again, AOp.mk, AOp.ev1, hx.eq, AV.same]
  · simp only [AOp.again, AOp.mk, AOp.ev1, hx.eq, AH.cells, h2, h3, h4, bytesOf_cBytes, and_self, if_true, same_str]
theorem wI_chkAlloc {b : Nat} {z : List AV} (hd : Lk e d (.ptr b 0)) (hg : H.get b = some (.cells z true)) (hs : AV.sames z z = true) (h : wpI T l e H R) : wpI T (.chk ⟨some d, .alloc z, none⟩ :: l) e H R := by
  refine wI_chk hd ?_ h
  simp [AOp.again, AOp.mk, AV.block, hg, Blk.same, hs, same_ptr]
theorem wI_chkBuild {b len z : Nat} {zs cs : List AV} {ps : List (Nat × AX)} (hd : Lk e d (.sl b 0 len z)) (hb : BuildR e z zs ps cs) (hg : H.get b = some (.cells cs true)) (hs : AV.sames cs cs = true) (h : wpI T l e H R) :
    wpI T (.chk ⟨some d, .buildSlice zs z len ps, none⟩ :: l) e H R := by
  refine wI_chk hd ?_ h
  obtain ⟨h1, h2⟩ := hb.eq
  simp only [AOp.again, AOp.mk, h1, h2, if_true, AV.block, hg, Blk.same, hs]
  simp [AV.same]
theorem wI_eqAgg {ks : List EK} {neg : Bool} {a b : List AV} {r : Bool} (hx : X e x (.agg a)) (hy : X e y (.agg b)) (hr : eqCells ks a b = some r) (h : wpI T l ((d, .bool (bif neg then !r else r)) :: e) H R) : wpI T (.ins ⟨some d, .eqAgg ks neg x y, none⟩ :: l) e H R := by
  refine wI (v := .bool (bif neg then !r else r)) (H' := H) ?_ h
  simp only [AOp.eval, AOp.mk, AOp.ev1, hx.eq, hy.eq, hr]
end
theorem retCT {e : Env} {H : AH} {res u : Nat} {n b o : Nat} {vs cs : List AV} {w : Bool} {v : AV} {S : AV → AH → Prop} (h : Lk e res (.ptr b o)) (hb : H.get b = some (.cells vs w)) (ht : TakeR vs o n cs) (hu : Lk e u v) (k : S (.tup [.agg cs, v]) H) : FQ [.cell res (.many n), .tmp u] S .ret e H :=
  ⟨fun _ c => (by cases c), [.agg cs, v], by simp [resVals, h.eq, hu.eq, AH.loadSh, AH.cells, hb, ht.eq.1, ht.eq.2], k⟩
theorem aWRAP {p : Prop} (h : p := by (first | exact wrap64 (by omega) | exact IntWalk.u8_in _ (by omega) | exact IntWalk.i32_in _ (by omega) | exact wrap_u64 (by omega))) : p := h
end Am

namespace Sp
open Go Am
def isUp (c : UInt8) : Bool := decide (65 ≤ c.toNat) && decide (c.toNat ≤ 90)
def isDig (c : UInt8) : Bool := decide (48 ≤ c.toNat) && decide (c.toNat ≤ 57)
def signs : List UInt8 := [48, 49, 50, 51, 52, 53, 54, 55, 56, 57, 65, 66, 67, 68, 69, 70, 71, 72, 73, 74, 75, 76, 77, 78, 79, 80, 81, 82, 83, 84, 85, 86, 87, 88, 89, 90, 43]
def val (c : UInt8) : Int := Lib.indexByte signs c
def inR (lo hi : Nat) (c : UInt8) : Bool := decide (lo ≤ c.toNat) && decide (c.toNat ≤ hi)
/-- A number with so many digits. -/
def dig : Nat → Nat → List UInt8
  | 0, _ => []
  | k + 1, n => dig k (n / 10) ++ [UInt8.ofNat (48 + n % 10)]
def numL (s : List UInt8) : Int := s.foldl (fun a c => 10 * a + ((c.toNat : Int) - 48)) 0
/-- The weighted sum: from a place on. -/
def wsum : Nat → List UInt8 → Int
  | _, [] => 0
  | i, c :: s => (i + 1) * val c + wsum (i + 1) s
def chk (s : List UInt8) : UInt8 := signs.getD ((37 - wsum 0 s % 37) % 37).toNat 0
def pRepeat : List AV → Option AV
  | [.str [48], .int .i64 k] => if 0 ≤ k ∧ k ≤ 1000 then some (.str (List.replicate k.toNat 48)) else none
  | _ => none
def upper : List UInt8 := [65, 66, 67, 68, 69, 70, 71, 72, 73, 74, 75, 76, 77, 78, 79, 80, 81, 82, 83, 84, 85, 86, 87, 88, 89, 90]
def pTrimLeft : List AV → Option AV
  | [.str s, .str c] => if c = upper then some (.str (s.dropWhile isUp)) else none
  | _ => none
theorem dig_length : ∀ (k n : Nat), (dig k n).length = k
  | 0, _ => rfl
  | k + 1, n => by simp [dig, dig_length k]
/-- The digits of a number, with zeros ahead. -/
theorem dig_decF : ∀ (k n f : Nat), n < 10 ^ k → k ≤ f → 1 ≤ k → (decF f n).length ≤ k ∧ List.replicate (k - (decF f n).length) 48 ++ decF f n = dig k n
  | 0, _, _, _, _, h => by omega
  | k + 1, n, 0, _, h, _ => by omega
  | k + 1, n, f + 1, hn, hf, _ => by
    unfold decF
    by_cases h : n < 10
    · simp only [h, if_true, List.length_singleton]
      refine ⟨by omega, ?_⟩
      have hz : ∀ j, dig j 0 = List.replicate j 48 := by
        intro j
        induction j with
        | zero => rfl
        | succ j ih =>
          show dig j (0 / 10) ++ [UInt8.ofNat (48 + 0 % 10)] = _
          rw [show (0 : Nat) / 10 = 0 from rfl, ih, List.replicate_succ']
          rfl
      show _ = dig k (n / 10) ++ [UInt8.ofNat (48 + n % 10)]
      rw [show n / 10 = 0 by omega, show n % 10 = n by omega, hz]
      rfl
    · simp only [h, if_false, List.length_append, List.length_singleton]
      have hk : 1 ≤ k := by
        rcases Nat.eq_zero_or_pos k with c | c
        · subst c; simp at hn; omega
        · exact c
      obtain ⟨h1, h2⟩ := dig_decF k (n / 10) f (by rw [Nat.pow_succ] at hn; omega) (by omega) hk
      refine ⟨by omega, ?_⟩
      show _ = dig k (n / 10) ++ [UInt8.ofNat (48 + n % 10)]
      rw [show k + 1 - ((decF f (n / 10)).length + 1) = k - (decF f (n / 10)).length by omega, ← List.append_assoc, h2]
theorem val_range (c : UInt8) : -1 ≤ val c ∧ val c ≤ 36 := by
  unfold val
  refine ⟨Lib.indexByte_ge _ _, ?_⟩
  have : ∀ (l : List UInt8), Lib.indexByte l c ≤ (l.length : Int) - 1 ∨ Lib.indexByte l c = -1 := by
    intro l
    induction l with
    | nil => right; rfl
    | cons b l ih =>
      unfold Lib.indexByte
      split
      · left; simp
      · split
        · right; rfl
        · left; simp only [List.length_cons]; rename_i h; simp at h; omega
  have := this signs
  simp [signs] at this ⊢
  omega
theorem wsum_range : ∀ (s : List UInt8) (i : Nat), (∀ c, c ∈ s → 0 ≤ val c) → 0 ≤ wsum i s ∧ wsum i s ≤ 36 * (i + s.length) * s.length
  | [], i, _ => by simp [wsum]
  | c :: s, i, h => by
    obtain ⟨h1, h2⟩ := wsum_range s (i + 1) fun x hx => h x (by simp [hx])
    have hc := h c (by simp)
    have hc2 := (val_range c).2
    have h3 : 0 ≤ ((i : Int) + 1) * val c := Int.mul_nonneg (by omega) hc
    have h4 : ((i : Int) + 1) * val c ≤ ((i : Int) + 1) * 36 := Int.mul_le_mul_of_nonneg_left hc2 (by omega)
    unfold wsum
    refine ⟨by omega, ?_⟩
    simp only [List.length_cons, Int.natCast_add, Int.natCast_one] at h2 ⊢
    have e : 36 * ((i : Int) + ((s.length : Int) + 1)) * ((s.length : Int) + 1) = 36 * ((i : Int) + 1 + s.length) * s.length + 36 * ((i : Int) + 1 + s.length) := by
      rw [Int.mul_add, Int.mul_one, show (i : Int) + ((s.length : Int) + 1) = (i : Int) + 1 + s.length by omega]
    rw [e]
    omega
theorem wsum_append : ∀ (a b : List UInt8) (i : Nat), wsum i (a ++ b) = wsum i a + wsum (i + a.length) b
  | [], b, i => by simp [wsum]
  | c :: a, b, i => by
    simp only [List.cons_append, wsum, List.length_cons]
    rw [wsum_append a b (i + 1), show i + 1 + a.length = i + (a.length + 1) by omega]; omega
end Sp
namespace Sp
open Go Am
theorem val_some {i : Nat} {c : UInt8} (h : signs[i]? = some c) (hn : ∀ j, j < i → signs[j]? ≠ some c) : val c = i := by
  have key : ∀ (l : List UInt8) (i : Nat), l[i]? = some c → (∀ j, j < i → l[j]? ≠ some c) → Lib.indexByte l c = i := by
    intro l
    induction l with
    | nil => intro i h; simp at h
    | cons b l ih =>
      intro i h hn
      cases i with
      | zero => simp at h; subst h; simp [Lib.indexByte]
      | succ i =>
        have h0 : b ≠ c := fun e => hn 0 (by omega) (by simp [e])
        have := ih i (by simpa using h) fun j hj => by have := hn (j + 1) (by omega); simpa using this
        unfold Lib.indexByte
        rw [if_neg (by simpa using h0), this, if_neg (by simp)]
        omega
  exact key signs i h hn
theorem val_none {c : UInt8} (hn : ∀ j : Nat, signs[j]? ≠ some c) : val c = -1 := by
  have key : ∀ (l : List UInt8), (∀ j : Nat, l[j]? ≠ some c) → Lib.indexByte l c = -1 := by
    intro l
    induction l with
    | nil => intro _; rfl
    | cons b l ih =>
      intro hn
      have h0 : b ≠ c := fun e => hn 0 (by simp [e])
      have := ih fun j => by have := hn (j + 1); simpa using this
      unfold Lib.indexByte
      rw [if_neg (by simpa using h0), this]
      simp
  exact key signs hn
theorem only_in {s : List UInt8} {i lo hi : Nat} {c : UInt8} (hc : s[i]? = some c) (hhi : hi < 128) (h1 : ¬ ((dec s i).1 : Int) < lo) (h2 : ¬ (hi : Int) < ((dec s i).1 : Nat)) : inR lo hi c = true ∧ (dec s i).2 = 1 := by
  rcases Nat.lt_or_ge c.toNat 128 with k | k
  · rw [dec_ascii hc k] at h1 h2 ⊢
    simp only at h1 h2
    refine ⟨?_, rfl⟩
    simp only [inR, Bool.and_eq_true, decide_eq_true_eq]; omega
  · have := dec_big hc k; omega
theorem only_out {s : List UInt8} {i lo hi : Nat} {c : UInt8} (hc : s[i]? = some c) (hhi : hi < 128) (h : ((dec s i).1 : Int) < lo ∨ (hi : Int) < ((dec s i).1 : Nat)) : inR lo hi (s.getD i 0) = false := by
  rw [List.getD_eq_getElem?_getD, hc]
  simp only [Option.getD_some]
  rcases Nat.lt_or_ge c.toNat 128 with k | k
  · rw [dec_ascii hc k] at h
    simp only at h
    cases hr : inR lo hi c with
    | false => rfl
    | true => simp only [inR, Bool.and_eq_true, decide_eq_true_eq] at hr; omega
  · cases hr : inR lo hi c with
    | false => rfl
    | true => simp only [inR, Bool.and_eq_true, decide_eq_true_eq] at hr; omega
theorem all_true {s : List UInt8} {p : UInt8 → Bool} (h : ∀ j, j < s.length → p (s.getD j 0) = true) : s.all p = true := by
  rw [List.all_eq_true]
  intro c hc
  obtain ⟨j, hj, rfl⟩ := List.mem_iff_getElem.1 hc
  have := h j hj
  simpa [hj] using this
theorem all_false {s : List UInt8} {p : UInt8 → Bool} (i : Nat) (hi : i < s.length) (h : p (s.getD i 0) = false) : s.all p = false := by
  rw [← Bool.not_eq_true, List.all_eq_true]
  intro hc
  have := hc s[i] (List.getElem_mem hi)
  rw [show s.getD i 0 = s[i] by simp [hi]] at h
  rw [h] at this; cases this
end Sp

namespace Sp
open Go Am
/-! ### marks: what is computed -/
structure MarkS where
  t : List UInt8
  y : Int
  w : Int
  l : Int
  n : Int
def MarkS.av (m : MarkS) : List AV := [.str m.t, .int .i64 m.y, .int .i64 m.w, .int .i64 m.l, .int .i64 m.n]
def zeroM : MarkS := ⟨[], 0, 0, 0, 0⟩
theorem val_ascii {c : UInt8} (h : 0 ≤ val c) : c.toNat < 128 := by
  have : ∀ n : Fin 256, (decide (0 ≤ val (UInt8.ofNat n.val)) && !decide (n.val < 128)) = false := by decide +kernel
  have h2 := this ⟨c.toNat, c.toNat_lt⟩
  simp only [UInt8.ofNat_toNat, h, decide_true, Bool.true_and, Bool.not_eq_false', decide_eq_true_eq] at h2
  exact h2
theorem up_val {c : UInt8} (h : isUp c = true) : val c = (c.toNat : Int) - 55 := by
  have : ∀ n : Fin 256, isUp (UInt8.ofNat n.val) = true → val (UInt8.ofNat n.val) = (n.val : Int) - 55 := by decide +kernel
  have h2 := this ⟨c.toNat, c.toNat_lt⟩
  simp only [UInt8.ofNat_toNat] at h2
  exact h2 h
theorem dig_val {c : UInt8} (h : isDig c = true) : val c = (c.toNat : Int) - 48 := by
  have : ∀ n : Fin 256, isDig (UInt8.ofNat n.val) = true → val (UInt8.ofNat n.val) = (n.val : Int) - 48 := by decide +kernel
  have h2 := this ⟨c.toNat, c.toNat_lt⟩
  simp only [UInt8.ofNat_toNat] at h2
  exact h2 h
theorem up_rng {c : UInt8} (h : isUp c = true) : 65 ≤ c.toNat ∧ c.toNat ≤ 90 := by
  simpa [isUp] using h
theorem dig_rng {c : UInt8} (h : isDig c = true) : 48 ≤ c.toNat ∧ c.toNat ≤ 57 := by
  simpa [isDig] using h
def kindOk (t : List UInt8) : Prop := 1 ≤ t.length ∧ t.length ≤ 4 ∧ t.all isUp = true
instance (t : List UInt8) : Decidable (kindOk t) := inferInstanceAs (Decidable (_ ∧ _ ∧ _))
def rangeOk (m : MarkS) : Prop := (0 ≤ m.y ∧ m.y ≤ 99) ∧ (1 ≤ m.w ∧ m.w ≤ 53) ∧ (1 ≤ m.l ∧ m.l ≤ 26) ∧ (0 ≤ m.n ∧ m.n ≤ 99999)
instance (m : MarkS) : Decidable (rangeOk m) := inferInstanceAs (Decidable ((_ ∧ _) ∧ (_ ∧ _) ∧ (_ ∧ _) ∧ (_ ∧ _)))
def body (m : MarkS) : List UInt8 := m.t ++ dig 2 m.y.toNat ++ dig 2 m.w.toNat ++ [UInt8.ofNat (64 + m.l).toNat] ++ dig 5 m.n.toNat
def markE (m : MarkS) : Int := if kindOk m.t then if rangeOk m then 0 else 2 else 3
def textS (m : MarkS) : List UInt8 := if markE m = 0 then body m ++ [chk (body m)] else []
/-- The rest behind the letters is formed. -/
def formR (r : List UInt8) : Prop := r.length = 11 ∧ (r.take 4).all isDig = true ∧ ((r.drop 5).take 5).all isDig = true ∧ isUp (r.getD 4 0) = true ∧ 0 ≤ val (r.getD 10 0)
instance (r : List UInt8) : Decidable (formR r) := inferInstanceAs (Decidable (_ ∧ _ ∧ _ ∧ _ ∧ _))
def readM (k r : List UInt8) : MarkS := ⟨k, numL (r.take 2), numL ((r.drop 2).take 2), ((r.getD 4 0).toNat : Int) - 65 + 1, numL ((r.drop 5).take 5)⟩
/-- A text, as letters and a rest. -/
def parseE (k r : List UInt8) : Int :=
  if (1 ≤ k.length ∧ k.length ≤ 4) ∧ formR r then
    if 1 ≤ (readM k r).w ∧ (readM k r).w ≤ 53 then if chk (k ++ r.take 10) = r.getD 10 0 then 0 else 12 else 2
  else 3
def parseM (k r : List UInt8) : MarkS := if parseE k r = 0 then readM k r else zeroM
def Spl (s k r : List UInt8) : Prop := s.takeWhile isUp = k ∧ s.dropWhile isUp = r
theorem Spl.eq {s k r : List UInt8} (h : Spl s k r) : s = k ++ r := by
  obtain ⟨rfl, rfl⟩ := h; exact List.takeWhile_append_dropWhile.symm
theorem Spl.up {s k r : List UInt8} (h : Spl s k r) : ∀ c, c ∈ k → isUp c = true := by
  obtain ⟨rfl, rfl⟩ := h
  intro c hc
  have := List.all_takeWhile (p := isUp) (l := s)
  exact List.all_eq_true.1 this c hc
theorem Spl.len {s k r : List UInt8} (h : Spl s k r) {i : Nat} (hi : i ≤ s.length) (hu : ∀ j, j < i → isUp (s.getD j 0) = true) (he : i < s.length → isUp (s.getD i 0) = false) : i = k.length := by
  obtain ⟨rfl, rfl⟩ := h
  induction s generalizing i with
  | nil => simp at hi; simp [hi]
  | cons c s ih =>
    cases i with
    | zero => have := he (by simp); simp at this; simp [List.takeWhile_cons, this]
    | succ i =>
      have h0 := hu 0 (by omega)
      simp at h0
      rw [List.takeWhile_cons, if_pos h0, List.length_cons]
      have := ih (i := i) (by simpa using hi) (fun j hj => by have := hu (j + 1) (by omega); simpa using this) (fun h => by have := he (by simpa using h); simpa using this)
      omega
theorem markE_3 {m : MarkS} (h : ¬ (1 ≤ m.t.length ∧ m.t.length ≤ 4 ∧ m.t.all isUp = true)) : markE m = 3 := if_neg h
theorem markE_2 {m : MarkS} (h : 1 ≤ m.t.length ∧ m.t.length ≤ 4 ∧ m.t.all isUp = true) (h2 : ¬ rangeOk m) : markE m = 2 := by unfold markE; rw [if_pos (show kindOk m.t from h), if_neg h2]
theorem markE_0 {m : MarkS} (h : 1 ≤ m.t.length ∧ m.t.length ≤ 4 ∧ m.t.all isUp = true) (h2 : rangeOk m) : markE m = 0 := by unfold markE; rw [if_pos (show kindOk m.t from h), if_pos h2]
theorem textS_e {m : MarkS} (h : markE m ≠ 0) : textS m = [] := if_neg h
theorem textS_0 {m : MarkS} (h : markE m = 0) : textS m = body m ++ [chk (body m)] := if_pos h
/-- What a place of the rest must be. -/
def okAt (r : List UInt8) (q : Nat) : Bool := if q = 4 then isUp (r.getD q 0) else isDig (r.getD q 0)
theorem formR_iff {r : List UInt8} (hl : r.length = 11) : formR r ↔ (∀ q, q < 10 → okAt r q = true) ∧ 0 ≤ val (r.getD 10 0) := by
  match r, hl with
  | [a0, a1, a2, a3, a4, a5, a6, a7, a8, a9, a10], _ =>
    simp only [formR, List.length_cons, List.length_nil, List.take_succ_cons, List.take_zero, List.drop_succ_cons, List.drop_zero, List.all_cons, List.all_nil, Bool.and_true, Bool.and_eq_true, List.getD_cons_succ, List.getD_cons_zero, true_and]
    constructor
    · rintro ⟨⟨h0, h1, h2, h3⟩, ⟨h5, h6, h7, h8, h9⟩, h4, h10⟩
      refine ⟨fun q hq => ?_, h10⟩
      match q, hq with
      | 0, _ => exact h0
      | 1, _ => exact h1
      | 2, _ => exact h2
      | 3, _ => exact h3
      | 4, _ => exact h4
      | 5, _ => exact h5
      | 6, _ => exact h6
      | 7, _ => exact h7
      | 8, _ => exact h8
      | 9, _ => exact h9
    · rintro ⟨h, h10⟩
      exact ⟨⟨h 0 (by omega), h 1 (by omega), h 2 (by omega), h 3 (by omega)⟩, ⟨h 5 (by omega), h 6 (by omega), h 7 (by omega), h 8 (by omega), h 9 (by omega)⟩, h 4 (by omega), h10⟩
theorem okAt_4 {r : List UInt8} {q : Nat} (h : q = 4) : okAt r q = isUp (r.getD q 0) := if_pos h
theorem okAt_n {r : List UInt8} {q : Nat} (h : q ≠ 4) : okAt r q = isDig (r.getD q 0) := if_neg h
theorem okAt_val {r : List UInt8} {q : Nat} (h : okAt r q = true) : 0 ≤ val (r.getD q 0) := by
  unfold okAt at h
  split at h
  · have := up_val h; have := up_rng h; omega
  · have := dig_val h; have := dig_rng h; omega
theorem parse_3 {k r : List UInt8} (h : ¬ ((1 ≤ k.length ∧ k.length ≤ 4) ∧ formR r)) : parseE k r = 3 ∧ parseM k r = zeroM := by
  have : parseE k r = 3 := if_neg h
  exact ⟨this, if_neg (by rw [this]; decide)⟩
theorem parse_2 {k r : List UInt8} (h : (1 ≤ k.length ∧ k.length ≤ 4) ∧ formR r) (h2 : ¬ (1 ≤ (readM k r).w ∧ (readM k r).w ≤ 53)) : parseE k r = 2 ∧ parseM k r = zeroM := by
  have : parseE k r = 2 := by unfold parseE; rw [if_pos h, if_neg h2]
  exact ⟨this, if_neg (by rw [this]; decide)⟩
theorem parse_12 {k r : List UInt8} (h : (1 ≤ k.length ∧ k.length ≤ 4) ∧ formR r) (h2 : 1 ≤ (readM k r).w ∧ (readM k r).w ≤ 53) (h3 : chk (k ++ r.take 10) ≠ r.getD 10 0) : parseE k r = 12 ∧ parseM k r = zeroM := by
  have : parseE k r = 12 := by unfold parseE; rw [if_pos h, if_pos h2, if_neg h3]
  exact ⟨this, if_neg (by rw [this]; decide)⟩
theorem parse_0 {k r : List UInt8} (h : (1 ≤ k.length ∧ k.length ≤ 4) ∧ formR r) (h2 : 1 ≤ (readM k r).w ∧ (readM k r).w ≤ 53) (h3 : chk (k ++ r.take 10) = r.getD 10 0) : parseE k r = 0 ∧ parseM k r = readM k r := by
  have : parseE k r = 0 := by unfold parseE; rw [if_pos h, if_pos h2, if_pos h3]
  exact ⟨this, if_pos this⟩
/-! ### lemmas -/
theorem pItoa_eq {n : Nat} (h : n < 1000000000000000000) : pItoa ([.int .i64 n] ++ []) = some (.str (decF 20 n)) := by
  simp only [pItoa, List.append_nil]
  rw [if_pos (by omega)]; simp
theorem pRepeat_eq {k : Int} (h : 0 ≤ k ∧ k ≤ 1000) : pRepeat ([.str [48], .int .i64 k] ++ []) = some (.str (List.replicate k.toNat 48)) := by
  simp only [pRepeat, List.append_nil]
  rw [if_pos h]
theorem pIndexRune_eq {c : UInt8} (h : c.toNat < 128) : pIndexRune ([.str signs, .int .i32 (c.toNat : Nat)] ++ []) = some (.int .i64 (val c)) := by
  simp only [pIndexRune, List.append_nil]
  rw [if_pos (by omega)]
  simp [val]
theorem pContains_eq (c : UInt8) : pContains ([.str signs, .str [c]] ++ []) = some (.bool (decide (0 ≤ val c))) := rfl
theorem pTrimLeft_eq (s : List UInt8) : pTrimLeft ([.str s, .str upper] ++ []) = some (.str (s.dropWhile isUp)) := by
  simp [pTrimLeft]
theorem wsum_take {s : List UInt8} {i : Nat} {c : UInt8} (h : s[i]? = some c) : wsum 0 (s.take (i + 1)) = wsum 0 (s.take i) + (i + 1) * val c := by
  have hi : i < s.length := (List.getElem?_eq_some_iff.1 h).1
  rw [List.take_add_one, wsum_append, h]
  simp [wsum, Nat.min_eq_left (Nat.le_of_lt hi)]
theorem wsum_bound {s : List UInt8} (h : ∀ c, c ∈ s → 0 ≤ val c) (hl : s.length ≤ 1000) (i : Nat) : 0 ≤ wsum 0 (s.take i) ∧ wsum 0 (s.take i) ≤ 36000000 := by
  obtain ⟨h1, h2⟩ := wsum_range (s.take i) 0 fun c hc => h c (List.mem_of_mem_take hc)
  refine ⟨h1, Int.le_trans h2 ?_⟩
  have h3 : (((s.take i).length : Nat) : Int) ≤ 1000 := by simp only [List.length_take]; omega
  have h4 : (0 : Int) ≤ (((s.take i).length : Nat) : Int) := by omega
  generalize (((s.take i).length : Nat) : Int) = x at h3 h4
  have : x * x ≤ 1000 * 1000 := Int.mul_le_mul h3 h3 h4 (by omega)
  rw [show 36 * (((0 : Nat) : Int) + x) * x = 36 * (x * x) by rw [Int.mul_assoc]; simp]
  omega
theorem chk_get (s : List UInt8) : signs[((37 - wsum 0 s % 37) % 37).toNat]? = some (chk s) := by
  unfold chk
  have : ((37 - wsum 0 s % 37) % 37).toNat < signs.length := by simp [signs]; omega
  rw [List.getD_eq_getElem?_getD, List.getElem?_eq_getElem this]; rfl
theorem tmod37 {S : Int} (h : 0 ≤ S) : ((37 - S.tmod 37).tmod 37) = (((37 - S % 37) % 37).toNat : Nat) := by
  rw [Int.tmod_eq_emod_of_nonneg h, Int.tmod_eq_emod_of_nonneg (by omega)]; omega
theorem tmod37b {S : Int} (h : 0 ≤ S) : 0 ≤ S.tmod 37 ∧ S.tmod 37 ≤ 36 := by
  rw [Int.tmod_eq_emod_of_nonneg h]; omega
theorem numL_snoc (s : List UInt8) (c : UInt8) : numL (s ++ [c]) = 10 * numL s + ((c.toNat : Int) - 48) := by simp [numL]
theorem numL_take {s : List UInt8} {i : Nat} {c : UInt8} (h : s[i]? = some c) : numL (s.take (i + 1)) = 10 * numL (s.take i) + ((c.toNat : Int) - 48) := by
  rw [List.take_add_one, h]; exact numL_snoc _ _
theorem numL_bound : ∀ (k : Nat) (s : List UInt8), s.length = k → (∀ c, c ∈ s → isDig c = true) → 0 ≤ numL s ∧ numL s < (10 : Int) ^ k
  | 0, s, h, _ => by
    obtain rfl := List.eq_nil_of_length_eq_zero h; simp [numL]
  | k + 1, s, h, hd => by
    obtain ⟨a, c, rfl⟩ : ∃ a c, s = a ++ [c] := ⟨s.dropLast, s.getLast (by intro e; subst e; simp at h), (List.dropLast_concat_getLast _).symm⟩
    obtain ⟨h1, h2⟩ := numL_bound k a (by simp at h; omega) fun x hx => hd x (by simp [hx])
    have hc := dig_rng (hd c (by simp))
    rw [numL_snoc, Int.pow_succ]
    omega
theorem numL_bd {s : List UInt8} (hd : ∀ c, c ∈ s → isDig c = true) (hl : s.length ≤ 9) (i : Nat) : 0 ≤ numL (s.take i) ∧ numL (s.take i) < 1000000000 := by
  obtain ⟨h1, h2⟩ := numL_bound _ (s.take i) rfl fun c hc => hd c (List.mem_of_mem_take hc)
  refine ⟨h1, Int.lt_of_lt_of_le h2 ?_⟩
  have : (s.take i).length ≤ 9 := by simp; omega
  have h3 := Nat.pow_le_pow_right (n := 10) (by decide) this
  have : ((10 : Nat) ^ (s.take i).length : Nat) ≤ (1000000000 : Nat) := by omega
  rw [show (10 : Int) ^ (s.take i).length = (((10 : Nat) ^ (s.take i).length : Nat) : Int) from (Int.natCast_pow _ _).symm]
  omega

theorem form_vals {k r : List UInt8} (hk : ∀ c, c ∈ k → isUp c = true) (hf : formR r) : ∀ c, c ∈ k ++ r.take 10 → 0 ≤ val c := by
  intro c hc
  rcases List.mem_append.1 hc with h | h
  · have := up_val (hk c h); have := up_rng (hk c h); omega
  · obtain ⟨q, hq, rfl⟩ := List.mem_iff_getElem.1 h
    have hq2 : q < 10 := by simp at hq; omega
    have := okAt_val (((formR_iff hf.1).1 hf).1 q hq2)
    have hl := hf.1
    rw [List.getD_eq_getElem?_getD, List.getElem?_eq_getElem (by omega)] at this
    simpa using this
theorem form_dig {r : List UInt8} (hf : formR r) {a b : Nat} (h : (a = 0 ∧ b = 2) ∨ (a = 2 ∧ b = 2) ∨ (a = 5 ∧ b = 5)) : ∀ c, c ∈ (r.drop a).take b → isDig c = true := by
  intro c hc
  obtain ⟨q, hq, rfl⟩ := List.mem_iff_getElem.1 hc
  have hl := hf.1
  have hq2 : q < b := by simp at hq; omega
  have := ((formR_iff hf.1).1 hf).1 (a + q) (by omega)
  rw [okAt_n (by omega), List.getD_eq_getElem?_getD, List.getElem?_eq_getElem (by omega)] at this
  simpa using this
/-! ### bytes -/
theorem repl_bytes (n : Nat) : repl n [.int .u8 0] = cBytes (List.replicate n 0) := by
  unfold repl cBytes
  induction n with
  | zero => rfl
  | succ n ih => simp only [List.replicate_succ, List.flatten_cons, ih, List.map_cons]; rfl
section
variable {T : Tab} {e : Env} {H : AH} {R : Env → AH → Prop} {d : Nat} {l : List AItem} {x a : AX} {b m : Nat}
theorem wI_setBytes {cs : List UInt8} {t : UInt8} (ha : X e a (.ptr b (0 + m * 1))) (hx : X e x (.int .u8 t.toNat)) (hb : H.get b = some (.cells (cBytes cs) true)) (hm : m < cs.length) (h : wpI T l e (H.put b (.cells (cBytes (cs.set m t)) true)) R) :
    wpI T (.ins ⟨none, .store 1 a x, none⟩ :: l) e H R := by
  refine wI_store ha hx hb rfl rfl rfl ?_ h
  rw [Nat.zero_add, Nat.mul_one]
  exact (lay_set (by simpa using hm)).trans (by simp [cBytes, List.map_set])
theorem wI_sliceT {s t : List UInt8} {lo hi : Option AX} {a b : Nat} (hx : X e x (.str s)) (hl : optNat e 0 lo = some a) (hh : optNat e s.length hi = some b) (hc : b ≤ s.length ∧ a ≤ b) (ht : (s.drop a).take (b - a) = t) (h : wpI T l ((d, .str t) :: e) H R) :
    wpI T (.ins ⟨some d, .sliceStr x lo hi, none⟩ :: l) e H R := by
  subst ht; exact wI_sliceStr hx hl hh hc h
end
theorem set_rep {j : Nat} {tl : List UInt8} {c : UInt8} : (List.replicate (j + 1) (0 : UInt8) ++ tl).set j c = List.replicate j 0 ++ c :: tl := by
  rw [List.replicate_succ', List.append_assoc, List.set_append_right _ _ (by simp)]
  simp
end Sp

namespace Sp
open Go Am
theorem aNO {p : Prop} (h : p := by ((try simp only [decide_eq_true_eq, decide_eq_false_iff_not, Bool.not_eq_true', Bool.not_eq_false', Bool.not_eq_true, Bool.not_eq_false, not_true_eq_false, not_false_eq_true] at *); omega)) : p := h
theorem aNA {p : Prop} (h : p := by ((try simp only [decide_eq_true_eq, decide_eq_false_iff_not, Bool.not_eq_true', Bool.not_eq_false', Bool.not_eq_true, Bool.not_eq_false, not_true_eq_false, not_false_eq_true] at *); assumption)) : p := h
theorem aNS {p : Prop} (h : p := by ((try simp only [decide_eq_true_eq, decide_eq_false_iff_not, Bool.not_eq_true', Bool.not_eq_false', Bool.not_eq_true, Bool.not_eq_false, not_true_eq_false, not_false_eq_true] at *); simp_all)) : p := h
theorem u8_nat {n : Nat} (h : n < 256) : (UInt8.ofNat n).toNat = n := by simp; omega
theorem dig_dig : ∀ (k n : Nat) (c : UInt8), c ∈ dig k n → isDig c = true
  | 0, _, c, h => by simp [dig] at h
  | k + 1, n, c, h => by
    rcases List.mem_append.1 h with h | h
    · exact dig_dig k _ c h
    · simp only [List.mem_singleton] at h
      subst h
      unfold isDig
      rw [u8_nat (by omega)]
      simp; omega
theorem letter_up {l : Int} (h : 1 ≤ l ∧ l ≤ 26) : isUp (UInt8.ofNat (64 + l).toNat) = true := by
  unfold isUp; rw [u8_nat (by omega)]; simp; omega
theorem letter_nat {l : Int} (h : 1 ≤ l ∧ l ≤ 26) : ((UInt8.ofNat (64 + l).toNat).toNat : Int) = 64 + l := by rw [u8_nat (by omega)]; omega
theorem dig_ok {c : UInt8} (h : isDig c = true) : 0 ≤ val c := by have := dig_val h; have := dig_rng h; omega
theorem up_ok {c : UInt8} (h : isUp c = true) : 0 ≤ val c := by have := up_val h; have := up_rng h; omega
theorem body_vals {m : MarkS} (hk : kindOk m.t) (hr : rangeOk m) : ∀ c, c ∈ body m → 0 ≤ val c := by
  intro c hc
  unfold body at hc
  simp only [List.mem_append, List.mem_singleton] at hc
  rcases hc with (((h | h) | h) | h) | h
  · exact up_ok (List.all_eq_true.1 hk.2.2 c h)
  · exact dig_ok (dig_dig _ _ _ h)
  · exact dig_ok (dig_dig _ _ _ h)
  · rw [h]; exact up_ok (letter_up hr.2.2.1)
  · exact dig_ok (dig_dig _ _ _ h)
theorem body_len (m : MarkS) : (body m).length = m.t.length + 10 := by simp [body, dig_length]
theorem aSL {p : Prop} (h : p := by (simp only [List.length_append, dig_length, List.length_cons, List.length_nil, body_len]; omega)) : p := h
theorem chk_lt (s : List UInt8) : (chk s).toNat < 128 := by
  have h := chk_get s
  have : ∀ j : Fin 37, (signs[j.val]?.getD 0).toNat < 128 := by decide +kernel
  have h2 := this ⟨((37 - wsum 0 s % 37) % 37).toNat, by omega⟩
  rw [h] at h2; exact h2
section
variable {T : Tab} {e : Env} {H : AH} {R : Env → AH → Prop} {d : Nat} {l : List AItem} {x : AX}
theorem wI_chrC {k : IntKind} {c : UInt8} (hx : X e x (.int k c.toNat)) (hn : c.toNat < 128) (h : wpI T l ((d, .str [c]) :: e) H R) : wpI T (.ins ⟨some d, .intToStr x, none⟩ :: l) e H R := by
  refine wI_intToStr hx (by omega) ?_
  simpa using h
theorem wI_saddT {s t u : List UInt8} {y : AX} (hx : X e x (.str s)) (hy : X e y (.str t)) (hl : s.length + t.length ≤ 1099511627776) (hu : s ++ t = u) (h : wpI T l ((d, .str u) :: e) H R) : wpI T (.ins ⟨some d, .bin .add x y, none⟩ :: l) e H R := by
  subst hu; exact wI_sadd hx hy hl h
end
theorem wpF_primE {T : Tab} {H : AH} {f : FuncId} {args : List AV} {g : List AV → Option AV} {v : AV} (hp : T.prim f = some g) (hg : g (args ++ []) = some v) : wpF T (.fn f []) args H (fun r H' => r = v ∧ H' = H) := wpF_prim hp hg ⟨rfl, rfl⟩
theorem pTrimLeft_spl {s k r : List UInt8} (h : Spl s k r) : pTrimLeft ([.str s, .str upper] ++ []) = some (.str r) := by rw [pTrimLeft_eq, h.2]
theorem idx {r : List UInt8} {i : Nat} (h : i < r.length) : r[i]? = some (r.getD i 0) := by rw [List.getD_eq_getElem?_getD, List.getElem?_eq_getElem h]; rfl
theorem idx_kr {k r : List UInt8} {i : Nat} (h : i < r.length) : (k ++ r)[k.length + i]? = some (r.getD i 0) := by
  rw [List.getElem?_append_right (by omega), show k.length + i - k.length = i by omega]; exact idx h
theorem slice1 {r : List UInt8} {i : Nat} (h : i < r.length) : (r.drop i).take 1 = [r.getD i 0] := by
  rw [List.getD_eq_getElem?_getD, List.getElem?_eq_getElem h, List.drop_eq_getElem_cons h]; rfl
theorem sl_kr {k r : List UInt8} (a b : Nat) : ((k ++ r).drop (k.length + a)).take (k.length + b - (k.length + a)) = (r.drop a).take (b - a) := by
  rw [List.drop_length_add_append, show k.length + b - (k.length + a) = b - a by omega]
theorem sl_k (k r : List UInt8) (b : Nat) : ((k ++ r).drop 0).take (k.length + b - 0) = k ++ r.take b := by
  rw [List.drop_zero, Nat.sub_zero, List.take_length_add_append]
theorem form_of {r : List UInt8} (hrl : r.length = 11) (h1 : (r.take 4 ++ (r.drop 5).take 5).all isDig = true) (h2 : [r.getD 4 0].all isUp = true) (h3 : 0 ≤ val (r.getD 10 0)) : formR r := by
  rw [List.all_append, Bool.and_eq_true] at h1
  exact ⟨hrl, h1.1, h1.2, by simpa using h2, h3⟩
theorem form_to {r : List UInt8} (hf : formR r) : (r.take 4 ++ (r.drop 5).take 5).all isDig = true ∧ [r.getD 4 0].all isUp = true ∧ 0 ≤ val (r.getD 10 0) := by
  obtain ⟨h1, h2, h3, h4, h5⟩ := hf
  exact ⟨by rw [List.all_append, h2, h3]; rfl, by simp only [List.all_cons, h4, List.all_nil, Bool.and_true], h5⟩
end Sp

namespace Sp
open Go Am
def mcs (m : MarkS) : List AV := [.str m.t, .int .i64 m.y, .int .i64 m.w, .int .i64 m.l, .int .i64 m.n]
def pk (m0 m1 : MarkS) (i : Nat) : MarkS := if i = 0 then m0 else m1
def cStrs (l : List (List UInt8)) : List AV := l.map AV.str
def Strs (H : AH) (v : AV) (l : List (List UInt8)) : Prop := At H v 1 (cStrs l)
theorem Strs.mono {H H' : AH} {v : AV} {l : List (List UInt8)} (h : Strs H v l) (hs : H.Sub H') : Strs H' v l := At.mono h hs
theorem Strs.len {H : AH} {v : AV} {l : List (List UInt8)} (h : Strs H v l) : LenOf v l.length := At.len h (by omega) (by simp [cStrs])
theorem cStrs_snoc (l : List (List UInt8)) (s : List UInt8) : cStrs l ++ [.str s] = cStrs (l ++ [s]) := by simp [cStrs]
theorem cBytes_snoc (l : List UInt8) (c : UInt8) : cBytes l ++ cBytes [c] = cBytes (l ++ [c]) := by simp [cBytes]
section
variable {T : Tab} {e : Env} {H : AH} {R : Env → AH → Prop} {d : Nat} {l : List AItem}
theorem wI_ixStrs {x i : AX} {v : AV} {cs : List (List UInt8)} {k : IntKind} {j : Int} {m : Nat} (hx : X e x v) (hA : Strs H v cs) (hi : X e i (.int k j)) (hj : j = m) (hm : m < cs.length)
    (h : ∀ b o, Cells H b o [.str (cs.getD m [])] → wpI T l ((d, .ptr b o) :: e) H R) : wpI T (.ins ⟨some d, .indexAddrS 1 x i, none⟩ :: l) e H R := by
  refine wI_ix hx hA hi hj (by simp [cStrs]; omega) (by omega) fun b o hc => h b o ?_
  have : ((cStrs cs).drop (m * 1)).take 1 = [.str (cs.getD m [])] := by
    unfold cStrs
    rw [List.take_one, List.head?_drop]
    simp [hm]
  rw [← this]; exact hc
theorem wI_ixM {x i : AX} {v : AV} {m0 m1 : MarkS} {k : IntKind} {j : Int} {m : Nat} (hx : X e x v) (hA : At H v 5 (mcs m0 ++ mcs m1)) (hi : X e i (.int k j)) (hj : j = m) (hm : m < 2)
    (h : ∀ b o, Cells H b o [.str (pk m0 m1 m).t, .int .i64 (pk m0 m1 m).y, .int .i64 (pk m0 m1 m).w, .int .i64 (pk m0 m1 m).l, .int .i64 (pk m0 m1 m).n] → wpI T l ((d, .ptr b o) :: e) H R) : wpI T (.ins ⟨some d, .indexAddrS 5 x i, none⟩ :: l) e H R := by
  refine wI_ix hx hA hi hj (by simp [mcs]; omega) (by omega) fun b o hc => h b o ?_
  match m, hm with
  | 0, _ => exact hc
  | 1, _ => exact hc
end
theorem eqM (m : MarkS) : eqCells [.str, .int, .int, .int, .int] (mcs m) (mcs m) = some true := by simp [eqCells, eqCell, mcs]
theorem eqMM (a b : MarkS) : ∃ r, eqCells [.str, .int, .int, .int, .int] (mcs a) (mcs b) = some r ∧ (r = true ↔ a = b) := by
  obtain ⟨t, y, w, l, n⟩ := a
  obtain ⟨t2, y2, w2, l2, n2⟩ := b
  refine ⟨decide (t = t2) && (y == y2) && (w == w2) && (l == l2) && (n == n2), ?_, by simp [Bool.and_assoc, and_assoc]⟩
  unfold mcs
  simp only [eqCells, eqCell, if_true]
  cases decide (t = t2) <;> cases (y == y2) <;> cases (w == w2) <;> cases (l == l2) <;> cases (n == n2) <;> rfl
theorem tmodB {n k : Int} (hk : 0 < k) : -k < n.tmod k ∧ n.tmod k < k := by
  rcases Int.lt_or_le n 0 with h | h
  · have e : n.tmod k = -((-n).tmod k) := by rw [Int.neg_tmod, Int.neg_neg]
    rw [e, Int.tmod_eq_emod_of_nonneg (by omega)]
    have h1 := Int.emod_nonneg (-n) (show k ≠ 0 by omega)
    have h2 := Int.emod_lt_of_pos (-n) hk
    omega
  · rw [Int.tmod_eq_emod_of_nonneg h]
    have h1 := Int.emod_nonneg n (show k ≠ 0 by omega)
    have h2 := Int.emod_lt_of_pos n hk
    omega
def parseMS (s : List UInt8) : MarkS := parseM (s.takeWhile isUp) (s.dropWhile isUp)
def parseES (s : List UInt8) : Int := parseE (s.takeWhile isUp) (s.dropWhile isUp)
theorem textS_len (m : MarkS) : (textS m).length ≤ 15 := by
  unfold textS
  split
  · rename_i h
    have : kindOk m.t := by
      unfold markE at h
      split at h
      · assumption
      · omega
    have := this.2.1
    simp [body_len]; omega
  · simp
theorem mk_ok {t : List UInt8} {y w l n : Int} (h : 1 ≤ t.length ∧ t.length ≤ 4) (h2 : t.all isUp = true) (h3 : (0 ≤ y ∧ y ≤ 99) ∧ (1 ≤ w ∧ w ≤ 53) ∧ (1 ≤ l ∧ l ≤ 26) ∧ (0 ≤ n ∧ n ≤ 99999)) : kindOk (MarkS.t ⟨t, y, w, l, n⟩) ∧ rangeOk ⟨t, y, w, l, n⟩ := ⟨⟨h.1, h.2, h2⟩, h3⟩
end Sp
