/- A part of the proof: WalkQ. It holds for whatever its statements name; no condition beyond theirs. -/
import Derived.Test.YtllbpnmhoblkgaaDoorSpM
import Derived.Test.YtllbpnmhoblkgaaDoorWalkP
namespace Sp
open Go Am
theorem val_sign : ∀ j : Fin 37, val (signs.getD j.val 0) = j.val := by decide +kernel
theorem val_chk (s : List UInt8) : val (chk s) = (37 - wsum 0 s % 37) % 37 := by
  have h := val_sign ⟨((37 - wsum 0 s % 37) % 37).toNat, by omega⟩
  unfold chk
  rw [h]
  simp only []
  omega
theorem val_inj {a b : UInt8} (ha : 0 ≤ val a) (h : val a = val b) : a = b := by
  have key : ∀ n : Fin 256, 0 ≤ val (UInt8.ofNat n.val) → signs.getD (val (UInt8.ofNat n.val)).toNat 0 = UInt8.ofNat n.val := by decide +kernel
  have h1 := key ⟨a.toNat, a.toNat_lt⟩
  have h2 := key ⟨b.toNat, b.toNat_lt⟩
  simp only [UInt8.ofNat_toNat] at h1 h2
  rw [← h1 ha, ← h2 (by omega), h]
theorem mod37 : ∀ (q : Fin 37) (d : Fin 73), q.val ≠ 0 → ((q.val : Int) * ((d.val : Int) - 36)) % 37 = 0 → d.val = 36 := by decide +kernel
theorem mod37z {q : Nat} {d : Int} (hq : 1 ≤ q ∧ q ≤ 36) (hd : -36 ≤ d ∧ d ≤ 36) (h : ((q : Int) * d) % 37 = 0) : d = 0 := by
  have := mod37 ⟨q, by omega⟩ ⟨(d + 36).toNat, by omega⟩ (by simp only []; omega)
  simp only [] at this
  rw [show (((d + 36).toNat : Nat) : Int) - 36 = d by omega] at this
  have := this h
  omega
/-- A text that its check character fits. -/
structure Fits (o : List UInt8) : Prop where
  len : 12 ≤ o.length ∧ o.length ≤ 15
  pos : ∀ c, c ∈ o → 0 ≤ val c
  sum : ∀ A z, o = A ++ [z] → (wsum 0 A + val z) % 37 = 0
theorem fits_of {o : List UInt8} (h : parseES o = 0) : Fits o := by
  obtain ⟨k, r, hs⟩ : ∃ k r, Spl o k r := ⟨_, _, rfl, rfl⟩
  have e := hs.eq
  have hup := hs.up
  unfold parseES at h
  rw [hs.1, hs.2] at h
  unfold parseE at h
  split at h
  case isFalse => omega
  rename_i hf
  split at h
  case isFalse => omega
  split at h
  case isFalse => omega
  rename_i hc
  obtain ⟨hk, hf⟩ := hf
  have hl := hf.1
  have e2 : o = (k ++ r.take 10) ++ [r.getD 10 0] := by
    rw [e, List.append_assoc, ← slice1 (by omega), ← List.take_add (i := 10) (j := 1), List.take_of_length_le (by omega)]
  refine ⟨by rw [e]; simp; omega, fun c hm => ?_, fun A z ha => ?_⟩
  · rw [e2] at hm
    rcases List.mem_append.1 hm with h1 | h1
    · exact form_vals hup hf c h1
    · simp only [List.mem_singleton] at h1
      rw [h1]; exact hf.2.2.2.2
  · obtain ⟨h1, h2⟩ := List.append_inj' (e2.symm.trans ha) rfl
    cases h2
    subst h1
    rw [← hc, val_chk]; omega
theorem fits_set {A B : List UInt8} {x c : UInt8} (h : Fits (A ++ x :: B)) (k : Fits (A ++ c :: B)) : c = x := by
  have hx := h.pos x (by simp)
  have hc := k.pos c (by simp)
  have rx := (val_range x).2
  have rc := (val_range c).2
  have hl := h.len
  refine val_inj hc ?_
  rcases List.eq_nil_or_concat B with rfl | ⟨B', z, rfl⟩
  · have h1 := h.sum A x rfl
    have h2 := k.sum A c rfl
    omega
  · simp only [List.length_append, List.length_cons, List.concat_eq_append, List.length_nil] at hl
    have h1 := h.sum (A ++ x :: B') z (by simp)
    have h2 := k.sum (A ++ c :: B') z (by simp)
    rw [wsum_append] at h1 h2
    simp only [wsum] at h1 h2
    have := mod37z (q := A.length + 1) (d := val c - val x) (by omega) (by omega) (by
      rw [Int.mul_sub]
      have e : ((A.length + 1 : Nat) : Int) = ((0 + A.length : Nat) : Int) + 1 := by omega
      rw [e]
      generalize (((0 + A.length : Nat) : Int) + 1) * val c = u at *
      generalize (((0 + A.length : Nat) : Int) + 1) * val x = v at *
      omega)
    omega
theorem fits_swap {A B : List UInt8} {x y : UInt8} (h : Fits (A ++ x :: y :: B)) (k : Fits (A ++ y :: x :: B)) : x = y := by
  have hx := h.pos x (by simp)
  have hy := h.pos y (by simp)
  have rx := (val_range x).2
  have ry := (val_range y).2
  have hl := h.len
  refine val_inj hx ?_
  rcases List.eq_nil_or_concat B with rfl | ⟨B', z, rfl⟩
  · simp only [List.length_append, List.length_cons, List.length_nil] at hl
    have h1 := h.sum (A ++ [x]) y (by simp)
    have h2 := k.sum (A ++ [y]) x (by simp)
    rw [wsum_append] at h1 h2
    simp only [wsum] at h1 h2
    have := mod37z (q := A.length) (d := val x - val y) (by omega) (by omega) (by
      rw [Int.mul_sub]
      have e1 : (((0 + A.length : Nat) : Int) + 1) * val x = (A.length : Int) * val x + val x := by rw [Int.add_mul]; simp
      have e2 : (((0 + A.length : Nat) : Int) + 1) * val y = (A.length : Int) * val y + val y := by rw [Int.add_mul]; simp
      rw [e1] at h1
      rw [e2] at h2
      generalize (A.length : Int) * val x = u at *
      generalize (A.length : Int) * val y = v at *
      omega)
    omega
  · have h1 := h.sum (A ++ x :: y :: B') z (by simp)
    have h2 := k.sum (A ++ y :: x :: B') z (by simp)
    rw [wsum_append] at h1 h2
    simp only [wsum] at h1 h2
    have e1 : ∀ v : Int, (((0 + A.length + 1 : Nat) : Int) + 1) * v = (((0 + A.length : Nat) : Int) + 1) * v + v := fun v => by
      rw [show (((0 + A.length + 1 : Nat) : Int) + 1) = (((0 + A.length : Nat) : Int) + 1) + 1 by omega, Int.add_mul (((0 + A.length : Nat) : Int) + 1)]; simp
    rw [e1] at h1 h2
    generalize (((0 + A.length : Nat) : Int) + 1) * val x = u at *
    generalize (((0 + A.length : Nat) : Int) + 1) * val y = v at *
    omega
theorem set_split {s : List UInt8} {p : Nat} (hp : p < s.length) (c : UInt8) : s = s.take p ++ s.getD p 0 :: s.drop (p + 1) ∧ s.set p c = s.take p ++ c :: s.drop (p + 1) := by
  refine ⟨?_, ?_⟩
  · rw [List.getD_eq_getElem?_getD, List.getElem?_eq_getElem hp]
    simp
  · rw [List.set_eq_take_append_cons_drop, if_pos hp]
theorem set_iff {s : List UInt8} {p : Nat} (h : parseES s = 0) (hp : p < s.length) (c : UInt8) : parseES (s.set p c) = 0 ↔ s.set p c = s := by
  obtain ⟨e1, e2⟩ := set_split hp c
  refine ⟨fun k => ?_, fun k => by rw [k]; exact h⟩
  have h1 := fits_of h
  have h2 := fits_of k
  rw [e1] at h1
  rw [e2] at h2
  have := fits_set h1 h2
  rw [e2, this, ← e1]
/-- Two neighbours change places. -/
def swp (s : List UInt8) (p : Nat) : List UInt8 := s.take (p - 1) ++ [s.getD p 0, s.getD (p - 1) 0] ++ s.drop (p + 1)
theorem swap_iff {s : List UInt8} {p : Nat} (h : parseES s = 0) (h0 : 0 < p) (hp : p < s.length) : parseES (swp s p) = 0 ↔ swp s p = s := by
  have e1 : s = s.take (p - 1) ++ s.getD (p - 1) 0 :: s.getD p 0 :: s.drop (p + 1) := by
    have h1 := (set_split (s := s) (p := p - 1) (by omega) 0).1
    rw [show p - 1 + 1 = p by omega, List.drop_eq_getElem_cons hp] at h1
    rw [show s.getD p 0 = s[p] by simp [hp]]
    exact h1
  have e2 : swp s p = s.take (p - 1) ++ s.getD p 0 :: s.getD (p - 1) 0 :: s.drop (p + 1) := by simp [swp]
  refine ⟨fun k => ?_, fun k => by rw [k]; exact h⟩
  have h1 := fits_of h
  have h2 := fits_of k
  rw [e1] at h1
  rw [e2] at h2
  have := fits_swap h1 h2
  rw [e2, ← this]
  rw [← this] at e1
  exact e1.symm
theorem swp_len {s : List UInt8} {p : Nat} (h0 : 0 < p) (hp : p < s.length) : (swp s p).length = s.length := by
  simp [swp]; omega
theorem numL_dig : ∀ (k n : Nat), n < 10 ^ k → numL (dig k n) = n
  | 0, n, h => by simp at h; subst h; rfl
  | k + 1, n, h => by
    rw [dig, numL_snoc, numL_dig k (n / 10) (by rw [Nat.pow_succ] at h; omega), u8_nat (by omega)]
    omega
/-- A mark's text is read as the mark. -/
theorem mark_round {m : MarkS} (hk : kindOk m.t) (hr : rangeOk m) : markE m = 0 ∧ parseES (textS m) = 0 ∧ parseMS (textS m) = m ∧ (textS m).length = m.t.length + 11 := by
  have h0 := markE_0 hk hr
  rw [textS_0 h0]
  obtain ⟨t, y, w, l, n⟩ := m
  obtain ⟨hr1, hr2, hr3, hr4⟩ := id hr
  simp only at hr1 hr2 hr3 hr4
  obtain ⟨h1, h2, h3⟩ := id hk
  simp only at h1 h2 h3
  generalize hb : body ⟨t, y, w, l, n⟩ = bd
  have hbd : bd = t ++ (dig 2 y.toNat ++ (dig 2 w.toNat ++ ([UInt8.ofNat (64 + l).toNat] ++ dig 5 n.toNat))) := by rw [← hb]; simp [body]
  let r := dig 2 y.toNat ++ (dig 2 w.toNat ++ ([UInt8.ofNat (64 + l).toNat] ++ (dig 5 n.toNat ++ [chk bd])))
  have hs : bd ++ [chk bd] = t ++ r := by
    show _ = t ++ (dig 2 y.toNat ++ (dig 2 w.toNat ++ ([UInt8.ofNat (64 + l).toNat] ++ (dig 5 n.toNat ++ [chk bd]))))
    rw [show bd ++ [chk bd] = (t ++ (dig 2 y.toNat ++ (dig 2 w.toNat ++ ([UInt8.ofNat (64 + l).toNat] ++ dig 5 n.toNat)))) ++ [chk bd] by rw [← hbd]]
    simp
  obtain ⟨y1, y2, hy⟩ : ∃ a b, dig 2 y.toNat = [a, b] := ⟨_, _, rfl⟩
  obtain ⟨w1, w2, hw⟩ : ∃ a b, dig 2 w.toNat = [a, b] := ⟨_, _, rfl⟩
  obtain ⟨n1, n2, n3, n4, n5, hn⟩ : ∃ a b c d e, dig 5 n.toNat = [a, b, c, d, e] := ⟨_, _, _, _, _, rfl⟩
  have dy := dig_dig 2 y.toNat
  have dw := dig_dig 2 w.toNat
  have dn := dig_dig 5 n.toNat
  have ny := numL_dig 2 y.toNat (by omega)
  have nw := numL_dig 2 w.toNat (by omega)
  have nn := numL_dig 5 n.toNat (by omega)
  have hrr : r = [y1, y2, w1, w2, UInt8.ofNat (64 + l).toNat, n1, n2, n3, n4, n5, chk bd] := by
    show dig 2 y.toNat ++ (dig 2 w.toNat ++ ([UInt8.ofNat (64 + l).toNat] ++ (dig 5 n.toNat ++ [chk bd]))) = _
    rw [hy, hw, hn]; rfl
  rw [hy] at dy ny
  rw [hw] at dw nw
  rw [hn] at dn nn
  have hlu := letter_up hr3
  have hy1 : isUp y1 = false := by
    have := dig_rng (dy y1 (by simp))
    unfold isUp; simp; omega
  have htw : ∀ u : List UInt8, u.all isUp = true → (u ++ r).takeWhile isUp = u ∧ (u ++ r).dropWhile isUp = r := by
    intro u hu
    rw [hrr]
    induction u with
    | nil => simp [hy1]
    | cons a u ih =>
      simp only [List.all_cons, Bool.and_eq_true] at hu
      have := ih hu.2
      simp only [List.cons_append, List.takeWhile_cons, List.dropWhile_cons, hu.1, if_true]
      exact ⟨by rw [this.1], this.2⟩
  obtain ⟨e1, e2⟩ := htw t h3
  have hform : formR r := by
    rw [hrr]
    refine ⟨rfl, ?_, ?_, hlu, ?_⟩
    · simp [dy y1, dy y2, dw w1, dw w2]
    · simp [dn n1, dn n2, dn n3, dn n4, dn n5]
    · show 0 ≤ val (chk bd)
      rw [val_chk]; omega
  have hread : readM t r = ⟨t, y, w, l, n⟩ := by
    rw [hrr]
    unfold readM
    have e3 : (List.take 2 [y1, y2, w1, w2, UInt8.ofNat (64 + l).toNat, n1, n2, n3, n4, n5, chk bd]) = [y1, y2] := rfl
    have e4 : (List.take 2 (List.drop 2 [y1, y2, w1, w2, UInt8.ofNat (64 + l).toNat, n1, n2, n3, n4, n5, chk bd])) = [w1, w2] := rfl
    have e5 : (List.take 5 (List.drop 5 [y1, y2, w1, w2, UInt8.ofNat (64 + l).toNat, n1, n2, n3, n4, n5, chk bd])) = [n1, n2, n3, n4, n5] := rfl
    have e6 : ([y1, y2, w1, w2, UInt8.ofNat (64 + l).toNat, n1, n2, n3, n4, n5, chk bd] : List UInt8).getD 4 0 = UInt8.ofNat (64 + l).toNat := rfl
    rw [e3, e4, e5, e6, ny, nw, nn, letter_nat hr3]
    congr 1 <;> omega
  have hck : chk (t ++ r.take 10) = r.getD 10 0 := by
    have : t ++ r.take 10 = bd := by
      rw [hbd, hrr, hy, hw, hn]; rfl
    rw [this, hrr]; rfl
  have hp := parse_0 (k := t) (r := r) ⟨⟨h1, h2⟩, hform⟩ (by rw [hread]; exact hr2) hck
  refine ⟨h0, ?_, ?_, ?_⟩
  · rw [hs]; unfold parseES; rw [e1, e2]; exact hp.1
  · rw [hs]; unfold parseMS; rw [e1, e2, hp.2, hread]
  · rw [hs, hrr]; simp
end Sp

namespace Wk
open Go Am DC Sp
variable {T : Tab} {H0 : AH}

theorem l15 (hT : Ext fns1 T) (hM : Ext fnsM T) (hL : Ext fnsL15 T) (hAw : T.prim 17 = some pAwake) (h127 : T.prim 127 = some pItoa) (h128 : T.prim 128 = some pRepeat) (h108 : T.prim 108 = some pTrimLeft) (h109 : T.prim 109 = some pContains) (h129 : T.prim 129 = some pIndexRune) {v : AV} {l : List Int} (hv : Ints H0 v l) (hl : l.length < 9223372036854775808) (x y : Int) :
    wpF T (.fn 15 []) [v, .int .i64 x, .int .i64 y] H0 (fun r H => r = .bool true) := by
  refine wF hL (af := A15) rfl ?_
  refine wpC_seq ?_
  refine wC_ops ?_
  refine wI_mov .c ?_
  refine wI_end (.cons (.there rfl (.here)) (.cons (.there rfl (.there rfl (.here))) (.cons (.there rfl (.there rfl (.there rfl (.here)))) .nil))) ?_
  refine wpC_seq ?_
  refine wC_ops ?_
  refine wI_mov (.t (.here)) ?_
  refine wI_call (.cons (.t (.here)) .nil) (s19 hT (hv.mono aSUB) hl) ?_
  rintro _ H2 ⟨d, rfl, hd2, hdl2, hs2⟩
  have hsn2 := hs2.next
  refine wI_call (.cons (.t (.here)) .nil) (s58 hT hM hd2) ?_
  rintro _ H3 ⟨⟨m, rfl, hk, hr⟩, hx3⟩
  have hx3n := hx3.next
  obtain ⟨hm0, hp0, hpm, hln⟩ := mark_round hk hr
  have hk4 := hk.2.1
  have hk1 := hk.1
  refine wI_alloc ?_
  first | refine wI_storeA (.t (.here)) (.t (.there rfl (.here))) aGET rfl aBOX aRC ?_ | refine wI_store1 (.t (.here)) (.t (.there rfl (.here))) aGET aONE aRC ?_
  refine wI_end (.cons (.there rfl (.there rfl (.there rfl (.there rfl (.there rfl (.here)))))) (.cons (.there rfl (.there rfl (.there rfl (.there rfl (.there rfl (.there rfl (.here))))))) (.cons (.here) .nil))) ?_
  refine wpC_seq ?_
  refine wC_ops ?_
  refine wI_loadT (.t (.there rfl (.there rfl (.here)))) aGET aRC ?_
  refine wI_call (.cons (.t (.here)) .nil) (s59 hT hM h127 h128 h129 _) ?_
  rintro _ H4 ⟨rfl, hs4⟩
  have hsn4 := hs4.next
  rw [hm0]
  generalize textS m = s at *
  refine wI_mov (.t (.here)) ?_
  refine wI_extract (.t (.here)) rfl ?_
  refine wI_extract (.t (.there rfl (.here))) rfl ?_
  refine wI_mov (.t (.there rfl (.here))) ?_
  refine wI_mov (.t (.there rfl (.here))) ?_
  refine wI_end (.cons (.there rfl (.there rfl (.there rfl (.there rfl (.there rfl (.there rfl (.there rfl (.here)))))))) (.cons (.there rfl (.there rfl (.there rfl (.there rfl (.there rfl (.there rfl (.there rfl (.there rfl (.here))))))))) (.cons (.there rfl (.there rfl (.there rfl (.there rfl (.there rfl (.there rfl (.there rfl (.there rfl (.there rfl (.here)))))))))) (.cons (.there rfl (.here)) (.cons (.here) .nil))))) ?_
  refine wpC_seq ?_
  refine wC_ops ?_
  refine wI_mov (.t (.there rfl (.there rfl (.there rfl (.here))))) ?_
  refine wI_call (.cons (.t (.here)) .nil) (s61s hT hM h108 h109 h129 _ aOM) ?_
  rintro _ H5 ⟨rfl, hs5⟩
  have hsn5 := hs5.next
  rw [hp0, hpm]
  refine wI_mov (.t (.here)) ?_
  refine wI_extract (.t (.here)) rfl ?_
  refine wI_extract (.t (.there rfl (.here))) rfl ?_
  refine wI_alloc ?_
  first | refine wI_storeA (.t (.here)) (.t (.there rfl (.there rfl (.here)))) aGET rfl aBOX aRC ?_ | refine wI_store1 (.t (.here)) (.t (.there rfl (.there rfl (.here)))) aGET aONE aRC ?_
  refine wI_mov (.t (.there rfl (.here))) ?_
  refine wI_end (.cons (.there rfl (.there rfl (.there rfl (.there rfl (.there rfl (.there rfl (.there rfl (.here)))))))) (.cons (.there rfl (.there rfl (.there rfl (.there rfl (.there rfl (.there rfl (.there rfl (.there rfl (.here))))))))) (.cons (.there rfl (.there rfl (.there rfl (.there rfl (.there rfl (.there rfl (.there rfl (.there rfl (.there rfl (.here)))))))))) (.cons (.there rfl (.there rfl (.there rfl (.there rfl (.there rfl (.there rfl (.there rfl (.there rfl (.there rfl (.there rfl (.here))))))))))) (.cons (.there rfl (.there rfl (.there rfl (.there rfl (.there rfl (.there rfl (.there rfl (.there rfl (.there rfl (.there rfl (.there rfl (.here)))))))))))) (.cons (.there rfl (.here)) (.cons (.here) .nil))))))) ?_
  refine wpC_seq ?_
  refine wpC_seq ?_
  refine wC_ops ?_
  refine wI_mov (.t (.there rfl (.there rfl (.there rfl (.there rfl (.here)))))) ?_
  refine wI_neI (.t (.here)) .c ?_
  refine wI_mov (.t (.here)) ?_
  refine wI_gdF (.here) (fun g5 => ?_) (fun g5 => ?_)
  · -- g5 False
    refine wI_mov (.t (.there rfl (.there rfl (.there rfl (.there rfl (.there rfl (.there rfl (.there rfl (.there rfl (.there rfl (.here))))))))))) ?_
    refine wI_yes (.there rfl (.here)) g5 ?_
    refine wI_neI (.t (.here)) .c ?_
    refine wI_pickF (.t (.there rfl (.there rfl (.here)))) g5 (.t (.here)) ?_
    refine wI_mov (.t (.here)) ?_
    refine wI_gdF (.here) (fun g6 => ?_) (fun g6 => ?_)
    · -- g6 False
      refine wI_loadT (.t (.there rfl (.there rfl (.there rfl (.there rfl (.there rfl (.there rfl (.there rfl (.there rfl (.there rfl (.there rfl (.there rfl (.there rfl (.here)))))))))))))) aGET aRC ?_
      refine wI_yes (.there rfl (.here)) g6 ?_
      refine wI_loadT (.t (.there rfl (.there rfl (.there rfl (.there rfl (.there rfl (.there rfl (.there rfl (.there rfl (.there rfl (.there rfl (.here)))))))))))) aGET aRC ?_
      refine wI_yes (.there rfl (.there rfl (.here))) g6 ?_
      refine wI_eqAgg (r := true) (.t (.there rfl (.here))) (.t (.here)) (eqM _) ?_
      refine wI_pickF (.t (.there rfl (.there rfl (.there rfl (.here))))) g6 (.t (.here)) ?_
      refine wI_mov (.t (.here)) ?_
      refine wI_yes (.here) rfl ?_
      refine wI_mov (.t (.there rfl (.there rfl (.there rfl (.there rfl (.there rfl (.there rfl (.there rfl (.there rfl (.there rfl (.there rfl (.there rfl (.there rfl (.there rfl (.there rfl (.there rfl (.here))))))))))))))))) ?_
      refine wI_yes (.there rfl (.here)) rfl ?_
      refine wI_lenStr (.t (.here)) ?_
      refine wI_yes (.there rfl (.there rfl (.here))) rfl ?_
      refine wI_fieldAddr (.t (.there rfl (.there rfl (.there rfl (.there rfl (.there rfl (.there rfl (.there rfl (.there rfl (.there rfl (.there rfl (.there rfl (.there rfl (.there rfl (.there rfl (.there rfl (.there rfl (.here)))))))))))))))))) ?_
      refine wI_yes (.there rfl (.there rfl (.there rfl (.here)))) rfl ?_
      refine wI_load1 (.t (.here)) aGET rfl ?_
      refine wI_yes (.there rfl (.there rfl (.there rfl (.there rfl (.here))))) rfl ?_
      refine wI_lenStr (.t (.here)) ?_
      refine wI_yes (.there rfl (.there rfl (.there rfl (.there rfl (.there rfl (.here)))))) rfl ?_
      first | refine wI_add (.t (.here)) .c aWRAP ?_ | refine wI_sadd (.t (.here)) .c (by (simp only [List.length_append, List.length_take, List.length_drop, List.length_cons, List.length_nil] at *; omega)) ?_
      refine wI_yes (.there rfl (.there rfl (.there rfl (.there rfl (.there rfl (.there rfl (.here))))))) rfl ?_
      refine wI_neI (.t (.there rfl (.there rfl (.there rfl (.there rfl (.here)))))) (.t (.here)) ?_
      refine wI_pickF (.t (.there rfl (.there rfl (.there rfl (.there rfl (.there rfl (.there rfl (.there rfl (.here))))))))) rfl (.t (.here)) ?_
      refine wI_end (.cons (.there rfl (.there rfl (.there rfl (.there rfl (.there rfl (.there rfl (.there rfl (.there rfl (.there rfl (.there rfl (.there rfl (.there rfl (.there rfl (.there rfl (.there rfl (.there rfl (.there rfl (.there rfl (.there rfl (.there rfl (.here))))))))))))))))))))) (.cons (.there rfl (.there rfl (.there rfl (.there rfl (.there rfl (.there rfl (.there rfl (.there rfl (.there rfl (.there rfl (.there rfl (.there rfl (.there rfl (.there rfl (.there rfl (.there rfl (.there rfl (.there rfl (.there rfl (.there rfl (.there rfl (.here)))))))))))))))))))))) (.cons (.there rfl (.there rfl (.there rfl (.there rfl (.there rfl (.there rfl (.there rfl (.there rfl (.there rfl (.there rfl (.there rfl (.there rfl (.there rfl (.there rfl (.there rfl (.there rfl (.there rfl (.there rfl (.there rfl (.there rfl (.there rfl (.there rfl (.there rfl (.here)))))))))))))))))))))))) (.cons (.here) .nil)))) ?_
      refine wC_if (.t (.there rfl (.there rfl (.there rfl (.here))))) (fun c7 => ?_) (fun c7 => ?_)
      · -- c7 True
        exfalso
        simp_all --done
      · -- c7 False
        refine wpC_skip ?_
        refine wpC_seq ?_
        refine wC_ops ?_
        refine wI_mov (.t (.here)) ?_
        refine wI_mov (.t (.there rfl (.there rfl (.there rfl (.here))))) ?_
        refine wI_lenStr (.t (.here)) ?_
        refine wI_call (.cons (.t (.there rfl (.there rfl (.here)))) (.cons (.t (.here)) .nil)) (s63 hM x s.length aOM) ?_
        rintro _ _ ⟨⟨p, rfl, hp⟩, heq8⟩
        obtain rfl := heq8.symm
        refine wI_mov (.t (.here)) ?_
        refine wI_end (.cons (.here) (.cons (.there rfl (.there rfl (.there rfl (.there rfl (.there rfl (.there rfl (.here))))))) (.cons (.there rfl (.there rfl (.there rfl (.there rfl (.there rfl (.there rfl (.there rfl (.here)))))))) .nil))) ?_
        refine wpC_seq ?_
        refine wC_ops ?_
        refine wI_mov (.t (.there rfl (.here))) ?_
        refine wI_call (.cons (.t (.here)) (.cons .c .nil)) (s63 hM y 37 aOM) ?_
        rintro _ _ ⟨⟨q, rfl, hq⟩, heq9⟩
        obtain rfl := heq9.symm
        refine wI_indexStr (s := signs) (c := signs.getD q 0) .c (.t (.here)) rfl (idx (by simp [signs]; omega)) ?_
        refine wI_mov (.t (.here)) ?_
        refine wI_end (.cons (.there rfl (.there rfl (.there rfl (.there rfl (.here))))) (.cons (.there rfl (.there rfl (.there rfl (.there rfl (.there rfl (.there rfl (.here))))))) (.cons (.here) .nil))) ?_
        refine wpC_seq ?_
        refine wC_ops ?_
        refine wI_mov (.t (.there rfl (.here))) ?_
        refine wI_mov (.t (.there rfl (.here))) ?_
        refine wI_sliceT (t := s.take p) (.t (.there rfl (.here))) rfl (optNat_some (n := p) (.t (.here)) (by first | rfl | omega)) (by first | omega | (simp; omega)) (by simp) ?_
        refine wI_mov (.t (.there rfl (.there rfl (.there rfl (.there rfl (.there rfl (.here))))))) ?_
        refine wI_buildSlice (.one (.t (.here)) aONE rfl aRC .nil) ?_
        refine wI_bytesToStr (.t (.here)) (At.of_get (cs := cBytes [signs.getD q 0]) aGET rfl) ?_
        refine wI_sadd (.t (.there rfl (.there rfl (.there rfl (.here))))) (.t (.here)) (by simp; omega) ?_
        refine wI_mov (.t (.there rfl (.there rfl (.there rfl (.there rfl (.there rfl (.there rfl (.there rfl (.there rfl (.here)))))))))) ?_
        refine wI_mov (.t (.there rfl (.there rfl (.there rfl (.there rfl (.there rfl (.there rfl (.there rfl (.there rfl (.here)))))))))) ?_
        first | refine wI_add (.t (.here)) .c aWRAP ?_ | refine wI_sadd (.t (.here)) .c (by (simp only [List.length_append, List.length_take, List.length_drop, List.length_cons, List.length_nil] at *; omega)) ?_
        refine wI_sliceT (t := s.drop (p + 1)) (.t (.there rfl (.there rfl (.here)))) (optNat_some (n := p + 1) (.t (.here)) (by first | rfl | omega)) rfl (by first | omega | (simp; omega)) (by exact List.take_of_length_le (by simp)) ?_
        refine wI_saddT (u := s.set p (signs.getD q 0)) (.t (.there rfl (.there rfl (.there rfl (.there rfl (.here)))))) (.t (.here)) (by simp; omega) (by rw [(set_split aOM _).2]; simp) ?_
        refine wI_mov (.t (.here)) ?_
        refine wI_end (.cons (.there rfl (.there rfl (.there rfl (.there rfl (.there rfl (.there rfl (.there rfl (.there rfl (.there rfl (.there rfl (.there rfl (.there rfl (.there rfl (.here)))))))))))))) (.cons (.there rfl (.there rfl (.there rfl (.there rfl (.there rfl (.there rfl (.there rfl (.there rfl (.there rfl (.there rfl (.there rfl (.there rfl (.there rfl (.there rfl (.here))))))))))))))) (.cons (.here) .nil))) ?_
        refine wpC_seq ?_
        refine wC_ops ?_
        refine wI_mov (.t (.there rfl (.there rfl (.here)))) ?_
        refine wI_call (.cons (.t (.here)) .nil) (s61s hT hM h108 h109 h129 _ (by simp; omega)) ?_
        rintro _ H7 ⟨rfl, hs7⟩
        have hsn7 := hs7.next
        have hiff := set_iff hp0 (show p < s.length by omega) (signs.getD q 0)
        refine wI_mov (.t (.here)) ?_
        refine wI_extract (.t (.here)) rfl ?_
        refine wI_extract (.t (.there rfl (.here))) rfl ?_
        refine wI_alloc ?_
        first | refine wI_storeA (.t (.here)) (.t (.there rfl (.there rfl (.here)))) aGET rfl aBOX aRC ?_ | refine wI_store1 (.t (.here)) (.t (.there rfl (.there rfl (.here)))) aGET aONE aRC ?_
        refine wI_mov (.t (.there rfl (.here))) ?_
        refine wI_end (.cons (.there rfl (.there rfl (.there rfl (.there rfl (.there rfl (.there rfl (.there rfl (.here)))))))) (.cons (.there rfl (.there rfl (.there rfl (.there rfl (.there rfl (.there rfl (.there rfl (.there rfl (.here))))))))) (.cons (.there rfl (.there rfl (.there rfl (.there rfl (.there rfl (.there rfl (.there rfl (.there rfl (.there rfl (.here)))))))))) (.cons (.here) .nil)))) ?_
        refine wpC_seq ?_
        refine wpC_seq ?_
        refine wC_ops ?_
        refine wI_mov (.t (.there rfl (.there rfl (.there rfl (.here))))) ?_
        refine wI_eqI (.t (.here)) .c ?_
        refine wI_mov (.t (.there rfl (.there rfl (.there rfl (.there rfl (.here)))))) ?_
        refine wI_mov (.t (.there rfl (.there rfl (.there rfl (.there rfl (.here)))))) ?_
        refine wI_eqS (.t (.there rfl (.here))) (.t (.here)) ?_
        refine wI_neB (.t (.there rfl (.there rfl (.there rfl (.here))))) (.t (.here)) ?_
        refine wI_end (.cons (.there rfl (.there rfl (.there rfl (.there rfl (.there rfl (.there rfl (.here))))))) (.cons (.there rfl (.there rfl (.there rfl (.there rfl (.there rfl (.there rfl (.there rfl (.here)))))))) (.cons (.here) .nil))) ?_
        refine wC_cond (.t (.there rfl (.there rfl (.here)))) (fun c11 => ?_) (fun c11 => ?_)
        · -- c11 True
          exfalso
          revert ‹_›
          simp only [decide_eq_decide.2 hiff]
          simp --done
        · -- c11 False
          refine wpC_skip ?_
          refine wpC_seq ?_
          refine wpC_seq ?_
          refine wC_ops ?_
          refine wI_mov (.t (.here)) ?_
          refine wI_eqI (.t (.here)) .c ?_
          refine wI_end (.cons (.there rfl (.there rfl (.here))) (.cons (.there rfl (.there rfl (.there rfl (.here)))) (.cons (.here) .nil))) ?_
          refine wC_if (.t (.there rfl (.there rfl (.here)))) (fun c12 => ?_) (fun c12 => ?_)
          · -- c12 True
            refine wpC_seq ?_
            refine wC_ops ?_
            refine wI_call .nil (wpF_prim hAw rfl (S := fun v _ => v = .bool true) rfl) ?_
            rintro _ _ rfl
            refine wI_mov (.t (.here)) ?_
            refine wI_end (.cons (.here) .nil) ?_
            refine wpC_ret (ret1 (.here) ?_)
            first | exact rfl | (exfalso; simp_all; done)
          · -- c12 False
            have hpz : p ≠ 0 := by omega
            refine wpC_skip ?_
            refine wpC_seq ?_
            refine wC_ops ?_
            refine wI_mov (.t (.there rfl (.here))) ?_
            refine wI_mov (.t (.there rfl (.here))) ?_
            refine wI_sub (.t (.here)) .c aWRAP ?_
            refine wI_sliceT (t := s.take (p - 1)) (.t (.there rfl (.there rfl (.here)))) rfl (optNat_some (n := p - 1) (.t (.here)) (by first | rfl | omega)) (by first | omega | (simp; omega)) (by simp) ?_
            refine wI_mov (.t (.there rfl (.there rfl (.there rfl (.there rfl (.there rfl (.here))))))) ?_
            refine wI_mov (.t (.there rfl (.there rfl (.there rfl (.there rfl (.there rfl (.here))))))) ?_
            have hp1 : 0 < p := by omega
            refine wI_indexStr (c := s.getD p 0) (.t (.there rfl (.here))) (.t (.here)) rfl (idx aOM) ?_
            refine wI_mov (.t (.there rfl (.there rfl (.there rfl (.there rfl (.there rfl (.there rfl (.there rfl (.there rfl (.here)))))))))) ?_
            refine wI_mov (.t (.there rfl (.there rfl (.there rfl (.there rfl (.there rfl (.there rfl (.there rfl (.there rfl (.here)))))))))) ?_
            refine wI_sub (.t (.here)) .c aWRAP ?_
            refine wI_indexStr (m := p - 1) (c := s.getD (p - 1) 0) (.t (.there rfl (.there rfl (.here)))) (.t (.here)) aOM (idx aOM) ?_
            refine wI_buildSlice (.one (.t (.there rfl (.there rfl (.there rfl (.there rfl (.here)))))) aONE rfl aRC (.one (.t (.here)) aONE rfl aRC .nil)) ?_
            refine wI_bytesToStr (.t (.here)) (At.of_get (cs := cBytes [s.getD p 0, s.getD (p - 1) 0]) aGET rfl) ?_
            refine wI_sadd (.t (.there rfl (.there rfl (.there rfl (.there rfl (.there rfl (.there rfl (.there rfl (.there rfl (.there rfl (.here))))))))))) (.t (.here)) (by simp; omega) ?_
            refine wI_mov (.t (.there rfl (.there rfl (.there rfl (.there rfl (.there rfl (.there rfl (.there rfl (.there rfl (.there rfl (.there rfl (.there rfl (.there rfl (.there rfl (.there rfl (.there rfl (.here))))))))))))))))) ?_
            refine wI_mov (.t (.there rfl (.there rfl (.there rfl (.there rfl (.there rfl (.there rfl (.there rfl (.there rfl (.there rfl (.there rfl (.there rfl (.there rfl (.there rfl (.there rfl (.there rfl (.here))))))))))))))))) ?_
            first | refine wI_add (.t (.here)) .c aWRAP ?_ | refine wI_sadd (.t (.here)) .c (by (simp only [List.length_append, List.length_take, List.length_drop, List.length_cons, List.length_nil] at *; omega)) ?_
            refine wI_sliceT (t := s.drop (p + 1)) (.t (.there rfl (.there rfl (.here)))) (optNat_some (n := p + 1) (.t (.here)) (by first | rfl | omega)) rfl (by first | omega | (simp; omega)) (by exact List.take_of_length_le (by simp)) ?_
            refine wI_saddT (u := swp s p) (.t (.there rfl (.there rfl (.there rfl (.there rfl (.here)))))) (.t (.here)) (by simp; omega) (by simp [swp]) ?_
            refine wI_mov (.t (.here)) ?_
            refine wI_end (.cons (.there rfl (.there rfl (.there rfl (.there rfl (.there rfl (.there rfl (.there rfl (.there rfl (.there rfl (.there rfl (.there rfl (.there rfl (.there rfl (.there rfl (.there rfl (.there rfl (.there rfl (.there rfl (.there rfl (.there rfl (.there rfl (.here)))))))))))))))))))))) (.cons (.here) .nil)) ?_
            refine wpC_seq ?_
            refine wC_ops ?_
            refine wI_mov (.t (.there rfl (.here))) ?_
            refine wI_call (.cons (.t (.here)) .nil) (s61s hT hM h108 h109 h129 _ (by rw [swp_len aOM aOM]; omega)) ?_
            rintro _ H8 ⟨rfl, hs8⟩
            have hsn8 := hs8.next
            have hiff2 := swap_iff hp0 (show 0 < p by omega) (show p < s.length by omega)
            refine wI_mov (.t (.here)) ?_
            refine wI_extract (.t (.here)) rfl ?_
            refine wI_extract (.t (.there rfl (.here))) rfl ?_
            refine wI_alloc ?_
            first | refine wI_storeA (.t (.here)) (.t (.there rfl (.there rfl (.here)))) aGET rfl aBOX aRC ?_ | refine wI_store1 (.t (.here)) (.t (.there rfl (.there rfl (.here)))) aGET aONE aRC ?_
            refine wI_mov (.t (.there rfl (.here))) ?_
            refine wI_end (.cons (.there rfl (.there rfl (.there rfl (.there rfl (.there rfl (.there rfl (.there rfl (.here)))))))) (.cons (.there rfl (.there rfl (.there rfl (.there rfl (.there rfl (.there rfl (.there rfl (.there rfl (.here))))))))) (.cons (.here) .nil))) ?_
            refine wpC_seq ?_
            refine wC_ops ?_
            refine wI_mov (.t (.there rfl (.there rfl (.here)))) ?_
            refine wI_eqI (.t (.here)) .c ?_
            refine wI_mov (.t (.there rfl (.there rfl (.there rfl (.here))))) ?_
            refine wI_mov (.t (.there rfl (.there rfl (.there rfl (.here))))) ?_
            refine wI_eqS (.t (.there rfl (.here))) (.t (.here)) ?_
            refine wI_eqB (.t (.there rfl (.there rfl (.there rfl (.here))))) (.t (.here)) ?_
            refine wI_mov (.t (.here)) ?_
            refine wI_gdT (.here) (fun g15 => ?_) (fun g15 => ?_)
            · -- g15 True
              refine wI_call .nil (wpF_prim hAw rfl (S := fun v _ => v = .bool true) rfl) ?_
              rintro _ _ rfl
              refine wI_pickT (.t (.there rfl (.here))) g15 (.t (.here)) ?_
              refine wI_mov (.t (.here)) ?_
              refine wI_end (.cons (.here) .nil) ?_
              refine wpC_ret (ret1 (.here) ?_)
              first | exact rfl | (exfalso; simp_all; done)
            · -- g15 False
              refine wI_pickF (.t (.there rfl (.here))) g15 .c ?_
              refine wI_mov (.t (.here)) ?_
              refine wI_end (.cons (.here) .nil) ?_
              refine wpC_ret (ret1 (.here) ?_)
              first | exact rfl | (exfalso; simp_all; done)
    · -- g6 True
      refine wI_no (.there rfl (.here)) (by rw [g6]; decide) ?_
      refine wI_no (.there rfl (.there rfl (.here))) (by rw [g6]; decide) ?_
      refine wI_pickT (.t (.there rfl (.there rfl (.there rfl (.here))))) g6 .c ?_
      refine wI_mov (.t (.here)) ?_
      refine wI_no (.here) (by decide) ?_
      refine wI_no (.there rfl (.here)) (by decide) ?_
      refine wI_no (.there rfl (.there rfl (.here))) (by decide) ?_
      refine wI_no (.there rfl (.there rfl (.there rfl (.here)))) (by decide) ?_
      refine wI_no (.there rfl (.there rfl (.there rfl (.there rfl (.here))))) (by decide) ?_
      refine wI_no (.there rfl (.there rfl (.there rfl (.there rfl (.there rfl (.here)))))) (by decide) ?_
      refine wI_no (.there rfl (.there rfl (.there rfl (.there rfl (.there rfl (.there rfl (.here))))))) (by decide) ?_
      refine wI_pickT (.t (.there rfl (.there rfl (.there rfl (.there rfl (.there rfl (.there rfl (.there rfl (.here))))))))) rfl .c ?_
      refine wI_end (.cons (.there rfl (.there rfl (.there rfl (.there rfl (.there rfl (.there rfl (.there rfl (.there rfl (.there rfl (.there rfl (.there rfl (.there rfl (.there rfl (.there rfl (.there rfl (.there rfl (.there rfl (.there rfl (.there rfl (.there rfl (.here))))))))))))))))))))) (.cons (.there rfl (.there rfl (.there rfl (.there rfl (.there rfl (.there rfl (.there rfl (.there rfl (.there rfl (.there rfl (.there rfl (.there rfl (.there rfl (.there rfl (.there rfl (.there rfl (.there rfl (.there rfl (.there rfl (.there rfl (.there rfl (.here)))))))))))))))))))))) (.cons (.there rfl (.there rfl (.there rfl (.there rfl (.there rfl (.there rfl (.there rfl (.there rfl (.there rfl (.there rfl (.there rfl (.there rfl (.there rfl (.there rfl (.there rfl (.there rfl (.there rfl (.there rfl (.there rfl (.there rfl (.there rfl (.there rfl (.there rfl (.here)))))))))))))))))))))))) (.cons (.here) .nil)))) ?_
      refine wC_condT (.t (.there rfl (.there rfl (.there rfl (.here))))) rfl ?_
      refine wpC_seq ?_
      refine wC_ops ?_
      refine wI_mov .c ?_
      refine wI_end (.cons (.here) .nil) ?_
      refine wpC_ret (ret1 (.here) ?_)
      first | exact rfl | (exfalso; simp_all; done)
  · -- g5 True
    refine wI_no (.there rfl (.here)) (by rw [g5]; decide) ?_
    refine wI_pickT (.t (.there rfl (.there rfl (.here)))) g5 .c ?_
    refine wI_mov (.t (.here)) ?_
    refine wI_no (.here) (by decide) ?_
    refine wI_no (.there rfl (.here)) (by decide) ?_
    refine wI_no (.there rfl (.there rfl (.here))) (by decide) ?_
    refine wI_pickT (.t (.there rfl (.there rfl (.there rfl (.here))))) rfl .c ?_
    refine wI_mov (.t (.here)) ?_
    refine wI_no (.here) (by decide) ?_
    refine wI_no (.there rfl (.here)) (by decide) ?_
    refine wI_no (.there rfl (.there rfl (.here))) (by decide) ?_
    refine wI_no (.there rfl (.there rfl (.there rfl (.here)))) (by decide) ?_
    refine wI_no (.there rfl (.there rfl (.there rfl (.there rfl (.here))))) (by decide) ?_
    refine wI_no (.there rfl (.there rfl (.there rfl (.there rfl (.there rfl (.here)))))) (by decide) ?_
    refine wI_no (.there rfl (.there rfl (.there rfl (.there rfl (.there rfl (.there rfl (.here))))))) (by decide) ?_
    refine wI_pickT (.t (.there rfl (.there rfl (.there rfl (.there rfl (.there rfl (.there rfl (.there rfl (.here))))))))) rfl .c ?_
    refine wI_end (.cons (.there rfl (.there rfl (.there rfl (.there rfl (.there rfl (.there rfl (.there rfl (.there rfl (.there rfl (.there rfl (.there rfl (.there rfl (.there rfl (.there rfl (.there rfl (.there rfl (.there rfl (.there rfl (.there rfl (.there rfl (.here))))))))))))))))))))) (.cons (.there rfl (.there rfl (.there rfl (.there rfl (.there rfl (.there rfl (.there rfl (.there rfl (.there rfl (.there rfl (.there rfl (.there rfl (.there rfl (.there rfl (.there rfl (.there rfl (.there rfl (.there rfl (.there rfl (.there rfl (.there rfl (.here)))))))))))))))))))))) (.cons (.there rfl (.there rfl (.there rfl (.there rfl (.there rfl (.there rfl (.there rfl (.there rfl (.there rfl (.there rfl (.there rfl (.there rfl (.there rfl (.there rfl (.there rfl (.there rfl (.there rfl (.there rfl (.there rfl (.there rfl (.there rfl (.there rfl (.there rfl (.here)))))))))))))))))))))))) (.cons (.here) .nil)))) ?_
    refine wC_condT (.t (.there rfl (.there rfl (.there rfl (.here))))) rfl ?_
    refine wpC_seq ?_
    refine wC_ops ?_
    refine wI_mov .c ?_
    refine wI_end (.cons (.here) .nil) ?_
    refine wpC_ret (ret1 (.here) ?_)
    first | exact rfl | (exfalso; simp_all; done)
end Wk
