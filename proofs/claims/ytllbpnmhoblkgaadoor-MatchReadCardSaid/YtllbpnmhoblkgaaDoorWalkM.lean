/- A part of the proof: WalkM. It holds for whatever its statements name; no condition beyond theirs. -/
import Derived.Test.YtllbpnmhoblkgaaDoorWalkA
import Derived.Test.YtllbpnmhoblkgaaDoorSpM
import Derived.Test.YtllbpnmhoblkgaaDoorCodeM
namespace Wk
open Go Am DC Sp
variable {T : Tab} {H0 : AH}

theorem s111 (hM : Ext fnsM T) (c : UInt8) :
    wpF T (.fn 111 []) [.int .u8 c.toNat] H0 (fun r H => r = .bool (isUp c) ∧ H = H0) := by
  refine wF hM (af := A111) rfl ?_
  refine wpC_seq ?_
  refine wC_ops ?_
  refine wI_mov .c ?_
  refine wI_end (.cons (.there rfl (.here)) .nil) ?_
  refine wpC_seq ?_
  refine wC_ops ?_
  refine wI_mov (.t (.here)) ?_
  refine wI_geq (.t (.here)) .c ?_
  refine wI_mov (.t (.here)) ?_
  refine wI_gdT (.here) (fun g1 => ?_) (fun g1 => ?_)
  · -- g1 True
    refine wI_mov (.t (.there rfl (.there rfl (.there rfl (.here))))) ?_
    refine wI_yes (.there rfl (.here)) g1 ?_
    refine wI_leq (.t (.here)) .c ?_
    refine wI_pickT (.t (.there rfl (.there rfl (.here)))) g1 (.t (.here)) ?_
    refine wI_mov (.t (.here)) ?_
    refine wI_end (.cons (.here) .nil) ?_
    refine wpC_ret (ret1 (.here) ?_)
    refine ⟨?_, rfl⟩
    congr 1
    unfold isUp
    first | (have h1 := of_decide_eq_true ‹_›; simp only [show 65 ≤ c.toNat from by omega, decide_true, Bool.true_and]; exact decide_eq_decide.2 aOM) | (have h1 := of_decide_eq_true ‹_›; simp only [show 48 ≤ c.toNat from by omega, decide_true, Bool.true_and]; exact decide_eq_decide.2 aOM) | (have h1 := of_decide_eq_false ‹_›; simp; omega)
  · -- g1 False
    refine wI_no (.there rfl (.here)) (by rw [g1]; decide) ?_
    refine wI_pickF (.t (.there rfl (.there rfl (.here)))) g1 .c ?_
    refine wI_mov (.t (.here)) ?_
    refine wI_end (.cons (.here) .nil) ?_
    refine wpC_ret (ret1 (.here) ?_)
    refine ⟨?_, rfl⟩
    congr 1
    unfold isUp
    first | (have h1 := of_decide_eq_true ‹_›; simp only [show 65 ≤ c.toNat from by omega, decide_true, Bool.true_and]; exact decide_eq_decide.2 aOM) | (have h1 := of_decide_eq_true ‹_›; simp only [show 48 ≤ c.toNat from by omega, decide_true, Bool.true_and]; exact decide_eq_decide.2 aOM) | (have h1 := of_decide_eq_false ‹_›; simp; omega)

theorem s136 (hM : Ext fnsM T) (c : UInt8) :
    wpF T (.fn 136 []) [.int .u8 c.toNat] H0 (fun r H => r = .bool (isDig c) ∧ H = H0) := by
  refine wF hM (af := A136) rfl ?_
  refine wpC_seq ?_
  refine wC_ops ?_
  refine wI_mov .c ?_
  refine wI_end (.cons (.there rfl (.here)) .nil) ?_
  refine wpC_seq ?_
  refine wC_ops ?_
  refine wI_mov (.t (.here)) ?_
  refine wI_geq (.t (.here)) .c ?_
  refine wI_mov (.t (.here)) ?_
  refine wI_gdT (.here) (fun g1 => ?_) (fun g1 => ?_)
  · -- g1 True
    refine wI_mov (.t (.there rfl (.there rfl (.there rfl (.here))))) ?_
    refine wI_yes (.there rfl (.here)) g1 ?_
    refine wI_leq (.t (.here)) .c ?_
    refine wI_pickT (.t (.there rfl (.there rfl (.here)))) g1 (.t (.here)) ?_
    refine wI_mov (.t (.here)) ?_
    refine wI_end (.cons (.here) .nil) ?_
    refine wpC_ret (ret1 (.here) ?_)
    refine ⟨?_, rfl⟩
    congr 1
    unfold isDig
    first | (have h1 := of_decide_eq_true ‹_›; simp only [show 65 ≤ c.toNat from by omega, decide_true, Bool.true_and]; exact decide_eq_decide.2 aOM) | (have h1 := of_decide_eq_true ‹_›; simp only [show 48 ≤ c.toNat from by omega, decide_true, Bool.true_and]; exact decide_eq_decide.2 aOM) | (have h1 := of_decide_eq_false ‹_›; simp; omega)
  · -- g1 False
    refine wI_no (.there rfl (.here)) (by rw [g1]; decide) ?_
    refine wI_pickF (.t (.there rfl (.there rfl (.here)))) g1 .c ?_
    refine wI_mov (.t (.here)) ?_
    refine wI_end (.cons (.here) .nil) ?_
    refine wpC_ret (ret1 (.here) ?_)
    refine ⟨?_, rfl⟩
    congr 1
    unfold isDig
    first | (have h1 := of_decide_eq_true ‹_›; simp only [show 65 ≤ c.toNat from by omega, decide_true, Bool.true_and]; exact decide_eq_decide.2 aOM) | (have h1 := of_decide_eq_true ‹_›; simp only [show 48 ≤ c.toNat from by omega, decide_true, Bool.true_and]; exact decide_eq_decide.2 aOM) | (have h1 := of_decide_eq_false ‹_›; simp; omega)

theorem s130 (hM : Ext fnsM T) (c : UInt8) :
    wpF T (.fn 130 []) [.int .u8 c.toNat] H0 (fun r H => r = .int .i64 (val c) ∧ H = H0) := by
  refine wF hM (af := A130) rfl ?_
  refine wpC_seq ?_
  refine wC_ops ?_
  refine wI_mov .c ?_
  refine wI_end (.cons (.there rfl (.here)) .nil) ?_
  refine wpC_seq ?_
  refine wpC_seq ?_
  refine wC_ops ?_
  refine wI_mov .c ?_
  refine wI_end (.cons (.there rfl (.here)) (.cons (.here) .nil)) ?_
  refine wpC_block ?_
  refine wC_loop (α := Nat) (fun i => [(0, .int .u8 c.toNat), (3, .int .i64 i)]) (fun i H => H = H0 ∧ i ≤ 37 ∧ ∀ j, j < i → signs[j]? ≠ some c) (fun i => 37 - i) 0 (.cons (.here) (.cons (.there rfl (.here)) .nil)) ?_ ?_
  · exact ⟨rfl, by omega, fun j hj => by omega⟩
  rintro i H1 ⟨heq, hi, hno⟩
  subst heq
  refine wpC_seq ?_
  refine wpC_seq ?_
  refine wC_ops ?_
  refine wI_mov (.t (.there rfl (.here))) ?_
  refine wI_lss (.t (.here)) .c ?_
  refine wI_end (.cons (.there rfl (.there rfl (.here))) (.cons (.there rfl (.there rfl (.there rfl (.here)))) (.cons (.here) .nil))) ?_
  refine wC_if (.t (.there rfl (.there rfl (.here)))) (fun c1 => ?_) (fun c1 => ?_)
  · -- c1 True
    refine wpC_skip ?_
    refine wpC_seq ?_
    refine wpC_block ?_
    refine wpC_seq ?_
    refine wC_ops ?_
    refine wI_mov (.t (.there rfl (.here))) ?_
    obtain ⟨q, hsi⟩ : ∃ q, signs[i]? = some q := ⟨_, List.getElem?_eq_getElem (show i < signs.length by simp [signs]; omega)⟩
    refine wI_indexStr (s := signs) .c (.t (.here)) rfl hsi ?_
    refine wI_mov (.t (.there rfl (.there rfl (.here)))) ?_
    refine wI_eqI (.t (.there rfl (.here))) (.t (.here)) ?_
    refine wI_end (.cons (.there rfl (.there rfl (.there rfl (.there rfl (.here))))) (.cons (.there rfl (.there rfl (.there rfl (.there rfl (.there rfl (.here)))))) (.cons (.here) .nil))) ?_
    refine wC_if (.t (.there rfl (.there rfl (.here)))) (fun c2 => ?_) (fun c2 => ?_)
    · -- c2 True
      refine wpC_seq ?_
      refine wC_ops ?_
      refine wI_mov (.t (.there rfl (.here))) ?_
      refine wI_mov (.t (.here)) ?_
      refine wI_end (.cons (.here) .nil) ?_
      refine wpC_ret (ret1 (.here) ?_)
      refine ⟨?_, rfl⟩
      congr 1
      first | exact (val_some (by (rw [hsi]; congr 1; exact UInt8.toNat_inj.1 aOM)) hno).symm | exact (val_none (fun j => by rcases Nat.lt_or_ge j i with k | k; exact hno j k; rw [List.getElem?_eq_none (by simp [signs]; omega)]; simp)).symm
    · -- c2 False
      refine wpC_skip ?_
      refine wC_ops ?_
      refine wI_mov (.t (.there rfl (.here))) ?_
      refine wI_add (.t (.here)) .c (wrap64 aOM) ?_
      refine wI_mov (.t (.here)) ?_
      refine wI_end (.cons (.there rfl (.there rfl (.there rfl (.here)))) (.cons (.here) .nil)) ?_
      refine ⟨i + 1, (.cons (.here) (.cons (.there rfl (.here)) .nil)), ?_, ?_⟩
      · refine ⟨rfl, by omega, fun j hj => ?_⟩
        rcases Nat.lt_or_ge j i with k | k
        · exact hno j k
        · rw [show j = i by omega, hsi]; intro h; cases h; omega
      · (first | omega | (simp only []; omega))
  · -- c1 False
    refine wpC_exit ?_
    refine wpC_seq ?_
    refine wC_ops ?_
    refine wI_mov .c ?_
    refine wI_end (.cons (.here) .nil) ?_
    refine wpC_ret (ret1 (.here) ?_)
    refine ⟨?_, rfl⟩
    congr 1
    first | exact (val_some (by (rw [hsi]; congr 1; exact UInt8.toNat_inj.1 aOM)) hno).symm | exact (val_none (fun j => by rcases Nat.lt_or_ge j i with k | k; exact hno j k; rw [List.getElem?_eq_none (by simp [signs]; omega)]; simp)).symm

theorem s102 (hM : Ext fnsM T) {s : List UInt8} (lo hi : Nat) (hhi : hi < 128) :
    wpF T (.fn 102 []) [.str s, .int .i32 lo, .int .i32 hi] H0 (fun r H => r = .bool (s.all (inR lo hi)) ∧ H0.Sub H) := by
  refine wF hM (af := A102) rfl ?_
  refine wpC_seq ?_
  refine wC_ops ?_
  refine wI_mov .c ?_
  refine wI_end (.cons (.there rfl (.here)) (.cons (.there rfl (.there rfl (.here))) (.cons (.there rfl (.there rfl (.there rfl (.here)))) .nil))) ?_
  refine wpC_seq ?_
  refine wpC_seq ?_
  refine wC_ops ?_
  refine wI_mov (.t (.here)) ?_
  refine wI_rangeStr (.t (.here)) ?_
  refine wI_end (.cons (.there rfl (.there rfl (.there rfl (.here)))) (.cons (.there rfl (.there rfl (.there rfl (.there rfl (.here))))) (.cons (.here) .nil))) ?_
  refine wpC_block ?_
  refine wC_loop (α := Nat) (fun i => [(1, .int .i32 lo), (2, .int .i32 hi), (10, .ptr H0.next 0)]) (fun i H => H0.Sub H ∧ H.get H0.next = some (.iter s i) ∧ i ≤ s.length ∧ ∀ j, j < i → inR lo hi (s.getD j 0) = true) (fun i => s.length - i) 0 (.cons (.here) (.cons (.there rfl (.here)) (.cons (.there rfl (.there rfl (.here))) .nil))) ?_ ?_
  · exact ⟨aSUB, aGET, by omega, fun j hj => by omega⟩
  rintro i H1 ⟨hs, hit, hi0, hall⟩
  have hsn := hs.next
  have hitl := AH.get_lt hit
  refine wpC_seq ?_
  refine wC_ops ?_
  rcases Nat.lt_or_ge (i) (List.length s) with n1 | n1
  · -- a rune
    refine wI_next (.t (.there rfl (.there rfl (.here)))) aGET n1 ?_
    obtain ⟨c, hc⟩ : ∃ c, s[i]? = some c := ⟨_, List.getElem?_eq_getElem n1⟩
    refine wI_extract (.t (.here)) rfl ?_
    refine wI_end (.cons (.there rfl (.there rfl (.here))) (.cons (.there rfl (.there rfl (.there rfl (.here)))) (.cons (.there rfl (.there rfl (.there rfl (.there rfl (.here))))) (.cons (.there rfl (.here)) (.cons (.here) .nil))))) ?_
    refine wpC_seq ?_
    refine wC_condT (.t (.there rfl (.there rfl (.there rfl (.there rfl (.here)))))) rfl ?_
    refine wpC_skip ?_
    refine wpC_block ?_
    refine wpC_seq ?_
    refine wC_ops ?_
    refine wI_extract (.t (.there rfl (.there rfl (.there rfl (.here))))) rfl ?_
    refine wI_mov (.t (.here)) ?_
    refine wI_end (.cons (.there rfl (.there rfl (.here))) (.cons (.there rfl (.there rfl (.there rfl (.here)))) (.cons (.here) (.cons (.there rfl (.there rfl (.there rfl (.there rfl (.here))))) .nil)))) ?_
    refine wpC_seq ?_
    refine wC_ops ?_
    refine wI_mov (.t (.there rfl (.there rfl (.here)))) ?_
    refine wI_mov (.t (.there rfl (.here))) ?_
    refine wI_lss (.t (.there rfl (.here))) (.t (.here)) ?_
    refine wI_mov (.t (.here)) ?_
    refine wI_gdF (.here) (fun g2 => ?_) (fun g2 => ?_)
    · -- g2 False
      refine wI_mov (.t (.there rfl (.there rfl (.there rfl (.there rfl (.there rfl (.there rfl (.here)))))))) ?_
      refine wI_yes (.there rfl (.here)) g2 ?_
      refine wI_mov (.t (.there rfl (.there rfl (.there rfl (.there rfl (.there rfl (.there rfl (.here)))))))) ?_
      refine wI_yes (.there rfl (.there rfl (.here))) g2 ?_
      refine wI_gtr (.t (.there rfl (.here))) (.t (.here)) ?_
      refine wI_pickF (.t (.there rfl (.there rfl (.there rfl (.here))))) g2 (.t (.here)) ?_
      refine wI_end (.cons (.there rfl (.there rfl (.there rfl (.there rfl (.there rfl (.there rfl (.there rfl (.there rfl (.here))))))))) (.cons (.there rfl (.there rfl (.there rfl (.there rfl (.there rfl (.there rfl (.there rfl (.there rfl (.there rfl (.here)))))))))) (.cons (.there rfl (.there rfl (.there rfl (.there rfl (.there rfl (.there rfl (.there rfl (.there rfl (.there rfl (.there rfl (.there rfl (.here)))))))))))) (.cons (.here) .nil)))) ?_
      refine wC_if (.t (.there rfl (.there rfl (.there rfl (.here))))) (fun c3 => ?_) (fun c3 => ?_)
      · -- c3 True
        refine wpC_seq ?_
        refine wC_ops ?_
        refine wI_mov .c ?_
        refine wI_end (.cons (.here) .nil) ?_
        refine wpC_ret (ret1 (.here) ?_)
        refine ⟨?_, aSUB⟩
        congr 1
        symm
        first | exact all_true (fun j hj => hall j aOM) | exact all_false i aOM (only_out hc hhi (by (first | (right; assumption) | (left; assumption) | (left; exact of_decide_eq_true ‹_›) | (right; exact of_decide_eq_true ‹_›))))
      · -- c3 False
        refine wpC_skip ?_
        refine ⟨i + 1, (.cons (.here) (.cons (.there rfl (.here)) (.cons (.there rfl (.there rfl (.here))) .nil))), ?_, ?_⟩
        · have hcr := only_in hc hhi (by (try simp only [decide_eq_true_eq, decide_eq_false_iff_not, Bool.not_eq_true', Bool.not_eq_false', Bool.not_eq_true, Bool.not_eq_false] at *) <;> (first | assumption | omega)) (by (try simp only [decide_eq_true_eq, decide_eq_false_iff_not, Bool.not_eq_true', Bool.not_eq_false', Bool.not_eq_true, Bool.not_eq_false] at *) <;> (first | assumption | omega))
          rw [hcr.2]
          refine ⟨aSUB, aGET, by omega, fun j hj => ?_⟩
          rcases Nat.lt_or_ge j i with k | k
          · exact hall j k
          · rw [show j = i by omega, List.getD_eq_getElem?_getD, hc]; exact hcr.1
        · (first | omega | (simp only []; omega))
    · -- g2 True
      refine wI_no (.there rfl (.here)) (by rw [g2]; decide) ?_
      refine wI_no (.there rfl (.there rfl (.here))) (by rw [g2]; decide) ?_
      refine wI_pickT (.t (.there rfl (.there rfl (.there rfl (.here))))) g2 .c ?_
      refine wI_end (.cons (.there rfl (.there rfl (.there rfl (.there rfl (.there rfl (.there rfl (.there rfl (.there rfl (.here))))))))) (.cons (.there rfl (.there rfl (.there rfl (.there rfl (.there rfl (.there rfl (.there rfl (.there rfl (.there rfl (.here)))))))))) (.cons (.there rfl (.there rfl (.there rfl (.there rfl (.there rfl (.there rfl (.there rfl (.there rfl (.there rfl (.there rfl (.there rfl (.here)))))))))))) (.cons (.here) .nil)))) ?_
      refine wC_condT (.t (.there rfl (.there rfl (.there rfl (.here))))) rfl ?_
      refine wpC_seq ?_
      refine wC_ops ?_
      refine wI_mov .c ?_
      refine wI_end (.cons (.here) .nil) ?_
      refine wpC_ret (ret1 (.here) ?_)
      refine ⟨?_, aSUB⟩
      congr 1
      symm
      first | exact all_true (fun j hj => hall j aOM) | exact all_false i aOM (only_out hc hhi (by (first | (right; assumption) | (left; assumption) | (left; exact of_decide_eq_true ‹_›) | (right; exact of_decide_eq_true ‹_›))))
  · -- the end
    refine wI_nextEnd (.t (.there rfl (.there rfl (.here)))) aGET n1 ?_
    refine wI_extract (.t (.here)) rfl ?_
    refine wI_end (.cons (.there rfl (.there rfl (.here))) (.cons (.there rfl (.there rfl (.there rfl (.here)))) (.cons (.there rfl (.there rfl (.there rfl (.there rfl (.here))))) (.cons (.there rfl (.here)) (.cons (.here) .nil))))) ?_
    refine wpC_seq ?_
    refine wC_condF (.t (.there rfl (.there rfl (.there rfl (.there rfl (.here)))))) rfl ?_
    refine wpC_exit ?_
    refine wpC_seq ?_
    refine wC_ops ?_
    refine wI_mov .c ?_
    refine wI_end (.cons (.here) .nil) ?_
    refine wpC_ret (ret1 (.here) ?_)
    refine ⟨?_, aSUB⟩
    congr 1
    symm
    first | exact all_true (fun j hj => hall j aOM) | exact all_false i aOM (only_out hc hhi (by (first | (right; assumption) | (left; assumption) | (left; exact of_decide_eq_true ‹_›) | (right; exact of_decide_eq_true ‹_›))))
end Wk

namespace Wk
open Go Am DC Sp
variable {T : Tab} {H0 : AH}

theorem s103 (hM : Ext fnsM T) (h127 : T.prim 127 = some pItoa) (h128 : T.prim 128 = some pRepeat) (n k : Nat) (hk : 1 ≤ k ∧ k ≤ 18) (hn : n < 10 ^ k) :
    wpF T (.fn 103 []) [.int .i64 n, .int .i64 k] H0 (fun r H => r = .str (dig k n) ∧ H = H0) := by
  refine wF hM (af := A103) rfl ?_
  have hn18 : n < 1000000000000000000 := Nat.lt_of_lt_of_le hn (Nat.pow_le_pow_right (n := 10) (by decide) hk.2)
  obtain ⟨hd1, hd2⟩ := dig_decF k n 20 hn aOM hk.1
  refine wpC_seq ?_
  refine wC_ops ?_
  refine wI_mov .c ?_
  refine wI_end (.cons (.there rfl (.here)) (.cons (.there rfl (.there rfl (.here))) .nil)) ?_
  refine wpC_seq ?_
  refine wC_ops ?_
  refine wI_mov (.t (.here)) ?_
  refine wI_call (.cons (.t (.here)) .nil) (wpF_prim (S := fun v H => v = .str (decF 20 n) ∧ H = H0) h127 (pItoa_eq hn18) ⟨rfl, rfl⟩) ?_
  rintro _ _ ⟨rfl, heq1⟩
  obtain rfl := heq1.symm
  refine wI_mov (.t (.here)) ?_
  refine wI_end (.cons (.there rfl (.there rfl (.there rfl (.there rfl (.here))))) (.cons (.here) .nil)) ?_
  refine wpC_seq ?_
  refine wC_ops ?_
  refine wI_mov (.t (.here)) ?_
  refine wI_mov (.t (.there rfl (.there rfl (.here)))) ?_
  refine wI_lenStr (.t (.here)) ?_
  refine wI_sub (.t (.there rfl (.there rfl (.here)))) (.t (.here)) aWRAP ?_
  refine wI_call (.cons .c (.cons (.t (.here)) .nil)) (wpF_prim (S := fun v H => v = .str (List.replicate (k - (decF 20 n).length) 48) ∧ H = H0) h128 (by rw [pRepeat_eq aOM]; congr 3; omega) ⟨rfl, rfl⟩) ?_
  rintro _ _ ⟨rfl, heq2⟩
  obtain rfl := heq2.symm
  refine wI_mov (.t (.there rfl (.there rfl (.there rfl (.there rfl (.there rfl (.there rfl (.here)))))))) ?_
  refine wI_sadd (.t (.there rfl (.here))) (.t (.here)) (by simp only [List.length_replicate]; omega) ?_
  refine wI_mov (.t (.here)) ?_
  refine wI_end (.cons (.here) .nil) ?_
  refine wpC_ret (ret1 (.here) ?_)
  exact ⟨by rw [hd2], rfl⟩

theorem s104 (hM : Ext fnsM T) (h129 : T.prim 129 = some pIndexRune) {s : List UInt8} (hs : ∀ c, c ∈ s → 0 ≤ val c) (hl : s.length ≤ 1000) :
    wpF T (.fn 104 []) [.str s] H0 (fun r H => r = .int .u8 (chk s).toNat ∧ H0.Sub H) := by
  refine wF hM (af := A104) rfl ?_
  refine wpC_seq ?_
  refine wC_ops ?_
  refine wI_mov .c ?_
  refine wI_end (.cons (.there rfl (.here)) .nil) ?_
  refine wpC_seq ?_
  refine wC_ops ?_
  refine wI_mov .c ?_
  refine wI_mov .c ?_
  refine wI_end (.cons (.there rfl (.there rfl (.here))) (.cons (.there rfl (.here)) (.cons (.here) .nil))) ?_
  refine wpC_seq ?_
  refine wpC_seq ?_
  refine wC_ops ?_
  refine wI_mov (.t (.here)) ?_
  refine wI_rangeStr (.t (.here)) ?_
  refine wI_end (.cons (.there rfl (.there rfl (.there rfl (.here)))) (.cons (.there rfl (.there rfl (.there rfl (.there rfl (.here))))) (.cons (.here) .nil))) ?_
  refine wpC_block ?_
  refine wC_loop (α := Nat) (fun i => [(3, .int .i64 (wsum 0 (s.take i))), (4, .int .i64 i), (8, .ptr H0.next 0)]) (fun i H => H0.Sub H ∧ H.get H0.next = some (.iter s i) ∧ i ≤ s.length) (fun i => s.length - i) 0 (.cons (.here) (.cons (.there rfl (.here)) (.cons (.there rfl (.there rfl (.here))) .nil))) ?_ ?_
  · exact ⟨aSUB, aGET, by omega⟩
  rintro i H1 ⟨hs1, hit, hi0⟩
  have hsn := hs1.next
  have hitl := AH.get_lt hit
  obtain ⟨hb1, hb2⟩ := wsum_bound hs hl i
  refine wpC_seq ?_
  refine wC_ops ?_
  rcases Nat.lt_or_ge (i) (List.length s) with n1 | n1
  · -- a rune
    refine wI_next (.t (.there rfl (.there rfl (.here)))) aGET n1 ?_
    obtain ⟨c, hc⟩ : ∃ c, s[i]? = some c := ⟨_, List.getElem?_eq_getElem n1⟩
    have hvc := hs c (List.mem_of_getElem? hc)
    have hvc2 := (val_range c).2
    have hc1 := val_ascii hvc
    rw [dec_ascii hc hc1]
    have hm1 : 0 ≤ ((i : Int) + 1) * val c := Int.mul_nonneg aOM hvc
    have hm2 : ((i : Int) + 1) * val c ≤ ((i : Int) + 1) * 36 := Int.mul_le_mul_of_nonneg_left hvc2 aOM
    refine wI_extract (.t (.here)) rfl ?_
    refine wI_end (.cons (.there rfl (.there rfl (.here))) (.cons (.there rfl (.there rfl (.there rfl (.here)))) (.cons (.there rfl (.there rfl (.there rfl (.there rfl (.here))))) (.cons (.there rfl (.here)) (.cons (.here) .nil))))) ?_
    refine wpC_seq ?_
    refine wC_condT (.t (.there rfl (.there rfl (.there rfl (.there rfl (.here)))))) rfl ?_
    refine wpC_skip ?_
    refine wpC_block ?_
    refine wpC_seq ?_
    refine wC_ops ?_
    refine wI_extract (.t (.there rfl (.there rfl (.there rfl (.here))))) rfl ?_
    refine wI_mov (.t (.here)) ?_
    refine wI_end (.cons (.there rfl (.there rfl (.here))) (.cons (.there rfl (.there rfl (.there rfl (.here)))) (.cons (.here) (.cons (.there rfl (.there rfl (.there rfl (.there rfl (.here))))) .nil)))) ?_
    refine wpC_seq ?_
    refine wC_ops ?_
    refine wI_mov (.t (.there rfl (.here))) ?_
    refine wI_add (.t (.here)) .c (wrap64 aOM) ?_
    refine wI_mov (.t (.here)) ?_
    refine wI_end (.cons (.there rfl (.there rfl (.there rfl (.here)))) (.cons (.here) (.cons (.there rfl (.there rfl (.there rfl (.there rfl (.there rfl (.here)))))) (.cons (.there rfl (.there rfl (.there rfl (.there rfl (.there rfl (.there rfl (.here))))))) .nil)))) ?_
    refine wC_ops ?_
    refine wI_mov (.t (.here)) ?_
    refine wI_mov (.t (.there rfl (.there rfl (.here)))) ?_
    refine wI_mov (.t (.there rfl (.there rfl (.there rfl (.there rfl (.here)))))) ?_
    refine wI_call (.cons .c (.cons (.t (.here)) .nil)) (wpF_prim (S := fun v H => v = .int .i64 (val c) ∧ H = H1.put H0.next (.iter s (i + 1))) h129 (pIndexRune_eq hc1) ⟨rfl, rfl⟩) ?_
    rintro _ _ ⟨rfl, heq2⟩
    obtain rfl := heq2.symm
    refine wI_mul (.t (.there rfl (.there rfl (.here)))) (.t (.here)) (wrap64 aOM) ?_
    refine wI_add (.t (.there rfl (.there rfl (.there rfl (.there rfl (.here)))))) (.t (.here)) (c := wsum 0 (s.take (i + 1))) (by rw [wrap64 aOM, wsum_take hc]) ?_
    refine wI_mov (.t (.here)) ?_
    refine wI_end (.cons (.here) (.cons (.there rfl (.there rfl (.there rfl (.there rfl (.there rfl (.there rfl (.there rfl (.there rfl (.here))))))))) (.cons (.there rfl (.there rfl (.there rfl (.there rfl (.there rfl (.there rfl (.there rfl (.there rfl (.there rfl (.there rfl (.here))))))))))) .nil))) ?_
    refine ⟨i + 1, (.cons (.here) (.cons (.there rfl (.here)) (.cons (.there rfl (.there rfl (.here))) .nil))), ?_, ?_⟩
    · refine ⟨aSUB, aGET, by omega⟩
    · (first | omega | (simp only []; omega))
  · -- the end
    refine wI_nextEnd (.t (.there rfl (.there rfl (.here)))) aGET n1 ?_
    refine wI_extract (.t (.here)) rfl ?_
    refine wI_end (.cons (.there rfl (.there rfl (.here))) (.cons (.there rfl (.there rfl (.there rfl (.here)))) (.cons (.there rfl (.there rfl (.there rfl (.there rfl (.here))))) (.cons (.there rfl (.here)) (.cons (.here) .nil))))) ?_
    refine wpC_seq ?_
    refine wC_condF (.t (.there rfl (.there rfl (.there rfl (.there rfl (.here)))))) rfl ?_
    refine wpC_exit ?_
    refine wpC_seq ?_
    refine wC_ops ?_
    refine wI_mov (.t (.here)) ?_
    refine wI_rem (.t (.here)) .c aOM rfl ?_
    have hb3 := tmod37b hb1
    refine wI_sub .c (.t (.here)) (wrap64 aOM) ?_
    refine wI_rem (.t (.here)) .c (by decide) (tmod37 hb1) ?_
    refine wI_indexStr (s := signs) .c (.t (.here)) rfl (by rw [← chk_get s, List.take_of_length_le aOM]) ?_
    refine wI_mov (.t (.here)) ?_
    refine wI_end (.cons (.here) .nil) ?_
    refine wpC_ret (ret1 (.here) ?_)
    exact ⟨rfl, aSUB⟩

theorem s107 (hM : Ext fnsM T) {s : List UInt8} (hs : ∀ c, c ∈ s → 0 ≤ val c) (hl : s.length ≤ 1000) :
    wpF T (.fn 107 []) [.str s] H0 (fun r H => r = .int .u8 (chk s).toNat ∧ H = H0) := by
  refine wF hM (af := A107) rfl ?_
  refine wpC_seq ?_
  refine wC_ops ?_
  refine wI_mov .c ?_
  refine wI_end (.cons (.there rfl (.here)) .nil) ?_
  refine wpC_seq ?_
  refine wC_ops ?_
  refine wI_mov .c ?_
  refine wI_end (.cons (.there rfl (.here)) (.cons (.here) .nil)) ?_
  refine wpC_seq ?_
  refine wpC_seq ?_
  refine wC_ops ?_
  refine wI_mov .c ?_
  refine wI_end (.cons (.there rfl (.here)) (.cons (.there rfl (.there rfl (.here))) (.cons (.here) .nil))) ?_
  refine wpC_block ?_
  refine wC_loop (α := Nat) (fun i => [(0, .str s), (3, .int .i64 (wsum 0 (s.take i))), (4, .int .i64 i)]) (fun i H => H = H0 ∧ i ≤ s.length) (fun i => s.length - i) 0 (.cons (.here) (.cons (.there rfl (.here)) (.cons (.there rfl (.there rfl (.here))) .nil))) ?_ ?_
  · exact ⟨rfl, by omega⟩
  rintro i H1 ⟨heq, hi0⟩
  subst heq
  obtain ⟨hb1, hb2⟩ := wsum_bound hs hl i
  refine wpC_seq ?_
  refine wpC_seq ?_
  refine wC_ops ?_
  refine wI_mov (.t (.there rfl (.there rfl (.here)))) ?_
  refine wI_mov (.t (.there rfl (.here))) ?_
  refine wI_lenStr (.t (.here)) ?_
  refine wI_lss (.t (.there rfl (.there rfl (.here)))) (.t (.here)) ?_
  refine wI_end (.cons (.there rfl (.there rfl (.there rfl (.there rfl (.here))))) (.cons (.there rfl (.there rfl (.there rfl (.there rfl (.there rfl (.here)))))) (.cons (.there rfl (.there rfl (.there rfl (.there rfl (.there rfl (.there rfl (.here))))))) (.cons (.here) .nil)))) ?_
  refine wC_if (.t (.there rfl (.there rfl (.there rfl (.here))))) (fun c1 => ?_) (fun c1 => ?_)
  · -- c1 True
    refine wpC_skip ?_
    refine wpC_seq ?_
    refine wpC_block ?_
    refine wC_ops ?_
    refine wI_mov (.t (.there rfl (.here))) ?_
    refine wI_mov (.t (.there rfl (.there rfl (.there rfl (.here))))) ?_
    refine wI_add (.t (.here)) .c (wrap64 aOM) ?_
    refine wI_mov (.t (.there rfl (.there rfl (.there rfl (.here))))) ?_
    refine wI_mov (.t (.there rfl (.there rfl (.there rfl (.there rfl (.there rfl (.there rfl (.here)))))))) ?_
    obtain ⟨c, hc⟩ : ∃ c, s[i]? = some c := ⟨_, List.getElem?_eq_getElem aOM⟩
    have hvc := hs c (List.mem_of_getElem? hc)
    have hvc2 := (val_range c).2
    have hm1 : 0 ≤ ((i : Int) + 1) * val c := Int.mul_nonneg aOM hvc
    have hm2 : ((i : Int) + 1) * val c ≤ ((i : Int) + 1) * 36 := Int.mul_le_mul_of_nonneg_left hvc2 aOM
    refine wI_indexStr (.t (.there rfl (.here))) (.t (.here)) rfl hc ?_
    refine wI_call (.cons (.t (.here)) .nil) (s130 hM _) ?_
    rintro _ _ ⟨rfl, heq2⟩
    obtain rfl := heq2.symm
    refine wI_mul (.t (.there rfl (.there rfl (.there rfl (.there rfl (.here)))))) (.t (.here)) (wrap64 aOM) ?_
    refine wI_add (.t (.there rfl (.there rfl (.there rfl (.there rfl (.there rfl (.there rfl (.there rfl (.here))))))))) (.t (.here)) (c := wsum 0 (s.take (i + 1))) (by rw [wrap64 aOM, wsum_take hc]) ?_
    refine wI_mov (.t (.here)) ?_
    refine wI_end (.cons (.there rfl (.there rfl (.there rfl (.there rfl (.there rfl (.there rfl (.there rfl (.there rfl (.there rfl (.there rfl (.here))))))))))) (.cons (.here) (.cons (.there rfl (.there rfl (.there rfl (.there rfl (.there rfl (.there rfl (.there rfl (.there rfl (.there rfl (.there rfl (.there rfl (.there rfl (.here))))))))))))) .nil))) ?_
    refine wC_ops ?_
    refine wI_mov (.t (.there rfl (.there rfl (.here)))) ?_
    refine wI_add (.t (.here)) .c (wrap64 aOM) ?_
    refine wI_mov (.t (.here)) ?_
    refine wI_end (.cons (.there rfl (.there rfl (.there rfl (.here)))) (.cons (.there rfl (.there rfl (.there rfl (.there rfl (.here))))) (.cons (.here) .nil))) ?_
    refine ⟨i + 1, (.cons (.here) (.cons (.there rfl (.here)) (.cons (.there rfl (.there rfl (.here))) .nil))), ?_, ?_⟩
    · exact ⟨rfl, by omega⟩
    · (first | omega | (simp only []; omega))
  · -- c1 False
    refine wpC_exit ?_
    refine wpC_seq ?_
    refine wC_ops ?_
    refine wI_mov (.t (.there rfl (.here))) ?_
    refine wI_rem (.t (.here)) .c aOM rfl ?_
    have hb3 := tmod37b hb1
    refine wI_sub .c (.t (.here)) (wrap64 aOM) ?_
    refine wI_rem (.t (.here)) .c (by decide) (tmod37 hb1) ?_
    refine wI_indexStr (s := signs) .c (.t (.here)) rfl (by rw [← chk_get s, List.take_of_length_le aOM]) ?_
    refine wI_mov (.t (.here)) ?_
    refine wI_end (.cons (.here) .nil) ?_
    refine wpC_ret (ret1 (.here) ?_)
    exact ⟨rfl, rfl⟩

theorem s110 (hM : Ext fnsM T) {s : List UInt8} (hs : ∀ c, c ∈ s → isDig c = true) (hl : s.length ≤ 9) :
    wpF T (.fn 110 []) [.str s] H0 (fun r H => r = .int .i64 (numL s) ∧ H0.Sub H) := by
  refine wF hM (af := A110) rfl ?_
  refine wpC_seq ?_
  refine wC_ops ?_
  refine wI_mov .c ?_
  refine wI_end (.cons (.there rfl (.here)) .nil) ?_
  refine wpC_seq ?_
  refine wC_ops ?_
  refine wI_mov .c ?_
  refine wI_end (.cons (.there rfl (.here)) (.cons (.here) .nil)) ?_
  refine wpC_seq ?_
  refine wpC_seq ?_
  refine wC_ops ?_
  refine wI_mov (.t (.here)) ?_
  refine wI_rangeStr (.t (.here)) ?_
  refine wI_end (.cons (.there rfl (.there rfl (.there rfl (.here)))) (.cons (.here) .nil)) ?_
  refine wpC_block ?_
  refine wC_loop (α := Nat) (fun i => [(3, .int .i64 (numL (s.take i))), (7, .ptr H0.next 0)]) (fun i H => H0.Sub H ∧ H.get H0.next = some (.iter s i) ∧ i ≤ s.length) (fun i => s.length - i) 0 (.cons (.here) (.cons (.there rfl (.here)) .nil)) ?_ ?_
  · exact ⟨aSUB, aGET, by omega⟩
  rintro i H1 ⟨hs1, hit, hi0⟩
  have hsn := hs1.next
  have hitl := AH.get_lt hit
  obtain ⟨hb1, hb2⟩ := numL_bd hs hl i
  refine wpC_seq ?_
  refine wC_ops ?_
  rcases Nat.lt_or_ge (i) (List.length s) with n1 | n1
  · -- a rune
    refine wI_next (.t (.there rfl (.here))) aGET n1 ?_
    obtain ⟨c, hc⟩ : ∃ c, s[i]? = some c := ⟨_, List.getElem?_eq_getElem n1⟩
    have hvc := dig_rng (hs c (List.mem_of_getElem? hc))
    rw [dec_ascii hc aOM]
    refine wI_extract (.t (.here)) rfl ?_
    refine wI_end (.cons (.there rfl (.there rfl (.here))) (.cons (.there rfl (.there rfl (.there rfl (.here)))) (.cons (.there rfl (.here)) (.cons (.here) .nil)))) ?_
    refine wpC_seq ?_
    refine wC_condT (.t (.there rfl (.there rfl (.there rfl (.here))))) rfl ?_
    refine wpC_skip ?_
    refine wpC_block ?_
    refine wpC_seq ?_
    refine wC_ops ?_
    refine wI_extract (.t (.there rfl (.there rfl (.here)))) rfl ?_
    refine wI_mov (.t (.here)) ?_
    refine wI_end (.cons (.there rfl (.there rfl (.here))) (.cons (.here) (.cons (.there rfl (.there rfl (.there rfl (.here)))) .nil))) ?_
    refine wC_ops ?_
    refine wI_mov (.t (.here)) ?_
    refine wI_mul .c (.t (.here)) aWRAP ?_
    refine wI_mov (.t (.there rfl (.there rfl (.there rfl (.here))))) ?_
    refine wI_sub (.t (.here)) .c aWRAP ?_
    refine wI_convInt (.t (.here)) (by first | exact wrap64 aOM | exact wrap_u64 aOM) ?_
    refine wI_add (.t (.there rfl (.there rfl (.there rfl (.here))))) (.t (.here)) (c := numL (s.take (i + 1))) (by rw [wrap64 aOM, numL_take hc]) ?_
    refine wI_mov (.t (.here)) ?_
    refine wI_end (.cons (.here) (.cons (.there rfl (.there rfl (.there rfl (.there rfl (.there rfl (.there rfl (.there rfl (.there rfl (.there rfl (.here)))))))))) .nil)) ?_
    refine ⟨i + 1, (.cons (.here) (.cons (.there rfl (.here)) .nil)), ?_, ?_⟩
    · refine ⟨aSUB, aGET, by omega⟩
    · (first | omega | (simp only []; omega))
  · -- the end
    refine wI_nextEnd (.t (.there rfl (.here))) aGET n1 ?_
    refine wI_extract (.t (.here)) rfl ?_
    refine wI_end (.cons (.there rfl (.there rfl (.here))) (.cons (.there rfl (.there rfl (.there rfl (.here)))) (.cons (.there rfl (.here)) (.cons (.here) .nil)))) ?_
    refine wpC_seq ?_
    refine wC_condF (.t (.there rfl (.there rfl (.there rfl (.here))))) rfl ?_
    refine wpC_exit ?_
    refine wpC_seq ?_
    refine wC_ops ?_
    refine wI_mov (.t (.here)) ?_
    refine wI_mov (.t (.here)) ?_
    refine wI_end (.cons (.here) .nil) ?_
    refine wpC_ret (ret1 (.here) ?_)
    exact ⟨by rw [List.take_of_length_le aOM], aSUB⟩

theorem s113 (hM : Ext fnsM T) {s : List UInt8} (hs : ∀ c, c ∈ s → isDig c = true) (hl : s.length ≤ 9) :
    wpF T (.fn 113 []) [.str s] H0 (fun r H => r = .int .i64 (numL s) ∧ H = H0) := by
  refine wF hM (af := A113) rfl ?_
  refine wpC_seq ?_
  refine wC_ops ?_
  refine wI_mov .c ?_
  refine wI_end (.cons (.there rfl (.here)) .nil) ?_
  refine wpC_seq ?_
  refine wC_ops ?_
  refine wI_mov .c ?_
  refine wI_end (.cons (.there rfl (.here)) (.cons (.here) .nil)) ?_
  refine wpC_seq ?_
  refine wpC_seq ?_
  refine wC_ops ?_
  refine wI_mov .c ?_
  refine wI_end (.cons (.there rfl (.here)) (.cons (.there rfl (.there rfl (.here))) (.cons (.here) .nil))) ?_
  refine wpC_block ?_
  refine wC_loop (α := Nat) (fun i => [(0, .str s), (3, .int .i64 (numL (s.take i))), (4, .int .i64 i)]) (fun i H => H = H0 ∧ i ≤ s.length) (fun i => s.length - i) 0 (.cons (.here) (.cons (.there rfl (.here)) (.cons (.there rfl (.there rfl (.here))) .nil))) ?_ ?_
  · exact ⟨rfl, by omega⟩
  rintro i H1 ⟨heq, hi0⟩
  subst heq
  obtain ⟨hb1, hb2⟩ := numL_bd hs hl i
  refine wpC_seq ?_
  refine wpC_seq ?_
  refine wC_ops ?_
  refine wI_mov (.t (.there rfl (.there rfl (.here)))) ?_
  refine wI_mov (.t (.there rfl (.here))) ?_
  refine wI_lenStr (.t (.here)) ?_
  refine wI_lss (.t (.there rfl (.there rfl (.here)))) (.t (.here)) ?_
  refine wI_end (.cons (.there rfl (.there rfl (.there rfl (.there rfl (.here))))) (.cons (.there rfl (.there rfl (.there rfl (.there rfl (.there rfl (.here)))))) (.cons (.there rfl (.there rfl (.there rfl (.there rfl (.there rfl (.there rfl (.here))))))) (.cons (.here) .nil)))) ?_
  refine wC_if (.t (.there rfl (.there rfl (.there rfl (.here))))) (fun c1 => ?_) (fun c1 => ?_)
  · -- c1 True
    refine wpC_skip ?_
    refine wpC_seq ?_
    refine wpC_block ?_
    refine wC_ops ?_
    refine wI_mov (.t (.there rfl (.here))) ?_
    refine wI_mul .c (.t (.here)) aWRAP ?_
    refine wI_mov (.t (.there rfl (.there rfl (.here)))) ?_
    refine wI_mov (.t (.there rfl (.there rfl (.there rfl (.there rfl (.there rfl (.here))))))) ?_
    obtain ⟨c, hc⟩ : ∃ c, s[i]? = some c := ⟨_, List.getElem?_eq_getElem aOM⟩
    have hvc := dig_rng (hs c (List.mem_of_getElem? hc))
    refine wI_indexStr (.t (.there rfl (.here))) (.t (.here)) rfl hc ?_
    refine wI_sub (.t (.here)) .c aWRAP ?_
    refine wI_convInt (.t (.here)) (by first | exact wrap64 aOM | exact wrap_u64 aOM) ?_
    refine wI_add (.t (.there rfl (.there rfl (.there rfl (.there rfl (.there rfl (.here))))))) (.t (.here)) (c := numL (s.take (i + 1))) (by rw [wrap64 aOM, numL_take hc]) ?_
    refine wI_mov (.t (.here)) ?_
    refine wI_end (.cons (.there rfl (.there rfl (.there rfl (.there rfl (.there rfl (.there rfl (.there rfl (.there rfl (.there rfl (.here)))))))))) (.cons (.here) (.cons (.there rfl (.there rfl (.there rfl (.there rfl (.there rfl (.there rfl (.there rfl (.there rfl (.there rfl (.there rfl (.there rfl (.here)))))))))))) .nil))) ?_
    refine wC_ops ?_
    refine wI_mov (.t (.there rfl (.there rfl (.here)))) ?_
    first | refine wI_add (.t (.here)) .c aWRAP ?_ | refine wI_sadd (.t (.here)) .c (by (simp only [List.length_append, List.length_take, List.length_drop, List.length_cons, List.length_nil] at *; omega)) ?_
    refine wI_mov (.t (.here)) ?_
    refine wI_end (.cons (.there rfl (.there rfl (.there rfl (.here)))) (.cons (.there rfl (.there rfl (.there rfl (.there rfl (.here))))) (.cons (.here) .nil))) ?_
    refine ⟨i + 1, (.cons (.here) (.cons (.there rfl (.here)) (.cons (.there rfl (.there rfl (.here))) .nil))), ?_, ?_⟩
    · exact ⟨rfl, by omega⟩
    · (first | omega | (simp only []; omega))
  · -- c1 False
    refine wpC_exit ?_
    refine wpC_seq ?_
    refine wC_ops ?_
    refine wI_mov (.t (.there rfl (.here))) ?_
    refine wI_mov (.t (.here)) ?_
    refine wI_end (.cons (.here) .nil) ?_
    refine wpC_ret (ret1 (.here) ?_)
    exact ⟨by rw [List.take_of_length_le aOM], rfl⟩
end Wk

namespace Wk
open Go Am DC Sp
variable {T : Tab} {H0 : AH}

theorem s102u (hM : Ext fnsM T) {s : List UInt8} : wpF T (.fn 102 []) [.str s, .int .i32 65, .int .i32 90] H0 (fun r H => r = .bool (s.all isUp) ∧ H0.Sub H) := s102 hM 65 90 (by decide)
theorem s102d (hM : Ext fnsM T) {s : List UInt8} : wpF T (.fn 102 []) [.str s, .int .i32 48, .int .i32 57] H0 (fun r H => r = .bool (s.all isDig) ∧ H0.Sub H) := s102 hM 48 57 (by decide)

theorem s106 (hM : Ext fnsM T) (n k : Nat) (hk : k ≤ 18) (hn : n < 1000000000000000000) :
    wpF T (.fn 106 []) [.int .i64 n, .int .i64 k] H0 (fun r H => r = .str (dig k n) ∧ H0.Sub H) := by
  refine wF hM (af := A106) rfl ?_
  refine wpC_seq ?_
  refine wC_ops ?_
  refine wI_mov .c ?_
  refine wI_end (.cons (.there rfl (.here)) (.cons (.there rfl (.there rfl (.here))) .nil)) ?_
  refine wpC_seq ?_
  refine wC_ops ?_
  refine wI_mov (.t (.there rfl (.here))) ?_
  refine wI_makeSlice (.t (.here)) rfl (by simp only [room]; omega) ?_
  rw [repl_bytes]
  refine wI_mov (.t (.here)) ?_
  refine wI_end (.cons (.there rfl (.there rfl (.there rfl (.here)))) (.cons (.there rfl (.there rfl (.there rfl (.there rfl (.here))))) (.cons (.here) .nil))) ?_
  refine wpC_seq ?_
  refine wpC_seq ?_
  refine wC_ops ?_
  refine wI_mov (.t (.there rfl (.here))) ?_
  refine wI_sub (.t (.here)) .c aWRAP ?_
  refine wI_mov (.t (.here)) ?_
  refine wI_end (.cons (.there rfl (.there rfl (.there rfl (.here)))) (.cons (.there rfl (.there rfl (.there rfl (.there rfl (.there rfl (.here)))))) (.cons (.here) .nil))) ?_
  refine wpC_block ?_
  refine wC_loop (α := Nat × Nat × List UInt8) (fun (j, m, tl) => [(0, .int .i64 m), (5, .sl H0.next 0 k 1), (6, .int .i64 ((j : Int) - 1))]) (fun (j, m, tl) H => H0.Sub H ∧ H.get H0.next = some (.cells (cBytes (List.replicate j 0 ++ tl)) true) ∧ j ≤ k ∧ j + tl.length = k ∧ m < 1000000000000000000 ∧ dig k n = dig j m ++ tl) (fun (j, m, tl) => j) (k, n, []) (.cons (.here) (.cons (.there rfl (.here)) (.cons (.there rfl (.there rfl (.here))) .nil))) ?_ ?_
  · exact ⟨aSUB, by (rw [List.append_nil]; exact aGET), by omega, by simp, hn, by simp⟩
  rintro ⟨j, m, tl⟩ H1 ⟨hs1, hg, hj, hjt, hm, hd⟩
  have hsn := hs1.next
  have hgl := AH.get_lt hg
  refine wpC_seq ?_
  refine wpC_seq ?_
  refine wC_ops ?_
  refine wI_mov (.t (.there rfl (.there rfl (.here)))) ?_
  refine wI_geq (.t (.here)) .c ?_
  refine wI_end (.cons (.there rfl (.there rfl (.here))) (.cons (.there rfl (.there rfl (.there rfl (.here)))) (.cons (.there rfl (.there rfl (.there rfl (.there rfl (.here))))) (.cons (.here) .nil)))) ?_
  refine wC_if (.t (.there rfl (.there rfl (.there rfl (.here))))) (fun c1 => ?_) (fun c1 => ?_)
  · -- c1 True
    refine wpC_skip ?_
    refine wpC_seq ?_
    refine wpC_block ?_
    refine wpC_seq ?_
    refine wC_ops ?_
    refine wI_mov (.t (.there rfl (.here))) ?_
    refine wI_mov (.t (.there rfl (.there rfl (.there rfl (.here))))) ?_
    refine wI_mov (.t (.there rfl (.there rfl (.here)))) ?_
    refine wI_rem (.t (.here)) .c (c := ((m % 10 : Nat) : Int)) (by decide) (by rw [Int.tmod_eq_emod_of_nonneg aOM]; omega) ?_
    first | refine wI_add .c (.t (.here)) aWRAP ?_ | refine wI_sadd .c (.t (.here)) (by (simp only [List.length_append, List.length_take, List.length_drop, List.length_cons, List.length_nil] at *; omega)) ?_
    refine wI_convInt (.t (.here)) (m := ((UInt8.ofNat (48 + m % 10)).toNat : Int)) (by rw [IntWalk.u8_in _ aOM]; simp; omega) ?_
    obtain ⟨j, rfl⟩ : ∃ q, j = q + 1 := ⟨j - 1, by omega⟩
    refine wI_indexAddrS (m := j) (.t (.there rfl (.there rfl (.there rfl (.there rfl (.there rfl (.here))))))) (.t (.there rfl (.there rfl (.there rfl (.there rfl (.here)))))) aOM aOM ?_
    refine wI_setBytes (.t (.here)) (.t (.there rfl (.here))) aGET (by simp; omega) ?_
    rw [set_rep]
    refine wI_end (.cons (.there rfl (.there rfl (.there rfl (.there rfl (.there rfl (.there rfl (.there rfl (.here)))))))) (.cons (.there rfl (.there rfl (.there rfl (.there rfl (.there rfl (.there rfl (.there rfl (.there rfl (.here))))))))) (.cons (.there rfl (.there rfl (.there rfl (.there rfl (.there rfl (.there rfl (.there rfl (.there rfl (.there rfl (.here)))))))))) .nil))) ?_
    refine wC_ops ?_
    refine wI_mov (.t (.here)) ?_
    refine wI_quo (.t (.here)) .c (c := ((m / 10 : Nat) : Int)) (by decide) (by rw [Int.tdiv_eq_ediv_of_nonneg aOM]; rw [wrap64 aOM]; omega) ?_
    refine wI_mov (.t (.here)) ?_
    refine wI_end (.cons (.here) (.cons (.there rfl (.there rfl (.there rfl (.there rfl (.here))))) (.cons (.there rfl (.there rfl (.there rfl (.there rfl (.there rfl (.here)))))) .nil))) ?_
    refine wC_ops ?_
    refine wI_mov (.t (.there rfl (.there rfl (.here)))) ?_
    refine wI_sub (.t (.here)) .c (c := (j : Int) - 1) (by rw [wrap64 aOM]; omega) ?_
    refine wI_mov (.t (.here)) ?_
    refine wI_end (.cons (.there rfl (.there rfl (.there rfl (.here)))) (.cons (.there rfl (.there rfl (.there rfl (.there rfl (.here))))) (.cons (.here) .nil))) ?_
    refine ⟨(j, m / 10, UInt8.ofNat (48 + m % 10) :: tl), (.cons (.here) (.cons (.there rfl (.here)) (.cons (.there rfl (.there rfl (.here))) .nil))), ?_, ?_⟩
    · exact ⟨aSUB, aGET, by omega, by simp; omega, by omega, by rw [hd]; simp [dig]⟩
    · (first | omega | (simp only []; omega))
  · -- c1 False
    refine wpC_exit ?_
    refine wpC_seq ?_
    refine wC_ops ?_
    refine wI_mov (.t (.there rfl (.here))) ?_
    obtain rfl : j = 0 := by omega
    refine wI_bytesToStr (.t (.here)) (At.of_get aGET (by simp; omega)) ?_
    refine wI_mov (.t (.here)) ?_
    refine wI_end (.cons (.here) .nil) ?_
    refine wpC_ret (ret1 (.here) ?_)
    exact ⟨by rw [hd]; simp [dig], aSUB⟩

theorem s112 (hM : Ext fnsM T) {k r : List UInt8} :
    wpF T (.fn 112 []) [.str (k ++ r), .int .i64 k.length] H0 (fun rr H => rr = .bool (decide ((1 ≤ k.length ∧ k.length ≤ 4) ∧ formR r)) ∧ H = H0) := by
  refine wF hM (af := A112) rfl ?_
  have hkl : (k ++ r).length = k.length + r.length := List.length_append
  refine wpC_seq ?_
  refine wC_ops ?_
  refine wI_mov .c ?_
  refine wI_end (.cons (.there rfl (.here)) (.cons (.there rfl (.there rfl (.here))) .nil)) ?_
  refine wpC_seq ?_
  refine wpC_seq ?_
  refine wC_ops ?_
  refine wI_mov (.t (.there rfl (.here))) ?_
  refine wI_lss (.t (.here)) .c ?_
  refine wI_mov (.t (.here)) ?_
  refine wI_gdF (.here) (fun g1 => ?_) (fun g1 => ?_)
  · -- g1 False
    refine wI_mov (.t (.there rfl (.there rfl (.there rfl (.there rfl (.here)))))) ?_
    refine wI_yes (.there rfl (.here)) g1 ?_
    refine wI_gtr (.t (.here)) .c ?_
    refine wI_pickF (.t (.there rfl (.there rfl (.here)))) g1 (.t (.here)) ?_
    refine wI_mov (.t (.here)) ?_
    refine wI_gdF (.here) (fun g2 => ?_) (fun g2 => ?_)
    · -- g2 False
      have hk4 : ¬ (4 < (k.length : Int)) := of_decide_eq_false (by assumption)
      refine wI_mov (.t (.there rfl (.there rfl (.there rfl (.there rfl (.there rfl (.there rfl (.there rfl (.here))))))))) ?_
      refine wI_yes (.there rfl (.here)) g2 ?_
      refine wI_lenStr (.t (.here)) ?_
      refine wI_yes (.there rfl (.there rfl (.here))) g2 ?_
      refine wI_mov (.t (.there rfl (.there rfl (.there rfl (.there rfl (.there rfl (.there rfl (.there rfl (.there rfl (.there rfl (.there rfl (.here)))))))))))) ?_
      refine wI_yes (.there rfl (.there rfl (.there rfl (.here)))) g2 ?_
      refine wI_add (.t (.here)) .c (wrap64 aOM) ?_
      refine wI_yes (.there rfl (.there rfl (.there rfl (.there rfl (.here))))) g2 ?_
      refine wI_neI (.t (.there rfl (.there rfl (.here)))) (.t (.here)) ?_
      refine wI_pickF (.t (.there rfl (.there rfl (.there rfl (.there rfl (.there rfl (.here))))))) g2 (.t (.here)) ?_
      refine wI_end (.cons (.there rfl (.there rfl (.there rfl (.there rfl (.there rfl (.there rfl (.there rfl (.there rfl (.there rfl (.there rfl (.there rfl (.there rfl (.there rfl (.here)))))))))))))) (.cons (.there rfl (.there rfl (.there rfl (.there rfl (.there rfl (.there rfl (.there rfl (.there rfl (.there rfl (.there rfl (.there rfl (.there rfl (.there rfl (.there rfl (.here))))))))))))))) (.cons (.here) .nil))) ?_
      refine wC_if (.t (.there rfl (.there rfl (.here)))) (fun c3 => ?_) (fun c3 => ?_)
      · -- c3 True
        refine wpC_seq ?_
        refine wC_ops ?_
        refine wI_mov .c ?_
        refine wI_end (.cons (.here) .nil) ?_
        refine wpC_ret (ret1 (.here) ?_)
        refine ⟨?_, rfl⟩
        congr 1
        symm
        first
          | exact decide_eq_false (fun z => by have := z.1; simp only [decide_eq_true_eq, decide_eq_false_iff_not] at *; omega)
          | exact decide_eq_false (fun z => by have := z.2.1; omega)
          | (refine decide_eq_false (fun z => ?_); have hj10 := ((formR_iff hrl).1 z.2).1 j aOM; unfold okAt at hj10; rw [hcj] at hj10; split at hj10 <;> (simp only [decide_eq_true_eq, decide_eq_false_iff_not, Bool.not_eq_true', Bool.not_eq_false'] at *; first | omega | (simp_all; done)))
          | exact decide_eq_decide.2 ⟨fun z => by have := z.2.2.2.2.2; rw [hcj] at this; exact this, fun z => ⟨⟨by omega, by omega⟩, (formR_iff hrl).2 ⟨fun q hq => hok q aOM, by rw [hcj]; exact z⟩⟩⟩
      · -- c3 False
        have hk1 : ¬ ((k.length : Int) < 1) := of_decide_eq_false (by assumption)
        have hrl : r.length = 11 := by omega
        refine wpC_skip ?_
        refine wpC_seq ?_
        refine wpC_seq ?_
        refine wC_ops ?_
        refine wI_mov (.t (.there rfl (.here))) ?_
        refine wI_mov (.t (.here)) ?_
        refine wI_end (.cons (.there rfl (.there rfl (.here))) (.cons (.there rfl (.there rfl (.there rfl (.here)))) (.cons (.here) .nil))) ?_
        refine wpC_block ?_
        refine wC_loop (α := Nat) (fun j => [(0, .str (k ++ r)), (1, .int .i64 k.length), (5, .int .i64 ((k.length : Int) + j))]) (fun j H => H = H0 ∧ j ≤ 10 ∧ ∀ q, q < j → okAt r q = true) (fun j => 10 - j) 0 (.cons (.here) (.cons (.there rfl (.here)) (.cons (.there rfl (.there rfl (.here))) .nil))) ?_ ?_
        · exact ⟨rfl, by omega, fun q hq => by omega⟩
        rintro j H1 ⟨heq, hj, hok⟩
        subst heq
        refine wpC_seq ?_
        refine wpC_seq ?_
        refine wC_ops ?_
        refine wI_mov (.t (.there rfl (.there rfl (.here)))) ?_
        refine wI_mov (.t (.there rfl (.there rfl (.here)))) ?_
        refine wI_add (.t (.here)) .c (wrap64 aOM) ?_
        refine wI_lss (.t (.there rfl (.there rfl (.here)))) (.t (.here)) ?_
        refine wI_end (.cons (.there rfl (.there rfl (.there rfl (.there rfl (.here))))) (.cons (.there rfl (.there rfl (.there rfl (.there rfl (.there rfl (.here)))))) (.cons (.there rfl (.there rfl (.there rfl (.there rfl (.there rfl (.there rfl (.here))))))) (.cons (.here) .nil)))) ?_
        refine wC_if (.t (.there rfl (.there rfl (.there rfl (.here))))) (fun c4 => ?_) (fun c4 => ?_)
        · -- c4 True
          refine wpC_skip ?_
          refine wpC_seq ?_
          refine wpC_block ?_
          refine wpC_seq ?_
          refine wC_ops ?_
          refine wI_mov (.t (.there rfl (.there rfl (.here)))) ?_
          refine wI_mov (.t (.there rfl (.there rfl (.here)))) ?_
          refine wI_add (.t (.here)) .c (wrap64 aOM) ?_
          refine wI_eqI (.t (.there rfl (.there rfl (.here)))) (.t (.here)) ?_
          refine wI_mov (.t (.here)) ?_
          refine wI_gdT (.here) (fun g5 => ?_) (fun g5 => ?_)
          · -- g5 True
            refine wI_mov (.t (.there rfl (.there rfl (.there rfl (.there rfl (.there rfl (.here))))))) ?_
            refine wI_yes (.there rfl (.here)) g5 ?_
            refine wI_mov (.t (.there rfl (.there rfl (.there rfl (.there rfl (.there rfl (.there rfl (.there rfl (.there rfl (.here)))))))))) ?_
            refine wI_yes (.there rfl (.there rfl (.here))) g5 ?_
            obtain ⟨c, hc⟩ : ∃ c, r[j]? = some c := ⟨_, List.getElem?_eq_getElem aOM⟩
            have hcj : r.getD j 0 = c := by rw [List.getD_eq_getElem?_getD, hc]; rfl
            refine wI_indexStr (m := k.length + j) (.t (.there rfl (.here))) (.t (.here)) aOM (by rw [List.getElem?_append_right aOM, show k.length + j - k.length = j by omega]; exact hc) ?_
            refine wI_yes (.there rfl (.there rfl (.there rfl (.here)))) g5 ?_
            refine wI_call (.cons (.t (.here)) .nil) (s111 hM _) ?_
            rintro _ _ ⟨rfl, heq6⟩
            obtain rfl := heq6.symm
            refine wI_yes (.there rfl (.there rfl (.there rfl (.there rfl (.here))))) g5 ?_
            refine wI_not (.t (.here)) ?_
            refine wI_pickT (.t (.there rfl (.there rfl (.there rfl (.there rfl (.there rfl (.here))))))) g5 (.t (.here)) ?_
            refine wI_mov (.t (.here)) ?_
            refine wI_gdF (.here) (fun g7 => ?_) (fun g7 => ?_)
            · -- g7 False
              refine wI_mov (.t (.there rfl (.there rfl (.there rfl (.there rfl (.there rfl (.there rfl (.there rfl (.there rfl (.there rfl (.there rfl (.there rfl (.there rfl (.there rfl (.there rfl (.here)))))))))))))))) ?_
              refine wI_yes (.there rfl (.here)) g7 ?_
              refine wI_mov (.t (.there rfl (.there rfl (.there rfl (.there rfl (.there rfl (.there rfl (.there rfl (.there rfl (.there rfl (.there rfl (.there rfl (.there rfl (.there rfl (.there rfl (.here)))))))))))))))) ?_
              refine wI_yes (.there rfl (.there rfl (.here))) g7 ?_
              refine wI_add (.t (.here)) .c (wrap64 aOM) ?_
              refine wI_yes (.there rfl (.there rfl (.there rfl (.here)))) g7 ?_
              refine wI_neI (.t (.there rfl (.there rfl (.here)))) (.t (.here)) ?_
              refine wI_yes (.there rfl (.there rfl (.there rfl (.there rfl (.here))))) g7 ?_
              refine wI_mov (.t (.here)) ?_
              refine wI_gdT (.here) (fun g8 => ?_) (fun g8 => ?_)
              · -- g8 True
                refine wI_mov (.t (.there rfl (.there rfl (.there rfl (.there rfl (.there rfl (.there rfl (.there rfl (.there rfl (.there rfl (.there rfl (.there rfl (.there rfl (.there rfl (.there rfl (.there rfl (.there rfl (.there rfl (.here))))))))))))))))))) ?_
                refine wI_yes (.there rfl (.here)) g8 ?_
                refine wI_mov (.t (.there rfl (.there rfl (.there rfl (.there rfl (.there rfl (.there rfl (.there rfl (.there rfl (.there rfl (.there rfl (.there rfl (.there rfl (.there rfl (.there rfl (.there rfl (.there rfl (.there rfl (.there rfl (.there rfl (.there rfl (.here)))))))))))))))))))))) ?_
                refine wI_yes (.there rfl (.there rfl (.here))) g8 ?_
                obtain ⟨c, hc⟩ : ∃ c, r[j]? = some c := ⟨_, List.getElem?_eq_getElem aOM⟩
                have hcj : r.getD j 0 = c := by rw [List.getD_eq_getElem?_getD, hc]; rfl
                refine wI_indexStr (m := k.length + j) (.t (.there rfl (.here))) (.t (.here)) aOM (by rw [List.getElem?_append_right aOM, show k.length + j - k.length = j by omega]; exact hc) ?_
                refine wI_yes (.there rfl (.there rfl (.there rfl (.here)))) g8 ?_
                refine wI_call (.cons (.t (.here)) .nil) (s136 hM _) ?_
                rintro _ _ ⟨rfl, heq9⟩
                obtain rfl := heq9.symm
                refine wI_yes (.there rfl (.there rfl (.there rfl (.there rfl (.here))))) g8 ?_
                refine wI_not (.t (.here)) ?_
                refine wI_yes (.there rfl (.there rfl (.there rfl (.there rfl (.there rfl (.there rfl (.there rfl (.there rfl (.there rfl (.there rfl (.here))))))))))) g7 ?_
                refine wI_pickT (.t (.there rfl (.there rfl (.there rfl (.there rfl (.there rfl (.here))))))) g8 (.t (.here)) ?_
                refine wI_pickF (.t (.there rfl (.there rfl (.there rfl (.there rfl (.there rfl (.there rfl (.there rfl (.there rfl (.there rfl (.there rfl (.there rfl (.here))))))))))))) g7 (.t (.here)) ?_
                refine wI_end (.cons (.there rfl (.there rfl (.there rfl (.there rfl (.there rfl (.there rfl (.there rfl (.there rfl (.there rfl (.there rfl (.there rfl (.there rfl (.there rfl (.there rfl (.there rfl (.there rfl (.there rfl (.there rfl (.there rfl (.there rfl (.there rfl (.there rfl (.there rfl (.there rfl (.here))))))))))))))))))))))))) (.cons (.there rfl (.there rfl (.there rfl (.there rfl (.there rfl (.there rfl (.there rfl (.there rfl (.there rfl (.there rfl (.there rfl (.there rfl (.there rfl (.there rfl (.there rfl (.there rfl (.there rfl (.there rfl (.there rfl (.there rfl (.there rfl (.there rfl (.there rfl (.there rfl (.there rfl (.here)))))))))))))))))))))))))) (.cons (.there rfl (.there rfl (.there rfl (.there rfl (.there rfl (.there rfl (.there rfl (.there rfl (.there rfl (.there rfl (.there rfl (.there rfl (.there rfl (.there rfl (.there rfl (.there rfl (.there rfl (.there rfl (.there rfl (.there rfl (.there rfl (.there rfl (.there rfl (.there rfl (.there rfl (.there rfl (.here))))))))))))))))))))))))))) (.cons (.here) .nil)))) ?_
                refine wC_cond (.t (.there rfl (.there rfl (.there rfl (.here))))) (fun c10 => ?_) (fun c10 => ?_)
                · -- c10 True
                  refine wpC_seq ?_
                  refine wC_ops ?_
                  refine wI_mov .c ?_
                  refine wI_end (.cons (.here) .nil) ?_
                  refine wpC_ret (ret1 (.here) ?_)
                  refine ⟨?_, rfl⟩
                  congr 1
                  symm
                  first
                    | exact decide_eq_false (fun z => by have := z.1; simp only [decide_eq_true_eq, decide_eq_false_iff_not] at *; omega)
                    | exact decide_eq_false (fun z => by have := z.2.1; omega)
                    | (refine decide_eq_false (fun z => ?_); have hj10 := ((formR_iff hrl).1 z.2).1 j aOM; unfold okAt at hj10; rw [hcj] at hj10; split at hj10 <;> (simp only [decide_eq_true_eq, decide_eq_false_iff_not, Bool.not_eq_true', Bool.not_eq_false'] at *; first | omega | (simp_all; done)))
                    | exact decide_eq_decide.2 ⟨fun z => by have := z.2.2.2.2.2; rw [hcj] at this; exact this, fun z => ⟨⟨by omega, by omega⟩, (formR_iff hrl).2 ⟨fun q hq => hok q aOM, by rw [hcj]; exact z⟩⟩⟩
                · -- c10 False
                  refine wpC_skip ?_
                  refine wC_ops ?_
                  refine wI_mov (.t (.there rfl (.there rfl (.here)))) ?_
                  refine wI_add (.t (.here)) .c (wrap64 aOM) ?_
                  refine wI_mov (.t (.here)) ?_
                  refine wI_end (.cons (.there rfl (.there rfl (.there rfl (.here)))) (.cons (.there rfl (.there rfl (.there rfl (.there rfl (.here))))) (.cons (.here) .nil))) ?_
                  refine ⟨j + 1, (.cons (.here) (.cons (.there rfl (.here)) (.cons (.there rfl (.there rfl (.here))) .nil))), ?_, ?_⟩
                  · refine ⟨rfl, by omega, fun q hq => ?_⟩
                    rcases Nat.lt_or_ge q j with z | z
                    · exact hok q z
                    · obtain rfl : q = j := by omega
                      first
                        | (exfalso; simp only [decide_eq_true_eq, decide_eq_false_iff_not, Bool.not_eq_true', Bool.not_eq_false'] at *; omega)
                        | (unfold okAt; rw [hcj]; split <;> (simp only [decide_eq_true_eq, decide_eq_false_iff_not, Bool.not_eq_true', Bool.not_eq_false'] at *; first | omega | assumption | (simp_all; done)))
                  · (first | omega | (simp only []; omega))
              · -- g8 False
                refine wI_no (.there rfl (.here)) (by rw [g8]; decide) ?_
                refine wI_no (.there rfl (.there rfl (.here))) (by rw [g8]; decide) ?_
                refine wI_no (.there rfl (.there rfl (.there rfl (.here)))) (by rw [g8]; decide) ?_
                refine wI_no (.there rfl (.there rfl (.there rfl (.there rfl (.here))))) (by rw [g8]; decide) ?_
                refine wI_yes (.there rfl (.there rfl (.there rfl (.there rfl (.there rfl (.there rfl (.there rfl (.there rfl (.there rfl (.there rfl (.here))))))))))) g7 ?_
                refine wI_pickF (.t (.there rfl (.there rfl (.there rfl (.there rfl (.there rfl (.here))))))) g8 .c ?_
                refine wI_pickF (.t (.there rfl (.there rfl (.there rfl (.there rfl (.there rfl (.there rfl (.there rfl (.there rfl (.there rfl (.there rfl (.there rfl (.here))))))))))))) g7 (.t (.here)) ?_
                refine wI_end (.cons (.there rfl (.there rfl (.there rfl (.there rfl (.there rfl (.there rfl (.there rfl (.there rfl (.there rfl (.there rfl (.there rfl (.there rfl (.there rfl (.there rfl (.there rfl (.there rfl (.there rfl (.there rfl (.there rfl (.there rfl (.there rfl (.there rfl (.there rfl (.there rfl (.here))))))))))))))))))))))))) (.cons (.there rfl (.there rfl (.there rfl (.there rfl (.there rfl (.there rfl (.there rfl (.there rfl (.there rfl (.there rfl (.there rfl (.there rfl (.there rfl (.there rfl (.there rfl (.there rfl (.there rfl (.there rfl (.there rfl (.there rfl (.there rfl (.there rfl (.there rfl (.there rfl (.there rfl (.here)))))))))))))))))))))))))) (.cons (.there rfl (.there rfl (.there rfl (.there rfl (.there rfl (.there rfl (.there rfl (.there rfl (.there rfl (.there rfl (.there rfl (.there rfl (.there rfl (.there rfl (.there rfl (.there rfl (.there rfl (.there rfl (.there rfl (.there rfl (.there rfl (.there rfl (.there rfl (.there rfl (.there rfl (.there rfl (.here))))))))))))))))))))))))))) (.cons (.here) .nil)))) ?_
                refine wC_condF (.t (.there rfl (.there rfl (.there rfl (.here))))) rfl ?_
                refine wpC_skip ?_
                refine wC_ops ?_
                refine wI_mov (.t (.there rfl (.there rfl (.here)))) ?_
                refine wI_add (.t (.here)) .c (wrap64 aOM) ?_
                refine wI_mov (.t (.here)) ?_
                refine wI_end (.cons (.there rfl (.there rfl (.there rfl (.here)))) (.cons (.there rfl (.there rfl (.there rfl (.there rfl (.here))))) (.cons (.here) .nil))) ?_
                refine ⟨j + 1, (.cons (.here) (.cons (.there rfl (.here)) (.cons (.there rfl (.there rfl (.here))) .nil))), ?_, ?_⟩
                · refine ⟨rfl, by omega, fun q hq => ?_⟩
                  rcases Nat.lt_or_ge q j with z | z
                  · exact hok q z
                  · obtain rfl : q = j := by omega
                    first
                      | (exfalso; simp only [decide_eq_true_eq, decide_eq_false_iff_not, Bool.not_eq_true', Bool.not_eq_false'] at *; omega)
                      | (unfold okAt; rw [hcj]; split <;> (simp only [decide_eq_true_eq, decide_eq_false_iff_not, Bool.not_eq_true', Bool.not_eq_false'] at *; first | omega | assumption | (simp_all; done)))
                · (first | omega | (simp only []; omega))
            · -- g7 True
              refine wI_no (.there rfl (.here)) (by rw [g7]; decide) ?_
              refine wI_no (.there rfl (.there rfl (.here))) (by rw [g7]; decide) ?_
              refine wI_no (.there rfl (.there rfl (.there rfl (.here)))) (by rw [g7]; decide) ?_
              refine wI_no (.there rfl (.there rfl (.there rfl (.there rfl (.here))))) (by rw [g7]; decide) ?_
              refine wI_none (.here) ?_
              refine wI_none (.there rfl (.here)) ?_
              refine wI_none (.there rfl (.there rfl (.here))) ?_
              refine wI_none (.there rfl (.there rfl (.there rfl (.here)))) ?_
              refine wI_none (.there rfl (.there rfl (.there rfl (.there rfl (.here))))) ?_
              refine wI_no (.there rfl (.there rfl (.there rfl (.there rfl (.there rfl (.there rfl (.there rfl (.there rfl (.there rfl (.there rfl (.here))))))))))) (by rw [g7]; decide) ?_
              refine wI_pickT (.t (.there rfl (.there rfl (.there rfl (.there rfl (.there rfl (.there rfl (.there rfl (.there rfl (.there rfl (.there rfl (.there rfl (.here))))))))))))) g7 .c ?_
              refine wI_end (.cons (.there rfl (.there rfl (.there rfl (.there rfl (.there rfl (.there rfl (.there rfl (.there rfl (.there rfl (.there rfl (.there rfl (.there rfl (.there rfl (.there rfl (.there rfl (.there rfl (.there rfl (.there rfl (.there rfl (.there rfl (.there rfl (.there rfl (.there rfl (.there rfl (.here))))))))))))))))))))))))) (.cons (.there rfl (.there rfl (.there rfl (.there rfl (.there rfl (.there rfl (.there rfl (.there rfl (.there rfl (.there rfl (.there rfl (.there rfl (.there rfl (.there rfl (.there rfl (.there rfl (.there rfl (.there rfl (.there rfl (.there rfl (.there rfl (.there rfl (.there rfl (.there rfl (.there rfl (.here)))))))))))))))))))))))))) (.cons (.there rfl (.there rfl (.there rfl (.there rfl (.there rfl (.there rfl (.there rfl (.there rfl (.there rfl (.there rfl (.there rfl (.there rfl (.there rfl (.there rfl (.there rfl (.there rfl (.there rfl (.there rfl (.there rfl (.there rfl (.there rfl (.there rfl (.there rfl (.there rfl (.there rfl (.there rfl (.here))))))))))))))))))))))))))) (.cons (.here) .nil)))) ?_
              refine wC_condT (.t (.there rfl (.there rfl (.there rfl (.here))))) rfl ?_
              refine wpC_seq ?_
              refine wC_ops ?_
              refine wI_mov .c ?_
              refine wI_end (.cons (.here) .nil) ?_
              refine wpC_ret (ret1 (.here) ?_)
              refine ⟨?_, rfl⟩
              congr 1
              symm
              first
                | exact decide_eq_false (fun z => by have := z.1; simp only [decide_eq_true_eq, decide_eq_false_iff_not] at *; omega)
                | exact decide_eq_false (fun z => by have := z.2.1; omega)
                | (refine decide_eq_false (fun z => ?_); have hj10 := ((formR_iff hrl).1 z.2).1 j aOM; unfold okAt at hj10; rw [hcj] at hj10; split at hj10 <;> (simp only [decide_eq_true_eq, decide_eq_false_iff_not, Bool.not_eq_true', Bool.not_eq_false'] at *; first | omega | (simp_all; done)))
                | exact decide_eq_decide.2 ⟨fun z => by have := z.2.2.2.2.2; rw [hcj] at this; exact this, fun z => ⟨⟨by omega, by omega⟩, (formR_iff hrl).2 ⟨fun q hq => hok q aOM, by rw [hcj]; exact z⟩⟩⟩
          · -- g5 False
            refine wI_no (.there rfl (.here)) (by rw [g5]; decide) ?_
            refine wI_no (.there rfl (.there rfl (.here))) (by rw [g5]; decide) ?_
            refine wI_no (.there rfl (.there rfl (.there rfl (.here)))) (by rw [g5]; decide) ?_
            refine wI_no (.there rfl (.there rfl (.there rfl (.there rfl (.here))))) (by rw [g5]; decide) ?_
            refine wI_pickF (.t (.there rfl (.there rfl (.there rfl (.there rfl (.there rfl (.here))))))) g5 .c ?_
            refine wI_mov (.t (.here)) ?_
            refine wI_yes (.here) rfl ?_
            refine wI_mov (.t (.there rfl (.there rfl (.there rfl (.there rfl (.there rfl (.there rfl (.there rfl (.there rfl (.there rfl (.there rfl (.there rfl (.there rfl (.there rfl (.there rfl (.here)))))))))))))))) ?_
            refine wI_yes (.there rfl (.here)) rfl ?_
            refine wI_mov (.t (.there rfl (.there rfl (.there rfl (.there rfl (.there rfl (.there rfl (.there rfl (.there rfl (.there rfl (.there rfl (.there rfl (.there rfl (.there rfl (.there rfl (.here)))))))))))))))) ?_
            refine wI_yes (.there rfl (.there rfl (.here))) rfl ?_
            refine wI_add (.t (.here)) .c (wrap64 aOM) ?_
            refine wI_yes (.there rfl (.there rfl (.there rfl (.here)))) rfl ?_
            refine wI_neI (.t (.there rfl (.there rfl (.here)))) (.t (.here)) ?_
            refine wI_yes (.there rfl (.there rfl (.there rfl (.there rfl (.here))))) rfl ?_
            refine wI_mov (.t (.here)) ?_
            refine wI_gdT (.here) (fun g11 => ?_) (fun g11 => ?_)
            · -- g11 True
              refine wI_mov (.t (.there rfl (.there rfl (.there rfl (.there rfl (.there rfl (.there rfl (.there rfl (.there rfl (.there rfl (.there rfl (.there rfl (.there rfl (.there rfl (.there rfl (.there rfl (.there rfl (.there rfl (.here))))))))))))))))))) ?_
              refine wI_yes (.there rfl (.here)) g11 ?_
              refine wI_mov (.t (.there rfl (.there rfl (.there rfl (.there rfl (.there rfl (.there rfl (.there rfl (.there rfl (.there rfl (.there rfl (.there rfl (.there rfl (.there rfl (.there rfl (.there rfl (.there rfl (.there rfl (.there rfl (.there rfl (.there rfl (.here)))))))))))))))))))))) ?_
              refine wI_yes (.there rfl (.there rfl (.here))) g11 ?_
              obtain ⟨c, hc⟩ : ∃ c, r[j]? = some c := ⟨_, List.getElem?_eq_getElem aOM⟩
              have hcj : r.getD j 0 = c := by rw [List.getD_eq_getElem?_getD, hc]; rfl
              refine wI_indexStr (m := k.length + j) (.t (.there rfl (.here))) (.t (.here)) aOM (by rw [List.getElem?_append_right aOM, show k.length + j - k.length = j by omega]; exact hc) ?_
              refine wI_yes (.there rfl (.there rfl (.there rfl (.here)))) g11 ?_
              refine wI_call (.cons (.t (.here)) .nil) (s136 hM _) ?_
              rintro _ _ ⟨rfl, heq12⟩
              obtain rfl := heq12.symm
              refine wI_yes (.there rfl (.there rfl (.there rfl (.there rfl (.here))))) g11 ?_
              refine wI_not (.t (.here)) ?_
              refine wI_yes (.there rfl (.there rfl (.there rfl (.there rfl (.there rfl (.there rfl (.there rfl (.there rfl (.there rfl (.there rfl (.here))))))))))) rfl ?_
              refine wI_pickT (.t (.there rfl (.there rfl (.there rfl (.there rfl (.there rfl (.here))))))) g11 (.t (.here)) ?_
              refine wI_pickF (.t (.there rfl (.there rfl (.there rfl (.there rfl (.there rfl (.there rfl (.there rfl (.there rfl (.there rfl (.there rfl (.there rfl (.here))))))))))))) rfl (.t (.here)) ?_
              refine wI_end (.cons (.there rfl (.there rfl (.there rfl (.there rfl (.there rfl (.there rfl (.there rfl (.there rfl (.there rfl (.there rfl (.there rfl (.there rfl (.there rfl (.there rfl (.there rfl (.there rfl (.there rfl (.there rfl (.there rfl (.there rfl (.there rfl (.there rfl (.there rfl (.there rfl (.here))))))))))))))))))))))))) (.cons (.there rfl (.there rfl (.there rfl (.there rfl (.there rfl (.there rfl (.there rfl (.there rfl (.there rfl (.there rfl (.there rfl (.there rfl (.there rfl (.there rfl (.there rfl (.there rfl (.there rfl (.there rfl (.there rfl (.there rfl (.there rfl (.there rfl (.there rfl (.there rfl (.there rfl (.here)))))))))))))))))))))))))) (.cons (.there rfl (.there rfl (.there rfl (.there rfl (.there rfl (.there rfl (.there rfl (.there rfl (.there rfl (.there rfl (.there rfl (.there rfl (.there rfl (.there rfl (.there rfl (.there rfl (.there rfl (.there rfl (.there rfl (.there rfl (.there rfl (.there rfl (.there rfl (.there rfl (.there rfl (.there rfl (.here))))))))))))))))))))))))))) (.cons (.here) .nil)))) ?_
              refine wC_cond (.t (.there rfl (.there rfl (.there rfl (.here))))) (fun c13 => ?_) (fun c13 => ?_)
              · -- c13 True
                refine wpC_seq ?_
                refine wC_ops ?_
                refine wI_mov .c ?_
                refine wI_end (.cons (.here) .nil) ?_
                refine wpC_ret (ret1 (.here) ?_)
                refine ⟨?_, rfl⟩
                congr 1
                symm
                first
                  | exact decide_eq_false (fun z => by have := z.1; simp only [decide_eq_true_eq, decide_eq_false_iff_not] at *; omega)
                  | exact decide_eq_false (fun z => by have := z.2.1; omega)
                  | (refine decide_eq_false (fun z => ?_); have hj10 := ((formR_iff hrl).1 z.2).1 j aOM; unfold okAt at hj10; rw [hcj] at hj10; split at hj10 <;> (simp only [decide_eq_true_eq, decide_eq_false_iff_not, Bool.not_eq_true', Bool.not_eq_false'] at *; first | omega | (simp_all; done)))
                  | exact decide_eq_decide.2 ⟨fun z => by have := z.2.2.2.2.2; rw [hcj] at this; exact this, fun z => ⟨⟨by omega, by omega⟩, (formR_iff hrl).2 ⟨fun q hq => hok q aOM, by rw [hcj]; exact z⟩⟩⟩
              · -- c13 False
                refine wpC_skip ?_
                refine wC_ops ?_
                refine wI_mov (.t (.there rfl (.there rfl (.here)))) ?_
                refine wI_add (.t (.here)) .c (wrap64 aOM) ?_
                refine wI_mov (.t (.here)) ?_
                refine wI_end (.cons (.there rfl (.there rfl (.there rfl (.here)))) (.cons (.there rfl (.there rfl (.there rfl (.there rfl (.here))))) (.cons (.here) .nil))) ?_
                refine ⟨j + 1, (.cons (.here) (.cons (.there rfl (.here)) (.cons (.there rfl (.there rfl (.here))) .nil))), ?_, ?_⟩
                · refine ⟨rfl, by omega, fun q hq => ?_⟩
                  rcases Nat.lt_or_ge q j with z | z
                  · exact hok q z
                  · obtain rfl : q = j := by omega
                    first
                      | (exfalso; simp only [decide_eq_true_eq, decide_eq_false_iff_not, Bool.not_eq_true', Bool.not_eq_false'] at *; omega)
                      | (unfold okAt; rw [hcj]; split <;> (simp only [decide_eq_true_eq, decide_eq_false_iff_not, Bool.not_eq_true', Bool.not_eq_false'] at *; first | omega | assumption | (simp_all; done)))
                · (first | omega | (simp only []; omega))
            · -- g11 False
              refine wI_no (.there rfl (.here)) (by rw [g11]; decide) ?_
              refine wI_no (.there rfl (.there rfl (.here))) (by rw [g11]; decide) ?_
              refine wI_no (.there rfl (.there rfl (.there rfl (.here)))) (by rw [g11]; decide) ?_
              refine wI_no (.there rfl (.there rfl (.there rfl (.there rfl (.here))))) (by rw [g11]; decide) ?_
              refine wI_yes (.there rfl (.there rfl (.there rfl (.there rfl (.there rfl (.there rfl (.there rfl (.there rfl (.there rfl (.there rfl (.here))))))))))) rfl ?_
              refine wI_pickF (.t (.there rfl (.there rfl (.there rfl (.there rfl (.there rfl (.here))))))) g11 .c ?_
              refine wI_pickF (.t (.there rfl (.there rfl (.there rfl (.there rfl (.there rfl (.there rfl (.there rfl (.there rfl (.there rfl (.there rfl (.there rfl (.here))))))))))))) rfl (.t (.here)) ?_
              refine wI_end (.cons (.there rfl (.there rfl (.there rfl (.there rfl (.there rfl (.there rfl (.there rfl (.there rfl (.there rfl (.there rfl (.there rfl (.there rfl (.there rfl (.there rfl (.there rfl (.there rfl (.there rfl (.there rfl (.there rfl (.there rfl (.there rfl (.there rfl (.there rfl (.there rfl (.here))))))))))))))))))))))))) (.cons (.there rfl (.there rfl (.there rfl (.there rfl (.there rfl (.there rfl (.there rfl (.there rfl (.there rfl (.there rfl (.there rfl (.there rfl (.there rfl (.there rfl (.there rfl (.there rfl (.there rfl (.there rfl (.there rfl (.there rfl (.there rfl (.there rfl (.there rfl (.there rfl (.there rfl (.here)))))))))))))))))))))))))) (.cons (.there rfl (.there rfl (.there rfl (.there rfl (.there rfl (.there rfl (.there rfl (.there rfl (.there rfl (.there rfl (.there rfl (.there rfl (.there rfl (.there rfl (.there rfl (.there rfl (.there rfl (.there rfl (.there rfl (.there rfl (.there rfl (.there rfl (.there rfl (.there rfl (.there rfl (.there rfl (.here))))))))))))))))))))))))))) (.cons (.here) .nil)))) ?_
              refine wC_condF (.t (.there rfl (.there rfl (.there rfl (.here))))) rfl ?_
              refine wpC_skip ?_
              refine wC_ops ?_
              refine wI_mov (.t (.there rfl (.there rfl (.here)))) ?_
              refine wI_add (.t (.here)) .c (wrap64 aOM) ?_
              refine wI_mov (.t (.here)) ?_
              refine wI_end (.cons (.there rfl (.there rfl (.there rfl (.here)))) (.cons (.there rfl (.there rfl (.there rfl (.there rfl (.here))))) (.cons (.here) .nil))) ?_
              refine ⟨j + 1, (.cons (.here) (.cons (.there rfl (.here)) (.cons (.there rfl (.there rfl (.here))) .nil))), ?_, ?_⟩
              · refine ⟨rfl, by omega, fun q hq => ?_⟩
                rcases Nat.lt_or_ge q j with z | z
                · exact hok q z
                · obtain rfl : q = j := by omega
                  first
                    | (exfalso; simp only [decide_eq_true_eq, decide_eq_false_iff_not, Bool.not_eq_true', Bool.not_eq_false'] at *; omega)
                    | (unfold okAt; rw [hcj]; split <;> (simp only [decide_eq_true_eq, decide_eq_false_iff_not, Bool.not_eq_true', Bool.not_eq_false'] at *; first | omega | assumption | (simp_all; done)))
              · (first | omega | (simp only []; omega))
        · -- c4 False
          refine wpC_exit ?_
          refine wpC_seq ?_
          refine wC_ops ?_
          refine wI_mov (.t (.here)) ?_
          refine wI_mov (.t (.there rfl (.there rfl (.here)))) ?_
          refine wI_add (.t (.here)) .c (wrap64 aOM) ?_
          obtain ⟨c, hc⟩ : ∃ c, r[10]? = some c := ⟨_, List.getElem?_eq_getElem aOM⟩
          have hcj : r.getD 10 0 = c := by rw [List.getD_eq_getElem?_getD, hc]; rfl
          refine wI_indexStr (m := k.length + 10) (.t (.there rfl (.there rfl (.here)))) (.t (.here)) aOM (by rw [List.getElem?_append_right aOM, show k.length + 10 - k.length = 10 by omega]; exact hc) ?_
          refine wI_call (.cons (.t (.here)) .nil) (s130 hM _) ?_
          rintro _ _ ⟨rfl, heq14⟩
          obtain rfl := heq14.symm
          refine wI_geq (.t (.here)) .c ?_
          refine wI_mov (.t (.here)) ?_
          refine wI_end (.cons (.here) .nil) ?_
          refine wpC_ret (ret1 (.here) ?_)
          refine ⟨?_, rfl⟩
          congr 1
          symm
          first
            | exact decide_eq_false (fun z => by have := z.1; simp only [decide_eq_true_eq, decide_eq_false_iff_not] at *; omega)
            | exact decide_eq_false (fun z => by have := z.2.1; omega)
            | (refine decide_eq_false (fun z => ?_); have hj10 := ((formR_iff hrl).1 z.2).1 j aOM; unfold okAt at hj10; rw [hcj] at hj10; split at hj10 <;> (simp only [decide_eq_true_eq, decide_eq_false_iff_not, Bool.not_eq_true', Bool.not_eq_false'] at *; first | omega | (simp_all; done)))
            | exact decide_eq_decide.2 ⟨fun z => by have := z.2.2.2.2.2; rw [hcj] at this; exact this, fun z => ⟨⟨by omega, by omega⟩, (formR_iff hrl).2 ⟨fun q hq => hok q aOM, by rw [hcj]; exact z⟩⟩⟩
    · -- g2 True
      refine wI_no (.there rfl (.here)) (by rw [g2]; decide) ?_
      refine wI_no (.there rfl (.there rfl (.here))) (by rw [g2]; decide) ?_
      refine wI_no (.there rfl (.there rfl (.there rfl (.here)))) (by rw [g2]; decide) ?_
      refine wI_no (.there rfl (.there rfl (.there rfl (.there rfl (.here))))) (by rw [g2]; decide) ?_
      refine wI_pickT (.t (.there rfl (.there rfl (.there rfl (.there rfl (.there rfl (.here))))))) g2 .c ?_
      refine wI_end (.cons (.there rfl (.there rfl (.there rfl (.there rfl (.there rfl (.there rfl (.there rfl (.there rfl (.there rfl (.there rfl (.there rfl (.there rfl (.there rfl (.here)))))))))))))) (.cons (.there rfl (.there rfl (.there rfl (.there rfl (.there rfl (.there rfl (.there rfl (.there rfl (.there rfl (.there rfl (.there rfl (.there rfl (.there rfl (.there rfl (.here))))))))))))))) (.cons (.here) .nil))) ?_
      refine wC_condT (.t (.there rfl (.there rfl (.here)))) rfl ?_
      refine wpC_seq ?_
      refine wC_ops ?_
      refine wI_mov .c ?_
      refine wI_end (.cons (.here) .nil) ?_
      refine wpC_ret (ret1 (.here) ?_)
      refine ⟨?_, rfl⟩
      congr 1
      symm
      first
        | exact decide_eq_false (fun z => by have := z.1; simp only [decide_eq_true_eq, decide_eq_false_iff_not] at *; omega)
        | exact decide_eq_false (fun z => by have := z.2.1; omega)
        | (refine decide_eq_false (fun z => ?_); have hj10 := ((formR_iff hrl).1 z.2).1 j aOM; unfold okAt at hj10; rw [hcj] at hj10; split at hj10 <;> (simp only [decide_eq_true_eq, decide_eq_false_iff_not, Bool.not_eq_true', Bool.not_eq_false'] at *; first | omega | (simp_all; done)))
        | exact decide_eq_decide.2 ⟨fun z => by have := z.2.2.2.2.2; rw [hcj] at this; exact this, fun z => ⟨⟨by omega, by omega⟩, (formR_iff hrl).2 ⟨fun q hq => hok q aOM, by rw [hcj]; exact z⟩⟩⟩
  · -- g1 True
    refine wI_no (.there rfl (.here)) (by rw [g1]; decide) ?_
    refine wI_pickT (.t (.there rfl (.there rfl (.here)))) g1 .c ?_
    refine wI_mov (.t (.here)) ?_
    refine wI_no (.here) (by decide) ?_
    refine wI_no (.there rfl (.here)) (by decide) ?_
    refine wI_no (.there rfl (.there rfl (.here))) (by decide) ?_
    refine wI_no (.there rfl (.there rfl (.there rfl (.here)))) (by decide) ?_
    refine wI_no (.there rfl (.there rfl (.there rfl (.there rfl (.here))))) (by decide) ?_
    refine wI_pickT (.t (.there rfl (.there rfl (.there rfl (.there rfl (.there rfl (.here))))))) rfl .c ?_
    refine wI_end (.cons (.there rfl (.there rfl (.there rfl (.there rfl (.there rfl (.there rfl (.there rfl (.there rfl (.there rfl (.there rfl (.there rfl (.there rfl (.there rfl (.here)))))))))))))) (.cons (.there rfl (.there rfl (.there rfl (.there rfl (.there rfl (.there rfl (.there rfl (.there rfl (.there rfl (.there rfl (.there rfl (.there rfl (.there rfl (.there rfl (.here))))))))))))))) (.cons (.here) .nil))) ?_
    refine wC_condT (.t (.there rfl (.there rfl (.here)))) rfl ?_
    refine wpC_seq ?_
    refine wC_ops ?_
    refine wI_mov .c ?_
    refine wI_end (.cons (.here) .nil) ?_
    refine wpC_ret (ret1 (.here) ?_)
    refine ⟨?_, rfl⟩
    congr 1
    symm
    first
      | exact decide_eq_false (fun z => by have := z.1; simp only [decide_eq_true_eq, decide_eq_false_iff_not] at *; omega)
      | exact decide_eq_false (fun z => by have := z.2.1; omega)
      | (refine decide_eq_false (fun z => ?_); have hj10 := ((formR_iff hrl).1 z.2).1 j aOM; unfold okAt at hj10; rw [hcj] at hj10; split at hj10 <;> (simp only [decide_eq_true_eq, decide_eq_false_iff_not, Bool.not_eq_true', Bool.not_eq_false'] at *; first | omega | (simp_all; done)))
      | exact decide_eq_decide.2 ⟨fun z => by have := z.2.2.2.2.2; rw [hcj] at this; exact this, fun z => ⟨⟨by omega, by omega⟩, (formR_iff hrl).2 ⟨fun q hq => hok q aOM, by rw [hcj]; exact z⟩⟩⟩
end Wk
