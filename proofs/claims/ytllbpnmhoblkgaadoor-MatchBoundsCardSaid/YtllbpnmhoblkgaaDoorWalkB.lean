/- A part of the proof: WalkB. It holds for whatever its statements name; no condition beyond theirs. -/
import Derived.Test.YtllbpnmhoblkgaaDoorWalkS
import Derived.Test.YtllbpnmhoblkgaaDoorSpB
import Derived.Test.YtllbpnmhoblkgaaDoorCodeB
namespace Wk
open Go Am DC Sp Mt
variable {T : Tab} {H0 : AH}

theorem s82 (hT : Ext fns1 T) (hB : Ext fnsB T) {a b : AV} {t : List Int} {I : List (List Rng)} {vs : List AV} (hS : SortAt H0 a b t I vs) {cv : AV} {c : List Int} (hc : Ints H0 cv c) (hcl : c.length ≤ 40) :
    wpF T (.fn 82 []) [.agg [a, b], cv] H0 (fun r H => r = .int .i64 (if check t I = 0 then cutS I.length c else check t I) ∧ H0.Sub H) := by
  refine wF hB (af := A82) rfl ?_
  obtain ⟨ht, hv, hn, hI, hm1, hm2, hm3⟩ := id hS
  have hbl : LenOf b I.length := hn ▸ hv.len
  refine wpC_seq ?_
  refine wC_ops ?_
  refine wI_box (.t (.here)) aBOX ?_
  refine wI_mov .c ?_
  refine wI_end (.cons (.there rfl (.there rfl (.there rfl (.here)))) (.cons (.there rfl (.here)) .nil)) ?_
  refine wpC_seq ?_
  refine wpC_seq ?_
  refine wC_ops ?_
  refine wI_loadT (.t (.there rfl (.here))) aGET aRC ?_
  refine wI_call (.cons (.t (.here)) .nil) (s21 hT (hS.mono aSUB)) ?_
  rintro _ H1 ⟨rfl, hs1⟩
  have hsn1 := hs1.next
  refine wI_mov (.t (.here)) ?_
  refine wI_end (.cons (.there rfl (.there rfl (.there rfl (.here)))) (.cons (.there rfl (.there rfl (.there rfl (.there rfl (.here))))) (.cons (.here) .nil))) ?_
  refine wpC_seq ?_
  refine wC_ops ?_
  refine wI_mov (.t (.there rfl (.there rfl (.here)))) ?_
  refine wI_neI (.t (.here)) .c ?_
  refine wI_end (.cons (.there rfl (.there rfl (.here))) (.cons (.there rfl (.there rfl (.there rfl (.here)))) (.cons (.there rfl (.there rfl (.there rfl (.there rfl (.here))))) (.cons (.here) .nil)))) ?_
  refine wC_if (.t (.there rfl (.there rfl (.there rfl (.here))))) (fun c2 => ?_) (fun c2 => ?_)
  · -- c2 True
    refine wpC_seq ?_
    refine wC_ops ?_
    refine wI_mov (.t (.there rfl (.there rfl (.here)))) ?_
    refine wI_mov (.t (.here)) ?_
    refine wI_end (.cons (.here) .nil) ?_
    refine wpC_ret (ret1 (.here) ?_)
    refine ⟨?_, aSUB⟩
    congr 1
    symm
    first | exact if_neg (by assumption) | (rw [if_pos (show check t I = 0 by omega), hq]; exact cutE_7 aOM (by (try simp only [decide_eq_true_eq, decide_eq_false_iff_not, Bool.not_eq_true', Bool.not_eq_false', Bool.not_eq_true, Bool.not_eq_false] at *) <;> (first | assumption | omega))) | (rw [if_pos (show check t I = 0 by omega), hq]; exact cutE_11 aOM (by (try simp only [decide_eq_true_eq, decide_eq_false_iff_not, Bool.not_eq_true', Bool.not_eq_false', Bool.not_eq_true, Bool.not_eq_false] at *) <;> (first | assumption | omega)) (by (try simp only [decide_eq_true_eq, decide_eq_false_iff_not, Bool.not_eq_true', Bool.not_eq_false', Bool.not_eq_true, Bool.not_eq_false] at *) <;> (first | assumption | omega))) | (rw [if_pos (show check t I = 0 by omega), hq, show c.length - i = 0 by omega]; rfl)
  · -- c2 False
    refine wpC_skip ?_
    refine wpC_seq ?_
    refine wpC_seq ?_
    refine wC_ops ?_
    refine wI_mov .c ?_
    refine wI_end (.cons (.there rfl (.here)) (.cons (.there rfl (.there rfl (.here))) (.cons (.here) .nil))) ?_
    refine wpC_block ?_
    refine wC_loop (α := Nat) (fun i => [(1, cv), (2, .ptr H0.next 0), (6, .int .i64 i)]) (fun i H => H0.Sub H ∧ H.get H0.next = some (.cells [a, b] true) ∧ i ≤ c.length ∧ cutS I.length c = cutE I.length c (c.length - i) i) (fun i => c.length - i) 0 (.cons (.here) (.cons (.there rfl (.here)) (.cons (.there rfl (.there rfl (.here))) .nil))) ?_ ?_
    · exact ⟨aSUB, aGET, by omega, rfl⟩
    rintro i H1 ⟨hs, hb, hi, hq⟩
    have hsn := hs.next
    refine wpC_seq ?_
    refine wpC_seq ?_
    refine wC_ops ?_
    refine wI_mov (.t (.there rfl (.there rfl (.here)))) ?_
    refine wI_mov (.t (.there rfl (.here))) ?_
    refine wI_lenSl (.t (.here)) aLEN ?_
    refine wI_lss (.t (.there rfl (.there rfl (.here)))) (.t (.here)) ?_
    refine wI_end (.cons (.there rfl (.there rfl (.there rfl (.there rfl (.here))))) (.cons (.there rfl (.there rfl (.there rfl (.there rfl (.there rfl (.here)))))) (.cons (.there rfl (.there rfl (.there rfl (.there rfl (.there rfl (.there rfl (.here))))))) (.cons (.here) .nil)))) ?_
    refine wC_if (.t (.there rfl (.there rfl (.there rfl (.here))))) (fun c3 => ?_) (fun c3 => ?_)
    · -- c3 True
      refine wpC_skip ?_
      refine wpC_seq ?_
      refine wpC_block ?_
      refine wpC_seq ?_
      refine wpC_seq ?_
      refine wC_ops ?_
      refine wI_mov (.t (.here)) ?_
      refine wI_mov (.t (.there rfl (.there rfl (.there rfl (.here))))) ?_
      first | refine wI_ixInts (.t (.there rfl (.here))) aATI (.t (.here)) rfl aOM (fun b4 o4 p4 => ?_) | refine wI_ixVals (.t (.there rfl (.here))) aATI (.t (.here)) rfl aOM (fun b4 o4 p4 => ?_) | refine wI_ixBools (.t (.there rfl (.here))) aATI (.t (.here)) rfl aOM (fun b4 o4 p4 => ?_)
      refine wI_ldc1 0 (.t (.here)) (by first | exact p4 | exact Cells.mono p4 aSUB) rfl ?_
      refine wI_fieldAddr (.t (.there rfl (.there rfl (.there rfl (.there rfl (.there rfl (.here))))))) ?_
      refine wI_load1 (.t (.here)) aGET rfl ?_
      refine wI_lenSl (.t (.here)) aLEN ?_
      refine wI_sub (.t (.here)) .c (wrap64 aOM) ?_
      refine wI_call (.cons (.t (.there rfl (.there rfl (.there rfl (.there rfl (.here)))))) (.cons .c (.cons (.t (.here)) .nil))) (s69 hT _ _ _) ?_
      rintro _ _ ⟨rfl, heq5⟩
      obtain rfl := heq5.symm
      refine wI_not (.t (.here)) ?_
      refine wI_end (.cons (.there rfl (.there rfl (.there rfl (.there rfl (.there rfl (.there rfl (.there rfl (.there rfl (.there rfl (.there rfl (.here))))))))))) (.cons (.there rfl (.there rfl (.there rfl (.there rfl (.there rfl (.there rfl (.there rfl (.there rfl (.there rfl (.there rfl (.there rfl (.here)))))))))))) (.cons (.there rfl (.there rfl (.there rfl (.there rfl (.there rfl (.there rfl (.there rfl (.there rfl (.there rfl (.there rfl (.there rfl (.there rfl (.here))))))))))))) (.cons (.here) .nil)))) ?_
      refine wC_cond (.t (.there rfl (.there rfl (.there rfl (.here))))) (fun c6 => ?_) (fun c6 => ?_)
      · -- c6 True
        refine wpC_seq ?_
        refine wC_ops ?_
        refine wI_mov .c ?_
        refine wI_end (.cons (.here) .nil) ?_
        refine wpC_ret (ret1 (.here) ?_)
        refine ⟨?_, aSUB⟩
        congr 1
        symm
        first | exact if_neg (by assumption) | (rw [if_pos (show check t I = 0 by omega), hq]; exact cutE_7 aOM (by (try simp only [decide_eq_true_eq, decide_eq_false_iff_not, Bool.not_eq_true', Bool.not_eq_false', Bool.not_eq_true, Bool.not_eq_false] at *) <;> (first | assumption | omega))) | (rw [if_pos (show check t I = 0 by omega), hq]; exact cutE_11 aOM (by (try simp only [decide_eq_true_eq, decide_eq_false_iff_not, Bool.not_eq_true', Bool.not_eq_false', Bool.not_eq_true, Bool.not_eq_false] at *) <;> (first | assumption | omega)) (by (try simp only [decide_eq_true_eq, decide_eq_false_iff_not, Bool.not_eq_true', Bool.not_eq_false', Bool.not_eq_true, Bool.not_eq_false] at *) <;> (first | assumption | omega))) | (rw [if_pos (show check t I = 0 by omega), hq, show c.length - i = 0 by omega]; rfl)
      · -- c6 False
        refine wpC_skip ?_
        refine wpC_seq ?_
        refine wC_ops ?_
        refine wI_mov (.t (.there rfl (.there rfl (.here)))) ?_
        refine wI_gtr (.t (.here)) .c ?_
        refine wI_mov (.t (.here)) ?_
        refine wI_gdT (.here) (fun g7 => ?_) (fun g7 => ?_)
        · -- g7 True
          refine wI_mov (.t (.there rfl (.there rfl (.there rfl (.here))))) ?_
          refine wI_yes (.there rfl (.here)) g7 ?_
          refine wI_mov (.t (.there rfl (.there rfl (.there rfl (.there rfl (.there rfl (.there rfl (.here)))))))) ?_
          refine wI_yes (.there rfl (.there rfl (.here))) g7 ?_
          first | refine wI_ixInts (.t (.there rfl (.here))) aATI (.t (.here)) rfl aOM (fun b8 o8 p8 => ?_) | refine wI_ixVals (.t (.there rfl (.here))) aATI (.t (.here)) rfl aOM (fun b8 o8 p8 => ?_) | refine wI_ixBools (.t (.there rfl (.here))) aATI (.t (.here)) rfl aOM (fun b8 o8 p8 => ?_)
          refine wI_yes (.there rfl (.there rfl (.there rfl (.here)))) g7 ?_
          refine wI_ldc1 0 (.t (.here)) (by first | exact p8 | exact Cells.mono p8 aSUB) rfl ?_
          refine wI_yes (.there rfl (.there rfl (.there rfl (.there rfl (.here))))) g7 ?_
          refine wI_mov (.t (.there rfl (.there rfl (.there rfl (.there rfl (.there rfl (.there rfl (.there rfl (.here))))))))) ?_
          refine wI_yes (.there rfl (.there rfl (.there rfl (.there rfl (.there rfl (.here)))))) g7 ?_
          refine wI_mov (.t (.there rfl (.there rfl (.there rfl (.there rfl (.there rfl (.there rfl (.there rfl (.there rfl (.there rfl (.there rfl (.here)))))))))))) ?_
          refine wI_yes (.there rfl (.there rfl (.there rfl (.there rfl (.there rfl (.there rfl (.here))))))) g7 ?_
          refine wI_sub (.t (.here)) .c (wrap64 aOM) ?_
          refine wI_yes (.there rfl (.there rfl (.there rfl (.there rfl (.there rfl (.there rfl (.there rfl (.here)))))))) g7 ?_
          have hi0 : (0 : Int) < i := of_decide_eq_true (by assumption)
          refine wI_ixInts (m := i - 1) (.t (.there rfl (.there rfl (.here)))) aATI (.t (.here)) aOM aOM (fun bq oq pq => ?_)
          refine wI_yes (.there rfl (.there rfl (.there rfl (.there rfl (.there rfl (.there rfl (.there rfl (.there rfl (.here))))))))) g7 ?_
          refine wI_ldc1 0 (.t (.here)) (by first | exact pq | exact Cells.mono pq aSUB) rfl ?_
          refine wI_yes (.there rfl (.there rfl (.there rfl (.there rfl (.there rfl (.there rfl (.there rfl (.there rfl (.there rfl (.here)))))))))) g7 ?_
          refine wI_leq (.t (.there rfl (.there rfl (.there rfl (.there rfl (.there rfl (.here))))))) (.t (.here)) ?_
          refine wI_pickT (.t (.there rfl (.there rfl (.there rfl (.there rfl (.there rfl (.there rfl (.there rfl (.there rfl (.there rfl (.there rfl (.here)))))))))))) g7 (.t (.here)) ?_
          refine wI_end (.cons (.there rfl (.there rfl (.there rfl (.there rfl (.there rfl (.there rfl (.there rfl (.there rfl (.there rfl (.there rfl (.there rfl (.there rfl (.there rfl (.there rfl (.here))))))))))))))) (.cons (.there rfl (.there rfl (.there rfl (.there rfl (.there rfl (.there rfl (.there rfl (.there rfl (.there rfl (.there rfl (.there rfl (.there rfl (.there rfl (.there rfl (.there rfl (.here)))))))))))))))) (.cons (.there rfl (.there rfl (.there rfl (.there rfl (.there rfl (.there rfl (.there rfl (.there rfl (.there rfl (.there rfl (.there rfl (.there rfl (.there rfl (.there rfl (.there rfl (.there rfl (.here))))))))))))))))) (.cons (.here) .nil)))) ?_
          refine wC_if (.t (.there rfl (.there rfl (.there rfl (.here))))) (fun c9 => ?_) (fun c9 => ?_)
          · -- c9 True
            refine wpC_seq ?_
            refine wC_ops ?_
            refine wI_mov .c ?_
            refine wI_end (.cons (.here) .nil) ?_
            refine wpC_ret (ret1 (.here) ?_)
            refine ⟨?_, aSUB⟩
            congr 1
            symm
            first | exact if_neg (by assumption) | (rw [if_pos (show check t I = 0 by omega), hq]; exact cutE_7 aOM (by (try simp only [decide_eq_true_eq, decide_eq_false_iff_not, Bool.not_eq_true', Bool.not_eq_false', Bool.not_eq_true, Bool.not_eq_false] at *) <;> (first | assumption | omega))) | (rw [if_pos (show check t I = 0 by omega), hq]; exact cutE_11 aOM (by (try simp only [decide_eq_true_eq, decide_eq_false_iff_not, Bool.not_eq_true', Bool.not_eq_false', Bool.not_eq_true, Bool.not_eq_false] at *) <;> (first | assumption | omega)) (by (try simp only [decide_eq_true_eq, decide_eq_false_iff_not, Bool.not_eq_true', Bool.not_eq_false', Bool.not_eq_true, Bool.not_eq_false] at *) <;> (first | assumption | omega))) | (rw [if_pos (show check t I = 0 by omega), hq, show c.length - i = 0 by omega]; rfl)
          · -- c9 False
            refine wpC_skip ?_
            refine wC_ops ?_
            refine wI_mov (.t (.there rfl (.there rfl (.here)))) ?_
            refine wI_add (.t (.here)) .c (wrap64 aOM) ?_
            refine wI_mov (.t (.here)) ?_
            refine wI_end (.cons (.there rfl (.there rfl (.there rfl (.here)))) (.cons (.there rfl (.there rfl (.there rfl (.there rfl (.here))))) (.cons (.here) .nil))) ?_
            refine ⟨i + 1, (.cons (.here) (.cons (.there rfl (.here)) (.cons (.there rfl (.there rfl (.here))) .nil))), ?_, ?_⟩
            · refine ⟨aSUB, aGET, by omega, hq.trans (cutE_step aOM (by (try simp only [decide_eq_true_eq, decide_eq_false_iff_not, Bool.not_eq_true', Bool.not_eq_false', Bool.not_eq_true, Bool.not_eq_false] at *) <;> (first | assumption | omega)) ?_)⟩
              rintro ⟨z1, z2⟩
              first | omega | (simp only [decide_eq_false_iff_not] at *; omega)
            · (first | omega | (simp only []; omega))
        · -- g7 False
          refine wI_no (.there rfl (.here)) (by rw [g7]; decide) ?_
          refine wI_no (.there rfl (.there rfl (.here))) (by rw [g7]; decide) ?_
          refine wI_no (.there rfl (.there rfl (.there rfl (.here)))) (by rw [g7]; decide) ?_
          refine wI_no (.there rfl (.there rfl (.there rfl (.there rfl (.here))))) (by rw [g7]; decide) ?_
          refine wI_no (.there rfl (.there rfl (.there rfl (.there rfl (.there rfl (.here)))))) (by rw [g7]; decide) ?_
          refine wI_no (.there rfl (.there rfl (.there rfl (.there rfl (.there rfl (.there rfl (.here))))))) (by rw [g7]; decide) ?_
          refine wI_no (.there rfl (.there rfl (.there rfl (.there rfl (.there rfl (.there rfl (.there rfl (.here)))))))) (by rw [g7]; decide) ?_
          refine wI_no (.there rfl (.there rfl (.there rfl (.there rfl (.there rfl (.there rfl (.there rfl (.there rfl (.here))))))))) (by rw [g7]; decide) ?_
          refine wI_no (.there rfl (.there rfl (.there rfl (.there rfl (.there rfl (.there rfl (.there rfl (.there rfl (.there rfl (.here)))))))))) (by rw [g7]; decide) ?_
          refine wI_pickF (.t (.there rfl (.there rfl (.there rfl (.there rfl (.there rfl (.there rfl (.there rfl (.there rfl (.there rfl (.there rfl (.here)))))))))))) g7 .c ?_
          refine wI_end (.cons (.there rfl (.there rfl (.there rfl (.there rfl (.there rfl (.there rfl (.there rfl (.there rfl (.there rfl (.there rfl (.there rfl (.there rfl (.there rfl (.there rfl (.here))))))))))))))) (.cons (.there rfl (.there rfl (.there rfl (.there rfl (.there rfl (.there rfl (.there rfl (.there rfl (.there rfl (.there rfl (.there rfl (.there rfl (.there rfl (.there rfl (.there rfl (.here)))))))))))))))) (.cons (.there rfl (.there rfl (.there rfl (.there rfl (.there rfl (.there rfl (.there rfl (.there rfl (.there rfl (.there rfl (.there rfl (.there rfl (.there rfl (.there rfl (.there rfl (.there rfl (.here))))))))))))))))) (.cons (.here) .nil)))) ?_
          refine wC_condF (.t (.there rfl (.there rfl (.there rfl (.here))))) rfl ?_
          refine wpC_skip ?_
          refine wC_ops ?_
          refine wI_mov (.t (.there rfl (.there rfl (.here)))) ?_
          refine wI_add (.t (.here)) .c (wrap64 aOM) ?_
          refine wI_mov (.t (.here)) ?_
          refine wI_end (.cons (.there rfl (.there rfl (.there rfl (.here)))) (.cons (.there rfl (.there rfl (.there rfl (.there rfl (.here))))) (.cons (.here) .nil))) ?_
          refine ⟨i + 1, (.cons (.here) (.cons (.there rfl (.here)) (.cons (.there rfl (.there rfl (.here))) .nil))), ?_, ?_⟩
          · refine ⟨aSUB, aGET, by omega, hq.trans (cutE_step aOM (by (try simp only [decide_eq_true_eq, decide_eq_false_iff_not, Bool.not_eq_true', Bool.not_eq_false', Bool.not_eq_true, Bool.not_eq_false] at *) <;> (first | assumption | omega)) ?_)⟩
            rintro ⟨z1, z2⟩
            first | omega | (simp only [decide_eq_false_iff_not] at *; omega)
          · (first | omega | (simp only []; omega))
    · -- c3 False
      refine wpC_exit ?_
      refine wpC_seq ?_
      refine wC_ops ?_
      refine wI_mov .c ?_
      refine wI_end (.cons (.here) .nil) ?_
      refine wpC_ret (ret1 (.here) ?_)
      refine ⟨?_, aSUB⟩
      congr 1
      symm
      first | exact if_neg (by assumption) | (rw [if_pos (show check t I = 0 by omega), hq]; exact cutE_7 aOM (by (try simp only [decide_eq_true_eq, decide_eq_false_iff_not, Bool.not_eq_true', Bool.not_eq_false', Bool.not_eq_true, Bool.not_eq_false] at *) <;> (first | assumption | omega))) | (rw [if_pos (show check t I = 0 by omega), hq]; exact cutE_11 aOM (by (try simp only [decide_eq_true_eq, decide_eq_false_iff_not, Bool.not_eq_true', Bool.not_eq_false', Bool.not_eq_true, Bool.not_eq_false] at *) <;> (first | assumption | omega)) (by (try simp only [decide_eq_true_eq, decide_eq_false_iff_not, Bool.not_eq_true', Bool.not_eq_false', Bool.not_eq_true, Bool.not_eq_false] at *) <;> (first | assumption | omega))) | (rw [if_pos (show check t I = 0 by omega), hq, show c.length - i = 0 by omega]; rfl)

theorem s83 (hT : Ext fns1 T) (hB : Ext fnsB T) {a b : AV} {t : List Int} {I : List (List Rng)} {vs : List AV} (hok : Ok t I) {sb : Nat} : ∀ (k : Nat) (H0 : AH) (l : List Bool) (q : Nat), (∀ H', AH.SubX [sb] H0 H' → SortAt H' a b t I vs) → H0.get sb = some (.cells (cBools l) true) → l.length = I.length → q < I.length → l.getD q false = false → cnt I.length (unseen I.length l) ≤ k →
    wpF T (.fn 83 []) [.agg [a, b], .sl sb 0 I.length 1, .int .i64 q] H0 (fun r H => ∃ l', r = .int .i64 (cnt I.length (comp (alike t I) (unseen I.length l) q) : Nat) ∧ H.get sb = some (.cells (cBools l') true) ∧ l'.length = I.length ∧ (∀ v, v < I.length → l'.getD v false = (l.getD v false || comp (alike t I) (unseen I.length l) q v)) ∧ AH.SubX [sb] H0 H) := by
  intro k
  induction k with
  | zero =>
    intro H0 l q _ _ _ hq hlq hk
    have := cnt_pos hq (unseen_iff.2 ⟨hq, hlq⟩)
    omega
  | succ k ih =>
  intro H0 l q hS hsb0 hl hq hlq hk
  obtain ⟨ht, hv, hn, hI, hm1, hm2, hm3⟩ := hS _ (AH.SubX.refl _ _)
  have hbl : LenOf b I.length := hn ▸ hv.len
  have hsb0l := AH.get_lt hsb0
  have hil := hok.il
  refine wF hB (af := A83) rfl ?_
  refine wpC_seq ?_
  refine wC_ops ?_
  refine wI_box (.t (.here)) aBOX ?_
  refine wI_mov .c ?_
  refine wI_end (.cons (.there rfl (.there rfl (.there rfl (.here)))) (.cons (.there rfl (.there rfl (.there rfl (.there rfl (.here))))) (.cons (.there rfl (.here)) .nil))) ?_
  refine wpC_seq ?_
  refine wC_ops ?_
  refine wI_mov (.t (.here)) ?_
  refine wI_mov (.t (.there rfl (.there rfl (.here)))) ?_
  refine wI_indexAddrS (.t (.there rfl (.here))) (.t (.here)) rfl hq ?_
  refine wI_setBools (.t (.here)) .c aGET aOM ?_
  refine wI_end (.cons (.there rfl (.there rfl (.there rfl (.here)))) (.cons (.there rfl (.there rfl (.there rfl (.there rfl (.here))))) (.cons (.there rfl (.there rfl (.there rfl (.there rfl (.there rfl (.here)))))) .nil))) ?_
  refine wpC_seq ?_
  refine wC_ops ?_
  refine wI_mov .c ?_
  refine wI_end (.cons (.there rfl (.here)) (.cons (.there rfl (.there rfl (.here))) (.cons (.there rfl (.there rfl (.there rfl (.here)))) (.cons (.here) .nil)))) ?_
  refine wpC_seq ?_
  refine wpC_seq ?_
  refine wC_ops ?_
  refine wI_mov .c ?_
  refine wI_end (.cons (.there rfl (.here)) (.cons (.there rfl (.there rfl (.here))) (.cons (.there rfl (.there rfl (.there rfl (.here)))) (.cons (.there rfl (.there rfl (.there rfl (.there rfl (.here))))) (.cons (.here) .nil))))) ?_
  refine wpC_block ?_
  refine wC_loop (α := Nat × Nat × List Bool) (fun (i, m, l2) => [(1, .sl sb 0 I.length 1), (2, .int .i64 q), (3, .ptr H0.next 0), (7, .int .i64 m), (8, .int .i64 i)]) (fun (i, m, l2) H => AH.SubX [sb] H0 H ∧ H.get H0.next = some (.cells [a, b] true) ∧ H.get sb = some (.cells (cBools l2) true) ∧ Dfs (alike t I) I.length l q l2 i m) (fun (i, m, l2) => I.length - i) (0, 1, l.set q true) (.cons (.here) (.cons (.there rfl (.here)) (.cons (.there rfl (.there rfl (.here))) (.cons (.there rfl (.there rfl (.there rfl (.here)))) (.cons (.there rfl (.there rfl (.there rfl (.there rfl (.here))))) .nil))))) ?_ ?_
  · exact ⟨by (exact ((AH.SubX.refl _ _).new _).put (.inl (by simp)) _), aGET, aGET, Dfs.init hl hq hlq⟩
  rintro ⟨i, m, l2⟩ H1 ⟨hsx, hb, hsb, hdf⟩
  have hsxn := hsx.next
  have hsbl := AH.get_lt hsb
  have hdl := hdf.len
  have hdi := hdf.le
  refine wpC_seq ?_
  refine wpC_seq ?_
  refine wC_ops ?_
  refine wI_mov (.t (.there rfl (.there rfl (.there rfl (.there rfl (.here)))))) ?_
  refine wI_fieldAddr (.t (.there rfl (.there rfl (.there rfl (.here))))) ?_
  refine wI_load1 (.t (.here)) aGET rfl ?_
  refine wI_lenSl (.t (.here)) aLEN ?_
  refine wI_lss (.t (.there rfl (.there rfl (.there rfl (.here))))) (.t (.here)) ?_
  refine wI_end (.cons (.there rfl (.there rfl (.there rfl (.there rfl (.there rfl (.here)))))) (.cons (.there rfl (.there rfl (.there rfl (.there rfl (.there rfl (.there rfl (.here))))))) (.cons (.there rfl (.there rfl (.there rfl (.there rfl (.there rfl (.there rfl (.there rfl (.here)))))))) (.cons (.there rfl (.there rfl (.there rfl (.there rfl (.there rfl (.there rfl (.there rfl (.there rfl (.here))))))))) (.cons (.there rfl (.there rfl (.there rfl (.there rfl (.there rfl (.there rfl (.there rfl (.there rfl (.there rfl (.here)))))))))) (.cons (.here) .nil)))))) ?_
  refine wC_if (.t (.there rfl (.there rfl (.there rfl (.there rfl (.there rfl (.here))))))) (fun c1 => ?_) (fun c1 => ?_)
  · -- c1 True
    refine wpC_skip ?_
    refine wpC_seq ?_
    refine wpC_block ?_
    refine wpC_seq ?_
    refine wC_ops ?_
    refine wI_mov (.t (.here)) ?_
    refine wI_mov (.t (.there rfl (.there rfl (.there rfl (.there rfl (.there rfl (.here))))))) ?_
    first | refine wI_ixBools (.t (.there rfl (.here))) (by exact At.of_get aGET (by simp; omega)) (.t (.here)) rfl aOM (fun b2 o2 p2 => ?_)
    refine wI_ldc1 0 (.t (.here)) (by first | exact p2 | exact Cells.mono p2 aSUB) rfl ?_
    refine wI_not (.t (.here)) ?_
    refine wI_mov (.t (.here)) ?_
    refine wI_gdT (.here) (fun g3 => ?_) (fun g3 => ?_)
    · -- g3 True
      have hl2 : l2.getD i false = false := by (have := ‹(!l2.getD i false) = true›; simpa using this)
      refine wI_loadT (.t (.there rfl (.there rfl (.there rfl (.there rfl (.there rfl (.there rfl (.there rfl (.there rfl (.here)))))))))) aGET aRC ?_
      refine wI_yes (.there rfl (.here)) g3 ?_
      refine wI_mov (.t (.there rfl (.there rfl (.there rfl (.there rfl (.there rfl (.there rfl (.there rfl (.there rfl (.here)))))))))) ?_
      refine wI_yes (.there rfl (.there rfl (.here))) g3 ?_
      refine wI_mov (.t (.there rfl (.there rfl (.there rfl (.there rfl (.there rfl (.there rfl (.there rfl (.there rfl (.there rfl (.there rfl (.there rfl (.there rfl (.here)))))))))))))) ?_
      refine wI_yes (.there rfl (.there rfl (.there rfl (.here)))) g3 ?_
      refine wI_call (.cons (.t (.there rfl (.there rfl (.here)))) (.cons (.t (.there rfl (.here))) (.cons (.t (.here)) .nil))) (s72 hT (hS _ aSUBX) hok _ _ aOM aOM) ?_
      rintro _ H3 ⟨rfl, hs3⟩
      have hsn3 := hs3.next
      refine wI_pickT (.t (.there rfl (.there rfl (.there rfl (.there rfl (.here)))))) g3 (.t (.here)) ?_
      refine wI_end (.cons (.there rfl (.there rfl (.there rfl (.there rfl (.there rfl (.there rfl (.there rfl (.there rfl (.there rfl (.there rfl (.there rfl (.here)))))))))))) (.cons (.there rfl (.there rfl (.there rfl (.there rfl (.there rfl (.there rfl (.there rfl (.there rfl (.there rfl (.there rfl (.there rfl (.there rfl (.here))))))))))))) (.cons (.there rfl (.there rfl (.there rfl (.there rfl (.there rfl (.there rfl (.there rfl (.there rfl (.there rfl (.there rfl (.there rfl (.there rfl (.there rfl (.here)))))))))))))) (.cons (.there rfl (.there rfl (.there rfl (.there rfl (.there rfl (.there rfl (.there rfl (.there rfl (.there rfl (.there rfl (.there rfl (.there rfl (.there rfl (.there rfl (.here))))))))))))))) (.cons (.there rfl (.there rfl (.there rfl (.there rfl (.there rfl (.there rfl (.there rfl (.there rfl (.there rfl (.there rfl (.there rfl (.there rfl (.there rfl (.there rfl (.there rfl (.here)))))))))))))))) (.cons (.here) .nil)))))) ?_
      refine wC_cond (.t (.there rfl (.there rfl (.there rfl (.there rfl (.there rfl (.here))))))) (fun c5 => ?_) (fun c5 => ?_)
      · -- c5 True
        refine wC_ops ?_
        refine wI_mov (.t (.there rfl (.there rfl (.there rfl (.here))))) ?_
        refine wI_loadT (.t (.there rfl (.there rfl (.there rfl (.here))))) aGET aRC ?_
        refine wI_mov (.t (.there rfl (.there rfl (.here)))) ?_
        refine wI_mov (.t (.there rfl (.there rfl (.there rfl (.there rfl (.there rfl (.there rfl (.there rfl (.here))))))))) ?_
        refine wI_call (.cons (.t (.there rfl (.there rfl (.here)))) (.cons (.t (.there rfl (.here))) (.cons (.t (.here)) .nil))) (ih H3 l2 i (fun H' hx => hS _ ((hsx.transS hs3).trans hx)) (hs3.get' hsb) hdf.len aOM hl2 (by have := cnt_lt_of hdf hq hlq; omega)) ?_
        rintro _ H4 ⟨l3, rfl, hsb4, hl3, h3, hx4⟩
        have hsn4 := hx4.next
        have hc34 := cnt_le I.length (comp (alike t I) (unseen I.length l2) i)
        have hm34 := hdf.count_le
        refine wI_add (.t (.there rfl (.there rfl (.there rfl (.there rfl (.here)))))) (.t (.here)) (wrap64 aOM) ?_
        refine wI_mov (.t (.here)) ?_
        refine wI_end (.cons (.there rfl (.there rfl (.there rfl (.there rfl (.there rfl (.there rfl (.there rfl (.here)))))))) (.cons (.there rfl (.there rfl (.there rfl (.there rfl (.there rfl (.there rfl (.there rfl (.there rfl (.here))))))))) (.cons (.there rfl (.there rfl (.there rfl (.there rfl (.there rfl (.there rfl (.there rfl (.there rfl (.there rfl (.here)))))))))) (.cons (.here) (.cons (.there rfl (.there rfl (.there rfl (.there rfl (.there rfl (.there rfl (.there rfl (.there rfl (.there rfl (.there rfl (.there rfl (.here)))))))))))) .nil))))) ?_
        refine wC_ops ?_
        refine wI_mov (.t (.there rfl (.there rfl (.there rfl (.there rfl (.here)))))) ?_
        refine wI_add (.t (.here)) .c (wrap64 aOM) ?_
        refine wI_mov (.t (.here)) ?_
        refine wI_end (.cons (.there rfl (.there rfl (.there rfl (.here)))) (.cons (.there rfl (.there rfl (.there rfl (.there rfl (.here))))) (.cons (.there rfl (.there rfl (.there rfl (.there rfl (.there rfl (.here)))))) (.cons (.there rfl (.there rfl (.there rfl (.there rfl (.there rfl (.there rfl (.here))))))) (.cons (.here) .nil))))) ?_
        refine ⟨(i + 1, m + cnt I.length (comp (alike t I) (unseen I.length l2) i), l3), (.cons (.here) (.cons (.there rfl (.here)) (.cons (.there rfl (.there rfl (.here))) (.cons (.there rfl (.there rfl (.there rfl (.here)))) (.cons (.there rfl (.there rfl (.there rfl (.there rfl (.here))))) .nil))))), ?_, ?_⟩
        · first | exact ⟨(hsx.transS hs3).trans hx4, hx4.get _ _ (by simp; omega) (hs3.get' hb), hsb4, hdf.go aOM hl2 (by assumption) hl3 h3 hq hlq⟩ | exact ⟨hsx.transS hs3, hs3.get' hb, hs3.get' hsb, hdf.skip aOM (.inr (by simpa using ‹¬ alike t I q i = true›))⟩ | exact ⟨hsx.transS hs3, hs3.get' hb, hs3.get' hsb, hdf.skip aOM (.inr (by assumption))⟩ | exact ⟨hsx, hb, hsb, hdf.skip aOM (.inl hl2)⟩
        · (first | omega | (simp only []; omega))
      · -- c5 False
        refine wpC_skip ?_
        refine wC_ops ?_
        refine wI_mov (.t (.there rfl (.there rfl (.there rfl (.there rfl (.here)))))) ?_
        refine wI_add (.t (.here)) .c (wrap64 aOM) ?_
        refine wI_mov (.t (.here)) ?_
        refine wI_end (.cons (.there rfl (.there rfl (.there rfl (.here)))) (.cons (.there rfl (.there rfl (.there rfl (.there rfl (.here))))) (.cons (.there rfl (.there rfl (.there rfl (.there rfl (.there rfl (.here)))))) (.cons (.there rfl (.there rfl (.there rfl (.there rfl (.there rfl (.there rfl (.here))))))) (.cons (.here) .nil))))) ?_
        refine ⟨(i + 1, m, l2), (.cons (.here) (.cons (.there rfl (.here)) (.cons (.there rfl (.there rfl (.here))) (.cons (.there rfl (.there rfl (.there rfl (.here)))) (.cons (.there rfl (.there rfl (.there rfl (.there rfl (.here))))) .nil))))), ?_, ?_⟩
        · first | exact ⟨(hsx.transS hs3).trans hx4, hx4.get _ _ (by simp; omega) (hs3.get' hb), hsb4, hdf.go aOM hl2 (by assumption) hl3 h3 hq hlq⟩ | exact ⟨hsx.transS hs3, hs3.get' hb, hs3.get' hsb, hdf.skip aOM (.inr (by simpa using ‹¬ alike t I q i = true›))⟩ | exact ⟨hsx.transS hs3, hs3.get' hb, hs3.get' hsb, hdf.skip aOM (.inr (by assumption))⟩ | exact ⟨hsx, hb, hsb, hdf.skip aOM (.inl hl2)⟩
        · (first | omega | (simp only []; omega))
    · -- g3 False
      have hl2 : l2.getD i false = true := by (have := ‹(!l2.getD i false) = false›; simpa using this)
      refine wI_no (.there rfl (.here)) (by rw [g3]; decide) ?_
      refine wI_no (.there rfl (.there rfl (.here))) (by rw [g3]; decide) ?_
      refine wI_no (.there rfl (.there rfl (.there rfl (.here)))) (by rw [g3]; decide) ?_
      refine wI_pickF (.t (.there rfl (.there rfl (.there rfl (.there rfl (.here)))))) g3 .c ?_
      refine wI_end (.cons (.there rfl (.there rfl (.there rfl (.there rfl (.there rfl (.there rfl (.there rfl (.there rfl (.there rfl (.there rfl (.there rfl (.here)))))))))))) (.cons (.there rfl (.there rfl (.there rfl (.there rfl (.there rfl (.there rfl (.there rfl (.there rfl (.there rfl (.there rfl (.there rfl (.there rfl (.here))))))))))))) (.cons (.there rfl (.there rfl (.there rfl (.there rfl (.there rfl (.there rfl (.there rfl (.there rfl (.there rfl (.there rfl (.there rfl (.there rfl (.there rfl (.here)))))))))))))) (.cons (.there rfl (.there rfl (.there rfl (.there rfl (.there rfl (.there rfl (.there rfl (.there rfl (.there rfl (.there rfl (.there rfl (.there rfl (.there rfl (.there rfl (.here))))))))))))))) (.cons (.there rfl (.there rfl (.there rfl (.there rfl (.there rfl (.there rfl (.there rfl (.there rfl (.there rfl (.there rfl (.there rfl (.there rfl (.there rfl (.there rfl (.there rfl (.here)))))))))))))))) (.cons (.here) .nil)))))) ?_
      refine wC_condF (.t (.there rfl (.there rfl (.there rfl (.there rfl (.there rfl (.here))))))) rfl ?_
      refine wpC_skip ?_
      refine wC_ops ?_
      refine wI_mov (.t (.there rfl (.there rfl (.there rfl (.there rfl (.here)))))) ?_
      refine wI_add (.t (.here)) .c (wrap64 aOM) ?_
      refine wI_mov (.t (.here)) ?_
      refine wI_end (.cons (.there rfl (.there rfl (.there rfl (.here)))) (.cons (.there rfl (.there rfl (.there rfl (.there rfl (.here))))) (.cons (.there rfl (.there rfl (.there rfl (.there rfl (.there rfl (.here)))))) (.cons (.there rfl (.there rfl (.there rfl (.there rfl (.there rfl (.there rfl (.here))))))) (.cons (.here) .nil))))) ?_
      refine ⟨(i + 1, m, l2), (.cons (.here) (.cons (.there rfl (.here)) (.cons (.there rfl (.there rfl (.here))) (.cons (.there rfl (.there rfl (.there rfl (.here)))) (.cons (.there rfl (.there rfl (.there rfl (.there rfl (.here))))) .nil))))), ?_, ?_⟩
      · first | exact ⟨(hsx.transS hs3).trans hx4, hx4.get _ _ (by simp; omega) (hs3.get' hb), hsb4, hdf.go aOM hl2 (by assumption) hl3 h3 hq hlq⟩ | exact ⟨hsx.transS hs3, hs3.get' hb, hs3.get' hsb, hdf.skip aOM (.inr (by simpa using ‹¬ alike t I q i = true›))⟩ | exact ⟨hsx.transS hs3, hs3.get' hb, hs3.get' hsb, hdf.skip aOM (.inr (by assumption))⟩ | exact ⟨hsx, hb, hsb, hdf.skip aOM (.inl hl2)⟩
      · (first | omega | (simp only []; omega))
  · -- c1 False
    refine wpC_exit ?_
    refine wpC_seq ?_
    refine wC_ops ?_
    refine wI_mov (.t (.there rfl (.there rfl (.there rfl (.here))))) ?_
    refine wI_mov (.t (.here)) ?_
    refine wI_end (.cons (.here) .nil) ?_
    refine wpC_ret (ret1 (.here) ?_)
    obtain ⟨e1, e2⟩ := (show Dfs (alike t I) I.length l q l2 I.length m from (show i = I.length by omega) ▸ hdf).done hq hlq
    exact ⟨l2, by rw [e1], hsb, hdl, e2, hsx⟩

theorem s36 (hT : Ext fns1 T) (hB : Ext fnsB T) {a b : AV} {t : List Int} {I : List (List Rng)} {vs : List AV} (hS : SortAt H0 a b t I vs) {cv : AV} {c : List Int} (hc : Ints H0 cv c) (hcl : c.length ≤ 40) :
    wpF T (.fn 36 []) [.agg [a, b], cv] H0 (fun r H => r = .tup [.int .i64 (boundS t I c).1, .int .i64 (boundS t I c).2] ∧ H0.Sub H) := by
  refine wF hB (af := A36) rfl ?_
  obtain ⟨ht, hv, hn, hI, hm1, hm2, hm3⟩ := id hS
  have hbl : LenOf b I.length := hn ▸ hv.len
  have hcl2 := hc.len
  refine wpC_seq ?_
  refine wC_ops ?_
  refine wI_box (.t (.here)) aBOX ?_
  refine wI_mov .c ?_
  refine wI_mov .c ?_
  refine wI_end (.cons (.there rfl (.there rfl (.there rfl (.there rfl (.here))))) (.cons (.there rfl (.there rfl (.here))) .nil)) ?_
  refine wpC_seq ?_
  refine wpC_seq ?_
  refine wC_ops ?_
  refine wI_loadT (.t (.there rfl (.here))) aGET aRC ?_
  refine wI_mov (.t (.there rfl (.here))) ?_
  refine wI_call (.cons (.t (.there rfl (.here))) (.cons (.t (.here)) .nil)) (s82 hT hB (hS.mono aSUB) (hc.mono aSUB) hcl) ?_
  rintro _ H1 ⟨rfl, hs1⟩
  have hs1n := hs1.next
  simp only [AH.next_new] at hs1n
  have hsn1 := hs1.next
  refine wI_mov (.t (.here)) ?_
  refine wI_end (.cons (.there rfl (.there rfl (.there rfl (.there rfl (.here))))) (.cons (.there rfl (.there rfl (.there rfl (.there rfl (.there rfl (.here)))))) (.cons (.here) .nil))) ?_
  refine wpC_seq ?_
  refine wC_ops ?_
  refine wI_mov (.t (.there rfl (.there rfl (.here)))) ?_
  refine wI_neI (.t (.here)) .c ?_
  refine wI_end (.cons (.there rfl (.there rfl (.here))) (.cons (.there rfl (.there rfl (.there rfl (.here)))) (.cons (.there rfl (.there rfl (.there rfl (.there rfl (.here))))) (.cons (.here) .nil)))) ?_
  refine wC_if (.t (.there rfl (.there rfl (.there rfl (.here))))) (fun c2 => ?_) (fun c2 => ?_)
  · -- c2 True
    refine wpC_seq ?_
    refine wC_ops ?_
    refine wI_mov (.t (.there rfl (.there rfl (.here)))) ?_
    refine wI_mov .c ?_
    refine wI_mov (.t (.there rfl (.here))) ?_
    refine wI_end (.cons (.there rfl (.here)) (.cons (.here) .nil)) ?_
    refine wpC_ret (ret2 (.here) (.there rfl (.here)) ?_)
    first | (refine ⟨?_, aSUB⟩; unfold boundS; rw [if_pos hE.1, if_pos hE.2]; simp only [boundV]; rw [show I.length - i = 0 by omega] at hoc; simp only [ocFrom, Nat.add_zero] at hoc; rw [hoc]; done) | (refine ⟨?_, aSUB⟩; unfold boundS; split <;> (try split) <;> simp_all; done)
  · -- c2 False
    have hE := bound_err ‹_›
    have hok := (check_ok t I).1 hE.1
    have hil := hok.il
    refine wpC_skip ?_
    refine wpC_seq ?_
    refine wC_ops ?_
    refine wI_fieldAddr (.t (.there rfl (.here))) ?_
    refine wI_load1 (.t (.here)) aGET rfl ?_
    refine wI_lenSl (.t (.here)) aLEN ?_
    refine wI_makeSlice (.t (.here)) rfl (by simp only [room]; omega) ?_
    rw [repl_bools]
    refine wI_mov (.t (.here)) ?_
    refine wI_end (.cons (.there rfl (.there rfl (.there rfl (.there rfl (.there rfl (.here)))))) (.cons (.there rfl (.there rfl (.there rfl (.there rfl (.there rfl (.there rfl (.here))))))) (.cons (.here) .nil))) ?_
    refine wpC_seq ?_
    refine wpC_seq ?_
    refine wC_ops ?_
    refine wI_mov .c ?_
    refine wI_end (.cons (.there rfl (.here)) (.cons (.there rfl (.there rfl (.here))) (.cons (.there rfl (.there rfl (.there rfl (.here)))) (.cons (.here) .nil)))) ?_
    refine wpC_block ?_
    refine wC_loop (α := Nat × List Bool) (fun (i, l) => [(1, cv), (2, .ptr H0.next 0), (7, .sl H1.next 0 I.length 1), (8, .int .i64 i)]) (fun (i, l) H => H1.Sub H ∧ H.get H1.next = some (.cells (cBools l) true) ∧ l.length = I.length ∧ i ≤ c.length ∧ ∀ v, v < I.length → l.getD v false = decide ((v : Int) ∈ c.take i)) (fun (i, l) => c.length - i) (0, List.replicate I.length false) (.cons (.here) (.cons (.there rfl (.here)) (.cons (.there rfl (.there rfl (.here))) (.cons (.there rfl (.there rfl (.there rfl (.here)))) .nil)))) ?_ ?_
    · exact ⟨aSUB, aGET, by simp, by omega, fun v hv => by simp [hv]⟩
    rintro ⟨i, l⟩ H2 ⟨hs2, hsb, hl, hi, hv⟩
    have hsn2 := hs2.next
    have hsbl := AH.get_lt hsb
    refine wpC_seq ?_
    refine wpC_seq ?_
    refine wC_ops ?_
    refine wI_mov (.t (.there rfl (.there rfl (.there rfl (.here))))) ?_
    refine wI_mov (.t (.there rfl (.here))) ?_
    refine wI_lenSl (.t (.here)) aLEN ?_
    refine wI_lss (.t (.there rfl (.there rfl (.here)))) (.t (.here)) ?_
    refine wI_end (.cons (.there rfl (.there rfl (.there rfl (.there rfl (.here))))) (.cons (.there rfl (.there rfl (.there rfl (.there rfl (.there rfl (.here)))))) (.cons (.there rfl (.there rfl (.there rfl (.there rfl (.there rfl (.there rfl (.here))))))) (.cons (.there rfl (.there rfl (.there rfl (.there rfl (.there rfl (.there rfl (.there rfl (.here)))))))) (.cons (.here) .nil))))) ?_
    refine wC_if (.t (.there rfl (.there rfl (.there rfl (.there rfl (.here)))))) (fun c3 => ?_) (fun c3 => ?_)
    · -- c3 True
      refine wpC_skip ?_
      refine wpC_seq ?_
      refine wpC_block ?_
      refine wC_ops ?_
      obtain ⟨q, hqe, hq⟩ : ∃ q : Nat, c.getD i 0 = (q : Int) ∧ q < I.length := ⟨(c.getD i 0).toNat, by have := cutS_range hE.2 i aOM; omega, by have := cutS_range hE.2 i aOM; omega⟩
      refine wI_mov (.t (.there rfl (.there rfl (.here)))) ?_
      refine wI_mov (.t (.there rfl (.here))) ?_
      refine wI_mov (.t (.there rfl (.there rfl (.there rfl (.there rfl (.there rfl (.here))))))) ?_
      first | refine wI_ixInts (.t (.there rfl (.here))) aATI (.t (.here)) rfl aOM (fun b4 o4 p4 => ?_)
      refine wI_ldc1 0 (.t (.here)) (by first | exact p4 | exact Cells.mono p4 aSUB) rfl ?_
      refine wI_indexAddrS (.t (.there rfl (.there rfl (.there rfl (.there rfl (.here)))))) (.t (.here)) hqe hq ?_
      refine wI_setBools (.t (.here)) .c aGET aOM ?_
      refine wI_end (.cons (.there rfl (.there rfl (.there rfl (.there rfl (.there rfl (.there rfl (.here))))))) (.cons (.there rfl (.there rfl (.there rfl (.there rfl (.there rfl (.there rfl (.there rfl (.here)))))))) (.cons (.there rfl (.there rfl (.there rfl (.there rfl (.there rfl (.there rfl (.there rfl (.there rfl (.here))))))))) (.cons (.there rfl (.there rfl (.there rfl (.there rfl (.there rfl (.there rfl (.there rfl (.there rfl (.there rfl (.here)))))))))) .nil)))) ?_
      refine wC_ops ?_
      refine wI_mov (.t (.there rfl (.there rfl (.there rfl (.here))))) ?_
      refine wI_add (.t (.here)) .c (wrap64 aOM) ?_
      refine wI_mov (.t (.here)) ?_
      refine wI_end (.cons (.there rfl (.there rfl (.there rfl (.here)))) (.cons (.there rfl (.there rfl (.there rfl (.there rfl (.here))))) (.cons (.there rfl (.there rfl (.there rfl (.there rfl (.there rfl (.here)))))) (.cons (.here) .nil)))) ?_
      refine ⟨(i + 1, l.set q true), (.cons (.here) (.cons (.there rfl (.here)) (.cons (.there rfl (.there rfl (.here))) (.cons (.there rfl (.there rfl (.there rfl (.here)))) .nil)))), ?_, ?_⟩
      · refine ⟨aSUB, aGET, by simp [hl], by omega, fun v hv' => ?_⟩
        rw [List.take_add_one, show c[i]? = some (q : Int) by rw [← hqe]; simp [show i < c.length by omega]]
        by_cases e : v = q
        · subst e; rw [getD_set_eq aOM]; simp
        · rw [getD_set_ne e, hv v hv']
          have : ¬ ((v : Int) = (q : Int)) := by omega
          simp [this]
      · (first | omega | (simp only []; omega))
    · -- c3 False
      refine wpC_exit ?_
      refine wpC_seq ?_
      refine wC_ops ?_
      refine wI_mov .c ?_
      refine wI_end (.cons (.there rfl (.here)) (.cons (.there rfl (.there rfl (.here))) (.cons (.there rfl (.there rfl (.there rfl (.here)))) (.cons (.here) .nil)))) ?_
      refine wpC_seq ?_
      refine wpC_seq ?_
      refine wC_ops ?_
      refine wI_mov .c ?_
      refine wI_end (.cons (.there rfl (.here)) (.cons (.there rfl (.there rfl (.here))) (.cons (.there rfl (.there rfl (.there rfl (.here)))) (.cons (.there rfl (.there rfl (.there rfl (.there rfl (.here))))) (.cons (.here) .nil))))) ?_
      refine wpC_block ?_
      refine wC_loop (α := Nat × Nat × List Bool) (fun (i, od, l) => [(1, cv), (2, .ptr H0.next 0), (7, .sl H1.next 0 I.length 1), (9, .int .i64 od), (10, .int .i64 i)]) (fun (i, od, l) H => H1.Sub H ∧ H.get H1.next = some (.cells (cBools l) true) ∧ l.length = I.length ∧ i ≤ I.length ∧ od ≤ i ∧ od + ocFrom (alike t I) I.length (I.length - i) i (unseen I.length l) = oc (alike t I) I.length (leftB I.length c)) (fun (i, od, l) => I.length - i) (0, 0, l) (.cons (.here) (.cons (.there rfl (.here)) (.cons (.there rfl (.there rfl (.here))) (.cons (.there rfl (.there rfl (.there rfl (.here)))) (.cons (.there rfl (.there rfl (.there rfl (.there rfl (.here))))) .nil))))) ?_ ?_
      · exact ⟨aSUB, aGET, hl, by omega, by omega, by rw [unseen_left (c := c) (fun v h => by rw [hv v h, List.take_of_length_le aOM])]; simp [oc]⟩
      rintro ⟨i, od, l⟩ H3 ⟨hs3, hsb3, hl2, hi3, hod, hoc⟩
      have hsn3 := hs3.next
      have hsbl3 := AH.get_lt hsb3
      refine wpC_seq ?_
      refine wpC_seq ?_
      refine wC_ops ?_
      refine wI_mov (.t (.there rfl (.there rfl (.there rfl (.there rfl (.here)))))) ?_
      refine wI_mov (.t (.there rfl (.there rfl (.there rfl (.here))))) ?_
      refine wI_lenSl (.t (.here)) aLEN ?_
      refine wI_lss (.t (.there rfl (.there rfl (.here)))) (.t (.here)) ?_
      refine wI_end (.cons (.there rfl (.there rfl (.there rfl (.there rfl (.here))))) (.cons (.there rfl (.there rfl (.there rfl (.there rfl (.there rfl (.here)))))) (.cons (.there rfl (.there rfl (.there rfl (.there rfl (.there rfl (.there rfl (.here))))))) (.cons (.there rfl (.there rfl (.there rfl (.there rfl (.there rfl (.there rfl (.there rfl (.here)))))))) (.cons (.there rfl (.there rfl (.there rfl (.there rfl (.there rfl (.there rfl (.there rfl (.there rfl (.here))))))))) (.cons (.here) .nil)))))) ?_
      refine wC_if (.t (.there rfl (.there rfl (.there rfl (.there rfl (.there rfl (.here))))))) (fun c5 => ?_) (fun c5 => ?_)
      · -- c5 True
        refine wpC_skip ?_
        refine wpC_seq ?_
        refine wpC_block ?_
        refine wpC_seq ?_
        refine wC_ops ?_
        refine wI_mov (.t (.there rfl (.there rfl (.here)))) ?_
        refine wI_mov (.t (.there rfl (.there rfl (.there rfl (.there rfl (.there rfl (.here))))))) ?_
        first | refine wI_ixBools (.t (.there rfl (.here))) (by exact At.of_get aGET (by simp; omega)) (.t (.here)) rfl aOM (fun b6 o6 p6 => ?_)
        refine wI_ldc1 0 (.t (.here)) (by first | exact p6 | exact Cells.mono p6 aSUB) rfl ?_
        refine wI_not (.t (.here)) ?_
        refine wI_mov (.t (.here)) ?_
        refine wI_gdT (.here) (fun g7 => ?_) (fun g7 => ?_)
        · -- g7 True
          have hli : l.getD i false = false := by (have := ‹(!l.getD i false) = true›; simpa using this)
          refine wI_loadT (.t (.there rfl (.there rfl (.there rfl (.there rfl (.there rfl (.there rfl (.there rfl (.here))))))))) aGET aRC ?_
          refine wI_yes (.there rfl (.here)) g7 ?_
          refine wI_mov (.t (.there rfl (.there rfl (.there rfl (.there rfl (.there rfl (.there rfl (.there rfl (.there rfl (.there rfl (.here))))))))))) ?_
          refine wI_yes (.there rfl (.there rfl (.here))) g7 ?_
          refine wI_mov (.t (.there rfl (.there rfl (.there rfl (.there rfl (.there rfl (.there rfl (.there rfl (.there rfl (.there rfl (.there rfl (.there rfl (.there rfl (.here)))))))))))))) ?_
          refine wI_yes (.there rfl (.there rfl (.there rfl (.here)))) g7 ?_
          refine wI_call (.cons (.t (.there rfl (.there rfl (.here)))) (.cons (.t (.there rfl (.here))) (.cons (.t (.here)) .nil))) (s83 hT hB hok _ _ l i (fun H' hx => hS.mono (AH.Sub.transX aSUB hx (by simp; omega))) aGET hl2 aOM hli (Nat.le_refl _)) ?_
          rintro _ H4 ⟨l3, rfl, hsb4, hl3, h3, hx4⟩
          have hsn4 := hx4.next
          have hc34 := cnt_le I.length (comp (alike t I) (unseen I.length l) i)
          refine wI_yes (.there rfl (.there rfl (.there rfl (.there rfl (.here))))) g7 ?_
          refine wI_rem (.t (.here)) .c aOM rfl ?_
          refine wI_yes (.there rfl (.there rfl (.there rfl (.there rfl (.there rfl (.here)))))) g7 ?_
          refine wI_eqI (.t (.here)) .c ?_
          refine wI_pickT (.t (.there rfl (.there rfl (.there rfl (.there rfl (.there rfl (.there rfl (.here)))))))) g7 (.t (.here)) ?_
          refine wI_end (.cons (.there rfl (.there rfl (.there rfl (.there rfl (.there rfl (.there rfl (.there rfl (.there rfl (.there rfl (.there rfl (.there rfl (.there rfl (.there rfl (.here)))))))))))))) (.cons (.there rfl (.there rfl (.there rfl (.there rfl (.there rfl (.there rfl (.there rfl (.there rfl (.there rfl (.there rfl (.there rfl (.there rfl (.there rfl (.there rfl (.here))))))))))))))) (.cons (.there rfl (.there rfl (.there rfl (.there rfl (.there rfl (.there rfl (.there rfl (.there rfl (.there rfl (.there rfl (.there rfl (.there rfl (.there rfl (.there rfl (.there rfl (.here)))))))))))))))) (.cons (.there rfl (.there rfl (.there rfl (.there rfl (.there rfl (.there rfl (.there rfl (.there rfl (.there rfl (.there rfl (.there rfl (.there rfl (.there rfl (.there rfl (.there rfl (.there rfl (.here))))))))))))))))) (.cons (.there rfl (.there rfl (.there rfl (.there rfl (.there rfl (.there rfl (.there rfl (.there rfl (.there rfl (.there rfl (.there rfl (.there rfl (.there rfl (.there rfl (.there rfl (.there rfl (.there rfl (.here)))))))))))))))))) (.cons (.here) .nil)))))) ?_
          refine wC_if (.t (.there rfl (.there rfl (.there rfl (.there rfl (.there rfl (.here))))))) (fun c9 => ?_) (fun c9 => ?_)
          · -- c9 True
            refine wC_ops ?_
            refine wI_mov (.t (.there rfl (.there rfl (.there rfl (.here))))) ?_
            refine wI_add (.t (.here)) .c (wrap64 aOM) ?_
            refine wI_mov (.t (.here)) ?_
            refine wI_end (.cons (.there rfl (.there rfl (.there rfl (.here)))) (.cons (.there rfl (.there rfl (.there rfl (.there rfl (.here))))) (.cons (.there rfl (.there rfl (.there rfl (.there rfl (.there rfl (.here)))))) (.cons (.here) (.cons (.there rfl (.there rfl (.there rfl (.there rfl (.there rfl (.there rfl (.there rfl (.here)))))))) .nil))))) ?_
            refine wC_ops ?_
            refine wI_mov (.t (.there rfl (.there rfl (.there rfl (.there rfl (.here)))))) ?_
            refine wI_add (.t (.here)) .c (wrap64 aOM) ?_
            refine wI_mov (.t (.here)) ?_
            refine wI_end (.cons (.there rfl (.there rfl (.there rfl (.here)))) (.cons (.there rfl (.there rfl (.there rfl (.there rfl (.here))))) (.cons (.there rfl (.there rfl (.there rfl (.there rfl (.there rfl (.here)))))) (.cons (.there rfl (.there rfl (.there rfl (.there rfl (.there rfl (.there rfl (.here))))))) (.cons (.here) .nil))))) ?_
            refine ⟨(i + 1, od + 1, l3), (.cons (.here) (.cons (.there rfl (.here)) (.cons (.there rfl (.there rfl (.here))) (.cons (.there rfl (.there rfl (.there rfl (.here)))) (.cons (.there rfl (.there rfl (.there rfl (.there rfl (.here))))) .nil))))), ?_, ?_⟩
            · exact ⟨aSUB, hsb4, hl3, by omega, by omega, by rw [← hoc, oc_step1 aOM hli h3, (tmod2 _).1 (by assumption)]; omega⟩
            · (first | omega | (simp only []; omega))
          · -- c9 False
            refine wpC_skip ?_
            refine wC_ops ?_
            refine wI_mov (.t (.there rfl (.there rfl (.there rfl (.there rfl (.here)))))) ?_
            refine wI_add (.t (.here)) .c (wrap64 aOM) ?_
            refine wI_mov (.t (.here)) ?_
            refine wI_end (.cons (.there rfl (.there rfl (.there rfl (.here)))) (.cons (.there rfl (.there rfl (.there rfl (.there rfl (.here))))) (.cons (.there rfl (.there rfl (.there rfl (.there rfl (.there rfl (.here)))))) (.cons (.there rfl (.there rfl (.there rfl (.there rfl (.there rfl (.there rfl (.here))))))) (.cons (.here) .nil))))) ?_
            refine ⟨(i + 1, od, l3), (.cons (.here) (.cons (.there rfl (.here)) (.cons (.there rfl (.there rfl (.here))) (.cons (.there rfl (.there rfl (.there rfl (.here)))) (.cons (.there rfl (.there rfl (.there rfl (.there rfl (.here))))) .nil))))), ?_, ?_⟩
            · have h2 := mt (tmod2 (cnt I.length (comp (alike t I) (unseen I.length l) i))).2 (by assumption)
              exact ⟨aSUB, hsb4, hl3, by omega, by omega, by rw [← hoc, oc_step1 aOM hli h3]; omega⟩
            · (first | omega | (simp only []; omega))
        · -- g7 False
          have hli : l.getD i false = true := by (have := ‹(!l.getD i false) = false›; simpa using this)
          refine wI_no (.there rfl (.here)) (by rw [g7]; decide) ?_
          refine wI_no (.there rfl (.there rfl (.here))) (by rw [g7]; decide) ?_
          refine wI_no (.there rfl (.there rfl (.there rfl (.here)))) (by rw [g7]; decide) ?_
          refine wI_no (.there rfl (.there rfl (.there rfl (.there rfl (.here))))) (by rw [g7]; decide) ?_
          refine wI_no (.there rfl (.there rfl (.there rfl (.there rfl (.there rfl (.here)))))) (by rw [g7]; decide) ?_
          refine wI_pickF (.t (.there rfl (.there rfl (.there rfl (.there rfl (.there rfl (.there rfl (.here)))))))) g7 .c ?_
          refine wI_end (.cons (.there rfl (.there rfl (.there rfl (.there rfl (.there rfl (.there rfl (.there rfl (.there rfl (.there rfl (.there rfl (.there rfl (.there rfl (.there rfl (.here)))))))))))))) (.cons (.there rfl (.there rfl (.there rfl (.there rfl (.there rfl (.there rfl (.there rfl (.there rfl (.there rfl (.there rfl (.there rfl (.there rfl (.there rfl (.there rfl (.here))))))))))))))) (.cons (.there rfl (.there rfl (.there rfl (.there rfl (.there rfl (.there rfl (.there rfl (.there rfl (.there rfl (.there rfl (.there rfl (.there rfl (.there rfl (.there rfl (.there rfl (.here)))))))))))))))) (.cons (.there rfl (.there rfl (.there rfl (.there rfl (.there rfl (.there rfl (.there rfl (.there rfl (.there rfl (.there rfl (.there rfl (.there rfl (.there rfl (.there rfl (.there rfl (.there rfl (.here))))))))))))))))) (.cons (.there rfl (.there rfl (.there rfl (.there rfl (.there rfl (.there rfl (.there rfl (.there rfl (.there rfl (.there rfl (.there rfl (.there rfl (.there rfl (.there rfl (.there rfl (.there rfl (.there rfl (.here)))))))))))))))))) (.cons (.here) .nil)))))) ?_
          refine wC_condF (.t (.there rfl (.there rfl (.there rfl (.there rfl (.there rfl (.here))))))) rfl ?_
          refine wpC_skip ?_
          refine wC_ops ?_
          refine wI_mov (.t (.there rfl (.there rfl (.there rfl (.there rfl (.here)))))) ?_
          refine wI_add (.t (.here)) .c (wrap64 aOM) ?_
          refine wI_mov (.t (.here)) ?_
          refine wI_end (.cons (.there rfl (.there rfl (.there rfl (.here)))) (.cons (.there rfl (.there rfl (.there rfl (.there rfl (.here))))) (.cons (.there rfl (.there rfl (.there rfl (.there rfl (.there rfl (.here)))))) (.cons (.there rfl (.there rfl (.there rfl (.there rfl (.there rfl (.there rfl (.here))))))) (.cons (.here) .nil))))) ?_
          refine ⟨(i + 1, od, l), (.cons (.here) (.cons (.there rfl (.here)) (.cons (.there rfl (.there rfl (.here))) (.cons (.there rfl (.there rfl (.there rfl (.here)))) (.cons (.there rfl (.there rfl (.there rfl (.there rfl (.here))))) .nil))))), ?_, ?_⟩
          · exact ⟨aSUB, hsb3, hl2, by omega, by omega, by rw [← hoc, oc_step0 aOM hli]⟩
          · (first | omega | (simp only []; omega))
      · -- c5 False
        refine wpC_exit ?_
        refine wpC_seq ?_
        refine wC_ops ?_
        refine wI_fieldAddr (.t (.there rfl (.here))) ?_
        refine wI_load1 (.t (.here)) aGET rfl ?_
        refine wI_lenSl (.t (.here)) aLEN ?_
        refine wI_mov (.t (.there rfl (.there rfl (.there rfl (.here))))) ?_
        refine wI_lenSl (.t (.here)) aLEN ?_
        refine wI_add (.t (.there rfl (.there rfl (.here)))) (.t (.here)) (wrap64 aOM) ?_
        refine wI_mov (.t (.there rfl (.there rfl (.there rfl (.there rfl (.there rfl (.there rfl (.there rfl (.there rfl (.there rfl (.here))))))))))) ?_
        refine wI_sub (.t (.there rfl (.here))) (.t (.here)) (wrap64 aOM) ?_
        have hocl := oc_le (alike t I) I.length (leftB I.length c)
        refine wI_quo (.t (.here)) .c (by decide) (wrap64 (tdiv2_range aOM)) ?_
        refine wI_mov (.t (.here)) ?_
        refine wI_mov .c ?_
        refine wI_end (.cons (.there rfl (.here)) (.cons (.here) .nil)) ?_
        refine wpC_ret (ret2 (.here) (.there rfl (.here)) ?_)
        first | (refine ⟨?_, aSUB⟩; unfold boundS; rw [if_pos hE.1, if_pos hE.2]; simp only [boundV]; rw [show I.length - i = 0 by omega] at hoc; simp only [ocFrom, Nat.add_zero] at hoc; rw [hoc]; done) | (refine ⟨?_, aSUB⟩; unfold boundS; split <;> (try split) <;> simp_all; done)

theorem s35 (hT : Ext fns1 T) (hS : Ext fnsS T) (hB : Ext fnsB T) {a b : AV} {t : List Int} {I : List (List Rng)} {vs : List AV} (hS0 : SortAt H0 a b t I vs) {cv : AV} {c : List Int} (hc : Ints H0 cv c) (hcl : c.length ≤ 40) :
    wpF T (.fn 35 []) [.agg [a, b], cv] H0 (fun r H => r = .tup [.int .i64 (boundS t I c).1, .int .i64 (boundS t I c).2] ∧ H0.Sub H) := by
  refine wF hB (af := A35) rfl ?_
  obtain ⟨ht, hv, hn, hI, hm1, hm2, hm3⟩ := id hS0
  have hbl : LenOf b I.length := hn ▸ hv.len
  have hcl2 := hc.len
  refine wpC_seq ?_
  refine wC_ops ?_
  refine wI_box (.t (.here)) aBOX ?_
  refine wI_mov .c ?_
  refine wI_mov .c ?_
  refine wI_end (.cons (.there rfl (.there rfl (.there rfl (.there rfl (.here))))) (.cons (.there rfl (.there rfl (.here))) (.cons (.there rfl (.here)) (.cons (.here) .nil)))) ?_
  refine wpC_seq ?_
  refine wpC_seq ?_
  refine wC_ops ?_
  refine wI_loadT (.t (.there rfl (.here))) aGET aRC ?_
  refine wI_call (.cons (.t (.here)) .nil) (s20 hT (hS0.mono aSUB)) ?_
  rintro _ Hc ⟨rfl, hsc⟩
  have hscn := hsc.next
  simp only [AH.next_new] at hscn
  refine wI_mov (.t (.here)) ?_
  refine wI_end (.cons (.there rfl (.there rfl (.there rfl (.here)))) (.cons (.there rfl (.there rfl (.there rfl (.there rfl (.here))))) (.cons (.there rfl (.there rfl (.there rfl (.there rfl (.there rfl (.here)))))) (.cons (.there rfl (.there rfl (.there rfl (.there rfl (.there rfl (.there rfl (.here))))))) (.cons (.here) .nil))))) ?_
  refine wpC_seq ?_
  refine wC_ops ?_
  refine wI_mov (.t (.there rfl (.there rfl (.there rfl (.there rfl (.here)))))) ?_
  refine wI_neI (.t (.here)) .c ?_
  refine wI_end (.cons (.there rfl (.there rfl (.here))) (.cons (.there rfl (.there rfl (.there rfl (.here)))) (.cons (.there rfl (.there rfl (.there rfl (.there rfl (.here))))) (.cons (.there rfl (.there rfl (.there rfl (.there rfl (.there rfl (.here)))))) (.cons (.there rfl (.there rfl (.there rfl (.there rfl (.there rfl (.there rfl (.here))))))) (.cons (.here) .nil)))))) ?_
  refine wC_if (.t (.there rfl (.there rfl (.there rfl (.there rfl (.there rfl (.here))))))) (fun c2 => ?_) (fun c2 => ?_)
  · -- c2 True
    refine wpC_seq ?_
    refine wC_ops ?_
    refine wI_mov (.t (.there rfl (.there rfl (.there rfl (.there rfl (.here)))))) ?_
    refine wI_mov .c ?_
    refine wI_mov (.t (.there rfl (.here))) ?_
    refine wI_end (.cons (.there rfl (.here)) (.cons (.here) .nil)) ?_
    refine wpC_ret (ret2 (.here) (.there rfl (.here)) ?_)
    refine ⟨?_, aSUB⟩
    unfold boundS
    first
      | (rw [if_neg (by assumption)]; done)
      | (rw [if_pos hck, show cutS I.length c = 7 from hq.trans (cutE_7 aOM (by (try simp only [decide_eq_true_eq, decide_eq_false_iff_not, Bool.not_eq_true', Bool.not_eq_false', Bool.not_eq_true, Bool.not_eq_false] at *) <;> (first | assumption | omega))), if_neg (by decide)]; done)
      | (rw [if_pos hck, show cutS I.length c = 11 from hq.trans (cutE_11 aOM (by (try simp only [decide_eq_true_eq, decide_eq_false_iff_not, Bool.not_eq_true', Bool.not_eq_false', Bool.not_eq_true, Bool.not_eq_false] at *) <;> (first | assumption | omega)) (by (try simp only [decide_eq_true_eq, decide_eq_false_iff_not, Bool.not_eq_true', Bool.not_eq_false', Bool.not_eq_true, Bool.not_eq_false] at *) <;> (first | assumption | omega))), if_neg (by decide)]; done)
      | (rw [if_pos hck, if_pos hE]
         have hl0 : left = 0 := by omega
         rw [hl0, oc_empty (fun v _ => by simp), Nat.add_zero] at hoc
         simp only [boundV, hoc])
  · -- c2 False
    have hck : check t I = 0 := by omega
    have hok := (check_ok t I).1 hck
    have hil := hok.il
    refine wpC_skip ?_
    refine wpC_seq ?_
    refine wpC_seq ?_
    refine wC_ops ?_
    refine wI_mov (.t (.here)) ?_
    refine wI_lenSl (.t (.here)) aLEN ?_
    refine wI_mov .c ?_
    refine wI_end (.cons (.there rfl (.there rfl (.there rfl (.here)))) (.cons (.there rfl (.there rfl (.there rfl (.there rfl (.here))))) (.cons (.there rfl (.there rfl (.there rfl (.there rfl (.there rfl (.here)))))) (.cons (.there rfl (.there rfl (.there rfl (.there rfl (.there rfl (.there rfl (.here))))))) (.cons (.there rfl (.there rfl (.here))) (.cons (.there rfl (.here)) (.cons (.here) .nil))))))) ?_
    refine wpC_block ?_
    refine wC_loop (α := Nat) (fun i => [(1, cv), (2, .ptr H0.next 0), (4, .int .i64 0), (5, .int .i64 0), (23, cv), (24, .int .i64 c.length), (25, .int .i64 i)]) (fun i H => H0.Sub H ∧ H.get H0.next = some (.cells [a, b] true) ∧ i ≤ c.length ∧ cutS I.length c = cutE I.length c (c.length - i) i) (fun i => c.length - i) 0 (.cons (.here) (.cons (.there rfl (.here)) (.cons (.there rfl (.there rfl (.here))) (.cons (.there rfl (.there rfl (.there rfl (.here)))) (.cons (.there rfl (.there rfl (.there rfl (.there rfl (.here))))) (.cons (.there rfl (.there rfl (.there rfl (.there rfl (.there rfl (.here)))))) (.cons (.there rfl (.there rfl (.there rfl (.there rfl (.there rfl (.there rfl (.here))))))) .nil))))))) ?_ ?_
    · exact ⟨aSUB, aGET, by omega, rfl⟩
    rintro i Hl ⟨hs, hb, hi, hq⟩
    have hsn := hs.next
    refine wpC_seq ?_
    refine wC_ops ?_
    refine wI_lss (.t (.there rfl (.there rfl (.there rfl (.there rfl (.there rfl (.there rfl (.here)))))))) (.t (.there rfl (.there rfl (.there rfl (.there rfl (.there rfl (.here))))))) ?_
    refine wI_end (.cons (.there rfl (.here)) (.cons (.there rfl (.there rfl (.here))) (.cons (.there rfl (.there rfl (.there rfl (.here)))) (.cons (.there rfl (.there rfl (.there rfl (.there rfl (.here))))) (.cons (.there rfl (.there rfl (.there rfl (.there rfl (.there rfl (.here)))))) (.cons (.there rfl (.there rfl (.there rfl (.there rfl (.there rfl (.there rfl (.here))))))) (.cons (.there rfl (.there rfl (.there rfl (.there rfl (.there rfl (.there rfl (.there rfl (.here)))))))) (.cons (.here) .nil)))))))) ?_
    refine wpC_seq ?_
    refine wC_if (.t (.there rfl (.there rfl (.there rfl (.there rfl (.there rfl (.there rfl (.there rfl (.here))))))))) (fun c3 => ?_) (fun c3 => ?_)
    · -- c3 True
      refine wpC_skip ?_
      refine wpC_seq ?_
      refine wpC_block ?_
      refine wpC_seq ?_
      refine wC_ops ?_
      refine wI_mov (.t (.there rfl (.there rfl (.there rfl (.there rfl (.there rfl (.there rfl (.here)))))))) ?_
      first | refine wI_ixInts (.t (.there rfl (.there rfl (.there rfl (.there rfl (.there rfl (.here))))))) aATI (.t (.there rfl (.there rfl (.there rfl (.there rfl (.there rfl (.there rfl (.there rfl (.here))))))))) rfl aOM (fun b4 o4 p4 => ?_) | refine wI_ixVals (.t (.there rfl (.there rfl (.there rfl (.there rfl (.there rfl (.here))))))) aATI (.t (.there rfl (.there rfl (.there rfl (.there rfl (.there rfl (.there rfl (.there rfl (.here))))))))) rfl aOM (fun b4 o4 p4 => ?_) | refine wI_ixBools (.t (.there rfl (.there rfl (.there rfl (.there rfl (.there rfl (.here))))))) aATI (.t (.there rfl (.there rfl (.there rfl (.there rfl (.there rfl (.there rfl (.there rfl (.here))))))))) rfl aOM (fun b4 o4 p4 => ?_)
      refine wI_ldc1 0 (.t (.here)) (by first | exact p4 | exact Cells.mono p4 aSUB) rfl ?_
      refine wI_mov (.t (.there rfl (.there rfl (.here)))) ?_
      refine wI_mov (.t (.there rfl (.here))) ?_
      refine wI_end (.cons (.there rfl (.there rfl (.there rfl (.there rfl (.there rfl (.here)))))) (.cons (.there rfl (.there rfl (.there rfl (.there rfl (.there rfl (.there rfl (.here))))))) (.cons (.there rfl (.there rfl (.there rfl (.there rfl (.there rfl (.there rfl (.there rfl (.here)))))))) (.cons (.there rfl (.there rfl (.there rfl (.there rfl (.there rfl (.there rfl (.there rfl (.there rfl (.here))))))))) (.cons (.there rfl (.here)) (.cons (.here) (.cons (.there rfl (.there rfl (.there rfl (.there rfl (.there rfl (.there rfl (.there rfl (.there rfl (.there rfl (.here)))))))))) (.cons (.there rfl (.there rfl (.there rfl (.there rfl (.there rfl (.there rfl (.there rfl (.there rfl (.there rfl (.there rfl (.here))))))))))) (.cons (.there rfl (.there rfl (.there rfl (.there rfl (.there rfl (.there rfl (.there rfl (.there rfl (.there rfl (.there rfl (.there rfl (.here)))))))))))) .nil))))))))) ?_
      refine wpC_block ?_
      refine wpC_seq ?_
      refine wC_ops ?_
      refine wI_mov (.t (.there rfl (.there rfl (.there rfl (.there rfl (.there rfl (.here))))))) ?_
      refine wI_fieldAddr (.t (.there rfl (.there rfl (.here)))) ?_
      refine wI_load1 (.t (.here)) aGET rfl ?_
      refine wI_lenSl (.t (.here)) aLEN ?_
      refine wI_sub (.t (.here)) .c (wrap64 aOM) ?_
      refine wI_call (.cons (.t (.there rfl (.there rfl (.there rfl (.there rfl (.here)))))) (.cons .c (.cons (.t (.here)) .nil))) (s68 hT _ _ _) ?_
      rintro _ _ ⟨rfl, heq⟩
      obtain rfl := heq.symm
      refine wI_not (.t (.here)) ?_
      refine wI_mov (.t (.here)) ?_
      refine wI_end (.cons (.there rfl (.there rfl (.there rfl (.there rfl (.there rfl (.there rfl (.there rfl (.there rfl (.here))))))))) (.cons (.there rfl (.there rfl (.there rfl (.there rfl (.there rfl (.there rfl (.there rfl (.there rfl (.there rfl (.here)))))))))) (.cons (.there rfl (.there rfl (.there rfl (.there rfl (.there rfl (.there rfl (.there rfl (.there rfl (.there rfl (.there rfl (.here))))))))))) (.cons (.there rfl (.there rfl (.there rfl (.there rfl (.there rfl (.there rfl (.there rfl (.there rfl (.there rfl (.there rfl (.there rfl (.here)))))))))))) (.cons (.there rfl (.there rfl (.there rfl (.there rfl (.there rfl (.there rfl (.there rfl (.there rfl (.there rfl (.there rfl (.there rfl (.there rfl (.here))))))))))))) (.cons (.there rfl (.there rfl (.there rfl (.there rfl (.there rfl (.there rfl (.there rfl (.there rfl (.there rfl (.there rfl (.there rfl (.there rfl (.there rfl (.here)))))))))))))) (.cons (.there rfl (.there rfl (.there rfl (.there rfl (.there rfl (.there rfl (.there rfl (.there rfl (.there rfl (.there rfl (.there rfl (.there rfl (.there rfl (.there rfl (.here))))))))))))))) (.cons (.there rfl (.there rfl (.there rfl (.there rfl (.there rfl (.there rfl (.there rfl (.there rfl (.there rfl (.there rfl (.there rfl (.there rfl (.there rfl (.there rfl (.there rfl (.here)))))))))))))))) (.cons (.there rfl (.there rfl (.there rfl (.there rfl (.there rfl (.there rfl (.there rfl (.there rfl (.there rfl (.there rfl (.there rfl (.there rfl (.there rfl (.there rfl (.there rfl (.there rfl (.here))))))))))))))))) (.cons (.here) .nil)))))))))) ?_
      refine wC_cond (.t (.there rfl (.there rfl (.there rfl (.there rfl (.there rfl (.there rfl (.there rfl (.there rfl (.there rfl (.here))))))))))) (fun c6 => ?_) (fun c6 => ?_)
      · -- c6 True
        refine wpC_seq ?_
        refine wC_ops ?_
        refine wI_mov .c ?_
        refine wI_mov .c ?_
        refine wI_end (.cons (.there rfl (.here)) (.cons (.here) .nil)) ?_
        refine wpC_ret (ret2 (.here) (.there rfl (.here)) ?_)
        refine ⟨?_, aSUB⟩
        unfold boundS
        first
          | (rw [if_neg (by assumption)]; done)
          | (rw [if_pos hck, show cutS I.length c = 7 from hq.trans (cutE_7 aOM (by (try simp only [decide_eq_true_eq, decide_eq_false_iff_not, Bool.not_eq_true', Bool.not_eq_false', Bool.not_eq_true, Bool.not_eq_false] at *) <;> (first | assumption | omega))), if_neg (by decide)]; done)
          | (rw [if_pos hck, show cutS I.length c = 11 from hq.trans (cutE_11 aOM (by (try simp only [decide_eq_true_eq, decide_eq_false_iff_not, Bool.not_eq_true', Bool.not_eq_false', Bool.not_eq_true, Bool.not_eq_false] at *) <;> (first | assumption | omega)) (by (try simp only [decide_eq_true_eq, decide_eq_false_iff_not, Bool.not_eq_true', Bool.not_eq_false', Bool.not_eq_true, Bool.not_eq_false] at *) <;> (first | assumption | omega))), if_neg (by decide)]; done)
          | (rw [if_pos hck, if_pos hE]
             have hl0 : left = 0 := by omega
             rw [hl0, oc_empty (fun v _ => by simp), Nat.add_zero] at hoc
             simp only [boundV, hoc])
      · -- c6 False
        refine wpC_seq ?_
        refine wC_ops ?_
        refine wI_mov (.t (.there rfl (.there rfl (.there rfl (.there rfl (.here)))))) ?_
        refine wI_gtr (.t (.here)) .c ?_
        refine wI_mov (.t (.here)) ?_
        refine wI_gdT (.here) (fun g7 => ?_) (fun g7 => ?_)
        · -- g7 True
          refine wI_mov (.t (.there rfl (.there rfl (.there rfl (.there rfl (.there rfl (.there rfl (.there rfl (.there rfl (.here)))))))))) ?_
          refine wI_yes (.there rfl (.here)) g7 ?_
          refine wI_mov (.t (.there rfl (.there rfl (.there rfl (.there rfl (.here)))))) ?_
          refine wI_yes (.there rfl (.there rfl (.here))) g7 ?_
          refine wI_mov (.t (.there rfl (.there rfl (.there rfl (.there rfl (.there rfl (.there rfl (.there rfl (.there rfl (.there rfl (.here))))))))))) ?_
          refine wI_yes (.there rfl (.there rfl (.there rfl (.here)))) g7 ?_
          refine wI_sub (.t (.here)) .c (wrap64 aOM) ?_
          refine wI_yes (.there rfl (.there rfl (.there rfl (.there rfl (.here))))) g7 ?_
          have hi0 : (0 : Int) < i := of_decide_eq_true (by assumption)
          refine wI_ixInts (m := i - 1) (.t (.there rfl (.there rfl (.here)))) aATI (.t (.here)) aOM aOM (fun bq oq pq => ?_)
          refine wI_yes (.there rfl (.there rfl (.there rfl (.there rfl (.there rfl (.here)))))) g7 ?_
          refine wI_ldc1 0 (.t (.here)) (by first | exact pq | exact Cells.mono pq aSUB) rfl ?_
          refine wI_yes (.there rfl (.there rfl (.there rfl (.there rfl (.there rfl (.there rfl (.here))))))) g7 ?_
          refine wI_leq (.t (.there rfl (.there rfl (.there rfl (.there rfl (.there rfl (.here))))))) (.t (.here)) ?_
          refine wI_pickT (.t (.there rfl (.there rfl (.there rfl (.there rfl (.there rfl (.there rfl (.there rfl (.here))))))))) g7 (.t (.here)) ?_
          refine wI_mov (.t (.here)) ?_
          refine wI_end (.cons (.there rfl (.there rfl (.there rfl (.there rfl (.there rfl (.there rfl (.there rfl (.there rfl (.there rfl (.there rfl (.there rfl (.there rfl (.here))))))))))))) (.cons (.there rfl (.there rfl (.there rfl (.there rfl (.there rfl (.there rfl (.there rfl (.there rfl (.there rfl (.there rfl (.there rfl (.there rfl (.there rfl (.here)))))))))))))) (.cons (.there rfl (.there rfl (.there rfl (.there rfl (.there rfl (.there rfl (.there rfl (.there rfl (.there rfl (.there rfl (.there rfl (.there rfl (.there rfl (.there rfl (.here))))))))))))))) (.cons (.there rfl (.there rfl (.there rfl (.there rfl (.there rfl (.there rfl (.there rfl (.there rfl (.there rfl (.there rfl (.there rfl (.there rfl (.there rfl (.there rfl (.there rfl (.here)))))))))))))))) (.cons (.there rfl (.there rfl (.there rfl (.there rfl (.there rfl (.there rfl (.there rfl (.there rfl (.there rfl (.there rfl (.there rfl (.there rfl (.there rfl (.there rfl (.there rfl (.there rfl (.there rfl (.there rfl (.here))))))))))))))))))) (.cons (.there rfl (.there rfl (.there rfl (.there rfl (.there rfl (.there rfl (.there rfl (.there rfl (.there rfl (.there rfl (.there rfl (.there rfl (.there rfl (.there rfl (.there rfl (.there rfl (.there rfl (.there rfl (.there rfl (.here)))))))))))))))))))) (.cons (.there rfl (.there rfl (.there rfl (.there rfl (.there rfl (.there rfl (.there rfl (.there rfl (.there rfl (.there rfl (.there rfl (.there rfl (.there rfl (.there rfl (.there rfl (.there rfl (.there rfl (.there rfl (.there rfl (.there rfl (.here))))))))))))))))))))) (.cons (.here) .nil)))))))) ?_
          refine wC_if (.t (.there rfl (.there rfl (.there rfl (.there rfl (.there rfl (.there rfl (.there rfl (.here))))))))) (fun c8 => ?_) (fun c8 => ?_)
          · -- c8 True
            refine wpC_seq ?_
            refine wC_ops ?_
            refine wI_mov .c ?_
            refine wI_mov .c ?_
            refine wI_end (.cons (.there rfl (.here)) (.cons (.here) .nil)) ?_
            refine wpC_ret (ret2 (.here) (.there rfl (.here)) ?_)
            refine ⟨?_, aSUB⟩
            unfold boundS
            first
              | (rw [if_neg (by assumption)]; done)
              | (rw [if_pos hck, show cutS I.length c = 7 from hq.trans (cutE_7 aOM (by (try simp only [decide_eq_true_eq, decide_eq_false_iff_not, Bool.not_eq_true', Bool.not_eq_false', Bool.not_eq_true, Bool.not_eq_false] at *) <;> (first | assumption | omega))), if_neg (by decide)]; done)
              | (rw [if_pos hck, show cutS I.length c = 11 from hq.trans (cutE_11 aOM (by (try simp only [decide_eq_true_eq, decide_eq_false_iff_not, Bool.not_eq_true', Bool.not_eq_false', Bool.not_eq_true, Bool.not_eq_false] at *) <;> (first | assumption | omega)) (by (try simp only [decide_eq_true_eq, decide_eq_false_iff_not, Bool.not_eq_true', Bool.not_eq_false', Bool.not_eq_true, Bool.not_eq_false] at *) <;> (first | assumption | omega))), if_neg (by decide)]; done)
              | (rw [if_pos hck, if_pos hE]
                 have hl0 : left = 0 := by omega
                 rw [hl0, oc_empty (fun v _ => by simp), Nat.add_zero] at hoc
                 simp only [boundV, hoc])
          · -- c8 False
            refine wpC_skip ?_
            refine wC_ops ?_
            refine wI_add (.t (.there rfl (.there rfl (.there rfl (.there rfl (.there rfl (.there rfl (.here)))))))) .c (wrap64 aOM) ?_
            refine wI_mov (.t (.here)) ?_
            refine wI_end (.cons (.there rfl (.there rfl (.here))) (.cons (.there rfl (.there rfl (.there rfl (.here)))) (.cons (.there rfl (.there rfl (.there rfl (.there rfl (.here))))) (.cons (.there rfl (.there rfl (.there rfl (.there rfl (.there rfl (.here)))))) (.cons (.there rfl (.there rfl (.there rfl (.there rfl (.there rfl (.there rfl (.here))))))) (.cons (.there rfl (.there rfl (.there rfl (.there rfl (.there rfl (.there rfl (.there rfl (.here)))))))) (.cons (.here) .nil))))))) ?_
            refine ⟨i + 1, (.cons (.here) (.cons (.there rfl (.here)) (.cons (.there rfl (.there rfl (.here))) (.cons (.there rfl (.there rfl (.there rfl (.here)))) (.cons (.there rfl (.there rfl (.there rfl (.there rfl (.here))))) (.cons (.there rfl (.there rfl (.there rfl (.there rfl (.there rfl (.here)))))) (.cons (.there rfl (.there rfl (.there rfl (.there rfl (.there rfl (.there rfl (.here))))))) .nil))))))), ?_, ?_⟩
            · refine ⟨aSUB, aGET, by omega, hq.trans (cutE_step aOM (by (try simp only [decide_eq_true_eq, decide_eq_false_iff_not, Bool.not_eq_true', Bool.not_eq_false', Bool.not_eq_true, Bool.not_eq_false] at *) <;> (first | assumption | omega)) ?_)⟩
              rintro ⟨z1, z2⟩
              first | omega | (simp only [decide_eq_false_iff_not] at *; omega)
            · (first | omega | (simp only []; omega))
        · -- g7 False
          refine wI_no (.there rfl (.here)) (by rw [g7]; decide) ?_
          refine wI_no (.there rfl (.there rfl (.here))) (by rw [g7]; decide) ?_
          refine wI_no (.there rfl (.there rfl (.there rfl (.here)))) (by rw [g7]; decide) ?_
          refine wI_no (.there rfl (.there rfl (.there rfl (.there rfl (.here))))) (by rw [g7]; decide) ?_
          refine wI_no (.there rfl (.there rfl (.there rfl (.there rfl (.there rfl (.here)))))) (by rw [g7]; decide) ?_
          refine wI_no (.there rfl (.there rfl (.there rfl (.there rfl (.there rfl (.there rfl (.here))))))) (by rw [g7]; decide) ?_
          refine wI_pickF (.t (.there rfl (.there rfl (.there rfl (.there rfl (.there rfl (.there rfl (.there rfl (.here))))))))) g7 .c ?_
          refine wI_mov (.t (.here)) ?_
          refine wI_end (.cons (.there rfl (.there rfl (.there rfl (.there rfl (.there rfl (.there rfl (.there rfl (.there rfl (.there rfl (.there rfl (.there rfl (.there rfl (.here))))))))))))) (.cons (.there rfl (.there rfl (.there rfl (.there rfl (.there rfl (.there rfl (.there rfl (.there rfl (.there rfl (.there rfl (.there rfl (.there rfl (.there rfl (.here)))))))))))))) (.cons (.there rfl (.there rfl (.there rfl (.there rfl (.there rfl (.there rfl (.there rfl (.there rfl (.there rfl (.there rfl (.there rfl (.there rfl (.there rfl (.there rfl (.here))))))))))))))) (.cons (.there rfl (.there rfl (.there rfl (.there rfl (.there rfl (.there rfl (.there rfl (.there rfl (.there rfl (.there rfl (.there rfl (.there rfl (.there rfl (.there rfl (.there rfl (.here)))))))))))))))) (.cons (.there rfl (.there rfl (.there rfl (.there rfl (.there rfl (.there rfl (.there rfl (.there rfl (.there rfl (.there rfl (.there rfl (.there rfl (.there rfl (.there rfl (.there rfl (.there rfl (.there rfl (.there rfl (.here))))))))))))))))))) (.cons (.there rfl (.there rfl (.there rfl (.there rfl (.there rfl (.there rfl (.there rfl (.there rfl (.there rfl (.there rfl (.there rfl (.there rfl (.there rfl (.there rfl (.there rfl (.there rfl (.there rfl (.there rfl (.there rfl (.here)))))))))))))))))))) (.cons (.there rfl (.there rfl (.there rfl (.there rfl (.there rfl (.there rfl (.there rfl (.there rfl (.there rfl (.there rfl (.there rfl (.there rfl (.there rfl (.there rfl (.there rfl (.there rfl (.there rfl (.there rfl (.there rfl (.there rfl (.here))))))))))))))))))))) (.cons (.here) .nil)))))))) ?_
          refine wC_condF (.t (.there rfl (.there rfl (.there rfl (.there rfl (.there rfl (.there rfl (.there rfl (.here))))))))) rfl ?_
          refine wpC_skip ?_
          refine wC_ops ?_
          refine wI_add (.t (.there rfl (.there rfl (.there rfl (.there rfl (.there rfl (.there rfl (.here)))))))) .c (wrap64 aOM) ?_
          refine wI_mov (.t (.here)) ?_
          refine wI_end (.cons (.there rfl (.there rfl (.here))) (.cons (.there rfl (.there rfl (.there rfl (.here)))) (.cons (.there rfl (.there rfl (.there rfl (.there rfl (.here))))) (.cons (.there rfl (.there rfl (.there rfl (.there rfl (.there rfl (.here)))))) (.cons (.there rfl (.there rfl (.there rfl (.there rfl (.there rfl (.there rfl (.here))))))) (.cons (.there rfl (.there rfl (.there rfl (.there rfl (.there rfl (.there rfl (.there rfl (.here)))))))) (.cons (.here) .nil))))))) ?_
          refine ⟨i + 1, (.cons (.here) (.cons (.there rfl (.here)) (.cons (.there rfl (.there rfl (.here))) (.cons (.there rfl (.there rfl (.there rfl (.here)))) (.cons (.there rfl (.there rfl (.there rfl (.there rfl (.here))))) (.cons (.there rfl (.there rfl (.there rfl (.there rfl (.there rfl (.here)))))) (.cons (.there rfl (.there rfl (.there rfl (.there rfl (.there rfl (.there rfl (.here))))))) .nil))))))), ?_, ?_⟩
          · refine ⟨aSUB, aGET, by omega, hq.trans (cutE_step aOM (by (try simp only [decide_eq_true_eq, decide_eq_false_iff_not, Bool.not_eq_true', Bool.not_eq_false', Bool.not_eq_true, Bool.not_eq_false] at *) <;> (first | assumption | omega)) ?_)⟩
            rintro ⟨z1, z2⟩
            first | omega | (simp only [decide_eq_false_iff_not] at *; omega)
          · (first | omega | (simp only []; omega))
    · -- c3 False
      refine wpC_exit ?_
      refine wpC_seq ?_
      refine wC_ops ?_
      have hE : cutS I.length c = 0 := by (rw [hq, show c.length - i = 0 by omega]; rfl)
      refine wI_loadT (.t (.there rfl (.here))) aGET aRC ?_
      refine wI_call (.cons (.t (.here)) .nil) (s73m hT hS (hS0.mono aSUB) hok) ?_
      rintro _ Ha ⟨m, pm, qm, u, N, rfl, hM, _, _, hsa⟩
      have hsan := hsa.next
      have hMg := hM.get
      have hMl := AH.get_lt hMg
      refine wI_alloc ?_
      first | refine wI_storeA (.t (.here)) (.t (.there rfl (.here))) aGET rfl aBOX aRC ?_ | refine wI_store1 (.t (.here)) (.t (.there rfl (.here))) aGET aONE aRC ?_
      refine wI_end (.cons (.there rfl (.there rfl (.there rfl (.here)))) (.cons (.there rfl (.there rfl (.there rfl (.there rfl (.there rfl (.here)))))) (.cons (.there rfl (.there rfl (.there rfl (.there rfl (.there rfl (.there rfl (.here))))))) (.cons (.here) .nil)))) ?_
      refine wpC_seq ?_
      refine wC_ops ?_
      refine wI_load1 (.t (.there rfl (.there rfl (.there rfl (.here))))) aGET rfl ?_
      refine wI_call (.cons (.t (.here)) .nil) (s74 hS (n := I.length) aOM aGET) ?_
      rintro _ _ ⟨rfl, heq⟩
      obtain rfl := heq.symm
      refine wI_mov (.t (.there rfl (.there rfl (.here)))) ?_
      refine wI_call (.cons (.t (.here)) .nil) (s77 hS (hc.mono aSUB) aOM (fun i hi => by have := cutS_range hE i hi; omega)) ?_
      rintro _ H1 ⟨⟨z, rfl, hz, hzb⟩, hs1⟩
      have hs1n := hs1.next
      simp only [AH.next_new, AH.next_put] at hs1n
      refine wI_sdiff (.t (.there rfl (.there rfl (.here)))) (.t (.here)) ?_
      have hlb : ∀ v, (sdiff (2 ^ I.length - 1) z).testBit v = leftB I.length c v := fun v => by rw [sdiff_testBit (by have := Nat.pow_le_pow_right (n := 2) (by decide) (show I.length ≤ 24 by omega); omega), Nat.testBit_two_pow_sub_one, hzb]; rfl
      refine wI_mov (.t (.here)) ?_
      refine wI_end (.cons (.there rfl (.there rfl (.there rfl (.there rfl (.there rfl (.there rfl (.here))))))) (.cons (.there rfl (.there rfl (.there rfl (.there rfl (.there rfl (.there rfl (.there rfl (.here)))))))) (.cons (.there rfl (.there rfl (.there rfl (.there rfl (.there rfl (.there rfl (.there rfl (.there rfl (.here))))))))) (.cons (.there rfl (.there rfl (.there rfl (.there rfl (.there rfl (.there rfl (.there rfl (.there rfl (.there rfl (.here)))))))))) (.cons (.here) .nil))))) ?_
      refine wpC_seq ?_
      refine wC_ops ?_
      refine wI_mov .c ?_
      refine wI_end (.cons (.there rfl (.here)) (.cons (.there rfl (.there rfl (.here))) (.cons (.there rfl (.there rfl (.there rfl (.here)))) (.cons (.there rfl (.there rfl (.there rfl (.there rfl (.here))))) (.cons (.there rfl (.there rfl (.there rfl (.there rfl (.there rfl (.here)))))) (.cons (.here) .nil)))))) ?_
      refine wpC_seq ?_
      refine wpC_block ?_
      refine wC_loop (α := Nat × Nat) (fun (left, od) => [(1, cv), (4, .int .i64 0), (5, .int .i64 0), (9, .ptr (Ha.next) 0), (10, .int .u32 left), (11, .int .i64 od)]) (fun (left, od) H => H1.Sub H ∧ left < 4294967296 ∧ (∀ v, left.testBit v = true → v < I.length) ∧ od ≤ 32 ∧ od + oc (alike t I) I.length (fun v => left.testBit v) = oc (alike t I) I.length (leftB I.length c)) (fun (left, od) => cnt 32 (fun v => left.testBit v)) (sdiff (2 ^ I.length - 1) z, 0) (.cons (.here) (.cons (.there rfl (.here)) (.cons (.there rfl (.there rfl (.here))) (.cons (.there rfl (.there rfl (.there rfl (.here)))) (.cons (.there rfl (.there rfl (.there rfl (.there rfl (.here))))) (.cons (.there rfl (.there rfl (.there rfl (.there rfl (.there rfl (.here)))))) .nil)))))) ?_ ?_
      · exact ⟨AH.Sub.refl _, sdiff_lt _ _, fun v hv => by (rw [hlb] at hv; simp [leftB] at hv; exact hv.1), by omega, by rw [Nat.zero_add]; congr 1; funext v; exact hlb v⟩
      rintro ⟨left, od⟩ H2 ⟨hs2, hl32, hll, hod, hoc⟩
      have hs2n := hs2.next
      have hM2 := hM
      refine wpC_seq ?_
      refine wpC_seq ?_
      refine wC_ops ?_
      refine wI_mov (.t (.there rfl (.there rfl (.there rfl (.there rfl (.here)))))) ?_
      refine wI_neI (.t (.here)) .c ?_
      refine wI_end (.cons (.there rfl (.there rfl (.here))) (.cons (.there rfl (.there rfl (.there rfl (.here)))) (.cons (.there rfl (.there rfl (.there rfl (.there rfl (.here))))) (.cons (.there rfl (.there rfl (.there rfl (.there rfl (.there rfl (.here)))))) (.cons (.there rfl (.there rfl (.there rfl (.there rfl (.there rfl (.there rfl (.here))))))) (.cons (.there rfl (.there rfl (.there rfl (.there rfl (.there rfl (.there rfl (.there rfl (.here)))))))) (.cons (.here) .nil))))))) ?_
      refine wC_if (.t (.there rfl (.there rfl (.there rfl (.there rfl (.there rfl (.there rfl (.here)))))))) (fun c12 => ?_) (fun c12 => ?_)
      · -- c12 True
        refine wpC_skip ?_
        refine wpC_block ?_
        refine wpC_seq ?_
        refine wC_ops ?_
        refine wI_mov .c ?_
        refine wI_alloc ?_
        refine wI_end (.cons (.there rfl (.there rfl (.here))) (.cons (.there rfl (.there rfl (.there rfl (.here)))) (.cons (.there rfl (.there rfl (.there rfl (.there rfl (.here))))) (.cons (.there rfl (.there rfl (.there rfl (.there rfl (.there rfl (.here)))))) (.cons (.there rfl (.there rfl (.there rfl (.there rfl (.there rfl (.there rfl (.here))))))) (.cons (.there rfl (.there rfl (.there rfl (.there rfl (.there rfl (.there rfl (.there rfl (.here)))))))) (.cons (.there rfl (.here)) (.cons (.here) .nil)))))))) ?_
        refine wpC_seq ?_
        refine wpC_seq ?_
        refine wC_ops ?_
        refine wI_mov (.t (.there rfl (.there rfl (.there rfl (.there rfl (.here)))))) ?_
        refine wI_call (.cons (.t (.here)) .nil) (s78 hS _) ?_
        rintro _ H3 ⟨⟨bx, rfl, hbl, hbx⟩, hs3⟩
        have hs3n := hs3.next
        have hbxl := AH.get_lt hbx
        simp only [AH.next_new, AH.next_put] at hs3n hbl
        have g13 : H3.get H2.next = some (.cells [.int .u32 0] true) := aGET
        have h13 : H1.Sub H3 := aSUB
        refine wI_end (.cons (.there rfl (.there rfl (.here))) (.cons (.there rfl (.there rfl (.there rfl (.here)))) (.cons (.there rfl (.there rfl (.there rfl (.there rfl (.here))))) (.cons (.there rfl (.there rfl (.there rfl (.there rfl (.there rfl (.here)))))) (.cons (.there rfl (.there rfl (.there rfl (.there rfl (.there rfl (.there rfl (.here))))))) (.cons (.there rfl (.there rfl (.there rfl (.there rfl (.there rfl (.there rfl (.there rfl (.here)))))))) (.cons (.there rfl (.there rfl (.there rfl (.there rfl (.there rfl (.there rfl (.there rfl (.there rfl (.here))))))))) (.cons (.there rfl (.there rfl (.there rfl (.there rfl (.there rfl (.there rfl (.there rfl (.there rfl (.there rfl (.here)))))))))) (.cons (.here) .nil))))))))) ?_
        refine wpC_block ?_
        refine wC_items hS (.t (.there rfl (.there rfl (.there rfl (.there rfl (.there rfl (.there rfl (.there rfl (.there rfl (.here)))))))))) hl32 hbx (fun i H => H1.Sub H ∧ H.get H2.next = some (.cells [.int .u32 0] true) ∧ ∀ v, v < i → left.testBit v = false) (fun i Ha Hb ⟨e1, e2, e3⟩ hx => ⟨e1.transX hx (by simp; omega), hx.get _ _ (by simp; omega) e2, e3⟩) ⟨h13, g13, fun v hv => by omega⟩ (fun i H _ hb ⟨e1, e2, e3⟩ => ⟨e1, e2, fun v hv => by rcases Nat.lt_or_ge v i with k | k; exact e3 v k; rw [show v = i by omega]; exact hb⟩) (fun i => [(13, .ptr H2.next 0), (14, .int .i64 i)]) (fun _ _ => by refine wC_ops ?_; refine wI_mov (.t (.here)) ?_; refine wI_end (.cons (.there rfl (.there rfl (.there rfl (.there rfl (.there rfl (.there rfl (.there rfl (.there rfl (.there rfl (.here)))))))))) (.cons (.here) .nil)) ?_; exact ⟨rfl, rfl, rfl⟩) [H2.next] (fun b hb => by simp at hb; omega) ?_ ?_
        · -- range body
          intro i H4 hiH4 hbH4 hIH4 hlH4
          obtain ⟨h14, g14, hlow⟩ := hIH4
          have h14n := h14.next
          have g14l := AH.get_lt g14
          refine wpC_block ?_
          refine wpC_seq ?_
          refine wC_ops ?_
          refine wI_mov (.t (.there rfl (.here))) ?_
          refine wI_buildSlice (.one (.t (.here)) aONE rfl aRC .nil) ?_
          refine wI_call (.cons (.t (.here)) .nil) (s77 hS (l := [(i : Int)]) (At.of_get aGET rfl) (by simp) (fun j hj => by simp at hj; subst hj; simp; omega)) ?_
          rintro _ H5 ⟨⟨z2, rfl, hz2, hz2b⟩, hs5⟩
          have hs5n := hs5.next
          simp only [AH.next_new, AH.next_put] at hs5n
          first | refine wI_storeA (.t (.there rfl (.there rfl (.there rfl (.here))))) (.t (.here)) aGET rfl aBOX aRC ?_ | refine wI_store1 (.t (.there rfl (.there rfl (.there rfl (.here))))) (.t (.here)) aGET aONE aRC ?_
          refine wI_end .nil ?_
          refine wpC_exit ?_
          refine ⟨aSUBX, ?_⟩
          intro H4x hxH4x
          have hnH4x := hxH4x.next
          simp only [AH.next_put] at hnH4x
          refine wpC_seq ?_
          refine wpC_block ?_
          refine wC_loop (α := Nat × Nat) (fun (p, x) => [(1, cv), (4, .int .i64 0), (5, .int .i64 0), (9, .ptr (Ha.next) 0), (10, .int .u32 left), (11, .int .i64 od), (12, .int .u32 p), (13, .ptr (H2.next) 0)]) (fun (p, x) H => H1.Sub H ∧ H2.next < H.next ∧ H.get (H2.next) = some (.cells [.int .u32 x] true) ∧ Bfs (alike t I) (fun v => left.testBit v) i p x) (fun (p, x) => cnt 32 (fun v => !p.testBit v)) (0, z2) (.cons (.here) (.cons (.there rfl (.here)) (.cons (.there rfl (.there rfl (.here))) (.cons (.there rfl (.there rfl (.there rfl (.here)))) (.cons (.there rfl (.there rfl (.there rfl (.there rfl (.here))))) (.cons (.there rfl (.there rfl (.there rfl (.there rfl (.there rfl (.here)))))) (.cons (.there rfl (.there rfl (.there rfl (.there rfl (.there rfl (.there rfl (.here))))))) (.cons (.there rfl (.there rfl (.there rfl (.there rfl (.there rfl (.there rfl (.there rfl (.here)))))))) .nil)))))))) ?_ ?_
          · exact ⟨aSUB, by omega, aGET, Bfs.init hz2 hbH4 (fun v => by rw [hz2b]; exact decide_eq_decide.2 (by simp; omega))⟩
          rintro ⟨p, x⟩ H6 ⟨hs6, hn6, g613, hbf⟩
          have hs6n := hs6.next
          have g13l := AH.get_lt g613
          have hlR : ∀ v, left.testBit v = (fun v => left.testBit v) v := fun _ => rfl
          refine wpC_seq ?_
          refine wpC_seq ?_
          refine wC_ops ?_
          refine wI_load1 (.t (.there rfl (.there rfl (.there rfl (.there rfl (.there rfl (.there rfl (.there rfl (.here))))))))) aGET rfl ?_
          refine wI_neI (.t (.here)) .c ?_
          refine wI_end (.cons (.there rfl (.there rfl (.here))) (.cons (.there rfl (.there rfl (.there rfl (.here)))) (.cons (.there rfl (.there rfl (.there rfl (.there rfl (.here))))) (.cons (.there rfl (.there rfl (.there rfl (.there rfl (.there rfl (.here)))))) (.cons (.there rfl (.there rfl (.there rfl (.there rfl (.there rfl (.there rfl (.here))))))) (.cons (.there rfl (.there rfl (.there rfl (.there rfl (.there rfl (.there rfl (.there rfl (.here)))))))) (.cons (.there rfl (.there rfl (.there rfl (.there rfl (.there rfl (.there rfl (.there rfl (.there rfl (.here))))))))) (.cons (.there rfl (.there rfl (.there rfl (.there rfl (.there rfl (.there rfl (.there rfl (.there rfl (.there rfl (.here)))))))))) (.cons (.here) .nil))))))))) ?_
          refine wC_if (.t (.there rfl (.there rfl (.there rfl (.there rfl (.there rfl (.there rfl (.there rfl (.there rfl (.here)))))))))) (fun c15 => ?_) (fun c15 => ?_)
          · -- c15 True
            refine wpC_skip ?_
            refine wpC_block ?_
            refine wpC_seq ?_
            refine wC_ops ?_
            refine wI_mov (.t (.there rfl (.there rfl (.there rfl (.there rfl (.there rfl (.there rfl (.here)))))))) ?_
            refine wI_load1 (.t (.there rfl (.there rfl (.there rfl (.there rfl (.there rfl (.there rfl (.there rfl (.there rfl (.here)))))))))) aGET rfl ?_
            refine wI_sor (.t (.there rfl (.here))) (.t (.here)) hbf.p32 hbf.x32 ?_
            refine wI_mov (.t (.here)) ?_
            refine wI_end (.cons (.there rfl (.there rfl (.there rfl (.there rfl (.here))))) (.cons (.there rfl (.there rfl (.there rfl (.there rfl (.there rfl (.here)))))) (.cons (.there rfl (.there rfl (.there rfl (.there rfl (.there rfl (.there rfl (.here))))))) (.cons (.there rfl (.there rfl (.there rfl (.there rfl (.there rfl (.there rfl (.there rfl (.here)))))))) (.cons (.there rfl (.there rfl (.there rfl (.there rfl (.there rfl (.there rfl (.there rfl (.there rfl (.here))))))))) (.cons (.there rfl (.there rfl (.there rfl (.there rfl (.there rfl (.there rfl (.there rfl (.there rfl (.there rfl (.here)))))))))) (.cons (.here) (.cons (.there rfl (.there rfl (.there rfl (.there rfl (.there rfl (.there rfl (.there rfl (.there rfl (.there rfl (.there rfl (.there rfl (.here)))))))))))) .nil)))))))) ?_
            refine wpC_seq ?_
            refine wC_ops ?_
            refine wI_alloc ?_
            refine wI_end (.cons (.there rfl (.here)) (.cons (.there rfl (.there rfl (.here))) (.cons (.there rfl (.there rfl (.there rfl (.here)))) (.cons (.there rfl (.there rfl (.there rfl (.there rfl (.here))))) (.cons (.there rfl (.there rfl (.there rfl (.there rfl (.there rfl (.here)))))) (.cons (.there rfl (.there rfl (.there rfl (.there rfl (.there rfl (.there rfl (.here))))))) (.cons (.there rfl (.there rfl (.there rfl (.there rfl (.there rfl (.there rfl (.there rfl (.here)))))))) (.cons (.there rfl (.there rfl (.there rfl (.there rfl (.there rfl (.there rfl (.there rfl (.there rfl (.here))))))))) (.cons (.here) .nil))))))))) ?_
            refine wpC_seq ?_
            refine wpC_seq ?_
            refine wC_ops ?_
            refine wI_load1 (.t (.there rfl (.there rfl (.there rfl (.there rfl (.there rfl (.there rfl (.there rfl (.here))))))))) aGET rfl ?_
            refine wI_call (.cons (.t (.here)) .nil) (s78 hS _) ?_
            rintro _ H7 ⟨⟨by7, rfl, hby, hbyx⟩, hs7⟩
            have hs7n := hs7.next
            have hbyl := AH.get_lt hbyx
            simp only [AH.next_new, AH.next_put] at hs7n hby
            have g15 : H7.get H6.next = some (.cells [.int .u32 0] true) := aGET
            have g713 : H7.get (H2.next) = some (.cells [.int .u32 x] true) := aGET
            have h17 : H1.Sub H7 := aSUB
            refine wI_end (.cons (.there rfl (.there rfl (.here))) (.cons (.there rfl (.there rfl (.there rfl (.here)))) (.cons (.there rfl (.there rfl (.there rfl (.there rfl (.here))))) (.cons (.there rfl (.there rfl (.there rfl (.there rfl (.there rfl (.here)))))) (.cons (.there rfl (.there rfl (.there rfl (.there rfl (.there rfl (.there rfl (.here))))))) (.cons (.there rfl (.there rfl (.there rfl (.there rfl (.there rfl (.there rfl (.there rfl (.here)))))))) (.cons (.there rfl (.there rfl (.there rfl (.there rfl (.there rfl (.there rfl (.there rfl (.there rfl (.here))))))))) (.cons (.there rfl (.there rfl (.there rfl (.there rfl (.there rfl (.there rfl (.there rfl (.there rfl (.there rfl (.here)))))))))) (.cons (.there rfl (.there rfl (.there rfl (.there rfl (.there rfl (.there rfl (.there rfl (.there rfl (.there rfl (.there rfl (.here))))))))))) (.cons (.here) .nil)))))))))) ?_
            refine wpC_block ?_
            refine wC_items hS (.t (.there rfl (.there rfl (.there rfl (.there rfl (.there rfl (.there rfl (.there rfl (.there rfl (.there rfl (.here))))))))))) hbf.x32 hbyx (fun i H => H1.Sub H ∧ H2.next < H.next ∧ H.get (H2.next) = some (.cells [.int .u32 x] true) ∧ ∃ mo : Nat, H.get H6.next = some (.cells [.int .u32 mo] true) ∧ mo < 4294967296 ∧ ∀ cc, cc < I.length → (mo.testBit cc = true ↔ ∃ j, j < i ∧ x.testBit j = true ∧ alike t I j cc = true)) (fun i Ha Hb ⟨e1, e0, e2, mo, e3, e4⟩ hx => ⟨e1.transX hx (by simp; omega), Nat.lt_of_lt_of_le e0 hx.next, hx.get _ _ (by simp; omega) e2, mo, hx.get _ _ (by simp; omega) e3, e4⟩) ⟨h17, by omega, g713, 0, g15, by decide, fun cc _ => by simp⟩ (fun i H _ hb ⟨e1, e0, e2, mo, e3, e4, e5⟩ => ⟨e1, e0, e2, mo, e3, e4, fun cc hcc => by rw [e5 cc hcc]; constructor; (rintro ⟨j, h1, h2, h3⟩; exact ⟨j, by omega, h2, h3⟩); (rintro ⟨j, h1, h2, h3⟩; exact ⟨j, by (rcases Nat.lt_or_ge j i with k | k; exact k; rw [show j = i by omega, hb] at h2; cases h2), h2, h3⟩)⟩) (fun i => [(9, .ptr (Ha.next) 0), (15, .ptr H6.next 0), (16, .int .i64 i)]) (fun _ _ => by refine wC_ops ?_; refine wI_mov (.t (.here)) ?_; refine wI_end (.cons (.there rfl (.there rfl (.there rfl (.there rfl (.there rfl (.here)))))) (.cons (.there rfl (.there rfl (.there rfl (.there rfl (.there rfl (.there rfl (.there rfl (.there rfl (.there rfl (.there rfl (.here))))))))))) (.cons (.here) .nil))) ?_; exact ⟨rfl, rfl, rfl⟩) [H6.next] (fun b hb => by simp at hb; omega) ?_ ?_
            · -- range body
              intro i H8 hiH8 hbH8 hIH8 hlH8
              obtain ⟨h18, hn8, g813, mo, g815, hmo32, hmob⟩ := hIH8
              have h18n := h18.next
              have g815l := AH.get_lt g815
              refine wpC_block ?_
              refine wC_ops ?_
              refine wI_load1 (.t (.there rfl (.here))) aGET rfl ?_
              refine wI_load1 (.t (.there rfl (.here))) aGET rfl ?_
              refine wI_nilCheck (.t (.here)) ?_
              refine wI_fieldAddr (.t (.here)) ?_
              refine wI_load1 (.t (.here)) aGET rfl ?_
              refine wI_mov (.t (.there rfl (.there rfl (.there rfl (.there rfl (.there rfl (.there rfl (.there rfl (.here))))))))) ?_
              have hiI : i < I.length := hll i ((hlR i).symm ▸ (hbf.reach i (.inr hbH8)).mem)
              refine wI_ixSets (.t (.there rfl (.here))) (hM.sets.mono aSUB) (.t (.here)) rfl (by rw [hM.len]; exact hiI) (fun bq oq pq => ?_)
              refine wI_ldc1 0 (.t (.here)) pq rfl ?_
              refine wI_sor (.t (.there rfl (.there rfl (.there rfl (.there rfl (.there rfl (.there rfl (.there rfl (.here))))))))) (.t (.here)) hmo32 (hM.bits i hiI).1 ?_
              first | refine wI_storeA (.t (.there rfl (.there rfl (.there rfl (.there rfl (.there rfl (.there rfl (.there rfl (.there rfl (.there rfl (.there rfl (.here)))))))))))) (.t (.here)) aGET rfl aBOX aRC ?_ | refine wI_store1 (.t (.there rfl (.there rfl (.there rfl (.there rfl (.there rfl (.there rfl (.there rfl (.there rfl (.there rfl (.there rfl (.here)))))))))))) (.t (.here)) aGET aONE aRC ?_
              refine wI_end .nil ?_
              refine ⟨aSUBX, ?_⟩
              refine ⟨aSUB, by (simp only [AH.next_put]; omega), aGET, _, aGET, Nat.or_lt_two_pow (n := 32) hmo32 (hM.bits i hiI).1, fun cc hcc => ?_⟩
              rw [Nat.testBit_or, Bool.or_eq_true, hmob cc hcc, (hM.bits i hiI).2]
              constructor
              · rintro (⟨j, h1, h2, h3⟩ | h)
                · exact ⟨j, by omega, h2, h3⟩
                · simp only [Bool.and_eq_true, decide_eq_true_eq] at h
                  exact ⟨i, by omega, hbH8, h.2⟩
              · rintro ⟨j, h1, h2, h3⟩
                rcases Nat.lt_or_ge j i with k | k
                · exact .inl ⟨j, k, h2, h3⟩
                · obtain rfl : j = i := by omega
                  exact .inr (by rw [Bool.and_eq_true]; exact ⟨decide_eq_true hcc, h3⟩)
            · -- behind the range
              intro H8e hIH8e
              obtain ⟨h18, hn8, g813, mo, g815, hmo32, hmob⟩ := hIH8e
              have h18n := h18.next
              have g813l := AH.get_lt g813
              refine wC_ops ?_
              refine wI_load1 (.t (.there rfl (.there rfl (.there rfl (.there rfl (.there rfl (.there rfl (.there rfl (.there rfl (.here)))))))))) aGET rfl ?_
              refine wI_mov (.t (.there rfl (.there rfl (.there rfl (.there rfl (.there rfl (.here))))))) ?_
              refine wI_sand (.t (.there rfl (.here))) (.t (.here)) hmo32 hl32 ?_
              refine wI_mov (.t (.there rfl (.there rfl (.there rfl (.there rfl (.there rfl (.there rfl (.there rfl (.there rfl (.there rfl (.here))))))))))) ?_
              refine wI_sdiff (.t (.there rfl (.here))) (.t (.here)) ?_
              first | refine wI_storeA (.t (.there rfl (.there rfl (.there rfl (.there rfl (.there rfl (.there rfl (.there rfl (.there rfl (.there rfl (.there rfl (.there rfl (.there rfl (.here)))))))))))))) (.t (.here)) aGET rfl aBOX aRC ?_ | refine wI_store1 (.t (.there rfl (.there rfl (.there rfl (.there rfl (.there rfl (.there rfl (.there rfl (.there rfl (.there rfl (.there rfl (.there rfl (.there rfl (.here)))))))))))))) (.t (.here)) aGET aONE aRC ?_
              refine wI_end (.cons (.there rfl (.there rfl (.there rfl (.there rfl (.there rfl (.here)))))) (.cons (.there rfl (.there rfl (.there rfl (.there rfl (.there rfl (.there rfl (.here))))))) (.cons (.there rfl (.there rfl (.there rfl (.there rfl (.there rfl (.there rfl (.there rfl (.here)))))))) (.cons (.there rfl (.there rfl (.there rfl (.there rfl (.there rfl (.there rfl (.there rfl (.there rfl (.here))))))))) (.cons (.there rfl (.there rfl (.there rfl (.there rfl (.there rfl (.there rfl (.there rfl (.there rfl (.there rfl (.here)))))))))) (.cons (.there rfl (.there rfl (.there rfl (.there rfl (.there rfl (.there rfl (.there rfl (.there rfl (.there rfl (.there rfl (.here))))))))))) (.cons (.there rfl (.there rfl (.there rfl (.there rfl (.there rfl (.there rfl (.there rfl (.there rfl (.there rfl (.there rfl (.there rfl (.here)))))))))))) (.cons (.there rfl (.there rfl (.there rfl (.there rfl (.there rfl (.there rfl (.there rfl (.there rfl (.there rfl (.there rfl (.there rfl (.there rfl (.here))))))))))))) .nil)))))))) ?_
              refine ⟨(p ||| x, sdiff (mo &&& left) (p ||| x)), (.cons (.here) (.cons (.there rfl (.here)) (.cons (.there rfl (.there rfl (.here))) (.cons (.there rfl (.there rfl (.there rfl (.here)))) (.cons (.there rfl (.there rfl (.there rfl (.there rfl (.here))))) (.cons (.there rfl (.there rfl (.there rfl (.there rfl (.there rfl (.here)))))) (.cons (.there rfl (.there rfl (.there rfl (.there rfl (.there rfl (.there rfl (.here))))))) (.cons (.there rfl (.there rfl (.there rfl (.there rfl (.there rfl (.there rfl (.there rfl (.here)))))))) .nil)))))))), ?_, ?_⟩
              · exact ⟨aSUB, by (simp only [AH.next_put]; omega), aGET, hbf.next (fun v => rfl) (fun cc hR => by rw [hmob cc (hll cc hR)]; constructor; (rintro ⟨j, h1, h2, h3⟩; exact ⟨j, h2, h3⟩); (rintro ⟨j, h2, h3⟩; exact ⟨j, tb_lt32 hbf.x32 h2, h2, h3⟩)) rfl hmo32⟩
              · exact hbf.less aOM
          · -- c15 False
            refine wpC_exit ?_
            refine wpC_seq ?_
            refine wC_ops ?_
            refine wI_alloc ?_
            first | refine wI_storeA (.t (.here)) .c aGET rfl aBOX aRC ?_ | refine wI_store1 (.t (.here)) .c aGET aONE aRC ?_
            refine wI_end (.cons (.there rfl (.here)) (.cons (.there rfl (.there rfl (.here))) (.cons (.there rfl (.there rfl (.there rfl (.here)))) (.cons (.there rfl (.there rfl (.there rfl (.there rfl (.here))))) (.cons (.there rfl (.there rfl (.there rfl (.there rfl (.there rfl (.here)))))) (.cons (.there rfl (.there rfl (.there rfl (.there rfl (.there rfl (.there rfl (.here))))))) (.cons (.there rfl (.there rfl (.there rfl (.there rfl (.there rfl (.there rfl (.there rfl (.here)))))))) (.cons (.here) .nil)))))))) ?_
            refine wpC_seq ?_
            refine wpC_seq ?_
            refine wC_ops ?_
            refine wI_mov (.t (.there rfl (.there rfl (.there rfl (.there rfl (.there rfl (.there rfl (.here)))))))) ?_
            refine wI_call (.cons (.t (.here)) .nil) (s78 hS _) ?_
            rintro _ H9 ⟨⟨bw, rfl, hbw, hbwx⟩, hs9⟩
            have hs9n := hs9.next
            have hbwl := AH.get_lt hbwx
            simp only [AH.next_new, AH.next_put] at hs9n hbw
            have g17 : H9.get H6.next = some (.cells [.int .i64 0] true) := aGET
            have h19 : H1.Sub H9 := aSUB
            refine wI_end (.cons (.there rfl (.there rfl (.here))) (.cons (.there rfl (.there rfl (.there rfl (.here)))) (.cons (.there rfl (.there rfl (.there rfl (.there rfl (.here))))) (.cons (.there rfl (.there rfl (.there rfl (.there rfl (.there rfl (.here)))))) (.cons (.there rfl (.there rfl (.there rfl (.there rfl (.there rfl (.there rfl (.here))))))) (.cons (.there rfl (.there rfl (.there rfl (.there rfl (.there rfl (.there rfl (.there rfl (.here)))))))) (.cons (.there rfl (.there rfl (.there rfl (.there rfl (.there rfl (.there rfl (.there rfl (.there rfl (.here))))))))) (.cons (.there rfl (.there rfl (.there rfl (.there rfl (.there rfl (.there rfl (.there rfl (.there rfl (.there rfl (.here)))))))))) (.cons (.here) .nil))))))))) ?_
            refine wpC_block ?_
            refine wC_items hS (.t (.there rfl (.there rfl (.there rfl (.there rfl (.there rfl (.there rfl (.there rfl (.there rfl (.here)))))))))) hbf.p32 hbwx (fun i H => H1.Sub H ∧ H.get H6.next = some (.cells [.int .i64 (cnt i (fun v => p.testBit v) : Nat)] true)) (fun i Ha Hb ⟨e1, e2⟩ hx => ⟨e1.transX hx (by simp; omega), hx.get _ _ (by simp; omega) e2⟩) ⟨h19, g17⟩ (fun i H _ hb ⟨e1, e2⟩ => ⟨e1, by rw [e2]; simp [cnt, hb]⟩) (fun i => [(90, .int .i64 i), (1, cv), (4, .int .i64 0), (5, .int .i64 0), (9, .ptr (Ha.next) 0), (10, .int .u32 left), (11, .int .i64 od), (12, .int .u32 p), (17, .ptr H6.next 0), (89, .fn 116 [.ptr bw 0])]) (fun _ _ => by refine wpC_skip ?_; exact ⟨rfl, rfl, rfl⟩) [H6.next] (fun b hb => by simp at hb; omega) ?_ ?_
            · -- range body
              intro i HA hiHA hbHA hIHA hlHA
              obtain ⟨h1A, gA⟩ := hIHA
              have h1An := h1A.next
              have gAl := AH.get_lt gA
              have hcA := cnt_le i (fun v => p.testBit v)
              refine wpC_block ?_
              refine wC_ops ?_
              refine wI_load1 (.t (.there rfl (.there rfl (.there rfl (.there rfl (.there rfl (.there rfl (.there rfl (.there rfl (.here)))))))))) aGET rfl ?_
              refine wI_add (.t (.here)) .c (wrap64 aOM) ?_
              first | refine wI_storeA (.t (.there rfl (.there rfl (.there rfl (.there rfl (.there rfl (.there rfl (.there rfl (.there rfl (.there rfl (.there rfl (.here)))))))))))) (.t (.here)) aGET rfl aBOX aRC ?_ | refine wI_store1 (.t (.there rfl (.there rfl (.there rfl (.there rfl (.there rfl (.there rfl (.there rfl (.there rfl (.there rfl (.there rfl (.here)))))))))))) (.t (.here)) aGET aONE aRC ?_
              refine wI_end .nil ?_
              refine ⟨aSUBX, ?_⟩
              exact ⟨aSUB, by rw [show cnt (i + 1) (fun v => p.testBit v) = cnt i (fun v => p.testBit v) + 1 by simp [cnt, hbHA]]; exact aGET⟩
            · -- behind the range
              intro HAe hIHAe
              obtain ⟨h1A, gA⟩ := hIHAe
              have h1An := h1A.next
              refine wpC_seq ?_
              refine wC_ops ?_
              refine wI_mov (.t (.there rfl (.there rfl (.there rfl (.there rfl (.there rfl (.here))))))) ?_
              refine wI_load1 (.t (.there rfl (.there rfl (.there rfl (.there rfl (.there rfl (.there rfl (.there rfl (.there rfl (.here)))))))))) aGET rfl ?_
              refine wI_rem (.t (.here)) .c (by decide) rfl ?_
              have htm : Int.tmod ((cnt 32 (fun v => p.testBit v) : Nat) : Int) 2 = ((cnt 32 (fun v => p.testBit v) % 2 : Nat) : Int) := by rw [Int.tmod_eq_emod_of_nonneg aOM]; omega
              rw [htm]
              have hm2 := Nat.mod_lt (cnt 32 (fun v => p.testBit v)) (show 0 < 2 by decide)
              refine wI_add (.t (.there rfl (.there rfl (.here)))) (.t (.here)) (wrap64 aOM) ?_
              refine wI_mov (.t (.here)) ?_
              refine wI_end (.cons (.there rfl (.there rfl (.there rfl (.there rfl (.there rfl (.here)))))) (.cons (.there rfl (.there rfl (.there rfl (.there rfl (.there rfl (.there rfl (.here))))))) (.cons (.there rfl (.there rfl (.there rfl (.there rfl (.there rfl (.there rfl (.there rfl (.here)))))))) (.cons (.there rfl (.there rfl (.there rfl (.there rfl (.there rfl (.there rfl (.there rfl (.there rfl (.here))))))))) (.cons (.there rfl (.there rfl (.there rfl (.there rfl (.there rfl (.there rfl (.there rfl (.there rfl (.there rfl (.here)))))))))) (.cons (.here) (.cons (.there rfl (.there rfl (.there rfl (.there rfl (.there rfl (.there rfl (.there rfl (.there rfl (.there rfl (.there rfl (.there rfl (.here)))))))))))) .nil))))))) ?_
              refine wC_ops ?_
              refine wI_mov (.t (.there rfl (.there rfl (.there rfl (.there rfl (.here)))))) ?_
              refine wI_mov (.t (.there rfl (.there rfl (.there rfl (.there rfl (.there rfl (.there rfl (.there rfl (.here))))))))) ?_
              refine wI_sdiff (.t (.there rfl (.here))) (.t (.here)) ?_
              refine wI_mov (.t (.here)) ?_
              refine wI_end (.cons (.there rfl (.there rfl (.there rfl (.there rfl (.here))))) (.cons (.there rfl (.there rfl (.there rfl (.there rfl (.there rfl (.here)))))) (.cons (.there rfl (.there rfl (.there rfl (.there rfl (.there rfl (.there rfl (.here))))))) (.cons (.there rfl (.there rfl (.there rfl (.there rfl (.there rfl (.there rfl (.there rfl (.here)))))))) (.cons (.here) (.cons (.there rfl (.there rfl (.there rfl (.there rfl (.there rfl (.there rfl (.there rfl (.there rfl (.there rfl (.here)))))))))) .nil)))))) ?_
              refine ⟨(sdiff left p, od + cnt 32 (fun v => p.testBit v) % 2), (.cons (.here) (.cons (.there rfl (.here)) (.cons (.there rfl (.there rfl (.here))) (.cons (.there rfl (.there rfl (.there rfl (.here)))) (.cons (.there rfl (.there rfl (.there rfl (.there rfl (.here))))) (.cons (.there rfl (.there rfl (.there rfl (.there rfl (.there rfl (.here)))))) .nil)))))), ?_, ?_⟩
              · obtain rfl : x = 0 := by omega
                have hpart := oc_part hl32 hll aOM hbH4 hlow hbf hoc
                have hocl := oc_le (alike t I) I.length (leftB I.length c)
                exact ⟨aSUB, sdiff_lt _ _, fun v hv => hll v (by rw [sdiff_testBit hl32, Bool.and_eq_true] at hv; exact hv.1), by omega, hpart⟩
              · exact cnt_sdiff_lt hl32 hbH4 (by have := hbf.root; rw [show x = 0 by omega] at this; simpa using this)
        · -- behind the range
          intro H4e hIH4e
          exfalso
          obtain ⟨v, hv⟩ := tb_nonzero (show left ≠ 0 by omega)
          have hz := hIH4e.2.2 v (tb_lt32 hl32 hv)
          rw [hv] at hz
          cases hz --done
      · -- c12 False
        refine wpC_exit ?_
        refine wpC_seq ?_
        refine wC_ops ?_
        refine wI_load1 (.t (.there rfl (.there rfl (.there rfl (.here))))) aGET rfl ?_
        refine wI_nilCheck (.t (.here)) ?_
        refine wI_fieldAddr (.t (.here)) ?_
        refine wI_load1 (.t (.here)) aGET rfl ?_
        refine wI_mov (.t (.there rfl (.there rfl (.there rfl (.there rfl (.here)))))) ?_
        refine wI_lenSl (.t (.here)) aLEN ?_
        refine wI_add (.t (.there rfl (.there rfl (.here)))) (.t (.here)) (wrap64 aOM) ?_
        refine wI_mov (.t (.there rfl (.there rfl (.there rfl (.there rfl (.there rfl (.there rfl (.there rfl (.there rfl (.there rfl (.there rfl (.there rfl (.there rfl (.here)))))))))))))) ?_
        refine wI_sub (.t (.there rfl (.here))) (.t (.here)) (wrap64 aOM) ?_
        have hocl := oc_le (alike t I) I.length (leftB I.length c)
        refine wI_quo (.t (.here)) .c (by decide) (wrap64 (tdiv2_range aOM)) ?_
        refine wI_mov (.t (.here)) ?_
        refine wI_mov .c ?_
        refine wI_end (.cons (.there rfl (.here)) (.cons (.here) .nil)) ?_
        refine wpC_ret (ret2 (.here) (.there rfl (.here)) ?_)
        refine ⟨?_, aSUB⟩
        unfold boundS
        first
          | (rw [if_neg (by assumption)]; done)
          | (rw [if_pos hck, show cutS I.length c = 7 from hq.trans (cutE_7 aOM (by (try simp only [decide_eq_true_eq, decide_eq_false_iff_not, Bool.not_eq_true', Bool.not_eq_false', Bool.not_eq_true, Bool.not_eq_false] at *) <;> (first | assumption | omega))), if_neg (by decide)]; done)
          | (rw [if_pos hck, show cutS I.length c = 11 from hq.trans (cutE_11 aOM (by (try simp only [decide_eq_true_eq, decide_eq_false_iff_not, Bool.not_eq_true', Bool.not_eq_false', Bool.not_eq_true, Bool.not_eq_false] at *) <;> (first | assumption | omega)) (by (try simp only [decide_eq_true_eq, decide_eq_false_iff_not, Bool.not_eq_true', Bool.not_eq_false', Bool.not_eq_true, Bool.not_eq_false] at *) <;> (first | assumption | omega))), if_neg (by decide)]; done)
          | (rw [if_pos hck, if_pos hE]
             have hl0 : left = 0 := by omega
             rw [hl0, oc_empty (fun v _ => by simp), Nat.add_zero] at hoc
             simp only [boundV, hoc])
end Wk
