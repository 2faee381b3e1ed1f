/- A part of the proof: WalkA. It holds for whatever its statements name; no condition beyond theirs. -/
import Derived.Test.YtllbpnmhoblkgaaDoorAmI
import Derived.Test.YtllbpnmhoblkgaaDoorCodeA
namespace Wk
open Go Am DC Sp
variable {T : Tab} {H0 : AH}

theorem s68 (hT : Ext fns1 T) (n lo hi : Int) :
    wpF T (.fn 68 []) [.int .i64 n, .int .i64 lo, .int .i64 hi] H0 (fun r H => r = .bool (decide (lo ≤ n ∧ n ≤ hi)) ∧ H = H0) := by
  refine wF hT (af := A68) rfl ?_
  refine wpC_seq ?_
  refine wC_ops ?_
  refine wI_mov .c ?_
  refine wI_end (.cons (.there rfl (.here)) (.cons (.there rfl (.there rfl (.here))) (.cons (.there rfl (.there rfl (.there rfl (.here)))) .nil))) ?_
  refine wpC_seq ?_
  refine wC_ops ?_
  refine wI_mov (.t (.there rfl (.here))) ?_
  refine wI_mov (.t (.there rfl (.here))) ?_
  refine wI_leq (.t (.there rfl (.here))) (.t (.here)) ?_
  refine wI_mov (.t (.here)) ?_
  refine wI_gdT (.here) (fun g1 => ?_) (fun g1 => ?_)
  · -- g1 True
    refine wI_mov (.t (.there rfl (.there rfl (.there rfl (.there rfl (.here)))))) ?_
    refine wI_yes (.there rfl (.here)) g1 ?_
    refine wI_mov (.t (.there rfl (.there rfl (.there rfl (.there rfl (.there rfl (.there rfl (.there rfl (.here))))))))) ?_
    refine wI_yes (.there rfl (.there rfl (.here))) g1 ?_
    refine wI_leq (.t (.there rfl (.here))) (.t (.here)) ?_
    refine wI_pickT (.t (.there rfl (.there rfl (.there rfl (.here))))) g1 (.t (.here)) ?_
    refine wI_mov (.t (.here)) ?_
    refine wI_end (.cons (.here) .nil) ?_
    refine wpC_ret (ret1 (.here) ?_)
    refine ⟨?_, rfl⟩
    congr 1
    first | (simp_all; done) | (simp_all; omega)
  · -- g1 False
    refine wI_no (.there rfl (.here)) (by rw [g1]; decide) ?_
    refine wI_no (.there rfl (.there rfl (.here))) (by rw [g1]; decide) ?_
    refine wI_pickF (.t (.there rfl (.there rfl (.there rfl (.here))))) g1 .c ?_
    refine wI_mov (.t (.here)) ?_
    refine wI_end (.cons (.here) .nil) ?_
    refine wpC_ret (ret1 (.here) ?_)
    refine ⟨?_, rfl⟩
    congr 1
    first | (simp_all; done) | (simp_all; omega)

theorem s69 (hT : Ext fns1 T) (n lo hi : Int) :
    wpF T (.fn 69 []) [.int .i64 n, .int .i64 lo, .int .i64 hi] H0 (fun r H => r = .bool (decide (lo ≤ n ∧ n ≤ hi)) ∧ H = H0) := by
  refine wF hT (af := A69) rfl ?_
  refine wpC_seq ?_
  refine wC_ops ?_
  refine wI_mov .c ?_
  refine wI_end (.cons (.there rfl (.here)) (.cons (.there rfl (.there rfl (.here))) (.cons (.there rfl (.there rfl (.there rfl (.here)))) .nil))) ?_
  refine wpC_seq ?_
  refine wC_ops ?_
  refine wI_mov (.t (.here)) ?_
  refine wI_mov (.t (.there rfl (.there rfl (.here)))) ?_
  refine wI_geq (.t (.there rfl (.here))) (.t (.here)) ?_
  refine wI_mov (.t (.here)) ?_
  refine wI_gdT (.here) (fun g1 => ?_) (fun g1 => ?_)
  · -- g1 True
    refine wI_mov (.t (.there rfl (.there rfl (.there rfl (.there rfl (.here)))))) ?_
    refine wI_yes (.there rfl (.here)) g1 ?_
    refine wI_mov (.t (.there rfl (.there rfl (.there rfl (.there rfl (.there rfl (.there rfl (.there rfl (.here))))))))) ?_
    refine wI_yes (.there rfl (.there rfl (.here))) g1 ?_
    refine wI_leq (.t (.there rfl (.here))) (.t (.here)) ?_
    refine wI_pickT (.t (.there rfl (.there rfl (.there rfl (.here))))) g1 (.t (.here)) ?_
    refine wI_mov (.t (.here)) ?_
    refine wI_end (.cons (.here) .nil) ?_
    refine wpC_ret (ret1 (.here) ?_)
    refine ⟨?_, rfl⟩
    congr 1
    first | (simp_all; done) | (simp_all; omega)
  · -- g1 False
    refine wI_no (.there rfl (.here)) (by rw [g1]; decide) ?_
    refine wI_no (.there rfl (.there rfl (.here))) (by rw [g1]; decide) ?_
    refine wI_pickF (.t (.there rfl (.there rfl (.there rfl (.here))))) g1 .c ?_
    refine wI_mov (.t (.here)) ?_
    refine wI_end (.cons (.here) .nil) ?_
    refine wpC_ret (ret1 (.here) ?_)
    refine ⟨?_, rfl⟩
    congr 1
    first | (simp_all; done) | (simp_all; omega)

theorem s67 (hT : Ext fns1 T) (n : Int) :
    wpF T (.fn 67 []) [.int .i64 n] H0 (fun r H => r = .bool (!okTol n) ∧ H = H0) := by
  refine wF hT (af := A67) rfl ?_
  refine wpC_seq ?_
  refine wC_ops ?_
  refine wI_mov .c ?_
  refine wI_end (.cons (.there rfl (.here)) .nil) ?_
  refine wpC_seq ?_
  refine wC_ops ?_
  refine wI_mov (.t (.here)) ?_
  refine wI_call (.cons (.t (.here)) (.cons .c (.cons .c .nil))) (s68 hT _ _ _) ?_
  rintro _ _ ⟨rfl, heq1⟩
  obtain rfl := heq1.symm
  refine wI_not (.t (.here)) ?_
  refine wI_mov (.t (.here)) ?_
  refine wI_end (.cons (.here) .nil) ?_
  refine wpC_ret (ret1 (.here) ?_)
  exact ⟨rfl, rfl⟩

theorem s114 (hT : Ext fns1 T) {v g : AV} {l : List Int} (hv : Ints H0 v l) (p : Int → Bool) (hl : l.length < 9223372036854775808) (hg : ∀ n H, H0.Sub H → wpF T g [.int .i64 n] H fun r H' => r = .bool (p n) ∧ H.Sub H') :
    wpF T (.fn 114 []) [v, g] H0 (fun r H => r = .int .i64 (idxf p l) ∧ H0.Sub H) := by
  refine wF hT (af := A114) rfl ?_
  refine wpC_seq ?_
  refine wC_ops ?_
  refine wI_mov .c ?_
  refine wI_end (.cons (.there rfl (.here)) (.cons (.there rfl (.there rfl (.here))) .nil)) ?_
  refine wpC_seq ?_
  refine wpC_seq ?_
  refine wC_ops ?_
  refine wI_mov (.t (.here)) ?_
  refine wI_lenSl (.t (.here)) aLEN ?_
  refine wI_mov .c ?_
  refine wI_end (.cons (.there rfl (.there rfl (.there rfl (.here)))) (.cons (.there rfl (.there rfl (.there rfl (.there rfl (.here))))) (.cons (.there rfl (.here)) (.cons (.here) .nil)))) ?_
  refine wpC_block ?_
  refine wC_loop (α := Nat) (fun i => [(0, v), (1, g), (7, .int .i64 l.length), (8, .int .i64 i)]) (fun i H => H0.Sub H ∧ i ≤ l.length ∧ ∀ j, j < i → p (l.getD j 0) = false) (fun i => l.length - i) 0 (.cons (.here) (.cons (.there rfl (.here)) (.cons (.there rfl (.there rfl (.here))) (.cons (.there rfl (.there rfl (.there rfl (.here)))) .nil)))) ?_ ?_
  · exact ⟨aSUB, by omega, fun j hj => by omega⟩
  rintro i H1 ⟨hs, hi, hp⟩
  refine wpC_seq ?_
  refine wC_ops ?_
  refine wI_lss (.t (.there rfl (.there rfl (.there rfl (.here))))) (.t (.there rfl (.there rfl (.here)))) ?_
  refine wI_end (.cons (.there rfl (.here)) (.cons (.there rfl (.there rfl (.here))) (.cons (.there rfl (.there rfl (.there rfl (.here)))) (.cons (.there rfl (.there rfl (.there rfl (.there rfl (.here))))) (.cons (.here) .nil))))) ?_
  refine wpC_seq ?_
  refine wC_if (.t (.there rfl (.there rfl (.there rfl (.there rfl (.here)))))) (fun c1 => ?_) (fun c1 => ?_)
  · -- c1 True
    refine wpC_skip ?_
    refine wpC_seq ?_
    refine wpC_block ?_
    refine wpC_seq ?_
    refine wC_ops ?_
    refine wI_mov (.t (.there rfl (.there rfl (.there rfl (.here))))) ?_
    refine wI_mov (.t (.here)) ?_
    refine wI_end (.cons (.there rfl (.there rfl (.here))) (.cons (.there rfl (.there rfl (.there rfl (.here)))) (.cons (.here) (.cons (.there rfl (.there rfl (.there rfl (.there rfl (.here))))) (.cons (.there rfl (.there rfl (.there rfl (.there rfl (.there rfl (.here)))))) .nil))))) ?_
    refine wpC_seq ?_
    refine wC_ops ?_
    refine wI_mov (.t (.there rfl (.here))) ?_
    refine wI_mov (.t (.there rfl (.here))) ?_
    refine wI_mov (.t (.there rfl (.there rfl (.there rfl (.there rfl (.here)))))) ?_
    first | refine wI_ixInts (.t (.there rfl (.here))) aATI (.t (.here)) rfl aOM (fun b2 o2 p2 => ?_) | refine wI_ixVals (.t (.there rfl (.here))) aATI (.t (.here)) rfl aOM (fun b2 o2 p2 => ?_) | refine wI_ixBools (.t (.there rfl (.here))) aATI (.t (.here)) rfl aOM (fun b2 o2 p2 => ?_)
    refine wI_ldc1 0 (.t (.here)) (by first | exact p2 | exact Cells.mono p2 aSUB) rfl ?_
    refine wI_callv (.t (.there rfl (.there rfl (.there rfl (.there rfl (.here)))))) (.cons (.t (.here)) .nil) (hg _ _ aSUB) ?_
    rintro _ H3 ⟨rfl, hs3⟩
    have hsn3 := hs3.next
    refine wI_end (.cons (.there rfl (.there rfl (.there rfl (.there rfl (.there rfl (.there rfl (.here))))))) (.cons (.there rfl (.there rfl (.there rfl (.there rfl (.there rfl (.there rfl (.there rfl (.here)))))))) (.cons (.there rfl (.there rfl (.there rfl (.there rfl (.there rfl (.there rfl (.there rfl (.there rfl (.here))))))))) (.cons (.there rfl (.there rfl (.there rfl (.there rfl (.there rfl (.there rfl (.there rfl (.there rfl (.there rfl (.here)))))))))) (.cons (.there rfl (.there rfl (.there rfl (.there rfl (.there rfl (.there rfl (.there rfl (.there rfl (.there rfl (.there rfl (.here))))))))))) (.cons (.here) .nil)))))) ?_
    refine wC_cond (.t (.there rfl (.there rfl (.there rfl (.there rfl (.there rfl (.here))))))) (fun c4 => ?_) (fun c4 => ?_)
    · -- c4 True
      refine wpC_seq ?_
      refine wC_ops ?_
      refine wI_mov (.t (.there rfl (.there rfl (.here)))) ?_
      refine wI_mov (.t (.here)) ?_
      refine wI_end (.cons (.here) .nil) ?_
      refine wpC_ret (ret1 (.here) ?_)
      first | exact ⟨by rw [idxf_none p l 0 (fun j hj => hp j aOM)], aSUB⟩ | exact ⟨by rw [idxf_some p l 0 i aOM hp (by assumption)], aSUB⟩
    · -- c4 False
      refine wpC_skip ?_
      refine wC_ops ?_
      refine wI_add (.t (.there rfl (.there rfl (.there rfl (.there rfl (.here)))))) .c (wrap64 aOM) ?_
      refine wI_mov (.t (.here)) ?_
      refine wI_end (.cons (.there rfl (.there rfl (.here))) (.cons (.there rfl (.there rfl (.there rfl (.here)))) (.cons (.there rfl (.there rfl (.there rfl (.there rfl (.there rfl (.here)))))) (.cons (.here) .nil)))) ?_
      refine ⟨i + 1, (.cons (.here) (.cons (.there rfl (.here)) (.cons (.there rfl (.there rfl (.here))) (.cons (.there rfl (.there rfl (.there rfl (.here)))) .nil)))), ?_, ?_⟩
      · exact ⟨aSUB, by omega, fun j hj => by rcases Nat.lt_or_ge j i with c | c; exact hp j c; rw [show j = i by omega]; exact ‹p (l.getD i 0) = false›⟩
      · (first | omega | (simp only []; omega))
  · -- c1 False
    refine wpC_exit ?_
    refine wpC_seq ?_
    refine wC_ops ?_
    refine wI_mov .c ?_
    refine wI_end (.cons (.here) .nil) ?_
    refine wpC_ret (ret1 (.here) ?_)
    first | exact ⟨by rw [idxf_none p l 0 (fun j hj => hp j aOM)], aSUB⟩ | exact ⟨by rw [idxf_some p l 0 i aOM hp (by assumption)], aSUB⟩

theorem s66 (hT : Ext fns1 T) {v g : AV} {l : List Int} (hv : Ints H0 v l) (p : Int → Bool) (hl : l.length < 9223372036854775808) (hg : ∀ n H, H0.Sub H → wpF T g [.int .i64 n] H fun r H' => r = .bool (p n) ∧ H.Sub H') :
    wpF T (.fn 66 []) [v, g] H0 (fun r H => r = .bool (l.any p) ∧ H0.Sub H) := by
  refine wF hT (af := A66) rfl ?_
  refine wpC_seq ?_
  refine wC_ops ?_
  refine wI_mov .c ?_
  refine wI_end (.cons (.there rfl (.here)) (.cons (.there rfl (.there rfl (.here))) .nil)) ?_
  refine wpC_seq ?_
  refine wC_ops ?_
  refine wI_mov (.t (.here)) ?_
  refine wI_mov (.t (.there rfl (.there rfl (.here)))) ?_
  refine wI_call (.cons (.t (.there rfl (.here))) (.cons (.t (.here)) .nil)) (s114 hT aATI p hl (fun n H hs => hg n H (AH.Sub.trans aSUB hs))) ?_
  rintro _ H1 ⟨rfl, hs1⟩
  have hsn1 := hs1.next
  refine wI_geq (.t (.here)) .c ?_
  refine wI_mov (.t (.here)) ?_
  refine wI_end (.cons (.here) .nil) ?_
  refine wpC_ret (ret1 (.here) ?_)
  exact ⟨by rw [idxf_nonneg], aSUB⟩

theorem s20 (hT : Ext fns1 T) {a b : AV} {t : List Int} {I : List (List Rng)} {vs : List AV} (hS : SortAt H0 a b t I vs) :
    wpF T (.fn 20 []) [.agg [a, b]] H0 (fun r H => r = .int .i64 (check t I) ∧ H0.Sub H) := by
  refine wF hT (af := A20) rfl ?_
  obtain ⟨ht, hv, hn, hI, hm1, hm2, hm3⟩ := hS
  refine wpC_seq ?_
  refine wC_ops ?_
  refine wI_box (.t (.here)) aBOX ?_
  refine wI_mov .c ?_
  refine wI_end (.cons (.there rfl (.here)) .nil) ?_
  refine wpC_seq ?_
  refine wpC_block ?_
  refine wpC_seq ?_
  refine wC_ops ?_
  refine wI_fieldAddr (.t (.here)) ?_
  refine wI_load1 (.t (.here)) aGET rfl ?_
  refine wI_lenSl (.t (.here)) aLEN ?_
  refine wI_eqI (.t (.here)) .c ?_
  refine wI_mov (.t (.here)) ?_
  refine wI_end (.cons (.there rfl (.there rfl (.there rfl (.there rfl (.there rfl (.here)))))) (.cons (.here) .nil)) ?_
  refine wC_if (.t (.there rfl (.here))) (fun c1 => ?_) (fun c1 => ?_)
  · -- c1 True
    refine wpC_seq ?_
    refine wC_ops ?_
    refine wI_mov .c ?_
    refine wI_end (.cons (.here) .nil) ?_
    refine wpC_ret (ret1 (.here) ?_)
    refine ⟨?_, aSUB⟩
    congr 1
    first | (rw [hck, hq, show i = I.length by omega]; simp only [List.drop_length, chkItems]; done) | (rw [hck, hq, hd, ci_form aOM]; done) | (rw [hck, hq, hd, ci_bad (v := 11) aOM (hq2.trans (by rw [hd2]; exact cr_11 (by assumption))) (by decide)]; done) | (rw [hck, hq, hd, ci_bad (v := 2) aOM (hq2.trans (by rw [hd2]; exact cr_2 (by assumption) (by first | exact .inl aSIMPL | exact .inr aSIMPL))) (by decide)]; done) | (unfold check; (repeat' split) <;> first | rfl | omega | (simp_all; done))
  · -- c1 False
    refine wpC_seq ?_
    refine wC_ops ?_
    refine wI_fieldAddr (.t (.here)) ?_
    refine wI_load1 (.t (.here)) aGET rfl ?_
    refine wI_lenSl (.t (.here)) aLEN ?_
    refine wI_gtr (.t (.here)) .c ?_
    refine wI_mov (.t (.here)) ?_
    refine wI_end (.cons (.there rfl (.there rfl (.there rfl (.there rfl (.there rfl (.here)))))) (.cons (.here) .nil)) ?_
    refine wC_if (.t (.there rfl (.here))) (fun c2 => ?_) (fun c2 => ?_)
    · -- c2 True
      refine wpC_seq ?_
      refine wC_ops ?_
      refine wI_mov .c ?_
      refine wI_end (.cons (.here) .nil) ?_
      refine wpC_ret (ret1 (.here) ?_)
      refine ⟨?_, aSUB⟩
      congr 1
      first | (rw [hck, hq, show i = I.length by omega]; simp only [List.drop_length, chkItems]; done) | (rw [hck, hq, hd, ci_form aOM]; done) | (rw [hck, hq, hd, ci_bad (v := 11) aOM (hq2.trans (by rw [hd2]; exact cr_11 (by assumption))) (by decide)]; done) | (rw [hck, hq, hd, ci_bad (v := 2) aOM (hq2.trans (by rw [hd2]; exact cr_2 (by assumption) (by first | exact .inl aSIMPL | exact .inr aSIMPL))) (by decide)]; done) | (unfold check; (repeat' split) <;> first | rfl | omega | (simp_all; done))
    · -- c2 False
      refine wpC_seq ?_
      refine wC_ops ?_
      refine wI_fieldAddr (.t (.here)) ?_
      refine wI_load1 (.t (.here)) aGET rfl ?_
      refine wI_call (.cons (.t (.here)) (.cons .c .nil)) (s66 hT aATI (fun x => !okTol x) aOM (fun n H hs => wpF_mono (s67 hT n) (by rintro _ _ ⟨rfl, rfl⟩; exact ⟨rfl, AH.Sub.refl _⟩))) ?_
      rintro _ H3 ⟨rfl, hs3⟩
      have hsn3 := hs3.next
      refine wI_mov (.t (.here)) ?_
      refine wI_end (.cons (.there rfl (.there rfl (.there rfl (.there rfl (.here))))) (.cons (.here) .nil)) ?_
      refine wC_cond (.t (.there rfl (.here))) (fun c4 => ?_) (fun c4 => ?_)
      · -- c4 True
        refine wpC_seq ?_
        refine wC_ops ?_
        refine wI_mov .c ?_
        refine wI_end (.cons (.here) .nil) ?_
        refine wpC_ret (ret1 (.here) ?_)
        refine ⟨?_, aSUB⟩
        congr 1
        first | (rw [hck, hq, show i = I.length by omega]; simp only [List.drop_length, chkItems]; done) | (rw [hck, hq, hd, ci_form aOM]; done) | (rw [hck, hq, hd, ci_bad (v := 11) aOM (hq2.trans (by rw [hd2]; exact cr_11 (by assumption))) (by decide)]; done) | (rw [hck, hq, hd, ci_bad (v := 2) aOM (hq2.trans (by rw [hd2]; exact cr_2 (by assumption) (by first | exact .inl aSIMPL | exact .inr aSIMPL))) (by decide)]; done) | (unfold check; (repeat' split) <;> first | rfl | omega | (simp_all; done))
      · -- c4 False
        refine wpC_seq ?_
        refine wC_ops ?_
        refine wI_fieldAddr (.t (.here)) ?_
        refine wI_load1 (.t (.here)) aGET rfl ?_
        refine wI_lenSl (.t (.here)) aLEN ?_
        refine wI_gtr (.t (.here)) .c ?_
        refine wI_mov (.t (.here)) ?_
        refine wI_end (.cons (.there rfl (.there rfl (.there rfl (.there rfl (.there rfl (.here)))))) (.cons (.here) .nil)) ?_
        refine wC_if (.t (.there rfl (.here))) (fun c5 => ?_) (fun c5 => ?_)
        · -- c5 True
          refine wpC_seq ?_
          refine wC_ops ?_
          refine wI_mov .c ?_
          refine wI_end (.cons (.here) .nil) ?_
          refine wpC_ret (ret1 (.here) ?_)
          refine ⟨?_, aSUB⟩
          congr 1
          first | (rw [hck, hq, show i = I.length by omega]; simp only [List.drop_length, chkItems]; done) | (rw [hck, hq, hd, ci_form aOM]; done) | (rw [hck, hq, hd, ci_bad (v := 11) aOM (hq2.trans (by rw [hd2]; exact cr_11 (by assumption))) (by decide)]; done) | (rw [hck, hq, hd, ci_bad (v := 2) aOM (hq2.trans (by rw [hd2]; exact cr_2 (by assumption) (by first | exact .inl aSIMPL | exact .inr aSIMPL))) (by decide)]; done) | (unfold check; (repeat' split) <;> first | rfl | omega | (simp_all; done))
        · -- c5 False
          refine wpC_skip ?_
          refine wpC_seq ?_
          refine wpC_seq ?_
          refine wC_ops ?_
          have hck : check t I = chkItems t.length I := by
            unfold check; (repeat' split) <;> first | rfl | omega | (simp_all; done)
          refine wI_fieldAddr (.t (.here)) ?_
          refine wI_load1 (.t (.here)) aGET rfl ?_
          refine wI_lenSl (.t (.here)) aLEN ?_
          refine wI_mov .c ?_
          refine wI_end (.cons (.there rfl (.there rfl (.there rfl (.there rfl (.here))))) (.cons (.there rfl (.there rfl (.here))) (.cons (.there rfl (.here)) (.cons (.here) .nil)))) ?_
          refine wpC_block ?_
          refine wC_loop (α := Nat) (fun i => [(1, .ptr H0.next 0), (27, b), (28, .int .i64 vs.length), (29, .int .i64 i)]) (fun i H => H0.Sub H ∧ H.get H0.next = some (.cells [a, b] true) ∧ i ≤ vs.length ∧ chkItems t.length I = chkItems t.length (I.drop i)) (fun i => vs.length - i) 0 (.cons (.here) (.cons (.there rfl (.here)) (.cons (.there rfl (.there rfl (.here))) (.cons (.there rfl (.there rfl (.there rfl (.here)))) .nil)))) ?_ ?_
          · exact ⟨aSUB, aGET, by omega, rfl⟩
          rintro i H1 ⟨hs, hb, hi, hq⟩
          have hsn := hs.next
          refine wpC_seq ?_
          refine wC_ops ?_
          refine wI_lss (.t (.there rfl (.there rfl (.there rfl (.here))))) (.t (.there rfl (.there rfl (.here)))) ?_
          refine wI_end (.cons (.there rfl (.here)) (.cons (.there rfl (.there rfl (.here))) (.cons (.there rfl (.there rfl (.there rfl (.here)))) (.cons (.there rfl (.there rfl (.there rfl (.there rfl (.here))))) (.cons (.here) .nil))))) ?_
          refine wpC_seq ?_
          refine wC_if (.t (.there rfl (.there rfl (.there rfl (.there rfl (.here)))))) (fun c6 => ?_) (fun c6 => ?_)
          · -- c6 True
            refine wpC_skip ?_
            refine wpC_seq ?_
            refine wpC_block ?_
            refine wpC_seq ?_
            refine wC_ops ?_
            have hr := hI i aOM
            have hl3 := hm3 i
            have hd := drop_cons I i [] aOM
            first | refine wI_ixInts (.t (.there rfl (.here))) aATI (.t (.there rfl (.there rfl (.there rfl (.here))))) rfl aOM (fun b7 o7 p7 => ?_) | refine wI_ixVals (.t (.there rfl (.here))) aATI (.t (.there rfl (.there rfl (.there rfl (.here))))) rfl aOM (fun b7 o7 p7 => ?_) | refine wI_ixBools (.t (.there rfl (.here))) aATI (.t (.there rfl (.there rfl (.there rfl (.here))))) rfl aOM (fun b7 o7 p7 => ?_)
            refine wI_ldc1 0 (.t (.here)) (by first | exact p7 | exact Cells.mono p7 aSUB) rfl ?_
            refine wI_mov (.t (.here)) ?_
            refine wI_end (.cons (.there rfl (.there rfl (.there rfl (.here)))) (.cons (.here) (.cons (.there rfl (.there rfl (.there rfl (.there rfl (.here))))) (.cons (.there rfl (.there rfl (.there rfl (.there rfl (.there rfl (.here)))))) (.cons (.there rfl (.there rfl (.there rfl (.there rfl (.there rfl (.there rfl (.here))))))) .nil))))) ?_
            refine wpC_seq ?_
            refine wpC_seq ?_
            refine wC_ops ?_
            refine wI_mov (.t (.there rfl (.here))) ?_
            refine wI_lenSl (.t (.here)) aLEN ?_
            refine wI_fieldAddr (.t (.there rfl (.there rfl (.here)))) ?_
            refine wI_load1 (.t (.here)) aGET rfl ?_
            refine wI_lenSl (.t (.here)) aLEN ?_
            refine wI_neI (.t (.there rfl (.there rfl (.there rfl (.here))))) (.t (.here)) ?_
            refine wI_end (.cons (.there rfl (.there rfl (.there rfl (.there rfl (.there rfl (.there rfl (.here))))))) (.cons (.there rfl (.there rfl (.there rfl (.there rfl (.there rfl (.there rfl (.there rfl (.here)))))))) (.cons (.there rfl (.there rfl (.there rfl (.there rfl (.there rfl (.there rfl (.there rfl (.there rfl (.here))))))))) (.cons (.there rfl (.there rfl (.there rfl (.there rfl (.there rfl (.there rfl (.there rfl (.there rfl (.there rfl (.here)))))))))) (.cons (.there rfl (.there rfl (.there rfl (.there rfl (.there rfl (.there rfl (.there rfl (.there rfl (.there rfl (.there rfl (.here))))))))))) (.cons (.here) .nil)))))) ?_
            refine wC_if (.t (.there rfl (.there rfl (.there rfl (.there rfl (.there rfl (.here))))))) (fun c8 => ?_) (fun c8 => ?_)
            · -- c8 True
              refine wpC_seq ?_
              refine wC_ops ?_
              refine wI_mov .c ?_
              refine wI_end (.cons (.here) .nil) ?_
              refine wpC_ret (ret1 (.here) ?_)
              refine ⟨?_, aSUB⟩
              congr 1
              first | (rw [hck, hq, show i = I.length by omega]; simp only [List.drop_length, chkItems]; done) | (rw [hck, hq, hd, ci_form aOM]; done) | (rw [hck, hq, hd, ci_bad (v := 11) aOM (hq2.trans (by rw [hd2]; exact cr_11 (by assumption))) (by decide)]; done) | (rw [hck, hq, hd, ci_bad (v := 2) aOM (hq2.trans (by rw [hd2]; exact cr_2 (by assumption) (by first | exact .inl aSIMPL | exact .inr aSIMPL))) (by decide)]; done) | (unfold check; (repeat' split) <;> first | rfl | omega | (simp_all; done))
            · -- c8 False
              refine wpC_skip ?_
              refine wpC_seq ?_
              refine wC_ops ?_
              refine wI_mov (.t (.there rfl (.here))) ?_
              refine wI_lenSl (.t (.here)) aLEN ?_
              refine wI_mov .c ?_
              refine wI_end (.cons (.there rfl (.there rfl (.there rfl (.here)))) (.cons (.there rfl (.there rfl (.there rfl (.there rfl (.there rfl (.here)))))) (.cons (.there rfl (.there rfl (.there rfl (.there rfl (.there rfl (.there rfl (.here))))))) (.cons (.there rfl (.there rfl (.there rfl (.there rfl (.there rfl (.there rfl (.there rfl (.here)))))))) (.cons (.there rfl (.there rfl (.here))) (.cons (.there rfl (.here)) (.cons (.here) .nil))))))) ?_
              refine wpC_block ?_
              refine wC_loop (α := Nat) (fun k => [(1, .ptr H0.next 0), (27, b), (28, .int .i64 vs.length), (29, .int .i64 i), (39, vs.getD i .junk), (40, .int .i64 (I.getD i []).length), (41, .int .i64 k)]) (fun k H => H0.Sub H ∧ H.get H0.next = some (.cells [a, b] true) ∧ k ≤ (I.getD i []).length ∧ chkRngs (I.getD i []) = chkRngs ((I.getD i []).drop k)) (fun k => (I.getD i []).length - k) 0 (.cons (.here) (.cons (.there rfl (.here)) (.cons (.there rfl (.there rfl (.here))) (.cons (.there rfl (.there rfl (.there rfl (.here)))) (.cons (.there rfl (.there rfl (.there rfl (.there rfl (.here))))) (.cons (.there rfl (.there rfl (.there rfl (.there rfl (.there rfl (.here)))))) (.cons (.there rfl (.there rfl (.there rfl (.there rfl (.there rfl (.there rfl (.here))))))) .nil))))))) ?_ ?_
              · exact ⟨aSUB, aGET, by omega, rfl⟩
              rintro k H2 ⟨hs2, hb2, hk, hq2⟩
              have hsn2 := hs2.next
              refine wpC_seq ?_
              refine wC_ops ?_
              refine wI_lss (.t (.there rfl (.there rfl (.there rfl (.there rfl (.there rfl (.there rfl (.here)))))))) (.t (.there rfl (.there rfl (.there rfl (.there rfl (.there rfl (.here))))))) ?_
              refine wI_end (.cons (.there rfl (.here)) (.cons (.there rfl (.there rfl (.here))) (.cons (.there rfl (.there rfl (.there rfl (.here)))) (.cons (.there rfl (.there rfl (.there rfl (.there rfl (.here))))) (.cons (.there rfl (.there rfl (.there rfl (.there rfl (.there rfl (.here)))))) (.cons (.there rfl (.there rfl (.there rfl (.there rfl (.there rfl (.there rfl (.here))))))) (.cons (.there rfl (.there rfl (.there rfl (.there rfl (.there rfl (.there rfl (.there rfl (.here)))))))) (.cons (.here) .nil)))))))) ?_
              refine wpC_seq ?_
              refine wC_if (.t (.there rfl (.there rfl (.there rfl (.there rfl (.there rfl (.there rfl (.there rfl (.here))))))))) (fun c9 => ?_) (fun c9 => ?_)
              · -- c9 True
                refine wpC_skip ?_
                refine wpC_seq ?_
                refine wpC_block ?_
                refine wpC_seq ?_
                refine wC_ops ?_
                have hd2 := drop_cons (I.getD i []) k (0, 0) aOM
                first | refine wI_ixRngs (.t (.there rfl (.there rfl (.there rfl (.there rfl (.here)))))) aATI (.t (.there rfl (.there rfl (.there rfl (.there rfl (.there rfl (.there rfl (.here)))))))) rfl aOM (fun b10 o10 p10 => ?_)
                refine wI_ldcN (.t (.here)) (by first | exact p10 | exact Cells.mono p10 aSUB) rfl ?_
                refine wI_alloc ?_
                first | refine wI_storeA (.t (.here)) (.t (.there rfl (.here))) aGET rfl aBOX aRC ?_ | refine wI_store1 (.t (.here)) (.t (.there rfl (.here))) aGET aONE aRC ?_
                refine wI_end (.cons (.there rfl (.there rfl (.there rfl (.here)))) (.cons (.here) (.cons (.there rfl (.there rfl (.there rfl (.there rfl (.here))))) (.cons (.there rfl (.there rfl (.there rfl (.there rfl (.there rfl (.here)))))) (.cons (.there rfl (.there rfl (.there rfl (.there rfl (.there rfl (.there rfl (.here))))))) (.cons (.there rfl (.there rfl (.there rfl (.there rfl (.there rfl (.there rfl (.there rfl (.here)))))))) (.cons (.there rfl (.there rfl (.there rfl (.there rfl (.there rfl (.there rfl (.there rfl (.there rfl (.here))))))))) (.cons (.there rfl (.there rfl (.there rfl (.there rfl (.there rfl (.there rfl (.there rfl (.there rfl (.there rfl (.here)))))))))) .nil)))))))) ?_
                refine wpC_block ?_
                refine wpC_seq ?_
                refine wC_ops ?_
                refine wI_fieldAddr (.t (.there rfl (.here))) ?_
                refine wI_load1 (.t (.here)) aGET rfl ?_
                refine wI_fieldAddr (.t (.there rfl (.there rfl (.there rfl (.here))))) ?_
                refine wI_load1 (.t (.here)) aGET rfl ?_
                refine wI_gtr (.t (.there rfl (.there rfl (.here)))) (.t (.here)) ?_
                refine wI_mov (.t (.here)) ?_
                refine wI_end (.cons (.there rfl (.there rfl (.there rfl (.there rfl (.there rfl (.there rfl (.here))))))) (.cons (.there rfl (.there rfl (.there rfl (.there rfl (.there rfl (.there rfl (.there rfl (.here)))))))) (.cons (.there rfl (.there rfl (.there rfl (.there rfl (.there rfl (.there rfl (.there rfl (.there rfl (.here))))))))) (.cons (.there rfl (.there rfl (.there rfl (.there rfl (.there rfl (.there rfl (.there rfl (.there rfl (.there rfl (.here)))))))))) (.cons (.there rfl (.there rfl (.there rfl (.there rfl (.there rfl (.there rfl (.there rfl (.there rfl (.there rfl (.there rfl (.here))))))))))) (.cons (.there rfl (.there rfl (.there rfl (.there rfl (.there rfl (.there rfl (.there rfl (.there rfl (.there rfl (.there rfl (.there rfl (.here)))))))))))) (.cons (.there rfl (.there rfl (.there rfl (.there rfl (.there rfl (.there rfl (.there rfl (.there rfl (.there rfl (.there rfl (.there rfl (.there rfl (.here))))))))))))) (.cons (.there rfl (.there rfl (.there rfl (.there rfl (.there rfl (.there rfl (.there rfl (.there rfl (.there rfl (.there rfl (.there rfl (.there rfl (.there rfl (.here)))))))))))))) (.cons (.here) .nil))))))))) ?_
                refine wC_if (.t (.there rfl (.there rfl (.there rfl (.there rfl (.there rfl (.there rfl (.there rfl (.there rfl (.here)))))))))) (fun c11 => ?_) (fun c11 => ?_)
                · -- c11 True
                  refine wpC_seq ?_
                  refine wC_ops ?_
                  refine wI_mov .c ?_
                  refine wI_end (.cons (.here) .nil) ?_
                  refine wpC_ret (ret1 (.here) ?_)
                  refine ⟨?_, aSUB⟩
                  congr 1
                  first | (rw [hck, hq, show i = I.length by omega]; simp only [List.drop_length, chkItems]; done) | (rw [hck, hq, hd, ci_form aOM]; done) | (rw [hck, hq, hd, ci_bad (v := 11) aOM (hq2.trans (by rw [hd2]; exact cr_11 (by assumption))) (by decide)]; done) | (rw [hck, hq, hd, ci_bad (v := 2) aOM (hq2.trans (by rw [hd2]; exact cr_2 (by assumption) (by first | exact .inl aSIMPL | exact .inr aSIMPL))) (by decide)]; done) | (unfold check; (repeat' split) <;> first | rfl | omega | (simp_all; done))
                · -- c11 False
                  refine wpC_seq ?_
                  refine wC_ops ?_
                  refine wI_fieldAddr (.t (.there rfl (.here))) ?_
                  refine wI_load1 (.t (.here)) aGET rfl ?_
                  refine wI_lss (.t (.here)) .c ?_
                  refine wI_mov (.t (.here)) ?_
                  refine wI_gdF (.here) (fun g12 => ?_) (fun g12 => ?_)
                  · -- g12 False
                    refine wI_fieldAddr (.t (.there rfl (.there rfl (.there rfl (.there rfl (.there rfl (.here))))))) ?_
                    refine wI_yes (.there rfl (.here)) g12 ?_
                    refine wI_load1 (.t (.here)) aGET rfl ?_
                    refine wI_yes (.there rfl (.there rfl (.here))) g12 ?_
                    refine wI_gtr (.t (.here)) .c ?_
                    refine wI_pickF (.t (.there rfl (.there rfl (.there rfl (.here))))) g12 (.t (.here)) ?_
                    refine wI_mov (.t (.here)) ?_
                    refine wI_end (.cons (.there rfl (.there rfl (.there rfl (.there rfl (.there rfl (.there rfl (.there rfl (.there rfl (.there rfl (.here)))))))))) (.cons (.there rfl (.there rfl (.there rfl (.there rfl (.there rfl (.there rfl (.there rfl (.there rfl (.there rfl (.there rfl (.there rfl (.here)))))))))))) (.cons (.there rfl (.there rfl (.there rfl (.there rfl (.there rfl (.there rfl (.there rfl (.there rfl (.there rfl (.there rfl (.there rfl (.there rfl (.here))))))))))))) (.cons (.there rfl (.there rfl (.there rfl (.there rfl (.there rfl (.there rfl (.there rfl (.there rfl (.there rfl (.there rfl (.there rfl (.there rfl (.there rfl (.here)))))))))))))) (.cons (.there rfl (.there rfl (.there rfl (.there rfl (.there rfl (.there rfl (.there rfl (.there rfl (.there rfl (.there rfl (.there rfl (.there rfl (.there rfl (.there rfl (.here))))))))))))))) (.cons (.there rfl (.there rfl (.there rfl (.there rfl (.there rfl (.there rfl (.there rfl (.there rfl (.there rfl (.there rfl (.there rfl (.there rfl (.there rfl (.there rfl (.there rfl (.here)))))))))))))))) (.cons (.there rfl (.there rfl (.there rfl (.there rfl (.there rfl (.there rfl (.there rfl (.there rfl (.there rfl (.there rfl (.there rfl (.there rfl (.there rfl (.there rfl (.there rfl (.there rfl (.here))))))))))))))))) (.cons (.here) .nil)))))))) ?_
                    refine wC_if (.t (.there rfl (.there rfl (.there rfl (.there rfl (.there rfl (.there rfl (.there rfl (.here))))))))) (fun c13 => ?_) (fun c13 => ?_)
                    · -- c13 True
                      refine wpC_seq ?_
                      refine wC_ops ?_
                      refine wI_mov .c ?_
                      refine wI_end (.cons (.here) .nil) ?_
                      refine wpC_ret (ret1 (.here) ?_)
                      refine ⟨?_, aSUB⟩
                      congr 1
                      first | (rw [hck, hq, show i = I.length by omega]; simp only [List.drop_length, chkItems]; done) | (rw [hck, hq, hd, ci_form aOM]; done) | (rw [hck, hq, hd, ci_bad (v := 11) aOM (hq2.trans (by rw [hd2]; exact cr_11 (by assumption))) (by decide)]; done) | (rw [hck, hq, hd, ci_bad (v := 2) aOM (hq2.trans (by rw [hd2]; exact cr_2 (by assumption) (by first | exact .inl aSIMPL | exact .inr aSIMPL))) (by decide)]; done) | (unfold check; (repeat' split) <;> first | rfl | omega | (simp_all; done))
                    · -- c13 False
                      refine wpC_skip ?_
                      refine wC_ops ?_
                      refine wI_add (.t (.there rfl (.there rfl (.there rfl (.there rfl (.there rfl (.there rfl (.here)))))))) .c (wrap64 aOM) ?_
                      refine wI_mov (.t (.here)) ?_
                      refine wI_end (.cons (.there rfl (.there rfl (.here))) (.cons (.there rfl (.there rfl (.there rfl (.here)))) (.cons (.there rfl (.there rfl (.there rfl (.there rfl (.here))))) (.cons (.there rfl (.there rfl (.there rfl (.there rfl (.there rfl (.here)))))) (.cons (.there rfl (.there rfl (.there rfl (.there rfl (.there rfl (.there rfl (.here))))))) (.cons (.there rfl (.there rfl (.there rfl (.there rfl (.there rfl (.there rfl (.there rfl (.here)))))))) (.cons (.here) .nil))))))) ?_
                      refine ⟨k + 1, (.cons (.here) (.cons (.there rfl (.here)) (.cons (.there rfl (.there rfl (.here))) (.cons (.there rfl (.there rfl (.there rfl (.here)))) (.cons (.there rfl (.there rfl (.there rfl (.there rfl (.here))))) (.cons (.there rfl (.there rfl (.there rfl (.there rfl (.there rfl (.here)))))) (.cons (.there rfl (.there rfl (.there rfl (.there rfl (.there rfl (.there rfl (.here))))))) .nil))))))), ?_, ?_⟩
                      · refine ⟨aSUB, aGET, by omega, ?_⟩
                        rw [hq2, hd2]; exact cr_ok aSIMPL aSIMPL aSIMPL
                      · (first | omega | (simp only []; omega))
                  · -- g12 True
                    refine wI_no (.there rfl (.here)) (by rw [g12]; decide) ?_
                    refine wI_no (.there rfl (.there rfl (.here))) (by rw [g12]; decide) ?_
                    refine wI_pickT (.t (.there rfl (.there rfl (.there rfl (.here))))) g12 .c ?_
                    refine wI_mov (.t (.here)) ?_
                    refine wI_end (.cons (.there rfl (.there rfl (.there rfl (.there rfl (.there rfl (.there rfl (.there rfl (.there rfl (.there rfl (.here)))))))))) (.cons (.there rfl (.there rfl (.there rfl (.there rfl (.there rfl (.there rfl (.there rfl (.there rfl (.there rfl (.there rfl (.there rfl (.here)))))))))))) (.cons (.there rfl (.there rfl (.there rfl (.there rfl (.there rfl (.there rfl (.there rfl (.there rfl (.there rfl (.there rfl (.there rfl (.there rfl (.here))))))))))))) (.cons (.there rfl (.there rfl (.there rfl (.there rfl (.there rfl (.there rfl (.there rfl (.there rfl (.there rfl (.there rfl (.there rfl (.there rfl (.there rfl (.here)))))))))))))) (.cons (.there rfl (.there rfl (.there rfl (.there rfl (.there rfl (.there rfl (.there rfl (.there rfl (.there rfl (.there rfl (.there rfl (.there rfl (.there rfl (.there rfl (.here))))))))))))))) (.cons (.there rfl (.there rfl (.there rfl (.there rfl (.there rfl (.there rfl (.there rfl (.there rfl (.there rfl (.there rfl (.there rfl (.there rfl (.there rfl (.there rfl (.there rfl (.here)))))))))))))))) (.cons (.there rfl (.there rfl (.there rfl (.there rfl (.there rfl (.there rfl (.there rfl (.there rfl (.there rfl (.there rfl (.there rfl (.there rfl (.there rfl (.there rfl (.there rfl (.there rfl (.here))))))))))))))))) (.cons (.here) .nil)))))))) ?_
                    refine wC_condT (.t (.there rfl (.there rfl (.there rfl (.there rfl (.there rfl (.there rfl (.there rfl (.here))))))))) rfl ?_
                    refine wpC_seq ?_
                    refine wC_ops ?_
                    refine wI_mov .c ?_
                    refine wI_end (.cons (.here) .nil) ?_
                    refine wpC_ret (ret1 (.here) ?_)
                    refine ⟨?_, aSUB⟩
                    congr 1
                    first | (rw [hck, hq, show i = I.length by omega]; simp only [List.drop_length, chkItems]; done) | (rw [hck, hq, hd, ci_form aOM]; done) | (rw [hck, hq, hd, ci_bad (v := 11) aOM (hq2.trans (by rw [hd2]; exact cr_11 (by assumption))) (by decide)]; done) | (rw [hck, hq, hd, ci_bad (v := 2) aOM (hq2.trans (by rw [hd2]; exact cr_2 (by assumption) (by first | exact .inl aSIMPL | exact .inr aSIMPL))) (by decide)]; done) | (unfold check; (repeat' split) <;> first | rfl | omega | (simp_all; done))
              · -- c9 False
                refine wpC_exit ?_
                refine wC_ops ?_
                refine wI_add (.t (.there rfl (.there rfl (.there rfl (.here))))) .c (wrap64 aOM) ?_
                refine wI_mov (.t (.here)) ?_
                refine wI_end (.cons (.there rfl (.there rfl (.here))) (.cons (.there rfl (.there rfl (.there rfl (.here)))) (.cons (.there rfl (.there rfl (.there rfl (.there rfl (.here))))) (.cons (.here) .nil)))) ?_
                refine ⟨i + 1, (.cons (.here) (.cons (.there rfl (.here)) (.cons (.there rfl (.there rfl (.here))) (.cons (.there rfl (.there rfl (.there rfl (.here)))) .nil)))), ?_, ?_⟩
                · refine ⟨aSUB, aGET, by omega, ?_⟩
                  rw [hq, hd]; exact ci_ok aOM (hq2.trans (by rw [show k = (I.getD i []).length by omega, List.drop_length]; rfl))
                · (first | omega | (simp only []; omega))
          · -- c6 False
            refine wpC_exit ?_
            refine wpC_seq ?_
            refine wC_ops ?_
            refine wI_mov .c ?_
            refine wI_end (.cons (.here) .nil) ?_
            refine wpC_ret (ret1 (.here) ?_)
            refine ⟨?_, aSUB⟩
            congr 1
            first | (rw [hck, hq, show i = I.length by omega]; simp only [List.drop_length, chkItems]; done) | (rw [hck, hq, hd, ci_form aOM]; done) | (rw [hck, hq, hd, ci_bad (v := 11) aOM (hq2.trans (by rw [hd2]; exact cr_11 (by assumption))) (by decide)]; done) | (rw [hck, hq, hd, ci_bad (v := 2) aOM (hq2.trans (by rw [hd2]; exact cr_2 (by assumption) (by first | exact .inl aSIMPL | exact .inr aSIMPL))) (by decide)]; done) | (unfold check; (repeat' split) <;> first | rfl | omega | (simp_all; done))

theorem s70 (hT : Ext fns1 T) {v : AV} {l : List Rng} (hv : Rngs H0 v l) (hl : l.length ≤ 40) (n : Nat) :
    wpF T (.fn 70 []) [v, .int .i64 n] H0 (fun r H => r = .int .i64 (chkItem n l) ∧ H0.Sub H) := by
  refine wF hT (af := A70) rfl ?_
  refine wpC_seq ?_
  refine wC_ops ?_
  refine wI_mov .c ?_
  refine wI_end (.cons (.there rfl (.here)) (.cons (.there rfl (.there rfl (.here))) .nil)) ?_
  refine wpC_seq ?_
  refine wpC_seq ?_
  refine wC_ops ?_
  refine wI_mov (.t (.here)) ?_
  refine wI_lenSl (.t (.here)) aLEN ?_
  refine wI_mov (.t (.there rfl (.there rfl (.there rfl (.here))))) ?_
  refine wI_neI (.t (.there rfl (.here))) (.t (.here)) ?_
  refine wI_end (.cons (.there rfl (.there rfl (.there rfl (.there rfl (.here))))) (.cons (.here) .nil)) ?_
  refine wC_if (.t (.there rfl (.here))) (fun c1 => ?_) (fun c1 => ?_)
  · -- c1 True
    refine wpC_seq ?_
    refine wC_ops ?_
    refine wI_mov .c ?_
    refine wI_end (.cons (.here) .nil) ?_
    refine wpC_ret (ret1 (.here) ?_)
    refine ⟨?_, aSUB⟩
    congr 1
    unfold chkItem
    split
    · first | omega | exact (hq.trans (by rw [show k = l.length by omega, List.drop_length]; rfl)).symm | exact (hq.trans (by rw [hd2]; exact cr_11 (by assumption))).symm | exact (hq.trans (by rw [hd2]; exact cr_2 (by assumption) (by first | exact .inl aSIMPL | exact .inr aSIMPL))).symm
    · first | rfl | omega
  · -- c1 False
    refine wpC_skip ?_
    refine wpC_seq ?_
    refine wpC_seq ?_
    refine wC_ops ?_
    refine wI_mov .c ?_
    refine wI_end (.cons (.there rfl (.here)) (.cons (.here) .nil)) ?_
    refine wpC_block ?_
    refine wC_loop (α := Nat) (fun k => [(0, v), (5, .int .i64 k)]) (fun k H => H0.Sub H ∧ k ≤ l.length ∧ chkRngs l = chkRngs (l.drop k)) (fun k => l.length - k) 0 (.cons (.here) (.cons (.there rfl (.here)) .nil)) ?_ ?_
    · exact ⟨aSUB, by omega, rfl⟩
    rintro k H1 ⟨hs, hk, hq⟩
    have hsn := hs.next
    refine wpC_seq ?_
    refine wpC_seq ?_
    refine wC_ops ?_
    refine wI_mov (.t (.there rfl (.here))) ?_
    refine wI_mov (.t (.there rfl (.here))) ?_
    refine wI_lenSl (.t (.here)) aLEN ?_
    refine wI_lss (.t (.there rfl (.there rfl (.here)))) (.t (.here)) ?_
    refine wI_end (.cons (.there rfl (.there rfl (.there rfl (.there rfl (.here))))) (.cons (.there rfl (.there rfl (.there rfl (.there rfl (.there rfl (.here)))))) (.cons (.here) .nil))) ?_
    refine wC_if (.t (.there rfl (.there rfl (.here)))) (fun c2 => ?_) (fun c2 => ?_)
    · -- c2 True
      refine wpC_skip ?_
      refine wpC_seq ?_
      refine wpC_block ?_
      refine wpC_seq ?_
      refine wpC_seq ?_
      refine wC_ops ?_
      have hd2 := drop_cons l k (0, 0) aOM
      refine wI_mov (.t (.here)) ?_
      refine wI_mov (.t (.there rfl (.there rfl (.here)))) ?_
      first | refine wI_ixRngs (.t (.there rfl (.here))) aATI (.t (.here)) rfl aOM (fun b3 o3 p3 => ?_)
      refine wI_fieldAddr (.t (.here)) ?_
      refine wI_ldc1 0 (.t (.here)) (by first | exact p3 | exact Cells.mono p3 aSUB) rfl ?_
      refine wI_mov (.t (.there rfl (.there rfl (.there rfl (.there rfl (.there rfl (.here))))))) ?_
      refine wI_mov (.t (.there rfl (.there rfl (.there rfl (.there rfl (.there rfl (.there rfl (.there rfl (.here))))))))) ?_
      first | refine wI_ixRngs (.t (.there rfl (.here))) aATI (.t (.here)) rfl aOM (fun b4 o4 p4 => ?_)
      refine wI_fieldAddr (.t (.here)) ?_
      refine wI_ldc1 1 (.t (.here)) (by first | exact p4 | exact Cells.mono p4 aSUB) rfl ?_
      refine wI_gtr (.t (.there rfl (.there rfl (.there rfl (.there rfl (.there rfl (.here))))))) (.t (.here)) ?_
      refine wI_end (.cons (.there rfl (.there rfl (.there rfl (.there rfl (.there rfl (.there rfl (.there rfl (.there rfl (.there rfl (.there rfl (.there rfl (.here)))))))))))) (.cons (.there rfl (.there rfl (.there rfl (.there rfl (.there rfl (.there rfl (.there rfl (.there rfl (.there rfl (.there rfl (.there rfl (.there rfl (.here))))))))))))) (.cons (.here) .nil))) ?_
      refine wC_if (.t (.there rfl (.there rfl (.here)))) (fun c5 => ?_) (fun c5 => ?_)
      · -- c5 True
        refine wpC_seq ?_
        refine wC_ops ?_
        refine wI_mov .c ?_
        refine wI_end (.cons (.here) .nil) ?_
        refine wpC_ret (ret1 (.here) ?_)
        refine ⟨?_, aSUB⟩
        congr 1
        unfold chkItem
        split
        · first | omega | exact (hq.trans (by rw [show k = l.length by omega, List.drop_length]; rfl)).symm | exact (hq.trans (by rw [hd2]; exact cr_11 (by assumption))).symm | exact (hq.trans (by rw [hd2]; exact cr_2 (by assumption) (by first | exact .inl aSIMPL | exact .inr aSIMPL))).symm
        · first | rfl | omega
      · -- c5 False
        refine wpC_skip ?_
        refine wpC_seq ?_
        refine wC_ops ?_
        refine wI_mov (.t (.here)) ?_
        refine wI_mov (.t (.there rfl (.there rfl (.here)))) ?_
        first | refine wI_ixRngs (.t (.there rfl (.here))) aATI (.t (.here)) rfl aOM (fun b6 o6 p6 => ?_)
        refine wI_fieldAddr (.t (.here)) ?_
        refine wI_ldc1 0 (.t (.here)) (by first | exact p6 | exact Cells.mono p6 aSUB) rfl ?_
        refine wI_lss (.t (.here)) .c ?_
        refine wI_mov (.t (.here)) ?_
        refine wI_gdF (.here) (fun g7 => ?_) (fun g7 => ?_)
        · -- g7 False
          refine wI_mov (.t (.there rfl (.there rfl (.there rfl (.there rfl (.there rfl (.there rfl (.there rfl (.here))))))))) ?_
          refine wI_yes (.there rfl (.here)) g7 ?_
          refine wI_mov (.t (.there rfl (.there rfl (.there rfl (.there rfl (.there rfl (.there rfl (.there rfl (.there rfl (.there rfl (.here))))))))))) ?_
          refine wI_yes (.there rfl (.there rfl (.here))) g7 ?_
          first | refine wI_ixRngs (.t (.there rfl (.here))) aATI (.t (.here)) rfl aOM (fun b8 o8 p8 => ?_)
          refine wI_yes (.there rfl (.there rfl (.there rfl (.here)))) g7 ?_
          refine wI_fieldAddr (.t (.here)) ?_
          refine wI_yes (.there rfl (.there rfl (.there rfl (.there rfl (.here))))) g7 ?_
          refine wI_ldc1 1 (.t (.here)) (by first | exact p8 | exact Cells.mono p8 aSUB) rfl ?_
          refine wI_yes (.there rfl (.there rfl (.there rfl (.there rfl (.there rfl (.here)))))) g7 ?_
          refine wI_gtr (.t (.here)) .c ?_
          refine wI_pickF (.t (.there rfl (.there rfl (.there rfl (.there rfl (.there rfl (.there rfl (.here)))))))) g7 (.t (.here)) ?_
          refine wI_end (.cons (.there rfl (.there rfl (.there rfl (.there rfl (.there rfl (.there rfl (.there rfl (.there rfl (.there rfl (.there rfl (.there rfl (.there rfl (.there rfl (.there rfl (.here))))))))))))))) (.cons (.there rfl (.there rfl (.there rfl (.there rfl (.there rfl (.there rfl (.there rfl (.there rfl (.there rfl (.there rfl (.there rfl (.there rfl (.there rfl (.there rfl (.there rfl (.here)))))))))))))))) (.cons (.here) .nil))) ?_
          refine wC_if (.t (.there rfl (.there rfl (.here)))) (fun c9 => ?_) (fun c9 => ?_)
          · -- c9 True
            refine wpC_seq ?_
            refine wC_ops ?_
            refine wI_mov .c ?_
            refine wI_end (.cons (.here) .nil) ?_
            refine wpC_ret (ret1 (.here) ?_)
            refine ⟨?_, aSUB⟩
            congr 1
            unfold chkItem
            split
            · first | omega | exact (hq.trans (by rw [show k = l.length by omega, List.drop_length]; rfl)).symm | exact (hq.trans (by rw [hd2]; exact cr_11 (by assumption))).symm | exact (hq.trans (by rw [hd2]; exact cr_2 (by assumption) (by first | exact .inl aSIMPL | exact .inr aSIMPL))).symm
            · first | rfl | omega
          · -- c9 False
            refine wpC_skip ?_
            refine wC_ops ?_
            refine wI_mov (.t (.there rfl (.here))) ?_
            refine wI_add (.t (.here)) .c (wrap64 aOM) ?_
            refine wI_mov (.t (.here)) ?_
            refine wI_end (.cons (.there rfl (.there rfl (.there rfl (.here)))) (.cons (.here) .nil)) ?_
            refine ⟨k + 1, (.cons (.here) (.cons (.there rfl (.here)) .nil)), ?_, ?_⟩
            · refine ⟨aSUB, by omega, ?_⟩
              rw [hq, hd2]; exact cr_ok aSIMPL aSIMPL aSIMPL
            · (first | omega | (simp only []; omega))
        · -- g7 True
          refine wI_no (.there rfl (.here)) (by rw [g7]; decide) ?_
          refine wI_no (.there rfl (.there rfl (.here))) (by rw [g7]; decide) ?_
          refine wI_no (.there rfl (.there rfl (.there rfl (.here)))) (by rw [g7]; decide) ?_
          refine wI_no (.there rfl (.there rfl (.there rfl (.there rfl (.here))))) (by rw [g7]; decide) ?_
          refine wI_no (.there rfl (.there rfl (.there rfl (.there rfl (.there rfl (.here)))))) (by rw [g7]; decide) ?_
          refine wI_pickT (.t (.there rfl (.there rfl (.there rfl (.there rfl (.there rfl (.there rfl (.here)))))))) g7 .c ?_
          refine wI_end (.cons (.there rfl (.there rfl (.there rfl (.there rfl (.there rfl (.there rfl (.there rfl (.there rfl (.there rfl (.there rfl (.there rfl (.there rfl (.there rfl (.there rfl (.here))))))))))))))) (.cons (.there rfl (.there rfl (.there rfl (.there rfl (.there rfl (.there rfl (.there rfl (.there rfl (.there rfl (.there rfl (.there rfl (.there rfl (.there rfl (.there rfl (.there rfl (.here)))))))))))))))) (.cons (.here) .nil))) ?_
          refine wC_condT (.t (.there rfl (.there rfl (.here)))) rfl ?_
          refine wpC_seq ?_
          refine wC_ops ?_
          refine wI_mov .c ?_
          refine wI_end (.cons (.here) .nil) ?_
          refine wpC_ret (ret1 (.here) ?_)
          refine ⟨?_, aSUB⟩
          congr 1
          unfold chkItem
          split
          · first | omega | exact (hq.trans (by rw [show k = l.length by omega, List.drop_length]; rfl)).symm | exact (hq.trans (by rw [hd2]; exact cr_11 (by assumption))).symm | exact (hq.trans (by rw [hd2]; exact cr_2 (by assumption) (by first | exact .inl aSIMPL | exact .inr aSIMPL))).symm
          · first | rfl | omega
    · -- c2 False
      refine wpC_exit ?_
      refine wpC_seq ?_
      refine wC_ops ?_
      refine wI_mov .c ?_
      refine wI_end (.cons (.here) .nil) ?_
      refine wpC_ret (ret1 (.here) ?_)
      refine ⟨?_, aSUB⟩
      congr 1
      unfold chkItem
      split
      · first | omega | exact (hq.trans (by rw [show k = l.length by omega, List.drop_length]; rfl)).symm | exact (hq.trans (by rw [hd2]; exact cr_11 (by assumption))).symm | exact (hq.trans (by rw [hd2]; exact cr_2 (by assumption) (by first | exact .inl aSIMPL | exact .inr aSIMPL))).symm
      · first | rfl | omega

theorem s21 (hT : Ext fns1 T) {a b : AV} {t : List Int} {I : List (List Rng)} {vs : List AV} (hS : SortAt H0 a b t I vs) :
    wpF T (.fn 21 []) [.agg [a, b]] H0 (fun r H => r = .int .i64 (check t I) ∧ H0.Sub H) := by
  refine wF hT (af := A21) rfl ?_
  obtain ⟨ht, hv, hn, hI, hm1, hm2, hm3⟩ := hS
  refine wpC_seq ?_
  refine wC_ops ?_
  refine wI_box (.t (.here)) aBOX ?_
  refine wI_mov .c ?_
  refine wI_end (.cons (.there rfl (.here)) .nil) ?_
  refine wpC_seq ?_
  refine wpC_seq ?_
  refine wC_ops ?_
  refine wI_fieldAddr (.t (.here)) ?_
  refine wI_load1 (.t (.here)) aGET rfl ?_
  refine wI_lenSl (.t (.here)) aLEN ?_
  refine wI_eqI (.t (.here)) .c ?_
  refine wI_end (.cons (.there rfl (.there rfl (.there rfl (.there rfl (.here))))) (.cons (.here) .nil)) ?_
  refine wC_if (.t (.there rfl (.here))) (fun c1 => ?_) (fun c1 => ?_)
  · -- c1 True
    refine wpC_seq ?_
    refine wC_ops ?_
    refine wI_mov .c ?_
    refine wI_end (.cons (.here) .nil) ?_
    refine wpC_ret (ret1 (.here) ?_)
    refine ⟨?_, aSUB⟩
    congr 1
    symm
    first | exact hq.trans (by rw [show i = I.length by omega, List.drop_length]; rfl) | exact hq.trans (by rw [hd]; exact ci_err (by assumption)) | exact check6 aOM | exact check8 aOM | exact check8' aOM aOM hany aOM | exact check2 aOM aOM (any_bad (i := i) aOM (by simpa only [okTol, Bool.not_eq_true'] using (by assumption : (!decide (0 ≤ t.getD i 0 ∧ t.getD i 0 ≤ 1000000)) = true)))
  · -- c1 False
    refine wpC_skip ?_
    refine wpC_seq ?_
    refine wpC_seq ?_
    refine wC_ops ?_
    refine wI_fieldAddr (.t (.here)) ?_
    refine wI_load1 (.t (.here)) aGET rfl ?_
    refine wI_lenSl (.t (.here)) aLEN ?_
    refine wI_gtr (.t (.here)) .c ?_
    refine wI_end (.cons (.there rfl (.there rfl (.there rfl (.there rfl (.here))))) (.cons (.here) .nil)) ?_
    refine wC_if (.t (.there rfl (.here))) (fun c2 => ?_) (fun c2 => ?_)
    · -- c2 True
      refine wpC_seq ?_
      refine wC_ops ?_
      refine wI_mov .c ?_
      refine wI_end (.cons (.here) .nil) ?_
      refine wpC_ret (ret1 (.here) ?_)
      refine ⟨?_, aSUB⟩
      congr 1
      symm
      first | exact hq.trans (by rw [show i = I.length by omega, List.drop_length]; rfl) | exact hq.trans (by rw [hd]; exact ci_err (by assumption)) | exact check6 aOM | exact check8 aOM | exact check8' aOM aOM hany aOM | exact check2 aOM aOM (any_bad (i := i) aOM (by simpa only [okTol, Bool.not_eq_true'] using (by assumption : (!decide (0 ≤ t.getD i 0 ∧ t.getD i 0 ≤ 1000000)) = true)))
    · -- c2 False
      refine wpC_skip ?_
      refine wpC_seq ?_
      refine wpC_seq ?_
      refine wC_ops ?_
      refine wI_mov .c ?_
      refine wI_end (.cons (.there rfl (.here)) (.cons (.here) .nil)) ?_
      refine wpC_block ?_
      refine wC_loop (α := Nat) (fun i => [(1, .ptr H0.next 0), (3, .int .i64 i)]) (fun i H => H0.Sub H ∧ H.get H0.next = some (.cells [a, b] true) ∧ i ≤ t.length ∧ ∀ j, j < i → okTol (t.getD j 0) = true) (fun i => t.length - i) 0 (.cons (.here) (.cons (.there rfl (.here)) .nil)) ?_ ?_
      · exact ⟨aSUB, aGET, by omega, fun j hj => by omega⟩
      rintro i H1 ⟨hs, hb, hi, htol⟩
      have hsn := hs.next
      refine wpC_seq ?_
      refine wpC_seq ?_
      refine wC_ops ?_
      refine wI_mov (.t (.there rfl (.here))) ?_
      refine wI_fieldAddr (.t (.there rfl (.here))) ?_
      refine wI_load1 (.t (.here)) aGET rfl ?_
      refine wI_lenSl (.t (.here)) aLEN ?_
      refine wI_lss (.t (.there rfl (.there rfl (.there rfl (.here))))) (.t (.here)) ?_
      refine wI_end (.cons (.there rfl (.there rfl (.there rfl (.there rfl (.there rfl (.here)))))) (.cons (.there rfl (.there rfl (.there rfl (.there rfl (.there rfl (.there rfl (.here))))))) (.cons (.here) .nil))) ?_
      refine wC_if (.t (.there rfl (.there rfl (.here)))) (fun c3 => ?_) (fun c3 => ?_)
      · -- c3 True
        refine wpC_skip ?_
        refine wpC_seq ?_
        refine wpC_block ?_
        refine wpC_seq ?_
        refine wC_ops ?_
        refine wI_fieldAddr (.t (.here)) ?_
        refine wI_load1 (.t (.here)) aGET rfl ?_
        refine wI_mov (.t (.there rfl (.there rfl (.there rfl (.here))))) ?_
        first | refine wI_ixInts (.t (.there rfl (.here))) aATI (.t (.here)) rfl aOM (fun b4 o4 p4 => ?_) | refine wI_ixVals (.t (.there rfl (.here))) aATI (.t (.here)) rfl aOM (fun b4 o4 p4 => ?_) | refine wI_ixBools (.t (.there rfl (.here))) aATI (.t (.here)) rfl aOM (fun b4 o4 p4 => ?_)
        refine wI_ldc1 0 (.t (.here)) (by first | exact p4 | exact Cells.mono p4 aSUB) rfl ?_
        refine wI_call (.cons (.t (.here)) (.cons .c (.cons .c .nil))) (s69 hT _ _ _) ?_
        rintro _ _ ⟨rfl, heq5⟩
        obtain rfl := heq5.symm
        refine wI_not (.t (.here)) ?_
        refine wI_end (.cons (.there rfl (.there rfl (.there rfl (.there rfl (.there rfl (.there rfl (.there rfl (.here)))))))) (.cons (.there rfl (.there rfl (.there rfl (.there rfl (.there rfl (.there rfl (.there rfl (.there rfl (.here))))))))) (.cons (.here) .nil))) ?_
        refine wC_cond (.t (.there rfl (.there rfl (.here)))) (fun c6 => ?_) (fun c6 => ?_)
        · -- c6 True
          refine wpC_seq ?_
          refine wC_ops ?_
          refine wI_mov .c ?_
          refine wI_end (.cons (.here) .nil) ?_
          refine wpC_ret (ret1 (.here) ?_)
          refine ⟨?_, aSUB⟩
          congr 1
          symm
          first | exact hq.trans (by rw [show i = I.length by omega, List.drop_length]; rfl) | exact hq.trans (by rw [hd]; exact ci_err (by assumption)) | exact check6 aOM | exact check8 aOM | exact check8' aOM aOM hany aOM | exact check2 aOM aOM (any_bad (i := i) aOM (by simpa only [okTol, Bool.not_eq_true'] using (by assumption : (!decide (0 ≤ t.getD i 0 ∧ t.getD i 0 ≤ 1000000)) = true)))
        · -- c6 False
          refine wpC_skip ?_
          refine wC_ops ?_
          refine wI_mov (.t (.there rfl (.here))) ?_
          refine wI_add (.t (.here)) .c (wrap64 aOM) ?_
          refine wI_mov (.t (.here)) ?_
          refine wI_end (.cons (.there rfl (.there rfl (.there rfl (.here)))) (.cons (.here) .nil)) ?_
          refine ⟨i + 1, (.cons (.here) (.cons (.there rfl (.here)) .nil)), ?_, ?_⟩
          · refine ⟨aSUB, aGET, by omega, fun j hj => ?_⟩
            rcases Nat.lt_or_ge j i with c | c
            · exact htol j c
            · rw [show j = i by omega]; unfold okTol; simp_all
          · (first | omega | (simp only []; omega))
      · -- c3 False
        refine wpC_exit ?_
        refine wpC_seq ?_
        refine wpC_seq ?_
        refine wC_ops ?_
        have hany := any_good (t := t) (fun j hj => htol j aOM)
        refine wI_fieldAddr (.t (.here)) ?_
        refine wI_load1 (.t (.here)) aGET rfl ?_
        refine wI_lenSl (.t (.here)) aLEN ?_
        refine wI_gtr (.t (.here)) .c ?_
        refine wI_end (.cons (.there rfl (.there rfl (.there rfl (.there rfl (.here))))) (.cons (.here) .nil)) ?_
        refine wC_if (.t (.there rfl (.here))) (fun c7 => ?_) (fun c7 => ?_)
        · -- c7 True
          refine wpC_seq ?_
          refine wC_ops ?_
          refine wI_mov .c ?_
          refine wI_end (.cons (.here) .nil) ?_
          refine wpC_ret (ret1 (.here) ?_)
          refine ⟨?_, aSUB⟩
          congr 1
          symm
          first | exact hq.trans (by rw [show i = I.length by omega, List.drop_length]; rfl) | exact hq.trans (by rw [hd]; exact ci_err (by assumption)) | exact check6 aOM | exact check8 aOM | exact check8' aOM aOM hany aOM | exact check2 aOM aOM (any_bad (i := i) aOM (by simpa only [okTol, Bool.not_eq_true'] using (by assumption : (!decide (0 ≤ t.getD i 0 ∧ t.getD i 0 ≤ 1000000)) = true)))
        · -- c7 False
          refine wpC_skip ?_
          refine wpC_seq ?_
          refine wpC_seq ?_
          refine wC_ops ?_
          refine wI_mov .c ?_
          refine wI_end (.cons (.there rfl (.here)) (.cons (.here) .nil)) ?_
          refine wpC_block ?_
          refine wC_loop (α := Nat) (fun i => [(1, .ptr H0.next 0), (4, .int .i64 i)]) (fun i H => H0.Sub H ∧ H.get H0.next = some (.cells [a, b] true) ∧ i ≤ vs.length ∧ check t I = chkItems t.length (I.drop i)) (fun i => vs.length - i) 0 (.cons (.here) (.cons (.there rfl (.here)) .nil)) ?_ ?_
          · exact ⟨aSUB, aGET, by omega, check_items aOM aOM hany aOM⟩
          rintro i H2 ⟨hs2, hb2, hi2, hq⟩
          have hsn2 := hs2.next
          refine wpC_seq ?_
          refine wpC_seq ?_
          refine wC_ops ?_
          refine wI_mov (.t (.there rfl (.here))) ?_
          refine wI_fieldAddr (.t (.there rfl (.here))) ?_
          refine wI_load1 (.t (.here)) aGET rfl ?_
          refine wI_lenSl (.t (.here)) aLEN ?_
          refine wI_lss (.t (.there rfl (.there rfl (.there rfl (.here))))) (.t (.here)) ?_
          refine wI_end (.cons (.there rfl (.there rfl (.there rfl (.there rfl (.there rfl (.here)))))) (.cons (.there rfl (.there rfl (.there rfl (.there rfl (.there rfl (.there rfl (.here))))))) (.cons (.here) .nil))) ?_
          refine wC_if (.t (.there rfl (.there rfl (.here)))) (fun c8 => ?_) (fun c8 => ?_)
          · -- c8 True
            refine wpC_skip ?_
            refine wpC_seq ?_
            refine wpC_block ?_
            refine wpC_seq ?_
            refine wC_ops ?_
            have hr := hI i aOM
            have hl3 := hm3 i
            have hd := drop_cons I i [] aOM
            refine wI_fieldAddr (.t (.here)) ?_
            refine wI_load1 (.t (.here)) aGET rfl ?_
            refine wI_mov (.t (.there rfl (.there rfl (.there rfl (.here))))) ?_
            first | refine wI_ixInts (.t (.there rfl (.here))) aATI (.t (.here)) rfl aOM (fun b9 o9 p9 => ?_) | refine wI_ixVals (.t (.there rfl (.here))) aATI (.t (.here)) rfl aOM (fun b9 o9 p9 => ?_) | refine wI_ixBools (.t (.there rfl (.here))) aATI (.t (.here)) rfl aOM (fun b9 o9 p9 => ?_)
            refine wI_ldc1 0 (.t (.here)) (by first | exact p9 | exact Cells.mono p9 aSUB) rfl ?_
            refine wI_fieldAddr (.t (.there rfl (.there rfl (.there rfl (.there rfl (.there rfl (.here))))))) ?_
            refine wI_load1 (.t (.here)) aGET rfl ?_
            refine wI_lenSl (.t (.here)) aLEN ?_
            refine wI_call (.cons (.t (.there rfl (.there rfl (.there rfl (.here))))) (.cons (.t (.here)) .nil)) (s70 hT aATI (by assumption) _) ?_
            rintro _ H10 ⟨rfl, hs10⟩
            have hsn10 := hs10.next
            refine wI_mov (.t (.here)) ?_
            refine wI_end (.cons (.there rfl (.there rfl (.there rfl (.there rfl (.there rfl (.there rfl (.there rfl (.there rfl (.there rfl (.there rfl (.here))))))))))) (.cons (.there rfl (.there rfl (.there rfl (.there rfl (.there rfl (.there rfl (.there rfl (.there rfl (.there rfl (.there rfl (.there rfl (.here)))))))))))) (.cons (.here) .nil))) ?_
            refine wpC_seq ?_
            refine wC_ops ?_
            refine wI_mov (.t (.there rfl (.there rfl (.here)))) ?_
            refine wI_neI (.t (.here)) .c ?_
            refine wI_end (.cons (.there rfl (.there rfl (.here))) (.cons (.there rfl (.there rfl (.there rfl (.here)))) (.cons (.there rfl (.there rfl (.there rfl (.there rfl (.here))))) (.cons (.here) .nil)))) ?_
            refine wC_if (.t (.there rfl (.there rfl (.there rfl (.here))))) (fun c11 => ?_) (fun c11 => ?_)
            · -- c11 True
              refine wpC_seq ?_
              refine wC_ops ?_
              refine wI_mov (.t (.there rfl (.there rfl (.here)))) ?_
              refine wI_mov (.t (.here)) ?_
              refine wI_end (.cons (.here) .nil) ?_
              refine wpC_ret (ret1 (.here) ?_)
              refine ⟨?_, aSUB⟩
              congr 1
              symm
              first | exact hq.trans (by rw [show i = I.length by omega, List.drop_length]; rfl) | exact hq.trans (by rw [hd]; exact ci_err (by assumption)) | exact check6 aOM | exact check8 aOM | exact check8' aOM aOM hany aOM | exact check2 aOM aOM (any_bad (i := i) aOM (by simpa only [okTol, Bool.not_eq_true'] using (by assumption : (!decide (0 ≤ t.getD i 0 ∧ t.getD i 0 ≤ 1000000)) = true)))
            · -- c11 False
              refine wpC_skip ?_
              refine wC_ops ?_
              refine wI_mov (.t (.there rfl (.here))) ?_
              refine wI_add (.t (.here)) .c (wrap64 aOM) ?_
              refine wI_mov (.t (.here)) ?_
              refine wI_end (.cons (.there rfl (.there rfl (.there rfl (.here)))) (.cons (.here) .nil)) ?_
              refine ⟨i + 1, (.cons (.here) (.cons (.there rfl (.here)) .nil)), ?_, ?_⟩
              · refine ⟨aSUB, aGET, by omega, ?_⟩
                rw [hq, hd]; exact ci_zero aOM
              · (first | omega | (simp only []; omega))
          · -- c8 False
            refine wpC_exit ?_
            refine wpC_seq ?_
            refine wC_ops ?_
            refine wI_mov .c ?_
            refine wI_end (.cons (.here) .nil) ?_
            refine wpC_ret (ret1 (.here) ?_)
            refine ⟨?_, aSUB⟩
            congr 1
            symm
            first | exact hq.trans (by rw [show i = I.length by omega, List.drop_length]; rfl) | exact hq.trans (by rw [hd]; exact ci_err (by assumption)) | exact check6 aOM | exact check8 aOM | exact check8' aOM aOM hany aOM | exact check2 aOM aOM (any_bad (i := i) aOM (by simpa only [okTol, Bool.not_eq_true'] using (by assumption : (!decide (0 ≤ t.getD i 0 ∧ t.getD i 0 ≤ 1000000)) = true)))

theorem s71 (hT : Ext fns1 T) {a b : AV} {t : List Int} {I : List (List Rng)} {vs : List AV} (hS : SortAt H0 a b t I vs) (hok : Ok t I) (p q : Nat) (hp : p < I.length) (hq : q < I.length) :
    wpF T (.fn 71 []) [.agg [a, b], .int .i64 p, .int .i64 q] H0 (fun r H => r = .bool (alike t I p q) ∧ H0.Sub H) := by
  refine wF hT (af := A71) rfl ?_
  obtain ⟨ht, hv, hn, hI, hm1, hm2, hm3⟩ := hS
  obtain ⟨ok1, ok2, ok3, ok4, ok5⟩ := hok
  have hrp := hI p hp
  have hrq := hI q hq
  have hlp := ok4 p hp
  have hlq := ok4 q hq
  refine wpC_seq ?_
  refine wC_ops ?_
  refine wI_box (.t (.here)) aBOX ?_
  refine wI_mov .c ?_
  refine wI_end (.cons (.there rfl (.there rfl (.there rfl (.here)))) (.cons (.there rfl (.there rfl (.there rfl (.there rfl (.here))))) (.cons (.there rfl (.here)) .nil))) ?_
  refine wpC_seq ?_
  refine wpC_seq ?_
  refine wC_ops ?_
  refine wI_fieldAddr (.t (.there rfl (.there rfl (.here)))) ?_
  refine wI_load1 (.t (.here)) aGET rfl ?_
  refine wI_lenSl (.t (.here)) aLEN ?_
  refine wI_mov .c ?_
  refine wI_end (.cons (.there rfl (.there rfl (.there rfl (.there rfl (.here))))) (.cons (.there rfl (.there rfl (.there rfl (.there rfl (.there rfl (.here)))))) (.cons (.there rfl (.there rfl (.there rfl (.there rfl (.there rfl (.there rfl (.here))))))) (.cons (.there rfl (.there rfl (.here))) (.cons (.there rfl (.here)) (.cons (.here) .nil)))))) ?_
  refine wpC_block ?_
  refine wC_loop (α := Nat) (fun i => [(1, .int .i64 p), (2, .int .i64 q), (3, .ptr H0.next 0), (12, a), (13, .int .i64 t.length), (14, .int .i64 i)]) (fun i H => H0.Sub H ∧ H.get H0.next = some (.cells [a, b] true) ∧ i ≤ t.length ∧ ∀ j, j < i → ((I.getD p []).getD j (0, 0)).2 - ((I.getD q []).getD j (0, 0)).1 ≤ t.getD j 0 ∧ ((I.getD q []).getD j (0, 0)).2 - ((I.getD p []).getD j (0, 0)).1 ≤ t.getD j 0) (fun i => t.length - i) 0 (.cons (.here) (.cons (.there rfl (.here)) (.cons (.there rfl (.there rfl (.here))) (.cons (.there rfl (.there rfl (.there rfl (.here)))) (.cons (.there rfl (.there rfl (.there rfl (.there rfl (.here))))) (.cons (.there rfl (.there rfl (.there rfl (.there rfl (.there rfl (.here)))))) .nil)))))) ?_ ?_
  · exact ⟨aSUB, aGET, by omega, fun j hj => by omega⟩
  rintro i H1 ⟨hs, hb, hi, hnear⟩
  have hsn := hs.next
  refine wpC_seq ?_
  refine wC_ops ?_
  refine wI_lss (.t (.there rfl (.there rfl (.there rfl (.there rfl (.there rfl (.here))))))) (.t (.there rfl (.there rfl (.there rfl (.there rfl (.here)))))) ?_
  refine wI_end (.cons (.there rfl (.here)) (.cons (.there rfl (.there rfl (.here))) (.cons (.there rfl (.there rfl (.there rfl (.here)))) (.cons (.there rfl (.there rfl (.there rfl (.there rfl (.here))))) (.cons (.there rfl (.there rfl (.there rfl (.there rfl (.there rfl (.here)))))) (.cons (.there rfl (.there rfl (.there rfl (.there rfl (.there rfl (.there rfl (.here))))))) (.cons (.here) .nil))))))) ?_
  refine wpC_seq ?_
  refine wC_if (.t (.there rfl (.there rfl (.there rfl (.there rfl (.there rfl (.there rfl (.here)))))))) (fun c1 => ?_) (fun c1 => ?_)
  · -- c1 True
    refine wpC_skip ?_
    refine wpC_seq ?_
    refine wpC_block ?_
    refine wpC_seq ?_
    refine wC_ops ?_
    have b1 := ok5 p i hp aOM
    have b2 := ok5 q i hq aOM
    have b3 := ok2 i aOM
    refine wI_mov (.t (.there rfl (.there rfl (.there rfl (.there rfl (.there rfl (.here))))))) ?_
    first | refine wI_ixInts (.t (.there rfl (.there rfl (.there rfl (.there rfl (.here)))))) aATI (.t (.there rfl (.there rfl (.there rfl (.there rfl (.there rfl (.there rfl (.here)))))))) rfl aOM (fun b2 o2 p2 => ?_) | refine wI_ixVals (.t (.there rfl (.there rfl (.there rfl (.there rfl (.here)))))) aATI (.t (.there rfl (.there rfl (.there rfl (.there rfl (.there rfl (.there rfl (.here)))))))) rfl aOM (fun b2 o2 p2 => ?_) | refine wI_ixBools (.t (.there rfl (.there rfl (.there rfl (.there rfl (.here)))))) aATI (.t (.there rfl (.there rfl (.there rfl (.there rfl (.there rfl (.there rfl (.here)))))))) rfl aOM (fun b2 o2 p2 => ?_)
    refine wI_ldc1 0 (.t (.here)) (by first | exact p2 | exact Cells.mono p2 aSUB) rfl ?_
    refine wI_mov (.t (.there rfl (.there rfl (.here)))) ?_
    refine wI_mov (.t (.there rfl (.here))) ?_
    refine wI_end (.cons (.there rfl (.there rfl (.there rfl (.there rfl (.there rfl (.here)))))) (.cons (.there rfl (.there rfl (.there rfl (.there rfl (.there rfl (.there rfl (.here))))))) (.cons (.there rfl (.there rfl (.there rfl (.there rfl (.there rfl (.there rfl (.there rfl (.here)))))))) (.cons (.there rfl (.here)) (.cons (.here) (.cons (.there rfl (.there rfl (.there rfl (.there rfl (.there rfl (.there rfl (.there rfl (.there rfl (.here))))))))) (.cons (.there rfl (.there rfl (.there rfl (.there rfl (.there rfl (.there rfl (.there rfl (.there rfl (.there rfl (.here)))))))))) (.cons (.there rfl (.there rfl (.there rfl (.there rfl (.there rfl (.there rfl (.there rfl (.there rfl (.there rfl (.there rfl (.here))))))))))) .nil)))))))) ?_
    refine wpC_seq ?_
    refine wC_ops ?_
    refine wI_fieldAddr (.t (.there rfl (.there rfl (.here)))) ?_
    refine wI_load1 (.t (.here)) aGET rfl ?_
    refine wI_mov (.t (.there rfl (.there rfl (.here)))) ?_
    first | refine wI_ixInts (.t (.there rfl (.here))) aATI (.t (.here)) rfl aOM (fun b3 o3 p3 => ?_) | refine wI_ixVals (.t (.there rfl (.here))) aATI (.t (.here)) rfl aOM (fun b3 o3 p3 => ?_) | refine wI_ixBools (.t (.there rfl (.here))) aATI (.t (.here)) rfl aOM (fun b3 o3 p3 => ?_)
    refine wI_ldc1 0 (.t (.here)) (by first | exact p3 | exact Cells.mono p3 aSUB) rfl ?_
    refine wI_mov (.t (.there rfl (.there rfl (.there rfl (.there rfl (.there rfl (.there rfl (.there rfl (.there rfl (.here)))))))))) ?_
    first | refine wI_ixRngs (.t (.there rfl (.here))) aATI (.t (.here)) rfl aOM (fun b4 o4 p4 => ?_)
    refine wI_ldcN (.t (.here)) (by first | exact p4 | exact Cells.mono p4 aSUB) rfl ?_
    refine wI_fieldAddr (.t (.there rfl (.there rfl (.there rfl (.there rfl (.there rfl (.there rfl (.there rfl (.there rfl (.there rfl (.there rfl (.here)))))))))))) ?_
    refine wI_load1 (.t (.here)) aGET rfl ?_
    refine wI_mov (.t (.there rfl (.there rfl (.there rfl (.there rfl (.there rfl (.there rfl (.there rfl (.there rfl (.there rfl (.there rfl (.there rfl (.here))))))))))))) ?_
    first | refine wI_ixInts (.t (.there rfl (.here))) aATI (.t (.here)) rfl aOM (fun b5 o5 p5 => ?_) | refine wI_ixVals (.t (.there rfl (.here))) aATI (.t (.here)) rfl aOM (fun b5 o5 p5 => ?_) | refine wI_ixBools (.t (.there rfl (.here))) aATI (.t (.here)) rfl aOM (fun b5 o5 p5 => ?_)
    refine wI_ldc1 0 (.t (.here)) (by first | exact p5 | exact Cells.mono p5 aSUB) rfl ?_
    refine wI_mov (.t (.there rfl (.there rfl (.there rfl (.there rfl (.there rfl (.there rfl (.there rfl (.there rfl (.there rfl (.there rfl (.there rfl (.there rfl (.there rfl (.there rfl (.there rfl (.there rfl (.here)))))))))))))))))) ?_
    first | refine wI_ixRngs (.t (.there rfl (.here))) aATI (.t (.here)) rfl aOM (fun b6 o6 p6 => ?_)
    refine wI_ldcN (.t (.here)) (by first | exact p6 | exact Cells.mono p6 aSUB) rfl ?_
    refine wI_alloc ?_
    refine wI_alloc ?_
    first | refine wI_storeA (.t (.there rfl (.here))) (.t (.there rfl (.there rfl (.there rfl (.there rfl (.there rfl (.there rfl (.there rfl (.there rfl (.there rfl (.there rfl (.here)))))))))))) aGET rfl aBOX aRC ?_ | refine wI_store1 (.t (.there rfl (.here))) (.t (.there rfl (.there rfl (.there rfl (.there rfl (.there rfl (.there rfl (.there rfl (.there rfl (.there rfl (.there rfl (.here)))))))))))) aGET aONE aRC ?_
    refine wI_chkLoad1 (.there rfl (.there rfl (.there rfl (.there rfl (.there rfl (.there rfl (.there rfl (.there rfl (.here))))))))) (.t (.there rfl (.there rfl (.there rfl (.there rfl (.there rfl (.there rfl (.there rfl (.there rfl (.there rfl (.here))))))))))) aGET rfl aSAME ?_
    refine wI_chkldc1 0 (.there rfl (.there rfl (.there rfl (.there rfl (.there rfl (.here)))))) (.t (.there rfl (.there rfl (.there rfl (.there rfl (.there rfl (.there rfl (.here)))))))) (by first | exact p5 | exact Cells.mono p5 aSUB) rfl aSAME ?_
    refine wI_chkldcN (.there rfl (.there rfl (.here))) (.t (.there rfl (.there rfl (.there rfl (.here))))) (by first | exact p6 | exact Cells.mono p6 aSUB) rfl aSAME ?_
    first | refine wI_storeA (.t (.here)) (.t (.there rfl (.there rfl (.here)))) aGET rfl aBOX aRC ?_ | refine wI_store1 (.t (.here)) (.t (.there rfl (.there rfl (.here)))) aGET aONE aRC ?_
    refine wI_end (.cons (.there rfl (.there rfl (.there rfl (.there rfl (.there rfl (.there rfl (.there rfl (.there rfl (.there rfl (.there rfl (.there rfl (.there rfl (.there rfl (.there rfl (.there rfl (.there rfl (.there rfl (.there rfl (.here))))))))))))))))))) (.cons (.there rfl (.there rfl (.there rfl (.there rfl (.there rfl (.there rfl (.there rfl (.there rfl (.there rfl (.there rfl (.there rfl (.there rfl (.there rfl (.there rfl (.there rfl (.there rfl (.there rfl (.there rfl (.there rfl (.here)))))))))))))))))))) (.cons (.there rfl (.there rfl (.there rfl (.there rfl (.there rfl (.there rfl (.there rfl (.there rfl (.there rfl (.there rfl (.there rfl (.there rfl (.there rfl (.there rfl (.there rfl (.there rfl (.there rfl (.there rfl (.there rfl (.there rfl (.here))))))))))))))))))))) (.cons (.there rfl (.there rfl (.there rfl (.there rfl (.there rfl (.there rfl (.there rfl (.there rfl (.there rfl (.there rfl (.there rfl (.there rfl (.there rfl (.there rfl (.there rfl (.there rfl (.there rfl (.there rfl (.there rfl (.there rfl (.there rfl (.there rfl (.here))))))))))))))))))))))) (.cons (.there rfl (.here)) (.cons (.here) (.cons (.there rfl (.there rfl (.there rfl (.there rfl (.there rfl (.there rfl (.there rfl (.there rfl (.there rfl (.there rfl (.there rfl (.there rfl (.there rfl (.there rfl (.there rfl (.there rfl (.there rfl (.there rfl (.there rfl (.there rfl (.there rfl (.there rfl (.there rfl (.here)))))))))))))))))))))))) (.cons (.there rfl (.there rfl (.there rfl (.there rfl (.there rfl (.there rfl (.there rfl (.there rfl (.there rfl (.there rfl (.there rfl (.there rfl (.there rfl (.there rfl (.there rfl (.there rfl (.there rfl (.there rfl (.there rfl (.there rfl (.there rfl (.there rfl (.there rfl (.there rfl (.here))))))))))))))))))))))))) (.cons (.there rfl (.there rfl (.there rfl (.there rfl (.there rfl (.there rfl (.there rfl (.there rfl (.there rfl (.there rfl (.there rfl (.there rfl (.there rfl (.there rfl (.there rfl (.there rfl (.there rfl (.there rfl (.there rfl (.there rfl (.there rfl (.there rfl (.there rfl (.there rfl (.there rfl (.here)))))))))))))))))))))))))) .nil))))))))) ?_
    refine wpC_seq ?_
    refine wC_ops ?_
    refine wI_fieldAddr (.t (.there rfl (.there rfl (.there rfl (.there rfl (.here)))))) ?_
    refine wI_load1 (.t (.here)) aGET rfl ?_
    refine wI_fieldAddr (.t (.there rfl (.there rfl (.there rfl (.there rfl (.there rfl (.there rfl (.there rfl (.here))))))))) ?_
    refine wI_load1 (.t (.here)) aGET rfl ?_
    refine wI_sub (.t (.there rfl (.there rfl (.here)))) (.t (.here)) (wrap64 aOM) ?_
    refine wI_fieldAddr (.t (.there rfl (.there rfl (.there rfl (.there rfl (.there rfl (.there rfl (.there rfl (.there rfl (.there rfl (.there rfl (.here)))))))))))) ?_
    refine wI_load1 (.t (.here)) aGET rfl ?_
    refine wI_fieldAddr (.t (.there rfl (.there rfl (.there rfl (.there rfl (.there rfl (.there rfl (.there rfl (.there rfl (.there rfl (.there rfl (.there rfl (.here))))))))))))) ?_
    refine wI_load1 (.t (.here)) aGET rfl ?_
    refine wI_sub (.t (.there rfl (.there rfl (.here)))) (.t (.here)) (wrap64 aOM) ?_
    refine wI_max2 (.t (.there rfl (.there rfl (.there rfl (.there rfl (.there rfl (.here))))))) (.t (.here)) ?_
    refine wI_mov (.t (.there rfl (.there rfl (.there rfl (.there rfl (.there rfl (.there rfl (.there rfl (.there rfl (.there rfl (.there rfl (.there rfl (.there rfl (.there rfl (.there rfl (.here)))))))))))))))) ?_
    refine wI_gtr (.t (.there rfl (.here))) (.t (.here)) ?_
    refine wI_end (.cons (.there rfl (.there rfl (.there rfl (.there rfl (.there rfl (.there rfl (.there rfl (.there rfl (.there rfl (.there rfl (.there rfl (.there rfl (.there rfl (.here)))))))))))))) (.cons (.there rfl (.there rfl (.there rfl (.there rfl (.there rfl (.there rfl (.there rfl (.there rfl (.there rfl (.there rfl (.there rfl (.there rfl (.there rfl (.there rfl (.here))))))))))))))) (.cons (.there rfl (.there rfl (.there rfl (.there rfl (.there rfl (.there rfl (.there rfl (.there rfl (.there rfl (.there rfl (.there rfl (.there rfl (.there rfl (.there rfl (.there rfl (.here)))))))))))))))) (.cons (.there rfl (.there rfl (.there rfl (.there rfl (.there rfl (.there rfl (.there rfl (.there rfl (.there rfl (.there rfl (.there rfl (.there rfl (.there rfl (.there rfl (.there rfl (.there rfl (.there rfl (.there rfl (.there rfl (.here)))))))))))))))))))) (.cons (.there rfl (.there rfl (.there rfl (.there rfl (.there rfl (.there rfl (.there rfl (.there rfl (.there rfl (.there rfl (.there rfl (.there rfl (.there rfl (.there rfl (.there rfl (.there rfl (.there rfl (.there rfl (.there rfl (.there rfl (.here))))))))))))))))))))) (.cons (.there rfl (.there rfl (.there rfl (.there rfl (.there rfl (.there rfl (.there rfl (.there rfl (.there rfl (.there rfl (.there rfl (.there rfl (.there rfl (.there rfl (.there rfl (.there rfl (.there rfl (.there rfl (.there rfl (.there rfl (.there rfl (.here)))))))))))))))))))))) (.cons (.here) .nil))))))) ?_
    refine wC_if (.t (.there rfl (.there rfl (.there rfl (.there rfl (.there rfl (.there rfl (.here)))))))) (fun c7 => ?_) (fun c7 => ?_)
    · -- c7 True
      refine wpC_seq ?_
      refine wC_ops ?_
      refine wI_mov .c ?_
      refine wI_end (.cons (.here) .nil) ?_
      refine wpC_ret (ret1 (.here) ?_)
      refine ⟨?_, aSUB⟩
      congr 1
      unfold alike
      first | (rw [near_true (fun j hj => hnear j aOM)]; simp; omega) | (rw [near_false i aOM (by split at * <;> omega)]; simp)
    · -- c7 False
      refine wpC_skip ?_
      refine wC_ops ?_
      refine wI_add (.t (.there rfl (.there rfl (.there rfl (.there rfl (.there rfl (.here))))))) .c (wrap64 aOM) ?_
      refine wI_mov (.t (.here)) ?_
      refine wI_end (.cons (.there rfl (.there rfl (.here))) (.cons (.there rfl (.there rfl (.there rfl (.here)))) (.cons (.there rfl (.there rfl (.there rfl (.there rfl (.here))))) (.cons (.there rfl (.there rfl (.there rfl (.there rfl (.there rfl (.here)))))) (.cons (.there rfl (.there rfl (.there rfl (.there rfl (.there rfl (.there rfl (.here))))))) (.cons (.here) .nil)))))) ?_
      refine ⟨i + 1, (.cons (.here) (.cons (.there rfl (.here)) (.cons (.there rfl (.there rfl (.here))) (.cons (.there rfl (.there rfl (.there rfl (.here)))) (.cons (.there rfl (.there rfl (.there rfl (.there rfl (.here))))) (.cons (.there rfl (.there rfl (.there rfl (.there rfl (.there rfl (.here)))))) .nil)))))), ?_, ?_⟩
      · refine ⟨aSUB, aGET, by omega, fun j hj => ?_⟩
        rcases Nat.lt_or_ge j i with c | c
        · exact hnear j c
        · rw [show j = i by omega]; (try simp only [decide_eq_true_eq, decide_eq_false_iff_not] at *); (repeat' split at *) <;> omega
      · (first | omega | (simp only []; omega))
  · -- c1 False
    refine wpC_exit ?_
    refine wpC_seq ?_
    refine wC_ops ?_
    refine wI_mov (.t (.here)) ?_
    refine wI_mov (.t (.there rfl (.there rfl (.here)))) ?_
    refine wI_neI (.t (.there rfl (.here))) (.t (.here)) ?_
    refine wI_mov (.t (.here)) ?_
    refine wI_end (.cons (.here) .nil) ?_
    refine wpC_ret (ret1 (.here) ?_)
    refine ⟨?_, aSUB⟩
    congr 1
    unfold alike
    first | (rw [near_true (fun j hj => hnear j aOM)]; simp; omega) | (rw [near_false i aOM (by split at * <;> omega)]; simp)

theorem s72 (hT : Ext fns1 T) {a b : AV} {t : List Int} {I : List (List Rng)} {vs : List AV} (hS : SortAt H0 a b t I vs) (hok : Ok t I) (p q : Nat) (hp : p < I.length) (hq : q < I.length) :
    wpF T (.fn 72 []) [.agg [a, b], .int .i64 p, .int .i64 q] H0 (fun r H => r = .bool (alike t I p q) ∧ H0.Sub H) := by
  refine wF hT (af := A72) rfl ?_
  obtain ⟨ht, hv, hn, hI, hm1, hm2, hm3⟩ := hS
  obtain ⟨ok1, ok2, ok3, ok4, ok5⟩ := hok
  have hrp := hI p hp
  have hrq := hI q hq
  have hlp := ok4 p hp
  have hlq := ok4 q hq
  refine wpC_seq ?_
  refine wC_ops ?_
  refine wI_box (.t (.here)) aBOX ?_
  refine wI_mov .c ?_
  refine wI_end (.cons (.there rfl (.there rfl (.there rfl (.here)))) (.cons (.there rfl (.there rfl (.there rfl (.there rfl (.here))))) (.cons (.there rfl (.here)) .nil))) ?_
  refine wpC_seq ?_
  refine wpC_seq ?_
  refine wC_ops ?_
  refine wI_mov (.t (.here)) ?_
  refine wI_mov (.t (.there rfl (.there rfl (.here)))) ?_
  refine wI_eqI (.t (.there rfl (.here))) (.t (.here)) ?_
  refine wI_end (.cons (.there rfl (.there rfl (.there rfl (.here)))) (.cons (.there rfl (.there rfl (.there rfl (.there rfl (.here))))) (.cons (.there rfl (.there rfl (.there rfl (.there rfl (.there rfl (.here)))))) (.cons (.here) .nil)))) ?_
  refine wC_if (.t (.there rfl (.there rfl (.there rfl (.here))))) (fun c1 => ?_) (fun c1 => ?_)
  · -- c1 True
    refine wpC_seq ?_
    refine wC_ops ?_
    refine wI_mov .c ?_
    refine wI_end (.cons (.here) .nil) ?_
    refine wpC_ret (ret1 (.here) ?_)
    refine ⟨?_, aSUB⟩
    congr 1
    unfold alike
    first | (simp; omega) | (rw [near_true (fun j hj => hnear j aOM)]; simp; omega) | (rw [near_false i aOM (by (try simp only [decide_eq_true_eq, decide_eq_false_iff_not] at *); omega)]; simp)
  · -- c1 False
    refine wpC_skip ?_
    refine wpC_seq ?_
    refine wpC_seq ?_
    refine wC_ops ?_
    refine wI_mov .c ?_
    refine wI_end (.cons (.there rfl (.here)) (.cons (.there rfl (.there rfl (.here))) (.cons (.there rfl (.there rfl (.there rfl (.here)))) (.cons (.here) .nil)))) ?_
    refine wpC_block ?_
    refine wC_loop (α := Nat) (fun i => [(1, .int .i64 p), (2, .int .i64 q), (3, .ptr H0.next 0), (7, .int .i64 i)]) (fun i H => H0.Sub H ∧ H.get H0.next = some (.cells [a, b] true) ∧ i ≤ t.length ∧ ∀ j, j < i → ((I.getD p []).getD j (0, 0)).2 - ((I.getD q []).getD j (0, 0)).1 ≤ t.getD j 0 ∧ ((I.getD q []).getD j (0, 0)).2 - ((I.getD p []).getD j (0, 0)).1 ≤ t.getD j 0) (fun i => t.length - i) 0 (.cons (.here) (.cons (.there rfl (.here)) (.cons (.there rfl (.there rfl (.here))) (.cons (.there rfl (.there rfl (.there rfl (.here)))) .nil)))) ?_ ?_
    · exact ⟨aSUB, aGET, by omega, fun j hj => by omega⟩
    rintro i H1 ⟨hs, hb, hi, hnear⟩
    have hsn := hs.next
    refine wpC_seq ?_
    refine wpC_seq ?_
    refine wC_ops ?_
    refine wI_mov (.t (.there rfl (.there rfl (.there rfl (.here))))) ?_
    refine wI_fieldAddr (.t (.there rfl (.there rfl (.there rfl (.here))))) ?_
    refine wI_load1 (.t (.here)) aGET rfl ?_
    refine wI_lenSl (.t (.here)) aLEN ?_
    refine wI_lss (.t (.there rfl (.there rfl (.there rfl (.here))))) (.t (.here)) ?_
    refine wI_end (.cons (.there rfl (.there rfl (.there rfl (.there rfl (.there rfl (.here)))))) (.cons (.there rfl (.there rfl (.there rfl (.there rfl (.there rfl (.there rfl (.here))))))) (.cons (.there rfl (.there rfl (.there rfl (.there rfl (.there rfl (.there rfl (.there rfl (.here)))))))) (.cons (.there rfl (.there rfl (.there rfl (.there rfl (.there rfl (.there rfl (.there rfl (.there rfl (.here))))))))) (.cons (.here) .nil))))) ?_
    refine wC_if (.t (.there rfl (.there rfl (.there rfl (.there rfl (.here)))))) (fun c2 => ?_) (fun c2 => ?_)
    · -- c2 True
      refine wpC_skip ?_
      refine wpC_seq ?_
      refine wpC_block ?_
      refine wpC_seq ?_
      refine wC_ops ?_
      have b1 := ok5 p i hp aOM
      have b2 := ok5 q i hq aOM
      have b3 := ok2 i aOM
      refine wI_fieldAddr (.t (.there rfl (.there rfl (.here)))) ?_
      refine wI_load1 (.t (.here)) aGET rfl ?_
      refine wI_mov (.t (.there rfl (.there rfl (.here)))) ?_
      first | refine wI_ixInts (.t (.there rfl (.here))) aATI (.t (.here)) rfl aOM (fun b3 o3 p3 => ?_) | refine wI_ixVals (.t (.there rfl (.here))) aATI (.t (.here)) rfl aOM (fun b3 o3 p3 => ?_) | refine wI_ixBools (.t (.there rfl (.here))) aATI (.t (.here)) rfl aOM (fun b3 o3 p3 => ?_)
      refine wI_ldc1 0 (.t (.here)) (by first | exact p3 | exact Cells.mono p3 aSUB) rfl ?_
      refine wI_mov (.t (.there rfl (.there rfl (.there rfl (.there rfl (.there rfl (.there rfl (.there rfl (.there rfl (.here)))))))))) ?_
      first | refine wI_ixRngs (.t (.there rfl (.here))) aATI (.t (.here)) rfl aOM (fun b4 o4 p4 => ?_)
      refine wI_ldcN (.t (.here)) (by first | exact p4 | exact Cells.mono p4 aSUB) rfl ?_
      refine wI_fieldAddr (.t (.there rfl (.there rfl (.there rfl (.there rfl (.there rfl (.there rfl (.there rfl (.there rfl (.there rfl (.there rfl (.here)))))))))))) ?_
      refine wI_load1 (.t (.here)) aGET rfl ?_
      refine wI_mov (.t (.there rfl (.there rfl (.there rfl (.there rfl (.there rfl (.there rfl (.there rfl (.there rfl (.there rfl (.there rfl (.there rfl (.here))))))))))))) ?_
      first | refine wI_ixInts (.t (.there rfl (.here))) aATI (.t (.here)) rfl aOM (fun b5 o5 p5 => ?_) | refine wI_ixVals (.t (.there rfl (.here))) aATI (.t (.here)) rfl aOM (fun b5 o5 p5 => ?_) | refine wI_ixBools (.t (.there rfl (.here))) aATI (.t (.here)) rfl aOM (fun b5 o5 p5 => ?_)
      refine wI_ldc1 0 (.t (.here)) (by first | exact p5 | exact Cells.mono p5 aSUB) rfl ?_
      refine wI_mov (.t (.there rfl (.there rfl (.there rfl (.there rfl (.there rfl (.there rfl (.there rfl (.there rfl (.there rfl (.there rfl (.there rfl (.there rfl (.there rfl (.there rfl (.there rfl (.there rfl (.here)))))))))))))))))) ?_
      first | refine wI_ixRngs (.t (.there rfl (.here))) aATI (.t (.here)) rfl aOM (fun b6 o6 p6 => ?_)
      refine wI_ldcN (.t (.here)) (by first | exact p6 | exact Cells.mono p6 aSUB) rfl ?_
      refine wI_alloc ?_
      refine wI_alloc ?_
      first | refine wI_storeA (.t (.there rfl (.here))) (.t (.there rfl (.there rfl (.there rfl (.there rfl (.there rfl (.there rfl (.there rfl (.there rfl (.there rfl (.there rfl (.here)))))))))))) aGET rfl aBOX aRC ?_ | refine wI_store1 (.t (.there rfl (.here))) (.t (.there rfl (.there rfl (.there rfl (.there rfl (.there rfl (.there rfl (.there rfl (.there rfl (.there rfl (.there rfl (.here)))))))))))) aGET aONE aRC ?_
      refine wI_chkLoad1 (.there rfl (.there rfl (.there rfl (.there rfl (.there rfl (.there rfl (.there rfl (.there rfl (.here))))))))) (.t (.there rfl (.there rfl (.there rfl (.there rfl (.there rfl (.there rfl (.there rfl (.there rfl (.there rfl (.here))))))))))) aGET rfl aSAME ?_
      refine wI_chkldc1 0 (.there rfl (.there rfl (.there rfl (.there rfl (.there rfl (.here)))))) (.t (.there rfl (.there rfl (.there rfl (.there rfl (.there rfl (.there rfl (.here)))))))) (by first | exact p5 | exact Cells.mono p5 aSUB) rfl aSAME ?_
      refine wI_chkldcN (.there rfl (.there rfl (.here))) (.t (.there rfl (.there rfl (.there rfl (.here))))) (by first | exact p6 | exact Cells.mono p6 aSUB) rfl aSAME ?_
      first | refine wI_storeA (.t (.here)) (.t (.there rfl (.there rfl (.here)))) aGET rfl aBOX aRC ?_ | refine wI_store1 (.t (.here)) (.t (.there rfl (.there rfl (.here)))) aGET aONE aRC ?_
      refine wI_end (.cons (.there rfl (.there rfl (.there rfl (.there rfl (.there rfl (.there rfl (.there rfl (.there rfl (.there rfl (.there rfl (.there rfl (.there rfl (.there rfl (.there rfl (.there rfl (.there rfl (.there rfl (.there rfl (.here))))))))))))))))))) (.cons (.there rfl (.there rfl (.there rfl (.there rfl (.there rfl (.there rfl (.there rfl (.there rfl (.there rfl (.there rfl (.there rfl (.there rfl (.there rfl (.there rfl (.there rfl (.there rfl (.there rfl (.there rfl (.there rfl (.here)))))))))))))))))))) (.cons (.there rfl (.there rfl (.there rfl (.there rfl (.there rfl (.there rfl (.there rfl (.there rfl (.there rfl (.there rfl (.there rfl (.there rfl (.there rfl (.there rfl (.there rfl (.there rfl (.there rfl (.there rfl (.there rfl (.there rfl (.here))))))))))))))))))))) (.cons (.there rfl (.there rfl (.there rfl (.there rfl (.there rfl (.there rfl (.there rfl (.there rfl (.there rfl (.there rfl (.there rfl (.there rfl (.there rfl (.there rfl (.there rfl (.there rfl (.there rfl (.there rfl (.there rfl (.there rfl (.there rfl (.here)))))))))))))))))))))) (.cons (.there rfl (.here)) (.cons (.here) .nil)))))) ?_
      refine wpC_seq ?_
      refine wC_ops ?_
      refine wI_fieldAddr (.t (.there rfl (.there rfl (.there rfl (.there rfl (.here)))))) ?_
      refine wI_load1 (.t (.here)) aGET rfl ?_
      refine wI_fieldAddr (.t (.there rfl (.there rfl (.there rfl (.there rfl (.there rfl (.there rfl (.there rfl (.here))))))))) ?_
      refine wI_load1 (.t (.here)) aGET rfl ?_
      refine wI_sub (.t (.there rfl (.there rfl (.here)))) (.t (.here)) (wrap64 aOM) ?_
      refine wI_fieldAddr (.t (.there rfl (.there rfl (.there rfl (.there rfl (.there rfl (.there rfl (.there rfl (.here))))))))) ?_
      refine wI_load1 (.t (.here)) aGET rfl ?_
      refine wI_mov (.t (.there rfl (.there rfl (.there rfl (.there rfl (.there rfl (.there rfl (.there rfl (.there rfl (.there rfl (.there rfl (.here)))))))))))) ?_
      first | refine wI_ixInts (.t (.there rfl (.here))) aATI (.t (.here)) rfl aOM (fun b7 o7 p7 => ?_) | refine wI_ixVals (.t (.there rfl (.here))) aATI (.t (.here)) rfl aOM (fun b7 o7 p7 => ?_) | refine wI_ixBools (.t (.there rfl (.here))) aATI (.t (.here)) rfl aOM (fun b7 o7 p7 => ?_)
      refine wI_ldc1 0 (.t (.here)) (by first | exact p7 | exact Cells.mono p7 aSUB) rfl ?_
      refine wI_gtr (.t (.there rfl (.there rfl (.there rfl (.there rfl (.there rfl (.here))))))) (.t (.here)) ?_
      refine wI_mov (.t (.here)) ?_
      refine wI_gdF (.here) (fun g8 => ?_) (fun g8 => ?_)
      · -- g8 False
        refine wI_fieldAddr (.t (.there rfl (.there rfl (.there rfl (.there rfl (.there rfl (.there rfl (.there rfl (.there rfl (.there rfl (.there rfl (.there rfl (.there rfl (.there rfl (.there rfl (.there rfl (.there rfl (.there rfl (.here))))))))))))))))))) ?_
        refine wI_yes (.there rfl (.here)) g8 ?_
        refine wI_load1 (.t (.here)) aGET rfl ?_
        refine wI_yes (.there rfl (.there rfl (.here))) g8 ?_
        refine wI_fieldAddr (.t (.there rfl (.there rfl (.there rfl (.there rfl (.there rfl (.there rfl (.there rfl (.there rfl (.there rfl (.there rfl (.there rfl (.there rfl (.there rfl (.there rfl (.there rfl (.there rfl (.there rfl (.there rfl (.here)))))))))))))))))))) ?_
        refine wI_yes (.there rfl (.there rfl (.there rfl (.here)))) g8 ?_
        refine wI_load1 (.t (.here)) aGET rfl ?_
        refine wI_yes (.there rfl (.there rfl (.there rfl (.there rfl (.here))))) g8 ?_
        refine wI_sub (.t (.there rfl (.there rfl (.here)))) (.t (.here)) (wrap64 aOM) ?_
        refine wI_yes (.there rfl (.there rfl (.there rfl (.there rfl (.there rfl (.here)))))) g8 ?_
        refine wI_fieldAddr (.t (.there rfl (.there rfl (.there rfl (.there rfl (.there rfl (.there rfl (.there rfl (.there rfl (.there rfl (.there rfl (.there rfl (.there rfl (.there rfl (.there rfl (.there rfl (.there rfl (.there rfl (.there rfl (.there rfl (.here))))))))))))))))))))) ?_
        refine wI_yes (.there rfl (.there rfl (.there rfl (.there rfl (.there rfl (.there rfl (.here))))))) g8 ?_
        refine wI_load1 (.t (.here)) aGET rfl ?_
        refine wI_yes (.there rfl (.there rfl (.there rfl (.there rfl (.there rfl (.there rfl (.there rfl (.here)))))))) g8 ?_
        refine wI_mov (.t (.there rfl (.there rfl (.there rfl (.there rfl (.there rfl (.there rfl (.there rfl (.there rfl (.there rfl (.there rfl (.there rfl (.there rfl (.there rfl (.there rfl (.there rfl (.there rfl (.there rfl (.there rfl (.there rfl (.there rfl (.there rfl (.there rfl (.here)))))))))))))))))))))))) ?_
        refine wI_yes (.there rfl (.there rfl (.there rfl (.there rfl (.there rfl (.there rfl (.there rfl (.there rfl (.here))))))))) g8 ?_
        first | refine wI_ixInts (.t (.there rfl (.here))) aATI (.t (.here)) rfl aOM (fun b9 o9 p9 => ?_) | refine wI_ixVals (.t (.there rfl (.here))) aATI (.t (.here)) rfl aOM (fun b9 o9 p9 => ?_) | refine wI_ixBools (.t (.there rfl (.here))) aATI (.t (.here)) rfl aOM (fun b9 o9 p9 => ?_)
        refine wI_yes (.there rfl (.there rfl (.there rfl (.there rfl (.there rfl (.there rfl (.there rfl (.there rfl (.there rfl (.here)))))))))) g8 ?_
        refine wI_ldc1 0 (.t (.here)) (by first | exact p9 | exact Cells.mono p9 aSUB) rfl ?_
        refine wI_yes (.there rfl (.there rfl (.there rfl (.there rfl (.there rfl (.there rfl (.there rfl (.there rfl (.there rfl (.there rfl (.here))))))))))) g8 ?_
        refine wI_gtr (.t (.there rfl (.there rfl (.there rfl (.there rfl (.there rfl (.here))))))) (.t (.here)) ?_
        refine wI_pickF (.t (.there rfl (.there rfl (.there rfl (.there rfl (.there rfl (.there rfl (.there rfl (.there rfl (.there rfl (.there rfl (.there rfl (.here))))))))))))) g8 (.t (.here)) ?_
        refine wI_end (.cons (.there rfl (.there rfl (.there rfl (.there rfl (.there rfl (.there rfl (.there rfl (.there rfl (.there rfl (.there rfl (.there rfl (.there rfl (.there rfl (.there rfl (.there rfl (.there rfl (.there rfl (.there rfl (.there rfl (.there rfl (.there rfl (.there rfl (.there rfl (.there rfl (.here))))))))))))))))))))))))) (.cons (.there rfl (.there rfl (.there rfl (.there rfl (.there rfl (.there rfl (.there rfl (.there rfl (.there rfl (.there rfl (.there rfl (.there rfl (.there rfl (.there rfl (.there rfl (.there rfl (.there rfl (.there rfl (.there rfl (.there rfl (.there rfl (.there rfl (.there rfl (.there rfl (.there rfl (.here)))))))))))))))))))))))))) (.cons (.there rfl (.there rfl (.there rfl (.there rfl (.there rfl (.there rfl (.there rfl (.there rfl (.there rfl (.there rfl (.there rfl (.there rfl (.there rfl (.there rfl (.there rfl (.there rfl (.there rfl (.there rfl (.there rfl (.there rfl (.there rfl (.there rfl (.there rfl (.there rfl (.there rfl (.there rfl (.here))))))))))))))))))))))))))) (.cons (.there rfl (.there rfl (.there rfl (.there rfl (.there rfl (.there rfl (.there rfl (.there rfl (.there rfl (.there rfl (.there rfl (.there rfl (.there rfl (.there rfl (.there rfl (.there rfl (.there rfl (.there rfl (.there rfl (.there rfl (.there rfl (.there rfl (.there rfl (.there rfl (.there rfl (.there rfl (.there rfl (.here)))))))))))))))))))))))))))) (.cons (.here) .nil))))) ?_
        refine wC_if (.t (.there rfl (.there rfl (.there rfl (.there rfl (.here)))))) (fun c10 => ?_) (fun c10 => ?_)
        · -- c10 True
          refine wpC_seq ?_
          refine wC_ops ?_
          refine wI_mov .c ?_
          refine wI_end (.cons (.here) .nil) ?_
          refine wpC_ret (ret1 (.here) ?_)
          refine ⟨?_, aSUB⟩
          congr 1
          unfold alike
          first | (simp; omega) | (rw [near_true (fun j hj => hnear j aOM)]; simp; omega) | (rw [near_false i aOM (by (try simp only [decide_eq_true_eq, decide_eq_false_iff_not] at *); omega)]; simp)
        · -- c10 False
          refine wpC_skip ?_
          refine wC_ops ?_
          refine wI_mov (.t (.there rfl (.there rfl (.there rfl (.here))))) ?_
          refine wI_add (.t (.here)) .c (wrap64 aOM) ?_
          refine wI_mov (.t (.here)) ?_
          refine wI_end (.cons (.there rfl (.there rfl (.there rfl (.here)))) (.cons (.there rfl (.there rfl (.there rfl (.there rfl (.here))))) (.cons (.there rfl (.there rfl (.there rfl (.there rfl (.there rfl (.here)))))) (.cons (.here) .nil)))) ?_
          refine ⟨i + 1, (.cons (.here) (.cons (.there rfl (.here)) (.cons (.there rfl (.there rfl (.here))) (.cons (.there rfl (.there rfl (.there rfl (.here)))) .nil)))), ?_, ?_⟩
          · refine ⟨aSUB, aGET, by omega, fun j hj => ?_⟩
            rcases Nat.lt_or_ge j i with c | c
            · exact hnear j c
            · rw [show j = i by omega]; (try simp only [decide_eq_true_eq, decide_eq_false_iff_not] at *); (repeat' split at *) <;> omega
          · (first | omega | (simp only []; omega))
      · -- g8 True
        refine wI_no (.there rfl (.here)) (by rw [g8]; decide) ?_
        refine wI_no (.there rfl (.there rfl (.here))) (by rw [g8]; decide) ?_
        refine wI_no (.there rfl (.there rfl (.there rfl (.here)))) (by rw [g8]; decide) ?_
        refine wI_no (.there rfl (.there rfl (.there rfl (.there rfl (.here))))) (by rw [g8]; decide) ?_
        refine wI_no (.there rfl (.there rfl (.there rfl (.there rfl (.there rfl (.here)))))) (by rw [g8]; decide) ?_
        refine wI_no (.there rfl (.there rfl (.there rfl (.there rfl (.there rfl (.there rfl (.here))))))) (by rw [g8]; decide) ?_
        refine wI_no (.there rfl (.there rfl (.there rfl (.there rfl (.there rfl (.there rfl (.there rfl (.here)))))))) (by rw [g8]; decide) ?_
        refine wI_no (.there rfl (.there rfl (.there rfl (.there rfl (.there rfl (.there rfl (.there rfl (.there rfl (.here))))))))) (by rw [g8]; decide) ?_
        refine wI_no (.there rfl (.there rfl (.there rfl (.there rfl (.there rfl (.there rfl (.there rfl (.there rfl (.there rfl (.here)))))))))) (by rw [g8]; decide) ?_
        refine wI_no (.there rfl (.there rfl (.there rfl (.there rfl (.there rfl (.there rfl (.there rfl (.there rfl (.there rfl (.there rfl (.here))))))))))) (by rw [g8]; decide) ?_
        refine wI_pickT (.t (.there rfl (.there rfl (.there rfl (.there rfl (.there rfl (.there rfl (.there rfl (.there rfl (.there rfl (.there rfl (.there rfl (.here))))))))))))) g8 .c ?_
        refine wI_end (.cons (.there rfl (.there rfl (.there rfl (.there rfl (.there rfl (.there rfl (.there rfl (.there rfl (.there rfl (.there rfl (.there rfl (.there rfl (.there rfl (.there rfl (.there rfl (.there rfl (.there rfl (.there rfl (.there rfl (.there rfl (.there rfl (.there rfl (.there rfl (.there rfl (.here))))))))))))))))))))))))) (.cons (.there rfl (.there rfl (.there rfl (.there rfl (.there rfl (.there rfl (.there rfl (.there rfl (.there rfl (.there rfl (.there rfl (.there rfl (.there rfl (.there rfl (.there rfl (.there rfl (.there rfl (.there rfl (.there rfl (.there rfl (.there rfl (.there rfl (.there rfl (.there rfl (.there rfl (.here)))))))))))))))))))))))))) (.cons (.there rfl (.there rfl (.there rfl (.there rfl (.there rfl (.there rfl (.there rfl (.there rfl (.there rfl (.there rfl (.there rfl (.there rfl (.there rfl (.there rfl (.there rfl (.there rfl (.there rfl (.there rfl (.there rfl (.there rfl (.there rfl (.there rfl (.there rfl (.there rfl (.there rfl (.there rfl (.here))))))))))))))))))))))))))) (.cons (.there rfl (.there rfl (.there rfl (.there rfl (.there rfl (.there rfl (.there rfl (.there rfl (.there rfl (.there rfl (.there rfl (.there rfl (.there rfl (.there rfl (.there rfl (.there rfl (.there rfl (.there rfl (.there rfl (.there rfl (.there rfl (.there rfl (.there rfl (.there rfl (.there rfl (.there rfl (.there rfl (.here)))))))))))))))))))))))))))) (.cons (.here) .nil))))) ?_
        refine wC_condT (.t (.there rfl (.there rfl (.there rfl (.there rfl (.here)))))) rfl ?_
        refine wpC_seq ?_
        refine wC_ops ?_
        refine wI_mov .c ?_
        refine wI_end (.cons (.here) .nil) ?_
        refine wpC_ret (ret1 (.here) ?_)
        refine ⟨?_, aSUB⟩
        congr 1
        unfold alike
        first | (simp; omega) | (rw [near_true (fun j hj => hnear j aOM)]; simp; omega) | (rw [near_false i aOM (by (try simp only [decide_eq_true_eq, decide_eq_false_iff_not] at *); omega)]; simp)
    · -- c2 False
      refine wpC_exit ?_
      refine wpC_seq ?_
      refine wC_ops ?_
      refine wI_mov .c ?_
      refine wI_end (.cons (.here) .nil) ?_
      refine wpC_ret (ret1 (.here) ?_)
      refine ⟨?_, aSUB⟩
      congr 1
      unfold alike
      first | (simp; omega) | (rw [near_true (fun j hj => hnear j aOM)]; simp; omega) | (rw [near_false i aOM (by (try simp only [decide_eq_true_eq, decide_eq_false_iff_not] at *); omega)]; simp)

theorem s22 (hT : Ext fns1 T) {a b : AV} {t : List Int} {I : List (List Rng)} {vs : List AV} (hS : SortAt H0 a b t I vs) (x y : Int) :
    wpF T (.fn 22 []) [.agg [a, b], .int .i64 x, .int .i64 y] H0 (fun r H => r = .bool (alikeS t I x y) ∧ H0.Sub H) := by
  refine wF hT (af := A22) rfl ?_
  obtain ⟨ht, hv, hn, hI, hm1, hm2, hm3⟩ := id hS
  refine wpC_seq ?_
  refine wC_ops ?_
  refine wI_box (.t (.here)) aBOX ?_
  refine wI_mov .c ?_
  refine wI_end (.cons (.there rfl (.there rfl (.there rfl (.here)))) (.cons (.there rfl (.there rfl (.there rfl (.there rfl (.here))))) (.cons (.there rfl (.here)) .nil))) ?_
  refine wpC_seq ?_
  refine wpC_seq ?_
  refine wC_ops ?_
  refine wI_loadT (.t (.there rfl (.there rfl (.here)))) aGET aRC ?_
  refine wI_call (.cons (.t (.here)) .nil) (s20 hT (by first | assumption | exact SortAt.mono (by assumption) aSUB)) ?_
  rintro _ H1 ⟨rfl, hs1⟩
  have hsn1 := hs1.next
  refine wI_neI (.t (.here)) .c ?_
  refine wI_end (.cons (.there rfl (.there rfl (.there rfl (.here)))) (.cons (.there rfl (.there rfl (.there rfl (.there rfl (.here))))) (.cons (.there rfl (.there rfl (.there rfl (.there rfl (.there rfl (.here)))))) (.cons (.here) .nil)))) ?_
  refine wC_if (.t (.there rfl (.there rfl (.there rfl (.here))))) (fun c2 => ?_) (fun c2 => ?_)
  · -- c2 True
    refine wpC_seq ?_
    refine wC_ops ?_
    refine wI_mov .c ?_
    refine wI_end (.cons (.here) .nil) ?_
    refine wpC_ret (ret1 (.here) ?_)
    refine ⟨?_, aSUB⟩
    congr 1
    unfold alikeS
    (first | (rw [show decide (check t I = 0) = false from decide_eq_false aSIMPL]; rfl) | (rw [show decide (0 ≤ x ∧ x < (I.length : Int)) = false from decide_eq_false aSIMPL]; simp; done) | (rw [show decide (0 ≤ y ∧ y < (I.length : Int)) = false from decide_eq_false aSIMPL]; simp; done) | (rw [show decide (check t I = 0) = true from decide_eq_true aSIMPL, show decide (0 ≤ (p : Int) ∧ (p : Int) < (I.length : Int)) = true from decide_eq_true aSIMPL, show decide (0 ≤ (q : Int) ∧ (q : Int) < (I.length : Int)) = true from decide_eq_true aSIMPL]; simp; done))
  · -- c2 False
    refine wpC_skip ?_
    refine wpC_seq ?_
    refine wC_ops ?_
    refine wI_fieldAddr (.t (.there rfl (.there rfl (.here)))) ?_
    refine wI_load1 (.t (.here)) aGET rfl ?_
    refine wI_lenSl (.t (.here)) aLEN ?_
    refine wI_sub (.t (.here)) .c (wrap64 aOM) ?_
    refine wI_mov (.t (.here)) ?_
    refine wI_end (.cons (.there rfl (.there rfl (.there rfl (.there rfl (.there rfl (.here)))))) (.cons (.there rfl (.there rfl (.there rfl (.there rfl (.there rfl (.there rfl (.here))))))) (.cons (.there rfl (.there rfl (.there rfl (.there rfl (.there rfl (.there rfl (.there rfl (.here)))))))) (.cons (.here) .nil)))) ?_
    refine wpC_seq ?_
    refine wC_ops ?_
    refine wI_mov (.t (.here)) ?_
    refine wI_mov (.t (.there rfl (.there rfl (.there rfl (.there rfl (.here)))))) ?_
    refine wI_call (.cons (.t (.there rfl (.here))) (.cons .c (.cons (.t (.here)) .nil))) (s68 hT _ _ _) ?_
    rintro _ _ ⟨rfl, heq3⟩
    obtain rfl := heq3.symm
    refine wI_mov (.t (.here)) ?_
    refine wI_gdT (.here) (fun g4 => ?_) (fun g4 => ?_)
    · -- g4 True
      refine wI_mov (.t (.there rfl (.there rfl (.there rfl (.there rfl (.there rfl (.here))))))) ?_
      refine wI_yes (.there rfl (.here)) g4 ?_
      refine wI_mov (.t (.there rfl (.there rfl (.there rfl (.there rfl (.there rfl (.there rfl (.there rfl (.there rfl (.here)))))))))) ?_
      refine wI_yes (.there rfl (.there rfl (.here))) g4 ?_
      refine wI_call (.cons (.t (.there rfl (.here))) (.cons .c (.cons (.t (.here)) .nil))) (s68 hT _ _ _) ?_
      rintro _ _ ⟨rfl, heq5⟩
      obtain rfl := heq5.symm
      refine wI_pickT (.t (.there rfl (.there rfl (.there rfl (.here))))) g4 (.t (.here)) ?_
      refine wI_mov (.t (.here)) ?_
      refine wI_gdT (.here) (fun g6 => ?_) (fun g6 => ?_)
      · -- g6 True
        have gx : 0 ≤ x ∧ x ≤ (vs.length : Int) - 1 := of_decide_eq_true (by assumption)
        have gy : 0 ≤ y ∧ y ≤ (vs.length : Int) - 1 := of_decide_eq_true (by assumption)
        obtain ⟨p, rfl⟩ : ∃ p : Nat, x = (p : Int) := ⟨x.toNat, by omega⟩
        obtain ⟨q, rfl⟩ : ∃ q : Nat, y = (q : Int) := ⟨y.toNat, by omega⟩
        refine wI_loadT (.t (.there rfl (.there rfl (.there rfl (.there rfl (.there rfl (.there rfl (.there rfl (.there rfl (.there rfl (.there rfl (.there rfl (.here))))))))))))) aGET aRC ?_
        refine wI_yes (.there rfl (.here)) g6 ?_
        refine wI_mov (.t (.there rfl (.there rfl (.there rfl (.there rfl (.there rfl (.there rfl (.there rfl (.there rfl (.there rfl (.there rfl (.here)))))))))))) ?_
        refine wI_yes (.there rfl (.there rfl (.here))) g6 ?_
        refine wI_mov (.t (.there rfl (.there rfl (.there rfl (.there rfl (.there rfl (.there rfl (.there rfl (.there rfl (.there rfl (.there rfl (.there rfl (.there rfl (.here)))))))))))))) ?_
        refine wI_yes (.there rfl (.there rfl (.there rfl (.here)))) g6 ?_
        refine wI_call (.cons (.t (.there rfl (.there rfl (.here)))) (.cons (.t (.there rfl (.here))) (.cons (.t (.here)) .nil))) (s71 hT (by first | assumption | exact SortAt.mono (by assumption) aSUB) ((check_ok t I).1 (by first | assumption | exact aSIMPL)) _ _ (by first | assumption | omega) (by first | assumption | omega)) ?_
        rintro _ H7 ⟨rfl, hs7⟩
        have hsn7 := hs7.next
        refine wI_pickT (.t (.there rfl (.there rfl (.there rfl (.there rfl (.here)))))) g6 (.t (.here)) ?_
        refine wI_mov (.t (.here)) ?_
        refine wI_end (.cons (.here) .nil) ?_
        refine wpC_ret (ret1 (.here) ?_)
        refine ⟨?_, aSUB⟩
        congr 1
        unfold alikeS
        (first | (rw [show decide (check t I = 0) = false from decide_eq_false aSIMPL]; rfl) | (rw [show decide (0 ≤ x ∧ x < (I.length : Int)) = false from decide_eq_false aSIMPL]; simp; done) | (rw [show decide (0 ≤ y ∧ y < (I.length : Int)) = false from decide_eq_false aSIMPL]; simp; done) | (rw [show decide (check t I = 0) = true from decide_eq_true aSIMPL, show decide (0 ≤ (p : Int) ∧ (p : Int) < (I.length : Int)) = true from decide_eq_true aSIMPL, show decide (0 ≤ (q : Int) ∧ (q : Int) < (I.length : Int)) = true from decide_eq_true aSIMPL]; simp; done))
      · -- g6 False
        refine wI_no (.there rfl (.here)) (by rw [g6]; decide) ?_
        refine wI_no (.there rfl (.there rfl (.here))) (by rw [g6]; decide) ?_
        refine wI_no (.there rfl (.there rfl (.there rfl (.here)))) (by rw [g6]; decide) ?_
        refine wI_pickF (.t (.there rfl (.there rfl (.there rfl (.there rfl (.here)))))) g6 .c ?_
        refine wI_mov (.t (.here)) ?_
        refine wI_end (.cons (.here) .nil) ?_
        refine wpC_ret (ret1 (.here) ?_)
        refine ⟨?_, aSUB⟩
        congr 1
        unfold alikeS
        (first | (rw [show decide (check t I = 0) = false from decide_eq_false aSIMPL]; rfl) | (rw [show decide (0 ≤ x ∧ x < (I.length : Int)) = false from decide_eq_false aSIMPL]; simp; done) | (rw [show decide (0 ≤ y ∧ y < (I.length : Int)) = false from decide_eq_false aSIMPL]; simp; done) | (rw [show decide (check t I = 0) = true from decide_eq_true aSIMPL, show decide (0 ≤ (p : Int) ∧ (p : Int) < (I.length : Int)) = true from decide_eq_true aSIMPL, show decide (0 ≤ (q : Int) ∧ (q : Int) < (I.length : Int)) = true from decide_eq_true aSIMPL]; simp; done))
    · -- g4 False
      refine wI_no (.there rfl (.here)) (by rw [g4]; decide) ?_
      refine wI_no (.there rfl (.there rfl (.here))) (by rw [g4]; decide) ?_
      refine wI_pickF (.t (.there rfl (.there rfl (.there rfl (.here))))) g4 .c ?_
      refine wI_mov (.t (.here)) ?_
      refine wI_no (.here) (by decide) ?_
      refine wI_no (.there rfl (.here)) (by decide) ?_
      refine wI_no (.there rfl (.there rfl (.here))) (by decide) ?_
      refine wI_no (.there rfl (.there rfl (.there rfl (.here)))) (by decide) ?_
      refine wI_pickF (.t (.there rfl (.there rfl (.there rfl (.there rfl (.here)))))) rfl .c ?_
      refine wI_mov (.t (.here)) ?_
      refine wI_end (.cons (.here) .nil) ?_
      refine wpC_ret (ret1 (.here) ?_)
      refine ⟨?_, aSUB⟩
      congr 1
      unfold alikeS
      (first | (rw [show decide (check t I = 0) = false from decide_eq_false aSIMPL]; rfl) | (rw [show decide (0 ≤ x ∧ x < (I.length : Int)) = false from decide_eq_false aSIMPL]; simp; done) | (rw [show decide (0 ≤ y ∧ y < (I.length : Int)) = false from decide_eq_false aSIMPL]; simp; done) | (rw [show decide (check t I = 0) = true from decide_eq_true aSIMPL, show decide (0 ≤ (p : Int) ∧ (p : Int) < (I.length : Int)) = true from decide_eq_true aSIMPL, show decide (0 ≤ (q : Int) ∧ (q : Int) < (I.length : Int)) = true from decide_eq_true aSIMPL]; simp; done))

theorem s23 (hT : Ext fns1 T) {a b : AV} {t : List Int} {I : List (List Rng)} {vs : List AV} (hS : SortAt H0 a b t I vs) (x y : Int) :
    wpF T (.fn 23 []) [.agg [a, b], .int .i64 x, .int .i64 y] H0 (fun r H => r = .bool (alikeS t I x y) ∧ H0.Sub H) := by
  refine wF hT (af := A23) rfl ?_
  obtain ⟨ht, hv, hn, hI, hm1, hm2, hm3⟩ := id hS
  refine wpC_seq ?_
  refine wC_ops ?_
  refine wI_box (.t (.here)) aBOX ?_
  refine wI_mov .c ?_
  refine wI_end (.cons (.there rfl (.there rfl (.there rfl (.here)))) (.cons (.there rfl (.there rfl (.there rfl (.there rfl (.here))))) (.cons (.there rfl (.here)) .nil))) ?_
  refine wpC_seq ?_
  refine wC_ops ?_
  refine wI_fieldAddr (.t (.there rfl (.there rfl (.here)))) ?_
  refine wI_load1 (.t (.here)) aGET rfl ?_
  refine wI_lenSl (.t (.here)) aLEN ?_
  refine wI_mov (.t (.here)) ?_
  refine wI_end (.cons (.there rfl (.there rfl (.there rfl (.there rfl (.here))))) (.cons (.there rfl (.there rfl (.there rfl (.there rfl (.there rfl (.here)))))) (.cons (.there rfl (.there rfl (.there rfl (.there rfl (.there rfl (.there rfl (.here))))))) (.cons (.here) .nil)))) ?_
  refine wpC_seq ?_
  refine wC_ops ?_
  refine wI_loadT (.t (.there rfl (.there rfl (.here)))) aGET aRC ?_
  refine wI_call (.cons (.t (.here)) .nil) (s21 hT (by first | assumption | exact SortAt.mono (by assumption) aSUB)) ?_
  rintro _ H1 ⟨rfl, hs1⟩
  have hsn1 := hs1.next
  refine wI_eqI (.t (.here)) .c ?_
  refine wI_mov (.t (.here)) ?_
  refine wI_gdT (.here) (fun g2 => ?_) (fun g2 => ?_)
  · -- g2 True
    refine wI_mov (.t (.there rfl (.there rfl (.there rfl (.there rfl (.here)))))) ?_
    refine wI_yes (.there rfl (.here)) g2 ?_
    refine wI_mov (.t (.there rfl (.there rfl (.there rfl (.there rfl (.there rfl (.there rfl (.there rfl (.there rfl (.here)))))))))) ?_
    refine wI_yes (.there rfl (.there rfl (.here))) g2 ?_
    refine wI_sub (.t (.here)) .c (wrap64 aOM) ?_
    refine wI_yes (.there rfl (.there rfl (.there rfl (.here)))) g2 ?_
    refine wI_call (.cons (.t (.there rfl (.there rfl (.here)))) (.cons .c (.cons (.t (.here)) .nil))) (s69 hT _ _ _) ?_
    rintro _ _ ⟨rfl, heq3⟩
    obtain rfl := heq3.symm
    refine wI_pickT (.t (.there rfl (.there rfl (.there rfl (.there rfl (.here)))))) g2 (.t (.here)) ?_
    refine wI_mov (.t (.here)) ?_
    refine wI_gdT (.here) (fun g4 => ?_) (fun g4 => ?_)
    · -- g4 True
      refine wI_mov (.t (.there rfl (.there rfl (.there rfl (.there rfl (.there rfl (.there rfl (.there rfl (.there rfl (.there rfl (.there rfl (.there rfl (.here))))))))))))) ?_
      refine wI_yes (.there rfl (.here)) g4 ?_
      refine wI_mov (.t (.there rfl (.there rfl (.there rfl (.there rfl (.there rfl (.there rfl (.there rfl (.there rfl (.there rfl (.there rfl (.there rfl (.there rfl (.there rfl (.there rfl (.here)))))))))))))))) ?_
      refine wI_yes (.there rfl (.there rfl (.here))) g4 ?_
      refine wI_sub (.t (.here)) .c (wrap64 aOM) ?_
      refine wI_yes (.there rfl (.there rfl (.there rfl (.here)))) g4 ?_
      refine wI_call (.cons (.t (.there rfl (.there rfl (.here)))) (.cons .c (.cons (.t (.here)) .nil))) (s69 hT _ _ _) ?_
      rintro _ _ ⟨rfl, heq5⟩
      obtain rfl := heq5.symm
      refine wI_pickT (.t (.there rfl (.there rfl (.there rfl (.there rfl (.here)))))) g4 (.t (.here)) ?_
      refine wI_mov (.t (.here)) ?_
      refine wI_gdT (.here) (fun g6 => ?_) (fun g6 => ?_)
      · -- g6 True
        have gx : 0 ≤ x ∧ x ≤ (vs.length : Int) - 1 := of_decide_eq_true (by assumption)
        have gy : 0 ≤ y ∧ y ≤ (vs.length : Int) - 1 := of_decide_eq_true (by assumption)
        obtain ⟨p, rfl⟩ : ∃ p : Nat, x = (p : Int) := ⟨x.toNat, by omega⟩
        obtain ⟨q, rfl⟩ : ∃ q : Nat, y = (q : Int) := ⟨y.toNat, by omega⟩
        refine wI_loadT (.t (.there rfl (.there rfl (.there rfl (.there rfl (.there rfl (.there rfl (.there rfl (.there rfl (.there rfl (.there rfl (.there rfl (.there rfl (.there rfl (.there rfl (.there rfl (.there rfl (.there rfl (.there rfl (.here)))))))))))))))))))) aGET aRC ?_
        refine wI_yes (.there rfl (.here)) g6 ?_
        refine wI_mov (.t (.there rfl (.there rfl (.there rfl (.there rfl (.there rfl (.there rfl (.there rfl (.there rfl (.there rfl (.there rfl (.there rfl (.there rfl (.there rfl (.there rfl (.there rfl (.there rfl (.there rfl (.here))))))))))))))))))) ?_
        refine wI_yes (.there rfl (.there rfl (.here))) g6 ?_
        refine wI_mov (.t (.there rfl (.there rfl (.there rfl (.there rfl (.there rfl (.there rfl (.there rfl (.there rfl (.there rfl (.there rfl (.there rfl (.there rfl (.there rfl (.there rfl (.there rfl (.there rfl (.there rfl (.there rfl (.there rfl (.here))))))))))))))))))))) ?_
        refine wI_yes (.there rfl (.there rfl (.there rfl (.here)))) g6 ?_
        refine wI_call (.cons (.t (.there rfl (.there rfl (.here)))) (.cons (.t (.there rfl (.here))) (.cons (.t (.here)) .nil))) (s72 hT (by first | assumption | exact SortAt.mono (by assumption) aSUB) ((check_ok t I).1 (by first | assumption | exact aSIMPL)) _ _ (by first | assumption | omega) (by first | assumption | omega)) ?_
        rintro _ H7 ⟨rfl, hs7⟩
        have hsn7 := hs7.next
        refine wI_pickT (.t (.there rfl (.there rfl (.there rfl (.there rfl (.here)))))) g6 (.t (.here)) ?_
        refine wI_mov (.t (.here)) ?_
        refine wI_end (.cons (.here) .nil) ?_
        refine wpC_ret (ret1 (.here) ?_)
        refine ⟨?_, aSUB⟩
        congr 1
        unfold alikeS
        (first | (rw [show decide (check t I = 0) = false from decide_eq_false aSIMPL]; rfl) | (rw [show decide (0 ≤ x ∧ x < (I.length : Int)) = false from decide_eq_false aSIMPL]; simp; done) | (rw [show decide (0 ≤ y ∧ y < (I.length : Int)) = false from decide_eq_false aSIMPL]; simp; done) | (rw [show decide (check t I = 0) = true from decide_eq_true aSIMPL, show decide (0 ≤ (p : Int) ∧ (p : Int) < (I.length : Int)) = true from decide_eq_true aSIMPL, show decide (0 ≤ (q : Int) ∧ (q : Int) < (I.length : Int)) = true from decide_eq_true aSIMPL]; simp; done))
      · -- g6 False
        refine wI_no (.there rfl (.here)) (by rw [g6]; decide) ?_
        refine wI_no (.there rfl (.there rfl (.here))) (by rw [g6]; decide) ?_
        refine wI_no (.there rfl (.there rfl (.there rfl (.here)))) (by rw [g6]; decide) ?_
        refine wI_pickF (.t (.there rfl (.there rfl (.there rfl (.there rfl (.here)))))) g6 .c ?_
        refine wI_mov (.t (.here)) ?_
        refine wI_end (.cons (.here) .nil) ?_
        refine wpC_ret (ret1 (.here) ?_)
        refine ⟨?_, aSUB⟩
        congr 1
        unfold alikeS
        (first | (rw [show decide (check t I = 0) = false from decide_eq_false aSIMPL]; rfl) | (rw [show decide (0 ≤ x ∧ x < (I.length : Int)) = false from decide_eq_false aSIMPL]; simp; done) | (rw [show decide (0 ≤ y ∧ y < (I.length : Int)) = false from decide_eq_false aSIMPL]; simp; done) | (rw [show decide (check t I = 0) = true from decide_eq_true aSIMPL, show decide (0 ≤ (p : Int) ∧ (p : Int) < (I.length : Int)) = true from decide_eq_true aSIMPL, show decide (0 ≤ (q : Int) ∧ (q : Int) < (I.length : Int)) = true from decide_eq_true aSIMPL]; simp; done))
    · -- g4 False
      refine wI_no (.there rfl (.here)) (by rw [g4]; decide) ?_
      refine wI_no (.there rfl (.there rfl (.here))) (by rw [g4]; decide) ?_
      refine wI_no (.there rfl (.there rfl (.there rfl (.here)))) (by rw [g4]; decide) ?_
      refine wI_pickF (.t (.there rfl (.there rfl (.there rfl (.there rfl (.here)))))) g4 .c ?_
      refine wI_mov (.t (.here)) ?_
      refine wI_no (.here) (by decide) ?_
      refine wI_no (.there rfl (.here)) (by decide) ?_
      refine wI_no (.there rfl (.there rfl (.here))) (by decide) ?_
      refine wI_no (.there rfl (.there rfl (.there rfl (.here)))) (by decide) ?_
      refine wI_pickF (.t (.there rfl (.there rfl (.there rfl (.there rfl (.here)))))) rfl .c ?_
      refine wI_mov (.t (.here)) ?_
      refine wI_end (.cons (.here) .nil) ?_
      refine wpC_ret (ret1 (.here) ?_)
      refine ⟨?_, aSUB⟩
      congr 1
      unfold alikeS
      (first | (rw [show decide (check t I = 0) = false from decide_eq_false aSIMPL]; rfl) | (rw [show decide (0 ≤ x ∧ x < (I.length : Int)) = false from decide_eq_false aSIMPL]; simp; done) | (rw [show decide (0 ≤ y ∧ y < (I.length : Int)) = false from decide_eq_false aSIMPL]; simp; done) | (rw [show decide (check t I = 0) = true from decide_eq_true aSIMPL, show decide (0 ≤ (p : Int) ∧ (p : Int) < (I.length : Int)) = true from decide_eq_true aSIMPL, show decide (0 ≤ (q : Int) ∧ (q : Int) < (I.length : Int)) = true from decide_eq_true aSIMPL]; simp; done))
  · -- g2 False
    refine wI_no (.there rfl (.here)) (by rw [g2]; decide) ?_
    refine wI_no (.there rfl (.there rfl (.here))) (by rw [g2]; decide) ?_
    refine wI_no (.there rfl (.there rfl (.there rfl (.here)))) (by rw [g2]; decide) ?_
    refine wI_pickF (.t (.there rfl (.there rfl (.there rfl (.there rfl (.here)))))) g2 .c ?_
    refine wI_mov (.t (.here)) ?_
    refine wI_no (.here) (by decide) ?_
    refine wI_no (.there rfl (.here)) (by decide) ?_
    refine wI_no (.there rfl (.there rfl (.here))) (by decide) ?_
    refine wI_no (.there rfl (.there rfl (.there rfl (.here)))) (by decide) ?_
    refine wI_pickF (.t (.there rfl (.there rfl (.there rfl (.there rfl (.here)))))) rfl .c ?_
    refine wI_mov (.t (.here)) ?_
    refine wI_no (.here) (by decide) ?_
    refine wI_no (.there rfl (.here)) (by decide) ?_
    refine wI_no (.there rfl (.there rfl (.here))) (by decide) ?_
    refine wI_no (.there rfl (.there rfl (.there rfl (.here)))) (by decide) ?_
    refine wI_pickF (.t (.there rfl (.there rfl (.there rfl (.there rfl (.here)))))) rfl .c ?_
    refine wI_mov (.t (.here)) ?_
    refine wI_end (.cons (.here) .nil) ?_
    refine wpC_ret (ret1 (.here) ?_)
    refine ⟨?_, aSUB⟩
    congr 1
    unfold alikeS
    (first | (rw [show decide (check t I = 0) = false from decide_eq_false aSIMPL]; rfl) | (rw [show decide (0 ≤ x ∧ x < (I.length : Int)) = false from decide_eq_false aSIMPL]; simp; done) | (rw [show decide (0 ≤ y ∧ y < (I.length : Int)) = false from decide_eq_false aSIMPL]; simp; done) | (rw [show decide (check t I = 0) = true from decide_eq_true aSIMPL, show decide (0 ≤ (p : Int) ∧ (p : Int) < (I.length : Int)) = true from decide_eq_true aSIMPL, show decide (0 ≤ (q : Int) ∧ (q : Int) < (I.length : Int)) = true from decide_eq_true aSIMPL]; simp; done))

theorem s65 (hT : Ext fns1 T) {d : Nat} (hd : DiceAt H0 d) :
    wpF T (.fn 65 []) [.ptr d 0] H0 (fun r H => (∃ z : Int, r = .int .u64 z ∧ 0 ≤ z ∧ z ≤ 18446744073709551615) ∧ DiceAt H d ∧ AH.SubX [d] H0 H) := by
  refine wF hT (af := A65) rfl ?_
  obtain ⟨w, hw, hw1, hw2⟩ := hd
  have hlt := AH.get_lt hw
  refine wpC_seq ?_
  refine wC_ops ?_
  refine wI_mov .c ?_
  refine wI_end (.cons (.there rfl (.here)) .nil) ?_
  refine wpC_seq ?_
  refine wC_ops ?_
  refine wI_mov (.t (.here)) ?_
  refine wI_mov (.t (.there rfl (.here))) ?_
  refine wI_nilCheck (.t (.here)) ?_
  refine wI_fieldAddr (.t (.here)) ?_
  refine wI_load1 (.t (.here)) aGET rfl ?_
  refine wI_u64 (.t (.here)) .c (by simp) (fun z9 hz9 => ?_)
  refine wI_nilCheck (.t (.there rfl (.there rfl (.there rfl (.there rfl (.there rfl (.here))))))) ?_
  refine wI_fieldAddr (.t (.here)) ?_
  first | refine wI_storeA (.t (.here)) (.t (.there rfl (.there rfl (.here)))) aGET rfl aBOX aRC ?_ | refine wI_store1 (.t (.here)) (.t (.there rfl (.there rfl (.here)))) aGET aONE aRC ?_
  refine wI_end (.cons (.there rfl (.there rfl (.there rfl (.there rfl (.there rfl (.there rfl (.there rfl (.there rfl (.here))))))))) .nil) ?_
  refine wpC_seq ?_
  refine wC_ops ?_
  refine wI_mov (.t (.here)) ?_
  refine wI_nilCheck (.t (.here)) ?_
  refine wI_fieldAddr (.t (.here)) ?_
  refine wI_load1 (.t (.here)) aGET rfl ?_
  refine wI_mov (.t (.here)) ?_
  refine wI_end (.cons (.here) .nil) ?_
  refine wpC_seq ?_
  refine wC_ops ?_
  refine wI_mov (.t (.here)) ?_
  refine wI_mov (.t (.there rfl (.here))) ?_
  refine wI_shr (.t (.here)) .c (by decide) rfl ?_
  refine wI_u64 (.t (.there rfl (.there rfl (.here)))) (.t (.here)) (by simp) (fun z19 hz19 => ?_)
  refine wI_u64 (.t (.here)) .c (by simp) (fun z20 hz20 => ?_)
  refine wI_mov (.t (.here)) ?_
  refine wI_end (.cons (.here) .nil) ?_
  refine wpC_seq ?_
  refine wC_ops ?_
  refine wI_mov (.t (.here)) ?_
  refine wI_mov (.t (.there rfl (.here))) ?_
  refine wI_shr (.t (.here)) .c (by decide) rfl ?_
  refine wI_u64 (.t (.there rfl (.there rfl (.here)))) (.t (.here)) (by simp) (fun z24 hz24 => ?_)
  refine wI_u64 (.t (.here)) .c (by simp) (fun z25 hz25 => ?_)
  refine wI_mov (.t (.here)) ?_
  refine wI_end (.cons (.here) .nil) ?_
  refine wpC_seq ?_
  refine wC_ops ?_
  refine wI_mov (.t (.here)) ?_
  refine wI_mov (.t (.there rfl (.here))) ?_
  refine wI_shr (.t (.here)) .c (by decide) rfl ?_
  refine wI_u64 (.t (.there rfl (.there rfl (.here)))) (.t (.here)) (by simp) (fun z29 hz29 => ?_)
  refine wI_mov (.t (.here)) ?_
  refine wI_end (.cons (.here) .nil) ?_
  refine wpC_ret (ret1 (.here) ?_)
  exact ⟨⟨_, rfl, hz29⟩, ⟨_, aGET, hz9⟩, (AH.SubX.refl _ _).put (.inl (by simp)) _⟩

theorem s41 (hT : Ext fns1 T) {d : Nat} (hd : DiceAt H0 d) (n : Int) (hn : n ≤ 9223372036854775807) :
    wpF T (.fn 41 []) [.ptr d 0, .int .i64 n] H0 (fun r H => (∃ z : Int, r = .int .i64 z ∧ 0 ≤ z ∧ (n < 1 → z = 0) ∧ (1 ≤ n → z < n)) ∧ DiceAt H d ∧ AH.SubX [d] H0 H) := by
  refine wF hT (af := A41) rfl ?_
  refine wpC_seq ?_
  refine wC_ops ?_
  refine wI_mov .c ?_
  refine wI_end (.cons (.there rfl (.here)) (.cons (.there rfl (.there rfl (.here))) .nil)) ?_
  refine wpC_seq ?_
  refine wC_ops ?_
  refine wI_mov (.t (.here)) ?_
  refine wI_call (.cons (.t (.here)) .nil) (s65 hT hd) ?_
  rintro _ H1 ⟨⟨z, rfl, hz⟩, hd1, hx1⟩
  refine wI_mov (.t (.here)) ?_
  refine wI_end (.cons (.there rfl (.there rfl (.there rfl (.there rfl (.here))))) (.cons (.here) .nil)) ?_
  refine wpC_seq ?_
  refine wpC_seq ?_
  refine wC_ops ?_
  refine wI_mov (.t (.here)) ?_
  refine wI_lss (.t (.here)) .c ?_
  refine wI_end (.cons (.there rfl (.there rfl (.here))) (.cons (.there rfl (.there rfl (.there rfl (.here)))) (.cons (.here) .nil))) ?_
  refine wC_if (.t (.there rfl (.there rfl (.here)))) (fun c2 => ?_) (fun c2 => ?_)
  · -- c2 True
    refine wpC_seq ?_
    refine wC_ops ?_
    refine wI_mov .c ?_
    refine wI_end (.cons (.here) .nil) ?_
    refine wpC_ret (ret1 (.here) ?_)
    first | exact ⟨⟨_, rfl, by omega, fun _ => by omega, fun _ => by omega⟩, by assumption, by assumption⟩
  · -- c2 False
    refine wpC_skip ?_
    refine wpC_seq ?_
    refine wC_ops ?_
    refine wI_mov (.t (.there rfl (.here))) ?_
    refine wI_mov (.t (.there rfl (.here))) ?_
    refine wI_convInt (.t (.here)) (by first | exact wrap64 aOM | exact wrap_u64 aOM) ?_
    have hm1 := Int.tmod_nonneg (b := n) (show 0 ≤ z by omega)
    have hm2 := Int.tmod_lt_of_pos z (show 0 < n by omega)
    refine wI_rem (.t (.there rfl (.there rfl (.here)))) (.t (.here)) aOM rfl ?_
    refine wI_convInt (.t (.here)) (by first | exact wrap64 aOM | exact wrap_u64 aOM) ?_
    refine wI_mov (.t (.here)) ?_
    refine wI_end (.cons (.here) .nil) ?_
    refine wpC_ret (ret1 (.here) ?_)
    first | exact ⟨⟨_, rfl, by omega, fun _ => by omega, fun _ => by omega⟩, by assumption, by assumption⟩

theorem s57 (hT : Ext fns1 T) {d : Nat} (hd : DiceAt H0 d) (lo hi : Int) (h0 : -1000000000 ≤ lo ∧ lo ≤ hi ∧ hi ≤ 1000000000) :
    wpF T (.fn 57 []) [.ptr d 0, .int .i64 lo, .int .i64 hi] H0 (fun r H => (∃ z : Int, r = .int .i64 z ∧ lo ≤ z ∧ z ≤ hi) ∧ DiceAt H d ∧ AH.SubX [d] H0 H) := by
  refine wF hT (af := A57) rfl ?_
  refine wpC_seq ?_
  refine wC_ops ?_
  refine wI_mov .c ?_
  refine wI_end (.cons (.there rfl (.here)) (.cons (.there rfl (.there rfl (.here))) (.cons (.there rfl (.there rfl (.there rfl (.here)))) .nil))) ?_
  refine wpC_seq ?_
  refine wC_ops ?_
  refine wI_mov (.t (.there rfl (.here))) ?_
  refine wI_mov (.t (.there rfl (.here))) ?_
  refine wI_mov (.t (.there rfl (.there rfl (.there rfl (.there rfl (.here)))))) ?_
  refine wI_mov (.t (.there rfl (.there rfl (.there rfl (.there rfl (.here)))))) ?_
  refine wI_sub (.t (.there rfl (.here))) (.t (.here)) (wrap64 aOM) ?_
  refine wI_add (.t (.here)) .c (wrap64 aOM) ?_
  refine wI_call (.cons (.t (.there rfl (.there rfl (.there rfl (.there rfl (.here)))))) (.cons (.t (.here)) .nil)) (s41 hT (by assumption) _ aOM) ?_
  rintro _ H1 ⟨⟨z1, rfl, hz1, hza1, hzb1⟩, hd1, hx1⟩
  have hzb := hzb1 aOM
  refine wI_add (.t (.there rfl (.there rfl (.there rfl (.there rfl (.there rfl (.there rfl (.here)))))))) (.t (.here)) (wrap64 aOM) ?_
  refine wI_mov (.t (.here)) ?_
  refine wI_end (.cons (.here) .nil) ?_
  refine wpC_ret (ret1 (.here) ?_)
  exact ⟨⟨_, rfl, by omega, by omega⟩, by assumption, by assumption⟩

theorem s34 (hT : Ext fns1 T) {d : Nat} (hd : DiceAt H0 d) (n : Int) (hn : n ≤ 9223372036854775807) :
    wpF T (.fn 34 []) [.ptr d 0, .int .i64 n] H0 (fun r H => (∃ z : Bool, r = .bool z) ∧ DiceAt H d ∧ AH.SubX [d] H0 H) := by
  refine wF hT (af := A34) rfl ?_
  refine wpC_seq ?_
  refine wC_ops ?_
  refine wI_mov .c ?_
  refine wI_end (.cons (.there rfl (.here)) (.cons (.there rfl (.there rfl (.here))) .nil)) ?_
  refine wpC_seq ?_
  refine wC_ops ?_
  refine wI_mov (.t (.here)) ?_
  refine wI_mov (.t (.there rfl (.there rfl (.here)))) ?_
  refine wI_call (.cons (.t (.there rfl (.here))) (.cons (.t (.here)) .nil)) (s41 hT (by assumption) _ aOM) ?_
  rintro _ H1 ⟨⟨z1, rfl, hz1, hza1, hzb1⟩, hd1, hx1⟩
  refine wI_eqI (.t (.here)) .c ?_
  refine wI_mov (.t (.here)) ?_
  refine wI_end (.cons (.here) .nil) ?_
  refine wpC_ret (ret1 (.here) ?_)
  exact ⟨⟨_, rfl⟩, by assumption, by assumption⟩

theorem s19 (hT : Ext fns1 T) {v : AV} {l : List Int} (hv : Ints H0 v l) (hl : l.length < 9223372036854775808) :
    wpF T (.fn 19 []) [v] H0 (fun r H => ∃ d, r = .ptr d 0 ∧ DiceAt H d ∧ H0.next ≤ d ∧ H0.Sub H) := by
  refine wF hT (af := A19) rfl ?_
  refine wpC_seq ?_
  refine wC_ops ?_
  refine wI_mov .c ?_
  refine wI_end (.cons (.there rfl (.here)) .nil) ?_
  refine wpC_seq ?_
  refine wC_ops ?_
  refine wI_mov (.t (.here)) ?_
  refine wI_lenSl (.t (.here)) aLEN ?_
  refine wI_convInt (.t (.here)) (by first | exact wrap64 aOM | exact wrap_u64 aOM) ?_
  refine wI_u64 (.t (.here)) .c (by simp) (fun z8 hz8 => ?_)
  refine wI_build (.one (.t (.here)) aONE aRC .nil) ?_
  refine wI_box (.t (.here)) aBOX ?_
  refine wI_mov (.t (.here)) ?_
  refine wI_end (.cons (.there rfl (.there rfl (.there rfl (.there rfl (.there rfl (.there rfl (.there rfl (.here)))))))) (.cons (.here) .nil)) ?_
  refine wpC_seq ?_
  refine wpC_seq ?_
  refine wC_ops ?_
  refine wI_mov .c ?_
  refine wI_end (.cons (.there rfl (.here)) (.cons (.there rfl (.there rfl (.here))) (.cons (.here) .nil))) ?_
  refine wpC_block ?_
  refine wC_loop (α := Nat) (fun i => [(0, v), (3, .ptr H0.next 0), (4, .int .i64 i)]) (fun i H => H0.Sub H ∧ DiceAt H H0.next ∧ i ≤ l.length) (fun i => l.length - i) 0 (.cons (.here) (.cons (.there rfl (.here)) (.cons (.there rfl (.there rfl (.here))) .nil))) ?_ ?_
  · exact ⟨aSUB, ⟨_, aGET, hz8⟩, by omega⟩
  rintro i H1 ⟨hs, hdi, hi⟩
  have hsn := hs.next
  refine wpC_seq ?_
  refine wpC_seq ?_
  refine wC_ops ?_
  refine wI_mov (.t (.there rfl (.there rfl (.here)))) ?_
  refine wI_mov (.t (.there rfl (.here))) ?_
  refine wI_lenSl (.t (.here)) aLEN ?_
  refine wI_lss (.t (.there rfl (.there rfl (.here)))) (.t (.here)) ?_
  refine wI_end (.cons (.there rfl (.there rfl (.there rfl (.there rfl (.here))))) (.cons (.there rfl (.there rfl (.there rfl (.there rfl (.there rfl (.here)))))) (.cons (.there rfl (.there rfl (.there rfl (.there rfl (.there rfl (.there rfl (.here))))))) (.cons (.here) .nil)))) ?_
  refine wC_if (.t (.there rfl (.there rfl (.there rfl (.here))))) (fun c1 => ?_) (fun c1 => ?_)
  · -- c1 True
    refine wpC_skip ?_
    refine wpC_seq ?_
    refine wpC_block ?_
    refine wpC_seq ?_
    refine wC_ops ?_
    obtain ⟨w, hw, hw1, hw2⟩ := hdi
    have hwl := AH.get_lt hw
    refine wI_mov (.t (.there rfl (.here))) ?_
    refine wI_mov (.t (.there rfl (.there rfl (.here)))) ?_
    refine wI_nilCheck (.t (.here)) ?_
    refine wI_fieldAddr (.t (.here)) ?_
    refine wI_load1 (.t (.here)) aGET rfl ?_
    refine wI_mov (.t (.there rfl (.there rfl (.there rfl (.there rfl (.there rfl (.here))))))) ?_
    refine wI_mov (.t (.there rfl (.there rfl (.there rfl (.there rfl (.there rfl (.there rfl (.there rfl (.there rfl (.here)))))))))) ?_
    first | refine wI_ixInts (.t (.there rfl (.here))) aATI (.t (.here)) rfl aOM (fun b2 o2 p2 => ?_) | refine wI_ixVals (.t (.there rfl (.here))) aATI (.t (.here)) rfl aOM (fun b2 o2 p2 => ?_) | refine wI_ixBools (.t (.there rfl (.here))) aATI (.t (.here)) rfl aOM (fun b2 o2 p2 => ?_)
    refine wI_ldc1 0 (.t (.here)) (by first | exact p2 | exact Cells.mono p2 aSUB) rfl ?_
    refine wI_convInt (.t (.here)) rfl ?_
    refine wI_u64 (.t (.there rfl (.there rfl (.there rfl (.there rfl (.there rfl (.here))))))) (.t (.here)) (by simp) (fun z27 hz27 => ?_)
    refine wI_nilCheck (.t (.there rfl (.there rfl (.there rfl (.there rfl (.there rfl (.there rfl (.there rfl (.there rfl (.there rfl (.there rfl (.here)))))))))))) ?_
    refine wI_fieldAddr (.t (.here)) ?_
    first | refine wI_storeA (.t (.here)) (.t (.there rfl (.there rfl (.here)))) aGET rfl aBOX aRC ?_ | refine wI_store1 (.t (.here)) (.t (.there rfl (.there rfl (.here)))) aGET aONE aRC ?_
    refine wI_end (.cons (.there rfl (.there rfl (.there rfl (.there rfl (.there rfl (.there rfl (.there rfl (.there rfl (.there rfl (.there rfl (.there rfl (.there rfl (.there rfl (.here)))))))))))))) (.cons (.there rfl (.there rfl (.there rfl (.there rfl (.there rfl (.there rfl (.there rfl (.there rfl (.there rfl (.there rfl (.there rfl (.there rfl (.there rfl (.there rfl (.here))))))))))))))) (.cons (.there rfl (.there rfl (.there rfl (.there rfl (.there rfl (.there rfl (.there rfl (.there rfl (.there rfl (.there rfl (.there rfl (.there rfl (.there rfl (.there rfl (.there rfl (.here)))))))))))))))) .nil))) ?_
    refine wC_ops ?_
    refine wI_mov (.t (.there rfl (.here))) ?_
    refine wI_call (.cons (.t (.here)) .nil) (s65 hT ⟨_, aGET, hz27⟩) ?_
    rintro _ H3 ⟨⟨z, rfl, hz⟩, hd3, hx3⟩
    refine wI_end (.cons (.there rfl (.there rfl (.here))) (.cons (.there rfl (.there rfl (.there rfl (.here)))) (.cons (.there rfl (.there rfl (.there rfl (.there rfl (.here))))) .nil))) ?_
    refine wC_ops ?_
    refine wI_mov (.t (.there rfl (.there rfl (.here)))) ?_
    refine wI_add (.t (.here)) .c (wrap64 aOM) ?_
    refine wI_mov (.t (.here)) ?_
    refine wI_end (.cons (.there rfl (.there rfl (.there rfl (.here)))) (.cons (.there rfl (.there rfl (.there rfl (.there rfl (.here))))) (.cons (.here) .nil))) ?_
    refine ⟨i + 1, (.cons (.here) (.cons (.there rfl (.here)) (.cons (.there rfl (.there rfl (.here))) .nil))), ?_, ?_⟩
    · exact ⟨aSUB, by assumption, by omega⟩
    · (first | omega | (simp only []; omega))
  · -- c1 False
    refine wpC_exit ?_
    refine wpC_seq ?_
    refine wC_ops ?_
    refine wI_mov (.t (.there rfl (.here))) ?_
    refine wI_mov (.t (.here)) ?_
    refine wI_end (.cons (.here) .nil) ?_
    refine wpC_ret (ret1 (.here) ?_)
    exact ⟨_, rfl, by assumption, by omega, aSUB⟩

theorem s16 (hT : Ext fns1 T) {a b : AV} {t : List Int} {I : List (List Rng)} {vs : List AV} (hS : SortAt0 H0 a b t I vs) :
    wpF T (.fn 16 []) [.agg [a, b]] H0 (fun r H => r = .bool (largeS t I) ∧ H0.Sub H) := by
  refine wF hT (af := A16) rfl ?_
  obtain ⟨ht, hv, hn, hI, hm1, hm2, hm3⟩ := hS
  refine wpC_seq ?_
  refine wC_ops ?_
  refine wI_box (.t (.here)) aBOX ?_
  refine wI_mov .c ?_
  refine wI_end (.cons (.there rfl (.here)) .nil) ?_
  refine wpC_seq ?_
  refine wpC_seq ?_
  refine wC_ops ?_
  refine wI_fieldAddr (.t (.here)) ?_
  refine wI_load1 (.t (.here)) aGET rfl ?_
  refine wI_lenSl (.t (.here)) aLEN ?_
  refine wI_gtr (.t (.here)) .c ?_
  refine wI_mov (.t (.here)) ?_
  refine wI_gdF (.here) (fun g1 => ?_) (fun g1 => ?_)
  · -- g1 False
    refine wI_fieldAddr (.t (.there rfl (.there rfl (.there rfl (.there rfl (.there rfl (.here))))))) ?_
    refine wI_yes (.there rfl (.here)) g1 ?_
    refine wI_load1 (.t (.here)) aGET rfl ?_
    refine wI_yes (.there rfl (.there rfl (.here))) g1 ?_
    refine wI_lenSl (.t (.here)) aLEN ?_
    refine wI_yes (.there rfl (.there rfl (.there rfl (.here)))) g1 ?_
    refine wI_gtr (.t (.here)) .c ?_
    refine wI_pickF (.t (.there rfl (.there rfl (.there rfl (.there rfl (.here)))))) g1 (.t (.here)) ?_
    refine wI_end (.cons (.there rfl (.there rfl (.there rfl (.there rfl (.there rfl (.there rfl (.there rfl (.there rfl (.there rfl (.there rfl (.here))))))))))) (.cons (.here) .nil)) ?_
    refine wC_if (.t (.there rfl (.here))) (fun c2 => ?_) (fun c2 => ?_)
    · -- c2 True
      refine wpC_seq ?_
      refine wC_ops ?_
      refine wI_mov .c ?_
      refine wI_end (.cons (.here) .nil) ?_
      refine wpC_ret (ret1 (.here) ?_)
      refine ⟨?_, aSUB⟩
      congr 1
      first | exact (largeS_no aSIMPL aSIMPL (fun j hj => hq j aOM)).symm | exact (largeS_item i aOM aOM).symm | exact (largeS_tol aSIMPL).symm | exact (largeS_items aSIMPL).symm
    · -- c2 False
      refine wpC_skip ?_
      refine wpC_seq ?_
      refine wpC_seq ?_
      refine wC_ops ?_
      refine wI_mov .c ?_
      refine wI_end (.cons (.there rfl (.here)) (.cons (.here) .nil)) ?_
      refine wpC_block ?_
      refine wC_loop (α := Nat) (fun i => [(1, .ptr H0.next 0), (3, .int .i64 i)]) (fun i H => H0.Sub H ∧ H.get H0.next = some (.cells [a, b] true) ∧ i ≤ vs.length ∧ ∀ j, j < i → (I.getD j []).length ≤ 20) (fun i => vs.length - i) 0 (.cons (.here) (.cons (.there rfl (.here)) .nil)) ?_ ?_
      · exact ⟨aSUB, aGET, by omega, fun j hj => by omega⟩
      rintro i H1 ⟨hs, hb, hi, hq⟩
      have hsn := hs.next
      refine wpC_seq ?_
      refine wpC_seq ?_
      refine wC_ops ?_
      refine wI_mov (.t (.there rfl (.here))) ?_
      refine wI_fieldAddr (.t (.there rfl (.here))) ?_
      refine wI_load1 (.t (.here)) aGET rfl ?_
      refine wI_lenSl (.t (.here)) aLEN ?_
      refine wI_lss (.t (.there rfl (.there rfl (.there rfl (.here))))) (.t (.here)) ?_
      refine wI_end (.cons (.there rfl (.there rfl (.there rfl (.there rfl (.there rfl (.here)))))) (.cons (.there rfl (.there rfl (.there rfl (.there rfl (.there rfl (.there rfl (.here))))))) (.cons (.here) .nil))) ?_
      refine wC_if (.t (.there rfl (.there rfl (.here)))) (fun c3 => ?_) (fun c3 => ?_)
      · -- c3 True
        refine wpC_skip ?_
        refine wpC_seq ?_
        refine wpC_block ?_
        refine wpC_seq ?_
        refine wC_ops ?_
        have hr := hI i aOM
        refine wI_fieldAddr (.t (.here)) ?_
        refine wI_load1 (.t (.here)) aGET rfl ?_
        refine wI_mov (.t (.there rfl (.there rfl (.there rfl (.here))))) ?_
        first | refine wI_ixInts (.t (.there rfl (.here))) aATI (.t (.here)) rfl aOM (fun b4 o4 p4 => ?_) | refine wI_ixVals (.t (.there rfl (.here))) aATI (.t (.here)) rfl aOM (fun b4 o4 p4 => ?_) | refine wI_ixBools (.t (.there rfl (.here))) aATI (.t (.here)) rfl aOM (fun b4 o4 p4 => ?_)
        refine wI_ldc1 0 (.t (.here)) (by first | exact p4 | exact Cells.mono p4 aSUB) rfl ?_
        refine wI_lenSl (.t (.here)) aLEN ?_
        refine wI_gtr (.t (.here)) .c ?_
        refine wI_end (.cons (.there rfl (.there rfl (.there rfl (.there rfl (.there rfl (.there rfl (.there rfl (.here)))))))) (.cons (.there rfl (.there rfl (.there rfl (.there rfl (.there rfl (.there rfl (.there rfl (.there rfl (.here))))))))) (.cons (.here) .nil))) ?_
        refine wC_if (.t (.there rfl (.there rfl (.here)))) (fun c5 => ?_) (fun c5 => ?_)
        · -- c5 True
          refine wpC_seq ?_
          refine wC_ops ?_
          refine wI_mov .c ?_
          refine wI_end (.cons (.here) .nil) ?_
          refine wpC_ret (ret1 (.here) ?_)
          refine ⟨?_, aSUB⟩
          congr 1
          first | exact (largeS_no aSIMPL aSIMPL (fun j hj => hq j aOM)).symm | exact (largeS_item i aOM aOM).symm | exact (largeS_tol aSIMPL).symm | exact (largeS_items aSIMPL).symm
        · -- c5 False
          refine wpC_skip ?_
          refine wC_ops ?_
          refine wI_mov (.t (.there rfl (.here))) ?_
          refine wI_add (.t (.here)) .c (wrap64 aOM) ?_
          refine wI_mov (.t (.here)) ?_
          refine wI_end (.cons (.there rfl (.there rfl (.there rfl (.here)))) (.cons (.here) .nil)) ?_
          refine ⟨i + 1, (.cons (.here) (.cons (.there rfl (.here)) .nil)), ?_, ?_⟩
          · refine ⟨aSUB, aGET, by omega, fun j hj => ?_⟩
            rcases Nat.lt_or_ge j i with c | c
            · exact hq j c
            · rw [show j = i by omega]; omega
          · (first | omega | (simp only []; omega))
      · -- c3 False
        refine wpC_exit ?_
        refine wpC_seq ?_
        refine wC_ops ?_
        refine wI_mov .c ?_
        refine wI_end (.cons (.here) .nil) ?_
        refine wpC_ret (ret1 (.here) ?_)
        refine ⟨?_, aSUB⟩
        congr 1
        first | exact (largeS_no aSIMPL aSIMPL (fun j hj => hq j aOM)).symm | exact (largeS_item i aOM aOM).symm | exact (largeS_tol aSIMPL).symm | exact (largeS_items aSIMPL).symm
  · -- g1 True
    refine wI_no (.there rfl (.here)) (by rw [g1]; decide) ?_
    refine wI_no (.there rfl (.there rfl (.here))) (by rw [g1]; decide) ?_
    refine wI_no (.there rfl (.there rfl (.there rfl (.here)))) (by rw [g1]; decide) ?_
    refine wI_pickT (.t (.there rfl (.there rfl (.there rfl (.there rfl (.here)))))) g1 .c ?_
    refine wI_end (.cons (.there rfl (.there rfl (.there rfl (.there rfl (.there rfl (.there rfl (.there rfl (.there rfl (.there rfl (.there rfl (.here))))))))))) (.cons (.here) .nil)) ?_
    refine wC_condT (.t (.there rfl (.here))) rfl ?_
    refine wpC_seq ?_
    refine wC_ops ?_
    refine wI_mov .c ?_
    refine wI_end (.cons (.here) .nil) ?_
    refine wpC_ret (ret1 (.here) ?_)
    refine ⟨?_, aSUB⟩
    congr 1
    first | exact (largeS_no aSIMPL aSIMPL (fun j hj => hq j aOM)).symm | exact (largeS_item i aOM aOM).symm | exact (largeS_tol aSIMPL).symm | exact (largeS_items aSIMPL).symm

theorem s18 (hT : Ext fns1 T) {d : Nat} (hd : DiceAt H0 d) (most : Nat) (hm : most ≤ 20) :
    wpF T (.fn 18 []) [.ptr d 0, .int .i64 most] H0 (fun r H => (∃ a b t I vs, r = .agg [a, b] ∧ (∀ H', AH.SubX [d] H H' → SortAt H' a b t I vs) ∧ Ok t I ∧ I.length ≤ most) ∧ DiceAt H d ∧ AH.SubX [d] H0 H) := by
  refine wF hT (af := A18) rfl ?_
  have hdl := hd.lt
  refine wpC_seq ?_
  refine wC_ops ?_
  refine wI_alloc ?_
  refine wI_end (.cons (.there rfl (.here)) (.cons (.there rfl (.there rfl (.here))) (.cons (.here) .nil))) ?_
  refine wpC_seq ?_
  refine wC_ops ?_
  refine wI_alloc ?_
  refine wI_end (.cons (.there rfl (.here)) (.cons (.there rfl (.there rfl (.here))) (.cons (.there rfl (.there rfl (.there rfl (.here)))) (.cons (.here) .nil)))) ?_
  refine wpC_seq ?_
  refine wpC_seq ?_
  refine wC_ops ?_
  refine wI_mov (.t (.here)) ?_
  refine wI_call (.cons (.t (.here)) (.cons .c (.cons .c .nil))) (s57 hT (DiceAt.keep hd fun x hx => aGET) _ _ aOM) ?_
  rintro _ Ha ⟨⟨z1, rfl, hz1, hz1b⟩, hda, hxa⟩
  have hxan := hxa.next
  simp only [AH.next_new] at hxan
  refine wI_mov (.t (.here)) ?_
  refine wI_end (.cons (.there rfl (.there rfl (.there rfl (.here)))) (.cons (.there rfl (.there rfl (.there rfl (.there rfl (.here))))) (.cons (.there rfl (.there rfl (.there rfl (.there rfl (.there rfl (.here)))))) (.cons (.there rfl (.there rfl (.there rfl (.there rfl (.there rfl (.there rfl (.here))))))) (.cons (.here) .nil))))) ?_
  refine wpC_block ?_
  refine wC_loop (α := Int) (fun i => [(0, .ptr d 0), (1, .int .i64 most), (4, .ptr H0.next 0), (5, .ptr (H0.next + 1) 0), (6, .int .i64 i)]) (fun i H => DiceAt H d ∧ AH.SubX [d] H0 H ∧ H.get H0.next = some (.cells [.nils, .nils] true) ∧ 0 ≤ i ∧ ∃ u t, H.get (H0.next + 1) = some (.cells [u, .nils] true) ∧ OwnS H u 1 (cInts t) ∧ (∀ c, c ∈ u.blocks → H0.next + 2 ≤ c) ∧ (t.length : Int) + i ≤ 2 ∧ 1 ≤ t.length + i ∧ ∀ k, k < t.length → 0 ≤ t.getD k 0 ∧ t.getD k 0 ≤ 8) (fun i => i.toNat) z1 (.cons (.here) (.cons (.there rfl (.here)) (.cons (.there rfl (.there rfl (.here))) (.cons (.there rfl (.there rfl (.there rfl (.here)))) (.cons (.there rfl (.there rfl (.there rfl (.there rfl (.here))))) .nil))))) ?_ ?_
  · refine ⟨hda, AH.Sub.toX aSUB hxa, aGET, by omega, .nils, [], aGET, OwnS.nils _ _, fun c hc => by simp [AV.blocks] at hc, by simp; omega, by simp; omega, fun k hk => by simp at hk⟩
  rintro i H1 ⟨hdi, hs0, hB4, hi, u, t, hB5, hu, hub, ht2, ht1, htb⟩
  have hs0n := hs0.next
  have hb5 := AH.get_lt hB5
  have hul := hu.intsLen
  refine wpC_seq ?_
  refine wpC_seq ?_
  refine wC_ops ?_
  refine wI_mov (.t (.there rfl (.there rfl (.there rfl (.there rfl (.here)))))) ?_
  refine wI_gtr (.t (.here)) .c ?_
  refine wI_end (.cons (.there rfl (.there rfl (.here))) (.cons (.there rfl (.there rfl (.there rfl (.here)))) (.cons (.there rfl (.there rfl (.there rfl (.there rfl (.here))))) (.cons (.there rfl (.there rfl (.there rfl (.there rfl (.there rfl (.here)))))) (.cons (.there rfl (.there rfl (.there rfl (.there rfl (.there rfl (.there rfl (.here))))))) (.cons (.here) .nil)))))) ?_
  refine wC_if (.t (.there rfl (.there rfl (.there rfl (.there rfl (.there rfl (.here))))))) (fun c2 => ?_) (fun c2 => ?_)
  · -- c2 True
    refine wpC_skip ?_
    refine wpC_seq ?_
    refine wpC_block ?_
    refine wC_ops ?_
    refine wI_fieldAddr (.t (.there rfl (.there rfl (.there rfl (.here))))) ?_
    refine wI_load1 (.t (.here)) aGET rfl ?_
    refine wI_mov (.t (.there rfl (.there rfl (.here)))) ?_
    refine wI_call (.cons (.t (.here)) (.cons .c .nil)) (s41 hT hdi _ aOM) ?_
    rintro _ Hb ⟨⟨z2, rfl, hz2, hz2a, hz2b⟩, hdb, hxb⟩
    have hxbn := hxb.next
    have hz2b := hz2b aOM
    refine wI_chkLoad1 (.there rfl (.there rfl (.here))) (.t (.there rfl (.there rfl (.there rfl (.here))))) aGET rfl aSAME ?_
    refine wI_buildSlice (.one (.t (.here)) aONE rfl aRC .nil) ?_
    refine wI_append (.t (.there rfl (.there rfl (.there rfl (.here))))) (OwnS.keep hu (fun c x hc hx => by have h1 := hub c hc; have h2 := AH.get_lt hx; exact aGET)) (.t (.here)) (At.of_get aGET rfl) rfl (by decide) (m := t.length) (k := 1) (by simp) rfl (by simp only [room]; omega) (fun u2 Hc hu3 hb3 hx3 => ?_)
    have hx3n := hx3.next
    simp only [AH.next_new] at hx3n hb3
    rw [cInts_snoc] at hu3
    have hu3l := hu3.intsLen
    have hB4 : Hc.get H0.next = some (.cells [.nils, .nils] true) := hx3.get _ _ (fun hm => by have := hub _ hm; omega) aGET
    have hB5 : Hc.get (H0.next + 1) = some (.cells [u, .nils] true) := hx3.get _ _ (fun hm => by have := hub _ hm; omega) aGET
    have hdc : DiceAt Hc d := hdb.keep fun x hx => hx3.get _ _ (fun hm => by have := hub _ hm; omega) (AH.get_new_old hx)
    have hsc : AH.SubX [d] H0 Hc := ((hs0.trans hxb).new _).transW hx3 (fun b hb => .inr (by have := hub b hb; omega))
    refine wI_fieldAddr (.t (.there rfl (.there rfl (.there rfl (.there rfl (.there rfl (.there rfl (.there rfl (.there rfl (.there rfl (.here))))))))))) ?_
    first | refine wI_storeA (.t (.here)) (.t (.there rfl (.here))) aGET rfl aBOX aRC ?_ | refine wI_store1 (.t (.here)) (.t (.there rfl (.here))) aGET aONE aRC ?_
    refine wI_end (.cons (.there rfl (.there rfl (.there rfl (.there rfl (.there rfl (.there rfl (.there rfl (.here)))))))) (.cons (.there rfl (.there rfl (.there rfl (.there rfl (.there rfl (.there rfl (.there rfl (.there rfl (.here))))))))) (.cons (.there rfl (.there rfl (.there rfl (.there rfl (.there rfl (.there rfl (.there rfl (.there rfl (.there rfl (.here)))))))))) (.cons (.there rfl (.there rfl (.there rfl (.there rfl (.there rfl (.there rfl (.there rfl (.there rfl (.there rfl (.there rfl (.here))))))))))) (.cons (.there rfl (.there rfl (.there rfl (.there rfl (.there rfl (.there rfl (.there rfl (.there rfl (.there rfl (.there rfl (.there rfl (.here)))))))))))) .nil))))) ?_
    refine wC_ops ?_
    refine wI_mov (.t (.there rfl (.there rfl (.there rfl (.there rfl (.here)))))) ?_
    refine wI_sub (.t (.here)) .c (wrap64 aOM) ?_
    refine wI_mov (.t (.here)) ?_
    refine wI_end (.cons (.there rfl (.there rfl (.there rfl (.here)))) (.cons (.there rfl (.there rfl (.there rfl (.there rfl (.here))))) (.cons (.there rfl (.there rfl (.there rfl (.there rfl (.there rfl (.here)))))) (.cons (.there rfl (.there rfl (.there rfl (.there rfl (.there rfl (.there rfl (.here))))))) (.cons (.here) .nil))))) ?_
    refine ⟨i - 1, (.cons (.here) (.cons (.there rfl (.here)) (.cons (.there rfl (.there rfl (.here))) (.cons (.there rfl (.there rfl (.there rfl (.here)))) (.cons (.there rfl (.there rfl (.there rfl (.there rfl (.here))))) .nil))))), ?_, ?_⟩
    · refine ⟨hdc.keep fun x hx => AH.get_put_old aOM hx, hsc.put (.inr aOM) _, aGET, by omega, u2, t ++ [z2], aGET, hu3.keep fun c x hc hx => AH.get_put_old (by rcases hb3 c hc with h | h; have := hub c h; omega; omega) hx, fun c hc => by rcases hb3 c hc with h | h; exact hub c h; omega, by simp; omega, by simp; omega, fun k hk => ?_⟩
      simp only [List.length_append, List.length_singleton] at hk
      rcases Nat.lt_or_ge k t.length with c | c
      · rw [getD_snoc_lt c]; exact htb k c
      · rw [show k = t.length by omega, getD_snoc_eq]; omega
    · (first | omega | (simp only []; omega))
  · -- c2 False
    refine wpC_exit ?_
    refine wpC_seq ?_
    refine wC_ops ?_
    refine wI_mov (.t (.here)) ?_
    refine wI_call (.cons (.t (.here)) (.cons .c (.cons .c .nil))) (s57 hT hdi _ _ aOM) ?_
    rintro _ Hm ⟨⟨zw, rfl, hzw, hzwb⟩, hdm, hxm⟩
    have hxmn := hxm.next
    refine wI_mov (.t (.there rfl (.there rfl (.here)))) ?_
    refine wI_call (.cons (.t (.here)) (.cons .c .nil)) (s34 hT hdm _ aOM) ?_
    rintro _ Hn ⟨⟨zb, rfl⟩, hdn, hxn⟩
    have hxnn := hxn.next
    refine wI_mov (.t (.there rfl (.there rfl (.here)))) ?_
    refine wI_mov (.t (.there rfl (.here))) ?_
    refine wI_end (.cons (.there rfl (.there rfl (.there rfl (.there rfl (.there rfl (.there rfl (.here))))))) (.cons (.there rfl (.there rfl (.there rfl (.there rfl (.there rfl (.there rfl (.there rfl (.here)))))))) (.cons (.there rfl (.there rfl (.there rfl (.there rfl (.there rfl (.there rfl (.there rfl (.there rfl (.here))))))))) (.cons (.there rfl (.there rfl (.there rfl (.there rfl (.there rfl (.there rfl (.there rfl (.there rfl (.there rfl (.here)))))))))) (.cons (.there rfl (.here)) (.cons (.here) .nil)))))) ?_
    refine wpC_seq ?_
    refine wpC_seq ?_
    refine wC_ops ?_
    refine wI_mov (.t (.here)) ?_
    refine wI_mov (.t (.there rfl (.there rfl (.here)))) ?_
    refine wI_add (.t (.here)) .c (wrap64 aOM) ?_
    refine wI_call (.cons (.t (.there rfl (.there rfl (.here)))) (.cons (.t (.here)) .nil)) (s41 hT hdn _ aOM) ?_
    rintro _ Ho ⟨⟨zi, rfl, hzi, hzia, hzib⟩, hdo, hxo⟩
    have hxon := hxo.next
    have hzib := hzib aOM
    refine wI_mov (.t (.here)) ?_
    refine wI_end (.cons (.there rfl (.there rfl (.there rfl (.there rfl (.there rfl (.here)))))) (.cons (.there rfl (.there rfl (.there rfl (.there rfl (.there rfl (.there rfl (.there rfl (.here)))))))) (.cons (.there rfl (.there rfl (.there rfl (.there rfl (.there rfl (.there rfl (.there rfl (.there rfl (.here))))))))) (.cons (.there rfl (.there rfl (.there rfl (.there rfl (.there rfl (.there rfl (.there rfl (.there rfl (.there rfl (.here)))))))))) (.cons (.there rfl (.there rfl (.there rfl (.there rfl (.there rfl (.there rfl (.there rfl (.there rfl (.there rfl (.there rfl (.here))))))))))) (.cons (.here) .nil)))))) ?_
    refine wpC_block ?_
    refine wC_loop (α := Int) (fun i => [(0, .ptr d 0), (4, .ptr H0.next 0), (5, .ptr (H0.next + 1) 0), (7, .int .i64 zw), (8, .bool zb), (9, .int .i64 i)]) (fun i H => DiceAt H d ∧ AH.SubX [d] H0 H ∧ H.get H0.next = some (.cells [.nils, .nils] true) ∧ 0 ≤ i ∧ ∃ w vs I, H.get (H0.next + 1) = some (.cells [u, w] true) ∧ SData H (H0.next + 2) u w t I vs ∧ (I.length : Int) + i ≤ most ∧ (∀ q k, q < I.length → k < t.length → 0 ≤ ((I.getD q []).getD k (0, 0)).1 ∧ ((I.getD q []).getD k (0, 0)).1 ≤ ((I.getD q []).getD k (0, 0)).2 ∧ ((I.getD q []).getD k (0, 0)).2 ≤ 100) ∧ (∀ q, q < I.length → (I.getD q []).length = t.length)) (fun i => i.toNat) zi (.cons (.here) (.cons (.there rfl (.here)) (.cons (.there rfl (.there rfl (.here))) (.cons (.there rfl (.there rfl (.there rfl (.here)))) (.cons (.there rfl (.there rfl (.there rfl (.there rfl (.here))))) (.cons (.there rfl (.there rfl (.there rfl (.there rfl (.there rfl (.here)))))) .nil)))))) ?_ ?_
    · have hso := (hxm.trans hxn).trans hxo
      refine ⟨hdo, hs0.trans hso, aGET, by omega, .nils, [], [], aGET, ⟨hu.keepX hso fun c hc => by (have := hub c hc; simp; omega), hub, OwnS.nils _ _, fun c hc => by simp [AV.blocks] at hc, fun c _ hc => by simp [AV.blocks] at hc, rfl, fun k hk => by simp at hk⟩, by simp; omega, fun q k hq => by simp at hq, fun q hq => by simp at hq⟩
    rintro i H2 ⟨hdi2, hs1, hB42, hi2, w, vs, I, hB52, hSD, hIl, hrb, hrl⟩
    have hs1n := hs1.next
    have hb52 := AH.get_lt hB52
    have hwl := hSD.fw.valsLen
    have hul2 := hSD.fu.intsLen
    refine wpC_seq ?_
    refine wpC_seq ?_
    refine wC_ops ?_
    refine wI_mov (.t (.there rfl (.there rfl (.there rfl (.there rfl (.there rfl (.here))))))) ?_
    refine wI_gtr (.t (.here)) .c ?_
    refine wI_end (.cons (.there rfl (.there rfl (.here))) (.cons (.there rfl (.there rfl (.there rfl (.here)))) (.cons (.there rfl (.there rfl (.there rfl (.there rfl (.here))))) (.cons (.there rfl (.there rfl (.there rfl (.there rfl (.there rfl (.here)))))) (.cons (.there rfl (.there rfl (.there rfl (.there rfl (.there rfl (.there rfl (.here))))))) (.cons (.there rfl (.there rfl (.there rfl (.there rfl (.there rfl (.there rfl (.there rfl (.here)))))))) (.cons (.here) .nil))))))) ?_
    refine wC_if (.t (.there rfl (.there rfl (.there rfl (.there rfl (.there rfl (.there rfl (.here)))))))) (fun c7 => ?_) (fun c7 => ?_)
    · -- c7 True
      refine wpC_skip ?_
      refine wpC_seq ?_
      refine wpC_block ?_
      refine wpC_seq ?_
      refine wC_ops ?_
      refine wI_mov .c ?_
      refine wI_end (.cons (.there rfl (.here)) (.cons (.there rfl (.there rfl (.here))) (.cons (.there rfl (.there rfl (.there rfl (.here)))) (.cons (.there rfl (.there rfl (.there rfl (.there rfl (.here))))) (.cons (.there rfl (.there rfl (.there rfl (.there rfl (.there rfl (.here)))))) (.cons (.there rfl (.there rfl (.there rfl (.there rfl (.there rfl (.there rfl (.here))))))) (.cons (.here) .nil))))))) ?_
      refine wpC_seq ?_
      refine wpC_seq ?_
      refine wC_ops ?_
      refine wI_mov .c ?_
      refine wI_end (.cons (.there rfl (.here)) (.cons (.there rfl (.there rfl (.here))) (.cons (.there rfl (.there rfl (.there rfl (.here)))) (.cons (.there rfl (.there rfl (.there rfl (.there rfl (.here))))) (.cons (.there rfl (.there rfl (.there rfl (.there rfl (.there rfl (.here)))))) (.cons (.there rfl (.there rfl (.there rfl (.there rfl (.there rfl (.there rfl (.here))))))) (.cons (.there rfl (.there rfl (.there rfl (.there rfl (.there rfl (.there rfl (.there rfl (.here)))))))) (.cons (.here) .nil)))))))) ?_
      refine wpC_block ?_
      refine wC_loop (α := Nat × AV × List Rng) (fun (k, g, l) => [(0, .ptr d 0), (4, .ptr H0.next 0), (5, .ptr (H0.next + 1) 0), (7, .int .i64 zw), (8, .bool zb), (9, .int .i64 i), (10, g), (11, .int .i64 k)]) (fun (k, g, l) H => DiceAt H d ∧ AH.SubX [d] H2 H ∧ OwnS H g 2 (cRngs l) ∧ (∀ c, c ∈ g.blocks → H2.next ≤ c) ∧ l.length = k ∧ k ≤ t.length ∧ ∀ q, q < k → 0 ≤ (l.getD q (0, 0)).1 ∧ (l.getD q (0, 0)).1 ≤ (l.getD q (0, 0)).2 ∧ (l.getD q (0, 0)).2 ≤ 100) (fun (k, g, l) => t.length - k) (0, .nils, []) (.cons (.here) (.cons (.there rfl (.here)) (.cons (.there rfl (.there rfl (.here))) (.cons (.there rfl (.there rfl (.there rfl (.here)))) (.cons (.there rfl (.there rfl (.there rfl (.there rfl (.here))))) (.cons (.there rfl (.there rfl (.there rfl (.there rfl (.there rfl (.here)))))) (.cons (.there rfl (.there rfl (.there rfl (.there rfl (.there rfl (.there rfl (.here))))))) (.cons (.there rfl (.there rfl (.there rfl (.there rfl (.there rfl (.there rfl (.there rfl (.here)))))))) .nil)))))))) ?_ ?_
      · exact ⟨hdi2, AH.SubX.refl _ _, OwnS.nils _ _, fun c hc => by simp [AV.blocks] at hc, rfl, by omega, fun q hq => by omega⟩
      rintro ⟨k, g, l⟩ H3 ⟨hdk, hsk, hgk, hgbk, hlk, hkt, hgr⟩
      have hskn := hsk.next
      have hgl := hgk.rngsLen
      have hg := hgk
      have hgb := hgbk
      have hdkl := hdk.lt
      refine wpC_seq ?_
      refine wpC_seq ?_
      refine wC_ops ?_
      refine wI_mov (.t (.there rfl (.there rfl (.there rfl (.there rfl (.there rfl (.there rfl (.there rfl (.here))))))))) ?_
      refine wI_fieldAddr (.t (.there rfl (.there rfl (.there rfl (.here))))) ?_
      refine wI_load1 (.t (.here)) aGET rfl ?_
      refine wI_lenSl (.t (.here)) aLEN ?_
      refine wI_lss (.t (.there rfl (.there rfl (.there rfl (.here))))) (.t (.here)) ?_
      refine wI_end (.cons (.there rfl (.there rfl (.there rfl (.there rfl (.there rfl (.here)))))) (.cons (.there rfl (.there rfl (.there rfl (.there rfl (.there rfl (.there rfl (.here))))))) (.cons (.there rfl (.there rfl (.there rfl (.there rfl (.there rfl (.there rfl (.there rfl (.here)))))))) (.cons (.there rfl (.there rfl (.there rfl (.there rfl (.there rfl (.there rfl (.there rfl (.there rfl (.here))))))))) (.cons (.there rfl (.there rfl (.there rfl (.there rfl (.there rfl (.there rfl (.there rfl (.there rfl (.there rfl (.here)))))))))) (.cons (.there rfl (.there rfl (.there rfl (.there rfl (.there rfl (.there rfl (.there rfl (.there rfl (.there rfl (.there rfl (.here))))))))))) (.cons (.there rfl (.there rfl (.there rfl (.there rfl (.there rfl (.there rfl (.there rfl (.there rfl (.there rfl (.there rfl (.there rfl (.here)))))))))))) (.cons (.there rfl (.there rfl (.there rfl (.there rfl (.there rfl (.there rfl (.there rfl (.there rfl (.there rfl (.there rfl (.there rfl (.there rfl (.here))))))))))))) (.cons (.here) .nil))))))))) ?_
      refine wC_if (.t (.there rfl (.there rfl (.there rfl (.there rfl (.there rfl (.there rfl (.there rfl (.there rfl (.here)))))))))) (fun c8 => ?_) (fun c8 => ?_)
      · -- c8 True
        refine wpC_skip ?_
        refine wpC_seq ?_
        refine wpC_block ?_
        refine wpC_seq ?_
        refine wC_ops ?_
        refine wI_mov (.t (.here)) ?_
        refine wI_mov (.t (.there rfl (.there rfl (.there rfl (.there rfl (.here)))))) ?_
        refine wI_call (.cons (.t (.there rfl (.here))) (.cons (.t (.here)) .nil)) (s41 hT hdk _ aOM) ?_
        rintro _ Hd ⟨⟨zd, rfl, hzd, hzda, hzdb⟩, hdd, hxd⟩
        have hxdn := hxd.next
        have hzdb := hzdb aOM
        refine wI_mov (.t (.here)) ?_
        refine wI_end (.cons (.there rfl (.there rfl (.there rfl (.there rfl (.here))))) (.cons (.there rfl (.there rfl (.there rfl (.there rfl (.there rfl (.here)))))) (.cons (.there rfl (.there rfl (.there rfl (.there rfl (.there rfl (.there rfl (.here))))))) (.cons (.there rfl (.there rfl (.there rfl (.there rfl (.there rfl (.there rfl (.there rfl (.here)))))))) (.cons (.there rfl (.there rfl (.there rfl (.there rfl (.there rfl (.there rfl (.there rfl (.there rfl (.here))))))))) (.cons (.there rfl (.there rfl (.there rfl (.there rfl (.there rfl (.there rfl (.there rfl (.there rfl (.there rfl (.here)))))))))) (.cons (.there rfl (.there rfl (.there rfl (.there rfl (.there rfl (.there rfl (.there rfl (.there rfl (.there rfl (.there rfl (.here))))))))))) (.cons (.there rfl (.there rfl (.there rfl (.there rfl (.there rfl (.there rfl (.there rfl (.there rfl (.there rfl (.there rfl (.there rfl (.here)))))))))))) (.cons (.here) .nil))))))))) ?_
        refine wpC_seq ?_
        refine wC_ops ?_
        refine wI_mov (.t (.there rfl (.there rfl (.there rfl (.there rfl (.there rfl (.there rfl (.there rfl (.there rfl (.here)))))))))) ?_
        refine wI_mov (.t (.there rfl (.there rfl (.there rfl (.there rfl (.there rfl (.there rfl (.there rfl (.there rfl (.there rfl (.here))))))))))) ?_
        refine wI_build (.one (.t (.there rfl (.here))) aONE aRC (.one (.t (.here)) aONE aRC .nil)) ?_
        refine wI_alloc ?_
        first | refine wI_storeA (.t (.here)) (.t (.there rfl (.here))) aGET rfl aBOX aRC ?_ | refine wI_store1 (.t (.here)) (.t (.there rfl (.here))) aGET aONE aRC ?_
        refine wI_end (.cons (.there rfl (.there rfl (.there rfl (.there rfl (.here))))) (.cons (.there rfl (.there rfl (.there rfl (.there rfl (.there rfl (.here)))))) (.cons (.there rfl (.there rfl (.there rfl (.there rfl (.there rfl (.there rfl (.here))))))) (.cons (.there rfl (.there rfl (.there rfl (.there rfl (.there rfl (.there rfl (.there rfl (.here)))))))) (.cons (.there rfl (.there rfl (.there rfl (.there rfl (.there rfl (.there rfl (.there rfl (.there rfl (.here))))))))) (.cons (.there rfl (.there rfl (.there rfl (.there rfl (.there rfl (.there rfl (.there rfl (.there rfl (.there rfl (.here)))))))))) (.cons (.there rfl (.there rfl (.there rfl (.there rfl (.there rfl (.there rfl (.there rfl (.there rfl (.there rfl (.there rfl (.here))))))))))) (.cons (.there rfl (.there rfl (.there rfl (.there rfl (.there rfl (.there rfl (.there rfl (.there rfl (.there rfl (.there rfl (.there rfl (.here)))))))))))) (.cons (.there rfl (.there rfl (.there rfl (.there rfl (.there rfl (.there rfl (.there rfl (.there rfl (.there rfl (.there rfl (.there rfl (.there rfl (.here))))))))))))) (.cons (.here) .nil)))))))))) ?_
        refine wpC_seq ?_
        refine wpC_seq ?_
        refine wC_ops ?_
        refine wI_mov (.t (.there rfl (.there rfl (.there rfl (.there rfl (.here)))))) ?_
        refine wI_not (.t (.here)) ?_
        refine wI_end (.cons (.there rfl (.there rfl (.here))) (.cons (.there rfl (.there rfl (.there rfl (.here)))) (.cons (.there rfl (.there rfl (.there rfl (.there rfl (.here))))) (.cons (.there rfl (.there rfl (.there rfl (.there rfl (.there rfl (.here)))))) (.cons (.there rfl (.there rfl (.there rfl (.there rfl (.there rfl (.there rfl (.here))))))) (.cons (.there rfl (.there rfl (.there rfl (.there rfl (.there rfl (.there rfl (.there rfl (.here)))))))) (.cons (.there rfl (.there rfl (.there rfl (.there rfl (.there rfl (.there rfl (.there rfl (.there rfl (.here))))))))) (.cons (.there rfl (.there rfl (.there rfl (.there rfl (.there rfl (.there rfl (.there rfl (.there rfl (.there rfl (.here)))))))))) (.cons (.there rfl (.there rfl (.there rfl (.there rfl (.there rfl (.there rfl (.there rfl (.there rfl (.there rfl (.there rfl (.here))))))))))) (.cons (.there rfl (.there rfl (.there rfl (.there rfl (.there rfl (.there rfl (.there rfl (.there rfl (.there rfl (.there rfl (.there rfl (.here)))))))))))) (.cons (.here) .nil))))))))))) ?_
        refine wC_cond (.t (.there rfl (.there rfl (.there rfl (.there rfl (.there rfl (.there rfl (.there rfl (.there rfl (.there rfl (.there rfl (.here)))))))))))) (fun c10 => ?_) (fun c10 => ?_)
        · -- c10 True
          refine wC_ops ?_
          refine wI_mov (.t (.there rfl (.there rfl (.there rfl (.there rfl (.there rfl (.there rfl (.there rfl (.there rfl (.here)))))))))) ?_
          refine wI_mov (.t (.there rfl (.here))) ?_
          refine wI_call (.cons (.t (.here)) (.cons .c .nil)) (s41 hT (DiceAt.keep hdd fun x hx => aGET) _ aOM) ?_
          rintro _ He ⟨⟨ze, rfl, hze, hzea, hzeb⟩, hde, hxe⟩
          have hxen := hxe.next
          simp only [AH.next_new, AH.next_put] at hxen
          have hzeb := hzeb aOM
          refine wI_add (.t (.there rfl (.there rfl (.here)))) (.t (.here)) (wrap64 aOM) ?_
          refine wI_fieldAddr (.t (.there rfl (.there rfl (.there rfl (.there rfl (.there rfl (.there rfl (.there rfl (.there rfl (.there rfl (.there rfl (.there rfl (.there rfl (.there rfl (.here))))))))))))))) ?_
          first | refine wI_storeA (.t (.here)) (.t (.there rfl (.here))) aGET rfl aBOX aRC ?_ | refine wI_store1 (.t (.here)) (.t (.there rfl (.here))) aGET aONE aRC ?_
          refine wI_end (.cons (.there rfl (.there rfl (.there rfl (.there rfl (.there rfl (.here)))))) (.cons (.there rfl (.there rfl (.there rfl (.there rfl (.there rfl (.there rfl (.here))))))) (.cons (.there rfl (.there rfl (.there rfl (.there rfl (.there rfl (.there rfl (.there rfl (.here)))))))) (.cons (.there rfl (.there rfl (.there rfl (.there rfl (.there rfl (.there rfl (.there rfl (.there rfl (.here))))))))) (.cons (.there rfl (.there rfl (.there rfl (.there rfl (.there rfl (.there rfl (.there rfl (.there rfl (.there rfl (.here)))))))))) (.cons (.there rfl (.there rfl (.there rfl (.there rfl (.there rfl (.there rfl (.there rfl (.there rfl (.there rfl (.there rfl (.here))))))))))) (.cons (.there rfl (.there rfl (.there rfl (.there rfl (.there rfl (.there rfl (.there rfl (.there rfl (.there rfl (.there rfl (.there rfl (.here)))))))))))) (.cons (.there rfl (.there rfl (.there rfl (.there rfl (.there rfl (.there rfl (.there rfl (.there rfl (.there rfl (.there rfl (.there rfl (.there rfl (.here))))))))))))) (.cons (.there rfl (.there rfl (.there rfl (.there rfl (.there rfl (.there rfl (.there rfl (.there rfl (.there rfl (.there rfl (.there rfl (.there rfl (.there rfl (.there rfl (.here))))))))))))))) .nil))))))))) ?_
          refine wC_ops ?_
          refine wI_mov (.t (.there rfl (.there rfl (.there rfl (.there rfl (.there rfl (.there rfl (.here)))))))) ?_
          refine wI_loadT (.t (.there rfl (.there rfl (.there rfl (.there rfl (.there rfl (.there rfl (.there rfl (.there rfl (.there rfl (.here))))))))))) aGET aRC ?_
          refine wI_buildSlice (.agg (.t (.here)) aBOX rfl aRC .nil) ?_
          refine wI_append (.t (.there rfl (.there rfl (.here)))) (OwnS.keep hg (fun c x hc hx => by have h1 := hgb c hc; have h2 := AH.get_lt hx; exact aGET)) (.t (.here)) (At.of_get aGET rfl) rfl (by decide) (m := l.length) (k := 1) (by simp) rfl (by simp only [room]; omega) (fun g2 Hf hg3 hb3 hx3 => ?_)
          have hx3n := hx3.next
          simp only [AH.next_new, AH.next_put] at hx3n hb3
          have hg3 := hg3
          rw [cRngs_snoc l (_, _)] at hg3
          have hdf : DiceAt Hf d := DiceAt.keep (by assumption) (fun x hx => hx3.get _ _ (fun hm => by have := hgb _ hm; omega) aGET)
          have hsf : AH.SubX [d] H2 Hf := AH.SubX.transW aSUBX hx3 (fun b hb => .inr (by have := hgb b hb; omega))
          refine wI_mov (.t (.here)) ?_
          refine wI_end (.cons (.there rfl (.there rfl (.there rfl (.there rfl (.there rfl (.here)))))) (.cons (.there rfl (.there rfl (.there rfl (.there rfl (.there rfl (.there rfl (.here))))))) (.cons (.there rfl (.there rfl (.there rfl (.there rfl (.there rfl (.there rfl (.there rfl (.here)))))))) (.cons (.there rfl (.there rfl (.there rfl (.there rfl (.there rfl (.there rfl (.there rfl (.there rfl (.here))))))))) (.cons (.there rfl (.there rfl (.there rfl (.there rfl (.there rfl (.there rfl (.there rfl (.there rfl (.there rfl (.here)))))))))) (.cons (.there rfl (.there rfl (.there rfl (.there rfl (.there rfl (.there rfl (.there rfl (.there rfl (.there rfl (.there rfl (.here))))))))))) (.cons (.here) (.cons (.there rfl (.there rfl (.there rfl (.there rfl (.there rfl (.there rfl (.there rfl (.there rfl (.there rfl (.there rfl (.there rfl (.there rfl (.here))))))))))))) .nil)))))))) ?_
          refine wC_ops ?_
          refine wI_mov (.t (.there rfl (.there rfl (.there rfl (.there rfl (.there rfl (.there rfl (.there rfl (.here))))))))) ?_
          refine wI_add (.t (.here)) .c (wrap64 aOM) ?_
          refine wI_mov (.t (.here)) ?_
          refine wI_end (.cons (.there rfl (.there rfl (.there rfl (.here)))) (.cons (.there rfl (.there rfl (.there rfl (.there rfl (.here))))) (.cons (.there rfl (.there rfl (.there rfl (.there rfl (.there rfl (.here)))))) (.cons (.there rfl (.there rfl (.there rfl (.there rfl (.there rfl (.there rfl (.here))))))) (.cons (.there rfl (.there rfl (.there rfl (.there rfl (.there rfl (.there rfl (.there rfl (.here)))))))) (.cons (.there rfl (.there rfl (.there rfl (.there rfl (.there rfl (.there rfl (.there rfl (.there rfl (.here))))))))) (.cons (.there rfl (.there rfl (.there rfl (.there rfl (.there rfl (.there rfl (.there rfl (.there rfl (.there rfl (.here)))))))))) (.cons (.here) .nil)))))))) ?_
          refine ⟨(k + 1, g2, l ++ [(zd, zd + ze)]), (.cons (.here) (.cons (.there rfl (.here)) (.cons (.there rfl (.there rfl (.here))) (.cons (.there rfl (.there rfl (.there rfl (.here)))) (.cons (.there rfl (.there rfl (.there rfl (.there rfl (.here))))) (.cons (.there rfl (.there rfl (.there rfl (.there rfl (.there rfl (.here)))))) (.cons (.there rfl (.there rfl (.there rfl (.there rfl (.there rfl (.there rfl (.here))))))) (.cons (.there rfl (.there rfl (.there rfl (.there rfl (.there rfl (.there rfl (.there rfl (.here)))))))) .nil)))))))), ?_, ?_⟩
          · refine ⟨hdf, hsf, hg3, fun c hc => by rcases hb3 c hc with h | h; exact hgb c h; omega, by simp; omega, by omega, fun q hq => ?_⟩
            rcases Nat.lt_or_ge q l.length with c | c
            · rw [getD_snoc_lt c]; exact hgr q aOM
            · rw [show q = l.length by omega, getD_snoc_eq]; simp only []; omega
          · (first | omega | (simp only []; omega))
        · -- c10 False
          refine wpC_skip ?_
          refine wC_ops ?_
          refine wI_mov (.t (.there rfl (.there rfl (.there rfl (.there rfl (.there rfl (.there rfl (.here)))))))) ?_
          refine wI_loadT (.t (.there rfl (.there rfl (.there rfl (.there rfl (.there rfl (.there rfl (.there rfl (.there rfl (.there rfl (.there rfl (.here)))))))))))) aGET aRC ?_
          refine wI_buildSlice (.agg (.t (.here)) aBOX rfl aRC .nil) ?_
          refine wI_append (.t (.there rfl (.there rfl (.here)))) (OwnS.keep hg (fun c x hc hx => by have h1 := hgb c hc; have h2 := AH.get_lt hx; exact aGET)) (.t (.here)) (At.of_get aGET rfl) rfl (by decide) (m := l.length) (k := 1) (by simp) rfl (by simp only [room]; omega) (fun g2 Hf hg3 hb3 hx3 => ?_)
          have hx3n := hx3.next
          simp only [AH.next_new, AH.next_put] at hx3n hb3
          have hg3 := hg3
          rw [cRngs_snoc l (_, _)] at hg3
          have hdf : DiceAt Hf d := DiceAt.keep (by assumption) (fun x hx => hx3.get _ _ (fun hm => by have := hgb _ hm; omega) aGET)
          have hsf : AH.SubX [d] H2 Hf := AH.SubX.transW aSUBX hx3 (fun b hb => .inr (by have := hgb b hb; omega))
          refine wI_mov (.t (.here)) ?_
          refine wI_end (.cons (.there rfl (.there rfl (.there rfl (.there rfl (.there rfl (.here)))))) (.cons (.there rfl (.there rfl (.there rfl (.there rfl (.there rfl (.there rfl (.here))))))) (.cons (.there rfl (.there rfl (.there rfl (.there rfl (.there rfl (.there rfl (.there rfl (.here)))))))) (.cons (.there rfl (.there rfl (.there rfl (.there rfl (.there rfl (.there rfl (.there rfl (.there rfl (.here))))))))) (.cons (.there rfl (.there rfl (.there rfl (.there rfl (.there rfl (.there rfl (.there rfl (.there rfl (.there rfl (.here)))))))))) (.cons (.there rfl (.there rfl (.there rfl (.there rfl (.there rfl (.there rfl (.there rfl (.there rfl (.there rfl (.there rfl (.here))))))))))) (.cons (.here) (.cons (.there rfl (.there rfl (.there rfl (.there rfl (.there rfl (.there rfl (.there rfl (.there rfl (.there rfl (.there rfl (.there rfl (.there rfl (.here))))))))))))) .nil)))))))) ?_
          refine wC_ops ?_
          refine wI_mov (.t (.there rfl (.there rfl (.there rfl (.there rfl (.there rfl (.there rfl (.there rfl (.here))))))))) ?_
          refine wI_add (.t (.here)) .c (wrap64 aOM) ?_
          refine wI_mov (.t (.here)) ?_
          refine wI_end (.cons (.there rfl (.there rfl (.there rfl (.here)))) (.cons (.there rfl (.there rfl (.there rfl (.there rfl (.here))))) (.cons (.there rfl (.there rfl (.there rfl (.there rfl (.there rfl (.here)))))) (.cons (.there rfl (.there rfl (.there rfl (.there rfl (.there rfl (.there rfl (.here))))))) (.cons (.there rfl (.there rfl (.there rfl (.there rfl (.there rfl (.there rfl (.there rfl (.here)))))))) (.cons (.there rfl (.there rfl (.there rfl (.there rfl (.there rfl (.there rfl (.there rfl (.there rfl (.here))))))))) (.cons (.there rfl (.there rfl (.there rfl (.there rfl (.there rfl (.there rfl (.there rfl (.there rfl (.there rfl (.here)))))))))) (.cons (.here) .nil)))))))) ?_
          refine ⟨(k + 1, g2, l ++ [(zd, zd)]), (.cons (.here) (.cons (.there rfl (.here)) (.cons (.there rfl (.there rfl (.here))) (.cons (.there rfl (.there rfl (.there rfl (.here)))) (.cons (.there rfl (.there rfl (.there rfl (.there rfl (.here))))) (.cons (.there rfl (.there rfl (.there rfl (.there rfl (.there rfl (.here)))))) (.cons (.there rfl (.there rfl (.there rfl (.there rfl (.there rfl (.there rfl (.here))))))) (.cons (.there rfl (.there rfl (.there rfl (.there rfl (.there rfl (.there rfl (.there rfl (.here)))))))) .nil)))))))), ?_, ?_⟩
          · refine ⟨hdf, hsf, hg3, fun c hc => by rcases hb3 c hc with h | h; exact hgb c h; omega, by simp; omega, by omega, fun q hq => ?_⟩
            rcases Nat.lt_or_ge q l.length with c | c
            · rw [getD_snoc_lt c]; exact hgr q aOM
            · rw [show q = l.length by omega, getD_snoc_eq]; simp only []; omega
          · (first | omega | (simp only []; omega))
      · -- c8 False
        refine wpC_exit ?_
        refine wC_ops ?_
        refine wI_fieldAddr (.t (.there rfl (.there rfl (.here)))) ?_
        refine wI_load1 (.t (.here)) aGET rfl ?_
        refine wI_mov (.t (.there rfl (.there rfl (.there rfl (.there rfl (.there rfl (.there rfl (.there rfl (.there rfl (.here)))))))))) ?_
        refine wI_buildSlice (.one (.t (.here)) aONE rfl aRC .nil) ?_
        refine wI_append (.t (.there rfl (.there rfl (.here)))) (OwnS.keepX hSD.fw ((hsk.new _)) (fun c hc => by have := hSD.wb c hc; simp; omega)) (.t (.here)) (At.of_get aGET rfl) (by simp only [List.all_cons, List.all_nil, Bool.and_true]; exact hgl.one) (by decide) (m := vs.length) (k := 1) (by simp) rfl (by have := hSD.len; simp only [room]; omega) (fun w2 Hg hw3 hb3 hx3 => ?_)
        have hx3n := hx3.next
        simp only [AH.next_new] at hx3n
        have hw3l := hw3.valsLen
        have hS2 : SData (H3.new (.cells [g] true)) (H0.next + 2) u w t I vs := hSD.keep (hsk.new _) (fun b hb => by simp at hb; omega)
        have hS3 := hS2.push (l := l) hw3 hb3 (by simp only [AH.next_new]; omega) hx3 (hgk.keep fun c x hc hx => AH.get_new_old hx) (fun c hc => ⟨by have := hgbk c hc; omega, fun hm => by have := hgbk c hc; have := hSD.fw.lt hm; omega⟩)
        have hB4 : Hg.get H0.next = some (.cells [.nils, .nils] true) := hx3.get _ _ (fun hm => by have := hSD.wb _ hm; omega) aGET
        have hB5 : Hg.get (H0.next + 1) = some (.cells [u, w] true) := hx3.get _ _ (fun hm => by have := hSD.wb _ hm; omega) aGET
        have hdg : DiceAt Hg d := hdk.keep fun x hx => hx3.get _ _ (fun hm => by have := hSD.wb _ hm; omega) (AH.get_new_old hx)
        have hsg : AH.SubX [d] H0 Hg := ((hs1.trans hsk).new _).transW hx3 (fun b hb => .inr (by have := hSD.wb b hb; omega))
        refine wI_fieldAddr (.t (.there rfl (.there rfl (.there rfl (.there rfl (.there rfl (.there rfl (.there rfl (.here))))))))) ?_
        first | refine wI_storeA (.t (.here)) (.t (.there rfl (.here))) aGET rfl aBOX aRC ?_ | refine wI_store1 (.t (.here)) (.t (.there rfl (.here))) aGET aONE aRC ?_
        refine wI_end (.cons (.there rfl (.there rfl (.there rfl (.there rfl (.there rfl (.there rfl (.here))))))) (.cons (.there rfl (.there rfl (.there rfl (.there rfl (.there rfl (.there rfl (.there rfl (.here)))))))) (.cons (.there rfl (.there rfl (.there rfl (.there rfl (.there rfl (.there rfl (.there rfl (.there rfl (.here))))))))) (.cons (.there rfl (.there rfl (.there rfl (.there rfl (.there rfl (.there rfl (.there rfl (.there rfl (.there rfl (.here)))))))))) (.cons (.there rfl (.there rfl (.there rfl (.there rfl (.there rfl (.there rfl (.there rfl (.there rfl (.there rfl (.there rfl (.here))))))))))) (.cons (.there rfl (.there rfl (.there rfl (.there rfl (.there rfl (.there rfl (.there rfl (.there rfl (.there rfl (.there rfl (.there rfl (.here)))))))))))) .nil)))))) ?_
        refine wC_ops ?_
        refine wI_mov (.t (.there rfl (.there rfl (.there rfl (.there rfl (.there rfl (.here))))))) ?_
        refine wI_sub (.t (.here)) .c (wrap64 aOM) ?_
        refine wI_mov (.t (.here)) ?_
        refine wI_end (.cons (.there rfl (.there rfl (.there rfl (.here)))) (.cons (.there rfl (.there rfl (.there rfl (.there rfl (.here))))) (.cons (.there rfl (.there rfl (.there rfl (.there rfl (.there rfl (.here)))))) (.cons (.there rfl (.there rfl (.there rfl (.there rfl (.there rfl (.there rfl (.here))))))) (.cons (.there rfl (.there rfl (.there rfl (.there rfl (.there rfl (.there rfl (.there rfl (.here)))))))) (.cons (.here) .nil)))))) ?_
        refine ⟨i - 1, (.cons (.here) (.cons (.there rfl (.here)) (.cons (.there rfl (.there rfl (.here))) (.cons (.there rfl (.there rfl (.there rfl (.here)))) (.cons (.there rfl (.there rfl (.there rfl (.there rfl (.here))))) (.cons (.there rfl (.there rfl (.there rfl (.there rfl (.there rfl (.here)))))) .nil)))))), ?_, ?_⟩
        · refine ⟨hdg.keep fun x hx => AH.get_put_old aOM hx, hsg.put (.inr aOM) _, aGET, by omega, w2, vs ++ [g], I ++ [l], aGET, ?_, by simp; omega, fun q k hq hk => ?_, fun q hq => ?_⟩
          · exact ⟨hS3.fu.keep fun c x hc hx => AH.get_put_old (by have := hS3.ub c hc; omega) hx, hS3.ub, hS3.fw.keep fun c x hc hx => AH.get_put_old (by have := hS3.wb c hc; omega) hx, hS3.wb, hS3.uw, hS3.len, fun k hk => ⟨(hS3.item k hk).1.keep fun c x hc hx => AH.get_put_old (by have := ((hS3.item k hk).2 c hc).1; omega) hx, (hS3.item k hk).2⟩⟩
          · simp only [List.length_append, List.length_singleton] at hq
            rcases Nat.lt_or_ge q I.length with c | c
            · rw [getD_snoc_lt c]; exact hrb q k c hk
            · rw [show q = I.length by omega, getD_snoc_eq]; exact hgr k aOM
          · simp only [List.length_append, List.length_singleton] at hq
            rcases Nat.lt_or_ge q I.length with c | c
            · rw [getD_snoc_lt c]; exact hrl q c
            · rw [show q = I.length by omega, getD_snoc_eq]; omega
        · (first | omega | (simp only []; omega))
    · -- c7 False
      refine wpC_exit ?_
      refine wpC_seq ?_
      refine wC_ops ?_
      refine wI_loadT (.t (.there rfl (.there rfl (.here)))) aGET aRC ?_
      first | refine wI_storeA (.t (.there rfl (.there rfl (.here)))) (.t (.here)) aGET rfl aBOX aRC ?_ | refine wI_store1 (.t (.there rfl (.there rfl (.here)))) (.t (.here)) aGET aONE aRC ?_
      refine wI_end (.cons (.there rfl (.there rfl (.here))) .nil) ?_
      refine wpC_ret (retT (.here) aGET aRC ?_)
      refine ⟨⟨u, w, t, I, vs, rfl, fun H' hH => ?_, ⟨by omega, fun q hq => by have := htb q hq; omega, by omega, hrl, fun q k hq hk => by have := hrb q k hq hk; omega⟩, by omega⟩, hdi2.keep fun x hx => aGET, hs1.put (.inr aOM) _⟩
      refine SData.sort (N := H0.next + 2) (hSD.keep (ds := [d, H0.next]) (((AH.SubX.refl _ _).put (.inl (by simp)) _).trans (hH.weak fun b hb => .inl (by simp at hb; simp [hb]))) (fun b hb => by simp at hb; omega)) aOM aOM (fun q => ?_)
      rcases Nat.lt_or_ge q I.length with c | c
      · rw [hrl q c]; omega
      · rw [List.getD_eq_getElem?_getD, List.getElem?_eq_none c]; simp
end Wk
