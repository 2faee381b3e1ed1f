/- A part of the proof: WalkLA. It holds for whatever its statements name; no condition beyond theirs. -/
import Derived.Test.YtllbpnmhoblkgaaDoorWalkA
import Derived.Test.YtllbpnmhoblkgaaDoorLawA
namespace Wk
open Go Am DC Sp
variable {T : Tab} {H0 : AH}

theorem l3 (hT : Ext fns1 T) (hL : Ext fnsL3 T) (hAw : T.prim 17 = some pAwake) {a b : AV} {t : List Int} {I : List (List Rng)} {vs : List AV} (hS : SortAt0 H0 a b t I vs) (x y : Int) {v : AV} {l : List Int} (hv : Ints H0 v l) (hl : l.length < 9223372036854775808) :
    wpF T (.fn 3 []) [.agg [a, b], .int .i64 x, .int .i64 y, v] H0 (fun r H => r = .bool true) := by
  refine wF hL (af := A3) rfl ?_
  have ha := hS.tol.len
  have hb := hS.items.len
  refine wpC_seq ?_
  refine wC_ops ?_
  refine wI_box (.t (.here)) aBOX ?_
  refine wI_mov .c ?_
  refine wI_end (.cons (.there rfl (.there rfl (.there rfl (.here)))) (.cons (.there rfl (.there rfl (.there rfl (.there rfl (.here))))) (.cons (.there rfl (.there rfl (.there rfl (.there rfl (.there rfl (.here)))))) (.cons (.there rfl (.here)) .nil)))) ?_
  refine wpC_seq ?_
  refine wpC_seq ?_
  refine wC_ops ?_
  refine wI_loadT (.t (.there rfl (.there rfl (.there rfl (.here))))) aGET aRC ?_
  refine wI_call (.cons (.t (.here)) .nil) (s16 hT (hS.mono aSUB)) ?_
  rintro _ H1 ⟨rfl, hs1⟩
  have hs1n := hs1.next
  simp only [AH.next_new] at hs1n
  have hsn1 := hs1.next
  refine wI_end (.cons (.there rfl (.there rfl (.here))) (.cons (.there rfl (.there rfl (.there rfl (.here)))) (.cons (.there rfl (.there rfl (.there rfl (.there rfl (.here))))) (.cons (.there rfl (.there rfl (.there rfl (.there rfl (.there rfl (.here)))))) (.cons (.here) .nil))))) ?_
  refine wC_cond (.t (.there rfl (.there rfl (.there rfl (.there rfl (.here)))))) (fun c2 => ?_) (fun c2 => ?_)
  · -- c2 True
    refine wpC_seq ?_
    refine wC_ops ?_
    refine wI_call .nil (wpF_prim hAw rfl (S := fun v _ => v = .bool true) rfl) ?_
    rintro _ _ rfl
    refine wI_mov (.t (.here)) ?_
    refine wI_end (.cons (.here) .nil) ?_
    refine wpC_ret (ret1 (.here) ?_)
    first | exact rfl | (exfalso; simp_all; done)
  · -- c2 False
    refine wpC_skip ?_
    refine wpC_seq ?_
    refine wC_ops ?_
    refine wI_mov (.t (.there rfl (.there rfl (.here)))) ?_
    refine wI_call (.cons (.t (.here)) .nil) (s19 hT (hv.mono aSUB) hl) ?_
    rintro _ H2 ⟨d, rfl, hd2, hdl2, hs2⟩
    have hsn2 := hs2.next
    refine wI_call (.cons (.t (.here)) (.cons .c .nil)) (s18 hT hd2 12 aOM) ?_
    rintro _ H3 ⟨⟨a2, b2, t2, I2, vs2, rfl, hS2, hok2, hl2⟩, hd3, hx3⟩
    have hx3n := hx3.next
    have hS3 := hS2 _ (AH.SubX.refl _ _)
    have ha2 := hS3.tol.len
    have hb2 := hS3.items.len
    have hS1 := hS.small ‹_›
    refine wI_alloc ?_
    first | refine wI_storeA (.t (.here)) (.t (.there rfl (.here))) aGET rfl aBOX aRC ?_ | refine wI_store1 (.t (.here)) (.t (.there rfl (.here))) aGET aONE aRC ?_
    refine wI_end (.cons (.there rfl (.there rfl (.there rfl (.there rfl (.here))))) (.cons (.there rfl (.there rfl (.there rfl (.there rfl (.there rfl (.here)))))) (.cons (.there rfl (.there rfl (.there rfl (.there rfl (.there rfl (.there rfl (.there rfl (.here)))))))) (.cons (.here) .nil)))) ?_
    refine wpC_seq ?_
    refine wpC_seq ?_
    refine wC_ops ?_
    refine wI_loadT (.t (.there rfl (.there rfl (.here)))) aGET aRC ?_
    refine wI_loadT (.t (.there rfl (.there rfl (.there rfl (.here))))) aGET aRC ?_
    refine wI_call (.cons (.t (.there rfl (.here))) .nil) (s20 hT (by first | assumption | exact SortAt.mono (by assumption) aSUB)) ?_
    rintro _ H6 ⟨rfl, hs6⟩
    have hsn6 := hs6.next
    refine wI_chkLoadT (.there rfl (.here)) (.t (.there rfl (.there rfl (.there rfl (.there rfl (.there rfl (.here))))))) aGET aRC aSAME ?_
    refine wI_call (.cons (.t (.there rfl (.here))) .nil) (s21 hT (by first | assumption | exact SortAt.mono (by assumption) aSUB)) ?_
    rintro _ H7 ⟨rfl, hs7⟩
    have hsn7 := hs7.next
    refine wI_neI (.t (.there rfl (.here))) (.t (.here)) ?_
    refine wI_mov (.t (.here)) ?_
    refine wI_gdF (.here) (fun g8 => ?_) (fun g8 => ?_)
    · -- g8 False
      refine wI_loadT (.t (.there rfl (.there rfl (.there rfl (.there rfl (.there rfl (.there rfl (.there rfl (.there rfl (.here)))))))))) aGET aRC ?_
      refine wI_yes (.there rfl (.here)) g8 ?_
      refine wI_mov (.t (.there rfl (.there rfl (.there rfl (.there rfl (.there rfl (.there rfl (.there rfl (.here))))))))) ?_
      refine wI_yes (.there rfl (.there rfl (.here))) g8 ?_
      refine wI_mov (.t (.there rfl (.there rfl (.there rfl (.there rfl (.there rfl (.there rfl (.there rfl (.there rfl (.there rfl (.here))))))))))) ?_
      refine wI_yes (.there rfl (.there rfl (.there rfl (.here)))) g8 ?_
      refine wI_loadT (.t (.there rfl (.there rfl (.there rfl (.there rfl (.there rfl (.there rfl (.there rfl (.there rfl (.there rfl (.there rfl (.there rfl (.here))))))))))))) aGET aRC ?_
      refine wI_yes (.there rfl (.there rfl (.there rfl (.there rfl (.here))))) g8 ?_
      refine wI_mov (.t (.there rfl (.there rfl (.there rfl (.there rfl (.there rfl (.there rfl (.there rfl (.there rfl (.there rfl (.there rfl (.here)))))))))))) ?_
      refine wI_yes (.there rfl (.there rfl (.there rfl (.there rfl (.there rfl (.here)))))) g8 ?_
      refine wI_mov (.t (.there rfl (.there rfl (.there rfl (.there rfl (.there rfl (.there rfl (.there rfl (.there rfl (.there rfl (.there rfl (.there rfl (.there rfl (.here)))))))))))))) ?_
      refine wI_yes (.there rfl (.there rfl (.there rfl (.there rfl (.there rfl (.there rfl (.here))))))) g8 ?_
      refine wI_call (.cons (.t (.there rfl (.there rfl (.there rfl (.there rfl (.there rfl (.here))))))) (.cons (.t (.there rfl (.there rfl (.there rfl (.there rfl (.here)))))) (.cons (.t (.there rfl (.there rfl (.there rfl (.here))))) .nil))) (s22 hT (by first | assumption | exact SortAt.mono (by assumption) aSUB) _ _) ?_
      rintro _ H9 ⟨rfl, hs9⟩
      have hsn9 := hs9.next
      refine wI_chkyes (.there rfl (.there rfl (.there rfl (.there rfl (.there rfl (.there rfl (.there rfl (.here)))))))) g8 ?_
      refine wI_chkLoadT (.there rfl (.there rfl (.there rfl (.here)))) (.t (.there rfl (.there rfl (.there rfl (.there rfl (.there rfl (.there rfl (.there rfl (.there rfl (.there rfl (.there rfl (.there rfl (.there rfl (.there rfl (.there rfl (.there rfl (.here))))))))))))))))) aGET aRC aSAME ?_
      refine wI_yes (.there rfl (.there rfl (.there rfl (.there rfl (.there rfl (.there rfl (.there rfl (.here)))))))) g8 ?_
      refine wI_call (.cons (.t (.there rfl (.there rfl (.there rfl (.here))))) (.cons (.t (.there rfl (.there rfl (.here)))) (.cons (.t (.there rfl (.here))) .nil))) (s23 hT (by first | assumption | exact SortAt.mono (by assumption) aSUB) _ _) ?_
      rintro _ H10 ⟨rfl, hs10⟩
      have hsn10 := hs10.next
      refine wI_yes (.there rfl (.there rfl (.there rfl (.there rfl (.there rfl (.there rfl (.there rfl (.there rfl (.here))))))))) g8 ?_
      refine wI_neB (.t (.there rfl (.here))) (.t (.here)) ?_
      refine wI_pickF (.t (.there rfl (.there rfl (.there rfl (.there rfl (.there rfl (.there rfl (.there rfl (.there rfl (.there rfl (.here))))))))))) g8 (.t (.here)) ?_
      refine wI_mov (.t (.here)) ?_
      refine wI_gdF (.here) (fun g11 => ?_) (fun g11 => ?_)
      · -- g11 False
        refine wI_loadT (.t (.there rfl (.there rfl (.there rfl (.there rfl (.there rfl (.there rfl (.there rfl (.there rfl (.there rfl (.there rfl (.there rfl (.there rfl (.there rfl (.there rfl (.there rfl (.there rfl (.there rfl (.there rfl (.there rfl (.there rfl (.here)))))))))))))))))))))) aGET aRC ?_
        refine wI_yes (.there rfl (.here)) g11 ?_
        refine wI_call (.cons (.t (.here)) .nil) (s20 hT (by first | assumption | exact SortAt.mono (by assumption) aSUB)) ?_
        rintro _ H12 ⟨rfl, hs12⟩
        have hsn12 := hs12.next
        refine wI_yes (.there rfl (.there rfl (.here))) g11 ?_
        refine wI_neI (.t (.here)) .c ?_
        refine wI_pickF (.t (.there rfl (.there rfl (.there rfl (.here))))) g11 (.t (.here)) ?_
        refine wI_end (.cons (.there rfl (.there rfl (.there rfl (.there rfl (.there rfl (.there rfl (.there rfl (.there rfl (.there rfl (.there rfl (.there rfl (.there rfl (.there rfl (.there rfl (.there rfl (.there rfl (.there rfl (.there rfl (.there rfl (.there rfl (.there rfl (.there rfl (.there rfl (.there rfl (.here))))))))))))))))))))))))) (.cons (.here) .nil)) ?_
        refine wC_if (.t (.there rfl (.here))) (fun c13 => ?_) (fun c13 => ?_)
        · -- c13 True
          exfalso; simp_all [(check_ok t2 I2).2 hok2] --done
        · -- c13 False
          refine wpC_skip ?_
          refine wpC_seq ?_
          refine wpC_seq ?_
          refine wC_ops ?_
          refine wI_mov .c ?_
          refine wI_end (.cons (.there rfl (.here)) (.cons (.here) .nil)) ?_
          refine wpC_block ?_
          refine wC_loop (α := Int) (fun i => [(9, .ptr H3.next 0), (10, .int .i64 i)]) (fun i H => H.get H3.next = some (.cells [a2, b2] true) ∧ SortAt H a2 b2 t2 I2 vs2 ∧ -1 ≤ i ∧ i ≤ 1000) (fun i => (1001 - i).toNat) (-1) (.cons (.here) (.cons (.there rfl (.here)) .nil)) ?_ ?_
          · exact ⟨aGET, hS3.mono aSUB, by omega, by omega⟩
          rintro i Ho ⟨hgo, hSo, hio, hio2⟩
          have hgl := AH.get_lt hgo
          refine wpC_seq ?_
          refine wpC_seq ?_
          refine wC_ops ?_
          have hb2l := hSo.items.len
          refine wI_mov (.t (.there rfl (.here))) ?_
          refine wI_fieldAddr (.t (.there rfl (.here))) ?_
          refine wI_load1 (.t (.here)) aGET rfl ?_
          refine wI_lenSl (.t (.here)) aLEN ?_
          refine wI_leq (.t (.there rfl (.there rfl (.there rfl (.here))))) (.t (.here)) ?_
          refine wI_end (.cons (.there rfl (.there rfl (.there rfl (.there rfl (.there rfl (.here)))))) (.cons (.there rfl (.there rfl (.there rfl (.there rfl (.there rfl (.there rfl (.here))))))) (.cons (.here) .nil))) ?_
          refine wC_if (.t (.there rfl (.there rfl (.here)))) (fun c14 => ?_) (fun c14 => ?_)
          · -- c14 True
            refine wpC_skip ?_
            refine wpC_seq ?_
            refine wpC_block ?_
            refine wpC_seq ?_
            refine wC_ops ?_
            refine wI_mov .c ?_
            refine wI_end (.cons (.there rfl (.here)) (.cons (.there rfl (.there rfl (.here))) (.cons (.here) .nil))) ?_
            refine wpC_block ?_
            refine wC_loop (α := Int) (fun k => [(9, .ptr H3.next 0), (10, .int .i64 i), (11, .int .i64 k)]) (fun k H => H.get H3.next = some (.cells [a2, b2] true) ∧ SortAt H a2 b2 t2 I2 vs2 ∧ -1 ≤ k ∧ k ≤ 1000) (fun k => (1001 - k).toNat) (-1) (.cons (.here) (.cons (.there rfl (.here)) (.cons (.there rfl (.there rfl (.here))) .nil))) ?_ ?_
            · exact ⟨aGET, hSo.mono aSUB, by omega, by omega⟩
            rintro k Hi ⟨hgi, hSi, hki, hki2⟩
            have hgil := AH.get_lt hgi
            have hSq := hSi
            refine wpC_seq ?_
            refine wpC_seq ?_
            refine wC_ops ?_
            have hb2l := hSi.items.len
            refine wI_mov (.t (.there rfl (.there rfl (.here)))) ?_
            refine wI_fieldAddr (.t (.there rfl (.here))) ?_
            refine wI_load1 (.t (.here)) aGET rfl ?_
            refine wI_lenSl (.t (.here)) aLEN ?_
            refine wI_leq (.t (.there rfl (.there rfl (.there rfl (.here))))) (.t (.here)) ?_
            refine wI_end (.cons (.there rfl (.there rfl (.there rfl (.there rfl (.there rfl (.here)))))) (.cons (.there rfl (.there rfl (.there rfl (.there rfl (.there rfl (.there rfl (.here))))))) (.cons (.there rfl (.there rfl (.there rfl (.there rfl (.there rfl (.there rfl (.there rfl (.here)))))))) (.cons (.here) .nil)))) ?_
            refine wC_if (.t (.there rfl (.there rfl (.there rfl (.here))))) (fun c15 => ?_) (fun c15 => ?_)
            · -- c15 True
              refine wpC_skip ?_
              refine wpC_seq ?_
              refine wpC_block ?_
              refine wpC_seq ?_
              refine wC_ops ?_
              refine wI_loadT (.t (.here)) aGET aRC ?_
              refine wI_mov (.t (.there rfl (.there rfl (.here)))) ?_
              refine wI_mov (.t (.there rfl (.there rfl (.there rfl (.there rfl (.here)))))) ?_
              refine wI_loadT (.t (.there rfl (.there rfl (.there rfl (.here))))) aGET aRC ?_
              refine wI_mov (.t (.there rfl (.there rfl (.there rfl (.there rfl (.there rfl (.here))))))) ?_
              refine wI_mov (.t (.there rfl (.there rfl (.there rfl (.there rfl (.there rfl (.there rfl (.there rfl (.here))))))))) ?_
              refine wI_call (.cons (.t (.there rfl (.there rfl (.there rfl (.there rfl (.there rfl (.here))))))) (.cons (.t (.there rfl (.there rfl (.there rfl (.there rfl (.here)))))) (.cons (.t (.there rfl (.there rfl (.there rfl (.here))))) .nil))) (s22 hT (by first | assumption | exact SortAt.mono (by assumption) aSUB) _ _) ?_
              rintro _ H16 ⟨rfl, hs16⟩
              have hsn16 := hs16.next
              refine wI_chkLoadT (.there rfl (.there rfl (.there rfl (.here)))) (.t (.there rfl (.there rfl (.there rfl (.there rfl (.there rfl (.there rfl (.there rfl (.here))))))))) aGET aRC aSAME ?_
              refine wI_call (.cons (.t (.there rfl (.there rfl (.there rfl (.here))))) (.cons (.t (.there rfl (.there rfl (.here)))) (.cons (.t (.there rfl (.here))) .nil))) (s23 hT (by first | assumption | exact SortAt.mono (by assumption) aSUB) _ _) ?_
              rintro _ H17 ⟨rfl, hs17⟩
              have hsn17 := hs17.next
              refine wI_neB (.t (.there rfl (.here))) (.t (.here)) ?_
              refine wI_end (.cons (.there rfl (.there rfl (.there rfl (.there rfl (.there rfl (.there rfl (.there rfl (.there rfl (.there rfl (.here)))))))))) (.cons (.there rfl (.there rfl (.there rfl (.there rfl (.there rfl (.there rfl (.there rfl (.there rfl (.there rfl (.there rfl (.here))))))))))) (.cons (.there rfl (.there rfl (.there rfl (.there rfl (.there rfl (.there rfl (.there rfl (.there rfl (.there rfl (.there rfl (.there rfl (.here)))))))))))) (.cons (.here) .nil)))) ?_
              refine wC_cond (.t (.there rfl (.there rfl (.there rfl (.here))))) (fun c18 => ?_) (fun c18 => ?_)
              · -- c18 True
                simp_all --done
              · -- c18 False
                refine wpC_skip ?_
                refine wC_ops ?_
                refine wI_mov (.t (.there rfl (.there rfl (.here)))) ?_
                refine wI_add (.t (.here)) .c (wrap64 aOM) ?_
                refine wI_mov (.t (.here)) ?_
                refine wI_end (.cons (.there rfl (.there rfl (.there rfl (.here)))) (.cons (.there rfl (.there rfl (.there rfl (.there rfl (.here))))) (.cons (.here) .nil))) ?_
                refine ⟨k + 1, (.cons (.here) (.cons (.there rfl (.here)) (.cons (.there rfl (.there rfl (.here))) .nil))), ?_, ?_⟩
                · exact ⟨aGET, hSi.mono aSUB, by omega, by have := hSi.small; have := hSi.len; omega⟩
                · (first | omega | (simp only []; omega))
            · -- c15 False
              refine wpC_exit ?_
              refine wC_ops ?_
              refine wI_mov (.t (.there rfl (.here))) ?_
              refine wI_add (.t (.here)) .c (wrap64 aOM) ?_
              refine wI_mov (.t (.here)) ?_
              refine wI_end (.cons (.there rfl (.there rfl (.there rfl (.here)))) (.cons (.here) .nil)) ?_
              refine ⟨i + 1, (.cons (.here) (.cons (.there rfl (.here)) .nil)), ?_, ?_⟩
              · exact ⟨aGET, hSq.mono aSUB, by omega, by have := hSq.small; have := hSq.len; omega⟩
              · (first | omega | (simp only []; omega))
          · -- c14 False
            refine wpC_exit ?_
            refine wpC_seq ?_
            refine wC_ops ?_
            refine wI_call .nil (wpF_prim hAw rfl (S := fun v _ => v = .bool true) rfl) ?_
            rintro _ _ rfl
            refine wI_mov (.t (.here)) ?_
            refine wI_end (.cons (.here) .nil) ?_
            refine wpC_ret (ret1 (.here) ?_)
            first | exact rfl | (exfalso; simp_all; done)
      · -- g11 True
        refine wI_no (.there rfl (.here)) (by rw [g11]; decide) ?_
        refine wI_no (.there rfl (.there rfl (.here))) (by rw [g11]; decide) ?_
        refine wI_pickT (.t (.there rfl (.there rfl (.there rfl (.here))))) g11 .c ?_
        refine wI_end (.cons (.there rfl (.there rfl (.there rfl (.there rfl (.there rfl (.there rfl (.there rfl (.there rfl (.there rfl (.there rfl (.there rfl (.there rfl (.there rfl (.there rfl (.there rfl (.there rfl (.there rfl (.there rfl (.there rfl (.there rfl (.there rfl (.there rfl (.there rfl (.there rfl (.here))))))))))))))))))))))))) (.cons (.here) .nil)) ?_
        refine wC_condT (.t (.there rfl (.here))) rfl ?_
        refine wpC_seq ?_
        refine wC_ops ?_
        refine wI_mov .c ?_
        refine wI_end (.cons (.here) .nil) ?_
        refine wpC_ret (ret1 (.here) ?_)
        first | exact rfl | (exfalso; simp_all; done)
    · -- g8 True
      refine wI_no (.there rfl (.here)) (by rw [g8]; decide) ?_
      refine wI_no (.there rfl (.there rfl (.here))) (by rw [g8]; decide) ?_
      refine wI_no (.there rfl (.there rfl (.there rfl (.here)))) (by rw [g8]; decide) ?_
      refine wI_no (.there rfl (.there rfl (.there rfl (.there rfl (.here))))) (by rw [g8]; decide) ?_
      refine wI_no (.there rfl (.there rfl (.there rfl (.there rfl (.there rfl (.here)))))) (by rw [g8]; decide) ?_
      refine wI_no (.there rfl (.there rfl (.there rfl (.there rfl (.there rfl (.there rfl (.here))))))) (by rw [g8]; decide) ?_
      refine wI_chkno (.there rfl (.there rfl (.there rfl (.there rfl (.there rfl (.there rfl (.there rfl (.here)))))))) (by rw [g8]; decide) rfl ?_
      refine wI_no (.there rfl (.there rfl (.there rfl (.there rfl (.there rfl (.there rfl (.there rfl (.here)))))))) (by rw [g8]; decide) ?_
      refine wI_no (.there rfl (.there rfl (.there rfl (.there rfl (.there rfl (.there rfl (.there rfl (.there rfl (.here))))))))) (by rw [g8]; decide) ?_
      refine wI_pickT (.t (.there rfl (.there rfl (.there rfl (.there rfl (.there rfl (.there rfl (.there rfl (.there rfl (.there rfl (.here))))))))))) g8 .c ?_
      refine wI_mov (.t (.here)) ?_
      refine wI_no (.here) (by decide) ?_
      refine wI_no (.there rfl (.here)) (by decide) ?_
      refine wI_no (.there rfl (.there rfl (.here))) (by decide) ?_
      refine wI_pickT (.t (.there rfl (.there rfl (.there rfl (.here))))) rfl .c ?_
      refine wI_end (.cons (.there rfl (.there rfl (.there rfl (.there rfl (.there rfl (.there rfl (.there rfl (.there rfl (.there rfl (.there rfl (.there rfl (.there rfl (.there rfl (.there rfl (.there rfl (.there rfl (.there rfl (.there rfl (.there rfl (.there rfl (.there rfl (.there rfl (.there rfl (.there rfl (.here))))))))))))))))))))))))) (.cons (.here) .nil)) ?_
      refine wC_condT (.t (.there rfl (.here))) rfl ?_
      refine wpC_seq ?_
      refine wC_ops ?_
      refine wI_mov .c ?_
      refine wI_end (.cons (.here) .nil) ?_
      refine wpC_ret (ret1 (.here) ?_)
      first | exact rfl | (exfalso; simp_all; done)
end Wk
