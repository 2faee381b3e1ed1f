/- A part of the proof: WalkLB. It holds for whatever its statements name; no condition beyond theirs. -/
import Derived.Test.YtllbpnmhoblkgaaDoorWalkB
import Derived.Test.YtllbpnmhoblkgaaDoorLawB
namespace Wk
open Go Am DC Sp Mt
variable {T : Tab} {H0 : AH}

theorem l6 (hT : Ext fns1 T) (hS : Ext fnsS T) (hB : Ext fnsB T) (hL : Ext fnsL6 T) (hAw : T.prim 17 = some pAwake) {a b : AV} {t : List Int} {I : List (List Rng)} {vs : List AV} (hS0 : SortAt0 H0 a b t I vs) {cv : AV} {c : List Int} (hc : Ints H0 cv c) (hc63 : c.length < 9223372036854775808) {v : AV} {nl : List Int} (hv : Ints H0 v nl) (hl : nl.length < 9223372036854775808) :
    wpF T (.fn 6 []) [.agg [a, b], cv, v] H0 (fun r H => r = .bool true) := by
  refine wF hL (af := A6) rfl ?_
  have ha := hS0.tol.len
  have hb := hS0.items.len
  refine wpC_seq ?_
  refine wC_ops ?_
  refine wI_box (.t (.here)) aBOX ?_
  refine wI_mov .c ?_
  refine wI_end (.cons (.there rfl (.there rfl (.there rfl (.here)))) (.cons (.there rfl (.there rfl (.there rfl (.there rfl (.here))))) (.cons (.there rfl (.here)) .nil))) ?_
  refine wpC_seq ?_
  refine wpC_seq ?_
  refine wC_ops ?_
  refine wI_loadT (.t (.there rfl (.there rfl (.here)))) aGET aRC ?_
  refine wI_call (.cons (.t (.here)) .nil) (s16 hT (hS0.mono aSUB)) ?_
  rintro _ H1 ⟨rfl, hs1⟩
  have hs1n := hs1.next
  simp only [AH.next_new] at hs1n
  have hsn1 := hs1.next
  refine wI_mov (.t (.here)) ?_
  refine wI_gdF (.here) (fun g2 => ?_) (fun g2 => ?_)
  · -- g2 False
    refine wI_mov (.t (.there rfl (.there rfl (.there rfl (.here))))) ?_
    refine wI_yes (.there rfl (.here)) g2 ?_
    refine wI_lenSl (.t (.here)) aLEN ?_
    refine wI_yes (.there rfl (.there rfl (.here))) g2 ?_
    refine wI_gtr (.t (.here)) .c ?_
    refine wI_pickF (.t (.there rfl (.there rfl (.there rfl (.here))))) g2 (.t (.here)) ?_
    refine wI_end (.cons (.there rfl (.there rfl (.there rfl (.there rfl (.there rfl (.there rfl (.there rfl (.here)))))))) (.cons (.there rfl (.there rfl (.there rfl (.there rfl (.there rfl (.there rfl (.there rfl (.there rfl (.here))))))))) (.cons (.there rfl (.there rfl (.there rfl (.there rfl (.there rfl (.there rfl (.there rfl (.there rfl (.there rfl (.here)))))))))) (.cons (.here) .nil)))) ?_
    refine wC_if (.t (.there rfl (.there rfl (.there rfl (.here))))) (fun c3 => ?_) (fun c3 => ?_)
    · -- c3 True
      refine wpC_seq ?_
      refine wC_ops ?_
      refine wI_call .nil (wpF_prim hAw rfl (S := fun v _ => v = .bool true) rfl) ?_
      rintro _ _ rfl
      refine wI_mov (.t (.here)) ?_
      refine wI_end (.cons (.here) .nil) ?_
      refine wpC_ret (ret1 (.here) ?_)
      first | exact rfl | (exfalso; simp_all; done)
    · -- c3 False
      have hS1 := hS0.small ‹_›
      have hc40 : c.length ≤ 40 := by omega
      refine wpC_skip ?_
      refine wpC_seq ?_
      refine wC_ops ?_
      refine wI_mov (.t (.there rfl (.here))) ?_
      refine wI_call (.cons (.t (.here)) .nil) (s19 hT (hv.mono aSUB) hl) ?_
      rintro _ H2 ⟨d, rfl, hd2, hdl2, hs2⟩
      have hs2n := hs2.next
      refine wI_mov (.t (.here)) ?_
      refine wI_end (.cons (.there rfl (.there rfl (.there rfl (.here)))) (.cons (.there rfl (.there rfl (.there rfl (.there rfl (.there rfl (.here)))))) (.cons (.here) .nil))) ?_
      refine wpC_seq ?_
      refine wC_ops ?_
      refine wI_mov (.t (.there rfl (.there rfl (.here)))) ?_
      refine wI_call (.cons (.t (.here)) (.cons .c .nil)) (s18 hT hd2 14 aOM) ?_
      rintro _ H3 ⟨⟨a2, b2, t2, I2, vs2, rfl, hS2, hok2, hl2⟩, hd3, hx3⟩
      have hx3n := hx3.next
      have hS3 := hS2 _ (AH.SubX.refl _ _)
      have ha2 := hS3.tol.len
      have hb2 := hS3.items.len
      have hb2l : LenOf b2 I2.length := hS3.len ▸ hb2
      have hd3l := hd3.lt
      have hd2l := hd2.lt
      refine wI_alloc ?_
      first | refine wI_storeA (.t (.here)) (.t (.there rfl (.here))) aGET rfl aBOX aRC ?_ | refine wI_store1 (.t (.here)) (.t (.there rfl (.here))) aGET aONE aRC ?_
      refine wI_end (.cons (.there rfl (.there rfl (.there rfl (.here)))) (.cons (.there rfl (.there rfl (.there rfl (.there rfl (.here))))) (.cons (.there rfl (.there rfl (.there rfl (.there rfl (.there rfl (.here)))))) (.cons (.here) .nil)))) ?_
      refine wpC_seq ?_
      refine wC_ops ?_
      refine wI_mov .c ?_
      refine wI_end (.cons (.there rfl (.here)) (.cons (.there rfl (.there rfl (.here))) (.cons (.there rfl (.there rfl (.there rfl (.here)))) (.cons (.there rfl (.there rfl (.there rfl (.there rfl (.here))))) (.cons (.here) .nil))))) ?_
      refine wpC_seq ?_
      refine wpC_seq ?_
      refine wC_ops ?_
      refine wI_mov .c ?_
      refine wI_end (.cons (.there rfl (.here)) (.cons (.there rfl (.there rfl (.here))) (.cons (.there rfl (.there rfl (.there rfl (.here)))) (.cons (.there rfl (.there rfl (.there rfl (.there rfl (.here))))) (.cons (.there rfl (.there rfl (.there rfl (.there rfl (.there rfl (.here)))))) (.cons (.here) .nil)))))) ?_
      refine wpC_block ?_
      refine wC_loop (α := Nat × AV × List Int) (fun (i, u, l) => [(1, cv), (3, .ptr H0.next 0), (7, .ptr d 0), (8, .ptr H3.next 0), (9, u), (10, .int .i64 i)]) (fun (i, u, l) H => DiceAt H d ∧ AH.SubX [d] H3 H ∧ H.get H0.next = some (.cells [a, b] true) ∧ H.get H3.next = some (.cells [a2, b2] true) ∧ OwnS H u 1 (cInts l) ∧ (∀ c, c ∈ u.blocks → H3.next + 1 ≤ c) ∧ l.length ≤ i ∧ i ≤ I2.length) (fun (i, u, l) => I2.length - i) (0, .nils, []) (.cons (.here) (.cons (.there rfl (.here)) (.cons (.there rfl (.there rfl (.here))) (.cons (.there rfl (.there rfl (.there rfl (.here)))) (.cons (.there rfl (.there rfl (.there rfl (.there rfl (.here))))) (.cons (.there rfl (.there rfl (.there rfl (.there rfl (.there rfl (.here)))))) .nil)))))) ?_ ?_
      · exact ⟨hd3.keep fun x hx => aGET, aSUBX, aGET, aGET, OwnS.nils _ _, fun c hc => by simp [AV.blocks] at hc, by simp, by omega⟩
      rintro ⟨i, u, l⟩ H4 ⟨hd4, hs4, g40, g4, hu, hub, hul, hi⟩
      have hs4n := hs4.next
      have g4l := AH.get_lt g4
      have g40l := AH.get_lt g40
      refine wpC_seq ?_
      refine wpC_seq ?_
      refine wC_ops ?_
      refine wI_mov (.t (.there rfl (.there rfl (.there rfl (.there rfl (.there rfl (.here))))))) ?_
      refine wI_fieldAddr (.t (.there rfl (.there rfl (.there rfl (.there rfl (.here)))))) ?_
      refine wI_load1 (.t (.here)) aGET rfl ?_
      refine wI_lenSl (.t (.here)) aLEN ?_
      refine wI_lss (.t (.there rfl (.there rfl (.there rfl (.here))))) (.t (.here)) ?_
      refine wI_end (.cons (.there rfl (.there rfl (.there rfl (.there rfl (.there rfl (.here)))))) (.cons (.there rfl (.there rfl (.there rfl (.there rfl (.there rfl (.there rfl (.here))))))) (.cons (.there rfl (.there rfl (.there rfl (.there rfl (.there rfl (.there rfl (.there rfl (.here)))))))) (.cons (.there rfl (.there rfl (.there rfl (.there rfl (.there rfl (.there rfl (.there rfl (.there rfl (.here))))))))) (.cons (.there rfl (.there rfl (.there rfl (.there rfl (.there rfl (.there rfl (.there rfl (.there rfl (.there rfl (.here)))))))))) (.cons (.there rfl (.there rfl (.there rfl (.there rfl (.there rfl (.there rfl (.there rfl (.there rfl (.there rfl (.there rfl (.here))))))))))) (.cons (.here) .nil))))))) ?_
      refine wC_if (.t (.there rfl (.there rfl (.there rfl (.there rfl (.there rfl (.there rfl (.here)))))))) (fun c7 => ?_) (fun c7 => ?_)
      · -- c7 True
        refine wpC_skip ?_
        refine wpC_seq ?_
        refine wpC_block ?_
        refine wpC_seq ?_
        refine wC_ops ?_
        refine wI_mov (.t (.there rfl (.there rfl (.here)))) ?_
        refine wI_call (.cons (.t (.here)) (.cons .c .nil)) (s34 hT hd4 _ aOM) ?_
        rintro _ H5 ⟨⟨z5, rfl⟩, hd5, hx5⟩
        have hx5n := hx5.next
        refine wI_end (.cons (.there rfl (.there rfl (.here))) (.cons (.there rfl (.there rfl (.there rfl (.here)))) (.cons (.there rfl (.there rfl (.there rfl (.there rfl (.here))))) (.cons (.there rfl (.there rfl (.there rfl (.there rfl (.there rfl (.here)))))) (.cons (.there rfl (.there rfl (.there rfl (.there rfl (.there rfl (.there rfl (.here))))))) (.cons (.there rfl (.there rfl (.there rfl (.there rfl (.there rfl (.there rfl (.there rfl (.here)))))))) (.cons (.here) .nil))))))) ?_
        refine wC_cond (.t (.there rfl (.there rfl (.there rfl (.there rfl (.there rfl (.there rfl (.here)))))))) (fun c9 => ?_) (fun c9 => ?_)
        · -- c9 True
          refine wC_ops ?_
          refine wI_mov (.t (.there rfl (.there rfl (.there rfl (.there rfl (.here)))))) ?_
          refine wI_mov (.t (.there rfl (.there rfl (.there rfl (.there rfl (.there rfl (.there rfl (.here)))))))) ?_
          refine wI_buildSlice (.one (.t (.here)) aONE rfl aRC .nil) ?_
          refine wI_append (.t (.there rfl (.there rfl (.here)))) (OwnS.keep hu (fun c x hc hx => by have h1 := hub c hc; have h2 := AH.get_lt hx; exact aGET)) (.t (.here)) (At.of_get aGET rfl) rfl (by decide) (m := l.length) (k := 1) (by simp) rfl (by simp only [room]; omega) (fun u2 H6 hu3 hb3 hx3 => ?_)
          have hx3n := hx3.next
          simp only [AH.next_new] at hx3n hb3
          rw [cInts_snoc] at hu3
          have g68 : H6.get H3.next = some (.cells [a2, b2] true) := hx3.get _ _ (fun hm => by have := hub _ hm; omega) aGET
          have hd6 : DiceAt H6 d := hd5.keep fun x hx => hx3.get _ _ (fun hm => by have := hub _ hm; omega) (AH.get_new_old hx)
          have hs6 : AH.SubX [d] H3 H6 := ((hs4.trans hx5).new _).transW hx3 (fun b hb => .inr (by have := hub b hb; omega))
          refine wI_mov (.t (.here)) ?_
          refine wI_end (.cons (.there rfl (.there rfl (.there rfl (.there rfl (.there rfl (.here)))))) (.cons (.there rfl (.there rfl (.there rfl (.there rfl (.there rfl (.there rfl (.here))))))) (.cons (.there rfl (.there rfl (.there rfl (.there rfl (.there rfl (.there rfl (.there rfl (.here)))))))) (.cons (.there rfl (.there rfl (.there rfl (.there rfl (.there rfl (.there rfl (.there rfl (.there rfl (.here))))))))) (.cons (.here) (.cons (.there rfl (.there rfl (.there rfl (.there rfl (.there rfl (.there rfl (.there rfl (.there rfl (.there rfl (.there rfl (.here))))))))))) .nil)))))) ?_
          refine wC_ops ?_
          refine wI_mov (.t (.there rfl (.there rfl (.there rfl (.there rfl (.there rfl (.here))))))) ?_
          refine wI_add (.t (.here)) .c (wrap64 aOM) ?_
          refine wI_mov (.t (.here)) ?_
          refine wI_end (.cons (.there rfl (.there rfl (.there rfl (.here)))) (.cons (.there rfl (.there rfl (.there rfl (.there rfl (.here))))) (.cons (.there rfl (.there rfl (.there rfl (.there rfl (.there rfl (.here)))))) (.cons (.there rfl (.there rfl (.there rfl (.there rfl (.there rfl (.there rfl (.here))))))) (.cons (.there rfl (.there rfl (.there rfl (.there rfl (.there rfl (.there rfl (.there rfl (.here)))))))) (.cons (.here) .nil)))))) ?_
          refine ⟨(i + 1, u2, l ++ [(i : Int)]), (.cons (.here) (.cons (.there rfl (.here)) (.cons (.there rfl (.there rfl (.here))) (.cons (.there rfl (.there rfl (.there rfl (.here)))) (.cons (.there rfl (.there rfl (.there rfl (.there rfl (.here))))) (.cons (.there rfl (.there rfl (.there rfl (.there rfl (.there rfl (.here)))))) .nil)))))), ?_, ?_⟩
          · exact ⟨hd6, hs6, hx3.get _ _ (fun hm => by have := hub _ hm; omega) aGET, g68, hu3, fun c hc => by rcases hb3 c hc with h | h; exact hub c h; omega, by simp; omega, by omega⟩
          · (first | omega | (simp only []; omega))
        · -- c9 False
          refine wpC_skip ?_
          refine wC_ops ?_
          refine wI_mov (.t (.there rfl (.there rfl (.there rfl (.there rfl (.there rfl (.here))))))) ?_
          refine wI_add (.t (.here)) .c (wrap64 aOM) ?_
          refine wI_mov (.t (.here)) ?_
          refine wI_end (.cons (.there rfl (.there rfl (.there rfl (.here)))) (.cons (.there rfl (.there rfl (.there rfl (.there rfl (.here))))) (.cons (.there rfl (.there rfl (.there rfl (.there rfl (.there rfl (.here)))))) (.cons (.there rfl (.there rfl (.there rfl (.there rfl (.there rfl (.there rfl (.here))))))) (.cons (.there rfl (.there rfl (.there rfl (.there rfl (.there rfl (.there rfl (.there rfl (.here)))))))) (.cons (.here) .nil)))))) ?_
          refine ⟨(i + 1, u, l), (.cons (.here) (.cons (.there rfl (.here)) (.cons (.there rfl (.there rfl (.here))) (.cons (.there rfl (.there rfl (.there rfl (.here)))) (.cons (.there rfl (.there rfl (.there rfl (.there rfl (.here))))) (.cons (.there rfl (.there rfl (.there rfl (.there rfl (.there rfl (.here)))))) .nil)))))), ?_, ?_⟩
          · exact ⟨hd5, hs4.trans hx5, aGET, aGET, hu.keep (fun c x hc hx => by have h1 := hub c hc; have h2 := AH.get_lt hx; exact aGET), hub, by omega, by omega⟩
          · (first | omega | (simp only []; omega))
      · -- c7 False
        refine wpC_exit ?_
        refine wpC_seq ?_
        refine wC_ops ?_
        have hu1 := hu.intsLen
        have hcl1 := hc.len
        refine wI_loadT (.t (.there rfl (.here))) aGET aRC ?_
        refine wI_loadT (.t (.there rfl (.there rfl (.there rfl (.there rfl (.here)))))) aGET aRC ?_
        refine wI_loadT (.t (.there rfl (.there rfl (.there rfl (.there rfl (.there rfl (.here))))))) aGET aRC ?_
        refine wI_buildSlice (.agg (.t (.there rfl (.there rfl (.here)))) aBOX rfl aRC (.agg (.t (.there rfl (.here))) aBOX rfl aRC (.agg (.t (.here)) aBOX rfl aRC .nil))) ?_
        refine wI_mov (.t (.there rfl (.there rfl (.there rfl (.there rfl (.here)))))) ?_
        refine wI_mov (.t (.there rfl (.there rfl (.there rfl (.there rfl (.there rfl (.there rfl (.there rfl (.there rfl (.there rfl (.here))))))))))) ?_
        refine wI_mov (.t (.there rfl (.there rfl (.there rfl (.there rfl (.there rfl (.there rfl (.here)))))))) ?_
        refine wI_buildSlice (.one (.t (.there rfl (.there rfl (.here)))) aONE rfl aRC (.one (.t (.there rfl (.here))) aONE rfl aRC (.one (.t (.here)) aONE rfl aRC .nil))) ?_
        refine wI_mov (.t (.there rfl (.there rfl (.there rfl (.there rfl (.here)))))) ?_
        refine wI_mov (.t (.there rfl (.here))) ?_
        refine wI_end (.cons (.there rfl (.here)) (.cons (.here) .nil)) ?_
        refine wpC_seq ?_
        refine wpC_seq ?_
        refine wC_ops ?_
        refine wI_mov .c ?_
        refine wI_end (.cons (.there rfl (.here)) (.cons (.there rfl (.there rfl (.here))) (.cons (.here) .nil))) ?_
        refine wpC_block ?_
        refine wC_loop (α := Nat) (fun i => [(11, .sl H4.next 0 3 2), (12, .sl (H4.next + 1) 0 3 1), (13, .int .i64 i)]) (fun i H => ((H4.new (.cells [a, b, a2, b2, a2, b2] true)).new (.cells [cv, u, cv] true)).Sub H ∧ i ≤ 3) (fun i => 3 - i) 0 (.cons (.here) (.cons (.there rfl (.here)) (.cons (.there rfl (.there rfl (.here))) .nil))) ?_ ?_
        · exact ⟨AH.Sub.refl _, by omega⟩
        rintro i H7 ⟨hs7, hi7⟩
        have hs7n := hs7.next
        have hH7 : H4.Sub H7 := ((AH.Sub.refl H4).new' _).new' _ |>.trans hs7
        have hH0 : H0.Sub H7 := aSUB
        have g46 : H7.get H4.next = some (.cells [a, b, a2, b2, a2, b2] true) := hs7.get' (AH.get_new_old AH.get_new_self)
        have g50 : H7.get (H4.next + 1) = some (.cells [cv, u, cv] true) := hs7.get' AH.get_new_self
        have hSown : SortAt H7 a2 b2 t2 I2 vs2 := (hS2 _ hs4).mono hH7
        have hE : ∀ i, i < 3 → ∃ (a' b' : AV) (t' : List Int) (I' : List (List Rng)) (vs' : List AV) (cv' : AV) (c' : List Int), (([a, b, a2, b2, a2, b2] : List AV).drop (i * 2)).take 2 = [a', b'] ∧ (([cv, u, cv] : List AV).drop (i * 1)).take 1 = [cv'] ∧ SortAt H7 a' b' t' I' vs' ∧ Ints H7 cv' c' ∧ c'.length ≤ 40 := by
          intro i hi
          match i, hi with
          | 0, _ => exact ⟨a, b, t, I, vs, cv, c, rfl, rfl, hS1.mono hH0, hc.mono hH0, hc40⟩
          | 1, _ => exact ⟨a2, b2, t2, I2, vs2, u, l, rfl, rfl, hSown, hu.at.mono hH7, by omega⟩
          | 2, _ => exact ⟨a2, b2, t2, I2, vs2, cv, c, rfl, rfl, hSown, hc.mono hH0, hc40⟩
        refine wpC_seq ?_
        refine wpC_seq ?_
        refine wC_ops ?_
        refine wI_mov (.t (.there rfl (.there rfl (.here)))) ?_
        refine wI_mov (.t (.there rfl (.here))) ?_
        refine wI_lenSl (.t (.here)) aLEN ?_
        refine wI_lss (.t (.there rfl (.there rfl (.here)))) (.t (.here)) ?_
        refine wI_end (.cons (.there rfl (.there rfl (.there rfl (.there rfl (.here))))) (.cons (.there rfl (.there rfl (.there rfl (.there rfl (.there rfl (.here)))))) (.cons (.there rfl (.there rfl (.there rfl (.there rfl (.there rfl (.there rfl (.here))))))) (.cons (.here) .nil)))) ?_
        refine wC_if (.t (.there rfl (.there rfl (.there rfl (.here))))) (fun c10 => ?_) (fun c10 => ?_)
        · -- c10 True
          refine wpC_skip ?_
          refine wpC_seq ?_
          refine wpC_block ?_
          refine wpC_seq ?_
          refine wC_ops ?_
          obtain ⟨a', b', t', I', vs', cv', c', e1, e2, hS', hc', hcl'⟩ := hE i aOM
          refine wI_mov (.t (.here)) ?_
          refine wI_mov (.t (.there rfl (.there rfl (.there rfl (.here))))) ?_
          refine wI_ix (.t (.there rfl (.here))) ((At.of_get g46 rfl).mono aSUB) (.t (.here)) rfl (by simp; omega) (by decide) (fun b1 o1 p1 => ?_)
          rw [e1] at p1
          refine wI_ldcN (.t (.here)) (by first | exact p1 | exact Cells.mono p1 aSUB) rfl ?_
          refine wI_mov (.t (.there rfl (.there rfl (.there rfl (.there rfl (.there rfl (.here))))))) ?_
          refine wI_mov (.t (.there rfl (.there rfl (.there rfl (.there rfl (.there rfl (.there rfl (.there rfl (.here))))))))) ?_
          refine wI_ix (.t (.there rfl (.here))) ((At.of_get g50 rfl).mono aSUB) (.t (.here)) rfl (by simp; omega) (by decide) (fun b2 o2 p2 => ?_)
          rw [e2] at p2
          refine wI_ldc1 0 (.t (.here)) (by first | exact p2 | exact Cells.mono p2 aSUB) rfl ?_
          refine wI_call (.cons (.t (.there rfl (.there rfl (.there rfl (.there rfl (.here)))))) (.cons (.t (.here)) .nil)) (s35 hT hS hB (hS'.mono aSUB) (hc'.mono aSUB) hcl') ?_
          rintro _ H8 ⟨rfl, hs8⟩
          have hs8n := hs8.next
          refine wI_mov (.t (.here)) ?_
          refine wI_extract (.t (.here)) rfl ?_
          refine wI_extract (.t (.there rfl (.here))) rfl ?_
          refine wI_mov (.t (.there rfl (.here))) ?_
          refine wI_mov (.t (.there rfl (.here))) ?_
          refine wI_end (.cons (.there rfl (.there rfl (.there rfl (.there rfl (.there rfl (.there rfl (.there rfl (.there rfl (.there rfl (.there rfl (.there rfl (.there rfl (.there rfl (.there rfl (.here))))))))))))))) (.cons (.there rfl (.there rfl (.there rfl (.there rfl (.there rfl (.there rfl (.there rfl (.there rfl (.there rfl (.there rfl (.there rfl (.there rfl (.there rfl (.there rfl (.there rfl (.here)))))))))))))))) (.cons (.there rfl (.there rfl (.there rfl (.there rfl (.there rfl (.there rfl (.there rfl (.there rfl (.there rfl (.there rfl (.there rfl (.there rfl (.there rfl (.there rfl (.there rfl (.there rfl (.here))))))))))))))))) (.cons (.there rfl (.here)) (.cons (.here) .nil))))) ?_
          refine wpC_seq ?_
          refine wC_ops ?_
          refine wI_mov (.t (.here)) ?_
          refine wI_mov (.t (.there rfl (.there rfl (.there rfl (.here))))) ?_
          refine wI_ix (.t (.there rfl (.here))) ((At.of_get g46 rfl).mono aSUB) (.t (.here)) rfl (by simp; omega) (by decide) (fun b3 o3 p3 => ?_)
          rw [e1] at p3
          refine wI_ldcN (.t (.here)) (by first | exact p3 | exact Cells.mono p3 aSUB) rfl ?_
          refine wI_mov (.t (.there rfl (.there rfl (.there rfl (.there rfl (.there rfl (.here))))))) ?_
          refine wI_mov (.t (.there rfl (.there rfl (.there rfl (.there rfl (.there rfl (.there rfl (.there rfl (.here))))))))) ?_
          refine wI_ix (.t (.there rfl (.here))) ((At.of_get g50 rfl).mono aSUB) (.t (.here)) rfl (by simp; omega) (by decide) (fun b4 o4 p4 => ?_)
          rw [e2] at p4
          refine wI_ldc1 0 (.t (.here)) (by first | exact p4 | exact Cells.mono p4 aSUB) rfl ?_
          refine wI_call (.cons (.t (.there rfl (.there rfl (.there rfl (.there rfl (.here)))))) (.cons (.t (.here)) .nil)) (s36 hT hB (hS'.mono aSUB) (hc'.mono aSUB) hcl') ?_
          rintro _ H9 ⟨rfl, hs9⟩
          have hs9n := hs9.next
          refine wI_mov (.t (.here)) ?_
          refine wI_extract (.t (.here)) rfl ?_
          refine wI_extract (.t (.there rfl (.here))) rfl ?_
          refine wI_mov (.t (.there rfl (.here))) ?_
          refine wI_mov (.t (.there rfl (.here))) ?_
          refine wI_end (.cons (.there rfl (.there rfl (.there rfl (.there rfl (.there rfl (.there rfl (.there rfl (.there rfl (.there rfl (.there rfl (.there rfl (.there rfl (.there rfl (.there rfl (.here))))))))))))))) (.cons (.there rfl (.there rfl (.there rfl (.there rfl (.there rfl (.there rfl (.there rfl (.there rfl (.there rfl (.there rfl (.there rfl (.there rfl (.there rfl (.there rfl (.there rfl (.here)))))))))))))))) (.cons (.there rfl (.there rfl (.there rfl (.there rfl (.there rfl (.there rfl (.there rfl (.there rfl (.there rfl (.there rfl (.there rfl (.there rfl (.there rfl (.there rfl (.there rfl (.there rfl (.here))))))))))))))))) (.cons (.there rfl (.there rfl (.there rfl (.there rfl (.there rfl (.there rfl (.there rfl (.there rfl (.there rfl (.there rfl (.there rfl (.there rfl (.there rfl (.there rfl (.there rfl (.there rfl (.there rfl (.here)))))))))))))))))) (.cons (.there rfl (.there rfl (.there rfl (.there rfl (.there rfl (.there rfl (.there rfl (.there rfl (.there rfl (.there rfl (.there rfl (.there rfl (.there rfl (.there rfl (.there rfl (.there rfl (.there rfl (.there rfl (.here))))))))))))))))))) (.cons (.there rfl (.here)) (.cons (.here) .nil))))))) ?_
          refine wpC_seq ?_
          refine wC_ops ?_
          refine wI_mov (.t (.there rfl (.there rfl (.there rfl (.here))))) ?_
          refine wI_mov (.t (.there rfl (.there rfl (.there rfl (.there rfl (.there rfl (.there rfl (.here)))))))) ?_
          refine wI_neI (.t (.there rfl (.here))) (.t (.here)) ?_
          refine wI_mov (.t (.here)) ?_
          refine wI_gdF (.here) (fun g13 => ?_) (fun g13 => ?_)
          · -- g13 False
            refine wI_mov (.t (.there rfl (.there rfl (.there rfl (.there rfl (.there rfl (.there rfl (.there rfl (.there rfl (.here)))))))))) ?_
            refine wI_yes (.there rfl (.here)) g13 ?_
            refine wI_mov (.t (.there rfl (.there rfl (.there rfl (.there rfl (.there rfl (.there rfl (.there rfl (.there rfl (.there rfl (.there rfl (.there rfl (.here))))))))))))) ?_
            refine wI_yes (.there rfl (.there rfl (.here))) g13 ?_
            refine wI_neI (.t (.there rfl (.here))) (.t (.here)) ?_
            refine wI_pickF (.t (.there rfl (.there rfl (.there rfl (.here))))) g13 (.t (.here)) ?_
            refine wI_end (.cons (.there rfl (.there rfl (.there rfl (.there rfl (.there rfl (.there rfl (.there rfl (.there rfl (.here))))))))) (.cons (.there rfl (.there rfl (.there rfl (.there rfl (.there rfl (.there rfl (.there rfl (.there rfl (.there rfl (.here)))))))))) (.cons (.there rfl (.there rfl (.there rfl (.there rfl (.there rfl (.there rfl (.there rfl (.there rfl (.there rfl (.there rfl (.here))))))))))) (.cons (.here) .nil)))) ?_
            refine wC_if (.t (.there rfl (.there rfl (.there rfl (.here))))) (fun c14 => ?_) (fun c14 => ?_)
            · -- c14 True
              exfalso; simp_all --done
            · -- c14 False
              refine wpC_skip ?_
              refine wC_ops ?_
              refine wI_mov (.t (.there rfl (.there rfl (.here)))) ?_
              refine wI_add (.t (.here)) .c (wrap64 aOM) ?_
              refine wI_mov (.t (.here)) ?_
              refine wI_end (.cons (.there rfl (.there rfl (.there rfl (.here)))) (.cons (.there rfl (.there rfl (.there rfl (.there rfl (.here))))) (.cons (.here) .nil))) ?_
              refine ⟨i + 1, (.cons (.here) (.cons (.there rfl (.here)) (.cons (.there rfl (.there rfl (.here))) .nil))), ?_, ?_⟩
              · exact ⟨aSUB, by omega⟩
              · (first | omega | (simp only []; omega))
          · -- g13 True
            refine wI_no (.there rfl (.here)) (by rw [g13]; decide) ?_
            refine wI_no (.there rfl (.there rfl (.here))) (by rw [g13]; decide) ?_
            refine wI_pickT (.t (.there rfl (.there rfl (.there rfl (.here))))) g13 .c ?_
            refine wI_end (.cons (.there rfl (.there rfl (.there rfl (.there rfl (.there rfl (.there rfl (.there rfl (.there rfl (.here))))))))) (.cons (.there rfl (.there rfl (.there rfl (.there rfl (.there rfl (.there rfl (.there rfl (.there rfl (.there rfl (.here)))))))))) (.cons (.there rfl (.there rfl (.there rfl (.there rfl (.there rfl (.there rfl (.there rfl (.there rfl (.there rfl (.there rfl (.here))))))))))) (.cons (.here) .nil)))) ?_
            refine wC_condT (.t (.there rfl (.there rfl (.there rfl (.here))))) rfl ?_
            refine wpC_seq ?_
            refine wC_ops ?_
            refine wI_mov .c ?_
            refine wI_end (.cons (.here) .nil) ?_
            refine wpC_ret (ret1 (.here) ?_)
            first | exact rfl | (exfalso; simp_all; done)
        · -- c10 False
          refine wpC_exit ?_
          refine wpC_seq ?_
          refine wC_ops ?_
          refine wI_call .nil (wpF_prim hAw rfl (S := fun v _ => v = .bool true) rfl) ?_
          rintro _ _ rfl
          refine wI_mov (.t (.here)) ?_
          refine wI_end (.cons (.here) .nil) ?_
          refine wpC_ret (ret1 (.here) ?_)
          first | exact rfl | (exfalso; simp_all; done)
  · -- g2 True
    refine wI_no (.there rfl (.here)) (by rw [g2]; decide) ?_
    refine wI_no (.there rfl (.there rfl (.here))) (by rw [g2]; decide) ?_
    refine wI_pickT (.t (.there rfl (.there rfl (.there rfl (.here))))) g2 .c ?_
    refine wI_end (.cons (.there rfl (.there rfl (.there rfl (.there rfl (.there rfl (.there rfl (.there rfl (.here)))))))) (.cons (.there rfl (.there rfl (.there rfl (.there rfl (.there rfl (.there rfl (.there rfl (.there rfl (.here))))))))) (.cons (.there rfl (.there rfl (.there rfl (.there rfl (.there rfl (.there rfl (.there rfl (.there rfl (.there rfl (.here)))))))))) (.cons (.here) .nil)))) ?_
    refine wC_condT (.t (.there rfl (.there rfl (.there rfl (.here))))) rfl ?_
    refine wpC_seq ?_
    refine wC_ops ?_
    refine wI_call .nil (wpF_prim hAw rfl (S := fun v _ => v = .bool true) rfl) ?_
    rintro _ _ rfl
    refine wI_mov (.t (.here)) ?_
    refine wI_end (.cons (.here) .nil) ?_
    refine wpC_ret (ret1 (.here) ?_)
    first | exact rfl | (exfalso; simp_all; done)
end Wk
