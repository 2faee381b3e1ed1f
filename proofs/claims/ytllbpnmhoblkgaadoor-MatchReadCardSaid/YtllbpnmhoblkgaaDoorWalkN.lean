/- A part of the proof: WalkN. It holds for whatever its statements name; no condition beyond theirs. -/
import Derived.Test.YtllbpnmhoblkgaaDoorWalkM
import Derived.Test.YtllbpnmhoblkgaaDoorSpM
namespace Wk
open Go Am DC Sp
variable {T : Tab} {H0 : AH}

theorem s103i (hM : Ext fnsM T) (h127 : T.prim 127 = some pItoa) (h128 : T.prim 128 = some pRepeat) {y : Int} (k : Nat) (hk : 1 ≤ k ∧ k ≤ 18) (h0 : 0 ≤ y) (hn : y.toNat < 10 ^ k) : wpF T (.fn 103 []) [.int .i64 y, .int .i64 k] H0 (fun r H => r = .str (dig k y.toNat) ∧ H = H0) := by
  obtain ⟨n, rfl⟩ := Int.eq_ofNat_of_zero_le h0
  exact s103 hM h127 h128 n k hk (by simpa using hn)
theorem s106i (hM : Ext fnsM T) {y : Int} (k : Nat) (hk : k ≤ 18) (h0 : 0 ≤ y) (hn : y < 1000000000000000000) : wpF T (.fn 106 []) [.int .i64 y, .int .i64 k] H0 (fun r H => r = .str (dig k y.toNat) ∧ H0.Sub H) := by
  obtain ⟨n, rfl⟩ := Int.eq_ofNat_of_zero_le h0
  exact s106 hM n k hk (by omega)

theorem s105 (hT : Ext fns1 T) (hM : Ext fnsM T) (m : MarkS) :
    wpF T (.fn 105 []) [.agg [.str m.t, .int .i64 m.y, .int .i64 m.w, .int .i64 m.l, .int .i64 m.n]] H0 (fun r H => r = .int .i64 (markE m) ∧ H0.Sub H) := by
  refine wF hM (af := A105) rfl ?_
  refine wpC_seq ?_
  refine wC_ops ?_
  refine wI_box (.t (.here)) aBOX ?_
  refine wI_mov .c ?_
  refine wI_end (.cons (.there rfl (.here)) .nil) ?_
  refine wpC_seq ?_
  refine wpC_seq ?_
  refine wC_ops ?_
  refine wI_fieldAddr (.t (.here)) ?_
  refine wI_load1 (.t (.here)) aGET rfl ?_
  refine wI_lenStr (.t (.here)) ?_
  refine wI_lss (.t (.here)) .c ?_
  refine wI_mov (.t (.here)) ?_
  refine wI_gdF (.here) (fun g1 => ?_) (fun g1 => ?_)
  · -- g1 False
    refine wI_fieldAddr (.t (.there rfl (.there rfl (.there rfl (.there rfl (.there rfl (.here))))))) ?_
    refine wI_yes (.there rfl (.here)) g1 ?_
    refine wI_load1 (.t (.here)) aGET rfl ?_
    refine wI_yes (.there rfl (.there rfl (.here))) g1 ?_
    refine wI_lenStr (.t (.here)) ?_
    refine wI_yes (.there rfl (.there rfl (.there rfl (.here)))) g1 ?_
    refine wI_gtr (.t (.here)) .c ?_
    refine wI_pickF (.t (.there rfl (.there rfl (.there rfl (.there rfl (.here)))))) g1 (.t (.here)) ?_
    refine wI_end (.cons (.there rfl (.there rfl (.there rfl (.there rfl (.there rfl (.there rfl (.there rfl (.there rfl (.there rfl (.there rfl (.here))))))))))) (.cons (.here) .nil)) ?_
    refine wC_if (.t (.there rfl (.here))) (fun c2 => ?_) (fun c2 => ?_)
    · -- c2 True
      refine wpC_seq ?_
      refine wC_ops ?_
      refine wI_mov .c ?_
      refine wI_end (.cons (.here) .nil) ?_
      refine wpC_ret (ret1 (.here) ?_)
      refine ⟨?_, aSUB⟩
      congr 1
      symm
      first
        | exact markE_3 (fun z => by exact aNO)
        | exact markE_3 (fun z => by have := List.all_eq_true.1 z.2.2 c (List.mem_of_getElem? hc); exact aNS)
        | exact markE_2 hk (fun ⟨z1, z2, z3, z4⟩ => by exact aNO)
        | exact markE_0 hk (⟨aNO, aNO, aNO, aNO⟩)
    · -- c2 False
      have hl4 : 1 ≤ m.t.length ∧ m.t.length ≤ 4 := by exact aNO
      refine wpC_skip ?_
      refine wpC_seq ?_
      refine wpC_seq ?_
      refine wC_ops ?_
      refine wI_mov .c ?_
      refine wI_end (.cons (.there rfl (.here)) (.cons (.here) .nil)) ?_
      refine wpC_block ?_
      refine wC_loop (α := Nat) (fun i => [(1, .ptr H0.next 0), (3, .int .i64 i)]) (fun i H => H0.Sub H ∧ H.get H0.next = some (.cells [.str m.t, .int .i64 m.y, .int .i64 m.w, .int .i64 m.l, .int .i64 m.n] true) ∧ i ≤ m.t.length ∧ ∀ j, j < i → isUp (m.t.getD j 0) = true) (fun i => m.t.length - i) 0 (.cons (.here) (.cons (.there rfl (.here)) .nil)) ?_ ?_
      · exact ⟨aSUB, aGET, by omega, fun j hj => by omega⟩
      rintro i H1 ⟨hs1, hg, hi, hall⟩
      have hsn := hs1.next
      have hgl := AH.get_lt hg
      refine wpC_seq ?_
      refine wpC_seq ?_
      refine wC_ops ?_
      refine wI_mov (.t (.there rfl (.here))) ?_
      refine wI_fieldAddr (.t (.there rfl (.here))) ?_
      refine wI_load1 (.t (.here)) aGET rfl ?_
      refine wI_lenStr (.t (.here)) ?_
      refine wI_lss (.t (.there rfl (.there rfl (.there rfl (.here))))) (.t (.here)) ?_
      refine wI_end (.cons (.there rfl (.there rfl (.there rfl (.there rfl (.there rfl (.here)))))) (.cons (.there rfl (.there rfl (.there rfl (.there rfl (.there rfl (.there rfl (.here))))))) (.cons (.here) .nil))) ?_
      refine wC_if (.t (.there rfl (.there rfl (.here)))) (fun c3 => ?_) (fun c3 => ?_)
      · -- c3 True
        refine wpC_skip ?_
        refine wpC_seq ?_
        refine wpC_block ?_
        refine wpC_seq ?_
        refine wC_ops ?_
        refine wI_fieldAddr (.t (.here)) ?_
        refine wI_load1 (.t (.here)) aGET rfl ?_
        refine wI_mov (.t (.there rfl (.there rfl (.there rfl (.here))))) ?_
        obtain ⟨c, hc⟩ : ∃ c, m.t[i]? = some c := ⟨_, List.getElem?_eq_getElem aOM⟩
        have hci : m.t.getD i 0 = c := by rw [List.getD_eq_getElem?_getD, hc]; rfl
        refine wI_indexStr (.t (.there rfl (.here))) (.t (.here)) rfl hc ?_
        refine wI_call (.cons (.t (.here)) .nil) (s111 hM _) ?_
        rintro _ _ ⟨rfl, heq4⟩
        obtain rfl := heq4.symm
        refine wI_not (.t (.here)) ?_
        refine wI_end (.cons (.there rfl (.there rfl (.there rfl (.there rfl (.there rfl (.there rfl (.here))))))) (.cons (.there rfl (.there rfl (.there rfl (.there rfl (.there rfl (.there rfl (.there rfl (.here)))))))) (.cons (.here) .nil))) ?_
        refine wC_cond (.t (.there rfl (.there rfl (.here)))) (fun c5 => ?_) (fun c5 => ?_)
        · -- c5 True
          refine wpC_seq ?_
          refine wC_ops ?_
          refine wI_mov .c ?_
          refine wI_end (.cons (.here) .nil) ?_
          refine wpC_ret (ret1 (.here) ?_)
          refine ⟨?_, aSUB⟩
          congr 1
          symm
          first
            | exact markE_3 (fun z => by exact aNO)
            | exact markE_3 (fun z => by have := List.all_eq_true.1 z.2.2 c (List.mem_of_getElem? hc); exact aNS)
            | exact markE_2 hk (fun ⟨z1, z2, z3, z4⟩ => by exact aNO)
            | exact markE_0 hk (⟨aNO, aNO, aNO, aNO⟩)
        · -- c5 False
          refine wpC_skip ?_
          refine wC_ops ?_
          refine wI_mov (.t (.there rfl (.here))) ?_
          refine wI_add (.t (.here)) .c (wrap64 aOM) ?_
          refine wI_mov (.t (.here)) ?_
          refine wI_end (.cons (.there rfl (.there rfl (.there rfl (.here)))) (.cons (.here) .nil)) ?_
          refine ⟨i + 1, (.cons (.here) (.cons (.there rfl (.here)) .nil)), ?_, ?_⟩
          · refine ⟨aSUB, aGET, by omega, fun j hj => ?_⟩
            rcases Nat.lt_or_ge j i with z | z
            · exact hall j z
            · rw [show j = i by omega, hci]; exact aNA
          · (first | omega | (simp only []; omega))
      · -- c3 False
        refine wpC_exit ?_
        refine wpC_seq ?_
        refine wpC_seq ?_
        refine wC_ops ?_
        refine wI_fieldAddr (.t (.here)) ?_
        have hup : m.t.all isUp = true := all_true (fun j hj => hall j aOM)
        have hk : kindOk m.t := ⟨aNO, aNO, aNA⟩
        refine wI_load1 (.t (.here)) aGET rfl ?_
        refine wI_call (.cons (.t (.here)) (.cons .c (.cons .c .nil))) (s69 hT _ _ _) ?_
        rintro _ _ ⟨rfl, heq6⟩
        obtain rfl := heq6.symm
        refine wI_not (.t (.here)) ?_
        refine wI_mov (.t (.here)) ?_
        refine wI_gdF (.here) (fun g7 => ?_) (fun g7 => ?_)
        · -- g7 False
          refine wI_fieldAddr (.t (.there rfl (.there rfl (.there rfl (.there rfl (.there rfl (.here))))))) ?_
          refine wI_yes (.there rfl (.here)) g7 ?_
          refine wI_load1 (.t (.here)) aGET rfl ?_
          refine wI_yes (.there rfl (.there rfl (.here))) g7 ?_
          refine wI_call (.cons (.t (.here)) (.cons .c (.cons .c .nil))) (s69 hT _ _ _) ?_
          rintro _ _ ⟨rfl, heq8⟩
          obtain rfl := heq8.symm
          refine wI_yes (.there rfl (.there rfl (.there rfl (.here)))) g7 ?_
          refine wI_not (.t (.here)) ?_
          refine wI_pickF (.t (.there rfl (.there rfl (.there rfl (.there rfl (.here)))))) g7 (.t (.here)) ?_
          refine wI_mov (.t (.here)) ?_
          refine wI_gdF (.here) (fun g9 => ?_) (fun g9 => ?_)
          · -- g9 False
            refine wI_fieldAddr (.t (.there rfl (.there rfl (.there rfl (.there rfl (.there rfl (.there rfl (.there rfl (.there rfl (.there rfl (.there rfl (.there rfl (.here))))))))))))) ?_
            refine wI_yes (.there rfl (.here)) g9 ?_
            refine wI_load1 (.t (.here)) aGET rfl ?_
            refine wI_yes (.there rfl (.there rfl (.here))) g9 ?_
            refine wI_call (.cons (.t (.here)) (.cons .c (.cons .c .nil))) (s69 hT _ _ _) ?_
            rintro _ _ ⟨rfl, heq10⟩
            obtain rfl := heq10.symm
            refine wI_yes (.there rfl (.there rfl (.there rfl (.here)))) g9 ?_
            refine wI_not (.t (.here)) ?_
            refine wI_pickF (.t (.there rfl (.there rfl (.there rfl (.there rfl (.here)))))) g9 (.t (.here)) ?_
            refine wI_mov (.t (.here)) ?_
            refine wI_gdF (.here) (fun g11 => ?_) (fun g11 => ?_)
            · -- g11 False
              refine wI_fieldAddr (.t (.there rfl (.there rfl (.there rfl (.there rfl (.there rfl (.there rfl (.there rfl (.there rfl (.there rfl (.there rfl (.there rfl (.there rfl (.there rfl (.there rfl (.there rfl (.there rfl (.there rfl (.here))))))))))))))))))) ?_
              refine wI_yes (.there rfl (.here)) g11 ?_
              refine wI_load1 (.t (.here)) aGET rfl ?_
              refine wI_yes (.there rfl (.there rfl (.here))) g11 ?_
              refine wI_call (.cons (.t (.here)) (.cons .c (.cons .c .nil))) (s69 hT _ _ _) ?_
              rintro _ _ ⟨rfl, heq12⟩
              obtain rfl := heq12.symm
              refine wI_yes (.there rfl (.there rfl (.there rfl (.here)))) g11 ?_
              refine wI_not (.t (.here)) ?_
              refine wI_pickF (.t (.there rfl (.there rfl (.there rfl (.there rfl (.here)))))) g11 (.t (.here)) ?_
              refine wI_end (.cons (.here) .nil) ?_
              refine wC_cond (.t (.here)) (fun c13 => ?_) (fun c13 => ?_)
              · -- c13 True
                refine wpC_seq ?_
                refine wC_ops ?_
                refine wI_mov .c ?_
                refine wI_end (.cons (.here) .nil) ?_
                refine wpC_ret (ret1 (.here) ?_)
                refine ⟨?_, aSUB⟩
                congr 1
                symm
                first
                  | exact markE_3 (fun z => by exact aNO)
                  | exact markE_3 (fun z => by have := List.all_eq_true.1 z.2.2 c (List.mem_of_getElem? hc); exact aNS)
                  | exact markE_2 hk (fun ⟨z1, z2, z3, z4⟩ => by exact aNO)
                  | exact markE_0 hk (⟨aNO, aNO, aNO, aNO⟩)
              · -- c13 False
                refine wpC_skip ?_
                refine wpC_seq ?_
                refine wC_ops ?_
                refine wI_mov .c ?_
                refine wI_end (.cons (.here) .nil) ?_
                refine wpC_ret (ret1 (.here) ?_)
                refine ⟨?_, aSUB⟩
                congr 1
                symm
                first
                  | exact markE_3 (fun z => by exact aNO)
                  | exact markE_3 (fun z => by have := List.all_eq_true.1 z.2.2 c (List.mem_of_getElem? hc); exact aNS)
                  | exact markE_2 hk (fun ⟨z1, z2, z3, z4⟩ => by exact aNO)
                  | exact markE_0 hk (⟨aNO, aNO, aNO, aNO⟩)
            · -- g11 True
              refine wI_no (.there rfl (.here)) (by rw [g11]; decide) ?_
              refine wI_no (.there rfl (.there rfl (.here))) (by rw [g11]; decide) ?_
              refine wI_no (.there rfl (.there rfl (.there rfl (.here)))) (by rw [g11]; decide) ?_
              refine wI_pickT (.t (.there rfl (.there rfl (.there rfl (.there rfl (.here)))))) g11 .c ?_
              refine wI_end (.cons (.here) .nil) ?_
              refine wC_condT (.t (.here)) rfl ?_
              refine wpC_seq ?_
              refine wC_ops ?_
              refine wI_mov .c ?_
              refine wI_end (.cons (.here) .nil) ?_
              refine wpC_ret (ret1 (.here) ?_)
              refine ⟨?_, aSUB⟩
              congr 1
              symm
              first
                | exact markE_3 (fun z => by exact aNO)
                | exact markE_3 (fun z => by have := List.all_eq_true.1 z.2.2 c (List.mem_of_getElem? hc); exact aNS)
                | exact markE_2 hk (fun ⟨z1, z2, z3, z4⟩ => by exact aNO)
                | exact markE_0 hk (⟨aNO, aNO, aNO, aNO⟩)
          · -- g9 True
            refine wI_no (.there rfl (.here)) (by rw [g9]; decide) ?_
            refine wI_no (.there rfl (.there rfl (.here))) (by rw [g9]; decide) ?_
            refine wI_no (.there rfl (.there rfl (.there rfl (.here)))) (by rw [g9]; decide) ?_
            refine wI_pickT (.t (.there rfl (.there rfl (.there rfl (.there rfl (.here)))))) g9 .c ?_
            refine wI_mov (.t (.here)) ?_
            refine wI_no (.here) (by decide) ?_
            refine wI_no (.there rfl (.here)) (by decide) ?_
            refine wI_no (.there rfl (.there rfl (.here))) (by decide) ?_
            refine wI_no (.there rfl (.there rfl (.there rfl (.here)))) (by decide) ?_
            refine wI_pickT (.t (.there rfl (.there rfl (.there rfl (.there rfl (.here)))))) rfl .c ?_
            refine wI_end (.cons (.here) .nil) ?_
            refine wC_condT (.t (.here)) rfl ?_
            refine wpC_seq ?_
            refine wC_ops ?_
            refine wI_mov .c ?_
            refine wI_end (.cons (.here) .nil) ?_
            refine wpC_ret (ret1 (.here) ?_)
            refine ⟨?_, aSUB⟩
            congr 1
            symm
            first
              | exact markE_3 (fun z => by exact aNO)
              | exact markE_3 (fun z => by have := List.all_eq_true.1 z.2.2 c (List.mem_of_getElem? hc); exact aNS)
              | exact markE_2 hk (fun ⟨z1, z2, z3, z4⟩ => by exact aNO)
              | exact markE_0 hk (⟨aNO, aNO, aNO, aNO⟩)
        · -- g7 True
          refine wI_no (.there rfl (.here)) (by rw [g7]; decide) ?_
          refine wI_no (.there rfl (.there rfl (.here))) (by rw [g7]; decide) ?_
          refine wI_no (.there rfl (.there rfl (.there rfl (.here)))) (by rw [g7]; decide) ?_
          refine wI_pickT (.t (.there rfl (.there rfl (.there rfl (.there rfl (.here)))))) g7 .c ?_
          refine wI_mov (.t (.here)) ?_
          refine wI_no (.here) (by decide) ?_
          refine wI_no (.there rfl (.here)) (by decide) ?_
          refine wI_no (.there rfl (.there rfl (.here))) (by decide) ?_
          refine wI_no (.there rfl (.there rfl (.there rfl (.here)))) (by decide) ?_
          refine wI_pickT (.t (.there rfl (.there rfl (.there rfl (.there rfl (.here)))))) rfl .c ?_
          refine wI_mov (.t (.here)) ?_
          refine wI_no (.here) (by decide) ?_
          refine wI_no (.there rfl (.here)) (by decide) ?_
          refine wI_no (.there rfl (.there rfl (.here))) (by decide) ?_
          refine wI_no (.there rfl (.there rfl (.there rfl (.here)))) (by decide) ?_
          refine wI_pickT (.t (.there rfl (.there rfl (.there rfl (.there rfl (.here)))))) rfl .c ?_
          refine wI_end (.cons (.here) .nil) ?_
          refine wC_condT (.t (.here)) rfl ?_
          refine wpC_seq ?_
          refine wC_ops ?_
          refine wI_mov .c ?_
          refine wI_end (.cons (.here) .nil) ?_
          refine wpC_ret (ret1 (.here) ?_)
          refine ⟨?_, aSUB⟩
          congr 1
          symm
          first
            | exact markE_3 (fun z => by exact aNO)
            | exact markE_3 (fun z => by have := List.all_eq_true.1 z.2.2 c (List.mem_of_getElem? hc); exact aNS)
            | exact markE_2 hk (fun ⟨z1, z2, z3, z4⟩ => by exact aNO)
            | exact markE_0 hk (⟨aNO, aNO, aNO, aNO⟩)
  · -- g1 True
    refine wI_no (.there rfl (.here)) (by rw [g1]; decide) ?_
    refine wI_no (.there rfl (.there rfl (.here))) (by rw [g1]; decide) ?_
    refine wI_no (.there rfl (.there rfl (.there rfl (.here)))) (by rw [g1]; decide) ?_
    refine wI_pickT (.t (.there rfl (.there rfl (.there rfl (.there rfl (.here)))))) g1 .c ?_
    refine wI_end (.cons (.there rfl (.there rfl (.there rfl (.there rfl (.there rfl (.there rfl (.there rfl (.there rfl (.there rfl (.there rfl (.here))))))))))) (.cons (.here) .nil)) ?_
    refine wC_condT (.t (.there rfl (.here))) rfl ?_
    refine wpC_seq ?_
    refine wC_ops ?_
    refine wI_mov .c ?_
    refine wI_end (.cons (.here) .nil) ?_
    refine wpC_ret (ret1 (.here) ?_)
    refine ⟨?_, aSUB⟩
    congr 1
    symm
    first
      | exact markE_3 (fun z => by exact aNO)
      | exact markE_3 (fun z => by have := List.all_eq_true.1 z.2.2 c (List.mem_of_getElem? hc); exact aNS)
      | exact markE_2 hk (fun ⟨z1, z2, z3, z4⟩ => by exact aNO)
      | exact markE_0 hk (⟨aNO, aNO, aNO, aNO⟩)

theorem s59 (hT : Ext fns1 T) (hM : Ext fnsM T) (h127 : T.prim 127 = some pItoa) (h128 : T.prim 128 = some pRepeat) (h129 : T.prim 129 = some pIndexRune) (m : MarkS) :
    wpF T (.fn 59 []) [.agg [.str m.t, .int .i64 m.y, .int .i64 m.w, .int .i64 m.l, .int .i64 m.n]] H0 (fun r H => r = .tup [.str (textS m), .int .i64 (markE m)] ∧ H0.Sub H) := by
  refine wF hM (af := A59) rfl ?_
  refine wpC_seq ?_
  refine wC_ops ?_
  refine wI_box (.t (.here)) aBOX ?_
  refine wI_mov .c ?_
  refine wI_mov .c ?_
  refine wI_end (.cons (.there rfl (.there rfl (.here))) .nil) ?_
  refine wpC_seq ?_
  refine wpC_block ?_
  refine wpC_seq ?_
  refine wC_ops ?_
  refine wI_fieldAddr (.t (.here)) ?_
  refine wI_load1 (.t (.here)) aGET rfl ?_
  refine wI_lenStr (.t (.here)) ?_
  refine wI_call (.cons (.t (.here)) (.cons .c (.cons .c .nil))) (s68 hT _ _ _) ?_
  rintro _ _ ⟨rfl, heq1⟩
  obtain rfl := heq1.symm
  refine wI_not (.t (.here)) ?_
  refine wI_mov (.t (.here)) ?_
  refine wI_gdF (.here) (fun g2 => ?_) (fun g2 => ?_)
  · -- g2 False
    refine wI_fieldAddr (.t (.there rfl (.there rfl (.there rfl (.there rfl (.there rfl (.there rfl (.here)))))))) ?_
    refine wI_yes (.there rfl (.here)) g2 ?_
    refine wI_load1 (.t (.here)) aGET rfl ?_
    refine wI_yes (.there rfl (.there rfl (.here))) g2 ?_
    refine wI_call (.cons (.t (.here)) (.cons .c (.cons .c .nil))) (s102u hM) ?_
    rintro _ H3 ⟨rfl, hs3⟩
    have hsn3 := hs3.next
    refine wI_yes (.there rfl (.there rfl (.there rfl (.here)))) g2 ?_
    refine wI_not (.t (.here)) ?_
    refine wI_pickF (.t (.there rfl (.there rfl (.there rfl (.there rfl (.here)))))) g2 (.t (.here)) ?_
    refine wI_mov (.t (.here)) ?_
    refine wI_end (.cons (.there rfl (.there rfl (.there rfl (.there rfl (.there rfl (.there rfl (.there rfl (.there rfl (.there rfl (.there rfl (.there rfl (.there rfl (.here))))))))))))) (.cons (.here) .nil)) ?_
    refine wC_cond (.t (.there rfl (.here))) (fun c4 => ?_) (fun c4 => ?_)
    · -- c4 True
      refine wpC_seq ?_
      refine wC_ops ?_
      refine wI_mov .c ?_
      refine wI_mov .c ?_
      refine wI_end (.cons (.there rfl (.here)) (.cons (.here) .nil)) ?_
      refine wpC_ret (ret2 (.here) (.there rfl (.here)) ?_)
      refine ⟨?_, aSUB⟩
      have e : markE m = 3 := markE_3 (fun z => by have := z.2.2; exact aNS)
      rw [textS_e (by rw [e]; decide), e]
    · -- c4 False
      have hk : kindOk m.t := ⟨aNO, aNO, aNA⟩
      have hk4 := hk.2.1
      refine wpC_seq ?_
      refine wC_ops ?_
      refine wI_fieldAddr (.t (.here)) ?_
      refine wI_load1 (.t (.here)) aGET rfl ?_
      refine wI_call (.cons (.t (.here)) (.cons .c (.cons .c .nil))) (s68 hT _ _ _) ?_
      rintro _ _ ⟨rfl, heq5⟩
      obtain rfl := heq5.symm
      refine wI_not (.t (.here)) ?_
      refine wI_mov (.t (.here)) ?_
      refine wI_gdF (.here) (fun g6 => ?_) (fun g6 => ?_)
      · -- g6 False
        refine wI_fieldAddr (.t (.there rfl (.there rfl (.there rfl (.there rfl (.there rfl (.here))))))) ?_
        refine wI_yes (.there rfl (.here)) g6 ?_
        refine wI_load1 (.t (.here)) aGET rfl ?_
        refine wI_yes (.there rfl (.there rfl (.here))) g6 ?_
        refine wI_call (.cons (.t (.here)) (.cons .c (.cons .c .nil))) (s68 hT _ _ _) ?_
        rintro _ _ ⟨rfl, heq7⟩
        obtain rfl := heq7.symm
        refine wI_yes (.there rfl (.there rfl (.there rfl (.here)))) g6 ?_
        refine wI_not (.t (.here)) ?_
        refine wI_pickF (.t (.there rfl (.there rfl (.there rfl (.there rfl (.here)))))) g6 (.t (.here)) ?_
        refine wI_mov (.t (.here)) ?_
        refine wI_gdF (.here) (fun g8 => ?_) (fun g8 => ?_)
        · -- g8 False
          refine wI_fieldAddr (.t (.there rfl (.there rfl (.there rfl (.there rfl (.there rfl (.there rfl (.there rfl (.there rfl (.there rfl (.there rfl (.there rfl (.here))))))))))))) ?_
          refine wI_yes (.there rfl (.here)) g8 ?_
          refine wI_load1 (.t (.here)) aGET rfl ?_
          refine wI_yes (.there rfl (.there rfl (.here))) g8 ?_
          refine wI_call (.cons (.t (.here)) (.cons .c (.cons .c .nil))) (s68 hT _ _ _) ?_
          rintro _ _ ⟨rfl, heq9⟩
          obtain rfl := heq9.symm
          refine wI_yes (.there rfl (.there rfl (.there rfl (.here)))) g8 ?_
          refine wI_not (.t (.here)) ?_
          refine wI_pickF (.t (.there rfl (.there rfl (.there rfl (.there rfl (.here)))))) g8 (.t (.here)) ?_
          refine wI_mov (.t (.here)) ?_
          refine wI_gdF (.here) (fun g10 => ?_) (fun g10 => ?_)
          · -- g10 False
            refine wI_fieldAddr (.t (.there rfl (.there rfl (.there rfl (.there rfl (.there rfl (.there rfl (.there rfl (.there rfl (.there rfl (.there rfl (.there rfl (.there rfl (.there rfl (.there rfl (.there rfl (.there rfl (.there rfl (.here))))))))))))))))))) ?_
            refine wI_yes (.there rfl (.here)) g10 ?_
            refine wI_load1 (.t (.here)) aGET rfl ?_
            refine wI_yes (.there rfl (.there rfl (.here))) g10 ?_
            refine wI_call (.cons (.t (.here)) (.cons .c (.cons .c .nil))) (s68 hT _ _ _) ?_
            rintro _ _ ⟨rfl, heq11⟩
            obtain rfl := heq11.symm
            refine wI_yes (.there rfl (.there rfl (.there rfl (.here)))) g10 ?_
            refine wI_not (.t (.here)) ?_
            refine wI_pickF (.t (.there rfl (.there rfl (.there rfl (.there rfl (.here)))))) g10 (.t (.here)) ?_
            refine wI_mov (.t (.here)) ?_
            refine wI_end (.cons (.there rfl (.there rfl (.there rfl (.there rfl (.there rfl (.there rfl (.there rfl (.there rfl (.there rfl (.there rfl (.there rfl (.there rfl (.there rfl (.there rfl (.there rfl (.there rfl (.there rfl (.there rfl (.there rfl (.there rfl (.there rfl (.there rfl (.there rfl (.here)))))))))))))))))))))))) (.cons (.here) .nil)) ?_
            refine wC_cond (.t (.there rfl (.here))) (fun c12 => ?_) (fun c12 => ?_)
            · -- c12 True
              refine wpC_seq ?_
              refine wC_ops ?_
              refine wI_mov .c ?_
              refine wI_mov .c ?_
              refine wI_end (.cons (.there rfl (.here)) (.cons (.here) .nil)) ?_
              refine wpC_ret (ret2 (.here) (.there rfl (.here)) ?_)
              refine ⟨?_, aSUB⟩
              have e : markE m = 2 := markE_2 hk (fun ⟨z1, z2, z3, z4⟩ => by exact aNO)
              rw [textS_e (by rw [e]; decide), e]
            · -- c12 False
              have hr : rangeOk m := ⟨aNO, aNO, aNO, aNO⟩
              obtain ⟨hr1, hr2, hr3, hr4⟩ := id hr
              refine wpC_skip ?_
              refine wpC_seq ?_
              refine wC_ops ?_
              refine wI_fieldAddr (.t (.here)) ?_
              refine wI_load1 (.t (.here)) aGET rfl ?_
              refine wI_fieldAddr (.t (.there rfl (.there rfl (.here)))) ?_
              refine wI_load1 (.t (.here)) aGET rfl ?_
              refine wI_fieldAddr (.t (.there rfl (.there rfl (.there rfl (.there rfl (.here)))))) ?_
              refine wI_load1 (.t (.here)) aGET rfl ?_
              refine wI_fieldAddr (.t (.there rfl (.there rfl (.there rfl (.there rfl (.there rfl (.there rfl (.here)))))))) ?_
              refine wI_load1 (.t (.here)) aGET rfl ?_
              refine wI_add .c (.t (.here)) (wrap64 aOM) ?_
              refine wI_sub (.t (.here)) .c (c := 64 + m.l) (by rw [wrap64 aOM]; omega) ?_
              refine wI_convInt (.t (.here)) (IntWalk.i32_in _ aOM) ?_
              refine wI_intToStr (.t (.here)) aOM ?_
              refine wI_fieldAddr (.t (.there rfl (.there rfl (.there rfl (.there rfl (.there rfl (.there rfl (.there rfl (.there rfl (.there rfl (.there rfl (.there rfl (.there rfl (.here)))))))))))))) ?_
              refine wI_load1 (.t (.here)) aGET rfl ?_
              refine wI_call (.cons (.t (.there rfl (.there rfl (.there rfl (.there rfl (.there rfl (.there rfl (.there rfl (.there rfl (.there rfl (.there rfl (.here)))))))))))) (.cons .c .nil)) (s103i hM h127 h128 2 (by decide) aOM aOM) ?_
              rintro _ _ ⟨rfl, heq13⟩
              obtain rfl := heq13.symm
              refine wI_chkLoad1 (.there rfl (.there rfl (.there rfl (.there rfl (.there rfl (.there rfl (.there rfl (.there rfl (.there rfl (.there rfl (.there rfl (.there rfl (.there rfl (.here)))))))))))))) (.t (.there rfl (.there rfl (.there rfl (.there rfl (.there rfl (.there rfl (.there rfl (.there rfl (.there rfl (.there rfl (.there rfl (.there rfl (.there rfl (.there rfl (.here)))))))))))))))) aGET rfl aSAME ?_
              refine wI_chkLoad1 (.there rfl (.there rfl (.there rfl (.there rfl (.there rfl (.there rfl (.there rfl (.there rfl (.there rfl (.here)))))))))) (.t (.there rfl (.there rfl (.there rfl (.there rfl (.there rfl (.there rfl (.there rfl (.there rfl (.there rfl (.there rfl (.here)))))))))))) aGET rfl aSAME ?_
              refine wI_chkLoad1 (.there rfl (.there rfl (.there rfl (.there rfl (.there rfl (.there rfl (.there rfl (.here)))))))) (.t (.there rfl (.there rfl (.there rfl (.there rfl (.there rfl (.there rfl (.there rfl (.there rfl (.here)))))))))) aGET rfl aSAME ?_
              refine wI_chkLoad1 (.there rfl (.here)) (.t (.there rfl (.there rfl (.here)))) aGET rfl aSAME ?_
              refine wI_sadd (.t (.there rfl (.there rfl (.there rfl (.there rfl (.there rfl (.there rfl (.there rfl (.there rfl (.there rfl (.there rfl (.there rfl (.there rfl (.there rfl (.here))))))))))))))) (.t (.here)) aSL ?_
              refine wI_call (.cons (.t (.there rfl (.there rfl (.there rfl (.there rfl (.there rfl (.there rfl (.there rfl (.there rfl (.there rfl (.there rfl (.here)))))))))))) (.cons .c .nil)) (s103i hM h127 h128 2 (by decide) aOM aOM) ?_
              rintro _ _ ⟨rfl, heq14⟩
              obtain rfl := heq14.symm
              refine wI_chkLoad1 (.there rfl (.there rfl (.there rfl (.there rfl (.there rfl (.there rfl (.there rfl (.there rfl (.there rfl (.there rfl (.there rfl (.there rfl (.there rfl (.there rfl (.there rfl (.here)))))))))))))))) (.t (.there rfl (.there rfl (.there rfl (.there rfl (.there rfl (.there rfl (.there rfl (.there rfl (.there rfl (.there rfl (.there rfl (.there rfl (.there rfl (.there rfl (.there rfl (.there rfl (.here)))))))))))))))))) aGET rfl aSAME ?_
              refine wI_chkLoad1 (.there rfl (.there rfl (.there rfl (.there rfl (.there rfl (.there rfl (.there rfl (.there rfl (.there rfl (.here)))))))))) (.t (.there rfl (.there rfl (.there rfl (.there rfl (.there rfl (.there rfl (.there rfl (.there rfl (.there rfl (.there rfl (.here)))))))))))) aGET rfl aSAME ?_
              refine wI_chkLoad1 (.there rfl (.there rfl (.there rfl (.here)))) (.t (.there rfl (.there rfl (.there rfl (.there rfl (.here)))))) aGET rfl aSAME ?_
              refine wI_sadd (.t (.there rfl (.here))) (.t (.here)) aSL ?_
              refine wI_sadd (.t (.here)) (.t (.there rfl (.there rfl (.there rfl (.there rfl (.there rfl (.there rfl (.here)))))))) aSL ?_
              refine wI_call (.cons (.t (.there rfl (.there rfl (.there rfl (.there rfl (.there rfl (.here))))))) (.cons .c .nil)) (s103i hM h127 h128 5 (by decide) aOM aOM) ?_
              rintro _ _ ⟨rfl, heq15⟩
              obtain rfl := heq15.symm
              refine wI_chkLoad1 (.there rfl (.there rfl (.there rfl (.there rfl (.there rfl (.there rfl (.there rfl (.there rfl (.there rfl (.there rfl (.there rfl (.there rfl (.there rfl (.there rfl (.there rfl (.there rfl (.there rfl (.there rfl (.here))))))))))))))))))) (.t (.there rfl (.there rfl (.there rfl (.there rfl (.there rfl (.there rfl (.there rfl (.there rfl (.there rfl (.there rfl (.there rfl (.there rfl (.there rfl (.there rfl (.there rfl (.there rfl (.there rfl (.there rfl (.there rfl (.here))))))))))))))))))))) aGET rfl aSAME ?_
              refine wI_chkLoad1 (.there rfl (.there rfl (.there rfl (.there rfl (.there rfl (.there rfl (.there rfl (.there rfl (.there rfl (.there rfl (.there rfl (.there rfl (.here))))))))))))) (.t (.there rfl (.there rfl (.there rfl (.there rfl (.there rfl (.there rfl (.there rfl (.there rfl (.there rfl (.there rfl (.there rfl (.there rfl (.there rfl (.here))))))))))))))) aGET rfl aSAME ?_
              refine wI_saddT (u := body m) (.t (.there rfl (.here))) (.t (.here)) aSL rfl ?_
              refine wI_mov (.t (.here)) ?_
              refine wI_end (.cons (.here) .nil) ?_
              refine wpC_seq ?_
              refine wC_ops ?_
              refine wI_mov (.t (.here)) ?_
              refine wI_mov (.t (.there rfl (.here))) ?_
              refine wI_call (.cons (.t (.here)) .nil) (s104 hM h129 (body_vals hk hr) (by rw [body_len]; omega)) ?_
              rintro _ H16 ⟨rfl, hs16⟩
              have hsn16 := hs16.next
              have hcl := chk_lt (body m)
              refine wI_convInt (.t (.here)) (IntWalk.i32_in _ aOM) ?_
              refine wI_chrC (.t (.here)) hcl ?_
              refine wI_sadd (.t (.there rfl (.there rfl (.there rfl (.there rfl (.here)))))) (.t (.here)) aSL ?_
              refine wI_mov (.t (.here)) ?_
              refine wI_mov .c ?_
              refine wI_end (.cons (.there rfl (.here)) (.cons (.here) .nil)) ?_
              refine wpC_ret (ret2 (.here) (.there rfl (.here)) ?_)
              refine ⟨?_, aSUB⟩
              rw [textS_0 (markE_0 hk hr), markE_0 hk hr]
          · -- g10 True
            refine wI_no (.there rfl (.here)) (by rw [g10]; decide) ?_
            refine wI_no (.there rfl (.there rfl (.here))) (by rw [g10]; decide) ?_
            refine wI_no (.there rfl (.there rfl (.there rfl (.here)))) (by rw [g10]; decide) ?_
            refine wI_pickT (.t (.there rfl (.there rfl (.there rfl (.there rfl (.here)))))) g10 .c ?_
            refine wI_mov (.t (.here)) ?_
            refine wI_end (.cons (.there rfl (.there rfl (.there rfl (.there rfl (.there rfl (.there rfl (.there rfl (.there rfl (.there rfl (.there rfl (.there rfl (.there rfl (.there rfl (.there rfl (.there rfl (.there rfl (.there rfl (.there rfl (.there rfl (.there rfl (.there rfl (.there rfl (.there rfl (.here)))))))))))))))))))))))) (.cons (.here) .nil)) ?_
            refine wC_condT (.t (.there rfl (.here))) rfl ?_
            refine wpC_seq ?_
            refine wC_ops ?_
            refine wI_mov .c ?_
            refine wI_mov .c ?_
            refine wI_end (.cons (.there rfl (.here)) (.cons (.here) .nil)) ?_
            refine wpC_ret (ret2 (.here) (.there rfl (.here)) ?_)
            refine ⟨?_, aSUB⟩
            have e : markE m = 2 := markE_2 hk (fun ⟨z1, z2, z3, z4⟩ => by exact aNO)
            rw [textS_e (by rw [e]; decide), e]
        · -- g8 True
          refine wI_no (.there rfl (.here)) (by rw [g8]; decide) ?_
          refine wI_no (.there rfl (.there rfl (.here))) (by rw [g8]; decide) ?_
          refine wI_no (.there rfl (.there rfl (.there rfl (.here)))) (by rw [g8]; decide) ?_
          refine wI_pickT (.t (.there rfl (.there rfl (.there rfl (.there rfl (.here)))))) g8 .c ?_
          refine wI_mov (.t (.here)) ?_
          refine wI_no (.here) (by decide) ?_
          refine wI_no (.there rfl (.here)) (by decide) ?_
          refine wI_no (.there rfl (.there rfl (.here))) (by decide) ?_
          refine wI_no (.there rfl (.there rfl (.there rfl (.here)))) (by decide) ?_
          refine wI_pickT (.t (.there rfl (.there rfl (.there rfl (.there rfl (.here)))))) rfl .c ?_
          refine wI_mov (.t (.here)) ?_
          refine wI_end (.cons (.there rfl (.there rfl (.there rfl (.there rfl (.there rfl (.there rfl (.there rfl (.there rfl (.there rfl (.there rfl (.there rfl (.there rfl (.there rfl (.there rfl (.there rfl (.there rfl (.there rfl (.there rfl (.there rfl (.there rfl (.there rfl (.there rfl (.there rfl (.here)))))))))))))))))))))))) (.cons (.here) .nil)) ?_
          refine wC_condT (.t (.there rfl (.here))) rfl ?_
          refine wpC_seq ?_
          refine wC_ops ?_
          refine wI_mov .c ?_
          refine wI_mov .c ?_
          refine wI_end (.cons (.there rfl (.here)) (.cons (.here) .nil)) ?_
          refine wpC_ret (ret2 (.here) (.there rfl (.here)) ?_)
          refine ⟨?_, aSUB⟩
          have e : markE m = 2 := markE_2 hk (fun ⟨z1, z2, z3, z4⟩ => by exact aNO)
          rw [textS_e (by rw [e]; decide), e]
      · -- g6 True
        refine wI_no (.there rfl (.here)) (by rw [g6]; decide) ?_
        refine wI_no (.there rfl (.there rfl (.here))) (by rw [g6]; decide) ?_
        refine wI_no (.there rfl (.there rfl (.there rfl (.here)))) (by rw [g6]; decide) ?_
        refine wI_pickT (.t (.there rfl (.there rfl (.there rfl (.there rfl (.here)))))) g6 .c ?_
        refine wI_mov (.t (.here)) ?_
        refine wI_no (.here) (by decide) ?_
        refine wI_no (.there rfl (.here)) (by decide) ?_
        refine wI_no (.there rfl (.there rfl (.here))) (by decide) ?_
        refine wI_no (.there rfl (.there rfl (.there rfl (.here)))) (by decide) ?_
        refine wI_pickT (.t (.there rfl (.there rfl (.there rfl (.there rfl (.here)))))) rfl .c ?_
        refine wI_mov (.t (.here)) ?_
        refine wI_no (.here) (by decide) ?_
        refine wI_no (.there rfl (.here)) (by decide) ?_
        refine wI_no (.there rfl (.there rfl (.here))) (by decide) ?_
        refine wI_no (.there rfl (.there rfl (.there rfl (.here)))) (by decide) ?_
        refine wI_pickT (.t (.there rfl (.there rfl (.there rfl (.there rfl (.here)))))) rfl .c ?_
        refine wI_mov (.t (.here)) ?_
        refine wI_end (.cons (.there rfl (.there rfl (.there rfl (.there rfl (.there rfl (.there rfl (.there rfl (.there rfl (.there rfl (.there rfl (.there rfl (.there rfl (.there rfl (.there rfl (.there rfl (.there rfl (.there rfl (.there rfl (.there rfl (.there rfl (.there rfl (.there rfl (.there rfl (.here)))))))))))))))))))))))) (.cons (.here) .nil)) ?_
        refine wC_condT (.t (.there rfl (.here))) rfl ?_
        refine wpC_seq ?_
        refine wC_ops ?_
        refine wI_mov .c ?_
        refine wI_mov .c ?_
        refine wI_end (.cons (.there rfl (.here)) (.cons (.here) .nil)) ?_
        refine wpC_ret (ret2 (.here) (.there rfl (.here)) ?_)
        refine ⟨?_, aSUB⟩
        have e : markE m = 2 := markE_2 hk (fun ⟨z1, z2, z3, z4⟩ => by exact aNO)
        rw [textS_e (by rw [e]; decide), e]
  · -- g2 True
    refine wI_no (.there rfl (.here)) (by rw [g2]; decide) ?_
    refine wI_no (.there rfl (.there rfl (.here))) (by rw [g2]; decide) ?_
    refine wI_no (.there rfl (.there rfl (.there rfl (.here)))) (by rw [g2]; decide) ?_
    refine wI_pickT (.t (.there rfl (.there rfl (.there rfl (.there rfl (.here)))))) g2 .c ?_
    refine wI_mov (.t (.here)) ?_
    refine wI_end (.cons (.there rfl (.there rfl (.there rfl (.there rfl (.there rfl (.there rfl (.there rfl (.there rfl (.there rfl (.there rfl (.there rfl (.there rfl (.here))))))))))))) (.cons (.here) .nil)) ?_
    refine wC_condT (.t (.there rfl (.here))) rfl ?_
    refine wpC_seq ?_
    refine wC_ops ?_
    refine wI_mov .c ?_
    refine wI_mov .c ?_
    refine wI_end (.cons (.there rfl (.here)) (.cons (.here) .nil)) ?_
    refine wpC_ret (ret2 (.here) (.there rfl (.here)) ?_)
    refine ⟨?_, aSUB⟩
    have e : markE m = 3 := markE_3 (fun z => by exact aNO)
    rw [textS_e (by rw [e]; decide), e]

theorem s60 (hT : Ext fns1 T) (hM : Ext fnsM T) (m : MarkS) :
    wpF T (.fn 60 []) [.agg [.str m.t, .int .i64 m.y, .int .i64 m.w, .int .i64 m.l, .int .i64 m.n]] H0 (fun r H => r = .tup [.str (textS m), .int .i64 (markE m)] ∧ H0.Sub H) := by
  refine wF hM (af := A60) rfl ?_
  refine wpC_seq ?_
  refine wC_ops ?_
  refine wI_box (.t (.here)) aBOX ?_
  refine wI_mov .c ?_
  refine wI_mov .c ?_
  refine wI_end (.cons (.there rfl (.there rfl (.here))) .nil) ?_
  refine wpC_seq ?_
  refine wpC_seq ?_
  refine wC_ops ?_
  refine wI_loadT (.t (.here)) aGET aRC ?_
  refine wI_call (.cons (.t (.here)) .nil) (s105 hT hM m) ?_
  rintro _ H1 ⟨rfl, hs1⟩
  have hsn1 := hs1.next
  refine wI_mov (.t (.here)) ?_
  refine wI_end (.cons (.there rfl (.there rfl (.there rfl (.here)))) (.cons (.here) .nil)) ?_
  refine wpC_seq ?_
  refine wC_ops ?_
  refine wI_mov (.t (.there rfl (.here))) ?_
  refine wI_neI (.t (.here)) .c ?_
  refine wI_end (.cons (.there rfl (.there rfl (.here))) (.cons (.there rfl (.there rfl (.there rfl (.here)))) (.cons (.here) .nil))) ?_
  refine wC_if (.t (.there rfl (.there rfl (.here)))) (fun c2 => ?_) (fun c2 => ?_)
  · -- c2 True
    refine wpC_seq ?_
    refine wC_ops ?_
    refine wI_mov (.t (.there rfl (.here))) ?_
    refine wI_mov .c ?_
    refine wI_mov (.t (.there rfl (.here))) ?_
    refine wI_end (.cons (.there rfl (.here)) (.cons (.here) .nil)) ?_
    refine wpC_ret (ret2 (.here) (.there rfl (.here)) ?_)
    refine ⟨?_, aSUB⟩
    rw [textS_e (by assumption)]
  · -- c2 False
    have hm0 : markE m = 0 := by omega
    have hkr : kindOk m.t ∧ rangeOk m := by (unfold markE at hm0; split at hm0; split at hm0; exact ⟨by assumption, by assumption⟩; omega; omega)
    obtain ⟨hk, hr⟩ := hkr
    have hk4 := hk.2.1
    obtain ⟨hr1, hr2, hr3, hr4⟩ := id hr
    refine wpC_skip ?_
    refine wpC_seq ?_
    refine wC_ops ?_
    refine wI_fieldAddr (.t (.here)) ?_
    refine wI_load1 (.t (.here)) aGET rfl ?_
    refine wI_fieldAddr (.t (.there rfl (.there rfl (.here)))) ?_
    refine wI_load1 (.t (.here)) aGET rfl ?_
    refine wI_fieldAddr (.t (.there rfl (.there rfl (.there rfl (.there rfl (.here)))))) ?_
    refine wI_load1 (.t (.here)) aGET rfl ?_
    refine wI_fieldAddr (.t (.there rfl (.there rfl (.there rfl (.there rfl (.there rfl (.there rfl (.here)))))))) ?_
    refine wI_load1 (.t (.here)) aGET rfl ?_
    refine wI_add .c (.t (.here)) (wrap64 aOM) ?_
    refine wI_sub (.t (.here)) .c (c := 64 + m.l) (by rw [wrap64 aOM]; omega) ?_
    refine wI_convInt (.t (.here)) (m := ((UInt8.ofNat (64 + m.l).toNat).toNat : Int)) (by rw [IntWalk.u8_in _ aOM, letter_nat hr3]) ?_
    refine wI_buildSlice (.one (.t (.here)) aONE rfl aRC .nil) ?_
    refine wI_bytesToStr (.t (.here)) (At.of_get (cs := cBytes [UInt8.ofNat (64 + m.l).toNat]) aGET rfl) ?_
    refine wI_fieldAddr (.t (.there rfl (.there rfl (.there rfl (.there rfl (.there rfl (.there rfl (.there rfl (.there rfl (.there rfl (.there rfl (.there rfl (.there rfl (.there rfl (.here))))))))))))))) ?_
    refine wI_load1 (.t (.here)) aGET rfl ?_
    refine wI_call (.cons (.t (.there rfl (.there rfl (.there rfl (.there rfl (.there rfl (.there rfl (.there rfl (.there rfl (.there rfl (.there rfl (.there rfl (.here))))))))))))) (.cons .c .nil)) (s106i hM 2 (by decide) aOM aOM) ?_
    rintro _ H3 ⟨rfl, hs3⟩
    have hsn3 := hs3.next
    refine wI_chkLoad1 (.there rfl (.there rfl (.there rfl (.there rfl (.there rfl (.there rfl (.there rfl (.there rfl (.there rfl (.there rfl (.there rfl (.there rfl (.there rfl (.there rfl (.here))))))))))))))) (.t (.there rfl (.there rfl (.there rfl (.there rfl (.there rfl (.there rfl (.there rfl (.there rfl (.there rfl (.there rfl (.there rfl (.there rfl (.there rfl (.there rfl (.there rfl (.here))))))))))))))))) aGET rfl aSAME ?_
    refine wI_chkLoad1 (.there rfl (.there rfl (.there rfl (.there rfl (.there rfl (.there rfl (.there rfl (.there rfl (.there rfl (.there rfl (.here))))))))))) (.t (.there rfl (.there rfl (.there rfl (.there rfl (.there rfl (.there rfl (.there rfl (.there rfl (.there rfl (.there rfl (.there rfl (.here))))))))))))) aGET rfl aSAME ?_
    refine wI_chkLoad1 (.there rfl (.there rfl (.there rfl (.there rfl (.there rfl (.there rfl (.there rfl (.there rfl (.here))))))))) (.t (.there rfl (.there rfl (.there rfl (.there rfl (.there rfl (.there rfl (.there rfl (.there rfl (.there rfl (.here))))))))))) aGET rfl aSAME ?_
    refine wI_chkBuild (.there rfl (.there rfl (.there rfl (.there rfl (.here))))) (.one (.t (.there rfl (.there rfl (.there rfl (.there rfl (.there rfl (.here))))))) aONE rfl aRC .nil) aGET aSAME ?_
    refine wI_chkBytes (.there rfl (.there rfl (.there rfl (.here)))) (.t (.there rfl (.there rfl (.there rfl (.there rfl (.here)))))) (At.of_get (cs := cBytes [UInt8.ofNat (64 + m.l).toNat]) aGET rfl) ?_
    refine wI_chkLoad1 (.there rfl (.here)) (.t (.there rfl (.there rfl (.here)))) aGET rfl aSAME ?_
    refine wI_sadd (.t (.there rfl (.there rfl (.there rfl (.there rfl (.there rfl (.there rfl (.there rfl (.there rfl (.there rfl (.there rfl (.there rfl (.there rfl (.there rfl (.there rfl (.here)))))))))))))))) (.t (.here)) aSL ?_
    refine wI_call (.cons (.t (.there rfl (.there rfl (.there rfl (.there rfl (.there rfl (.there rfl (.there rfl (.there rfl (.there rfl (.there rfl (.there rfl (.here))))))))))))) (.cons .c .nil)) (s106i hM 2 (by decide) aOM aOM) ?_
    rintro _ H4 ⟨rfl, hs4⟩
    have hsn4 := hs4.next
    refine wI_chkLoad1 (.there rfl (.there rfl (.there rfl (.there rfl (.there rfl (.there rfl (.there rfl (.there rfl (.there rfl (.there rfl (.there rfl (.there rfl (.there rfl (.there rfl (.there rfl (.there rfl (.here))))))))))))))))) (.t (.there rfl (.there rfl (.there rfl (.there rfl (.there rfl (.there rfl (.there rfl (.there rfl (.there rfl (.there rfl (.there rfl (.there rfl (.there rfl (.there rfl (.there rfl (.there rfl (.there rfl (.here))))))))))))))))))) aGET rfl aSAME ?_
    refine wI_chkLoad1 (.there rfl (.there rfl (.there rfl (.there rfl (.there rfl (.there rfl (.there rfl (.there rfl (.there rfl (.there rfl (.here))))))))))) (.t (.there rfl (.there rfl (.there rfl (.there rfl (.there rfl (.there rfl (.there rfl (.there rfl (.there rfl (.there rfl (.there rfl (.here))))))))))))) aGET rfl aSAME ?_
    refine wI_chkBuild (.there rfl (.there rfl (.there rfl (.there rfl (.there rfl (.there rfl (.here))))))) (.one (.t (.there rfl (.there rfl (.there rfl (.there rfl (.there rfl (.there rfl (.there rfl (.here))))))))) aONE rfl aRC .nil) aGET aSAME ?_
    refine wI_chkBytes (.there rfl (.there rfl (.there rfl (.there rfl (.there rfl (.here)))))) (.t (.there rfl (.there rfl (.there rfl (.there rfl (.there rfl (.there rfl (.here)))))))) (At.of_get (cs := cBytes [UInt8.ofNat (64 + m.l).toNat]) aGET rfl) ?_
    refine wI_chkLoad1 (.there rfl (.there rfl (.there rfl (.here)))) (.t (.there rfl (.there rfl (.there rfl (.there rfl (.here)))))) aGET rfl aSAME ?_
    refine wI_sadd (.t (.there rfl (.here))) (.t (.here)) aSL ?_
    refine wI_sadd (.t (.here)) (.t (.there rfl (.there rfl (.there rfl (.there rfl (.there rfl (.there rfl (.here)))))))) aSL ?_
    refine wI_call (.cons (.t (.there rfl (.there rfl (.there rfl (.there rfl (.there rfl (.here))))))) (.cons .c .nil)) (s106i hM 5 (by decide) aOM aOM) ?_
    rintro _ H5 ⟨rfl, hs5⟩
    have hsn5 := hs5.next
    refine wI_chkLoad1 (.there rfl (.there rfl (.there rfl (.there rfl (.there rfl (.there rfl (.there rfl (.there rfl (.there rfl (.there rfl (.there rfl (.there rfl (.there rfl (.there rfl (.there rfl (.there rfl (.there rfl (.there rfl (.there rfl (.here)))))))))))))))))))) (.t (.there rfl (.there rfl (.there rfl (.there rfl (.there rfl (.there rfl (.there rfl (.there rfl (.there rfl (.there rfl (.there rfl (.there rfl (.there rfl (.there rfl (.there rfl (.there rfl (.there rfl (.there rfl (.there rfl (.there rfl (.here)))))))))))))))))))))) aGET rfl aSAME ?_
    refine wI_chkLoad1 (.there rfl (.there rfl (.there rfl (.there rfl (.there rfl (.there rfl (.there rfl (.there rfl (.there rfl (.there rfl (.there rfl (.there rfl (.there rfl (.here)))))))))))))) (.t (.there rfl (.there rfl (.there rfl (.there rfl (.there rfl (.there rfl (.there rfl (.there rfl (.there rfl (.there rfl (.there rfl (.there rfl (.there rfl (.there rfl (.here)))))))))))))))) aGET rfl aSAME ?_
    refine wI_chkBuild (.there rfl (.there rfl (.there rfl (.there rfl (.there rfl (.there rfl (.there rfl (.there rfl (.there rfl (.here)))))))))) (.one (.t (.there rfl (.there rfl (.there rfl (.there rfl (.there rfl (.there rfl (.there rfl (.there rfl (.there rfl (.there rfl (.here)))))))))))) aONE rfl aRC .nil) aGET aSAME ?_
    refine wI_chkBytes (.there rfl (.there rfl (.there rfl (.there rfl (.there rfl (.there rfl (.there rfl (.there rfl (.here))))))))) (.t (.there rfl (.there rfl (.there rfl (.there rfl (.there rfl (.there rfl (.there rfl (.there rfl (.there rfl (.here))))))))))) (At.of_get (cs := cBytes [UInt8.ofNat (64 + m.l).toNat]) aGET rfl) ?_
    refine wI_saddT (u := body m) (.t (.there rfl (.here))) (.t (.here)) aSL rfl ?_
    refine wI_mov (.t (.here)) ?_
    refine wI_end (.cons (.here) .nil) ?_
    refine wpC_seq ?_
    refine wC_ops ?_
    refine wI_mov (.t (.here)) ?_
    refine wI_mov (.t (.there rfl (.here))) ?_
    refine wI_call (.cons (.t (.here)) .nil) (s107 hM (body_vals hk hr) (by rw [body_len]; omega)) ?_
    rintro _ _ ⟨rfl, heq6⟩
    obtain rfl := heq6.symm
    refine wI_buildSlice (.one (.t (.here)) aONE rfl aRC .nil) ?_
    refine wI_bytesToStr (.t (.here)) (At.of_get (cs := cBytes [chk (body m)]) aGET rfl) ?_
    refine wI_sadd (.t (.there rfl (.there rfl (.there rfl (.there rfl (.here)))))) (.t (.here)) aSL ?_
    refine wI_mov (.t (.here)) ?_
    refine wI_mov .c ?_
    refine wI_end (.cons (.there rfl (.here)) (.cons (.here) .nil)) ?_
    refine wpC_ret (ret2 (.here) (.there rfl (.here)) ?_)
    refine ⟨?_, aSUB⟩
    rw [textS_0 (markE_0 hk hr), markE_0 hk hr]
end Wk

namespace Wk
open Go Am DC Sp
variable {T : Tab} {H0 : AH}

theorem s61 (hT : Ext fns1 T) (hM : Ext fnsM T) (h108 : T.prim 108 = some pTrimLeft) (h109 : T.prim 109 = some pContains) (h129 : T.prim 129 = some pIndexRune) {k r : List UInt8} (h : Spl (k ++ r) k r) (hl : (k ++ r).length ≤ 900) :
    wpF T (.fn 61 []) [.str (k ++ r)] H0 (fun r_ H => r_ = .tup [.agg (parseM k r).av, .int .i64 (parseE k r)] ∧ H0.Sub H) := by
  refine wF hM (af := A61) rfl ?_
  have hkl : (k ++ r).length = k.length + r.length := List.length_append
  have hup := h.up
  refine wpC_seq ?_
  refine wC_ops ?_
  refine wI_alloc ?_
  refine wI_mov .c ?_
  refine wI_end (.cons (.there rfl (.there rfl (.here))) (.cons (.there rfl (.here)) .nil)) ?_
  refine wpC_seq ?_
  refine wC_ops ?_
  refine wI_mov (.t (.here)) ?_
  refine wI_call (.cons (.t (.here)) (.cons .c .nil)) (wpF_primE h108 (pTrimLeft_spl h)) ?_
  rintro _ _ ⟨rfl, heq1⟩
  obtain rfl := heq1.symm
  refine wI_mov (.t (.here)) ?_
  refine wI_end (.cons (.there rfl (.there rfl (.there rfl (.here)))) (.cons (.there rfl (.there rfl (.there rfl (.there rfl (.here))))) (.cons (.here) .nil))) ?_
  refine wpC_seq ?_
  refine wC_ops ?_
  refine wI_mov (.t (.here)) ?_
  refine wI_mov (.t (.there rfl (.here))) ?_
  refine wI_lenStr (.t (.here)) ?_
  refine wI_mov (.t (.there rfl (.there rfl (.there rfl (.there rfl (.there rfl (.here))))))) ?_
  refine wI_lenStr (.t (.here)) ?_
  refine wI_sub (.t (.there rfl (.there rfl (.here)))) (.t (.here)) (c := (k.length : Int)) (by rw [wrap64 aOM]; omega) ?_
  refine wI_sliceT (t := k) (.t (.there rfl (.there rfl (.there rfl (.there rfl (.there rfl (.here))))))) rfl (optNat_some (n := k.length) (.t (.here)) (by first | rfl | omega)) (by first | omega | (simp; omega)) (by simp) ?_
  refine wI_mov (.t (.here)) ?_
  refine wI_end (.cons (.there rfl (.there rfl (.there rfl (.there rfl (.there rfl (.there rfl (.there rfl (.there rfl (.here))))))))) (.cons (.there rfl (.there rfl (.there rfl (.there rfl (.there rfl (.there rfl (.there rfl (.there rfl (.there rfl (.here)))))))))) (.cons (.there rfl (.there rfl (.there rfl (.there rfl (.there rfl (.there rfl (.there rfl (.there rfl (.there rfl (.there rfl (.here))))))))))) (.cons (.here) .nil)))) ?_
  refine wpC_seq ?_
  refine wpC_seq ?_
  refine wC_ops ?_
  refine wI_mov (.t (.there rfl (.there rfl (.there rfl (.here))))) ?_
  refine wI_lenStr (.t (.here)) ?_
  refine wI_call (.cons (.t (.here)) (.cons .c (.cons .c .nil))) (s68 hT _ _ _) ?_
  rintro _ _ ⟨rfl, heq2⟩
  obtain rfl := heq2.symm
  refine wI_not (.t (.here)) ?_
  refine wI_mov (.t (.here)) ?_
  refine wI_gdF (.here) (fun g3 => ?_) (fun g3 => ?_)
  · -- g3 False
    refine wI_mov (.t (.there rfl (.there rfl (.there rfl (.there rfl (.there rfl (.there rfl (.there rfl (.here))))))))) ?_
    refine wI_yes (.there rfl (.here)) g3 ?_
    refine wI_lenStr (.t (.here)) ?_
    refine wI_yes (.there rfl (.there rfl (.here))) g3 ?_
    refine wI_neI (.t (.here)) .c ?_
    refine wI_pickF (.t (.there rfl (.there rfl (.there rfl (.here))))) g3 (.t (.here)) ?_
    refine wI_end (.cons (.there rfl (.there rfl (.there rfl (.there rfl (.there rfl (.there rfl (.there rfl (.there rfl (.there rfl (.here)))))))))) (.cons (.there rfl (.there rfl (.there rfl (.there rfl (.there rfl (.there rfl (.there rfl (.there rfl (.there rfl (.there rfl (.here))))))))))) (.cons (.there rfl (.there rfl (.there rfl (.there rfl (.there rfl (.there rfl (.there rfl (.there rfl (.there rfl (.there rfl (.there rfl (.here)))))))))))) (.cons (.there rfl (.there rfl (.there rfl (.there rfl (.there rfl (.there rfl (.there rfl (.there rfl (.there rfl (.there rfl (.there rfl (.there rfl (.here))))))))))))) (.cons (.here) .nil))))) ?_
    refine wC_if (.t (.there rfl (.there rfl (.there rfl (.there rfl (.here)))))) (fun c4 => ?_) (fun c4 => ?_)
    · -- c4 True
      refine wpC_seq ?_
      refine wC_ops ?_
      refine wI_build .nil ?_
      first | refine wI_storeA (.t (.there rfl (.there rfl (.here)))) (.t (.here)) aGET rfl aBOX aRC ?_ | refine wI_store1 (.t (.there rfl (.there rfl (.here)))) (.t (.here)) aGET aONE aRC ?_
      refine wI_mov .c ?_
      refine wI_end (.cons (.there rfl (.there rfl (.there rfl (.here)))) (.cons (.here) .nil)) ?_
      refine wpC_ret (retCT (.here) aGET aRC (.there rfl (.here)) ?_)
      have e := parse_3 (k := k) (r := r) (fun z => by have := z.2.1; exact aNO)
      exact ⟨by rw [e.1, e.2]; rfl, aSUB⟩
    · -- c4 False
      have h14 : 1 ≤ k.length ∧ k.length ≤ 4 := by exact aNO
      have hrl : r.length = 11 := by exact aNO
      refine wpC_skip ?_
      refine wpC_seq ?_
      refine wpC_seq ?_
      refine wC_ops ?_
      refine wI_mov (.t (.there rfl (.there rfl (.here)))) ?_
      refine wI_sliceT (t := r.take 4) (.t (.here)) rfl (optNat_some (n := 4) .c (by first | rfl | omega)) (by first | omega | (simp; omega)) (by first | rfl | simp) ?_
      refine wI_mov (.t (.there rfl (.there rfl (.there rfl (.there rfl (.here)))))) ?_
      refine wI_sliceT (t := (r.drop 5).take 5) (.t (.here)) (optNat_some (n := 5) .c (by first | rfl | omega)) (optNat_some (n := 10) .c (by first | rfl | omega)) (by first | omega | (simp; omega)) (by first | rfl | simp) ?_
      refine wI_sadd (.t (.there rfl (.there rfl (.here)))) (.t (.here)) (by simp; omega) ?_
      refine wI_call (.cons (.t (.here)) (.cons .c (.cons .c .nil))) (s102d hM) ?_
      rintro _ H5 ⟨rfl, hs5⟩
      have hsn5 := hs5.next
      refine wI_not (.t (.here)) ?_
      refine wI_mov (.t (.here)) ?_
      refine wI_gdF (.here) (fun g6 => ?_) (fun g6 => ?_)
      · -- g6 False
        refine wI_mov (.t (.there rfl (.there rfl (.there rfl (.there rfl (.there rfl (.there rfl (.there rfl (.there rfl (.there rfl (.there rfl (.here)))))))))))) ?_
        refine wI_yes (.there rfl (.here)) g6 ?_
        refine wI_sliceT (t := [r.getD 4 0]) (.t (.here)) (optNat_some (n := 4) .c (by first | rfl | omega)) (optNat_some (n := 5) .c (by first | rfl | omega)) (by first | omega | (simp; omega)) (by exact slice1 aOM) ?_
        refine wI_yes (.there rfl (.there rfl (.here))) g6 ?_
        refine wI_call (.cons (.t (.here)) (.cons .c (.cons .c .nil))) (s102u hM) ?_
        rintro _ H7 ⟨rfl, hs7⟩
        have hsn7 := hs7.next
        refine wI_yes (.there rfl (.there rfl (.there rfl (.here)))) g6 ?_
        refine wI_not (.t (.here)) ?_
        refine wI_pickF (.t (.there rfl (.there rfl (.there rfl (.there rfl (.here)))))) g6 (.t (.here)) ?_
        refine wI_mov (.t (.here)) ?_
        refine wI_gdF (.here) (fun g8 => ?_) (fun g8 => ?_)
        · -- g8 False
          refine wI_mov (.t (.there rfl (.there rfl (.there rfl (.there rfl (.there rfl (.there rfl (.there rfl (.there rfl (.there rfl (.there rfl (.there rfl (.there rfl (.there rfl (.there rfl (.there rfl (.there rfl (.here)))))))))))))))))) ?_
          refine wI_yes (.there rfl (.here)) g8 ?_
          refine wI_sliceT (t := [r.getD 10 0]) (.t (.here)) (optNat_some (n := 10) .c (by first | rfl | omega)) rfl (by first | omega | (simp; omega)) (by rw [hrl]; exact slice1 aOM) ?_
          refine wI_yes (.there rfl (.there rfl (.here))) g8 ?_
          refine wI_call (.cons .c (.cons (.t (.here)) .nil)) (wpF_primE h109 (pContains_eq (r.getD 10 0))) ?_
          rintro _ _ ⟨rfl, heq9⟩
          obtain rfl := heq9.symm
          refine wI_yes (.there rfl (.there rfl (.there rfl (.here)))) g8 ?_
          refine wI_not (.t (.here)) ?_
          refine wI_pickF (.t (.there rfl (.there rfl (.there rfl (.there rfl (.here)))))) g8 (.t (.here)) ?_
          refine wI_end (.cons (.there rfl (.there rfl (.there rfl (.there rfl (.there rfl (.there rfl (.there rfl (.there rfl (.there rfl (.there rfl (.there rfl (.there rfl (.there rfl (.there rfl (.there rfl (.there rfl (.there rfl (.there rfl (.there rfl (.here)))))))))))))))))))) (.cons (.there rfl (.there rfl (.there rfl (.there rfl (.there rfl (.there rfl (.there rfl (.there rfl (.there rfl (.there rfl (.there rfl (.there rfl (.there rfl (.there rfl (.there rfl (.there rfl (.there rfl (.there rfl (.there rfl (.there rfl (.here))))))))))))))))))))) (.cons (.there rfl (.there rfl (.there rfl (.there rfl (.there rfl (.there rfl (.there rfl (.there rfl (.there rfl (.there rfl (.there rfl (.there rfl (.there rfl (.there rfl (.there rfl (.there rfl (.there rfl (.there rfl (.there rfl (.there rfl (.there rfl (.here)))))))))))))))))))))) (.cons (.there rfl (.there rfl (.there rfl (.there rfl (.there rfl (.there rfl (.there rfl (.there rfl (.there rfl (.there rfl (.there rfl (.there rfl (.there rfl (.there rfl (.there rfl (.there rfl (.there rfl (.there rfl (.there rfl (.there rfl (.there rfl (.there rfl (.here))))))))))))))))))))))) (.cons (.here) .nil))))) ?_
          refine wC_cond (.t (.there rfl (.there rfl (.there rfl (.there rfl (.here)))))) (fun c10 => ?_) (fun c10 => ?_)
          · -- c10 True
            refine wpC_seq ?_
            refine wC_ops ?_
            refine wI_build .nil ?_
            first | refine wI_storeA (.t (.there rfl (.there rfl (.here)))) (.t (.here)) aGET rfl aBOX aRC ?_ | refine wI_store1 (.t (.there rfl (.there rfl (.here)))) (.t (.here)) aGET aONE aRC ?_
            refine wI_mov .c ?_
            refine wI_end (.cons (.there rfl (.there rfl (.there rfl (.here)))) (.cons (.here) .nil)) ?_
            refine wpC_ret (retCT (.here) aGET aRC (.there rfl (.here)) ?_)
            have e := parse_3 (k := k) (r := r) (fun z => by obtain ⟨f1, f2, f3⟩ := form_to z.2; exact aNS)
            exact ⟨by rw [e.1, e.2]; rfl, aSUB⟩
          · -- c10 False
            have hf : formR r := form_of hrl (by exact aNA) (by exact aNA) (by exact aNA)
            have hup4 := up_rng hf.2.2.2.1
            refine wpC_skip ?_
            refine wpC_seq ?_
            refine wC_ops ?_
            refine wI_mov (.t (.there rfl (.there rfl (.there rfl (.here))))) ?_
            refine wI_mov (.t (.there rfl (.there rfl (.there rfl (.here))))) ?_
            refine wI_sliceT (t := r.take 2) (.t (.here)) rfl (optNat_some (n := 2) .c (by first | rfl | omega)) (by first | omega | (simp; omega)) (by first | rfl | simp) ?_
            refine wI_mov (.t (.there rfl (.there rfl (.there rfl (.there rfl (.there rfl (.here))))))) ?_
            refine wI_sliceT (t := (r.drop 2).take 2) (.t (.here)) (optNat_some (n := 2) .c (by first | rfl | omega)) (optNat_some (n := 4) .c (by first | rfl | omega)) (by first | omega | (simp; omega)) (by first | rfl | simp) ?_
            refine wI_mov (.t (.there rfl (.there rfl (.there rfl (.there rfl (.there rfl (.there rfl (.there rfl (.here))))))))) ?_
            refine wI_indexStr (m := 4) (c := r.getD 4 0) (.t (.here)) .c rfl (idx aOM) ?_
            refine wI_sub (.t (.here)) .c aWRAP ?_
            refine wI_convInt (.t (.here)) (by first | exact wrap64 aOM | exact wrap_u64 aOM) ?_
            first | refine wI_add (.t (.here)) .c aWRAP ?_ | refine wI_sadd (.t (.here)) .c (by (simp only [List.length_append, List.length_take, List.length_drop, List.length_cons, List.length_nil] at *; omega)) ?_
            refine wI_mov (.t (.there rfl (.there rfl (.there rfl (.there rfl (.there rfl (.there rfl (.there rfl (.there rfl (.there rfl (.there rfl (.there rfl (.there rfl (.here)))))))))))))) ?_
            refine wI_sliceT (t := (r.drop 5).take 5) (.t (.here)) (optNat_some (n := 5) .c (by first | rfl | omega)) (optNat_some (n := 10) .c (by first | rfl | omega)) (by first | omega | (simp; omega)) (by first | rfl | simp) ?_
            refine wI_alloc ?_
            refine wI_call (.cons (.t (.there rfl (.there rfl (.there rfl (.there rfl (.there rfl (.there rfl (.there rfl (.there rfl (.there rfl (.there rfl (.here)))))))))))) .nil) (s110 hM (form_dig hf (.inl ⟨rfl, rfl⟩)) (by simp; omega)) ?_
            rintro _ H11 ⟨rfl, hs11⟩
            have hsn11 := hs11.next
            refine wI_chkAlloc (.there rfl (.here)) aGET aSAME ?_
            refine wI_call (.cons (.t (.there rfl (.there rfl (.there rfl (.there rfl (.there rfl (.there rfl (.there rfl (.there rfl (.there rfl (.here))))))))))) .nil) (s110 hM (form_dig hf (.inr (.inl ⟨rfl, rfl⟩))) (by simp; omega)) ?_
            rintro _ H12 ⟨rfl, hs12⟩
            have hsn12 := hs12.next
            refine wI_chkAlloc (.there rfl (.there rfl (.here))) aGET aSAME ?_
            refine wI_call (.cons (.t (.there rfl (.there rfl (.there rfl (.here))))) .nil) (s110 hM (form_dig hf (.inr (.inr ⟨rfl, rfl⟩))) (by simp; omega)) ?_
            rintro _ H13 ⟨rfl, hs13⟩
            have hsn13 := hs13.next
            refine wI_chkAlloc (.there rfl (.there rfl (.there rfl (.here)))) aGET aSAME ?_
            refine wI_build (.one (.t (.there rfl (.there rfl (.there rfl (.there rfl (.there rfl (.there rfl (.there rfl (.there rfl (.there rfl (.there rfl (.there rfl (.there rfl (.there rfl (.there rfl (.there rfl (.here))))))))))))))))) aONE aRC (.one (.t (.there rfl (.there rfl (.here)))) aONE aRC (.one (.t (.there rfl (.here))) aONE aRC (.one (.t (.there rfl (.there rfl (.there rfl (.there rfl (.there rfl (.there rfl (.here)))))))) aONE aRC (.one (.t (.here)) aONE aRC .nil))))) ?_
            first | refine wI_storeA (.t (.there rfl (.there rfl (.there rfl (.there rfl (.here)))))) (.t (.here)) aGET rfl aBOX aRC ?_ | refine wI_store1 (.t (.there rfl (.there rfl (.there rfl (.there rfl (.here)))))) (.t (.here)) aGET aONE aRC ?_
            refine wI_end (.cons (.there rfl (.there rfl (.there rfl (.there rfl (.there rfl (.there rfl (.there rfl (.there rfl (.there rfl (.there rfl (.there rfl (.there rfl (.there rfl (.there rfl (.there rfl (.there rfl (.there rfl (.here)))))))))))))))))) (.cons (.there rfl (.there rfl (.there rfl (.there rfl (.there rfl (.there rfl (.there rfl (.there rfl (.there rfl (.there rfl (.there rfl (.there rfl (.there rfl (.there rfl (.there rfl (.there rfl (.there rfl (.there rfl (.here))))))))))))))))))) (.cons (.there rfl (.there rfl (.there rfl (.there rfl (.here))))) .nil))) ?_
            refine wpC_seq ?_
            refine wpC_block ?_
            refine wpC_seq ?_
            refine wC_ops ?_
            refine wI_fieldAddr (.t (.there rfl (.there rfl (.here)))) ?_
            refine wI_load1 (.t (.here)) aGET rfl ?_
            refine wI_call (.cons (.t (.here)) (.cons .c (.cons .c .nil))) (s68 hT _ _ _) ?_
            rintro _ _ ⟨rfl, heq14⟩
            obtain rfl := heq14.symm
            refine wI_not (.t (.here)) ?_
            refine wI_mov (.t (.here)) ?_
            refine wI_end (.cons (.there rfl (.there rfl (.there rfl (.there rfl (.there rfl (.here)))))) (.cons (.there rfl (.there rfl (.there rfl (.there rfl (.there rfl (.there rfl (.here))))))) (.cons (.there rfl (.there rfl (.there rfl (.there rfl (.there rfl (.there rfl (.there rfl (.here)))))))) (.cons (.here) .nil)))) ?_
            refine wC_cond (.t (.there rfl (.there rfl (.there rfl (.here))))) (fun c15 => ?_) (fun c15 => ?_)
            · -- c15 True
              refine wpC_seq ?_
              refine wC_ops ?_
              refine wI_build .nil ?_
              first | refine wI_storeA (.t (.there rfl (.there rfl (.here)))) (.t (.here)) aGET rfl aBOX aRC ?_ | refine wI_store1 (.t (.there rfl (.there rfl (.here)))) (.t (.here)) aGET aONE aRC ?_
              refine wI_mov .c ?_
              refine wI_end (.cons (.there rfl (.there rfl (.there rfl (.here)))) (.cons (.here) .nil)) ?_
              refine wpC_ret (retCT (.here) aGET aRC (.there rfl (.here)) ?_)
              have e := parse_2 ⟨h14, hf⟩ (by exact aNA)
              exact ⟨by rw [e.1, e.2]; rfl, aSUB⟩
            · -- c15 False
              have hw : 1 ≤ (readM k r).w ∧ (readM k r).w ≤ 53 := by exact aNA
              refine wpC_seq ?_
              refine wC_ops ?_
              refine wI_mov (.t (.here)) ?_
              refine wI_mov (.t (.there rfl (.here))) ?_
              refine wI_lenStr (.t (.here)) ?_
              refine wI_sub (.t (.here)) .c aWRAP ?_
              refine wI_sliceT (t := k ++ r.take 10) (.t (.there rfl (.there rfl (.there rfl (.here))))) rfl (optNat_some (n := k.length + 10) (.t (.here)) (by first | rfl | omega)) (by first | omega | (simp; omega)) (by exact sl_k k r 10) ?_
              refine wI_mov (.t (.there rfl (.there rfl (.there rfl (.there rfl (.there rfl (.here))))))) ?_
              refine wI_mov (.t (.there rfl (.there rfl (.there rfl (.there rfl (.there rfl (.there rfl (.here)))))))) ?_
              refine wI_lenStr (.t (.here)) ?_
              refine wI_sub (.t (.here)) .c aWRAP ?_
              refine wI_indexStr (m := k.length + 10) (c := r.getD 10 0) (.t (.there rfl (.there rfl (.there rfl (.here))))) (.t (.here)) aOM (idx_kr aOM) ?_
              refine wI_call (.cons (.t (.there rfl (.there rfl (.there rfl (.there rfl (.there rfl (.here))))))) .nil) (s104 hM h129 (form_vals hup hf) (by simp; omega)) ?_
              rintro _ H16 ⟨rfl, hs16⟩
              have hsn16 := hs16.next
              refine wI_neI (.t (.here)) (.t (.there rfl (.here))) ?_
              refine wI_mov (.t (.here)) ?_
              refine wI_end (.cons (.there rfl (.there rfl (.there rfl (.there rfl (.there rfl (.there rfl (.there rfl (.there rfl (.there rfl (.there rfl (.there rfl (.there rfl (.there rfl (.there rfl (.here))))))))))))))) (.cons (.there rfl (.there rfl (.there rfl (.there rfl (.there rfl (.there rfl (.there rfl (.there rfl (.there rfl (.there rfl (.there rfl (.there rfl (.there rfl (.there rfl (.there rfl (.here)))))))))))))))) (.cons (.here) .nil))) ?_
              refine wC_if (.t (.there rfl (.there rfl (.here)))) (fun c17 => ?_) (fun c17 => ?_)
              · -- c17 True
                refine wpC_seq ?_
                refine wC_ops ?_
                refine wI_build .nil ?_
                first | refine wI_storeA (.t (.there rfl (.here))) (.t (.here)) aGET rfl aBOX aRC ?_ | refine wI_store1 (.t (.there rfl (.here))) (.t (.here)) aGET aONE aRC ?_
                refine wI_mov .c ?_
                refine wI_end (.cons (.there rfl (.there rfl (.here))) (.cons (.here) .nil)) ?_
                refine wpC_ret (retCT (.here) aGET aRC (.there rfl (.here)) ?_)
                have e := parse_12 ⟨h14, hf⟩ hw (fun z => by have z2 := congrArg UInt8.toNat z; exact aNO)
                exact ⟨by rw [e.1, e.2]; rfl, aSUB⟩
              · -- c17 False
                refine wpC_skip ?_
                refine wpC_seq ?_
                refine wC_ops ?_
                refine wI_loadT (.t (.there rfl (.here))) aGET aRC ?_
                first | refine wI_storeA (.t (.there rfl (.here))) (.t (.here)) aGET rfl aBOX aRC ?_ | refine wI_store1 (.t (.there rfl (.here))) (.t (.here)) aGET aONE aRC ?_
                refine wI_mov .c ?_
                refine wI_end (.cons (.there rfl (.there rfl (.here))) (.cons (.here) .nil)) ?_
                refine wpC_ret (retCT (.here) aGET aRC (.there rfl (.here)) ?_)
                have e := parse_0 ⟨h14, hf⟩ hw (UInt8.toNat_inj.1 (by exact aNO))
                exact ⟨by rw [e.1, e.2]; rfl, aSUB⟩
        · -- g8 True
          refine wI_no (.there rfl (.here)) (by rw [g8]; decide) ?_
          refine wI_no (.there rfl (.there rfl (.here))) (by rw [g8]; decide) ?_
          refine wI_no (.there rfl (.there rfl (.there rfl (.here)))) (by rw [g8]; decide) ?_
          refine wI_pickT (.t (.there rfl (.there rfl (.there rfl (.there rfl (.here)))))) g8 .c ?_
          refine wI_end (.cons (.there rfl (.there rfl (.there rfl (.there rfl (.there rfl (.there rfl (.there rfl (.there rfl (.there rfl (.there rfl (.there rfl (.there rfl (.there rfl (.there rfl (.there rfl (.there rfl (.there rfl (.there rfl (.there rfl (.here)))))))))))))))))))) (.cons (.there rfl (.there rfl (.there rfl (.there rfl (.there rfl (.there rfl (.there rfl (.there rfl (.there rfl (.there rfl (.there rfl (.there rfl (.there rfl (.there rfl (.there rfl (.there rfl (.there rfl (.there rfl (.there rfl (.there rfl (.here))))))))))))))))))))) (.cons (.there rfl (.there rfl (.there rfl (.there rfl (.there rfl (.there rfl (.there rfl (.there rfl (.there rfl (.there rfl (.there rfl (.there rfl (.there rfl (.there rfl (.there rfl (.there rfl (.there rfl (.there rfl (.there rfl (.there rfl (.there rfl (.here)))))))))))))))))))))) (.cons (.there rfl (.there rfl (.there rfl (.there rfl (.there rfl (.there rfl (.there rfl (.there rfl (.there rfl (.there rfl (.there rfl (.there rfl (.there rfl (.there rfl (.there rfl (.there rfl (.there rfl (.there rfl (.there rfl (.there rfl (.there rfl (.there rfl (.here))))))))))))))))))))))) (.cons (.here) .nil))))) ?_
          refine wC_condT (.t (.there rfl (.there rfl (.there rfl (.there rfl (.here)))))) rfl ?_
          refine wpC_seq ?_
          refine wC_ops ?_
          refine wI_build .nil ?_
          first | refine wI_storeA (.t (.there rfl (.there rfl (.here)))) (.t (.here)) aGET rfl aBOX aRC ?_ | refine wI_store1 (.t (.there rfl (.there rfl (.here)))) (.t (.here)) aGET aONE aRC ?_
          refine wI_mov .c ?_
          refine wI_end (.cons (.there rfl (.there rfl (.there rfl (.here)))) (.cons (.here) .nil)) ?_
          refine wpC_ret (retCT (.here) aGET aRC (.there rfl (.here)) ?_)
          have e := parse_3 (k := k) (r := r) (fun z => by obtain ⟨f1, f2, f3⟩ := form_to z.2; exact aNS)
          exact ⟨by rw [e.1, e.2]; rfl, aSUB⟩
      · -- g6 True
        refine wI_no (.there rfl (.here)) (by rw [g6]; decide) ?_
        refine wI_no (.there rfl (.there rfl (.here))) (by rw [g6]; decide) ?_
        refine wI_no (.there rfl (.there rfl (.there rfl (.here)))) (by rw [g6]; decide) ?_
        refine wI_pickT (.t (.there rfl (.there rfl (.there rfl (.there rfl (.here)))))) g6 .c ?_
        refine wI_mov (.t (.here)) ?_
        refine wI_no (.here) (by decide) ?_
        refine wI_no (.there rfl (.here)) (by decide) ?_
        refine wI_no (.there rfl (.there rfl (.here))) (by decide) ?_
        refine wI_no (.there rfl (.there rfl (.there rfl (.here)))) (by decide) ?_
        refine wI_pickT (.t (.there rfl (.there rfl (.there rfl (.there rfl (.here)))))) rfl .c ?_
        refine wI_end (.cons (.there rfl (.there rfl (.there rfl (.there rfl (.there rfl (.there rfl (.there rfl (.there rfl (.there rfl (.there rfl (.there rfl (.there rfl (.there rfl (.there rfl (.there rfl (.there rfl (.there rfl (.there rfl (.there rfl (.here)))))))))))))))))))) (.cons (.there rfl (.there rfl (.there rfl (.there rfl (.there rfl (.there rfl (.there rfl (.there rfl (.there rfl (.there rfl (.there rfl (.there rfl (.there rfl (.there rfl (.there rfl (.there rfl (.there rfl (.there rfl (.there rfl (.there rfl (.here))))))))))))))))))))) (.cons (.there rfl (.there rfl (.there rfl (.there rfl (.there rfl (.there rfl (.there rfl (.there rfl (.there rfl (.there rfl (.there rfl (.there rfl (.there rfl (.there rfl (.there rfl (.there rfl (.there rfl (.there rfl (.there rfl (.there rfl (.there rfl (.here)))))))))))))))))))))) (.cons (.there rfl (.there rfl (.there rfl (.there rfl (.there rfl (.there rfl (.there rfl (.there rfl (.there rfl (.there rfl (.there rfl (.there rfl (.there rfl (.there rfl (.there rfl (.there rfl (.there rfl (.there rfl (.there rfl (.there rfl (.there rfl (.there rfl (.here))))))))))))))))))))))) (.cons (.here) .nil))))) ?_
        refine wC_condT (.t (.there rfl (.there rfl (.there rfl (.there rfl (.here)))))) rfl ?_
        refine wpC_seq ?_
        refine wC_ops ?_
        refine wI_build .nil ?_
        first | refine wI_storeA (.t (.there rfl (.there rfl (.here)))) (.t (.here)) aGET rfl aBOX aRC ?_ | refine wI_store1 (.t (.there rfl (.there rfl (.here)))) (.t (.here)) aGET aONE aRC ?_
        refine wI_mov .c ?_
        refine wI_end (.cons (.there rfl (.there rfl (.there rfl (.here)))) (.cons (.here) .nil)) ?_
        refine wpC_ret (retCT (.here) aGET aRC (.there rfl (.here)) ?_)
        have e := parse_3 (k := k) (r := r) (fun z => by obtain ⟨f1, f2, f3⟩ := form_to z.2; exact aNS)
        exact ⟨by rw [e.1, e.2]; rfl, aSUB⟩
  · -- g3 True
    refine wI_no (.there rfl (.here)) (by rw [g3]; decide) ?_
    refine wI_no (.there rfl (.there rfl (.here))) (by rw [g3]; decide) ?_
    refine wI_pickT (.t (.there rfl (.there rfl (.there rfl (.here))))) g3 .c ?_
    refine wI_end (.cons (.there rfl (.there rfl (.there rfl (.there rfl (.there rfl (.there rfl (.there rfl (.there rfl (.there rfl (.here)))))))))) (.cons (.there rfl (.there rfl (.there rfl (.there rfl (.there rfl (.there rfl (.there rfl (.there rfl (.there rfl (.there rfl (.here))))))))))) (.cons (.there rfl (.there rfl (.there rfl (.there rfl (.there rfl (.there rfl (.there rfl (.there rfl (.there rfl (.there rfl (.there rfl (.here)))))))))))) (.cons (.there rfl (.there rfl (.there rfl (.there rfl (.there rfl (.there rfl (.there rfl (.there rfl (.there rfl (.there rfl (.there rfl (.there rfl (.here))))))))))))) (.cons (.here) .nil))))) ?_
    refine wC_condT (.t (.there rfl (.there rfl (.there rfl (.there rfl (.here)))))) rfl ?_
    refine wpC_seq ?_
    refine wC_ops ?_
    refine wI_build .nil ?_
    first | refine wI_storeA (.t (.there rfl (.there rfl (.here)))) (.t (.here)) aGET rfl aBOX aRC ?_ | refine wI_store1 (.t (.there rfl (.there rfl (.here)))) (.t (.here)) aGET aONE aRC ?_
    refine wI_mov .c ?_
    refine wI_end (.cons (.there rfl (.there rfl (.there rfl (.here)))) (.cons (.here) .nil)) ?_
    refine wpC_ret (retCT (.here) aGET aRC (.there rfl (.here)) ?_)
    have e := parse_3 (k := k) (r := r) (fun z => by have := z.2.1; exact aNO)
    exact ⟨by rw [e.1, e.2]; rfl, aSUB⟩

theorem s62 (hT : Ext fns1 T) (hM : Ext fnsM T) {k r : List UInt8} (h : Spl (k ++ r) k r) (hl : (k ++ r).length ≤ 900) :
    wpF T (.fn 62 []) [.str (k ++ r)] H0 (fun r_ H => r_ = .tup [.agg (parseM k r).av, .int .i64 (parseE k r)] ∧ H0.Sub H) := by
  refine wF hM (af := A62) rfl ?_
  have hkl : (k ++ r).length = k.length + r.length := List.length_append
  have hup := h.up
  refine wpC_seq ?_
  refine wC_ops ?_
  refine wI_alloc ?_
  refine wI_mov .c ?_
  refine wI_end (.cons (.there rfl (.there rfl (.here))) (.cons (.there rfl (.here)) .nil)) ?_
  refine wpC_seq ?_
  refine wC_ops ?_
  refine wI_mov .c ?_
  refine wI_end (.cons (.there rfl (.here)) (.cons (.there rfl (.there rfl (.here))) (.cons (.here) .nil))) ?_
  refine wpC_seq ?_
  refine wpC_block ?_
  refine wC_loop (α := Nat) (fun i => [(0, .str (k ++ r)), (2, .ptr H0.next 0), (4, .int .i64 i)]) (fun i H => H0.Sub H ∧ H.get H0.next = some (.cells [.str [], .int .i64 0, .int .i64 0, .int .i64 0, .int .i64 0] true) ∧ i ≤ (k ++ r).length ∧ ∀ j, j < i → isUp ((k ++ r).getD j 0) = true) (fun i => (k ++ r).length - i) 0 (.cons (.here) (.cons (.there rfl (.here)) (.cons (.there rfl (.there rfl (.here))) .nil))) ?_ ?_
  · exact ⟨aSUB, aGET, by omega, fun j hj => by omega⟩
  rintro i H1 ⟨hs1, hg, hi, hall⟩
  have hsn := hs1.next
  have hgl := AH.get_lt hg
  refine wpC_seq ?_
  refine wpC_seq ?_
  refine wC_ops ?_
  refine wI_mov (.t (.there rfl (.there rfl (.here)))) ?_
  refine wI_mov (.t (.there rfl (.here))) ?_
  refine wI_lenStr (.t (.here)) ?_
  refine wI_lss (.t (.there rfl (.there rfl (.here)))) (.t (.here)) ?_
  refine wI_mov (.t (.here)) ?_
  refine wI_gdT (.here) (fun g1 => ?_) (fun g1 => ?_)
  · -- g1 True
    refine wI_mov (.t (.there rfl (.there rfl (.there rfl (.there rfl (.there rfl (.here))))))) ?_
    refine wI_yes (.there rfl (.here)) g1 ?_
    refine wI_mov (.t (.there rfl (.there rfl (.there rfl (.there rfl (.there rfl (.there rfl (.there rfl (.there rfl (.here)))))))))) ?_
    refine wI_yes (.there rfl (.there rfl (.here))) g1 ?_
    obtain ⟨c, hc⟩ : ∃ c, (k ++ r)[i]? = some c := ⟨_, List.getElem?_eq_getElem (of_decide_eq_true (by assumption : decide (((i : Nat) : Int) < ((k ++ r).length : Nat)) = true) |> fun z => by omega)⟩
    have hci : (k ++ r).getD i 0 = c := by rw [List.getD_eq_getElem?_getD, hc]; rfl
    refine wI_indexStr (.t (.there rfl (.here))) (.t (.here)) rfl hc ?_
    refine wI_yes (.there rfl (.there rfl (.there rfl (.here)))) g1 ?_
    refine wI_call (.cons (.t (.here)) .nil) (s111 hM _) ?_
    rintro _ _ ⟨rfl, heq2⟩
    obtain rfl := heq2.symm
    refine wI_pickT (.t (.there rfl (.there rfl (.there rfl (.there rfl (.here)))))) g1 (.t (.here)) ?_
    refine wI_end (.cons (.there rfl (.there rfl (.there rfl (.there rfl (.there rfl (.there rfl (.there rfl (.there rfl (.there rfl (.there rfl (.here))))))))))) (.cons (.there rfl (.there rfl (.there rfl (.there rfl (.there rfl (.there rfl (.there rfl (.there rfl (.there rfl (.there rfl (.there rfl (.here)))))))))))) (.cons (.there rfl (.there rfl (.there rfl (.there rfl (.there rfl (.there rfl (.there rfl (.there rfl (.there rfl (.there rfl (.there rfl (.there rfl (.here))))))))))))) (.cons (.here) .nil)))) ?_
    refine wC_cond (.t (.there rfl (.there rfl (.there rfl (.here))))) (fun c3 => ?_) (fun c3 => ?_)
    · -- c3 True
      refine wpC_skip ?_
      refine wpC_block ?_
      refine wC_ops ?_
      refine wI_mov (.t (.there rfl (.there rfl (.here)))) ?_
      first | refine wI_add (.t (.here)) .c aWRAP ?_ | refine wI_sadd (.t (.here)) .c (by (simp only [List.length_append, List.length_take, List.length_drop, List.length_cons, List.length_nil] at *; omega)) ?_
      refine wI_mov (.t (.here)) ?_
      refine wI_end (.cons (.there rfl (.there rfl (.there rfl (.here)))) (.cons (.there rfl (.there rfl (.there rfl (.there rfl (.here))))) (.cons (.here) .nil))) ?_
      refine ⟨i + 1, (.cons (.here) (.cons (.there rfl (.here)) (.cons (.there rfl (.there rfl (.here))) .nil))), ?_, ?_⟩
      · refine ⟨aSUB, aGET, by exact aNO, fun j hj => ?_⟩
        rcases Nat.lt_or_ge j i with z | z
        · exact hall j z
        · rw [show j = i by omega, hci]; exact aNA
      · (exact aNO)
    · -- c3 False
      refine wpC_exit ?_
      refine wpC_seq ?_
      refine wpC_seq ?_
      refine wC_ops ?_
      have hik : i = k.length := h.len hi hall (fun z => by first | (exfalso; exact aNO) | (rw [hci]; exact aNA))
      subst hik
      refine wI_mov (.t (.here)) ?_
      refine wI_mov (.t (.there rfl (.there rfl (.there rfl (.here))))) ?_
      refine wI_call (.cons (.t (.there rfl (.here))) (.cons (.t (.here)) .nil)) (s112 hM) ?_
      rintro _ _ ⟨rfl, heq4⟩
      obtain rfl := heq4.symm
      refine wI_not (.t (.here)) ?_
      refine wI_end (.cons (.there rfl (.there rfl (.there rfl (.there rfl (.here))))) (.cons (.there rfl (.there rfl (.there rfl (.there rfl (.there rfl (.here)))))) (.cons (.there rfl (.there rfl (.there rfl (.there rfl (.there rfl (.there rfl (.here))))))) (.cons (.here) .nil)))) ?_
      refine wC_cond (.t (.there rfl (.there rfl (.there rfl (.here))))) (fun c5 => ?_) (fun c5 => ?_)
      · -- c5 True
        refine wpC_seq ?_
        refine wC_ops ?_
        refine wI_build .nil ?_
        first | refine wI_storeA (.t (.there rfl (.there rfl (.here)))) (.t (.here)) aGET rfl aBOX aRC ?_ | refine wI_store1 (.t (.there rfl (.there rfl (.here)))) (.t (.here)) aGET aONE aRC ?_
        refine wI_mov .c ?_
        refine wI_end (.cons (.there rfl (.there rfl (.there rfl (.here)))) (.cons (.here) .nil)) ?_
        refine wpC_ret (retCT (.here) aGET aRC (.there rfl (.here)) ?_)
        have e := parse_3 (k := k) (r := r) (by exact aNA)
        exact ⟨by rw [e.1, e.2]; rfl, aSUB⟩
      · -- c5 False
        have hf0 : (1 ≤ k.length ∧ k.length ≤ 4) ∧ formR r := by exact aNA
        obtain ⟨h14, hf⟩ := hf0
        have hrl := hf.1
        have hup4 := up_rng hf.2.2.2.1
        refine wpC_skip ?_
        refine wpC_seq ?_
        refine wC_ops ?_
        refine wI_mov (.t (.here)) ?_
        refine wI_mov (.t (.there rfl (.there rfl (.there rfl (.here))))) ?_
        refine wI_sliceT (t := k) (.t (.there rfl (.here))) rfl (optNat_some (n := k.length) (.t (.here)) (by first | rfl | omega)) (by first | omega | (simp; omega)) (by simp) ?_
        refine wI_mov (.t (.there rfl (.there rfl (.there rfl (.here))))) ?_
        refine wI_mov (.t (.there rfl (.there rfl (.there rfl (.there rfl (.there rfl (.there rfl (.here)))))))) ?_
        refine wI_mov (.t (.there rfl (.there rfl (.there rfl (.there rfl (.there rfl (.there rfl (.there rfl (.here))))))))) ?_
        first | refine wI_add (.t (.here)) .c aWRAP ?_ | refine wI_sadd (.t (.here)) .c (by (simp only [List.length_append, List.length_take, List.length_drop, List.length_cons, List.length_nil] at *; omega)) ?_
        refine wI_sliceT (t := r.take 2) (.t (.there rfl (.there rfl (.there rfl (.here))))) (optNat_some (n := k.length) (.t (.there rfl (.there rfl (.here)))) (by first | rfl | omega)) (optNat_some (n := k.length + 2) (.t (.here)) (by first | rfl | omega)) (by first | omega | (simp; omega)) (by exact sl_kr 0 2) ?_
        refine wI_mov (.t (.there rfl (.there rfl (.there rfl (.there rfl (.there rfl (.there rfl (.there rfl (.there rfl (.here)))))))))) ?_
        refine wI_mov (.t (.there rfl (.there rfl (.there rfl (.there rfl (.there rfl (.there rfl (.there rfl (.there rfl (.there rfl (.there rfl (.there rfl (.here))))))))))))) ?_
        first | refine wI_add (.t (.here)) .c aWRAP ?_ | refine wI_sadd (.t (.here)) .c (by (simp only [List.length_append, List.length_take, List.length_drop, List.length_cons, List.length_nil] at *; omega)) ?_
        refine wI_mov (.t (.there rfl (.there rfl (.there rfl (.there rfl (.there rfl (.there rfl (.there rfl (.there rfl (.there rfl (.there rfl (.there rfl (.there rfl (.there rfl (.here))))))))))))))) ?_
        first | refine wI_add (.t (.here)) .c aWRAP ?_ | refine wI_sadd (.t (.here)) .c (by (simp only [List.length_append, List.length_take, List.length_drop, List.length_cons, List.length_nil] at *; omega)) ?_
        refine wI_sliceT (t := (r.drop 2).take 2) (.t (.there rfl (.there rfl (.there rfl (.there rfl (.here)))))) (optNat_some (n := k.length + 2) (.t (.there rfl (.there rfl (.here)))) (by first | rfl | omega)) (optNat_some (n := k.length + 4) (.t (.here)) (by first | rfl | omega)) (by first | omega | (simp; omega)) (by exact sl_kr 2 4) ?_
        refine wI_mov (.t (.there rfl (.there rfl (.there rfl (.there rfl (.there rfl (.there rfl (.there rfl (.there rfl (.there rfl (.there rfl (.there rfl (.there rfl (.there rfl (.there rfl (.here)))))))))))))))) ?_
        refine wI_mov (.t (.there rfl (.there rfl (.there rfl (.there rfl (.there rfl (.there rfl (.there rfl (.there rfl (.there rfl (.there rfl (.there rfl (.there rfl (.there rfl (.there rfl (.there rfl (.there rfl (.there rfl (.here))))))))))))))))))) ?_
        first | refine wI_add (.t (.here)) .c aWRAP ?_ | refine wI_sadd (.t (.here)) .c (by (simp only [List.length_append, List.length_take, List.length_drop, List.length_cons, List.length_nil] at *; omega)) ?_
        refine wI_indexStr (m := k.length + 4) (c := r.getD 4 0) (.t (.there rfl (.there rfl (.here)))) (.t (.here)) aOM (idx_kr aOM) ?_
        refine wI_sub (.t (.here)) .c aWRAP ?_
        refine wI_convInt (.t (.here)) (by first | exact wrap64 aOM | exact wrap_u64 aOM) ?_
        first | refine wI_add (.t (.here)) .c aWRAP ?_ | refine wI_sadd (.t (.here)) .c (by (simp only [List.length_append, List.length_take, List.length_drop, List.length_cons, List.length_nil] at *; omega)) ?_
        refine wI_mov (.t (.there rfl (.there rfl (.there rfl (.there rfl (.there rfl (.there rfl (.there rfl (.there rfl (.there rfl (.there rfl (.there rfl (.there rfl (.there rfl (.there rfl (.there rfl (.there rfl (.there rfl (.there rfl (.there rfl (.there rfl (.there rfl (.here))))))))))))))))))))))) ?_
        refine wI_mov (.t (.there rfl (.there rfl (.there rfl (.there rfl (.there rfl (.there rfl (.there rfl (.there rfl (.there rfl (.there rfl (.there rfl (.there rfl (.there rfl (.there rfl (.there rfl (.there rfl (.there rfl (.there rfl (.there rfl (.there rfl (.there rfl (.there rfl (.there rfl (.there rfl (.here)))))))))))))))))))))))))) ?_
        first | refine wI_add (.t (.here)) .c aWRAP ?_ | refine wI_sadd (.t (.here)) .c (by (simp only [List.length_append, List.length_take, List.length_drop, List.length_cons, List.length_nil] at *; omega)) ?_
        refine wI_mov (.t (.there rfl (.there rfl (.there rfl (.there rfl (.there rfl (.there rfl (.there rfl (.there rfl (.there rfl (.there rfl (.there rfl (.there rfl (.there rfl (.there rfl (.there rfl (.there rfl (.there rfl (.there rfl (.there rfl (.there rfl (.there rfl (.there rfl (.there rfl (.there rfl (.there rfl (.there rfl (.here)))))))))))))))))))))))))))) ?_
        first | refine wI_add (.t (.here)) .c aWRAP ?_ | refine wI_sadd (.t (.here)) .c (by (simp only [List.length_append, List.length_take, List.length_drop, List.length_cons, List.length_nil] at *; omega)) ?_
        refine wI_sliceT (t := (r.drop 5).take 5) (.t (.there rfl (.there rfl (.there rfl (.there rfl (.here)))))) (optNat_some (n := k.length + 5) (.t (.there rfl (.there rfl (.here)))) (by first | rfl | omega)) (optNat_some (n := k.length + 10) (.t (.here)) (by first | rfl | omega)) (by first | omega | (simp; omega)) (by exact sl_kr 5 10) ?_
        refine wI_alloc ?_
        refine wI_call (.cons (.t (.there rfl (.there rfl (.there rfl (.there rfl (.there rfl (.there rfl (.there rfl (.there rfl (.there rfl (.there rfl (.there rfl (.there rfl (.there rfl (.there rfl (.there rfl (.there rfl (.there rfl (.there rfl (.there rfl (.there rfl (.here)))))))))))))))))))))) .nil) (s113 hM (form_dig hf (.inl ⟨rfl, rfl⟩)) (by simp; omega)) ?_
        rintro _ _ ⟨rfl, heq6⟩
        obtain rfl := heq6.symm
        refine wI_chkAlloc (.there rfl (.here)) aGET aSAME ?_
        refine wI_call (.cons (.t (.there rfl (.there rfl (.there rfl (.there rfl (.there rfl (.there rfl (.there rfl (.there rfl (.there rfl (.there rfl (.there rfl (.there rfl (.there rfl (.there rfl (.there rfl (.here))))))))))))))))) .nil) (s113 hM (form_dig hf (.inr (.inl ⟨rfl, rfl⟩))) (by simp; omega)) ?_
        rintro _ _ ⟨rfl, heq7⟩
        obtain rfl := heq7.symm
        refine wI_chkAlloc (.there rfl (.there rfl (.here))) aGET aSAME ?_
        refine wI_call (.cons (.t (.there rfl (.there rfl (.there rfl (.here))))) .nil) (s113 hM (form_dig hf (.inr (.inr ⟨rfl, rfl⟩))) (by simp; omega)) ?_
        rintro _ _ ⟨rfl, heq8⟩
        obtain rfl := heq8.symm
        refine wI_chkAlloc (.there rfl (.there rfl (.there rfl (.here)))) aGET aSAME ?_
        refine wI_build (.one (.t (.there rfl (.there rfl (.there rfl (.there rfl (.there rfl (.there rfl (.there rfl (.there rfl (.there rfl (.there rfl (.there rfl (.there rfl (.there rfl (.there rfl (.there rfl (.there rfl (.there rfl (.there rfl (.there rfl (.there rfl (.there rfl (.there rfl (.there rfl (.there rfl (.there rfl (.there rfl (.there rfl (.there rfl (.here)))))))))))))))))))))))))))))) aONE aRC (.one (.t (.there rfl (.there rfl (.here)))) aONE aRC (.one (.t (.there rfl (.here))) aONE aRC (.one (.t (.there rfl (.there rfl (.there rfl (.there rfl (.there rfl (.there rfl (.there rfl (.there rfl (.there rfl (.there rfl (.here)))))))))))) aONE aRC (.one (.t (.here)) aONE aRC .nil))))) ?_
        first | refine wI_storeA (.t (.there rfl (.there rfl (.there rfl (.there rfl (.here)))))) (.t (.here)) aGET rfl aBOX aRC ?_ | refine wI_store1 (.t (.there rfl (.there rfl (.there rfl (.there rfl (.here)))))) (.t (.here)) aGET aONE aRC ?_
        refine wI_end (.cons (.there rfl (.there rfl (.there rfl (.there rfl (.there rfl (.there rfl (.there rfl (.there rfl (.there rfl (.there rfl (.there rfl (.there rfl (.there rfl (.there rfl (.there rfl (.there rfl (.there rfl (.there rfl (.there rfl (.there rfl (.there rfl (.there rfl (.there rfl (.there rfl (.there rfl (.there rfl (.there rfl (.there rfl (.there rfl (.there rfl (.there rfl (.there rfl (.here))))))))))))))))))))))))))))))))) (.cons (.there rfl (.there rfl (.there rfl (.there rfl (.there rfl (.there rfl (.there rfl (.there rfl (.there rfl (.there rfl (.there rfl (.there rfl (.there rfl (.there rfl (.there rfl (.there rfl (.there rfl (.there rfl (.there rfl (.there rfl (.there rfl (.there rfl (.there rfl (.there rfl (.there rfl (.there rfl (.there rfl (.there rfl (.there rfl (.there rfl (.there rfl (.there rfl (.there rfl (.here)))))))))))))))))))))))))))))))))) (.cons (.there rfl (.there rfl (.there rfl (.there rfl (.there rfl (.there rfl (.there rfl (.there rfl (.there rfl (.there rfl (.there rfl (.there rfl (.there rfl (.there rfl (.there rfl (.there rfl (.there rfl (.there rfl (.there rfl (.there rfl (.there rfl (.there rfl (.there rfl (.there rfl (.there rfl (.there rfl (.there rfl (.there rfl (.there rfl (.there rfl (.there rfl (.there rfl (.there rfl (.there rfl (.here))))))))))))))))))))))))))))))))))) (.cons (.there rfl (.there rfl (.there rfl (.there rfl (.here))))) .nil)))) ?_
        refine wpC_seq ?_
        refine wpC_seq ?_
        refine wC_ops ?_
        refine wI_fieldAddr (.t (.there rfl (.there rfl (.there rfl (.here))))) ?_
        refine wI_load1 (.t (.here)) aGET rfl ?_
        refine wI_call (.cons (.t (.here)) (.cons .c (.cons .c .nil))) (s69 hT _ _ _) ?_
        rintro _ _ ⟨rfl, heq9⟩
        obtain rfl := heq9.symm
        refine wI_not (.t (.here)) ?_
        refine wI_end (.cons (.there rfl (.there rfl (.there rfl (.there rfl (.here))))) (.cons (.there rfl (.there rfl (.there rfl (.there rfl (.there rfl (.here)))))) (.cons (.there rfl (.there rfl (.there rfl (.there rfl (.there rfl (.there rfl (.here))))))) (.cons (.there rfl (.there rfl (.there rfl (.there rfl (.there rfl (.there rfl (.there rfl (.here)))))))) (.cons (.here) .nil))))) ?_
        refine wC_cond (.t (.there rfl (.there rfl (.there rfl (.there rfl (.here)))))) (fun c10 => ?_) (fun c10 => ?_)
        · -- c10 True
          refine wpC_seq ?_
          refine wC_ops ?_
          refine wI_build .nil ?_
          first | refine wI_storeA (.t (.there rfl (.there rfl (.here)))) (.t (.here)) aGET rfl aBOX aRC ?_ | refine wI_store1 (.t (.there rfl (.there rfl (.here)))) (.t (.here)) aGET aONE aRC ?_
          refine wI_mov .c ?_
          refine wI_end (.cons (.there rfl (.there rfl (.there rfl (.here)))) (.cons (.here) .nil)) ?_
          refine wpC_ret (retCT (.here) aGET aRC (.there rfl (.here)) ?_)
          have e := parse_2 ⟨h14, hf⟩ (by exact aNA)
          exact ⟨by rw [e.1, e.2]; rfl, aSUB⟩
        · -- c10 False
          have hw : 1 ≤ (readM k r).w ∧ (readM k r).w ≤ 53 := by exact aNA
          refine wpC_skip ?_
          refine wpC_seq ?_
          refine wpC_seq ?_
          refine wC_ops ?_
          refine wI_mov (.t (.here)) ?_
          refine wI_mov (.t (.there rfl (.there rfl (.there rfl (.here))))) ?_
          first | refine wI_add (.t (.here)) .c aWRAP ?_ | refine wI_sadd (.t (.here)) .c (by (simp only [List.length_append, List.length_take, List.length_drop, List.length_cons, List.length_nil] at *; omega)) ?_
          refine wI_sliceT (t := k ++ r.take 10) (.t (.there rfl (.there rfl (.here)))) rfl (optNat_some (n := k.length + 10) (.t (.here)) (by first | rfl | omega)) (by first | omega | (simp; omega)) (by exact sl_k k r 10) ?_
          refine wI_mov (.t (.there rfl (.there rfl (.there rfl (.there rfl (.here)))))) ?_
          refine wI_mov (.t (.there rfl (.there rfl (.there rfl (.there rfl (.there rfl (.there rfl (.there rfl (.here))))))))) ?_
          first | refine wI_add (.t (.here)) .c aWRAP ?_ | refine wI_sadd (.t (.here)) .c (by (simp only [List.length_append, List.length_take, List.length_drop, List.length_cons, List.length_nil] at *; omega)) ?_
          refine wI_indexStr (m := k.length + 10) (c := r.getD 10 0) (.t (.there rfl (.there rfl (.here)))) (.t (.here)) aOM (idx_kr aOM) ?_
          refine wI_call (.cons (.t (.there rfl (.there rfl (.there rfl (.there rfl (.here)))))) .nil) (s107 hM (form_vals hup hf) (by simp; omega)) ?_
          rintro _ _ ⟨rfl, heq11⟩
          obtain rfl := heq11.symm
          refine wI_neI (.t (.here)) (.t (.there rfl (.here))) ?_
          refine wI_end (.cons (.there rfl (.there rfl (.there rfl (.there rfl (.there rfl (.there rfl (.there rfl (.there rfl (.there rfl (.there rfl (.there rfl (.here)))))))))))) (.cons (.there rfl (.there rfl (.there rfl (.there rfl (.there rfl (.there rfl (.there rfl (.there rfl (.there rfl (.there rfl (.there rfl (.there rfl (.there rfl (.here)))))))))))))) (.cons (.here) .nil))) ?_
          refine wC_if (.t (.there rfl (.there rfl (.here)))) (fun c12 => ?_) (fun c12 => ?_)
          · -- c12 True
            refine wpC_seq ?_
            refine wC_ops ?_
            refine wI_build .nil ?_
            first | refine wI_storeA (.t (.there rfl (.here))) (.t (.here)) aGET rfl aBOX aRC ?_ | refine wI_store1 (.t (.there rfl (.here))) (.t (.here)) aGET aONE aRC ?_
            refine wI_mov .c ?_
            refine wI_end (.cons (.there rfl (.there rfl (.here))) (.cons (.here) .nil)) ?_
            refine wpC_ret (retCT (.here) aGET aRC (.there rfl (.here)) ?_)
            have e := parse_12 ⟨h14, hf⟩ hw (fun z => by have z2 := congrArg UInt8.toNat z; exact aNO)
            exact ⟨by rw [e.1, e.2]; rfl, aSUB⟩
          · -- c12 False
            refine wpC_skip ?_
            refine wpC_seq ?_
            refine wC_ops ?_
            refine wI_loadT (.t (.there rfl (.here))) aGET aRC ?_
            first | refine wI_storeA (.t (.there rfl (.here))) (.t (.here)) aGET rfl aBOX aRC ?_ | refine wI_store1 (.t (.there rfl (.here))) (.t (.here)) aGET aONE aRC ?_
            refine wI_mov .c ?_
            refine wI_end (.cons (.there rfl (.there rfl (.here))) (.cons (.here) .nil)) ?_
            refine wpC_ret (retCT (.here) aGET aRC (.there rfl (.here)) ?_)
            have e := parse_0 ⟨h14, hf⟩ hw (UInt8.toNat_inj.1 (by exact aNO))
            exact ⟨by rw [e.1, e.2]; rfl, aSUB⟩
  · -- g1 False
    refine wI_no (.there rfl (.here)) (by rw [g1]; decide) ?_
    refine wI_no (.there rfl (.there rfl (.here))) (by rw [g1]; decide) ?_
    refine wI_no (.there rfl (.there rfl (.there rfl (.here)))) (by rw [g1]; decide) ?_
    refine wI_pickF (.t (.there rfl (.there rfl (.there rfl (.there rfl (.here)))))) g1 .c ?_
    refine wI_end (.cons (.there rfl (.there rfl (.there rfl (.there rfl (.there rfl (.there rfl (.there rfl (.there rfl (.there rfl (.there rfl (.here))))))))))) (.cons (.there rfl (.there rfl (.there rfl (.there rfl (.there rfl (.there rfl (.there rfl (.there rfl (.there rfl (.there rfl (.there rfl (.here)))))))))))) (.cons (.there rfl (.there rfl (.there rfl (.there rfl (.there rfl (.there rfl (.there rfl (.there rfl (.there rfl (.there rfl (.there rfl (.there rfl (.here))))))))))))) (.cons (.here) .nil)))) ?_
    refine wC_condF (.t (.there rfl (.there rfl (.there rfl (.here))))) rfl ?_
    refine wpC_exit ?_
    refine wpC_seq ?_
    refine wpC_seq ?_
    refine wC_ops ?_
    have hik : i = k.length := h.len hi hall (fun z => by first | (exfalso; exact aNO) | (rw [hci]; exact aNA))
    subst hik
    refine wI_mov (.t (.here)) ?_
    refine wI_mov (.t (.there rfl (.there rfl (.there rfl (.here))))) ?_
    refine wI_call (.cons (.t (.there rfl (.here))) (.cons (.t (.here)) .nil)) (s112 hM) ?_
    rintro _ _ ⟨rfl, heq13⟩
    obtain rfl := heq13.symm
    refine wI_not (.t (.here)) ?_
    refine wI_end (.cons (.there rfl (.there rfl (.there rfl (.there rfl (.here))))) (.cons (.there rfl (.there rfl (.there rfl (.there rfl (.there rfl (.here)))))) (.cons (.there rfl (.there rfl (.there rfl (.there rfl (.there rfl (.there rfl (.here))))))) (.cons (.here) .nil)))) ?_
    refine wC_cond (.t (.there rfl (.there rfl (.there rfl (.here))))) (fun c14 => ?_) (fun c14 => ?_)
    · -- c14 True
      refine wpC_seq ?_
      refine wC_ops ?_
      refine wI_build .nil ?_
      first | refine wI_storeA (.t (.there rfl (.there rfl (.here)))) (.t (.here)) aGET rfl aBOX aRC ?_ | refine wI_store1 (.t (.there rfl (.there rfl (.here)))) (.t (.here)) aGET aONE aRC ?_
      refine wI_mov .c ?_
      refine wI_end (.cons (.there rfl (.there rfl (.there rfl (.here)))) (.cons (.here) .nil)) ?_
      refine wpC_ret (retCT (.here) aGET aRC (.there rfl (.here)) ?_)
      have e := parse_3 (k := k) (r := r) (by exact aNA)
      exact ⟨by rw [e.1, e.2]; rfl, aSUB⟩
    · -- c14 False
      have hf0 : (1 ≤ k.length ∧ k.length ≤ 4) ∧ formR r := by exact aNA
      obtain ⟨h14, hf⟩ := hf0
      have hrl := hf.1
      have hup4 := up_rng hf.2.2.2.1
      refine wpC_skip ?_
      refine wpC_seq ?_
      refine wC_ops ?_
      refine wI_mov (.t (.here)) ?_
      refine wI_mov (.t (.there rfl (.there rfl (.there rfl (.here))))) ?_
      refine wI_sliceT (t := k) (.t (.there rfl (.here))) rfl (optNat_some (n := k.length) (.t (.here)) (by first | rfl | omega)) (by first | omega | (simp; omega)) (by simp) ?_
      refine wI_mov (.t (.there rfl (.there rfl (.there rfl (.here))))) ?_
      refine wI_mov (.t (.there rfl (.there rfl (.there rfl (.there rfl (.there rfl (.there rfl (.here)))))))) ?_
      refine wI_mov (.t (.there rfl (.there rfl (.there rfl (.there rfl (.there rfl (.there rfl (.there rfl (.here))))))))) ?_
      first | refine wI_add (.t (.here)) .c aWRAP ?_ | refine wI_sadd (.t (.here)) .c (by (simp only [List.length_append, List.length_take, List.length_drop, List.length_cons, List.length_nil] at *; omega)) ?_
      refine wI_sliceT (t := r.take 2) (.t (.there rfl (.there rfl (.there rfl (.here))))) (optNat_some (n := k.length) (.t (.there rfl (.there rfl (.here)))) (by first | rfl | omega)) (optNat_some (n := k.length + 2) (.t (.here)) (by first | rfl | omega)) (by first | omega | (simp; omega)) (by exact sl_kr 0 2) ?_
      refine wI_mov (.t (.there rfl (.there rfl (.there rfl (.there rfl (.there rfl (.there rfl (.there rfl (.there rfl (.here)))))))))) ?_
      refine wI_mov (.t (.there rfl (.there rfl (.there rfl (.there rfl (.there rfl (.there rfl (.there rfl (.there rfl (.there rfl (.there rfl (.there rfl (.here))))))))))))) ?_
      first | refine wI_add (.t (.here)) .c aWRAP ?_ | refine wI_sadd (.t (.here)) .c (by (simp only [List.length_append, List.length_take, List.length_drop, List.length_cons, List.length_nil] at *; omega)) ?_
      refine wI_mov (.t (.there rfl (.there rfl (.there rfl (.there rfl (.there rfl (.there rfl (.there rfl (.there rfl (.there rfl (.there rfl (.there rfl (.there rfl (.there rfl (.here))))))))))))))) ?_
      first | refine wI_add (.t (.here)) .c aWRAP ?_ | refine wI_sadd (.t (.here)) .c (by (simp only [List.length_append, List.length_take, List.length_drop, List.length_cons, List.length_nil] at *; omega)) ?_
      refine wI_sliceT (t := (r.drop 2).take 2) (.t (.there rfl (.there rfl (.there rfl (.there rfl (.here)))))) (optNat_some (n := k.length + 2) (.t (.there rfl (.there rfl (.here)))) (by first | rfl | omega)) (optNat_some (n := k.length + 4) (.t (.here)) (by first | rfl | omega)) (by first | omega | (simp; omega)) (by exact sl_kr 2 4) ?_
      refine wI_mov (.t (.there rfl (.there rfl (.there rfl (.there rfl (.there rfl (.there rfl (.there rfl (.there rfl (.there rfl (.there rfl (.there rfl (.there rfl (.there rfl (.there rfl (.here)))))))))))))))) ?_
      refine wI_mov (.t (.there rfl (.there rfl (.there rfl (.there rfl (.there rfl (.there rfl (.there rfl (.there rfl (.there rfl (.there rfl (.there rfl (.there rfl (.there rfl (.there rfl (.there rfl (.there rfl (.there rfl (.here))))))))))))))))))) ?_
      first | refine wI_add (.t (.here)) .c aWRAP ?_ | refine wI_sadd (.t (.here)) .c (by (simp only [List.length_append, List.length_take, List.length_drop, List.length_cons, List.length_nil] at *; omega)) ?_
      refine wI_indexStr (m := k.length + 4) (c := r.getD 4 0) (.t (.there rfl (.there rfl (.here)))) (.t (.here)) aOM (idx_kr aOM) ?_
      refine wI_sub (.t (.here)) .c aWRAP ?_
      refine wI_convInt (.t (.here)) (by first | exact wrap64 aOM | exact wrap_u64 aOM) ?_
      first | refine wI_add (.t (.here)) .c aWRAP ?_ | refine wI_sadd (.t (.here)) .c (by (simp only [List.length_append, List.length_take, List.length_drop, List.length_cons, List.length_nil] at *; omega)) ?_
      refine wI_mov (.t (.there rfl (.there rfl (.there rfl (.there rfl (.there rfl (.there rfl (.there rfl (.there rfl (.there rfl (.there rfl (.there rfl (.there rfl (.there rfl (.there rfl (.there rfl (.there rfl (.there rfl (.there rfl (.there rfl (.there rfl (.there rfl (.here))))))))))))))))))))))) ?_
      refine wI_mov (.t (.there rfl (.there rfl (.there rfl (.there rfl (.there rfl (.there rfl (.there rfl (.there rfl (.there rfl (.there rfl (.there rfl (.there rfl (.there rfl (.there rfl (.there rfl (.there rfl (.there rfl (.there rfl (.there rfl (.there rfl (.there rfl (.there rfl (.there rfl (.there rfl (.here)))))))))))))))))))))))))) ?_
      first | refine wI_add (.t (.here)) .c aWRAP ?_ | refine wI_sadd (.t (.here)) .c (by (simp only [List.length_append, List.length_take, List.length_drop, List.length_cons, List.length_nil] at *; omega)) ?_
      refine wI_mov (.t (.there rfl (.there rfl (.there rfl (.there rfl (.there rfl (.there rfl (.there rfl (.there rfl (.there rfl (.there rfl (.there rfl (.there rfl (.there rfl (.there rfl (.there rfl (.there rfl (.there rfl (.there rfl (.there rfl (.there rfl (.there rfl (.there rfl (.there rfl (.there rfl (.there rfl (.there rfl (.here)))))))))))))))))))))))))))) ?_
      first | refine wI_add (.t (.here)) .c aWRAP ?_ | refine wI_sadd (.t (.here)) .c (by (simp only [List.length_append, List.length_take, List.length_drop, List.length_cons, List.length_nil] at *; omega)) ?_
      refine wI_sliceT (t := (r.drop 5).take 5) (.t (.there rfl (.there rfl (.there rfl (.there rfl (.here)))))) (optNat_some (n := k.length + 5) (.t (.there rfl (.there rfl (.here)))) (by first | rfl | omega)) (optNat_some (n := k.length + 10) (.t (.here)) (by first | rfl | omega)) (by first | omega | (simp; omega)) (by exact sl_kr 5 10) ?_
      refine wI_alloc ?_
      refine wI_call (.cons (.t (.there rfl (.there rfl (.there rfl (.there rfl (.there rfl (.there rfl (.there rfl (.there rfl (.there rfl (.there rfl (.there rfl (.there rfl (.there rfl (.there rfl (.there rfl (.there rfl (.there rfl (.there rfl (.there rfl (.there rfl (.here)))))))))))))))))))))) .nil) (s113 hM (form_dig hf (.inl ⟨rfl, rfl⟩)) (by simp; omega)) ?_
      rintro _ _ ⟨rfl, heq15⟩
      obtain rfl := heq15.symm
      refine wI_chkAlloc (.there rfl (.here)) aGET aSAME ?_
      refine wI_call (.cons (.t (.there rfl (.there rfl (.there rfl (.there rfl (.there rfl (.there rfl (.there rfl (.there rfl (.there rfl (.there rfl (.there rfl (.there rfl (.there rfl (.there rfl (.there rfl (.here))))))))))))))))) .nil) (s113 hM (form_dig hf (.inr (.inl ⟨rfl, rfl⟩))) (by simp; omega)) ?_
      rintro _ _ ⟨rfl, heq16⟩
      obtain rfl := heq16.symm
      refine wI_chkAlloc (.there rfl (.there rfl (.here))) aGET aSAME ?_
      refine wI_call (.cons (.t (.there rfl (.there rfl (.there rfl (.here))))) .nil) (s113 hM (form_dig hf (.inr (.inr ⟨rfl, rfl⟩))) (by simp; omega)) ?_
      rintro _ _ ⟨rfl, heq17⟩
      obtain rfl := heq17.symm
      refine wI_chkAlloc (.there rfl (.there rfl (.there rfl (.here)))) aGET aSAME ?_
      refine wI_build (.one (.t (.there rfl (.there rfl (.there rfl (.there rfl (.there rfl (.there rfl (.there rfl (.there rfl (.there rfl (.there rfl (.there rfl (.there rfl (.there rfl (.there rfl (.there rfl (.there rfl (.there rfl (.there rfl (.there rfl (.there rfl (.there rfl (.there rfl (.there rfl (.there rfl (.there rfl (.there rfl (.there rfl (.there rfl (.here)))))))))))))))))))))))))))))) aONE aRC (.one (.t (.there rfl (.there rfl (.here)))) aONE aRC (.one (.t (.there rfl (.here))) aONE aRC (.one (.t (.there rfl (.there rfl (.there rfl (.there rfl (.there rfl (.there rfl (.there rfl (.there rfl (.there rfl (.there rfl (.here)))))))))))) aONE aRC (.one (.t (.here)) aONE aRC .nil))))) ?_
      first | refine wI_storeA (.t (.there rfl (.there rfl (.there rfl (.there rfl (.here)))))) (.t (.here)) aGET rfl aBOX aRC ?_ | refine wI_store1 (.t (.there rfl (.there rfl (.there rfl (.there rfl (.here)))))) (.t (.here)) aGET aONE aRC ?_
      refine wI_end (.cons (.there rfl (.there rfl (.there rfl (.there rfl (.there rfl (.there rfl (.there rfl (.there rfl (.there rfl (.there rfl (.there rfl (.there rfl (.there rfl (.there rfl (.there rfl (.there rfl (.there rfl (.there rfl (.there rfl (.there rfl (.there rfl (.there rfl (.there rfl (.there rfl (.there rfl (.there rfl (.there rfl (.there rfl (.there rfl (.there rfl (.there rfl (.there rfl (.here))))))))))))))))))))))))))))))))) (.cons (.there rfl (.there rfl (.there rfl (.there rfl (.there rfl (.there rfl (.there rfl (.there rfl (.there rfl (.there rfl (.there rfl (.there rfl (.there rfl (.there rfl (.there rfl (.there rfl (.there rfl (.there rfl (.there rfl (.there rfl (.there rfl (.there rfl (.there rfl (.there rfl (.there rfl (.there rfl (.there rfl (.there rfl (.there rfl (.there rfl (.there rfl (.there rfl (.there rfl (.here)))))))))))))))))))))))))))))))))) (.cons (.there rfl (.there rfl (.there rfl (.there rfl (.there rfl (.there rfl (.there rfl (.there rfl (.there rfl (.there rfl (.there rfl (.there rfl (.there rfl (.there rfl (.there rfl (.there rfl (.there rfl (.there rfl (.there rfl (.there rfl (.there rfl (.there rfl (.there rfl (.there rfl (.there rfl (.there rfl (.there rfl (.there rfl (.there rfl (.there rfl (.there rfl (.there rfl (.there rfl (.there rfl (.here))))))))))))))))))))))))))))))))))) (.cons (.there rfl (.there rfl (.there rfl (.there rfl (.here))))) .nil)))) ?_
      refine wpC_seq ?_
      refine wpC_seq ?_
      refine wC_ops ?_
      refine wI_fieldAddr (.t (.there rfl (.there rfl (.there rfl (.here))))) ?_
      refine wI_load1 (.t (.here)) aGET rfl ?_
      refine wI_call (.cons (.t (.here)) (.cons .c (.cons .c .nil))) (s69 hT _ _ _) ?_
      rintro _ _ ⟨rfl, heq18⟩
      obtain rfl := heq18.symm
      refine wI_not (.t (.here)) ?_
      refine wI_end (.cons (.there rfl (.there rfl (.there rfl (.there rfl (.here))))) (.cons (.there rfl (.there rfl (.there rfl (.there rfl (.there rfl (.here)))))) (.cons (.there rfl (.there rfl (.there rfl (.there rfl (.there rfl (.there rfl (.here))))))) (.cons (.there rfl (.there rfl (.there rfl (.there rfl (.there rfl (.there rfl (.there rfl (.here)))))))) (.cons (.here) .nil))))) ?_
      refine wC_cond (.t (.there rfl (.there rfl (.there rfl (.there rfl (.here)))))) (fun c19 => ?_) (fun c19 => ?_)
      · -- c19 True
        refine wpC_seq ?_
        refine wC_ops ?_
        refine wI_build .nil ?_
        first | refine wI_storeA (.t (.there rfl (.there rfl (.here)))) (.t (.here)) aGET rfl aBOX aRC ?_ | refine wI_store1 (.t (.there rfl (.there rfl (.here)))) (.t (.here)) aGET aONE aRC ?_
        refine wI_mov .c ?_
        refine wI_end (.cons (.there rfl (.there rfl (.there rfl (.here)))) (.cons (.here) .nil)) ?_
        refine wpC_ret (retCT (.here) aGET aRC (.there rfl (.here)) ?_)
        have e := parse_2 ⟨h14, hf⟩ (by exact aNA)
        exact ⟨by rw [e.1, e.2]; rfl, aSUB⟩
      · -- c19 False
        have hw : 1 ≤ (readM k r).w ∧ (readM k r).w ≤ 53 := by exact aNA
        refine wpC_skip ?_
        refine wpC_seq ?_
        refine wpC_seq ?_
        refine wC_ops ?_
        refine wI_mov (.t (.here)) ?_
        refine wI_mov (.t (.there rfl (.there rfl (.there rfl (.here))))) ?_
        first | refine wI_add (.t (.here)) .c aWRAP ?_ | refine wI_sadd (.t (.here)) .c (by (simp only [List.length_append, List.length_take, List.length_drop, List.length_cons, List.length_nil] at *; omega)) ?_
        refine wI_sliceT (t := k ++ r.take 10) (.t (.there rfl (.there rfl (.here)))) rfl (optNat_some (n := k.length + 10) (.t (.here)) (by first | rfl | omega)) (by first | omega | (simp; omega)) (by exact sl_k k r 10) ?_
        refine wI_mov (.t (.there rfl (.there rfl (.there rfl (.there rfl (.here)))))) ?_
        refine wI_mov (.t (.there rfl (.there rfl (.there rfl (.there rfl (.there rfl (.there rfl (.there rfl (.here))))))))) ?_
        first | refine wI_add (.t (.here)) .c aWRAP ?_ | refine wI_sadd (.t (.here)) .c (by (simp only [List.length_append, List.length_take, List.length_drop, List.length_cons, List.length_nil] at *; omega)) ?_
        refine wI_indexStr (m := k.length + 10) (c := r.getD 10 0) (.t (.there rfl (.there rfl (.here)))) (.t (.here)) aOM (idx_kr aOM) ?_
        refine wI_call (.cons (.t (.there rfl (.there rfl (.there rfl (.there rfl (.here)))))) .nil) (s107 hM (form_vals hup hf) (by simp; omega)) ?_
        rintro _ _ ⟨rfl, heq20⟩
        obtain rfl := heq20.symm
        refine wI_neI (.t (.here)) (.t (.there rfl (.here))) ?_
        refine wI_end (.cons (.there rfl (.there rfl (.there rfl (.there rfl (.there rfl (.there rfl (.there rfl (.there rfl (.there rfl (.there rfl (.there rfl (.here)))))))))))) (.cons (.there rfl (.there rfl (.there rfl (.there rfl (.there rfl (.there rfl (.there rfl (.there rfl (.there rfl (.there rfl (.there rfl (.there rfl (.there rfl (.here)))))))))))))) (.cons (.here) .nil))) ?_
        refine wC_if (.t (.there rfl (.there rfl (.here)))) (fun c21 => ?_) (fun c21 => ?_)
        · -- c21 True
          refine wpC_seq ?_
          refine wC_ops ?_
          refine wI_build .nil ?_
          first | refine wI_storeA (.t (.there rfl (.here))) (.t (.here)) aGET rfl aBOX aRC ?_ | refine wI_store1 (.t (.there rfl (.here))) (.t (.here)) aGET aONE aRC ?_
          refine wI_mov .c ?_
          refine wI_end (.cons (.there rfl (.there rfl (.here))) (.cons (.here) .nil)) ?_
          refine wpC_ret (retCT (.here) aGET aRC (.there rfl (.here)) ?_)
          have e := parse_12 ⟨h14, hf⟩ hw (fun z => by have z2 := congrArg UInt8.toNat z; exact aNO)
          exact ⟨by rw [e.1, e.2]; rfl, aSUB⟩
        · -- c21 False
          refine wpC_skip ?_
          refine wpC_seq ?_
          refine wC_ops ?_
          refine wI_loadT (.t (.there rfl (.here))) aGET aRC ?_
          first | refine wI_storeA (.t (.there rfl (.here))) (.t (.here)) aGET rfl aBOX aRC ?_ | refine wI_store1 (.t (.there rfl (.here))) (.t (.here)) aGET aONE aRC ?_
          refine wI_mov .c ?_
          refine wI_end (.cons (.there rfl (.there rfl (.here))) (.cons (.here) .nil)) ?_
          refine wpC_ret (retCT (.here) aGET aRC (.there rfl (.here)) ?_)
          have e := parse_0 ⟨h14, hf⟩ hw (UInt8.toNat_inj.1 (by exact aNO))
          exact ⟨by rw [e.1, e.2]; rfl, aSUB⟩
end Wk
