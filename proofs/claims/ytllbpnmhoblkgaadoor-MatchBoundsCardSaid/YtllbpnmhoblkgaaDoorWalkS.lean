/- A part of the proof: WalkS. It holds for whatever its statements name; no condition beyond theirs. -/
import Derived.Test.YtllbpnmhoblkgaaDoorWalkA
import Derived.Test.YtllbpnmhoblkgaaDoorSpB
import Derived.Test.YtllbpnmhoblkgaaDoorCodeS
namespace Wk
open Go Am DC Sp
variable {T : Tab} {H0 : AH}

theorem s75 (hS : Ext fnsS T) {s : Nat} (hs : s < 4294967296) (i : Nat) :
    wpF T (.fn 75 []) [.int .u32 s, .int .i64 i] H0 (fun r H => r = .bool (s.testBit i) ∧ H = H0) := by
  refine wF hS (af := A75) rfl ?_
  refine wpC_seq ?_
  refine wC_ops ?_
  refine wI_mov .c ?_
  refine wI_end (.cons (.there rfl (.here)) (.cons (.there rfl (.there rfl (.here))) .nil)) ?_
  refine wpC_seq ?_
  refine wC_ops ?_
  refine wI_mov (.t (.here)) ?_
  refine wI_mov (.t (.there rfl (.there rfl (.here)))) ?_
  refine wI_sshr (.t (.there rfl (.here))) (.t (.here)) ?_
  refine wI_sand (.t (.here)) .c (Nat.lt_of_le_of_lt (by rw [Nat.shiftRight_eq_div_pow]; exact Nat.div_le_self _ _) hs) (by decide) ?_
  refine wI_eqI (.t (.here)) .c ?_
  refine wI_mov (.t (.here)) ?_
  refine wI_end (.cons (.here) .nil) ?_
  refine wpC_ret (ret1 (.here) ?_)
  exact ⟨congrArg AV.bool (has_eq hs), rfl⟩

theorem s77 (hS : Ext fnsS T) {v : AV} {l : List Int} (hv : Ints H0 v l) (hl : l.length ≤ 100) (hr : ∀ i, i < l.length → 0 ≤ l.getD i 0 ∧ l.getD i 0 < 32) :
    wpF T (.fn 77 []) [v] H0 (fun r H => (∃ s : Nat, r = .int .u32 s ∧ s < 4294967296 ∧ ∀ i, s.testBit i = decide ((i : Int) ∈ l)) ∧ H0.Sub H) := by
  refine wF hS (af := A77) rfl ?_
  refine wpC_seq ?_
  refine wC_ops ?_
  refine wI_mov .c ?_
  refine wI_end (.cons (.there rfl (.here)) .nil) ?_
  refine wpC_seq ?_
  refine wC_ops ?_
  refine wI_mov .c ?_
  refine wI_end (.cons (.there rfl (.here)) (.cons (.here) .nil)) ?_
  refine wpC_seq ?_
  refine wpC_seq ?_
  refine wC_ops ?_
  refine wI_mov (.t (.here)) ?_
  refine wI_lenSl (.t (.here)) aLEN ?_
  refine wI_mov .c ?_
  refine wI_end (.cons (.there rfl (.there rfl (.there rfl (.there rfl (.here))))) (.cons (.there rfl (.there rfl (.here))) (.cons (.there rfl (.here)) (.cons (.here) .nil)))) ?_
  refine wpC_block ?_
  refine wC_loop (α := Nat × Nat) (fun (k, s) => [(3, .int .u32 s), (6, v), (7, .int .i64 l.length), (8, .int .i64 k)]) (fun (k, s) H => H0.Sub H ∧ k ≤ l.length ∧ s < 4294967296 ∧ ∀ i, s.testBit i = decide ((i : Int) ∈ l.take k)) (fun (k, s) => l.length - k) (0, 0) (.cons (.here) (.cons (.there rfl (.here)) (.cons (.there rfl (.there rfl (.here))) (.cons (.there rfl (.there rfl (.there rfl (.here)))) .nil)))) ?_ ?_
  · exact ⟨aSUB, by omega, by decide, fun i => by simp⟩
  rintro ⟨k, s⟩ H1 ⟨hs, hk, hs32, hbit⟩
  have hsn := hs.next
  refine wpC_seq ?_
  refine wC_ops ?_
  refine wI_lss (.t (.there rfl (.there rfl (.there rfl (.here))))) (.t (.there rfl (.there rfl (.here)))) ?_
  refine wI_end (.cons (.there rfl (.here)) (.cons (.there rfl (.there rfl (.here))) (.cons (.there rfl (.there rfl (.there rfl (.here)))) (.cons (.there rfl (.there rfl (.there rfl (.there rfl (.here))))) (.cons (.here) .nil))))) ?_
  refine wpC_seq ?_
  refine wC_if (.t (.there rfl (.there rfl (.there rfl (.there rfl (.here)))))) (fun c1 => ?_) (fun c1 => ?_)
  · -- c1 True
    refine wpC_skip ?_
    refine wpC_seq ?_
    refine wpC_block ?_
    refine wpC_seq ?_
    refine wC_ops ?_
    first | refine wI_ixInts (.t (.there rfl (.here))) aATI (.t (.there rfl (.there rfl (.there rfl (.here))))) rfl aOM (fun b2 o2 p2 => ?_) | refine wI_ixVals (.t (.there rfl (.here))) aATI (.t (.there rfl (.there rfl (.there rfl (.here))))) rfl aOM (fun b2 o2 p2 => ?_) | refine wI_ixBools (.t (.there rfl (.here))) aATI (.t (.there rfl (.there rfl (.there rfl (.here))))) rfl aOM (fun b2 o2 p2 => ?_)
    refine wI_ldc1 0 (.t (.here)) (by first | exact p2 | exact Cells.mono p2 aSUB) rfl ?_
    refine wI_mov (.t (.here)) ?_
    refine wI_end (.cons (.there rfl (.there rfl (.there rfl (.here)))) (.cons (.here) (.cons (.there rfl (.there rfl (.there rfl (.there rfl (.here))))) (.cons (.there rfl (.there rfl (.there rfl (.there rfl (.there rfl (.here)))))) (.cons (.there rfl (.there rfl (.there rfl (.there rfl (.there rfl (.there rfl (.here))))))) .nil))))) ?_
    refine wC_ops ?_
    obtain ⟨q, hqe, hq⟩ : ∃ q : Nat, l.getD k 0 = (q : Int) ∧ q < 32 := ⟨(l.getD k 0).toNat, by have := hr k aOM; omega, by have := hr k aOM; omega⟩
    refine wI_mov (.t (.here)) ?_
    refine wI_mov (.t (.there rfl (.there rfl (.here)))) ?_
    rw [hqe]
    refine wI_bit (.t (.here)) hq ?_
    refine wI_sor (.t (.there rfl (.there rfl (.here)))) (.t (.here)) hs32 (show 2 ^ q < 4294967296 from Nat.pow_lt_pow_right (a := 2) (n := 32) (by decide) hq) ?_
    refine wI_mov (.t (.here)) ?_
    refine wI_end (.cons (.here) (.cons (.there rfl (.there rfl (.there rfl (.there rfl (.there rfl (.there rfl (.there rfl (.here)))))))) (.cons (.there rfl (.there rfl (.there rfl (.there rfl (.there rfl (.there rfl (.there rfl (.there rfl (.here))))))))) (.cons (.there rfl (.there rfl (.there rfl (.there rfl (.there rfl (.there rfl (.there rfl (.there rfl (.there rfl (.here)))))))))) .nil)))) ?_
    refine wC_ops ?_
    refine wI_add (.t (.there rfl (.there rfl (.there rfl (.here))))) .c (wrap64 aOM) ?_
    refine wI_mov (.t (.here)) ?_
    refine wI_end (.cons (.there rfl (.there rfl (.here))) (.cons (.there rfl (.there rfl (.there rfl (.here)))) (.cons (.there rfl (.there rfl (.there rfl (.there rfl (.here))))) (.cons (.here) .nil)))) ?_
    refine ⟨(k + 1, s ||| 2 ^ q), (.cons (.here) (.cons (.there rfl (.here)) (.cons (.there rfl (.there rfl (.here))) (.cons (.there rfl (.there rfl (.there rfl (.here)))) .nil)))), ?_, ?_⟩
    · refine ⟨aSUB, by omega, Nat.or_lt_two_pow (n := 32) hs32 (show 2 ^ q < 2 ^ 32 from Nat.pow_lt_pow_right (by decide) hq), fun i => ?_⟩
      rw [Nat.testBit_or, hbit, Nat.testBit_two_pow, List.take_add_one, show l[k]? = some (q : Int) by rw [← hqe]; simp [show k < l.length by omega]]
      by_cases c : q = i
      · subst c; simp
      · have : ¬ ((i : Int) = (q : Int)) := by omega
        simp [c, this]
    · (first | omega | (simp only []; omega))
  · -- c1 False
    refine wpC_exit ?_
    refine wpC_seq ?_
    refine wC_ops ?_
    refine wI_mov (.t (.here)) ?_
    refine wI_mov (.t (.here)) ?_
    refine wI_end (.cons (.here) .nil) ?_
    refine wpC_ret (ret1 (.here) ?_)
    exact ⟨⟨s, rfl, hs32, fun i => by rw [hbit, List.take_of_length_le aOM]⟩, aSUB⟩

theorem s78 (hS : Ext fnsS T) (s : Nat) :
    wpF T (.fn 78 []) [.int .u32 s] H0 (fun r H => (∃ b, r = .fn 116 [.ptr b 0] ∧ H0.next ≤ b ∧ H.get b = some (.cells [.int .u32 s] true)) ∧ H0.Sub H) := by
  refine wF hS (af := A78) rfl ?_
  refine wpC_seq ?_
  refine wC_ops ?_
  refine wI_box (.t (.here)) aBOX ?_
  refine wI_mov .c ?_
  refine wI_end (.cons (.there rfl (.here)) .nil) ?_
  refine wpC_seq ?_
  refine wC_ops ?_
  refine wI_makeFn (.cons (.t (.here)) .nil) ?_
  refine wI_mov (.t (.here)) ?_
  refine wI_end (.cons (.here) .nil) ?_
  refine wpC_ret (ret1 (.here) ?_)
  exact ⟨⟨_, rfl, Nat.le_refl _, aGET⟩, aSUB⟩

theorem skips116 {s : Nat} {Inv : Nat → AH → Prop} (skip : ∀ i H, i < 32 → s.testBit i = false → Inv i H → Inv (i + 1) H) {i : Nat} {H : AH} (hb : ∀ j, i ≤ j → s.testBit j = false) (hi : i ≤ 32) (h : Inv i H) : Inv 32 H := by
  have key : ∀ k, i + k ≤ 32 → Inv (i + k) H := by
    intro k
    induction k with
    | zero => intro _; exact h
    | succ k ih => intro hk; exact skip (i + k) H (by omega) (hb _ (by omega)) (ih (by omega))
  have := key (32 - i) (by omega)
  rwa [show i + (32 - i) = 32 by omega] at this
theorem s116 (hS : Ext fnsS T) {s l bx : Nat} (hs : s < 4294967296) {fn : FuncId} {e : Env} {ps : List Nat} {asg body : ACode} (hl : H0.get l = some (.loop ⟨.ready, none, fn, e, ps, asg, body⟩)) (hbx : H0.get bx = some (.cells [.int .u32 s] true)) (Inv : Nat → AH → Prop) (D : Out → AH → Prop) (h0 : Inv 0 H0)
    (skip : ∀ i H, i < 32 → s.testBit i = false → Inv i H → Inv (i + 1) H)
    (step : ∀ i H, i < 32 → s.testBit i = true → Inv i H → H.get l = some (.loop ⟨.ready, none, fn, e, ps, asg, body⟩) → H.get bx = some (.cells [.int .u32 s] true) → wpF T (.yield l) [.int .i64 i] H fun v H' => ∃ t, v = .bool t ∧ H'.get bx = some (.cells [.int .u32 s] true) ∧ (t = true → H'.get l = some (.loop ⟨.ready, none, fn, e, ps, asg, body⟩) ∧ Inv (i + 1) H') ∧ (t = false → ∃ o, H'.get l = some (.loop ⟨.done, some o, fn, e, ps, asg, body⟩) ∧ D o H')) :
    wpF T (.fn 116 [.ptr bx 0]) [.yield l] H0 (fun r H => (H.get l = some (.loop ⟨.ready, none, fn, e, ps, asg, body⟩) ∧ Inv 32 H) ∨ ∃ o, H.get l = some (.loop ⟨.done, some o, fn, e, ps, asg, body⟩) ∧ D o H) := by
  refine wF hS (af := A116) rfl ?_
  refine wpC_seq ?_
  refine wC_ops ?_
  refine wI_mov .c ?_
  refine wI_end (.cons (.there rfl (.here)) (.cons (.there rfl (.there rfl (.here))) (.cons (.here) .nil))) ?_
  refine wpC_block ?_
  refine wC_loop (α := Nat) (fun i => [(0, .yield l), (1, .ptr bx 0), (3, .int .i64 i)]) (fun i H => H.get l = some (.loop ⟨.ready, none, fn, e, ps, asg, body⟩) ∧ H.get bx = some (.cells [.int .u32 s] true) ∧ Inv i H ∧ i ≤ 32) (fun i => 32 - i) 0 (.cons (.here) (.cons (.there rfl (.here)) (.cons (.there rfl (.there rfl (.here))) .nil))) ?_ ?_
  · exact ⟨hl, hbx, h0, by omega⟩
  rintro i H1 ⟨hl1, hb1, hI1, hi⟩
  refine wpC_seq ?_
  refine wpC_seq ?_
  refine wC_ops ?_
  refine wI_load1 (.t (.there rfl (.here))) aGET rfl ?_
  refine wI_mov (.t (.there rfl (.there rfl (.there rfl (.here))))) ?_
  refine wI_sshr (.t (.there rfl (.here))) (.t (.here)) ?_
  refine wI_gtr (.t (.here)) .c ?_
  refine wI_end (.cons (.there rfl (.there rfl (.there rfl (.there rfl (.here))))) (.cons (.there rfl (.there rfl (.there rfl (.there rfl (.there rfl (.here)))))) (.cons (.there rfl (.there rfl (.there rfl (.there rfl (.there rfl (.there rfl (.here))))))) (.cons (.here) .nil)))) ?_
  refine wC_if (.t (.there rfl (.there rfl (.there rfl (.here))))) (fun c1 => ?_) (fun c1 => ?_)
  · -- c1 True
    have hi2 : i < 32 := shr_lt hs (by assumption)
    refine wpC_skip ?_
    refine wpC_seq ?_
    refine wpC_block ?_
    refine wpC_seq ?_
    refine wC_ops ?_
    refine wI_load1 (.t (.there rfl (.here))) aGET rfl ?_
    refine wI_mov (.t (.there rfl (.there rfl (.there rfl (.here))))) ?_
    refine wI_call (.cons (.t (.there rfl (.here))) (.cons (.t (.here)) .nil)) (s75 hS (by assumption) _) ?_
    rintro _ _ ⟨rfl, heq2⟩
    obtain rfl := heq2.symm
    refine wI_mov (.t (.here)) ?_
    refine wI_gdT (.here) (fun g3 => ?_) (fun g3 => ?_)
    · -- g3 True
      refine wI_mov (.t (.there rfl (.there rfl (.there rfl (.there rfl (.here)))))) ?_
      refine wI_yes (.there rfl (.here)) g3 ?_
      refine wI_mov (.t (.there rfl (.there rfl (.there rfl (.there rfl (.there rfl (.there rfl (.there rfl (.here))))))))) ?_
      refine wI_yes (.there rfl (.there rfl (.here))) g3 ?_
      refine wI_callv (.t (.there rfl (.here))) (.cons (.t (.here)) .nil) (step i H1 hi2 (by assumption) hI1 hl1 hb1) ?_
      rintro _ H2 ⟨t, rfl, hb2, ht, hf⟩
      refine wI_yes (.there rfl (.there rfl (.there rfl (.here)))) g3 ?_
      refine wI_not (.t (.here)) ?_
      refine wI_pickT (.t (.there rfl (.there rfl (.there rfl (.there rfl (.here)))))) g3 (.t (.here)) ?_
      refine wI_end (.cons (.there rfl (.there rfl (.there rfl (.there rfl (.there rfl (.there rfl (.there rfl (.there rfl (.there rfl (.here)))))))))) (.cons (.there rfl (.there rfl (.there rfl (.there rfl (.there rfl (.there rfl (.there rfl (.there rfl (.there rfl (.there rfl (.here))))))))))) (.cons (.there rfl (.there rfl (.there rfl (.there rfl (.there rfl (.there rfl (.there rfl (.there rfl (.there rfl (.there rfl (.there rfl (.here)))))))))))) (.cons (.here) .nil)))) ?_
      refine wC_cond (.t (.there rfl (.there rfl (.there rfl (.here))))) (fun c5 => ?_) (fun c5 => ?_)
      · -- c5 True
        refine wpC_ret (ret0 ?_)
        first | exact .inr (hf (by simpa using ‹(!t) = true›)) | exact .inl ⟨hl1, skips116 skip (shr_pos hs (nat_zero_of (by assumption))) hi hI1⟩
      · -- c5 False
        refine wpC_skip ?_
        refine wC_ops ?_
        refine wI_mov (.t (.there rfl (.there rfl (.here)))) ?_
        refine wI_add (.t (.here)) .c (wrap64 aOM) ?_
        refine wI_mov (.t (.here)) ?_
        refine wI_end (.cons (.there rfl (.there rfl (.there rfl (.here)))) (.cons (.there rfl (.there rfl (.there rfl (.there rfl (.here))))) (.cons (.here) .nil))) ?_
        refine ⟨i + 1, (.cons (.here) (.cons (.there rfl (.here)) (.cons (.there rfl (.there rfl (.here))) .nil))), ?_, ?_⟩
        · first | exact ⟨(ht (by simpa using ‹¬ (!t) = true›)).1, hb2, (ht (by simpa using ‹¬ (!t) = true›)).2, by omega⟩ | exact ⟨(ht (by simpa using ‹(!t) = false›)).1, hb2, (ht (by simpa using ‹(!t) = false›)).2, by omega⟩ | exact ⟨hl1, hb1, skip i _ hi2 (by assumption) hI1, by omega⟩
        · (first | omega | (simp only []; omega))
    · -- g3 False
      refine wI_no (.there rfl (.here)) (by rw [g3]; decide) ?_
      refine wI_no (.there rfl (.there rfl (.here))) (by rw [g3]; decide) ?_
      refine wI_no (.there rfl (.there rfl (.there rfl (.here)))) (by rw [g3]; decide) ?_
      refine wI_pickF (.t (.there rfl (.there rfl (.there rfl (.there rfl (.here)))))) g3 .c ?_
      refine wI_end (.cons (.there rfl (.there rfl (.there rfl (.there rfl (.there rfl (.there rfl (.there rfl (.there rfl (.there rfl (.here)))))))))) (.cons (.there rfl (.there rfl (.there rfl (.there rfl (.there rfl (.there rfl (.there rfl (.there rfl (.there rfl (.there rfl (.here))))))))))) (.cons (.there rfl (.there rfl (.there rfl (.there rfl (.there rfl (.there rfl (.there rfl (.there rfl (.there rfl (.there rfl (.there rfl (.here)))))))))))) (.cons (.here) .nil)))) ?_
      refine wC_condF (.t (.there rfl (.there rfl (.there rfl (.here))))) rfl ?_
      refine wpC_skip ?_
      refine wC_ops ?_
      refine wI_mov (.t (.there rfl (.there rfl (.here)))) ?_
      refine wI_add (.t (.here)) .c (wrap64 aOM) ?_
      refine wI_mov (.t (.here)) ?_
      refine wI_end (.cons (.there rfl (.there rfl (.there rfl (.here)))) (.cons (.there rfl (.there rfl (.there rfl (.there rfl (.here))))) (.cons (.here) .nil))) ?_
      refine ⟨i + 1, (.cons (.here) (.cons (.there rfl (.here)) (.cons (.there rfl (.there rfl (.here))) .nil))), ?_, ?_⟩
      · first | exact ⟨(ht (by simpa using ‹¬ (!t) = true›)).1, hb2, (ht (by simpa using ‹¬ (!t) = true›)).2, by omega⟩ | exact ⟨(ht (by simpa using ‹(!t) = false›)).1, hb2, (ht (by simpa using ‹(!t) = false›)).2, by omega⟩ | exact ⟨hl1, hb1, skip i _ hi2 (by assumption) hI1, by omega⟩
      · (first | omega | (simp only []; omega))
  · -- c1 False
    refine wpC_exit ?_
    refine nret0 ?_
    first | exact .inr (hf (by simpa using ‹(!t) = true›)) | exact .inl ⟨hl1, skips116 skip (shr_pos hs (nat_zero_of (by assumption))) hi hI1⟩

theorem s73 (hT : Ext fns1 T) (hS : Ext fnsS T) {a b : AV} {t : List Int} {I : List (List Rng)} {vs : List AV} (hS0 : SortAt H0 a b t I vs) (hok : Ok t I) :
    wpF T (.fn 73 []) [.agg [a, b]] H0 (fun r H => ∃ u N, r = .ptr (H0.next + 3) 0 ∧ H.get (H0.next + 3) = some (.cells [.int .i64 I.length, u, .map (H0.next + 1), .map (H0.next + 2)] true) ∧ OwnS H u 1 (cSets N) ∧ (∀ c, c ∈ u.blocks → H0.next + 4 ≤ c) ∧ N.length = I.length ∧ (∀ i, i < N.length → N.getD i 0 < 4294967296 ∧ ∀ j, (N.getD i 0).testBit j = (decide (j < I.length) && alike t I i j)) ∧ H.get (H0.next + 1) = some (.map [] 0) ∧ H.get (H0.next + 2) = some (.map [] 0) ∧ H0.Sub H) := by
  refine wF hS (af := A73) rfl ?_
  obtain ⟨ht, hv, hn, hI, hm1, hm2, hm3⟩ := id hS0
  have hbl : LenOf b I.length := hn ▸ hv.len
  have hil := hok.il
  refine wpC_seq ?_
  refine wC_ops ?_
  refine wI_box (.t (.here)) aBOX ?_
  refine wI_mov .c ?_
  refine wI_end (.cons (.there rfl (.here)) .nil) ?_
  refine wpC_seq ?_
  refine wC_ops ?_
  refine wI_fieldAddr (.t (.here)) ?_
  refine wI_load1 (.t (.here)) aGET rfl ?_
  refine wI_lenSl (.t (.here)) aLEN ?_
  refine wI_makeMap ?_
  refine wI_makeMap ?_
  refine wI_build (.one (.t (.there rfl (.there rfl (.here)))) aONE aRC (.one (.t (.there rfl (.here))) aONE aRC (.one (.t (.here)) aONE aRC .nil))) ?_
  refine wI_box (.t (.here)) aBOX ?_
  refine wI_mov (.t (.here)) ?_
  refine wI_end (.cons (.there rfl (.there rfl (.there rfl (.there rfl (.there rfl (.there rfl (.there rfl (.there rfl (.here))))))))) (.cons (.here) .nil)) ?_
  refine wpC_seq ?_
  refine wpC_seq ?_
  refine wC_ops ?_
  refine wI_mov (.t (.there rfl (.here))) ?_
  refine wI_nilCheck (.t (.here)) ?_
  refine wI_fieldAddr (.t (.here)) ?_
  refine wI_load1 (.t (.here)) aGET rfl ?_
  refine wI_mov .c ?_
  refine wI_end (.cons (.there rfl (.there rfl (.there rfl (.there rfl (.there rfl (.here)))))) (.cons (.there rfl (.there rfl (.there rfl (.there rfl (.there rfl (.there rfl (.here))))))) (.cons (.there rfl (.here)) (.cons (.here) .nil)))) ?_
  refine wpC_block ?_
  refine wC_loop (α := Nat) (fun i => [(1, .ptr H0.next 0), (3, .ptr (H0.next + 3) 0), (17, .int .i64 I.length), (18, .int .i64 i)]) (fun i H => H0.Sub H ∧ H.get H0.next = some (.cells [a, b] true) ∧ H.get (H0.next + 1) = some (.map [] 0) ∧ H.get (H0.next + 2) = some (.map [] 0) ∧ i ≤ I.length ∧ ∃ u N, H.get (H0.next + 3) = some (.cells [.int .i64 I.length, u, .map (H0.next + 1), .map (H0.next + 2)] true) ∧ OwnS H u 1 (cSets N) ∧ (∀ c, c ∈ u.blocks → H0.next + 4 ≤ c) ∧ N.length = i ∧ (∀ i, i < N.length → N.getD i 0 < 4294967296 ∧ ∀ j, (N.getD i 0).testBit j = (decide (j < I.length) && alike t I i j))) (fun i => I.length - i) 0 (.cons (.here) (.cons (.there rfl (.here)) (.cons (.there rfl (.there rfl (.here))) (.cons (.there rfl (.there rfl (.there rfl (.here)))) .nil)))) ?_ ?_
  · exact ⟨aSUB, aGET, aGET, aGET, by omega, .nils, [], aGET, OwnS.nils _ _, fun c hc => by simp [AV.blocks] at hc, rfl, fun i hi => by simp at hi⟩
  rintro i H1 ⟨hs, g0, g1, g2, hi, u, N, g3, hu, hub, hNl, hN⟩
  have hsn := hs.next
  have hg3 := AH.get_lt g3
  have hul : LenOf u N.length := hu.len (by decide) (by simp)
  refine wpC_seq ?_
  refine wC_ops ?_
  refine wI_lss (.t (.there rfl (.there rfl (.there rfl (.here))))) (.t (.there rfl (.there rfl (.here)))) ?_
  refine wI_end (.cons (.there rfl (.here)) (.cons (.there rfl (.there rfl (.here))) (.cons (.there rfl (.there rfl (.there rfl (.here)))) (.cons (.there rfl (.there rfl (.there rfl (.there rfl (.here))))) (.cons (.here) .nil))))) ?_
  refine wpC_seq ?_
  refine wC_if (.t (.there rfl (.there rfl (.there rfl (.there rfl (.here)))))) (fun c1 => ?_) (fun c1 => ?_)
  · -- c1 True
    refine wpC_skip ?_
    refine wpC_seq ?_
    refine wpC_block ?_
    refine wpC_seq ?_
    refine wC_ops ?_
    refine wI_mov (.t (.there rfl (.there rfl (.there rfl (.here))))) ?_
    refine wI_mov (.t (.here)) ?_
    refine wI_end (.cons (.there rfl (.there rfl (.here))) (.cons (.there rfl (.there rfl (.there rfl (.here)))) (.cons (.here) (.cons (.there rfl (.there rfl (.there rfl (.there rfl (.here))))) (.cons (.there rfl (.there rfl (.there rfl (.there rfl (.there rfl (.here)))))) .nil))))) ?_
    refine wpC_seq ?_
    refine wC_ops ?_
    refine wI_mov .c ?_
    refine wI_end (.cons (.there rfl (.here)) (.cons (.there rfl (.there rfl (.here))) (.cons (.there rfl (.there rfl (.there rfl (.here)))) (.cons (.here) (.cons (.there rfl (.there rfl (.there rfl (.there rfl (.here))))) (.cons (.there rfl (.there rfl (.there rfl (.there rfl (.there rfl (.here)))))) .nil)))))) ?_
    refine wpC_seq ?_
    refine wpC_seq ?_
    refine wC_ops ?_
    refine wI_mov (.t (.there rfl (.here))) ?_
    refine wI_nilCheck (.t (.here)) ?_
    refine wI_fieldAddr (.t (.here)) ?_
    refine wI_load1 (.t (.here)) aGET rfl ?_
    refine wI_mov .c ?_
    refine wI_end (.cons (.there rfl (.there rfl (.there rfl (.there rfl (.there rfl (.here)))))) (.cons (.there rfl (.there rfl (.there rfl (.there rfl (.there rfl (.there rfl (.here))))))) (.cons (.there rfl (.there rfl (.there rfl (.there rfl (.there rfl (.there rfl (.there rfl (.here)))))))) (.cons (.there rfl (.there rfl (.there rfl (.there rfl (.there rfl (.there rfl (.there rfl (.there rfl (.here))))))))) (.cons (.there rfl (.there rfl (.there rfl (.there rfl (.there rfl (.there rfl (.there rfl (.there rfl (.there rfl (.here)))))))))) (.cons (.there rfl (.there rfl (.there rfl (.there rfl (.there rfl (.there rfl (.there rfl (.there rfl (.there rfl (.there rfl (.here))))))))))) (.cons (.there rfl (.here)) (.cons (.here) .nil)))))))) ?_
    refine wpC_block ?_
    refine wC_loop (α := Nat × Nat) (fun (k, x) => [(1, .ptr H0.next 0), (3, .ptr (H0.next + 3) 0), (4, .int .i64 i), (5, .int .u32 x), (17, .int .i64 I.length), (18, .int .i64 i), (24, .int .i64 I.length), (25, .int .i64 k)]) (fun (k, x) H => H1.Sub H ∧ k ≤ I.length ∧ x < 4294967296 ∧ ∀ q, x.testBit q = (decide (q < k) && alike t I i q)) (fun (k, x) => I.length - k) (0, 0) (.cons (.here) (.cons (.there rfl (.here)) (.cons (.there rfl (.there rfl (.here))) (.cons (.there rfl (.there rfl (.there rfl (.here)))) (.cons (.there rfl (.there rfl (.there rfl (.there rfl (.here))))) (.cons (.there rfl (.there rfl (.there rfl (.there rfl (.there rfl (.here)))))) (.cons (.there rfl (.there rfl (.there rfl (.there rfl (.there rfl (.there rfl (.here))))))) (.cons (.there rfl (.there rfl (.there rfl (.there rfl (.there rfl (.there rfl (.there rfl (.here)))))))) .nil)))))))) ?_ ?_
    · exact ⟨aSUB, by omega, by decide, fun q => by simp⟩
    rintro ⟨k, x⟩ H2 ⟨hs2, hk, hx, hxb⟩
    have hsn2 := hs2.next
    refine wpC_seq ?_
    refine wC_ops ?_
    refine wI_lss (.t (.there rfl (.there rfl (.there rfl (.there rfl (.there rfl (.there rfl (.there rfl (.here))))))))) (.t (.there rfl (.there rfl (.there rfl (.there rfl (.there rfl (.there rfl (.here)))))))) ?_
    refine wI_end (.cons (.there rfl (.here)) (.cons (.there rfl (.there rfl (.here))) (.cons (.there rfl (.there rfl (.there rfl (.here)))) (.cons (.there rfl (.there rfl (.there rfl (.there rfl (.here))))) (.cons (.there rfl (.there rfl (.there rfl (.there rfl (.there rfl (.here)))))) (.cons (.there rfl (.there rfl (.there rfl (.there rfl (.there rfl (.there rfl (.here))))))) (.cons (.there rfl (.there rfl (.there rfl (.there rfl (.there rfl (.there rfl (.there rfl (.here)))))))) (.cons (.there rfl (.there rfl (.there rfl (.there rfl (.there rfl (.there rfl (.there rfl (.there rfl (.here))))))))) (.cons (.here) .nil))))))))) ?_
    refine wpC_seq ?_
    refine wC_if (.t (.there rfl (.there rfl (.there rfl (.there rfl (.there rfl (.there rfl (.there rfl (.there rfl (.here)))))))))) (fun c2 => ?_) (fun c2 => ?_)
    · -- c2 True
      refine wpC_skip ?_
      refine wpC_seq ?_
      refine wpC_block ?_
      refine wpC_seq ?_
      refine wC_ops ?_
      refine wI_mov (.t (.there rfl (.there rfl (.there rfl (.there rfl (.there rfl (.there rfl (.there rfl (.here))))))))) ?_
      refine wI_mov (.t (.here)) ?_
      refine wI_end (.cons (.there rfl (.there rfl (.here))) (.cons (.there rfl (.there rfl (.there rfl (.here)))) (.cons (.there rfl (.there rfl (.there rfl (.there rfl (.here))))) (.cons (.there rfl (.there rfl (.there rfl (.there rfl (.there rfl (.here)))))) (.cons (.here) (.cons (.there rfl (.there rfl (.there rfl (.there rfl (.there rfl (.there rfl (.here))))))) (.cons (.there rfl (.there rfl (.there rfl (.there rfl (.there rfl (.there rfl (.there rfl (.here)))))))) (.cons (.there rfl (.there rfl (.there rfl (.there rfl (.there rfl (.there rfl (.there rfl (.there rfl (.here))))))))) (.cons (.there rfl (.there rfl (.there rfl (.there rfl (.there rfl (.there rfl (.there rfl (.there rfl (.there rfl (.here)))))))))) .nil))))))))) ?_
      refine wpC_seq ?_
      refine wC_ops ?_
      refine wI_loadT (.t (.here)) aGET aRC ?_
      refine wI_mov (.t (.there rfl (.there rfl (.there rfl (.here))))) ?_
      refine wI_mov (.t (.there rfl (.there rfl (.there rfl (.there rfl (.there rfl (.there rfl (.here)))))))) ?_
      refine wI_call (.cons (.t (.there rfl (.there rfl (.here)))) (.cons (.t (.there rfl (.here))) (.cons (.t (.here)) .nil))) (s71 hT (hS0.mono aSUB) hok _ _ aOM aOM) ?_
      rintro _ H3 ⟨rfl, hs3⟩
      have hsn3 := hs3.next
      refine wI_end (.cons (.there rfl (.there rfl (.there rfl (.there rfl (.here))))) (.cons (.there rfl (.there rfl (.there rfl (.there rfl (.there rfl (.here)))))) (.cons (.there rfl (.there rfl (.there rfl (.there rfl (.there rfl (.there rfl (.here))))))) (.cons (.there rfl (.there rfl (.there rfl (.there rfl (.there rfl (.there rfl (.there rfl (.here)))))))) (.cons (.there rfl (.there rfl (.there rfl (.there rfl (.there rfl (.there rfl (.there rfl (.there rfl (.here))))))))) (.cons (.there rfl (.there rfl (.there rfl (.there rfl (.there rfl (.there rfl (.there rfl (.there rfl (.there rfl (.here)))))))))) (.cons (.there rfl (.there rfl (.there rfl (.there rfl (.there rfl (.there rfl (.there rfl (.there rfl (.there rfl (.there rfl (.here))))))))))) (.cons (.there rfl (.there rfl (.there rfl (.there rfl (.there rfl (.there rfl (.there rfl (.there rfl (.there rfl (.there rfl (.there rfl (.here)))))))))))) (.cons (.there rfl (.there rfl (.there rfl (.there rfl (.there rfl (.there rfl (.there rfl (.there rfl (.there rfl (.there rfl (.there rfl (.there rfl (.here))))))))))))) (.cons (.here) .nil)))))))))) ?_
      refine wC_cond (.t (.there rfl (.there rfl (.there rfl (.there rfl (.there rfl (.there rfl (.there rfl (.there rfl (.there rfl (.here))))))))))) (fun c4 => ?_) (fun c4 => ?_)
      · -- c4 True
        refine wC_ops ?_
        refine wI_mov (.t (.there rfl (.there rfl (.there rfl (.here))))) ?_
        refine wI_mov (.t (.there rfl (.there rfl (.there rfl (.there rfl (.there rfl (.here))))))) ?_
        refine wI_buildSlice (.one (.t (.here)) aONE rfl aRC .nil) ?_
        refine wI_call (.cons (.t (.here)) .nil) (s77 hS (l := [(k : Int)]) (At.of_get aGET rfl) (by simp) (fun i hi => by simp at hi; subst hi; simp; omega)) ?_
        rintro _ H5 ⟨⟨z, rfl, hz, hzb⟩, hs5⟩
        have hsn5 := hs5.next
        refine wI_sor (.t (.there rfl (.there rfl (.there rfl (.here))))) (.t (.here)) hx hz ?_
        refine wI_mov (.t (.here)) ?_
        refine wI_end (.cons (.there rfl (.there rfl (.there rfl (.there rfl (.there rfl (.there rfl (.here))))))) (.cons (.there rfl (.there rfl (.there rfl (.there rfl (.there rfl (.there rfl (.there rfl (.here)))))))) (.cons (.there rfl (.there rfl (.there rfl (.there rfl (.there rfl (.there rfl (.there rfl (.there rfl (.here))))))))) (.cons (.here) (.cons (.there rfl (.there rfl (.there rfl (.there rfl (.there rfl (.there rfl (.there rfl (.there rfl (.there rfl (.there rfl (.there rfl (.here)))))))))))) (.cons (.there rfl (.there rfl (.there rfl (.there rfl (.there rfl (.there rfl (.there rfl (.there rfl (.there rfl (.there rfl (.there rfl (.there rfl (.here))))))))))))) (.cons (.there rfl (.there rfl (.there rfl (.there rfl (.there rfl (.there rfl (.there rfl (.there rfl (.there rfl (.there rfl (.there rfl (.there rfl (.there rfl (.here)))))))))))))) (.cons (.there rfl (.there rfl (.there rfl (.there rfl (.there rfl (.there rfl (.there rfl (.there rfl (.there rfl (.there rfl (.there rfl (.there rfl (.there rfl (.there rfl (.here))))))))))))))) .nil)))))))) ?_
        refine wC_ops ?_
        refine wI_add (.t (.there rfl (.there rfl (.there rfl (.there rfl (.there rfl (.there rfl (.there rfl (.here))))))))) .c (wrap64 aOM) ?_
        refine wI_mov (.t (.here)) ?_
        refine wI_end (.cons (.there rfl (.there rfl (.here))) (.cons (.there rfl (.there rfl (.there rfl (.here)))) (.cons (.there rfl (.there rfl (.there rfl (.there rfl (.here))))) (.cons (.there rfl (.there rfl (.there rfl (.there rfl (.there rfl (.here)))))) (.cons (.there rfl (.there rfl (.there rfl (.there rfl (.there rfl (.there rfl (.here))))))) (.cons (.there rfl (.there rfl (.there rfl (.there rfl (.there rfl (.there rfl (.there rfl (.here)))))))) (.cons (.there rfl (.there rfl (.there rfl (.there rfl (.there rfl (.there rfl (.there rfl (.there rfl (.here))))))))) (.cons (.here) .nil)))))))) ?_
        refine ⟨(k + 1, x ||| z), (.cons (.here) (.cons (.there rfl (.here)) (.cons (.there rfl (.there rfl (.here))) (.cons (.there rfl (.there rfl (.there rfl (.here)))) (.cons (.there rfl (.there rfl (.there rfl (.there rfl (.here))))) (.cons (.there rfl (.there rfl (.there rfl (.there rfl (.there rfl (.here)))))) (.cons (.there rfl (.there rfl (.there rfl (.there rfl (.there rfl (.there rfl (.here))))))) (.cons (.there rfl (.there rfl (.there rfl (.there rfl (.there rfl (.there rfl (.there rfl (.here)))))))) .nil)))))))), ?_, ?_⟩
        · first
            | (refine ⟨aSUB, by omega, Nat.or_lt_two_pow (n := 32) hx hz, fun q => ?_⟩
               rw [Nat.testBit_or, hxb, hzb]
               by_cases c : q = k
               · subst c; simp_all
               · have h1 : decide (q < k + 1) = decide (q < k) := by (congr 1; simp; omega)
                 have h2 : decide ((q : Int) ∈ [(k : Int)]) = false := by simp; omega
                 rw [h1, h2]; simp)
            | (refine ⟨aSUB, by omega, hx, fun q => ?_⟩
               rw [hxb]
               by_cases c : q = k
               · subst c; simp_all
               · have h1 : decide (q < k + 1) = decide (q < k) := by (congr 1; simp; omega)
                 rw [h1])
        · (first | omega | (simp only []; omega))
      · -- c4 False
        refine wpC_skip ?_
        refine wC_ops ?_
        refine wI_add (.t (.there rfl (.there rfl (.there rfl (.there rfl (.there rfl (.there rfl (.there rfl (.there rfl (.here)))))))))) .c (wrap64 aOM) ?_
        refine wI_mov (.t (.here)) ?_
        refine wI_end (.cons (.there rfl (.there rfl (.here))) (.cons (.there rfl (.there rfl (.there rfl (.here)))) (.cons (.there rfl (.there rfl (.there rfl (.there rfl (.here))))) (.cons (.there rfl (.there rfl (.there rfl (.there rfl (.there rfl (.here)))))) (.cons (.there rfl (.there rfl (.there rfl (.there rfl (.there rfl (.there rfl (.there rfl (.here)))))))) (.cons (.there rfl (.there rfl (.there rfl (.there rfl (.there rfl (.there rfl (.there rfl (.there rfl (.here))))))))) (.cons (.there rfl (.there rfl (.there rfl (.there rfl (.there rfl (.there rfl (.there rfl (.there rfl (.there rfl (.here)))))))))) (.cons (.here) .nil)))))))) ?_
        refine ⟨(k + 1, x), (.cons (.here) (.cons (.there rfl (.here)) (.cons (.there rfl (.there rfl (.here))) (.cons (.there rfl (.there rfl (.there rfl (.here)))) (.cons (.there rfl (.there rfl (.there rfl (.there rfl (.here))))) (.cons (.there rfl (.there rfl (.there rfl (.there rfl (.there rfl (.here)))))) (.cons (.there rfl (.there rfl (.there rfl (.there rfl (.there rfl (.there rfl (.here))))))) (.cons (.there rfl (.there rfl (.there rfl (.there rfl (.there rfl (.there rfl (.there rfl (.here)))))))) .nil)))))))), ?_, ?_⟩
        · first
            | (refine ⟨aSUB, by omega, Nat.or_lt_two_pow (n := 32) hx hz, fun q => ?_⟩
               rw [Nat.testBit_or, hxb, hzb]
               by_cases c : q = k
               · subst c; simp_all
               · have h1 : decide (q < k + 1) = decide (q < k) := by (congr 1; simp; omega)
                 have h2 : decide ((q : Int) ∈ [(k : Int)]) = false := by simp; omega
                 rw [h1, h2]; simp)
            | (refine ⟨aSUB, by omega, hx, fun q => ?_⟩
               rw [hxb]
               by_cases c : q = k
               · subst c; simp_all
               · have h1 : decide (q < k + 1) = decide (q < k) := by (congr 1; simp; omega)
                 rw [h1])
        · (first | omega | (simp only []; omega))
    · -- c2 False
      refine wpC_exit ?_
      refine wC_ops ?_
      refine wI_mov (.t (.there rfl (.here))) ?_
      refine wI_mov (.t (.there rfl (.there rfl (.here)))) ?_
      refine wI_nilCheck (.t (.here)) ?_
      refine wI_fieldAddr (.t (.here)) ?_
      refine wI_load1 (.t (.here)) aGET rfl ?_
      refine wI_mov (.t (.there rfl (.there rfl (.there rfl (.there rfl (.there rfl (.there rfl (.there rfl (.there rfl (.here)))))))))) ?_
      refine wI_buildSlice (.one (.t (.here)) aONE rfl aRC .nil) ?_
      refine wI_append (.t (.there rfl (.there rfl (.here)))) (OwnS.keep hu (fun c x hc hx => by have h1 := hub c hc; have h2 := AH.get_lt hx; exact aGET)) (.t (.here)) (At.of_get aGET rfl) rfl (by decide) (m := N.length) (k := 1) (by simp) rfl (by simp only [room]; omega) (fun u2 Hc hu3 hb3 hx3 => ?_)
      have hx3n := hx3.next
      simp only [AH.next_new] at hx3n hb3
      rw [cSets_snoc] at hu3
      have hu3l : LenOf u2 (N ++ [x]).length := hu3.len (by decide) (by simp)
      have g0 : Hc.get H0.next = some (.cells [a, b] true) := hx3.get _ _ (fun hm => by have := hub _ hm; omega) aGET
      have g1 : Hc.get (H0.next + 1) = some (.map [] 0) := hx3.get _ _ (fun hm => by have := hub _ hm; omega) aGET
      have g2 : Hc.get (H0.next + 2) = some (.map [] 0) := hx3.get _ _ (fun hm => by have := hub _ hm; omega) aGET
      have g3 : Hc.get (H0.next + 3) = some (.cells [.int .i64 I.length, u, .map (H0.next + 1), .map (H0.next + 2)] true) := hx3.get _ _ (fun hm => by have := hub _ hm; omega) aGET
      have hsc : H0.Sub Hc := AH.Sub.transX aSUB hx3 (fun b hb => by have := hub b hb; omega)
      refine wI_nilCheck (.t (.there rfl (.there rfl (.there rfl (.there rfl (.there rfl (.there rfl (.there rfl (.here))))))))) ?_
      refine wI_fieldAddr (.t (.here)) ?_
      first | refine wI_storeA (.t (.here)) (.t (.there rfl (.there rfl (.here)))) aGET rfl aBOX aRC ?_ | refine wI_store1 (.t (.here)) (.t (.there rfl (.there rfl (.here)))) aGET aONE aRC ?_
      refine wI_end (.cons (.there rfl (.there rfl (.there rfl (.there rfl (.there rfl (.there rfl (.there rfl (.there rfl (.there rfl (.there rfl (.here))))))))))) (.cons (.there rfl (.there rfl (.there rfl (.there rfl (.there rfl (.there rfl (.there rfl (.there rfl (.there rfl (.there rfl (.there rfl (.here)))))))))))) (.cons (.there rfl (.there rfl (.there rfl (.there rfl (.there rfl (.there rfl (.there rfl (.there rfl (.there rfl (.there rfl (.there rfl (.there rfl (.there rfl (.there rfl (.here))))))))))))))) (.cons (.there rfl (.there rfl (.there rfl (.there rfl (.there rfl (.there rfl (.there rfl (.there rfl (.there rfl (.there rfl (.there rfl (.there rfl (.there rfl (.there rfl (.there rfl (.here)))))))))))))))) .nil)))) ?_
      refine wC_ops ?_
      refine wI_add (.t (.there rfl (.there rfl (.there rfl (.here))))) .c (wrap64 aOM) ?_
      refine wI_mov (.t (.here)) ?_
      refine wI_end (.cons (.there rfl (.there rfl (.here))) (.cons (.there rfl (.there rfl (.there rfl (.here)))) (.cons (.there rfl (.there rfl (.there rfl (.there rfl (.here))))) (.cons (.here) .nil)))) ?_
      refine ⟨i + 1, (.cons (.here) (.cons (.there rfl (.here)) (.cons (.there rfl (.there rfl (.here))) (.cons (.there rfl (.there rfl (.there rfl (.here)))) .nil)))), ?_, ?_⟩
      · refine ⟨hsc.put aOM _, aGET, aGET, aGET, by omega, u2, N ++ [x], aGET, hu3.keep (fun c y hc hy => AH.get_put_old (by rcases hb3 c hc with h | h; have := hub c h; omega; omega) hy), fun c hc => by rcases hb3 c hc with h | h; exact hub c h; omega, by simp; omega, fun j hj => ?_⟩
        simp only [List.length_append, List.length_singleton] at hj
        rcases Nat.lt_or_ge j N.length with c | c
        · rw [getD_snoc_lt c]; exact hN j c
        · rw [show j = N.length by omega, getD_snoc_eq, hNl]
          exact ⟨hx, fun q => by rw [hxb, show k = I.length by omega]⟩
      · (first | omega | (simp only []; omega))
  · -- c1 False
    refine wpC_exit ?_
    refine wpC_seq ?_
    refine wC_ops ?_
    refine wI_mov (.t (.there rfl (.here))) ?_
    refine wI_mov (.t (.here)) ?_
    refine wI_end (.cons (.here) .nil) ?_
    refine wpC_ret (ret1 (.here) ?_)
    exact ⟨u, N, rfl, g3, hu, hub, by omega, hN, g1, g2, aSUB⟩

theorem s74 (hS : Ext fnsS T) {m : Nat} {n : Nat} (hn : n < 32) {cs : List AV} (hm : H0.get m = some (.cells (.int .i64 n :: cs) true)) :
    wpF T (.fn 74 []) [.ptr m 0] H0 (fun r H => r = .int .u32 (2 ^ n - 1 : Nat) ∧ H = H0) := by
  refine wF hS (af := A74) rfl ?_
  refine wpC_seq ?_
  refine wC_ops ?_
  refine wI_mov .c ?_
  refine wI_end (.cons (.there rfl (.here)) .nil) ?_
  refine wpC_seq ?_
  refine wC_ops ?_
  refine wI_mov (.t (.here)) ?_
  refine wI_nilCheck (.t (.here)) ?_
  refine wI_fieldAddr (.t (.here)) ?_
  refine wI_load1 (.t (.here)) aGET rfl ?_
  refine wI_bit (.t (.here)) hn ?_
  have hp := Nat.one_le_two_pow (n := n)
  have hp2 := Nat.pow_lt_pow_right (a := 2) (by decide) hn
  refine wI_sub (.t (.here)) .c (show IntKind.u32.wrap (((2 ^ n : Nat) : Int) - 1) = ((2 ^ n - 1 : Nat) : Int) by rw [show ((2 ^ n : Nat) : Int) - 1 = ((2 ^ n - 1 : Nat) : Int) by omega]; exact u32_small aOM) ?_
  refine wI_mov (.t (.here)) ?_
  refine wI_end (.cons (.here) .nil) ?_
  refine wpC_ret (ret1 (.here) ?_)
  exact ⟨rfl, rfl⟩

theorem s73m (hT : Ext fns1 T) (hS : Ext fnsS T) {a b : AV} {t : List Int} {I : List (List Rng)} {vs : List AV} (hS0 : SortAt H0 a b t I vs) (hok : Ok t I) :
    wpF T (.fn 73 []) [.agg [a, b]] H0 (fun r H => ∃ m p q u N, r = .ptr m 0 ∧ Matter H H0.next I.length t I m p q u N ∧ H.get p = some (.map [] 0) ∧ H.get q = some (.map [] 0) ∧ H0.Sub H) :=
  wpF_mono (s73 hT hS hS0 hok) fun r H ⟨u, N, h1, h2, h3, h4, h5, h6, h7, h8, h9⟩ =>
    ⟨_, _, _, u, N, h1, ⟨h2, h3.at, h5, fun i hi => h6 i (by omega), by omega, fun c hc => by have := h4 c hc; omega⟩, h7, h8, h9⟩

/-- Ranging over the items of a set. -/
theorem wC_items (hS : Ext fnsS T) {fn : FuncId} {e : Env} {H : AH} {Q : Out → Env → AH → Prop} {f : AX} {p bx s : Nat} {asg body : ACode} (hf : X e f (.fn 116 [.ptr bx 0])) (hs : s < 4294967296) (hbx : H.get bx = some (.cells [.int .u32 s] true)) (Inv : Nat → AH → Prop)
    (mono : ∀ i H1 H2, Inv i H1 → AH.SubX [H.next] H1 H2 → Inv i H2) (h0 : Inv 0 H) (skip : ∀ i H, i < 32 → s.testBit i = false → Inv i H → Inv (i + 1) H) (E : Nat → Env)
    (hasg : ∀ (i : Nat) (H' : AH), wpC T fn asg ((p, .int .i64 i) :: e) H' fun o e' H'' => o = .normal ∧ e' = E i ∧ H'' = H') (bs : List Nat) (hbs : ∀ b, b ∈ bs → b < H.next ∧ b ≠ bx)
    (step : ∀ i Hb, i < 32 → s.testBit i = true → Inv i Hb → H.next < Hb.next → wpC T fn body (E i) Hb fun o _ H2 => AH.SubX bs Hb H2 ∧ (match o with
      | .normal => Inv (i + 1) H2
      | o => ∀ H3, AH.SubX [H.next] H2 H3 → Q o e H3))
    (hn : ∀ H', Inv 32 H' → Q .normal e H') : wpC T fn (.rangeFunc f [p] asg body) e H Q := by
  refine wpC_rangeFunc hf ?_
  have hbn := AH.get_lt hbx
  have hsub : AH.SubX [H.next] H (H.new (.loop ⟨.ready, none, fn, e, [p], asg, body⟩)) := (AH.SubX.refl _ _).new _
  refine wpF_mono (s116 hS (l := H.next) (bx := bx) hs AH.get_new_self (AH.get_new_old hbx) Inv (fun o H' => o ≠ .normal ∧ ∀ H3, AH.SubX [H.next] H' H3 → Q o e H3) (mono 0 _ _ h0 hsub) skip (fun i H1 hi hb hI hl hbx1 => ?_)) ?_
  · have hl1 := AH.get_lt hl
    refine wpF_yield hl (e0 := (p, .int .i64 i) :: e) rfl (hasg i H1) ?_
    refine wpC_mono (step i _ hi hb (mono i _ _ hI ((AH.SubX.refl _ _).put (.inl (by simp)) _)) (by simpa using hl1)) fun o e' H2 ⟨hx, ho⟩ => ?_
    have hl2 : H2.get H.next = some (.loop ⟨.busy, none, fn, e, [p], asg, body⟩) := hx.get _ _ (fun hm => by have := hbs _ hm; omega) (AH.get_put_self hl1)
    have hb2 : H2.get bx = some (.cells [.int .u32 s] true) := hx.get _ _ (fun hm => (hbs _ hm).2 rfl) (AH.get_put_old (by omega) hbx1)
    have hl3 := AH.get_lt hl2
    refine ⟨hl2, ?_⟩
    cases o with
    | normal => exact ⟨true, rfl, AH.get_put_old (by omega) hb2, fun _ => ⟨AH.get_put_self hl3, mono _ _ _ ho ((AH.SubX.refl _ _).put (.inl (by simp)) _)⟩, fun h => by cases h⟩
    | exit id => exact ⟨false, rfl, AH.get_put_old (by omega) hb2, fun h => by (cases h), fun _ => ⟨_, AH.get_put_self hl3, by simp, fun H3 h3 => ho H3 (((AH.SubX.refl _ _).put (.inl (by simp)) _).trans h3)⟩⟩
    | ret => exact ⟨false, rfl, AH.get_put_old (by omega) hb2, fun h => by (cases h), fun _ => ⟨_, AH.get_put_self hl3, by simp, fun H3 h3 => ho H3 (((AH.SubX.refl _ _).put (.inl (by simp)) _).trans h3)⟩⟩
  · rintro v H' (⟨h1, h2⟩ | ⟨o, h1, h2, h3⟩)
    · exact ⟨_, h1, by simp, hn _ (mono _ _ _ h2 ((AH.SubX.refl _ _).put (.inl (by simp)) _))⟩
    · exact ⟨_, h1, by simp, h3 _ ((AH.SubX.refl _ _).put (.inl (by simp)) _)⟩
end Wk
