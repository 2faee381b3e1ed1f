/- A part of the proof: WalkP. It holds for whatever its statements name; no condition beyond theirs. -/
import Derived.Test.YtllbpnmhoblkgaaDoorWalkN
import Derived.Test.YtllbpnmhoblkgaaDoorSpM
import Derived.Test.YtllbpnmhoblkgaaDoorCodeL
namespace Wk
open Go Am DC Sp
variable {T : Tab} {H0 : AH}

theorem s61s (hT : Ext fns1 T) (hM : Ext fnsM T) (h108 : T.prim 108 = some pTrimLeft) (h109 : T.prim 109 = some pContains) (h129 : T.prim 129 = some pIndexRune) (s : List UInt8) (hl : s.length ≤ 900) : wpF T (.fn 61 []) [.str s] H0 (fun r H => r = .tup [.agg [.str (parseMS s).t, .int .i64 (parseMS s).y, .int .i64 (parseMS s).w, .int .i64 (parseMS s).l, .int .i64 (parseMS s).n], .int .i64 (parseES s)] ∧ H0.Sub H) := by
  have e : s.takeWhile isUp ++ s.dropWhile isUp = s := List.takeWhile_append_dropWhile
  have h := s61 (H0 := H0) hT hM h108 h109 h129 (k := s.takeWhile isUp) (r := s.dropWhile isUp) (by rw [e]; exact ⟨rfl, rfl⟩) (by rw [e]; exact hl)
  rw [e] at h; exact h
theorem s62s (hT : Ext fns1 T) (hM : Ext fnsM T) (s : List UInt8) (hl : s.length ≤ 900) : wpF T (.fn 62 []) [.str s] H0 (fun r H => r = .tup [.agg [.str (parseMS s).t, .int .i64 (parseMS s).y, .int .i64 (parseMS s).w, .int .i64 (parseMS s).l, .int .i64 (parseMS s).n], .int .i64 (parseES s)] ∧ H0.Sub H) := by
  have e : s.takeWhile isUp ++ s.dropWhile isUp = s := List.takeWhile_append_dropWhile
  have h := s62 (H0 := H0) hT hM (k := s.takeWhile isUp) (r := s.dropWhile isUp) (by rw [e]; exact ⟨rfl, rfl⟩) (by rw [e]; exact hl)
  rw [e] at h; exact h

theorem s58 (hT : Ext fns1 T) (hM : Ext fnsM T) {d : Nat} (hd : DiceAt H0 d) :
    wpF T (.fn 58 []) [.ptr d 0] H0 (fun r H => (∃ m : MarkS, r = .agg [.str m.t, .int .i64 m.y, .int .i64 m.w, .int .i64 m.l, .int .i64 m.n] ∧ kindOk m.t ∧ rangeOk m) ∧ AH.SubX [d] H0 H) := by
  refine wF hM (af := A58) rfl ?_
  have hdl := hd.lt
  refine wpC_seq ?_
  refine wC_ops ?_
  refine wI_alloc ?_
  refine wI_end (.cons (.there rfl (.here)) (.cons (.here) .nil)) ?_
  refine wpC_seq ?_
  refine wC_ops ?_
  refine wI_mov .c ?_
  refine wI_end (.cons (.there rfl (.here)) (.cons (.there rfl (.there rfl (.here))) (.cons (.here) .nil))) ?_
  refine wpC_seq ?_
  refine wpC_seq ?_
  refine wC_ops ?_
  refine wI_mov (.t (.here)) ?_
  refine wI_call (.cons (.t (.here)) (.cons .c (.cons .c .nil))) (s57 hT (DiceAt.keep hd fun x hx => aGET) _ _ aOM) ?_
  rintro _ Ha ⟨⟨z1, rfl, hz1, hz1b⟩, hda, hxa⟩
  have hxan := hxa.next
  simp only [AH.next_new] at hxan
  refine wI_mov (.t (.here)) ?_
  refine wI_end (.cons (.there rfl (.there rfl (.there rfl (.here)))) (.cons (.there rfl (.there rfl (.there rfl (.there rfl (.here))))) (.cons (.there rfl (.there rfl (.there rfl (.there rfl (.there rfl (.here)))))) (.cons (.here) .nil)))) ?_
  refine wpC_block ?_
  refine wC_loop (α := Int × AV × List UInt8) (fun (i, u, t) => [(0, .ptr d 0), (2, .ptr H0.next 0), (3, u), (4, .int .i64 i)]) (fun (i, u, t) H => DiceAt H d ∧ AH.SubX [d] H0 H ∧ H.get H0.next = some (.cells [.str [], .int .i64 0, .int .i64 0, .int .i64 0, .int .i64 0] true) ∧ 0 ≤ i ∧ OwnS H u 1 (cBytes t) ∧ (∀ c, c ∈ u.blocks → H0.next + 1 ≤ c) ∧ (t.length : Int) + i ≤ 4 ∧ 1 ≤ t.length + i ∧ t.all isUp = true) (fun (i, u, t) => i.toNat) (z1, .nils, []) (.cons (.here) (.cons (.there rfl (.here)) (.cons (.there rfl (.there rfl (.here))) (.cons (.there rfl (.there rfl (.there rfl (.here)))) .nil)))) ?_ ?_
  · exact ⟨hda, AH.Sub.toX aSUB hxa, aGET, by omega, OwnS.nils _ _, fun c hc => by simp [AV.blocks] at hc, by simp; omega, by simp; omega, rfl⟩
  rintro ⟨i, u, t⟩ H1 ⟨hdi, hs0, hB, hi, hu, hub, ht4, ht1, hup⟩
  have hs0n := hs0.next
  have hBl := AH.get_lt hB
  refine wpC_seq ?_
  refine wpC_seq ?_
  refine wC_ops ?_
  refine wI_mov (.t (.there rfl (.there rfl (.there rfl (.here))))) ?_
  refine wI_gtr (.t (.here)) .c ?_
  refine wI_end (.cons (.there rfl (.there rfl (.here))) (.cons (.there rfl (.there rfl (.there rfl (.here)))) (.cons (.there rfl (.there rfl (.there rfl (.there rfl (.here))))) (.cons (.there rfl (.there rfl (.there rfl (.there rfl (.there rfl (.here)))))) (.cons (.here) .nil))))) ?_
  refine wC_if (.t (.there rfl (.there rfl (.there rfl (.there rfl (.here)))))) (fun c2 => ?_) (fun c2 => ?_)
  · -- c2 True
    refine wpC_skip ?_
    refine wpC_seq ?_
    refine wpC_block ?_
    refine wC_ops ?_
    refine wI_mov (.t (.there rfl (.there rfl (.here)))) ?_
    refine wI_mov (.t (.there rfl (.here))) ?_
    refine wI_call (.cons (.t (.here)) (.cons .c .nil)) (s41 hT hdi _ aOM) ?_
    rintro _ Hb ⟨⟨z2, rfl, hz2, hz2a, hz2b⟩, hdb, hxb⟩
    have hxbn := hxb.next
    have hz2b := hz2b aOM
    refine wI_add .c (.t (.here)) (wrap64 aOM) ?_
    refine wI_convInt (.t (.here)) (m := ((UInt8.ofNat (65 + z2).toNat).toNat : Int)) (by rw [IntWalk.u8_in _ aOM, u8_nat aOM]; omega) ?_
    refine wI_buildSlice (.one (.t (.here)) aONE rfl aRC .nil) ?_
    refine wI_append (.t (.there rfl (.there rfl (.there rfl (.there rfl (.there rfl (.here))))))) (OwnS.keep hu (fun c x hc hx => by have h1 := hub c hc; have h2 := AH.get_lt hx; exact aGET)) (.t (.here)) (At.of_get (cs := cBytes [UInt8.ofNat (65 + z2).toNat]) aGET rfl) rfl (by decide) (m := t.length) (k := 1) (by simp) rfl (by simp only [room]; omega) (fun u2 Hc hu3 hb3 hx3 => ?_)
    have hx3n := hx3.next
    simp only [AH.next_new] at hx3n hb3
    rw [cBytes_snoc] at hu3
    have hB2 : Hc.get H0.next = some (.cells [.str [], .int .i64 0, .int .i64 0, .int .i64 0, .int .i64 0] true) := hx3.get _ _ (fun hm => by have := hub _ hm; omega) aGET
    have hdc : DiceAt Hc d := hdb.keep fun x hx => hx3.get _ _ (fun hm => by have := hub _ hm; omega) (AH.get_new_old hx)
    have hsc : AH.SubX [d] H0 Hc := ((hs0.trans hxb).new _).transW hx3 (fun b hb => .inr (by have := hub b hb; omega))
    refine wI_mov (.t (.here)) ?_
    refine wI_end (.cons (.there rfl (.there rfl (.there rfl (.there rfl (.there rfl (.there rfl (.there rfl (.there rfl (.here))))))))) (.cons (.there rfl (.there rfl (.there rfl (.there rfl (.there rfl (.there rfl (.there rfl (.there rfl (.there rfl (.here)))))))))) (.cons (.here) (.cons (.there rfl (.there rfl (.there rfl (.there rfl (.there rfl (.there rfl (.there rfl (.there rfl (.there rfl (.there rfl (.there rfl (.here)))))))))))) .nil)))) ?_
    refine wC_ops ?_
    refine wI_mov (.t (.there rfl (.there rfl (.there rfl (.here))))) ?_
    refine wI_sub (.t (.here)) .c (wrap64 aOM) ?_
    refine wI_mov (.t (.here)) ?_
    refine wI_end (.cons (.there rfl (.there rfl (.there rfl (.here)))) (.cons (.there rfl (.there rfl (.there rfl (.there rfl (.here))))) (.cons (.there rfl (.there rfl (.there rfl (.there rfl (.there rfl (.here)))))) (.cons (.here) .nil)))) ?_
    refine ⟨(i - 1, u2, t ++ [UInt8.ofNat (65 + z2).toNat]), (.cons (.here) (.cons (.there rfl (.here)) (.cons (.there rfl (.there rfl (.here))) (.cons (.there rfl (.there rfl (.there rfl (.here)))) .nil)))), ?_, ?_⟩
    · refine ⟨hdc, hsc, hB2, by omega, hu3, fun c hc => by rcases hb3 c hc with h | h; exact hub c h; omega, by simp; omega, by simp; omega, ?_⟩
      rw [List.all_append, hup]
      simp only [List.all_cons, List.all_nil, Bool.and_true, Bool.true_and]
      unfold isUp
      rw [u8_nat aOM]
      simp; omega
    · (first | omega | (simp only []; omega))
  · -- c2 False
    refine wpC_exit ?_
    refine wpC_seq ?_
    refine wC_ops ?_
    refine wI_mov (.t (.there rfl (.there rfl (.here)))) ?_
    refine wI_bytesToStr (.t (.here)) (OwnS.at (OwnS.keep hu (fun c x hc hx => by have h1 := hub c hc; have h2 := AH.get_lt hx; exact aGET))) ?_
    refine wI_mov (.t (.there rfl (.there rfl (.here)))) ?_
    refine wI_mov (.t (.there rfl (.there rfl (.there rfl (.here))))) ?_
    refine wI_mov (.t (.there rfl (.there rfl (.there rfl (.there rfl (.here)))))) ?_
    refine wI_mov (.t (.there rfl (.there rfl (.there rfl (.there rfl (.there rfl (.here))))))) ?_
    refine wI_call (.cons (.t (.there rfl (.there rfl (.there rfl (.here))))) (.cons .c .nil)) (s41 hT hdi _ aOM) ?_
    rintro _ Hy ⟨⟨y, rfl, hy0, hya, hyb⟩, hdy, hxy⟩
    have hxyn := hxy.next
    have hyb := hyb aOM
    refine wI_chkBytes (.there rfl (.there rfl (.there rfl (.there rfl (.there rfl (.here)))))) (.t (.there rfl (.there rfl (.there rfl (.there rfl (.there rfl (.there rfl (.here)))))))) (OwnS.at (OwnS.keep hu (fun c x hc hx => by have h1 := hub c hc; have h2 := AH.get_lt hx; exact aGET))) ?_
    refine wI_call (.cons (.t (.there rfl (.there rfl (.there rfl (.here))))) (.cons .c (.cons .c .nil))) (s57 hT hdy _ _ aOM) ?_
    rintro _ Hw ⟨⟨w, rfl, hw0, hwb⟩, hdw, hxw⟩
    have hxwn := hxw.next
    refine wI_chkBytes (.there rfl (.there rfl (.there rfl (.there rfl (.there rfl (.there rfl (.here))))))) (.t (.there rfl (.there rfl (.there rfl (.there rfl (.there rfl (.there rfl (.there rfl (.here))))))))) (OwnS.at (OwnS.keep hu (fun c x hc hx => by have h1 := hub c hc; have h2 := AH.get_lt hx; exact aGET))) ?_
    refine wI_call (.cons (.t (.there rfl (.there rfl (.there rfl (.here))))) (.cons .c (.cons .c .nil))) (s57 hT hdw _ _ aOM) ?_
    rintro _ Hl ⟨⟨l, rfl, hl0, hlb⟩, hdl2, hxl⟩
    have hxln := hxl.next
    refine wI_chkBytes (.there rfl (.there rfl (.there rfl (.there rfl (.there rfl (.there rfl (.there rfl (.here)))))))) (.t (.there rfl (.there rfl (.there rfl (.there rfl (.there rfl (.there rfl (.there rfl (.there rfl (.here)))))))))) (OwnS.at (OwnS.keep hu (fun c x hc hx => by have h1 := hub c hc; have h2 := AH.get_lt hx; exact aGET))) ?_
    refine wI_call (.cons (.t (.there rfl (.there rfl (.there rfl (.here))))) (.cons .c .nil)) (s41 hT hdl2 _ aOM) ?_
    rintro _ Hn ⟨⟨n, rfl, hn0, hna, hnb⟩, hdn, hxn⟩
    have hxnn := hxn.next
    have hnb := hnb aOM
    refine wI_chkBytes (.there rfl (.there rfl (.there rfl (.there rfl (.there rfl (.there rfl (.there rfl (.there rfl (.here))))))))) (.t (.there rfl (.there rfl (.there rfl (.there rfl (.there rfl (.there rfl (.there rfl (.there rfl (.there rfl (.here))))))))))) (OwnS.at (OwnS.keep hu (fun c x hc hx => by have h1 := hub c hc; have h2 := AH.get_lt hx; exact aGET))) ?_
    refine wI_build (.one (.t (.there rfl (.there rfl (.there rfl (.there rfl (.there rfl (.there rfl (.there rfl (.there rfl (.here)))))))))) aONE aRC (.one (.t (.there rfl (.there rfl (.there rfl (.here))))) aONE aRC (.one (.t (.there rfl (.there rfl (.here)))) aONE aRC (.one (.t (.there rfl (.here))) aONE aRC (.one (.t (.here)) aONE aRC .nil))))) ?_
    first | refine wI_storeA (.t (.there rfl (.there rfl (.there rfl (.there rfl (.there rfl (.there rfl (.there rfl (.there rfl (.there rfl (.there rfl (.there rfl (.there rfl (.here)))))))))))))) (.t (.here)) aGET rfl aBOX aRC ?_ | refine wI_store1 (.t (.there rfl (.there rfl (.there rfl (.there rfl (.there rfl (.there rfl (.there rfl (.there rfl (.there rfl (.there rfl (.there rfl (.there rfl (.here)))))))))))))) (.t (.here)) aGET aONE aRC ?_
    refine wI_end (.cons (.there rfl (.there rfl (.there rfl (.there rfl (.there rfl (.there rfl (.there rfl (.there rfl (.there rfl (.there rfl (.there rfl (.there rfl (.here))))))))))))) .nil) ?_
    refine wpC_ret (retT (.here) aGET aRC ?_)
    refine ⟨⟨⟨t, y, w, l, n⟩, rfl, mk_ok aOM hup aOM⟩, ?_⟩
    exact ((((hs0.trans hxy).trans hxw).trans hxl).trans hxn).put (.inr aOM) _

theorem s63 (hM : Ext fnsM T) (n k : Int) (hk : 0 < k ∧ k ≤ 1000) :
    wpF T (.fn 63 []) [.int .i64 n, .int .i64 k] H0 (fun r H => (∃ z : Nat, r = .int .i64 z ∧ (z : Int) < k) ∧ H = H0) := by
  refine wF hM (af := A63) rfl ?_
  refine wpC_seq ?_
  refine wC_ops ?_
  refine wI_mov .c ?_
  refine wI_end (.cons (.there rfl (.here)) (.cons (.there rfl (.there rfl (.here))) .nil)) ?_
  refine wpC_seq ?_
  refine wpC_seq ?_
  refine wC_ops ?_
  refine wI_mov (.t (.there rfl (.here))) ?_
  refine wI_lss (.t (.here)) .c ?_
  refine wI_end (.cons (.there rfl (.there rfl (.here))) (.cons (.there rfl (.there rfl (.there rfl (.here)))) (.cons (.here) .nil))) ?_
  refine wC_if (.t (.there rfl (.there rfl (.here)))) (fun c1 => ?_) (fun c1 => ?_)
  · -- c1 True
    refine wpC_seq ?_
    refine wC_ops ?_
    refine wI_mov .c ?_
    refine wI_end (.cons (.here) .nil) ?_
    refine wpC_ret (ret1 (.here) ?_)
    first | exact ⟨⟨(n.tmod k + k).toNat, by congr 1; omega, by omega⟩, rfl⟩ | exact ⟨⟨(n.tmod k).toNat, by congr 1; omega, by omega⟩, rfl⟩
  · -- c1 False
    refine wpC_skip ?_
    refine wpC_seq ?_
    refine wC_ops ?_
    refine wI_mov (.t (.here)) ?_
    refine wI_mov (.t (.there rfl (.there rfl (.here)))) ?_
    have hb := tmodB (n := n) hk.1
    refine wI_rem (.t (.there rfl (.here))) (.t (.here)) aOM rfl ?_
    refine wI_mov (.t (.here)) ?_
    refine wI_end (.cons (.there rfl (.there rfl (.there rfl (.there rfl (.there rfl (.here)))))) (.cons (.here) .nil)) ?_
    refine wpC_seq ?_
    refine wpC_seq ?_
    refine wC_ops ?_
    refine wI_mov (.t (.there rfl (.here))) ?_
    refine wI_lss (.t (.here)) .c ?_
    refine wI_end (.cons (.there rfl (.there rfl (.here))) (.cons (.there rfl (.there rfl (.there rfl (.here)))) (.cons (.here) .nil))) ?_
    refine wC_if (.t (.there rfl (.there rfl (.here)))) (fun c2 => ?_) (fun c2 => ?_)
    · -- c2 True
      refine wpC_seq ?_
      refine wC_ops ?_
      refine wI_mov (.t (.there rfl (.here))) ?_
      refine wI_mov (.t (.there rfl (.here))) ?_
      refine wI_add (.t (.there rfl (.here))) (.t (.here)) (wrap64 aOM) ?_
      refine wI_mov (.t (.here)) ?_
      refine wI_end (.cons (.here) .nil) ?_
      refine wpC_ret (ret1 (.here) ?_)
      first | exact ⟨⟨(n.tmod k + k).toNat, by congr 1; omega, by omega⟩, rfl⟩ | exact ⟨⟨(n.tmod k).toNat, by congr 1; omega, by omega⟩, rfl⟩
    · -- c2 False
      refine wpC_skip ?_
      refine wpC_seq ?_
      refine wC_ops ?_
      refine wI_mov (.t (.there rfl (.here))) ?_
      refine wI_mov (.t (.here)) ?_
      refine wI_end (.cons (.here) .nil) ?_
      refine wpC_ret (ret1 (.here) ?_)
      first | exact ⟨⟨(n.tmod k + k).toNat, by congr 1; omega, by omega⟩, rfl⟩ | exact ⟨⟨(n.tmod k).toNat, by congr 1; omega, by omega⟩, rfl⟩

theorem l14 (hT : Ext fns1 T) (hM : Ext fnsM T) (hL : Ext fnsL14 T) (hAw : T.prim 17 = some pAwake) (h127 : T.prim 127 = some pItoa) (h128 : T.prim 128 = some pRepeat) (h108 : T.prim 108 = some pTrimLeft) (h109 : T.prim 109 = some pContains) (h129 : T.prim 129 = some pIndexRune) (m0 : MarkS) (s : List UInt8) {v : AV} {l : List Int} (hv : Ints H0 v l) (hl : l.length < 9223372036854775808) :
    wpF T (.fn 14 []) [.agg [.str m0.t, .int .i64 m0.y, .int .i64 m0.w, .int .i64 m0.l, .int .i64 m0.n], .str s, v] H0 (fun r H => r = .bool true) := by
  refine wF hL (af := A14) rfl ?_
  refine wpC_seq ?_
  refine wC_ops ?_
  refine wI_box (.t (.here)) aBOX ?_
  refine wI_mov .c ?_
  refine wI_end (.cons (.there rfl (.there rfl (.there rfl (.here)))) (.cons (.there rfl (.there rfl (.there rfl (.there rfl (.here))))) (.cons (.there rfl (.here)) .nil))) ?_
  refine wpC_seq ?_
  refine wpC_seq ?_
  refine wC_ops ?_
  refine wI_fieldAddr (.t (.there rfl (.there rfl (.here)))) ?_
  refine wI_load1 (.t (.here)) aGET rfl ?_
  refine wI_lenStr (.t (.here)) ?_
  refine wI_gtr (.t (.here)) .c ?_
  refine wI_mov (.t (.here)) ?_
  refine wI_gdF (.here) (fun g1 => ?_) (fun g1 => ?_)
  · -- g1 False
    refine wI_mov (.t (.there rfl (.there rfl (.there rfl (.there rfl (.there rfl (.here))))))) ?_
    refine wI_yes (.there rfl (.here)) g1 ?_
    refine wI_lenStr (.t (.here)) ?_
    refine wI_yes (.there rfl (.there rfl (.here))) g1 ?_
    refine wI_gtr (.t (.here)) .c ?_
    refine wI_pickF (.t (.there rfl (.there rfl (.there rfl (.here))))) g1 (.t (.here)) ?_
    refine wI_end (.cons (.there rfl (.there rfl (.there rfl (.there rfl (.there rfl (.there rfl (.there rfl (.there rfl (.there rfl (.here)))))))))) (.cons (.there rfl (.there rfl (.there rfl (.there rfl (.there rfl (.there rfl (.there rfl (.there rfl (.there rfl (.there rfl (.here))))))))))) (.cons (.there rfl (.there rfl (.there rfl (.there rfl (.there rfl (.there rfl (.there rfl (.there rfl (.there rfl (.there rfl (.there rfl (.here)))))))))))) (.cons (.here) .nil)))) ?_
    refine wC_if (.t (.there rfl (.there rfl (.there rfl (.here))))) (fun c2 => ?_) (fun c2 => ?_)
    · -- c2 True
      refine wpC_seq ?_
      refine wC_ops ?_
      refine wI_call .nil (wpF_prim hAw rfl (S := fun v _ => v = .bool true) rfl) ?_
      rintro _ _ rfl
      refine wI_mov (.t (.here)) ?_
      refine wI_end (.cons (.here) .nil) ?_
      refine wpC_ret (ret1 (.here) ?_)
      first | exact rfl | (exfalso; simp_all; done)
    · -- c2 False
      have hsl : s.length ≤ 200 := by exact aNO
      refine wpC_skip ?_
      refine wpC_seq ?_
      refine wC_ops ?_
      refine wI_loadT (.t (.there rfl (.there rfl (.here)))) aGET aRC ?_
      refine wI_mov (.t (.there rfl (.there rfl (.here)))) ?_
      refine wI_call (.cons (.t (.here)) .nil) (s19 hT (hv.mono aSUB) hl) ?_
      rintro _ H2 ⟨d, rfl, hd2, hdl2, hs2⟩
      have hsn2 := hs2.next
      simp only [AH.next_new] at hsn2 hdl2
      have gb2 : H2.get H0.next = some (.cells (mcs m0) true) := aGET
      refine wI_chkLoadT (.there rfl (.there rfl (.here))) (.t (.there rfl (.there rfl (.there rfl (.there rfl (.there rfl (.here))))))) aGET aRC aSAME ?_
      refine wI_call (.cons (.t (.here)) .nil) (s58 hT hM hd2) ?_
      rintro _ H3 ⟨⟨m, rfl, hk, hr⟩, hx3⟩
      have hx3n := hx3.next
      have gb3 : H3.get H0.next = some (.cells (mcs m0) true) := aGET
      refine wI_chkLoadT (.there rfl (.there rfl (.there rfl (.here)))) (.t (.there rfl (.there rfl (.there rfl (.there rfl (.there rfl (.there rfl (.here)))))))) aGET aRC aSAME ?_
      refine wI_buildSlice (.agg (.t (.there rfl (.there rfl (.there rfl (.here))))) aBOX rfl aRC (.agg (.t (.here)) aBOX rfl aRC .nil)) ?_
      refine wI_mov (.t (.here)) ?_
      refine wI_end (.cons (.there rfl (.there rfl (.there rfl (.there rfl (.there rfl (.there rfl (.here))))))) (.cons (.here) .nil)) ?_
      refine wpC_seq ?_
      refine wC_ops ?_
      refine wI_mov (.t (.here)) ?_
      refine wI_buildSlice (.one (.t (.here)) aONE rfl aRC .nil) ?_
      refine wI_mov (.t (.here)) ?_
      refine wI_end (.cons (.there rfl (.there rfl (.there rfl (.there rfl (.here))))) (.cons (.here) .nil)) ?_
      refine wpC_seq ?_
      refine wpC_seq ?_
      refine wC_ops ?_
      refine wI_mov .c ?_
      refine wI_end (.cons (.there rfl (.here)) (.cons (.there rfl (.there rfl (.here))) (.cons (.here) .nil))) ?_
      refine wpC_block ?_
      refine wC_loop (α := Nat × AV × List (List UInt8)) (fun (i, u, ts) => [(7, .sl H3.next 0 2 5), (8, u), (9, .int .i64 i)]) (fun (i, u, ts) H => H.get H3.next = some (.cells (mcs m0 ++ mcs m) true) ∧ OwnS H u 1 (cStrs ts) ∧ (∀ c, c ∈ u.blocks → c ≠ H3.next) ∧ ts.length = i + 1 ∧ i ≤ 2 ∧ ∀ j, j < ts.length → (ts.getD j []).length ≤ 200) (fun (i, u, ts) => 2 - i) (0, .sl (H3.next + 1) 0 1 1, [s]) (.cons (.here) (.cons (.there rfl (.here)) (.cons (.there rfl (.there rfl (.here))) .nil))) ?_ ?_
      · exact ⟨aGET, OwnS.new rfl aGET, fun c hc => by simp [AV.blocks] at hc; omega, rfl, by omega, fun j hj => by simp at hj; subst hj; simpa using hsl⟩
      rintro ⟨i, u, ts⟩ H4 ⟨hg4, hu, hub, htl, hi, hlen⟩
      have hul := hu.len (n := ts.length) (by decide) (by simp [cStrs])
      have hg4l := AH.get_lt hg4
      refine wpC_seq ?_
      refine wpC_seq ?_
      refine wC_ops ?_
      refine wI_mov (.t (.there rfl (.there rfl (.here)))) ?_
      refine wI_mov (.t (.there rfl (.here))) ?_
      refine wI_lenSl (.t (.here)) aLEN ?_
      refine wI_lss (.t (.there rfl (.there rfl (.here)))) (.t (.here)) ?_
      refine wI_end (.cons (.there rfl (.there rfl (.there rfl (.there rfl (.here))))) (.cons (.there rfl (.there rfl (.there rfl (.there rfl (.there rfl (.here)))))) (.cons (.there rfl (.there rfl (.there rfl (.there rfl (.there rfl (.there rfl (.here))))))) (.cons (.here) .nil)))) ?_
      refine wC_if (.t (.there rfl (.there rfl (.there rfl (.here))))) (fun c6 => ?_) (fun c6 => ?_)
      · -- c6 True
        refine wpC_skip ?_
        refine wpC_seq ?_
        refine wpC_block ?_
        refine wpC_seq ?_
        refine wC_ops ?_
        refine wI_mov (.t (.here)) ?_
        refine wI_mov (.t (.there rfl (.there rfl (.there rfl (.here))))) ?_
        refine wI_ixM (.t (.there rfl (.here))) (At.of_get (n := 2) aGET rfl) (.t (.here)) rfl aOM (fun bq oq pq => ?_)
        refine wI_ldcN (.t (.here)) (by first | exact pq | exact Cells.mono pq aSUB) rfl ?_
        refine wI_call (.cons (.t (.here)) .nil) (s59 hT hM h127 h128 h129 _) ?_
        rintro _ H7 ⟨rfl, hs7⟩
        have hsn7 := hs7.next
        refine wI_mov (.t (.here)) ?_
        refine wI_extract (.t (.here)) rfl ?_
        refine wI_extract (.t (.there rfl (.here))) rfl ?_
        refine wI_mov (.t (.there rfl (.here))) ?_
        refine wI_mov (.t (.there rfl (.here))) ?_
        refine wI_end (.cons (.there rfl (.there rfl (.there rfl (.there rfl (.there rfl (.there rfl (.there rfl (.there rfl (.there rfl (.there rfl (.here))))))))))) (.cons (.there rfl (.there rfl (.there rfl (.there rfl (.there rfl (.there rfl (.there rfl (.there rfl (.there rfl (.there rfl (.there rfl (.here)))))))))))) (.cons (.there rfl (.there rfl (.there rfl (.there rfl (.there rfl (.there rfl (.there rfl (.there rfl (.there rfl (.there rfl (.there rfl (.there rfl (.here))))))))))))) (.cons (.there rfl (.here)) (.cons (.here) .nil))))) ?_
        refine wpC_seq ?_
        refine wC_ops ?_
        refine wI_mov (.t (.here)) ?_
        refine wI_mov (.t (.there rfl (.there rfl (.there rfl (.here))))) ?_
        refine wI_ixM (.t (.there rfl (.here))) (At.of_get (n := 2) aGET rfl) (.t (.here)) rfl aOM (fun bq2 oq2 pq2 => ?_)
        refine wI_ldcN (.t (.here)) (by first | exact pq2 | exact Cells.mono pq2 aSUB) rfl ?_
        refine wI_call (.cons (.t (.here)) .nil) (s60 hT hM _) ?_
        rintro _ H8 ⟨rfl, hs8⟩
        have hsn8 := hs8.next
        refine wI_mov (.t (.here)) ?_
        refine wI_extract (.t (.here)) rfl ?_
        refine wI_extract (.t (.there rfl (.here))) rfl ?_
        refine wI_mov (.t (.there rfl (.here))) ?_
        refine wI_mov (.t (.there rfl (.here))) ?_
        refine wI_end (.cons (.there rfl (.there rfl (.there rfl (.there rfl (.there rfl (.there rfl (.there rfl (.there rfl (.there rfl (.there rfl (.here))))))))))) (.cons (.there rfl (.there rfl (.there rfl (.there rfl (.there rfl (.there rfl (.there rfl (.there rfl (.there rfl (.there rfl (.there rfl (.here)))))))))))) (.cons (.there rfl (.there rfl (.there rfl (.there rfl (.there rfl (.there rfl (.there rfl (.there rfl (.there rfl (.there rfl (.there rfl (.there rfl (.here))))))))))))) (.cons (.there rfl (.there rfl (.there rfl (.there rfl (.there rfl (.there rfl (.there rfl (.there rfl (.there rfl (.there rfl (.there rfl (.there rfl (.there rfl (.here)))))))))))))) (.cons (.there rfl (.there rfl (.there rfl (.there rfl (.there rfl (.there rfl (.there rfl (.there rfl (.there rfl (.there rfl (.there rfl (.there rfl (.there rfl (.there rfl (.here))))))))))))))) (.cons (.there rfl (.here)) (.cons (.here) .nil))))))) ?_
        refine wpC_seq ?_
        refine wpC_seq ?_
        refine wC_ops ?_
        refine wI_mov (.t (.there rfl (.there rfl (.there rfl (.here))))) ?_
        refine wI_mov (.t (.there rfl (.there rfl (.there rfl (.there rfl (.there rfl (.there rfl (.here)))))))) ?_
        refine wI_neS (.t (.there rfl (.here))) (.t (.here)) ?_
        refine wI_mov (.t (.here)) ?_
        refine wI_gdF (.here) (fun g9 => ?_) (fun g9 => ?_)
        · -- g9 False
          refine wI_mov (.t (.there rfl (.there rfl (.there rfl (.there rfl (.there rfl (.there rfl (.there rfl (.there rfl (.here)))))))))) ?_
          refine wI_yes (.there rfl (.here)) g9 ?_
          refine wI_mov (.t (.there rfl (.there rfl (.there rfl (.there rfl (.there rfl (.there rfl (.there rfl (.there rfl (.there rfl (.there rfl (.there rfl (.here))))))))))))) ?_
          refine wI_yes (.there rfl (.there rfl (.here))) g9 ?_
          refine wI_neI (.t (.there rfl (.here))) (.t (.here)) ?_
          refine wI_pickF (.t (.there rfl (.there rfl (.there rfl (.here))))) g9 (.t (.here)) ?_
          refine wI_end (.cons (.there rfl (.there rfl (.there rfl (.there rfl (.there rfl (.there rfl (.there rfl (.there rfl (.here))))))))) (.cons (.there rfl (.there rfl (.there rfl (.there rfl (.there rfl (.there rfl (.there rfl (.there rfl (.there rfl (.here)))))))))) (.cons (.there rfl (.there rfl (.there rfl (.there rfl (.there rfl (.there rfl (.there rfl (.there rfl (.there rfl (.there rfl (.here))))))))))) (.cons (.there rfl (.there rfl (.there rfl (.there rfl (.there rfl (.there rfl (.there rfl (.there rfl (.there rfl (.there rfl (.there rfl (.there rfl (.there rfl (.here)))))))))))))) (.cons (.here) .nil))))) ?_
          refine wC_if (.t (.there rfl (.there rfl (.there rfl (.there rfl (.here)))))) (fun c10 => ?_) (fun c10 => ?_)
          · -- c10 True
            simp_all --done
          · -- c10 False
            refine wpC_skip ?_
            refine wC_ops ?_
            refine wI_mov (.t (.there rfl (.here))) ?_
            refine wI_mov (.t (.there rfl (.there rfl (.there rfl (.there rfl (.here)))))) ?_
            refine wI_buildSlice (.one (.t (.here)) aONE rfl aRC .nil) ?_
            have hll := textS_len (pk m0 m i)
            refine wI_append (.t (.there rfl (.there rfl (.here)))) (OwnS.keep hu (fun c x hc hx => aGET)) (.t (.here)) (At.of_get aGET rfl) rfl (by decide) (m := ts.length) (k := 1) (by simp [cStrs]) rfl (by simp only [room]; omega) (fun u2 Hc hu3 hb3 hx3 => ?_)
            have hx3n := hx3.next
            simp only [AH.next_new] at hx3n hb3
            rw [cStrs_snoc] at hu3
            have hgc : Hc.get H3.next = some (.cells (mcs m0 ++ mcs m) true) := hx3.get _ _ (fun hm => hub _ hm rfl) aGET
            refine wI_mov (.t (.here)) ?_
            refine wI_end (.cons (.there rfl (.there rfl (.there rfl (.there rfl (.there rfl (.here)))))) (.cons (.here) (.cons (.there rfl (.there rfl (.there rfl (.there rfl (.there rfl (.there rfl (.there rfl (.here)))))))) .nil))) ?_
            refine wC_ops ?_
            refine wI_mov (.t (.there rfl (.there rfl (.here)))) ?_
            refine wI_add (.t (.here)) .c (wrap64 aOM) ?_
            refine wI_mov (.t (.here)) ?_
            refine wI_end (.cons (.there rfl (.there rfl (.there rfl (.here)))) (.cons (.there rfl (.there rfl (.there rfl (.there rfl (.here))))) (.cons (.here) .nil))) ?_
            refine ⟨(i + 1, u2, ts ++ [textS (pk m0 m i)]), (.cons (.here) (.cons (.there rfl (.here)) (.cons (.there rfl (.there rfl (.here))) .nil))), ?_, ?_⟩
            · refine ⟨hgc, hu3, fun c hc => by rcases hb3 c hc with h | h; exact hub c h; omega, by simp; omega, by omega, fun j hj => ?_⟩
              simp only [List.length_append, List.length_singleton] at hj
              rcases Nat.lt_or_ge j ts.length with c | c
              · rw [getD_snoc_lt c]; exact hlen j c
              · rw [show j = ts.length by omega, getD_snoc_eq]; omega
            · (first | omega | (simp only []; omega))
        · -- g9 True
          refine wI_no (.there rfl (.here)) (by rw [g9]; decide) ?_
          refine wI_no (.there rfl (.there rfl (.here))) (by rw [g9]; decide) ?_
          refine wI_pickT (.t (.there rfl (.there rfl (.there rfl (.here))))) g9 .c ?_
          refine wI_end (.cons (.there rfl (.there rfl (.there rfl (.there rfl (.there rfl (.there rfl (.there rfl (.there rfl (.here))))))))) (.cons (.there rfl (.there rfl (.there rfl (.there rfl (.there rfl (.there rfl (.there rfl (.there rfl (.there rfl (.here)))))))))) (.cons (.there rfl (.there rfl (.there rfl (.there rfl (.there rfl (.there rfl (.there rfl (.there rfl (.there rfl (.there rfl (.here))))))))))) (.cons (.there rfl (.there rfl (.there rfl (.there rfl (.there rfl (.there rfl (.there rfl (.there rfl (.there rfl (.there rfl (.there rfl (.there rfl (.there rfl (.here)))))))))))))) (.cons (.here) .nil))))) ?_
          refine wC_condT (.t (.there rfl (.there rfl (.there rfl (.there rfl (.here)))))) rfl ?_
          refine wpC_seq ?_
          refine wC_ops ?_
          refine wI_mov .c ?_
          refine wI_end (.cons (.here) .nil) ?_
          refine wpC_ret (ret1 (.here) ?_)
          first | exact rfl | (exfalso; simp_all; done)
      · -- c6 False
        refine wpC_exit ?_
        refine wpC_seq ?_
        refine wpC_seq ?_
        refine wC_ops ?_
        refine wI_mov .c ?_
        refine wI_end (.cons (.there rfl (.there rfl (.here))) (.cons (.here) .nil)) ?_
        refine wpC_block ?_
        refine wC_loop (α := Nat) (fun i => [(8, u), (14, .int .i64 i)]) (fun i H => Strs H u ts ∧ i ≤ ts.length) (fun i => ts.length - i) 0 (.cons (.here) (.cons (.there rfl (.here)) .nil)) ?_ ?_
        · exact ⟨hu.at, by omega⟩
        rintro i H5 ⟨hts, hi5⟩
        
        refine wpC_seq ?_
        refine wpC_seq ?_
        refine wC_ops ?_
        refine wI_mov (.t (.there rfl (.here))) ?_
        refine wI_mov (.t (.there rfl (.here))) ?_
        refine wI_lenSl (.t (.here)) aLEN ?_
        refine wI_lss (.t (.there rfl (.there rfl (.here)))) (.t (.here)) ?_
        refine wI_end (.cons (.there rfl (.there rfl (.there rfl (.there rfl (.here))))) (.cons (.there rfl (.there rfl (.there rfl (.there rfl (.there rfl (.here)))))) (.cons (.here) .nil))) ?_
        refine wC_if (.t (.there rfl (.there rfl (.here)))) (fun c11 => ?_) (fun c11 => ?_)
        · -- c11 True
          refine wpC_skip ?_
          refine wpC_seq ?_
          refine wpC_block ?_
          refine wpC_seq ?_
          refine wC_ops ?_
          refine wI_mov (.t (.here)) ?_
          refine wI_mov (.t (.there rfl (.there rfl (.here)))) ?_
          refine wI_ixStrs (.t (.there rfl (.here))) (hts.mono aSUB) (.t (.here)) rfl aOM (fun bq oq pq => ?_)
          have htl := hlen i aOM
          refine wI_ldc1 0 (.t (.here)) (by first | exact pq | exact Cells.mono pq aSUB) rfl ?_
          refine wI_call (.cons (.t (.here)) .nil) (s61s hT hM h108 h109 h129 _ (by (first | assumption | omega))) ?_
          rintro _ H12 ⟨rfl, hs12⟩
          have hsn12 := hs12.next
          refine wI_mov (.t (.here)) ?_
          refine wI_extract (.t (.here)) rfl ?_
          refine wI_extract (.t (.there rfl (.here))) rfl ?_
          refine wI_alloc ?_
          first | refine wI_storeA (.t (.here)) (.t (.there rfl (.there rfl (.here)))) aGET rfl aBOX aRC ?_ | refine wI_store1 (.t (.here)) (.t (.there rfl (.there rfl (.here)))) aGET aONE aRC ?_
          refine wI_mov (.t (.there rfl (.here))) ?_
          refine wI_end (.cons (.there rfl (.there rfl (.there rfl (.there rfl (.there rfl (.there rfl (.there rfl (.there rfl (.there rfl (.there rfl (.here))))))))))) (.cons (.there rfl (.there rfl (.there rfl (.there rfl (.there rfl (.there rfl (.there rfl (.there rfl (.there rfl (.there rfl (.there rfl (.here)))))))))))) (.cons (.there rfl (.here)) (.cons (.here) .nil)))) ?_
          refine wpC_seq ?_
          refine wC_ops ?_
          refine wI_mov (.t (.here)) ?_
          refine wI_mov (.t (.there rfl (.there rfl (.here)))) ?_
          refine wI_ixStrs (.t (.there rfl (.here))) (hts.mono aSUB) (.t (.here)) rfl aOM (fun bq2 oq2 pq2 => ?_)
          refine wI_ldc1 0 (.t (.here)) (by first | exact pq2 | exact Cells.mono pq2 aSUB) rfl ?_
          refine wI_call (.cons (.t (.here)) .nil) (s62s hT hM _ (by (first | assumption | omega))) ?_
          rintro _ H13 ⟨rfl, hs13⟩
          have hsn13 := hs13.next
          refine wI_mov (.t (.here)) ?_
          refine wI_extract (.t (.here)) rfl ?_
          refine wI_extract (.t (.there rfl (.here))) rfl ?_
          refine wI_alloc ?_
          first | refine wI_storeA (.t (.here)) (.t (.there rfl (.there rfl (.here)))) aGET rfl aBOX aRC ?_ | refine wI_store1 (.t (.here)) (.t (.there rfl (.there rfl (.here)))) aGET aONE aRC ?_
          refine wI_mov (.t (.there rfl (.here))) ?_
          refine wI_end (.cons (.there rfl (.there rfl (.there rfl (.there rfl (.there rfl (.there rfl (.there rfl (.there rfl (.there rfl (.there rfl (.here))))))))))) (.cons (.there rfl (.there rfl (.there rfl (.there rfl (.there rfl (.there rfl (.there rfl (.there rfl (.there rfl (.there rfl (.there rfl (.here)))))))))))) (.cons (.there rfl (.there rfl (.there rfl (.there rfl (.there rfl (.there rfl (.there rfl (.there rfl (.there rfl (.there rfl (.there rfl (.there rfl (.here))))))))))))) (.cons (.there rfl (.there rfl (.there rfl (.there rfl (.there rfl (.there rfl (.there rfl (.there rfl (.there rfl (.there rfl (.there rfl (.there rfl (.there rfl (.here)))))))))))))) (.cons (.there rfl (.here)) (.cons (.here) .nil)))))) ?_
          refine wpC_seq ?_
          refine wC_ops ?_
          refine wI_loadT (.t (.there rfl (.there rfl (.here)))) aGET aRC ?_
          refine wI_loadT (.t (.there rfl (.there rfl (.there rfl (.there rfl (.there rfl (.here))))))) aGET aRC ?_
          refine wI_eqAgg (r := true) (.t (.there rfl (.here))) (.t (.here)) (eqM _) ?_
          refine wI_mov (.t (.here)) ?_
          refine wI_yes (.here) rfl ?_
          refine wI_mov (.t (.there rfl (.there rfl (.there rfl (.there rfl (.there rfl (.there rfl (.there rfl (.here))))))))) ?_
          refine wI_yes (.there rfl (.here)) rfl ?_
          refine wI_mov (.t (.there rfl (.there rfl (.there rfl (.there rfl (.there rfl (.there rfl (.there rfl (.there rfl (.there rfl (.there rfl (.here)))))))))))) ?_
          refine wI_yes (.there rfl (.there rfl (.here))) rfl ?_
          refine wI_neI (.t (.there rfl (.here))) (.t (.here)) ?_
          refine wI_pickF (.t (.there rfl (.there rfl (.there rfl (.here))))) rfl (.t (.here)) ?_
          refine wI_end (.cons (.there rfl (.there rfl (.there rfl (.there rfl (.there rfl (.there rfl (.there rfl (.there rfl (.here))))))))) (.cons (.there rfl (.there rfl (.there rfl (.there rfl (.there rfl (.there rfl (.there rfl (.there rfl (.there rfl (.here)))))))))) (.cons (.here) .nil))) ?_
          refine wC_if (.t (.there rfl (.there rfl (.here)))) (fun c14 => ?_) (fun c14 => ?_)
          · -- c14 True
            simp_all --done
          · -- c14 False
            refine wpC_skip ?_
            refine wC_ops ?_
            refine wI_mov (.t (.there rfl (.here))) ?_
            refine wI_add (.t (.here)) .c (wrap64 aOM) ?_
            refine wI_mov (.t (.here)) ?_
            refine wI_end (.cons (.there rfl (.there rfl (.there rfl (.here)))) (.cons (.here) .nil)) ?_
            refine ⟨i + 1, (.cons (.here) (.cons (.there rfl (.here)) .nil)), ?_, ?_⟩
            · exact ⟨hts.mono aSUB, by omega⟩
            · (first | omega | (simp only []; omega))
        · -- c11 False
          refine wpC_exit ?_
          refine wpC_seq ?_
          refine wC_ops ?_
          refine wI_call .nil (wpF_prim hAw rfl (S := fun v _ => v = .bool true) rfl) ?_
          rintro _ _ rfl
          refine wI_mov (.t (.here)) ?_
          refine wI_end (.cons (.here) .nil) ?_
          refine wpC_ret (ret1 (.here) ?_)
          first | exact rfl | (exfalso; simp_all; done)
  · -- g1 True
    refine wI_no (.there rfl (.here)) (by rw [g1]; decide) ?_
    refine wI_no (.there rfl (.there rfl (.here))) (by rw [g1]; decide) ?_
    refine wI_pickT (.t (.there rfl (.there rfl (.there rfl (.here))))) g1 .c ?_
    refine wI_end (.cons (.there rfl (.there rfl (.there rfl (.there rfl (.there rfl (.there rfl (.there rfl (.there rfl (.there rfl (.here)))))))))) (.cons (.there rfl (.there rfl (.there rfl (.there rfl (.there rfl (.there rfl (.there rfl (.there rfl (.there rfl (.there rfl (.here))))))))))) (.cons (.there rfl (.there rfl (.there rfl (.there rfl (.there rfl (.there rfl (.there rfl (.there rfl (.there rfl (.there rfl (.there rfl (.here)))))))))))) (.cons (.here) .nil)))) ?_
    refine wC_condT (.t (.there rfl (.there rfl (.there rfl (.here))))) rfl ?_
    refine wpC_seq ?_
    refine wC_ops ?_
    refine wI_call .nil (wpF_prim hAw rfl (S := fun v _ => v = .bool true) rfl) ?_
    rintro _ _ rfl
    refine wI_mov (.t (.here)) ?_
    refine wI_end (.cons (.here) .nil) ?_
    refine wpC_ret (ret1 (.here) ?_)
    first | exact rfl | (exfalso; simp_all; done)
end Wk
