/- A part of the proof: LawA. It holds for whatever its statements name; no condition beyond theirs. -/
import Derived.Test.YtllbpnmhoblkgaaDoorAmE
namespace DC
open Go Am
/-- thermion/thermionlaw08.MatchSortings -/
def A3 : AFn := ⟨
  .seq (.ops [.ins ⟨some 4, .box (.t 0), none⟩,
    .ins ⟨some 8, .mov (.c (.bool false)), none⟩] (some [1, 2, 3, 4]))
  (.seq (.seq (.ops [.ins ⟨some 12, .load (.many 2) (.t 4), none⟩,
    .ins ⟨some 13, .call 16 [(.t 12)], none⟩] (some [1, 2, 3, 4, 13]))
  (.cond (.t 13)
   (.seq (.ops [.ins ⟨some 14, .call 17 [], none⟩,
     .ins ⟨some 8, .mov (.t 14), none⟩] (some [8]))
   (.ret))
   (.skip)))
  (.seq (.ops [.ins ⟨some 15, .mov (.t 3), none⟩,
    .ins ⟨some 16, .call 19 [(.t 15)], none⟩,
    .ins ⟨some 17, .call 18 [(.t 16), (.c (.int .i64 12))], none⟩,
    .ins ⟨some 9, .alloc [.nils, .nils], none⟩,
    .ins ⟨none, .store 2 (.t 9) (.t 17), none⟩] (some [1, 2, 4, 9]))
  (.seq (.seq (.ops [.ins ⟨some 18, .load (.many 2) (.t 4), none⟩,
    .ins ⟨some 20, .load (.many 2) (.t 4), none⟩,
    .ins ⟨some 19, .call 20 [(.t 18)], none⟩,
    .chk ⟨some 20, .load (.many 2) (.t 4), none⟩,
    .ins ⟨some 21, .call 21 [(.t 20)], none⟩,
    .ins ⟨some 22, .eq1 .int true (.t 19) (.t 21), none⟩,
    .ins ⟨some 23, .mov (.t 22), none⟩,
    .ins ⟨some 24, .load (.many 2) (.t 4), some (23, false)⟩,
    .ins ⟨some 25, .mov (.t 1), some (23, false)⟩,
    .ins ⟨some 26, .mov (.t 2), some (23, false)⟩,
    .ins ⟨some 28, .load (.many 2) (.t 4), some (23, false)⟩,
    .ins ⟨some 29, .mov (.t 1), some (23, false)⟩,
    .ins ⟨some 30, .mov (.t 2), some (23, false)⟩,
    .ins ⟨some 27, .call 22 [(.t 24), (.t 25), (.t 26)], some (23, false)⟩,
    .chk ⟨some 28, .load (.many 2) (.t 4), some (23, false)⟩,
    .ins ⟨some 31, .call 23 [(.t 28), (.t 29), (.t 30)], some (23, false)⟩,
    .ins ⟨some 32, .eq1 .bool true (.t 27) (.t 31), some (23, false)⟩,
    .ins ⟨some 33, .pick (.t 23) (.c (.bool true)) (.t 32), none⟩,
    .ins ⟨some 34, .mov (.t 33), none⟩,
    .ins ⟨some 35, .load (.many 2) (.t 9), some (34, false)⟩,
    .ins ⟨some 36, .call 20 [(.t 35)], some (34, false)⟩,
    .ins ⟨some 37, .eq1 .int true (.t 36) (.c (.int .i64 0)), some (34, false)⟩,
    .ins ⟨some 38, .pick (.t 34) (.c (.bool true)) (.t 37), none⟩] (some [9, 38]))
  (.cond (.t 38)
   (.seq (.ops [.ins ⟨some 8, .mov (.c (.bool false)), none⟩] (some [8]))
   (.ret))
   (.skip)))
  (.seq (.seq (.ops [.ins ⟨some 10, .mov (.c (.int .i64 (-1))), none⟩] (some [9, 10]))
  (.block 0
   (.loop
    (.seq (.seq (.ops [.ins ⟨some 39, .mov (.t 10), none⟩,
      .ins ⟨some 40, .fieldAddr 1 (.t 9), none⟩,
      .ins ⟨some 41, .load .one (.t 40), none⟩,
      .ins ⟨some 42, .lenSl (.t 41), none⟩,
      .ins ⟨some 43, .bin .leq (.t 39) (.t 42), none⟩] (some [9, 10, 43]))
    (.cond (.t 43)
     (.skip)
     (.exit 0)))
    (.seq (.block 1
     (.seq (.ops [.ins ⟨some 11, .mov (.c (.int .i64 (-1))), none⟩] (some [9, 10, 11]))
     (.block 2
      (.loop
       (.seq (.seq (.ops [.ins ⟨some 46, .mov (.t 11), none⟩,
         .ins ⟨some 47, .fieldAddr 1 (.t 9), none⟩,
         .ins ⟨some 48, .load .one (.t 47), none⟩,
         .ins ⟨some 49, .lenSl (.t 48), none⟩,
         .ins ⟨some 50, .bin .leq (.t 46) (.t 49), none⟩] (some [9, 10, 11, 50]))
       (.cond (.t 50)
        (.skip)
        (.exit 2)))
       (.seq (.block 3
        (.seq (.ops [.ins ⟨some 53, .load (.many 2) (.t 9), none⟩,
          .ins ⟨some 54, .mov (.t 10), none⟩,
          .ins ⟨some 55, .mov (.t 11), none⟩,
          .ins ⟨some 57, .load (.many 2) (.t 9), none⟩,
          .ins ⟨some 58, .mov (.t 10), none⟩,
          .ins ⟨some 59, .mov (.t 11), none⟩,
          .ins ⟨some 56, .call 22 [(.t 53), (.t 54), (.t 55)], none⟩,
          .chk ⟨some 57, .load (.many 2) (.t 9), none⟩,
          .ins ⟨some 60, .call 23 [(.t 57), (.t 58), (.t 59)], none⟩,
          .ins ⟨some 61, .eq1 .bool true (.t 56) (.t 60), none⟩] (some [9, 10, 11, 61]))
        (.cond (.t 61)
         (.seq (.ops [.ins ⟨some 8, .mov (.c (.bool false)), none⟩] (some [8]))
         (.ret))
         (.skip))))
       (.ops [.ins ⟨some 51, .mov (.t 11), none⟩,
         .ins ⟨some 52, .bin .add (.t 51) (.c (.int .i64 1)), none⟩,
         .ins ⟨some 11, .mov (.t 52), none⟩] (some [9, 10, 11])))) (some [9, 10, 11])))))
    (.ops [.ins ⟨some 44, .mov (.t 10), none⟩,
      .ins ⟨some 45, .bin .add (.t 44) (.c (.int .i64 1)), none⟩,
      .ins ⟨some 10, .mov (.t 45), none⟩] (some [9, 10])))) (some [9, 10]))))
  (.seq (.ops [.ins ⟨some 62, .call 17 [], none⟩,
    .ins ⟨some 8, .mov (.t 62), none⟩] (some [8]))
  (.ret)))))),
  [.tmp 8]⟩

def fnsL3 : FuncId → Option AFn
  | 3 => some A3
  | _ => none
end DC
