/- A part of the proof: LawB. It holds for whatever its statements name; no condition beyond theirs. -/
import Derived.Test.YtllbpnmhoblkgaaDoorAmE
namespace DC
open Go Am
/-- thermion/thermionlaw08.MatchBounds -/
def A6 : AFn := ⟨
  .seq (.ops [.ins ⟨some 3, .box (.t 0), none⟩,
    .ins ⟨some 6, .mov (.c (.bool false)), none⟩] (some [1, 2, 3]))
  (.seq (.seq (.ops [.ins ⟨some 18, .load (.many 2) (.t 3), none⟩,
    .ins ⟨some 19, .call 16 [(.t 18)], none⟩,
    .ins ⟨some 20, .mov (.t 19), none⟩,
    .ins ⟨some 21, .mov (.t 1), some (20, false)⟩,
    .ins ⟨some 22, .lenSl (.t 21), some (20, false)⟩,
    .ins ⟨some 23, .bin .gtr (.t 22) (.c (.int .i64 40)), some (20, false)⟩,
    .ins ⟨some 24, .pick (.t 20) (.c (.bool true)) (.t 23), none⟩] (some [1, 2, 3, 24]))
  (.cond (.t 24)
   (.seq (.ops [.ins ⟨some 25, .call 17 [], none⟩,
     .ins ⟨some 6, .mov (.t 25), none⟩] (some [6]))
   (.ret))
   (.skip)))
  (.seq (.ops [.ins ⟨some 26, .mov (.t 2), none⟩,
    .ins ⟨some 27, .call 19 [(.t 26)], none⟩,
    .ins ⟨some 7, .mov (.t 27), none⟩] (some [1, 3, 7]))
  (.seq (.ops [.ins ⟨some 28, .mov (.t 7), none⟩,
    .ins ⟨some 29, .call 18 [(.t 28), (.c (.int .i64 14))], none⟩,
    .ins ⟨some 8, .alloc [.nils, .nils], none⟩,
    .ins ⟨none, .store 2 (.t 8) (.t 29), none⟩] (some [1, 3, 7, 8]))
  (.seq (.ops [.ins ⟨some 9, .mov (.c .nils), none⟩] (some [1, 3, 7, 8, 9]))
  (.seq (.seq (.ops [.ins ⟨some 10, .mov (.c (.int .i64 0)), none⟩] (some [1, 3, 7, 8, 9, 10]))
  (.block 0
   (.loop
    (.seq (.seq (.ops [.ins ⟨some 30, .mov (.t 10), none⟩,
      .ins ⟨some 31, .fieldAddr 1 (.t 8), none⟩,
      .ins ⟨some 32, .load .one (.t 31), none⟩,
      .ins ⟨some 33, .lenSl (.t 32), none⟩,
      .ins ⟨some 34, .bin .lss (.t 30) (.t 33), none⟩] (some [1, 3, 7, 8, 9, 10, 34]))
    (.cond (.t 34)
     (.skip)
     (.exit 0)))
    (.seq (.block 1
     (.seq (.ops [.ins ⟨some 37, .mov (.t 7), none⟩,
       .ins ⟨some 38, .call 34 [(.t 37), (.c (.int .i64 3))], none⟩] (some [1, 3, 7, 8, 9, 10, 38]))
     (.cond (.t 38)
      (.ops [.ins ⟨some 39, .mov (.t 9), none⟩,
        .ins ⟨some 40, .mov (.t 10), none⟩,
        .ins ⟨some 41, .buildSlice [(.int .i64 0)] 1 1 [(0, (.t 40))], none⟩,
        .ins ⟨some 42, .append 1 8 (.t 39) (.t 41), none⟩,
        .ins ⟨some 9, .mov (.t 42), none⟩] (some [1, 3, 7, 8, 9, 10]))
      (.skip))))
    (.ops [.ins ⟨some 35, .mov (.t 10), none⟩,
      .ins ⟨some 36, .bin .add (.t 35) (.c (.int .i64 1)), none⟩,
      .ins ⟨some 10, .mov (.t 36), none⟩] (some [1, 3, 7, 8, 9, 10])))) (some [1, 3, 7, 8, 9, 10]))))
  (.seq (.ops [.ins ⟨some 43, .load (.many 2) (.t 3), none⟩,
    .ins ⟨some 44, .load (.many 2) (.t 8), none⟩,
    .ins ⟨some 45, .load (.many 2) (.t 8), none⟩,
    .ins ⟨some 46, .buildSlice [.nils, .nils, .nils, .nils, .nils, .nils] 2 3 [(0, (.t 43)), (1, (.t 44)), (2, (.t 45))], none⟩,
    .ins ⟨some 47, .mov (.t 1), none⟩,
    .ins ⟨some 48, .mov (.t 9), none⟩,
    .ins ⟨some 49, .mov (.t 1), none⟩,
    .ins ⟨some 50, .buildSlice [.nils, .nils, .nils] 1 3 [(0, (.t 47)), (1, (.t 48)), (2, (.t 49))], none⟩,
    .ins ⟨some 11, .mov (.t 46), none⟩,
    .ins ⟨some 12, .mov (.t 50), none⟩] (some [11, 12]))
  (.seq (.seq (.ops [.ins ⟨some 13, .mov (.c (.int .i64 0)), none⟩] (some [11, 12, 13]))
  (.block 2
   (.loop
    (.seq (.seq (.ops [.ins ⟨some 51, .mov (.t 13), none⟩,
      .ins ⟨some 52, .mov (.t 11), none⟩,
      .ins ⟨some 53, .lenSl (.t 52), none⟩,
      .ins ⟨some 54, .bin .lss (.t 51) (.t 53), none⟩] (some [11, 12, 13, 54]))
    (.cond (.t 54)
     (.skip)
     (.exit 2)))
    (.seq (.block 3
     (.seq (.ops [.ins ⟨some 58, .mov (.t 11), none⟩,
       .ins ⟨some 59, .mov (.t 13), none⟩,
       .ins ⟨some 60, .indexAddrS 2 (.t 58) (.t 59), none⟩,
       .ins ⟨some 61, .load (.many 2) (.t 60), none⟩,
       .ins ⟨some 62, .mov (.t 12), none⟩,
       .ins ⟨some 63, .mov (.t 13), none⟩,
       .ins ⟨some 64, .indexAddrS 1 (.t 62) (.t 63), none⟩,
       .ins ⟨some 65, .load .one (.t 64), none⟩,
       .ins ⟨some 66, .call 35 [(.t 61), (.t 65)], none⟩,
       .ins ⟨some 57, .mov (.t 66), none⟩,
       .ins ⟨some 67, .extract (.t 57) 0, none⟩,
       .ins ⟨some 68, .extract (.t 57) 1, none⟩,
       .ins ⟨some 14, .mov (.t 67), none⟩,
       .ins ⟨some 15, .mov (.t 68), none⟩] (some [11, 12, 13, 14, 15]))
     (.seq (.ops [.ins ⟨some 70, .mov (.t 11), none⟩,
       .ins ⟨some 71, .mov (.t 13), none⟩,
       .ins ⟨some 72, .indexAddrS 2 (.t 70) (.t 71), none⟩,
       .ins ⟨some 73, .load (.many 2) (.t 72), none⟩,
       .ins ⟨some 74, .mov (.t 12), none⟩,
       .ins ⟨some 75, .mov (.t 13), none⟩,
       .ins ⟨some 76, .indexAddrS 1 (.t 74) (.t 75), none⟩,
       .ins ⟨some 77, .load .one (.t 76), none⟩,
       .ins ⟨some 78, .call 36 [(.t 73), (.t 77)], none⟩,
       .ins ⟨some 69, .mov (.t 78), none⟩,
       .ins ⟨some 79, .extract (.t 69) 0, none⟩,
       .ins ⟨some 80, .extract (.t 69) 1, none⟩,
       .ins ⟨some 16, .mov (.t 79), none⟩,
       .ins ⟨some 17, .mov (.t 80), none⟩] (some [11, 12, 13, 14, 15, 16, 17]))
     (.seq (.ops [.ins ⟨some 81, .mov (.t 14), none⟩,
       .ins ⟨some 82, .mov (.t 16), none⟩,
       .ins ⟨some 83, .eq1 .int true (.t 81) (.t 82), none⟩,
       .ins ⟨some 84, .mov (.t 83), none⟩,
       .ins ⟨some 85, .mov (.t 15), some (84, false)⟩,
       .ins ⟨some 86, .mov (.t 17), some (84, false)⟩,
       .ins ⟨some 87, .eq1 .int true (.t 85) (.t 86), some (84, false)⟩,
       .ins ⟨some 88, .pick (.t 84) (.c (.bool true)) (.t 87), none⟩] (some [11, 12, 13, 88]))
     (.cond (.t 88)
      (.seq (.ops [.ins ⟨some 6, .mov (.c (.bool false)), none⟩] (some [6]))
      (.ret))
      (.skip))))))
    (.ops [.ins ⟨some 55, .mov (.t 13), none⟩,
      .ins ⟨some 56, .bin .add (.t 55) (.c (.int .i64 1)), none⟩,
      .ins ⟨some 13, .mov (.t 56), none⟩] (some [11, 12, 13])))) (some [11, 12, 13]))))
  (.seq (.ops [.ins ⟨some 89, .call 17 [], none⟩,
    .ins ⟨some 6, .mov (.t 89), none⟩] (some [6]))
  (.ret))))))))),
  [.tmp 6]⟩

def fnsL6 : FuncId → Option AFn
  | 6 => some A6
  | _ => none
end DC
