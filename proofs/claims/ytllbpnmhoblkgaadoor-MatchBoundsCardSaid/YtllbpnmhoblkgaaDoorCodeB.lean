/- A part of the proof: CodeB. It holds for whatever its statements name; no condition beyond theirs. -/
import Derived.Test.YtllbpnmhoblkgaaDoorAmE
namespace DC
open Go Am
/-- thermion/match.Bound -/
def A35 : AFn := ⟨
  .seq (.ops [.ins ⟨some 2, .box (.t 0), none⟩,
    .ins ⟨some 4, .mov (.c (.int .i64 0)), none⟩,
    .ins ⟨some 5, .mov (.c (.int .i64 0)), none⟩] (some [1, 2, 4, 5]))
  (.seq (.seq (.ops [.ins ⟨some 18, .load (.many 2) (.t 2), none⟩,
    .ins ⟨some 19, .call 20 [(.t 18)], none⟩,
    .ins ⟨some 6, .mov (.t 19), none⟩] (some [1, 2, 4, 5, 6]))
  (.seq (.ops [.ins ⟨some 20, .mov (.t 6), none⟩,
    .ins ⟨some 21, .eq1 .int true (.t 20) (.c (.int .i64 0)), none⟩] (some [1, 2, 4, 5, 6, 21]))
  (.cond (.t 21)
   (.seq (.ops [.ins ⟨some 22, .mov (.t 6), none⟩,
     .ins ⟨some 4, .mov (.c (.int .i64 0)), none⟩,
     .ins ⟨some 5, .mov (.t 22), none⟩] (some [4, 5]))
   (.ret))
   (.skip))))
  (.seq (.seq (.ops [.ins ⟨some 23, .mov (.t 1), none⟩,
    .ins ⟨some 24, .lenSl (.t 23), none⟩,
    .ins ⟨some 25, .mov (.c (.int .i64 0)), none⟩] (some [1, 2, 4, 5, 23, 24, 25]))
  (.block 0
   (.loop
    (.seq (.ops [.ins ⟨some 26, .bin .lss (.t 25) (.t 24), none⟩] (some [1, 2, 4, 5, 23, 24, 25, 26]))
    (.seq (.cond (.t 26)
     (.skip)
     (.exit 0))
    (.seq (.block 1
     (.seq (.ops [.ins ⟨some 27, .mov (.t 25), none⟩,
       .ins ⟨some 28, .indexAddrS 1 (.t 23) (.t 25), none⟩,
       .ins ⟨some 29, .load .one (.t 28), none⟩,
       .ins ⟨some 7, .mov (.t 27), none⟩,
       .ins ⟨some 8, .mov (.t 29), none⟩] (some [1, 2, 4, 5, 7, 8, 23, 24, 25]))
     (.block 2
      (.seq (.ops [.ins ⟨some 31, .mov (.t 8), none⟩,
        .ins ⟨some 32, .fieldAddr 1 (.t 2), none⟩,
        .ins ⟨some 33, .load .one (.t 32), none⟩,
        .ins ⟨some 34, .lenSl (.t 33), none⟩,
        .ins ⟨some 35, .bin .sub (.t 34) (.c (.int .i64 1)), none⟩,
        .ins ⟨some 36, .call 68 [(.t 31), (.c (.int .i64 0)), (.t 35)], none⟩,
        .ins ⟨some 37, .un .not (.t 36), none⟩,
        .ins ⟨some 30, .mov (.t 37), none⟩] (some [1, 2, 4, 5, 7, 8, 23, 24, 25, 30]))
      (.cond (.t 30)
       (.seq (.ops [.ins ⟨some 4, .mov (.c (.int .i64 0)), none⟩,
         .ins ⟨some 5, .mov (.c (.int .i64 7)), none⟩] (some [4, 5]))
       (.ret))
       (.seq (.ops [.ins ⟨some 39, .mov (.t 7), none⟩,
         .ins ⟨some 40, .bin .gtr (.t 39) (.c (.int .i64 0)), none⟩,
         .ins ⟨some 41, .mov (.t 40), none⟩,
         .ins ⟨some 42, .mov (.t 8), some (41, true)⟩,
         .ins ⟨some 43, .mov (.t 1), some (41, true)⟩,
         .ins ⟨some 44, .mov (.t 7), some (41, true)⟩,
         .ins ⟨some 45, .bin .sub (.t 44) (.c (.int .i64 1)), some (41, true)⟩,
         .ins ⟨some 46, .indexAddrS 1 (.t 43) (.t 45), some (41, true)⟩,
         .ins ⟨some 47, .load .one (.t 46), some (41, true)⟩,
         .ins ⟨some 48, .bin .leq (.t 42) (.t 47), some (41, true)⟩,
         .ins ⟨some 49, .pick (.t 41) (.t 48) (.c (.bool false)), none⟩,
         .ins ⟨some 38, .mov (.t 49), none⟩] (some [1, 2, 4, 5, 23, 24, 25, 38]))
       (.cond (.t 38)
        (.seq (.ops [.ins ⟨some 4, .mov (.c (.int .i64 0)), none⟩,
          .ins ⟨some 5, .mov (.c (.int .i64 11)), none⟩] (some [4, 5]))
        (.ret))
        (.skip))))))))
    (.ops [.ins ⟨some 50, .bin .add (.t 25) (.c (.int .i64 1)), none⟩,
      .ins ⟨some 25, .mov (.t 50), none⟩] (some [1, 2, 4, 5, 23, 24, 25]))))) (some [1, 2, 4, 5, 23, 24, 25]))))
  (.seq (.ops [.ins ⟨some 51, .load (.many 2) (.t 2), none⟩,
    .ins ⟨some 52, .call 73 [(.t 51)], none⟩,
    .ins ⟨some 9, .alloc [.nilp], none⟩,
    .ins ⟨none, .store 1 (.t 9) (.t 52), none⟩] (some [1, 4, 5, 9]))
  (.seq (.ops [.ins ⟨some 53, .load .one (.t 9), none⟩,
    .ins ⟨some 54, .call 74 [(.t 53)], none⟩,
    .ins ⟨some 55, .mov (.t 1), none⟩,
    .ins ⟨some 56, .call 77 [(.t 55)], none⟩,
    .ins ⟨some 57, .bin .andNot (.t 54) (.t 56), none⟩,
    .ins ⟨some 10, .mov (.t 57), none⟩] (some [1, 4, 5, 9, 10]))
  (.seq (.ops [.ins ⟨some 11, .mov (.c (.int .i64 0)), none⟩] (some [1, 4, 5, 9, 10, 11]))
  (.seq (.block 3
   (.loop
    (.seq (.seq (.ops [.ins ⟨some 58, .mov (.t 10), none⟩,
      .ins ⟨some 59, .eq1 .int true (.t 58) (.c (.int .u32 0)), none⟩] (some [1, 4, 5, 9, 10, 11, 59]))
    (.cond (.t 59)
     (.skip)
     (.exit 3)))
    (.block 4
     (.seq (.ops [.ins ⟨some 12, .mov (.c (.int .u32 0)), none⟩,
       .ins ⟨some 13, .alloc [(.int .u32 0)], none⟩] (some [1, 4, 5, 9, 10, 11, 12, 13]))
     (.seq (.seq (.ops [.ins ⟨some 60, .mov (.t 10), none⟩,
       .ins ⟨some 61, .call 78 [(.t 60)], none⟩] (some [1, 4, 5, 9, 10, 11, 12, 13, 61]))
     (.block 5
      (.rangeFunc (.t 61) [62]
       (.ops [.ins ⟨some 14, .mov (.t 62), none⟩] (some [13, 14]))
       (.block 6
        (.seq (.ops [.ins ⟨some 63, .mov (.t 14), none⟩,
          .ins ⟨some 64, .buildSlice [(.int .i64 0)] 1 1 [(0, (.t 63))], none⟩,
          .ins ⟨some 65, .call 77 [(.t 64)], none⟩,
          .ins ⟨none, .store 1 (.t 13) (.t 65), none⟩] (some []))
        (.exit 5))))))
     (.seq (.block 7
      (.loop
       (.seq (.seq (.ops [.ins ⟨some 66, .load .one (.t 13), none⟩,
         .ins ⟨some 67, .eq1 .int true (.t 66) (.c (.int .u32 0)), none⟩] (some [1, 4, 5, 9, 10, 11, 12, 13, 67]))
       (.cond (.t 67)
        (.skip)
        (.exit 7)))
       (.block 8
        (.seq (.ops [.ins ⟨some 68, .mov (.t 12), none⟩,
          .ins ⟨some 69, .load .one (.t 13), none⟩,
          .ins ⟨some 70, .bin .or (.t 68) (.t 69), none⟩,
          .ins ⟨some 12, .mov (.t 70), none⟩] (some [1, 4, 5, 9, 10, 11, 12, 13]))
        (.seq (.ops [.ins ⟨some 15, .alloc [(.int .u32 0)], none⟩] (some [1, 4, 5, 9, 10, 11, 12, 13, 15]))
        (.seq (.seq (.ops [.ins ⟨some 71, .load .one (.t 13), none⟩,
          .ins ⟨some 72, .call 78 [(.t 71)], none⟩] (some [1, 4, 5, 9, 10, 11, 12, 13, 15, 72]))
        (.block 9
         (.rangeFunc (.t 72) [73]
          (.ops [.ins ⟨some 16, .mov (.t 73), none⟩] (some [9, 15, 16]))
          (.block 10
           (.ops [.ins ⟨some 74, .load .one (.t 15), none⟩,
             .ins ⟨some 75, .load .one (.t 9), none⟩,
             .ins ⟨some 76, .nilCheck (.t 75), none⟩,
             .ins ⟨some 77, .fieldAddr 1 (.t 76), none⟩,
             .ins ⟨some 78, .load .one (.t 77), none⟩,
             .ins ⟨some 79, .mov (.t 16), none⟩,
             .ins ⟨some 80, .indexAddrS 1 (.t 78) (.t 79), none⟩,
             .ins ⟨some 81, .load .one (.t 80), none⟩,
             .ins ⟨some 82, .bin .or (.t 74) (.t 81), none⟩,
             .ins ⟨none, .store 1 (.t 15) (.t 82), none⟩] (some []))))))
        (.ops [.ins ⟨some 83, .load .one (.t 15), none⟩,
          .ins ⟨some 84, .mov (.t 10), none⟩,
          .ins ⟨some 85, .bin .and (.t 83) (.t 84), none⟩,
          .ins ⟨some 86, .mov (.t 12), none⟩,
          .ins ⟨some 87, .bin .andNot (.t 85) (.t 86), none⟩,
          .ins ⟨none, .store 1 (.t 13) (.t 87), none⟩] (some [1, 4, 5, 9, 10, 11, 12, 13]))))))) (some [1, 4, 5, 9, 10, 11, 12, 13])))
     (.seq (.ops [.ins ⟨some 17, .alloc [(.int .i64 0)], none⟩,
       .ins ⟨none, .store 1 (.t 17) (.c (.int .i64 0)), none⟩] (some [1, 4, 5, 9, 10, 11, 12, 17]))
     (.seq (.seq (.ops [.ins ⟨some 88, .mov (.t 12), none⟩,
       .ins ⟨some 89, .call 78 [(.t 88)], none⟩] (some [1, 4, 5, 9, 10, 11, 12, 17, 89]))
     (.block 11
      (.rangeFunc (.t 89) [90]
       (.skip)
       (.block 12
        (.ops [.ins ⟨some 91, .load .one (.t 17), none⟩,
          .ins ⟨some 92, .bin .add (.t 91) (.c (.int .i64 1)), none⟩,
          .ins ⟨none, .store 1 (.t 17) (.t 92), none⟩] (some []))))))
     (.seq (.ops [.ins ⟨some 93, .mov (.t 11), none⟩,
       .ins ⟨some 94, .load .one (.t 17), none⟩,
       .ins ⟨some 95, .bin .rem (.t 94) (.c (.int .i64 2)), none⟩,
       .ins ⟨some 96, .bin .add (.t 93) (.t 95), none⟩,
       .ins ⟨some 11, .mov (.t 96), none⟩] (some [1, 4, 5, 9, 10, 11, 12]))
     (.ops [.ins ⟨some 97, .mov (.t 10), none⟩,
       .ins ⟨some 98, .mov (.t 12), none⟩,
       .ins ⟨some 99, .bin .andNot (.t 97) (.t 98), none⟩,
       .ins ⟨some 10, .mov (.t 99), none⟩] (some [1, 4, 5, 9, 10, 11])))))))))) (some [1, 4, 5, 9, 10, 11])))
  (.seq (.ops [.ins ⟨some 100, .load .one (.t 9), none⟩,
    .ins ⟨some 101, .nilCheck (.t 100), none⟩,
    .ins ⟨some 102, .fieldAddr 0 (.t 101), none⟩,
    .ins ⟨some 103, .load .one (.t 102), none⟩,
    .ins ⟨some 104, .mov (.t 1), none⟩,
    .ins ⟨some 105, .lenSl (.t 104), none⟩,
    .ins ⟨some 106, .bin .add (.t 103) (.t 105), none⟩,
    .ins ⟨some 107, .mov (.t 11), none⟩,
    .ins ⟨some 108, .bin .sub (.t 106) (.t 107), none⟩,
    .ins ⟨some 109, .bin .quo (.t 108) (.c (.int .i64 2)), none⟩,
    .ins ⟨some 4, .mov (.t 109), none⟩,
    .ins ⟨some 5, .mov (.c (.int .i64 0)), none⟩] (some [4, 5]))
  (.ret)))))))),
  [.tmp 4, .tmp 5]⟩

/-- thermion/thermionref08.Bound -/
def A36 : AFn := ⟨
  .seq (.ops [.ins ⟨some 2, .box (.t 0), none⟩,
    .ins ⟨some 4, .mov (.c (.int .i64 0)), none⟩,
    .ins ⟨some 5, .mov (.c (.int .i64 0)), none⟩] (some [1, 2]))
  (.seq (.seq (.ops [.ins ⟨some 11, .load (.many 2) (.t 2), none⟩,
    .ins ⟨some 12, .mov (.t 1), none⟩,
    .ins ⟨some 13, .call 82 [(.t 11), (.t 12)], none⟩,
    .ins ⟨some 6, .mov (.t 13), none⟩] (some [1, 2, 6]))
  (.seq (.ops [.ins ⟨some 14, .mov (.t 6), none⟩,
    .ins ⟨some 15, .eq1 .int true (.t 14) (.c (.int .i64 0)), none⟩] (some [1, 2, 6, 15]))
  (.cond (.t 15)
   (.seq (.ops [.ins ⟨some 16, .mov (.t 6), none⟩,
     .ins ⟨some 4, .mov (.c (.int .i64 0)), none⟩,
     .ins ⟨some 5, .mov (.t 16), none⟩] (some [4, 5]))
   (.ret))
   (.skip))))
  (.seq (.ops [.ins ⟨some 17, .fieldAddr 1 (.t 2), none⟩,
    .ins ⟨some 18, .load .one (.t 17), none⟩,
    .ins ⟨some 19, .lenSl (.t 18), none⟩,
    .ins ⟨some 20, .makeSlice [(.bool false)] 1 (.t 19), none⟩,
    .ins ⟨some 7, .mov (.t 20), none⟩] (some [1, 2, 7]))
  (.seq (.seq (.ops [.ins ⟨some 8, .mov (.c (.int .i64 0)), none⟩] (some [1, 2, 7, 8]))
  (.block 0
   (.loop
    (.seq (.seq (.ops [.ins ⟨some 21, .mov (.t 8), none⟩,
      .ins ⟨some 22, .mov (.t 1), none⟩,
      .ins ⟨some 23, .lenSl (.t 22), none⟩,
      .ins ⟨some 24, .bin .lss (.t 21) (.t 23), none⟩] (some [1, 2, 7, 8, 24]))
    (.cond (.t 24)
     (.skip)
     (.exit 0)))
    (.seq (.block 1
     (.ops [.ins ⟨some 27, .mov (.t 7), none⟩,
       .ins ⟨some 28, .mov (.t 1), none⟩,
       .ins ⟨some 29, .mov (.t 8), none⟩,
       .ins ⟨some 30, .indexAddrS 1 (.t 28) (.t 29), none⟩,
       .ins ⟨some 31, .load .one (.t 30), none⟩,
       .ins ⟨some 32, .indexAddrS 1 (.t 27) (.t 31), none⟩,
       .ins ⟨none, .store 1 (.t 32) (.c (.bool true)), none⟩] (some [1, 2, 7, 8])))
    (.ops [.ins ⟨some 25, .mov (.t 8), none⟩,
      .ins ⟨some 26, .bin .add (.t 25) (.c (.int .i64 1)), none⟩,
      .ins ⟨some 8, .mov (.t 26), none⟩] (some [1, 2, 7, 8])))) (some [1, 2, 7, 8]))))
  (.seq (.ops [.ins ⟨some 9, .mov (.c (.int .i64 0)), none⟩] (some [1, 2, 7, 9]))
  (.seq (.seq (.ops [.ins ⟨some 10, .mov (.c (.int .i64 0)), none⟩] (some [1, 2, 7, 9, 10]))
  (.block 2
   (.loop
    (.seq (.seq (.ops [.ins ⟨some 33, .mov (.t 10), none⟩,
      .ins ⟨some 34, .mov (.t 7), none⟩,
      .ins ⟨some 35, .lenSl (.t 34), none⟩,
      .ins ⟨some 36, .bin .lss (.t 33) (.t 35), none⟩] (some [1, 2, 7, 9, 10, 36]))
    (.cond (.t 36)
     (.skip)
     (.exit 2)))
    (.seq (.block 3
     (.seq (.ops [.ins ⟨some 39, .mov (.t 7), none⟩,
       .ins ⟨some 40, .mov (.t 10), none⟩,
       .ins ⟨some 41, .indexAddrS 1 (.t 39) (.t 40), none⟩,
       .ins ⟨some 42, .load .one (.t 41), none⟩,
       .ins ⟨some 43, .un .not (.t 42), none⟩,
       .ins ⟨some 44, .mov (.t 43), none⟩,
       .ins ⟨some 45, .load (.many 2) (.t 2), some (44, true)⟩,
       .ins ⟨some 46, .mov (.t 7), some (44, true)⟩,
       .ins ⟨some 47, .mov (.t 10), some (44, true)⟩,
       .ins ⟨some 48, .call 83 [(.t 45), (.t 46), (.t 47)], some (44, true)⟩,
       .ins ⟨some 49, .bin .rem (.t 48) (.c (.int .i64 2)), some (44, true)⟩,
       .ins ⟨some 50, .eq1 .int false (.t 49) (.c (.int .i64 1)), some (44, true)⟩,
       .ins ⟨some 51, .pick (.t 44) (.t 50) (.c (.bool false)), none⟩] (some [1, 2, 7, 9, 10, 51]))
     (.cond (.t 51)
      (.ops [.ins ⟨some 52, .mov (.t 9), none⟩,
        .ins ⟨some 53, .bin .add (.t 52) (.c (.int .i64 1)), none⟩,
        .ins ⟨some 9, .mov (.t 53), none⟩] (some [1, 2, 7, 9, 10]))
      (.skip))))
    (.ops [.ins ⟨some 37, .mov (.t 10), none⟩,
      .ins ⟨some 38, .bin .add (.t 37) (.c (.int .i64 1)), none⟩,
      .ins ⟨some 10, .mov (.t 38), none⟩] (some [1, 2, 7, 9, 10])))) (some [1, 2, 7, 9, 10]))))
  (.seq (.ops [.ins ⟨some 54, .fieldAddr 1 (.t 2), none⟩,
    .ins ⟨some 55, .load .one (.t 54), none⟩,
    .ins ⟨some 56, .lenSl (.t 55), none⟩,
    .ins ⟨some 57, .mov (.t 1), none⟩,
    .ins ⟨some 58, .lenSl (.t 57), none⟩,
    .ins ⟨some 59, .bin .add (.t 56) (.t 58), none⟩,
    .ins ⟨some 60, .mov (.t 9), none⟩,
    .ins ⟨some 61, .bin .sub (.t 59) (.t 60), none⟩,
    .ins ⟨some 62, .bin .quo (.t 61) (.c (.int .i64 2)), none⟩,
    .ins ⟨some 4, .mov (.t 62), none⟩,
    .ins ⟨some 5, .mov (.c (.int .i64 0)), none⟩] (some [4, 5]))
  (.ret))))))),
  [.tmp 4, .tmp 5]⟩

/-- thermion/thermionref08.checkCut -/
def A82 : AFn := ⟨
  .seq (.ops [.ins ⟨some 2, .box (.t 0), none⟩,
    .ins ⟨some 4, .mov (.c (.int .i64 0)), none⟩] (some [1, 2]))
  (.seq (.seq (.ops [.ins ⟨some 7, .load (.many 2) (.t 2), none⟩,
    .ins ⟨some 8, .call 21 [(.t 7)], none⟩,
    .ins ⟨some 5, .mov (.t 8), none⟩] (some [1, 2, 5]))
  (.seq (.ops [.ins ⟨some 9, .mov (.t 5), none⟩,
    .ins ⟨some 10, .eq1 .int true (.t 9) (.c (.int .i64 0)), none⟩] (some [1, 2, 5, 10]))
  (.cond (.t 10)
   (.seq (.ops [.ins ⟨some 11, .mov (.t 5), none⟩,
     .ins ⟨some 4, .mov (.t 11), none⟩] (some [4]))
   (.ret))
   (.skip))))
  (.seq (.seq (.ops [.ins ⟨some 6, .mov (.c (.int .i64 0)), none⟩] (some [1, 2, 6]))
  (.block 0
   (.loop
    (.seq (.seq (.ops [.ins ⟨some 12, .mov (.t 6), none⟩,
      .ins ⟨some 13, .mov (.t 1), none⟩,
      .ins ⟨some 14, .lenSl (.t 13), none⟩,
      .ins ⟨some 15, .bin .lss (.t 12) (.t 14), none⟩] (some [1, 2, 6, 15]))
    (.cond (.t 15)
     (.skip)
     (.exit 0)))
    (.seq (.block 1
     (.seq (.seq (.ops [.ins ⟨some 18, .mov (.t 1), none⟩,
       .ins ⟨some 19, .mov (.t 6), none⟩,
       .ins ⟨some 20, .indexAddrS 1 (.t 18) (.t 19), none⟩,
       .ins ⟨some 21, .load .one (.t 20), none⟩,
       .ins ⟨some 22, .fieldAddr 1 (.t 2), none⟩,
       .ins ⟨some 23, .load .one (.t 22), none⟩,
       .ins ⟨some 24, .lenSl (.t 23), none⟩,
       .ins ⟨some 25, .bin .sub (.t 24) (.c (.int .i64 1)), none⟩,
       .ins ⟨some 26, .call 69 [(.t 21), (.c (.int .i64 0)), (.t 25)], none⟩,
       .ins ⟨some 27, .un .not (.t 26), none⟩] (some [1, 2, 6, 27]))
     (.cond (.t 27)
      (.seq (.ops [.ins ⟨some 4, .mov (.c (.int .i64 7)), none⟩] (some [4]))
      (.ret))
      (.skip)))
     (.seq (.ops [.ins ⟨some 28, .mov (.t 6), none⟩,
       .ins ⟨some 29, .bin .gtr (.t 28) (.c (.int .i64 0)), none⟩,
       .ins ⟨some 30, .mov (.t 29), none⟩,
       .ins ⟨some 31, .mov (.t 1), some (30, true)⟩,
       .ins ⟨some 32, .mov (.t 6), some (30, true)⟩,
       .ins ⟨some 33, .indexAddrS 1 (.t 31) (.t 32), some (30, true)⟩,
       .ins ⟨some 34, .load .one (.t 33), some (30, true)⟩,
       .ins ⟨some 35, .mov (.t 1), some (30, true)⟩,
       .ins ⟨some 36, .mov (.t 6), some (30, true)⟩,
       .ins ⟨some 37, .bin .sub (.t 36) (.c (.int .i64 1)), some (30, true)⟩,
       .ins ⟨some 38, .indexAddrS 1 (.t 35) (.t 37), some (30, true)⟩,
       .ins ⟨some 39, .load .one (.t 38), some (30, true)⟩,
       .ins ⟨some 40, .bin .leq (.t 34) (.t 39), some (30, true)⟩,
       .ins ⟨some 41, .pick (.t 30) (.t 40) (.c (.bool false)), none⟩] (some [1, 2, 6, 41]))
     (.cond (.t 41)
      (.seq (.ops [.ins ⟨some 4, .mov (.c (.int .i64 11)), none⟩] (some [4]))
      (.ret))
      (.skip)))))
    (.ops [.ins ⟨some 16, .mov (.t 6), none⟩,
      .ins ⟨some 17, .bin .add (.t 16) (.c (.int .i64 1)), none⟩,
      .ins ⟨some 6, .mov (.t 17), none⟩] (some [1, 2, 6])))) (some [1, 2, 6]))))
  (.seq (.ops [.ins ⟨some 4, .mov (.c (.int .i64 0)), none⟩] (some [4]))
  (.ret)))),
  [.tmp 4]⟩

/-- thermion/thermionref08.spread -/
def A83 : AFn := ⟨
  .seq (.ops [.ins ⟨some 3, .box (.t 0), none⟩,
    .ins ⟨some 6, .mov (.c (.int .i64 0)), none⟩] (some [1, 2, 3]))
  (.seq (.ops [.ins ⟨some 9, .mov (.t 1), none⟩,
    .ins ⟨some 10, .mov (.t 2), none⟩,
    .ins ⟨some 11, .indexAddrS 1 (.t 9) (.t 10), none⟩,
    .ins ⟨none, .store 1 (.t 11) (.c (.bool true)), none⟩] (some [1, 2, 3]))
  (.seq (.ops [.ins ⟨some 7, .mov (.c (.int .i64 1)), none⟩] (some [1, 2, 3, 7]))
  (.seq (.seq (.ops [.ins ⟨some 8, .mov (.c (.int .i64 0)), none⟩] (some [1, 2, 3, 7, 8]))
  (.block 0
   (.loop
    (.seq (.seq (.ops [.ins ⟨some 12, .mov (.t 8), none⟩,
      .ins ⟨some 13, .fieldAddr 1 (.t 3), none⟩,
      .ins ⟨some 14, .load .one (.t 13), none⟩,
      .ins ⟨some 15, .lenSl (.t 14), none⟩,
      .ins ⟨some 16, .bin .lss (.t 12) (.t 15), none⟩] (some [1, 2, 3, 7, 8, 16]))
    (.cond (.t 16)
     (.skip)
     (.exit 0)))
    (.seq (.block 1
     (.seq (.ops [.ins ⟨some 19, .mov (.t 1), none⟩,
       .ins ⟨some 20, .mov (.t 8), none⟩,
       .ins ⟨some 21, .indexAddrS 1 (.t 19) (.t 20), none⟩,
       .ins ⟨some 22, .load .one (.t 21), none⟩,
       .ins ⟨some 23, .un .not (.t 22), none⟩,
       .ins ⟨some 24, .mov (.t 23), none⟩,
       .ins ⟨some 25, .load (.many 2) (.t 3), some (24, true)⟩,
       .ins ⟨some 26, .mov (.t 2), some (24, true)⟩,
       .ins ⟨some 27, .mov (.t 8), some (24, true)⟩,
       .ins ⟨some 28, .call 72 [(.t 25), (.t 26), (.t 27)], some (24, true)⟩,
       .ins ⟨some 29, .pick (.t 24) (.t 28) (.c (.bool false)), none⟩] (some [1, 2, 3, 7, 8, 29]))
     (.cond (.t 29)
      (.ops [.ins ⟨some 30, .mov (.t 7), none⟩,
        .ins ⟨some 31, .load (.many 2) (.t 3), none⟩,
        .ins ⟨some 32, .mov (.t 1), none⟩,
        .ins ⟨some 33, .mov (.t 8), none⟩,
        .ins ⟨some 34, .call 83 [(.t 31), (.t 32), (.t 33)], none⟩,
        .ins ⟨some 35, .bin .add (.t 30) (.t 34), none⟩,
        .ins ⟨some 7, .mov (.t 35), none⟩] (some [1, 2, 3, 7, 8]))
      (.skip))))
    (.ops [.ins ⟨some 17, .mov (.t 8), none⟩,
      .ins ⟨some 18, .bin .add (.t 17) (.c (.int .i64 1)), none⟩,
      .ins ⟨some 8, .mov (.t 18), none⟩] (some [1, 2, 3, 7, 8])))) (some [1, 2, 3, 7, 8]))))
  (.seq (.ops [.ins ⟨some 36, .mov (.t 7), none⟩,
    .ins ⟨some 6, .mov (.t 36), none⟩] (some [6]))
  (.ret))))),
  [.tmp 6]⟩

def fnsB : FuncId → Option AFn
  | 35 => some A35
  | 36 => some A36
  | 82 => some A82
  | 83 => some A83
  | _ => none
end DC
