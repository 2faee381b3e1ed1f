/- A part of the proof: CodeA. It holds for whatever its statements name; no condition beyond theirs. -/
import Derived.Test.YtllbpnmhoblkgaaDoorAmE
namespace DC
open Go Am
/-- thermion/thermionlaw08.large -/
def A16 : AFn := ⟨
  .seq (.ops [.ins ⟨some 1, .box (.t 0), none⟩,
    .ins ⟨some 2, .mov (.c (.bool false)), none⟩] (some [1]))
  (.seq (.seq (.ops [.ins ⟨some 4, .fieldAddr 0 (.t 1), none⟩,
    .ins ⟨some 5, .load .one (.t 4), none⟩,
    .ins ⟨some 6, .lenSl (.t 5), none⟩,
    .ins ⟨some 7, .bin .gtr (.t 6) (.c (.int .i64 20)), none⟩,
    .ins ⟨some 8, .mov (.t 7), none⟩,
    .ins ⟨some 9, .fieldAddr 1 (.t 1), some (8, false)⟩,
    .ins ⟨some 10, .load .one (.t 9), some (8, false)⟩,
    .ins ⟨some 11, .lenSl (.t 10), some (8, false)⟩,
    .ins ⟨some 12, .bin .gtr (.t 11) (.c (.int .i64 40)), some (8, false)⟩,
    .ins ⟨some 13, .pick (.t 8) (.c (.bool true)) (.t 12), none⟩] (some [1, 13]))
  (.cond (.t 13)
   (.seq (.ops [.ins ⟨some 2, .mov (.c (.bool true)), none⟩] (some [2]))
   (.ret))
   (.skip)))
  (.seq (.seq (.ops [.ins ⟨some 3, .mov (.c (.int .i64 0)), none⟩] (some [1, 3]))
  (.block 0
   (.loop
    (.seq (.seq (.ops [.ins ⟨some 14, .mov (.t 3), none⟩,
      .ins ⟨some 15, .fieldAddr 1 (.t 1), none⟩,
      .ins ⟨some 16, .load .one (.t 15), none⟩,
      .ins ⟨some 17, .lenSl (.t 16), none⟩,
      .ins ⟨some 18, .bin .lss (.t 14) (.t 17), none⟩] (some [1, 3, 18]))
    (.cond (.t 18)
     (.skip)
     (.exit 0)))
    (.seq (.block 1
     (.seq (.ops [.ins ⟨some 21, .fieldAddr 1 (.t 1), none⟩,
       .ins ⟨some 22, .load .one (.t 21), none⟩,
       .ins ⟨some 23, .mov (.t 3), none⟩,
       .ins ⟨some 24, .indexAddrS 1 (.t 22) (.t 23), none⟩,
       .ins ⟨some 25, .load .one (.t 24), none⟩,
       .ins ⟨some 26, .lenSl (.t 25), none⟩,
       .ins ⟨some 27, .bin .gtr (.t 26) (.c (.int .i64 20)), none⟩] (some [1, 3, 27]))
     (.cond (.t 27)
      (.seq (.ops [.ins ⟨some 2, .mov (.c (.bool true)), none⟩] (some [2]))
      (.ret))
      (.skip))))
    (.ops [.ins ⟨some 19, .mov (.t 3), none⟩,
      .ins ⟨some 20, .bin .add (.t 19) (.c (.int .i64 1)), none⟩,
      .ins ⟨some 3, .mov (.t 20), none⟩] (some [1, 3])))) (some [1, 3]))))
  (.seq (.ops [.ins ⟨some 2, .mov (.c (.bool false)), none⟩] (some [2]))
  (.ret)))),
  [.tmp 2]⟩

/-- thermion/thermionkit.SortingOf -/
def A18 : AFn := ⟨
  .seq (.ops [.ins ⟨some 4, .alloc [.nils, .nils], none⟩] (some [0, 1, 4]))
  (.seq (.ops [.ins ⟨some 5, .alloc [.nils, .nils], none⟩] (some [0, 1, 4, 5]))
  (.seq (.seq (.ops [.ins ⟨some 14, .mov (.t 0), none⟩,
    .ins ⟨some 15, .call 57 [(.t 14), (.c (.int .i64 1)), (.c (.int .i64 2))], none⟩,
    .ins ⟨some 6, .mov (.t 15), none⟩] (some [0, 1, 4, 5, 6]))
  (.block 0
   (.loop
    (.seq (.seq (.ops [.ins ⟨some 16, .mov (.t 6), none⟩,
      .ins ⟨some 17, .bin .gtr (.t 16) (.c (.int .i64 0)), none⟩] (some [0, 1, 4, 5, 6, 17]))
    (.cond (.t 17)
     (.skip)
     (.exit 0)))
    (.seq (.block 1
     (.ops [.ins ⟨some 20, .fieldAddr 0 (.t 5), none⟩,
       .ins ⟨some 21, .load .one (.t 20), none⟩,
       .ins ⟨some 22, .mov (.t 0), none⟩,
       .ins ⟨some 23, .call 41 [(.t 22), (.c (.int .i64 9))], none⟩,
       .chk ⟨some 21, .load .one (.t 20), none⟩,
       .ins ⟨some 24, .buildSlice [(.int .i64 0)] 1 1 [(0, (.t 23))], none⟩,
       .ins ⟨some 25, .append 1 8 (.t 21) (.t 24), none⟩,
       .ins ⟨some 26, .fieldAddr 0 (.t 5), none⟩,
       .ins ⟨none, .store 1 (.t 26) (.t 25), none⟩] (some [0, 1, 4, 5, 6])))
    (.ops [.ins ⟨some 18, .mov (.t 6), none⟩,
      .ins ⟨some 19, .bin .sub (.t 18) (.c (.int .i64 1)), none⟩,
      .ins ⟨some 6, .mov (.t 19), none⟩] (some [0, 1, 4, 5, 6])))) (some [0, 1, 4, 5, 6]))))
  (.seq (.ops [.ins ⟨some 27, .mov (.t 0), none⟩,
    .ins ⟨some 28, .call 57 [(.t 27), (.c (.int .i64 4)), (.c (.int .i64 40))], none⟩,
    .ins ⟨some 29, .mov (.t 0), none⟩,
    .ins ⟨some 30, .call 34 [(.t 29), (.c (.int .i64 2))], none⟩,
    .ins ⟨some 7, .mov (.t 28), none⟩,
    .ins ⟨some 8, .mov (.t 30), none⟩] (some [0, 1, 4, 5, 7, 8]))
  (.seq (.seq (.ops [.ins ⟨some 31, .mov (.t 0), none⟩,
    .ins ⟨some 32, .mov (.t 1), none⟩,
    .ins ⟨some 33, .bin .add (.t 32) (.c (.int .i64 1)), none⟩,
    .ins ⟨some 34, .call 41 [(.t 31), (.t 33)], none⟩,
    .ins ⟨some 9, .mov (.t 34), none⟩] (some [0, 4, 5, 7, 8, 9]))
  (.block 2
   (.loop
    (.seq (.seq (.ops [.ins ⟨some 35, .mov (.t 9), none⟩,
      .ins ⟨some 36, .bin .gtr (.t 35) (.c (.int .i64 0)), none⟩] (some [0, 4, 5, 7, 8, 9, 36]))
    (.cond (.t 36)
     (.skip)
     (.exit 2)))
    (.seq (.block 3
     (.seq (.ops [.ins ⟨some 10, .mov (.c .nils), none⟩] (some [0, 4, 5, 7, 8, 9, 10]))
     (.seq (.seq (.ops [.ins ⟨some 11, .mov (.c (.int .i64 0)), none⟩] (some [0, 4, 5, 7, 8, 9, 10, 11]))
     (.block 4
      (.loop
       (.seq (.seq (.ops [.ins ⟨some 39, .mov (.t 11), none⟩,
         .ins ⟨some 40, .fieldAddr 0 (.t 5), none⟩,
         .ins ⟨some 41, .load .one (.t 40), none⟩,
         .ins ⟨some 42, .lenSl (.t 41), none⟩,
         .ins ⟨some 43, .bin .lss (.t 39) (.t 42), none⟩] (some [0, 4, 5, 7, 8, 9, 10, 11, 43]))
       (.cond (.t 43)
        (.skip)
        (.exit 4)))
       (.seq (.block 5
        (.seq (.ops [.ins ⟨some 46, .mov (.t 0), none⟩,
          .ins ⟨some 47, .mov (.t 7), none⟩,
          .ins ⟨some 48, .call 41 [(.t 46), (.t 47)], none⟩,
          .ins ⟨some 12, .mov (.t 48), none⟩] (some [0, 4, 5, 7, 8, 9, 10, 11, 12]))
        (.seq (.ops [.ins ⟨some 49, .mov (.t 12), none⟩,
          .ins ⟨some 50, .mov (.t 12), none⟩,
          .ins ⟨some 51, .build [(.int .i64 0), (.int .i64 0)] [(0, 1, (.t 49)), (1, 1, (.t 50))], none⟩,
          .ins ⟨some 13, .alloc [(.int .i64 0), (.int .i64 0)], none⟩,
          .ins ⟨none, .store 2 (.t 13) (.t 51), none⟩] (some [0, 4, 5, 7, 8, 9, 10, 11, 12, 13]))
        (.seq (.seq (.ops [.ins ⟨some 52, .mov (.t 8), none⟩,
          .ins ⟨some 53, .un .not (.t 52), none⟩] (some [0, 4, 5, 7, 8, 9, 10, 11, 12, 13, 53]))
        (.cond (.t 53)
         (.ops [.ins ⟨some 54, .mov (.t 12), none⟩,
           .ins ⟨some 55, .mov (.t 0), none⟩,
           .ins ⟨some 56, .call 41 [(.t 55), (.c (.int .i64 4))], none⟩,
           .ins ⟨some 57, .bin .add (.t 54) (.t 56), none⟩,
           .ins ⟨some 58, .fieldAddr 1 (.t 13), none⟩,
           .ins ⟨none, .store 1 (.t 58) (.t 57), none⟩] (some [0, 4, 5, 7, 8, 9, 10, 11, 13]))
         (.skip)))
        (.ops [.ins ⟨some 59, .mov (.t 10), none⟩,
          .ins ⟨some 60, .load (.many 2) (.t 13), none⟩,
          .ins ⟨some 61, .buildSlice [(.int .i64 0), (.int .i64 0)] 2 1 [(0, (.t 60))], none⟩,
          .ins ⟨some 62, .append 2 16 (.t 59) (.t 61), none⟩,
          .ins ⟨some 10, .mov (.t 62), none⟩] (some [0, 4, 5, 7, 8, 9, 10, 11]))))))
       (.ops [.ins ⟨some 44, .mov (.t 11), none⟩,
         .ins ⟨some 45, .bin .add (.t 44) (.c (.int .i64 1)), none⟩,
         .ins ⟨some 11, .mov (.t 45), none⟩] (some [0, 4, 5, 7, 8, 9, 10, 11])))) (some [0, 4, 5, 7, 8, 9, 10, 11]))))
     (.ops [.ins ⟨some 63, .fieldAddr 1 (.t 5), none⟩,
       .ins ⟨some 64, .load .one (.t 63), none⟩,
       .ins ⟨some 65, .mov (.t 10), none⟩,
       .ins ⟨some 66, .buildSlice [.nils] 1 1 [(0, (.t 65))], none⟩,
       .ins ⟨some 67, .append 1 24 (.t 64) (.t 66), none⟩,
       .ins ⟨some 68, .fieldAddr 1 (.t 5), none⟩,
       .ins ⟨none, .store 1 (.t 68) (.t 67), none⟩] (some [0, 4, 5, 7, 8, 9])))))
    (.ops [.ins ⟨some 37, .mov (.t 9), none⟩,
      .ins ⟨some 38, .bin .sub (.t 37) (.c (.int .i64 1)), none⟩,
      .ins ⟨some 9, .mov (.t 38), none⟩] (some [0, 4, 5, 7, 8, 9])))) (some [0, 4, 5, 7, 8, 9]))))
  (.seq (.ops [.ins ⟨some 69, .load (.many 2) (.t 5), none⟩,
    .ins ⟨none, .store 2 (.t 4) (.t 69), none⟩] (some [4]))
  (.ret)))))),
  [.cell 4 (.many 2)]⟩

/-- thermion/thermionkit.NewDice -/
def A19 : AFn := ⟨
  .seq (.ops [.ins ⟨some 2, .mov (.c .nilp), none⟩] (some [0]))
  (.seq (.ops [.ins ⟨some 5, .mov (.t 0), none⟩,
    .ins ⟨some 6, .lenSl (.t 5), none⟩,
    .ins ⟨some 7, .convInt .u64 (.t 6), none⟩,
    .ins ⟨some 8, .bin .add (.t 7) (.c (.int .u64 1374496523)), none⟩,
    .ins ⟨some 9, .build [(.int .u64 0)] [(0, 1, (.t 8))], none⟩,
    .ins ⟨some 10, .box (.t 9), none⟩,
    .ins ⟨some 3, .mov (.t 10), none⟩] (some [0, 3]))
  (.seq (.seq (.ops [.ins ⟨some 4, .mov (.c (.int .i64 0)), none⟩] (some [0, 3, 4]))
  (.block 0
   (.loop
    (.seq (.seq (.ops [.ins ⟨some 11, .mov (.t 4), none⟩,
      .ins ⟨some 12, .mov (.t 0), none⟩,
      .ins ⟨some 13, .lenSl (.t 12), none⟩,
      .ins ⟨some 14, .bin .lss (.t 11) (.t 13), none⟩] (some [0, 3, 4, 14]))
    (.cond (.t 14)
     (.skip)
     (.exit 0)))
    (.seq (.block 1
     (.seq (.ops [.ins ⟨some 17, .mov (.t 3), none⟩,
       .ins ⟨some 18, .mov (.t 3), none⟩,
       .ins ⟨some 19, .nilCheck (.t 18), none⟩,
       .ins ⟨some 20, .fieldAddr 0 (.t 19), none⟩,
       .ins ⟨some 21, .load .one (.t 20), none⟩,
       .ins ⟨some 22, .mov (.t 0), none⟩,
       .ins ⟨some 23, .mov (.t 4), none⟩,
       .ins ⟨some 24, .indexAddrS 1 (.t 22) (.t 23), none⟩,
       .ins ⟨some 25, .load .one (.t 24), none⟩,
       .ins ⟨some 26, .convInt .u64 (.t 25), none⟩,
       .ins ⟨some 27, .bin .xor (.t 21) (.t 26), none⟩,
       .ins ⟨some 28, .nilCheck (.t 17), none⟩,
       .ins ⟨some 29, .fieldAddr 0 (.t 28), none⟩,
       .ins ⟨none, .store 1 (.t 29) (.t 27), none⟩] (some [0, 3, 4]))
     (.ops [.ins ⟨some 30, .mov (.t 3), none⟩,
       .ins ⟨some 31, .call 65 [(.t 30)], none⟩] (some [0, 3, 4]))))
    (.ops [.ins ⟨some 15, .mov (.t 4), none⟩,
      .ins ⟨some 16, .bin .add (.t 15) (.c (.int .i64 1)), none⟩,
      .ins ⟨some 4, .mov (.t 16), none⟩] (some [0, 3, 4])))) (some [0, 3, 4]))))
  (.seq (.ops [.ins ⟨some 32, .mov (.t 3), none⟩,
    .ins ⟨some 2, .mov (.t 32), none⟩] (some [2]))
  (.ret)))),
  [.tmp 2]⟩

/-- thermion/match.Check -/
def A20 : AFn := ⟨
  .seq (.ops [.ins ⟨some 1, .box (.t 0), none⟩,
    .ins ⟨some 2, .mov (.c (.int .i64 0)), none⟩] (some [1]))
  (.seq (.block 0
   (.seq (.ops [.ins ⟨some 8, .fieldAddr 0 (.t 1), none⟩,
     .ins ⟨some 9, .load .one (.t 8), none⟩,
     .ins ⟨some 10, .lenSl (.t 9), none⟩,
     .ins ⟨some 11, .eq1 .int false (.t 10) (.c (.int .i64 0)), none⟩,
     .ins ⟨some 7, .mov (.t 11), none⟩] (some [1, 7]))
   (.cond (.t 7)
    (.seq (.ops [.ins ⟨some 2, .mov (.c (.int .i64 6)), none⟩] (some [2]))
    (.ret))
    (.seq (.ops [.ins ⟨some 13, .fieldAddr 0 (.t 1), none⟩,
      .ins ⟨some 14, .load .one (.t 13), none⟩,
      .ins ⟨some 15, .lenSl (.t 14), none⟩,
      .ins ⟨some 16, .bin .gtr (.t 15) (.c (.int .i64 4)), none⟩,
      .ins ⟨some 12, .mov (.t 16), none⟩] (some [1, 12]))
    (.cond (.t 12)
     (.seq (.ops [.ins ⟨some 2, .mov (.c (.int .i64 8)), none⟩] (some [2]))
     (.ret))
     (.seq (.ops [.ins ⟨some 18, .fieldAddr 0 (.t 1), none⟩,
       .ins ⟨some 19, .load .one (.t 18), none⟩,
       .ins ⟨some 20, .call 66 [(.t 19), (.c (.fn 67 []))], none⟩,
       .ins ⟨some 17, .mov (.t 20), none⟩] (some [1, 17]))
     (.cond (.t 17)
      (.seq (.ops [.ins ⟨some 2, .mov (.c (.int .i64 2)), none⟩] (some [2]))
      (.ret))
      (.seq (.ops [.ins ⟨some 22, .fieldAddr 1 (.t 1), none⟩,
        .ins ⟨some 23, .load .one (.t 22), none⟩,
        .ins ⟨some 24, .lenSl (.t 23), none⟩,
        .ins ⟨some 25, .bin .gtr (.t 24) (.c (.int .i64 24)), none⟩,
        .ins ⟨some 21, .mov (.t 25), none⟩] (some [1, 21]))
      (.cond (.t 21)
       (.seq (.ops [.ins ⟨some 2, .mov (.c (.int .i64 8)), none⟩] (some [2]))
       (.ret))
       (.skip))))))))))
  (.seq (.seq (.ops [.ins ⟨some 26, .fieldAddr 1 (.t 1), none⟩,
    .ins ⟨some 27, .load .one (.t 26), none⟩,
    .ins ⟨some 28, .lenSl (.t 27), none⟩,
    .ins ⟨some 29, .mov (.c (.int .i64 0)), none⟩] (some [1, 27, 28, 29]))
  (.block 1
   (.loop
    (.seq (.ops [.ins ⟨some 30, .bin .lss (.t 29) (.t 28), none⟩] (some [1, 27, 28, 29, 30]))
    (.seq (.cond (.t 30)
     (.skip)
     (.exit 1))
    (.seq (.block 2
     (.seq (.ops [.ins ⟨some 31, .indexAddrS 1 (.t 27) (.t 29), none⟩,
       .ins ⟨some 32, .load .one (.t 31), none⟩,
       .ins ⟨some 4, .mov (.t 32), none⟩] (some [1, 4, 27, 28, 29]))
     (.seq (.seq (.ops [.ins ⟨some 33, .mov (.t 4), none⟩,
       .ins ⟨some 34, .lenSl (.t 33), none⟩,
       .ins ⟨some 35, .fieldAddr 0 (.t 1), none⟩,
       .ins ⟨some 36, .load .one (.t 35), none⟩,
       .ins ⟨some 37, .lenSl (.t 36), none⟩,
       .ins ⟨some 38, .eq1 .int true (.t 34) (.t 37), none⟩] (some [1, 4, 27, 28, 29, 38]))
     (.cond (.t 38)
      (.seq (.ops [.ins ⟨some 2, .mov (.c (.int .i64 3)), none⟩] (some [2]))
      (.ret))
      (.skip)))
     (.seq (.ops [.ins ⟨some 39, .mov (.t 4), none⟩,
       .ins ⟨some 40, .lenSl (.t 39), none⟩,
       .ins ⟨some 41, .mov (.c (.int .i64 0)), none⟩] (some [1, 27, 28, 29, 39, 40, 41]))
     (.block 3
      (.loop
       (.seq (.ops [.ins ⟨some 42, .bin .lss (.t 41) (.t 40), none⟩] (some [1, 27, 28, 29, 39, 40, 41, 42]))
       (.seq (.cond (.t 42)
        (.skip)
        (.exit 3))
       (.seq (.block 4
        (.seq (.ops [.ins ⟨some 43, .indexAddrS 2 (.t 39) (.t 41), none⟩,
          .ins ⟨some 44, .load (.many 2) (.t 43), none⟩,
          .ins ⟨some 6, .alloc [(.int .i64 0), (.int .i64 0)], none⟩,
          .ins ⟨none, .store 2 (.t 6) (.t 44), none⟩] (some [1, 6, 27, 28, 29, 39, 40, 41]))
        (.block 5
         (.seq (.ops [.ins ⟨some 46, .fieldAddr 0 (.t 6), none⟩,
           .ins ⟨some 47, .load .one (.t 46), none⟩,
           .ins ⟨some 48, .fieldAddr 1 (.t 6), none⟩,
           .ins ⟨some 49, .load .one (.t 48), none⟩,
           .ins ⟨some 50, .bin .gtr (.t 47) (.t 49), none⟩,
           .ins ⟨some 45, .mov (.t 50), none⟩] (some [1, 6, 27, 28, 29, 39, 40, 41, 45]))
         (.cond (.t 45)
          (.seq (.ops [.ins ⟨some 2, .mov (.c (.int .i64 11)), none⟩] (some [2]))
          (.ret))
          (.seq (.ops [.ins ⟨some 52, .fieldAddr 0 (.t 6), none⟩,
            .ins ⟨some 53, .load .one (.t 52), none⟩,
            .ins ⟨some 54, .bin .lss (.t 53) (.c (.int .i64 (-1000000000))), none⟩,
            .ins ⟨some 55, .mov (.t 54), none⟩,
            .ins ⟨some 56, .fieldAddr 1 (.t 6), some (55, false)⟩,
            .ins ⟨some 57, .load .one (.t 56), some (55, false)⟩,
            .ins ⟨some 58, .bin .gtr (.t 57) (.c (.int .i64 1000000000)), some (55, false)⟩,
            .ins ⟨some 59, .pick (.t 55) (.c (.bool true)) (.t 58), none⟩,
            .ins ⟨some 51, .mov (.t 59), none⟩] (some [1, 27, 28, 29, 39, 40, 41, 51]))
          (.cond (.t 51)
           (.seq (.ops [.ins ⟨some 2, .mov (.c (.int .i64 2)), none⟩] (some [2]))
           (.ret))
           (.skip))))))))
       (.ops [.ins ⟨some 60, .bin .add (.t 41) (.c (.int .i64 1)), none⟩,
         .ins ⟨some 41, .mov (.t 60), none⟩] (some [1, 27, 28, 29, 39, 40, 41]))))) (some [1, 27, 28, 29, 39, 40, 41])))))))
    (.ops [.ins ⟨some 61, .bin .add (.t 29) (.c (.int .i64 1)), none⟩,
      .ins ⟨some 29, .mov (.t 61), none⟩] (some [1, 27, 28, 29]))))) (some [1, 27, 28, 29]))))
  (.seq (.ops [.ins ⟨some 2, .mov (.c (.int .i64 0)), none⟩] (some [2]))
  (.ret)))),
  [.tmp 2]⟩

/-- thermion/thermionref08.Check -/
def A21 : AFn := ⟨
  .seq (.ops [.ins ⟨some 1, .box (.t 0), none⟩,
    .ins ⟨some 2, .mov (.c (.int .i64 0)), none⟩] (some [1]))
  (.seq (.seq (.ops [.ins ⟨some 6, .fieldAddr 0 (.t 1), none⟩,
    .ins ⟨some 7, .load .one (.t 6), none⟩,
    .ins ⟨some 8, .lenSl (.t 7), none⟩,
    .ins ⟨some 9, .eq1 .int false (.t 8) (.c (.int .i64 0)), none⟩] (some [1, 9]))
  (.cond (.t 9)
   (.seq (.ops [.ins ⟨some 2, .mov (.c (.int .i64 6)), none⟩] (some [2]))
   (.ret))
   (.skip)))
  (.seq (.seq (.ops [.ins ⟨some 10, .fieldAddr 0 (.t 1), none⟩,
    .ins ⟨some 11, .load .one (.t 10), none⟩,
    .ins ⟨some 12, .lenSl (.t 11), none⟩,
    .ins ⟨some 13, .bin .gtr (.t 12) (.c (.int .i64 4)), none⟩] (some [1, 13]))
  (.cond (.t 13)
   (.seq (.ops [.ins ⟨some 2, .mov (.c (.int .i64 8)), none⟩] (some [2]))
   (.ret))
   (.skip)))
  (.seq (.seq (.ops [.ins ⟨some 3, .mov (.c (.int .i64 0)), none⟩] (some [1, 3]))
  (.block 0
   (.loop
    (.seq (.seq (.ops [.ins ⟨some 14, .mov (.t 3), none⟩,
      .ins ⟨some 15, .fieldAddr 0 (.t 1), none⟩,
      .ins ⟨some 16, .load .one (.t 15), none⟩,
      .ins ⟨some 17, .lenSl (.t 16), none⟩,
      .ins ⟨some 18, .bin .lss (.t 14) (.t 17), none⟩] (some [1, 3, 18]))
    (.cond (.t 18)
     (.skip)
     (.exit 0)))
    (.seq (.block 1
     (.seq (.ops [.ins ⟨some 21, .fieldAddr 0 (.t 1), none⟩,
       .ins ⟨some 22, .load .one (.t 21), none⟩,
       .ins ⟨some 23, .mov (.t 3), none⟩,
       .ins ⟨some 24, .indexAddrS 1 (.t 22) (.t 23), none⟩,
       .ins ⟨some 25, .load .one (.t 24), none⟩,
       .ins ⟨some 26, .call 69 [(.t 25), (.c (.int .i64 0)), (.c (.int .i64 1000000))], none⟩,
       .ins ⟨some 27, .un .not (.t 26), none⟩] (some [1, 3, 27]))
     (.cond (.t 27)
      (.seq (.ops [.ins ⟨some 2, .mov (.c (.int .i64 2)), none⟩] (some [2]))
      (.ret))
      (.skip))))
    (.ops [.ins ⟨some 19, .mov (.t 3), none⟩,
      .ins ⟨some 20, .bin .add (.t 19) (.c (.int .i64 1)), none⟩,
      .ins ⟨some 3, .mov (.t 20), none⟩] (some [1, 3])))) (some [1, 3]))))
  (.seq (.seq (.ops [.ins ⟨some 28, .fieldAddr 1 (.t 1), none⟩,
    .ins ⟨some 29, .load .one (.t 28), none⟩,
    .ins ⟨some 30, .lenSl (.t 29), none⟩,
    .ins ⟨some 31, .bin .gtr (.t 30) (.c (.int .i64 24)), none⟩] (some [1, 31]))
  (.cond (.t 31)
   (.seq (.ops [.ins ⟨some 2, .mov (.c (.int .i64 8)), none⟩] (some [2]))
   (.ret))
   (.skip)))
  (.seq (.seq (.ops [.ins ⟨some 4, .mov (.c (.int .i64 0)), none⟩] (some [1, 4]))
  (.block 2
   (.loop
    (.seq (.seq (.ops [.ins ⟨some 32, .mov (.t 4), none⟩,
      .ins ⟨some 33, .fieldAddr 1 (.t 1), none⟩,
      .ins ⟨some 34, .load .one (.t 33), none⟩,
      .ins ⟨some 35, .lenSl (.t 34), none⟩,
      .ins ⟨some 36, .bin .lss (.t 32) (.t 35), none⟩] (some [1, 4, 36]))
    (.cond (.t 36)
     (.skip)
     (.exit 2)))
    (.seq (.block 3
     (.seq (.ops [.ins ⟨some 39, .fieldAddr 1 (.t 1), none⟩,
       .ins ⟨some 40, .load .one (.t 39), none⟩,
       .ins ⟨some 41, .mov (.t 4), none⟩,
       .ins ⟨some 42, .indexAddrS 1 (.t 40) (.t 41), none⟩,
       .ins ⟨some 43, .load .one (.t 42), none⟩,
       .ins ⟨some 44, .fieldAddr 0 (.t 1), none⟩,
       .ins ⟨some 45, .load .one (.t 44), none⟩,
       .ins ⟨some 46, .lenSl (.t 45), none⟩,
       .ins ⟨some 47, .call 70 [(.t 43), (.t 46)], none⟩,
       .ins ⟨some 5, .mov (.t 47), none⟩] (some [1, 4, 5]))
     (.seq (.ops [.ins ⟨some 48, .mov (.t 5), none⟩,
       .ins ⟨some 49, .eq1 .int true (.t 48) (.c (.int .i64 0)), none⟩] (some [1, 4, 5, 49]))
     (.cond (.t 49)
      (.seq (.ops [.ins ⟨some 50, .mov (.t 5), none⟩,
        .ins ⟨some 2, .mov (.t 50), none⟩] (some [2]))
      (.ret))
      (.skip)))))
    (.ops [.ins ⟨some 37, .mov (.t 4), none⟩,
      .ins ⟨some 38, .bin .add (.t 37) (.c (.int .i64 1)), none⟩,
      .ins ⟨some 4, .mov (.t 38), none⟩] (some [1, 4])))) (some [1, 4]))))
  (.seq (.ops [.ins ⟨some 2, .mov (.c (.int .i64 0)), none⟩] (some [2]))
  (.ret))))))),
  [.tmp 2]⟩

/-- thermion/match.Alike -/
def A22 : AFn := ⟨
  .seq (.ops [.ins ⟨some 3, .box (.t 0), none⟩,
    .ins ⟨some 6, .mov (.c (.bool false)), none⟩] (some [1, 2, 3]))
  (.seq (.seq (.ops [.ins ⟨some 8, .load (.many 2) (.t 3), none⟩,
    .ins ⟨some 9, .call 20 [(.t 8)], none⟩,
    .ins ⟨some 10, .eq1 .int true (.t 9) (.c (.int .i64 0)), none⟩] (some [1, 2, 3, 10]))
  (.cond (.t 10)
   (.seq (.ops [.ins ⟨some 6, .mov (.c (.bool false)), none⟩] (some [6]))
   (.ret))
   (.skip)))
  (.seq (.ops [.ins ⟨some 11, .fieldAddr 1 (.t 3), none⟩,
    .ins ⟨some 12, .load .one (.t 11), none⟩,
    .ins ⟨some 13, .lenSl (.t 12), none⟩,
    .ins ⟨some 14, .bin .sub (.t 13) (.c (.int .i64 1)), none⟩,
    .ins ⟨some 7, .mov (.t 14), none⟩] (some [1, 2, 3, 7]))
  (.seq (.ops [.ins ⟨some 15, .mov (.t 1), none⟩,
    .ins ⟨some 16, .mov (.t 7), none⟩,
    .ins ⟨some 17, .call 68 [(.t 15), (.c (.int .i64 0)), (.t 16)], none⟩,
    .ins ⟨some 18, .mov (.t 17), none⟩,
    .ins ⟨some 19, .mov (.t 2), some (18, true)⟩,
    .ins ⟨some 20, .mov (.t 7), some (18, true)⟩,
    .ins ⟨some 21, .call 68 [(.t 19), (.c (.int .i64 0)), (.t 20)], some (18, true)⟩,
    .ins ⟨some 22, .pick (.t 18) (.t 21) (.c (.bool false)), none⟩,
    .ins ⟨some 23, .mov (.t 22), none⟩,
    .ins ⟨some 24, .load (.many 2) (.t 3), some (23, true)⟩,
    .ins ⟨some 25, .mov (.t 1), some (23, true)⟩,
    .ins ⟨some 26, .mov (.t 2), some (23, true)⟩,
    .ins ⟨some 27, .call 71 [(.t 24), (.t 25), (.t 26)], some (23, true)⟩,
    .ins ⟨some 28, .pick (.t 23) (.t 27) (.c (.bool false)), none⟩,
    .ins ⟨some 6, .mov (.t 28), none⟩] (some [6]))
  (.ret)))),
  [.tmp 6]⟩

/-- thermion/thermionref08.Alike -/
def A23 : AFn := ⟨
  .seq (.ops [.ins ⟨some 3, .box (.t 0), none⟩,
    .ins ⟨some 6, .mov (.c (.bool false)), none⟩] (some [1, 2, 3]))
  (.seq (.ops [.ins ⟨some 8, .fieldAddr 1 (.t 3), none⟩,
    .ins ⟨some 9, .load .one (.t 8), none⟩,
    .ins ⟨some 10, .lenSl (.t 9), none⟩,
    .ins ⟨some 7, .mov (.t 10), none⟩] (some [1, 2, 3, 7]))
  (.seq (.ops [.ins ⟨some 11, .load (.many 2) (.t 3), none⟩,
    .ins ⟨some 12, .call 21 [(.t 11)], none⟩,
    .ins ⟨some 13, .eq1 .int false (.t 12) (.c (.int .i64 0)), none⟩,
    .ins ⟨some 14, .mov (.t 13), none⟩,
    .ins ⟨some 15, .mov (.t 1), some (14, true)⟩,
    .ins ⟨some 16, .mov (.t 7), some (14, true)⟩,
    .ins ⟨some 17, .bin .sub (.t 16) (.c (.int .i64 1)), some (14, true)⟩,
    .ins ⟨some 18, .call 69 [(.t 15), (.c (.int .i64 0)), (.t 17)], some (14, true)⟩,
    .ins ⟨some 19, .pick (.t 14) (.t 18) (.c (.bool false)), none⟩,
    .ins ⟨some 20, .mov (.t 19), none⟩,
    .ins ⟨some 21, .mov (.t 2), some (20, true)⟩,
    .ins ⟨some 22, .mov (.t 7), some (20, true)⟩,
    .ins ⟨some 23, .bin .sub (.t 22) (.c (.int .i64 1)), some (20, true)⟩,
    .ins ⟨some 24, .call 69 [(.t 21), (.c (.int .i64 0)), (.t 23)], some (20, true)⟩,
    .ins ⟨some 25, .pick (.t 20) (.t 24) (.c (.bool false)), none⟩,
    .ins ⟨some 26, .mov (.t 25), none⟩,
    .ins ⟨some 27, .load (.many 2) (.t 3), some (26, true)⟩,
    .ins ⟨some 28, .mov (.t 1), some (26, true)⟩,
    .ins ⟨some 29, .mov (.t 2), some (26, true)⟩,
    .ins ⟨some 30, .call 72 [(.t 27), (.t 28), (.t 29)], some (26, true)⟩,
    .ins ⟨some 31, .pick (.t 26) (.t 30) (.c (.bool false)), none⟩,
    .ins ⟨some 6, .mov (.t 31), none⟩] (some [6]))
  (.ret))),
  [.tmp 6]⟩

/-- (*thermion/thermionkit.Dice).One -/
def A34 : AFn := ⟨
  .seq (.ops [.ins ⟨some 4, .mov (.c (.bool false)), none⟩] (some [0, 1]))
  (.seq (.ops [.ins ⟨some 5, .mov (.t 0), none⟩,
    .ins ⟨some 6, .mov (.t 1), none⟩,
    .ins ⟨some 7, .call 41 [(.t 5), (.t 6)], none⟩,
    .ins ⟨some 8, .eq1 .int false (.t 7) (.c (.int .i64 0)), none⟩,
    .ins ⟨some 4, .mov (.t 8), none⟩] (some [4]))
  (.ret)),
  [.tmp 4]⟩

/-- (*thermion/thermionkit.Dice).Upto -/
def A41 : AFn := ⟨
  .seq (.ops [.ins ⟨some 4, .mov (.c (.int .i64 0)), none⟩] (some [0, 1]))
  (.seq (.ops [.ins ⟨some 6, .mov (.t 0), none⟩,
    .ins ⟨some 7, .call 65 [(.t 6)], none⟩,
    .ins ⟨some 5, .mov (.t 7), none⟩] (some [1, 5]))
  (.seq (.seq (.ops [.ins ⟨some 8, .mov (.t 1), none⟩,
    .ins ⟨some 9, .bin .lss (.t 8) (.c (.int .i64 1)), none⟩] (some [1, 5, 9]))
  (.cond (.t 9)
   (.seq (.ops [.ins ⟨some 4, .mov (.c (.int .i64 0)), none⟩] (some [4]))
   (.ret))
   (.skip)))
  (.seq (.ops [.ins ⟨some 10, .mov (.t 5), none⟩,
    .ins ⟨some 11, .mov (.t 1), none⟩,
    .ins ⟨some 12, .convInt .u64 (.t 11), none⟩,
    .ins ⟨some 13, .bin .rem (.t 10) (.t 12), none⟩,
    .ins ⟨some 14, .convInt .i64 (.t 13), none⟩,
    .ins ⟨some 4, .mov (.t 14), none⟩] (some [4]))
  (.ret)))),
  [.tmp 4]⟩

/-- (*thermion/thermionkit.Dice).Between -/
def A57 : AFn := ⟨
  .seq (.ops [.ins ⟨some 6, .mov (.c (.int .i64 0)), none⟩] (some [0, 1, 2]))
  (.seq (.ops [.ins ⟨some 7, .mov (.t 1), none⟩,
    .ins ⟨some 8, .mov (.t 0), none⟩,
    .ins ⟨some 9, .mov (.t 2), none⟩,
    .ins ⟨some 10, .mov (.t 1), none⟩,
    .ins ⟨some 11, .bin .sub (.t 9) (.t 10), none⟩,
    .ins ⟨some 12, .bin .add (.t 11) (.c (.int .i64 1)), none⟩,
    .ins ⟨some 13, .call 41 [(.t 8), (.t 12)], none⟩,
    .ins ⟨some 14, .bin .add (.t 7) (.t 13), none⟩,
    .ins ⟨some 6, .mov (.t 14), none⟩] (some [6]))
  (.ret)),
  [.tmp 6]⟩

/-- (*thermion/thermionkit.Dice).next -/
def A65 : AFn := ⟨
  .seq (.ops [.ins ⟨some 2, .mov (.c (.int .u64 0)), none⟩] (some [0]))
  (.seq (.ops [.ins ⟨some 4, .mov (.t 0), none⟩,
    .ins ⟨some 5, .mov (.t 0), none⟩,
    .ins ⟨some 6, .nilCheck (.t 5), none⟩,
    .ins ⟨some 7, .fieldAddr 0 (.t 6), none⟩,
    .ins ⟨some 8, .load .one (.t 7), none⟩,
    .ins ⟨some 9, .bin .add (.t 8) (.c (.int .u64 11400714819323198485)), none⟩,
    .ins ⟨some 10, .nilCheck (.t 4), none⟩,
    .ins ⟨some 11, .fieldAddr 0 (.t 10), none⟩,
    .ins ⟨none, .store 1 (.t 11) (.t 9), none⟩] (some [0]))
  (.seq (.ops [.ins ⟨some 12, .mov (.t 0), none⟩,
    .ins ⟨some 13, .nilCheck (.t 12), none⟩,
    .ins ⟨some 14, .fieldAddr 0 (.t 13), none⟩,
    .ins ⟨some 15, .load .one (.t 14), none⟩,
    .ins ⟨some 3, .mov (.t 15), none⟩] (some [3]))
  (.seq (.ops [.ins ⟨some 16, .mov (.t 3), none⟩,
    .ins ⟨some 17, .mov (.t 3), none⟩,
    .ins ⟨some 18, .bin .shr (.t 17) (.c (.int .u64 30)), none⟩,
    .ins ⟨some 19, .bin .xor (.t 16) (.t 18), none⟩,
    .ins ⟨some 20, .bin .mul (.t 19) (.c (.int .u64 13787848793156543929)), none⟩,
    .ins ⟨some 3, .mov (.t 20), none⟩] (some [3]))
  (.seq (.ops [.ins ⟨some 21, .mov (.t 3), none⟩,
    .ins ⟨some 22, .mov (.t 3), none⟩,
    .ins ⟨some 23, .bin .shr (.t 22) (.c (.int .u64 27)), none⟩,
    .ins ⟨some 24, .bin .xor (.t 21) (.t 23), none⟩,
    .ins ⟨some 25, .bin .mul (.t 24) (.c (.int .u64 10723151780598845931)), none⟩,
    .ins ⟨some 3, .mov (.t 25), none⟩] (some [3]))
  (.seq (.ops [.ins ⟨some 26, .mov (.t 3), none⟩,
    .ins ⟨some 27, .mov (.t 3), none⟩,
    .ins ⟨some 28, .bin .shr (.t 27) (.c (.int .u64 31)), none⟩,
    .ins ⟨some 29, .bin .xor (.t 26) (.t 28), none⟩,
    .ins ⟨some 2, .mov (.t 29), none⟩] (some [2]))
  (.ret)))))),
  [.tmp 2]⟩

/-- slices.ContainsFunc[[]int,int] -/
def A66 : AFn := ⟨
  .seq (.ops [.ins ⟨some 4, .mov (.c (.bool false)), none⟩] (some [0, 1]))
  (.seq (.ops [.ins ⟨some 5, .mov (.t 0), none⟩,
    .ins ⟨some 6, .mov (.t 1), none⟩,
    .ins ⟨some 7, .call 114 [(.t 5), (.t 6)], none⟩,
    .ins ⟨some 8, .bin .geq (.t 7) (.c (.int .i64 0)), none⟩,
    .ins ⟨some 4, .mov (.t 8), none⟩] (some [4]))
  (.ret)),
  [.tmp 4]⟩

/-- thermion/match.Check$1 -/
def A67 : AFn := ⟨
  .seq (.ops [.ins ⟨some 2, .mov (.c (.bool false)), none⟩] (some [0]))
  (.seq (.ops [.ins ⟨some 3, .mov (.t 0), none⟩,
    .ins ⟨some 4, .call 68 [(.t 3), (.c (.int .i64 0)), (.c (.int .i64 1000000))], none⟩,
    .ins ⟨some 5, .un .not (.t 4), none⟩,
    .ins ⟨some 2, .mov (.t 5), none⟩] (some [2]))
  (.ret)),
  [.tmp 2]⟩

/-- thermion/match.between -/
def A68 : AFn := ⟨
  .seq (.ops [.ins ⟨some 6, .mov (.c (.bool false)), none⟩] (some [0, 1, 2]))
  (.seq (.ops [.ins ⟨some 7, .mov (.t 1), none⟩,
    .ins ⟨some 8, .mov (.t 0), none⟩,
    .ins ⟨some 9, .bin .leq (.t 7) (.t 8), none⟩,
    .ins ⟨some 10, .mov (.t 9), none⟩,
    .ins ⟨some 11, .mov (.t 0), some (10, true)⟩,
    .ins ⟨some 12, .mov (.t 2), some (10, true)⟩,
    .ins ⟨some 13, .bin .leq (.t 11) (.t 12), some (10, true)⟩,
    .ins ⟨some 14, .pick (.t 10) (.t 13) (.c (.bool false)), none⟩,
    .ins ⟨some 6, .mov (.t 14), none⟩] (some [6]))
  (.ret)),
  [.tmp 6]⟩

/-- thermion/thermionref08.within -/
def A69 : AFn := ⟨
  .seq (.ops [.ins ⟨some 6, .mov (.c (.bool false)), none⟩] (some [0, 1, 2]))
  (.seq (.ops [.ins ⟨some 7, .mov (.t 0), none⟩,
    .ins ⟨some 8, .mov (.t 1), none⟩,
    .ins ⟨some 9, .bin .geq (.t 7) (.t 8), none⟩,
    .ins ⟨some 10, .mov (.t 9), none⟩,
    .ins ⟨some 11, .mov (.t 0), some (10, true)⟩,
    .ins ⟨some 12, .mov (.t 2), some (10, true)⟩,
    .ins ⟨some 13, .bin .leq (.t 11) (.t 12), some (10, true)⟩,
    .ins ⟨some 14, .pick (.t 10) (.t 13) (.c (.bool false)), none⟩,
    .ins ⟨some 6, .mov (.t 14), none⟩] (some [6]))
  (.ret)),
  [.tmp 6]⟩

/-- thermion/thermionref08.checkItem -/
def A70 : AFn := ⟨
  .seq (.ops [.ins ⟨some 4, .mov (.c (.int .i64 0)), none⟩] (some [0, 1]))
  (.seq (.seq (.ops [.ins ⟨some 6, .mov (.t 0), none⟩,
    .ins ⟨some 7, .lenSl (.t 6), none⟩,
    .ins ⟨some 8, .mov (.t 1), none⟩,
    .ins ⟨some 9, .eq1 .int true (.t 7) (.t 8), none⟩] (some [0, 9]))
  (.cond (.t 9)
   (.seq (.ops [.ins ⟨some 4, .mov (.c (.int .i64 3)), none⟩] (some [4]))
   (.ret))
   (.skip)))
  (.seq (.seq (.ops [.ins ⟨some 5, .mov (.c (.int .i64 0)), none⟩] (some [0, 5]))
  (.block 0
   (.loop
    (.seq (.seq (.ops [.ins ⟨some 10, .mov (.t 5), none⟩,
      .ins ⟨some 11, .mov (.t 0), none⟩,
      .ins ⟨some 12, .lenSl (.t 11), none⟩,
      .ins ⟨some 13, .bin .lss (.t 10) (.t 12), none⟩] (some [0, 5, 13]))
    (.cond (.t 13)
     (.skip)
     (.exit 0)))
    (.seq (.block 1
     (.seq (.seq (.ops [.ins ⟨some 16, .mov (.t 0), none⟩,
       .ins ⟨some 17, .mov (.t 5), none⟩,
       .ins ⟨some 18, .indexAddrS 2 (.t 16) (.t 17), none⟩,
       .ins ⟨some 19, .fieldAddr 0 (.t 18), none⟩,
       .ins ⟨some 20, .load .one (.t 19), none⟩,
       .ins ⟨some 21, .mov (.t 0), none⟩,
       .ins ⟨some 22, .mov (.t 5), none⟩,
       .ins ⟨some 23, .indexAddrS 2 (.t 21) (.t 22), none⟩,
       .ins ⟨some 24, .fieldAddr 1 (.t 23), none⟩,
       .ins ⟨some 25, .load .one (.t 24), none⟩,
       .ins ⟨some 26, .bin .gtr (.t 20) (.t 25), none⟩] (some [0, 5, 26]))
     (.cond (.t 26)
      (.seq (.ops [.ins ⟨some 4, .mov (.c (.int .i64 11)), none⟩] (some [4]))
      (.ret))
      (.skip)))
     (.seq (.ops [.ins ⟨some 27, .mov (.t 0), none⟩,
       .ins ⟨some 28, .mov (.t 5), none⟩,
       .ins ⟨some 29, .indexAddrS 2 (.t 27) (.t 28), none⟩,
       .ins ⟨some 30, .fieldAddr 0 (.t 29), none⟩,
       .ins ⟨some 31, .load .one (.t 30), none⟩,
       .ins ⟨some 32, .bin .lss (.t 31) (.c (.int .i64 (-1000000000))), none⟩,
       .ins ⟨some 33, .mov (.t 32), none⟩,
       .ins ⟨some 34, .mov (.t 0), some (33, false)⟩,
       .ins ⟨some 35, .mov (.t 5), some (33, false)⟩,
       .ins ⟨some 36, .indexAddrS 2 (.t 34) (.t 35), some (33, false)⟩,
       .ins ⟨some 37, .fieldAddr 1 (.t 36), some (33, false)⟩,
       .ins ⟨some 38, .load .one (.t 37), some (33, false)⟩,
       .ins ⟨some 39, .bin .gtr (.t 38) (.c (.int .i64 1000000000)), some (33, false)⟩,
       .ins ⟨some 40, .pick (.t 33) (.c (.bool true)) (.t 39), none⟩] (some [0, 5, 40]))
     (.cond (.t 40)
      (.seq (.ops [.ins ⟨some 4, .mov (.c (.int .i64 2)), none⟩] (some [4]))
      (.ret))
      (.skip)))))
    (.ops [.ins ⟨some 14, .mov (.t 5), none⟩,
      .ins ⟨some 15, .bin .add (.t 14) (.c (.int .i64 1)), none⟩,
      .ins ⟨some 5, .mov (.t 15), none⟩] (some [0, 5])))) (some [0, 5]))))
  (.seq (.ops [.ins ⟨some 4, .mov (.c (.int .i64 0)), none⟩] (some [4]))
  (.ret)))),
  [.tmp 4]⟩

/-- thermion/match.alike -/
def A71 : AFn := ⟨
  .seq (.ops [.ins ⟨some 3, .box (.t 0), none⟩,
    .ins ⟨some 6, .mov (.c (.bool false)), none⟩] (some [1, 2, 3]))
  (.seq (.seq (.ops [.ins ⟨some 11, .fieldAddr 0 (.t 3), none⟩,
    .ins ⟨some 12, .load .one (.t 11), none⟩,
    .ins ⟨some 13, .lenSl (.t 12), none⟩,
    .ins ⟨some 14, .mov (.c (.int .i64 0)), none⟩] (some [1, 2, 3, 12, 13, 14]))
  (.block 0
   (.loop
    (.seq (.ops [.ins ⟨some 15, .bin .lss (.t 14) (.t 13), none⟩] (some [1, 2, 3, 12, 13, 14, 15]))
    (.seq (.cond (.t 15)
     (.skip)
     (.exit 0))
    (.seq (.block 1
     (.seq (.ops [.ins ⟨some 16, .mov (.t 14), none⟩,
       .ins ⟨some 17, .indexAddrS 1 (.t 12) (.t 14), none⟩,
       .ins ⟨some 18, .load .one (.t 17), none⟩,
       .ins ⟨some 7, .mov (.t 16), none⟩,
       .ins ⟨some 8, .mov (.t 18), none⟩] (some [1, 2, 3, 7, 8, 12, 13, 14]))
     (.seq (.ops [.ins ⟨some 19, .fieldAddr 1 (.t 3), none⟩,
       .ins ⟨some 20, .load .one (.t 19), none⟩,
       .ins ⟨some 21, .mov (.t 1), none⟩,
       .ins ⟨some 22, .indexAddrS 1 (.t 20) (.t 21), none⟩,
       .ins ⟨some 23, .load .one (.t 22), none⟩,
       .ins ⟨some 24, .mov (.t 7), none⟩,
       .ins ⟨some 25, .indexAddrS 2 (.t 23) (.t 24), none⟩,
       .ins ⟨some 26, .load (.many 2) (.t 25), none⟩,
       .ins ⟨some 27, .fieldAddr 1 (.t 3), none⟩,
       .ins ⟨some 28, .load .one (.t 27), none⟩,
       .ins ⟨some 29, .mov (.t 2), none⟩,
       .ins ⟨some 30, .indexAddrS 1 (.t 28) (.t 29), none⟩,
       .ins ⟨some 31, .load .one (.t 30), none⟩,
       .ins ⟨some 32, .mov (.t 7), none⟩,
       .ins ⟨some 33, .indexAddrS 2 (.t 31) (.t 32), none⟩,
       .ins ⟨some 34, .load (.many 2) (.t 33), none⟩,
       .ins ⟨some 9, .alloc [(.int .i64 0), (.int .i64 0)], none⟩,
       .ins ⟨some 10, .alloc [(.int .i64 0), (.int .i64 0)], none⟩,
       .ins ⟨none, .store 2 (.t 9) (.t 26), none⟩,
       .chk ⟨some 28, .load .one (.t 27), none⟩,
       .chk ⟨some 31, .load .one (.t 30), none⟩,
       .chk ⟨some 34, .load (.many 2) (.t 33), none⟩,
       .ins ⟨none, .store 2 (.t 10) (.t 34), none⟩] (some [1, 2, 3, 8, 9, 10, 12, 13, 14]))
     (.seq (.ops [.ins ⟨some 35, .fieldAddr 1 (.t 9), none⟩,
       .ins ⟨some 36, .load .one (.t 35), none⟩,
       .ins ⟨some 37, .fieldAddr 0 (.t 10), none⟩,
       .ins ⟨some 38, .load .one (.t 37), none⟩,
       .ins ⟨some 39, .bin .sub (.t 36) (.t 38), none⟩,
       .ins ⟨some 40, .fieldAddr 1 (.t 10), none⟩,
       .ins ⟨some 41, .load .one (.t 40), none⟩,
       .ins ⟨some 42, .fieldAddr 0 (.t 9), none⟩,
       .ins ⟨some 43, .load .one (.t 42), none⟩,
       .ins ⟨some 44, .bin .sub (.t 41) (.t 43), none⟩,
       .ins ⟨some 45, .maxOf [(.t 39), (.t 44)], none⟩,
       .ins ⟨some 46, .mov (.t 8), none⟩,
       .ins ⟨some 47, .bin .gtr (.t 45) (.t 46), none⟩] (some [1, 2, 3, 12, 13, 14, 47]))
     (.cond (.t 47)
      (.seq (.ops [.ins ⟨some 6, .mov (.c (.bool false)), none⟩] (some [6]))
      (.ret))
      (.skip))))))
    (.ops [.ins ⟨some 48, .bin .add (.t 14) (.c (.int .i64 1)), none⟩,
      .ins ⟨some 14, .mov (.t 48), none⟩] (some [1, 2, 3, 12, 13, 14]))))) (some [1, 2, 3, 12, 13, 14]))))
  (.seq (.ops [.ins ⟨some 49, .mov (.t 1), none⟩,
    .ins ⟨some 50, .mov (.t 2), none⟩,
    .ins ⟨some 51, .eq1 .int true (.t 49) (.t 50), none⟩,
    .ins ⟨some 6, .mov (.t 51), none⟩] (some [6]))
  (.ret))),
  [.tmp 6]⟩

/-- thermion/thermionref08.alike -/
def A72 : AFn := ⟨
  .seq (.ops [.ins ⟨some 3, .box (.t 0), none⟩,
    .ins ⟨some 6, .mov (.c (.bool false)), none⟩] (some [1, 2, 3]))
  (.seq (.seq (.ops [.ins ⟨some 10, .mov (.t 1), none⟩,
    .ins ⟨some 11, .mov (.t 2), none⟩,
    .ins ⟨some 12, .eq1 .int false (.t 10) (.t 11), none⟩] (some [1, 2, 3, 12]))
  (.cond (.t 12)
   (.seq (.ops [.ins ⟨some 6, .mov (.c (.bool false)), none⟩] (some [6]))
   (.ret))
   (.skip)))
  (.seq (.seq (.ops [.ins ⟨some 7, .mov (.c (.int .i64 0)), none⟩] (some [1, 2, 3, 7]))
  (.block 0
   (.loop
    (.seq (.seq (.ops [.ins ⟨some 13, .mov (.t 7), none⟩,
      .ins ⟨some 14, .fieldAddr 0 (.t 3), none⟩,
      .ins ⟨some 15, .load .one (.t 14), none⟩,
      .ins ⟨some 16, .lenSl (.t 15), none⟩,
      .ins ⟨some 17, .bin .lss (.t 13) (.t 16), none⟩] (some [1, 2, 3, 7, 17]))
    (.cond (.t 17)
     (.skip)
     (.exit 0)))
    (.seq (.block 1
     (.seq (.ops [.ins ⟨some 20, .fieldAddr 1 (.t 3), none⟩,
       .ins ⟨some 21, .load .one (.t 20), none⟩,
       .ins ⟨some 22, .mov (.t 1), none⟩,
       .ins ⟨some 23, .indexAddrS 1 (.t 21) (.t 22), none⟩,
       .ins ⟨some 24, .load .one (.t 23), none⟩,
       .ins ⟨some 25, .mov (.t 7), none⟩,
       .ins ⟨some 26, .indexAddrS 2 (.t 24) (.t 25), none⟩,
       .ins ⟨some 27, .load (.many 2) (.t 26), none⟩,
       .ins ⟨some 28, .fieldAddr 1 (.t 3), none⟩,
       .ins ⟨some 29, .load .one (.t 28), none⟩,
       .ins ⟨some 30, .mov (.t 2), none⟩,
       .ins ⟨some 31, .indexAddrS 1 (.t 29) (.t 30), none⟩,
       .ins ⟨some 32, .load .one (.t 31), none⟩,
       .ins ⟨some 33, .mov (.t 7), none⟩,
       .ins ⟨some 34, .indexAddrS 2 (.t 32) (.t 33), none⟩,
       .ins ⟨some 35, .load (.many 2) (.t 34), none⟩,
       .ins ⟨some 8, .alloc [(.int .i64 0), (.int .i64 0)], none⟩,
       .ins ⟨some 9, .alloc [(.int .i64 0), (.int .i64 0)], none⟩,
       .ins ⟨none, .store 2 (.t 8) (.t 27), none⟩,
       .chk ⟨some 29, .load .one (.t 28), none⟩,
       .chk ⟨some 32, .load .one (.t 31), none⟩,
       .chk ⟨some 35, .load (.many 2) (.t 34), none⟩,
       .ins ⟨none, .store 2 (.t 9) (.t 35), none⟩] (some [1, 2, 3, 7, 8, 9]))
     (.seq (.ops [.ins ⟨some 36, .fieldAddr 1 (.t 8), none⟩,
       .ins ⟨some 37, .load .one (.t 36), none⟩,
       .ins ⟨some 38, .fieldAddr 0 (.t 9), none⟩,
       .ins ⟨some 39, .load .one (.t 38), none⟩,
       .ins ⟨some 40, .bin .sub (.t 37) (.t 39), none⟩,
       .ins ⟨some 41, .fieldAddr 0 (.t 3), none⟩,
       .ins ⟨some 42, .load .one (.t 41), none⟩,
       .ins ⟨some 43, .mov (.t 7), none⟩,
       .ins ⟨some 44, .indexAddrS 1 (.t 42) (.t 43), none⟩,
       .ins ⟨some 45, .load .one (.t 44), none⟩,
       .ins ⟨some 46, .bin .gtr (.t 40) (.t 45), none⟩,
       .ins ⟨some 47, .mov (.t 46), none⟩,
       .ins ⟨some 48, .fieldAddr 1 (.t 9), some (47, false)⟩,
       .ins ⟨some 49, .load .one (.t 48), some (47, false)⟩,
       .ins ⟨some 50, .fieldAddr 0 (.t 8), some (47, false)⟩,
       .ins ⟨some 51, .load .one (.t 50), some (47, false)⟩,
       .ins ⟨some 52, .bin .sub (.t 49) (.t 51), some (47, false)⟩,
       .ins ⟨some 53, .fieldAddr 0 (.t 3), some (47, false)⟩,
       .ins ⟨some 54, .load .one (.t 53), some (47, false)⟩,
       .ins ⟨some 55, .mov (.t 7), some (47, false)⟩,
       .ins ⟨some 56, .indexAddrS 1 (.t 54) (.t 55), some (47, false)⟩,
       .ins ⟨some 57, .load .one (.t 56), some (47, false)⟩,
       .ins ⟨some 58, .bin .gtr (.t 52) (.t 57), some (47, false)⟩,
       .ins ⟨some 59, .pick (.t 47) (.c (.bool true)) (.t 58), none⟩] (some [1, 2, 3, 7, 59]))
     (.cond (.t 59)
      (.seq (.ops [.ins ⟨some 6, .mov (.c (.bool false)), none⟩] (some [6]))
      (.ret))
      (.skip)))))
    (.ops [.ins ⟨some 18, .mov (.t 7), none⟩,
      .ins ⟨some 19, .bin .add (.t 18) (.c (.int .i64 1)), none⟩,
      .ins ⟨some 7, .mov (.t 19), none⟩] (some [1, 2, 3, 7])))) (some [1, 2, 3, 7]))))
  (.seq (.ops [.ins ⟨some 6, .mov (.c (.bool true)), none⟩] (some [6]))
  (.ret)))),
  [.tmp 6]⟩

/-- slices.IndexFunc[[]int,int] -/
def A114 : AFn := ⟨
  .seq (.ops [.ins ⟨some 4, .mov (.c (.int .i64 0)), none⟩] (some [0, 1]))
  (.seq (.seq (.ops [.ins ⟨some 6, .mov (.t 0), none⟩,
    .ins ⟨some 7, .lenSl (.t 6), none⟩,
    .ins ⟨some 8, .mov (.c (.int .i64 0)), none⟩] (some [0, 1, 7, 8]))
  (.block 0
   (.loop
    (.seq (.ops [.ins ⟨some 9, .bin .lss (.t 8) (.t 7), none⟩] (some [0, 1, 7, 8, 9]))
    (.seq (.cond (.t 9)
     (.skip)
     (.exit 0))
    (.seq (.block 1
     (.seq (.ops [.ins ⟨some 10, .mov (.t 8), none⟩,
       .ins ⟨some 5, .mov (.t 10), none⟩] (some [0, 1, 5, 7, 8]))
     (.seq (.ops [.ins ⟨some 11, .mov (.t 1), none⟩,
       .ins ⟨some 12, .mov (.t 0), none⟩,
       .ins ⟨some 13, .mov (.t 5), none⟩,
       .ins ⟨some 14, .indexAddrS 1 (.t 12) (.t 13), none⟩,
       .ins ⟨some 15, .load .one (.t 14), none⟩,
       .ins ⟨some 16, .callv (.t 11) [(.t 15)], none⟩] (some [0, 1, 5, 7, 8, 16]))
     (.cond (.t 16)
      (.seq (.ops [.ins ⟨some 17, .mov (.t 5), none⟩,
        .ins ⟨some 4, .mov (.t 17), none⟩] (some [4]))
      (.ret))
      (.skip)))))
    (.ops [.ins ⟨some 18, .bin .add (.t 8) (.c (.int .i64 1)), none⟩,
      .ins ⟨some 8, .mov (.t 18), none⟩] (some [0, 1, 7, 8]))))) (some [0, 1, 7, 8]))))
  (.seq (.ops [.ins ⟨some 4, .mov (.c (.int .i64 (-1))), none⟩] (some [4]))
  (.ret))),
  [.tmp 4]⟩

def fns1 : FuncId → Option AFn
  | 16 => some A16
  | 18 => some A18
  | 19 => some A19
  | 20 => some A20
  | 21 => some A21
  | 22 => some A22
  | 23 => some A23
  | 34 => some A34
  | 41 => some A41
  | 57 => some A57
  | 65 => some A65
  | 66 => some A66
  | 67 => some A67
  | 68 => some A68
  | 69 => some A69
  | 70 => some A70
  | 71 => some A71
  | 72 => some A72
  | 114 => some A114
  | _ => none
end DC
