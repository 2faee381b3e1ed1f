/- A part of the proof: AwkRun. It holds for whatever its statements name; no condition beyond theirs. -/
import Derived.Test.YtllbpnmhoblkgaaDoorAmD
namespace AmAwake
open Go Am
/-- thermion/thermionlaw08.awake -/
def A17 : AFn := ⟨
  .seq (.ops [.ins ⟨some 0, .mov (.c (.bool false)), none⟩] (some []))
  (.seq (.ops [.ins ⟨some 6, .buildSlice [(.int .i64 0), (.int .i64 0), (.int .i64 0), (.int .i64 0), (.int .i64 0)] 1 5 [(0, (.c (.int .i64 10))), (1, (.c (.int .i64 11))), (2, (.c (.int .i64 12))), (3, (.c (.int .i64 14))), (4, (.c (.int .i64 15)))], none⟩,
    .ins ⟨some 7, .call 64 [(.c (.int .i64 2)), (.t 6)], none⟩,
    .ins ⟨some 8, .call 24 [(.t 7)], none⟩,
    .ins ⟨some 5, .mov (.t 8), none⟩,
    .ins ⟨some 9, .extract (.t 5) 0, none⟩,
    .ins ⟨some 10, .extract (.t 5) 1, none⟩,
    .ins ⟨some 1, .mov (.t 9), none⟩,
    .ins ⟨some 2, .mov (.t 10), none⟩] (some [1, 2]))
  (.seq (.ops [.ins ⟨some 12, .build [(.str []), (.int .i64 0), (.int .i64 0), (.int .i64 0), (.int .i64 0)] [(0, 1, (.c (.str [69, 76]))), (1, 1, (.c (.int .i64 63))), (2, 1, (.c (.int .i64 7))), (3, 1, (.c (.int .i64 2))), (4, 1, (.c (.int .i64 45)))], none⟩,
    .ins ⟨some 13, .call 59 [(.t 12)], none⟩,
    .ins ⟨some 11, .mov (.t 13), none⟩,
    .ins ⟨some 14, .extract (.t 11) 0, none⟩,
    .ins ⟨some 15, .extract (.t 11) 1, none⟩,
    .ins ⟨some 3, .mov (.t 14), none⟩,
    .ins ⟨some 4, .mov (.t 15), none⟩] (some [1, 2, 3, 4]))
  (.seq (.ops [.ins ⟨some 16, .mov (.t 2), none⟩,
    .ins ⟨some 17, .eq1 .int false (.t 16) (.c (.int .i64 0)), none⟩,
    .ins ⟨some 18, .mov (.t 17), none⟩,
    .ins ⟨some 19, .mov (.t 4), some (18, true)⟩,
    .ins ⟨some 20, .eq1 .int false (.t 19) (.c (.int .i64 0)), some (18, true)⟩,
    .ins ⟨some 21, .pick (.t 18) (.t 20) (.c (.bool false)), none⟩,
    .ins ⟨some 22, .mov (.t 21), none⟩,
    .ins ⟨some 23, .mov (.t 1), some (22, true)⟩,
    .ins ⟨some 24, .build [(.int .i64 0), (.int .i64 0)] [(0, 1, (.c (.int .i64 0))), (1, 1, (.c (.int .i64 1)))], some (22, true)⟩,
    .ins ⟨some 25, .build [(.int .i64 0), (.int .i64 0)] [(0, 1, (.c (.int .i64 2))), (1, 1, (.c (.int .i64 3)))], some (22, true)⟩,
    .ins ⟨some 26, .buildSlice [(.int .i64 0), (.int .i64 0), (.int .i64 0), (.int .i64 0)] 2 2 [(0, (.t 24)), (1, (.t 25))], some (22, true)⟩,
    .ins ⟨some 27, .call 33 [(.t 23), (.t 26)], some (22, true)⟩,
    .ins ⟨some 28, .pick (.t 22) (.t 27) (.c (.bool false)), none⟩,
    .ins ⟨some 29, .mov (.t 28), none⟩,
    .ins ⟨some 30, .mov (.t 3), some (29, true)⟩,
    .ins ⟨some 31, .eq1 .str false (.t 30) (.c (.str [69, 76, 54, 51, 48, 55, 66, 48, 48, 48, 52, 53, 79])), some (29, true)⟩,
    .ins ⟨some 32, .pick (.t 29) (.t 31) (.c (.bool false)), none⟩,
    .ins ⟨some 0, .mov (.t 32), none⟩] (some [0]))
  (.ret)))),
  [.tmp 0]⟩

/-- thermion/match.Check -/
def A20 : AFn := ⟨
  .seq (.ops [.ins ⟨some 1, .box (.t 0), none⟩,
    .ins ⟨some 2, .mov (.c (.int .i64 0)), none⟩] (some [1]))
  (.seq (.block 0
   (.seq (.ops [.ins ⟨some 8, .fieldAddr 0 (.t 1), none⟩,
     .ins ⟨some 9, .load .one (.t 8), none⟩,
     .ins ⟨some 10, .lenSl (.t 9), none⟩,
     .ins ⟨some 11, .eq1 .int false (.t 10) (.c (.int .i64 0)), none⟩,
     .ins ⟨some 7, .mov (.t 11), none⟩] (some [1, 7]))
   (.cond (.t 7)
    (.seq (.ops [.ins ⟨some 2, .mov (.c (.int .i64 6)), none⟩] (some [2]))
    (.ret))
    (.seq (.ops [.ins ⟨some 13, .fieldAddr 0 (.t 1), none⟩,
      .ins ⟨some 14, .load .one (.t 13), none⟩,
      .ins ⟨some 15, .lenSl (.t 14), none⟩,
      .ins ⟨some 16, .bin .gtr (.t 15) (.c (.int .i64 4)), none⟩,
      .ins ⟨some 12, .mov (.t 16), none⟩] (some [1, 12]))
    (.cond (.t 12)
     (.seq (.ops [.ins ⟨some 2, .mov (.c (.int .i64 8)), none⟩] (some [2]))
     (.ret))
     (.seq (.ops [.ins ⟨some 18, .fieldAddr 0 (.t 1), none⟩,
       .ins ⟨some 19, .load .one (.t 18), none⟩,
       .ins ⟨some 20, .call 66 [(.t 19), (.c (.fn 67 []))], none⟩,
       .ins ⟨some 17, .mov (.t 20), none⟩] (some [1, 17]))
     (.cond (.t 17)
      (.seq (.ops [.ins ⟨some 2, .mov (.c (.int .i64 2)), none⟩] (some [2]))
      (.ret))
      (.seq (.ops [.ins ⟨some 22, .fieldAddr 1 (.t 1), none⟩,
        .ins ⟨some 23, .load .one (.t 22), none⟩,
        .ins ⟨some 24, .lenSl (.t 23), none⟩,
        .ins ⟨some 25, .bin .gtr (.t 24) (.c (.int .i64 24)), none⟩,
        .ins ⟨some 21, .mov (.t 25), none⟩] (some [1, 21]))
      (.cond (.t 21)
       (.seq (.ops [.ins ⟨some 2, .mov (.c (.int .i64 8)), none⟩] (some [2]))
       (.ret))
       (.skip))))))))))
  (.seq (.seq (.ops [.ins ⟨some 26, .fieldAddr 1 (.t 1), none⟩,
    .ins ⟨some 27, .load .one (.t 26), none⟩,
    .ins ⟨some 28, .lenSl (.t 27), none⟩,
    .ins ⟨some 29, .mov (.c (.int .i64 0)), none⟩] (some [1, 27, 28, 29]))
  (.block 1
   (.loop
    (.seq (.ops [.ins ⟨some 30, .bin .lss (.t 29) (.t 28), none⟩] (some [1, 27, 28, 29, 30]))
    (.seq (.cond (.t 30)
     (.skip)
     (.exit 1))
    (.seq (.block 2
     (.seq (.ops [.ins ⟨some 31, .indexAddrS 1 (.t 27) (.t 29), none⟩,
       .ins ⟨some 32, .load .one (.t 31), none⟩,
       .ins ⟨some 4, .mov (.t 32), none⟩] (some [1, 4, 27, 28, 29]))
     (.seq (.seq (.ops [.ins ⟨some 33, .mov (.t 4), none⟩,
       .ins ⟨some 34, .lenSl (.t 33), none⟩,
       .ins ⟨some 35, .fieldAddr 0 (.t 1), none⟩,
       .ins ⟨some 36, .load .one (.t 35), none⟩,
       .ins ⟨some 37, .lenSl (.t 36), none⟩,
       .ins ⟨some 38, .eq1 .int true (.t 34) (.t 37), none⟩] (some [1, 4, 27, 28, 29, 38]))
     (.cond (.t 38)
      (.seq (.ops [.ins ⟨some 2, .mov (.c (.int .i64 3)), none⟩] (some [2]))
      (.ret))
      (.skip)))
     (.seq (.ops [.ins ⟨some 39, .mov (.t 4), none⟩,
       .ins ⟨some 40, .lenSl (.t 39), none⟩,
       .ins ⟨some 41, .mov (.c (.int .i64 0)), none⟩] (some [1, 27, 28, 29, 39, 40, 41]))
     (.block 3
      (.loop
       (.seq (.ops [.ins ⟨some 42, .bin .lss (.t 41) (.t 40), none⟩] (some [1, 27, 28, 29, 39, 40, 41, 42]))
       (.seq (.cond (.t 42)
        (.skip)
        (.exit 3))
       (.seq (.block 4
        (.seq (.ops [.ins ⟨some 43, .indexAddrS 2 (.t 39) (.t 41), none⟩,
          .ins ⟨some 44, .load (.many 2) (.t 43), none⟩,
          .ins ⟨some 6, .alloc [(.int .i64 0), (.int .i64 0)], none⟩,
          .ins ⟨none, .store 2 (.t 6) (.t 44), none⟩] (some [1, 6, 27, 28, 29, 39, 40, 41]))
        (.block 5
         (.seq (.ops [.ins ⟨some 46, .fieldAddr 0 (.t 6), none⟩,
           .ins ⟨some 47, .load .one (.t 46), none⟩,
           .ins ⟨some 48, .fieldAddr 1 (.t 6), none⟩,
           .ins ⟨some 49, .load .one (.t 48), none⟩,
           .ins ⟨some 50, .bin .gtr (.t 47) (.t 49), none⟩,
           .ins ⟨some 45, .mov (.t 50), none⟩] (some [1, 6, 27, 28, 29, 39, 40, 41, 45]))
         (.cond (.t 45)
          (.seq (.ops [.ins ⟨some 2, .mov (.c (.int .i64 11)), none⟩] (some [2]))
          (.ret))
          (.seq (.ops [.ins ⟨some 52, .fieldAddr 0 (.t 6), none⟩,
            .ins ⟨some 53, .load .one (.t 52), none⟩,
            .ins ⟨some 54, .bin .lss (.t 53) (.c (.int .i64 (-1000000000))), none⟩,
            .ins ⟨some 55, .mov (.t 54), none⟩,
            .ins ⟨some 56, .fieldAddr 1 (.t 6), some (55, false)⟩,
            .ins ⟨some 57, .load .one (.t 56), some (55, false)⟩,
            .ins ⟨some 58, .bin .gtr (.t 57) (.c (.int .i64 1000000000)), some (55, false)⟩,
            .ins ⟨some 59, .pick (.t 55) (.c (.bool true)) (.t 58), none⟩,
            .ins ⟨some 51, .mov (.t 59), none⟩] (some [1, 27, 28, 29, 39, 40, 41, 51]))
          (.cond (.t 51)
           (.seq (.ops [.ins ⟨some 2, .mov (.c (.int .i64 2)), none⟩] (some [2]))
           (.ret))
           (.skip))))))))
       (.ops [.ins ⟨some 60, .bin .add (.t 41) (.c (.int .i64 1)), none⟩,
         .ins ⟨some 41, .mov (.t 60), none⟩] (some [1, 27, 28, 29, 39, 40, 41]))))) (some [1, 27, 28, 29, 39, 40, 41])))))))
    (.ops [.ins ⟨some 61, .bin .add (.t 29) (.c (.int .i64 1)), none⟩,
      .ins ⟨some 29, .mov (.t 61), none⟩] (some [1, 27, 28, 29]))))) (some [1, 27, 28, 29]))))
  (.seq (.ops [.ins ⟨some 2, .mov (.c (.int .i64 0)), none⟩] (some [2]))
  (.ret)))),
  [.tmp 2]⟩

/-- thermion/match.Pairs -/
def A24 : AFn := ⟨
  .seq (.ops [.ins ⟨some 1, .box (.t 0), none⟩,
    .ins ⟨some 2, .mov (.c .nils), none⟩,
    .ins ⟨some 3, .mov (.c (.int .i64 0)), none⟩] (some [1, 2, 3]))
  (.seq (.seq (.ops [.ins ⟨some 11, .load (.many 2) (.t 1), none⟩,
    .ins ⟨some 12, .call 20 [(.t 11)], none⟩,
    .ins ⟨some 4, .mov (.t 12), none⟩] (some [1, 2, 3, 4]))
  (.seq (.ops [.ins ⟨some 13, .mov (.t 4), none⟩,
    .ins ⟨some 14, .eq1 .int true (.t 13) (.c (.int .i64 0)), none⟩] (some [1, 2, 3, 4, 14]))
  (.cond (.t 14)
   (.seq (.ops [.ins ⟨some 15, .mov (.t 4), none⟩,
     .ins ⟨some 2, .mov (.c .nils), none⟩,
     .ins ⟨some 3, .mov (.t 15), none⟩] (some [2, 3]))
   (.ret))
   (.skip))))
  (.seq (.ops [.ins ⟨some 16, .load (.many 2) (.t 1), none⟩,
    .ins ⟨some 17, .call 73 [(.t 16)], none⟩,
    .ins ⟨some 5, .alloc [.nilp], none⟩,
    .ins ⟨none, .store 1 (.t 5) (.t 17), none⟩] (some [2, 3, 5]))
  (.seq (.ops [.ins ⟨some 6, .alloc [.nils], none⟩] (some [2, 3, 5, 6]))
  (.seq (.ops [.ins ⟨some 18, .load .one (.t 5), none⟩,
    .ins ⟨some 19, .call 74 [(.t 18)], none⟩,
    .ins ⟨some 7, .alloc [(.int .u32 0)], none⟩,
    .ins ⟨none, .store 1 (.t 7) (.t 19), none⟩] (some [2, 3, 5, 6, 7]))
  (.seq (.seq (.ops [.ins ⟨some 20, .load .one (.t 5), none⟩,
    .ins ⟨some 21, .nilCheck (.t 20), none⟩,
    .ins ⟨some 22, .fieldAddr 0 (.t 21), none⟩,
    .ins ⟨some 23, .load .one (.t 22), none⟩,
    .ins ⟨some 24, .mov (.c (.int .i64 0)), none⟩] (some [2, 3, 5, 6, 7, 23, 24]))
  (.block 0
   (.loop
    (.seq (.ops [.ins ⟨some 25, .bin .lss (.t 24) (.t 23), none⟩] (some [2, 3, 5, 6, 7, 23, 24, 25]))
    (.seq (.cond (.t 25)
     (.skip)
     (.exit 0))
    (.seq (.block 1
     (.seq (.ops [.ins ⟨some 26, .mov (.t 24), none⟩,
       .ins ⟨some 8, .alloc [(.int .i64 0)], none⟩,
       .ins ⟨none, .store 1 (.t 8) (.t 26), none⟩] (some [2, 3, 5, 6, 7, 8, 23, 24]))
     (.seq (.seq (.ops [.ins ⟨some 27, .load .one (.t 7), none⟩,
       .ins ⟨some 28, .load .one (.t 8), none⟩,
       .ins ⟨some 29, .call 75 [(.t 27), (.t 28)], none⟩,
       .ins ⟨some 30, .un .not (.t 29), none⟩] (some [2, 3, 5, 6, 7, 8, 23, 24, 30]))
     (.cond (.t 30)
      (.exit 1)
      (.skip)))
     (.seq (.ops [.ins ⟨some 31, .load .one (.t 5), none⟩,
       .ins ⟨some 32, .load .one (.t 7), none⟩,
       .ins ⟨some 33, .call 76 [(.t 31), (.t 32)], none⟩,
       .ins ⟨some 9, .alloc [(.int .i64 0)], none⟩,
       .ins ⟨none, .store 1 (.t 9) (.t 33), none⟩] (some [2, 3, 5, 6, 7, 8, 9, 23, 24]))
     (.seq (.ops [.ins ⟨some 34, .load .one (.t 7), none⟩,
       .ins ⟨some 35, .load .one (.t 8), none⟩,
       .ins ⟨some 36, .buildSlice [(.int .i64 0)] 1 1 [(0, (.t 35))], none⟩,
       .ins ⟨some 37, .call 77 [(.t 36)], none⟩,
       .chk ⟨some 34, .load .one (.t 7), none⟩,
       .ins ⟨some 38, .bin .andNot (.t 34) (.t 37), none⟩,
       .ins ⟨none, .store 1 (.t 7) (.t 38), none⟩] (some [2, 3, 5, 6, 7, 8, 9, 23, 24]))
     (.seq (.ops [.ins ⟨some 39, .load .one (.t 7), none⟩,
       .ins ⟨some 40, .load .one (.t 5), none⟩,
       .ins ⟨some 41, .nilCheck (.t 40), none⟩,
       .ins ⟨some 42, .fieldAddr 1 (.t 41), none⟩,
       .ins ⟨some 43, .load .one (.t 42), none⟩,
       .ins ⟨some 44, .load .one (.t 8), none⟩,
       .ins ⟨some 45, .indexAddrS 1 (.t 43) (.t 44), none⟩,
       .ins ⟨some 46, .load .one (.t 45), none⟩,
       .ins ⟨some 47, .bin .and (.t 39) (.t 46), none⟩,
       .ins ⟨some 48, .call 78 [(.t 47)], none⟩] (some [2, 3, 5, 6, 7, 8, 9, 23, 24, 48]))
     (.block 2
      (.rangeFunc (.t 48) [49]
       (.ops [.ins ⟨some 10, .mov (.t 49), none⟩] (some [5, 6, 7, 8, 9, 10]))
       (.block 3
        (.seq (.ops [.ins ⟨some 50, .load .one (.t 5), none⟩,
          .ins ⟨some 51, .load .one (.t 7), none⟩,
          .ins ⟨some 52, .mov (.t 10), none⟩,
          .ins ⟨some 53, .buildSlice [(.int .i64 0)] 1 1 [(0, (.t 52))], none⟩,
          .ins ⟨some 58, .load .one (.t 9), none⟩,
          .ins ⟨some 54, .call 77 [(.t 53)], none⟩,
          .chk ⟨some 50, .load .one (.t 5), none⟩,
          .chk ⟨some 51, .load .one (.t 7), none⟩,
          .chk ⟨some 58, .load .one (.t 9), none⟩,
          .ins ⟨some 55, .bin .andNot (.t 51) (.t 54), none⟩,
          .ins ⟨some 56, .call 76 [(.t 50), (.t 55)], none⟩,
          .chk ⟨some 58, .load .one (.t 9), none⟩,
          .ins ⟨some 57, .bin .add (.c (.int .i64 1)) (.t 56), none⟩,
          .ins ⟨some 59, .eq1 .int false (.t 57) (.t 58), none⟩] (some [6, 7, 8, 10, 59]))
        (.cond (.t 59)
         (.seq (.ops [.ins ⟨some 60, .load .one (.t 6), none⟩,
           .ins ⟨some 61, .load .one (.t 8), none⟩,
           .ins ⟨some 62, .mov (.t 10), none⟩,
           .ins ⟨some 63, .build [(.int .i64 0), (.int .i64 0)] [(0, 1, (.t 61)), (1, 1, (.t 62))], none⟩,
           .ins ⟨some 64, .buildSlice [(.int .i64 0), (.int .i64 0)] 2 1 [(0, (.t 63))], none⟩,
           .ins ⟨some 65, .append 2 16 (.t 60) (.t 64), none⟩,
           .ins ⟨none, .store 1 (.t 6) (.t 65), none⟩] (some [7, 10]))
         (.seq (.ops [.ins ⟨some 66, .load .one (.t 7), none⟩,
           .ins ⟨some 67, .mov (.t 10), none⟩,
           .ins ⟨some 68, .buildSlice [(.int .i64 0)] 1 1 [(0, (.t 67))], none⟩,
           .ins ⟨some 69, .call 77 [(.t 68)], none⟩,
           .chk ⟨some 66, .load .one (.t 7), none⟩,
           .ins ⟨some 70, .bin .andNot (.t 66) (.t 69), none⟩,
           .ins ⟨none, .store 1 (.t 7) (.t 70), none⟩] (some []))
         (.exit 2)))
         (.skip))))))))))))
    (.ops [.ins ⟨some 71, .bin .add (.t 24) (.c (.int .i64 1)), none⟩,
      .ins ⟨some 24, .mov (.t 71), none⟩] (some [2, 3, 5, 6, 7, 23, 24]))))) (some [2, 3, 5, 6, 7, 23, 24]))))
  (.seq (.ops [.ins ⟨some 72, .load .one (.t 6), none⟩,
    .ins ⟨some 2, .mov (.t 72), none⟩,
    .ins ⟨some 3, .mov (.c (.int .i64 0)), none⟩] (some [2, 3]))
  (.ret))))))),
  [.tmp 2, .tmp 3]⟩

/-- thermion/thermionkit.SamePairs -/
def A33 : AFn := ⟨
  .seq (.ops [.ins ⟨some 4, .mov (.c (.bool false)), none⟩] (some [0, 1]))
  (.seq (.seq (.ops [.ins ⟨some 6, .mov (.t 0), none⟩,
    .ins ⟨some 7, .lenSl (.t 6), none⟩,
    .ins ⟨some 8, .mov (.t 1), none⟩,
    .ins ⟨some 9, .lenSl (.t 8), none⟩,
    .ins ⟨some 10, .eq1 .int true (.t 7) (.t 9), none⟩] (some [0, 1, 10]))
  (.cond (.t 10)
   (.seq (.ops [.ins ⟨some 4, .mov (.c (.bool false)), none⟩] (some [4]))
   (.ret))
   (.skip)))
  (.seq (.seq (.ops [.ins ⟨some 5, .mov (.c (.int .i64 0)), none⟩] (some [0, 1, 5]))
  (.block 0
   (.loop
    (.seq (.seq (.ops [.ins ⟨some 11, .mov (.t 5), none⟩,
      .ins ⟨some 12, .mov (.t 0), none⟩,
      .ins ⟨some 13, .lenSl (.t 12), none⟩,
      .ins ⟨some 14, .bin .lss (.t 11) (.t 13), none⟩] (some [0, 1, 5, 14]))
    (.cond (.t 14)
     (.skip)
     (.exit 0)))
    (.seq (.block 1
     (.seq (.ops [.ins ⟨some 17, .mov (.t 0), none⟩,
       .ins ⟨some 18, .mov (.t 5), none⟩,
       .ins ⟨some 19, .indexAddrS 2 (.t 17) (.t 18), none⟩,
       .ins ⟨some 20, .load (.many 2) (.t 19), none⟩,
       .ins ⟨some 21, .mov (.t 1), none⟩,
       .ins ⟨some 22, .mov (.t 5), none⟩,
       .ins ⟨some 23, .indexAddrS 2 (.t 21) (.t 22), none⟩,
       .ins ⟨some 24, .load (.many 2) (.t 23), none⟩,
       .ins ⟨some 25, .eqAgg [.int, .int] true (.t 20) (.t 24), none⟩] (some [0, 1, 5, 25]))
     (.cond (.t 25)
      (.seq (.ops [.ins ⟨some 4, .mov (.c (.bool false)), none⟩] (some [4]))
      (.ret))
      (.skip))))
    (.ops [.ins ⟨some 15, .mov (.t 5), none⟩,
      .ins ⟨some 16, .bin .add (.t 15) (.c (.int .i64 1)), none⟩,
      .ins ⟨some 5, .mov (.t 16), none⟩] (some [0, 1, 5])))) (some [0, 1, 5]))))
  (.seq (.ops [.ins ⟨some 4, .mov (.c (.bool true)), none⟩] (some [4]))
  (.ret)))),
  [.tmp 4]⟩

/-- thermion/thermionlaw08.of -/
def A56 : AFn := ⟨
  .seq (.ops [.ins ⟨some 4, .alloc [(.int .i64 0), (.int .i64 0)], none⟩] (some [0, 1, 4]))
  (.seq (.ops [.ins ⟨some 5, .mov (.t 0), none⟩,
    .ins ⟨some 6, .mov (.t 1), none⟩,
    .ins ⟨some 7, .build [(.int .i64 0), (.int .i64 0)] [(0, 1, (.t 5)), (1, 1, (.t 6))], none⟩,
    .ins ⟨none, .store 2 (.t 4) (.t 7), none⟩] (some [4]))
  (.ret)),
  [.cell 4 (.many 2)]⟩

/-- thermion/match.Text -/
def A59 : AFn := ⟨
  .seq (.ops [.ins ⟨some 1, .box (.t 0), none⟩,
    .ins ⟨some 2, .mov (.c (.str [])), none⟩,
    .ins ⟨some 3, .mov (.c (.int .i64 0)), none⟩] (some [1]))
  (.seq (.block 0
   (.seq (.ops [.ins ⟨some 6, .fieldAddr 0 (.t 1), none⟩,
     .ins ⟨some 7, .load .one (.t 6), none⟩,
     .ins ⟨some 8, .lenStr (.t 7), none⟩,
     .ins ⟨some 9, .call 68 [(.t 8), (.c (.int .i64 1)), (.c (.int .i64 4))], none⟩,
     .ins ⟨some 10, .un .not (.t 9), none⟩,
     .ins ⟨some 11, .mov (.t 10), none⟩,
     .ins ⟨some 12, .fieldAddr 0 (.t 1), some (11, false)⟩,
     .ins ⟨some 13, .load .one (.t 12), some (11, false)⟩,
     .ins ⟨some 14, .call 102 [(.t 13), (.c (.int .i32 65)), (.c (.int .i32 90))], some (11, false)⟩,
     .ins ⟨some 15, .un .not (.t 14), some (11, false)⟩,
     .ins ⟨some 16, .pick (.t 11) (.c (.bool true)) (.t 15), none⟩,
     .ins ⟨some 5, .mov (.t 16), none⟩] (some [1, 5]))
   (.cond (.t 5)
    (.seq (.ops [.ins ⟨some 2, .mov (.c (.str [])), none⟩,
      .ins ⟨some 3, .mov (.c (.int .i64 3)), none⟩] (some [2, 3]))
    (.ret))
    (.seq (.ops [.ins ⟨some 18, .fieldAddr 1 (.t 1), none⟩,
      .ins ⟨some 19, .load .one (.t 18), none⟩,
      .ins ⟨some 20, .call 68 [(.t 19), (.c (.int .i64 0)), (.c (.int .i64 99))], none⟩,
      .ins ⟨some 21, .un .not (.t 20), none⟩,
      .ins ⟨some 22, .mov (.t 21), none⟩,
      .ins ⟨some 23, .fieldAddr 2 (.t 1), some (22, false)⟩,
      .ins ⟨some 24, .load .one (.t 23), some (22, false)⟩,
      .ins ⟨some 25, .call 68 [(.t 24), (.c (.int .i64 1)), (.c (.int .i64 53))], some (22, false)⟩,
      .ins ⟨some 26, .un .not (.t 25), some (22, false)⟩,
      .ins ⟨some 27, .pick (.t 22) (.c (.bool true)) (.t 26), none⟩,
      .ins ⟨some 28, .mov (.t 27), none⟩,
      .ins ⟨some 29, .fieldAddr 3 (.t 1), some (28, false)⟩,
      .ins ⟨some 30, .load .one (.t 29), some (28, false)⟩,
      .ins ⟨some 31, .call 68 [(.t 30), (.c (.int .i64 1)), (.c (.int .i64 26))], some (28, false)⟩,
      .ins ⟨some 32, .un .not (.t 31), some (28, false)⟩,
      .ins ⟨some 33, .pick (.t 28) (.c (.bool true)) (.t 32), none⟩,
      .ins ⟨some 34, .mov (.t 33), none⟩,
      .ins ⟨some 35, .fieldAddr 4 (.t 1), some (34, false)⟩,
      .ins ⟨some 36, .load .one (.t 35), some (34, false)⟩,
      .ins ⟨some 37, .call 68 [(.t 36), (.c (.int .i64 0)), (.c (.int .i64 99999))], some (34, false)⟩,
      .ins ⟨some 38, .un .not (.t 37), some (34, false)⟩,
      .ins ⟨some 39, .pick (.t 34) (.c (.bool true)) (.t 38), none⟩,
      .ins ⟨some 17, .mov (.t 39), none⟩] (some [1, 17]))
    (.cond (.t 17)
     (.seq (.ops [.ins ⟨some 2, .mov (.c (.str [])), none⟩,
       .ins ⟨some 3, .mov (.c (.int .i64 2)), none⟩] (some [2, 3]))
     (.ret))
     (.skip))))))
  (.seq (.ops [.ins ⟨some 40, .fieldAddr 0 (.t 1), none⟩,
    .ins ⟨some 41, .load .one (.t 40), none⟩,
    .ins ⟨some 42, .fieldAddr 1 (.t 1), none⟩,
    .ins ⟨some 43, .load .one (.t 42), none⟩,
    .ins ⟨some 46, .fieldAddr 2 (.t 1), none⟩,
    .ins ⟨some 47, .load .one (.t 46), none⟩,
    .ins ⟨some 50, .fieldAddr 3 (.t 1), none⟩,
    .ins ⟨some 51, .load .one (.t 50), none⟩,
    .ins ⟨some 52, .bin .add (.c (.int .i64 65)) (.t 51), none⟩,
    .ins ⟨some 53, .bin .sub (.t 52) (.c (.int .i64 1)), none⟩,
    .ins ⟨some 54, .convInt .i32 (.t 53), none⟩,
    .ins ⟨some 55, .intToStr (.t 54), none⟩,
    .ins ⟨some 57, .fieldAddr 4 (.t 1), none⟩,
    .ins ⟨some 58, .load .one (.t 57), none⟩,
    .ins ⟨some 44, .call 103 [(.t 43), (.c (.int .i64 2))], none⟩,
    .chk ⟨some 41, .load .one (.t 40), none⟩,
    .chk ⟨some 47, .load .one (.t 46), none⟩,
    .chk ⟨some 51, .load .one (.t 50), none⟩,
    .chk ⟨some 58, .load .one (.t 57), none⟩,
    .ins ⟨some 45, .bin .add (.t 41) (.t 44), none⟩,
    .ins ⟨some 48, .call 103 [(.t 47), (.c (.int .i64 2))], none⟩,
    .chk ⟨some 41, .load .one (.t 40), none⟩,
    .chk ⟨some 51, .load .one (.t 50), none⟩,
    .chk ⟨some 58, .load .one (.t 57), none⟩,
    .ins ⟨some 49, .bin .add (.t 45) (.t 48), none⟩,
    .ins ⟨some 56, .bin .add (.t 49) (.t 55), none⟩,
    .ins ⟨some 59, .call 103 [(.t 58), (.c (.int .i64 5))], none⟩,
    .chk ⟨some 41, .load .one (.t 40), none⟩,
    .chk ⟨some 51, .load .one (.t 50), none⟩,
    .ins ⟨some 60, .bin .add (.t 56) (.t 59), none⟩,
    .ins ⟨some 4, .mov (.t 60), none⟩] (some [4]))
  (.seq (.ops [.ins ⟨some 61, .mov (.t 4), none⟩,
    .ins ⟨some 62, .mov (.t 4), none⟩,
    .ins ⟨some 63, .call 104 [(.t 62)], none⟩,
    .ins ⟨some 64, .convInt .i32 (.t 63), none⟩,
    .ins ⟨some 65, .intToStr (.t 64), none⟩,
    .ins ⟨some 66, .bin .add (.t 61) (.t 65), none⟩,
    .ins ⟨some 2, .mov (.t 66), none⟩,
    .ins ⟨some 3, .mov (.c (.int .i64 0)), none⟩] (some [2, 3]))
  (.ret)))),
  [.tmp 2, .tmp 3]⟩

/-- thermion/thermionlaw08.sorting -/
def A64 : AFn := ⟨
  .seq (.ops [.ins ⟨some 4, .alloc [.nils, .nils], none⟩] (some [0, 1, 4]))
  (.seq (.ops [.ins ⟨some 7, .mov (.t 0), none⟩,
    .ins ⟨some 8, .buildSlice [(.int .i64 0)] 1 1 [(0, (.t 7))], none⟩,
    .ins ⟨some 9, .build [.nils, .nils] [(0, 1, (.t 8))], none⟩,
    .ins ⟨some 5, .alloc [.nils, .nils], none⟩,
    .ins ⟨none, .store 2 (.t 5) (.t 9), none⟩] (some [1, 4, 5]))
  (.seq (.seq (.ops [.ins ⟨some 6, .mov (.c (.int .i64 0)), none⟩] (some [1, 4, 5, 6]))
  (.block 0
   (.loop
    (.seq (.seq (.ops [.ins ⟨some 10, .mov (.t 6), none⟩,
      .ins ⟨some 11, .mov (.t 1), none⟩,
      .ins ⟨some 12, .lenSl (.t 11), none⟩,
      .ins ⟨some 13, .bin .lss (.t 10) (.t 12), none⟩] (some [1, 4, 5, 6, 13]))
    (.cond (.t 13)
     (.skip)
     (.exit 0)))
    (.seq (.block 1
     (.ops [.ins ⟨some 16, .fieldAddr 1 (.t 5), none⟩,
       .ins ⟨some 17, .load .one (.t 16), none⟩,
       .ins ⟨some 18, .mov (.t 1), none⟩,
       .ins ⟨some 19, .mov (.t 6), none⟩,
       .ins ⟨some 20, .indexAddrS 1 (.t 18) (.t 19), none⟩,
       .ins ⟨some 21, .load .one (.t 20), none⟩,
       .ins ⟨some 22, .mov (.t 1), none⟩,
       .ins ⟨some 23, .mov (.t 6), none⟩,
       .ins ⟨some 24, .indexAddrS 1 (.t 22) (.t 23), none⟩,
       .ins ⟨some 25, .load .one (.t 24), none⟩,
       .ins ⟨some 26, .call 56 [(.t 21), (.t 25)], none⟩,
       .chk ⟨some 17, .load .one (.t 16), none⟩,
       .ins ⟨some 27, .buildSlice [(.int .i64 0), (.int .i64 0)] 2 1 [(0, (.t 26))], none⟩,
       .ins ⟨some 28, .buildSlice [.nils] 1 1 [(0, (.t 27))], none⟩,
       .ins ⟨some 29, .append 1 24 (.t 17) (.t 28), none⟩,
       .ins ⟨some 30, .fieldAddr 1 (.t 5), none⟩,
       .ins ⟨none, .store 1 (.t 30) (.t 29), none⟩] (some [1, 4, 5, 6])))
    (.ops [.ins ⟨some 14, .mov (.t 6), none⟩,
      .ins ⟨some 15, .bin .add (.t 14) (.c (.int .i64 1)), none⟩,
      .ins ⟨some 6, .mov (.t 15), none⟩] (some [1, 4, 5, 6])))) (some [1, 4, 5, 6]))))
  (.seq (.ops [.ins ⟨some 31, .load (.many 2) (.t 5), none⟩,
    .ins ⟨none, .store 2 (.t 4) (.t 31), none⟩] (some [4]))
  (.ret)))),
  [.cell 4 (.many 2)]⟩

/-- slices.ContainsFunc[[]int,int] -/
def A66 : AFn := ⟨
  .seq (.ops [.ins ⟨some 4, .mov (.c (.bool false)), none⟩] (some [0, 1]))
  (.seq (.ops [.ins ⟨some 5, .mov (.t 0), none⟩,
    .ins ⟨some 6, .mov (.t 1), none⟩,
    .ins ⟨some 7, .call 114 [(.t 5), (.t 6)], none⟩,
    .ins ⟨some 8, .bin .geq (.t 7) (.c (.int .i64 0)), none⟩,
    .ins ⟨some 4, .mov (.t 8), none⟩] (some [4]))
  (.ret)),
  [.tmp 4]⟩

/-- thermion/match.Check$1 -/
def A67 : AFn := ⟨
  .seq (.ops [.ins ⟨some 2, .mov (.c (.bool false)), none⟩] (some [0]))
  (.seq (.ops [.ins ⟨some 3, .mov (.t 0), none⟩,
    .ins ⟨some 4, .call 68 [(.t 3), (.c (.int .i64 0)), (.c (.int .i64 1000000))], none⟩,
    .ins ⟨some 5, .un .not (.t 4), none⟩,
    .ins ⟨some 2, .mov (.t 5), none⟩] (some [2]))
  (.ret)),
  [.tmp 2]⟩

/-- thermion/match.between -/
def A68 : AFn := ⟨
  .seq (.ops [.ins ⟨some 6, .mov (.c (.bool false)), none⟩] (some [0, 1, 2]))
  (.seq (.ops [.ins ⟨some 7, .mov (.t 1), none⟩,
    .ins ⟨some 8, .mov (.t 0), none⟩,
    .ins ⟨some 9, .bin .leq (.t 7) (.t 8), none⟩,
    .ins ⟨some 10, .mov (.t 9), none⟩,
    .ins ⟨some 11, .mov (.t 0), some (10, true)⟩,
    .ins ⟨some 12, .mov (.t 2), some (10, true)⟩,
    .ins ⟨some 13, .bin .leq (.t 11) (.t 12), some (10, true)⟩,
    .ins ⟨some 14, .pick (.t 10) (.t 13) (.c (.bool false)), none⟩,
    .ins ⟨some 6, .mov (.t 14), none⟩] (some [6]))
  (.ret)),
  [.tmp 6]⟩

/-- thermion/match.alike -/
def A71 : AFn := ⟨
  .seq (.ops [.ins ⟨some 3, .box (.t 0), none⟩,
    .ins ⟨some 6, .mov (.c (.bool false)), none⟩] (some [1, 2, 3]))
  (.seq (.seq (.ops [.ins ⟨some 11, .fieldAddr 0 (.t 3), none⟩,
    .ins ⟨some 12, .load .one (.t 11), none⟩,
    .ins ⟨some 13, .lenSl (.t 12), none⟩,
    .ins ⟨some 14, .mov (.c (.int .i64 0)), none⟩] (some [1, 2, 3, 12, 13, 14]))
  (.block 0
   (.loop
    (.seq (.ops [.ins ⟨some 15, .bin .lss (.t 14) (.t 13), none⟩] (some [1, 2, 3, 12, 13, 14, 15]))
    (.seq (.cond (.t 15)
     (.skip)
     (.exit 0))
    (.seq (.block 1
     (.seq (.ops [.ins ⟨some 16, .mov (.t 14), none⟩,
       .ins ⟨some 17, .indexAddrS 1 (.t 12) (.t 14), none⟩,
       .ins ⟨some 18, .load .one (.t 17), none⟩,
       .ins ⟨some 7, .mov (.t 16), none⟩,
       .ins ⟨some 8, .mov (.t 18), none⟩] (some [1, 2, 3, 7, 8, 12, 13, 14]))
     (.seq (.ops [.ins ⟨some 19, .fieldAddr 1 (.t 3), none⟩,
       .ins ⟨some 20, .load .one (.t 19), none⟩,
       .ins ⟨some 21, .mov (.t 1), none⟩,
       .ins ⟨some 22, .indexAddrS 1 (.t 20) (.t 21), none⟩,
       .ins ⟨some 23, .load .one (.t 22), none⟩,
       .ins ⟨some 24, .mov (.t 7), none⟩,
       .ins ⟨some 25, .indexAddrS 2 (.t 23) (.t 24), none⟩,
       .ins ⟨some 26, .load (.many 2) (.t 25), none⟩,
       .ins ⟨some 27, .fieldAddr 1 (.t 3), none⟩,
       .ins ⟨some 28, .load .one (.t 27), none⟩,
       .ins ⟨some 29, .mov (.t 2), none⟩,
       .ins ⟨some 30, .indexAddrS 1 (.t 28) (.t 29), none⟩,
       .ins ⟨some 31, .load .one (.t 30), none⟩,
       .ins ⟨some 32, .mov (.t 7), none⟩,
       .ins ⟨some 33, .indexAddrS 2 (.t 31) (.t 32), none⟩,
       .ins ⟨some 34, .load (.many 2) (.t 33), none⟩,
       .ins ⟨some 9, .alloc [(.int .i64 0), (.int .i64 0)], none⟩,
       .ins ⟨some 10, .alloc [(.int .i64 0), (.int .i64 0)], none⟩,
       .ins ⟨none, .store 2 (.t 9) (.t 26), none⟩,
       .chk ⟨some 28, .load .one (.t 27), none⟩,
       .chk ⟨some 31, .load .one (.t 30), none⟩,
       .chk ⟨some 34, .load (.many 2) (.t 33), none⟩,
       .ins ⟨none, .store 2 (.t 10) (.t 34), none⟩] (some [1, 2, 3, 8, 9, 10, 12, 13, 14]))
     (.seq (.ops [.ins ⟨some 35, .fieldAddr 1 (.t 9), none⟩,
       .ins ⟨some 36, .load .one (.t 35), none⟩,
       .ins ⟨some 37, .fieldAddr 0 (.t 10), none⟩,
       .ins ⟨some 38, .load .one (.t 37), none⟩,
       .ins ⟨some 39, .bin .sub (.t 36) (.t 38), none⟩,
       .ins ⟨some 40, .fieldAddr 1 (.t 10), none⟩,
       .ins ⟨some 41, .load .one (.t 40), none⟩,
       .ins ⟨some 42, .fieldAddr 0 (.t 9), none⟩,
       .ins ⟨some 43, .load .one (.t 42), none⟩,
       .ins ⟨some 44, .bin .sub (.t 41) (.t 43), none⟩,
       .ins ⟨some 45, .maxOf [(.t 39), (.t 44)], none⟩,
       .ins ⟨some 46, .mov (.t 8), none⟩,
       .ins ⟨some 47, .bin .gtr (.t 45) (.t 46), none⟩] (some [1, 2, 3, 12, 13, 14, 47]))
     (.cond (.t 47)
      (.seq (.ops [.ins ⟨some 6, .mov (.c (.bool false)), none⟩] (some [6]))
      (.ret))
      (.skip))))))
    (.ops [.ins ⟨some 48, .bin .add (.t 14) (.c (.int .i64 1)), none⟩,
      .ins ⟨some 14, .mov (.t 48), none⟩] (some [1, 2, 3, 12, 13, 14]))))) (some [1, 2, 3, 12, 13, 14]))))
  (.seq (.ops [.ins ⟨some 49, .mov (.t 1), none⟩,
    .ins ⟨some 50, .mov (.t 2), none⟩,
    .ins ⟨some 51, .eq1 .int true (.t 49) (.t 50), none⟩,
    .ins ⟨some 6, .mov (.t 51), none⟩] (some [6]))
  (.ret))),
  [.tmp 6]⟩

/-- thermion/match.asked -/
def A73 : AFn := ⟨
  .seq (.ops [.ins ⟨some 1, .box (.t 0), none⟩,
    .ins ⟨some 2, .mov (.c .nilp), none⟩] (some [1]))
  (.seq (.ops [.ins ⟨some 7, .fieldAddr 1 (.t 1), none⟩,
    .ins ⟨some 8, .load .one (.t 7), none⟩,
    .ins ⟨some 9, .lenSl (.t 8), none⟩,
    .ins ⟨some 10, .makeMap, none⟩,
    .ins ⟨some 11, .makeMap, none⟩,
    .ins ⟨some 12, .build [(.int .i64 0), .nils, .nilm, .nilm] [(0, 1, (.t 9)), (2, 1, (.t 10)), (3, 1, (.t 11))], none⟩,
    .ins ⟨some 13, .box (.t 12), none⟩,
    .ins ⟨some 3, .mov (.t 13), none⟩] (some [1, 3]))
  (.seq (.seq (.ops [.ins ⟨some 14, .mov (.t 3), none⟩,
    .ins ⟨some 15, .nilCheck (.t 14), none⟩,
    .ins ⟨some 16, .fieldAddr 0 (.t 15), none⟩,
    .ins ⟨some 17, .load .one (.t 16), none⟩,
    .ins ⟨some 18, .mov (.c (.int .i64 0)), none⟩] (some [1, 3, 17, 18]))
  (.block 0
   (.loop
    (.seq (.ops [.ins ⟨some 19, .bin .lss (.t 18) (.t 17), none⟩] (some [1, 3, 17, 18, 19]))
    (.seq (.cond (.t 19)
     (.skip)
     (.exit 0))
    (.seq (.block 1
     (.seq (.ops [.ins ⟨some 20, .mov (.t 18), none⟩,
       .ins ⟨some 4, .mov (.t 20), none⟩] (some [1, 3, 4, 17, 18]))
     (.seq (.ops [.ins ⟨some 5, .mov (.c (.int .u32 0)), none⟩] (some [1, 3, 4, 5, 17, 18]))
     (.seq (.seq (.ops [.ins ⟨some 21, .mov (.t 3), none⟩,
       .ins ⟨some 22, .nilCheck (.t 21), none⟩,
       .ins ⟨some 23, .fieldAddr 0 (.t 22), none⟩,
       .ins ⟨some 24, .load .one (.t 23), none⟩,
       .ins ⟨some 25, .mov (.c (.int .i64 0)), none⟩] (some [1, 3, 4, 5, 17, 18, 24, 25]))
     (.block 2
      (.loop
       (.seq (.ops [.ins ⟨some 26, .bin .lss (.t 25) (.t 24), none⟩] (some [1, 3, 4, 5, 17, 18, 24, 25, 26]))
       (.seq (.cond (.t 26)
        (.skip)
        (.exit 2))
       (.seq (.block 3
        (.seq (.ops [.ins ⟨some 27, .mov (.t 25), none⟩,
          .ins ⟨some 6, .mov (.t 27), none⟩] (some [1, 3, 4, 5, 6, 17, 18, 24, 25]))
        (.seq (.ops [.ins ⟨some 28, .load (.many 2) (.t 1), none⟩,
          .ins ⟨some 29, .mov (.t 4), none⟩,
          .ins ⟨some 30, .mov (.t 6), none⟩,
          .ins ⟨some 31, .call 71 [(.t 28), (.t 29), (.t 30)], none⟩] (some [1, 3, 4, 5, 6, 17, 18, 24, 25, 31]))
        (.cond (.t 31)
         (.ops [.ins ⟨some 32, .mov (.t 5), none⟩,
           .ins ⟨some 33, .mov (.t 6), none⟩,
           .ins ⟨some 34, .buildSlice [(.int .i64 0)] 1 1 [(0, (.t 33))], none⟩,
           .ins ⟨some 35, .call 77 [(.t 34)], none⟩,
           .ins ⟨some 36, .bin .or (.t 32) (.t 35), none⟩,
           .ins ⟨some 5, .mov (.t 36), none⟩] (some [1, 3, 4, 5, 17, 18, 24, 25]))
         (.skip)))))
       (.ops [.ins ⟨some 37, .bin .add (.t 25) (.c (.int .i64 1)), none⟩,
         .ins ⟨some 25, .mov (.t 37), none⟩] (some [1, 3, 4, 5, 17, 18, 24, 25]))))) (some [1, 3, 4, 5, 17, 18, 24, 25]))))
     (.ops [.ins ⟨some 38, .mov (.t 3), none⟩,
       .ins ⟨some 39, .mov (.t 3), none⟩,
       .ins ⟨some 40, .nilCheck (.t 39), none⟩,
       .ins ⟨some 41, .fieldAddr 1 (.t 40), none⟩,
       .ins ⟨some 42, .load .one (.t 41), none⟩,
       .ins ⟨some 43, .mov (.t 5), none⟩,
       .ins ⟨some 44, .buildSlice [(.int .u32 0)] 1 1 [(0, (.t 43))], none⟩,
       .ins ⟨some 45, .append 1 4 (.t 42) (.t 44), none⟩,
       .ins ⟨some 46, .nilCheck (.t 38), none⟩,
       .ins ⟨some 47, .fieldAddr 1 (.t 46), none⟩,
       .ins ⟨none, .store 1 (.t 47) (.t 45), none⟩] (some [1, 3, 17, 18]))))))
    (.ops [.ins ⟨some 48, .bin .add (.t 18) (.c (.int .i64 1)), none⟩,
      .ins ⟨some 18, .mov (.t 48), none⟩] (some [1, 3, 17, 18]))))) (some [1, 3, 17, 18]))))
  (.seq (.ops [.ins ⟨some 49, .mov (.t 3), none⟩,
    .ins ⟨some 2, .mov (.t 49), none⟩] (some [2]))
  (.ret)))),
  [.tmp 2]⟩

/-- (*thermion/match.matter).all -/
def A74 : AFn := ⟨
  .seq (.ops [.ins ⟨some 2, .mov (.c (.int .u32 0)), none⟩] (some [0]))
  (.seq (.ops [.ins ⟨some 3, .mov (.t 0), none⟩,
    .ins ⟨some 4, .nilCheck (.t 3), none⟩,
    .ins ⟨some 5, .fieldAddr 0 (.t 4), none⟩,
    .ins ⟨some 6, .load .one (.t 5), none⟩,
    .ins ⟨some 7, .bin .shl (.c (.int .u32 1)) (.t 6), none⟩,
    .ins ⟨some 8, .bin .sub (.t 7) (.c (.int .u32 1)), none⟩,
    .ins ⟨some 2, .mov (.t 8), none⟩] (some [2]))
  (.ret)),
  [.tmp 2]⟩

/-- (thermion/match.set).has -/
def A75 : AFn := ⟨
  .seq (.ops [.ins ⟨some 4, .mov (.c (.bool false)), none⟩] (some [0, 1]))
  (.seq (.ops [.ins ⟨some 5, .mov (.t 0), none⟩,
    .ins ⟨some 6, .mov (.t 1), none⟩,
    .ins ⟨some 7, .bin .shr (.t 5) (.t 6), none⟩,
    .ins ⟨some 8, .bin .and (.t 7) (.c (.int .u32 1)), none⟩,
    .ins ⟨some 9, .eq1 .int false (.t 8) (.c (.int .u32 1)), none⟩,
    .ins ⟨some 4, .mov (.t 9), none⟩] (some [4]))
  (.ret)),
  [.tmp 4]⟩

/-- (*thermion/match.matter).most -/
def A76 : AFn := ⟨
  .seq (.ops [.ins ⟨some 4, .mov (.c (.int .i64 0)), none⟩] (some [0, 1]))
  (.seq (.ops [.ins ⟨some 8, .mov (.t 0), none⟩,
    .ins ⟨some 9, .nilCheck (.t 8), none⟩,
    .ins ⟨some 10, .fieldAddr 2 (.t 9), none⟩,
    .ins ⟨some 11, .load .one (.t 10), none⟩,
    .ins ⟨some 12, .mov (.t 1), none⟩,
    .ins ⟨some 13, .lookup (.int .i64 0) true (.t 11) (.t 12), none⟩,
    .ins ⟨some 7, .mov (.t 13), none⟩,
    .ins ⟨some 14, .extract (.t 7) 0, none⟩,
    .ins ⟨some 15, .extract (.t 7) 1, none⟩,
    .ins ⟨some 5, .mov (.t 14), none⟩,
    .ins ⟨some 6, .mov (.t 15), none⟩] (some [0, 1, 5, 6]))
  (.seq (.seq (.ops [.ins ⟨some 16, .mov (.t 6), none⟩,
    .ins ⟨some 17, .un .not (.t 16), none⟩] (some [0, 1, 5, 17]))
  (.cond (.t 17)
   (.seq (.ops [.ins ⟨some 18, .mov (.t 0), none⟩,
     .ins ⟨some 19, .nilCheck (.t 18), none⟩,
     .ins ⟨some 20, .fieldAddr 1 (.t 19), none⟩,
     .ins ⟨some 21, .load .one (.t 20), none⟩,
     .ins ⟨some 22, .mov (.t 1), none⟩,
     .ins ⟨some 23, .call 115 [(.t 21), (.t 22)], none⟩,
     .ins ⟨some 5, .mov (.t 23), none⟩] (some [0, 1, 5]))
   (.ops [.ins ⟨some 24, .mov (.t 0), none⟩,
     .ins ⟨some 25, .nilCheck (.t 24), none⟩,
     .ins ⟨some 26, .fieldAddr 2 (.t 25), none⟩,
     .ins ⟨some 27, .load .one (.t 26), none⟩,
     .ins ⟨some 28, .mov (.t 1), none⟩,
     .ins ⟨some 29, .mov (.t 5), none⟩,
     .ins ⟨none, .mapUpdate (.t 27) (.t 28) (.t 29), none⟩] (some [5])))
   (.skip)))
  (.seq (.ops [.ins ⟨some 30, .mov (.t 5), none⟩,
    .ins ⟨some 4, .mov (.t 30), none⟩] (some [4]))
  (.ret)))),
  [.tmp 4]⟩

/-- thermion/match.of -/
def A77 : AFn := ⟨
  .seq (.ops [.ins ⟨some 2, .mov (.c (.int .u32 0)), none⟩] (some [0]))
  (.seq (.ops [.ins ⟨some 3, .mov (.c (.int .u32 0)), none⟩] (some [0, 3]))
  (.seq (.seq (.ops [.ins ⟨some 6, .mov (.t 0), none⟩,
    .ins ⟨some 7, .lenSl (.t 6), none⟩,
    .ins ⟨some 8, .mov (.c (.int .i64 0)), none⟩] (some [3, 6, 7, 8]))
  (.block 0
   (.loop
    (.seq (.ops [.ins ⟨some 9, .bin .lss (.t 8) (.t 7), none⟩] (some [3, 6, 7, 8, 9]))
    (.seq (.cond (.t 9)
     (.skip)
     (.exit 0))
    (.seq (.block 1
     (.seq (.ops [.ins ⟨some 10, .indexAddrS 1 (.t 6) (.t 8), none⟩,
       .ins ⟨some 11, .load .one (.t 10), none⟩,
       .ins ⟨some 5, .mov (.t 11), none⟩] (some [3, 5, 6, 7, 8]))
     (.ops [.ins ⟨some 12, .mov (.t 3), none⟩,
       .ins ⟨some 13, .mov (.t 5), none⟩,
       .ins ⟨some 14, .bin .shl (.c (.int .u32 1)) (.t 13), none⟩,
       .ins ⟨some 15, .bin .or (.t 12) (.t 14), none⟩,
       .ins ⟨some 3, .mov (.t 15), none⟩] (some [3, 6, 7, 8]))))
    (.ops [.ins ⟨some 16, .bin .add (.t 8) (.c (.int .i64 1)), none⟩,
      .ins ⟨some 8, .mov (.t 16), none⟩] (some [3, 6, 7, 8]))))) (some [3, 6, 7, 8]))))
  (.seq (.ops [.ins ⟨some 17, .mov (.t 3), none⟩,
    .ins ⟨some 2, .mov (.t 17), none⟩] (some [2]))
  (.ret)))),
  [.tmp 2]⟩

/-- (thermion/match.set).items -/
def A78 : AFn := ⟨
  .seq (.ops [.ins ⟨some 1, .box (.t 0), none⟩,
    .ins ⟨some 2, .mov (.c .nilf), none⟩] (some [1]))
  (.seq (.ops [.ins ⟨some 3, .makeFn 116 [(.t 1)], none⟩,
    .ins ⟨some 2, .mov (.t 3), none⟩] (some [2]))
  (.ret)),
  [.tmp 2]⟩

/-- thermion/match.only -/
def A102 : AFn := ⟨
  .seq (.ops [.ins ⟨some 6, .mov (.c (.bool false)), none⟩] (some [0, 1, 2]))
  (.seq (.seq (.ops [.ins ⟨some 9, .mov (.t 0), none⟩,
    .ins ⟨some 10, .rangeStr (.t 9), none⟩] (some [1, 2, 10]))
  (.block 0
   (.loop
    (.seq (.ops [.ins ⟨some 11, .nextStr (.t 10), none⟩,
      .ins ⟨some 12, .extract (.t 11) 0, none⟩] (some [1, 2, 10, 11, 12]))
    (.seq (.cond (.t 12)
     (.skip)
     (.exit 0))
    (.block 1
     (.seq (.ops [.ins ⟨some 13, .extract (.t 11) 2, none⟩,
       .ins ⟨some 8, .mov (.t 13), none⟩] (some [1, 2, 8, 10]))
     (.seq (.ops [.ins ⟨some 14, .mov (.t 8), none⟩,
       .ins ⟨some 15, .mov (.t 1), none⟩,
       .ins ⟨some 16, .bin .lss (.t 14) (.t 15), none⟩,
       .ins ⟨some 17, .mov (.t 16), none⟩,
       .ins ⟨some 18, .mov (.t 8), some (17, false)⟩,
       .ins ⟨some 19, .mov (.t 2), some (17, false)⟩,
       .ins ⟨some 20, .bin .gtr (.t 18) (.t 19), some (17, false)⟩,
       .ins ⟨some 21, .pick (.t 17) (.c (.bool true)) (.t 20), none⟩] (some [1, 2, 10, 21]))
     (.cond (.t 21)
      (.seq (.ops [.ins ⟨some 6, .mov (.c (.bool false)), none⟩] (some [6]))
      (.ret))
      (.skip))))))) (some [1, 2, 10]))))
  (.seq (.ops [.ins ⟨some 6, .mov (.c (.bool true)), none⟩] (some [6]))
  (.ret))),
  [.tmp 6]⟩

/-- thermion/match.padded -/
def A103 : AFn := ⟨
  .seq (.ops [.ins ⟨some 4, .mov (.c (.str [])), none⟩] (some [0, 1]))
  (.seq (.ops [.ins ⟨some 6, .mov (.t 0), none⟩,
    .ins ⟨some 7, .call 127 [(.t 6)], none⟩,
    .ins ⟨some 5, .mov (.t 7), none⟩] (some [1, 5]))
  (.seq (.ops [.ins ⟨some 8, .mov (.t 1), none⟩,
    .ins ⟨some 9, .mov (.t 5), none⟩,
    .ins ⟨some 10, .lenStr (.t 9), none⟩,
    .ins ⟨some 11, .bin .sub (.t 8) (.t 10), none⟩,
    .ins ⟨some 12, .call 128 [(.c (.str [48])), (.t 11)], none⟩,
    .ins ⟨some 13, .mov (.t 5), none⟩,
    .ins ⟨some 14, .bin .add (.t 12) (.t 13), none⟩,
    .ins ⟨some 4, .mov (.t 14), none⟩] (some [4]))
  (.ret))),
  [.tmp 4]⟩

/-- thermion/match.check -/
def A104 : AFn := ⟨
  .seq (.ops [.ins ⟨some 2, .mov (.c (.int .u8 0)), none⟩] (some [0]))
  (.seq (.ops [.ins ⟨some 3, .mov (.c (.int .i64 0)), none⟩,
    .ins ⟨some 4, .mov (.c (.int .i64 0)), none⟩] (some [0, 3, 4]))
  (.seq (.seq (.ops [.ins ⟨some 7, .mov (.t 0), none⟩,
    .ins ⟨some 8, .rangeStr (.t 7), none⟩] (some [3, 4, 8]))
  (.block 0
   (.loop
    (.seq (.ops [.ins ⟨some 9, .nextStr (.t 8), none⟩,
      .ins ⟨some 10, .extract (.t 9) 0, none⟩] (some [3, 4, 8, 9, 10]))
    (.seq (.cond (.t 10)
     (.skip)
     (.exit 0))
    (.block 1
     (.seq (.ops [.ins ⟨some 11, .extract (.t 9) 2, none⟩,
       .ins ⟨some 6, .mov (.t 11), none⟩] (some [3, 4, 6, 8]))
     (.seq (.ops [.ins ⟨some 12, .mov (.t 4), none⟩,
       .ins ⟨some 13, .bin .add (.t 12) (.c (.int .i64 1)), none⟩,
       .ins ⟨some 4, .mov (.t 13), none⟩] (some [3, 4, 6, 8]))
     (.ops [.ins ⟨some 14, .mov (.t 3), none⟩,
       .ins ⟨some 15, .mov (.t 4), none⟩,
       .ins ⟨some 16, .mov (.t 6), none⟩,
       .ins ⟨some 17, .call 129 [(.c (.str [48, 49, 50, 51, 52, 53, 54, 55, 56, 57, 65, 66, 67, 68, 69, 70, 71, 72, 73, 74, 75, 76, 77, 78, 79, 80, 81, 82, 83, 84, 85, 86, 87, 88, 89, 90, 43])), (.t 16)], none⟩,
       .ins ⟨some 18, .bin .mul (.t 15) (.t 17), none⟩,
       .ins ⟨some 19, .bin .add (.t 14) (.t 18), none⟩,
       .ins ⟨some 3, .mov (.t 19), none⟩] (some [3, 4, 8]))))))) (some [3, 4, 8]))))
  (.seq (.ops [.ins ⟨some 20, .mov (.t 3), none⟩,
    .ins ⟨some 21, .bin .rem (.t 20) (.c (.int .i64 37)), none⟩,
    .ins ⟨some 22, .bin .sub (.c (.int .i64 37)) (.t 21), none⟩,
    .ins ⟨some 23, .bin .rem (.t 22) (.c (.int .i64 37)), none⟩,
    .ins ⟨some 24, .indexStr (.c (.str [48, 49, 50, 51, 52, 53, 54, 55, 56, 57, 65, 66, 67, 68, 69, 70, 71, 72, 73, 74, 75, 76, 77, 78, 79, 80, 81, 82, 83, 84, 85, 86, 87, 88, 89, 90, 43])) (.t 23), none⟩,
    .ins ⟨some 2, .mov (.t 24), none⟩] (some [2]))
  (.ret)))),
  [.tmp 2]⟩

/-- slices.IndexFunc[[]int,int] -/
def A114 : AFn := ⟨
  .seq (.ops [.ins ⟨some 4, .mov (.c (.int .i64 0)), none⟩] (some [0, 1]))
  (.seq (.seq (.ops [.ins ⟨some 6, .mov (.t 0), none⟩,
    .ins ⟨some 7, .lenSl (.t 6), none⟩,
    .ins ⟨some 8, .mov (.c (.int .i64 0)), none⟩] (some [0, 1, 7, 8]))
  (.block 0
   (.loop
    (.seq (.ops [.ins ⟨some 9, .bin .lss (.t 8) (.t 7), none⟩] (some [0, 1, 7, 8, 9]))
    (.seq (.cond (.t 9)
     (.skip)
     (.exit 0))
    (.seq (.block 1
     (.seq (.ops [.ins ⟨some 10, .mov (.t 8), none⟩,
       .ins ⟨some 5, .mov (.t 10), none⟩] (some [0, 1, 5, 7, 8]))
     (.seq (.ops [.ins ⟨some 11, .mov (.t 1), none⟩,
       .ins ⟨some 12, .mov (.t 0), none⟩,
       .ins ⟨some 13, .mov (.t 5), none⟩,
       .ins ⟨some 14, .indexAddrS 1 (.t 12) (.t 13), none⟩,
       .ins ⟨some 15, .load .one (.t 14), none⟩,
       .ins ⟨some 16, .callv (.t 11) [(.t 15)], none⟩] (some [0, 1, 5, 7, 8, 16]))
     (.cond (.t 16)
      (.seq (.ops [.ins ⟨some 17, .mov (.t 5), none⟩,
        .ins ⟨some 4, .mov (.t 17), none⟩] (some [4]))
      (.ret))
      (.skip)))))
    (.ops [.ins ⟨some 18, .bin .add (.t 8) (.c (.int .i64 1)), none⟩,
      .ins ⟨some 8, .mov (.t 18), none⟩] (some [0, 1, 7, 8]))))) (some [0, 1, 7, 8]))))
  (.seq (.ops [.ins ⟨some 4, .mov (.c (.int .i64 (-1))), none⟩] (some [4]))
  (.ret))),
  [.tmp 4]⟩

/-- thermion/match.grown -/
def A115 : AFn := ⟨
  .seq (.ops [.ins ⟨some 4, .mov (.c (.int .i64 0)), none⟩] (some [0, 1, 4]))
  (.seq (.ops [.ins ⟨some 9, .mov (.t 0), none⟩,
    .ins ⟨some 10, .mov (.t 1), none⟩,
    .ins ⟨some 11, .mov (.t 0), none⟩,
    .ins ⟨some 12, .lenSl (.t 11), none⟩,
    .ins ⟨some 13, .makeSlice [(.int .i64 0)] 8 (.t 12), none⟩,
    .ins ⟨some 14, .build [.nils, (.int .u32 0), .nils, .nils, .nils, .nils, .nils] [(0, 1, (.t 9)), (1, 1, (.t 10)), (2, 1, (.t 13))], none⟩,
    .ins ⟨some 15, .box (.t 14), none⟩,
    .ins ⟨some 5, .alloc [.nilp], none⟩,
    .ins ⟨none, .store 1 (.t 5) (.t 15), none⟩] (some [1, 4, 5]))
  (.seq (.seq (.ops [.ins ⟨some 16, .load .one (.t 5), none⟩,
    .ins ⟨some 17, .nilCheck (.t 16), none⟩,
    .ins ⟨some 18, .fieldAddr 2 (.t 17), none⟩,
    .ins ⟨some 19, .load .one (.t 18), none⟩,
    .ins ⟨some 20, .lenSl (.t 19), none⟩,
    .ins ⟨some 21, .mov (.c (.int .i64 0)), none⟩] (some [1, 4, 5, 20, 21]))
  (.block 0
   (.loop
    (.seq (.ops [.ins ⟨some 22, .bin .lss (.t 21) (.t 20), none⟩] (some [1, 4, 5, 20, 21, 22]))
    (.seq (.cond (.t 22)
     (.skip)
     (.exit 0))
    (.seq (.block 1
     (.seq (.ops [.ins ⟨some 23, .mov (.t 21), none⟩,
       .ins ⟨some 6, .mov (.t 23), none⟩] (some [1, 4, 5, 6, 20, 21]))
     (.ops [.ins ⟨some 24, .load .one (.t 5), none⟩,
       .ins ⟨some 25, .nilCheck (.t 24), none⟩,
       .ins ⟨some 26, .fieldAddr 2 (.t 25), none⟩,
       .ins ⟨some 27, .load .one (.t 26), none⟩,
       .ins ⟨some 28, .mov (.t 6), none⟩,
       .ins ⟨some 29, .indexAddrS 1 (.t 27) (.t 28), none⟩,
       .ins ⟨none, .store 1 (.t 29) (.c (.int .i64 (-1))), none⟩] (some [1, 4, 5, 20, 21]))))
    (.ops [.ins ⟨some 30, .bin .add (.t 21) (.c (.int .i64 1)), none⟩,
      .ins ⟨some 21, .mov (.t 30), none⟩] (some [1, 4, 5, 20, 21]))))) (some [1, 4, 5, 20, 21]))))
  (.seq (.ops [.ins ⟨some 7, .alloc [(.int .i64 0)], none⟩,
    .ins ⟨none, .store 1 (.t 7) (.c (.int .i64 0)), none⟩] (some [1, 4, 5, 7]))
  (.seq (.seq (.ops [.ins ⟨some 31, .mov (.t 1), none⟩,
    .ins ⟨some 32, .call 78 [(.t 31)], none⟩] (some [4, 5, 7, 32]))
  (.block 2
   (.rangeFunc (.t 32) [33]
    (.ops [.ins ⟨some 8, .mov (.t 33), none⟩] (some [5, 7, 8]))
    (.block 3
     (.seq (.ops [.ins ⟨some 34, .load .one (.t 5), none⟩,
       .ins ⟨some 35, .nilCheck (.t 34), none⟩,
       .ins ⟨some 36, .fieldAddr 2 (.t 35), none⟩,
       .ins ⟨some 37, .load .one (.t 36), none⟩,
       .ins ⟨some 38, .mov (.t 8), none⟩,
       .ins ⟨some 39, .indexAddrS 1 (.t 37) (.t 38), none⟩,
       .ins ⟨some 40, .load .one (.t 39), none⟩,
       .ins ⟨some 41, .bin .lss (.t 40) (.c (.int .i64 0)), none⟩,
       .ins ⟨some 42, .mov (.t 41), none⟩,
       .ins ⟨some 43, .load .one (.t 5), some (42, true)⟩,
       .ins ⟨some 44, .mov (.t 8), some (42, true)⟩,
       .ins ⟨some 45, .call 137 [(.t 43), (.t 44)], some (42, true)⟩,
       .ins ⟨some 46, .pick (.t 42) (.t 45) (.c (.bool false)), none⟩] (some [7, 46]))
     (.cond (.t 46)
      (.ops [.ins ⟨some 47, .load .one (.t 7), none⟩,
        .ins ⟨some 48, .bin .add (.t 47) (.c (.int .i64 1)), none⟩,
        .ins ⟨none, .store 1 (.t 7) (.t 48), none⟩] (some []))
      (.skip)))))))
  (.seq (.ops [.ins ⟨some 49, .load .one (.t 7), none⟩,
    .ins ⟨some 4, .mov (.t 49), none⟩] (some [4]))
  (.ret)))))),
  [.tmp 4]⟩

/-- (thermion/match.set).items$1 -/
def A116 : AFn := ⟨
  .seq (.ops [.ins ⟨some 3, .mov (.c (.int .i64 0)), none⟩] (some [0, 1, 3]))
  (.block 0
   (.loop
    (.seq (.seq (.ops [.ins ⟨some 4, .load .one (.t 1), none⟩,
      .ins ⟨some 5, .mov (.t 3), none⟩,
      .ins ⟨some 6, .bin .shr (.t 4) (.t 5), none⟩,
      .ins ⟨some 7, .bin .gtr (.t 6) (.c (.int .u32 0)), none⟩] (some [0, 1, 3, 7]))
    (.cond (.t 7)
     (.skip)
     (.exit 0)))
    (.seq (.block 1
     (.seq (.ops [.ins ⟨some 10, .load .one (.t 1), none⟩,
       .ins ⟨some 11, .mov (.t 3), none⟩,
       .ins ⟨some 12, .call 75 [(.t 10), (.t 11)], none⟩,
       .ins ⟨some 13, .mov (.t 12), none⟩,
       .ins ⟨some 14, .mov (.t 0), some (13, true)⟩,
       .ins ⟨some 15, .mov (.t 3), some (13, true)⟩,
       .ins ⟨some 16, .callv (.t 14) [(.t 15)], some (13, true)⟩,
       .ins ⟨some 17, .un .not (.t 16), some (13, true)⟩,
       .ins ⟨some 18, .pick (.t 13) (.t 17) (.c (.bool false)), none⟩] (some [0, 1, 3, 18]))
     (.cond (.t 18)
      (.ret)
      (.skip))))
    (.ops [.ins ⟨some 8, .mov (.t 3), none⟩,
      .ins ⟨some 9, .bin .add (.t 8) (.c (.int .i64 1)), none⟩,
      .ins ⟨some 3, .mov (.t 9), none⟩] (some [0, 1, 3])))) (some [0, 1, 3]))),
  []⟩

/-- strings.Repeat -/
def A128 : AFn := ⟨
  .seq (.ops [.ins ⟨some 4, .mov (.c (.str [])), none⟩] (some [0, 1, 119]))
  (.seq (.seq (.ops [.ins ⟨some 11, .mov (.t 1), none⟩] (some [0, 1, 11, 119]))
  (.block 0
   (.seq (.ops [.ins ⟨some 13, .eq1 .int false (.t 11) (.c (.int .i64 0)), none⟩,
     .ins ⟨some 12, .mov (.t 13), none⟩] (some [0, 1, 11, 12, 119]))
   (.cond (.t 12)
    (.seq (.ops [.ins ⟨some 4, .mov (.c (.str [])), none⟩] (some [4]))
    (.ret))
    (.seq (.ops [.ins ⟨some 15, .eq1 .int false (.t 11) (.c (.int .i64 1)), none⟩,
      .ins ⟨some 14, .mov (.t 15), none⟩] (some [0, 1, 14, 119]))
    (.cond (.t 14)
     (.seq (.ops [.ins ⟨some 16, .mov (.t 0), none⟩,
       .ins ⟨some 4, .mov (.t 16), none⟩] (some [4]))
     (.ret))
     (.skip)))))))
  (.seq (.seq (.ops [.ins ⟨some 17, .mov (.t 1), none⟩,
    .ins ⟨some 18, .bin .lss (.t 17) (.c (.int .i64 0)), none⟩] (some [0, 1, 18, 119]))
  (.cond (.t 18)
   (.ops [.ins ⟨none, .bin .eql (.c .junk) (.c .junk), none⟩,
     .ins ⟨none, .bin .eql (.c .junk) (.c .junk), none⟩] (some [0, 1, 119]))
   (.skip)))
  (.seq (.ops [.ins ⟨some 21, .mov (.t 0), none⟩,
    .ins ⟨some 22, .lenStr (.t 21), none⟩,
    .ins ⟨some 23, .convInt .u64 (.t 22), none⟩,
    .ins ⟨some 24, .mov (.t 1), none⟩,
    .ins ⟨some 25, .convInt .u64 (.t 24), none⟩,
    .ins ⟨some 26, .call 142 [(.t 23), (.t 25)], none⟩,
    .ins ⟨some 20, .mov (.t 26), none⟩,
    .ins ⟨some 27, .extract (.t 20) 0, none⟩,
    .ins ⟨some 28, .extract (.t 20) 1, none⟩,
    .ins ⟨some 5, .mov (.t 27), none⟩,
    .ins ⟨some 6, .mov (.t 28), none⟩] (some [0, 5, 6, 119]))
  (.seq (.seq (.ops [.ins ⟨some 29, .mov (.t 5), none⟩,
    .ins ⟨some 30, .bin .gtr (.t 29) (.c (.int .u64 0)), none⟩,
    .ins ⟨some 31, .mov (.t 30), none⟩,
    .ins ⟨some 32, .mov (.t 6), some (31, false)⟩,
    .ins ⟨some 33, .bin .gtr (.t 32) (.c (.int .u64 9223372036854775807)), some (31, false)⟩,
    .ins ⟨some 34, .pick (.t 31) (.c (.bool true)) (.t 33), none⟩] (some [0, 6, 34, 119]))
  (.cond (.t 34)
   (.ops [.ins ⟨none, .bin .eql (.c .junk) (.c .junk), none⟩,
     .ins ⟨none, .bin .eql (.c .junk) (.c .junk), none⟩] (some [0, 6, 119]))
   (.skip)))
  (.seq (.ops [.ins ⟨some 36, .mov (.t 6), none⟩,
    .ins ⟨some 37, .convInt .i64 (.t 36), none⟩,
    .ins ⟨some 7, .mov (.t 37), none⟩] (some [0, 7, 119]))
  (.seq (.seq (.ops [.ins ⟨some 38, .mov (.t 0), none⟩,
    .ins ⟨some 39, .lenStr (.t 38), none⟩,
    .ins ⟨some 40, .eq1 .int false (.t 39) (.c (.int .i64 0)), none⟩] (some [0, 7, 40, 119]))
  (.cond (.t 40)
   (.seq (.ops [.ins ⟨some 4, .mov (.c (.str [])), none⟩] (some [4]))
   (.ret))
   (.skip)))
  (.seq (.seq (.ops [.ins ⟨some 41, .mov (.t 0), none⟩,
    .ins ⟨some 42, .indexStr (.t 41) (.c (.int .i64 0)), none⟩] (some [0, 7, 42, 119]))
  (.block 1
   (.seq (.seq (.ops [.ins ⟨some 44, .eq1 .int false (.t 42) (.c (.int .u8 32)), none⟩,
     .ins ⟨some 43, .mov (.t 44), none⟩] (some [0, 7, 42, 43, 119]))
   (.cond (.t 43)
    (.skip)
    (.seq (.ops [.ins ⟨some 45, .eq1 .int false (.t 42) (.c (.int .u8 45)), none⟩,
      .ins ⟨some 43, .mov (.t 45), none⟩] (some [0, 7, 42, 43, 119]))
    (.cond (.t 43)
     (.skip)
     (.seq (.ops [.ins ⟨some 46, .eq1 .int false (.t 42) (.c (.int .u8 48)), none⟩,
       .ins ⟨some 43, .mov (.t 46), none⟩] (some [0, 7, 42, 43, 119]))
     (.cond (.t 43)
      (.skip)
      (.seq (.ops [.ins ⟨some 47, .eq1 .int false (.t 42) (.c (.int .u8 61)), none⟩,
        .ins ⟨some 43, .mov (.t 47), none⟩] (some [0, 7, 42, 43, 119]))
      (.cond (.t 43)
       (.skip)
       (.ops [.ins ⟨some 48, .eq1 .int false (.t 42) (.c (.int .u8 9)), none⟩,
         .ins ⟨some 43, .mov (.t 48), none⟩] (some [0, 7, 43, 119]))))))))))
   (.cond (.t 43)
    (.block 2
     (.seq (.ops [.ins ⟨some 50, .mov (.t 7), none⟩,
       .ins ⟨some 51, .bin .leq (.t 50) (.c (.int .i64 128)), none⟩,
       .ins ⟨some 52, .mov (.t 51), none⟩,
       .ins ⟨some 53, .mov (.t 0), some (52, true)⟩,
       .ins ⟨some 54, .call 143 [(.c (.str [32, 32, 32, 32, 32, 32, 32, 32, 32, 32, 32, 32, 32, 32, 32, 32, 32, 32, 32, 32, 32, 32, 32, 32, 32, 32, 32, 32, 32, 32, 32, 32, 32, 32, 32, 32, 32, 32, 32, 32, 32, 32, 32, 32, 32, 32, 32, 32, 32, 32, 32, 32, 32, 32, 32, 32, 32, 32, 32, 32, 32, 32, 32, 32, 32, 32, 32, 32, 32, 32, 32, 32, 32, 32, 32, 32, 32, 32, 32, 32, 32, 32, 32, 32, 32, 32, 32, 32, 32, 32, 32, 32, 32, 32, 32, 32, 32, 32, 32, 32, 32, 32, 32, 32, 32, 32, 32, 32, 32, 32, 32, 32, 32, 32, 32, 32, 32, 32, 32, 32, 32, 32, 32, 32, 32, 32, 32, 32])), (.t 53)], some (52, true)⟩,
       .ins ⟨some 55, .pick (.t 52) (.t 54) (.c (.bool false)), none⟩,
       .ins ⟨some 49, .mov (.t 55), none⟩] (some [0, 7, 49, 119]))
     (.cond (.t 49)
      (.seq (.ops [.ins ⟨some 56, .mov (.t 7), none⟩,
        .ins ⟨some 57, .sliceStr (.c (.str [32, 32, 32, 32, 32, 32, 32, 32, 32, 32, 32, 32, 32, 32, 32, 32, 32, 32, 32, 32, 32, 32, 32, 32, 32, 32, 32, 32, 32, 32, 32, 32, 32, 32, 32, 32, 32, 32, 32, 32, 32, 32, 32, 32, 32, 32, 32, 32, 32, 32, 32, 32, 32, 32, 32, 32, 32, 32, 32, 32, 32, 32, 32, 32, 32, 32, 32, 32, 32, 32, 32, 32, 32, 32, 32, 32, 32, 32, 32, 32, 32, 32, 32, 32, 32, 32, 32, 32, 32, 32, 32, 32, 32, 32, 32, 32, 32, 32, 32, 32, 32, 32, 32, 32, 32, 32, 32, 32, 32, 32, 32, 32, 32, 32, 32, 32, 32, 32, 32, 32, 32, 32, 32, 32, 32, 32, 32, 32])) none (some (.t 56)), none⟩,
        .ins ⟨some 4, .mov (.t 57), none⟩] (some [4]))
      (.ret))
      (.seq (.ops [.ins ⟨some 59, .mov (.t 7), none⟩,
        .ins ⟨some 60, .bin .leq (.t 59) (.c (.int .i64 128)), none⟩,
        .ins ⟨some 61, .mov (.t 60), none⟩,
        .ins ⟨some 62, .mov (.t 0), some (61, true)⟩,
        .ins ⟨some 63, .call 143 [(.c (.str [45, 45, 45, 45, 45, 45, 45, 45, 45, 45, 45, 45, 45, 45, 45, 45, 45, 45, 45, 45, 45, 45, 45, 45, 45, 45, 45, 45, 45, 45, 45, 45, 45, 45, 45, 45, 45, 45, 45, 45, 45, 45, 45, 45, 45, 45, 45, 45, 45, 45, 45, 45, 45, 45, 45, 45, 45, 45, 45, 45, 45, 45, 45, 45, 45, 45, 45, 45, 45, 45, 45, 45, 45, 45, 45, 45, 45, 45, 45, 45, 45, 45, 45, 45, 45, 45, 45, 45, 45, 45, 45, 45, 45, 45, 45, 45, 45, 45, 45, 45, 45, 45, 45, 45, 45, 45, 45, 45, 45, 45, 45, 45, 45, 45, 45, 45, 45, 45, 45, 45, 45, 45, 45, 45, 45, 45, 45, 45])), (.t 62)], some (61, true)⟩,
        .ins ⟨some 64, .pick (.t 61) (.t 63) (.c (.bool false)), none⟩,
        .ins ⟨some 58, .mov (.t 64), none⟩] (some [0, 7, 58, 119]))
      (.cond (.t 58)
       (.seq (.ops [.ins ⟨some 65, .mov (.t 7), none⟩,
         .ins ⟨some 66, .sliceStr (.c (.str [45, 45, 45, 45, 45, 45, 45, 45, 45, 45, 45, 45, 45, 45, 45, 45, 45, 45, 45, 45, 45, 45, 45, 45, 45, 45, 45, 45, 45, 45, 45, 45, 45, 45, 45, 45, 45, 45, 45, 45, 45, 45, 45, 45, 45, 45, 45, 45, 45, 45, 45, 45, 45, 45, 45, 45, 45, 45, 45, 45, 45, 45, 45, 45, 45, 45, 45, 45, 45, 45, 45, 45, 45, 45, 45, 45, 45, 45, 45, 45, 45, 45, 45, 45, 45, 45, 45, 45, 45, 45, 45, 45, 45, 45, 45, 45, 45, 45, 45, 45, 45, 45, 45, 45, 45, 45, 45, 45, 45, 45, 45, 45, 45, 45, 45, 45, 45, 45, 45, 45, 45, 45, 45, 45, 45, 45, 45, 45])) none (some (.t 65)), none⟩,
         .ins ⟨some 4, .mov (.t 66), none⟩] (some [4]))
       (.ret))
       (.seq (.ops [.ins ⟨some 68, .mov (.t 7), none⟩,
         .ins ⟨some 69, .bin .leq (.t 68) (.c (.int .i64 64)), none⟩,
         .ins ⟨some 70, .mov (.t 69), none⟩,
         .ins ⟨some 71, .mov (.t 0), some (70, true)⟩,
         .ins ⟨some 72, .call 143 [(.c (.str [48, 48, 48, 48, 48, 48, 48, 48, 48, 48, 48, 48, 48, 48, 48, 48, 48, 48, 48, 48, 48, 48, 48, 48, 48, 48, 48, 48, 48, 48, 48, 48, 48, 48, 48, 48, 48, 48, 48, 48, 48, 48, 48, 48, 48, 48, 48, 48, 48, 48, 48, 48, 48, 48, 48, 48, 48, 48, 48, 48, 48, 48, 48, 48])), (.t 71)], some (70, true)⟩,
         .ins ⟨some 73, .pick (.t 70) (.t 72) (.c (.bool false)), none⟩,
         .ins ⟨some 67, .mov (.t 73), none⟩] (some [0, 7, 67, 119]))
       (.cond (.t 67)
        (.seq (.ops [.ins ⟨some 74, .mov (.t 7), none⟩,
          .ins ⟨some 75, .sliceStr (.c (.str [48, 48, 48, 48, 48, 48, 48, 48, 48, 48, 48, 48, 48, 48, 48, 48, 48, 48, 48, 48, 48, 48, 48, 48, 48, 48, 48, 48, 48, 48, 48, 48, 48, 48, 48, 48, 48, 48, 48, 48, 48, 48, 48, 48, 48, 48, 48, 48, 48, 48, 48, 48, 48, 48, 48, 48, 48, 48, 48, 48, 48, 48, 48, 48])) none (some (.t 74)), none⟩,
          .ins ⟨some 4, .mov (.t 75), none⟩] (some [4]))
        (.ret))
        (.seq (.ops [.ins ⟨some 77, .mov (.t 7), none⟩,
          .ins ⟨some 78, .bin .leq (.t 77) (.c (.int .i64 128)), none⟩,
          .ins ⟨some 79, .mov (.t 78), none⟩,
          .ins ⟨some 80, .mov (.t 0), some (79, true)⟩,
          .ins ⟨some 81, .call 143 [(.c (.str [61, 61, 61, 61, 61, 61, 61, 61, 61, 61, 61, 61, 61, 61, 61, 61, 61, 61, 61, 61, 61, 61, 61, 61, 61, 61, 61, 61, 61, 61, 61, 61, 61, 61, 61, 61, 61, 61, 61, 61, 61, 61, 61, 61, 61, 61, 61, 61, 61, 61, 61, 61, 61, 61, 61, 61, 61, 61, 61, 61, 61, 61, 61, 61, 61, 61, 61, 61, 61, 61, 61, 61, 61, 61, 61, 61, 61, 61, 61, 61, 61, 61, 61, 61, 61, 61, 61, 61, 61, 61, 61, 61, 61, 61, 61, 61, 61, 61, 61, 61, 61, 61, 61, 61, 61, 61, 61, 61, 61, 61, 61, 61, 61, 61, 61, 61, 61, 61, 61, 61, 61, 61, 61, 61, 61, 61, 61, 61])), (.t 80)], some (79, true)⟩,
          .ins ⟨some 82, .pick (.t 79) (.t 81) (.c (.bool false)), none⟩,
          .ins ⟨some 76, .mov (.t 82), none⟩] (some [0, 7, 76, 119]))
        (.cond (.t 76)
         (.seq (.ops [.ins ⟨some 83, .mov (.t 7), none⟩,
           .ins ⟨some 84, .sliceStr (.c (.str [61, 61, 61, 61, 61, 61, 61, 61, 61, 61, 61, 61, 61, 61, 61, 61, 61, 61, 61, 61, 61, 61, 61, 61, 61, 61, 61, 61, 61, 61, 61, 61, 61, 61, 61, 61, 61, 61, 61, 61, 61, 61, 61, 61, 61, 61, 61, 61, 61, 61, 61, 61, 61, 61, 61, 61, 61, 61, 61, 61, 61, 61, 61, 61, 61, 61, 61, 61, 61, 61, 61, 61, 61, 61, 61, 61, 61, 61, 61, 61, 61, 61, 61, 61, 61, 61, 61, 61, 61, 61, 61, 61, 61, 61, 61, 61, 61, 61, 61, 61, 61, 61, 61, 61, 61, 61, 61, 61, 61, 61, 61, 61, 61, 61, 61, 61, 61, 61, 61, 61, 61, 61, 61, 61, 61, 61, 61, 61])) none (some (.t 83)), none⟩,
           .ins ⟨some 4, .mov (.t 84), none⟩] (some [4]))
         (.ret))
         (.seq (.ops [.ins ⟨some 86, .mov (.t 7), none⟩,
           .ins ⟨some 87, .bin .leq (.t 86) (.c (.int .i64 64)), none⟩,
           .ins ⟨some 88, .mov (.t 87), none⟩,
           .ins ⟨some 89, .mov (.t 0), some (88, true)⟩,
           .ins ⟨some 90, .call 143 [(.c (.str [9, 9, 9, 9, 9, 9, 9, 9, 9, 9, 9, 9, 9, 9, 9, 9, 9, 9, 9, 9, 9, 9, 9, 9, 9, 9, 9, 9, 9, 9, 9, 9, 9, 9, 9, 9, 9, 9, 9, 9, 9, 9, 9, 9, 9, 9, 9, 9, 9, 9, 9, 9, 9, 9, 9, 9, 9, 9, 9, 9, 9, 9, 9, 9])), (.t 89)], some (88, true)⟩,
           .ins ⟨some 91, .pick (.t 88) (.t 90) (.c (.bool false)), none⟩,
           .ins ⟨some 85, .mov (.t 91), none⟩] (some [0, 7, 85, 119]))
         (.cond (.t 85)
          (.seq (.ops [.ins ⟨some 92, .mov (.t 7), none⟩,
            .ins ⟨some 93, .sliceStr (.c (.str [9, 9, 9, 9, 9, 9, 9, 9, 9, 9, 9, 9, 9, 9, 9, 9, 9, 9, 9, 9, 9, 9, 9, 9, 9, 9, 9, 9, 9, 9, 9, 9, 9, 9, 9, 9, 9, 9, 9, 9, 9, 9, 9, 9, 9, 9, 9, 9, 9, 9, 9, 9, 9, 9, 9, 9, 9, 9, 9, 9, 9, 9, 9, 9])) none (some (.t 92)), none⟩,
            .ins ⟨some 4, .mov (.t 93), none⟩] (some [4]))
          (.ret))
          (.skip))))))))))))
    (.skip)))))
  (.seq (.ops [.ins ⟨some 94, .mov (.t 7), none⟩,
    .ins ⟨some 8, .mov (.t 94), none⟩] (some [0, 7, 8, 119]))
  (.seq (.seq (.ops [.ins ⟨some 95, .mov (.t 7), none⟩,
    .ins ⟨some 96, .bin .gtr (.t 95) (.c (.int .i64 8192)), none⟩] (some [0, 7, 8, 96, 119]))
  (.cond (.t 96)
   (.seq (.ops [.ins ⟨some 97, .mov (.t 0), none⟩,
     .ins ⟨some 98, .lenStr (.t 97), none⟩,
     .ins ⟨some 99, .bin .quo (.c (.int .i64 8192)) (.t 98), none⟩,
     .ins ⟨some 100, .mov (.t 0), none⟩,
     .ins ⟨some 101, .lenStr (.t 100), none⟩,
     .ins ⟨some 102, .bin .mul (.t 99) (.t 101), none⟩,
     .ins ⟨some 8, .mov (.t 102), none⟩] (some [0, 7, 8, 119]))
   (.seq (.ops [.ins ⟨some 103, .mov (.t 8), none⟩,
     .ins ⟨some 104, .eq1 .int false (.t 103) (.c (.int .i64 0)), none⟩] (some [0, 7, 8, 104, 119]))
   (.cond (.t 104)
    (.ops [.ins ⟨some 105, .mov (.t 0), none⟩,
      .ins ⟨some 106, .lenStr (.t 105), none⟩,
      .ins ⟨some 8, .mov (.t 106), none⟩] (some [0, 7, 8, 119]))
    (.skip))))
   (.skip)))
  (.seq (.ops [.ins ⟨some 9, .alloc [.nilp, .nils], none⟩] (some [0, 7, 8, 9, 119]))
  (.seq (.ops [.ins ⟨some 107, .mov (.t 7), none⟩,
    .ins ⟨some 108, .call 144 [(.t 9), (.t 107)], none⟩] (some [0, 7, 8, 9, 119]))
  (.seq (.ops [.ins ⟨some 109, .mov (.t 0), none⟩,
    .ins ⟨some 110, .call 145 [(.t 9), (.t 109)], none⟩] (some [7, 8, 9, 119]))
  (.seq (.block 3
   (.loop
    (.seq (.seq (.ops [.ins ⟨some 111, .call 146 [(.t 9)], none⟩,
      .ins ⟨some 112, .mov (.t 7), none⟩,
      .ins ⟨some 113, .bin .lss (.t 111) (.t 112), none⟩] (some [7, 8, 9, 113, 119]))
    (.cond (.t 113)
     (.skip)
     (.exit 3)))
    (.block 4
     (.seq (.ops [.ins ⟨some 114, .mov (.t 7), none⟩,
       .ins ⟨some 115, .call 146 [(.t 9)], none⟩,
       .ins ⟨some 116, .bin .sub (.t 114) (.t 115), none⟩,
       .ins ⟨some 117, .call 146 [(.t 9)], none⟩,
       .ins ⟨some 118, .mov (.t 8), none⟩,
       .ins ⟨none, .bin .eql (.c .junk) (.c .junk), none⟩,
       .ins ⟨some 10, .mov (.t 119), none⟩] (some [7, 8, 9, 10, 119]))
     (.ops [.ins ⟨some 120, .call 147 [(.t 9)], none⟩,
       .ins ⟨some 121, .mov (.t 10), none⟩,
       .ins ⟨some 122, .sliceStr (.t 120) none (some (.t 121)), none⟩,
       .ins ⟨some 123, .call 145 [(.t 9), (.t 122)], none⟩] (some [7, 8, 9, 119]))))) (some [7, 8, 9, 119])))
  (.seq (.ops [.ins ⟨some 124, .call 147 [(.t 9)], none⟩,
    .ins ⟨some 4, .mov (.t 124), none⟩] (some [4]))
  (.ret))))))))))))))),
  [.tmp 4]⟩

/-- (*thermion/match.growth).grow -/
def A137 : AFn := ⟨
  .seq (.ops [.ins ⟨some 2, .box (.t 0), none⟩,
    .ins ⟨some 3, .box (.t 1), none⟩,
    .ins ⟨some 4, .alloc [(.bool false)], none⟩] (some [2, 3, 4]))
  (.seq (.ops [.ins ⟨some 10, .load .one (.t 2), none⟩,
    .ins ⟨some 11, .nilCheck (.t 10), none⟩,
    .ins ⟨some 12, .fieldAddr 0 (.t 11), none⟩,
    .ins ⟨some 13, .load .one (.t 12), none⟩,
    .ins ⟨some 14, .lenSl (.t 13), none⟩,
    .ins ⟨some 5, .mov (.t 14), none⟩] (some [2, 3, 4, 5]))
  (.seq (.ops [.ins ⟨some 15, .load .one (.t 2), none⟩,
    .ins ⟨some 16, .load .one (.t 2), none⟩,
    .ins ⟨some 17, .load .one (.t 2), none⟩,
    .ins ⟨some 18, .mov (.t 5), none⟩,
    .ins ⟨some 19, .makeSlice [(.int .i64 0)] 8 (.t 18), none⟩,
    .ins ⟨some 20, .mov (.t 5), none⟩,
    .ins ⟨some 21, .makeSlice [(.int .i64 0)] 8 (.t 20), none⟩,
    .ins ⟨some 22, .mov (.t 5), none⟩,
    .ins ⟨some 23, .makeSlice [(.bool false)] 1 (.t 22), none⟩,
    .ins ⟨some 24, .nilCheck (.t 15), none⟩,
    .ins ⟨some 25, .fieldAddr 3 (.t 24), none⟩,
    .ins ⟨none, .store 1 (.t 25) (.t 19), none⟩,
    .chk ⟨some 16, .load .one (.t 2), none⟩,
    .chk ⟨some 17, .load .one (.t 2), none⟩,
    .chk ⟨some 21, .makeSlice [(.int .i64 0)] 8 (.t 20), none⟩,
    .chk ⟨some 23, .makeSlice [(.bool false)] 1 (.t 22), none⟩,
    .ins ⟨some 26, .nilCheck (.t 16), none⟩,
    .ins ⟨some 27, .fieldAddr 4 (.t 26), none⟩,
    .ins ⟨none, .store 1 (.t 27) (.t 21), none⟩,
    .chk ⟨some 17, .load .one (.t 2), none⟩,
    .chk ⟨some 23, .makeSlice [(.bool false)] 1 (.t 22), none⟩,
    .ins ⟨some 28, .nilCheck (.t 17), none⟩,
    .ins ⟨some 29, .fieldAddr 5 (.t 28), none⟩,
    .ins ⟨none, .store 1 (.t 29) (.t 23), none⟩] (some [2, 3, 4, 5]))
  (.seq (.seq (.ops [.ins ⟨some 30, .mov (.t 5), none⟩,
    .ins ⟨some 31, .mov (.c (.int .i64 0)), none⟩] (some [2, 3, 4, 30, 31]))
  (.block 0
   (.loop
    (.seq (.ops [.ins ⟨some 32, .bin .lss (.t 31) (.t 30), none⟩] (some [2, 3, 4, 30, 31, 32]))
    (.seq (.cond (.t 32)
     (.skip)
     (.exit 0))
    (.seq (.block 1
     (.seq (.ops [.ins ⟨some 33, .mov (.t 31), none⟩,
       .ins ⟨some 6, .mov (.t 33), none⟩] (some [2, 3, 4, 6, 30, 31]))
     (.ops [.ins ⟨some 34, .load .one (.t 2), none⟩,
       .ins ⟨some 35, .nilCheck (.t 34), none⟩,
       .ins ⟨some 36, .fieldAddr 3 (.t 35), none⟩,
       .ins ⟨some 37, .load .one (.t 36), none⟩,
       .ins ⟨some 38, .mov (.t 6), none⟩,
       .ins ⟨some 39, .load .one (.t 2), none⟩,
       .ins ⟨some 40, .nilCheck (.t 39), none⟩,
       .ins ⟨some 41, .fieldAddr 4 (.t 40), none⟩,
       .ins ⟨some 42, .load .one (.t 41), none⟩,
       .ins ⟨some 43, .mov (.t 6), none⟩,
       .ins ⟨some 44, .mov (.t 6), none⟩,
       .ins ⟨some 45, .indexAddrS 1 (.t 37) (.t 38), none⟩,
       .ins ⟨none, .store 1 (.t 45) (.c (.int .i64 (-1))), none⟩,
       .ins ⟨some 46, .indexAddrS 1 (.t 42) (.t 43), none⟩,
       .ins ⟨none, .store 1 (.t 46) (.t 44), none⟩] (some [2, 3, 4, 30, 31]))))
    (.ops [.ins ⟨some 47, .bin .add (.t 31) (.c (.int .i64 1)), none⟩,
      .ins ⟨some 31, .mov (.t 47), none⟩] (some [2, 3, 4, 30, 31]))))) (some [2, 3, 4, 30, 31]))))
  (.seq (.ops [.ins ⟨some 48, .load .one (.t 2), none⟩,
    .ins ⟨some 49, .load .one (.t 3), none⟩,
    .ins ⟨some 50, .call 156 [(.t 48), (.t 49)], none⟩] (some [2, 3, 4]))
  (.seq (.block 2
   (.loop
    (.seq (.seq (.ops [.ins ⟨some 51, .load .one (.t 2), none⟩,
      .ins ⟨some 52, .nilCheck (.t 51), none⟩,
      .ins ⟨some 53, .fieldAddr 6 (.t 52), none⟩,
      .ins ⟨some 54, .load .one (.t 53), none⟩,
      .ins ⟨some 55, .lenSl (.t 54), none⟩,
      .ins ⟨some 56, .bin .gtr (.t 55) (.c (.int .i64 0)), none⟩] (some [2, 3, 4, 56]))
    (.cond (.t 56)
     (.skip)
     (.exit 2)))
    (.block 3
     (.seq (.ops [.ins ⟨some 57, .load .one (.t 2), none⟩,
       .ins ⟨some 58, .nilCheck (.t 57), none⟩,
       .ins ⟨some 59, .fieldAddr 6 (.t 58), none⟩,
       .ins ⟨some 60, .load .one (.t 59), none⟩,
       .ins ⟨some 61, .indexAddrS 1 (.t 60) (.c (.int .i64 0)), none⟩,
       .ins ⟨some 62, .load .one (.t 61), none⟩,
       .ins ⟨some 7, .alloc [(.int .i64 0)], none⟩,
       .ins ⟨none, .store 1 (.t 7) (.t 62), none⟩] (some [2, 3, 4, 7]))
     (.seq (.ops [.ins ⟨some 63, .load .one (.t 2), none⟩,
       .ins ⟨some 64, .load .one (.t 2), none⟩,
       .ins ⟨some 65, .nilCheck (.t 64), none⟩,
       .ins ⟨some 66, .fieldAddr 6 (.t 65), none⟩,
       .ins ⟨some 67, .load .one (.t 66), none⟩,
       .ins ⟨some 68, .sliceSl 1 (.t 67) (some (.c (.int .i64 1))) none, none⟩,
       .ins ⟨some 69, .nilCheck (.t 63), none⟩,
       .ins ⟨some 70, .fieldAddr 6 (.t 69), none⟩,
       .ins ⟨none, .store 1 (.t 70) (.t 68), none⟩] (some [2, 3, 4, 7]))
     (.seq (.ops [.ins ⟨some 71, .load .one (.t 2), none⟩,
       .ins ⟨some 72, .nilCheck (.t 71), none⟩,
       .ins ⟨some 73, .fieldAddr 0 (.t 72), none⟩,
       .ins ⟨some 74, .load .one (.t 73), none⟩,
       .ins ⟨some 75, .load .one (.t 7), none⟩,
       .ins ⟨some 76, .indexAddrS 1 (.t 74) (.t 75), none⟩,
       .ins ⟨some 77, .load .one (.t 76), none⟩,
       .ins ⟨some 78, .load .one (.t 2), none⟩,
       .ins ⟨some 79, .nilCheck (.t 78), none⟩,
       .ins ⟨some 80, .fieldAddr 1 (.t 79), none⟩,
       .ins ⟨some 81, .load .one (.t 80), none⟩,
       .ins ⟨some 82, .bin .and (.t 77) (.t 81), none⟩,
       .ins ⟨some 83, .call 78 [(.t 82)], none⟩] (some [2, 3, 4, 7, 83]))
     (.block 4
      (.rangeFunc (.t 83) [84]
       (.ops [.ins ⟨some 8, .mov (.t 84), none⟩] (some [2, 3, 4, 7, 8]))
       (.block 5
        (.seq (.ops [.ins ⟨some 85, .load .one (.t 2), none⟩,
          .ins ⟨some 86, .nilCheck (.t 85), none⟩,
          .ins ⟨some 87, .fieldAddr 2 (.t 86), none⟩,
          .ins ⟨some 88, .load .one (.t 87), none⟩,
          .ins ⟨some 89, .mov (.t 8), none⟩,
          .ins ⟨some 90, .indexAddrS 1 (.t 88) (.t 89), none⟩,
          .ins ⟨some 91, .load .one (.t 90), none⟩,
          .ins ⟨some 9, .mov (.t 91), none⟩] (some [2, 3, 4, 7, 8, 9]))
        (.block 6
         (.seq (.ops [.ins ⟨some 93, .load .one (.t 2), none⟩,
           .ins ⟨some 94, .nilCheck (.t 93), none⟩,
           .ins ⟨some 95, .fieldAddr 4 (.t 94), none⟩,
           .ins ⟨some 96, .load .one (.t 95), none⟩,
           .ins ⟨some 97, .load .one (.t 7), none⟩,
           .ins ⟨some 98, .indexAddrS 1 (.t 96) (.t 97), none⟩,
           .ins ⟨some 99, .load .one (.t 98), none⟩,
           .ins ⟨some 100, .load .one (.t 2), none⟩,
           .ins ⟨some 101, .nilCheck (.t 100), none⟩,
           .ins ⟨some 102, .fieldAddr 4 (.t 101), none⟩,
           .ins ⟨some 103, .load .one (.t 102), none⟩,
           .ins ⟨some 104, .mov (.t 8), none⟩,
           .ins ⟨some 105, .indexAddrS 1 (.t 103) (.t 104), none⟩,
           .ins ⟨some 106, .load .one (.t 105), none⟩,
           .ins ⟨some 107, .eq1 .int false (.t 99) (.t 106), none⟩,
           .ins ⟨some 108, .mov (.t 107), none⟩,
           .ins ⟨some 109, .load .one (.t 2), some (108, false)⟩,
           .ins ⟨some 110, .nilCheck (.t 109), some (108, false)⟩,
           .ins ⟨some 111, .fieldAddr 2 (.t 110), some (108, false)⟩,
           .ins ⟨some 112, .load .one (.t 111), some (108, false)⟩,
           .ins ⟨some 113, .load .one (.t 7), some (108, false)⟩,
           .ins ⟨some 114, .indexAddrS 1 (.t 112) (.t 113), some (108, false)⟩,
           .ins ⟨some 115, .load .one (.t 114), some (108, false)⟩,
           .ins ⟨some 116, .mov (.t 8), some (108, false)⟩,
           .ins ⟨some 117, .eq1 .int false (.t 115) (.t 116), some (108, false)⟩,
           .ins ⟨some 118, .pick (.t 108) (.c (.bool true)) (.t 117), none⟩,
           .ins ⟨some 92, .mov (.t 118), none⟩] (some [2, 3, 4, 7, 8, 9, 92]))
         (.cond (.t 92)
          (.skip)
          (.seq (.ops [.ins ⟨some 120, .mov (.t 8), none⟩,
            .ins ⟨some 121, .load .one (.t 3), none⟩,
            .ins ⟨some 122, .eq1 .int false (.t 120) (.t 121), none⟩,
            .ins ⟨some 123, .mov (.t 122), none⟩,
            .ins ⟨some 124, .mov (.t 9), some (123, false)⟩,
            .ins ⟨some 125, .bin .geq (.t 124) (.c (.int .i64 0)), some (123, false)⟩,
            .ins ⟨some 126, .mov (.t 125), some (123, false)⟩,
            .ins ⟨some 127, .load .one (.t 2), some (126, true)⟩,
            .ins ⟨some 128, .nilCheck (.t 127), some (126, true)⟩,
            .ins ⟨some 129, .fieldAddr 3 (.t 128), some (126, true)⟩,
            .ins ⟨some 130, .load .one (.t 129), some (126, true)⟩,
            .ins ⟨some 131, .mov (.t 9), some (126, true)⟩,
            .ins ⟨some 132, .indexAddrS 1 (.t 130) (.t 131), some (126, true)⟩,
            .ins ⟨some 133, .load .one (.t 132), some (126, true)⟩,
            .ins ⟨some 134, .bin .geq (.t 133) (.c (.int .i64 0)), some (126, true)⟩,
            .ins ⟨some 135, .pick (.t 126) (.t 134) (.c (.bool false)), some (123, false)⟩,
            .ins ⟨some 136, .pick (.t 123) (.c (.bool true)) (.t 135), none⟩,
            .ins ⟨some 119, .mov (.t 136), none⟩] (some [2, 4, 7, 8, 9, 119]))
          (.cond (.t 119)
           (.ops [.ins ⟨some 137, .load .one (.t 2), none⟩,
             .ins ⟨some 138, .load .one (.t 7), none⟩,
             .ins ⟨some 139, .mov (.t 8), none⟩,
             .ins ⟨some 140, .call 157 [(.t 137), (.t 138), (.t 139)], none⟩] (some []))
           (.seq (.ops [.ins ⟨some 142, .load .one (.t 2), none⟩,
             .ins ⟨some 143, .nilCheck (.t 142), none⟩,
             .ins ⟨some 144, .fieldAddr 3 (.t 143), none⟩,
             .ins ⟨some 145, .load .one (.t 144), none⟩,
             .ins ⟨some 146, .mov (.t 8), none⟩,
             .ins ⟨some 147, .indexAddrS 1 (.t 145) (.t 146), none⟩,
             .ins ⟨some 148, .load .one (.t 147), none⟩,
             .ins ⟨some 149, .bin .lss (.t 148) (.c (.int .i64 0)), none⟩,
             .ins ⟨some 141, .mov (.t 149), none⟩] (some [2, 4, 7, 8, 9, 141]))
           (.cond (.t 141)
            (.seq (.ops [.ins ⟨some 150, .load .one (.t 2), none⟩,
              .ins ⟨some 151, .nilCheck (.t 150), none⟩,
              .ins ⟨some 152, .fieldAddr 3 (.t 151), none⟩,
              .ins ⟨some 153, .load .one (.t 152), none⟩,
              .ins ⟨some 154, .mov (.t 8), none⟩,
              .ins ⟨some 155, .load .one (.t 7), none⟩,
              .ins ⟨some 156, .indexAddrS 1 (.t 153) (.t 154), none⟩,
              .ins ⟨none, .store 1 (.t 156) (.t 155), none⟩] (some [2, 4, 8, 9]))
            (.seq (.seq (.ops [.ins ⟨some 157, .mov (.t 9), none⟩,
              .ins ⟨some 158, .bin .lss (.t 157) (.c (.int .i64 0)), none⟩] (some [2, 4, 8, 9, 158]))
            (.cond (.t 158)
             (.seq (.ops [.ins ⟨some 159, .load .one (.t 2), none⟩,
               .ins ⟨some 160, .mov (.t 8), none⟩,
               .ins ⟨some 161, .call 158 [(.t 159), (.t 160)], none⟩] (some [2, 4]))
             (.seq (.ops [.ins ⟨some 162, .load .one (.t 2), none⟩,
               .ins ⟨some 163, .nilCheck (.t 162), none⟩,
               .ins ⟨some 164, .fieldAddr 6 (.t 163), none⟩,
               .ins ⟨none, .store 1 (.t 164) (.c .nils), none⟩] (some [4]))
             (.seq (.ops [.ins ⟨none, .store 1 (.t 4) (.c (.bool true)), none⟩] (some []))
             (.ret))))
             (.skip)))
            (.ops [.ins ⟨some 165, .load .one (.t 2), none⟩,
              .ins ⟨some 166, .mov (.t 9), none⟩,
              .ins ⟨some 167, .call 156 [(.t 165), (.t 166)], none⟩] (some []))))
            (.skip))))))))))))))))) (some [2, 3, 4])))
  (.seq (.ops [.ins ⟨none, .store 1 (.t 4) (.c (.bool false)), none⟩] (some [4]))
  (.ret))))))),
  [.cell 4 .one]⟩

/-- math/bits.Mul -/
def A142 : AFn := ⟨
  .seq (.ops [.ins ⟨some 4, .mov (.c (.int .u64 0)), none⟩,
    .ins ⟨some 5, .mov (.c (.int .u64 0)), none⟩] (some [0, 1]))
  (.seq (.cond (.c (.bool false))
   (.seq (.ops [.ins ⟨some 11, .mov (.t 0), none⟩,
     .ins ⟨some 12, .convInt .u32 (.t 11), none⟩,
     .ins ⟨some 13, .mov (.t 1), none⟩,
     .ins ⟨some 14, .convInt .u32 (.t 13), none⟩,
     .ins ⟨some 15, .call 163 [(.t 12), (.t 14)], none⟩,
     .ins ⟨some 10, .mov (.t 15), none⟩,
     .ins ⟨some 16, .extract (.t 10) 0, none⟩,
     .ins ⟨some 17, .extract (.t 10) 1, none⟩,
     .ins ⟨some 6, .mov (.t 16), none⟩,
     .ins ⟨some 7, .mov (.t 17), none⟩] (some [6, 7]))
   (.seq (.ops [.ins ⟨some 18, .mov (.t 6), none⟩,
     .ins ⟨some 19, .convInt .u64 (.t 18), none⟩,
     .ins ⟨some 20, .mov (.t 7), none⟩,
     .ins ⟨some 21, .convInt .u64 (.t 20), none⟩,
     .ins ⟨some 4, .mov (.t 19), none⟩,
     .ins ⟨some 5, .mov (.t 21), none⟩] (some [4, 5]))
   (.ret)))
   (.skip))
  (.seq (.ops [.ins ⟨some 23, .mov (.t 0), none⟩,
    .ins ⟨some 24, .mov (.t 1), none⟩,
    .ins ⟨some 25, .call 164 [(.t 23), (.t 24)], none⟩,
    .ins ⟨some 22, .mov (.t 25), none⟩,
    .ins ⟨some 26, .extract (.t 22) 0, none⟩,
    .ins ⟨some 27, .extract (.t 22) 1, none⟩,
    .ins ⟨some 8, .mov (.t 26), none⟩,
    .ins ⟨some 9, .mov (.t 27), none⟩] (some [8, 9]))
  (.seq (.ops [.ins ⟨some 28, .mov (.t 8), none⟩,
    .ins ⟨some 29, .mov (.t 9), none⟩,
    .ins ⟨some 4, .mov (.t 28), none⟩,
    .ins ⟨some 5, .mov (.t 29), none⟩] (some [4, 5]))
  (.ret)))),
  [.tmp 4, .tmp 5]⟩

/-- strings.HasPrefix -/
def A143 : AFn := ⟨
  .seq (.ops [.ins ⟨some 4, .mov (.c (.bool false)), none⟩] (some [0, 1]))
  (.seq (.ops [.ins ⟨some 5, .mov (.t 0), none⟩,
    .ins ⟨some 6, .mov (.t 1), none⟩,
    .ins ⟨some 7, .call 165 [(.t 5), (.t 6)], none⟩,
    .ins ⟨some 4, .mov (.t 7), none⟩] (some [4]))
  (.ret)),
  [.tmp 4]⟩

/-- (*strings.Builder).Grow -/
def A144 : AFn := ⟨
  .seq (.ops [.ins ⟨some 4, .mov (.t 0), none⟩,
    .ins ⟨some 5, .call 166 [(.t 4)], none⟩] (some [0, 1, 21]))
  (.seq (.seq (.ops [.ins ⟨some 6, .mov (.t 1), none⟩,
    .ins ⟨some 7, .bin .lss (.t 6) (.c (.int .i64 0)), none⟩] (some [0, 1, 7, 21]))
  (.cond (.t 7)
   (.ops [.ins ⟨none, .bin .eql (.c .junk) (.c .junk), none⟩,
     .ins ⟨none, .bin .eql (.c .junk) (.c .junk), none⟩] (some [0, 1, 21]))
   (.skip)))
  (.seq (.ops [.ins ⟨none, .bin .eql (.c .junk) (.c .junk), none⟩] (some [0, 1, 21]))
  (.cond (.t 21)
   (.ops [.ins ⟨some 22, .mov (.t 0), none⟩,
     .ins ⟨some 23, .mov (.t 1), none⟩,
     .ins ⟨some 24, .call 167 [(.t 22), (.t 23)], none⟩] (some []))
   (.skip)))),
  []⟩

/-- (*strings.Builder).WriteString -/
def A145 : AFn := ⟨
  .seq (.ops [.ins ⟨some 4, .mov (.c (.int .i64 0)), none⟩,
    .ins ⟨none, .bin .eql (.c .junk) (.c .junk), none⟩] (some [0, 1, 5, 14]))
  (.seq (.ops [.ins ⟨some 6, .mov (.t 0), none⟩,
    .ins ⟨some 7, .call 166 [(.t 6)], none⟩] (some [0, 1, 5, 14]))
  (.seq (.ops [.ins ⟨some 8, .mov (.t 0), none⟩,
    .ins ⟨some 9, .mov (.t 0), none⟩,
    .ins ⟨some 10, .nilCheck (.t 9), none⟩,
    .ins ⟨some 11, .fieldAddr 1 (.t 10), none⟩,
    .ins ⟨some 12, .load .one (.t 11), none⟩,
    .ins ⟨some 13, .mov (.t 1), none⟩,
    .ins ⟨none, .bin .eql (.c .junk) (.c .junk), none⟩,
    .ins ⟨some 15, .nilCheck (.t 8), none⟩,
    .ins ⟨some 16, .fieldAddr 1 (.t 15), none⟩,
    .ins ⟨none, .store 1 (.t 16) (.t 14), none⟩] (some [1, 5]))
  (.seq (.ops [.ins ⟨some 17, .mov (.t 1), none⟩,
    .ins ⟨some 18, .lenStr (.t 17), none⟩,
    .ins ⟨some 4, .mov (.t 18), none⟩,
    .ins ⟨none, .bin .eql (.c .junk) (.c .junk), none⟩] (some [4, 5]))
  (.ret)))),
  [.tmp 4, .tmp 5]⟩

/-- (*strings.Builder).Len -/
def A146 : AFn := ⟨
  .seq (.ops [.ins ⟨some 2, .mov (.c (.int .i64 0)), none⟩] (some [0]))
  (.seq (.ops [.ins ⟨some 3, .mov (.t 0), none⟩,
    .ins ⟨some 4, .nilCheck (.t 3), none⟩,
    .ins ⟨some 5, .fieldAddr 1 (.t 4), none⟩,
    .ins ⟨some 6, .load .one (.t 5), none⟩,
    .ins ⟨some 7, .lenSl (.t 6), none⟩,
    .ins ⟨some 2, .mov (.t 7), none⟩] (some [2]))
  (.ret)),
  [.tmp 2]⟩

/-- (*strings.Builder).String -/
def A147 : AFn := ⟨
  .seq (.ops [.ins ⟨some 2, .mov (.c (.str [])), none⟩] (some [2]))
  (.seq (.ops [.ins ⟨none, .bin .eql (.c .junk) (.c .junk), none⟩] (some [2]))
  (.ret)),
  [.tmp 2]⟩

/-- (*thermion/match.growth).reach -/
def A156 : AFn := ⟨
  .seq (.ops [.ins ⟨some 4, .mov (.t 0), none⟩,
    .ins ⟨some 5, .nilCheck (.t 4), none⟩,
    .ins ⟨some 6, .fieldAddr 5 (.t 5), none⟩,
    .ins ⟨some 7, .load .one (.t 6), none⟩,
    .ins ⟨some 8, .mov (.t 1), none⟩,
    .ins ⟨some 9, .indexAddrS 1 (.t 7) (.t 8), none⟩,
    .ins ⟨some 10, .load .one (.t 9), none⟩,
    .ins ⟨some 11, .un .not (.t 10), none⟩] (some [0, 1, 11]))
  (.cond (.t 11)
   (.seq (.ops [.ins ⟨some 12, .mov (.t 0), none⟩,
     .ins ⟨some 13, .nilCheck (.t 12), none⟩,
     .ins ⟨some 14, .fieldAddr 5 (.t 13), none⟩,
     .ins ⟨some 15, .load .one (.t 14), none⟩,
     .ins ⟨some 16, .mov (.t 1), none⟩,
     .ins ⟨some 17, .indexAddrS 1 (.t 15) (.t 16), none⟩,
     .ins ⟨none, .store 1 (.t 17) (.c (.bool true)), none⟩] (some [0, 1]))
   (.ops [.ins ⟨some 18, .mov (.t 0), none⟩,
     .ins ⟨some 19, .mov (.t 0), none⟩,
     .ins ⟨some 20, .nilCheck (.t 19), none⟩,
     .ins ⟨some 21, .fieldAddr 6 (.t 20), none⟩,
     .ins ⟨some 22, .load .one (.t 21), none⟩,
     .ins ⟨some 23, .mov (.t 1), none⟩,
     .ins ⟨some 24, .buildSlice [(.int .i64 0)] 1 1 [(0, (.t 23))], none⟩,
     .ins ⟨some 25, .append 1 8 (.t 22) (.t 24), none⟩,
     .ins ⟨some 26, .nilCheck (.t 18), none⟩,
     .ins ⟨some 27, .fieldAddr 6 (.t 26), none⟩,
     .ins ⟨none, .store 1 (.t 27) (.t 25), none⟩] (some [])))
   (.skip)),
  []⟩

/-- (*thermion/match.growth).circle -/
def A157 : AFn := ⟨
  .seq (.ops [.ins ⟨some 3, .box (.t 0), none⟩] (some [1, 2, 3]))
  (.seq (.ops [.ins ⟨some 10, .load .one (.t 3), none⟩,
    .ins ⟨some 11, .mov (.t 1), none⟩,
    .ins ⟨some 12, .mov (.t 2), none⟩,
    .ins ⟨some 13, .call 171 [(.t 10), (.t 11), (.t 12)], none⟩,
    .ins ⟨some 6, .alloc [(.int .i64 0)], none⟩,
    .ins ⟨none, .store 1 (.t 6) (.t 13), none⟩] (some [1, 2, 3, 6]))
  (.seq (.ops [.ins ⟨some 14, .makeMap, none⟩,
    .ins ⟨some 7, .alloc [.nilm], none⟩,
    .ins ⟨none, .store 1 (.t 7) (.t 14), none⟩] (some [1, 2, 3, 6, 7]))
  (.seq (.ops [.ins ⟨some 15, .makeFn 172 [(.t 3), (.t 6), (.t 7)], none⟩,
    .ins ⟨some 8, .mov (.t 15), none⟩] (some [1, 2, 3, 6, 7, 8]))
  (.seq (.ops [.ins ⟨some 16, .mov (.t 8), none⟩,
    .ins ⟨some 17, .mov (.t 1), none⟩,
    .ins ⟨some 18, .mov (.t 2), none⟩,
    .ins ⟨some 19, .callv (.t 16) [(.t 17), (.t 18)], none⟩] (some [1, 2, 3, 6, 7, 8]))
  (.seq (.ops [.ins ⟨some 20, .mov (.t 8), none⟩,
    .ins ⟨some 21, .mov (.t 2), none⟩,
    .ins ⟨some 22, .mov (.t 1), none⟩,
    .ins ⟨some 23, .callv (.t 20) [(.t 21), (.t 22)], none⟩] (some [3, 6, 7]))
  (.seq (.ops [.ins ⟨some 24, .load .one (.t 3), none⟩,
    .ins ⟨some 25, .nilCheck (.t 24), none⟩,
    .ins ⟨some 26, .fieldAddr 4 (.t 25), none⟩,
    .ins ⟨some 27, .load .one (.t 26), none⟩,
    .ins ⟨some 28, .lenSl (.t 27), none⟩,
    .ins ⟨some 29, .mov (.c (.int .i64 0)), none⟩] (some [3, 6, 7, 28, 29]))
  (.block 0
   (.loop
    (.seq (.ops [.ins ⟨some 30, .bin .lss (.t 29) (.t 28), none⟩] (some [3, 6, 7, 28, 29, 30]))
    (.seq (.cond (.t 30)
     (.skip)
     (.exit 0))
    (.seq (.block 1
     (.seq (.ops [.ins ⟨some 31, .mov (.t 29), none⟩,
       .ins ⟨some 9, .mov (.t 31), none⟩] (some [3, 6, 7, 9, 28, 29]))
     (.seq (.ops [.ins ⟨some 32, .load .one (.t 7), none⟩,
       .ins ⟨some 33, .load .one (.t 3), none⟩,
       .ins ⟨some 34, .nilCheck (.t 33), none⟩,
       .ins ⟨some 35, .fieldAddr 4 (.t 34), none⟩,
       .ins ⟨some 36, .load .one (.t 35), none⟩,
       .ins ⟨some 37, .mov (.t 9), none⟩,
       .ins ⟨some 38, .indexAddrS 1 (.t 36) (.t 37), none⟩,
       .ins ⟨some 39, .load .one (.t 38), none⟩,
       .ins ⟨some 40, .lookup (.bool false) false (.t 32) (.t 39), none⟩] (some [3, 6, 7, 9, 28, 29, 40]))
     (.cond (.t 40)
      (.seq (.ops [.ins ⟨some 41, .load .one (.t 3), none⟩,
        .ins ⟨some 42, .nilCheck (.t 41), none⟩,
        .ins ⟨some 43, .fieldAddr 4 (.t 42), none⟩,
        .ins ⟨some 44, .load .one (.t 43), none⟩,
        .ins ⟨some 45, .mov (.t 9), none⟩,
        .ins ⟨some 46, .load .one (.t 6), none⟩,
        .ins ⟨some 47, .indexAddrS 1 (.t 44) (.t 45), none⟩,
        .ins ⟨none, .store 1 (.t 47) (.t 46), none⟩] (some [3, 6, 7, 9, 28, 29]))
      (.ops [.ins ⟨some 48, .load .one (.t 3), none⟩,
        .ins ⟨some 49, .mov (.t 9), none⟩,
        .ins ⟨some 50, .call 156 [(.t 48), (.t 49)], none⟩] (some [3, 6, 7, 28, 29])))
      (.skip)))))
    (.ops [.ins ⟨some 51, .bin .add (.t 29) (.c (.int .i64 1)), none⟩,
      .ins ⟨some 29, .mov (.t 51), none⟩] (some [3, 6, 7, 28, 29]))))) (some [3, 6, 7, 28, 29]))))))))),
  []⟩

/-- (*thermion/match.growth).change -/
def A158 : AFn := ⟨
  .block 0
   (.loop
    (.seq (.seq (.ops [.ins ⟨some 6, .mov (.t 1), none⟩,
      .ins ⟨some 7, .bin .geq (.t 6) (.c (.int .i64 0)), none⟩] (some [0, 1, 7]))
    (.cond (.t 7)
     (.skip)
     (.exit 0)))
    (.block 1
     (.seq (.ops [.ins ⟨some 8, .mov (.t 0), none⟩,
       .ins ⟨some 9, .nilCheck (.t 8), none⟩,
       .ins ⟨some 10, .fieldAddr 3 (.t 9), none⟩,
       .ins ⟨some 11, .load .one (.t 10), none⟩,
       .ins ⟨some 12, .mov (.t 1), none⟩,
       .ins ⟨some 13, .indexAddrS 1 (.t 11) (.t 12), none⟩,
       .ins ⟨some 14, .load .one (.t 13), none⟩,
       .ins ⟨some 4, .mov (.t 14), none⟩] (some [0, 1, 4]))
     (.seq (.ops [.ins ⟨some 15, .mov (.t 0), none⟩,
       .ins ⟨some 16, .nilCheck (.t 15), none⟩,
       .ins ⟨some 17, .fieldAddr 2 (.t 16), none⟩,
       .ins ⟨some 18, .load .one (.t 17), none⟩,
       .ins ⟨some 19, .mov (.t 4), none⟩,
       .ins ⟨some 20, .indexAddrS 1 (.t 18) (.t 19), none⟩,
       .ins ⟨some 21, .load .one (.t 20), none⟩,
       .ins ⟨some 5, .mov (.t 21), none⟩] (some [0, 1, 4, 5]))
     (.seq (.ops [.ins ⟨some 22, .mov (.t 0), none⟩,
       .ins ⟨some 23, .nilCheck (.t 22), none⟩,
       .ins ⟨some 24, .fieldAddr 2 (.t 23), none⟩,
       .ins ⟨some 25, .load .one (.t 24), none⟩,
       .ins ⟨some 26, .mov (.t 4), none⟩,
       .ins ⟨some 27, .mov (.t 0), none⟩,
       .ins ⟨some 28, .nilCheck (.t 27), none⟩,
       .ins ⟨some 29, .fieldAddr 2 (.t 28), none⟩,
       .ins ⟨some 30, .load .one (.t 29), none⟩,
       .ins ⟨some 31, .mov (.t 1), none⟩,
       .ins ⟨some 32, .mov (.t 1), none⟩,
       .ins ⟨some 33, .mov (.t 4), none⟩,
       .ins ⟨some 34, .indexAddrS 1 (.t 25) (.t 26), none⟩,
       .ins ⟨none, .store 1 (.t 34) (.t 32), none⟩,
       .ins ⟨some 35, .indexAddrS 1 (.t 30) (.t 31), none⟩,
       .ins ⟨none, .store 1 (.t 35) (.t 33), none⟩] (some [0, 5]))
     (.ops [.ins ⟨some 36, .mov (.t 5), none⟩,
       .ins ⟨some 1, .mov (.t 36), none⟩] (some [0, 1]))))))) (some [0, 1])),
  []⟩

/-- math/bits.Mul32 -/
def A163 : AFn := ⟨
  .seq (.ops [.ins ⟨some 4, .mov (.c (.int .u32 0)), none⟩,
    .ins ⟨some 5, .mov (.c (.int .u32 0)), none⟩] (some [0, 1]))
  (.seq (.ops [.ins ⟨some 7, .mov (.t 0), none⟩,
    .ins ⟨some 8, .convInt .u64 (.t 7), none⟩,
    .ins ⟨some 9, .mov (.t 1), none⟩,
    .ins ⟨some 10, .convInt .u64 (.t 9), none⟩,
    .ins ⟨some 11, .bin .mul (.t 8) (.t 10), none⟩,
    .ins ⟨some 6, .mov (.t 11), none⟩] (some [6]))
  (.seq (.ops [.ins ⟨some 12, .mov (.t 6), none⟩,
    .ins ⟨some 13, .bin .shr (.t 12) (.c (.int .u64 32)), none⟩,
    .ins ⟨some 14, .convInt .u32 (.t 13), none⟩,
    .ins ⟨some 15, .mov (.t 6), none⟩,
    .ins ⟨some 16, .convInt .u32 (.t 15), none⟩,
    .ins ⟨some 4, .mov (.t 14), none⟩,
    .ins ⟨some 5, .mov (.t 16), none⟩] (some [4, 5]))
  (.ret))),
  [.tmp 4, .tmp 5]⟩

/-- math/bits.Mul64 -/
def A164 : AFn := ⟨
  .seq (.ops [.ins ⟨some 4, .mov (.c (.int .u64 0)), none⟩,
    .ins ⟨some 5, .mov (.c (.int .u64 0)), none⟩] (some [0, 1]))
  (.seq (.ops [.ins ⟨some 14, .mov (.t 0), none⟩,
    .ins ⟨some 15, .bin .and (.t 14) (.c (.int .u64 4294967295)), none⟩,
    .ins ⟨some 6, .mov (.t 15), none⟩] (some [0, 1, 6]))
  (.seq (.ops [.ins ⟨some 16, .mov (.t 0), none⟩,
    .ins ⟨some 17, .bin .shr (.t 16) (.c (.int .u64 32)), none⟩,
    .ins ⟨some 7, .mov (.t 17), none⟩] (some [0, 1, 6, 7]))
  (.seq (.ops [.ins ⟨some 18, .mov (.t 1), none⟩,
    .ins ⟨some 19, .bin .and (.t 18) (.c (.int .u64 4294967295)), none⟩,
    .ins ⟨some 8, .mov (.t 19), none⟩] (some [0, 1, 6, 7, 8]))
  (.seq (.ops [.ins ⟨some 20, .mov (.t 1), none⟩,
    .ins ⟨some 21, .bin .shr (.t 20) (.c (.int .u64 32)), none⟩,
    .ins ⟨some 9, .mov (.t 21), none⟩] (some [0, 1, 6, 7, 8, 9]))
  (.seq (.ops [.ins ⟨some 22, .mov (.t 6), none⟩,
    .ins ⟨some 23, .mov (.t 8), none⟩,
    .ins ⟨some 24, .bin .mul (.t 22) (.t 23), none⟩,
    .ins ⟨some 10, .mov (.t 24), none⟩] (some [0, 1, 6, 7, 8, 9, 10]))
  (.seq (.ops [.ins ⟨some 25, .mov (.t 7), none⟩,
    .ins ⟨some 26, .mov (.t 8), none⟩,
    .ins ⟨some 27, .bin .mul (.t 25) (.t 26), none⟩,
    .ins ⟨some 28, .mov (.t 10), none⟩,
    .ins ⟨some 29, .bin .shr (.t 28) (.c (.int .u64 32)), none⟩,
    .ins ⟨some 30, .bin .add (.t 27) (.t 29), none⟩,
    .ins ⟨some 11, .mov (.t 30), none⟩] (some [0, 1, 6, 7, 9, 11]))
  (.seq (.ops [.ins ⟨some 31, .mov (.t 11), none⟩,
    .ins ⟨some 32, .bin .and (.t 31) (.c (.int .u64 4294967295)), none⟩,
    .ins ⟨some 12, .mov (.t 32), none⟩] (some [0, 1, 6, 7, 9, 11, 12]))
  (.seq (.ops [.ins ⟨some 33, .mov (.t 11), none⟩,
    .ins ⟨some 34, .bin .shr (.t 33) (.c (.int .u64 32)), none⟩,
    .ins ⟨some 13, .mov (.t 34), none⟩] (some [0, 1, 6, 7, 9, 12, 13]))
  (.seq (.ops [.ins ⟨some 35, .mov (.t 12), none⟩,
    .ins ⟨some 36, .mov (.t 6), none⟩,
    .ins ⟨some 37, .mov (.t 9), none⟩,
    .ins ⟨some 38, .bin .mul (.t 36) (.t 37), none⟩,
    .ins ⟨some 39, .bin .add (.t 35) (.t 38), none⟩,
    .ins ⟨some 12, .mov (.t 39), none⟩] (some [0, 1, 7, 9, 12, 13]))
  (.seq (.ops [.ins ⟨some 40, .mov (.t 7), none⟩,
    .ins ⟨some 41, .mov (.t 9), none⟩,
    .ins ⟨some 42, .bin .mul (.t 40) (.t 41), none⟩,
    .ins ⟨some 43, .mov (.t 13), none⟩,
    .ins ⟨some 44, .bin .add (.t 42) (.t 43), none⟩,
    .ins ⟨some 45, .mov (.t 12), none⟩,
    .ins ⟨some 46, .bin .shr (.t 45) (.c (.int .u64 32)), none⟩,
    .ins ⟨some 47, .bin .add (.t 44) (.t 46), none⟩,
    .ins ⟨some 4, .mov (.t 47), none⟩] (some [0, 1, 4]))
  (.seq (.ops [.ins ⟨some 48, .mov (.t 0), none⟩,
    .ins ⟨some 49, .mov (.t 1), none⟩,
    .ins ⟨some 50, .bin .mul (.t 48) (.t 49), none⟩,
    .ins ⟨some 5, .mov (.t 50), none⟩] (some [4, 5]))
  (.ret)))))))))))),
  [.tmp 4, .tmp 5]⟩

/-- internal/stringslite.HasPrefix -/
def A165 : AFn := ⟨
  .seq (.ops [.ins ⟨some 4, .mov (.c (.bool false)), none⟩] (some [0, 1]))
  (.seq (.ops [.ins ⟨some 5, .mov (.t 0), none⟩,
    .ins ⟨some 6, .lenStr (.t 5), none⟩,
    .ins ⟨some 7, .mov (.t 1), none⟩,
    .ins ⟨some 8, .lenStr (.t 7), none⟩,
    .ins ⟨some 9, .bin .geq (.t 6) (.t 8), none⟩,
    .ins ⟨some 10, .mov (.t 9), none⟩,
    .ins ⟨some 11, .mov (.t 0), some (10, true)⟩,
    .ins ⟨some 12, .mov (.t 1), some (10, true)⟩,
    .ins ⟨some 13, .lenStr (.t 12), some (10, true)⟩,
    .ins ⟨some 14, .sliceStr (.t 11) none (some (.t 13)), some (10, true)⟩,
    .ins ⟨some 15, .mov (.t 1), some (10, true)⟩,
    .ins ⟨some 16, .eq1 .str false (.t 14) (.t 15), some (10, true)⟩,
    .ins ⟨some 17, .pick (.t 10) (.t 16) (.c (.bool false)), none⟩,
    .ins ⟨some 4, .mov (.t 17), none⟩] (some [4]))
  (.ret)),
  [.tmp 4]⟩

/-- (*strings.Builder).copyCheck -/
def A166 : AFn := ⟨
  .seq (.ops [.ins ⟨some 2, .mov (.t 0), none⟩,
    .ins ⟨some 3, .nilCheck (.t 2), none⟩,
    .ins ⟨some 4, .fieldAddr 0 (.t 3), none⟩,
    .ins ⟨some 5, .load .one (.t 4), none⟩,
    .ins ⟨none, .bin .eql (.c .junk) (.c .junk), none⟩] (some [0, 6, 9, 11, 19]))
  (.cond (.t 6)
   (.ops [.ins ⟨some 7, .mov (.t 0), none⟩,
     .ins ⟨some 8, .mov (.t 0), none⟩,
     .ins ⟨none, .bin .eql (.c .junk) (.c .junk), none⟩,
     .ins ⟨some 10, .call 177 [(.t 9)], none⟩,
     .ins ⟨none, .bin .eql (.c .junk) (.c .junk), none⟩,
     .ins ⟨some 12, .nilCheck (.t 7), none⟩,
     .ins ⟨some 13, .fieldAddr 0 (.t 12), none⟩,
     .ins ⟨none, .store 1 (.t 13) (.t 11), none⟩] (some []))
   (.seq (.ops [.ins ⟨some 14, .mov (.t 0), none⟩,
     .ins ⟨some 15, .nilCheck (.t 14), none⟩,
     .ins ⟨some 16, .fieldAddr 0 (.t 15), none⟩,
     .ins ⟨some 17, .load .one (.t 16), none⟩,
     .ins ⟨some 18, .mov (.t 0), none⟩,
     .ins ⟨none, .bin .eql (.c .junk) (.c .junk), none⟩] (some [19]))
   (.cond (.t 19)
    (.ops [.ins ⟨none, .bin .eql (.c .junk) (.c .junk), none⟩] (some []))
    (.skip)))),
  []⟩

/-- (*strings.Builder).grow -/
def A167 : AFn := ⟨
  .seq (.ops [.ins ⟨none, .bin .eql (.c .junk) (.c .junk), none⟩] (some [0, 4]))
  (.seq (.ops [.ins ⟨some 20, .mov (.t 4), none⟩,
    .ins ⟨some 21, .mov (.t 0), none⟩,
    .ins ⟨some 22, .nilCheck (.t 21), none⟩,
    .ins ⟨some 23, .fieldAddr 1 (.t 22), none⟩,
    .ins ⟨some 24, .load .one (.t 23), none⟩,
    .ins ⟨none, .bin .eql (.c .junk) (.c .junk), none⟩] (some [0, 4]))
  (.ops [.ins ⟨some 26, .mov (.t 0), none⟩,
    .ins ⟨some 27, .mov (.t 4), none⟩,
    .ins ⟨some 28, .nilCheck (.t 26), none⟩,
    .ins ⟨some 29, .fieldAddr 1 (.t 28), none⟩,
    .ins ⟨none, .store 1 (.t 29) (.t 27), none⟩] (some []))),
  []⟩

/-- (*thermion/match.growth).stem -/
def A171 : AFn := ⟨
  .seq (.ops [.ins ⟨some 6, .mov (.c (.int .i64 0)), none⟩] (some [0, 1, 2]))
  (.seq (.ops [.ins ⟨some 8, .makeMap, none⟩,
    .ins ⟨some 7, .mov (.t 8), none⟩] (some [0, 1, 2, 7]))
  (.seq (.block 0
   (.loop
    (.block 1
     (.seq (.ops [.ins ⟨some 9, .mov (.t 0), none⟩,
       .ins ⟨some 10, .nilCheck (.t 9), none⟩,
       .ins ⟨some 11, .fieldAddr 4 (.t 10), none⟩,
       .ins ⟨some 12, .load .one (.t 11), none⟩,
       .ins ⟨some 13, .mov (.t 1), none⟩,
       .ins ⟨some 14, .indexAddrS 1 (.t 12) (.t 13), none⟩,
       .ins ⟨some 15, .load .one (.t 14), none⟩,
       .ins ⟨some 1, .mov (.t 15), none⟩] (some [0, 1, 2, 7]))
     (.seq (.ops [.ins ⟨some 16, .mov (.t 7), none⟩,
       .ins ⟨some 17, .mov (.t 1), none⟩,
       .ins ⟨none, .mapUpdate (.t 16) (.t 17) (.c (.bool true)), none⟩] (some [0, 1, 2, 7]))
     (.seq (.seq (.ops [.ins ⟨some 18, .mov (.t 0), none⟩,
       .ins ⟨some 19, .nilCheck (.t 18), none⟩,
       .ins ⟨some 20, .fieldAddr 2 (.t 19), none⟩,
       .ins ⟨some 21, .load .one (.t 20), none⟩,
       .ins ⟨some 22, .mov (.t 1), none⟩,
       .ins ⟨some 23, .indexAddrS 1 (.t 21) (.t 22), none⟩,
       .ins ⟨some 24, .load .one (.t 23), none⟩,
       .ins ⟨some 25, .bin .lss (.t 24) (.c (.int .i64 0)), none⟩] (some [0, 1, 2, 7, 25]))
     (.cond (.t 25)
      (.exit 0)
      (.skip)))
     (.ops [.ins ⟨some 26, .mov (.t 0), none⟩,
       .ins ⟨some 27, .nilCheck (.t 26), none⟩,
       .ins ⟨some 28, .fieldAddr 3 (.t 27), none⟩,
       .ins ⟨some 29, .load .one (.t 28), none⟩,
       .ins ⟨some 30, .mov (.t 0), none⟩,
       .ins ⟨some 31, .nilCheck (.t 30), none⟩,
       .ins ⟨some 32, .fieldAddr 2 (.t 31), none⟩,
       .ins ⟨some 33, .load .one (.t 32), none⟩,
       .ins ⟨some 34, .mov (.t 1), none⟩,
       .ins ⟨some 35, .indexAddrS 1 (.t 33) (.t 34), none⟩,
       .ins ⟨some 36, .load .one (.t 35), none⟩,
       .ins ⟨some 37, .indexAddrS 1 (.t 29) (.t 36), none⟩,
       .ins ⟨some 38, .load .one (.t 37), none⟩,
       .ins ⟨some 1, .mov (.t 38), none⟩] (some [0, 1, 2, 7])))))) (some [0, 1, 2, 7])))
  (.block 2
   (.loop
    (.block 3
     (.seq (.ops [.ins ⟨some 39, .mov (.t 0), none⟩,
       .ins ⟨some 40, .nilCheck (.t 39), none⟩,
       .ins ⟨some 41, .fieldAddr 4 (.t 40), none⟩,
       .ins ⟨some 42, .load .one (.t 41), none⟩,
       .ins ⟨some 43, .mov (.t 2), none⟩,
       .ins ⟨some 44, .indexAddrS 1 (.t 42) (.t 43), none⟩,
       .ins ⟨some 45, .load .one (.t 44), none⟩,
       .ins ⟨some 2, .mov (.t 45), none⟩] (some [0, 2, 7]))
     (.seq (.seq (.ops [.ins ⟨some 46, .mov (.t 7), none⟩,
       .ins ⟨some 47, .mov (.t 2), none⟩,
       .ins ⟨some 48, .lookup (.bool false) false (.t 46) (.t 47), none⟩] (some [0, 2, 7, 48]))
     (.cond (.t 48)
      (.seq (.ops [.ins ⟨some 49, .mov (.t 2), none⟩,
        .ins ⟨some 6, .mov (.t 49), none⟩] (some [6]))
      (.ret))
      (.skip)))
     (.ops [.ins ⟨some 50, .mov (.t 0), none⟩,
       .ins ⟨some 51, .nilCheck (.t 50), none⟩,
       .ins ⟨some 52, .fieldAddr 3 (.t 51), none⟩,
       .ins ⟨some 53, .load .one (.t 52), none⟩,
       .ins ⟨some 54, .mov (.t 0), none⟩,
       .ins ⟨some 55, .nilCheck (.t 54), none⟩,
       .ins ⟨some 56, .fieldAddr 2 (.t 55), none⟩,
       .ins ⟨some 57, .load .one (.t 56), none⟩,
       .ins ⟨some 58, .mov (.t 2), none⟩,
       .ins ⟨some 59, .indexAddrS 1 (.t 57) (.t 58), none⟩,
       .ins ⟨some 60, .load .one (.t 59), none⟩,
       .ins ⟨some 61, .indexAddrS 1 (.t 53) (.t 60), none⟩,
       .ins ⟨some 62, .load .one (.t 61), none⟩,
       .ins ⟨some 2, .mov (.t 62), none⟩] (some [0, 2, 7]))))) (some [0, 2, 7]))))),
  [.tmp 6]⟩

/-- (*thermion/match.growth).circle$1 -/
def A172 : AFn := ⟨
  .block 0
   (.loop
    (.seq (.seq (.ops [.ins ⟨some 8, .load .one (.t 2), none⟩,
      .ins ⟨some 9, .nilCheck (.t 8), none⟩,
      .ins ⟨some 10, .fieldAddr 4 (.t 9), none⟩,
      .ins ⟨some 11, .load .one (.t 10), none⟩,
      .ins ⟨some 12, .mov (.t 0), none⟩,
      .ins ⟨some 13, .indexAddrS 1 (.t 11) (.t 12), none⟩,
      .ins ⟨some 14, .load .one (.t 13), none⟩,
      .ins ⟨some 15, .load .one (.t 3), none⟩,
      .ins ⟨some 16, .eq1 .int true (.t 14) (.t 15), none⟩] (some [0, 1, 2, 3, 4, 16]))
    (.cond (.t 16)
     (.skip)
     (.exit 0)))
    (.block 1
     (.seq (.ops [.ins ⟨some 17, .load .one (.t 2), none⟩,
       .ins ⟨some 18, .nilCheck (.t 17), none⟩,
       .ins ⟨some 19, .fieldAddr 2 (.t 18), none⟩,
       .ins ⟨some 20, .load .one (.t 19), none⟩,
       .ins ⟨some 21, .mov (.t 0), none⟩,
       .ins ⟨some 22, .indexAddrS 1 (.t 20) (.t 21), none⟩,
       .ins ⟨some 23, .load .one (.t 22), none⟩,
       .ins ⟨some 7, .mov (.t 23), none⟩] (some [0, 1, 2, 3, 4, 7]))
     (.seq (.ops [.ins ⟨some 24, .load .one (.t 4), none⟩,
       .ins ⟨some 25, .load .one (.t 2), none⟩,
       .ins ⟨some 26, .nilCheck (.t 25), none⟩,
       .ins ⟨some 27, .fieldAddr 4 (.t 26), none⟩,
       .ins ⟨some 28, .load .one (.t 27), none⟩,
       .ins ⟨some 29, .mov (.t 0), none⟩,
       .ins ⟨some 30, .indexAddrS 1 (.t 28) (.t 29), none⟩,
       .ins ⟨some 31, .load .one (.t 30), none⟩,
       .ins ⟨some 32, .load .one (.t 4), none⟩,
       .ins ⟨some 33, .load .one (.t 2), none⟩,
       .ins ⟨some 34, .nilCheck (.t 33), none⟩,
       .ins ⟨some 35, .fieldAddr 4 (.t 34), none⟩,
       .ins ⟨some 36, .load .one (.t 35), none⟩,
       .ins ⟨some 37, .mov (.t 7), none⟩,
       .ins ⟨some 38, .indexAddrS 1 (.t 36) (.t 37), none⟩,
       .ins ⟨some 39, .load .one (.t 38), none⟩,
       .ins ⟨some 40, .mapEntry (.bool false) (.t 24) (.t 31), none⟩,
       .chk ⟨some 32, .load .one (.t 4), none⟩,
       .ins ⟨some 41, .extract (.t 40) 1, none⟩,
       .ins ⟨none, .entryStore (.t 24) (.t 41) (.c (.bool true)), none⟩,
       .chk ⟨some 32, .load .one (.t 4), none⟩,
       .ins ⟨some 42, .mapEntry (.bool false) (.t 32) (.t 39), none⟩,
       .ins ⟨some 43, .extract (.t 42) 1, none⟩,
       .ins ⟨none, .entryStore (.t 32) (.t 43) (.c (.bool true)), none⟩] (some [0, 1, 2, 3, 4, 7]))
     (.seq (.ops [.ins ⟨some 44, .load .one (.t 2), none⟩,
       .ins ⟨some 45, .nilCheck (.t 44), none⟩,
       .ins ⟨some 46, .fieldAddr 3 (.t 45), none⟩,
       .ins ⟨some 47, .load .one (.t 46), none⟩,
       .ins ⟨some 48, .mov (.t 0), none⟩,
       .ins ⟨some 49, .mov (.t 1), none⟩,
       .ins ⟨some 50, .indexAddrS 1 (.t 47) (.t 48), none⟩,
       .ins ⟨none, .store 1 (.t 50) (.t 49), none⟩] (some [2, 3, 4, 7]))
     (.ops [.ins ⟨some 51, .mov (.t 7), none⟩,
       .ins ⟨some 52, .load .one (.t 2), none⟩,
       .ins ⟨some 53, .nilCheck (.t 52), none⟩,
       .ins ⟨some 54, .fieldAddr 3 (.t 53), none⟩,
       .ins ⟨some 55, .load .one (.t 54), none⟩,
       .ins ⟨some 56, .mov (.t 7), none⟩,
       .ins ⟨some 57, .indexAddrS 1 (.t 55) (.t 56), none⟩,
       .ins ⟨some 58, .load .one (.t 57), none⟩,
       .ins ⟨some 1, .mov (.t 51), none⟩,
       .ins ⟨some 0, .mov (.t 58), none⟩] (some [0, 1, 2, 3, 4]))))))) (some [0, 1, 2, 3, 4])),
  []⟩

def fns : FuncId → Option AFn
  | 17 => some A17
  | 20 => some A20
  | 24 => some A24
  | 33 => some A33
  | 56 => some A56
  | 59 => some A59
  | 64 => some A64
  | 66 => some A66
  | 67 => some A67
  | 68 => some A68
  | 71 => some A71
  | 73 => some A73
  | 74 => some A74
  | 75 => some A75
  | 76 => some A76
  | 77 => some A77
  | 78 => some A78
  | 102 => some A102
  | 103 => some A103
  | 104 => some A104
  | 114 => some A114
  | 115 => some A115
  | 116 => some A116
  | 128 => some A128
  | 137 => some A137
  | 142 => some A142
  | 143 => some A143
  | 144 => some A144
  | 145 => some A145
  | 146 => some A146
  | 147 => some A147
  | 156 => some A156
  | 157 => some A157
  | 158 => some A158
  | 163 => some A163
  | 164 => some A164
  | 165 => some A165
  | 166 => some A166
  | 167 => some A167
  | 171 => some A171
  | 172 => some A172
  | _ => none
def prims : FuncId → Option (List AV → Option AV)
  | 127 => some pItoa
  | 129 => some pIndexRune
  | 109 => some pContains
  | _ => none
def T : Tab := ⟨fns, prims⟩
def ok : Bool := match runS T 100000 (.call (.fn 17 []) []) { next := 0, t := .nil } with
  | some (.val (.bool b), _) => b
  | _ => false
set_option maxRecDepth 100000
theorem ok_true : ok = true := by decide +kernel
end AmAwake
