/- A part of the proof: CodeM. It holds for whatever its statements name; no condition beyond theirs. -/
import Derived.Test.YtllbpnmhoblkgaaDoorAmE
namespace DC
open Go Am
/-- thermion/thermionkit.MarkOf -/
def A58 : AFn := ⟨
  .seq (.ops [.ins ⟨some 2, .alloc [(.str []), (.int .i64 0), (.int .i64 0), (.int .i64 0), (.int .i64 0)], none⟩] (some [0, 2]))
  (.seq (.ops [.ins ⟨some 3, .mov (.c .nils), none⟩] (some [0, 2, 3]))
  (.seq (.seq (.ops [.ins ⟨some 5, .mov (.t 0), none⟩,
    .ins ⟨some 6, .call 57 [(.t 5), (.c (.int .i64 1)), (.c (.int .i64 4))], none⟩,
    .ins ⟨some 4, .mov (.t 6), none⟩] (some [0, 2, 3, 4]))
  (.block 0
   (.loop
    (.seq (.seq (.ops [.ins ⟨some 7, .mov (.t 4), none⟩,
      .ins ⟨some 8, .bin .gtr (.t 7) (.c (.int .i64 0)), none⟩] (some [0, 2, 3, 4, 8]))
    (.cond (.t 8)
     (.skip)
     (.exit 0)))
    (.seq (.block 1
     (.ops [.ins ⟨some 11, .mov (.t 3), none⟩,
       .ins ⟨some 12, .mov (.t 0), none⟩,
       .ins ⟨some 13, .call 41 [(.t 12), (.c (.int .i64 26))], none⟩,
       .ins ⟨some 14, .bin .add (.c (.int .i64 65)) (.t 13), none⟩,
       .ins ⟨some 15, .convInt .u8 (.t 14), none⟩,
       .ins ⟨some 16, .buildSlice [(.int .u8 0)] 1 1 [(0, (.t 15))], none⟩,
       .ins ⟨some 17, .append 1 1 (.t 11) (.t 16), none⟩,
       .ins ⟨some 3, .mov (.t 17), none⟩] (some [0, 2, 3, 4])))
    (.ops [.ins ⟨some 9, .mov (.t 4), none⟩,
      .ins ⟨some 10, .bin .sub (.t 9) (.c (.int .i64 1)), none⟩,
      .ins ⟨some 4, .mov (.t 10), none⟩] (some [0, 2, 3, 4])))) (some [0, 2, 3, 4]))))
  (.seq (.ops [.ins ⟨some 18, .mov (.t 3), none⟩,
    .ins ⟨some 19, .bytesToStr (.t 18), none⟩,
    .ins ⟨some 20, .mov (.t 0), none⟩,
    .ins ⟨some 22, .mov (.t 0), none⟩,
    .ins ⟨some 24, .mov (.t 0), none⟩,
    .ins ⟨some 26, .mov (.t 0), none⟩,
    .ins ⟨some 21, .call 41 [(.t 20), (.c (.int .i64 100))], none⟩,
    .chk ⟨some 19, .bytesToStr (.t 18), none⟩,
    .ins ⟨some 23, .call 57 [(.t 22), (.c (.int .i64 1)), (.c (.int .i64 53))], none⟩,
    .chk ⟨some 19, .bytesToStr (.t 18), none⟩,
    .ins ⟨some 25, .call 57 [(.t 24), (.c (.int .i64 1)), (.c (.int .i64 26))], none⟩,
    .chk ⟨some 19, .bytesToStr (.t 18), none⟩,
    .ins ⟨some 27, .call 41 [(.t 26), (.c (.int .i64 100000))], none⟩,
    .chk ⟨some 19, .bytesToStr (.t 18), none⟩,
    .ins ⟨some 28, .build [(.str []), (.int .i64 0), (.int .i64 0), (.int .i64 0), (.int .i64 0)] [(0, 1, (.t 19)), (1, 1, (.t 21)), (2, 1, (.t 23)), (3, 1, (.t 25)), (4, 1, (.t 27))], none⟩,
    .ins ⟨none, .store 5 (.t 2) (.t 28), none⟩] (some [2]))
  (.ret)))),
  [.cell 2 (.many 5)]⟩

/-- thermion/match.Text -/
def A59 : AFn := ⟨
  .seq (.ops [.ins ⟨some 1, .box (.t 0), none⟩,
    .ins ⟨some 2, .mov (.c (.str [])), none⟩,
    .ins ⟨some 3, .mov (.c (.int .i64 0)), none⟩] (some [1]))
  (.seq (.block 0
   (.seq (.ops [.ins ⟨some 6, .fieldAddr 0 (.t 1), none⟩,
     .ins ⟨some 7, .load .one (.t 6), none⟩,
     .ins ⟨some 8, .lenStr (.t 7), none⟩,
     .ins ⟨some 9, .call 68 [(.t 8), (.c (.int .i64 1)), (.c (.int .i64 4))], none⟩,
     .ins ⟨some 10, .un .not (.t 9), none⟩,
     .ins ⟨some 11, .mov (.t 10), none⟩,
     .ins ⟨some 12, .fieldAddr 0 (.t 1), some (11, false)⟩,
     .ins ⟨some 13, .load .one (.t 12), some (11, false)⟩,
     .ins ⟨some 14, .call 102 [(.t 13), (.c (.int .i32 65)), (.c (.int .i32 90))], some (11, false)⟩,
     .ins ⟨some 15, .un .not (.t 14), some (11, false)⟩,
     .ins ⟨some 16, .pick (.t 11) (.c (.bool true)) (.t 15), none⟩,
     .ins ⟨some 5, .mov (.t 16), none⟩] (some [1, 5]))
   (.cond (.t 5)
    (.seq (.ops [.ins ⟨some 2, .mov (.c (.str [])), none⟩,
      .ins ⟨some 3, .mov (.c (.int .i64 3)), none⟩] (some [2, 3]))
    (.ret))
    (.seq (.ops [.ins ⟨some 18, .fieldAddr 1 (.t 1), none⟩,
      .ins ⟨some 19, .load .one (.t 18), none⟩,
      .ins ⟨some 20, .call 68 [(.t 19), (.c (.int .i64 0)), (.c (.int .i64 99))], none⟩,
      .ins ⟨some 21, .un .not (.t 20), none⟩,
      .ins ⟨some 22, .mov (.t 21), none⟩,
      .ins ⟨some 23, .fieldAddr 2 (.t 1), some (22, false)⟩,
      .ins ⟨some 24, .load .one (.t 23), some (22, false)⟩,
      .ins ⟨some 25, .call 68 [(.t 24), (.c (.int .i64 1)), (.c (.int .i64 53))], some (22, false)⟩,
      .ins ⟨some 26, .un .not (.t 25), some (22, false)⟩,
      .ins ⟨some 27, .pick (.t 22) (.c (.bool true)) (.t 26), none⟩,
      .ins ⟨some 28, .mov (.t 27), none⟩,
      .ins ⟨some 29, .fieldAddr 3 (.t 1), some (28, false)⟩,
      .ins ⟨some 30, .load .one (.t 29), some (28, false)⟩,
      .ins ⟨some 31, .call 68 [(.t 30), (.c (.int .i64 1)), (.c (.int .i64 26))], some (28, false)⟩,
      .ins ⟨some 32, .un .not (.t 31), some (28, false)⟩,
      .ins ⟨some 33, .pick (.t 28) (.c (.bool true)) (.t 32), none⟩,
      .ins ⟨some 34, .mov (.t 33), none⟩,
      .ins ⟨some 35, .fieldAddr 4 (.t 1), some (34, false)⟩,
      .ins ⟨some 36, .load .one (.t 35), some (34, false)⟩,
      .ins ⟨some 37, .call 68 [(.t 36), (.c (.int .i64 0)), (.c (.int .i64 99999))], some (34, false)⟩,
      .ins ⟨some 38, .un .not (.t 37), some (34, false)⟩,
      .ins ⟨some 39, .pick (.t 34) (.c (.bool true)) (.t 38), none⟩,
      .ins ⟨some 17, .mov (.t 39), none⟩] (some [1, 17]))
    (.cond (.t 17)
     (.seq (.ops [.ins ⟨some 2, .mov (.c (.str [])), none⟩,
       .ins ⟨some 3, .mov (.c (.int .i64 2)), none⟩] (some [2, 3]))
     (.ret))
     (.skip))))))
  (.seq (.ops [.ins ⟨some 40, .fieldAddr 0 (.t 1), none⟩,
    .ins ⟨some 41, .load .one (.t 40), none⟩,
    .ins ⟨some 42, .fieldAddr 1 (.t 1), none⟩,
    .ins ⟨some 43, .load .one (.t 42), none⟩,
    .ins ⟨some 46, .fieldAddr 2 (.t 1), none⟩,
    .ins ⟨some 47, .load .one (.t 46), none⟩,
    .ins ⟨some 50, .fieldAddr 3 (.t 1), none⟩,
    .ins ⟨some 51, .load .one (.t 50), none⟩,
    .ins ⟨some 52, .bin .add (.c (.int .i64 65)) (.t 51), none⟩,
    .ins ⟨some 53, .bin .sub (.t 52) (.c (.int .i64 1)), none⟩,
    .ins ⟨some 54, .convInt .i32 (.t 53), none⟩,
    .ins ⟨some 55, .intToStr (.t 54), none⟩,
    .ins ⟨some 57, .fieldAddr 4 (.t 1), none⟩,
    .ins ⟨some 58, .load .one (.t 57), none⟩,
    .ins ⟨some 44, .call 103 [(.t 43), (.c (.int .i64 2))], none⟩,
    .chk ⟨some 41, .load .one (.t 40), none⟩,
    .chk ⟨some 47, .load .one (.t 46), none⟩,
    .chk ⟨some 51, .load .one (.t 50), none⟩,
    .chk ⟨some 58, .load .one (.t 57), none⟩,
    .ins ⟨some 45, .bin .add (.t 41) (.t 44), none⟩,
    .ins ⟨some 48, .call 103 [(.t 47), (.c (.int .i64 2))], none⟩,
    .chk ⟨some 41, .load .one (.t 40), none⟩,
    .chk ⟨some 51, .load .one (.t 50), none⟩,
    .chk ⟨some 58, .load .one (.t 57), none⟩,
    .ins ⟨some 49, .bin .add (.t 45) (.t 48), none⟩,
    .ins ⟨some 56, .bin .add (.t 49) (.t 55), none⟩,
    .ins ⟨some 59, .call 103 [(.t 58), (.c (.int .i64 5))], none⟩,
    .chk ⟨some 41, .load .one (.t 40), none⟩,
    .chk ⟨some 51, .load .one (.t 50), none⟩,
    .ins ⟨some 60, .bin .add (.t 56) (.t 59), none⟩,
    .ins ⟨some 4, .mov (.t 60), none⟩] (some [4]))
  (.seq (.ops [.ins ⟨some 61, .mov (.t 4), none⟩,
    .ins ⟨some 62, .mov (.t 4), none⟩,
    .ins ⟨some 63, .call 104 [(.t 62)], none⟩,
    .ins ⟨some 64, .convInt .i32 (.t 63), none⟩,
    .ins ⟨some 65, .intToStr (.t 64), none⟩,
    .ins ⟨some 66, .bin .add (.t 61) (.t 65), none⟩,
    .ins ⟨some 2, .mov (.t 66), none⟩,
    .ins ⟨some 3, .mov (.c (.int .i64 0)), none⟩] (some [2, 3]))
  (.ret)))),
  [.tmp 2, .tmp 3]⟩

/-- thermion/thermionref08.Text -/
def A60 : AFn := ⟨
  .seq (.ops [.ins ⟨some 1, .box (.t 0), none⟩,
    .ins ⟨some 2, .mov (.c (.str [])), none⟩,
    .ins ⟨some 3, .mov (.c (.int .i64 0)), none⟩] (some [1]))
  (.seq (.seq (.ops [.ins ⟨some 6, .load (.many 5) (.t 1), none⟩,
    .ins ⟨some 7, .call 105 [(.t 6)], none⟩,
    .ins ⟨some 4, .mov (.t 7), none⟩] (some [1, 4]))
  (.seq (.ops [.ins ⟨some 8, .mov (.t 4), none⟩,
    .ins ⟨some 9, .eq1 .int true (.t 8) (.c (.int .i64 0)), none⟩] (some [1, 4, 9]))
  (.cond (.t 9)
   (.seq (.ops [.ins ⟨some 10, .mov (.t 4), none⟩,
     .ins ⟨some 2, .mov (.c (.str [])), none⟩,
     .ins ⟨some 3, .mov (.t 10), none⟩] (some [2, 3]))
   (.ret))
   (.skip))))
  (.seq (.ops [.ins ⟨some 11, .fieldAddr 0 (.t 1), none⟩,
    .ins ⟨some 12, .load .one (.t 11), none⟩,
    .ins ⟨some 13, .fieldAddr 1 (.t 1), none⟩,
    .ins ⟨some 14, .load .one (.t 13), none⟩,
    .ins ⟨some 17, .fieldAddr 2 (.t 1), none⟩,
    .ins ⟨some 18, .load .one (.t 17), none⟩,
    .ins ⟨some 21, .fieldAddr 3 (.t 1), none⟩,
    .ins ⟨some 22, .load .one (.t 21), none⟩,
    .ins ⟨some 23, .bin .add (.c (.int .i64 65)) (.t 22), none⟩,
    .ins ⟨some 24, .bin .sub (.t 23) (.c (.int .i64 1)), none⟩,
    .ins ⟨some 25, .convInt .u8 (.t 24), none⟩,
    .ins ⟨some 26, .buildSlice [(.int .u8 0)] 1 1 [(0, (.t 25))], none⟩,
    .ins ⟨some 27, .bytesToStr (.t 26), none⟩,
    .ins ⟨some 29, .fieldAddr 4 (.t 1), none⟩,
    .ins ⟨some 30, .load .one (.t 29), none⟩,
    .ins ⟨some 15, .call 106 [(.t 14), (.c (.int .i64 2))], none⟩,
    .chk ⟨some 12, .load .one (.t 11), none⟩,
    .chk ⟨some 18, .load .one (.t 17), none⟩,
    .chk ⟨some 22, .load .one (.t 21), none⟩,
    .chk ⟨some 26, .buildSlice [(.int .u8 0)] 1 1 [(0, (.t 25))], none⟩,
    .chk ⟨some 27, .bytesToStr (.t 26), none⟩,
    .chk ⟨some 30, .load .one (.t 29), none⟩,
    .ins ⟨some 16, .bin .add (.t 12) (.t 15), none⟩,
    .ins ⟨some 19, .call 106 [(.t 18), (.c (.int .i64 2))], none⟩,
    .chk ⟨some 12, .load .one (.t 11), none⟩,
    .chk ⟨some 22, .load .one (.t 21), none⟩,
    .chk ⟨some 26, .buildSlice [(.int .u8 0)] 1 1 [(0, (.t 25))], none⟩,
    .chk ⟨some 27, .bytesToStr (.t 26), none⟩,
    .chk ⟨some 30, .load .one (.t 29), none⟩,
    .ins ⟨some 20, .bin .add (.t 16) (.t 19), none⟩,
    .ins ⟨some 28, .bin .add (.t 20) (.t 27), none⟩,
    .ins ⟨some 31, .call 106 [(.t 30), (.c (.int .i64 5))], none⟩,
    .chk ⟨some 12, .load .one (.t 11), none⟩,
    .chk ⟨some 22, .load .one (.t 21), none⟩,
    .chk ⟨some 26, .buildSlice [(.int .u8 0)] 1 1 [(0, (.t 25))], none⟩,
    .chk ⟨some 27, .bytesToStr (.t 26), none⟩,
    .ins ⟨some 32, .bin .add (.t 28) (.t 31), none⟩,
    .ins ⟨some 5, .mov (.t 32), none⟩] (some [5]))
  (.seq (.ops [.ins ⟨some 33, .mov (.t 5), none⟩,
    .ins ⟨some 34, .mov (.t 5), none⟩,
    .ins ⟨some 35, .call 107 [(.t 34)], none⟩,
    .ins ⟨some 36, .buildSlice [(.int .u8 0)] 1 1 [(0, (.t 35))], none⟩,
    .ins ⟨some 37, .bytesToStr (.t 36), none⟩,
    .ins ⟨some 38, .bin .add (.t 33) (.t 37), none⟩,
    .ins ⟨some 2, .mov (.t 38), none⟩,
    .ins ⟨some 3, .mov (.c (.int .i64 0)), none⟩] (some [2, 3]))
  (.ret)))),
  [.tmp 2, .tmp 3]⟩

/-- thermion/match.Parse -/
def A61 : AFn := ⟨
  .seq (.ops [.ins ⟨some 2, .alloc [(.str []), (.int .i64 0), (.int .i64 0), (.int .i64 0), (.int .i64 0)], none⟩,
    .ins ⟨some 3, .mov (.c (.int .i64 0)), none⟩] (some [0, 2]))
  (.seq (.ops [.ins ⟨some 7, .mov (.t 0), none⟩,
    .ins ⟨some 8, .call 108 [(.t 7), (.c (.str [65, 66, 67, 68, 69, 70, 71, 72, 73, 74, 75, 76, 77, 78, 79, 80, 81, 82, 83, 84, 85, 86, 87, 88, 89, 90]))], none⟩,
    .ins ⟨some 4, .mov (.t 8), none⟩] (some [0, 2, 4]))
  (.seq (.ops [.ins ⟨some 9, .mov (.t 0), none⟩,
    .ins ⟨some 10, .mov (.t 0), none⟩,
    .ins ⟨some 11, .lenStr (.t 10), none⟩,
    .ins ⟨some 12, .mov (.t 4), none⟩,
    .ins ⟨some 13, .lenStr (.t 12), none⟩,
    .ins ⟨some 14, .bin .sub (.t 11) (.t 13), none⟩,
    .ins ⟨some 15, .sliceStr (.t 9) none (some (.t 14)), none⟩,
    .ins ⟨some 5, .mov (.t 15), none⟩] (some [0, 2, 4, 5]))
  (.seq (.seq (.ops [.ins ⟨some 16, .mov (.t 5), none⟩,
    .ins ⟨some 17, .lenStr (.t 16), none⟩,
    .ins ⟨some 18, .call 68 [(.t 17), (.c (.int .i64 1)), (.c (.int .i64 4))], none⟩,
    .ins ⟨some 19, .un .not (.t 18), none⟩,
    .ins ⟨some 20, .mov (.t 19), none⟩,
    .ins ⟨some 21, .mov (.t 4), some (20, false)⟩,
    .ins ⟨some 22, .lenStr (.t 21), some (20, false)⟩,
    .ins ⟨some 23, .eq1 .int true (.t 22) (.c (.int .i64 11)), some (20, false)⟩,
    .ins ⟨some 24, .pick (.t 20) (.c (.bool true)) (.t 23), none⟩] (some [0, 2, 4, 5, 24]))
  (.cond (.t 24)
   (.seq (.ops [.ins ⟨some 25, .build [(.str []), (.int .i64 0), (.int .i64 0), (.int .i64 0), (.int .i64 0)] [], none⟩,
     .ins ⟨none, .store 5 (.t 2) (.t 25), none⟩,
     .ins ⟨some 3, .mov (.c (.int .i64 3)), none⟩] (some [2, 3]))
   (.ret))
   (.skip)))
  (.seq (.seq (.ops [.ins ⟨some 26, .mov (.t 4), none⟩,
    .ins ⟨some 27, .sliceStr (.t 26) none (some (.c (.int .i64 4))), none⟩,
    .ins ⟨some 28, .mov (.t 4), none⟩,
    .ins ⟨some 29, .sliceStr (.t 28) (some (.c (.int .i64 5))) (some (.c (.int .i64 10))), none⟩,
    .ins ⟨some 30, .bin .add (.t 27) (.t 29), none⟩,
    .ins ⟨some 31, .call 102 [(.t 30), (.c (.int .i32 48)), (.c (.int .i32 57))], none⟩,
    .ins ⟨some 32, .un .not (.t 31), none⟩,
    .ins ⟨some 33, .mov (.t 32), none⟩,
    .ins ⟨some 34, .mov (.t 4), some (33, false)⟩,
    .ins ⟨some 35, .sliceStr (.t 34) (some (.c (.int .i64 4))) (some (.c (.int .i64 5))), some (33, false)⟩,
    .ins ⟨some 36, .call 102 [(.t 35), (.c (.int .i32 65)), (.c (.int .i32 90))], some (33, false)⟩,
    .ins ⟨some 37, .un .not (.t 36), some (33, false)⟩,
    .ins ⟨some 38, .pick (.t 33) (.c (.bool true)) (.t 37), none⟩,
    .ins ⟨some 39, .mov (.t 38), none⟩,
    .ins ⟨some 40, .mov (.t 4), some (39, false)⟩,
    .ins ⟨some 41, .sliceStr (.t 40) (some (.c (.int .i64 10))) none, some (39, false)⟩,
    .ins ⟨some 42, .call 109 [(.c (.str [48, 49, 50, 51, 52, 53, 54, 55, 56, 57, 65, 66, 67, 68, 69, 70, 71, 72, 73, 74, 75, 76, 77, 78, 79, 80, 81, 82, 83, 84, 85, 86, 87, 88, 89, 90, 43])), (.t 41)], some (39, false)⟩,
    .ins ⟨some 43, .un .not (.t 42), some (39, false)⟩,
    .ins ⟨some 44, .pick (.t 39) (.c (.bool true)) (.t 43), none⟩] (some [0, 2, 4, 5, 44]))
  (.cond (.t 44)
   (.seq (.ops [.ins ⟨some 45, .build [(.str []), (.int .i64 0), (.int .i64 0), (.int .i64 0), (.int .i64 0)] [], none⟩,
     .ins ⟨none, .store 5 (.t 2) (.t 45), none⟩,
     .ins ⟨some 3, .mov (.c (.int .i64 3)), none⟩] (some [2, 3]))
   (.ret))
   (.skip)))
  (.seq (.ops [.ins ⟨some 46, .mov (.t 5), none⟩,
    .ins ⟨some 47, .mov (.t 4), none⟩,
    .ins ⟨some 48, .sliceStr (.t 47) none (some (.c (.int .i64 2))), none⟩,
    .ins ⟨some 50, .mov (.t 4), none⟩,
    .ins ⟨some 51, .sliceStr (.t 50) (some (.c (.int .i64 2))) (some (.c (.int .i64 4))), none⟩,
    .ins ⟨some 53, .mov (.t 4), none⟩,
    .ins ⟨some 54, .indexStr (.t 53) (.c (.int .i64 4)), none⟩,
    .ins ⟨some 55, .bin .sub (.t 54) (.c (.int .u8 65)), none⟩,
    .ins ⟨some 56, .convInt .i64 (.t 55), none⟩,
    .ins ⟨some 57, .bin .add (.t 56) (.c (.int .i64 1)), none⟩,
    .ins ⟨some 58, .mov (.t 4), none⟩,
    .ins ⟨some 59, .sliceStr (.t 58) (some (.c (.int .i64 5))) (some (.c (.int .i64 10))), none⟩,
    .ins ⟨some 6, .alloc [(.str []), (.int .i64 0), (.int .i64 0), (.int .i64 0), (.int .i64 0)], none⟩,
    .ins ⟨some 49, .call 110 [(.t 48)], none⟩,
    .chk ⟨some 6, .alloc [(.str []), (.int .i64 0), (.int .i64 0), (.int .i64 0), (.int .i64 0)], none⟩,
    .ins ⟨some 52, .call 110 [(.t 51)], none⟩,
    .chk ⟨some 6, .alloc [(.str []), (.int .i64 0), (.int .i64 0), (.int .i64 0), (.int .i64 0)], none⟩,
    .ins ⟨some 60, .call 110 [(.t 59)], none⟩,
    .chk ⟨some 6, .alloc [(.str []), (.int .i64 0), (.int .i64 0), (.int .i64 0), (.int .i64 0)], none⟩,
    .ins ⟨some 61, .build [(.str []), (.int .i64 0), (.int .i64 0), (.int .i64 0), (.int .i64 0)] [(0, 1, (.t 46)), (1, 1, (.t 49)), (2, 1, (.t 52)), (3, 1, (.t 57)), (4, 1, (.t 60))], none⟩,
    .ins ⟨none, .store 5 (.t 6) (.t 61), none⟩] (some [0, 2, 6]))
  (.seq (.block 0
   (.seq (.ops [.ins ⟨some 63, .fieldAddr 2 (.t 6), none⟩,
     .ins ⟨some 64, .load .one (.t 63), none⟩,
     .ins ⟨some 65, .call 68 [(.t 64), (.c (.int .i64 1)), (.c (.int .i64 53))], none⟩,
     .ins ⟨some 66, .un .not (.t 65), none⟩,
     .ins ⟨some 62, .mov (.t 66), none⟩] (some [0, 2, 6, 62]))
   (.cond (.t 62)
    (.seq (.ops [.ins ⟨some 67, .build [(.str []), (.int .i64 0), (.int .i64 0), (.int .i64 0), (.int .i64 0)] [], none⟩,
      .ins ⟨none, .store 5 (.t 2) (.t 67), none⟩,
      .ins ⟨some 3, .mov (.c (.int .i64 2)), none⟩] (some [2, 3]))
    (.ret))
    (.seq (.ops [.ins ⟨some 69, .mov (.t 0), none⟩,
      .ins ⟨some 70, .mov (.t 0), none⟩,
      .ins ⟨some 71, .lenStr (.t 70), none⟩,
      .ins ⟨some 72, .bin .sub (.t 71) (.c (.int .i64 1)), none⟩,
      .ins ⟨some 73, .sliceStr (.t 69) none (some (.t 72)), none⟩,
      .ins ⟨some 75, .mov (.t 0), none⟩,
      .ins ⟨some 76, .mov (.t 0), none⟩,
      .ins ⟨some 77, .lenStr (.t 76), none⟩,
      .ins ⟨some 78, .bin .sub (.t 77) (.c (.int .i64 1)), none⟩,
      .ins ⟨some 79, .indexStr (.t 75) (.t 78), none⟩,
      .ins ⟨some 74, .call 104 [(.t 73)], none⟩,
      .ins ⟨some 80, .eq1 .int true (.t 74) (.t 79), none⟩,
      .ins ⟨some 68, .mov (.t 80), none⟩] (some [2, 6, 68]))
    (.cond (.t 68)
     (.seq (.ops [.ins ⟨some 81, .build [(.str []), (.int .i64 0), (.int .i64 0), (.int .i64 0), (.int .i64 0)] [], none⟩,
       .ins ⟨none, .store 5 (.t 2) (.t 81), none⟩,
       .ins ⟨some 3, .mov (.c (.int .i64 12)), none⟩] (some [2, 3]))
     (.ret))
     (.skip))))))
  (.seq (.ops [.ins ⟨some 82, .load (.many 5) (.t 6), none⟩,
    .ins ⟨none, .store 5 (.t 2) (.t 82), none⟩,
    .ins ⟨some 3, .mov (.c (.int .i64 0)), none⟩] (some [2, 3]))
  (.ret)))))))),
  [.cell 2 (.many 5), .tmp 3]⟩

/-- thermion/thermionref08.Parse -/
def A62 : AFn := ⟨
  .seq (.ops [.ins ⟨some 2, .alloc [(.str []), (.int .i64 0), (.int .i64 0), (.int .i64 0), (.int .i64 0)], none⟩,
    .ins ⟨some 3, .mov (.c (.int .i64 0)), none⟩] (some [0, 2]))
  (.seq (.ops [.ins ⟨some 4, .mov (.c (.int .i64 0)), none⟩] (some [0, 2, 4]))
  (.seq (.block 0
   (.loop
    (.seq (.seq (.ops [.ins ⟨some 6, .mov (.t 4), none⟩,
      .ins ⟨some 7, .mov (.t 0), none⟩,
      .ins ⟨some 8, .lenStr (.t 7), none⟩,
      .ins ⟨some 9, .bin .lss (.t 6) (.t 8), none⟩,
      .ins ⟨some 10, .mov (.t 9), none⟩,
      .ins ⟨some 11, .mov (.t 0), some (10, true)⟩,
      .ins ⟨some 12, .mov (.t 4), some (10, true)⟩,
      .ins ⟨some 13, .indexStr (.t 11) (.t 12), some (10, true)⟩,
      .ins ⟨some 14, .call 111 [(.t 13)], some (10, true)⟩,
      .ins ⟨some 15, .pick (.t 10) (.t 14) (.c (.bool false)), none⟩] (some [0, 2, 4, 15]))
    (.cond (.t 15)
     (.skip)
     (.exit 0)))
    (.block 1
     (.ops [.ins ⟨some 16, .mov (.t 4), none⟩,
       .ins ⟨some 17, .bin .add (.t 16) (.c (.int .i64 1)), none⟩,
       .ins ⟨some 4, .mov (.t 17), none⟩] (some [0, 2, 4])))) (some [0, 2, 4])))
  (.seq (.seq (.ops [.ins ⟨some 18, .mov (.t 0), none⟩,
    .ins ⟨some 19, .mov (.t 4), none⟩,
    .ins ⟨some 20, .call 112 [(.t 18), (.t 19)], none⟩,
    .ins ⟨some 21, .un .not (.t 20), none⟩] (some [0, 2, 4, 21]))
  (.cond (.t 21)
   (.seq (.ops [.ins ⟨some 22, .build [(.str []), (.int .i64 0), (.int .i64 0), (.int .i64 0), (.int .i64 0)] [], none⟩,
     .ins ⟨none, .store 5 (.t 2) (.t 22), none⟩,
     .ins ⟨some 3, .mov (.c (.int .i64 3)), none⟩] (some [2, 3]))
   (.ret))
   (.skip)))
  (.seq (.ops [.ins ⟨some 23, .mov (.t 0), none⟩,
    .ins ⟨some 24, .mov (.t 4), none⟩,
    .ins ⟨some 25, .sliceStr (.t 23) none (some (.t 24)), none⟩,
    .ins ⟨some 26, .mov (.t 0), none⟩,
    .ins ⟨some 27, .mov (.t 4), none⟩,
    .ins ⟨some 28, .mov (.t 4), none⟩,
    .ins ⟨some 29, .bin .add (.t 28) (.c (.int .i64 2)), none⟩,
    .ins ⟨some 30, .sliceStr (.t 26) (some (.t 27)) (some (.t 29)), none⟩,
    .ins ⟨some 32, .mov (.t 0), none⟩,
    .ins ⟨some 33, .mov (.t 4), none⟩,
    .ins ⟨some 34, .bin .add (.t 33) (.c (.int .i64 2)), none⟩,
    .ins ⟨some 35, .mov (.t 4), none⟩,
    .ins ⟨some 36, .bin .add (.t 35) (.c (.int .i64 4)), none⟩,
    .ins ⟨some 37, .sliceStr (.t 32) (some (.t 34)) (some (.t 36)), none⟩,
    .ins ⟨some 39, .mov (.t 0), none⟩,
    .ins ⟨some 40, .mov (.t 4), none⟩,
    .ins ⟨some 41, .bin .add (.t 40) (.c (.int .i64 4)), none⟩,
    .ins ⟨some 42, .indexStr (.t 39) (.t 41), none⟩,
    .ins ⟨some 43, .bin .sub (.t 42) (.c (.int .u8 65)), none⟩,
    .ins ⟨some 44, .convInt .i64 (.t 43), none⟩,
    .ins ⟨some 45, .bin .add (.t 44) (.c (.int .i64 1)), none⟩,
    .ins ⟨some 46, .mov (.t 0), none⟩,
    .ins ⟨some 47, .mov (.t 4), none⟩,
    .ins ⟨some 48, .bin .add (.t 47) (.c (.int .i64 5)), none⟩,
    .ins ⟨some 49, .mov (.t 4), none⟩,
    .ins ⟨some 50, .bin .add (.t 49) (.c (.int .i64 10)), none⟩,
    .ins ⟨some 51, .sliceStr (.t 46) (some (.t 48)) (some (.t 50)), none⟩,
    .ins ⟨some 5, .alloc [(.str []), (.int .i64 0), (.int .i64 0), (.int .i64 0), (.int .i64 0)], none⟩,
    .ins ⟨some 31, .call 113 [(.t 30)], none⟩,
    .chk ⟨some 5, .alloc [(.str []), (.int .i64 0), (.int .i64 0), (.int .i64 0), (.int .i64 0)], none⟩,
    .ins ⟨some 38, .call 113 [(.t 37)], none⟩,
    .chk ⟨some 5, .alloc [(.str []), (.int .i64 0), (.int .i64 0), (.int .i64 0), (.int .i64 0)], none⟩,
    .ins ⟨some 52, .call 113 [(.t 51)], none⟩,
    .chk ⟨some 5, .alloc [(.str []), (.int .i64 0), (.int .i64 0), (.int .i64 0), (.int .i64 0)], none⟩,
    .ins ⟨some 53, .build [(.str []), (.int .i64 0), (.int .i64 0), (.int .i64 0), (.int .i64 0)] [(0, 1, (.t 25)), (1, 1, (.t 31)), (2, 1, (.t 38)), (3, 1, (.t 45)), (4, 1, (.t 52))], none⟩,
    .ins ⟨none, .store 5 (.t 5) (.t 53), none⟩] (some [0, 2, 4, 5]))
  (.seq (.seq (.ops [.ins ⟨some 54, .fieldAddr 2 (.t 5), none⟩,
    .ins ⟨some 55, .load .one (.t 54), none⟩,
    .ins ⟨some 56, .call 69 [(.t 55), (.c (.int .i64 1)), (.c (.int .i64 53))], none⟩,
    .ins ⟨some 57, .un .not (.t 56), none⟩] (some [0, 2, 4, 5, 57]))
  (.cond (.t 57)
   (.seq (.ops [.ins ⟨some 58, .build [(.str []), (.int .i64 0), (.int .i64 0), (.int .i64 0), (.int .i64 0)] [], none⟩,
     .ins ⟨none, .store 5 (.t 2) (.t 58), none⟩,
     .ins ⟨some 3, .mov (.c (.int .i64 2)), none⟩] (some [2, 3]))
   (.ret))
   (.skip)))
  (.seq (.seq (.ops [.ins ⟨some 59, .mov (.t 0), none⟩,
    .ins ⟨some 60, .mov (.t 4), none⟩,
    .ins ⟨some 61, .bin .add (.t 60) (.c (.int .i64 10)), none⟩,
    .ins ⟨some 62, .sliceStr (.t 59) none (some (.t 61)), none⟩,
    .ins ⟨some 64, .mov (.t 0), none⟩,
    .ins ⟨some 65, .mov (.t 4), none⟩,
    .ins ⟨some 66, .bin .add (.t 65) (.c (.int .i64 10)), none⟩,
    .ins ⟨some 67, .indexStr (.t 64) (.t 66), none⟩,
    .ins ⟨some 63, .call 107 [(.t 62)], none⟩,
    .ins ⟨some 68, .eq1 .int true (.t 63) (.t 67), none⟩] (some [2, 5, 68]))
  (.cond (.t 68)
   (.seq (.ops [.ins ⟨some 69, .build [(.str []), (.int .i64 0), (.int .i64 0), (.int .i64 0), (.int .i64 0)] [], none⟩,
     .ins ⟨none, .store 5 (.t 2) (.t 69), none⟩,
     .ins ⟨some 3, .mov (.c (.int .i64 12)), none⟩] (some [2, 3]))
   (.ret))
   (.skip)))
  (.seq (.ops [.ins ⟨some 70, .load (.many 5) (.t 5), none⟩,
    .ins ⟨none, .store 5 (.t 2) (.t 70), none⟩,
    .ins ⟨some 3, .mov (.c (.int .i64 0)), none⟩] (some [2, 3]))
  (.ret)))))))),
  [.cell 2 (.many 5), .tmp 3]⟩

/-- thermion/thermionkit.Mod -/
def A63 : AFn := ⟨
  .seq (.ops [.ins ⟨some 4, .mov (.c (.int .i64 0)), none⟩] (some [0, 1]))
  (.seq (.seq (.ops [.ins ⟨some 6, .mov (.t 1), none⟩,
    .ins ⟨some 7, .bin .lss (.t 6) (.c (.int .i64 1)), none⟩] (some [0, 1, 7]))
  (.cond (.t 7)
   (.seq (.ops [.ins ⟨some 4, .mov (.c (.int .i64 0)), none⟩] (some [4]))
   (.ret))
   (.skip)))
  (.seq (.ops [.ins ⟨some 8, .mov (.t 0), none⟩,
    .ins ⟨some 9, .mov (.t 1), none⟩,
    .ins ⟨some 10, .bin .rem (.t 8) (.t 9), none⟩,
    .ins ⟨some 5, .mov (.t 10), none⟩] (some [1, 5]))
  (.seq (.seq (.ops [.ins ⟨some 11, .mov (.t 5), none⟩,
    .ins ⟨some 12, .bin .lss (.t 11) (.c (.int .i64 0)), none⟩] (some [1, 5, 12]))
  (.cond (.t 12)
   (.seq (.ops [.ins ⟨some 13, .mov (.t 5), none⟩,
     .ins ⟨some 14, .mov (.t 1), none⟩,
     .ins ⟨some 15, .bin .add (.t 13) (.t 14), none⟩,
     .ins ⟨some 4, .mov (.t 15), none⟩] (some [4]))
   (.ret))
   (.skip)))
  (.seq (.ops [.ins ⟨some 16, .mov (.t 5), none⟩,
    .ins ⟨some 4, .mov (.t 16), none⟩] (some [4]))
  (.ret))))),
  [.tmp 4]⟩

/-- thermion/match.only -/
def A102 : AFn := ⟨
  .seq (.ops [.ins ⟨some 6, .mov (.c (.bool false)), none⟩] (some [0, 1, 2]))
  (.seq (.seq (.ops [.ins ⟨some 9, .mov (.t 0), none⟩,
    .ins ⟨some 10, .rangeStr (.t 9), none⟩] (some [1, 2, 10]))
  (.block 0
   (.loop
    (.seq (.ops [.ins ⟨some 11, .nextStr (.t 10), none⟩,
      .ins ⟨some 12, .extract (.t 11) 0, none⟩] (some [1, 2, 10, 11, 12]))
    (.seq (.cond (.t 12)
     (.skip)
     (.exit 0))
    (.block 1
     (.seq (.ops [.ins ⟨some 13, .extract (.t 11) 2, none⟩,
       .ins ⟨some 8, .mov (.t 13), none⟩] (some [1, 2, 8, 10]))
     (.seq (.ops [.ins ⟨some 14, .mov (.t 8), none⟩,
       .ins ⟨some 15, .mov (.t 1), none⟩,
       .ins ⟨some 16, .bin .lss (.t 14) (.t 15), none⟩,
       .ins ⟨some 17, .mov (.t 16), none⟩,
       .ins ⟨some 18, .mov (.t 8), some (17, false)⟩,
       .ins ⟨some 19, .mov (.t 2), some (17, false)⟩,
       .ins ⟨some 20, .bin .gtr (.t 18) (.t 19), some (17, false)⟩,
       .ins ⟨some 21, .pick (.t 17) (.c (.bool true)) (.t 20), none⟩] (some [1, 2, 10, 21]))
     (.cond (.t 21)
      (.seq (.ops [.ins ⟨some 6, .mov (.c (.bool false)), none⟩] (some [6]))
      (.ret))
      (.skip))))))) (some [1, 2, 10]))))
  (.seq (.ops [.ins ⟨some 6, .mov (.c (.bool true)), none⟩] (some [6]))
  (.ret))),
  [.tmp 6]⟩

/-- thermion/match.padded -/
def A103 : AFn := ⟨
  .seq (.ops [.ins ⟨some 4, .mov (.c (.str [])), none⟩] (some [0, 1]))
  (.seq (.ops [.ins ⟨some 6, .mov (.t 0), none⟩,
    .ins ⟨some 7, .call 127 [(.t 6)], none⟩,
    .ins ⟨some 5, .mov (.t 7), none⟩] (some [1, 5]))
  (.seq (.ops [.ins ⟨some 8, .mov (.t 1), none⟩,
    .ins ⟨some 9, .mov (.t 5), none⟩,
    .ins ⟨some 10, .lenStr (.t 9), none⟩,
    .ins ⟨some 11, .bin .sub (.t 8) (.t 10), none⟩,
    .ins ⟨some 12, .call 128 [(.c (.str [48])), (.t 11)], none⟩,
    .ins ⟨some 13, .mov (.t 5), none⟩,
    .ins ⟨some 14, .bin .add (.t 12) (.t 13), none⟩,
    .ins ⟨some 4, .mov (.t 14), none⟩] (some [4]))
  (.ret))),
  [.tmp 4]⟩

/-- thermion/match.check -/
def A104 : AFn := ⟨
  .seq (.ops [.ins ⟨some 2, .mov (.c (.int .u8 0)), none⟩] (some [0]))
  (.seq (.ops [.ins ⟨some 3, .mov (.c (.int .i64 0)), none⟩,
    .ins ⟨some 4, .mov (.c (.int .i64 0)), none⟩] (some [0, 3, 4]))
  (.seq (.seq (.ops [.ins ⟨some 7, .mov (.t 0), none⟩,
    .ins ⟨some 8, .rangeStr (.t 7), none⟩] (some [3, 4, 8]))
  (.block 0
   (.loop
    (.seq (.ops [.ins ⟨some 9, .nextStr (.t 8), none⟩,
      .ins ⟨some 10, .extract (.t 9) 0, none⟩] (some [3, 4, 8, 9, 10]))
    (.seq (.cond (.t 10)
     (.skip)
     (.exit 0))
    (.block 1
     (.seq (.ops [.ins ⟨some 11, .extract (.t 9) 2, none⟩,
       .ins ⟨some 6, .mov (.t 11), none⟩] (some [3, 4, 6, 8]))
     (.seq (.ops [.ins ⟨some 12, .mov (.t 4), none⟩,
       .ins ⟨some 13, .bin .add (.t 12) (.c (.int .i64 1)), none⟩,
       .ins ⟨some 4, .mov (.t 13), none⟩] (some [3, 4, 6, 8]))
     (.ops [.ins ⟨some 14, .mov (.t 3), none⟩,
       .ins ⟨some 15, .mov (.t 4), none⟩,
       .ins ⟨some 16, .mov (.t 6), none⟩,
       .ins ⟨some 17, .call 129 [(.c (.str [48, 49, 50, 51, 52, 53, 54, 55, 56, 57, 65, 66, 67, 68, 69, 70, 71, 72, 73, 74, 75, 76, 77, 78, 79, 80, 81, 82, 83, 84, 85, 86, 87, 88, 89, 90, 43])), (.t 16)], none⟩,
       .ins ⟨some 18, .bin .mul (.t 15) (.t 17), none⟩,
       .ins ⟨some 19, .bin .add (.t 14) (.t 18), none⟩,
       .ins ⟨some 3, .mov (.t 19), none⟩] (some [3, 4, 8]))))))) (some [3, 4, 8]))))
  (.seq (.ops [.ins ⟨some 20, .mov (.t 3), none⟩,
    .ins ⟨some 21, .bin .rem (.t 20) (.c (.int .i64 37)), none⟩,
    .ins ⟨some 22, .bin .sub (.c (.int .i64 37)) (.t 21), none⟩,
    .ins ⟨some 23, .bin .rem (.t 22) (.c (.int .i64 37)), none⟩,
    .ins ⟨some 24, .indexStr (.c (.str [48, 49, 50, 51, 52, 53, 54, 55, 56, 57, 65, 66, 67, 68, 69, 70, 71, 72, 73, 74, 75, 76, 77, 78, 79, 80, 81, 82, 83, 84, 85, 86, 87, 88, 89, 90, 43])) (.t 23), none⟩,
    .ins ⟨some 2, .mov (.t 24), none⟩] (some [2]))
  (.ret)))),
  [.tmp 2]⟩

/-- thermion/thermionref08.checkMark -/
def A105 : AFn := ⟨
  .seq (.ops [.ins ⟨some 1, .box (.t 0), none⟩,
    .ins ⟨some 2, .mov (.c (.int .i64 0)), none⟩] (some [1]))
  (.seq (.seq (.ops [.ins ⟨some 4, .fieldAddr 0 (.t 1), none⟩,
    .ins ⟨some 5, .load .one (.t 4), none⟩,
    .ins ⟨some 6, .lenStr (.t 5), none⟩,
    .ins ⟨some 7, .bin .lss (.t 6) (.c (.int .i64 1)), none⟩,
    .ins ⟨some 8, .mov (.t 7), none⟩,
    .ins ⟨some 9, .fieldAddr 0 (.t 1), some (8, false)⟩,
    .ins ⟨some 10, .load .one (.t 9), some (8, false)⟩,
    .ins ⟨some 11, .lenStr (.t 10), some (8, false)⟩,
    .ins ⟨some 12, .bin .gtr (.t 11) (.c (.int .i64 4)), some (8, false)⟩,
    .ins ⟨some 13, .pick (.t 8) (.c (.bool true)) (.t 12), none⟩] (some [1, 13]))
  (.cond (.t 13)
   (.seq (.ops [.ins ⟨some 2, .mov (.c (.int .i64 3)), none⟩] (some [2]))
   (.ret))
   (.skip)))
  (.seq (.seq (.ops [.ins ⟨some 3, .mov (.c (.int .i64 0)), none⟩] (some [1, 3]))
  (.block 0
   (.loop
    (.seq (.seq (.ops [.ins ⟨some 14, .mov (.t 3), none⟩,
      .ins ⟨some 15, .fieldAddr 0 (.t 1), none⟩,
      .ins ⟨some 16, .load .one (.t 15), none⟩,
      .ins ⟨some 17, .lenStr (.t 16), none⟩,
      .ins ⟨some 18, .bin .lss (.t 14) (.t 17), none⟩] (some [1, 3, 18]))
    (.cond (.t 18)
     (.skip)
     (.exit 0)))
    (.seq (.block 1
     (.seq (.ops [.ins ⟨some 21, .fieldAddr 0 (.t 1), none⟩,
       .ins ⟨some 22, .load .one (.t 21), none⟩,
       .ins ⟨some 23, .mov (.t 3), none⟩,
       .ins ⟨some 24, .indexStr (.t 22) (.t 23), none⟩,
       .ins ⟨some 25, .call 111 [(.t 24)], none⟩,
       .ins ⟨some 26, .un .not (.t 25), none⟩] (some [1, 3, 26]))
     (.cond (.t 26)
      (.seq (.ops [.ins ⟨some 2, .mov (.c (.int .i64 3)), none⟩] (some [2]))
      (.ret))
      (.skip))))
    (.ops [.ins ⟨some 19, .mov (.t 3), none⟩,
      .ins ⟨some 20, .bin .add (.t 19) (.c (.int .i64 1)), none⟩,
      .ins ⟨some 3, .mov (.t 20), none⟩] (some [1, 3])))) (some [1, 3]))))
  (.seq (.seq (.ops [.ins ⟨some 27, .fieldAddr 1 (.t 1), none⟩,
    .ins ⟨some 28, .load .one (.t 27), none⟩,
    .ins ⟨some 29, .call 69 [(.t 28), (.c (.int .i64 0)), (.c (.int .i64 99))], none⟩,
    .ins ⟨some 30, .un .not (.t 29), none⟩,
    .ins ⟨some 31, .mov (.t 30), none⟩,
    .ins ⟨some 32, .fieldAddr 2 (.t 1), some (31, false)⟩,
    .ins ⟨some 33, .load .one (.t 32), some (31, false)⟩,
    .ins ⟨some 34, .call 69 [(.t 33), (.c (.int .i64 1)), (.c (.int .i64 53))], some (31, false)⟩,
    .ins ⟨some 35, .un .not (.t 34), some (31, false)⟩,
    .ins ⟨some 36, .pick (.t 31) (.c (.bool true)) (.t 35), none⟩,
    .ins ⟨some 37, .mov (.t 36), none⟩,
    .ins ⟨some 38, .fieldAddr 3 (.t 1), some (37, false)⟩,
    .ins ⟨some 39, .load .one (.t 38), some (37, false)⟩,
    .ins ⟨some 40, .call 69 [(.t 39), (.c (.int .i64 1)), (.c (.int .i64 26))], some (37, false)⟩,
    .ins ⟨some 41, .un .not (.t 40), some (37, false)⟩,
    .ins ⟨some 42, .pick (.t 37) (.c (.bool true)) (.t 41), none⟩,
    .ins ⟨some 43, .mov (.t 42), none⟩,
    .ins ⟨some 44, .fieldAddr 4 (.t 1), some (43, false)⟩,
    .ins ⟨some 45, .load .one (.t 44), some (43, false)⟩,
    .ins ⟨some 46, .call 69 [(.t 45), (.c (.int .i64 0)), (.c (.int .i64 99999))], some (43, false)⟩,
    .ins ⟨some 47, .un .not (.t 46), some (43, false)⟩,
    .ins ⟨some 48, .pick (.t 43) (.c (.bool true)) (.t 47), none⟩] (some [48]))
  (.cond (.t 48)
   (.seq (.ops [.ins ⟨some 2, .mov (.c (.int .i64 2)), none⟩] (some [2]))
   (.ret))
   (.skip)))
  (.seq (.ops [.ins ⟨some 2, .mov (.c (.int .i64 0)), none⟩] (some [2]))
  (.ret))))),
  [.tmp 2]⟩

/-- thermion/thermionref08.digits -/
def A106 : AFn := ⟨
  .seq (.ops [.ins ⟨some 4, .mov (.c (.str [])), none⟩] (some [0, 1]))
  (.seq (.ops [.ins ⟨some 7, .mov (.t 1), none⟩,
    .ins ⟨some 8, .makeSlice [(.int .u8 0)] 1 (.t 7), none⟩,
    .ins ⟨some 5, .mov (.t 8), none⟩] (some [0, 1, 5]))
  (.seq (.seq (.ops [.ins ⟨some 9, .mov (.t 1), none⟩,
    .ins ⟨some 10, .bin .sub (.t 9) (.c (.int .i64 1)), none⟩,
    .ins ⟨some 6, .mov (.t 10), none⟩] (some [0, 5, 6]))
  (.block 0
   (.loop
    (.seq (.seq (.ops [.ins ⟨some 11, .mov (.t 6), none⟩,
      .ins ⟨some 12, .bin .geq (.t 11) (.c (.int .i64 0)), none⟩] (some [0, 5, 6, 12]))
    (.cond (.t 12)
     (.skip)
     (.exit 0)))
    (.seq (.block 1
     (.seq (.ops [.ins ⟨some 15, .mov (.t 5), none⟩,
       .ins ⟨some 16, .mov (.t 6), none⟩,
       .ins ⟨some 17, .mov (.t 0), none⟩,
       .ins ⟨some 18, .bin .rem (.t 17) (.c (.int .i64 10)), none⟩,
       .ins ⟨some 19, .bin .add (.c (.int .i64 48)) (.t 18), none⟩,
       .ins ⟨some 20, .convInt .u8 (.t 19), none⟩,
       .ins ⟨some 21, .indexAddrS 1 (.t 15) (.t 16), none⟩,
       .ins ⟨none, .store 1 (.t 21) (.t 20), none⟩] (some [0, 5, 6]))
     (.ops [.ins ⟨some 22, .mov (.t 0), none⟩,
       .ins ⟨some 23, .bin .quo (.t 22) (.c (.int .i64 10)), none⟩,
       .ins ⟨some 0, .mov (.t 23), none⟩] (some [0, 5, 6]))))
    (.ops [.ins ⟨some 13, .mov (.t 6), none⟩,
      .ins ⟨some 14, .bin .sub (.t 13) (.c (.int .i64 1)), none⟩,
      .ins ⟨some 6, .mov (.t 14), none⟩] (some [0, 5, 6])))) (some [0, 5, 6]))))
  (.seq (.ops [.ins ⟨some 24, .mov (.t 5), none⟩,
    .ins ⟨some 25, .bytesToStr (.t 24), none⟩,
    .ins ⟨some 4, .mov (.t 25), none⟩] (some [4]))
  (.ret)))),
  [.tmp 4]⟩

/-- thermion/thermionref08.check -/
def A107 : AFn := ⟨
  .seq (.ops [.ins ⟨some 2, .mov (.c (.int .u8 0)), none⟩] (some [0]))
  (.seq (.ops [.ins ⟨some 3, .mov (.c (.int .i64 0)), none⟩] (some [0, 3]))
  (.seq (.seq (.ops [.ins ⟨some 4, .mov (.c (.int .i64 0)), none⟩] (some [0, 3, 4]))
  (.block 0
   (.loop
    (.seq (.seq (.ops [.ins ⟨some 5, .mov (.t 4), none⟩,
      .ins ⟨some 6, .mov (.t 0), none⟩,
      .ins ⟨some 7, .lenStr (.t 6), none⟩,
      .ins ⟨some 8, .bin .lss (.t 5) (.t 7), none⟩] (some [0, 3, 4, 8]))
    (.cond (.t 8)
     (.skip)
     (.exit 0)))
    (.seq (.block 1
     (.ops [.ins ⟨some 11, .mov (.t 3), none⟩,
       .ins ⟨some 12, .mov (.t 4), none⟩,
       .ins ⟨some 13, .bin .add (.t 12) (.c (.int .i64 1)), none⟩,
       .ins ⟨some 14, .mov (.t 0), none⟩,
       .ins ⟨some 15, .mov (.t 4), none⟩,
       .ins ⟨some 16, .indexStr (.t 14) (.t 15), none⟩,
       .ins ⟨some 17, .call 130 [(.t 16)], none⟩,
       .ins ⟨some 18, .bin .mul (.t 13) (.t 17), none⟩,
       .ins ⟨some 19, .bin .add (.t 11) (.t 18), none⟩,
       .ins ⟨some 3, .mov (.t 19), none⟩] (some [0, 3, 4])))
    (.ops [.ins ⟨some 9, .mov (.t 4), none⟩,
      .ins ⟨some 10, .bin .add (.t 9) (.c (.int .i64 1)), none⟩,
      .ins ⟨some 4, .mov (.t 10), none⟩] (some [0, 3, 4])))) (some [0, 3, 4]))))
  (.seq (.ops [.ins ⟨some 20, .mov (.t 3), none⟩,
    .ins ⟨some 21, .bin .rem (.t 20) (.c (.int .i64 37)), none⟩,
    .ins ⟨some 22, .bin .sub (.c (.int .i64 37)) (.t 21), none⟩,
    .ins ⟨some 23, .bin .rem (.t 22) (.c (.int .i64 37)), none⟩,
    .ins ⟨some 24, .indexStr (.c (.str [48, 49, 50, 51, 52, 53, 54, 55, 56, 57, 65, 66, 67, 68, 69, 70, 71, 72, 73, 74, 75, 76, 77, 78, 79, 80, 81, 82, 83, 84, 85, 86, 87, 88, 89, 90, 43])) (.t 23), none⟩,
    .ins ⟨some 2, .mov (.t 24), none⟩] (some [2]))
  (.ret)))),
  [.tmp 2]⟩

/-- thermion/match.number -/
def A110 : AFn := ⟨
  .seq (.ops [.ins ⟨some 2, .mov (.c (.int .i64 0)), none⟩] (some [0]))
  (.seq (.ops [.ins ⟨some 3, .mov (.c (.int .i64 0)), none⟩] (some [0, 3]))
  (.seq (.seq (.ops [.ins ⟨some 6, .mov (.t 0), none⟩,
    .ins ⟨some 7, .rangeStr (.t 6), none⟩] (some [3, 7]))
  (.block 0
   (.loop
    (.seq (.ops [.ins ⟨some 8, .nextStr (.t 7), none⟩,
      .ins ⟨some 9, .extract (.t 8) 0, none⟩] (some [3, 7, 8, 9]))
    (.seq (.cond (.t 9)
     (.skip)
     (.exit 0))
    (.block 1
     (.seq (.ops [.ins ⟨some 10, .extract (.t 8) 2, none⟩,
       .ins ⟨some 5, .mov (.t 10), none⟩] (some [3, 5, 7]))
     (.ops [.ins ⟨some 11, .mov (.t 3), none⟩,
       .ins ⟨some 12, .bin .mul (.c (.int .i64 10)) (.t 11), none⟩,
       .ins ⟨some 13, .mov (.t 5), none⟩,
       .ins ⟨some 14, .bin .sub (.t 13) (.c (.int .i32 48)), none⟩,
       .ins ⟨some 15, .convInt .i64 (.t 14), none⟩,
       .ins ⟨some 16, .bin .add (.t 12) (.t 15), none⟩,
       .ins ⟨some 3, .mov (.t 16), none⟩] (some [3, 7])))))) (some [3, 7]))))
  (.seq (.ops [.ins ⟨some 17, .mov (.t 3), none⟩,
    .ins ⟨some 2, .mov (.t 17), none⟩] (some [2]))
  (.ret)))),
  [.tmp 2]⟩

/-- thermion/thermionref08.letter -/
def A111 : AFn := ⟨
  .seq (.ops [.ins ⟨some 2, .mov (.c (.bool false)), none⟩] (some [0]))
  (.seq (.ops [.ins ⟨some 3, .mov (.t 0), none⟩,
    .ins ⟨some 4, .bin .geq (.t 3) (.c (.int .u8 65)), none⟩,
    .ins ⟨some 5, .mov (.t 4), none⟩,
    .ins ⟨some 6, .mov (.t 0), some (5, true)⟩,
    .ins ⟨some 7, .bin .leq (.t 6) (.c (.int .u8 90)), some (5, true)⟩,
    .ins ⟨some 8, .pick (.t 5) (.t 7) (.c (.bool false)), none⟩,
    .ins ⟨some 2, .mov (.t 8), none⟩] (some [2]))
  (.ret)),
  [.tmp 2]⟩

/-- thermion/thermionref08.formed -/
def A112 : AFn := ⟨
  .seq (.ops [.ins ⟨some 4, .mov (.c (.bool false)), none⟩] (some [0, 1]))
  (.seq (.seq (.ops [.ins ⟨some 6, .mov (.t 1), none⟩,
    .ins ⟨some 7, .bin .lss (.t 6) (.c (.int .i64 1)), none⟩,
    .ins ⟨some 8, .mov (.t 7), none⟩,
    .ins ⟨some 9, .mov (.t 1), some (8, false)⟩,
    .ins ⟨some 10, .bin .gtr (.t 9) (.c (.int .i64 4)), some (8, false)⟩,
    .ins ⟨some 11, .pick (.t 8) (.c (.bool true)) (.t 10), none⟩,
    .ins ⟨some 12, .mov (.t 11), none⟩,
    .ins ⟨some 13, .mov (.t 0), some (12, false)⟩,
    .ins ⟨some 14, .lenStr (.t 13), some (12, false)⟩,
    .ins ⟨some 15, .mov (.t 1), some (12, false)⟩,
    .ins ⟨some 16, .bin .add (.t 15) (.c (.int .i64 11)), some (12, false)⟩,
    .ins ⟨some 17, .eq1 .int true (.t 14) (.t 16), some (12, false)⟩,
    .ins ⟨some 18, .pick (.t 12) (.c (.bool true)) (.t 17), none⟩] (some [0, 1, 18]))
  (.cond (.t 18)
   (.seq (.ops [.ins ⟨some 4, .mov (.c (.bool false)), none⟩] (some [4]))
   (.ret))
   (.skip)))
  (.seq (.seq (.ops [.ins ⟨some 19, .mov (.t 1), none⟩,
    .ins ⟨some 5, .mov (.t 19), none⟩] (some [0, 1, 5]))
  (.block 0
   (.loop
    (.seq (.seq (.ops [.ins ⟨some 20, .mov (.t 5), none⟩,
      .ins ⟨some 21, .mov (.t 1), none⟩,
      .ins ⟨some 22, .bin .add (.t 21) (.c (.int .i64 10)), none⟩,
      .ins ⟨some 23, .bin .lss (.t 20) (.t 22), none⟩] (some [0, 1, 5, 23]))
    (.cond (.t 23)
     (.skip)
     (.exit 0)))
    (.seq (.block 1
     (.seq (.ops [.ins ⟨some 26, .mov (.t 5), none⟩,
       .ins ⟨some 27, .mov (.t 1), none⟩,
       .ins ⟨some 28, .bin .add (.t 27) (.c (.int .i64 4)), none⟩,
       .ins ⟨some 29, .eq1 .int false (.t 26) (.t 28), none⟩,
       .ins ⟨some 30, .mov (.t 29), none⟩,
       .ins ⟨some 31, .mov (.t 0), some (30, true)⟩,
       .ins ⟨some 32, .mov (.t 5), some (30, true)⟩,
       .ins ⟨some 33, .indexStr (.t 31) (.t 32), some (30, true)⟩,
       .ins ⟨some 34, .call 111 [(.t 33)], some (30, true)⟩,
       .ins ⟨some 35, .un .not (.t 34), some (30, true)⟩,
       .ins ⟨some 36, .pick (.t 30) (.t 35) (.c (.bool false)), none⟩,
       .ins ⟨some 37, .mov (.t 36), none⟩,
       .ins ⟨some 38, .mov (.t 5), some (37, false)⟩,
       .ins ⟨some 39, .mov (.t 1), some (37, false)⟩,
       .ins ⟨some 40, .bin .add (.t 39) (.c (.int .i64 4)), some (37, false)⟩,
       .ins ⟨some 41, .eq1 .int true (.t 38) (.t 40), some (37, false)⟩,
       .ins ⟨some 42, .mov (.t 41), some (37, false)⟩,
       .ins ⟨some 43, .mov (.t 0), some (42, true)⟩,
       .ins ⟨some 44, .mov (.t 5), some (42, true)⟩,
       .ins ⟨some 45, .indexStr (.t 43) (.t 44), some (42, true)⟩,
       .ins ⟨some 46, .call 136 [(.t 45)], some (42, true)⟩,
       .ins ⟨some 47, .un .not (.t 46), some (42, true)⟩,
       .ins ⟨some 48, .pick (.t 42) (.t 47) (.c (.bool false)), some (37, false)⟩,
       .ins ⟨some 49, .pick (.t 37) (.c (.bool true)) (.t 48), none⟩] (some [0, 1, 5, 49]))
     (.cond (.t 49)
      (.seq (.ops [.ins ⟨some 4, .mov (.c (.bool false)), none⟩] (some [4]))
      (.ret))
      (.skip))))
    (.ops [.ins ⟨some 24, .mov (.t 5), none⟩,
      .ins ⟨some 25, .bin .add (.t 24) (.c (.int .i64 1)), none⟩,
      .ins ⟨some 5, .mov (.t 25), none⟩] (some [0, 1, 5])))) (some [0, 1, 5]))))
  (.seq (.ops [.ins ⟨some 50, .mov (.t 0), none⟩,
    .ins ⟨some 51, .mov (.t 1), none⟩,
    .ins ⟨some 52, .bin .add (.t 51) (.c (.int .i64 10)), none⟩,
    .ins ⟨some 53, .indexStr (.t 50) (.t 52), none⟩,
    .ins ⟨some 54, .call 130 [(.t 53)], none⟩,
    .ins ⟨some 55, .bin .geq (.t 54) (.c (.int .i64 0)), none⟩,
    .ins ⟨some 4, .mov (.t 55), none⟩] (some [4]))
  (.ret)))),
  [.tmp 4]⟩

/-- thermion/thermionref08.number -/
def A113 : AFn := ⟨
  .seq (.ops [.ins ⟨some 2, .mov (.c (.int .i64 0)), none⟩] (some [0]))
  (.seq (.ops [.ins ⟨some 3, .mov (.c (.int .i64 0)), none⟩] (some [0, 3]))
  (.seq (.seq (.ops [.ins ⟨some 4, .mov (.c (.int .i64 0)), none⟩] (some [0, 3, 4]))
  (.block 0
   (.loop
    (.seq (.seq (.ops [.ins ⟨some 5, .mov (.t 4), none⟩,
      .ins ⟨some 6, .mov (.t 0), none⟩,
      .ins ⟨some 7, .lenStr (.t 6), none⟩,
      .ins ⟨some 8, .bin .lss (.t 5) (.t 7), none⟩] (some [0, 3, 4, 8]))
    (.cond (.t 8)
     (.skip)
     (.exit 0)))
    (.seq (.block 1
     (.ops [.ins ⟨some 11, .mov (.t 3), none⟩,
       .ins ⟨some 12, .bin .mul (.c (.int .i64 10)) (.t 11), none⟩,
       .ins ⟨some 13, .mov (.t 0), none⟩,
       .ins ⟨some 14, .mov (.t 4), none⟩,
       .ins ⟨some 15, .indexStr (.t 13) (.t 14), none⟩,
       .ins ⟨some 16, .bin .sub (.t 15) (.c (.int .u8 48)), none⟩,
       .ins ⟨some 17, .convInt .i64 (.t 16), none⟩,
       .ins ⟨some 18, .bin .add (.t 12) (.t 17), none⟩,
       .ins ⟨some 3, .mov (.t 18), none⟩] (some [0, 3, 4])))
    (.ops [.ins ⟨some 9, .mov (.t 4), none⟩,
      .ins ⟨some 10, .bin .add (.t 9) (.c (.int .i64 1)), none⟩,
      .ins ⟨some 4, .mov (.t 10), none⟩] (some [0, 3, 4])))) (some [0, 3, 4]))))
  (.seq (.ops [.ins ⟨some 19, .mov (.t 3), none⟩,
    .ins ⟨some 2, .mov (.t 19), none⟩] (some [2]))
  (.ret)))),
  [.tmp 2]⟩

/-- thermion/thermionref08.value -/
def A130 : AFn := ⟨
  .seq (.ops [.ins ⟨some 2, .mov (.c (.int .i64 0)), none⟩] (some [0]))
  (.seq (.seq (.ops [.ins ⟨some 3, .mov (.c (.int .i64 0)), none⟩] (some [0, 3]))
  (.block 0
   (.loop
    (.seq (.seq (.ops [.ins ⟨some 4, .mov (.t 3), none⟩,
      .ins ⟨some 5, .bin .lss (.t 4) (.c (.int .i64 37)), none⟩] (some [0, 3, 5]))
    (.cond (.t 5)
     (.skip)
     (.exit 0)))
    (.seq (.block 1
     (.seq (.ops [.ins ⟨some 8, .mov (.t 3), none⟩,
       .ins ⟨some 9, .indexStr (.c (.str [48, 49, 50, 51, 52, 53, 54, 55, 56, 57, 65, 66, 67, 68, 69, 70, 71, 72, 73, 74, 75, 76, 77, 78, 79, 80, 81, 82, 83, 84, 85, 86, 87, 88, 89, 90, 43])) (.t 8), none⟩,
       .ins ⟨some 10, .mov (.t 0), none⟩,
       .ins ⟨some 11, .eq1 .int false (.t 9) (.t 10), none⟩] (some [0, 3, 11]))
     (.cond (.t 11)
      (.seq (.ops [.ins ⟨some 12, .mov (.t 3), none⟩,
        .ins ⟨some 2, .mov (.t 12), none⟩] (some [2]))
      (.ret))
      (.skip))))
    (.ops [.ins ⟨some 6, .mov (.t 3), none⟩,
      .ins ⟨some 7, .bin .add (.t 6) (.c (.int .i64 1)), none⟩,
      .ins ⟨some 3, .mov (.t 7), none⟩] (some [0, 3])))) (some [0, 3]))))
  (.seq (.ops [.ins ⟨some 2, .mov (.c (.int .i64 (-1))), none⟩] (some [2]))
  (.ret))),
  [.tmp 2]⟩

/-- thermion/thermionref08.digit -/
def A136 : AFn := ⟨
  .seq (.ops [.ins ⟨some 2, .mov (.c (.bool false)), none⟩] (some [0]))
  (.seq (.ops [.ins ⟨some 3, .mov (.t 0), none⟩,
    .ins ⟨some 4, .bin .geq (.t 3) (.c (.int .u8 48)), none⟩,
    .ins ⟨some 5, .mov (.t 4), none⟩,
    .ins ⟨some 6, .mov (.t 0), some (5, true)⟩,
    .ins ⟨some 7, .bin .leq (.t 6) (.c (.int .u8 57)), some (5, true)⟩,
    .ins ⟨some 8, .pick (.t 5) (.t 7) (.c (.bool false)), none⟩,
    .ins ⟨some 2, .mov (.t 8), none⟩] (some [2]))
  (.ret)),
  [.tmp 2]⟩

def fnsM : FuncId → Option AFn
  | 58 => some A58
  | 59 => some A59
  | 60 => some A60
  | 61 => some A61
  | 62 => some A62
  | 63 => some A63
  | 102 => some A102
  | 103 => some A103
  | 104 => some A104
  | 105 => some A105
  | 106 => some A106
  | 107 => some A107
  | 110 => some A110
  | 111 => some A111
  | 112 => some A112
  | 113 => some A113
  | 130 => some A130
  | 136 => some A136
  | _ => none
end DC
