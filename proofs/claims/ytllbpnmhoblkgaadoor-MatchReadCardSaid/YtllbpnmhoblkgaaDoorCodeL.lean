/- A part of the proof: CodeL. It holds for whatever its statements name; no condition beyond theirs. -/
import Derived.Test.YtllbpnmhoblkgaaDoorAmE
namespace DC
open Go Am
/-- thermion/thermionlaw08.MatchMarks -/
def A14 : AFn := ⟨
  .seq (.ops [.ins ⟨some 3, .box (.t 0), none⟩,
    .ins ⟨some 6, .mov (.c (.bool false)), none⟩] (some [1, 2, 3]))
  (.seq (.seq (.ops [.ins ⟨some 19, .fieldAddr 0 (.t 3), none⟩,
    .ins ⟨some 20, .load .one (.t 19), none⟩,
    .ins ⟨some 21, .lenStr (.t 20), none⟩,
    .ins ⟨some 22, .bin .gtr (.t 21) (.c (.int .i64 100)), none⟩,
    .ins ⟨some 23, .mov (.t 22), none⟩,
    .ins ⟨some 24, .mov (.t 1), some (23, false)⟩,
    .ins ⟨some 25, .lenStr (.t 24), some (23, false)⟩,
    .ins ⟨some 26, .bin .gtr (.t 25) (.c (.int .i64 200)), some (23, false)⟩,
    .ins ⟨some 27, .pick (.t 23) (.c (.bool true)) (.t 26), none⟩] (some [1, 2, 3, 27]))
  (.cond (.t 27)
   (.seq (.ops [.ins ⟨some 28, .call 17 [], none⟩,
     .ins ⟨some 6, .mov (.t 28), none⟩] (some [6]))
   (.ret))
   (.skip)))
  (.seq (.ops [.ins ⟨some 29, .load (.many 5) (.t 3), none⟩,
    .ins ⟨some 30, .mov (.t 2), none⟩,
    .ins ⟨some 31, .call 19 [(.t 30)], none⟩,
    .chk ⟨some 29, .load (.many 5) (.t 3), none⟩,
    .ins ⟨some 32, .call 58 [(.t 31)], none⟩,
    .chk ⟨some 29, .load (.many 5) (.t 3), none⟩,
    .ins ⟨some 33, .buildSlice [(.str []), (.int .i64 0), (.int .i64 0), (.int .i64 0), (.int .i64 0), (.str []), (.int .i64 0), (.int .i64 0), (.int .i64 0), (.int .i64 0)] 5 2 [(0, (.t 29)), (1, (.t 32))], none⟩,
    .ins ⟨some 7, .mov (.t 33), none⟩] (some [1, 7]))
  (.seq (.ops [.ins ⟨some 34, .mov (.t 1), none⟩,
    .ins ⟨some 35, .buildSlice [(.str [])] 1 1 [(0, (.t 34))], none⟩,
    .ins ⟨some 8, .mov (.t 35), none⟩] (some [7, 8]))
  (.seq (.seq (.ops [.ins ⟨some 9, .mov (.c (.int .i64 0)), none⟩] (some [7, 8, 9]))
  (.block 0
   (.loop
    (.seq (.seq (.ops [.ins ⟨some 36, .mov (.t 9), none⟩,
      .ins ⟨some 37, .mov (.t 7), none⟩,
      .ins ⟨some 38, .lenSl (.t 37), none⟩,
      .ins ⟨some 39, .bin .lss (.t 36) (.t 38), none⟩] (some [7, 8, 9, 39]))
    (.cond (.t 39)
     (.skip)
     (.exit 0)))
    (.seq (.block 1
     (.seq (.ops [.ins ⟨some 43, .mov (.t 7), none⟩,
       .ins ⟨some 44, .mov (.t 9), none⟩,
       .ins ⟨some 45, .indexAddrS 5 (.t 43) (.t 44), none⟩,
       .ins ⟨some 46, .load (.many 5) (.t 45), none⟩,
       .ins ⟨some 47, .call 59 [(.t 46)], none⟩,
       .ins ⟨some 42, .mov (.t 47), none⟩,
       .ins ⟨some 48, .extract (.t 42) 0, none⟩,
       .ins ⟨some 49, .extract (.t 42) 1, none⟩,
       .ins ⟨some 10, .mov (.t 48), none⟩,
       .ins ⟨some 11, .mov (.t 49), none⟩] (some [7, 8, 9, 10, 11]))
     (.seq (.ops [.ins ⟨some 51, .mov (.t 7), none⟩,
       .ins ⟨some 52, .mov (.t 9), none⟩,
       .ins ⟨some 53, .indexAddrS 5 (.t 51) (.t 52), none⟩,
       .ins ⟨some 54, .load (.many 5) (.t 53), none⟩,
       .ins ⟨some 55, .call 60 [(.t 54)], none⟩,
       .ins ⟨some 50, .mov (.t 55), none⟩,
       .ins ⟨some 56, .extract (.t 50) 0, none⟩,
       .ins ⟨some 57, .extract (.t 50) 1, none⟩,
       .ins ⟨some 12, .mov (.t 56), none⟩,
       .ins ⟨some 13, .mov (.t 57), none⟩] (some [7, 8, 9, 10, 11, 12, 13]))
     (.seq (.seq (.ops [.ins ⟨some 58, .mov (.t 10), none⟩,
       .ins ⟨some 59, .mov (.t 12), none⟩,
       .ins ⟨some 60, .eq1 .str true (.t 58) (.t 59), none⟩,
       .ins ⟨some 61, .mov (.t 60), none⟩,
       .ins ⟨some 62, .mov (.t 11), some (61, false)⟩,
       .ins ⟨some 63, .mov (.t 13), some (61, false)⟩,
       .ins ⟨some 64, .eq1 .int true (.t 62) (.t 63), some (61, false)⟩,
       .ins ⟨some 65, .pick (.t 61) (.c (.bool true)) (.t 64), none⟩] (some [7, 8, 9, 12, 65]))
     (.cond (.t 65)
      (.seq (.ops [.ins ⟨some 6, .mov (.c (.bool false)), none⟩] (some [6]))
      (.ret))
      (.skip)))
     (.ops [.ins ⟨some 66, .mov (.t 8), none⟩,
       .ins ⟨some 67, .mov (.t 12), none⟩,
       .ins ⟨some 68, .buildSlice [(.str [])] 1 1 [(0, (.t 67))], none⟩,
       .ins ⟨some 69, .append 1 16 (.t 66) (.t 68), none⟩,
       .ins ⟨some 8, .mov (.t 69), none⟩] (some [7, 8, 9]))))))
    (.ops [.ins ⟨some 40, .mov (.t 9), none⟩,
      .ins ⟨some 41, .bin .add (.t 40) (.c (.int .i64 1)), none⟩,
      .ins ⟨some 9, .mov (.t 41), none⟩] (some [7, 8, 9])))) (some [7, 8, 9]))))
  (.seq (.seq (.ops [.ins ⟨some 14, .mov (.c (.int .i64 0)), none⟩] (some [8, 14]))
  (.block 2
   (.loop
    (.seq (.seq (.ops [.ins ⟨some 70, .mov (.t 14), none⟩,
      .ins ⟨some 71, .mov (.t 8), none⟩,
      .ins ⟨some 72, .lenSl (.t 71), none⟩,
      .ins ⟨some 73, .bin .lss (.t 70) (.t 72), none⟩] (some [8, 14, 73]))
    (.cond (.t 73)
     (.skip)
     (.exit 2)))
    (.seq (.block 3
     (.seq (.ops [.ins ⟨some 77, .mov (.t 8), none⟩,
       .ins ⟨some 78, .mov (.t 14), none⟩,
       .ins ⟨some 79, .indexAddrS 1 (.t 77) (.t 78), none⟩,
       .ins ⟨some 80, .load .one (.t 79), none⟩,
       .ins ⟨some 81, .call 61 [(.t 80)], none⟩,
       .ins ⟨some 76, .mov (.t 81), none⟩,
       .ins ⟨some 82, .extract (.t 76) 0, none⟩,
       .ins ⟨some 83, .extract (.t 76) 1, none⟩,
       .ins ⟨some 15, .alloc [(.str []), (.int .i64 0), (.int .i64 0), (.int .i64 0), (.int .i64 0)], none⟩,
       .ins ⟨none, .store 5 (.t 15) (.t 82), none⟩,
       .ins ⟨some 16, .mov (.t 83), none⟩] (some [8, 14, 15, 16]))
     (.seq (.ops [.ins ⟨some 85, .mov (.t 8), none⟩,
       .ins ⟨some 86, .mov (.t 14), none⟩,
       .ins ⟨some 87, .indexAddrS 1 (.t 85) (.t 86), none⟩,
       .ins ⟨some 88, .load .one (.t 87), none⟩,
       .ins ⟨some 89, .call 62 [(.t 88)], none⟩,
       .ins ⟨some 84, .mov (.t 89), none⟩,
       .ins ⟨some 90, .extract (.t 84) 0, none⟩,
       .ins ⟨some 91, .extract (.t 84) 1, none⟩,
       .ins ⟨some 17, .alloc [(.str []), (.int .i64 0), (.int .i64 0), (.int .i64 0), (.int .i64 0)], none⟩,
       .ins ⟨none, .store 5 (.t 17) (.t 90), none⟩,
       .ins ⟨some 18, .mov (.t 91), none⟩] (some [8, 14, 15, 16, 17, 18]))
     (.seq (.ops [.ins ⟨some 92, .load (.many 5) (.t 15), none⟩,
       .ins ⟨some 93, .load (.many 5) (.t 17), none⟩,
       .ins ⟨some 94, .eqAgg [.str, .int, .int, .int, .int] true (.t 92) (.t 93), none⟩,
       .ins ⟨some 95, .mov (.t 94), none⟩,
       .ins ⟨some 96, .mov (.t 16), some (95, false)⟩,
       .ins ⟨some 97, .mov (.t 18), some (95, false)⟩,
       .ins ⟨some 98, .eq1 .int true (.t 96) (.t 97), some (95, false)⟩,
       .ins ⟨some 99, .pick (.t 95) (.c (.bool true)) (.t 98), none⟩] (some [8, 14, 99]))
     (.cond (.t 99)
      (.seq (.ops [.ins ⟨some 6, .mov (.c (.bool false)), none⟩] (some [6]))
      (.ret))
      (.skip))))))
    (.ops [.ins ⟨some 74, .mov (.t 14), none⟩,
      .ins ⟨some 75, .bin .add (.t 74) (.c (.int .i64 1)), none⟩,
      .ins ⟨some 14, .mov (.t 75), none⟩] (some [8, 14])))) (some [8, 14]))))
  (.seq (.ops [.ins ⟨some 100, .call 17 [], none⟩,
    .ins ⟨some 6, .mov (.t 100), none⟩] (some [6]))
  (.ret))))))),
  [.tmp 6]⟩

def fnsL14 : FuncId → Option AFn
  | 14 => some A14
  | _ => none
end DC

namespace DC
open Go Am
/-- thermion/thermionlaw08.MatchRead -/
def A15 : AFn := ⟨
  .seq (.ops [.ins ⟨some 6, .mov (.c (.bool false)), none⟩] (some [0, 1, 2]))
  (.seq (.ops [.ins ⟨some 18, .mov (.t 0), none⟩,
    .ins ⟨some 19, .call 19 [(.t 18)], none⟩,
    .ins ⟨some 20, .call 58 [(.t 19)], none⟩,
    .ins ⟨some 7, .alloc [(.str []), (.int .i64 0), (.int .i64 0), (.int .i64 0), (.int .i64 0)], none⟩,
    .ins ⟨none, .store 5 (.t 7) (.t 20), none⟩] (some [1, 2, 7]))
  (.seq (.ops [.ins ⟨some 22, .load (.many 5) (.t 7), none⟩,
    .ins ⟨some 23, .call 59 [(.t 22)], none⟩,
    .ins ⟨some 21, .mov (.t 23), none⟩,
    .ins ⟨some 24, .extract (.t 21) 0, none⟩,
    .ins ⟨some 25, .extract (.t 21) 1, none⟩,
    .ins ⟨some 8, .mov (.t 24), none⟩,
    .ins ⟨some 9, .mov (.t 25), none⟩] (some [1, 2, 7, 8, 9]))
  (.seq (.ops [.ins ⟨some 27, .mov (.t 8), none⟩,
    .ins ⟨some 28, .call 61 [(.t 27)], none⟩,
    .ins ⟨some 26, .mov (.t 28), none⟩,
    .ins ⟨some 29, .extract (.t 26) 0, none⟩,
    .ins ⟨some 30, .extract (.t 26) 1, none⟩,
    .ins ⟨some 10, .alloc [(.str []), (.int .i64 0), (.int .i64 0), (.int .i64 0), (.int .i64 0)], none⟩,
    .ins ⟨none, .store 5 (.t 10) (.t 29), none⟩,
    .ins ⟨some 11, .mov (.t 30), none⟩] (some [1, 2, 7, 8, 9, 10, 11]))
  (.seq (.seq (.ops [.ins ⟨some 31, .mov (.t 9), none⟩,
    .ins ⟨some 32, .eq1 .int true (.t 31) (.c (.int .i64 0)), none⟩,
    .ins ⟨some 33, .mov (.t 32), none⟩,
    .ins ⟨some 34, .mov (.t 11), some (33, false)⟩,
    .ins ⟨some 35, .eq1 .int true (.t 34) (.c (.int .i64 0)), some (33, false)⟩,
    .ins ⟨some 36, .pick (.t 33) (.c (.bool true)) (.t 35), none⟩,
    .ins ⟨some 37, .mov (.t 36), none⟩,
    .ins ⟨some 38, .load (.many 5) (.t 10), some (37, false)⟩,
    .ins ⟨some 39, .load (.many 5) (.t 7), some (37, false)⟩,
    .ins ⟨some 40, .eqAgg [.str, .int, .int, .int, .int] true (.t 38) (.t 39), some (37, false)⟩,
    .ins ⟨some 41, .pick (.t 37) (.c (.bool true)) (.t 40), none⟩,
    .ins ⟨some 42, .mov (.t 41), none⟩,
    .ins ⟨some 43, .mov (.t 8), some (42, false)⟩,
    .ins ⟨some 44, .lenStr (.t 43), some (42, false)⟩,
    .ins ⟨some 45, .fieldAddr 0 (.t 7), some (42, false)⟩,
    .ins ⟨some 46, .load .one (.t 45), some (42, false)⟩,
    .ins ⟨some 47, .lenStr (.t 46), some (42, false)⟩,
    .ins ⟨some 48, .bin .add (.t 47) (.c (.int .i64 11)), some (42, false)⟩,
    .ins ⟨some 49, .eq1 .int true (.t 44) (.t 48), some (42, false)⟩,
    .ins ⟨some 50, .pick (.t 42) (.c (.bool true)) (.t 49), none⟩] (some [1, 2, 8, 50]))
  (.cond (.t 50)
   (.seq (.ops [.ins ⟨some 6, .mov (.c (.bool false)), none⟩] (some [6]))
   (.ret))
   (.skip)))
  (.seq (.ops [.ins ⟨some 51, .mov (.t 1), none⟩,
    .ins ⟨some 52, .mov (.t 8), none⟩,
    .ins ⟨some 53, .lenStr (.t 52), none⟩,
    .ins ⟨some 54, .call 63 [(.t 51), (.t 53)], none⟩,
    .ins ⟨some 1, .mov (.t 54), none⟩] (some [1, 2, 8]))
  (.seq (.ops [.ins ⟨some 55, .mov (.t 2), none⟩,
    .ins ⟨some 56, .call 63 [(.t 55), (.c (.int .i64 37))], none⟩,
    .ins ⟨some 57, .indexStr (.c (.str [48, 49, 50, 51, 52, 53, 54, 55, 56, 57, 65, 66, 67, 68, 69, 70, 71, 72, 73, 74, 75, 76, 77, 78, 79, 80, 81, 82, 83, 84, 85, 86, 87, 88, 89, 90, 43])) (.t 56), none⟩,
    .ins ⟨some 12, .mov (.t 57), none⟩] (some [1, 8, 12]))
  (.seq (.ops [.ins ⟨some 58, .mov (.t 8), none⟩,
    .ins ⟨some 59, .mov (.t 1), none⟩,
    .ins ⟨some 60, .sliceStr (.t 58) none (some (.t 59)), none⟩,
    .ins ⟨some 61, .mov (.t 12), none⟩,
    .ins ⟨some 62, .buildSlice [(.int .u8 0)] 1 1 [(0, (.t 61))], none⟩,
    .ins ⟨some 63, .bytesToStr (.t 62), none⟩,
    .ins ⟨some 64, .bin .add (.t 60) (.t 63), none⟩,
    .ins ⟨some 65, .mov (.t 8), none⟩,
    .ins ⟨some 66, .mov (.t 1), none⟩,
    .ins ⟨some 67, .bin .add (.t 66) (.c (.int .i64 1)), none⟩,
    .ins ⟨some 68, .sliceStr (.t 65) (some (.t 67)) none, none⟩,
    .ins ⟨some 69, .bin .add (.t 64) (.t 68), none⟩,
    .ins ⟨some 13, .mov (.t 69), none⟩] (some [1, 8, 13]))
  (.seq (.ops [.ins ⟨some 71, .mov (.t 13), none⟩,
    .ins ⟨some 72, .call 61 [(.t 71)], none⟩,
    .ins ⟨some 70, .mov (.t 72), none⟩,
    .ins ⟨some 73, .extract (.t 70) 0, none⟩,
    .ins ⟨some 74, .extract (.t 70) 1, none⟩,
    .ins ⟨some 14, .alloc [(.str []), (.int .i64 0), (.int .i64 0), (.int .i64 0), (.int .i64 0)], none⟩,
    .ins ⟨none, .store 5 (.t 14) (.t 73), none⟩,
    .ins ⟨some 15, .mov (.t 74), none⟩] (some [1, 8, 13, 15]))
  (.seq (.seq (.ops [.ins ⟨some 75, .mov (.t 15), none⟩,
    .ins ⟨some 76, .eq1 .int false (.t 75) (.c (.int .i64 0)), none⟩,
    .ins ⟨some 77, .mov (.t 13), none⟩,
    .ins ⟨some 78, .mov (.t 8), none⟩,
    .ins ⟨some 79, .eq1 .str false (.t 77) (.t 78), none⟩,
    .ins ⟨some 80, .eq1 .bool true (.t 76) (.t 79), none⟩] (some [1, 8, 80]))
  (.cond (.t 80)
   (.seq (.ops [.ins ⟨some 6, .mov (.c (.bool false)), none⟩] (some [6]))
   (.ret))
   (.skip)))
  (.seq (.seq (.ops [.ins ⟨some 81, .mov (.t 1), none⟩,
    .ins ⟨some 82, .eq1 .int false (.t 81) (.c (.int .i64 0)), none⟩] (some [1, 8, 82]))
  (.cond (.t 82)
   (.seq (.ops [.ins ⟨some 83, .call 17 [], none⟩,
     .ins ⟨some 6, .mov (.t 83), none⟩] (some [6]))
   (.ret))
   (.skip)))
  (.seq (.ops [.ins ⟨some 84, .mov (.t 8), none⟩,
    .ins ⟨some 85, .mov (.t 1), none⟩,
    .ins ⟨some 86, .bin .sub (.t 85) (.c (.int .i64 1)), none⟩,
    .ins ⟨some 87, .sliceStr (.t 84) none (some (.t 86)), none⟩,
    .ins ⟨some 88, .mov (.t 8), none⟩,
    .ins ⟨some 89, .mov (.t 1), none⟩,
    .ins ⟨some 90, .indexStr (.t 88) (.t 89), none⟩,
    .ins ⟨some 91, .mov (.t 8), none⟩,
    .ins ⟨some 92, .mov (.t 1), none⟩,
    .ins ⟨some 93, .bin .sub (.t 92) (.c (.int .i64 1)), none⟩,
    .ins ⟨some 94, .indexStr (.t 91) (.t 93), none⟩,
    .ins ⟨some 95, .buildSlice [(.int .u8 0), (.int .u8 0)] 1 2 [(0, (.t 90)), (1, (.t 94))], none⟩,
    .ins ⟨some 96, .bytesToStr (.t 95), none⟩,
    .ins ⟨some 97, .bin .add (.t 87) (.t 96), none⟩,
    .ins ⟨some 98, .mov (.t 8), none⟩,
    .ins ⟨some 99, .mov (.t 1), none⟩,
    .ins ⟨some 100, .bin .add (.t 99) (.c (.int .i64 1)), none⟩,
    .ins ⟨some 101, .sliceStr (.t 98) (some (.t 100)) none, none⟩,
    .ins ⟨some 102, .bin .add (.t 97) (.t 101), none⟩,
    .ins ⟨some 13, .mov (.t 102), none⟩] (some [8, 13]))
  (.seq (.ops [.ins ⟨some 104, .mov (.t 13), none⟩,
    .ins ⟨some 105, .call 61 [(.t 104)], none⟩,
    .ins ⟨some 103, .mov (.t 105), none⟩,
    .ins ⟨some 106, .extract (.t 103) 0, none⟩,
    .ins ⟨some 107, .extract (.t 103) 1, none⟩,
    .ins ⟨some 16, .alloc [(.str []), (.int .i64 0), (.int .i64 0), (.int .i64 0), (.int .i64 0)], none⟩,
    .ins ⟨none, .store 5 (.t 16) (.t 106), none⟩,
    .ins ⟨some 17, .mov (.t 107), none⟩] (some [8, 13, 17]))
  (.seq (.ops [.ins ⟨some 108, .mov (.t 17), none⟩,
    .ins ⟨some 109, .eq1 .int false (.t 108) (.c (.int .i64 0)), none⟩,
    .ins ⟨some 110, .mov (.t 13), none⟩,
    .ins ⟨some 111, .mov (.t 8), none⟩,
    .ins ⟨some 112, .eq1 .str false (.t 110) (.t 111), none⟩,
    .ins ⟨some 113, .eq1 .bool false (.t 109) (.t 112), none⟩,
    .ins ⟨some 114, .mov (.t 113), none⟩,
    .ins ⟨some 115, .call 17 [], some (114, true)⟩,
    .ins ⟨some 116, .pick (.t 114) (.t 115) (.c (.bool false)), none⟩,
    .ins ⟨some 6, .mov (.t 116), none⟩] (some [6]))
  (.ret)))))))))))))),
  [.tmp 6]⟩

def fnsL15 : FuncId → Option AFn
  | 15 => some A15
  | _ => none
end DC
