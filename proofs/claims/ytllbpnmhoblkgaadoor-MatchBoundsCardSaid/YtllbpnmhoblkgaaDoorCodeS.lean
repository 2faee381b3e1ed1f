/- A part of the proof: CodeS. It holds for whatever its statements name; no condition beyond theirs. -/
import Derived.Test.YtllbpnmhoblkgaaDoorAmE
namespace DC
open Go Am
/-- thermion/match.asked -/
def A73 : AFn := ⟨
  .seq (.ops [.ins ⟨some 1, .box (.t 0), none⟩,
    .ins ⟨some 2, .mov (.c .nilp), none⟩] (some [1]))
  (.seq (.ops [.ins ⟨some 7, .fieldAddr 1 (.t 1), none⟩,
    .ins ⟨some 8, .load .one (.t 7), none⟩,
    .ins ⟨some 9, .lenSl (.t 8), none⟩,
    .ins ⟨some 10, .makeMap, none⟩,
    .ins ⟨some 11, .makeMap, none⟩,
    .ins ⟨some 12, .build [(.int .i64 0), .nils, .nilm, .nilm] [(0, 1, (.t 9)), (2, 1, (.t 10)), (3, 1, (.t 11))], none⟩,
    .ins ⟨some 13, .box (.t 12), none⟩,
    .ins ⟨some 3, .mov (.t 13), none⟩] (some [1, 3]))
  (.seq (.seq (.ops [.ins ⟨some 14, .mov (.t 3), none⟩,
    .ins ⟨some 15, .nilCheck (.t 14), none⟩,
    .ins ⟨some 16, .fieldAddr 0 (.t 15), none⟩,
    .ins ⟨some 17, .load .one (.t 16), none⟩,
    .ins ⟨some 18, .mov (.c (.int .i64 0)), none⟩] (some [1, 3, 17, 18]))
  (.block 0
   (.loop
    (.seq (.ops [.ins ⟨some 19, .bin .lss (.t 18) (.t 17), none⟩] (some [1, 3, 17, 18, 19]))
    (.seq (.cond (.t 19)
     (.skip)
     (.exit 0))
    (.seq (.block 1
     (.seq (.ops [.ins ⟨some 20, .mov (.t 18), none⟩,
       .ins ⟨some 4, .mov (.t 20), none⟩] (some [1, 3, 4, 17, 18]))
     (.seq (.ops [.ins ⟨some 5, .mov (.c (.int .u32 0)), none⟩] (some [1, 3, 4, 5, 17, 18]))
     (.seq (.seq (.ops [.ins ⟨some 21, .mov (.t 3), none⟩,
       .ins ⟨some 22, .nilCheck (.t 21), none⟩,
       .ins ⟨some 23, .fieldAddr 0 (.t 22), none⟩,
       .ins ⟨some 24, .load .one (.t 23), none⟩,
       .ins ⟨some 25, .mov (.c (.int .i64 0)), none⟩] (some [1, 3, 4, 5, 17, 18, 24, 25]))
     (.block 2
      (.loop
       (.seq (.ops [.ins ⟨some 26, .bin .lss (.t 25) (.t 24), none⟩] (some [1, 3, 4, 5, 17, 18, 24, 25, 26]))
       (.seq (.cond (.t 26)
        (.skip)
        (.exit 2))
       (.seq (.block 3
        (.seq (.ops [.ins ⟨some 27, .mov (.t 25), none⟩,
          .ins ⟨some 6, .mov (.t 27), none⟩] (some [1, 3, 4, 5, 6, 17, 18, 24, 25]))
        (.seq (.ops [.ins ⟨some 28, .load (.many 2) (.t 1), none⟩,
          .ins ⟨some 29, .mov (.t 4), none⟩,
          .ins ⟨some 30, .mov (.t 6), none⟩,
          .ins ⟨some 31, .call 71 [(.t 28), (.t 29), (.t 30)], none⟩] (some [1, 3, 4, 5, 6, 17, 18, 24, 25, 31]))
        (.cond (.t 31)
         (.ops [.ins ⟨some 32, .mov (.t 5), none⟩,
           .ins ⟨some 33, .mov (.t 6), none⟩,
           .ins ⟨some 34, .buildSlice [(.int .i64 0)] 1 1 [(0, (.t 33))], none⟩,
           .ins ⟨some 35, .call 77 [(.t 34)], none⟩,
           .ins ⟨some 36, .bin .or (.t 32) (.t 35), none⟩,
           .ins ⟨some 5, .mov (.t 36), none⟩] (some [1, 3, 4, 5, 17, 18, 24, 25]))
         (.skip)))))
       (.ops [.ins ⟨some 37, .bin .add (.t 25) (.c (.int .i64 1)), none⟩,
         .ins ⟨some 25, .mov (.t 37), none⟩] (some [1, 3, 4, 5, 17, 18, 24, 25]))))) (some [1, 3, 4, 5, 17, 18, 24, 25]))))
     (.ops [.ins ⟨some 38, .mov (.t 3), none⟩,
       .ins ⟨some 39, .mov (.t 3), none⟩,
       .ins ⟨some 40, .nilCheck (.t 39), none⟩,
       .ins ⟨some 41, .fieldAddr 1 (.t 40), none⟩,
       .ins ⟨some 42, .load .one (.t 41), none⟩,
       .ins ⟨some 43, .mov (.t 5), none⟩,
       .ins ⟨some 44, .buildSlice [(.int .u32 0)] 1 1 [(0, (.t 43))], none⟩,
       .ins ⟨some 45, .append 1 4 (.t 42) (.t 44), none⟩,
       .ins ⟨some 46, .nilCheck (.t 38), none⟩,
       .ins ⟨some 47, .fieldAddr 1 (.t 46), none⟩,
       .ins ⟨none, .store 1 (.t 47) (.t 45), none⟩] (some [1, 3, 17, 18]))))))
    (.ops [.ins ⟨some 48, .bin .add (.t 18) (.c (.int .i64 1)), none⟩,
      .ins ⟨some 18, .mov (.t 48), none⟩] (some [1, 3, 17, 18]))))) (some [1, 3, 17, 18]))))
  (.seq (.ops [.ins ⟨some 49, .mov (.t 3), none⟩,
    .ins ⟨some 2, .mov (.t 49), none⟩] (some [2]))
  (.ret)))),
  [.tmp 2]⟩

/-- (*thermion/match.matter).all -/
def A74 : AFn := ⟨
  .seq (.ops [.ins ⟨some 2, .mov (.c (.int .u32 0)), none⟩] (some [0]))
  (.seq (.ops [.ins ⟨some 3, .mov (.t 0), none⟩,
    .ins ⟨some 4, .nilCheck (.t 3), none⟩,
    .ins ⟨some 5, .fieldAddr 0 (.t 4), none⟩,
    .ins ⟨some 6, .load .one (.t 5), none⟩,
    .ins ⟨some 7, .bin .shl (.c (.int .u32 1)) (.t 6), none⟩,
    .ins ⟨some 8, .bin .sub (.t 7) (.c (.int .u32 1)), none⟩,
    .ins ⟨some 2, .mov (.t 8), none⟩] (some [2]))
  (.ret)),
  [.tmp 2]⟩

/-- (thermion/match.set).has -/
def A75 : AFn := ⟨
  .seq (.ops [.ins ⟨some 4, .mov (.c (.bool false)), none⟩] (some [0, 1]))
  (.seq (.ops [.ins ⟨some 5, .mov (.t 0), none⟩,
    .ins ⟨some 6, .mov (.t 1), none⟩,
    .ins ⟨some 7, .bin .shr (.t 5) (.t 6), none⟩,
    .ins ⟨some 8, .bin .and (.t 7) (.c (.int .u32 1)), none⟩,
    .ins ⟨some 9, .eq1 .int false (.t 8) (.c (.int .u32 1)), none⟩,
    .ins ⟨some 4, .mov (.t 9), none⟩] (some [4]))
  (.ret)),
  [.tmp 4]⟩

/-- thermion/match.of -/
def A77 : AFn := ⟨
  .seq (.ops [.ins ⟨some 2, .mov (.c (.int .u32 0)), none⟩] (some [0]))
  (.seq (.ops [.ins ⟨some 3, .mov (.c (.int .u32 0)), none⟩] (some [0, 3]))
  (.seq (.seq (.ops [.ins ⟨some 6, .mov (.t 0), none⟩,
    .ins ⟨some 7, .lenSl (.t 6), none⟩,
    .ins ⟨some 8, .mov (.c (.int .i64 0)), none⟩] (some [3, 6, 7, 8]))
  (.block 0
   (.loop
    (.seq (.ops [.ins ⟨some 9, .bin .lss (.t 8) (.t 7), none⟩] (some [3, 6, 7, 8, 9]))
    (.seq (.cond (.t 9)
     (.skip)
     (.exit 0))
    (.seq (.block 1
     (.seq (.ops [.ins ⟨some 10, .indexAddrS 1 (.t 6) (.t 8), none⟩,
       .ins ⟨some 11, .load .one (.t 10), none⟩,
       .ins ⟨some 5, .mov (.t 11), none⟩] (some [3, 5, 6, 7, 8]))
     (.ops [.ins ⟨some 12, .mov (.t 3), none⟩,
       .ins ⟨some 13, .mov (.t 5), none⟩,
       .ins ⟨some 14, .bin .shl (.c (.int .u32 1)) (.t 13), none⟩,
       .ins ⟨some 15, .bin .or (.t 12) (.t 14), none⟩,
       .ins ⟨some 3, .mov (.t 15), none⟩] (some [3, 6, 7, 8]))))
    (.ops [.ins ⟨some 16, .bin .add (.t 8) (.c (.int .i64 1)), none⟩,
      .ins ⟨some 8, .mov (.t 16), none⟩] (some [3, 6, 7, 8]))))) (some [3, 6, 7, 8]))))
  (.seq (.ops [.ins ⟨some 17, .mov (.t 3), none⟩,
    .ins ⟨some 2, .mov (.t 17), none⟩] (some [2]))
  (.ret)))),
  [.tmp 2]⟩

/-- (thermion/match.set).items -/
def A78 : AFn := ⟨
  .seq (.ops [.ins ⟨some 1, .box (.t 0), none⟩,
    .ins ⟨some 2, .mov (.c .nilf), none⟩] (some [1]))
  (.seq (.ops [.ins ⟨some 3, .makeFn 116 [(.t 1)], none⟩,
    .ins ⟨some 2, .mov (.t 3), none⟩] (some [2]))
  (.ret)),
  [.tmp 2]⟩

/-- (thermion/match.set).items$1 -/
def A116 : AFn := ⟨
  .seq (.ops [.ins ⟨some 3, .mov (.c (.int .i64 0)), none⟩] (some [0, 1, 3]))
  (.block 0
   (.loop
    (.seq (.seq (.ops [.ins ⟨some 4, .load .one (.t 1), none⟩,
      .ins ⟨some 5, .mov (.t 3), none⟩,
      .ins ⟨some 6, .bin .shr (.t 4) (.t 5), none⟩,
      .ins ⟨some 7, .bin .gtr (.t 6) (.c (.int .u32 0)), none⟩] (some [0, 1, 3, 7]))
    (.cond (.t 7)
     (.skip)
     (.exit 0)))
    (.seq (.block 1
     (.seq (.ops [.ins ⟨some 10, .load .one (.t 1), none⟩,
       .ins ⟨some 11, .mov (.t 3), none⟩,
       .ins ⟨some 12, .call 75 [(.t 10), (.t 11)], none⟩,
       .ins ⟨some 13, .mov (.t 12), none⟩,
       .ins ⟨some 14, .mov (.t 0), some (13, true)⟩,
       .ins ⟨some 15, .mov (.t 3), some (13, true)⟩,
       .ins ⟨some 16, .callv (.t 14) [(.t 15)], some (13, true)⟩,
       .ins ⟨some 17, .un .not (.t 16), some (13, true)⟩,
       .ins ⟨some 18, .pick (.t 13) (.t 17) (.c (.bool false)), none⟩] (some [0, 1, 3, 18]))
     (.cond (.t 18)
      (.ret)
      (.skip))))
    (.ops [.ins ⟨some 8, .mov (.t 3), none⟩,
      .ins ⟨some 9, .bin .add (.t 8) (.c (.int .i64 1)), none⟩,
      .ins ⟨some 3, .mov (.t 9), none⟩] (some [0, 1, 3])))) (some [0, 1, 3]))),
  []⟩

def fnsS : FuncId → Option AFn
  | 73 => some A73
  | 74 => some A74
  | 75 => some A75
  | 77 => some A77
  | 78 => some A78
  | 116 => some A116
  | _ => none
end DC
