/- The law StacksSet of the given program: for every input the call returns true, and its arguments read as before. Here: the functions as commands. -/
import Derived.Test.YtlpngkeegjickaaFb
import Derived.Test.YtlpngkeegjickaaProg
namespace Go.Proofs.Ytlpngkeegjickaa
open Go.Ab
-- gosem.cut.init
def c2 : Cmd :=
 .reg [((some 0), none, .dead)]
theorem k2 : FnOK Try.prog 2 c2 [] 0 := ⟨by kernel_rfl, Try.f2, _, [], Try.func2, rfl, by kernel_rfl, by kernel_rfl, by decide⟩

-- gansey/ganseylaw03.StacksAt
def c3 : Cmd :=
 .seq [0, 4, 5] (.reg [((some 4), none, .box 26 2 (.tmp 1)),
   ((some 5), none, .box 28 2 (.tmp 2)),
   ((some 6), none, .mv (.const (.bool false)))])
 (.seq [4, 5, 7] (.reg [((some 17), none, .mv (.tmp 0)),
   ((some 18), none, .call 9 [(.tmp 17)]),
   ((some 7), none, .alloc 31 80 (.agg (List.replicate 80 (.val (.slice none 0 0))))),
   (none, none, .store 80 (.tmp 7) (.tmp 18))])
 (.seq [4, 5, 7, 8] (.reg [((some 19), none, .load true 80 (.tmp 7)),
   ((some 20), none, .call 10 [(.tmp 19)]),
   ((some 8), none, .alloc 35 2 (.agg [(.val (.slice none 0 0)), (.val (.slice none 0 0))])),
   (none, none, .store 2 (.tmp 8) (.tmp 20))])
 (.seq [4, 5, 7, 8] (.seq [4, 5, 7, 8, 29] (.reg [((some 21), none, .load true 2 (.tmp 8)),
   ((some 22), none, .call 11 [(.tmp 21)]),
   ((some 23), none, .bin .neq (.tmp 22) (.const (.int .i64 0))),
   ((some 24), none, .mv (.tmp 23)),
   ((some 25), (some (24, false)), .load true 80 (.tmp 7)),
   ((some 26), (some (24, false)), .load true 2 (.tmp 8)),
   ((some 27), (some (24, false)), .call 12 [(.tmp 25), (.tmp 26)]),
   ((some 28), (some (24, false)), .bin .neq (.tmp 27) (.const (.int .i64 0))),
   ((some 29), none, .pick (.tmp 24) (.const (.bool true)) (.tmp 28))])
 (.cond (.tmp 29)
  (.seq [6] (.reg [((some 6), none, .mv (.const (.bool false)))])
  (.ret))
  (.skip)))
 (.seq [5, 7, 8] (.seq [4, 5, 7, 8, 42] (.reg [((some 30), none, .fieldA 0 1 false (.tmp 4)),
   ((some 31), none, .load false 1 (.tmp 30)),
   ((some 32), none, .bin .gtr (.tmp 31) (.const (.int .u8 1))),
   ((some 33), none, .mv (.tmp 32)),
   ((some 34), (some (33, false)), .fieldA 1 1 false (.tmp 4)),
   ((some 35), (some (33, false)), .load false 1 (.tmp 34)),
   ((some 36), (some (33, false)), .bin .lss (.tmp 35) (.const (.int .i64 1))),
   ((some 37), none, .pick (.tmp 33) (.const (.bool true)) (.tmp 36)),
   ((some 38), none, .mv (.tmp 37)),
   ((some 39), (some (38, false)), .fieldA 1 1 false (.tmp 4)),
   ((some 40), (some (38, false)), .load false 1 (.tmp 39)),
   ((some 41), (some (38, false)), .bin .gtr (.tmp 40) (.const (.int .i64 40))),
   ((some 42), none, .pick (.tmp 38) (.const (.bool true)) (.tmp 41))])
 (.cond (.tmp 42)
  (.seq [5, 7, 8, 47] (.reg [((some 43), none, .load true 2 (.tmp 8)),
    ((some 44), none, .load true 2 (.tmp 4)),
    ((some 45), none, .call 13 [(.tmp 43), (.tmp 44)]),
    ((some 46), none, .len (.tmp 45)),
    ((some 47), none, .bin .neq (.tmp 46) (.const (.int .i64 0)))])
  (.cond (.tmp 47)
   (.seq [6] (.reg [((some 6), none, .mv (.const (.bool false)))])
   (.ret))
   (.skip)))
  (.skip)))
 (.seq [5, 7, 8, 9] (.reg [((some 9), none, .mv (.const (.int .i64 0)))])
 (.seq [5, 7, 8, 9, 10] (.reg [((some 10), none, .alloc 26 2 (.agg [(.val (.int .u8 0)), (.val (.int .i64 0))]))])
 (.seq [5, 7, 8, 9, 10, 11] (.reg [((some 11), none, .mv (.const (.int .i64 0)))])
 (.seq [5, 8, 9, 10, 11] (.seq [5, 7, 8, 9, 10, 11, 12] (.reg [((some 12), none, .mv (.const (.int .i64 0)))])
 (.block 0
  (.loop [5, 7, 8, 9, 10, 11, 12]
   (.seq [5, 7, 8, 9, 10, 11, 12] (.seq [5, 7, 8, 9, 10, 11, 12, 49] (.reg [((some 48), none, .mv (.tmp 12)),
     ((some 49), none, .bin .lss (.tmp 48) (.const (.int .i64 80)))])
   (.cond (.tmp 49)
    (.skip)
    (.exit 0)))
   (.seq [5, 7, 8, 9, 10, 11, 12] (.block 1
    (.seq [5, 7, 8, 9, 10, 11, 12] (.reg [((some 52), none, .mv (.tmp 9)),
      ((some 53), none, .mv (.tmp 12)),
      ((some 54), none, .indexP 80 1 false (.tmp 7) (.tmp 53)),
      ((some 55), none, .load false 1 (.tmp 54)),
      ((some 56), none, .len (.tmp 55)),
      ((some 57), none, .bin .add (.tmp 52) (.tmp 56)),
      ((some 9), none, .mv (.tmp 57))])
    (.seq [5, 7, 8, 9, 10, 11, 12, 13] (.reg [((some 13), none, .mv (.const (.int .i64 0)))])
    (.block 2
     (.loop [5, 7, 8, 9, 10, 11, 12, 13]
      (.seq [5, 7, 8, 9, 10, 11, 12, 13] (.seq [5, 7, 8, 9, 10, 11, 12, 13, 63] (.reg [((some 58), none, .mv (.tmp 13)),
        ((some 59), none, .mv (.tmp 12)),
        ((some 60), none, .indexP 80 1 false (.tmp 7) (.tmp 59)),
        ((some 61), none, .load false 1 (.tmp 60)),
        ((some 62), none, .len (.tmp 61)),
        ((some 63), none, .bin .lss (.tmp 58) (.tmp 62))])
      (.cond (.tmp 63)
       (.skip)
       (.exit 2)))
      (.seq [5, 7, 8, 9, 10, 11, 12, 13] (.block 3
       (.seq [5, 7, 8, 9, 10, 11, 12, 13, 73] (.dreg [] [((some 66), none, .mv (.tmp 12)),
         ((some 67), none, .indexP 80 1 false (.tmp 7) (.tmp 66)),
         ((some 68), none, .load false 1 (.tmp 67)),
         ((some 69), none, .mv (.tmp 13)),
         ((some 70), none, .indexA 2 (.tmp 68) (.tmp 69)),
         ((some 71), none, .load true 2 (.tmp 70)),
         ((some 72), none, .load true 2 (.tmp 5)),
         ((some 73), none, .eqagg false [true, true] (.tmp 71) (.tmp 72))]
        [])
       (.cond (.tmp 73)
        (.seq [5, 7, 8, 9, 10, 11, 12, 13] (.reg [((some 74), none, .mv (.tmp 12)),
          ((some 75), none, .convi .u8 (.tmp 74)),
          ((some 76), none, .call 14 [(.tmp 75)]),
          (none, none, .store 2 (.tmp 10) (.tmp 76))])
        (.reg [((some 77), none, .mv (.tmp 11)),
          ((some 78), none, .bin .add (.tmp 77) (.const (.int .i64 1))),
          ((some 11), none, .mv (.tmp 78))]))
        (.skip))))
      (.reg [((some 64), none, .mv (.tmp 13)),
        ((some 65), none, .bin .add (.tmp 64) (.const (.int .i64 1))),
        ((some 13), none, .mv (.tmp 65))]))))))))
   (.reg [((some 50), none, .mv (.tmp 12)),
     ((some 51), none, .bin .add (.tmp 50) (.const (.int .i64 1))),
     ((some 12), none, .mv (.tmp 51))]))))))
 (.seq [8, 9, 10, 11, 14, 15] (.reg [((some 80), none, .load true 2 (.tmp 8)),
   ((some 81), none, .load true 2 (.tmp 5)),
   ((some 82), none, .call 15 [(.tmp 80), (.tmp 81)]),
   ((some 79), none, .mv (.tmp 82)),
   ((some 83), none, .extract (.tmp 79) 0),
   ((some 84), none, .extract (.tmp 79) 1),
   ((some 14), none, .alloc 26 2 (.agg [(.val (.int .u8 0)), (.val (.int .i64 0))])),
   (none, none, .store 2 (.tmp 14) (.tmp 83)),
   ((some 15), none, .mv (.tmp 84))])
 (.seq [8, 9, 10, 11, 14, 15, 16] (.reg [((some 16), none, .mv (.const (.int .i64 0)))])
 (.seq [8, 9, 10, 14, 15, 16] (.seq [8, 9, 10, 14, 15, 16, 86] (.reg [((some 85), none, .mv (.tmp 11)),
   ((some 86), none, .bin .eql (.tmp 85) (.const (.int .i64 0)))])
 (.cond (.tmp 86)
  (.reg [((some 16), none, .mv (.const (.int .i64 7)))])
  (.skip)))
 (.seq [6] (.reg [((some 87), none, .mv (.tmp 15)),
   ((some 88), none, .mv (.tmp 16)),
   ((some 89), none, .bin .eql (.tmp 87) (.tmp 88)),
   ((some 90), none, .mv (.tmp 89)),
   ((some 91), (some (90, true)), .load true 2 (.tmp 14)),
   ((some 92), (some (90, true)), .load true 2 (.tmp 10)),
   ((some 93), (some (90, true)), .eqagg false [true, true] (.tmp 91) (.tmp 92)),
   ((some 94), none, .pick (.tmp 90) (.tmp 93) (.const (.bool false))),
   ((some 95), none, .mv (.tmp 94)),
   ((some 96), (some (95, true)), .load true 2 (.tmp 8)),
   ((some 97), (some (95, true)), .call 16 [(.tmp 96)]),
   ((some 98), (some (95, true)), .mv (.tmp 9)),
   ((some 99), (some (95, true)), .bin .eql (.tmp 97) (.tmp 98)),
   ((some 100), none, .pick (.tmp 95) (.tmp 99) (.const (.bool false))),
   ((some 101), none, .mv (.tmp 100)),
   ((some 102), (some (101, true)), .call 17 []),
   ((some 103), none, .pick (.tmp 101) (.tmp 102) (.const (.bool false))),
   ((some 6), none, .mv (.tmp 103))])
 (.ret)))))))))))))
theorem k3 : FnOK Try.prog 3 c3 [.tmp 6] 3 := ⟨by kernel_rfl, Try.f3, _, [], Try.func3, rfl, by kernel_rfl, by kernel_rfl, by decide⟩

-- gansey/ganseylaw03.StacksSet
def c4 : Cmd :=
 .seq [0, 2, 4] (.reg [((some 4), none, .box 26 2 (.tmp 1)),
   ((some 6), none, .mv (.const (.bool false)))])
 (.seq [0, 2, 4] (.seq [0, 2, 4, 22] (.reg [((some 20), none, .mv (.tmp 2)),
   ((some 21), none, .len (.tmp 20)),
   ((some 22), none, .bin .gtr (.tmp 21) (.const (.int .i64 6)))])
 (.cond (.tmp 22)
  (.seq [6] (.reg [((some 23), none, .call 17 []),
    ((some 6), none, .mv (.tmp 23))])
  (.ret))
  (.skip)))
 (.seq [2, 4, 7] (.reg [((some 24), none, .mv (.tmp 0)),
   ((some 25), none, .call 9 [(.tmp 24)]),
   ((some 7), none, .alloc 31 80 (.agg (List.replicate 80 (.val (.slice none 0 0))))),
   (none, none, .store 80 (.tmp 7) (.tmp 25))])
 (.seq [2, 4, 7, 8] (.reg [((some 26), none, .load true 80 (.tmp 7)),
   ((some 27), none, .call 10 [(.tmp 26)]),
   ((some 8), none, .alloc 35 2 (.agg [(.val (.slice none 0 0)), (.val (.slice none 0 0))])),
   (none, none, .store 2 (.tmp 8) (.tmp 27))])
 (.seq [2, 4, 7, 8, 9, 10] (.reg [((some 29), none, .load true 2 (.tmp 8)),
   ((some 30), none, .load true 2 (.tmp 4)),
   ((some 31), none, .mv (.tmp 2)),
   ((some 32), none, .call 18 [(.tmp 29), (.tmp 30), (.tmp 31)]),
   ((some 28), none, .mv (.tmp 32)),
   ((some 33), none, .extract (.tmp 28) 0),
   ((some 34), none, .extract (.tmp 28) 1),
   ((some 9), none, .alloc 35 2 (.agg [(.val (.slice none 0 0)), (.val (.slice none 0 0))])),
   (none, none, .store 2 (.tmp 9) (.tmp 33)),
   ((some 10), none, .mv (.tmp 34))])
 (.seq [2, 4, 7, 8, 9, 10, 11] (.reg [((some 11), none, .mv (.const (.int .i64 0)))])
 (.seq [2, 4, 7, 8, 9, 10, 11, 12] (.reg [((some 12), none, .mv (.const (.int .i64 (-1))))])
 (.seq [2, 4, 7, 8, 9, 10, 11, 12] (.seq [2, 4, 7, 8, 9, 10, 11, 12, 13] (.reg [((some 13), none, .mv (.const (.int .i64 0)))])
 (.block 0
  (.loop [2, 4, 7, 8, 9, 10, 11, 12, 13]
   (.seq [2, 4, 7, 8, 9, 10, 11, 12, 13] (.seq [2, 4, 7, 8, 9, 10, 11, 12, 13, 36] (.reg [((some 35), none, .mv (.tmp 13)),
     ((some 36), none, .bin .lss (.tmp 35) (.const (.int .i64 80)))])
   (.cond (.tmp 36)
    (.skip)
    (.exit 0)))
   (.seq [2, 4, 7, 8, 9, 10, 11, 12, 13] (.block 1
    (.seq [2, 4, 7, 8, 9, 10, 11, 12, 13, 43] (.dreg [] [((some 39), none, .mv (.tmp 13)),
      ((some 40), none, .convi .u8 (.tmp 39)),
      ((some 41), none, .call 14 [(.tmp 40)]),
      ((some 42), none, .load true 2 (.tmp 4)),
      ((some 43), none, .eqagg false [true, true] (.tmp 41) (.tmp 42))]
     [])
    (.cond (.tmp 43)
     (.reg [((some 44), none, .mv (.tmp 13)),
       ((some 12), none, .mv (.tmp 44))])
     (.skip))))
   (.reg [((some 37), none, .mv (.tmp 13)),
     ((some 38), none, .bin .add (.tmp 37) (.const (.int .i64 1))),
     ((some 13), none, .mv (.tmp 38))]))))))
 (.seq [2, 4, 7, 8, 9, 10, 11, 12] (.seq [2, 4, 7, 8, 9, 10, 11, 12, 46] (.reg [((some 45), none, .mv (.tmp 12)),
   ((some 46), none, .bin .lss (.tmp 45) (.const (.int .i64 0)))])
 (.cond (.tmp 46)
  (.reg [((some 11), none, .mv (.const (.int .i64 1)))])
  (.skip)))
 (.seq [2, 4, 7, 8, 9, 10, 11, 12] (.seq [2, 4, 7, 8, 9, 10, 11, 12, 14] (.reg [((some 14), none, .mv (.const (.int .i64 0)))])
 (.block 2
  (.loop [2, 4, 7, 8, 9, 10, 11, 12, 14]
   (.seq [2, 4, 7, 8, 9, 10, 11, 12, 14] (.seq [2, 4, 7, 8, 9, 10, 11, 12, 14, 50] (.reg [((some 47), none, .mv (.tmp 14)),
     ((some 48), none, .mv (.tmp 2)),
     ((some 49), none, .len (.tmp 48)),
     ((some 50), none, .bin .lss (.tmp 47) (.tmp 49))])
   (.cond (.tmp 50)
    (.skip)
    (.exit 2)))
   (.seq [2, 4, 7, 8, 9, 10, 11, 12, 14] (.block 3
    (.seq [2, 4, 7, 8, 9, 10, 11, 12, 14, 82] (.reg [((some 53), none, .mv (.tmp 2)),
      ((some 54), none, .mv (.tmp 14)),
      ((some 55), none, .indexA 2 (.tmp 53) (.tmp 54)),
      ((some 56), none, .fieldA 0 1 false (.tmp 55)),
      ((some 57), none, .load false 1 (.tmp 56)),
      ((some 58), none, .bin .lss (.tmp 57) (.const (.int .u8 1))),
      ((some 59), none, .mv (.tmp 58)),
      ((some 60), (some (59, false)), .mv (.tmp 2)),
      ((some 61), (some (59, false)), .mv (.tmp 14)),
      ((some 62), (some (59, false)), .indexA 2 (.tmp 60) (.tmp 61)),
      ((some 63), (some (59, false)), .fieldA 0 1 false (.tmp 62)),
      ((some 64), (some (59, false)), .load false 1 (.tmp 63)),
      ((some 65), (some (59, false)), .bin .gtr (.tmp 64) (.const (.int .u8 6))),
      ((some 66), none, .pick (.tmp 59) (.const (.bool true)) (.tmp 65)),
      ((some 67), none, .mv (.tmp 66)),
      ((some 68), (some (67, false)), .mv (.tmp 2)),
      ((some 69), (some (67, false)), .mv (.tmp 14)),
      ((some 70), (some (67, false)), .indexA 2 (.tmp 68) (.tmp 69)),
      ((some 71), (some (67, false)), .fieldA 1 1 false (.tmp 70)),
      ((some 72), (some (67, false)), .load false 1 (.tmp 71)),
      ((some 73), (some (67, false)), .bin .lss (.tmp 72) (.const (.int .i64 0))),
      ((some 74), none, .pick (.tmp 67) (.const (.bool true)) (.tmp 73)),
      ((some 75), none, .mv (.tmp 74)),
      ((some 76), (some (75, false)), .mv (.tmp 2)),
      ((some 77), (some (75, false)), .mv (.tmp 14)),
      ((some 78), (some (75, false)), .indexA 2 (.tmp 76) (.tmp 77)),
      ((some 79), (some (75, false)), .fieldA 1 1 false (.tmp 78)),
      ((some 80), (some (75, false)), .load false 1 (.tmp 79)),
      ((some 81), (some (75, false)), .bin .gtr (.tmp 80) (.const (.int .i64 2047))),
      ((some 82), none, .pick (.tmp 75) (.const (.bool true)) (.tmp 81))])
    (.cond (.tmp 82)
     (.reg [((some 11), none, .mv (.const (.int .i64 1)))])
     (.skip))))
   (.reg [((some 51), none, .mv (.tmp 14)),
     ((some 52), none, .bin .add (.tmp 51) (.const (.int .i64 1))),
     ((some 14), none, .mv (.tmp 52))]))))))
 (.seq [2, 4, 7, 8, 9, 10, 11, 12] (.seq [2, 4, 7, 8, 9, 10, 11, 12, 89] (.reg [((some 83), none, .mv (.tmp 11)),
   ((some 84), none, .bin .eql (.tmp 83) (.const (.int .i64 0))),
   ((some 85), none, .mv (.tmp 84)),
   ((some 86), (some (85, true)), .mv (.tmp 2)),
   ((some 87), (some (85, true)), .len (.tmp 86)),
   ((some 88), (some (85, true)), .bin .gtr (.tmp 87) (.const (.int .i64 4))),
   ((some 89), none, .pick (.tmp 85) (.tmp 88) (.const (.bool false)))])
 (.cond (.tmp 89)
  (.reg [((some 11), none, .mv (.const (.int .i64 9)))])
  (.skip)))
 (.seq [2, 4, 7, 8, 9, 10, 11, 12] (.seq [2, 4, 7, 8, 9, 10, 11, 12, 15] (.reg [((some 15), none, .mv (.const (.int .i64 0)))])
 (.block 4
  (.loop [2, 4, 7, 8, 9, 10, 11, 12, 15]
   (.seq [2, 4, 7, 8, 9, 10, 11, 12, 15] (.seq [2, 4, 7, 8, 9, 10, 11, 12, 15, 97] (.reg [((some 90), none, .mv (.tmp 15)),
     ((some 91), none, .mv (.tmp 2)),
     ((some 92), none, .len (.tmp 91)),
     ((some 93), none, .bin .lss (.tmp 90) (.tmp 92)),
     ((some 94), none, .mv (.tmp 93)),
     ((some 95), (some (94, true)), .mv (.tmp 11)),
     ((some 96), (some (94, true)), .bin .eql (.tmp 95) (.const (.int .i64 0))),
     ((some 97), none, .pick (.tmp 94) (.tmp 96) (.const (.bool false)))])
   (.cond (.tmp 97)
    (.skip)
    (.exit 4)))
   (.seq [2, 4, 7, 8, 9, 10, 11, 12, 15] (.block 5
    (.seq [2, 4, 7, 8, 9, 10, 11, 12, 15] (.seq [2, 4, 7, 8, 9, 10, 11, 12, 15, 16] (.reg [((some 16), none, .mv (.const (.int .i64 0)))])
    (.block 6
     (.loop [2, 4, 7, 8, 9, 10, 11, 12, 15, 16]
      (.seq [2, 4, 7, 8, 9, 10, 11, 12, 15, 16] (.seq [2, 4, 7, 8, 9, 10, 11, 12, 15, 16, 102] (.reg [((some 100), none, .mv (.tmp 16)),
        ((some 101), none, .mv (.tmp 15)),
        ((some 102), none, .bin .lss (.tmp 100) (.tmp 101))])
      (.cond (.tmp 102)
       (.skip)
       (.exit 6)))
      (.seq [2, 4, 7, 8, 9, 10, 11, 12, 15, 16] (.block 7
       (.seq [2, 4, 7, 8, 9, 10, 11, 12, 15, 16, 113] (.dreg [] [((some 105), none, .mv (.tmp 2)),
         ((some 106), none, .mv (.tmp 16)),
         ((some 107), none, .indexA 2 (.tmp 105) (.tmp 106)),
         ((some 108), none, .load true 2 (.tmp 107)),
         ((some 109), none, .mv (.tmp 2)),
         ((some 110), none, .mv (.tmp 15)),
         ((some 111), none, .indexA 2 (.tmp 109) (.tmp 110)),
         ((some 112), none, .load true 2 (.tmp 111)),
         ((some 113), none, .eqagg false [true, true] (.tmp 108) (.tmp 112))]
        [])
       (.cond (.tmp 113)
        (.reg [((some 11), none, .mv (.const (.int .i64 8)))])
        (.skip))))
      (.reg [((some 103), none, .mv (.tmp 16)),
        ((some 104), none, .bin .add (.tmp 103) (.const (.int .i64 1))),
        ((some 16), none, .mv (.tmp 104))]))))))
    (.seq [2, 4, 7, 8, 9, 10, 11, 12, 15, 17] (.reg [((some 17), none, .mv (.const (.int .i64 0)))])
    (.block 8
     (.loop [2, 4, 7, 8, 9, 10, 11, 12, 15, 17]
      (.seq [2, 4, 7, 8, 9, 10, 11, 12, 15, 17] (.seq [2, 4, 7, 8, 9, 10, 11, 12, 15, 17, 115] (.reg [((some 114), none, .mv (.tmp 17)),
        ((some 115), none, .bin .lss (.tmp 114) (.const (.int .i64 80)))])
      (.cond (.tmp 115)
       (.skip)
       (.exit 8)))
      (.seq [2, 4, 7, 8, 9, 10, 11, 12, 15, 17] (.block 9
       (.seq [2, 4, 7, 8, 9, 10, 11, 12, 15, 17, 18] (.reg [((some 18), none, .mv (.const (.int .i64 0)))])
       (.block 10
        (.loop [2, 4, 7, 8, 9, 10, 11, 12, 15, 17, 18]
         (.seq [2, 4, 7, 8, 9, 10, 11, 12, 15, 17, 18] (.seq [2, 4, 7, 8, 9, 10, 11, 12, 15, 17, 18, 128] (.reg [((some 118), none, .mv (.tmp 18)),
           ((some 119), none, .mv (.tmp 17)),
           ((some 120), none, .indexP 80 1 false (.tmp 7) (.tmp 119)),
           ((some 121), none, .load false 1 (.tmp 120)),
           ((some 122), none, .len (.tmp 121)),
           ((some 123), none, .bin .lss (.tmp 118) (.tmp 122)),
           ((some 124), none, .mv (.tmp 123)),
           ((some 125), (some (124, true)), .mv (.tmp 17)),
           ((some 126), (some (124, true)), .mv (.tmp 12)),
           ((some 127), (some (124, true)), .bin .neq (.tmp 125) (.tmp 126)),
           ((some 128), none, .pick (.tmp 124) (.tmp 127) (.const (.bool false)))])
         (.cond (.tmp 128)
          (.skip)
          (.exit 10)))
         (.seq [2, 4, 7, 8, 9, 10, 11, 12, 15, 17, 18] (.block 11
          (.seq [2, 4, 7, 8, 9, 10, 11, 12, 15, 17, 18, 141] (.dreg [] [((some 131), none, .mv (.tmp 17)),
            ((some 132), none, .indexP 80 1 false (.tmp 7) (.tmp 131)),
            ((some 133), none, .load false 1 (.tmp 132)),
            ((some 134), none, .mv (.tmp 18)),
            ((some 135), none, .indexA 2 (.tmp 133) (.tmp 134)),
            ((some 136), none, .load true 2 (.tmp 135)),
            ((some 137), none, .mv (.tmp 2)),
            ((some 138), none, .mv (.tmp 15)),
            ((some 139), none, .indexA 2 (.tmp 137) (.tmp 138)),
            ((some 140), none, .load true 2 (.tmp 139)),
            ((some 141), none, .eqagg false [true, true] (.tmp 136) (.tmp 140))]
           [])
          (.cond (.tmp 141)
           (.reg [((some 11), none, .mv (.const (.int .i64 8)))])
           (.skip))))
         (.reg [((some 129), none, .mv (.tmp 18)),
           ((some 130), none, .bin .add (.tmp 129) (.const (.int .i64 1))),
           ((some 18), none, .mv (.tmp 130))])))))))
      (.reg [((some 116), none, .mv (.tmp 17)),
        ((some 117), none, .bin .add (.tmp 116) (.const (.int .i64 1))),
        ((some 17), none, .mv (.tmp 117))]))))))))
   (.reg [((some 98), none, .mv (.tmp 15)),
     ((some 99), none, .bin .add (.tmp 98) (.const (.int .i64 1))),
     ((some 15), none, .mv (.tmp 99))]))))))
 (.seq [2, 4, 7, 9, 10, 12] (.seq [2, 4, 7, 9, 10, 12, 150] (.reg [((some 142), none, .mv (.tmp 10)),
   ((some 143), none, .mv (.tmp 11)),
   ((some 144), none, .bin .neq (.tmp 142) (.tmp 143)),
   ((some 145), none, .mv (.tmp 144)),
   ((some 146), (some (145, false)), .load true 80 (.tmp 7)),
   ((some 147), (some (145, false)), .load true 2 (.tmp 8)),
   ((some 148), (some (145, false)), .call 12 [(.tmp 146), (.tmp 147)]),
   ((some 149), (some (145, false)), .bin .neq (.tmp 148) (.const (.int .i64 0))),
   ((some 150), none, .pick (.tmp 145) (.const (.bool true)) (.tmp 149))])
 (.cond (.tmp 150)
  (.seq [6] (.reg [((some 6), none, .mv (.const (.bool false)))])
  (.ret))
  (.skip)))
 (.seq [2, 4, 7, 9, 12] (.seq [2, 4, 7, 9, 12, 152] (.reg [((some 151), none, .mv (.tmp 10)),
   ((some 152), none, .bin .neq (.tmp 151) (.const (.int .i64 0)))])
 (.cond (.tmp 152)
  (.seq [6] (.reg [((some 153), none, .fieldA 0 1 false (.tmp 9)),
    ((some 154), none, .load false 1 (.tmp 153)),
    ((some 155), none, .len (.tmp 154)),
    ((some 156), none, .bin .eql (.tmp 155) (.const (.int .i64 0))),
    ((some 157), none, .mv (.tmp 156)),
    ((some 158), (some (157, true)), .fieldA 1 1 false (.tmp 9)),
    ((some 159), (some (157, true)), .load false 1 (.tmp 158)),
    ((some 160), (some (157, true)), .len (.tmp 159)),
    ((some 161), (some (157, true)), .bin .eql (.tmp 160) (.const (.int .i64 0))),
    ((some 162), none, .pick (.tmp 157) (.tmp 161) (.const (.bool false))),
    ((some 163), none, .mv (.tmp 162)),
    ((some 164), (some (163, true)), .call 17 []),
    ((some 165), none, .pick (.tmp 163) (.tmp 164) (.const (.bool false))),
    ((some 6), none, .mv (.tmp 165))])
  (.ret))
  (.skip)))
 (.seq [4, 7, 9] (.reg [((some 166), none, .mv (.tmp 12)),
   ((some 167), none, .blist 2 []),
   ((some 168), none, .mv (.tmp 2)),
   ((some 169), none, .append false 28 2 16 (.tmp 167) (.tmp 168)),
   ((some 170), none, .indexP 80 1 false (.tmp 7) (.tmp 166)),
   (none, none, .store 1 (.tmp 170) (.tmp 169))])
 (.seq [4, 9] (.seq [4, 9, 174] (.reg [((some 171), none, .load true 80 (.tmp 7)),
   ((some 172), none, .load true 2 (.tmp 9)),
   ((some 173), none, .call 12 [(.tmp 171), (.tmp 172)]),
   ((some 174), none, .bin .neq (.tmp 173) (.const (.int .i64 0)))])
 (.cond (.tmp 174)
  (.seq [6] (.reg [((some 6), none, .mv (.const (.bool false)))])
  (.ret))
  (.skip)))
 (.seq [9, 10, 19] (.sreg [] [((some 176), none, .load true 2 (.tmp 9)),
   ((some 177), none, .load true 2 (.tmp 4)),
   ((some 178), none, .load true 2 (.tmp 9)),
   ((some 179), none, .load true 2 (.tmp 4)),
   ((some 180), none, .call 13 [(.tmp 178), (.tmp 179)]),
   ((some 181), none, .call 18 [(.tmp 176), (.tmp 177), (.tmp 180)]),
   ((some 175), none, .mv (.tmp 181)),
   ((some 182), none, .extract (.tmp 175) 0),
   ((some 183), none, .extract (.tmp 175) 1),
   ((some 19), none, .alloc 35 2 (.agg [(.val (.slice none 0 0)), (.val (.slice none 0 0))]))]
  [((some 19), none, .alloc 35 2 (.agg [(.val (.slice none 0 0)), (.val (.slice none 0 0))]))]
  [((some 183), none, .extract (.tmp 175) 1)]
  [((none, none, .store 2 (.tmp 19) (.tmp 182)), [((some 183), none, .extract (.tmp 175) 1)]), (((some 10), none, .mv (.tmp 183)), [])])
 (.seq [6] (.reg [((some 184), none, .mv (.tmp 10)),
   ((some 185), none, .bin .eql (.tmp 184) (.const (.int .i64 0))),
   ((some 186), none, .mv (.tmp 185)),
   ((some 187), (some (186, true)), .load true 2 (.tmp 19)),
   ((some 188), (some (186, true)), .load true 2 (.tmp 9)),
   ((some 189), (some (186, true)), .call 19 [(.tmp 187), (.tmp 188)]),
   ((some 190), none, .pick (.tmp 186) (.tmp 189) (.const (.bool false))),
   ((some 191), none, .mv (.tmp 190)),
   ((some 192), (some (191, true)), .call 17 []),
   ((some 193), none, .pick (.tmp 191) (.tmp 192) (.const (.bool false))),
   ((some 6), none, .mv (.tmp 193))])
 (.ret))))))))))))))))))
theorem k4 : FnOK Try.prog 4 c4 [.tmp 6] 3 := ⟨by kernel_rfl, Try.f4, _, [], Try.func4, rfl, by kernel_rfl, by kernel_rfl, by decide⟩

-- gansey/ganseylaw03.StacksJoin
def c5 : Cmd :=
 .seq [0, 4, 5] (.reg [((some 4), none, .box 26 2 (.tmp 1)),
   ((some 5), none, .box 26 2 (.tmp 2)),
   ((some 6), none, .mv (.const (.bool false)))])
 (.seq [4, 5, 7] (.reg [((some 18), none, .mv (.tmp 0)),
   ((some 19), none, .call 9 [(.tmp 18)]),
   ((some 7), none, .alloc 31 80 (.agg (List.replicate 80 (.val (.slice none 0 0))))),
   (none, none, .store 80 (.tmp 7) (.tmp 19))])
 (.seq [4, 5, 7, 8] (.reg [((some 20), none, .load true 80 (.tmp 7)),
   ((some 21), none, .call 10 [(.tmp 20)]),
   ((some 8), none, .alloc 35 2 (.agg [(.val (.slice none 0 0)), (.val (.slice none 0 0))])),
   (none, none, .store 2 (.tmp 8) (.tmp 21))])
 (.seq [4, 5, 7, 8, 9, 10] (.reg [((some 23), none, .load true 2 (.tmp 8)),
   ((some 24), none, .load true 2 (.tmp 4)),
   ((some 25), none, .load true 2 (.tmp 5)),
   ((some 26), none, .call 20 [(.tmp 23), (.tmp 24), (.tmp 25)]),
   ((some 22), none, .mv (.tmp 26)),
   ((some 27), none, .extract (.tmp 22) 0),
   ((some 28), none, .extract (.tmp 22) 1),
   ((some 9), none, .alloc 35 2 (.agg [(.val (.slice none 0 0)), (.val (.slice none 0 0))])),
   (none, none, .store 2 (.tmp 9) (.tmp 27)),
   ((some 10), none, .mv (.tmp 28))])
 (.seq [4, 5, 7, 8, 9, 10, 11, 12] (.reg [((some 11), none, .mv (.const (.int .i64 (-1)))),
   ((some 12), none, .mv (.const (.int .i64 (-1))))])
 (.seq [4, 5, 7, 8, 9, 10, 11, 12] (.seq [4, 5, 7, 8, 9, 10, 11, 12, 13] (.reg [((some 13), none, .mv (.const (.int .i64 0)))])
 (.block 0
  (.loop [4, 5, 7, 8, 9, 10, 11, 12, 13]
   (.seq [4, 5, 7, 8, 9, 10, 11, 12, 13] (.seq [4, 5, 7, 8, 9, 10, 11, 12, 13, 30] (.reg [((some 29), none, .mv (.tmp 13)),
     ((some 30), none, .bin .lss (.tmp 29) (.const (.int .i64 80)))])
   (.cond (.tmp 30)
    (.skip)
    (.exit 0)))
   (.seq [4, 5, 7, 8, 9, 10, 11, 12, 13] (.block 1
    (.seq [4, 5, 7, 8, 9, 10, 11, 12, 13] (.seq [4, 5, 7, 8, 9, 10, 11, 12, 13, 37] (.dreg [] [((some 33), none, .mv (.tmp 13)),
      ((some 34), none, .convi .u8 (.tmp 33)),
      ((some 35), none, .call 14 [(.tmp 34)]),
      ((some 36), none, .load true 2 (.tmp 4)),
      ((some 37), none, .eqagg false [true, true] (.tmp 35) (.tmp 36))]
     [])
    (.cond (.tmp 37)
     (.reg [((some 38), none, .mv (.tmp 13)),
       ((some 11), none, .mv (.tmp 38))])
     (.skip)))
    (.seq [4, 5, 7, 8, 9, 10, 11, 12, 13, 43] (.dreg [] [((some 39), none, .mv (.tmp 13)),
      ((some 40), none, .convi .u8 (.tmp 39)),
      ((some 41), none, .call 14 [(.tmp 40)]),
      ((some 42), none, .load true 2 (.tmp 5)),
      ((some 43), none, .eqagg false [true, true] (.tmp 41) (.tmp 42))]
     [])
    (.cond (.tmp 43)
     (.reg [((some 44), none, .mv (.tmp 13)),
       ((some 12), none, .mv (.tmp 44))])
     (.skip)))))
   (.reg [((some 31), none, .mv (.tmp 13)),
     ((some 32), none, .bin .add (.tmp 31) (.const (.int .i64 1))),
     ((some 13), none, .mv (.tmp 32))]))))))
 (.seq [4, 5, 7, 8, 9, 10, 11, 12, 14] (.reg [((some 14), none, .mv (.const (.int .i64 0)))])
 (.seq [4, 5, 7, 8, 9, 10, 11, 12, 14] (.block 2
  (.seq [4, 5, 7, 8, 9, 10, 11, 12, 14, 45] (.reg [((some 46), none, .mv (.tmp 11)),
    ((some 47), none, .bin .lss (.tmp 46) (.const (.int .i64 0))),
    ((some 48), none, .mv (.tmp 47)),
    ((some 49), (some (48, false)), .mv (.tmp 12)),
    ((some 50), (some (48, false)), .bin .lss (.tmp 49) (.const (.int .i64 0))),
    ((some 51), none, .pick (.tmp 48) (.const (.bool true)) (.tmp 50)),
    ((some 52), none, .mv (.tmp 51)),
    ((some 53), (some (52, false)), .fieldA 0 1 false (.tmp 4)),
    ((some 54), (some (52, false)), .load false 1 (.tmp 53)),
    ((some 55), (some (52, false)), .fieldA 0 1 false (.tmp 5)),
    ((some 56), (some (52, false)), .load false 1 (.tmp 55)),
    ((some 57), (some (52, false)), .bin .eql (.tmp 54) (.tmp 56)),
    ((some 58), none, .pick (.tmp 52) (.const (.bool true)) (.tmp 57)),
    ((some 45), none, .mv (.tmp 58))])
  (.cond (.tmp 45)
   (.reg [((some 14), none, .mv (.const (.int .i64 1)))])
   (.seq [4, 5, 7, 8, 9, 10, 11, 12, 14, 59] (.reg [((some 60), none, .mv (.tmp 11)),
     ((some 61), none, .indexP 80 1 false (.tmp 7) (.tmp 60)),
     ((some 62), none, .load false 1 (.tmp 61)),
     ((some 63), none, .len (.tmp 62)),
     ((some 64), none, .bin .eql (.tmp 63) (.const (.int .i64 0))),
     ((some 59), none, .mv (.tmp 64))])
   (.cond (.tmp 59)
    (.reg [((some 14), none, .mv (.const (.int .i64 13)))])
    (.seq [4, 5, 7, 8, 9, 10, 11, 12, 14, 65] (.dreg [] [((some 66), none, .mv (.tmp 11)),
      ((some 67), none, .indexP 80 1 false (.tmp 7) (.tmp 66)),
      ((some 68), none, .load false 1 (.tmp 67)),
      ((some 69), none, .len (.tmp 68)),
      ((some 70), none, .mv (.tmp 12)),
      ((some 71), none, .indexP 80 1 false (.tmp 7) (.tmp 70)),
      ((some 72), none, .load false 1 (.tmp 71)),
      ((some 73), none, .len (.tmp 72)),
      ((some 74), none, .bin .add (.tmp 69) (.tmp 73)),
      ((some 75), none, .bin .gtr (.tmp 74) (.const (.int .i64 4))),
      ((some 65), none, .mv (.tmp 75))]
     [])
    (.cond (.tmp 65)
     (.reg [((some 14), none, .mv (.const (.int .i64 9)))])
     (.skip))))))))
 (.seq [4, 5, 7, 8, 9, 10, 11, 12] (.seq [4, 5, 7, 8, 9, 10, 11, 12, 84] (.reg [((some 76), none, .mv (.tmp 10)),
   ((some 77), none, .mv (.tmp 14)),
   ((some 78), none, .bin .neq (.tmp 76) (.tmp 77)),
   ((some 79), none, .mv (.tmp 78)),
   ((some 80), (some (79, false)), .load true 80 (.tmp 7)),
   ((some 81), (some (79, false)), .load true 2 (.tmp 8)),
   ((some 82), (some (79, false)), .call 12 [(.tmp 80), (.tmp 81)]),
   ((some 83), (some (79, false)), .bin .neq (.tmp 82) (.const (.int .i64 0))),
   ((some 84), none, .pick (.tmp 79) (.const (.bool true)) (.tmp 83))])
 (.cond (.tmp 84)
  (.seq [6] (.reg [((some 6), none, .mv (.const (.bool false)))])
  (.ret))
  (.skip)))
 (.seq [4, 5, 7, 8, 9, 11, 12] (.seq [4, 5, 7, 8, 9, 11, 12, 86] (.reg [((some 85), none, .mv (.tmp 10)),
   ((some 86), none, .bin .neq (.tmp 85) (.const (.int .i64 0)))])
 (.cond (.tmp 86)
  (.seq [6] (.reg [((some 87), none, .fieldA 0 1 false (.tmp 9)),
    ((some 88), none, .load false 1 (.tmp 87)),
    ((some 89), none, .len (.tmp 88)),
    ((some 90), none, .bin .eql (.tmp 89) (.const (.int .i64 0))),
    ((some 91), none, .mv (.tmp 90)),
    ((some 92), (some (91, true)), .fieldA 1 1 false (.tmp 9)),
    ((some 93), (some (91, true)), .load false 1 (.tmp 92)),
    ((some 94), (some (91, true)), .len (.tmp 93)),
    ((some 95), (some (91, true)), .bin .eql (.tmp 94) (.const (.int .i64 0))),
    ((some 96), none, .pick (.tmp 91) (.tmp 95) (.const (.bool false))),
    ((some 97), none, .mv (.tmp 96)),
    ((some 98), (some (97, true)), .call 17 []),
    ((some 99), none, .pick (.tmp 97) (.tmp 98) (.const (.bool false))),
    ((some 6), none, .mv (.tmp 99))])
  (.ret))
  (.skip)))
 (.seq [4, 5, 7, 8, 9, 11, 12, 15] (.reg [((some 100), none, .mv (.tmp 12)),
   ((some 101), none, .indexP 80 1 false (.tmp 7) (.tmp 100)),
   ((some 102), none, .load false 1 (.tmp 101)),
   ((some 103), none, .len (.tmp 102)),
   ((some 104), none, .bin .eql (.tmp 103) (.const (.int .i64 0))),
   ((some 15), none, .mv (.tmp 104))])
 (.seq [4, 5, 7, 8, 9, 11, 12, 15, 16] (.reg [((some 105), none, .load true 80 (.tmp 7)),
   ((some 16), none, .alloc 31 80 (.agg (List.replicate 80 (.val (.slice none 0 0))))),
   (none, none, .store 80 (.tmp 16) (.tmp 105))])
 (.seq [4, 5, 8, 9, 11, 15, 16] (.seq [4, 5, 7, 8, 9, 11, 12, 15, 16, 108] (.reg [((some 106), none, .fieldA 0 1 false (.tmp 5)),
   ((some 107), none, .load false 1 (.tmp 106)),
   ((some 108), none, .bin .eql (.tmp 107) (.const (.int .u8 1)))])
 (.cond (.tmp 108)
  (.dreg [114] [((some 109), none, .mv (.tmp 12)),
    ((some 110), none, .blist 2 []),
    ((some 111), none, .mv (.tmp 12)),
    ((some 112), none, .indexP 80 1 false (.tmp 7) (.tmp 111)),
    ((some 113), none, .load false 1 (.tmp 112)),
    ((some 114), none, .append true 28 2 16 (.tmp 110) (.tmp 113)),
    ((some 115), none, .mv (.tmp 11)),
    ((some 116), none, .indexP 80 1 false (.tmp 7) (.tmp 115)),
    ((some 117), none, .load false 1 (.tmp 116)),
    ((some 118), none, .append false 28 2 16 (.tmp 114) (.tmp 117))]
   [((some 119), none, .indexP 80 1 false (.tmp 16) (.tmp 109)),
    (none, none, .store 1 (.tmp 119) (.tmp 118))])
  (.dreg [125] [((some 120), none, .mv (.tmp 12)),
    ((some 121), none, .blist 2 []),
    ((some 122), none, .mv (.tmp 11)),
    ((some 123), none, .indexP 80 1 false (.tmp 7) (.tmp 122)),
    ((some 124), none, .load false 1 (.tmp 123)),
    ((some 125), none, .append true 28 2 16 (.tmp 121) (.tmp 124)),
    ((some 126), none, .mv (.tmp 12)),
    ((some 127), none, .indexP 80 1 false (.tmp 7) (.tmp 126)),
    ((some 128), none, .load false 1 (.tmp 127)),
    ((some 129), none, .append false 28 2 16 (.tmp 125) (.tmp 128))]
   [((some 130), none, .indexP 80 1 false (.tmp 16) (.tmp 120)),
    (none, none, .store 1 (.tmp 130) (.tmp 129))])))
 (.seq [4, 5, 8, 9, 15, 16] (.reg [((some 131), none, .mv (.tmp 11)),
   ((some 132), none, .indexP 80 1 false (.tmp 16) (.tmp 131)),
   (none, none, .store 1 (.tmp 132) (.const (.slice none 0 0)))])
 (.seq [4, 5, 8, 9, 15] (.seq [4, 5, 8, 9, 15, 143] (.dreg [] [((some 133), none, .load true 80 (.tmp 16)),
   ((some 134), none, .load true 2 (.tmp 9)),
   ((some 135), none, .call 12 [(.tmp 133), (.tmp 134)]),
   ((some 136), none, .bin .neq (.tmp 135) (.const (.int .i64 0))),
   ((some 137), none, .mv (.tmp 136)),
   ((some 138), (some (137, false)), .load true 2 (.tmp 9)),
   ((some 139), (some (137, false)), .call 16 [(.tmp 138)]),
   ((some 140), (some (137, false)), .load true 2 (.tmp 8)),
   ((some 141), (some (137, false)), .call 16 [(.tmp 140)]),
   ((some 142), (some (137, false)), .bin .neq (.tmp 139) (.tmp 141)),
   ((some 143), none, .pick (.tmp 137) (.const (.bool true)) (.tmp 142))]
  [])
 (.cond (.tmp 143)
  (.seq [6] (.reg [((some 6), none, .mv (.const (.bool false)))])
  (.ret))
  (.skip)))
 (.seq [8, 10, 15, 17] (.reg [((some 145), none, .load true 2 (.tmp 9)),
   ((some 146), none, .load true 2 (.tmp 5)),
   ((some 147), none, .load true 2 (.tmp 4)),
   ((some 148), none, .call 20 [(.tmp 145), (.tmp 146), (.tmp 147)]),
   ((some 144), none, .mv (.tmp 148)),
   ((some 149), none, .extract (.tmp 144) 0),
   ((some 150), none, .extract (.tmp 144) 1),
   ((some 17), none, .alloc 35 2 (.agg [(.val (.slice none 0 0)), (.val (.slice none 0 0))])),
   (none, none, .store 2 (.tmp 17) (.tmp 149)),
   ((some 10), none, .mv (.tmp 150))])
 (.seq [8, 15, 17] (.seq [8, 15, 17, 152] (.reg [((some 151), none, .mv (.tmp 10)),
   ((some 152), none, .bin .neq (.tmp 151) (.const (.int .i64 0)))])
 (.cond (.tmp 152)
  (.seq [6] (.reg [((some 6), none, .mv (.const (.bool false)))])
  (.ret))
  (.skip)))
 (.seq [6] (.reg [((some 153), none, .mv (.tmp 15)),
   ((some 154), none, .un .not (.tmp 153)),
   ((some 155), none, .mv (.tmp 154)),
   ((some 156), (some (155, false)), .load true 2 (.tmp 17)),
   ((some 157), (some (155, false)), .load true 2 (.tmp 8)),
   ((some 158), (some (155, false)), .call 19 [(.tmp 156), (.tmp 157)]),
   ((some 159), none, .pick (.tmp 155) (.const (.bool true)) (.tmp 158)),
   ((some 160), none, .mv (.tmp 159)),
   ((some 161), (some (160, true)), .call 17 []),
   ((some 162), none, .pick (.tmp 160) (.tmp 161) (.const (.bool false))),
   ((some 6), none, .mv (.tmp 162))])
 (.ret))))))))))))))))))
theorem k5 : FnOK Try.prog 5 c5 [.tmp 6] 3 := ⟨by kernel_rfl, Try.f5, _, [114, 125], Try.func5, rfl, by kernel_rfl, by kernel_rfl, by decide⟩

-- gansey/ganseylaw03.StacksSame
def c6 : Cmd :=
 .seq [0, 1, 5] (.reg [((some 5), none, .box 52 2 (.tmp 2)),
   ((some 6), none, .mv (.const (.bool false)))])
 (.seq [5, 7, 8] (.reg [((some 15), none, .mv (.tmp 0)),
   ((some 16), none, .call 9 [(.tmp 15)]),
   ((some 17), none, .mv (.tmp 1)),
   ((some 18), none, .call 9 [(.tmp 17)]),
   ((some 7), none, .alloc 31 80 (.agg (List.replicate 80 (.val (.slice none 0 0))))),
   ((some 8), none, .alloc 31 80 (.agg (List.replicate 80 (.val (.slice none 0 0))))),
   (none, none, .store 80 (.tmp 7) (.tmp 16)),
   (none, none, .store 80 (.tmp 8) (.tmp 18))])
 (.seq [5, 7, 8] (.seq [5, 7, 8, 22] (.reg [((some 19), none, .indexP 2 1 false (.tmp 5) (.const (.int .i64 1))),
   ((some 20), none, .load false 1 (.tmp 19)),
   ((some 21), none, .bin .rem (.tmp 20) (.const (.int .u8 2))),
   ((some 22), none, .bin .eql (.tmp 21) (.const (.int .u8 1)))])
 (.cond (.tmp 22)
  (.seq [5, 7, 8] (.reg [((some 23), none, .load true 80 (.tmp 7)),
    (none, none, .store 80 (.tmp 8) (.tmp 23))])
  (.seq [5, 7, 8, 27] (.reg [((some 24), none, .indexP 2 1 false (.tmp 5) (.const (.int .i64 1))),
    ((some 25), none, .load false 1 (.tmp 24)),
    ((some 26), none, .bin .rem (.tmp 25) (.const (.int .u8 4))),
    ((some 27), none, .bin .eql (.tmp 26) (.const (.int .u8 3)))])
  (.cond (.tmp 27)
   (.seq [5, 7, 8, 9] (.reg [((some 28), none, .indexP 2 1 false (.tmp 5) (.const (.int .i64 1))),
     ((some 29), none, .load false 1 (.tmp 28)),
     ((some 30), none, .bin .quo (.tmp 29) (.const (.int .u8 4))),
     ((some 31), none, .convi .i64 (.tmp 30)),
     ((some 32), none, .bin .rem (.tmp 31) (.const (.int .i64 80))),
     ((some 9), none, .mv (.tmp 32))])
   (.reg [((some 33), none, .mv (.tmp 9)),
     ((some 34), none, .blist 2 []),
     ((some 35), none, .mv (.tmp 9)),
     ((some 36), none, .indexP 80 1 false (.tmp 8) (.tmp 35)),
     ((some 37), none, .load false 1 (.tmp 36)),
     ((some 38), none, .append true 28 2 16 (.tmp 34) (.tmp 37)),
     ((some 39), none, .build [(.val (.int .u8 0)), (.val (.int .i64 0))] [(0, 1, (.const (.int .u8 6))), (1, 1, (.const (.int .i64 9)))]),
     ((some 40), none, .blist 2 [(.tmp 39)]),
     ((some 41), none, .append false 28 2 16 (.tmp 38) (.tmp 40)),
     ((some 42), none, .indexP 80 1 false (.tmp 8) (.tmp 33)),
     (none, none, .store 1 (.tmp 42) (.tmp 41))]))
   (.skip))))
  (.skip)))
 (.seq [5, 7, 8, 10] (.reg [((some 10), none, .mv (.const (.bool true)))])
 (.seq [5, 7, 8, 10] (.seq [5, 7, 8, 10, 11] (.reg [((some 11), none, .mv (.const (.int .i64 0)))])
 (.block 0
  (.loop [5, 7, 8, 10, 11]
   (.seq [5, 7, 8, 10, 11] (.seq [5, 7, 8, 10, 11, 44] (.reg [((some 43), none, .mv (.tmp 11)),
     ((some 44), none, .bin .lss (.tmp 43) (.const (.int .i64 80)))])
   (.cond (.tmp 44)
    (.skip)
    (.exit 0)))
   (.seq [5, 7, 8, 10, 11] (.block 1
    (.seq [5, 7, 8, 10, 11, 60] (.dreg [51] [((some 47), none, .mv (.tmp 11)),
      ((some 48), none, .indexP 80 1 false (.tmp 7) (.tmp 47)),
      ((some 49), none, .load false 1 (.tmp 48)),
      ((some 50), none, .len (.tmp 49)),
      ((some 51), none, .mkslice 28 2 16 (.agg [(.val (.int .u8 0)), (.val (.int .i64 0))]) (.const (.int .i64 0)) (.tmp 50)),
      ((some 52), none, .mv (.tmp 11)),
      ((some 53), none, .indexP 80 1 false (.tmp 7) (.tmp 52)),
      ((some 54), none, .load false 1 (.tmp 53)),
      ((some 55), none, .append false 28 2 16 (.tmp 51) (.tmp 54)),
      ((some 56), none, .mv (.tmp 11)),
      ((some 57), none, .indexP 80 1 false (.tmp 8) (.tmp 56)),
      ((some 58), none, .load false 1 (.tmp 57)),
      ((some 59), none, .call 21 [(.tmp 55), (.tmp 58)]),
      ((some 60), none, .bin .eql (.tmp 59) (.const (.int .i64 0)))]
     [])
    (.cond (.tmp 60)
     (.reg [((some 10), none, .mv (.const (.bool false)))])
     (.skip))))
   (.reg [((some 45), none, .mv (.tmp 11)),
     ((some 46), none, .bin .add (.tmp 45) (.const (.int .i64 1))),
     ((some 11), none, .mv (.tmp 46))]))))))
 (.seq [5, 10, 12, 13] (.sreg [] [((some 61), none, .load true 80 (.tmp 7)),
   ((some 62), none, .call 10 [(.tmp 61)]),
   ((some 63), none, .load true 80 (.tmp 8)),
   ((some 64), none, .call 10 [(.tmp 63)]),
   ((some 12), none, .alloc 35 2 (.agg [(.val (.slice none 0 0)), (.val (.slice none 0 0))])),
   ((some 13), none, .alloc 35 2 (.agg [(.val (.slice none 0 0)), (.val (.slice none 0 0))]))]
  [((some 12), none, .alloc 35 2 (.agg [(.val (.slice none 0 0)), (.val (.slice none 0 0))])),
   ((some 13), none, .alloc 35 2 (.agg [(.val (.slice none 0 0)), (.val (.slice none 0 0))]))]
  [((some 63), none, .load true 80 (.tmp 8))]
  [((none, none, .store 2 (.tmp 12) (.tmp 62)), [((some 63), none, .load true 80 (.tmp 8))]), ((none, none, .store 2 (.tmp 13) (.tmp 64)), [])])
 (.seq [10, 12, 13] (.seq [5, 10, 12, 13, 14] (.reg [((some 14), none, .mv (.const (.int .i64 0)))])
 (.block 2
  (.loop [5, 10, 12, 13, 14]
   (.seq [5, 10, 12, 13, 14] (.seq [5, 10, 12, 13, 14, 70] (.reg [((some 65), none, .mv (.tmp 14)),
     ((some 66), none, .indexP 2 1 false (.tmp 5) (.const (.int .i64 0))),
     ((some 67), none, .load false 1 (.tmp 66)),
     ((some 68), none, .bin .rem (.tmp 67) (.const (.int .u8 5))),
     ((some 69), none, .convi .i64 (.tmp 68)),
     ((some 70), none, .bin .lss (.tmp 65) (.tmp 69))])
   (.cond (.tmp 70)
    (.skip)
    (.exit 2)))
   (.seq [5, 10, 12, 13, 14] (.block 3
    (.seq [5, 10, 12, 13, 14] (.reg [((some 73), none, .fieldA 0 1 false (.tmp 12)),
      ((some 74), none, .load false 1 (.tmp 73)),
      ((some 75), none, .blist 1 [(.const (.slice none 0 0))]),
      ((some 76), none, .append true 29 1 24 (.tmp 74) (.tmp 75)),
      ((some 77), none, .fieldA 0 1 false (.tmp 12)),
      (none, none, .store 1 (.tmp 77) (.tmp 76))])
    (.reg [((some 78), none, .fieldA 1 1 false (.tmp 13)),
      ((some 79), none, .load false 1 (.tmp 78)),
      ((some 80), none, .blist 2 []),
      ((some 81), none, .blist 1 [(.tmp 80)]),
      ((some 82), none, .append true 29 1 24 (.tmp 79) (.tmp 81)),
      ((some 83), none, .fieldA 1 1 false (.tmp 13)),
      (none, none, .store 1 (.tmp 83) (.tmp 82))])))
   (.reg [((some 71), none, .mv (.tmp 14)),
     ((some 72), none, .bin .add (.tmp 71) (.const (.int .i64 1))),
     ((some 14), none, .mv (.tmp 72))]))))))
 (.seq [6] (.reg [((some 84), none, .load true 2 (.tmp 12)),
   ((some 85), none, .load true 2 (.tmp 13)),
   ((some 86), none, .call 19 [(.tmp 84), (.tmp 85)]),
   ((some 87), none, .mv (.tmp 10)),
   ((some 88), none, .binb false (.tmp 86) (.tmp 87)),
   ((some 89), none, .mv (.tmp 88)),
   ((some 90), (some (89, true)), .load true 2 (.tmp 13)),
   ((some 91), (some (89, true)), .load true 2 (.tmp 12)),
   ((some 92), (some (89, true)), .call 19 [(.tmp 90), (.tmp 91)]),
   ((some 93), (some (89, true)), .mv (.tmp 10)),
   ((some 94), (some (89, true)), .binb false (.tmp 92) (.tmp 93)),
   ((some 95), none, .pick (.tmp 89) (.tmp 94) (.const (.bool false))),
   ((some 96), none, .mv (.tmp 95)),
   ((some 97), (some (96, true)), .load true 2 (.tmp 12)),
   ((some 98), (some (96, true)), .load true 2 (.tmp 12)),
   ((some 99), (some (96, true)), .call 19 [(.tmp 97), (.tmp 98)]),
   ((some 100), none, .pick (.tmp 96) (.tmp 99) (.const (.bool false))),
   ((some 101), none, .mv (.tmp 100)),
   ((some 102), (some (101, true)), .call 17 []),
   ((some 103), none, .pick (.tmp 101) (.tmp 102) (.const (.bool false))),
   ((some 6), none, .mv (.tmp 103))])
 (.ret))))))))
theorem k6 : FnOK Try.prog 6 c6 [.tmp 6] 3 := ⟨by kernel_rfl, Try.f6, _, [38, 76, 82], Try.func6, rfl, by kernel_rfl, by kernel_rfl, by decide⟩

-- gansey/ganseylaw03.StacksBack
def c7 : Cmd :=
 .seq [2, 3] (.reg [((some 2), none, .box 52 2 (.tmp 0)),
   ((some 3), none, .box 52 2 (.tmp 1)),
   ((some 4), none, .mv (.const (.bool false)))])
 (.seq [2, 3, 5, 6] (.sreg [] [((some 14), none, .indexP 2 1 false (.tmp 3) (.const (.int .i64 0))),
   ((some 15), none, .load false 1 (.tmp 14)),
   ((some 16), none, .bin .rem (.tmp 15) (.const (.int .u8 40))),
   ((some 17), none, .call 14 [(.tmp 16)]),
   ((some 18), none, .indexP 2 1 false (.tmp 3) (.const (.int .i64 1))),
   ((some 19), none, .load false 1 (.tmp 18)),
   ((some 20), none, .bin .rem (.tmp 19) (.const (.int .u8 40))),
   ((some 21), none, .bin .add (.const (.int .u8 40)) (.tmp 20)),
   ((some 22), none, .call 14 [(.tmp 21)]),
   ((some 5), none, .alloc 26 2 (.agg [(.val (.int .u8 0)), (.val (.int .i64 0))])),
   ((some 6), none, .alloc 26 2 (.agg [(.val (.int .u8 0)), (.val (.int .i64 0))]))]
  [((some 5), none, .alloc 26 2 (.agg [(.val (.int .u8 0)), (.val (.int .i64 0))])),
   ((some 6), none, .alloc 26 2 (.agg [(.val (.int .u8 0)), (.val (.int .i64 0))]))]
  [((some 18), none, .indexP 2 1 false (.tmp 3) (.const (.int .i64 1))),
   ((some 19), none, .load false 1 (.tmp 18)),
   ((some 20), none, .bin .rem (.tmp 19) (.const (.int .u8 40))),
   ((some 21), none, .bin .add (.const (.int .u8 40)) (.tmp 20))]
  [((none, none, .store 2 (.tmp 5) (.tmp 17)), [((some 18), none, .indexP 2 1 false (.tmp 3) (.const (.int .i64 1))),
   ((some 19), none, .load false 1 (.tmp 18)),
   ((some 20), none, .bin .rem (.tmp 19) (.const (.int .u8 40))),
   ((some 21), none, .bin .add (.const (.int .u8 40)) (.tmp 20))]), ((none, none, .store 2 (.tmp 6) (.tmp 22)), [])])
 (.seq [2, 5, 6, 7] (.reg [((some 23), none, .indexP 2 1 false (.tmp 3) (.const (.int .i64 0))),
   ((some 24), none, .load false 1 (.tmp 23)),
   ((some 25), none, .bin .rem (.tmp 24) (.const (.int .u8 40))),
   ((some 26), none, .indexP 2 1 false (.tmp 2) (.const (.int .i64 0))),
   ((some 27), none, .load false 1 (.tmp 26)),
   ((some 28), none, .bin .rem (.tmp 27) (.const (.int .u8 5))),
   ((some 29), none, .build [(.val (.int .u8 0)), (.val (.int .u8 0))] [(0, 1, (.tmp 25)), (1, 1, (.tmp 28))]),
   ((some 30), none, .indexP 2 1 false (.tmp 3) (.const (.int .i64 1))),
   ((some 31), none, .load false 1 (.tmp 30)),
   ((some 32), none, .bin .rem (.tmp 31) (.const (.int .u8 40))),
   ((some 33), none, .bin .add (.const (.int .u8 40)) (.tmp 32)),
   ((some 34), none, .indexP 2 1 false (.tmp 2) (.const (.int .i64 1))),
   ((some 35), none, .load false 1 (.tmp 34)),
   ((some 36), none, .bin .rem (.tmp 35) (.const (.int .u8 5))),
   ((some 37), none, .build [(.val (.int .u8 0)), (.val (.int .u8 0))] [(0, 1, (.tmp 33)), (1, 1, (.tmp 36))]),
   ((some 38), none, .blist 2 [(.tmp 29), (.tmp 37)]),
   ((some 7), none, .mv (.tmp 38))])
 (.seq [2, 5, 6, 8] (.reg [((some 39), none, .mv (.tmp 7)),
   ((some 40), none, .call 22 [(.tmp 39)]),
   ((some 8), none, .alloc 35 2 (.agg [(.val (.slice none 0 0)), (.val (.slice none 0 0))])),
   (none, none, .store 2 (.tmp 8) (.tmp 40))])
 (.seq [5, 6, 8, 9, 10] (.dreg [] [((some 41), none, .indexP 2 1 false (.tmp 2) (.const (.int .i64 0))),
   ((some 42), none, .load false 1 (.tmp 41)),
   ((some 43), none, .bin .rem (.tmp 42) (.const (.int .u8 5))),
   ((some 44), none, .convi .i64 (.tmp 43)),
   ((some 45), none, .indexP 2 1 false (.tmp 2) (.const (.int .i64 1))),
   ((some 46), none, .load false 1 (.tmp 45)),
   ((some 47), none, .bin .rem (.tmp 46) (.const (.int .u8 5))),
   ((some 48), none, .convi .i64 (.tmp 47)),
   ((some 9), none, .mv (.tmp 44))]
  [((some 10), none, .mv (.tmp 48))])
 (.seq [5, 6, 8, 9, 10, 11, 12] (.reg [((some 50), none, .load true 2 (.tmp 8)),
   ((some 51), none, .load true 2 (.tmp 5)),
   ((some 52), none, .load true 2 (.tmp 6)),
   ((some 53), none, .call 20 [(.tmp 50), (.tmp 51), (.tmp 52)]),
   ((some 49), none, .mv (.tmp 53)),
   ((some 54), none, .extract (.tmp 49) 0),
   ((some 55), none, .extract (.tmp 49) 1),
   ((some 11), none, .alloc 35 2 (.agg [(.val (.slice none 0 0)), (.val (.slice none 0 0))])),
   (none, none, .store 2 (.tmp 11) (.tmp 54)),
   ((some 12), none, .mv (.tmp 55))])
 (.seq [5, 6, 8, 9, 10, 11, 12] (.block 0
  (.seq [5, 6, 8, 9, 10, 11, 12, 56] (.reg [((some 57), none, .mv (.tmp 9)),
    ((some 58), none, .bin .eql (.tmp 57) (.const (.int .i64 0))),
    ((some 56), none, .mv (.tmp 58))])
  (.cond (.tmp 56)
   (.seq [4] (.reg [((some 59), none, .mv (.tmp 12)),
     ((some 60), none, .bin .eql (.tmp 59) (.const (.int .i64 13))),
     ((some 61), none, .mv (.tmp 60)),
     ((some 62), (some (61, true)), .call 17 []),
     ((some 63), none, .pick (.tmp 61) (.tmp 62) (.const (.bool false))),
     ((some 4), none, .mv (.tmp 63))])
   (.ret))
   (.seq [5, 6, 8, 9, 10, 11, 12, 64] (.reg [((some 65), none, .mv (.tmp 9)),
     ((some 66), none, .mv (.tmp 10)),
     ((some 67), none, .bin .add (.tmp 65) (.tmp 66)),
     ((some 68), none, .bin .gtr (.tmp 67) (.const (.int .i64 4))),
     ((some 64), none, .mv (.tmp 68))])
   (.cond (.tmp 64)
    (.seq [4] (.reg [((some 69), none, .mv (.tmp 12)),
      ((some 70), none, .bin .eql (.tmp 69) (.const (.int .i64 9))),
      ((some 71), none, .mv (.tmp 70)),
      ((some 72), (some (71, true)), .call 17 []),
      ((some 73), none, .pick (.tmp 71) (.tmp 72) (.const (.bool false))),
      ((some 4), none, .mv (.tmp 73))])
    (.ret))
    (.skip))))))
 (.seq [5, 6, 8, 9, 10, 11] (.seq [5, 6, 8, 9, 10, 11, 92] (.reg [((some 74), none, .mv (.tmp 12)),
   ((some 75), none, .bin .neq (.tmp 74) (.const (.int .i64 0))),
   ((some 76), none, .mv (.tmp 75)),
   ((some 77), (some (76, false)), .load true 2 (.tmp 11)),
   ((some 78), (some (76, false)), .load true 2 (.tmp 5)),
   ((some 79), (some (76, false)), .call 13 [(.tmp 77), (.tmp 78)]),
   ((some 80), (some (76, false)), .len (.tmp 79)),
   ((some 81), (some (76, false)), .bin .neq (.tmp 80) (.const (.int .i64 0))),
   ((some 82), none, .pick (.tmp 76) (.const (.bool true)) (.tmp 81)),
   ((some 83), none, .mv (.tmp 82)),
   ((some 84), (some (83, false)), .load true 2 (.tmp 11)),
   ((some 85), (some (83, false)), .load true 2 (.tmp 6)),
   ((some 86), (some (83, false)), .call 13 [(.tmp 84), (.tmp 85)]),
   ((some 87), (some (83, false)), .len (.tmp 86)),
   ((some 88), (some (83, false)), .mv (.tmp 9)),
   ((some 89), (some (83, false)), .mv (.tmp 10)),
   ((some 90), (some (83, false)), .bin .add (.tmp 88) (.tmp 89)),
   ((some 91), (some (83, false)), .bin .neq (.tmp 87) (.tmp 90)),
   ((some 92), none, .pick (.tmp 83) (.const (.bool true)) (.tmp 91))])
 (.cond (.tmp 92)
  (.seq [4] (.reg [((some 4), none, .mv (.const (.bool false)))])
  (.ret))
  (.skip)))
 (.seq [5, 8, 9, 10, 12, 13] (.reg [((some 94), none, .load true 2 (.tmp 11)),
   ((some 95), none, .load true 2 (.tmp 6)),
   ((some 96), none, .load true 2 (.tmp 5)),
   ((some 97), none, .call 20 [(.tmp 94), (.tmp 95), (.tmp 96)]),
   ((some 93), none, .mv (.tmp 97)),
   ((some 98), none, .extract (.tmp 93) 0),
   ((some 99), none, .extract (.tmp 93) 1),
   ((some 13), none, .alloc 35 2 (.agg [(.val (.slice none 0 0)), (.val (.slice none 0 0))])),
   (none, none, .store 2 (.tmp 13) (.tmp 98)),
   ((some 12), none, .mv (.tmp 99))])
 (.seq [4] (.reg [((some 100), none, .mv (.tmp 12)),
   ((some 101), none, .bin .eql (.tmp 100) (.const (.int .i64 0))),
   ((some 102), none, .mv (.tmp 101)),
   ((some 103), (some (102, true)), .load true 2 (.tmp 13)),
   ((some 104), (some (102, true)), .load true 2 (.tmp 5)),
   ((some 105), (some (102, true)), .call 13 [(.tmp 103), (.tmp 104)]),
   ((some 106), (some (102, true)), .len (.tmp 105)),
   ((some 107), (some (102, true)), .mv (.tmp 9)),
   ((some 108), (some (102, true)), .mv (.tmp 10)),
   ((some 109), (some (102, true)), .bin .add (.tmp 107) (.tmp 108)),
   ((some 110), (some (102, true)), .bin .eql (.tmp 106) (.tmp 109)),
   ((some 111), none, .pick (.tmp 102) (.tmp 110) (.const (.bool false))),
   ((some 112), none, .mv (.tmp 111)),
   ((some 113), (some (112, true)), .load true 2 (.tmp 13)),
   ((some 114), (some (112, true)), .load true 2 (.tmp 8)),
   ((some 115), (some (112, true)), .call 19 [(.tmp 113), (.tmp 114)]),
   ((some 116), (some (112, true)), .mv (.tmp 10)),
   ((some 117), (some (112, true)), .bin .eql (.tmp 116) (.const (.int .i64 0))),
   ((some 118), (some (112, true)), .binb false (.tmp 115) (.tmp 117)),
   ((some 119), none, .pick (.tmp 112) (.tmp 118) (.const (.bool false))),
   ((some 120), none, .mv (.tmp 119)),
   ((some 121), (some (120, true)), .call 17 []),
   ((some 122), none, .pick (.tmp 120) (.tmp 121) (.const (.bool false))),
   ((some 4), none, .mv (.tmp 122))])
 (.ret))))))))))
theorem k7 : FnOK Try.prog 7 c7 [.tmp 4] 2 := ⟨by kernel_rfl, Try.f7, _, [], Try.func7, rfl, by kernel_rfl, by kernel_rfl, by decide⟩

-- (gansey/ganseylaw03.B).of
def c9 : Cmd :=
 .seq [0, 2] (.reg [((some 2), none, .alloc 31 80 (.agg (List.replicate 80 (.val (.slice none 0 0)))))])
 (.seq [0, 2, 3] (.reg [((some 3), none, .alloc 31 80 (.agg (List.replicate 80 (.val (.slice none 0 0)))))])
 (.seq [0, 2, 3, 4] (.reg [((some 4), none, .mv (.const (.int .i64 0)))])
 (.seq [2, 3] (.seq [0, 2, 3, 4, 5] (.reg [((some 5), none, .mv (.const (.int .i64 0)))])
 (.block 0
  (.loop [0, 2, 3, 4, 5]
   (.seq [0, 2, 3, 4, 5] (.seq [0, 2, 3, 4, 5, 15] (.reg [((some 8), none, .mv (.tmp 5)),
     ((some 9), none, .mv (.tmp 0)),
     ((some 10), none, .len (.tmp 9)),
     ((some 11), none, .bin .lss (.tmp 8) (.tmp 10)),
     ((some 12), none, .mv (.tmp 11)),
     ((some 13), (some (12, true)), .mv (.tmp 5)),
     ((some 14), (some (12, true)), .bin .lss (.tmp 13) (.const (.int .i64 40))),
     ((some 15), none, .pick (.tmp 12) (.tmp 14) (.const (.bool false)))])
   (.cond (.tmp 15)
    (.skip)
    (.exit 0)))
   (.seq [0, 2, 3, 4, 5] (.block 1
    (.seq [0, 2, 3, 4, 5, 6] (.reg [((some 18), none, .mv (.tmp 0)),
      ((some 19), none, .mv (.tmp 5)),
      ((some 20), none, .indexA 2 (.tmp 18) (.tmp 19)),
      ((some 21), none, .fieldA 0 1 false (.tmp 20)),
      ((some 22), none, .load false 1 (.tmp 21)),
      ((some 23), none, .bin .rem (.tmp 22) (.const (.int .u8 80))),
      ((some 6), none, .mv (.tmp 23))])
    (.seq [0, 2, 3, 4, 5, 6, 7] (.reg [((some 7), none, .mv (.const (.int .i64 0)))])
    (.block 2
     (.loop [0, 2, 3, 4, 5, 6, 7]
      (.seq [0, 2, 3, 4, 5, 6, 7] (.seq [0, 2, 3, 4, 5, 6, 7, 39] (.reg [((some 24), none, .mv (.tmp 7)),
        ((some 25), none, .mv (.tmp 0)),
        ((some 26), none, .mv (.tmp 5)),
        ((some 27), none, .indexA 2 (.tmp 25) (.tmp 26)),
        ((some 28), none, .fieldA 1 1 false (.tmp 27)),
        ((some 29), none, .load false 1 (.tmp 28)),
        ((some 30), none, .bin .rem (.tmp 29) (.const (.int .u8 5))),
        ((some 31), none, .convi .i64 (.tmp 30)),
        ((some 32), none, .bin .lss (.tmp 24) (.tmp 31)),
        ((some 33), none, .mv (.tmp 32)),
        ((some 34), (some (33, true)), .mv (.tmp 6)),
        ((some 35), (some (33, true)), .indexP 80 1 false (.tmp 3) (.tmp 34)),
        ((some 36), (some (33, true)), .load false 1 (.tmp 35)),
        ((some 37), (some (33, true)), .len (.tmp 36)),
        ((some 38), (some (33, true)), .bin .lss (.tmp 37) (.const (.int .i64 4))),
        ((some 39), none, .pick (.tmp 33) (.tmp 38) (.const (.bool false)))])
      (.cond (.tmp 39)
       (.skip)
       (.exit 2)))
      (.seq [0, 2, 3, 4, 5, 6, 7] (.block 3
       (.seq [0, 2, 3, 4, 5, 6, 7] (.reg [((some 42), none, .mv (.tmp 6)),
         ((some 43), none, .mv (.tmp 6)),
         ((some 44), none, .indexP 80 1 false (.tmp 3) (.tmp 43)),
         ((some 45), none, .load false 1 (.tmp 44)),
         ((some 46), none, .mv (.tmp 4)),
         ((some 47), none, .bin .rem (.tmp 46) (.const (.int .i64 3))),
         ((some 48), none, .convi .u8 (.tmp 47)),
         ((some 49), none, .bin .add (.const (.int .u8 1)) (.tmp 48)),
         ((some 50), none, .mv (.tmp 4)),
         ((some 51), none, .bin .quo (.tmp 50) (.const (.int .i64 3))),
         ((some 52), none, .build [(.val (.int .u8 0)), (.val (.int .i64 0))] [(0, 1, (.tmp 49)), (1, 1, (.tmp 51))]),
         ((some 53), none, .blist 2 [(.tmp 52)]),
         ((some 54), none, .append true 28 2 16 (.tmp 45) (.tmp 53)),
         ((some 55), none, .indexP 80 1 false (.tmp 3) (.tmp 42)),
         (none, none, .store 1 (.tmp 55) (.tmp 54))])
       (.reg [((some 56), none, .mv (.tmp 4)),
         ((some 57), none, .bin .add (.tmp 56) (.const (.int .i64 1))),
         ((some 4), none, .mv (.tmp 57))])))
      (.reg [((some 40), none, .mv (.tmp 7)),
        ((some 41), none, .bin .add (.tmp 40) (.const (.int .i64 1))),
        ((some 7), none, .mv (.tmp 41))]))))))))
   (.reg [((some 16), none, .mv (.tmp 5)),
     ((some 17), none, .bin .add (.tmp 16) (.const (.int .i64 1))),
     ((some 5), none, .mv (.tmp 17))]))))))
 (.seq [2] (.reg [((some 58), none, .load true 80 (.tmp 3)),
   (none, none, .store 80 (.tmp 2) (.tmp 58))])
 (.ret)))))
theorem k9 : FnOK Try.prog 9 c9 [.cell true 80 2] 1 := ⟨by kernel_rfl, Try.f9, _, [54], Try.func9, rfl, by kernel_rfl, by kernel_rfl, by decide⟩

-- (gansey/ganseylaw03.table).beds
def c10 : Cmd :=
 .seq [1, 2] (.reg [((some 1), none, .box 31 80 (.tmp 0)),
   ((some 2), none, .alloc 35 2 (.agg [(.val (.slice none 0 0)), (.val (.slice none 0 0))]))])
 (.seq [1, 2, 3] (.reg [((some 3), none, .alloc 35 2 (.agg [(.val (.slice none 0 0)), (.val (.slice none 0 0))]))])
 (.seq [1, 2, 3] (.seq [1, 2, 3, 4] (.reg [((some 4), none, .mv (.const (.int .i64 39)))])
 (.block 0
  (.loop [1, 2, 3, 4]
   (.seq [1, 2, 3, 4] (.seq [1, 2, 3, 4, 8] (.reg [((some 7), none, .mv (.tmp 4)),
     ((some 8), none, .bin .geq (.tmp 7) (.const (.int .i64 0)))])
   (.cond (.tmp 8)
    (.skip)
    (.exit 0)))
   (.seq [1, 2, 3, 4] (.block 1
    (.seq [1, 2, 3, 4] (.seq [1, 2, 3, 4, 21] (.reg [((some 11), none, .fieldA 0 1 false (.tmp 3)),
      ((some 12), none, .load false 1 (.tmp 11)),
      ((some 13), none, .len (.tmp 12)),
      ((some 14), none, .bin .eql (.tmp 13) (.const (.int .i64 0))),
      ((some 15), none, .mv (.tmp 14)),
      ((some 16), (some (15, true)), .mv (.tmp 4)),
      ((some 17), (some (15, true)), .indexP 80 1 false (.tmp 1) (.tmp 16)),
      ((some 18), (some (15, true)), .load false 1 (.tmp 17)),
      ((some 19), (some (15, true)), .len (.tmp 18)),
      ((some 20), (some (15, true)), .bin .gtr (.tmp 19) (.const (.int .i64 0))),
      ((some 21), none, .pick (.tmp 15) (.tmp 20) (.const (.bool false)))])
    (.cond (.tmp 21)
     (.reg [((some 22), none, .mv (.tmp 4)),
       ((some 23), none, .bin .add (.tmp 22) (.const (.int .i64 1))),
       ((some 24), none, .mkslice 29 1 24 (.val (.slice none 0 0)) (.tmp 23) (.tmp 23)),
       ((some 25), none, .fieldA 0 1 false (.tmp 3)),
       (none, none, .store 1 (.tmp 25) (.tmp 24))])
     (.skip)))
    (.seq [1, 2, 3, 4, 37] (.reg [((some 26), none, .fieldA 1 1 false (.tmp 3)),
      ((some 27), none, .load false 1 (.tmp 26)),
      ((some 28), none, .len (.tmp 27)),
      ((some 29), none, .bin .eql (.tmp 28) (.const (.int .i64 0))),
      ((some 30), none, .mv (.tmp 29)),
      ((some 31), (some (30, true)), .mv (.tmp 4)),
      ((some 32), (some (30, true)), .bin .add (.const (.int .i64 40)) (.tmp 31)),
      ((some 33), (some (30, true)), .indexP 80 1 false (.tmp 1) (.tmp 32)),
      ((some 34), (some (30, true)), .load false 1 (.tmp 33)),
      ((some 35), (some (30, true)), .len (.tmp 34)),
      ((some 36), (some (30, true)), .bin .gtr (.tmp 35) (.const (.int .i64 0))),
      ((some 37), none, .pick (.tmp 30) (.tmp 36) (.const (.bool false)))])
    (.cond (.tmp 37)
     (.reg [((some 38), none, .mv (.tmp 4)),
       ((some 39), none, .bin .add (.tmp 38) (.const (.int .i64 1))),
       ((some 40), none, .mkslice 29 1 24 (.val (.slice none 0 0)) (.tmp 39) (.tmp 39)),
       ((some 41), none, .fieldA 1 1 false (.tmp 3)),
       (none, none, .store 1 (.tmp 41) (.tmp 40))])
     (.skip)))))
   (.reg [((some 9), none, .mv (.tmp 4)),
     ((some 10), none, .bin .sub (.tmp 9) (.const (.int .i64 1))),
     ((some 4), none, .mv (.tmp 10))]))))))
 (.seq [1, 2, 3] (.seq [1, 2, 3, 5] (.reg [((some 5), none, .mv (.const (.int .i64 0)))])
 (.block 2
  (.loop [1, 2, 3, 5]
   (.seq [1, 2, 3, 5] (.seq [1, 2, 3, 5, 46] (.reg [((some 42), none, .mv (.tmp 5)),
     ((some 43), none, .fieldA 0 1 false (.tmp 3)),
     ((some 44), none, .load false 1 (.tmp 43)),
     ((some 45), none, .len (.tmp 44)),
     ((some 46), none, .bin .lss (.tmp 42) (.tmp 45))])
   (.cond (.tmp 46)
    (.skip)
    (.exit 2)))
   (.seq [1, 2, 3, 5] (.block 3
    (.dreg [] [((some 49), none, .fieldA 0 1 false (.tmp 3)),
      ((some 50), none, .load false 1 (.tmp 49)),
      ((some 51), none, .mv (.tmp 5)),
      ((some 52), none, .blist 2 []),
      ((some 53), none, .mv (.tmp 5)),
      ((some 54), none, .indexP 80 1 false (.tmp 1) (.tmp 53)),
      ((some 55), none, .load false 1 (.tmp 54)),
      ((some 56), none, .append false 28 2 16 (.tmp 52) (.tmp 55))]
     [((some 57), none, .indexA 1 (.tmp 50) (.tmp 51)),
      (none, none, .store 1 (.tmp 57) (.tmp 56))]))
   (.reg [((some 47), none, .mv (.tmp 5)),
     ((some 48), none, .bin .add (.tmp 47) (.const (.int .i64 1))),
     ((some 5), none, .mv (.tmp 48))]))))))
 (.seq [2, 3] (.seq [1, 2, 3, 6] (.reg [((some 6), none, .mv (.const (.int .i64 0)))])
 (.block 4
  (.loop [1, 2, 3, 6]
   (.seq [1, 2, 3, 6] (.seq [1, 2, 3, 6, 62] (.reg [((some 58), none, .mv (.tmp 6)),
     ((some 59), none, .fieldA 1 1 false (.tmp 3)),
     ((some 60), none, .load false 1 (.tmp 59)),
     ((some 61), none, .len (.tmp 60)),
     ((some 62), none, .bin .lss (.tmp 58) (.tmp 61))])
   (.cond (.tmp 62)
    (.skip)
    (.exit 4)))
   (.seq [1, 2, 3, 6] (.block 5
    (.dreg [] [((some 65), none, .fieldA 1 1 false (.tmp 3)),
      ((some 66), none, .load false 1 (.tmp 65)),
      ((some 67), none, .mv (.tmp 6)),
      ((some 68), none, .blist 2 []),
      ((some 69), none, .mv (.tmp 6)),
      ((some 70), none, .bin .add (.const (.int .i64 40)) (.tmp 69)),
      ((some 71), none, .indexP 80 1 false (.tmp 1) (.tmp 70)),
      ((some 72), none, .load false 1 (.tmp 71)),
      ((some 73), none, .append false 28 2 16 (.tmp 68) (.tmp 72))]
     [((some 74), none, .indexA 1 (.tmp 66) (.tmp 67)),
      (none, none, .store 1 (.tmp 74) (.tmp 73))]))
   (.reg [((some 63), none, .mv (.tmp 6)),
     ((some 64), none, .bin .add (.tmp 63) (.const (.int .i64 1))),
     ((some 6), none, .mv (.tmp 64))]))))))
 (.seq [2] (.reg [((some 75), none, .load true 2 (.tmp 3)),
   (none, none, .store 2 (.tmp 2) (.tmp 75))])
 (.ret))))))
theorem k10 : FnOK Try.prog 10 c10 [.cell true 2 2] 1 := ⟨by kernel_rfl, Try.f10, _, [], Try.func10, rfl, by kernel_rfl, by kernel_rfl, by decide⟩

-- gansey/stacks.Check
def c11 : Cmd :=
 .seq [1, 2] (.reg [((some 1), none, .box 35 2 (.tmp 0)),
   ((some 2), none, .alloc 37 1 (.val (.int .i64 0)))])
 (.seq [1, 2] (.seq [1, 2, 15] (.reg [((some 6), none, .fieldA 0 1 false (.tmp 1)),
   ((some 7), none, .load false 1 (.tmp 6)),
   ((some 8), none, .len (.tmp 7)),
   ((some 9), none, .bin .gtr (.tmp 8) (.const (.int .i64 40))),
   ((some 10), none, .mv (.tmp 9)),
   ((some 11), (some (10, false)), .fieldA 1 1 false (.tmp 1)),
   ((some 12), (some (10, false)), .load false 1 (.tmp 11)),
   ((some 13), (some (10, false)), .len (.tmp 12)),
   ((some 14), (some (10, false)), .bin .gtr (.tmp 13) (.const (.int .i64 40))),
   ((some 15), none, .pick (.tmp 10) (.const (.bool true)) (.tmp 14))])
 (.cond (.tmp 15)
  (.seq [2] (.reg [(none, none, .store 1 (.tmp 2) (.const (.int .i64 9)))])
  (.ret))
  (.skip)))
 (.seq [1, 2] (.seq [1, 2, 17] (.reg [((some 16), none, .load true 2 (.tmp 1)),
   ((some 17), none, .call 26 [(.tmp 16)])])
 (.block 0
  (.range (.tmp 17) [18, 19] (.reg [((some 4), none, .mv (.tmp 19))])
  (.block 1
   (.seq [1, 2, 22] (.reg [((some 20), none, .mv (.tmp 4)),
     ((some 21), none, .len (.tmp 20)),
     ((some 22), none, .bin .gtr (.tmp 21) (.const (.int .i64 4)))])
   (.cond (.tmp 22)
    (.seq [1, 2] (.reg [(none, none, .store 1 (.tmp 2) (.const (.int .i64 9)))])
    (.ret))
    (.skip)))))))
 (.seq [2, 5] (.reg [((some 23), none, .load true 2 (.tmp 1)),
   ((some 24), none, .call 27 [(.tmp 23)]),
   ((some 5), none, .mv (.tmp 24))])
 (.seq [2] (.block 2
  (.seq [2, 5, 25] (.reg [((some 26), none, .mv (.tmp 5)),
    ((some 27), none, .call 28 [(.tmp 26), (.func 29)]),
    ((some 25), none, .mv (.tmp 27))])
  (.cond (.tmp 25)
   (.seq [2] (.reg [(none, none, .store 1 (.tmp 2) (.const (.int .i64 1)))])
   (.ret))
   (.seq [2, 28] (.reg [((some 29), none, .mv (.tmp 5)),
     ((some 30), none, .call 31 [(.tmp 29)]),
     ((some 28), none, .mv (.tmp 30))])
   (.cond (.tmp 28)
    (.seq [2] (.reg [(none, none, .store 1 (.tmp 2) (.const (.int .i64 8)))])
    (.ret))
    (.skip))))))
 (.seq [2] (.reg [(none, none, .store 1 (.tmp 2) (.const (.int .i64 0)))])
 (.ret))))))
theorem k11 : FnOK Try.prog 11 c11 [.cell false 1 2] 1 := ⟨by kernel_rfl, Try.f11, _, [], Try.func11, rfl, by kernel_rfl, by kernel_rfl, by decide⟩

-- (gansey/ganseylaw03.table).differs
def c12 : Cmd :=
 .seq [2, 3] (.reg [((some 2), none, .box 31 80 (.tmp 0)),
   ((some 3), none, .box 35 2 (.tmp 1)),
   ((some 4), none, .mv (.const (.int .i64 0)))])
 (.seq [2, 3, 5] (.reg [((some 5), none, .mv (.const (.int .i64 0)))])
 (.seq [3, 5] (.seq [2, 3, 5, 6] (.reg [((some 6), none, .mv (.const (.int .i64 0)))])
 (.block 0
  (.loop [2, 3, 5, 6]
   (.seq [2, 3, 5, 6] (.seq [2, 3, 5, 6, 10] (.reg [((some 9), none, .mv (.tmp 6)),
     ((some 10), none, .bin .lss (.tmp 9) (.const (.int .i64 80)))])
   (.cond (.tmp 10)
    (.skip)
    (.exit 0)))
   (.seq [2, 3, 5, 6] (.block 1
    (.seq [2, 3, 5, 6, 28] (.dreg [22] [((some 13), none, .load true 2 (.tmp 3)),
      ((some 14), none, .mv (.tmp 6)),
      ((some 15), none, .convi .u8 (.tmp 14)),
      ((some 16), none, .call 14 [(.tmp 15)]),
      ((some 17), none, .call 13 [(.tmp 13), (.tmp 16)]),
      ((some 18), none, .mv (.tmp 6)),
      ((some 19), none, .indexP 80 1 false (.tmp 2) (.tmp 18)),
      ((some 20), none, .load false 1 (.tmp 19)),
      ((some 21), none, .len (.tmp 20)),
      ((some 22), none, .mkslice 28 2 16 (.agg [(.val (.int .u8 0)), (.val (.int .i64 0))]) (.const (.int .i64 0)) (.tmp 21)),
      ((some 23), none, .mv (.tmp 6)),
      ((some 24), none, .indexP 80 1 false (.tmp 2) (.tmp 23)),
      ((some 25), none, .load false 1 (.tmp 24)),
      ((some 26), none, .append false 28 2 16 (.tmp 22) (.tmp 25)),
      ((some 27), none, .call 21 [(.tmp 17), (.tmp 26)]),
      ((some 28), none, .bin .eql (.tmp 27) (.const (.int .i64 0)))]
     [])
    (.cond (.tmp 28)
     (.reg [((some 29), none, .mv (.tmp 5)),
       ((some 30), none, .bin .add (.tmp 29) (.const (.int .i64 1))),
       ((some 5), none, .mv (.tmp 30))])
     (.skip))))
   (.reg [((some 11), none, .mv (.tmp 6)),
     ((some 12), none, .bin .add (.tmp 11) (.const (.int .i64 1))),
     ((some 6), none, .mv (.tmp 12))]))))))
 (.seq [3, 5] (.seq [3, 5, 7] (.reg [((some 31), none, .fieldA 0 1 false (.tmp 3)),
   ((some 32), none, .load false 1 (.tmp 31)),
   ((some 33), none, .len (.tmp 32)),
   ((some 7), none, .mv (.tmp 33))])
 (.seq [3, 5, 52] (.reg [((some 34), none, .mv (.tmp 7)),
   ((some 35), none, .bin .gtr (.tmp 34) (.const (.int .i64 0))),
   ((some 36), none, .mv (.tmp 35)),
   ((some 37), (some (36, true)), .fieldA 0 1 false (.tmp 3)),
   ((some 38), (some (36, true)), .load false 1 (.tmp 37)),
   ((some 39), (some (36, true)), .mv (.tmp 7)),
   ((some 40), (some (36, true)), .bin .sub (.tmp 39) (.const (.int .i64 1))),
   ((some 41), (some (36, true)), .indexA 1 (.tmp 38) (.tmp 40)),
   ((some 42), (some (36, true)), .load false 1 (.tmp 41)),
   ((some 43), (some (36, true)), .len (.tmp 42)),
   ((some 44), (some (36, true)), .bin .eql (.tmp 43) (.const (.int .i64 0))),
   ((some 45), none, .pick (.tmp 36) (.tmp 44) (.const (.bool false))),
   ((some 46), none, .mv (.tmp 45)),
   ((some 47), (some (46, false)), .fieldA 0 1 false (.tmp 3)),
   ((some 48), (some (46, false)), .load false 1 (.tmp 47)),
   ((some 49), (some (46, false)), .cap (.tmp 48)),
   ((some 50), (some (46, false)), .mv (.tmp 7)),
   ((some 51), (some (46, false)), .bin .neq (.tmp 49) (.tmp 50)),
   ((some 52), none, .pick (.tmp 46) (.const (.bool true)) (.tmp 51))])
 (.cond (.tmp 52)
  (.reg [((some 53), none, .mv (.tmp 5)),
    ((some 54), none, .bin .add (.tmp 53) (.const (.int .i64 1))),
    ((some 5), none, .mv (.tmp 54))])
  (.skip))))
 (.seq [5] (.seq [3, 5, 8] (.reg [((some 55), none, .fieldA 1 1 false (.tmp 3)),
   ((some 56), none, .load false 1 (.tmp 55)),
   ((some 57), none, .len (.tmp 56)),
   ((some 8), none, .mv (.tmp 57))])
 (.seq [5, 76] (.reg [((some 58), none, .mv (.tmp 8)),
   ((some 59), none, .bin .gtr (.tmp 58) (.const (.int .i64 0))),
   ((some 60), none, .mv (.tmp 59)),
   ((some 61), (some (60, true)), .fieldA 1 1 false (.tmp 3)),
   ((some 62), (some (60, true)), .load false 1 (.tmp 61)),
   ((some 63), (some (60, true)), .mv (.tmp 8)),
   ((some 64), (some (60, true)), .bin .sub (.tmp 63) (.const (.int .i64 1))),
   ((some 65), (some (60, true)), .indexA 1 (.tmp 62) (.tmp 64)),
   ((some 66), (some (60, true)), .load false 1 (.tmp 65)),
   ((some 67), (some (60, true)), .len (.tmp 66)),
   ((some 68), (some (60, true)), .bin .eql (.tmp 67) (.const (.int .i64 0))),
   ((some 69), none, .pick (.tmp 60) (.tmp 68) (.const (.bool false))),
   ((some 70), none, .mv (.tmp 69)),
   ((some 71), (some (70, false)), .fieldA 1 1 false (.tmp 3)),
   ((some 72), (some (70, false)), .load false 1 (.tmp 71)),
   ((some 73), (some (70, false)), .cap (.tmp 72)),
   ((some 74), (some (70, false)), .mv (.tmp 8)),
   ((some 75), (some (70, false)), .bin .neq (.tmp 73) (.tmp 74)),
   ((some 76), none, .pick (.tmp 70) (.const (.bool true)) (.tmp 75))])
 (.cond (.tmp 76)
  (.reg [((some 77), none, .mv (.tmp 5)),
    ((some 78), none, .bin .add (.tmp 77) (.const (.int .i64 1))),
    ((some 5), none, .mv (.tmp 78))])
  (.skip))))
 (.seq [4] (.reg [((some 79), none, .mv (.tmp 5)),
   ((some 4), none, .mv (.tmp 79))])
 (.ret))))))
theorem k12 : FnOK Try.prog 12 c12 [.tmp 4] 2 := ⟨by kernel_rfl, Try.f12, _, [], Try.func12, rfl, by kernel_rfl, by kernel_rfl, by decide⟩

-- gansey/stacks.At
def c13 : Cmd :=
 .seq [2, 3] (.reg [((some 2), none, .box 35 2 (.tmp 0)),
   ((some 3), none, .box 26 2 (.tmp 1)),
   ((some 4), none, .mv (.const (.slice none 0 0)))])
 (.seq [2, 3] (.seq [2, 3, 8] (.reg [((some 6), none, .load true 2 (.tmp 3)),
   ((some 7), none, .call 32 [(.tmp 6)]),
   ((some 8), none, .bin .neq (.tmp 7) (.const (.int .i64 0)))])
 (.cond (.tmp 8)
  (.seq [4] (.reg [((some 4), none, .mv (.const (.slice none 0 0)))])
  (.ret))
  (.skip)))
 (.seq [2, 3, 5] (.reg [((some 9), none, .fieldA 0 1 false (.tmp 2)),
   ((some 10), none, .load false 1 (.tmp 9)),
   ((some 5), none, .mv (.tmp 10))])
 (.seq [3, 5] (.seq [2, 3, 5, 13] (.reg [((some 11), none, .fieldA 0 1 false (.tmp 3)),
   ((some 12), none, .load false 1 (.tmp 11)),
   ((some 13), none, .bin .eql (.tmp 12) (.const (.int .u8 1)))])
 (.cond (.tmp 13)
  (.reg [((some 14), none, .fieldA 1 1 false (.tmp 2)),
    ((some 15), none, .load false 1 (.tmp 14)),
    ((some 5), none, .mv (.tmp 15))])
  (.skip)))
 (.seq [4] (.reg [((some 16), none, .mv (.tmp 5)),
   ((some 17), none, .fieldA 1 1 false (.tmp 3)),
   ((some 18), none, .load false 1 (.tmp 17)),
   ((some 19), none, .bin .sub (.tmp 18) (.const (.int .i64 1))),
   ((some 20), none, .call 35 [(.tmp 16), (.tmp 19)]),
   ((some 21), none, .call 34 [(.tmp 20)]),
   ((some 22), none, .call 33 [(.tmp 21)]),
   ((some 4), none, .mv (.tmp 22))])
 (.ret)))))
theorem k13 : FnOK Try.prog 13 c13 [.tmp 4] 2 := ⟨by kernel_rfl, Try.f13, _, [], Try.func13, rfl, by kernel_rfl, by kernel_rfl, by decide⟩

-- gansey/ganseylaw03.Needle
def c14 : Cmd :=
 .seq [0, 2] (.reg [((some 2), none, .alloc 26 2 (.agg [(.val (.int .u8 0)), (.val (.int .i64 0))]))])
 (.seq [2] (.reg [((some 3), none, .mv (.tmp 0)),
   ((some 4), none, .bin .rem (.tmp 3) (.const (.int .u8 80))),
   ((some 5), none, .bin .quo (.tmp 4) (.const (.int .u8 40))),
   ((some 6), none, .mv (.tmp 0)),
   ((some 7), none, .bin .rem (.tmp 6) (.const (.int .u8 40))),
   ((some 8), none, .convi .i64 (.tmp 7)),
   ((some 9), none, .bin .add (.const (.int .i64 1)) (.tmp 8)),
   ((some 10), none, .build [(.val (.int .u8 0)), (.val (.int .i64 0))] [(0, 1, (.tmp 5)), (1, 1, (.tmp 9))]),
   (none, none, .store 2 (.tmp 2) (.tmp 10))])
 (.ret))
theorem k14 : FnOK Try.prog 14 c14 [.cell true 2 2] 1 := ⟨by kernel_rfl, Try.f14, _, [], Try.func14, rfl, by kernel_rfl, by kernel_rfl, by decide⟩

-- gansey/stacks.Find
def c15 : Cmd :=
 .seq [2, 3, 4, 5] (.reg [((some 2), none, .box 35 2 (.tmp 0)),
   ((some 3), none, .box 28 2 (.tmp 1)),
   ((some 4), none, .alloc 26 2 (.agg [(.val (.int .u8 0)), (.val (.int .i64 0))])),
   ((some 5), none, .alloc 37 1 (.val (.int .i64 0)))])
 (.seq [4, 5] (.seq [3, 4, 5, 9] (.reg [((some 8), none, .load true 2 (.tmp 2)),
   ((some 9), none, .call 26 [(.tmp 8)])])
 (.block 0
  (.range (.tmp 9) [10, 11] (.seq [3, 4, 5, 6, 11] (.reg [((some 6), none, .alloc 26 2 (.agg [(.val (.int .u8 0)), (.val (.int .i64 0))])),
    (none, none, .store 2 (.tmp 6) (.tmp 10))])
  (.reg [((some 7), none, .mv (.tmp 11))]))
  (.block 1
   (.seq [4, 5, 6, 14] (.reg [((some 12), none, .mv (.tmp 7)),
     ((some 13), none, .load true 2 (.tmp 3)),
     ((some 14), none, .call 36 [(.tmp 12), (.tmp 13)])])
   (.cond (.tmp 14)
    (.seq [4, 5] (.reg [((some 15), none, .load true 2 (.tmp 6)),
      (none, none, .store 2 (.tmp 4) (.tmp 15)),
      (none, none, .store 1 (.tmp 5) (.const (.int .i64 0)))])
    (.ret))
    (.skip)))))))
 (.seq [4, 5] (.reg [((some 16), none, .build [(.val (.int .u8 0)), (.val (.int .i64 0))] []),
   (none, none, .store 2 (.tmp 4) (.tmp 16)),
   (none, none, .store 1 (.tmp 5) (.const (.int .i64 7)))])
 (.ret)))
theorem k15 : FnOK Try.prog 15 c15 [.cell true 2 4, .cell false 1 5] 2 := ⟨by kernel_rfl, Try.f15, _, [], Try.func15, rfl, by kernel_rfl, by kernel_rfl, by decide⟩

-- gansey/stacks.Count
def c16 : Cmd :=
 .seq [1] (.reg [((some 1), none, .box 35 2 (.tmp 0)),
   ((some 2), none, .mv (.const (.int .i64 0)))])
 (.seq [2] (.reg [((some 3), none, .load true 2 (.tmp 1)),
   ((some 4), none, .call 27 [(.tmp 3)]),
   ((some 5), none, .len (.tmp 4)),
   ((some 2), none, .mv (.tmp 5))])
 (.ret))
theorem k16 : FnOK Try.prog 16 c16 [.tmp 2] 1 := ⟨by kernel_rfl, Try.f16, _, [], Try.func16, rfl, by kernel_rfl, by kernel_rfl, by decide⟩

-- gansey/ganseylaw03.lives
def c17 : Cmd :=
 .seq [] (.reg [((some 0), none, .mv (.const (.bool false)))])
 (.seq [1, 2, 3] (.reg [((some 17), none, .build [(.val (.int .u8 0)), (.val (.int .i64 0))] [(0, 1, (.const (.int .u8 1)))]),
   ((some 18), none, .build [(.val (.int .u8 0)), (.val (.int .i64 0))] [(0, 1, (.const (.int .u8 1))), (1, 1, (.const (.int .i64 1)))]),
   ((some 19), none, .build [(.val (.int .u8 0)), (.val (.int .i64 0))] [(0, 1, (.const (.int .u8 2)))]),
   ((some 1), none, .alloc 28 2 (.agg [(.val (.int .u8 0)), (.val (.int .i64 0))])),
   ((some 2), none, .alloc 28 2 (.agg [(.val (.int .u8 0)), (.val (.int .i64 0))])),
   ((some 3), none, .alloc 28 2 (.agg [(.val (.int .u8 0)), (.val (.int .i64 0))])),
   (none, none, .store 2 (.tmp 1) (.tmp 17)),
   (none, none, .store 2 (.tmp 2) (.tmp 18)),
   (none, none, .store 2 (.tmp 3) (.tmp 19))])
 (.seq [1, 2, 3, 4] (.reg [((some 20), none, .load true 2 (.tmp 1)),
   ((some 21), none, .load true 2 (.tmp 2)),
   ((some 22), none, .blist 2 [(.tmp 20), (.tmp 21)]),
   ((some 23), none, .blist 1 [(.const (.slice none 0 0)), (.tmp 22)]),
   ((some 24), none, .load true 2 (.tmp 3)),
   ((some 25), none, .blist 2 [(.tmp 24)]),
   ((some 26), none, .blist 1 [(.const (.slice none 0 0)), (.tmp 25)]),
   ((some 27), none, .build [(.val (.slice none 0 0)), (.val (.slice none 0 0))] [(0, 1, (.tmp 23)), (1, 1, (.tmp 26))]),
   ((some 4), none, .alloc 35 2 (.agg [(.val (.slice none 0 0)), (.val (.slice none 0 0))])),
   (none, none, .store 2 (.tmp 4) (.tmp 27))])
 (.seq [1, 2, 3, 4, 5, 6, 7] (.reg [((some 28), none, .build [(.val (.int .u8 0)), (.val (.int .i64 0))] [(1, 1, (.const (.int .i64 1)))]),
   ((some 29), none, .build [(.val (.int .u8 0)), (.val (.int .i64 0))] [(1, 1, (.const (.int .i64 2)))]),
   ((some 30), none, .build [(.val (.int .u8 0)), (.val (.int .i64 0))] [(0, 1, (.const (.int .u8 1))), (1, 1, (.const (.int .i64 2)))]),
   ((some 5), none, .alloc 26 2 (.agg [(.val (.int .u8 0)), (.val (.int .i64 0))])),
   ((some 6), none, .alloc 26 2 (.agg [(.val (.int .u8 0)), (.val (.int .i64 0))])),
   ((some 7), none, .alloc 26 2 (.agg [(.val (.int .u8 0)), (.val (.int .i64 0))])),
   (none, none, .store 2 (.tmp 5) (.tmp 28)),
   (none, none, .store 2 (.tmp 6) (.tmp 29)),
   (none, none, .store 2 (.tmp 7) (.tmp 30))])
 (.seq [1, 2, 3, 4, 5, 6, 7, 8, 9] (.reg [((some 32), none, .load true 2 (.tmp 4)),
   ((some 33), none, .load true 2 (.tmp 3)),
   ((some 34), none, .call 15 [(.tmp 32), (.tmp 33)]),
   ((some 31), none, .mv (.tmp 34)),
   ((some 35), none, .extract (.tmp 31) 0),
   ((some 36), none, .extract (.tmp 31) 1),
   ((some 8), none, .alloc 26 2 (.agg [(.val (.int .u8 0)), (.val (.int .i64 0))])),
   (none, none, .store 2 (.tmp 8) (.tmp 35)),
   ((some 9), none, .mv (.tmp 36))])
 (.seq [1, 2, 3, 4, 5, 6, 7] (.seq [1, 2, 3, 4, 5, 6, 7, 67] (.reg [((some 37), none, .load true 2 (.tmp 4)),
   ((some 38), none, .call 11 [(.tmp 37)]),
   ((some 39), none, .bin .neq (.tmp 38) (.const (.int .i64 0))),
   ((some 40), none, .mv (.tmp 39)),
   ((some 41), (some (40, false)), .load true 2 (.tmp 4)),
   ((some 42), (some (40, false)), .load true 2 (.tmp 6)),
   ((some 43), (some (40, false)), .call 13 [(.tmp 41), (.tmp 42)]),
   ((some 44), (some (40, false)), .len (.tmp 43)),
   ((some 45), (some (40, false)), .bin .neq (.tmp 44) (.const (.int .i64 2))),
   ((some 46), none, .pick (.tmp 40) (.const (.bool true)) (.tmp 45)),
   ((some 47), none, .mv (.tmp 46)),
   ((some 48), (some (47, false)), .load true 2 (.tmp 4)),
   ((some 49), (some (47, false)), .load true 2 (.tmp 5)),
   ((some 50), (some (47, false)), .call 13 [(.tmp 48), (.tmp 49)]),
   ((some 51), (some (47, false)), .len (.tmp 50)),
   ((some 52), (some (47, false)), .bin .neq (.tmp 51) (.const (.int .i64 0))),
   ((some 53), none, .pick (.tmp 47) (.const (.bool true)) (.tmp 52)),
   ((some 54), none, .mv (.tmp 53)),
   ((some 55), (some (54, false)), .load true 2 (.tmp 4)),
   ((some 56), (some (54, false)), .call 16 [(.tmp 55)]),
   ((some 57), (some (54, false)), .bin .neq (.tmp 56) (.const (.int .i64 3))),
   ((some 58), none, .pick (.tmp 54) (.const (.bool true)) (.tmp 57)),
   ((some 59), none, .mv (.tmp 58)),
   ((some 60), (some (59, false)), .load true 2 (.tmp 8)),
   ((some 61), (some (59, false)), .load true 2 (.tmp 7)),
   ((some 62), (some (59, false)), .eqagg true [true, true] (.tmp 60) (.tmp 61)),
   ((some 63), none, .pick (.tmp 59) (.const (.bool true)) (.tmp 62)),
   ((some 64), none, .mv (.tmp 63)),
   ((some 65), (some (64, false)), .mv (.tmp 9)),
   ((some 66), (some (64, false)), .bin .neq (.tmp 65) (.const (.int .i64 0))),
   ((some 67), none, .pick (.tmp 64) (.const (.bool true)) (.tmp 66))])
 (.cond (.tmp 67)
  (.seq [0] (.reg [((some 0), none, .mv (.const (.bool false)))])
  (.ret))
  (.skip)))
 (.seq [1, 2, 3, 4, 5, 6, 7, 9, 10] (.reg [((some 69), none, .load true 2 (.tmp 4)),
   ((some 70), none, .load true 2 (.tmp 6)),
   ((some 71), none, .load true 2 (.tmp 7)),
   ((some 72), none, .call 20 [(.tmp 69), (.tmp 70), (.tmp 71)]),
   ((some 68), none, .mv (.tmp 72)),
   ((some 73), none, .extract (.tmp 68) 0),
   ((some 74), none, .extract (.tmp 68) 1),
   ((some 10), none, .alloc 35 2 (.agg [(.val (.slice none 0 0)), (.val (.slice none 0 0))])),
   (none, none, .store 2 (.tmp 10) (.tmp 73)),
   ((some 9), none, .mv (.tmp 74))])
 (.seq [1, 2, 3, 4, 5, 6, 7, 9, 10, 11, 12] (.reg [((some 76), none, .load true 2 (.tmp 4)),
   ((some 77), none, .load true 2 (.tmp 7)),
   ((some 78), none, .load true 2 (.tmp 6)),
   ((some 79), none, .call 20 [(.tmp 76), (.tmp 77), (.tmp 78)]),
   ((some 75), none, .mv (.tmp 79)),
   ((some 80), none, .extract (.tmp 75) 0),
   ((some 81), none, .extract (.tmp 75) 1),
   ((some 11), none, .alloc 35 2 (.agg [(.val (.slice none 0 0)), (.val (.slice none 0 0))])),
   (none, none, .store 2 (.tmp 11) (.tmp 80)),
   ((some 12), none, .mv (.tmp 81))])
 (.seq [1, 2, 3, 4, 5, 6, 7, 9, 10, 11, 12, 14] (.reg [((some 83), none, .load true 2 (.tmp 4)),
   ((some 84), none, .load true 2 (.tmp 5)),
   ((some 85), none, .build [(.val (.int .u8 0)), (.val (.int .i64 0))] [(0, 1, (.const (.int .u8 1))), (1, 1, (.const (.int .i64 1)))]),
   ((some 86), none, .call 20 [(.tmp 83), (.tmp 84), (.tmp 85)]),
   ((some 82), none, .mv (.tmp 86)),
   ((some 87), none, .extract (.tmp 82) 0),
   ((some 88), none, .extract (.tmp 82) 1),
   ((some 13), none, .alloc 35 2 (.agg [(.val (.slice none 0 0)), (.val (.slice none 0 0))])),
   (none, none, .store 2 (.tmp 13) (.tmp 87)),
   ((some 14), none, .mv (.tmp 88))])
 (.seq [1, 2, 3, 4, 5, 6, 7, 9, 10, 11, 12, 14, 16] (.reg [((some 90), none, .load true 2 (.tmp 4)),
   ((some 91), none, .load true 2 (.tmp 6)),
   ((some 92), none, .build [(.val (.int .u8 0)), (.val (.int .i64 0))] [(1, 1, (.const (.int .i64 3)))]),
   ((some 93), none, .call 20 [(.tmp 90), (.tmp 91), (.tmp 92)]),
   ((some 89), none, .mv (.tmp 93)),
   ((some 94), none, .extract (.tmp 89) 0),
   ((some 95), none, .extract (.tmp 89) 1),
   ((some 15), none, .alloc 35 2 (.agg [(.val (.slice none 0 0)), (.val (.slice none 0 0))])),
   (none, none, .store 2 (.tmp 15) (.tmp 94)),
   ((some 16), none, .mv (.tmp 95))])
 (.seq [2, 3, 4, 5, 6, 10] (.seq [2, 3, 4, 5, 6, 10, 137] (.dreg [] [((some 96), none, .mv (.tmp 9)),
   ((some 97), none, .bin .neq (.tmp 96) (.const (.int .i64 0))),
   ((some 98), none, .mv (.tmp 97)),
   ((some 99), (some (98, false)), .mv (.tmp 12)),
   ((some 100), (some (98, false)), .bin .neq (.tmp 99) (.const (.int .i64 0))),
   ((some 101), none, .pick (.tmp 98) (.const (.bool true)) (.tmp 100)),
   ((some 102), none, .mv (.tmp 101)),
   ((some 103), (some (102, false)), .mv (.tmp 14)),
   ((some 104), (some (102, false)), .bin .neq (.tmp 103) (.const (.int .i64 13))),
   ((some 105), none, .pick (.tmp 102) (.const (.bool true)) (.tmp 104)),
   ((some 106), none, .mv (.tmp 105)),
   ((some 107), (some (106, false)), .mv (.tmp 16)),
   ((some 108), (some (106, false)), .bin .neq (.tmp 107) (.const (.int .i64 1))),
   ((some 109), none, .pick (.tmp 106) (.const (.bool true)) (.tmp 108)),
   ((some 110), none, .mv (.tmp 109)),
   ((some 111), (some (110, false)), .load true 2 (.tmp 10)),
   ((some 112), (some (110, false)), .load true 2 (.tmp 7)),
   ((some 113), (some (110, false)), .call 13 [(.tmp 111), (.tmp 112)]),
   ((some 114), (some (110, false)), .load true 2 (.tmp 3)),
   ((some 115), (some (110, false)), .load true 2 (.tmp 1)),
   ((some 116), (some (110, false)), .load true 2 (.tmp 2)),
   ((some 117), (some (110, false)), .blist 2 [(.tmp 114), (.tmp 115), (.tmp 116)]),
   ((some 118), (some (110, false)), .call 21 [(.tmp 113), (.tmp 117)]),
   ((some 119), (some (110, false)), .bin .eql (.tmp 118) (.const (.int .i64 0))),
   ((some 120), none, .pick (.tmp 110) (.const (.bool true)) (.tmp 119)),
   ((some 121), none, .mv (.tmp 120)),
   ((some 122), (some (121, false)), .fieldA 0 1 false (.tmp 10)),
   ((some 123), (some (121, false)), .load false 1 (.tmp 122)),
   ((some 124), (some (121, false)), .len (.tmp 123)),
   ((some 125), (some (121, false)), .bin .neq (.tmp 124) (.const (.int .i64 0))),
   ((some 126), none, .pick (.tmp 121) (.const (.bool true)) (.tmp 125)),
   ((some 127), none, .mv (.tmp 126)),
   ((some 128), (some (127, false)), .load true 2 (.tmp 11)),
   ((some 129), (some (127, false)), .load true 2 (.tmp 6)),
   ((some 130), (some (127, false)), .call 13 [(.tmp 128), (.tmp 129)]),
   ((some 131), (some (127, false)), .load true 2 (.tmp 3)),
   ((some 132), (some (127, false)), .load true 2 (.tmp 1)),
   ((some 133), (some (127, false)), .load true 2 (.tmp 2)),
   ((some 134), (some (127, false)), .blist 2 [(.tmp 131), (.tmp 132), (.tmp 133)]),
   ((some 135), (some (127, false)), .call 21 [(.tmp 130), (.tmp 134)]),
   ((some 136), (some (127, false)), .bin .eql (.tmp 135) (.const (.int .i64 0))),
   ((some 137), none, .pick (.tmp 127) (.const (.bool true)) (.tmp 136))]
  [])
 (.cond (.tmp 137)
  (.seq [0] (.reg [((some 0), none, .mv (.const (.bool false)))])
  (.ret))
  (.skip)))
 (.seq [2, 4, 6, 9, 10] (.reg [((some 139), none, .load true 2 (.tmp 4)),
   ((some 140), none, .load true 2 (.tmp 5)),
   ((some 141), none, .load true 2 (.tmp 3)),
   ((some 142), none, .blist 2 [(.tmp 141)]),
   ((some 143), none, .call 18 [(.tmp 139), (.tmp 140), (.tmp 142)]),
   ((some 138), none, .mv (.tmp 143)),
   ((some 144), none, .extract (.tmp 138) 0),
   ((some 145), none, .extract (.tmp 138) 1),
   ((some 9), none, .mv (.tmp 145))])
 (.seq [2, 6, 9, 10, 12] (.reg [((some 147), none, .load true 2 (.tmp 4)),
   ((some 148), none, .load true 2 (.tmp 6)),
   ((some 149), none, .load true 2 (.tmp 2)),
   ((some 150), none, .blist 2 [(.tmp 149)]),
   ((some 151), none, .call 18 [(.tmp 147), (.tmp 148), (.tmp 150)]),
   ((some 146), none, .mv (.tmp 151)),
   ((some 152), none, .extract (.tmp 146) 0),
   ((some 153), none, .extract (.tmp 146) 1),
   (none, none, .store 2 (.tmp 10) (.tmp 152)),
   ((some 12), none, .mv (.tmp 153))])
 (.seq [0] (.dreg [] [((some 154), none, .mv (.tmp 9)),
   ((some 155), none, .bin .eql (.tmp 154) (.const (.int .i64 8))),
   ((some 156), none, .mv (.tmp 155)),
   ((some 157), (some (156, true)), .mv (.tmp 12)),
   ((some 158), (some (156, true)), .bin .eql (.tmp 157) (.const (.int .i64 0))),
   ((some 159), none, .pick (.tmp 156) (.tmp 158) (.const (.bool false))),
   ((some 160), none, .mv (.tmp 159)),
   ((some 161), (some (160, true)), .load true 2 (.tmp 10)),
   ((some 162), (some (160, true)), .load true 2 (.tmp 6)),
   ((some 163), (some (160, true)), .call 13 [(.tmp 161), (.tmp 162)]),
   ((some 164), (some (160, true)), .load true 2 (.tmp 2)),
   ((some 165), (some (160, true)), .blist 2 [(.tmp 164)]),
   ((some 166), (some (160, true)), .call 21 [(.tmp 163), (.tmp 165)]),
   ((some 167), (some (160, true)), .bin .eql (.tmp 166) (.const (.int .i64 1))),
   ((some 168), none, .pick (.tmp 160) (.tmp 167) (.const (.bool false))),
   ((some 169), none, .mv (.tmp 168)),
   ((some 170), (some (169, true)), .load true 2 (.tmp 10)),
   ((some 171), (some (169, true)), .call 16 [(.tmp 170)]),
   ((some 172), (some (169, true)), .bin .eql (.tmp 171) (.const (.int .i64 2))),
   ((some 173), none, .pick (.tmp 169) (.tmp 172) (.const (.bool false)))]
  [((some 0), none, .mv (.tmp 173))])
 (.ret))))))))))))))
theorem k17 : FnOK Try.prog 17 c17 [.tmp 0] 0 := ⟨by kernel_rfl, Try.f17, _, [], Try.func17, rfl, by kernel_rfl, by kernel_rfl, by decide⟩

-- gansey/stacks.Set
def c18 : Cmd :=
 .seq [2, 3, 4, 6] (.reg [((some 3), none, .box 35 2 (.tmp 0)),
   ((some 4), none, .box 26 2 (.tmp 1)),
   ((some 6), none, .alloc 35 2 (.agg [(.val (.slice none 0 0)), (.val (.slice none 0 0))])),
   ((some 7), none, .mv (.const (.int .i64 0)))])
 (.seq [2, 3, 4, 6] (.seq [2, 3, 4, 6, 8] (.reg [((some 10), none, .load true 2 (.tmp 3)),
   ((some 11), none, .call 11 [(.tmp 10)]),
   ((some 8), none, .mv (.tmp 11))])
 (.seq [2, 3, 4, 6, 8, 13] (.reg [((some 12), none, .mv (.tmp 8)),
   ((some 13), none, .bin .neq (.tmp 12) (.const (.int .i64 0)))])
 (.cond (.tmp 13)
  (.seq [6, 7] (.reg [((some 14), none, .build [(.val (.slice none 0 0)), (.val (.slice none 0 0))] []),
    ((some 15), none, .mv (.tmp 8)),
    (none, none, .store 2 (.tmp 6) (.tmp 14)),
    ((some 7), none, .mv (.tmp 15))])
  (.ret))
  (.skip))))
 (.seq [2, 3, 4, 6] (.block 0
  (.seq [2, 3, 4, 6, 16] (.reg [((some 17), none, .load true 2 (.tmp 4)),
    ((some 18), none, .call 32 [(.tmp 17)]),
    ((some 19), none, .bin .neq (.tmp 18) (.const (.int .i64 0))),
    ((some 20), none, .mv (.tmp 19)),
    ((some 21), (some (20, false)), .mv (.tmp 2)),
    ((some 22), (some (20, false)), .call 28 [(.tmp 21), (.func 37)]),
    ((some 23), none, .pick (.tmp 20) (.const (.bool true)) (.tmp 22)),
    ((some 16), none, .mv (.tmp 23))])
  (.cond (.tmp 16)
   (.seq [6, 7] (.reg [((some 24), none, .build [(.val (.slice none 0 0)), (.val (.slice none 0 0))] []),
     (none, none, .store 2 (.tmp 6) (.tmp 24)),
     ((some 7), none, .mv (.const (.int .i64 1)))])
   (.ret))
   (.seq [2, 3, 4, 6, 25] (.reg [((some 26), none, .mv (.tmp 2)),
     ((some 27), none, .len (.tmp 26)),
     ((some 28), none, .bin .gtr (.tmp 27) (.const (.int .i64 4))),
     ((some 25), none, .mv (.tmp 28))])
   (.cond (.tmp 25)
    (.seq [6, 7] (.reg [((some 29), none, .build [(.val (.slice none 0 0)), (.val (.slice none 0 0))] []),
      (none, none, .store 2 (.tmp 6) (.tmp 29)),
      ((some 7), none, .mv (.const (.int .i64 9)))])
    (.ret))
    (.skip))))))
 (.seq [6, 9] (.reg [((some 30), none, .load true 2 (.tmp 3)),
   ((some 31), none, .load true 2 (.tmp 4)),
   ((some 32), none, .mv (.tmp 2)),
   ((some 33), none, .call 38 [(.tmp 30), (.tmp 31), (.tmp 32)]),
   ((some 9), none, .alloc 35 2 (.agg [(.val (.slice none 0 0)), (.val (.slice none 0 0))])),
   (none, none, .store 2 (.tmp 9) (.tmp 33))])
 (.seq [6, 9] (.seq [6, 9, 36] (.reg [((some 34), none, .load true 2 (.tmp 9)),
   ((some 35), none, .call 27 [(.tmp 34)]),
   ((some 36), none, .call 31 [(.tmp 35)])])
 (.cond (.tmp 36)
  (.seq [6, 7] (.reg [((some 37), none, .build [(.val (.slice none 0 0)), (.val (.slice none 0 0))] []),
    (none, none, .store 2 (.tmp 6) (.tmp 37)),
    ((some 7), none, .mv (.const (.int .i64 8)))])
  (.ret))
  (.skip)))
 (.seq [6, 7] (.reg [((some 38), none, .load true 2 (.tmp 9)),
   (none, none, .store 2 (.tmp 6) (.tmp 38)),
   ((some 7), none, .mv (.const (.int .i64 0)))])
 (.ret))))))
theorem k18 : FnOK Try.prog 18 c18 [.cell true 2 6, .tmp 7] 3 := ⟨by kernel_rfl, Try.f18, _, [], Try.func18, rfl, by kernel_rfl, by kernel_rfl, by decide⟩

-- gansey/stacks.Same
def c19 : Cmd :=
 .seq [2, 3] (.reg [((some 2), none, .box 35 2 (.tmp 0)),
   ((some 3), none, .box 35 2 (.tmp 1)),
   ((some 4), none, .mv (.const (.bool false)))])
 (.seq [] (.seq [2, 3, 18, 19] (.reg [((some 6), none, .fieldA 0 1 false (.tmp 2)),
   ((some 7), none, .load false 1 (.tmp 6)),
   ((some 8), none, .len (.tmp 7)),
   ((some 9), none, .fieldA 0 1 false (.tmp 3)),
   ((some 10), none, .load false 1 (.tmp 9)),
   ((some 11), none, .len (.tmp 10)),
   ((some 12), none, .fieldA 1 1 false (.tmp 2)),
   ((some 13), none, .load false 1 (.tmp 12)),
   ((some 14), none, .len (.tmp 13)),
   ((some 15), none, .fieldA 1 1 false (.tmp 3)),
   ((some 16), none, .load false 1 (.tmp 15)),
   ((some 17), none, .len (.tmp 16)),
   ((some 18), none, .maxl true [(.tmp 8), (.tmp 11), (.tmp 14), (.tmp 17)]),
   ((some 19), none, .mv (.const (.int .i64 0)))])
 (.block 0
  (.loop [2, 3, 18, 19]
   (.seq [2, 3, 18, 19, 20] (.reg [((some 20), none, .bin .lss (.tmp 19) (.tmp 18))])
   (.seq [2, 3, 18, 19] (.cond (.tmp 20)
    (.skip)
    (.exit 0))
   (.seq [2, 3, 18, 19] (.block 1
    (.seq [2, 3, 5, 18, 19] (.reg [((some 21), none, .mv (.tmp 19)),
      ((some 5), none, .mv (.tmp 21))])
    (.seq [2, 3, 18, 19, 43] (.dreg [] [((some 22), none, .fieldA 0 1 false (.tmp 2)),
      ((some 23), none, .load false 1 (.tmp 22)),
      ((some 24), none, .mv (.tmp 5)),
      ((some 25), none, .call 35 [(.tmp 23), (.tmp 24)]),
      ((some 26), none, .fieldA 0 1 false (.tmp 3)),
      ((some 27), none, .load false 1 (.tmp 26)),
      ((some 28), none, .mv (.tmp 5)),
      ((some 29), none, .call 35 [(.tmp 27), (.tmp 28)]),
      ((some 30), none, .call 39 [(.tmp 25), (.tmp 29)]),
      ((some 31), none, .un .not (.tmp 30)),
      ((some 32), none, .mv (.tmp 31)),
      ((some 33), (some (32, false)), .fieldA 1 1 false (.tmp 2)),
      ((some 34), (some (32, false)), .load false 1 (.tmp 33)),
      ((some 35), (some (32, false)), .mv (.tmp 5)),
      ((some 36), (some (32, false)), .call 35 [(.tmp 34), (.tmp 35)]),
      ((some 37), (some (32, false)), .fieldA 1 1 false (.tmp 3)),
      ((some 38), (some (32, false)), .load false 1 (.tmp 37)),
      ((some 39), (some (32, false)), .mv (.tmp 5)),
      ((some 40), (some (32, false)), .call 35 [(.tmp 38), (.tmp 39)]),
      ((some 41), (some (32, false)), .call 39 [(.tmp 36), (.tmp 40)]),
      ((some 42), (some (32, false)), .un .not (.tmp 41)),
      ((some 43), none, .pick (.tmp 32) (.const (.bool true)) (.tmp 42))]
     [])
    (.cond (.tmp 43)
     (.seq [4] (.reg [((some 4), none, .mv (.const (.bool false)))])
     (.ret))
     (.skip)))))
   (.reg [((some 44), none, .bin .add (.tmp 19) (.const (.int .i64 1))),
     ((some 19), none, .mv (.tmp 44))])))))))
 (.seq [4] (.reg [((some 4), none, .mv (.const (.bool true)))])
 (.ret)))
theorem k19 : FnOK Try.prog 19 c19 [.tmp 4] 2 := ⟨by kernel_rfl, Try.f19, _, [], Try.func19, rfl, by kernel_rfl, by kernel_rfl, by decide⟩

-- gansey/stacks.Join
def c20 : Cmd :=
 .seq [3, 4, 5, 6] (.reg [((some 3), none, .box 35 2 (.tmp 0)),
   ((some 4), none, .box 26 2 (.tmp 1)),
   ((some 5), none, .box 26 2 (.tmp 2)),
   ((some 6), none, .alloc 35 2 (.agg [(.val (.slice none 0 0)), (.val (.slice none 0 0))])),
   ((some 7), none, .mv (.const (.int .i64 0)))])
 (.seq [3, 4, 5, 6] (.seq [3, 4, 5, 6, 8] (.reg [((some 12), none, .load true 2 (.tmp 3)),
   ((some 13), none, .call 11 [(.tmp 12)]),
   ((some 8), none, .mv (.tmp 13))])
 (.seq [3, 4, 5, 6, 8, 15] (.reg [((some 14), none, .mv (.tmp 8)),
   ((some 15), none, .bin .neq (.tmp 14) (.const (.int .i64 0)))])
 (.cond (.tmp 15)
  (.seq [6, 7] (.reg [((some 16), none, .build [(.val (.slice none 0 0)), (.val (.slice none 0 0))] []),
    ((some 17), none, .mv (.tmp 8)),
    (none, none, .store 2 (.tmp 6) (.tmp 16)),
    ((some 7), none, .mv (.tmp 17))])
  (.ret))
  (.skip))))
 (.seq [3, 4, 5, 6] (.seq [3, 4, 5, 6, 32] (.reg [((some 18), none, .load true 2 (.tmp 4)),
   ((some 19), none, .call 32 [(.tmp 18)]),
   ((some 20), none, .bin .neq (.tmp 19) (.const (.int .i64 0))),
   ((some 21), none, .mv (.tmp 20)),
   ((some 22), (some (21, false)), .load true 2 (.tmp 5)),
   ((some 23), (some (21, false)), .call 32 [(.tmp 22)]),
   ((some 24), (some (21, false)), .bin .neq (.tmp 23) (.const (.int .i64 0))),
   ((some 25), none, .pick (.tmp 21) (.const (.bool true)) (.tmp 24)),
   ((some 26), none, .mv (.tmp 25)),
   ((some 27), (some (26, false)), .fieldA 0 1 false (.tmp 4)),
   ((some 28), (some (26, false)), .load false 1 (.tmp 27)),
   ((some 29), (some (26, false)), .fieldA 0 1 false (.tmp 5)),
   ((some 30), (some (26, false)), .load false 1 (.tmp 29)),
   ((some 31), (some (26, false)), .bin .eql (.tmp 28) (.tmp 30)),
   ((some 32), none, .pick (.tmp 26) (.const (.bool true)) (.tmp 31))])
 (.cond (.tmp 32)
  (.seq [6, 7] (.reg [((some 33), none, .build [(.val (.slice none 0 0)), (.val (.slice none 0 0))] []),
    (none, none, .store 2 (.tmp 6) (.tmp 33)),
    ((some 7), none, .mv (.const (.int .i64 1)))])
  (.ret))
  (.skip)))
 (.seq [3, 4, 5, 6, 9, 10] (.dreg [] [((some 34), none, .load true 2 (.tmp 3)),
   ((some 35), none, .load true 2 (.tmp 4)),
   ((some 36), none, .call 13 [(.tmp 34), (.tmp 35)]),
   ((some 37), none, .load true 2 (.tmp 3)),
   ((some 38), none, .load true 2 (.tmp 5)),
   ((some 39), none, .call 13 [(.tmp 37), (.tmp 38)]),
   ((some 9), none, .mv (.tmp 36))]
  [((some 10), none, .mv (.tmp 39))])
 (.seq [3, 4, 5, 6, 9, 10, 11] (.reg [((some 40), none, .mv (.tmp 10)),
   ((some 41), none, .mv (.tmp 9)),
   ((some 42), none, .blist 1 [(.tmp 40), (.tmp 41)]),
   ((some 43), none, .call 40 [(.tmp 42)]),
   ((some 11), none, .mv (.tmp 43))])
 (.seq [3, 4, 5, 6, 9, 11] (.seq [3, 4, 5, 6, 9, 10, 11, 46] (.reg [((some 44), none, .fieldA 0 1 false (.tmp 5)),
   ((some 45), none, .load false 1 (.tmp 44)),
   ((some 46), none, .bin .eql (.tmp 45) (.const (.int .u8 0)))])
 (.cond (.tmp 46)
  (.reg [((some 47), none, .mv (.tmp 9)),
    ((some 48), none, .mv (.tmp 10)),
    ((some 49), none, .blist 1 [(.tmp 47), (.tmp 48)]),
    ((some 50), none, .call 40 [(.tmp 49)]),
    ((some 11), none, .mv (.tmp 50))])
  (.skip)))
 (.seq [3, 4, 5, 6, 11] (.block 0
  (.seq [3, 4, 5, 6, 11, 51] (.reg [((some 52), none, .mv (.tmp 9)),
    ((some 53), none, .len (.tmp 52)),
    ((some 54), none, .bin .eql (.tmp 53) (.const (.int .i64 0))),
    ((some 51), none, .mv (.tmp 54))])
  (.cond (.tmp 51)
   (.seq [6, 7] (.reg [((some 55), none, .build [(.val (.slice none 0 0)), (.val (.slice none 0 0))] []),
     (none, none, .store 2 (.tmp 6) (.tmp 55)),
     ((some 7), none, .mv (.const (.int .i64 13)))])
   (.ret))
   (.seq [3, 4, 5, 6, 11, 56] (.reg [((some 57), none, .mv (.tmp 11)),
     ((some 58), none, .len (.tmp 57)),
     ((some 59), none, .bin .gtr (.tmp 58) (.const (.int .i64 4))),
     ((some 56), none, .mv (.tmp 59))])
   (.cond (.tmp 56)
    (.seq [6, 7] (.reg [((some 60), none, .build [(.val (.slice none 0 0)), (.val (.slice none 0 0))] []),
      (none, none, .store 2 (.tmp 6) (.tmp 60)),
      ((some 7), none, .mv (.const (.int .i64 9)))])
    (.ret))
    (.skip))))))
 (.seq [6, 7] (.dreg [] [((some 61), none, .load true 2 (.tmp 3)),
   ((some 62), none, .load true 2 (.tmp 4)),
   ((some 63), none, .call 38 [(.tmp 61), (.tmp 62), (.const (.slice none 0 0))]),
   ((some 64), none, .load true 2 (.tmp 5)),
   ((some 65), none, .mv (.tmp 11)),
   ((some 66), none, .call 38 [(.tmp 63), (.tmp 64), (.tmp 65)])]
  [(none, none, .store 2 (.tmp 6) (.tmp 66)),
   ((some 7), none, .mv (.const (.int .i64 0)))])
 (.ret))))))))
theorem k20 : FnOK Try.prog 20 c20 [.cell true 2 6, .tmp 7] 3 := ⟨by kernel_rfl, Try.f20, _, [], Try.func20, rfl, by kernel_rfl, by kernel_rfl, by decide⟩

-- gansey/ganseylaw03.same
def c21 : Cmd :=
 .seq [0, 1] (.reg [((some 4), none, .mv (.const (.int .i64 0)))])
 (.seq [0, 1] (.seq [0, 1, 17] (.reg [((some 6), none, .mv (.tmp 0)),
   ((some 7), none, .len (.tmp 6)),
   ((some 8), none, .mv (.tmp 1)),
   ((some 9), none, .len (.tmp 8)),
   ((some 10), none, .bin .neq (.tmp 7) (.tmp 9)),
   ((some 11), none, .mv (.tmp 10)),
   ((some 12), (some (11, false)), .mv (.tmp 0)),
   ((some 13), (some (11, false)), .cap (.tmp 12)),
   ((some 14), (some (11, false)), .mv (.tmp 0)),
   ((some 15), (some (11, false)), .len (.tmp 14)),
   ((some 16), (some (11, false)), .bin .neq (.tmp 13) (.tmp 15)),
   ((some 17), none, .pick (.tmp 11) (.const (.bool true)) (.tmp 16))])
 (.cond (.tmp 17)
  (.seq [4] (.reg [((some 4), none, .mv (.const (.int .i64 0)))])
  (.ret))
  (.skip)))
 (.seq [] (.seq [0, 1, 5] (.reg [((some 5), none, .mv (.const (.int .i64 0)))])
 (.block 0
  (.loop [0, 1, 5]
   (.seq [0, 1, 5] (.seq [0, 1, 5, 21] (.reg [((some 18), none, .mv (.tmp 5)),
     ((some 19), none, .mv (.tmp 0)),
     ((some 20), none, .len (.tmp 19)),
     ((some 21), none, .bin .lss (.tmp 18) (.tmp 20))])
   (.cond (.tmp 21)
    (.skip)
    (.exit 0)))
   (.seq [0, 1, 5] (.block 1
    (.seq [0, 1, 5, 32] (.dreg [] [((some 24), none, .mv (.tmp 0)),
      ((some 25), none, .mv (.tmp 5)),
      ((some 26), none, .indexA 2 (.tmp 24) (.tmp 25)),
      ((some 27), none, .load true 2 (.tmp 26)),
      ((some 28), none, .mv (.tmp 1)),
      ((some 29), none, .mv (.tmp 5)),
      ((some 30), none, .indexA 2 (.tmp 28) (.tmp 29)),
      ((some 31), none, .load true 2 (.tmp 30)),
      ((some 32), none, .eqagg true [true, true] (.tmp 27) (.tmp 31))]
     [])
    (.cond (.tmp 32)
     (.seq [4] (.reg [((some 4), none, .mv (.const (.int .i64 0)))])
     (.ret))
     (.skip))))
   (.reg [((some 22), none, .mv (.tmp 5)),
     ((some 23), none, .bin .add (.tmp 22) (.const (.int .i64 1))),
     ((some 5), none, .mv (.tmp 23))]))))))
 (.seq [4] (.reg [((some 4), none, .mv (.const (.int .i64 1)))])
 (.ret))))
theorem k21 : FnOK Try.prog 21 c21 [.tmp 4] 2 := ⟨by kernel_rfl, Try.f21, _, [], Try.func21, rfl, by kernel_rfl, by kernel_rfl, by decide⟩

-- (gansey/ganseylaw03.B).Of
def c22 : Cmd :=
 .seq [0, 2] (.reg [((some 2), none, .alloc 35 2 (.agg [(.val (.slice none 0 0)), (.val (.slice none 0 0))]))])
 (.seq [2] (.reg [((some 3), none, .mv (.tmp 0)),
   ((some 4), none, .call 9 [(.tmp 3)]),
   ((some 5), none, .call 10 [(.tmp 4)]),
   (none, none, .store 2 (.tmp 2) (.tmp 5))])
 (.ret))
theorem k22 : FnOK Try.prog 22 c22 [.cell true 2 2] 1 := ⟨by kernel_rfl, Try.f22, _, [], Try.func22, rfl, by kernel_rfl, by kernel_rfl, by decide⟩

-- (gansey/stacks.Beds).all
def c26 : Cmd :=
 .seq [1] (.reg [((some 1), none, .box 35 2 (.tmp 0)),
   ((some 2), none, .mv (.const .nilFunc))])
 (.seq [2] (.reg [((some 3), none, .mkfn (.func 51) [] [(.tmp 1)]),
   ((some 2), none, .mv (.tmp 3))])
 (.ret))
theorem k26 : FnOK Try.prog 26 c26 [.tmp 2] 1 := ⟨by kernel_rfl, Try.f26, _, [], Try.func26, rfl, by kernel_rfl, by kernel_rfl, by decide⟩

-- (gansey/stacks.Beds).names
def c27 : Cmd :=
 .seq [1, 2] (.reg [((some 1), none, .box 35 2 (.tmp 0)),
   ((some 2), none, .mv (.const (.slice none 0 0)))])
 (.seq [1, 2, 3] (.reg [((some 3), none, .alloc 29 1 (.val (.slice none 0 0)))])
 (.seq [3] (.seq [2, 3, 7] (.reg [((some 6), none, .load true 2 (.tmp 1)),
   ((some 7), none, .call 26 [(.tmp 6)])])
 (.block 0
  (.range (.tmp 7) [8, 9] (.reg [((some 5), none, .mv (.tmp 9))])
  (.block 1
   (.reg [((some 10), none, .load false 1 (.tmp 3)),
     ((some 11), none, .mv (.tmp 5)),
     ((some 12), none, .append true 28 2 16 (.tmp 10) (.tmp 11)),
     (none, none, .store 1 (.tmp 3) (.tmp 12))])))))
 (.seq [2] (.reg [((some 13), none, .load false 1 (.tmp 3)),
   ((some 2), none, .mv (.tmp 13))])
 (.ret))))
theorem k27 : FnOK Try.prog 27 c27 [.tmp 2] 1 := ⟨by kernel_rfl, Try.f27, _, [12], Try.func27, rfl, by kernel_rfl, by kernel_rfl, by decide⟩

-- slices.ContainsFunc[[]gansey/api.Id,gansey/api.Id]
def c28 : Cmd :=
 .seq [0, 1] (.reg [((some 4), none, .mv (.const (.bool false)))])
 (.seq [4] (.reg [((some 5), none, .mv (.tmp 0)),
   ((some 6), none, .mv (.tmp 1)),
   ((some 7), none, .call 52 [(.tmp 5), (.tmp 6)]),
   ((some 8), none, .bin .geq (.tmp 7) (.const (.int .i64 0))),
   ((some 4), none, .mv (.tmp 8))])
 (.ret))
theorem k28 : FnOK Try.prog 28 c28 [.tmp 4] 2 := ⟨by kernel_rfl, Try.f28, _, [], Try.func28, rfl, by kernel_rfl, by kernel_rfl, by decide⟩

-- gansey/stacks.Check$1
def c29 : Cmd :=
 .seq [1] (.reg [((some 1), none, .box 28 2 (.tmp 0)),
   ((some 2), none, .mv (.const (.bool false)))])
 (.seq [2] (.reg [((some 3), none, .load true 2 (.tmp 1)),
   ((some 4), none, .call 30 [(.tmp 3)]),
   ((some 5), none, .un .not (.tmp 4)),
   ((some 2), none, .mv (.tmp 5))])
 (.ret))
theorem k29 : FnOK Try.prog 29 c29 [.tmp 2] 1 := ⟨by kernel_rfl, Try.f29, _, [], Try.func29, rfl, by kernel_rfl, by kernel_rfl, by decide⟩

-- gansey/yarns.Named
def c30 : Cmd :=
 .seq [1] (.reg [((some 1), none, .box 28 2 (.tmp 0)),
   ((some 2), none, .mv (.const (.bool false)))])
 (.seq [2] (.reg [((some 3), none, .fieldA 0 1 false (.tmp 1)),
   ((some 4), none, .load false 1 (.tmp 3)),
   ((some 5), none, .bin .geq (.tmp 4) (.const (.int .u8 1))),
   ((some 6), none, .mv (.tmp 5)),
   ((some 7), (some (6, true)), .fieldA 0 1 false (.tmp 1)),
   ((some 8), (some (6, true)), .load false 1 (.tmp 7)),
   ((some 9), (some (6, true)), .bin .leq (.tmp 8) (.const (.int .u8 6))),
   ((some 10), none, .pick (.tmp 6) (.tmp 9) (.const (.bool false))),
   ((some 11), none, .mv (.tmp 10)),
   ((some 12), (some (11, true)), .fieldA 1 1 false (.tmp 1)),
   ((some 13), (some (11, true)), .load false 1 (.tmp 12)),
   ((some 14), (some (11, true)), .bin .geq (.tmp 13) (.const (.int .i64 0))),
   ((some 15), none, .pick (.tmp 11) (.tmp 14) (.const (.bool false))),
   ((some 16), none, .mv (.tmp 15)),
   ((some 17), (some (16, true)), .fieldA 1 1 false (.tmp 1)),
   ((some 18), (some (16, true)), .load false 1 (.tmp 17)),
   ((some 19), (some (16, true)), .bin .lss (.tmp 18) (.const (.int .i64 2048))),
   ((some 20), none, .pick (.tmp 16) (.tmp 19) (.const (.bool false))),
   ((some 2), none, .mv (.tmp 20))])
 (.ret))
theorem k30 : FnOK Try.prog 30 c30 [.tmp 2] 1 := ⟨by kernel_rfl, Try.f30, _, [], Try.func30, rfl, by kernel_rfl, by kernel_rfl, by decide⟩

-- gansey/stacks.twice
def c31 : Cmd :=
 .seq [0] (.reg [((some 2), none, .mv (.const (.bool false)))])
 (.seq [0, 3] (.reg [((some 6), none, .mkmap),
   ((some 3), none, .mv (.tmp 6))])
 (.seq [] (.seq [3, 7, 8, 9] (.reg [((some 7), none, .mv (.tmp 0)),
   ((some 8), none, .len (.tmp 7)),
   ((some 9), none, .mv (.const (.int .i64 0)))])
 (.block 0
  (.loop [3, 7, 8, 9]
   (.seq [3, 7, 8, 9, 10] (.reg [((some 10), none, .bin .lss (.tmp 9) (.tmp 8))])
   (.seq [3, 7, 8, 9] (.cond (.tmp 10)
    (.skip)
    (.exit 0))
   (.seq [3, 7, 8, 9] (.block 1
    (.seq [3, 5, 7, 8, 9] (.reg [((some 11), none, .indexA 2 (.tmp 7) (.tmp 9)),
      ((some 12), none, .load true 2 (.tmp 11)),
      ((some 5), none, .alloc 28 2 (.agg [(.val (.int .u8 0)), (.val (.int .i64 0))])),
      (none, none, .store 2 (.tmp 5) (.tmp 12))])
    (.seq [3, 5, 7, 8, 9] (.seq [3, 5, 7, 8, 9, 15] (.reg [((some 13), none, .mv (.tmp 3)),
      ((some 14), none, .load true 2 (.tmp 5)),
      ((some 15), none, .lookup false [true, true] true (.val (.bool false)) (.tmp 13) (.tmp 14))])
    (.cond (.tmp 15)
     (.seq [2] (.reg [((some 2), none, .mv (.const (.bool true)))])
     (.ret))
     (.skip)))
    (.reg [((some 16), none, .mv (.tmp 3)),
      ((some 17), none, .load true 2 (.tmp 5)),
      (none, none, .mapset [true, true] true (.tmp 16) (.tmp 17) (.const (.bool true)))]))))
   (.reg [((some 18), none, .bin .add (.tmp 9) (.const (.int .i64 1))),
     ((some 9), none, .mv (.tmp 18))])))))))
 (.seq [2] (.reg [((some 2), none, .mv (.const (.bool false)))])
 (.ret))))
theorem k31 : FnOK Try.prog 31 c31 [.tmp 2] 1 := ⟨by kernel_rfl, Try.f31, _, [], Try.func31, rfl, by kernel_rfl, by kernel_rfl, by decide⟩

-- gansey/needles.Check
def c32 : Cmd :=
 .seq [1] (.reg [((some 1), none, .box 26 2 (.tmp 0)),
   ((some 2), none, .mv (.const (.int .i64 0)))])
 (.seq [] (.seq [15] (.reg [((some 3), none, .fieldA 0 1 false (.tmp 1)),
   ((some 4), none, .load false 1 (.tmp 3)),
   ((some 5), none, .bin .gtr (.tmp 4) (.const (.int .u8 1))),
   ((some 6), none, .mv (.tmp 5)),
   ((some 7), (some (6, false)), .fieldA 1 1 false (.tmp 1)),
   ((some 8), (some (6, false)), .load false 1 (.tmp 7)),
   ((some 9), (some (6, false)), .bin .lss (.tmp 8) (.const (.int .i64 1))),
   ((some 10), none, .pick (.tmp 6) (.const (.bool true)) (.tmp 9)),
   ((some 11), none, .mv (.tmp 10)),
   ((some 12), (some (11, false)), .fieldA 1 1 false (.tmp 1)),
   ((some 13), (some (11, false)), .load false 1 (.tmp 12)),
   ((some 14), (some (11, false)), .bin .gtr (.tmp 13) (.const (.int .i64 40))),
   ((some 15), none, .pick (.tmp 11) (.const (.bool true)) (.tmp 14))])
 (.cond (.tmp 15)
  (.seq [2] (.reg [((some 2), none, .mv (.const (.int .i64 1)))])
  (.ret))
  (.skip)))
 (.seq [2] (.reg [((some 2), none, .mv (.const (.int .i64 0)))])
 (.ret)))
theorem k32 : FnOK Try.prog 32 c32 [.tmp 2] 1 := ⟨by kernel_rfl, Try.f32, _, [], Try.func32, rfl, by kernel_rfl, by kernel_rfl, by decide⟩

-- slices.Clip[[]gansey/api.Id,gansey/api.Id]
def c33 : Cmd :=
 .seq [0] (.reg [((some 2), none, .mv (.const (.slice none 0 0)))])
 (.seq [2] (.reg [((some 3), none, .mv (.tmp 0)),
   ((some 4), none, .mv (.tmp 0)),
   ((some 5), none, .len (.tmp 4)),
   ((some 6), none, .mv (.tmp 0)),
   ((some 7), none, .len (.tmp 6)),
   ((some 8), none, .slice 2 (.tmp 3) none (some (.tmp 5)) (some (.tmp 7))),
   ((some 2), none, .mv (.tmp 8))])
 (.ret))
theorem k33 : FnOK Try.prog 33 c33 [.tmp 2] 1 := ⟨by kernel_rfl, Try.f33, _, [], Try.func33, rfl, by kernel_rfl, by kernel_rfl, by decide⟩

-- slices.Clone[[]gansey/api.Id,gansey/api.Id]
def c34 : Cmd :=
 .seq [0] (.reg [((some 2), none, .mv (.const (.slice none 0 0)))])
 (.seq [0] (.seq [0, 4] (.reg [((some 3), none, .mv (.tmp 0)),
   ((some 4), none, .eqnil 0 false (.tmp 3))])
 (.cond (.tmp 4)
  (.seq [2] (.reg [((some 2), none, .mv (.const (.slice none 0 0)))])
  (.ret))
  (.skip)))
 (.seq [2] (.reg [((some 5), none, .blist 2 []),
   ((some 6), none, .mv (.tmp 0)),
   ((some 7), none, .append false 28 2 16 (.tmp 5) (.tmp 6)),
   ((some 2), none, .mv (.tmp 7))])
 (.ret)))
theorem k34 : FnOK Try.prog 34 c34 [.tmp 2] 1 := ⟨by kernel_rfl, Try.f34, _, [], Try.func34, rfl, by kernel_rfl, by kernel_rfl, by decide⟩

-- gansey/stacks.get
def c35 : Cmd :=
 .seq [0, 1] (.reg [((some 4), none, .mv (.const (.slice none 0 0)))])
 (.seq [] (.seq [0, 1, 8] (.reg [((some 5), none, .mv (.tmp 1)),
   ((some 6), none, .mv (.tmp 0)),
   ((some 7), none, .len (.tmp 6)),
   ((some 8), none, .bin .lss (.tmp 5) (.tmp 7))])
 (.cond (.tmp 8)
  (.seq [4] (.reg [((some 9), none, .mv (.tmp 0)),
    ((some 10), none, .mv (.tmp 1)),
    ((some 11), none, .indexA 1 (.tmp 9) (.tmp 10)),
    ((some 12), none, .load false 1 (.tmp 11)),
    ((some 4), none, .mv (.tmp 12))])
  (.ret))
  (.skip)))
 (.seq [4] (.reg [((some 4), none, .mv (.const (.slice none 0 0)))])
 (.ret)))
theorem k35 : FnOK Try.prog 35 c35 [.tmp 4] 2 := ⟨by kernel_rfl, Try.f35, _, [], Try.func35, rfl, by kernel_rfl, by kernel_rfl, by decide⟩

-- slices.Contains[[]gansey/api.Id,gansey/api.Id]
def c36 : Cmd :=
 .seq [0, 3] (.reg [((some 3), none, .box 28 2 (.tmp 1)),
   ((some 4), none, .mv (.const (.bool false)))])
 (.seq [4] (.reg [((some 5), none, .mv (.tmp 0)),
   ((some 6), none, .load true 2 (.tmp 3)),
   ((some 7), none, .call 53 [(.tmp 5), (.tmp 6)]),
   ((some 8), none, .bin .geq (.tmp 7) (.const (.int .i64 0))),
   ((some 4), none, .mv (.tmp 8))])
 (.ret))
theorem k36 : FnOK Try.prog 36 c36 [.tmp 4] 2 := ⟨by kernel_rfl, Try.f36, _, [], Try.func36, rfl, by kernel_rfl, by kernel_rfl, by decide⟩

-- gansey/stacks.Set$1
def c37 : Cmd :=
 .seq [1] (.reg [((some 1), none, .box 28 2 (.tmp 0)),
   ((some 2), none, .mv (.const (.bool false)))])
 (.seq [2] (.reg [((some 3), none, .load true 2 (.tmp 1)),
   ((some 4), none, .call 30 [(.tmp 3)]),
   ((some 5), none, .un .not (.tmp 4)),
   ((some 2), none, .mv (.tmp 5))])
 (.ret))
theorem k37 : FnOK Try.prog 37 c37 [.tmp 2] 1 := ⟨by kernel_rfl, Try.f37, _, [], Try.func37, rfl, by kernel_rfl, by kernel_rfl, by decide⟩

-- gansey/stacks.put
def c38 : Cmd :=
 .seq [2, 3, 4, 6] (.reg [((some 3), none, .box 35 2 (.tmp 0)),
   ((some 4), none, .box 26 2 (.tmp 1)),
   ((some 6), none, .alloc 35 2 (.agg [(.val (.slice none 0 0)), (.val (.slice none 0 0))]))])
 (.seq [2, 3, 4, 6, 7] (.reg [((some 9), none, .build [(.val (.int .i64 0)), (.val (.int .i64 0))] []),
   ((some 7), none, .alloc 99 2 (.agg [(.val (.int .i64 0)), (.val (.int .i64 0))])),
   (none, none, .store 2 (.tmp 7) (.tmp 9))])
 (.seq [2, 3, 4, 6, 7] (.reg [((some 10), none, .fieldA 0 1 false (.tmp 4)),
   ((some 11), none, .load false 1 (.tmp 10)),
   ((some 12), none, .fieldA 1 1 false (.tmp 4)),
   ((some 13), none, .load false 1 (.tmp 12)),
   ((some 14), none, .indexP 2 1 false (.tmp 7) (.tmp 11)),
   (none, none, .store 1 (.tmp 14) (.tmp 13))])
 (.seq [2, 3, 4, 6, 7, 8] (.dreg [] [((some 15), none, .fieldA 0 1 false (.tmp 3)),
   ((some 16), none, .load false 1 (.tmp 15)),
   ((some 17), none, .call 35 [(.tmp 16), (.const (.int .i64 0))]),
   ((some 18), none, .fieldA 1 1 false (.tmp 3)),
   ((some 19), none, .load false 1 (.tmp 18)),
   ((some 20), none, .call 35 [(.tmp 19), (.const (.int .i64 0))]),
   ((some 21), none, .build [(.val (.slice none 0 0)), (.val (.slice none 0 0))] [(0, 1, (.tmp 17)), (1, 1, (.tmp 20))]),
   ((some 8), none, .alloc 100 2 (.agg [(.val (.slice none 0 0)), (.val (.slice none 0 0))]))]
  [((some 8), none, .alloc 100 2 (.agg [(.val (.slice none 0 0)), (.val (.slice none 0 0))])),
   (none, none, .store 2 (.tmp 8) (.tmp 21))])
 (.seq [3, 4, 6, 7, 8] (.reg [((some 22), none, .fieldA 0 1 false (.tmp 4)),
   ((some 23), none, .load false 1 (.tmp 22)),
   ((some 24), none, .mv (.tmp 2)),
   ((some 25), none, .indexP 2 1 false (.tmp 8) (.tmp 23)),
   (none, none, .store 1 (.tmp 25) (.tmp 24))])
 (.seq [3, 6, 7, 8] (.reg [((some 26), none, .fieldA 0 1 false (.tmp 4)),
   ((some 27), none, .load false 1 (.tmp 26)),
   ((some 28), none, .bin .sub (.const (.int .u8 1)) (.tmp 27)),
   ((some 29), none, .indexP 2 1 false (.tmp 7) (.tmp 28)),
   (none, none, .store 1 (.tmp 29) (.const (.int .i64 1)))])
 (.seq [6] (.dreg [] [((some 30), none, .fieldA 0 1 false (.tmp 3)),
   ((some 31), none, .load false 1 (.tmp 30)),
   ((some 32), none, .indexP 2 1 false (.tmp 7) (.const (.int .i64 0))),
   ((some 33), none, .load false 1 (.tmp 32)),
   ((some 34), none, .indexP 2 1 false (.tmp 8) (.const (.int .i64 0))),
   ((some 35), none, .load false 1 (.tmp 34)),
   ((some 36), none, .call 54 [(.tmp 31), (.tmp 33), (.tmp 35)]),
   ((some 37), none, .fieldA 1 1 false (.tmp 3)),
   ((some 38), none, .load false 1 (.tmp 37)),
   ((some 39), none, .indexP 2 1 false (.tmp 7) (.const (.int .i64 1))),
   ((some 40), none, .load false 1 (.tmp 39)),
   ((some 41), none, .indexP 2 1 false (.tmp 8) (.const (.int .i64 1))),
   ((some 42), none, .load false 1 (.tmp 41)),
   ((some 43), none, .call 54 [(.tmp 38), (.tmp 40), (.tmp 42)]),
   ((some 44), none, .build [(.val (.slice none 0 0)), (.val (.slice none 0 0))] [(0, 1, (.tmp 36)), (1, 1, (.tmp 43))])]
  [(none, none, .store 2 (.tmp 6) (.tmp 44))])
 (.ret)))))))
theorem k38 : FnOK Try.prog 38 c38 [.cell true 2 6] 3 := ⟨by kernel_rfl, Try.f38, _, [], Try.func38, rfl, by kernel_rfl, by kernel_rfl, by decide⟩

-- slices.Equal[[]gansey/api.Id,gansey/api.Id]
def c39 : Cmd :=
 .seq [0, 1] (.reg [((some 4), none, .mv (.const (.bool false)))])
 (.seq [0, 1] (.seq [0, 1, 10] (.reg [((some 6), none, .mv (.tmp 0)),
   ((some 7), none, .len (.tmp 6)),
   ((some 8), none, .mv (.tmp 1)),
   ((some 9), none, .len (.tmp 8)),
   ((some 10), none, .bin .neq (.tmp 7) (.tmp 9))])
 (.cond (.tmp 10)
  (.seq [4] (.reg [((some 4), none, .mv (.const (.bool false)))])
  (.ret))
  (.skip)))
 (.seq [] (.seq [0, 1, 12, 13] (.reg [((some 11), none, .mv (.tmp 0)),
   ((some 12), none, .len (.tmp 11)),
   ((some 13), none, .mv (.const (.int .i64 0)))])
 (.block 0
  (.loop [0, 1, 12, 13]
   (.seq [0, 1, 12, 13, 14] (.reg [((some 14), none, .bin .lss (.tmp 13) (.tmp 12))])
   (.seq [0, 1, 12, 13] (.cond (.tmp 14)
    (.skip)
    (.exit 0))
   (.seq [0, 1, 12, 13] (.block 1
    (.seq [0, 1, 5, 12, 13] (.reg [((some 15), none, .mv (.tmp 13)),
      ((some 5), none, .mv (.tmp 15))])
    (.seq [0, 1, 12, 13, 24] (.dreg [] [((some 16), none, .mv (.tmp 0)),
      ((some 17), none, .mv (.tmp 5)),
      ((some 18), none, .indexA 2 (.tmp 16) (.tmp 17)),
      ((some 19), none, .load true 2 (.tmp 18)),
      ((some 20), none, .mv (.tmp 1)),
      ((some 21), none, .mv (.tmp 5)),
      ((some 22), none, .indexA 2 (.tmp 20) (.tmp 21)),
      ((some 23), none, .load true 2 (.tmp 22)),
      ((some 24), none, .eqagg true [true, true] (.tmp 19) (.tmp 23))]
     [])
    (.cond (.tmp 24)
     (.seq [4] (.reg [((some 4), none, .mv (.const (.bool false)))])
     (.ret))
     (.skip)))))
   (.reg [((some 25), none, .bin .add (.tmp 13) (.const (.int .i64 1))),
     ((some 13), none, .mv (.tmp 25))])))))))
 (.seq [4] (.reg [((some 4), none, .mv (.const (.bool true)))])
 (.ret))))
theorem k39 : FnOK Try.prog 39 c39 [.tmp 4] 2 := ⟨by kernel_rfl, Try.f39, _, [], Try.func39, rfl, by kernel_rfl, by kernel_rfl, by decide⟩

-- slices.Concat[[]gansey/api.Id,gansey/api.Id]
def c40 : Cmd :=
 .seq [0] (.reg [((some 2), none, .mv (.const (.slice none 0 0)))])
 (.seq [0, 3] (.reg [((some 3), none, .mv (.const (.int .i64 0)))])
 (.seq [0, 3] (.seq [0, 3, 9, 10, 11] (.reg [((some 9), none, .mv (.tmp 0)),
   ((some 10), none, .len (.tmp 9)),
   ((some 11), none, .mv (.const (.int .i64 0)))])
 (.block 0
  (.loop [0, 3, 9, 10, 11]
   (.seq [0, 3, 9, 10, 11, 12] (.reg [((some 12), none, .bin .lss (.tmp 11) (.tmp 10))])
   (.seq [0, 3, 9, 10, 11] (.cond (.tmp 12)
    (.skip)
    (.exit 0))
   (.seq [0, 3, 9, 10, 11] (.block 1
    (.seq [0, 3, 5, 9, 10, 11] (.reg [((some 13), none, .indexA 1 (.tmp 9) (.tmp 11)),
      ((some 14), none, .load false 1 (.tmp 13)),
      ((some 5), none, .mv (.tmp 14))])
    (.seq [0, 3, 9, 10, 11] (.reg [((some 15), none, .mv (.tmp 3)),
      ((some 16), none, .mv (.tmp 5)),
      ((some 17), none, .len (.tmp 16)),
      ((some 18), none, .bin .add (.tmp 15) (.tmp 17)),
      ((some 3), none, .mv (.tmp 18))])
    (.seq [0, 3, 9, 10, 11, 20] (.reg [((some 19), none, .mv (.tmp 3)),
      ((some 20), none, .bin .lss (.tmp 19) (.const (.int .i64 0)))])
    (.cond (.tmp 20)
     (.reg [((some 21), none, .dead),
       (none, none, .dead)])
     (.skip))))))
   (.reg [((some 22), none, .bin .add (.tmp 11) (.const (.int .i64 1))),
     ((some 11), none, .mv (.tmp 22))])))))))
 (.seq [0, 6] (.reg [((some 23), none, .mv (.tmp 3)),
   ((some 24), none, .call 55 [(.const (.slice none 0 0)), (.tmp 23)]),
   ((some 6), none, .mv (.tmp 24))])
 (.seq [6] (.seq [6, 25, 26, 27] (.reg [((some 25), none, .mv (.tmp 0)),
   ((some 26), none, .len (.tmp 25)),
   ((some 27), none, .mv (.const (.int .i64 0)))])
 (.block 2
  (.loop [6, 25, 26, 27]
   (.seq [6, 25, 26, 27, 28] (.reg [((some 28), none, .bin .lss (.tmp 27) (.tmp 26))])
   (.seq [6, 25, 26, 27] (.cond (.tmp 28)
    (.skip)
    (.exit 2))
   (.seq [6, 25, 26, 27] (.block 3
    (.seq [6, 8, 25, 26, 27] (.reg [((some 29), none, .indexA 1 (.tmp 25) (.tmp 27)),
      ((some 30), none, .load false 1 (.tmp 29)),
      ((some 8), none, .mv (.tmp 30))])
    (.reg [((some 31), none, .mv (.tmp 6)),
      ((some 32), none, .mv (.tmp 8)),
      ((some 33), none, .append true 28 2 16 (.tmp 31) (.tmp 32)),
      ((some 6), none, .mv (.tmp 33))])))
   (.reg [((some 34), none, .bin .add (.tmp 27) (.const (.int .i64 1))),
     ((some 27), none, .mv (.tmp 34))])))))))
 (.seq [2] (.reg [((some 35), none, .mv (.tmp 6)),
   ((some 2), none, .mv (.tmp 35))])
 (.ret))))))
theorem k40 : FnOK Try.prog 40 c40 [.tmp 2] 1 := ⟨by kernel_rfl, Try.f40, _, [33], Try.func40, rfl, by kernel_rfl, by kernel_rfl, by decide⟩

-- (gansey/stacks.Beds).all$1
def c51 : Cmd :=
 .seq [0, 10, 11, 12] (.reg [((some 6), none, .fieldA 0 1 false (.tmp 1)),
   ((some 7), none, .load false 1 (.tmp 6)),
   ((some 8), none, .fieldA 1 1 false (.tmp 1)),
   ((some 9), none, .load false 1 (.tmp 8)),
   ((some 10), none, .blist 1 [(.tmp 7), (.tmp 9)]),
   ((some 11), none, .len (.tmp 10)),
   ((some 12), none, .mv (.const (.int .i64 0)))])
 (.block 0
  (.loop [0, 10, 11, 12]
   (.seq [0, 10, 11, 12, 13] (.reg [((some 13), none, .bin .lss (.tmp 12) (.tmp 11))])
   (.seq [0, 10, 11, 12] (.cond (.tmp 13)
    (.skip)
    (.exit 0))
   (.seq [0, 10, 11, 12] (.block 1
    (.seq [0, 3, 4, 10, 11, 12] (.reg [((some 14), none, .mv (.tmp 12)),
      ((some 15), none, .indexA 1 (.tmp 10) (.tmp 12)),
      ((some 16), none, .load false 1 (.tmp 15)),
      ((some 3), none, .mv (.tmp 14)),
      ((some 4), none, .mv (.tmp 16))])
    (.seq [0, 3, 4, 10, 11, 12, 19, 20] (.reg [((some 17), none, .mv (.tmp 4)),
      ((some 18), none, .len (.tmp 17)),
      ((some 19), none, .maxmin false (.tmp 18) (.const (.int .i64 40))),
      ((some 20), none, .mv (.const (.int .i64 0)))])
    (.block 2
     (.loop [0, 3, 4, 10, 11, 12, 19, 20]
      (.seq [0, 3, 4, 10, 11, 12, 19, 20, 21] (.reg [((some 21), none, .bin .lss (.tmp 20) (.tmp 19))])
      (.seq [0, 3, 4, 10, 11, 12, 19, 20] (.cond (.tmp 21)
       (.skip)
       (.exit 2))
      (.seq [0, 3, 4, 10, 11, 12, 19, 20] (.block 3
       (.seq [0, 3, 4, 5, 10, 11, 12, 19, 20] (.reg [((some 22), none, .mv (.tmp 20)),
         ((some 5), none, .mv (.tmp 22))])
       (.seq [0, 3, 4, 10, 11, 12, 19, 20, 34] (.reg [((some 23), none, .mv (.tmp 0)),
         ((some 24), none, .mv (.tmp 3)),
         ((some 25), none, .convi .u8 (.tmp 24)),
         ((some 26), none, .mv (.tmp 5)),
         ((some 27), none, .bin .add (.tmp 26) (.const (.int .i64 1))),
         ((some 28), none, .build [(.val (.int .u8 0)), (.val (.int .i64 0))] [(0, 1, (.tmp 25)), (1, 1, (.tmp 27))]),
         ((some 29), none, .mv (.tmp 4)),
         ((some 30), none, .mv (.tmp 5)),
         ((some 31), none, .indexA 1 (.tmp 29) (.tmp 30)),
         ((some 32), none, .load false 1 (.tmp 31)),
         ((some 33), none, .callv (.tmp 23) [(.tmp 28), (.tmp 32)]),
         ((some 34), none, .un .not (.tmp 33))])
       (.cond (.tmp 34)
        (.ret)
        (.skip)))))
      (.reg [((some 35), none, .bin .add (.tmp 20) (.const (.int .i64 1))),
        ((some 20), none, .mv (.tmp 35))])))))))))
   (.reg [((some 36), none, .bin .add (.tmp 12) (.const (.int .i64 1))),
     ((some 12), none, .mv (.tmp 36))]))))))
theorem k51 : FnOK Try.prog 51 c51 [] 2 := ⟨by kernel_rfl, Try.f51, _, [], Try.func51, rfl, by kernel_rfl, by kernel_rfl, by decide⟩

-- slices.IndexFunc[[]gansey/api.Id,gansey/api.Id]
def c52 : Cmd :=
 .seq [0, 1] (.reg [((some 4), none, .mv (.const (.int .i64 0)))])
 (.seq [] (.seq [0, 1, 7, 8] (.reg [((some 6), none, .mv (.tmp 0)),
   ((some 7), none, .len (.tmp 6)),
   ((some 8), none, .mv (.const (.int .i64 0)))])
 (.block 0
  (.loop [0, 1, 7, 8]
   (.seq [0, 1, 7, 8, 9] (.reg [((some 9), none, .bin .lss (.tmp 8) (.tmp 7))])
   (.seq [0, 1, 7, 8] (.cond (.tmp 9)
    (.skip)
    (.exit 0))
   (.seq [0, 1, 7, 8] (.block 1
    (.seq [0, 1, 5, 7, 8] (.reg [((some 10), none, .mv (.tmp 8)),
      ((some 5), none, .mv (.tmp 10))])
    (.seq [0, 1, 5, 7, 8, 16] (.reg [((some 11), none, .mv (.tmp 1)),
      ((some 12), none, .mv (.tmp 0)),
      ((some 13), none, .mv (.tmp 5)),
      ((some 14), none, .indexA 2 (.tmp 12) (.tmp 13)),
      ((some 15), none, .load true 2 (.tmp 14)),
      ((some 16), none, .callv (.tmp 11) [(.tmp 15)])])
    (.cond (.tmp 16)
     (.seq [4] (.reg [((some 17), none, .mv (.tmp 5)),
       ((some 4), none, .mv (.tmp 17))])
     (.ret))
     (.skip)))))
   (.reg [((some 18), none, .bin .add (.tmp 8) (.const (.int .i64 1))),
     ((some 8), none, .mv (.tmp 18))])))))))
 (.seq [4] (.reg [((some 4), none, .mv (.const (.int .i64 (-1))))])
 (.ret)))
theorem k52 : FnOK Try.prog 52 c52 [.tmp 4] 2 := ⟨by kernel_rfl, Try.f52, _, [], Try.func52, rfl, by kernel_rfl, by kernel_rfl, by decide⟩

-- slices.Index[[]gansey/api.Id,gansey/api.Id]
def c53 : Cmd :=
 .seq [0, 3] (.reg [((some 3), none, .box 28 2 (.tmp 1)),
   ((some 4), none, .mv (.const (.int .i64 0)))])
 (.seq [] (.seq [0, 3, 7, 8] (.reg [((some 6), none, .mv (.tmp 0)),
   ((some 7), none, .len (.tmp 6)),
   ((some 8), none, .mv (.const (.int .i64 0)))])
 (.block 0
  (.loop [0, 3, 7, 8]
   (.seq [0, 3, 7, 8, 9] (.reg [((some 9), none, .bin .lss (.tmp 8) (.tmp 7))])
   (.seq [0, 3, 7, 8] (.cond (.tmp 9)
    (.skip)
    (.exit 0))
   (.seq [0, 3, 7, 8] (.block 1
    (.seq [0, 3, 5, 7, 8] (.reg [((some 10), none, .mv (.tmp 8)),
      ((some 5), none, .mv (.tmp 10))])
    (.seq [0, 3, 5, 7, 8, 16] (.dreg [] [((some 11), none, .load true 2 (.tmp 3)),
      ((some 12), none, .mv (.tmp 0)),
      ((some 13), none, .mv (.tmp 5)),
      ((some 14), none, .indexA 2 (.tmp 12) (.tmp 13)),
      ((some 15), none, .load true 2 (.tmp 14)),
      ((some 16), none, .eqagg false [true, true] (.tmp 11) (.tmp 15))]
     [])
    (.cond (.tmp 16)
     (.seq [4] (.reg [((some 17), none, .mv (.tmp 5)),
       ((some 4), none, .mv (.tmp 17))])
     (.ret))
     (.skip)))))
   (.reg [((some 18), none, .bin .add (.tmp 8) (.const (.int .i64 1))),
     ((some 8), none, .mv (.tmp 18))])))))))
 (.seq [4] (.reg [((some 4), none, .mv (.const (.int .i64 (-1))))])
 (.ret)))
theorem k53 : FnOK Try.prog 53 c53 [.tmp 4] 2 := ⟨by kernel_rfl, Try.f53, _, [], Try.func53, rfl, by kernel_rfl, by kernel_rfl, by decide⟩

-- gansey/stacks.with
def c54 : Cmd :=
 .seq [0, 1, 2] (.reg [((some 6), none, .mv (.const (.slice none 0 0)))])
 (.seq [0, 1, 2, 7] (.reg [((some 10), none, .mv (.tmp 0)),
   ((some 11), none, .len (.tmp 10)),
   ((some 12), none, .mv (.tmp 1)),
   ((some 13), none, .maxmin true (.tmp 11) (.tmp 12)),
   ((some 14), none, .mkslice 29 1 24 (.val (.slice none 0 0)) (.tmp 13) (.tmp 13)),
   ((some 7), none, .mv (.tmp 14))])
 (.seq [7] (.seq [0, 1, 2, 7, 16, 17] (.reg [((some 15), none, .mv (.tmp 7)),
   ((some 16), none, .len (.tmp 15)),
   ((some 17), none, .mv (.const (.int .i64 0)))])
 (.block 0
  (.loop [0, 1, 2, 7, 16, 17]
   (.seq [0, 1, 2, 7, 16, 17, 18] (.reg [((some 18), none, .bin .lss (.tmp 17) (.tmp 16))])
   (.seq [0, 1, 2, 7, 16, 17] (.cond (.tmp 18)
    (.skip)
    (.exit 0))
   (.seq [0, 1, 2, 7, 16, 17] (.block 1
    (.seq [0, 1, 2, 7, 8, 16, 17] (.reg [((some 19), none, .mv (.tmp 17)),
      ((some 8), none, .mv (.tmp 19))])
    (.seq [0, 1, 2, 7, 8, 9, 16, 17] (.reg [((some 20), none, .mv (.tmp 0)),
      ((some 21), none, .mv (.tmp 8)),
      ((some 22), none, .call 35 [(.tmp 20), (.tmp 21)]),
      ((some 9), none, .mv (.tmp 22))])
    (.seq [0, 1, 2, 7, 8, 9, 16, 17] (.seq [0, 1, 2, 7, 8, 9, 16, 17, 26] (.reg [((some 23), none, .mv (.tmp 8)),
      ((some 24), none, .mv (.tmp 1)),
      ((some 25), none, .bin .sub (.tmp 24) (.const (.int .i64 1))),
      ((some 26), none, .bin .eql (.tmp 23) (.tmp 25))])
    (.cond (.tmp 26)
     (.reg [((some 27), none, .mv (.tmp 2)),
       ((some 9), none, .mv (.tmp 27))])
     (.skip)))
    (.reg [((some 28), none, .mv (.tmp 7)),
      ((some 29), none, .mv (.tmp 8)),
      ((some 30), none, .mv (.tmp 9)),
      ((some 31), none, .call 34 [(.tmp 30)]),
      ((some 32), none, .call 33 [(.tmp 31)]),
      ((some 33), none, .indexA 1 (.tmp 28) (.tmp 29)),
      (none, none, .store 1 (.tmp 33) (.tmp 32))])))))
   (.reg [((some 34), none, .bin .add (.tmp 17) (.const (.int .i64 1))),
     ((some 17), none, .mv (.tmp 34))])))))))
 (.seq [7] (.block 2
  (.loop [7]
   (.seq [7] (.seq [7, 47] (.reg [((some 35), none, .mv (.tmp 7)),
     ((some 36), none, .len (.tmp 35)),
     ((some 37), none, .bin .gtr (.tmp 36) (.const (.int .i64 0))),
     ((some 38), none, .mv (.tmp 37)),
     ((some 39), (some (38, true)), .mv (.tmp 7)),
     ((some 40), (some (38, true)), .mv (.tmp 7)),
     ((some 41), (some (38, true)), .len (.tmp 40)),
     ((some 42), (some (38, true)), .bin .sub (.tmp 41) (.const (.int .i64 1))),
     ((some 43), (some (38, true)), .indexA 1 (.tmp 39) (.tmp 42)),
     ((some 44), (some (38, true)), .load false 1 (.tmp 43)),
     ((some 45), (some (38, true)), .len (.tmp 44)),
     ((some 46), (some (38, true)), .bin .eql (.tmp 45) (.const (.int .i64 0))),
     ((some 47), none, .pick (.tmp 38) (.tmp 46) (.const (.bool false)))])
   (.cond (.tmp 47)
    (.skip)
    (.exit 2)))
   (.block 3
    (.reg [((some 48), none, .mv (.tmp 7)),
      ((some 49), none, .mv (.tmp 7)),
      ((some 50), none, .len (.tmp 49)),
      ((some 51), none, .bin .sub (.tmp 50) (.const (.int .i64 1))),
      ((some 52), none, .slice 1 (.tmp 48) none (some (.tmp 51)) none),
      ((some 7), none, .mv (.tmp 52))])))))
 (.seq [6] (.reg [((some 53), none, .mv (.tmp 7)),
   ((some 54), none, .call 71 [(.tmp 53)]),
   ((some 55), none, .call 70 [(.tmp 54)]),
   ((some 6), none, .mv (.tmp 55))])
 (.ret)))))
theorem k54 : FnOK Try.prog 54 c54 [.tmp 6] 3 := ⟨by kernel_rfl, Try.f54, _, [], Try.func54, rfl, by kernel_rfl, by kernel_rfl, by decide⟩

-- slices.Grow[[]gansey/api.Id,gansey/api.Id]
def c55 : Cmd :=
 .seq [0, 1] (.reg [((some 4), none, .mv (.const (.slice none 0 0)))])
 (.seq [0, 1] (.seq [0, 1, 6] (.reg [((some 5), none, .mv (.tmp 1)),
   ((some 6), none, .bin .lss (.tmp 5) (.const (.int .i64 0)))])
 (.cond (.tmp 6)
  (.reg [((some 7), none, .dead),
    (none, none, .dead)])
  (.skip)))
 (.seq [0] (.seq [0, 1] (.reg [((some 8), none, .mv (.tmp 1)),
   ((some 9), none, .mv (.tmp 0)),
   ((some 10), none, .cap (.tmp 9)),
   ((some 11), none, .mv (.tmp 0)),
   ((some 12), none, .len (.tmp 11)),
   ((some 13), none, .bin .sub (.tmp 10) (.tmp 12)),
   ((some 14), none, .bin .sub (.tmp 8) (.tmp 13)),
   ((some 1), none, .mv (.tmp 14))])
 (.seq [0, 1, 16] (.reg [((some 15), none, .mv (.tmp 1)),
   ((some 16), none, .bin .gtr (.tmp 15) (.const (.int .i64 0)))])
 (.cond (.tmp 16)
  (.reg [((some 17), none, .mv (.tmp 0)),
    ((some 18), none, .mv (.tmp 0)),
    ((some 19), none, .cap (.tmp 18)),
    ((some 20), none, .slice 2 (.tmp 17) none (some (.tmp 19)) none),
    ((some 21), none, .mv (.tmp 1)),
    ((some 22), none, .appz 28 2 16 (.agg [(.val (.int .u8 0)), (.val (.int .i64 0))]) (.tmp 20) (.tmp 21)),
    ((some 23), none, .mv (.tmp 0)),
    ((some 24), none, .len (.tmp 23)),
    ((some 25), none, .slice 2 (.tmp 22) none (some (.tmp 24)) none),
    ((some 0), none, .mv (.tmp 25))])
  (.skip))))
 (.seq [4] (.reg [((some 26), none, .mv (.tmp 0)),
   ((some 4), none, .mv (.tmp 26))])
 (.ret))))
theorem k55 : FnOK Try.prog 55 c55 [.tmp 4] 2 := ⟨by kernel_rfl, Try.f55, _, [22], Try.func55, rfl, by kernel_rfl, by kernel_rfl, by decide⟩

-- slices.Clip[[][]gansey/api.Id,[]gansey/api.Id]
def c70 : Cmd :=
 .seq [0] (.reg [((some 2), none, .mv (.const (.slice none 0 0)))])
 (.seq [2] (.reg [((some 3), none, .mv (.tmp 0)),
   ((some 4), none, .mv (.tmp 0)),
   ((some 5), none, .len (.tmp 4)),
   ((some 6), none, .mv (.tmp 0)),
   ((some 7), none, .len (.tmp 6)),
   ((some 8), none, .slice 1 (.tmp 3) none (some (.tmp 5)) (some (.tmp 7))),
   ((some 2), none, .mv (.tmp 8))])
 (.ret))
theorem k70 : FnOK Try.prog 70 c70 [.tmp 2] 1 := ⟨by kernel_rfl, Try.f70, _, [], Try.func70, rfl, by kernel_rfl, by kernel_rfl, by decide⟩

-- slices.Clone[[][]gansey/api.Id,[]gansey/api.Id]
def c71 : Cmd :=
 .seq [0] (.reg [((some 2), none, .mv (.const (.slice none 0 0)))])
 (.seq [0] (.seq [0, 4] (.reg [((some 3), none, .mv (.tmp 0)),
   ((some 4), none, .eqnil 0 false (.tmp 3))])
 (.cond (.tmp 4)
  (.seq [2] (.reg [((some 2), none, .mv (.const (.slice none 0 0)))])
  (.ret))
  (.skip)))
 (.seq [2] (.reg [((some 5), none, .blist 1 []),
   ((some 6), none, .mv (.tmp 0)),
   ((some 7), none, .append false 29 1 24 (.tmp 5) (.tmp 6)),
   ((some 2), none, .mv (.tmp 7))])
 (.ret)))
theorem k71 : FnOK Try.prog 71 c71 [.tmp 2] 1 := ⟨by kernel_rfl, Try.f71, _, [], Try.func71, rfl, by kernel_rfl, by kernel_rfl, by decide⟩

end Go.Proofs.Ytlpngkeegjickaa
