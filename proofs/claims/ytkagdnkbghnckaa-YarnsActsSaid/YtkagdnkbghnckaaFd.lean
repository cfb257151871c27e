/- The law YarnsActs of the given program: for every input the call returns true, and its arguments read as before. Here: the functions as commands. -/
import Derived.Test.YtkagdnkbghnckaaFb
import Derived.Test.YtkagdnkbghnckaaProg
namespace Go.Proofs.Ytkagdnkbghnckaa
open Go.Ab
-- gansey/ganseylaw02.YarnsReduce
def c3 : Cmd :=
 .seq [0, 1] (.reg [((some 4), none, .mv (.const (.bool false)))])
 (.seq [0, 1] (.seq [0, 1, 17] (.reg [((some 10), none, .mv (.tmp 0)),
   ((some 11), none, .len (.tmp 10)),
   ((some 12), none, .bin .gtr (.tmp 11) (.const (.int .i64 40))),
   ((some 13), none, .mv (.tmp 12)),
   ((some 14), (some (13, false)), .mv (.tmp 1)),
   ((some 15), (some (13, false)), .len (.tmp 14)),
   ((some 16), (some (13, false)), .bin .gtr (.tmp 15) (.const (.int .i64 5))),
   ((some 17), none, .pick (.tmp 13) (.const (.bool true)) (.tmp 16))])
 (.cond (.tmp 17)
  (.seq [4] (.reg [((some 18), none, .call 9 []),
    ((some 4), none, .mv (.tmp 18))])
  (.ret))
  (.skip)))
 (.seq [5] (.reg [((some 19), none, .blist 4 []),
   ((some 20), none, .mv (.tmp 1)),
   ((some 21), none, .append true 33 4 24 (.tmp 19) (.tmp 20)),
   ((some 22), none, .mv (.tmp 0)),
   ((some 23), none, .call 10 [(.tmp 22)]),
   ((some 24), none, .append false 33 4 24 (.tmp 21) (.tmp 23)),
   ((some 5), none, .mv (.tmp 24))])
 (.seq [5, 6] (.reg [((some 25), none, .mv (.tmp 5)),
   ((some 26), none, .len (.tmp 25)),
   ((some 27), none, .mkslice 33 4 24 (.agg [(.val (.int .u8 0)), (.val (.int .i64 0)), (.val (.bool false)), (.val (.int .u8 0))]) (.const (.int .i64 0)) (.tmp 26)),
   ((some 28), none, .mv (.tmp 5)),
   ((some 29), none, .append false 33 4 24 (.tmp 27) (.tmp 28)),
   ((some 6), none, .mv (.tmp 29))])
 (.seq [5, 6, 7] (.reg [((some 30), none, .mv (.tmp 5)),
   ((some 31), none, .call 11 [(.tmp 30)]),
   ((some 7), none, .mv (.tmp 31))])
 (.seq [5, 6, 7, 8] (.reg [((some 32), none, .mv (.tmp 5)),
   ((some 33), none, .call 12 [(.tmp 32)]),
   ((some 8), none, .mv (.tmp 33))])
 (.seq [7] (.seq [7, 50] (.reg [((some 34), none, .mv (.tmp 7)),
   ((some 35), none, .mv (.tmp 8)),
   ((some 36), none, .call 13 [(.tmp 34), (.tmp 35)]),
   ((some 37), none, .bin .eql (.tmp 36) (.const (.int .i64 0))),
   ((some 38), none, .mv (.tmp 37)),
   ((some 39), (some (38, false)), .mv (.tmp 7)),
   ((some 40), (some (38, false)), .mv (.tmp 5)),
   ((some 41), (some (38, false)), .call 14 [(.tmp 40)]),
   ((some 42), (some (38, false)), .call 13 [(.tmp 39), (.tmp 41)]),
   ((some 43), (some (38, false)), .bin .eql (.tmp 42) (.const (.int .i64 0))),
   ((some 44), none, .pick (.tmp 38) (.const (.bool true)) (.tmp 43)),
   ((some 45), none, .mv (.tmp 44)),
   ((some 46), (some (45, false)), .mv (.tmp 6)),
   ((some 47), (some (45, false)), .mv (.tmp 5)),
   ((some 48), (some (45, false)), .call 13 [(.tmp 46), (.tmp 47)]),
   ((some 49), (some (45, false)), .bin .eql (.tmp 48) (.const (.int .i64 0))),
   ((some 50), none, .pick (.tmp 45) (.const (.bool true)) (.tmp 49))])
 (.cond (.tmp 50)
  (.seq [4] (.reg [((some 4), none, .mv (.const (.bool false)))])
  (.ret))
  (.skip)))
 (.seq [7] (.seq [7, 9] (.reg [((some 9), none, .mv (.const (.int .i64 0)))])
 (.block 0
  (.loop [7, 9]
   (.seq [7, 9] (.seq [7, 9, 55] (.reg [((some 51), none, .mv (.tmp 9)),
     ((some 52), none, .bin .add (.tmp 51) (.const (.int .i64 1))),
     ((some 53), none, .mv (.tmp 7)),
     ((some 54), none, .len (.tmp 53)),
     ((some 55), none, .bin .lss (.tmp 52) (.tmp 54))])
   (.cond (.tmp 55)
    (.skip)
    (.exit 0)))
   (.seq [7, 9] (.block 1
    (.seq [7, 9, 68] (.dreg [] [((some 58), none, .mv (.tmp 7)),
      ((some 59), none, .mv (.tmp 9)),
      ((some 60), none, .indexA 4 (.tmp 58) (.tmp 59)),
      ((some 61), none, .load true 4 (.tmp 60)),
      ((some 62), none, .mv (.tmp 7)),
      ((some 63), none, .mv (.tmp 9)),
      ((some 64), none, .bin .add (.tmp 63) (.const (.int .i64 1))),
      ((some 65), none, .indexA 4 (.tmp 62) (.tmp 64)),
      ((some 66), none, .load true 4 (.tmp 65)),
      ((some 67), none, .call 15 [(.tmp 61), (.tmp 66)]),
      ((some 68), none, .bin .eql (.tmp 67) (.const (.int .i64 1)))]
     [])
    (.cond (.tmp 68)
     (.seq [4] (.reg [((some 4), none, .mv (.const (.bool false)))])
     (.ret))
     (.skip))))
   (.reg [((some 56), none, .mv (.tmp 9)),
     ((some 57), none, .bin .add (.tmp 56) (.const (.int .i64 1))),
     ((some 9), none, .mv (.tmp 57))]))))))
 (.seq [4] (.reg [((some 69), none, .mv (.tmp 7)),
   ((some 70), none, .call 11 [(.tmp 69)]),
   ((some 71), none, .mv (.tmp 7)),
   ((some 72), none, .call 13 [(.tmp 70), (.tmp 71)]),
   ((some 73), none, .bin .eql (.tmp 72) (.const (.int .i64 1))),
   ((some 74), none, .mv (.tmp 73)),
   ((some 75), (some (74, true)), .call 9 []),
   ((some 76), none, .pick (.tmp 74) (.tmp 75) (.const (.bool false))),
   ((some 4), none, .mv (.tmp 76))])
 (.ret)))))))))
theorem k3 : FnOK Try.prog 3 c3 [.tmp 4] 2 := ⟨by kernel_rfl, Try.f3, _, [21], Try.func3, rfl, by kernel_rfl, by kernel_rfl, by decide⟩

-- gansey/ganseylaw02.YarnsInverse
def c4 : Cmd :=
 .seq [0, 1, 2] (.reg [((some 6), none, .mv (.const (.bool false)))])
 (.seq [0, 1, 2] (.seq [0, 1, 2, 27] (.reg [((some 15), none, .mv (.tmp 0)),
   ((some 16), none, .len (.tmp 15)),
   ((some 17), none, .bin .gtr (.tmp 16) (.const (.int .i64 20))),
   ((some 18), none, .mv (.tmp 17)),
   ((some 19), (some (18, false)), .mv (.tmp 1)),
   ((some 20), (some (18, false)), .len (.tmp 19)),
   ((some 21), (some (18, false)), .bin .gtr (.tmp 20) (.const (.int .i64 20))),
   ((some 22), none, .pick (.tmp 18) (.const (.bool true)) (.tmp 21)),
   ((some 23), none, .mv (.tmp 22)),
   ((some 24), (some (23, false)), .mv (.tmp 2)),
   ((some 25), (some (23, false)), .len (.tmp 24)),
   ((some 26), (some (23, false)), .bin .gtr (.tmp 25) (.const (.int .i64 20))),
   ((some 27), none, .pick (.tmp 23) (.const (.bool true)) (.tmp 26))])
 (.cond (.tmp 27)
  (.seq [6] (.reg [((some 28), none, .call 9 []),
    ((some 6), none, .mv (.tmp 28))])
  (.ret))
  (.skip)))
 (.seq [2, 7, 8] (.reg [((some 29), none, .mv (.tmp 0)),
   ((some 30), none, .call 10 [(.tmp 29)]),
   ((some 31), none, .mv (.tmp 1)),
   ((some 32), none, .call 10 [(.tmp 31)]),
   ((some 7), none, .mv (.tmp 30)),
   ((some 8), none, .mv (.tmp 32))])
 (.seq [2, 7, 8, 9] (.reg [((some 33), none, .mv (.tmp 7)),
   ((some 34), none, .call 16 [(.tmp 33)]),
   ((some 9), none, .mv (.tmp 34))])
 (.seq [2, 7, 8] (.seq [2, 7, 8, 49] (.reg [((some 35), none, .blist 4 []),
   ((some 36), none, .mv (.tmp 7)),
   ((some 37), none, .append true 33 4 24 (.tmp 35) (.tmp 36)),
   ((some 38), none, .mv (.tmp 9)),
   ((some 39), none, .append false 33 4 24 (.tmp 37) (.tmp 38)),
   ((some 40), none, .call 11 [(.tmp 39)]),
   ((some 41), none, .len (.tmp 40)),
   ((some 42), none, .bin .neq (.tmp 41) (.const (.int .i64 0))),
   ((some 43), none, .mv (.tmp 42)),
   ((some 44), (some (43, false)), .mv (.tmp 9)),
   ((some 45), (some (43, false)), .call 16 [(.tmp 44)]),
   ((some 46), (some (43, false)), .mv (.tmp 7)),
   ((some 47), (some (43, false)), .call 13 [(.tmp 45), (.tmp 46)]),
   ((some 48), (some (43, false)), .bin .eql (.tmp 47) (.const (.int .i64 0))),
   ((some 49), none, .pick (.tmp 43) (.const (.bool true)) (.tmp 48))])
 (.cond (.tmp 49)
  (.seq [6] (.reg [((some 6), none, .mv (.const (.bool false)))])
  (.ret))
  (.skip)))
 (.seq [2, 7, 8, 10] (.reg [((some 50), none, .blist 4 []),
   ((some 51), none, .mv (.tmp 7)),
   ((some 52), none, .append true 33 4 24 (.tmp 50) (.tmp 51)),
   ((some 53), none, .mv (.tmp 8)),
   ((some 54), none, .append false 33 4 24 (.tmp 52) (.tmp 53)),
   ((some 55), none, .call 11 [(.tmp 54)]),
   ((some 10), none, .mv (.tmp 55))])
 (.seq [2, 10, 11] (.reg [((some 56), none, .blist 4 []),
   ((some 57), none, .mv (.tmp 7)),
   ((some 58), none, .call 11 [(.tmp 57)]),
   ((some 59), none, .append true 33 4 24 (.tmp 56) (.tmp 58)),
   ((some 60), none, .mv (.tmp 8)),
   ((some 61), none, .call 11 [(.tmp 60)]),
   ((some 62), none, .append false 33 4 24 (.tmp 59) (.tmp 61)),
   ((some 63), none, .call 11 [(.tmp 62)]),
   ((some 11), none, .mv (.tmp 63))])
 (.seq [2] (.seq [2, 67] (.reg [((some 64), none, .mv (.tmp 10)),
   ((some 65), none, .mv (.tmp 11)),
   ((some 66), none, .call 13 [(.tmp 64), (.tmp 65)]),
   ((some 67), none, .bin .eql (.tmp 66) (.const (.int .i64 0)))])
 (.cond (.tmp 67)
  (.seq [6] (.reg [((some 6), none, .mv (.const (.bool false)))])
  (.ret))
  (.skip)))
 (.seq [2, 12] (.reg [((some 68), none, .mv (.tmp 2)),
   ((some 69), none, .call 16 [(.tmp 68)]),
   ((some 12), none, .mv (.tmp 69))])
 (.seq [2, 12] (.seq [2, 12, 81] (.reg [((some 70), none, .mv (.tmp 12)),
   ((some 71), none, .len (.tmp 70)),
   ((some 72), none, .mv (.tmp 2)),
   ((some 73), none, .len (.tmp 72)),
   ((some 74), none, .bin .neq (.tmp 71) (.tmp 73)),
   ((some 75), none, .mv (.tmp 74)),
   ((some 76), (some (75, false)), .mv (.tmp 12)),
   ((some 77), (some (75, false)), .cap (.tmp 76)),
   ((some 78), (some (75, false)), .mv (.tmp 12)),
   ((some 79), (some (75, false)), .len (.tmp 78)),
   ((some 80), (some (75, false)), .bin .neq (.tmp 77) (.tmp 79)),
   ((some 81), none, .pick (.tmp 75) (.const (.bool true)) (.tmp 80))])
 (.cond (.tmp 81)
  (.seq [6] (.reg [((some 6), none, .mv (.const (.bool false)))])
  (.ret))
  (.skip)))
 (.seq [] (.seq [2, 12, 13] (.reg [((some 13), none, .mv (.const (.int .i64 0)))])
 (.block 0
  (.loop [2, 12, 13]
   (.seq [2, 12, 13] (.seq [2, 12, 13, 85] (.reg [((some 82), none, .mv (.tmp 13)),
     ((some 83), none, .mv (.tmp 2)),
     ((some 84), none, .len (.tmp 83)),
     ((some 85), none, .bin .lss (.tmp 82) (.tmp 84))])
   (.cond (.tmp 85)
    (.skip)
    (.exit 0)))
   (.seq [2, 12, 13] (.block 1
    (.seq [2, 12, 13, 14] (.reg [((some 88), none, .mv (.tmp 2)),
      ((some 89), none, .mv (.tmp 2)),
      ((some 90), none, .len (.tmp 89)),
      ((some 91), none, .bin .sub (.tmp 90) (.const (.int .i64 1))),
      ((some 92), none, .mv (.tmp 13)),
      ((some 93), none, .bin .sub (.tmp 91) (.tmp 92)),
      ((some 94), none, .indexA 4 (.tmp 88) (.tmp 93)),
      ((some 95), none, .load true 4 (.tmp 94)),
      ((some 14), none, .alloc 33 4 (.agg [(.val (.int .u8 0)), (.val (.int .i64 0)), (.val (.bool false)), (.val (.int .u8 0))])),
      (none, none, .store 4 (.tmp 14) (.tmp 95))])
    (.seq [2, 12, 13, 14] (.seq [2, 12, 13, 14, 98] (.reg [((some 96), none, .fieldA 3 1 false (.tmp 14)),
      ((some 97), none, .load false 1 (.tmp 96)),
      ((some 98), none, .bin .eql (.tmp 97) (.const (.int .u8 1)))])
    (.cond (.tmp 98)
     (.reg [((some 99), none, .fieldA 3 1 false (.tmp 14)),
       (none, none, .store 1 (.tmp 99) (.const (.int .u8 0)))])
     (.reg [((some 100), none, .fieldA 3 1 false (.tmp 14)),
       (none, none, .store 1 (.tmp 100) (.const (.int .u8 1)))])))
    (.seq [2, 12, 13, 106] (.dreg [] [((some 101), none, .mv (.tmp 12)),
      ((some 102), none, .mv (.tmp 13)),
      ((some 103), none, .indexA 4 (.tmp 101) (.tmp 102)),
      ((some 104), none, .load true 4 (.tmp 103)),
      ((some 105), none, .load true 4 (.tmp 14)),
      ((some 106), none, .eqagg true [true, true, false, true] (.tmp 104) (.tmp 105))]
     [])
    (.cond (.tmp 106)
     (.seq [6] (.reg [((some 6), none, .mv (.const (.bool false)))])
     (.ret))
     (.skip))))))
   (.reg [((some 86), none, .mv (.tmp 13)),
     ((some 87), none, .bin .add (.tmp 86) (.const (.int .i64 1))),
     ((some 13), none, .mv (.tmp 87))]))))))
 (.seq [6] (.reg [((some 107), none, .call 9 []),
   ((some 6), none, .mv (.tmp 107))])
 (.ret))))))))))))
theorem k4 : FnOK Try.prog 4 c4 [.tmp 6] 3 := ⟨by kernel_rfl, Try.f4, _, [37, 52, 59], Try.func4, rfl, by kernel_rfl, by kernel_rfl, by decide⟩

-- gansey/ganseylaw02.YarnsBack
def c5 : Cmd :=
 .seq [0, 1, 5] (.reg [((some 5), none, .box 36 2 (.tmp 2)),
   ((some 6), none, .mv (.const (.bool false)))])
 (.seq [0, 1, 5] (.seq [0, 1, 5, 22] (.reg [((some 15), none, .mv (.tmp 0)),
   ((some 16), none, .len (.tmp 15)),
   ((some 17), none, .bin .gtr (.tmp 16) (.const (.int .i64 20))),
   ((some 18), none, .mv (.tmp 17)),
   ((some 19), (some (18, false)), .mv (.tmp 1)),
   ((some 20), (some (18, false)), .len (.tmp 19)),
   ((some 21), (some (18, false)), .bin .gtr (.tmp 20) (.const (.int .i64 20))),
   ((some 22), none, .pick (.tmp 18) (.const (.bool true)) (.tmp 21))])
 (.cond (.tmp 22)
  (.seq [6] (.reg [((some 23), none, .call 9 []),
    ((some 6), none, .mv (.tmp 23))])
  (.ret))
  (.skip)))
 (.seq [0, 1, 7, 8] (.dreg [] [((some 24), none, .indexP 2 1 false (.tmp 5) (.const (.int .i64 0))),
   ((some 25), none, .load false 1 (.tmp 24)),
   ((some 26), none, .bin .rem (.tmp 25) (.const (.int .u8 97))),
   ((some 27), none, .convi .i64 (.tmp 26)),
   ((some 28), none, .bin .mul (.const (.int .i64 2)) (.tmp 27)),
   ((some 29), none, .bin .add (.const (.int .i64 (-13))) (.tmp 28)),
   ((some 30), none, .indexP 2 1 false (.tmp 5) (.const (.int .i64 1))),
   ((some 31), none, .load false 1 (.tmp 30)),
   ((some 32), none, .bin .rem (.tmp 31) (.const (.int .u8 97))),
   ((some 33), none, .convi .i64 (.tmp 32)),
   ((some 34), none, .bin .mul (.const (.int .i64 2)) (.tmp 33)),
   ((some 35), none, .bin .add (.const (.int .i64 (-13))) (.tmp 34)),
   ((some 7), none, .mv (.tmp 29))]
  [((some 8), none, .mv (.tmp 35))])
 (.seq [0, 1, 7, 8, 9, 10] (.reg [((some 37), none, .build [(.val (.bool false)), (.val (.int .i64 0)), (.val (.int .i64 0)), (.val (.bool false)), (.val (.slice none 0 0))] [(2, 1, (.const (.int .i64 5)))]),
   ((some 38), none, .call 17 [(.tmp 37), (.const (.int .u8 0))]),
   ((some 36), none, .mv (.tmp 38)),
   ((some 39), none, .extract (.tmp 36) 0),
   ((some 40), none, .extract (.tmp 36) 1),
   ((some 9), none, .alloc 38 5 (.agg [(.val (.bool false)), (.val (.int .i64 0)), (.val (.int .i64 0)), (.val (.bool false)), (.val (.slice none 0 0))])),
   (none, none, .store 5 (.tmp 9) (.tmp 39)),
   ((some 10), none, .mv (.tmp 40))])
 (.seq [0, 1, 7, 8, 9] (.seq [0, 1, 7, 8, 9, 42] (.reg [((some 41), none, .mv (.tmp 10)),
   ((some 42), none, .bin .neq (.tmp 41) (.const (.int .i64 0)))])
 (.cond (.tmp 42)
  (.seq [6] (.reg [((some 6), none, .mv (.const (.bool false)))])
  (.ret))
  (.skip)))
 (.seq [1, 7, 8, 9, 10] (.sreg [] [((some 44), none, .load true 5 (.tmp 9)),
   ((some 45), none, .mv (.tmp 7)),
   ((some 46), none, .mv (.tmp 0)),
   ((some 47), none, .call 10 [(.tmp 46)]),
   ((some 48), none, .call 18 [(.tmp 44), (.tmp 45), (.tmp 47)]),
   ((some 43), none, .mv (.tmp 48)),
   ((some 49), none, .extract (.tmp 43) 0),
   ((some 50), none, .extract (.tmp 43) 1)]
  []
  [((some 50), none, .extract (.tmp 43) 1)]
  [((none, none, .store 5 (.tmp 9) (.tmp 49)), [((some 50), none, .extract (.tmp 43) 1)]), (((some 10), none, .mv (.tmp 50)), [])])
 (.seq [1, 7, 8, 9, 10, 11, 12] (.sreg [] [((some 52), none, .load true 5 (.tmp 9)),
   ((some 53), none, .mv (.tmp 8)),
   ((some 54), none, .mv (.tmp 1)),
   ((some 55), none, .call 10 [(.tmp 54)]),
   ((some 56), none, .call 18 [(.tmp 52), (.tmp 53), (.tmp 55)]),
   ((some 51), none, .mv (.tmp 56)),
   ((some 57), none, .extract (.tmp 51) 0),
   ((some 58), none, .extract (.tmp 51) 1),
   ((some 11), none, .alloc 38 5 (.agg [(.val (.bool false)), (.val (.int .i64 0)), (.val (.int .i64 0)), (.val (.bool false)), (.val (.slice none 0 0))]))]
  [((some 11), none, .alloc 38 5 (.agg [(.val (.bool false)), (.val (.int .i64 0)), (.val (.int .i64 0)), (.val (.bool false)), (.val (.slice none 0 0))]))]
  [((some 58), none, .extract (.tmp 51) 1)]
  [((none, none, .store 5 (.tmp 11) (.tmp 57)), [((some 58), none, .extract (.tmp 51) 1)]), (((some 12), none, .mv (.tmp 58)), [])])
 (.seq [8, 9, 10, 11, 12, 13, 14] (.sreg [] [((some 60), none, .load true 5 (.tmp 11)),
   ((some 61), none, .mv (.tmp 7)),
   ((some 62), none, .mv (.tmp 1)),
   ((some 63), none, .call 10 [(.tmp 62)]),
   ((some 64), none, .call 16 [(.tmp 63)]),
   ((some 65), none, .call 18 [(.tmp 60), (.tmp 61), (.tmp 64)]),
   ((some 59), none, .mv (.tmp 65)),
   ((some 66), none, .extract (.tmp 59) 0),
   ((some 67), none, .extract (.tmp 59) 1),
   ((some 13), none, .alloc 38 5 (.agg [(.val (.bool false)), (.val (.int .i64 0)), (.val (.int .i64 0)), (.val (.bool false)), (.val (.slice none 0 0))]))]
  [((some 13), none, .alloc 38 5 (.agg [(.val (.bool false)), (.val (.int .i64 0)), (.val (.int .i64 0)), (.val (.bool false)), (.val (.slice none 0 0))]))]
  [((some 67), none, .extract (.tmp 59) 1)]
  [((none, none, .store 5 (.tmp 13) (.tmp 66)), [((some 67), none, .extract (.tmp 59) 1)]), (((some 14), none, .mv (.tmp 67)), [])])
 (.seq [8, 9, 11, 13] (.seq [8, 9, 11, 13, 77] (.reg [((some 68), none, .mv (.tmp 10)),
   ((some 69), none, .bin .neq (.tmp 68) (.const (.int .i64 0))),
   ((some 70), none, .mv (.tmp 69)),
   ((some 71), (some (70, false)), .mv (.tmp 12)),
   ((some 72), (some (70, false)), .bin .neq (.tmp 71) (.const (.int .i64 0))),
   ((some 73), none, .pick (.tmp 70) (.const (.bool true)) (.tmp 72)),
   ((some 74), none, .mv (.tmp 73)),
   ((some 75), (some (74, false)), .mv (.tmp 14)),
   ((some 76), (some (74, false)), .bin .neq (.tmp 75) (.const (.int .i64 0))),
   ((some 77), none, .pick (.tmp 74) (.const (.bool true)) (.tmp 76))])
 (.cond (.tmp 77)
  (.seq [6] (.reg [((some 6), none, .mv (.const (.bool false)))])
  (.ret))
  (.skip)))
 (.seq [6] (.reg [((some 78), none, .fieldA 1 1 false (.tmp 13)),
   ((some 79), none, .load false 1 (.tmp 78)),
   ((some 80), none, .fieldA 1 1 false (.tmp 9)),
   ((some 81), none, .load false 1 (.tmp 80)),
   ((some 82), none, .bin .eql (.tmp 79) (.tmp 81)),
   ((some 83), none, .mv (.tmp 82)),
   ((some 84), (some (83, true)), .fieldA 2 1 false (.tmp 13)),
   ((some 85), (some (83, true)), .load false 1 (.tmp 84)),
   ((some 86), (some (83, true)), .bin .eql (.tmp 85) (.const (.int .i64 5))),
   ((some 87), none, .pick (.tmp 83) (.tmp 86) (.const (.bool false))),
   ((some 88), none, .mv (.tmp 87)),
   ((some 89), (some (88, true)), .fieldA 3 1 false (.tmp 13)),
   ((some 90), (some (88, true)), .load false 1 (.tmp 89)),
   ((some 91), none, .pick (.tmp 88) (.tmp 90) (.const (.bool false))),
   ((some 92), none, .mv (.tmp 91)),
   ((some 93), (some (92, true)), .fieldA 1 1 false (.tmp 11)),
   ((some 94), (some (92, true)), .load false 1 (.tmp 93)),
   ((some 95), (some (92, true)), .mv (.tmp 8)),
   ((some 96), (some (92, true)), .bin .eql (.tmp 94) (.tmp 95)),
   ((some 97), none, .pick (.tmp 92) (.tmp 96) (.const (.bool false))),
   ((some 98), none, .mv (.tmp 97)),
   ((some 99), (some (98, true)), .fieldA 4 1 false (.tmp 13)),
   ((some 100), (some (98, true)), .load false 1 (.tmp 99)),
   ((some 101), (some (98, true)), .fieldA 4 1 false (.tmp 9)),
   ((some 102), (some (98, true)), .load false 1 (.tmp 101)),
   ((some 103), (some (98, true)), .call 13 [(.tmp 100), (.tmp 102)]),
   ((some 104), (some (98, true)), .bin .eql (.tmp 103) (.const (.int .i64 1))),
   ((some 105), none, .pick (.tmp 98) (.tmp 104) (.const (.bool false))),
   ((some 106), none, .mv (.tmp 105)),
   ((some 107), (some (106, true)), .call 9 []),
   ((some 108), none, .pick (.tmp 106) (.tmp 107) (.const (.bool false))),
   ((some 6), none, .mv (.tmp 108))])
 (.ret))))))))))
theorem k5 : FnOK Try.prog 5 c5 [.tmp 6] 3 := ⟨by kernel_rfl, Try.f5, _, [], Try.func5, rfl, by kernel_rfl, by kernel_rfl, by decide⟩

-- gansey/ganseylaw02.YarnsLimits
def c6 : Cmd :=
 .seq [0, 3] (.reg [((some 3), none, .box 33 4 (.tmp 1)),
   ((some 4), none, .mv (.const (.bool false)))])
 (.seq [3, 5] (.reg [((some 13), none, .mv (.tmp 0)),
   ((some 14), none, .bin .rem (.tmp 13) (.const (.int .u8 6))),
   ((some 15), none, .convi .i64 (.tmp 14)),
   ((some 16), none, .bin .add (.const (.int .i64 4093)) (.tmp 15)),
   ((some 5), none, .mv (.tmp 16))])
 (.seq [3, 5, 6] (.reg [((some 17), none, .mv (.tmp 5)),
   ((some 18), none, .mkslice 33 4 24 (.agg [(.val (.int .u8 0)), (.val (.int .i64 0)), (.val (.bool false)), (.val (.int .u8 0))]) (.tmp 17) (.tmp 17)),
   ((some 6), none, .mv (.tmp 18))])
 (.seq [3, 5, 6] (.seq [3, 5, 6, 7] (.reg [((some 7), none, .mv (.const (.int .i64 0)))])
 (.block 0
  (.loop [3, 5, 6, 7]
   (.seq [3, 5, 6, 7] (.seq [3, 5, 6, 7, 21] (.reg [((some 19), none, .mv (.tmp 7)),
     ((some 20), none, .mv (.tmp 5)),
     ((some 21), none, .bin .lss (.tmp 19) (.tmp 20))])
   (.cond (.tmp 21)
    (.skip)
    (.exit 0)))
   (.seq [3, 5, 6, 7] (.block 1
    (.reg [((some 24), none, .mv (.tmp 6)),
      ((some 25), none, .mv (.tmp 7)),
      ((some 26), none, .mv (.tmp 7)),
      ((some 27), none, .bin .rem (.tmp 26) (.const (.int .i64 2))),
      ((some 28), none, .build [(.val (.int .u8 0)), (.val (.int .i64 0))] [(0, 1, (.const (.int .u8 1))), (1, 1, (.tmp 27))]),
      ((some 29), none, .build [(.val (.int .u8 0)), (.val (.int .i64 0)), (.val (.bool false)), (.val (.int .u8 0))] [(0, 2, (.tmp 28)), (3, 1, (.const (.int .u8 1)))]),
      ((some 30), none, .indexA 4 (.tmp 24) (.tmp 25)),
      (none, none, .store 4 (.tmp 30) (.tmp 29))]))
   (.reg [((some 22), none, .mv (.tmp 7)),
     ((some 23), none, .bin .add (.tmp 22) (.const (.int .i64 1))),
     ((some 7), none, .mv (.tmp 23))]))))))
 (.seq [3, 5, 6, 8, 9] (.reg [((some 32), none, .build [(.val (.bool false)), (.val (.int .i64 0)), (.val (.int .i64 0)), (.val (.bool false)), (.val (.slice none 0 0))] []),
   ((some 33), none, .call 17 [(.tmp 32), (.const (.int .u8 0))]),
   ((some 31), none, .mv (.tmp 33)),
   ((some 34), none, .extract (.tmp 31) 0),
   ((some 35), none, .extract (.tmp 31) 1),
   ((some 8), none, .alloc 38 5 (.agg [(.val (.bool false)), (.val (.int .i64 0)), (.val (.int .i64 0)), (.val (.bool false)), (.val (.slice none 0 0))])),
   (none, none, .store 5 (.tmp 8) (.tmp 34)),
   ((some 9), none, .mv (.tmp 35))])
 (.seq [3, 5, 6, 8] (.seq [3, 5, 6, 8, 37] (.reg [((some 36), none, .mv (.tmp 9)),
   ((some 37), none, .bin .neq (.tmp 36) (.const (.int .i64 0)))])
 (.cond (.tmp 37)
  (.seq [4] (.reg [((some 4), none, .mv (.const (.bool false)))])
  (.ret))
  (.skip)))
 (.seq [3, 5, 6, 8, 9, 10] (.reg [((some 39), none, .load true 5 (.tmp 8)),
   ((some 40), none, .mv (.tmp 6)),
   ((some 41), none, .call 18 [(.tmp 39), (.const (.int .i64 1)), (.tmp 40)]),
   ((some 38), none, .mv (.tmp 41)),
   ((some 42), none, .extract (.tmp 38) 0),
   ((some 43), none, .extract (.tmp 38) 1),
   ((some 10), none, .alloc 38 5 (.agg [(.val (.bool false)), (.val (.int .i64 0)), (.val (.int .i64 0)), (.val (.bool false)), (.val (.slice none 0 0))])),
   (none, none, .store 5 (.tmp 10) (.tmp 42)),
   ((some 9), none, .mv (.tmp 43))])
 (.seq [3, 5, 6, 8, 9, 10, 11] (.reg [((some 11), none, .mv (.const (.int .i64 0)))])
 (.seq [3, 5, 6, 8, 9, 10, 11] (.seq [3, 5, 6, 8, 9, 10, 11, 45] (.reg [((some 44), none, .mv (.tmp 5)),
   ((some 45), none, .bin .gtr (.tmp 44) (.const (.int .i64 4096)))])
 (.cond (.tmp 45)
  (.reg [((some 11), none, .mv (.const (.int .i64 3)))])
  (.skip)))
 (.seq [3, 6, 8] (.seq [3, 6, 8, 59] (.reg [((some 46), none, .mv (.tmp 9)),
   ((some 47), none, .mv (.tmp 11)),
   ((some 48), none, .bin .neq (.tmp 46) (.tmp 47)),
   ((some 49), none, .mv (.tmp 48)),
   ((some 50), (some (49, false)), .mv (.tmp 9)),
   ((some 51), (some (49, false)), .bin .eql (.tmp 50) (.const (.int .i64 0))),
   ((some 52), (some (49, false)), .mv (.tmp 51)),
   ((some 53), (some (52, true)), .fieldA 4 1 false (.tmp 10)),
   ((some 54), (some (52, true)), .load false 1 (.tmp 53)),
   ((some 55), (some (52, true)), .len (.tmp 54)),
   ((some 56), (some (52, true)), .mv (.tmp 5)),
   ((some 57), (some (52, true)), .bin .neq (.tmp 55) (.tmp 56)),
   ((some 58), (some (49, false)), .pick (.tmp 52) (.tmp 57) (.const (.bool false))),
   ((some 59), none, .pick (.tmp 49) (.const (.bool true)) (.tmp 58))])
 (.cond (.tmp 59)
  (.seq [4] (.reg [((some 4), none, .mv (.const (.bool false)))])
  (.ret))
  (.skip)))
 (.seq [3, 9] (.dreg [] [((some 61), none, .load true 5 (.tmp 8)),
   ((some 62), none, .mv (.tmp 6)),
   ((some 63), none, .indexA 4 (.tmp 62) (.const (.int .i64 0))),
   ((some 64), none, .load true 4 (.tmp 63)),
   ((some 65), none, .load true 4 (.tmp 3)),
   ((some 66), none, .blist 4 [(.tmp 64), (.tmp 65)]),
   ((some 67), none, .call 18 [(.tmp 61), (.const (.int .i64 1)), (.tmp 66)]),
   ((some 60), none, .mv (.tmp 67)),
   ((some 68), none, .extract (.tmp 60) 0),
   ((some 69), none, .extract (.tmp 60) 1)]
  [((some 9), none, .mv (.tmp 69))])
 (.seq [9, 12] (.reg [((some 70), none, .fieldA 0 2 true (.tmp 3)),
   ((some 71), none, .fieldA 0 1 false (.tmp 70)),
   ((some 72), none, .load false 1 (.tmp 71)),
   ((some 73), none, .bin .lss (.tmp 72) (.const (.int .u8 1))),
   ((some 74), none, .mv (.tmp 73)),
   ((some 75), (some (74, false)), .fieldA 0 2 true (.tmp 3)),
   ((some 76), (some (74, false)), .fieldA 0 1 false (.tmp 75)),
   ((some 77), (some (74, false)), .load false 1 (.tmp 76)),
   ((some 78), (some (74, false)), .bin .gtr (.tmp 77) (.const (.int .u8 6))),
   ((some 79), none, .pick (.tmp 74) (.const (.bool true)) (.tmp 78)),
   ((some 80), none, .mv (.tmp 79)),
   ((some 81), (some (80, false)), .fieldA 0 2 true (.tmp 3)),
   ((some 82), (some (80, false)), .fieldA 1 1 false (.tmp 81)),
   ((some 83), (some (80, false)), .load false 1 (.tmp 82)),
   ((some 84), (some (80, false)), .bin .lss (.tmp 83) (.const (.int .i64 0))),
   ((some 85), none, .pick (.tmp 80) (.const (.bool true)) (.tmp 84)),
   ((some 86), none, .mv (.tmp 85)),
   ((some 87), (some (86, false)), .fieldA 0 2 true (.tmp 3)),
   ((some 88), (some (86, false)), .fieldA 1 1 false (.tmp 87)),
   ((some 89), (some (86, false)), .load false 1 (.tmp 88)),
   ((some 90), (some (86, false)), .bin .gtr (.tmp 89) (.const (.int .i64 2047))),
   ((some 91), none, .pick (.tmp 86) (.const (.bool true)) (.tmp 90)),
   ((some 92), none, .mv (.tmp 91)),
   ((some 93), (some (92, false)), .fieldA 3 1 false (.tmp 3)),
   ((some 94), (some (92, false)), .load false 1 (.tmp 93)),
   ((some 95), (some (92, false)), .bin .gtr (.tmp 94) (.const (.int .u8 1))),
   ((some 96), none, .pick (.tmp 92) (.const (.bool true)) (.tmp 95)),
   ((some 12), none, .mv (.tmp 96))])
 (.seq [4] (.reg [((some 97), none, .mv (.tmp 9)),
   ((some 98), none, .bin .eql (.tmp 97) (.const (.int .i64 1))),
   ((some 99), none, .mv (.tmp 12)),
   ((some 100), none, .binb false (.tmp 98) (.tmp 99)),
   ((some 101), none, .mv (.tmp 100)),
   ((some 102), (some (101, true)), .mv (.tmp 12)),
   ((some 103), (some (101, true)), .mv (.tmp 102)),
   ((some 104), (some (103, false)), .mv (.tmp 9)),
   ((some 105), (some (103, false)), .bin .eql (.tmp 104) (.const (.int .i64 0))),
   ((some 106), (some (101, true)), .pick (.tmp 103) (.const (.bool true)) (.tmp 105)),
   ((some 107), none, .pick (.tmp 101) (.tmp 106) (.const (.bool false))),
   ((some 108), none, .mv (.tmp 107)),
   ((some 109), (some (108, true)), .call 9 []),
   ((some 110), none, .pick (.tmp 108) (.tmp 109) (.const (.bool false))),
   ((some 4), none, .mv (.tmp 110))])
 (.ret)))))))))))))
theorem k6 : FnOK Try.prog 6 c6 [.tmp 4] 2 := ⟨by kernel_rfl, Try.f6, _, [], Try.func6, rfl, by kernel_rfl, by kernel_rfl, by decide⟩

-- gansey/ganseylaw02.YarnsActs
def c7 : Cmd :=
 .seq [0] (.reg [((some 2), none, .mv (.const (.bool false)))])
 (.seq [0] (.seq [0, 17] (.reg [((some 15), none, .mv (.tmp 0)),
   ((some 16), none, .len (.tmp 15)),
   ((some 17), none, .bin .gtr (.tmp 16) (.const (.int .i64 30)))])
 (.cond (.tmp 17)
  (.seq [2] (.reg [((some 18), none, .call 9 []),
    ((some 2), none, .mv (.tmp 18))])
  (.ret))
  (.skip)))
 (.seq [0, 3] (.reg [((some 3), none, .alloc 38 5 (.agg [(.val (.bool false)), (.val (.int .i64 0)), (.val (.int .i64 0)), (.val (.bool false)), (.val (.slice none 0 0))]))])
 (.seq [0, 3, 4, 5, 6, 7] (.reg [((some 4), none, .mv (.const (.bool false))),
   ((some 5), none, .mv (.const (.int .i64 0))),
   ((some 6), none, .mv (.const (.int .i64 0))),
   ((some 7), none, .mv (.const (.bool false)))])
 (.seq [0, 3, 4, 5, 6, 7, 8] (.reg [((some 8), none, .mv (.const (.slice none 0 0)))])
 (.seq [] (.seq [0, 3, 4, 5, 6, 7, 8, 9] (.reg [((some 9), none, .mv (.const (.int .i64 0)))])
 (.block 0
  (.loop [0, 3, 4, 5, 6, 7, 8, 9]
   (.seq [0, 3, 4, 5, 6, 7, 8, 9] (.seq [0, 3, 4, 5, 6, 7, 8, 9, 22] (.reg [((some 19), none, .mv (.tmp 9)),
     ((some 20), none, .mv (.tmp 0)),
     ((some 21), none, .len (.tmp 20)),
     ((some 22), none, .bin .lss (.tmp 19) (.tmp 21))])
   (.cond (.tmp 22)
    (.skip)
    (.exit 0)))
   (.seq [0, 3, 4, 5, 6, 7, 8, 9] (.block 1
    (.seq [0, 3, 4, 5, 6, 7, 8, 9] (.seq [0, 3, 4, 5, 6, 7, 8, 9, 31] (.reg [((some 25), none, .mv (.tmp 0)),
      ((some 26), none, .mv (.tmp 9)),
      ((some 27), none, .indexA 4 (.tmp 25) (.tmp 26)),
      ((some 28), none, .fieldA 3 1 false (.tmp 27)),
      ((some 29), none, .load false 1 (.tmp 28)),
      ((some 30), none, .len (.tmp 29)),
      ((some 31), none, .bin .gtr (.tmp 30) (.const (.int .i64 10)))])
    (.cond (.tmp 31)
     (.seq [2] (.reg [((some 32), none, .call 9 []),
       ((some 2), none, .mv (.tmp 32))])
     (.ret))
     (.skip)))
    (.seq [0, 3, 4, 5, 6, 7, 8, 9] (.reg [((some 10), none, .mv (.const (.int .i64 0)))])
    (.seq [0, 3, 4, 5, 6, 7, 8, 9, 11] (.reg [((some 11), none, .alloc 38 5 (.agg [(.val (.bool false)), (.val (.int .i64 0)), (.val (.int .i64 0)), (.val (.bool false)), (.val (.slice none 0 0))]))])
    (.seq [0, 3, 4, 5, 6, 7, 8, 9, 11, 12] (.reg [((some 12), none, .mv (.const (.int .i64 0)))])
    (.seq [0, 3, 4, 5, 6, 7, 8, 9, 10, 11, 12] (.seq [0, 3, 4, 5, 6, 7, 8, 9, 11, 12, 38] (.reg [((some 33), none, .mv (.tmp 0)),
      ((some 34), none, .mv (.tmp 9)),
      ((some 35), none, .indexA 4 (.tmp 33) (.tmp 34)),
      ((some 36), none, .fieldA 0 1 false (.tmp 35)),
      ((some 37), none, .load false 1 (.tmp 36)),
      ((some 38), none, .bin .rem (.tmp 37) (.const (.int .u8 4)))])
    (.block 2
     (.seq [0, 3, 4, 5, 6, 7, 8, 9, 11, 12, 38, 83] (.reg [((some 84), none, .bin .eql (.tmp 38) (.const (.int .u8 0))),
       ((some 83), none, .mv (.tmp 84))])
     (.cond (.tmp 83)
      (.seq [0, 3, 4, 5, 6, 7, 8, 9, 10, 11, 12] (.sreg [] [((some 86), none, .load true 5 (.tmp 3)),
        ((some 87), none, .mv (.tmp 0)),
        ((some 88), none, .mv (.tmp 9)),
        ((some 89), none, .indexA 4 (.tmp 87) (.tmp 88)),
        ((some 90), none, .fieldA 2 1 false (.tmp 89)),
        ((some 91), none, .load false 1 (.tmp 90)),
        ((some 92), none, .call 17 [(.tmp 86), (.tmp 91)]),
        ((some 85), none, .mv (.tmp 92)),
        ((some 93), none, .extract (.tmp 85) 0),
        ((some 94), none, .extract (.tmp 85) 1)]
       []
       [((some 94), none, .extract (.tmp 85) 1)]
       [((none, none, .store 5 (.tmp 11) (.tmp 93)), [((some 94), none, .extract (.tmp 85) 1)]), (((some 10), none, .mv (.tmp 94)), [])])
      (.block 3
       (.seq [0, 3, 4, 5, 6, 7, 8, 9, 10, 11, 12, 101] (.reg [((some 102), none, .mv (.tmp 0)),
         ((some 103), none, .mv (.tmp 9)),
         ((some 104), none, .indexA 4 (.tmp 102) (.tmp 103)),
         ((some 105), none, .fieldA 2 1 false (.tmp 104)),
         ((some 106), none, .load false 1 (.tmp 105)),
         ((some 107), none, .bin .gtr (.tmp 106) (.const (.int .u8 1))),
         ((some 101), none, .mv (.tmp 107))])
       (.cond (.tmp 101)
        (.reg [((some 12), none, .mv (.const (.int .i64 1)))])
        (.seq [0, 3, 4, 5, 6, 7, 8, 9, 10, 11, 12, 108] (.reg [((some 109), none, .mv (.tmp 4)),
          ((some 108), none, .mv (.tmp 109))])
        (.cond (.tmp 108)
         (.reg [((some 12), none, .mv (.const (.int .i64 12)))])
         (.seq [0, 3, 4, 6, 7, 8, 9, 10, 11, 12] (.reg [((some 4), none, .mv (.const (.bool true))),
           ((some 7), none, .mv (.const (.bool true))),
           ((some 8), none, .mv (.const (.slice none 0 0)))])
         (.seq [0, 3, 4, 5, 6, 7, 8, 9, 10, 11, 12] (.reg [((some 5), none, .mv (.const (.int .i64 (-13))))])
         (.seq [0, 3, 4, 5, 6, 7, 8, 9, 10, 11, 12, 100] (.reg [((some 95), none, .mv (.tmp 0)),
           ((some 96), none, .mv (.tmp 9)),
           ((some 97), none, .indexA 4 (.tmp 95) (.tmp 96)),
           ((some 98), none, .fieldA 2 1 false (.tmp 97)),
           ((some 99), none, .load false 1 (.tmp 98)),
           ((some 100), none, .bin .eql (.tmp 99) (.const (.int .u8 1)))])
         (.cond (.tmp 100)
          (.reg [((some 5), none, .mv (.const (.int .i64 179)))])
          (.skip)))))))))))
      (.seq [0, 3, 4, 5, 6, 7, 8, 9, 11, 12, 38, 110] (.reg [((some 111), none, .bin .eql (.tmp 38) (.const (.int .u8 1))),
        ((some 110), none, .mv (.tmp 111))])
      (.cond (.tmp 110)
       (.seq [0, 3, 4, 5, 6, 7, 8, 9, 10, 11, 12] (.reg [((some 113), none, .load true 5 (.tmp 3)),
         ((some 114), none, .call 19 [(.tmp 113)]),
         ((some 112), none, .mv (.tmp 114)),
         ((some 115), none, .extract (.tmp 112) 0),
         ((some 116), none, .extract (.tmp 112) 1),
         (none, none, .store 5 (.tmp 11) (.tmp 115)),
         ((some 10), none, .mv (.tmp 116))])
       (.seq [0, 3, 4, 5, 6, 7, 8, 9, 10, 11, 12, 117] (.reg [((some 117), none, .mv (.tmp 4))])
       (.cond (.tmp 117)
        (.reg [((some 4), none, .mv (.const (.bool false))),
          ((some 5), none, .mv (.const (.int .i64 0))),
          ((some 7), none, .mv (.const (.bool false))),
          ((some 8), none, .mv (.const (.slice none 0 0)))])
        (.reg [((some 12), none, .mv (.const (.int .i64 12)))]))))
       (.seq [0, 3, 4, 5, 6, 7, 8, 9, 11, 12, 118] (.reg [((some 119), none, .bin .eql (.tmp 38) (.const (.int .u8 2))),
         ((some 118), none, .mv (.tmp 119))])
       (.cond (.tmp 118)
        (.seq [0, 3, 4, 5, 6, 7, 8, 9, 11, 12, 13] (.reg [((some 120), none, .mv (.tmp 0)),
          ((some 121), none, .mv (.tmp 9)),
          ((some 122), none, .indexA 4 (.tmp 120) (.tmp 121)),
          ((some 123), none, .fieldA 3 1 false (.tmp 122)),
          ((some 124), none, .load false 1 (.tmp 123)),
          ((some 125), none, .call 10 [(.tmp 124)]),
          ((some 13), none, .mv (.tmp 125))])
        (.seq [0, 3, 4, 5, 6, 7, 8, 9, 10, 11, 12, 13] (.sreg [] [((some 127), none, .load true 5 (.tmp 3)),
          ((some 128), none, .mv (.tmp 0)),
          ((some 129), none, .mv (.tmp 9)),
          ((some 130), none, .indexA 4 (.tmp 128) (.tmp 129)),
          ((some 131), none, .fieldA 1 1 false (.tmp 130)),
          ((some 132), none, .load false 1 (.tmp 131)),
          ((some 133), none, .mv (.tmp 13)),
          ((some 134), none, .call 18 [(.tmp 127), (.tmp 132), (.tmp 133)]),
          ((some 126), none, .mv (.tmp 134)),
          ((some 135), none, .extract (.tmp 126) 0),
          ((some 136), none, .extract (.tmp 126) 1)]
         []
         [((some 136), none, .extract (.tmp 126) 1)]
         [((none, none, .store 5 (.tmp 11) (.tmp 135)), [((some 136), none, .extract (.tmp 126) 1)]), (((some 10), none, .mv (.tmp 136)), [])])
        (.block 4
         (.seq [0, 3, 4, 5, 6, 7, 8, 9, 10, 11, 12, 13, 148] (.reg [((some 149), none, .mv (.tmp 0)),
           ((some 150), none, .mv (.tmp 9)),
           ((some 151), none, .indexA 4 (.tmp 149) (.tmp 150)),
           ((some 152), none, .fieldA 1 1 false (.tmp 151)),
           ((some 153), none, .load false 1 (.tmp 152)),
           ((some 154), none, .bin .lss (.tmp 153) (.const (.int .i64 (-13)))),
           ((some 155), none, .mv (.tmp 154)),
           ((some 156), (some (155, false)), .mv (.tmp 0)),
           ((some 157), (some (155, false)), .mv (.tmp 9)),
           ((some 158), (some (155, false)), .indexA 4 (.tmp 156) (.tmp 157)),
           ((some 159), (some (155, false)), .fieldA 1 1 false (.tmp 158)),
           ((some 160), (some (155, false)), .load false 1 (.tmp 159)),
           ((some 161), (some (155, false)), .bin .gtr (.tmp 160) (.const (.int .i64 179))),
           ((some 162), none, .pick (.tmp 155) (.const (.bool true)) (.tmp 161)),
           ((some 163), none, .mv (.tmp 162)),
           ((some 164), (some (163, false)), .mv (.tmp 0)),
           ((some 165), (some (163, false)), .mv (.tmp 9)),
           ((some 166), (some (163, false)), .indexA 4 (.tmp 164) (.tmp 165)),
           ((some 167), (some (163, false)), .fieldA 1 1 false (.tmp 166)),
           ((some 168), (some (163, false)), .load false 1 (.tmp 167)),
           ((some 169), (some (163, false)), .bin .rem (.tmp 168) (.const (.int .i64 2))),
           ((some 170), (some (163, false)), .bin .eql (.tmp 169) (.const (.int .i64 0))),
           ((some 171), none, .pick (.tmp 163) (.const (.bool true)) (.tmp 170)),
           ((some 148), none, .mv (.tmp 171))])
         (.cond (.tmp 148)
          (.reg [((some 12), none, .mv (.const (.int .i64 1)))])
          (.seq [0, 3, 4, 5, 6, 7, 8, 9, 10, 11, 12, 13, 172] (.reg [((some 173), none, .mv (.tmp 4)),
            ((some 174), none, .un .not (.tmp 173)),
            ((some 172), none, .mv (.tmp 174))])
          (.cond (.tmp 172)
           (.reg [((some 12), none, .mv (.const (.int .i64 12)))])
           (.seq [0, 3, 4, 5, 6, 7, 8, 9, 10, 11, 12, 13] (.reg [((some 137), none, .mv (.tmp 0)),
             ((some 138), none, .mv (.tmp 9)),
             ((some 139), none, .indexA 4 (.tmp 137) (.tmp 138)),
             ((some 140), none, .fieldA 1 1 false (.tmp 139)),
             ((some 141), none, .load false 1 (.tmp 140)),
             ((some 5), none, .mv (.tmp 141))])
           (.reg [((some 142), none, .blist 4 []),
             ((some 143), none, .mv (.tmp 8)),
             ((some 144), none, .append true 33 4 24 (.tmp 142) (.tmp 143)),
             ((some 145), none, .mv (.tmp 13)),
             ((some 146), none, .append false 33 4 24 (.tmp 144) (.tmp 145)),
             ((some 147), none, .call 12 [(.tmp 146)]),
             ((some 8), none, .mv (.tmp 147))])))))))))
        (.seq [0, 3, 4, 5, 6, 7, 8, 9, 11, 12, 14] (.reg [((some 14), none, .alloc 50 3 (.agg [(.val (.int .i64 0)), (.val (.bool false)), (.val (.slice none 0 0))]))])
        (.seq [0, 3, 4, 5, 6, 7, 8, 9, 10, 11, 12, 14] (.reg [((some 40), none, .load true 5 (.tmp 3)),
          ((some 41), none, .call 20 [(.tmp 40)]),
          ((some 39), none, .mv (.tmp 41)),
          ((some 42), none, .extract (.tmp 39) 0),
          ((some 43), none, .extract (.tmp 39) 1),
          ((some 44), none, .extract (.tmp 39) 2),
          (none, none, .store 5 (.tmp 11) (.tmp 42)),
          (none, none, .store 3 (.tmp 14) (.tmp 43)),
          ((some 10), none, .mv (.tmp 44))])
        (.seq [0, 3, 4, 5, 6, 7, 8, 9, 10, 11, 12, 14] (.seq [0, 3, 4, 5, 6, 7, 8, 9, 10, 11, 12, 14, 46] (.reg [((some 45), none, .mv (.tmp 4)),
          ((some 46), none, .un .not (.tmp 45))])
        (.cond (.tmp 46)
         (.seq [0, 3, 4, 5, 6, 7, 8, 9, 10, 11, 12, 14] (.reg [((some 12), none, .mv (.const (.int .i64 12)))])
         (.seq [0, 3, 4, 5, 6, 7, 8, 9, 10, 11, 12] (.seq [0, 3, 4, 5, 6, 7, 8, 9, 10, 11, 12, 59] (.reg [((some 47), none, .fieldA 0 1 false (.tmp 14)),
           ((some 48), none, .load false 1 (.tmp 47)),
           ((some 49), none, .bin .neq (.tmp 48) (.const (.int .i64 0))),
           ((some 50), none, .mv (.tmp 49)),
           ((some 51), (some (50, false)), .fieldA 1 1 false (.tmp 14)),
           ((some 52), (some (50, false)), .load false 1 (.tmp 51)),
           ((some 53), none, .pick (.tmp 50) (.const (.bool true)) (.tmp 52)),
           ((some 54), none, .mv (.tmp 53)),
           ((some 55), (some (54, false)), .fieldA 2 1 false (.tmp 14)),
           ((some 56), (some (54, false)), .load false 1 (.tmp 55)),
           ((some 57), (some (54, false)), .len (.tmp 56)),
           ((some 58), (some (54, false)), .bin .neq (.tmp 57) (.const (.int .i64 0))),
           ((some 59), none, .pick (.tmp 54) (.const (.bool true)) (.tmp 58))])
         (.cond (.tmp 59)
          (.seq [2] (.reg [((some 2), none, .mv (.const (.bool false)))])
          (.ret))
          (.skip)))
         (.exit 2)))
         (.skip)))
        (.seq [0, 3, 4, 5, 6, 9, 10, 11, 12] (.seq [0, 3, 4, 5, 6, 9, 10, 11, 12, 80] (.dreg [75] [((some 60), none, .fieldA 0 1 false (.tmp 14)),
          ((some 61), none, .load false 1 (.tmp 60)),
          ((some 62), none, .mv (.tmp 6)),
          ((some 63), none, .bin .neq (.tmp 61) (.tmp 62)),
          ((some 64), none, .mv (.tmp 63)),
          ((some 65), (some (64, false)), .fieldA 1 1 false (.tmp 14)),
          ((some 66), (some (64, false)), .load false 1 (.tmp 65)),
          ((some 67), (some (64, false)), .mv (.tmp 7)),
          ((some 68), (some (64, false)), .binb true (.tmp 66) (.tmp 67)),
          ((some 69), none, .pick (.tmp 64) (.const (.bool true)) (.tmp 68)),
          ((some 70), none, .mv (.tmp 69)),
          ((some 71), (some (70, false)), .fieldA 2 1 false (.tmp 14)),
          ((some 72), (some (70, false)), .load false 1 (.tmp 71)),
          ((some 73), (some (70, false)), .mv (.tmp 8)),
          ((some 74), (some (70, false)), .len (.tmp 73)),
          ((some 75), (some (70, false)), .mkslice 33 4 24 (.agg [(.val (.int .u8 0)), (.val (.int .i64 0)), (.val (.bool false)), (.val (.int .u8 0))]) (.const (.int .i64 0)) (.tmp 74)),
          ((some 76), (some (70, false)), .mv (.tmp 8)),
          ((some 77), (some (70, false)), .append false 33 4 24 (.tmp 75) (.tmp 76)),
          ((some 78), (some (70, false)), .call 13 [(.tmp 72), (.tmp 77)]),
          ((some 79), (some (70, false)), .bin .eql (.tmp 78) (.const (.int .i64 0))),
          ((some 80), none, .pick (.tmp 70) (.const (.bool true)) (.tmp 79))]
         [])
        (.cond (.tmp 80)
         (.seq [2] (.reg [((some 2), none, .mv (.const (.bool false)))])
         (.ret))
         (.skip)))
        (.seq [0, 3, 4, 5, 6, 9, 10, 11, 12] (.reg [((some 81), none, .mv (.tmp 6)),
          ((some 82), none, .bin .add (.tmp 81) (.const (.int .i64 1))),
          ((some 6), none, .mv (.tmp 82))])
        (.reg [((some 7), none, .mv (.const (.bool false))),
          ((some 8), none, .mv (.const (.slice none 0 0)))]))))))))))))))
    (.seq [0, 3, 4, 5, 6, 7, 8, 9, 10, 11] (.seq [0, 3, 4, 5, 6, 7, 8, 9, 10, 11, 177] (.reg [((some 175), none, .mv (.tmp 10)),
      ((some 176), none, .mv (.tmp 12)),
      ((some 177), none, .bin .neq (.tmp 175) (.tmp 176))])
    (.cond (.tmp 177)
     (.seq [2] (.reg [((some 2), none, .mv (.const (.bool false)))])
     (.ret))
     (.skip)))
    (.seq [0, 3, 4, 5, 6, 7, 8, 9, 11] (.seq [0, 3, 4, 5, 6, 7, 8, 9, 11, 179] (.reg [((some 178), none, .mv (.tmp 10)),
      ((some 179), none, .bin .neq (.tmp 178) (.const (.int .i64 0)))])
    (.cond (.tmp 179)
     (.seq [0, 3, 4, 5, 6, 7, 8, 9] (.seq [0, 3, 4, 5, 6, 7, 8, 9, 191] (.reg [((some 180), none, .fieldA 0 1 false (.tmp 11)),
       ((some 181), none, .load false 1 (.tmp 180)),
       ((some 182), none, .mv (.tmp 181)),
       ((some 183), (some (182, false)), .fieldA 2 1 false (.tmp 11)),
       ((some 184), (some (182, false)), .load false 1 (.tmp 183)),
       ((some 185), (some (182, false)), .bin .neq (.tmp 184) (.const (.int .i64 0))),
       ((some 186), none, .pick (.tmp 182) (.const (.bool true)) (.tmp 185)),
       ((some 187), none, .mv (.tmp 186)),
       ((some 188), (some (187, false)), .fieldA 1 1 false (.tmp 11)),
       ((some 189), (some (187, false)), .load false 1 (.tmp 188)),
       ((some 190), (some (187, false)), .bin .neq (.tmp 189) (.const (.int .i64 0))),
       ((some 191), none, .pick (.tmp 187) (.const (.bool true)) (.tmp 190))])
     (.cond (.tmp 191)
      (.seq [2] (.reg [((some 2), none, .mv (.const (.bool false)))])
      (.ret))
      (.skip)))
     (.exit 1))
     (.skip)))
    (.seq [0, 3, 4, 5, 6, 7, 8, 9] (.reg [((some 192), none, .load true 5 (.tmp 11)),
      (none, none, .store 5 (.tmp 3) (.tmp 192))])
    (.seq [0, 3, 4, 5, 6, 7, 8, 9, 230] (.dreg [225] [((some 193), none, .load true 5 (.tmp 3)),
      ((some 194), none, .call 21 [(.tmp 193)]),
      ((some 195), none, .bin .neq (.tmp 194) (.const (.int .i64 0))),
      ((some 196), none, .mv (.tmp 195)),
      ((some 197), (some (196, false)), .fieldA 0 1 false (.tmp 3)),
      ((some 198), (some (196, false)), .load false 1 (.tmp 197)),
      ((some 199), (some (196, false)), .mv (.tmp 4)),
      ((some 200), (some (196, false)), .binb true (.tmp 198) (.tmp 199)),
      ((some 201), none, .pick (.tmp 196) (.const (.bool true)) (.tmp 200)),
      ((some 202), none, .mv (.tmp 201)),
      ((some 203), (some (202, false)), .fieldA 1 1 false (.tmp 3)),
      ((some 204), (some (202, false)), .load false 1 (.tmp 203)),
      ((some 205), (some (202, false)), .mv (.tmp 5)),
      ((some 206), (some (202, false)), .bin .neq (.tmp 204) (.tmp 205)),
      ((some 207), none, .pick (.tmp 202) (.const (.bool true)) (.tmp 206)),
      ((some 208), none, .mv (.tmp 207)),
      ((some 209), (some (208, false)), .fieldA 2 1 false (.tmp 3)),
      ((some 210), (some (208, false)), .load false 1 (.tmp 209)),
      ((some 211), (some (208, false)), .mv (.tmp 6)),
      ((some 212), (some (208, false)), .bin .neq (.tmp 210) (.tmp 211)),
      ((some 213), none, .pick (.tmp 208) (.const (.bool true)) (.tmp 212)),
      ((some 214), none, .mv (.tmp 213)),
      ((some 215), (some (214, false)), .fieldA 3 1 false (.tmp 3)),
      ((some 216), (some (214, false)), .load false 1 (.tmp 215)),
      ((some 217), (some (214, false)), .mv (.tmp 7)),
      ((some 218), (some (214, false)), .binb true (.tmp 216) (.tmp 217)),
      ((some 219), none, .pick (.tmp 214) (.const (.bool true)) (.tmp 218)),
      ((some 220), none, .mv (.tmp 219)),
      ((some 221), (some (220, false)), .fieldA 4 1 false (.tmp 3)),
      ((some 222), (some (220, false)), .load false 1 (.tmp 221)),
      ((some 223), (some (220, false)), .mv (.tmp 8)),
      ((some 224), (some (220, false)), .len (.tmp 223)),
      ((some 225), (some (220, false)), .mkslice 33 4 24 (.agg [(.val (.int .u8 0)), (.val (.int .i64 0)), (.val (.bool false)), (.val (.int .u8 0))]) (.const (.int .i64 0)) (.tmp 224)),
      ((some 226), (some (220, false)), .mv (.tmp 8)),
      ((some 227), (some (220, false)), .append false 33 4 24 (.tmp 225) (.tmp 226)),
      ((some 228), (some (220, false)), .call 13 [(.tmp 222), (.tmp 227)]),
      ((some 229), (some (220, false)), .bin .eql (.tmp 228) (.const (.int .i64 0))),
      ((some 230), none, .pick (.tmp 220) (.const (.bool true)) (.tmp 229))]
     [])
    (.cond (.tmp 230)
     (.seq [2] (.reg [((some 2), none, .mv (.const (.bool false)))])
     (.ret))
     (.skip))))))))))))
   (.reg [((some 23), none, .mv (.tmp 9)),
     ((some 24), none, .bin .add (.tmp 23) (.const (.int .i64 1))),
     ((some 9), none, .mv (.tmp 24))]))))))
 (.seq [2] (.reg [((some 231), none, .call 9 []),
   ((some 2), none, .mv (.tmp 231))])
 (.ret)))))))
theorem k7 : FnOK Try.prog 7 c7 [.tmp 2] 1 := ⟨by kernel_rfl, Try.f7, _, [144], Try.func7, rfl, by kernel_rfl, by kernel_rfl, by decide⟩

-- gansey/ganseylaw02.YarnsCheck
def c8 : Cmd :=
 .seq [2, 3] (.reg [((some 2), none, .box 38 5 (.tmp 0)),
   ((some 3), none, .box 30 2 (.tmp 1)),
   ((some 4), none, .mv (.const (.bool false)))])
 (.seq [2, 3] (.seq [2, 3, 24] (.reg [((some 21), none, .fieldA 4 1 false (.tmp 2)),
   ((some 22), none, .load false 1 (.tmp 21)),
   ((some 23), none, .len (.tmp 22)),
   ((some 24), none, .bin .gtr (.tmp 23) (.const (.int .i64 20)))])
 (.cond (.tmp 24)
  (.seq [4] (.reg [((some 25), none, .call 9 []),
    ((some 4), none, .mv (.tmp 25))])
  (.ret))
  (.skip)))
 (.seq [2] (.seq [2, 46] (.dreg [] [((some 26), none, .load true 2 (.tmp 3)),
   ((some 27), none, .call 22 [(.tmp 26)]),
   ((some 28), none, .fieldA 0 1 false (.tmp 3)),
   ((some 29), none, .load false 1 (.tmp 28)),
   ((some 30), none, .bin .geq (.tmp 29) (.const (.int .u8 1))),
   ((some 31), none, .mv (.tmp 30)),
   ((some 32), (some (31, true)), .fieldA 0 1 false (.tmp 3)),
   ((some 33), (some (31, true)), .load false 1 (.tmp 32)),
   ((some 34), (some (31, true)), .bin .leq (.tmp 33) (.const (.int .u8 6))),
   ((some 35), none, .pick (.tmp 31) (.tmp 34) (.const (.bool false))),
   ((some 36), none, .mv (.tmp 35)),
   ((some 37), (some (36, true)), .fieldA 1 1 false (.tmp 3)),
   ((some 38), (some (36, true)), .load false 1 (.tmp 37)),
   ((some 39), (some (36, true)), .bin .geq (.tmp 38) (.const (.int .i64 0))),
   ((some 40), none, .pick (.tmp 36) (.tmp 39) (.const (.bool false))),
   ((some 41), none, .mv (.tmp 40)),
   ((some 42), (some (41, true)), .fieldA 1 1 false (.tmp 3)),
   ((some 43), (some (41, true)), .load false 1 (.tmp 42)),
   ((some 44), (some (41, true)), .bin .lss (.tmp 43) (.const (.int .i64 2048))),
   ((some 45), none, .pick (.tmp 41) (.tmp 44) (.const (.bool false))),
   ((some 46), none, .binb true (.tmp 27) (.tmp 45))]
  [])
 (.cond (.tmp 46)
  (.seq [4] (.reg [((some 4), none, .mv (.const (.bool false)))])
  (.ret))
  (.skip)))
 (.seq [2, 5] (.reg [((some 47), none, .fieldA 2 1 false (.tmp 2)),
   ((some 48), none, .load false 1 (.tmp 47)),
   ((some 49), none, .bin .geq (.tmp 48) (.const (.int .i64 0))),
   ((some 50), none, .mv (.tmp 49)),
   ((some 51), (some (50, true)), .fieldA 2 1 false (.tmp 2)),
   ((some 52), (some (50, true)), .load false 1 (.tmp 51)),
   ((some 53), (some (50, true)), .bin .leq (.tmp 52) (.const (.int .i64 2048))),
   ((some 54), none, .pick (.tmp 50) (.tmp 53) (.const (.bool false))),
   ((some 5), none, .mv (.tmp 54))])
 (.seq [2, 5] (.seq [2, 5, 56] (.reg [((some 55), none, .fieldA 0 1 false (.tmp 2)),
   ((some 56), none, .load false 1 (.tmp 55))])
 (.cond (.tmp 56)
  (.reg [((some 57), none, .mv (.tmp 5)),
    ((some 58), none, .mv (.tmp 57)),
    ((some 59), (some (58, true)), .fieldA 1 1 false (.tmp 2)),
    ((some 60), (some (58, true)), .load false 1 (.tmp 59)),
    ((some 61), (some (58, true)), .bin .geq (.tmp 60) (.const (.int .i64 (-13)))),
    ((some 62), none, .pick (.tmp 58) (.tmp 61) (.const (.bool false))),
    ((some 63), none, .mv (.tmp 62)),
    ((some 64), (some (63, true)), .fieldA 1 1 false (.tmp 2)),
    ((some 65), (some (63, true)), .load false 1 (.tmp 64)),
    ((some 66), (some (63, true)), .bin .leq (.tmp 65) (.const (.int .i64 179))),
    ((some 67), none, .pick (.tmp 63) (.tmp 66) (.const (.bool false))),
    ((some 68), none, .mv (.tmp 67)),
    ((some 69), (some (68, true)), .fieldA 1 1 false (.tmp 2)),
    ((some 70), (some (68, true)), .load false 1 (.tmp 69)),
    ((some 71), (some (68, true)), .bin .rem (.tmp 70) (.const (.int .i64 2))),
    ((some 72), (some (68, true)), .bin .neq (.tmp 71) (.const (.int .i64 0))),
    ((some 73), none, .pick (.tmp 68) (.tmp 72) (.const (.bool false))),
    ((some 5), none, .mv (.tmp 73))])
  (.reg [((some 74), none, .mv (.tmp 5)),
    ((some 75), none, .mv (.tmp 74)),
    ((some 76), (some (75, true)), .fieldA 1 1 false (.tmp 2)),
    ((some 77), (some (75, true)), .load false 1 (.tmp 76)),
    ((some 78), (some (75, true)), .bin .eql (.tmp 77) (.const (.int .i64 0))),
    ((some 79), none, .pick (.tmp 75) (.tmp 78) (.const (.bool false))),
    ((some 80), none, .mv (.tmp 79)),
    ((some 81), (some (80, true)), .fieldA 3 1 false (.tmp 2)),
    ((some 82), (some (80, true)), .load false 1 (.tmp 81)),
    ((some 83), (some (80, true)), .un .not (.tmp 82)),
    ((some 84), none, .pick (.tmp 80) (.tmp 83) (.const (.bool false))),
    ((some 85), none, .mv (.tmp 84)),
    ((some 86), (some (85, true)), .fieldA 4 1 false (.tmp 2)),
    ((some 87), (some (85, true)), .load false 1 (.tmp 86)),
    ((some 88), (some (85, true)), .len (.tmp 87)),
    ((some 89), (some (85, true)), .bin .eql (.tmp 88) (.const (.int .i64 0))),
    ((some 90), none, .pick (.tmp 85) (.tmp 89) (.const (.bool false))),
    ((some 5), none, .mv (.tmp 90))])))
 (.seq [2, 5] (.seq [2, 5, 6] (.reg [((some 6), none, .mv (.const (.int .i64 0)))])
 (.block 0
  (.loop [2, 5, 6]
   (.seq [2, 5, 6] (.seq [2, 5, 6, 95] (.reg [((some 91), none, .mv (.tmp 6)),
     ((some 92), none, .fieldA 4 1 false (.tmp 2)),
     ((some 93), none, .load false 1 (.tmp 92)),
     ((some 94), none, .len (.tmp 93)),
     ((some 95), none, .bin .lss (.tmp 91) (.tmp 94))])
   (.cond (.tmp 95)
    (.skip)
    (.exit 0)))
   (.seq [2, 5, 6] (.block 1
    (.seq [2, 5, 6, 7] (.reg [((some 98), none, .fieldA 4 1 false (.tmp 2)),
      ((some 99), none, .load false 1 (.tmp 98)),
      ((some 100), none, .mv (.tmp 6)),
      ((some 101), none, .indexA 4 (.tmp 99) (.tmp 100)),
      ((some 102), none, .load true 4 (.tmp 101)),
      ((some 7), none, .alloc 33 4 (.agg [(.val (.int .u8 0)), (.val (.int .i64 0)), (.val (.bool false)), (.val (.int .u8 0))])),
      (none, none, .store 4 (.tmp 7) (.tmp 102))])
    (.seq [2, 5, 6, 144] (.dreg [] [((some 103), none, .fieldA 0 2 true (.tmp 7)),
      ((some 104), none, .fieldA 0 1 false (.tmp 103)),
      ((some 105), none, .load false 1 (.tmp 104)),
      ((some 106), none, .bin .lss (.tmp 105) (.const (.int .u8 1))),
      ((some 107), none, .mv (.tmp 106)),
      ((some 108), (some (107, false)), .fieldA 0 2 true (.tmp 7)),
      ((some 109), (some (107, false)), .fieldA 0 1 false (.tmp 108)),
      ((some 110), (some (107, false)), .load false 1 (.tmp 109)),
      ((some 111), (some (107, false)), .bin .gtr (.tmp 110) (.const (.int .u8 6))),
      ((some 112), none, .pick (.tmp 107) (.const (.bool true)) (.tmp 111)),
      ((some 113), none, .mv (.tmp 112)),
      ((some 114), (some (113, false)), .fieldA 0 2 true (.tmp 7)),
      ((some 115), (some (113, false)), .fieldA 1 1 false (.tmp 114)),
      ((some 116), (some (113, false)), .load false 1 (.tmp 115)),
      ((some 117), (some (113, false)), .bin .lss (.tmp 116) (.const (.int .i64 0))),
      ((some 118), none, .pick (.tmp 113) (.const (.bool true)) (.tmp 117)),
      ((some 119), none, .mv (.tmp 118)),
      ((some 120), (some (119, false)), .fieldA 0 2 true (.tmp 7)),
      ((some 121), (some (119, false)), .fieldA 1 1 false (.tmp 120)),
      ((some 122), (some (119, false)), .load false 1 (.tmp 121)),
      ((some 123), (some (119, false)), .bin .gtr (.tmp 122) (.const (.int .i64 2047))),
      ((some 124), none, .pick (.tmp 119) (.const (.bool true)) (.tmp 123)),
      ((some 125), none, .mv (.tmp 124)),
      ((some 126), (some (125, false)), .fieldA 3 1 false (.tmp 7)),
      ((some 127), (some (125, false)), .load false 1 (.tmp 126)),
      ((some 128), (some (125, false)), .bin .gtr (.tmp 127) (.const (.int .u8 1))),
      ((some 129), none, .pick (.tmp 125) (.const (.bool true)) (.tmp 128)),
      ((some 130), none, .mv (.tmp 129)),
      ((some 131), (some (130, false)), .mv (.tmp 6)),
      ((some 132), (some (130, false)), .bin .gtr (.tmp 131) (.const (.int .i64 0))),
      ((some 133), (some (130, false)), .mv (.tmp 132)),
      ((some 134), (some (133, true)), .fieldA 4 1 false (.tmp 2)),
      ((some 135), (some (133, true)), .load false 1 (.tmp 134)),
      ((some 136), (some (133, true)), .mv (.tmp 6)),
      ((some 137), (some (133, true)), .bin .sub (.tmp 136) (.const (.int .i64 1))),
      ((some 138), (some (133, true)), .indexA 4 (.tmp 135) (.tmp 137)),
      ((some 139), (some (133, true)), .load true 4 (.tmp 138)),
      ((some 140), (some (133, true)), .load true 4 (.tmp 7)),
      ((some 141), (some (133, true)), .call 15 [(.tmp 139), (.tmp 140)]),
      ((some 142), (some (133, true)), .bin .eql (.tmp 141) (.const (.int .i64 1))),
      ((some 143), (some (130, false)), .pick (.tmp 133) (.tmp 142) (.const (.bool false))),
      ((some 144), none, .pick (.tmp 130) (.const (.bool true)) (.tmp 143))]
     [])
    (.cond (.tmp 144)
     (.reg [((some 5), none, .mv (.const (.bool false)))])
     (.skip)))))
   (.reg [((some 96), none, .mv (.tmp 6)),
     ((some 97), none, .bin .add (.tmp 96) (.const (.int .i64 1))),
     ((some 6), none, .mv (.tmp 97))]))))))
 (.seq [2] (.seq [2, 146] (.reg [((some 145), none, .mv (.tmp 5)),
   ((some 146), none, .un .not (.tmp 145))])
 (.cond (.tmp 146)
  (.seq [2, 9] (.reg [((some 148), none, .load true 5 (.tmp 2)),
    ((some 149), none, .call 17 [(.tmp 148), (.const (.int .u8 0))]),
    ((some 147), none, .mv (.tmp 149)),
    ((some 150), none, .extract (.tmp 147) 0),
    ((some 151), none, .extract (.tmp 147) 1),
    ((some 8), none, .alloc 38 5 (.agg [(.val (.bool false)), (.val (.int .i64 0)), (.val (.int .i64 0)), (.val (.bool false)), (.val (.slice none 0 0))])),
    (none, none, .store 5 (.tmp 8) (.tmp 150)),
    ((some 9), none, .mv (.tmp 151))])
  (.seq [2, 9, 11] (.reg [((some 153), none, .load true 5 (.tmp 2)),
    ((some 154), none, .call 19 [(.tmp 153)]),
    ((some 152), none, .mv (.tmp 154)),
    ((some 155), none, .extract (.tmp 152) 0),
    ((some 156), none, .extract (.tmp 152) 1),
    ((some 10), none, .alloc 38 5 (.agg [(.val (.bool false)), (.val (.int .i64 0)), (.val (.int .i64 0)), (.val (.bool false)), (.val (.slice none 0 0))])),
    (none, none, .store 5 (.tmp 10) (.tmp 155)),
    ((some 11), none, .mv (.tmp 156))])
  (.seq [2, 9, 11, 13] (.reg [((some 158), none, .load true 5 (.tmp 2)),
    ((some 159), none, .call 18 [(.tmp 158), (.const (.int .i64 7)), (.const (.slice none 0 0))]),
    ((some 157), none, .mv (.tmp 159)),
    ((some 160), none, .extract (.tmp 157) 0),
    ((some 161), none, .extract (.tmp 157) 1),
    ((some 12), none, .alloc 38 5 (.agg [(.val (.bool false)), (.val (.int .i64 0)), (.val (.int .i64 0)), (.val (.bool false)), (.val (.slice none 0 0))])),
    (none, none, .store 5 (.tmp 12) (.tmp 160)),
    ((some 13), none, .mv (.tmp 161))])
  (.seq [2, 9, 11, 13, 16] (.reg [((some 163), none, .load true 5 (.tmp 2)),
    ((some 164), none, .call 20 [(.tmp 163)]),
    ((some 162), none, .mv (.tmp 164)),
    ((some 165), none, .extract (.tmp 162) 0),
    ((some 166), none, .extract (.tmp 162) 1),
    ((some 167), none, .extract (.tmp 162) 2),
    ((some 14), none, .alloc 38 5 (.agg [(.val (.bool false)), (.val (.int .i64 0)), (.val (.int .i64 0)), (.val (.bool false)), (.val (.slice none 0 0))])),
    ((some 15), none, .alloc 50 3 (.agg [(.val (.int .i64 0)), (.val (.bool false)), (.val (.slice none 0 0))])),
    (none, none, .store 5 (.tmp 14) (.tmp 165)),
    (none, none, .store 3 (.tmp 15) (.tmp 166)),
    ((some 16), none, .mv (.tmp 167))])
  (.seq [4] (.reg [((some 168), none, .load true 5 (.tmp 2)),
    ((some 169), none, .call 21 [(.tmp 168)]),
    ((some 170), none, .bin .eql (.tmp 169) (.const (.int .i64 1))),
    ((some 171), none, .mv (.tmp 170)),
    ((some 172), (some (171, true)), .mv (.tmp 9)),
    ((some 173), (some (171, true)), .bin .eql (.tmp 172) (.const (.int .i64 1))),
    ((some 174), none, .pick (.tmp 171) (.tmp 173) (.const (.bool false))),
    ((some 175), none, .mv (.tmp 174)),
    ((some 176), (some (175, true)), .mv (.tmp 11)),
    ((some 177), (some (175, true)), .bin .eql (.tmp 176) (.const (.int .i64 1))),
    ((some 178), none, .pick (.tmp 175) (.tmp 177) (.const (.bool false))),
    ((some 179), none, .mv (.tmp 178)),
    ((some 180), (some (179, true)), .mv (.tmp 13)),
    ((some 181), (some (179, true)), .bin .eql (.tmp 180) (.const (.int .i64 1))),
    ((some 182), none, .pick (.tmp 179) (.tmp 181) (.const (.bool false))),
    ((some 183), none, .mv (.tmp 182)),
    ((some 184), (some (183, true)), .mv (.tmp 16)),
    ((some 185), (some (183, true)), .bin .eql (.tmp 184) (.const (.int .i64 1))),
    ((some 186), none, .pick (.tmp 183) (.tmp 185) (.const (.bool false))),
    ((some 187), none, .mv (.tmp 186)),
    ((some 188), (some (187, true)), .call 9 []),
    ((some 189), none, .pick (.tmp 187) (.tmp 188) (.const (.bool false))),
    ((some 4), none, .mv (.tmp 189))])
  (.ret))))))
  (.skip)))
 (.seq [2, 19] (.reg [((some 191), none, .load true 5 (.tmp 2)),
   ((some 192), none, .call 20 [(.tmp 191)]),
   ((some 190), none, .mv (.tmp 192)),
   ((some 193), none, .extract (.tmp 190) 0),
   ((some 194), none, .extract (.tmp 190) 1),
   ((some 195), none, .extract (.tmp 190) 2),
   ((some 17), none, .alloc 38 5 (.agg [(.val (.bool false)), (.val (.int .i64 0)), (.val (.int .i64 0)), (.val (.bool false)), (.val (.slice none 0 0))])),
   ((some 18), none, .alloc 50 3 (.agg [(.val (.int .i64 0)), (.val (.bool false)), (.val (.slice none 0 0))])),
   (none, none, .store 5 (.tmp 17) (.tmp 193)),
   (none, none, .store 3 (.tmp 18) (.tmp 194)),
   ((some 19), none, .mv (.tmp 195))])
 (.seq [2, 19, 20] (.reg [((some 20), none, .mv (.const (.int .i64 0)))])
 (.seq [2, 19, 20] (.seq [2, 19, 20, 198] (.reg [((some 196), none, .fieldA 0 1 false (.tmp 2)),
   ((some 197), none, .load false 1 (.tmp 196)),
   ((some 198), none, .un .not (.tmp 197))])
 (.cond (.tmp 198)
  (.reg [((some 20), none, .mv (.const (.int .i64 12)))])
  (.seq [2, 19, 20, 201] (.reg [((some 199), none, .fieldA 2 1 false (.tmp 2)),
    ((some 200), none, .load false 1 (.tmp 199)),
    ((some 201), none, .bin .eql (.tmp 200) (.const (.int .i64 2048)))])
  (.cond (.tmp 201)
   (.reg [((some 20), none, .mv (.const (.int .i64 3)))])
   (.skip)))))
 (.seq [4] (.reg [((some 202), none, .load true 5 (.tmp 2)),
   ((some 203), none, .call 21 [(.tmp 202)]),
   ((some 204), none, .bin .eql (.tmp 203) (.const (.int .i64 0))),
   ((some 205), none, .mv (.tmp 204)),
   ((some 206), (some (205, true)), .mv (.tmp 19)),
   ((some 207), (some (205, true)), .mv (.tmp 20)),
   ((some 208), (some (205, true)), .bin .eql (.tmp 206) (.tmp 207)),
   ((some 209), none, .pick (.tmp 205) (.tmp 208) (.const (.bool false))),
   ((some 210), none, .mv (.tmp 209)),
   ((some 211), (some (210, true)), .call 9 []),
   ((some 212), none, .pick (.tmp 210) (.tmp 211) (.const (.bool false))),
   ((some 4), none, .mv (.tmp 212))])
 (.ret)))))))))))
theorem k8 : FnOK Try.prog 8 c8 [.tmp 4] 2 := ⟨by kernel_rfl, Try.f8, _, [], Try.func8, rfl, by kernel_rfl, by kernel_rfl, by decide⟩

-- gansey/ganseylaw02.lives
def c9 : Cmd :=
 .seq [] (.reg [((some 0), none, .mv (.const (.bool false)))])
 (.seq [1] (.reg [((some 16), none, .build [(.val (.int .u8 0)), (.val (.int .i64 0))] [(0, 1, (.const (.int .u8 1)))]),
   ((some 17), none, .build [(.val (.int .u8 0)), (.val (.int .i64 0)), (.val (.bool false)), (.val (.int .u8 0))] [(0, 2, (.tmp 16)), (3, 1, (.const (.int .u8 0)))]),
   ((some 1), none, .alloc 33 4 (.agg [(.val (.int .u8 0)), (.val (.int .i64 0)), (.val (.bool false)), (.val (.int .u8 0))])),
   (none, none, .store 4 (.tmp 1) (.tmp 17))])
 (.seq [1, 2] (.reg [((some 18), none, .build [(.val (.int .u8 0)), (.val (.int .i64 0))] [(0, 1, (.const (.int .u8 1)))]),
   ((some 19), none, .build [(.val (.int .u8 0)), (.val (.int .i64 0)), (.val (.bool false)), (.val (.int .u8 0))] [(0, 2, (.tmp 18)), (3, 1, (.const (.int .u8 1)))]),
   ((some 2), none, .alloc 33 4 (.agg [(.val (.int .u8 0)), (.val (.int .i64 0)), (.val (.bool false)), (.val (.int .u8 0))])),
   (none, none, .store 4 (.tmp 2) (.tmp 19))])
 (.seq [1] (.seq [1, 60] (.dreg [] [((some 20), none, .load true 4 (.tmp 1)),
   ((some 21), none, .load true 4 (.tmp 2)),
   ((some 22), none, .blist 4 [(.tmp 20), (.tmp 21)]),
   ((some 23), none, .call 11 [(.tmp 22)]),
   ((some 24), none, .len (.tmp 23)),
   ((some 25), none, .bin .neq (.tmp 24) (.const (.int .i64 0))),
   ((some 26), none, .mv (.tmp 25)),
   ((some 27), (some (26, false)), .load true 4 (.tmp 1)),
   ((some 28), (some (26, false)), .load true 4 (.tmp 1)),
   ((some 29), (some (26, false)), .load true 4 (.tmp 2)),
   ((some 30), (some (26, false)), .blist 4 [(.tmp 27), (.tmp 28), (.tmp 29)]),
   ((some 31), (some (26, false)), .call 11 [(.tmp 30)]),
   ((some 32), (some (26, false)), .load true 4 (.tmp 1)),
   ((some 33), (some (26, false)), .blist 4 [(.tmp 32)]),
   ((some 34), (some (26, false)), .call 13 [(.tmp 31), (.tmp 33)]),
   ((some 35), (some (26, false)), .bin .eql (.tmp 34) (.const (.int .i64 0))),
   ((some 36), none, .pick (.tmp 26) (.const (.bool true)) (.tmp 35)),
   ((some 37), none, .mv (.tmp 36)),
   ((some 38), (some (37, false)), .load true 4 (.tmp 2)),
   ((some 39), (some (37, false)), .load true 4 (.tmp 1)),
   ((some 40), (some (37, false)), .load true 4 (.tmp 1)),
   ((some 41), (some (37, false)), .load true 4 (.tmp 2)),
   ((some 42), (some (37, false)), .load true 4 (.tmp 2)),
   ((some 43), (some (37, false)), .blist 4 [(.tmp 38), (.tmp 39), (.tmp 40), (.tmp 41), (.tmp 42)]),
   ((some 44), (some (37, false)), .call 11 [(.tmp 43)]),
   ((some 45), (some (37, false)), .load true 4 (.tmp 2)),
   ((some 46), (some (37, false)), .blist 4 [(.tmp 45)]),
   ((some 47), (some (37, false)), .call 13 [(.tmp 44), (.tmp 46)]),
   ((some 48), (some (37, false)), .bin .eql (.tmp 47) (.const (.int .i64 0))),
   ((some 49), none, .pick (.tmp 37) (.const (.bool true)) (.tmp 48)),
   ((some 50), none, .mv (.tmp 49)),
   ((some 51), (some (50, false)), .load true 4 (.tmp 1)),
   ((some 52), (some (50, false)), .load true 4 (.tmp 1)),
   ((some 53), (some (50, false)), .blist 4 [(.tmp 51), (.tmp 52)]),
   ((some 54), (some (50, false)), .call 16 [(.tmp 53)]),
   ((some 55), (some (50, false)), .load true 4 (.tmp 2)),
   ((some 56), (some (50, false)), .load true 4 (.tmp 2)),
   ((some 57), (some (50, false)), .blist 4 [(.tmp 55), (.tmp 56)]),
   ((some 58), (some (50, false)), .call 13 [(.tmp 54), (.tmp 57)]),
   ((some 59), (some (50, false)), .bin .eql (.tmp 58) (.const (.int .i64 0))),
   ((some 60), none, .pick (.tmp 50) (.const (.bool true)) (.tmp 59))]
  [])
 (.cond (.tmp 60)
  (.seq [0] (.reg [((some 0), none, .mv (.const (.bool false)))])
  (.ret))
  (.skip)))
 (.seq [1, 3, 4] (.reg [((some 62), none, .build [(.val (.bool false)), (.val (.int .i64 0)), (.val (.int .i64 0)), (.val (.bool false)), (.val (.slice none 0 0))] []),
   ((some 63), none, .call 17 [(.tmp 62), (.const (.int .u8 1))]),
   ((some 61), none, .mv (.tmp 63)),
   ((some 64), none, .extract (.tmp 61) 0),
   ((some 65), none, .extract (.tmp 61) 1),
   ((some 3), none, .alloc 38 5 (.agg [(.val (.bool false)), (.val (.int .i64 0)), (.val (.int .i64 0)), (.val (.bool false)), (.val (.slice none 0 0))])),
   (none, none, .store 5 (.tmp 3) (.tmp 64)),
   ((some 4), none, .mv (.tmp 65))])
 (.seq [1, 3, 4, 6] (.reg [((some 67), none, .load true 5 (.tmp 3)),
   ((some 68), none, .call 17 [(.tmp 67), (.const (.int .u8 1))]),
   ((some 66), none, .mv (.tmp 68)),
   ((some 69), none, .extract (.tmp 66) 0),
   ((some 70), none, .extract (.tmp 66) 1),
   ((some 5), none, .alloc 38 5 (.agg [(.val (.bool false)), (.val (.int .i64 0)), (.val (.int .i64 0)), (.val (.bool false)), (.val (.slice none 0 0))])),
   (none, none, .store 5 (.tmp 5) (.tmp 69)),
   ((some 6), none, .mv (.tmp 70))])
 (.seq [1, 3] (.seq [1, 3, 91] (.reg [((some 71), none, .mv (.tmp 4)),
   ((some 72), none, .bin .neq (.tmp 71) (.const (.int .i64 0))),
   ((some 73), none, .mv (.tmp 72)),
   ((some 74), (some (73, false)), .mv (.tmp 6)),
   ((some 75), (some (73, false)), .bin .neq (.tmp 74) (.const (.int .i64 12))),
   ((some 76), none, .pick (.tmp 73) (.const (.bool true)) (.tmp 75)),
   ((some 77), none, .mv (.tmp 76)),
   ((some 78), (some (77, false)), .fieldA 1 1 false (.tmp 3)),
   ((some 79), (some (77, false)), .load false 1 (.tmp 78)),
   ((some 80), (some (77, false)), .bin .neq (.tmp 79) (.const (.int .i64 179))),
   ((some 81), none, .pick (.tmp 77) (.const (.bool true)) (.tmp 80)),
   ((some 82), none, .mv (.tmp 81)),
   ((some 83), (some (82, false)), .fieldA 3 1 false (.tmp 3)),
   ((some 84), (some (82, false)), .load false 1 (.tmp 83)),
   ((some 85), (some (82, false)), .un .not (.tmp 84)),
   ((some 86), none, .pick (.tmp 82) (.const (.bool true)) (.tmp 85)),
   ((some 87), none, .mv (.tmp 86)),
   ((some 88), (some (87, false)), .fieldA 0 1 false (.tmp 3)),
   ((some 89), (some (87, false)), .load false 1 (.tmp 88)),
   ((some 90), (some (87, false)), .un .not (.tmp 89)),
   ((some 91), none, .pick (.tmp 87) (.const (.bool true)) (.tmp 90))])
 (.cond (.tmp 91)
  (.seq [0] (.reg [((some 0), none, .mv (.const (.bool false)))])
  (.ret))
  (.skip)))
 (.seq [1, 3, 4] (.reg [((some 93), none, .load true 5 (.tmp 3)),
   ((some 94), none, .load true 4 (.tmp 1)),
   ((some 95), none, .blist 4 [(.tmp 94)]),
   ((some 96), none, .call 18 [(.tmp 93), (.const (.int .i64 7)), (.tmp 95)]),
   ((some 92), none, .mv (.tmp 96)),
   ((some 97), none, .extract (.tmp 92) 0),
   ((some 98), none, .extract (.tmp 92) 1),
   (none, none, .store 5 (.tmp 3) (.tmp 97)),
   ((some 4), none, .mv (.tmp 98))])
 (.seq [1, 4, 6, 7, 8] (.reg [((some 100), none, .load true 5 (.tmp 3)),
   ((some 101), none, .call 20 [(.tmp 100)]),
   ((some 99), none, .mv (.tmp 101)),
   ((some 102), none, .extract (.tmp 99) 0),
   ((some 103), none, .extract (.tmp 99) 1),
   ((some 104), none, .extract (.tmp 99) 2),
   ((some 7), none, .alloc 38 5 (.agg [(.val (.bool false)), (.val (.int .i64 0)), (.val (.int .i64 0)), (.val (.bool false)), (.val (.slice none 0 0))])),
   ((some 8), none, .alloc 50 3 (.agg [(.val (.int .i64 0)), (.val (.bool false)), (.val (.slice none 0 0))])),
   (none, none, .store 5 (.tmp 7) (.tmp 102)),
   (none, none, .store 3 (.tmp 8) (.tmp 103)),
   ((some 6), none, .mv (.tmp 104))])
 (.seq [1, 4, 6, 7, 8, 10, 11] (.reg [((some 106), none, .load true 5 (.tmp 7)),
   ((some 107), none, .call 20 [(.tmp 106)]),
   ((some 105), none, .mv (.tmp 107)),
   ((some 108), none, .extract (.tmp 105) 0),
   ((some 109), none, .extract (.tmp 105) 1),
   ((some 110), none, .extract (.tmp 105) 2),
   ((some 9), none, .alloc 38 5 (.agg [(.val (.bool false)), (.val (.int .i64 0)), (.val (.int .i64 0)), (.val (.bool false)), (.val (.slice none 0 0))])),
   ((some 10), none, .alloc 50 3 (.agg [(.val (.int .i64 0)), (.val (.bool false)), (.val (.slice none 0 0))])),
   (none, none, .store 5 (.tmp 9) (.tmp 108)),
   (none, none, .store 3 (.tmp 10) (.tmp 109)),
   ((some 11), none, .mv (.tmp 110))])
 (.seq [1, 4, 6, 8, 10, 11, 13] (.reg [((some 112), none, .load true 5 (.tmp 7)),
   ((some 113), none, .call 18 [(.tmp 112), (.const (.int .i64 8)), (.const (.slice none 0 0))]),
   ((some 111), none, .mv (.tmp 113)),
   ((some 114), none, .extract (.tmp 111) 0),
   ((some 115), none, .extract (.tmp 111) 1),
   ((some 12), none, .alloc 38 5 (.agg [(.val (.bool false)), (.val (.int .i64 0)), (.val (.int .i64 0)), (.val (.bool false)), (.val (.slice none 0 0))])),
   (none, none, .store 5 (.tmp 12) (.tmp 114)),
   ((some 13), none, .mv (.tmp 115))])
 (.seq [1, 4, 6, 8, 10, 11, 13, 15] (.reg [((some 117), none, .build [(.val (.bool false)), (.val (.int .i64 0)), (.val (.int .i64 0)), (.val (.bool false)), (.val (.slice none 0 0))] []),
   ((some 118), none, .call 18 [(.tmp 117), (.const (.int .i64 7)), (.const (.slice none 0 0))]),
   ((some 116), none, .mv (.tmp 118)),
   ((some 119), none, .extract (.tmp 116) 0),
   ((some 120), none, .extract (.tmp 116) 1),
   ((some 14), none, .alloc 38 5 (.agg [(.val (.bool false)), (.val (.int .i64 0)), (.val (.int .i64 0)), (.val (.bool false)), (.val (.slice none 0 0))])),
   (none, none, .store 5 (.tmp 14) (.tmp 119)),
   ((some 15), none, .mv (.tmp 120))])
 (.seq [0] (.reg [((some 121), none, .mv (.tmp 4)),
   ((some 122), none, .bin .eql (.tmp 121) (.const (.int .i64 0))),
   ((some 123), none, .mv (.tmp 122)),
   ((some 124), (some (123, true)), .mv (.tmp 6)),
   ((some 125), (some (123, true)), .bin .eql (.tmp 124) (.const (.int .i64 0))),
   ((some 126), none, .pick (.tmp 123) (.tmp 125) (.const (.bool false))),
   ((some 127), none, .mv (.tmp 126)),
   ((some 128), (some (127, true)), .mv (.tmp 11)),
   ((some 129), (some (127, true)), .bin .eql (.tmp 128) (.const (.int .i64 0))),
   ((some 130), none, .pick (.tmp 127) (.tmp 129) (.const (.bool false))),
   ((some 131), none, .mv (.tmp 130)),
   ((some 132), (some (131, true)), .fieldA 0 1 false (.tmp 8)),
   ((some 133), (some (131, true)), .load false 1 (.tmp 132)),
   ((some 134), (some (131, true)), .bin .eql (.tmp 133) (.const (.int .i64 0))),
   ((some 135), none, .pick (.tmp 131) (.tmp 134) (.const (.bool false))),
   ((some 136), none, .mv (.tmp 135)),
   ((some 137), (some (136, true)), .fieldA 1 1 false (.tmp 8)),
   ((some 138), (some (136, true)), .load false 1 (.tmp 137)),
   ((some 139), none, .pick (.tmp 136) (.tmp 138) (.const (.bool false))),
   ((some 140), none, .mv (.tmp 139)),
   ((some 141), (some (140, true)), .fieldA 2 1 false (.tmp 8)),
   ((some 142), (some (140, true)), .load false 1 (.tmp 141)),
   ((some 143), (some (140, true)), .load true 4 (.tmp 1)),
   ((some 144), (some (140, true)), .blist 4 [(.tmp 143)]),
   ((some 145), (some (140, true)), .call 13 [(.tmp 142), (.tmp 144)]),
   ((some 146), (some (140, true)), .bin .eql (.tmp 145) (.const (.int .i64 1))),
   ((some 147), none, .pick (.tmp 140) (.tmp 146) (.const (.bool false))),
   ((some 148), none, .mv (.tmp 147)),
   ((some 149), (some (148, true)), .fieldA 0 1 false (.tmp 10)),
   ((some 150), (some (148, true)), .load false 1 (.tmp 149)),
   ((some 151), (some (148, true)), .bin .eql (.tmp 150) (.const (.int .i64 1))),
   ((some 152), none, .pick (.tmp 148) (.tmp 151) (.const (.bool false))),
   ((some 153), none, .mv (.tmp 152)),
   ((some 154), (some (153, true)), .fieldA 1 1 false (.tmp 10)),
   ((some 155), (some (153, true)), .load false 1 (.tmp 154)),
   ((some 156), (some (153, true)), .un .not (.tmp 155)),
   ((some 157), none, .pick (.tmp 153) (.tmp 156) (.const (.bool false))),
   ((some 158), none, .mv (.tmp 157)),
   ((some 159), (some (158, true)), .fieldA 2 1 false (.tmp 10)),
   ((some 160), (some (158, true)), .load false 1 (.tmp 159)),
   ((some 161), (some (158, true)), .len (.tmp 160)),
   ((some 162), (some (158, true)), .bin .eql (.tmp 161) (.const (.int .i64 0))),
   ((some 163), none, .pick (.tmp 158) (.tmp 162) (.const (.bool false))),
   ((some 164), none, .mv (.tmp 163)),
   ((some 165), (some (164, true)), .mv (.tmp 13)),
   ((some 166), (some (164, true)), .bin .eql (.tmp 165) (.const (.int .i64 1))),
   ((some 167), none, .pick (.tmp 164) (.tmp 166) (.const (.bool false))),
   ((some 168), none, .mv (.tmp 167)),
   ((some 169), (some (168, true)), .mv (.tmp 15)),
   ((some 170), (some (168, true)), .bin .eql (.tmp 169) (.const (.int .i64 12))),
   ((some 171), none, .pick (.tmp 168) (.tmp 170) (.const (.bool false))),
   ((some 0), none, .mv (.tmp 171))])
 (.ret)))))))))))))
theorem k9 : FnOK Try.prog 9 c9 [.tmp 0] 0 := ⟨by kernel_rfl, Try.f9, _, [], Try.func9, rfl, by kernel_rfl, by kernel_rfl, by decide⟩

-- gansey/ganseylaw02.Of
def c10 : Cmd :=
 .seq [0] (.reg [((some 2), none, .mv (.const (.slice none 0 0)))])
 (.seq [0, 3] (.reg [((some 3), none, .mv (.const (.slice none 0 0)))])
 (.seq [3] (.seq [0, 3, 4] (.reg [((some 4), none, .mv (.const (.int .i64 0)))])
 (.block 0
  (.loop [0, 3, 4]
   (.seq [0, 3, 4] (.seq [0, 3, 4, 9] (.reg [((some 6), none, .mv (.tmp 4)),
     ((some 7), none, .mv (.tmp 0)),
     ((some 8), none, .len (.tmp 7)),
     ((some 9), none, .bin .lss (.tmp 6) (.tmp 8))])
   (.cond (.tmp 9)
    (.skip)
    (.exit 0)))
   (.seq [0, 3, 4] (.block 1
    (.seq [0, 3, 4, 5] (.reg [((some 12), none, .mv (.tmp 0)),
      ((some 13), none, .mv (.tmp 4)),
      ((some 14), none, .indexA 1 (.tmp 12) (.tmp 13)),
      ((some 15), none, .load false 1 (.tmp 14)),
      ((some 5), none, .mv (.tmp 15))])
    (.reg [((some 16), none, .mv (.tmp 3)),
      ((some 17), none, .mv (.tmp 5)),
      ((some 18), none, .bin .quo (.tmp 17) (.const (.int .u8 4))),
      ((some 19), none, .bin .rem (.tmp 18) (.const (.int .u8 2))),
      ((some 20), none, .bin .add (.const (.int .u8 1)) (.tmp 19)),
      ((some 21), none, .mv (.tmp 5)),
      ((some 22), none, .bin .quo (.tmp 21) (.const (.int .u8 8))),
      ((some 23), none, .bin .rem (.tmp 22) (.const (.int .u8 3))),
      ((some 24), none, .convi .i64 (.tmp 23)),
      ((some 25), none, .build [(.val (.int .u8 0)), (.val (.int .i64 0))] [(0, 1, (.tmp 20)), (1, 1, (.tmp 24))]),
      ((some 26), none, .mv (.tmp 5)),
      ((some 27), none, .bin .quo (.tmp 26) (.const (.int .u8 2))),
      ((some 28), none, .bin .rem (.tmp 27) (.const (.int .u8 2))),
      ((some 29), none, .bin .eql (.tmp 28) (.const (.int .u8 1))),
      ((some 30), none, .mv (.tmp 5)),
      ((some 31), none, .bin .rem (.tmp 30) (.const (.int .u8 2))),
      ((some 32), none, .build [(.val (.int .u8 0)), (.val (.int .i64 0)), (.val (.bool false)), (.val (.int .u8 0))] [(0, 2, (.tmp 25)), (2, 1, (.tmp 29)), (3, 1, (.tmp 31))]),
      ((some 33), none, .blist 4 [(.tmp 32)]),
      ((some 34), none, .append true 33 4 24 (.tmp 16) (.tmp 33)),
      ((some 3), none, .mv (.tmp 34))])))
   (.reg [((some 10), none, .mv (.tmp 4)),
     ((some 11), none, .bin .add (.tmp 10) (.const (.int .i64 1))),
     ((some 4), none, .mv (.tmp 11))]))))))
 (.seq [2] (.reg [((some 35), none, .mv (.tmp 3)),
   ((some 2), none, .mv (.tmp 35))])
 (.ret))))
theorem k10 : FnOK Try.prog 10 c10 [.tmp 2] 1 := ⟨by kernel_rfl, Try.f10, _, [34], Try.func10, rfl, by kernel_rfl, by kernel_rfl, by decide⟩

-- gansey/yarns.Reduce
def c11 : Cmd :=
 .seq [0] (.reg [((some 2), none, .mv (.const (.slice none 0 0)))])
 (.seq [0, 3] (.reg [((some 7), none, .mv (.tmp 0)),
   ((some 8), none, .len (.tmp 7)),
   ((some 9), none, .mkslice 33 4 24 (.agg [(.val (.int .u8 0)), (.val (.int .i64 0)), (.val (.bool false)), (.val (.int .u8 0))]) (.const (.int .i64 0)) (.tmp 8)),
   ((some 3), none, .mv (.tmp 9))])
 (.seq [3] (.seq [3, 10, 11, 12] (.reg [((some 10), none, .mv (.tmp 0)),
   ((some 11), none, .len (.tmp 10)),
   ((some 12), none, .mv (.const (.int .i64 0)))])
 (.block 0
  (.loop [3, 10, 11, 12]
   (.seq [3, 10, 11, 12, 13] (.reg [((some 13), none, .bin .lss (.tmp 12) (.tmp 11))])
   (.seq [3, 10, 11, 12] (.cond (.tmp 13)
    (.skip)
    (.exit 0))
   (.seq [3, 10, 11, 12] (.block 1
    (.seq [3, 5, 10, 11, 12] (.reg [((some 14), none, .indexA 4 (.tmp 10) (.tmp 12)),
      ((some 15), none, .load true 4 (.tmp 14)),
      ((some 5), none, .alloc 33 4 (.agg [(.val (.int .u8 0)), (.val (.int .i64 0)), (.val (.bool false)), (.val (.int .u8 0))])),
      (none, none, .store 4 (.tmp 5) (.tmp 15))])
    (.seq [3, 5, 6, 10, 11, 12] (.reg [((some 16), none, .mv (.tmp 3)),
      ((some 17), none, .len (.tmp 16)),
      ((some 18), none, .bin .sub (.tmp 17) (.const (.int .i64 1))),
      ((some 6), none, .mv (.tmp 18))])
    (.seq [3, 5, 6, 10, 11, 12, 34] (.dreg [] [((some 19), none, .mv (.tmp 6)),
      ((some 20), none, .bin .geq (.tmp 19) (.const (.int .i64 0))),
      ((some 21), none, .mv (.tmp 20)),
      ((some 22), (some (21, true)), .mv (.tmp 3)),
      ((some 23), (some (21, true)), .mv (.tmp 6)),
      ((some 24), (some (21, true)), .indexA 4 (.tmp 22) (.tmp 23)),
      ((some 25), (some (21, true)), .load true 4 (.tmp 24)),
      ((some 26), (some (21, true)), .load true 4 (.tmp 5)),
      ((some 27), (some (21, true)), .call 23 [(.tmp 26)]),
      ((some 28), (some (21, true)), .eqagg false [true, true, false, true] (.tmp 25) (.tmp 27)),
      ((some 29), none, .pick (.tmp 21) (.tmp 28) (.const (.bool false))),
      ((some 30), none, .mv (.tmp 29)),
      ((some 31), (some (30, true)), .fieldA 3 1 false (.tmp 5)),
      ((some 32), (some (30, true)), .load false 1 (.tmp 31)),
      ((some 33), (some (30, true)), .bin .leq (.tmp 32) (.const (.int .u8 1))),
      ((some 34), none, .pick (.tmp 30) (.tmp 33) (.const (.bool false)))]
     [])
    (.cond (.tmp 34)
     (.reg [((some 35), none, .mv (.tmp 3)),
       ((some 36), none, .mv (.tmp 6)),
       ((some 37), none, .mv (.tmp 3)),
       ((some 38), none, .cap (.tmp 37)),
       ((some 39), none, .slice 4 (.tmp 35) none (some (.tmp 36)) (some (.tmp 38))),
       ((some 3), none, .mv (.tmp 39))])
     (.reg [((some 40), none, .mv (.tmp 3)),
       ((some 41), none, .load true 4 (.tmp 5)),
       ((some 42), none, .blist 4 [(.tmp 41)]),
       ((some 43), none, .append true 33 4 24 (.tmp 40) (.tmp 42)),
       ((some 3), none, .mv (.tmp 43))]))))))
   (.reg [((some 44), none, .bin .add (.tmp 12) (.const (.int .i64 1))),
     ((some 12), none, .mv (.tmp 44))])))))))
 (.seq [2] (.reg [((some 45), none, .mv (.tmp 3)),
   ((some 46), none, .call 25 [(.tmp 45)]),
   ((some 47), none, .call 24 [(.tmp 46)]),
   ((some 2), none, .mv (.tmp 47))])
 (.ret))))
theorem k11 : FnOK Try.prog 11 c11 [.tmp 2] 1 := ⟨by kernel_rfl, Try.f11, _, [43], Try.func11, rfl, by kernel_rfl, by kernel_rfl, by decide⟩

-- gansey/ganseylaw02.reduced
def c12 : Cmd :=
 .seq [0] (.reg [((some 2), none, .mv (.const (.slice none 0 0)))])
 (.seq [3] (.reg [((some 5), none, .blist 4 []),
   ((some 6), none, .mv (.tmp 0)),
   ((some 7), none, .append false 33 4 24 (.tmp 5) (.tmp 6)),
   ((some 3), none, .mv (.tmp 7))])
 (.seq [3] (.seq [3, 4] (.reg [((some 4), none, .mv (.const (.int .i64 0)))])
 (.block 0
  (.loop [3, 4]
   (.seq [3, 4] (.seq [3, 4, 12] (.reg [((some 8), none, .mv (.tmp 4)),
     ((some 9), none, .bin .add (.tmp 8) (.const (.int .i64 1))),
     ((some 10), none, .mv (.tmp 3)),
     ((some 11), none, .len (.tmp 10)),
     ((some 12), none, .bin .lss (.tmp 9) (.tmp 11))])
   (.cond (.tmp 12)
    (.skip)
    (.exit 0)))
   (.block 1
    (.seq [3, 4] (.seq [3, 4, 23] (.dreg [] [((some 13), none, .mv (.tmp 3)),
      ((some 14), none, .mv (.tmp 4)),
      ((some 15), none, .indexA 4 (.tmp 13) (.tmp 14)),
      ((some 16), none, .load true 4 (.tmp 15)),
      ((some 17), none, .mv (.tmp 3)),
      ((some 18), none, .mv (.tmp 4)),
      ((some 19), none, .bin .add (.tmp 18) (.const (.int .i64 1))),
      ((some 20), none, .indexA 4 (.tmp 17) (.tmp 19)),
      ((some 21), none, .load true 4 (.tmp 20)),
      ((some 22), none, .call 15 [(.tmp 16), (.tmp 21)]),
      ((some 23), none, .bin .eql (.tmp 22) (.const (.int .i64 0)))]
     [])
    (.cond (.tmp 23)
     (.seq [3, 4] (.reg [((some 24), none, .mv (.tmp 4)),
       ((some 25), none, .bin .add (.tmp 24) (.const (.int .i64 1))),
       ((some 4), none, .mv (.tmp 25))])
     (.exit 1))
     (.skip)))
    (.seq [3] (.dreg [30] [((some 26), none, .blist 4 []),
      ((some 27), none, .mv (.tmp 3)),
      ((some 28), none, .mv (.tmp 4)),
      ((some 29), none, .slice 4 (.tmp 27) none (some (.tmp 28)) none),
      ((some 30), none, .append true 33 4 24 (.tmp 26) (.tmp 29)),
      ((some 31), none, .mv (.tmp 3)),
      ((some 32), none, .mv (.tmp 4)),
      ((some 33), none, .bin .add (.tmp 32) (.const (.int .i64 2))),
      ((some 34), none, .slice 4 (.tmp 31) (some (.tmp 33)) none none),
      ((some 35), none, .append false 33 4 24 (.tmp 30) (.tmp 34))]
     [((some 3), none, .mv (.tmp 35))])
    (.reg [((some 4), none, .mv (.const (.int .i64 0)))]))))))))
 (.seq [2] (.reg [((some 36), none, .mv (.tmp 3)),
   ((some 37), none, .len (.tmp 36)),
   ((some 38), none, .mkslice 33 4 24 (.agg [(.val (.int .u8 0)), (.val (.int .i64 0)), (.val (.bool false)), (.val (.int .u8 0))]) (.const (.int .i64 0)) (.tmp 37)),
   ((some 39), none, .mv (.tmp 3)),
   ((some 40), none, .append false 33 4 24 (.tmp 38) (.tmp 39)),
   ((some 2), none, .mv (.tmp 40))])
 (.ret))))
theorem k12 : FnOK Try.prog 12 c12 [.tmp 2] 1 := ⟨by kernel_rfl, Try.f12, _, [30], Try.func12, rfl, by kernel_rfl, by kernel_rfl, by decide⟩

-- gansey/ganseylaw02.same
def c13 : Cmd :=
 .seq [0, 1] (.reg [((some 4), none, .mv (.const (.int .i64 0)))])
 (.seq [0, 1] (.seq [0, 1, 17] (.reg [((some 6), none, .mv (.tmp 0)),
   ((some 7), none, .len (.tmp 6)),
   ((some 8), none, .mv (.tmp 1)),
   ((some 9), none, .len (.tmp 8)),
   ((some 10), none, .bin .neq (.tmp 7) (.tmp 9)),
   ((some 11), none, .mv (.tmp 10)),
   ((some 12), (some (11, false)), .mv (.tmp 0)),
   ((some 13), (some (11, false)), .cap (.tmp 12)),
   ((some 14), (some (11, false)), .mv (.tmp 0)),
   ((some 15), (some (11, false)), .len (.tmp 14)),
   ((some 16), (some (11, false)), .bin .neq (.tmp 13) (.tmp 15)),
   ((some 17), none, .pick (.tmp 11) (.const (.bool true)) (.tmp 16))])
 (.cond (.tmp 17)
  (.seq [4] (.reg [((some 4), none, .mv (.const (.int .i64 0)))])
  (.ret))
  (.skip)))
 (.seq [] (.seq [0, 1, 5] (.reg [((some 5), none, .mv (.const (.int .i64 0)))])
 (.block 0
  (.loop [0, 1, 5]
   (.seq [0, 1, 5] (.seq [0, 1, 5, 21] (.reg [((some 18), none, .mv (.tmp 5)),
     ((some 19), none, .mv (.tmp 0)),
     ((some 20), none, .len (.tmp 19)),
     ((some 21), none, .bin .lss (.tmp 18) (.tmp 20))])
   (.cond (.tmp 21)
    (.skip)
    (.exit 0)))
   (.seq [0, 1, 5] (.block 1
    (.seq [0, 1, 5, 32] (.dreg [] [((some 24), none, .mv (.tmp 0)),
      ((some 25), none, .mv (.tmp 5)),
      ((some 26), none, .indexA 4 (.tmp 24) (.tmp 25)),
      ((some 27), none, .load true 4 (.tmp 26)),
      ((some 28), none, .mv (.tmp 1)),
      ((some 29), none, .mv (.tmp 5)),
      ((some 30), none, .indexA 4 (.tmp 28) (.tmp 29)),
      ((some 31), none, .load true 4 (.tmp 30)),
      ((some 32), none, .eqagg true [true, true, false, true] (.tmp 27) (.tmp 31))]
     [])
    (.cond (.tmp 32)
     (.seq [4] (.reg [((some 4), none, .mv (.const (.int .i64 0)))])
     (.ret))
     (.skip))))
   (.reg [((some 22), none, .mv (.tmp 5)),
     ((some 23), none, .bin .add (.tmp 22) (.const (.int .i64 1))),
     ((some 5), none, .mv (.tmp 23))]))))))
 (.seq [4] (.reg [((some 4), none, .mv (.const (.int .i64 1)))])
 (.ret))))
theorem k13 : FnOK Try.prog 13 c13 [.tmp 4] 2 := ⟨by kernel_rfl, Try.f13, _, [], Try.func13, rfl, by kernel_rfl, by kernel_rfl, by decide⟩

-- gansey/ganseylaw02.backwards
def c14 : Cmd :=
 .seq [0] (.reg [((some 2), none, .mv (.const (.slice none 0 0)))])
 (.seq [3] (.reg [((some 5), none, .blist 4 []),
   ((some 6), none, .mv (.tmp 0)),
   ((some 7), none, .append false 33 4 24 (.tmp 5) (.tmp 6)),
   ((some 3), none, .mv (.tmp 7))])
 (.seq [3] (.seq [3, 4] (.reg [((some 8), none, .mv (.tmp 3)),
   ((some 9), none, .len (.tmp 8)),
   ((some 10), none, .bin .sub (.tmp 9) (.const (.int .i64 2))),
   ((some 4), none, .mv (.tmp 10))])
 (.block 0
  (.loop [3, 4]
   (.seq [3, 4] (.seq [3, 4, 12] (.reg [((some 11), none, .mv (.tmp 4)),
     ((some 12), none, .bin .geq (.tmp 11) (.const (.int .i64 0)))])
   (.cond (.tmp 12)
    (.skip)
    (.exit 0)))
   (.block 1
    (.seq [3, 4] (.seq [3, 4, 23] (.dreg [] [((some 13), none, .mv (.tmp 3)),
      ((some 14), none, .mv (.tmp 4)),
      ((some 15), none, .indexA 4 (.tmp 13) (.tmp 14)),
      ((some 16), none, .load true 4 (.tmp 15)),
      ((some 17), none, .mv (.tmp 3)),
      ((some 18), none, .mv (.tmp 4)),
      ((some 19), none, .bin .add (.tmp 18) (.const (.int .i64 1))),
      ((some 20), none, .indexA 4 (.tmp 17) (.tmp 19)),
      ((some 21), none, .load true 4 (.tmp 20)),
      ((some 22), none, .call 15 [(.tmp 16), (.tmp 21)]),
      ((some 23), none, .bin .eql (.tmp 22) (.const (.int .i64 0)))]
     [])
    (.cond (.tmp 23)
     (.seq [3, 4] (.reg [((some 24), none, .mv (.tmp 4)),
       ((some 25), none, .bin .sub (.tmp 24) (.const (.int .i64 1))),
       ((some 4), none, .mv (.tmp 25))])
     (.exit 1))
     (.skip)))
    (.seq [3] (.dreg [30] [((some 26), none, .blist 4 []),
      ((some 27), none, .mv (.tmp 3)),
      ((some 28), none, .mv (.tmp 4)),
      ((some 29), none, .slice 4 (.tmp 27) none (some (.tmp 28)) none),
      ((some 30), none, .append true 33 4 24 (.tmp 26) (.tmp 29)),
      ((some 31), none, .mv (.tmp 3)),
      ((some 32), none, .mv (.tmp 4)),
      ((some 33), none, .bin .add (.tmp 32) (.const (.int .i64 2))),
      ((some 34), none, .slice 4 (.tmp 31) (some (.tmp 33)) none none),
      ((some 35), none, .append false 33 4 24 (.tmp 30) (.tmp 34))]
     [((some 3), none, .mv (.tmp 35))])
    (.reg [((some 36), none, .mv (.tmp 3)),
      ((some 37), none, .len (.tmp 36)),
      ((some 38), none, .bin .sub (.tmp 37) (.const (.int .i64 2))),
      ((some 4), none, .mv (.tmp 38))]))))))))
 (.seq [2] (.reg [((some 39), none, .mv (.tmp 3)),
   ((some 2), none, .mv (.tmp 39))])
 (.ret))))
theorem k14 : FnOK Try.prog 14 c14 [.tmp 2] 1 := ⟨by kernel_rfl, Try.f14, _, [30], Try.func14, rfl, by kernel_rfl, by kernel_rfl, by decide⟩

-- gansey/ganseylaw02.cancel
def c15 : Cmd :=
 .seq [2, 3] (.reg [((some 2), none, .box 33 4 (.tmp 0)),
   ((some 3), none, .box 33 4 (.tmp 1)),
   ((some 4), none, .mv (.const (.int .i64 0)))])
 (.seq [] (.seq [33] (.reg [((some 5), none, .fieldA 0 2 true (.tmp 2)),
   ((some 6), none, .load true 2 (.tmp 5)),
   ((some 7), none, .fieldA 0 2 true (.tmp 3)),
   ((some 8), none, .load true 2 (.tmp 7)),
   ((some 9), none, .eqagg false [true, true] (.tmp 6) (.tmp 8)),
   ((some 10), none, .mv (.tmp 9)),
   ((some 11), (some (10, true)), .fieldA 2 1 false (.tmp 2)),
   ((some 12), (some (10, true)), .load false 1 (.tmp 11)),
   ((some 13), (some (10, true)), .fieldA 2 1 false (.tmp 3)),
   ((some 14), (some (10, true)), .load false 1 (.tmp 13)),
   ((some 15), (some (10, true)), .binb false (.tmp 12) (.tmp 14)),
   ((some 16), none, .pick (.tmp 10) (.tmp 15) (.const (.bool false))),
   ((some 17), none, .mv (.tmp 16)),
   ((some 18), (some (17, true)), .fieldA 3 1 false (.tmp 2)),
   ((some 19), (some (17, true)), .load false 1 (.tmp 18)),
   ((some 20), (some (17, true)), .bin .leq (.tmp 19) (.const (.int .u8 1))),
   ((some 21), none, .pick (.tmp 17) (.tmp 20) (.const (.bool false))),
   ((some 22), none, .mv (.tmp 21)),
   ((some 23), (some (22, true)), .fieldA 3 1 false (.tmp 3)),
   ((some 24), (some (22, true)), .load false 1 (.tmp 23)),
   ((some 25), (some (22, true)), .bin .leq (.tmp 24) (.const (.int .u8 1))),
   ((some 26), none, .pick (.tmp 22) (.tmp 25) (.const (.bool false))),
   ((some 27), none, .mv (.tmp 26)),
   ((some 28), (some (27, true)), .fieldA 3 1 false (.tmp 2)),
   ((some 29), (some (27, true)), .load false 1 (.tmp 28)),
   ((some 30), (some (27, true)), .fieldA 3 1 false (.tmp 3)),
   ((some 31), (some (27, true)), .load false 1 (.tmp 30)),
   ((some 32), (some (27, true)), .bin .neq (.tmp 29) (.tmp 31)),
   ((some 33), none, .pick (.tmp 27) (.tmp 32) (.const (.bool false)))])
 (.cond (.tmp 33)
  (.seq [4] (.reg [((some 4), none, .mv (.const (.int .i64 1)))])
  (.ret))
  (.skip)))
 (.seq [4] (.reg [((some 4), none, .mv (.const (.int .i64 0)))])
 (.ret)))
theorem k15 : FnOK Try.prog 15 c15 [.tmp 4] 2 := ⟨by kernel_rfl, Try.f15, _, [], Try.func15, rfl, by kernel_rfl, by kernel_rfl, by decide⟩

-- gansey/yarns.Inverse
def c16 : Cmd :=
 .seq [0] (.reg [((some 2), none, .mv (.const (.slice none 0 0)))])
 (.seq [0, 3] (.reg [((some 6), none, .mv (.tmp 0)),
   ((some 7), none, .len (.tmp 6)),
   ((some 8), none, .mkslice 33 4 24 (.agg [(.val (.int .u8 0)), (.val (.int .i64 0)), (.val (.bool false)), (.val (.int .u8 0))]) (.tmp 7) (.tmp 7)),
   ((some 3), none, .mv (.tmp 8))])
 (.seq [3] (.seq [0, 3, 9, 10, 11] (.reg [((some 9), none, .mv (.tmp 0)),
   ((some 10), none, .len (.tmp 9)),
   ((some 11), none, .mv (.const (.int .i64 0)))])
 (.block 0
  (.loop [0, 3, 9, 10, 11]
   (.seq [0, 3, 9, 10, 11, 12] (.reg [((some 12), none, .bin .lss (.tmp 11) (.tmp 10))])
   (.seq [0, 3, 9, 10, 11] (.cond (.tmp 12)
    (.skip)
    (.exit 0))
   (.seq [0, 3, 9, 10, 11] (.block 1
    (.seq [0, 3, 4, 5, 9, 10, 11] (.reg [((some 13), none, .mv (.tmp 11)),
      ((some 14), none, .indexA 4 (.tmp 9) (.tmp 11)),
      ((some 15), none, .load true 4 (.tmp 14)),
      ((some 5), none, .alloc 33 4 (.agg [(.val (.int .u8 0)), (.val (.int .i64 0)), (.val (.bool false)), (.val (.int .u8 0))])),
      ((some 4), none, .mv (.tmp 13)),
      (none, none, .store 4 (.tmp 5) (.tmp 15))])
    (.reg [((some 16), none, .mv (.tmp 3)),
      ((some 17), none, .mv (.tmp 0)),
      ((some 18), none, .len (.tmp 17)),
      ((some 19), none, .bin .sub (.tmp 18) (.const (.int .i64 1))),
      ((some 20), none, .mv (.tmp 4)),
      ((some 21), none, .bin .sub (.tmp 19) (.tmp 20)),
      ((some 22), none, .load true 4 (.tmp 5)),
      ((some 23), none, .call 23 [(.tmp 22)]),
      ((some 24), none, .indexA 4 (.tmp 16) (.tmp 21)),
      (none, none, .store 4 (.tmp 24) (.tmp 23))])))
   (.reg [((some 25), none, .bin .add (.tmp 11) (.const (.int .i64 1))),
     ((some 11), none, .mv (.tmp 25))])))))))
 (.seq [2] (.reg [((some 26), none, .mv (.tmp 3)),
   ((some 2), none, .mv (.tmp 26))])
 (.ret))))
theorem k16 : FnOK Try.prog 16 c16 [.tmp 2] 1 := ⟨by kernel_rfl, Try.f16, _, [], Try.func16, rfl, by kernel_rfl, by kernel_rfl, by decide⟩

-- gansey/yarns.Enter
def c17 : Cmd :=
 .seq [1, 2, 4] (.reg [((some 2), none, .box 38 5 (.tmp 0)),
   ((some 4), none, .alloc 38 5 (.agg [(.val (.bool false)), (.val (.int .i64 0)), (.val (.int .i64 0)), (.val (.bool false)), (.val (.slice none 0 0))])),
   ((some 5), none, .mv (.const (.int .i64 0)))])
 (.seq [1, 2, 4] (.block 0
  (.seq [1, 2, 4, 7] (.reg [((some 8), none, .load true 5 (.tmp 2)),
    ((some 9), none, .call 21 [(.tmp 8)]),
    ((some 10), none, .bin .neq (.tmp 9) (.const (.int .i64 0))),
    ((some 11), none, .mv (.tmp 10)),
    ((some 12), (some (11, false)), .mv (.tmp 1)),
    ((some 13), (some (11, false)), .bin .gtr (.tmp 12) (.const (.int .u8 1))),
    ((some 14), none, .pick (.tmp 11) (.const (.bool true)) (.tmp 13)),
    ((some 7), none, .mv (.tmp 14))])
  (.cond (.tmp 7)
   (.seq [4, 5] (.reg [((some 15), none, .build [(.val (.bool false)), (.val (.int .i64 0)), (.val (.int .i64 0)), (.val (.bool false)), (.val (.slice none 0 0))] []),
     (none, none, .store 5 (.tmp 4) (.tmp 15)),
     ((some 5), none, .mv (.const (.int .i64 1)))])
   (.ret))
   (.seq [1, 2, 4, 16] (.reg [((some 17), none, .fieldA 0 1 false (.tmp 2)),
     ((some 18), none, .load false 1 (.tmp 17)),
     ((some 16), none, .mv (.tmp 18))])
   (.cond (.tmp 16)
    (.seq [4, 5] (.reg [((some 19), none, .build [(.val (.bool false)), (.val (.int .i64 0)), (.val (.int .i64 0)), (.val (.bool false)), (.val (.slice none 0 0))] []),
      (none, none, .store 5 (.tmp 4) (.tmp 19)),
      ((some 5), none, .mv (.const (.int .i64 12)))])
    (.ret))
    (.skip))))))
 (.seq [1, 2, 4, 6] (.reg [((some 6), none, .mv (.const (.int .i64 (-13))))])
 (.seq [2, 4, 6] (.seq [2, 4, 6, 21] (.reg [((some 20), none, .mv (.tmp 1)),
   ((some 21), none, .bin .eql (.tmp 20) (.const (.int .u8 1)))])
 (.cond (.tmp 21)
  (.reg [((some 6), none, .mv (.const (.int .i64 179)))])
  (.skip)))
 (.seq [4, 5] (.reg [((some 22), none, .mv (.tmp 6)),
   ((some 23), none, .fieldA 2 1 false (.tmp 2)),
   ((some 24), none, .load false 1 (.tmp 23)),
   ((some 25), none, .build [(.val (.bool false)), (.val (.int .i64 0)), (.val (.int .i64 0)), (.val (.bool false)), (.val (.slice none 0 0))] [(0, 1, (.const (.bool true))), (1, 1, (.tmp 22)), (2, 1, (.tmp 24)), (3, 1, (.const (.bool true)))]),
   (none, none, .store 5 (.tmp 4) (.tmp 25)),
   ((some 5), none, .mv (.const (.int .i64 0)))])
 (.ret)))))
theorem k17 : FnOK Try.prog 17 c17 [.cell true 5 4, .tmp 5] 2 := ⟨by kernel_rfl, Try.f17, _, [], Try.func17, rfl, by kernel_rfl, by kernel_rfl, by decide⟩

-- gansey/yarns.Go
def c18 : Cmd :=
 .seq [1, 2, 3, 6] (.reg [((some 3), none, .box 38 5 (.tmp 0)),
   ((some 6), none, .alloc 38 5 (.agg [(.val (.bool false)), (.val (.int .i64 0)), (.val (.int .i64 0)), (.val (.bool false)), (.val (.slice none 0 0))])),
   ((some 7), none, .mv (.const (.int .i64 0)))])
 (.seq [1, 2, 3, 6] (.block 0
  (.seq [1, 2, 3, 6, 8] (.reg [((some 9), none, .load true 5 (.tmp 3)),
    ((some 10), none, .call 21 [(.tmp 9)]),
    ((some 11), none, .bin .neq (.tmp 10) (.const (.int .i64 0))),
    ((some 12), none, .mv (.tmp 11)),
    ((some 13), (some (12, false)), .mv (.tmp 1)),
    ((some 14), (some (12, false)), .call 26 [(.tmp 13)]),
    ((some 15), (some (12, false)), .un .not (.tmp 14)),
    ((some 16), none, .pick (.tmp 12) (.const (.bool true)) (.tmp 15)),
    ((some 17), none, .mv (.tmp 16)),
    ((some 18), (some (17, false)), .mv (.tmp 2)),
    ((some 19), (some (17, false)), .call 27 [(.tmp 18)]),
    ((some 20), none, .pick (.tmp 17) (.const (.bool true)) (.tmp 19)),
    ((some 8), none, .mv (.tmp 20))])
  (.cond (.tmp 8)
   (.seq [6, 7] (.reg [((some 21), none, .build [(.val (.bool false)), (.val (.int .i64 0)), (.val (.int .i64 0)), (.val (.bool false)), (.val (.slice none 0 0))] []),
     (none, none, .store 5 (.tmp 6) (.tmp 21)),
     ((some 7), none, .mv (.const (.int .i64 1)))])
   (.ret))
   (.seq [1, 2, 3, 6, 22] (.reg [((some 23), none, .fieldA 0 1 false (.tmp 3)),
     ((some 24), none, .load false 1 (.tmp 23)),
     ((some 25), none, .un .not (.tmp 24)),
     ((some 22), none, .mv (.tmp 25))])
   (.cond (.tmp 22)
    (.seq [6, 7] (.reg [((some 26), none, .build [(.val (.bool false)), (.val (.int .i64 0)), (.val (.int .i64 0)), (.val (.bool false)), (.val (.slice none 0 0))] []),
      (none, none, .store 5 (.tmp 6) (.tmp 26)),
      ((some 7), none, .mv (.const (.int .i64 12)))])
    (.ret))
    (.skip))))))
 (.seq [1, 2, 3, 6] (.reg [((some 27), none, .load true 5 (.tmp 3)),
   ((some 28), none, .call 28 [(.tmp 27)]),
   (none, none, .store 5 (.tmp 3) (.tmp 28))])
 (.seq [3, 6] (.reg [((some 29), none, .mv (.tmp 1)),
   ((some 30), none, .fieldA 4 1 false (.tmp 3)),
   ((some 31), none, .load false 1 (.tmp 30)),
   ((some 32), none, .mv (.tmp 2)),
   ((some 33), none, .append false 33 4 24 (.tmp 31) (.tmp 32)),
   ((some 34), none, .call 11 [(.tmp 33)]),
   ((some 35), none, .fieldA 1 1 false (.tmp 3)),
   (none, none, .store 1 (.tmp 35) (.tmp 29)),
   ((some 36), none, .fieldA 4 1 false (.tmp 3)),
   (none, none, .store 1 (.tmp 36) (.tmp 34))])
 (.seq [3, 6] (.seq [3, 6, 40] (.reg [((some 37), none, .fieldA 4 1 false (.tmp 3)),
   ((some 38), none, .load false 1 (.tmp 37)),
   ((some 39), none, .len (.tmp 38)),
   ((some 40), none, .bin .gtr (.tmp 39) (.const (.int .i64 4096)))])
 (.cond (.tmp 40)
  (.seq [6, 7] (.reg [((some 41), none, .build [(.val (.bool false)), (.val (.int .i64 0)), (.val (.int .i64 0)), (.val (.bool false)), (.val (.slice none 0 0))] []),
    (none, none, .store 5 (.tmp 6) (.tmp 41)),
    ((some 7), none, .mv (.const (.int .i64 3)))])
  (.ret))
  (.skip)))
 (.seq [6, 7] (.reg [((some 42), none, .load true 5 (.tmp 3)),
   (none, none, .store 5 (.tmp 6) (.tmp 42)),
   ((some 7), none, .mv (.const (.int .i64 0)))])
 (.ret))))))
theorem k18 : FnOK Try.prog 18 c18 [.cell true 5 6, .tmp 7] 3 := ⟨by kernel_rfl, Try.f18, _, [], Try.func18, rfl, by kernel_rfl, by kernel_rfl, by decide⟩

-- gansey/yarns.Leave
def c19 : Cmd :=
 .seq [1, 2] (.reg [((some 1), none, .box 38 5 (.tmp 0)),
   ((some 2), none, .alloc 38 5 (.agg [(.val (.bool false)), (.val (.int .i64 0)), (.val (.int .i64 0)), (.val (.bool false)), (.val (.slice none 0 0))])),
   ((some 3), none, .mv (.const (.int .i64 0)))])
 (.seq [1, 2] (.block 0
  (.seq [1, 2, 4] (.reg [((some 5), none, .load true 5 (.tmp 1)),
    ((some 6), none, .call 21 [(.tmp 5)]),
    ((some 7), none, .bin .neq (.tmp 6) (.const (.int .i64 0))),
    ((some 4), none, .mv (.tmp 7))])
  (.cond (.tmp 4)
   (.seq [2, 3] (.reg [((some 8), none, .build [(.val (.bool false)), (.val (.int .i64 0)), (.val (.int .i64 0)), (.val (.bool false)), (.val (.slice none 0 0))] []),
     (none, none, .store 5 (.tmp 2) (.tmp 8)),
     ((some 3), none, .mv (.const (.int .i64 1)))])
   (.ret))
   (.seq [1, 2, 9] (.reg [((some 10), none, .fieldA 0 1 false (.tmp 1)),
     ((some 11), none, .load false 1 (.tmp 10)),
     ((some 12), none, .un .not (.tmp 11)),
     ((some 9), none, .mv (.tmp 12))])
   (.cond (.tmp 9)
    (.seq [2, 3] (.reg [((some 13), none, .build [(.val (.bool false)), (.val (.int .i64 0)), (.val (.int .i64 0)), (.val (.bool false)), (.val (.slice none 0 0))] []),
      (none, none, .store 5 (.tmp 2) (.tmp 13)),
      ((some 3), none, .mv (.const (.int .i64 12)))])
    (.ret))
    (.skip))))))
 (.seq [2, 3] (.reg [((some 14), none, .fieldA 2 1 false (.tmp 1)),
   ((some 15), none, .load false 1 (.tmp 14)),
   ((some 16), none, .build [(.val (.bool false)), (.val (.int .i64 0)), (.val (.int .i64 0)), (.val (.bool false)), (.val (.slice none 0 0))] [(2, 1, (.tmp 15))]),
   (none, none, .store 5 (.tmp 2) (.tmp 16)),
   ((some 3), none, .mv (.const (.int .i64 0)))])
 (.ret)))
theorem k19 : FnOK Try.prog 19 c19 [.cell true 5 2, .tmp 3] 1 := ⟨by kernel_rfl, Try.f19, _, [], Try.func19, rfl, by kernel_rfl, by kernel_rfl, by decide⟩

-- gansey/yarns.Make
def c20 : Cmd :=
 .seq [1, 2, 3] (.reg [((some 1), none, .box 38 5 (.tmp 0)),
   ((some 2), none, .alloc 38 5 (.agg [(.val (.bool false)), (.val (.int .i64 0)), (.val (.int .i64 0)), (.val (.bool false)), (.val (.slice none 0 0))])),
   ((some 3), none, .alloc 50 3 (.agg [(.val (.int .i64 0)), (.val (.bool false)), (.val (.slice none 0 0))])),
   ((some 4), none, .mv (.const (.int .i64 0)))])
 (.seq [1, 2, 3] (.block 0
  (.seq [1, 2, 3, 6] (.reg [((some 7), none, .load true 5 (.tmp 1)),
    ((some 8), none, .call 21 [(.tmp 7)]),
    ((some 9), none, .bin .neq (.tmp 8) (.const (.int .i64 0))),
    ((some 6), none, .mv (.tmp 9))])
  (.cond (.tmp 6)
   (.seq [2, 3, 4] (.reg [((some 10), none, .build [(.val (.bool false)), (.val (.int .i64 0)), (.val (.int .i64 0)), (.val (.bool false)), (.val (.slice none 0 0))] []),
     ((some 11), none, .build [(.val (.int .i64 0)), (.val (.bool false)), (.val (.slice none 0 0))] []),
     (none, none, .store 5 (.tmp 2) (.tmp 10)),
     (none, none, .store 3 (.tmp 3) (.tmp 11)),
     ((some 4), none, .mv (.const (.int .i64 1)))])
   (.ret))
   (.seq [1, 2, 3, 12] (.reg [((some 13), none, .fieldA 0 1 false (.tmp 1)),
     ((some 14), none, .load false 1 (.tmp 13)),
     ((some 15), none, .un .not (.tmp 14)),
     ((some 12), none, .mv (.tmp 15))])
   (.cond (.tmp 12)
    (.seq [2, 3, 4] (.reg [((some 16), none, .build [(.val (.bool false)), (.val (.int .i64 0)), (.val (.int .i64 0)), (.val (.bool false)), (.val (.slice none 0 0))] []),
      ((some 17), none, .build [(.val (.int .i64 0)), (.val (.bool false)), (.val (.slice none 0 0))] []),
      (none, none, .store 5 (.tmp 2) (.tmp 16)),
      (none, none, .store 3 (.tmp 3) (.tmp 17)),
      ((some 4), none, .mv (.const (.int .i64 12)))])
    (.ret))
    (.seq [1, 2, 3, 18] (.reg [((some 19), none, .fieldA 2 1 false (.tmp 1)),
      ((some 20), none, .load false 1 (.tmp 19)),
      ((some 21), none, .bin .eql (.tmp 20) (.const (.int .i64 2048))),
      ((some 18), none, .mv (.tmp 21))])
    (.cond (.tmp 18)
     (.seq [2, 3, 4] (.reg [((some 22), none, .build [(.val (.bool false)), (.val (.int .i64 0)), (.val (.int .i64 0)), (.val (.bool false)), (.val (.slice none 0 0))] []),
       ((some 23), none, .build [(.val (.int .i64 0)), (.val (.bool false)), (.val (.slice none 0 0))] []),
       (none, none, .store 5 (.tmp 2) (.tmp 22)),
       (none, none, .store 3 (.tmp 3) (.tmp 23)),
       ((some 4), none, .mv (.const (.int .i64 3)))])
     (.ret))
     (.skip))))))))
 (.seq [1, 2, 3] (.reg [((some 24), none, .load true 5 (.tmp 1)),
   ((some 25), none, .call 28 [(.tmp 24)]),
   (none, none, .store 5 (.tmp 1) (.tmp 25))])
 (.seq [1, 2, 3, 5] (.reg [((some 26), none, .fieldA 2 1 false (.tmp 1)),
   ((some 27), none, .load false 1 (.tmp 26)),
   ((some 28), none, .fieldA 3 1 false (.tmp 1)),
   ((some 29), none, .load false 1 (.tmp 28)),
   ((some 30), none, .fieldA 4 1 false (.tmp 1)),
   ((some 31), none, .load false 1 (.tmp 30)),
   ((some 32), none, .build [(.val (.int .i64 0)), (.val (.bool false)), (.val (.slice none 0 0))] [(0, 1, (.tmp 27)), (1, 1, (.tmp 29)), (2, 1, (.tmp 31))]),
   ((some 5), none, .alloc 50 3 (.agg [(.val (.int .i64 0)), (.val (.bool false)), (.val (.slice none 0 0))])),
   (none, none, .store 3 (.tmp 5) (.tmp 32))])
 (.seq [2, 3, 4] (.sreg [] [((some 33), none, .fieldA 1 1 false (.tmp 1)),
   ((some 34), none, .load false 1 (.tmp 33)),
   ((some 35), none, .fieldA 2 1 false (.tmp 1)),
   ((some 36), none, .load false 1 (.tmp 35)),
   ((some 37), none, .bin .add (.tmp 36) (.const (.int .i64 1))),
   ((some 38), none, .build [(.val (.bool false)), (.val (.int .i64 0)), (.val (.int .i64 0)), (.val (.bool false)), (.val (.slice none 0 0))] [(0, 1, (.const (.bool true))), (1, 1, (.tmp 34)), (2, 1, (.tmp 37))]),
   ((some 39), none, .load true 3 (.tmp 5))]
  []
  [((some 39), none, .load true 3 (.tmp 5))]
  [((none, none, .store 5 (.tmp 2) (.tmp 38)), [((some 39), none, .load true 3 (.tmp 5))]), ((none, none, .store 3 (.tmp 3) (.tmp 39)), []), (((some 4), none, .mv (.const (.int .i64 0))), [])])
 (.ret)))))
theorem k20 : FnOK Try.prog 20 c20 [.cell true 5 2, .cell true 3 3, .tmp 4] 1 := ⟨by kernel_rfl, Try.f20, _, [], Try.func20, rfl, by kernel_rfl, by kernel_rfl, by decide⟩

-- gansey/yarns.Check
def c21 : Cmd :=
 .seq [1] (.reg [((some 1), none, .box 38 5 (.tmp 0)),
   ((some 2), none, .mv (.const (.int .i64 0)))])
 (.seq [1, 3] (.reg [((some 5), none, .fieldA 1 1 false (.tmp 1)),
   ((some 6), none, .load false 1 (.tmp 5)),
   ((some 7), none, .bin .eql (.tmp 6) (.const (.int .i64 0))),
   ((some 8), none, .mv (.tmp 7)),
   ((some 9), (some (8, true)), .fieldA 3 1 false (.tmp 1)),
   ((some 10), (some (8, true)), .load false 1 (.tmp 9)),
   ((some 11), (some (8, true)), .un .not (.tmp 10)),
   ((some 12), none, .pick (.tmp 8) (.tmp 11) (.const (.bool false))),
   ((some 13), none, .mv (.tmp 12)),
   ((some 14), (some (13, true)), .fieldA 4 1 false (.tmp 1)),
   ((some 15), (some (13, true)), .load false 1 (.tmp 14)),
   ((some 16), (some (13, true)), .len (.tmp 15)),
   ((some 17), (some (13, true)), .bin .eql (.tmp 16) (.const (.int .i64 0))),
   ((some 18), none, .pick (.tmp 13) (.tmp 17) (.const (.bool false))),
   ((some 3), none, .mv (.tmp 18))])
 (.seq [1, 3, 4] (.dreg [] [((some 19), none, .fieldA 1 1 false (.tmp 1)),
   ((some 20), none, .load false 1 (.tmp 19)),
   ((some 21), none, .call 26 [(.tmp 20)]),
   ((some 22), none, .mv (.tmp 21)),
   ((some 23), (some (22, true)), .fieldA 4 1 false (.tmp 1)),
   ((some 24), (some (22, true)), .load false 1 (.tmp 23)),
   ((some 25), (some (22, true)), .len (.tmp 24)),
   ((some 26), (some (22, true)), .bin .leq (.tmp 25) (.const (.int .i64 4096))),
   ((some 27), none, .pick (.tmp 22) (.tmp 26) (.const (.bool false))),
   ((some 28), none, .mv (.tmp 27)),
   ((some 29), (some (28, true)), .fieldA 4 1 false (.tmp 1)),
   ((some 30), (some (28, true)), .load false 1 (.tmp 29)),
   ((some 31), (some (28, true)), .call 27 [(.tmp 30)]),
   ((some 32), (some (28, true)), .un .not (.tmp 31)),
   ((some 33), none, .pick (.tmp 28) (.tmp 32) (.const (.bool false))),
   ((some 34), none, .mv (.tmp 33)),
   ((some 35), (some (34, true)), .fieldA 4 1 false (.tmp 1)),
   ((some 36), (some (34, true)), .load false 1 (.tmp 35)),
   ((some 37), (some (34, true)), .call 11 [(.tmp 36)]),
   ((some 38), (some (34, true)), .len (.tmp 37)),
   ((some 39), (some (34, true)), .fieldA 4 1 false (.tmp 1)),
   ((some 40), (some (34, true)), .load false 1 (.tmp 39)),
   ((some 41), (some (34, true)), .len (.tmp 40)),
   ((some 42), (some (34, true)), .bin .eql (.tmp 38) (.tmp 41)),
   ((some 43), none, .pick (.tmp 34) (.tmp 42) (.const (.bool false)))]
  [((some 4), none, .mv (.tmp 43))])
 (.seq [] (.seq [68] (.reg [((some 44), none, .fieldA 2 1 false (.tmp 1)),
   ((some 45), none, .load false 1 (.tmp 44)),
   ((some 46), none, .bin .lss (.tmp 45) (.const (.int .i64 0))),
   ((some 47), none, .mv (.tmp 46)),
   ((some 48), (some (47, false)), .fieldA 2 1 false (.tmp 1)),
   ((some 49), (some (47, false)), .load false 1 (.tmp 48)),
   ((some 50), (some (47, false)), .bin .gtr (.tmp 49) (.const (.int .i64 2048))),
   ((some 51), none, .pick (.tmp 47) (.const (.bool true)) (.tmp 50)),
   ((some 52), none, .mv (.tmp 51)),
   ((some 53), (some (52, false)), .fieldA 0 1 false (.tmp 1)),
   ((some 54), (some (52, false)), .load false 1 (.tmp 53)),
   ((some 55), (some (52, false)), .mv (.tmp 54)),
   ((some 56), (some (55, true)), .mv (.tmp 4)),
   ((some 57), (some (55, true)), .un .not (.tmp 56)),
   ((some 58), (some (52, false)), .pick (.tmp 55) (.tmp 57) (.const (.bool false))),
   ((some 59), none, .pick (.tmp 52) (.const (.bool true)) (.tmp 58)),
   ((some 60), none, .mv (.tmp 59)),
   ((some 61), (some (60, false)), .fieldA 0 1 false (.tmp 1)),
   ((some 62), (some (60, false)), .load false 1 (.tmp 61)),
   ((some 63), (some (60, false)), .un .not (.tmp 62)),
   ((some 64), (some (60, false)), .mv (.tmp 63)),
   ((some 65), (some (64, true)), .mv (.tmp 3)),
   ((some 66), (some (64, true)), .un .not (.tmp 65)),
   ((some 67), (some (60, false)), .pick (.tmp 64) (.tmp 66) (.const (.bool false))),
   ((some 68), none, .pick (.tmp 60) (.const (.bool true)) (.tmp 67))])
 (.cond (.tmp 68)
  (.seq [2] (.reg [((some 2), none, .mv (.const (.int .i64 1)))])
  (.ret))
  (.skip)))
 (.seq [2] (.reg [((some 2), none, .mv (.const (.int .i64 0)))])
 (.ret)))))
theorem k21 : FnOK Try.prog 21 c21 [.tmp 2] 1 := ⟨by kernel_rfl, Try.f21, _, [], Try.func21, rfl, by kernel_rfl, by kernel_rfl, by decide⟩

-- gansey/yarns.Named
def c22 : Cmd :=
 .seq [1] (.reg [((some 1), none, .box 30 2 (.tmp 0)),
   ((some 2), none, .mv (.const (.bool false)))])
 (.seq [2] (.reg [((some 3), none, .fieldA 0 1 false (.tmp 1)),
   ((some 4), none, .load false 1 (.tmp 3)),
   ((some 5), none, .bin .geq (.tmp 4) (.const (.int .u8 1))),
   ((some 6), none, .mv (.tmp 5)),
   ((some 7), (some (6, true)), .fieldA 0 1 false (.tmp 1)),
   ((some 8), (some (6, true)), .load false 1 (.tmp 7)),
   ((some 9), (some (6, true)), .bin .leq (.tmp 8) (.const (.int .u8 6))),
   ((some 10), none, .pick (.tmp 6) (.tmp 9) (.const (.bool false))),
   ((some 11), none, .mv (.tmp 10)),
   ((some 12), (some (11, true)), .fieldA 1 1 false (.tmp 1)),
   ((some 13), (some (11, true)), .load false 1 (.tmp 12)),
   ((some 14), (some (11, true)), .bin .geq (.tmp 13) (.const (.int .i64 0))),
   ((some 15), none, .pick (.tmp 11) (.tmp 14) (.const (.bool false))),
   ((some 16), none, .mv (.tmp 15)),
   ((some 17), (some (16, true)), .fieldA 1 1 false (.tmp 1)),
   ((some 18), (some (16, true)), .load false 1 (.tmp 17)),
   ((some 19), (some (16, true)), .bin .lss (.tmp 18) (.const (.int .i64 2048))),
   ((some 20), none, .pick (.tmp 16) (.tmp 19) (.const (.bool false))),
   ((some 2), none, .mv (.tmp 20))])
 (.ret))
theorem k22 : FnOK Try.prog 22 c22 [.tmp 2] 1 := ⟨by kernel_rfl, Try.f22, _, [], Try.func22, rfl, by kernel_rfl, by kernel_rfl, by decide⟩

-- gansey/yarns.back
def c23 : Cmd :=
 .seq [1, 2] (.reg [((some 1), none, .box 33 4 (.tmp 0)),
   ((some 2), none, .alloc 33 4 (.agg [(.val (.int .u8 0)), (.val (.int .i64 0)), (.val (.bool false)), (.val (.int .u8 0))]))])
 (.seq [1, 2] (.seq [1, 2, 5] (.reg [((some 3), none, .fieldA 3 1 false (.tmp 1)),
   ((some 4), none, .load false 1 (.tmp 3)),
   ((some 5), none, .bin .eql (.tmp 4) (.const (.int .u8 1)))])
 (.cond (.tmp 5)
  (.reg [((some 6), none, .fieldA 3 1 false (.tmp 1)),
    (none, none, .store 1 (.tmp 6) (.const (.int .u8 0)))])
  (.reg [((some 7), none, .fieldA 3 1 false (.tmp 1)),
    (none, none, .store 1 (.tmp 7) (.const (.int .u8 1)))])))
 (.seq [2] (.reg [((some 8), none, .load true 4 (.tmp 1)),
   (none, none, .store 4 (.tmp 2) (.tmp 8))])
 (.ret)))
theorem k23 : FnOK Try.prog 23 c23 [.cell true 4 2] 1 := ⟨by kernel_rfl, Try.f23, _, [], Try.func23, rfl, by kernel_rfl, by kernel_rfl, by decide⟩

-- slices.Clip[[]gansey/yarns.Pass,gansey/yarns.Pass]
def c24 : Cmd :=
 .seq [0] (.reg [((some 2), none, .mv (.const (.slice none 0 0)))])
 (.seq [2] (.reg [((some 3), none, .mv (.tmp 0)),
   ((some 4), none, .mv (.tmp 0)),
   ((some 5), none, .len (.tmp 4)),
   ((some 6), none, .mv (.tmp 0)),
   ((some 7), none, .len (.tmp 6)),
   ((some 8), none, .slice 4 (.tmp 3) none (some (.tmp 5)) (some (.tmp 7))),
   ((some 2), none, .mv (.tmp 8))])
 (.ret))
theorem k24 : FnOK Try.prog 24 c24 [.tmp 2] 1 := ⟨by kernel_rfl, Try.f24, _, [], Try.func24, rfl, by kernel_rfl, by kernel_rfl, by decide⟩

-- slices.Clone[[]gansey/yarns.Pass,gansey/yarns.Pass]
def c25 : Cmd :=
 .seq [0] (.reg [((some 2), none, .mv (.const (.slice none 0 0)))])
 (.seq [0] (.seq [0, 4] (.reg [((some 3), none, .mv (.tmp 0)),
   ((some 4), none, .eqnil 0 false (.tmp 3))])
 (.cond (.tmp 4)
  (.seq [2] (.reg [((some 2), none, .mv (.const (.slice none 0 0)))])
  (.ret))
  (.skip)))
 (.seq [2] (.reg [((some 5), none, .blist 4 []),
   ((some 6), none, .mv (.tmp 0)),
   ((some 7), none, .append false 33 4 24 (.tmp 5) (.tmp 6)),
   ((some 2), none, .mv (.tmp 7))])
 (.ret)))
theorem k25 : FnOK Try.prog 25 c25 [.tmp 2] 1 := ⟨by kernel_rfl, Try.f25, _, [], Try.func25, rfl, by kernel_rfl, by kernel_rfl, by decide⟩

-- gansey/yarns.isPlace
def c26 : Cmd :=
 .seq [0] (.reg [((some 2), none, .mv (.const (.bool false)))])
 (.seq [2] (.reg [((some 3), none, .mv (.tmp 0)),
   ((some 4), none, .bin .geq (.tmp 3) (.const (.int .i64 (-13)))),
   ((some 5), none, .mv (.tmp 4)),
   ((some 6), (some (5, true)), .mv (.tmp 0)),
   ((some 7), (some (5, true)), .bin .leq (.tmp 6) (.const (.int .i64 179))),
   ((some 8), none, .pick (.tmp 5) (.tmp 7) (.const (.bool false))),
   ((some 9), none, .mv (.tmp 8)),
   ((some 10), (some (9, true)), .mv (.tmp 0)),
   ((some 11), (some (9, true)), .bin .and (.tmp 10) (.const (.int .i64 1))),
   ((some 12), (some (9, true)), .bin .eql (.tmp 11) (.const (.int .i64 1))),
   ((some 13), none, .pick (.tmp 9) (.tmp 12) (.const (.bool false))),
   ((some 2), none, .mv (.tmp 13))])
 (.ret))
theorem k26 : FnOK Try.prog 26 c26 [.tmp 2] 1 := ⟨by kernel_rfl, Try.f26, _, [], Try.func26, rfl, by kernel_rfl, by kernel_rfl, by decide⟩

-- gansey/yarns.wrong
def c27 : Cmd :=
 .seq [0] (.reg [((some 2), none, .mv (.const (.bool false)))])
 (.seq [2] (.reg [((some 3), none, .mv (.tmp 0)),
   ((some 4), none, .call 29 [(.tmp 3), (.func 30)]),
   ((some 2), none, .mv (.tmp 4))])
 (.ret))
theorem k27 : FnOK Try.prog 27 c27 [.tmp 2] 1 := ⟨by kernel_rfl, Try.f27, _, [], Try.func27, rfl, by kernel_rfl, by kernel_rfl, by decide⟩

-- gansey/yarns.copied
def c28 : Cmd :=
 .seq [1, 2] (.reg [((some 1), none, .box 38 5 (.tmp 0)),
   ((some 2), none, .alloc 38 5 (.agg [(.val (.bool false)), (.val (.int .i64 0)), (.val (.int .i64 0)), (.val (.bool false)), (.val (.slice none 0 0))]))])
 (.seq [1, 2] (.reg [((some 3), none, .fieldA 4 1 false (.tmp 1)),
   ((some 4), none, .load false 1 (.tmp 3)),
   ((some 5), none, .call 25 [(.tmp 4)]),
   ((some 6), none, .call 24 [(.tmp 5)]),
   ((some 7), none, .fieldA 4 1 false (.tmp 1)),
   (none, none, .store 1 (.tmp 7) (.tmp 6))])
 (.seq [2] (.reg [((some 8), none, .load true 5 (.tmp 1)),
   (none, none, .store 5 (.tmp 2) (.tmp 8))])
 (.ret)))
theorem k28 : FnOK Try.prog 28 c28 [.cell true 5 2] 1 := ⟨by kernel_rfl, Try.f28, _, [], Try.func28, rfl, by kernel_rfl, by kernel_rfl, by decide⟩

-- slices.ContainsFunc[[]gansey/yarns.Pass,gansey/yarns.Pass]
def c29 : Cmd :=
 .seq [0, 1] (.reg [((some 4), none, .mv (.const (.bool false)))])
 (.seq [4] (.reg [((some 5), none, .mv (.tmp 0)),
   ((some 6), none, .mv (.tmp 1)),
   ((some 7), none, .call 31 [(.tmp 5), (.tmp 6)]),
   ((some 8), none, .bin .geq (.tmp 7) (.const (.int .i64 0))),
   ((some 4), none, .mv (.tmp 8))])
 (.ret))
theorem k29 : FnOK Try.prog 29 c29 [.tmp 4] 2 := ⟨by kernel_rfl, Try.f29, _, [], Try.func29, rfl, by kernel_rfl, by kernel_rfl, by decide⟩

-- gansey/yarns.wrong$1
def c30 : Cmd :=
 .seq [1] (.reg [((some 1), none, .box 33 4 (.tmp 0)),
   ((some 2), none, .mv (.const (.bool false)))])
 (.seq [2] (.reg [((some 3), none, .fieldA 0 2 true (.tmp 1)),
   ((some 4), none, .load true 2 (.tmp 3)),
   ((some 5), none, .call 22 [(.tmp 4)]),
   ((some 6), none, .un .not (.tmp 5)),
   ((some 7), none, .mv (.tmp 6)),
   ((some 8), (some (7, false)), .fieldA 3 1 false (.tmp 1)),
   ((some 9), (some (7, false)), .load false 1 (.tmp 8)),
   ((some 10), (some (7, false)), .bin .gtr (.tmp 9) (.const (.int .u8 1))),
   ((some 11), none, .pick (.tmp 7) (.const (.bool true)) (.tmp 10)),
   ((some 2), none, .mv (.tmp 11))])
 (.ret))
theorem k30 : FnOK Try.prog 30 c30 [.tmp 2] 1 := ⟨by kernel_rfl, Try.f30, _, [], Try.func30, rfl, by kernel_rfl, by kernel_rfl, by decide⟩

-- slices.IndexFunc[[]gansey/yarns.Pass,gansey/yarns.Pass]
def c31 : Cmd :=
 .seq [0, 1] (.reg [((some 4), none, .mv (.const (.int .i64 0)))])
 (.seq [] (.seq [0, 1, 7, 8] (.reg [((some 6), none, .mv (.tmp 0)),
   ((some 7), none, .len (.tmp 6)),
   ((some 8), none, .mv (.const (.int .i64 0)))])
 (.block 0
  (.loop [0, 1, 7, 8]
   (.seq [0, 1, 7, 8, 9] (.reg [((some 9), none, .bin .lss (.tmp 8) (.tmp 7))])
   (.seq [0, 1, 7, 8] (.cond (.tmp 9)
    (.skip)
    (.exit 0))
   (.seq [0, 1, 7, 8] (.block 1
    (.seq [0, 1, 5, 7, 8] (.reg [((some 10), none, .mv (.tmp 8)),
      ((some 5), none, .mv (.tmp 10))])
    (.seq [0, 1, 5, 7, 8, 16] (.reg [((some 11), none, .mv (.tmp 1)),
      ((some 12), none, .mv (.tmp 0)),
      ((some 13), none, .mv (.tmp 5)),
      ((some 14), none, .indexA 4 (.tmp 12) (.tmp 13)),
      ((some 15), none, .load true 4 (.tmp 14)),
      ((some 16), none, .callv (.tmp 11) [(.tmp 15)])])
    (.cond (.tmp 16)
     (.seq [4] (.reg [((some 17), none, .mv (.tmp 5)),
       ((some 4), none, .mv (.tmp 17))])
     (.ret))
     (.skip)))))
   (.reg [((some 18), none, .bin .add (.tmp 8) (.const (.int .i64 1))),
     ((some 8), none, .mv (.tmp 18))])))))))
 (.seq [4] (.reg [((some 4), none, .mv (.const (.int .i64 (-1))))])
 (.ret)))
theorem k31 : FnOK Try.prog 31 c31 [.tmp 4] 2 := ⟨by kernel_rfl, Try.f31, _, [], Try.func31, rfl, by kernel_rfl, by kernel_rfl, by decide⟩

end Go.Proofs.Ytkagdnkbghnckaa
