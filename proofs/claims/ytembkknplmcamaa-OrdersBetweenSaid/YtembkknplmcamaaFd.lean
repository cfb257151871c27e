/- The law OrdersBetween of the given program: for every input the call returns true, and its arguments read as before. Here: the functions as commands. -/
import Derived.Test.YtembkknplmcamaaFb
import Derived.Test.YtembkknplmcamaaProg
namespace Go.Proofs.Ytembkknplmcamaa
open Go.Ab
-- gosem.cut.init
def c2 : Cmd :=
 .reg [((some 0), none, .dead)]
theorem k2 : FnOK Try.prog 2 c2 [] 0 := ⟨by kernel_rfl, Try.f2, _, [], Try.func2, rfl, by kernel_rfl, by kernel_rfl, by decide⟩

-- gansey/ganseylaw04.OrdersList
def c3 : Cmd :=
 .seq [0, 1] (.reg [((some 4), none, .mv (.const (.bool false)))])
 (.seq [1, 5] (.reg [((some 10), none, .mv (.tmp 0)),
   ((some 11), none, .call 7 [(.tmp 10)]),
   ((some 5), none, .alloc 26 2 (.agg [(.val (.slice none 0 0)), (.val (.slice none 0 0))])),
   (none, none, .store 2 (.tmp 5) (.tmp 11))])
 (.seq [1, 5, 6, 7] (.reg [((some 13), none, .load true 2 (.tmp 5)),
   ((some 14), none, .mv (.tmp 1)),
   ((some 15), none, .call 8 [(.tmp 13), (.tmp 14)]),
   ((some 12), none, .mv (.tmp 15)),
   ((some 16), none, .extract (.tmp 12) 0),
   ((some 17), none, .extract (.tmp 12) 1),
   ((some 6), none, .mv (.tmp 16)),
   ((some 7), none, .mv (.tmp 17))])
 (.seq [1, 5, 6, 7] (.seq [1, 5, 6, 7, 23] (.reg [((some 18), none, .mv (.tmp 1)),
   ((some 19), none, .bin .lss (.tmp 18) (.const (.int .i64 (-4)))),
   ((some 20), none, .mv (.tmp 19)),
   ((some 21), (some (20, false)), .mv (.tmp 1)),
   ((some 22), (some (20, false)), .bin .gtr (.tmp 21) (.const (.int .i64 4))),
   ((some 23), none, .pick (.tmp 20) (.const (.bool true)) (.tmp 22))])
 (.cond (.tmp 23)
  (.seq [4] (.reg [((some 24), none, .mv (.tmp 7)),
    ((some 25), none, .bin .eql (.tmp 24) (.const (.int .i64 11))),
    ((some 26), none, .mv (.tmp 25)),
    ((some 27), (some (26, true)), .mv (.tmp 6)),
    ((some 28), (some (26, true)), .len (.tmp 27)),
    ((some 29), (some (26, true)), .bin .eql (.tmp 28) (.const (.int .i64 0))),
    ((some 30), none, .pick (.tmp 26) (.tmp 29) (.const (.bool false))),
    ((some 31), none, .mv (.tmp 30)),
    ((some 32), (some (31, true)), .call 9 []),
    ((some 33), none, .pick (.tmp 31) (.tmp 32) (.const (.bool false))),
    ((some 4), none, .mv (.tmp 33))])
  (.ret))
  (.skip)))
 (.seq [6, 7, 8] (.reg [((some 34), none, .load true 2 (.tmp 5)),
   ((some 35), none, .mv (.tmp 1)),
   ((some 36), none, .call 10 [(.tmp 34), (.tmp 35)]),
   ((some 8), none, .mv (.tmp 36))])
 (.seq [6, 8] (.seq [6, 8, 52] (.reg [((some 37), none, .mv (.tmp 7)),
   ((some 38), none, .bin .neq (.tmp 37) (.const (.int .i64 0))),
   ((some 39), none, .mv (.tmp 38)),
   ((some 40), (some (39, false)), .mv (.tmp 6)),
   ((some 41), (some (39, false)), .len (.tmp 40)),
   ((some 42), (some (39, false)), .mv (.tmp 8)),
   ((some 43), (some (39, false)), .len (.tmp 42)),
   ((some 44), (some (39, false)), .bin .neq (.tmp 41) (.tmp 43)),
   ((some 45), none, .pick (.tmp 39) (.const (.bool true)) (.tmp 44)),
   ((some 46), none, .mv (.tmp 45)),
   ((some 47), (some (46, false)), .mv (.tmp 6)),
   ((some 48), (some (46, false)), .cap (.tmp 47)),
   ((some 49), (some (46, false)), .mv (.tmp 6)),
   ((some 50), (some (46, false)), .len (.tmp 49)),
   ((some 51), (some (46, false)), .bin .neq (.tmp 48) (.tmp 50)),
   ((some 52), none, .pick (.tmp 46) (.const (.bool true)) (.tmp 51))])
 (.cond (.tmp 52)
  (.seq [4] (.reg [((some 4), none, .mv (.const (.bool false)))])
  (.ret))
  (.skip)))
 (.seq [] (.seq [6, 8, 9] (.reg [((some 9), none, .mv (.const (.int .i64 0)))])
 (.block 0
  (.loop [6, 8, 9]
   (.seq [6, 8, 9] (.seq [6, 8, 9, 56] (.reg [((some 53), none, .mv (.tmp 9)),
     ((some 54), none, .mv (.tmp 6)),
     ((some 55), none, .len (.tmp 54)),
     ((some 56), none, .bin .lss (.tmp 53) (.tmp 55))])
   (.cond (.tmp 56)
    (.skip)
    (.exit 0)))
   (.seq [6, 8, 9] (.block 1
    (.seq [6, 8, 9, 67] (.dreg [] [((some 59), none, .mv (.tmp 6)),
      ((some 60), none, .mv (.tmp 9)),
      ((some 61), none, .indexA 5 (.tmp 59) (.tmp 60)),
      ((some 62), none, .load true 5 (.tmp 61)),
      ((some 63), none, .mv (.tmp 8)),
      ((some 64), none, .mv (.tmp 9)),
      ((some 65), none, .indexA 5 (.tmp 63) (.tmp 64)),
      ((some 66), none, .load true 5 (.tmp 65)),
      ((some 67), none, .eqagg true [true, true, true, true, true] (.tmp 62) (.tmp 66))]
     [])
    (.cond (.tmp 67)
     (.seq [4] (.reg [((some 4), none, .mv (.const (.bool false)))])
     (.ret))
     (.skip))))
   (.reg [((some 57), none, .mv (.tmp 9)),
     ((some 58), none, .bin .add (.tmp 57) (.const (.int .i64 1))),
     ((some 9), none, .mv (.tmp 58))]))))))
 (.seq [4] (.reg [((some 68), none, .call 9 []),
   ((some 4), none, .mv (.tmp 68))])
 (.ret))))))))
theorem k3 : FnOK Try.prog 3 c3 [.tmp 4] 2 := ⟨by kernel_rfl, Try.f3, _, [], Try.func3, rfl, by kernel_rfl, by kernel_rfl, by decide⟩

-- gansey/ganseylaw04.OrdersStep
def c4 : Cmd :=
 .seq [0, 1, 2] (.reg [((some 6), none, .mv (.const (.bool false)))])
 (.seq [1, 2, 7] (.reg [((some 21), none, .mv (.tmp 0)),
   ((some 22), none, .call 7 [(.tmp 21)]),
   ((some 7), none, .alloc 26 2 (.agg [(.val (.slice none 0 0)), (.val (.slice none 0 0))])),
   (none, none, .store 2 (.tmp 7) (.tmp 22))])
 (.seq [1, 2, 7, 8, 9] (.reg [((some 24), none, .load true 2 (.tmp 7)),
   ((some 25), none, .mv (.tmp 1)),
   ((some 26), none, .mv (.tmp 2)),
   ((some 27), none, .call 11 [(.tmp 24), (.tmp 25), (.tmp 26)]),
   ((some 23), none, .mv (.tmp 27)),
   ((some 28), none, .extract (.tmp 23) 0),
   ((some 29), none, .extract (.tmp 23) 1),
   ((some 8), none, .mv (.tmp 28)),
   ((some 9), none, .mv (.tmp 29))])
 (.seq [1, 2, 7, 8, 9, 10] (.reg [((some 10), none, .mv (.const (.int .i64 0)))])
 (.seq [1, 2, 7, 8, 9, 10] (.block 0
  (.seq [1, 2, 7, 8, 9, 10, 30] (.reg [((some 31), none, .mv (.tmp 1)),
    ((some 32), none, .bin .lss (.tmp 31) (.const (.int .i64 (-4)))),
    ((some 33), none, .mv (.tmp 32)),
    ((some 34), (some (33, false)), .mv (.tmp 1)),
    ((some 35), (some (33, false)), .bin .gtr (.tmp 34) (.const (.int .i64 4))),
    ((some 36), none, .pick (.tmp 33) (.const (.bool true)) (.tmp 35)),
    ((some 30), none, .mv (.tmp 36))])
  (.cond (.tmp 30)
   (.reg [((some 10), none, .mv (.const (.int .i64 11)))])
   (.seq [1, 2, 7, 8, 9, 10, 37] (.reg [((some 38), none, .mv (.tmp 2)),
     ((some 39), none, .bin .gtr (.tmp 38) (.const (.int .u8 1))),
     ((some 37), none, .mv (.tmp 39))])
   (.cond (.tmp 37)
    (.reg [((some 10), none, .mv (.const (.int .i64 1)))])
    (.seq [1, 2, 7, 8, 9, 10, 40] (.reg [((some 41), none, .mv (.tmp 2)),
      ((some 42), none, .bin .eql (.tmp 41) (.const (.int .u8 0))),
      ((some 43), none, .mv (.tmp 42)),
      ((some 44), (some (43, true)), .mv (.tmp 1)),
      ((some 45), (some (43, true)), .bin .eql (.tmp 44) (.const (.int .i64 (-4)))),
      ((some 46), none, .pick (.tmp 43) (.tmp 45) (.const (.bool false))),
      ((some 47), none, .mv (.tmp 46)),
      ((some 48), (some (47, false)), .mv (.tmp 2)),
      ((some 49), (some (47, false)), .bin .eql (.tmp 48) (.const (.int .u8 1))),
      ((some 50), (some (47, false)), .mv (.tmp 49)),
      ((some 51), (some (50, true)), .mv (.tmp 1)),
      ((some 52), (some (50, true)), .bin .eql (.tmp 51) (.const (.int .i64 4))),
      ((some 53), (some (47, false)), .pick (.tmp 50) (.tmp 52) (.const (.bool false))),
      ((some 54), none, .pick (.tmp 47) (.const (.bool true)) (.tmp 53)),
      ((some 40), none, .mv (.tmp 54))])
    (.cond (.tmp 40)
     (.reg [((some 10), none, .mv (.const (.int .i64 11)))])
     (.skip))))))))
 (.seq [1, 2, 7, 8, 9] (.seq [1, 2, 7, 8, 9, 57] (.reg [((some 55), none, .mv (.tmp 9)),
   ((some 56), none, .mv (.tmp 10)),
   ((some 57), none, .bin .neq (.tmp 55) (.tmp 56))])
 (.cond (.tmp 57)
  (.seq [6] (.reg [((some 6), none, .mv (.const (.bool false)))])
  (.ret))
  (.skip)))
 (.seq [1, 2, 7, 8] (.seq [1, 2, 7, 8, 59] (.reg [((some 58), none, .mv (.tmp 9)),
   ((some 59), none, .bin .neq (.tmp 58) (.const (.int .i64 0)))])
 (.cond (.tmp 59)
  (.seq [6] (.reg [((some 60), none, .mv (.tmp 8)),
    ((some 61), none, .len (.tmp 60)),
    ((some 62), none, .bin .eql (.tmp 61) (.const (.int .i64 0))),
    ((some 63), none, .mv (.tmp 62)),
    ((some 64), (some (63, true)), .call 9 []),
    ((some 65), none, .pick (.tmp 63) (.tmp 64) (.const (.bool false))),
    ((some 6), none, .mv (.tmp 65))])
  (.ret))
  (.skip)))
 (.seq [1, 2, 7, 8, 11] (.reg [((some 66), none, .mv (.tmp 1)),
   ((some 67), none, .bin .add (.tmp 66) (.const (.int .i64 1))),
   ((some 11), none, .mv (.tmp 67))])
 (.seq [1, 2, 7, 8, 11] (.seq [1, 2, 7, 8, 11, 69] (.reg [((some 68), none, .mv (.tmp 2)),
   ((some 69), none, .bin .eql (.tmp 68) (.const (.int .u8 0)))])
 (.cond (.tmp 69)
  (.reg [((some 70), none, .mv (.tmp 1)),
    ((some 71), none, .bin .sub (.tmp 70) (.const (.int .i64 1))),
    ((some 11), none, .mv (.tmp 71))])
  (.skip)))
 (.seq [2, 7, 8, 11, 12] (.reg [((some 73), none, .load true 2 (.tmp 7)),
   ((some 74), none, .mv (.tmp 1)),
   ((some 75), none, .call 8 [(.tmp 73), (.tmp 74)]),
   ((some 72), none, .mv (.tmp 75)),
   ((some 76), none, .extract (.tmp 72) 0),
   ((some 77), none, .extract (.tmp 72) 1),
   ((some 12), none, .mv (.tmp 76)),
   ((some 13), none, .mv (.tmp 77))])
 (.seq [2, 8, 12, 14] (.reg [((some 79), none, .load true 2 (.tmp 7)),
   ((some 80), none, .mv (.tmp 11)),
   ((some 81), none, .call 8 [(.tmp 79), (.tmp 80)]),
   ((some 78), none, .mv (.tmp 81)),
   ((some 82), none, .extract (.tmp 78) 0),
   ((some 83), none, .extract (.tmp 78) 1),
   ((some 14), none, .mv (.tmp 82)),
   ((some 15), none, .mv (.tmp 83))])
 (.seq [12, 14] (.seq [2, 8, 12, 14, 16] (.reg [((some 16), none, .mv (.const (.int .i64 0)))])
 (.block 1
  (.loop [2, 8, 12, 14, 16]
   (.seq [2, 8, 12, 14, 16] (.seq [2, 8, 12, 14, 16, 87] (.reg [((some 84), none, .mv (.tmp 16)),
     ((some 85), none, .mv (.tmp 8)),
     ((some 86), none, .len (.tmp 85)),
     ((some 87), none, .bin .lss (.tmp 84) (.tmp 86))])
   (.cond (.tmp 87)
    (.skip)
    (.exit 1)))
   (.seq [2, 8, 12, 14, 16] (.block 2
    (.seq [2, 8, 12, 14, 16, 17] (.reg [((some 17), none, .mv (.const (.int .i64 (-1))))])
    (.seq [2, 8, 12, 14, 16, 17] (.seq [2, 8, 12, 14, 16, 17, 18] (.reg [((some 18), none, .mv (.const (.int .i64 0)))])
    (.block 3
     (.loop [2, 8, 12, 14, 16, 17, 18]
      (.seq [2, 8, 12, 14, 16, 17, 18] (.seq [2, 8, 12, 14, 16, 17, 18, 94] (.reg [((some 90), none, .mv (.tmp 18)),
        ((some 91), none, .bin .add (.tmp 90) (.const (.int .i64 1))),
        ((some 92), none, .mv (.tmp 12)),
        ((some 93), none, .len (.tmp 92)),
        ((some 94), none, .bin .lss (.tmp 91) (.tmp 93))])
      (.cond (.tmp 94)
       (.skip)
       (.exit 3)))
      (.seq [2, 8, 12, 14, 16, 17, 18] (.block 4
       (.seq [2, 8, 12, 14, 16, 17, 18, 121] (.dreg [] [((some 97), none, .mv (.tmp 12)),
         ((some 98), none, .mv (.tmp 18)),
         ((some 99), none, .indexA 5 (.tmp 97) (.tmp 98)),
         ((some 100), none, .fieldA 0 2 true (.tmp 99)),
         ((some 101), none, .load true 2 (.tmp 100)),
         ((some 102), none, .mv (.tmp 8)),
         ((some 103), none, .mv (.tmp 16)),
         ((some 104), none, .indexA 5 (.tmp 102) (.tmp 103)),
         ((some 105), none, .fieldA 0 2 true (.tmp 104)),
         ((some 106), none, .load true 2 (.tmp 105)),
         ((some 107), none, .eqagg false [true, true] (.tmp 101) (.tmp 106)),
         ((some 108), none, .mv (.tmp 107)),
         ((some 109), (some (108, true)), .mv (.tmp 12)),
         ((some 110), (some (108, true)), .mv (.tmp 18)),
         ((some 111), (some (108, true)), .bin .add (.tmp 110) (.const (.int .i64 1))),
         ((some 112), (some (108, true)), .indexA 5 (.tmp 109) (.tmp 111)),
         ((some 113), (some (108, true)), .fieldA 0 2 true (.tmp 112)),
         ((some 114), (some (108, true)), .load true 2 (.tmp 113)),
         ((some 115), (some (108, true)), .mv (.tmp 8)),
         ((some 116), (some (108, true)), .mv (.tmp 16)),
         ((some 117), (some (108, true)), .indexA 5 (.tmp 115) (.tmp 116)),
         ((some 118), (some (108, true)), .fieldA 2 2 true (.tmp 117)),
         ((some 119), (some (108, true)), .load true 2 (.tmp 118)),
         ((some 120), (some (108, true)), .eqagg false [true, true] (.tmp 114) (.tmp 119)),
         ((some 121), none, .pick (.tmp 108) (.tmp 120) (.const (.bool false)))]
        [])
       (.cond (.tmp 121)
        (.reg [((some 122), none, .mv (.tmp 18)),
          ((some 17), none, .mv (.tmp 122))])
        (.skip))))
      (.reg [((some 95), none, .mv (.tmp 18)),
        ((some 96), none, .bin .add (.tmp 95) (.const (.int .i64 1))),
        ((some 18), none, .mv (.tmp 96))]))))))
    (.seq [2, 8, 12, 14, 16, 17] (.seq [2, 8, 12, 14, 16, 17, 124] (.reg [((some 123), none, .mv (.tmp 17)),
      ((some 124), none, .bin .lss (.tmp 123) (.const (.int .i64 0)))])
    (.cond (.tmp 124)
     (.seq [6] (.reg [((some 6), none, .mv (.const (.bool false)))])
     (.ret))
     (.skip)))
    (.seq [2, 8, 12, 14, 16, 17, 19] (.reg [((some 19), none, .mv (.const (.int .i64 (-1))))])
    (.seq [2, 8, 12, 14, 16, 17, 19] (.seq [2, 8, 12, 14, 16, 17, 19, 131] (.reg [((some 125), none, .mv (.tmp 12)),
      ((some 126), none, .mv (.tmp 17)),
      ((some 127), none, .indexA 5 (.tmp 125) (.tmp 126)),
      ((some 128), none, .fieldA 2 2 true (.tmp 127)),
      ((some 129), none, .fieldA 0 1 false (.tmp 128)),
      ((some 130), none, .load false 1 (.tmp 129)),
      ((some 131), none, .bin .eql (.tmp 130) (.const (.int .u8 0)))])
    (.cond (.tmp 131)
     (.reg [((some 19), none, .mv (.const (.int .i64 1)))])
     (.skip)))
    (.seq [2, 8, 12, 14, 16, 17] (.seq [2, 8, 12, 14, 16, 17, 161] (.dreg [] [((some 132), none, .mv (.tmp 8)),
      ((some 133), none, .mv (.tmp 16)),
      ((some 134), none, .indexA 5 (.tmp 132) (.tmp 133)),
      ((some 135), none, .fieldA 4 1 false (.tmp 134)),
      ((some 136), none, .load false 1 (.tmp 135)),
      ((some 137), none, .mv (.tmp 19)),
      ((some 138), none, .bin .neq (.tmp 136) (.tmp 137)),
      ((some 139), none, .mv (.tmp 138)),
      ((some 140), (some (139, false)), .mv (.tmp 12)),
      ((some 141), (some (139, false)), .mv (.tmp 17)),
      ((some 142), (some (139, false)), .indexA 5 (.tmp 140) (.tmp 141)),
      ((some 143), (some (139, false)), .fieldA 2 2 true (.tmp 142)),
      ((some 144), (some (139, false)), .fieldA 0 1 false (.tmp 143)),
      ((some 145), (some (139, false)), .load false 1 (.tmp 144)),
      ((some 146), (some (139, false)), .mv (.tmp 12)),
      ((some 147), (some (139, false)), .mv (.tmp 17)),
      ((some 148), (some (139, false)), .bin .add (.tmp 147) (.const (.int .i64 1))),
      ((some 149), (some (139, false)), .indexA 5 (.tmp 146) (.tmp 148)),
      ((some 150), (some (139, false)), .fieldA 2 2 true (.tmp 149)),
      ((some 151), (some (139, false)), .fieldA 0 1 false (.tmp 150)),
      ((some 152), (some (139, false)), .load false 1 (.tmp 151)),
      ((some 153), (some (139, false)), .bin .eql (.tmp 145) (.tmp 152)),
      ((some 154), none, .pick (.tmp 139) (.const (.bool true)) (.tmp 153)),
      ((some 155), none, .mv (.tmp 154)),
      ((some 156), (some (155, false)), .mv (.tmp 2)),
      ((some 157), (some (155, false)), .bin .eql (.tmp 156) (.const (.int .u8 1))),
      ((some 158), (some (155, false)), .mv (.tmp 19)),
      ((some 159), (some (155, false)), .bin .eql (.tmp 158) (.const (.int .i64 (-1)))),
      ((some 160), (some (155, false)), .binb true (.tmp 157) (.tmp 159)),
      ((some 161), none, .pick (.tmp 155) (.const (.bool true)) (.tmp 160))]
     [])
    (.cond (.tmp 161)
     (.seq [6] (.reg [((some 6), none, .mv (.const (.bool false)))])
     (.ret))
     (.skip)))
    (.sreg [] [((some 162), none, .mv (.tmp 12)),
      ((some 163), none, .mv (.tmp 17)),
      ((some 164), none, .mv (.tmp 12)),
      ((some 165), none, .mv (.tmp 17)),
      ((some 166), none, .bin .add (.tmp 165) (.const (.int .i64 1))),
      ((some 167), none, .mv (.tmp 12)),
      ((some 168), none, .mv (.tmp 17)),
      ((some 169), none, .bin .add (.tmp 168) (.const (.int .i64 1))),
      ((some 170), none, .indexA 5 (.tmp 167) (.tmp 169)),
      ((some 171), none, .load true 5 (.tmp 170)),
      ((some 172), none, .mv (.tmp 12)),
      ((some 173), none, .mv (.tmp 17)),
      ((some 174), none, .indexA 5 (.tmp 172) (.tmp 173)),
      ((some 175), none, .load true 5 (.tmp 174)),
      ((some 176), none, .indexA 5 (.tmp 162) (.tmp 163))]
     []
     [((some 164), none, .mv (.tmp 12)),
      ((some 165), none, .mv (.tmp 17)),
      ((some 166), none, .bin .add (.tmp 165) (.const (.int .i64 1))),
      ((some 172), none, .mv (.tmp 12)),
      ((some 173), none, .mv (.tmp 17)),
      ((some 174), none, .indexA 5 (.tmp 172) (.tmp 173))]
     [((none, none, .store 5 (.tmp 176) (.tmp 171)), [((some 164), none, .mv (.tmp 12)),
      ((some 165), none, .mv (.tmp 17)),
      ((some 166), none, .bin .add (.tmp 165) (.const (.int .i64 1))),
      ((some 172), none, .mv (.tmp 12)),
      ((some 173), none, .mv (.tmp 17)),
      ((some 174), none, .indexA 5 (.tmp 172) (.tmp 173))]), (((some 177), none, .indexA 5 (.tmp 164) (.tmp 166)), []), ((none, none, .store 5 (.tmp 177) (.tmp 175)), [])]))))))))
   (.reg [((some 88), none, .mv (.tmp 16)),
     ((some 89), none, .bin .add (.tmp 88) (.const (.int .i64 1))),
     ((some 16), none, .mv (.tmp 89))]))))))
 (.seq [12, 14] (.seq [12, 14, 182] (.reg [((some 178), none, .mv (.tmp 12)),
   ((some 179), none, .len (.tmp 178)),
   ((some 180), none, .mv (.tmp 14)),
   ((some 181), none, .len (.tmp 180)),
   ((some 182), none, .bin .neq (.tmp 179) (.tmp 181))])
 (.cond (.tmp 182)
  (.seq [6] (.reg [((some 6), none, .mv (.const (.bool false)))])
  (.ret))
  (.skip)))
 (.seq [] (.seq [12, 14, 20] (.reg [((some 20), none, .mv (.const (.int .i64 0)))])
 (.block 5
  (.loop [12, 14, 20]
   (.seq [12, 14, 20] (.seq [12, 14, 20, 186] (.reg [((some 183), none, .mv (.tmp 20)),
     ((some 184), none, .mv (.tmp 12)),
     ((some 185), none, .len (.tmp 184)),
     ((some 186), none, .bin .lss (.tmp 183) (.tmp 185))])
   (.cond (.tmp 186)
    (.skip)
    (.exit 5)))
   (.seq [12, 14, 20] (.block 6
    (.seq [12, 14, 20, 199] (.dreg [] [((some 189), none, .mv (.tmp 12)),
      ((some 190), none, .mv (.tmp 20)),
      ((some 191), none, .indexA 5 (.tmp 189) (.tmp 190)),
      ((some 192), none, .fieldA 0 2 true (.tmp 191)),
      ((some 193), none, .load true 2 (.tmp 192)),
      ((some 194), none, .mv (.tmp 14)),
      ((some 195), none, .mv (.tmp 20)),
      ((some 196), none, .indexA 5 (.tmp 194) (.tmp 195)),
      ((some 197), none, .fieldA 0 2 true (.tmp 196)),
      ((some 198), none, .load true 2 (.tmp 197)),
      ((some 199), none, .eqagg true [true, true] (.tmp 193) (.tmp 198))]
     [])
    (.cond (.tmp 199)
     (.seq [6] (.reg [((some 6), none, .mv (.const (.bool false)))])
     (.ret))
     (.skip))))
   (.reg [((some 187), none, .mv (.tmp 20)),
     ((some 188), none, .bin .add (.tmp 187) (.const (.int .i64 1))),
     ((some 20), none, .mv (.tmp 188))]))))))
 (.seq [6] (.reg [((some 200), none, .call 9 []),
   ((some 6), none, .mv (.tmp 200))])
 (.ret)))))))))))))))
theorem k4 : FnOK Try.prog 4 c4 [.tmp 6] 3 := ⟨by kernel_rfl, Try.f4, _, [], Try.func4, rfl, by kernel_rfl, by kernel_rfl, by decide⟩

-- gansey/ganseylaw04.OrdersMeets
def c5 : Cmd :=
 .seq [0, 2, 4] (.reg [((some 4), none, .box 49 2 (.tmp 1)),
   ((some 6), none, .mv (.const (.bool false)))])
 (.seq [2, 4, 7] (.reg [((some 25), none, .mv (.tmp 0)),
   ((some 26), none, .call 7 [(.tmp 25)]),
   ((some 7), none, .alloc 26 2 (.agg [(.val (.slice none 0 0)), (.val (.slice none 0 0))])),
   (none, none, .store 2 (.tmp 7) (.tmp 26))])
 (.seq [2, 7, 8, 9] (.dreg [] [((some 27), none, .indexP 2 1 false (.tmp 4) (.const (.int .i64 0))),
   ((some 28), none, .load false 1 (.tmp 27)),
   ((some 29), none, .indexP 2 1 false (.tmp 4) (.const (.int .i64 1))),
   ((some 30), none, .load false 1 (.tmp 29)),
   ((some 8), none, .mv (.tmp 28))]
  [((some 9), none, .mv (.tmp 30))])
 (.seq [2, 7, 8, 9, 10, 11] (.reg [((some 32), none, .load true 2 (.tmp 7)),
   ((some 33), none, .mv (.tmp 8)),
   ((some 34), none, .mv (.tmp 2)),
   ((some 35), none, .mv (.tmp 9)),
   ((some 36), none, .call 12 [(.tmp 32), (.tmp 33), (.tmp 34), (.tmp 35)]),
   ((some 31), none, .mv (.tmp 36)),
   ((some 37), none, .extract (.tmp 31) 0),
   ((some 38), none, .extract (.tmp 31) 1),
   ((some 10), none, .mv (.tmp 37)),
   ((some 11), none, .mv (.tmp 38))])
 (.seq [2, 7, 8, 9, 10, 11, 13] (.reg [((some 40), none, .load true 2 (.tmp 7)),
   ((some 41), none, .mv (.tmp 8)),
   ((some 42), none, .mv (.tmp 2)),
   ((some 43), none, .call 11 [(.tmp 40), (.tmp 41), (.tmp 42)]),
   ((some 39), none, .mv (.tmp 43)),
   ((some 44), none, .extract (.tmp 39) 0),
   ((some 45), none, .extract (.tmp 39) 1),
   ((some 12), none, .mv (.tmp 44)),
   ((some 13), none, .mv (.tmp 45))])
 (.seq [2, 7, 8, 9, 10, 11] (.seq [2, 7, 8, 9, 10, 11, 13, 47] (.reg [((some 46), none, .mv (.tmp 13)),
   ((some 47), none, .bin .neq (.tmp 46) (.const (.int .i64 0)))])
 (.cond (.tmp 47)
  (.seq [6] (.reg [((some 48), none, .mv (.tmp 11)),
    ((some 49), none, .mv (.tmp 13)),
    ((some 50), none, .bin .eql (.tmp 48) (.tmp 49)),
    ((some 51), none, .mv (.tmp 50)),
    ((some 52), (some (51, true)), .mv (.tmp 10)),
    ((some 53), (some (51, true)), .len (.tmp 52)),
    ((some 54), (some (51, true)), .bin .eql (.tmp 53) (.const (.int .i64 0))),
    ((some 55), none, .pick (.tmp 51) (.tmp 54) (.const (.bool false))),
    ((some 56), none, .mv (.tmp 55)),
    ((some 57), (some (56, true)), .call 9 []),
    ((some 58), none, .pick (.tmp 56) (.tmp 57) (.const (.bool false))),
    ((some 6), none, .mv (.tmp 58))])
  (.ret))
  (.skip)))
 (.seq [2, 7, 8, 9, 10, 11] (.seq [2, 7, 8, 9, 10, 11, 61] (.reg [((some 59), none, .mv (.tmp 9)),
   ((some 60), none, .bin .rem (.tmp 59) (.const (.int .i64 2))),
   ((some 61), none, .bin .eql (.tmp 60) (.const (.int .i64 0)))])
 (.cond (.tmp 61)
  (.seq [6] (.reg [((some 62), none, .mv (.tmp 11)),
    ((some 63), none, .bin .eql (.tmp 62) (.const (.int .i64 1))),
    ((some 64), none, .mv (.tmp 63)),
    ((some 65), (some (64, true)), .mv (.tmp 10)),
    ((some 66), (some (64, true)), .len (.tmp 65)),
    ((some 67), (some (64, true)), .bin .eql (.tmp 66) (.const (.int .i64 0))),
    ((some 68), none, .pick (.tmp 64) (.tmp 67) (.const (.bool false))),
    ((some 69), none, .mv (.tmp 68)),
    ((some 70), (some (69, true)), .call 9 []),
    ((some 71), none, .pick (.tmp 69) (.tmp 70) (.const (.bool false))),
    ((some 6), none, .mv (.tmp 71))])
  (.ret))
  (.skip)))
 (.seq [2, 7, 8, 9, 10, 11, 14, 15] (.reg [((some 72), none, .mv (.tmp 8)),
   ((some 73), none, .bin .add (.tmp 72) (.const (.int .i64 1))),
   ((some 14), none, .mv (.tmp 73)),
   ((some 15), none, .mv (.const (.int .u8 0)))])
 (.seq [7, 8, 9, 10, 11, 14, 15] (.seq [7, 8, 9, 10, 11, 14, 15, 75] (.reg [((some 74), none, .mv (.tmp 2)),
   ((some 75), none, .bin .eql (.tmp 74) (.const (.int .u8 0)))])
 (.cond (.tmp 75)
  (.reg [((some 76), none, .mv (.tmp 8)),
    ((some 77), none, .bin .sub (.tmp 76) (.const (.int .i64 1))),
    ((some 14), none, .mv (.tmp 77)),
    ((some 15), none, .mv (.const (.int .u8 1)))])
  (.skip)))
 (.seq [7, 9, 10, 11, 14, 15, 16] (.reg [((some 79), none, .load true 2 (.tmp 7)),
   ((some 80), none, .mv (.tmp 8)),
   ((some 81), none, .call 8 [(.tmp 79), (.tmp 80)]),
   ((some 78), none, .mv (.tmp 81)),
   ((some 82), none, .extract (.tmp 78) 0),
   ((some 83), none, .extract (.tmp 78) 1),
   ((some 16), none, .mv (.tmp 82)),
   ((some 17), none, .mv (.tmp 83))])
 (.seq [9, 10, 11, 15, 16, 18] (.reg [((some 85), none, .load true 2 (.tmp 7)),
   ((some 86), none, .mv (.tmp 14)),
   ((some 87), none, .call 8 [(.tmp 85), (.tmp 86)]),
   ((some 84), none, .mv (.tmp 87)),
   ((some 88), none, .extract (.tmp 84) 0),
   ((some 89), none, .extract (.tmp 84) 1),
   ((some 18), none, .mv (.tmp 88)),
   ((some 19), none, .mv (.tmp 89))])
 (.seq [9, 10, 11, 15, 16, 18, 20] (.reg [((some 20), none, .mv (.const (.slice none 0 0)))])
 (.seq [10, 11, 20] (.seq [9, 10, 11, 15, 16, 18, 20, 21] (.reg [((some 21), none, .mv (.const (.int .i64 0)))])
 (.block 0
  (.loop [9, 10, 11, 15, 16, 18, 20, 21]
   (.seq [9, 10, 11, 15, 16, 18, 20, 21] (.seq [9, 10, 11, 15, 16, 18, 20, 21, 93] (.reg [((some 90), none, .mv (.tmp 21)),
     ((some 91), none, .mv (.tmp 16)),
     ((some 92), none, .len (.tmp 91)),
     ((some 93), none, .bin .lss (.tmp 90) (.tmp 92))])
   (.cond (.tmp 93)
    (.skip)
    (.exit 0)))
   (.seq [9, 10, 11, 15, 16, 18, 20, 21] (.block 1
    (.seq [9, 10, 11, 15, 16, 18, 20, 21, 22] (.reg [((some 96), none, .mv (.tmp 21)),
      ((some 22), none, .mv (.tmp 96))])
    (.seq [9, 10, 11, 15, 16, 18, 20, 21, 22] (.seq [9, 10, 11, 15, 16, 18, 20, 21, 22, 98] (.reg [((some 97), none, .mv (.tmp 15)),
      ((some 98), none, .bin .eql (.tmp 97) (.const (.int .u8 0)))])
    (.cond (.tmp 98)
     (.reg [((some 99), none, .mv (.tmp 16)),
       ((some 100), none, .len (.tmp 99)),
       ((some 101), none, .bin .sub (.tmp 100) (.const (.int .i64 1))),
       ((some 102), none, .mv (.tmp 21)),
       ((some 103), none, .bin .sub (.tmp 101) (.tmp 102)),
       ((some 22), none, .mv (.tmp 103))])
     (.skip)))
    (.seq [9, 10, 11, 15, 16, 18, 20, 21, 22, 23] (.reg [((some 23), none, .mv (.const (.int .i64 0)))])
    (.block 2
     (.loop [9, 10, 11, 15, 16, 18, 20, 21, 22, 23]
      (.seq [9, 10, 11, 15, 16, 18, 20, 21, 22, 23] (.seq [9, 10, 11, 15, 16, 18, 20, 21, 22, 23, 107] (.reg [((some 104), none, .mv (.tmp 23)),
        ((some 105), none, .mv (.tmp 18)),
        ((some 106), none, .len (.tmp 105)),
        ((some 107), none, .bin .lss (.tmp 104) (.tmp 106))])
      (.cond (.tmp 107)
       (.skip)
       (.exit 2)))
      (.seq [9, 10, 11, 15, 16, 18, 20, 21, 22, 23] (.block 3
       (.seq [9, 10, 11, 15, 16, 18, 20, 21, 22, 23, 137] (.dreg [] [((some 110), none, .mv (.tmp 18)),
         ((some 111), none, .mv (.tmp 23)),
         ((some 112), none, .indexA 5 (.tmp 110) (.tmp 111)),
         ((some 113), none, .fieldA 0 2 true (.tmp 112)),
         ((some 114), none, .load true 2 (.tmp 113)),
         ((some 115), none, .mv (.tmp 16)),
         ((some 116), none, .mv (.tmp 22)),
         ((some 117), none, .indexA 5 (.tmp 115) (.tmp 116)),
         ((some 118), none, .fieldA 0 2 true (.tmp 117)),
         ((some 119), none, .load true 2 (.tmp 118)),
         ((some 120), none, .eqagg false [true, true] (.tmp 114) (.tmp 119)),
         ((some 121), none, .mv (.tmp 120)),
         ((some 122), (some (121, true)), .mv (.tmp 16)),
         ((some 123), (some (121, true)), .mv (.tmp 22)),
         ((some 124), (some (121, true)), .indexA 5 (.tmp 122) (.tmp 123)),
         ((some 125), (some (121, true)), .fieldA 4 1 false (.tmp 124)),
         ((some 126), (some (121, true)), .load false 1 (.tmp 125)),
         ((some 127), (some (121, true)), .mv (.tmp 9)),
         ((some 128), (some (121, true)), .bin .lss (.tmp 126) (.tmp 127)),
         ((some 129), (some (121, true)), .mv (.tmp 18)),
         ((some 130), (some (121, true)), .mv (.tmp 23)),
         ((some 131), (some (121, true)), .indexA 5 (.tmp 129) (.tmp 130)),
         ((some 132), (some (121, true)), .fieldA 4 1 false (.tmp 131)),
         ((some 133), (some (121, true)), .load false 1 (.tmp 132)),
         ((some 134), (some (121, true)), .mv (.tmp 9)),
         ((some 135), (some (121, true)), .bin .lss (.tmp 133) (.tmp 134)),
         ((some 136), (some (121, true)), .binb true (.tmp 128) (.tmp 135)),
         ((some 137), none, .pick (.tmp 121) (.tmp 136) (.const (.bool false)))]
        [])
       (.cond (.tmp 137)
        (.reg [((some 138), none, .mv (.tmp 20)),
          ((some 139), none, .mv (.tmp 16)),
          ((some 140), none, .mv (.tmp 22)),
          ((some 141), none, .indexA 5 (.tmp 139) (.tmp 140)),
          ((some 142), none, .fieldA 0 2 true (.tmp 141)),
          ((some 143), none, .load true 2 (.tmp 142)),
          ((some 144), none, .mv (.tmp 15)),
          ((some 145), none, .build [(.val (.int .u8 0)), (.val (.int .i64 0)), (.val (.bool false)), (.val (.int .u8 0))] [(0, 2, (.tmp 143)), (2, 1, (.const (.bool true))), (3, 1, (.tmp 144))]),
          ((some 146), none, .blist 4 [(.tmp 145)]),
          ((some 147), none, .append true 54 4 24 (.tmp 138) (.tmp 146)),
          ((some 20), none, .mv (.tmp 147))])
        (.skip))))
      (.reg [((some 108), none, .mv (.tmp 23)),
        ((some 109), none, .bin .add (.tmp 108) (.const (.int .i64 1))),
        ((some 23), none, .mv (.tmp 109))])))))))))
   (.reg [((some 94), none, .mv (.tmp 21)),
     ((some 95), none, .bin .add (.tmp 94) (.const (.int .i64 1))),
     ((some 21), none, .mv (.tmp 95))]))))))
 (.seq [10, 20] (.seq [10, 20, 163] (.reg [((some 148), none, .mv (.tmp 11)),
   ((some 149), none, .bin .neq (.tmp 148) (.const (.int .i64 0))),
   ((some 150), none, .mv (.tmp 149)),
   ((some 151), (some (150, false)), .mv (.tmp 10)),
   ((some 152), (some (150, false)), .len (.tmp 151)),
   ((some 153), (some (150, false)), .mv (.tmp 20)),
   ((some 154), (some (150, false)), .len (.tmp 153)),
   ((some 155), (some (150, false)), .bin .neq (.tmp 152) (.tmp 154)),
   ((some 156), none, .pick (.tmp 150) (.const (.bool true)) (.tmp 155)),
   ((some 157), none, .mv (.tmp 156)),
   ((some 158), (some (157, false)), .mv (.tmp 10)),
   ((some 159), (some (157, false)), .cap (.tmp 158)),
   ((some 160), (some (157, false)), .mv (.tmp 10)),
   ((some 161), (some (157, false)), .len (.tmp 160)),
   ((some 162), (some (157, false)), .bin .neq (.tmp 159) (.tmp 161)),
   ((some 163), none, .pick (.tmp 157) (.const (.bool true)) (.tmp 162))])
 (.cond (.tmp 163)
  (.seq [6] (.reg [((some 6), none, .mv (.const (.bool false)))])
  (.ret))
  (.skip)))
 (.seq [] (.seq [10, 20, 24] (.reg [((some 24), none, .mv (.const (.int .i64 0)))])
 (.block 4
  (.loop [10, 20, 24]
   (.seq [10, 20, 24] (.seq [10, 20, 24, 167] (.reg [((some 164), none, .mv (.tmp 24)),
     ((some 165), none, .mv (.tmp 10)),
     ((some 166), none, .len (.tmp 165)),
     ((some 167), none, .bin .lss (.tmp 164) (.tmp 166))])
   (.cond (.tmp 167)
    (.skip)
    (.exit 4)))
   (.seq [10, 20, 24] (.block 5
    (.seq [10, 20, 24, 178] (.dreg [] [((some 170), none, .mv (.tmp 10)),
      ((some 171), none, .mv (.tmp 24)),
      ((some 172), none, .indexA 4 (.tmp 170) (.tmp 171)),
      ((some 173), none, .load true 4 (.tmp 172)),
      ((some 174), none, .mv (.tmp 20)),
      ((some 175), none, .mv (.tmp 24)),
      ((some 176), none, .indexA 4 (.tmp 174) (.tmp 175)),
      ((some 177), none, .load true 4 (.tmp 176)),
      ((some 178), none, .eqagg true [true, true, false, true] (.tmp 173) (.tmp 177))]
     [])
    (.cond (.tmp 178)
     (.seq [6] (.reg [((some 6), none, .mv (.const (.bool false)))])
     (.ret))
     (.skip))))
   (.reg [((some 168), none, .mv (.tmp 24)),
     ((some 169), none, .bin .add (.tmp 168) (.const (.int .i64 1))),
     ((some 24), none, .mv (.tmp 169))]))))))
 (.seq [6] (.reg [((some 179), none, .call 9 []),
   ((some 6), none, .mv (.tmp 179))])
 (.ret))))))))))))))))
theorem k5 : FnOK Try.prog 5 c5 [.tmp 6] 3 := ⟨by kernel_rfl, Try.f5, _, [147], Try.func5, rfl, by kernel_rfl, by kernel_rfl, by decide⟩

-- gansey/ganseylaw04.OrdersBetween
def c6 : Cmd :=
 .seq [0, 1, 5] (.reg [((some 5), none, .box 49 2 (.tmp 2)),
   ((some 6), none, .mv (.const (.bool false)))])
 (.seq [0, 5, 7] (.reg [((some 21), none, .mv (.tmp 1)),
   ((some 22), none, .bin .rem (.tmp 21) (.const (.int .u8 9))),
   ((some 23), none, .convi .i64 (.tmp 22)),
   ((some 24), none, .bin .sub (.tmp 23) (.const (.int .i64 4))),
   ((some 7), none, .mv (.tmp 24))])
 (.seq [5, 8, 9] (.reg [((some 26), none, .mv (.tmp 0)),
   ((some 27), none, .call 7 [(.tmp 26)]),
   ((some 28), none, .mv (.tmp 7)),
   ((some 29), none, .call 8 [(.tmp 27), (.tmp 28)]),
   ((some 25), none, .mv (.tmp 29)),
   ((some 30), none, .extract (.tmp 25) 0),
   ((some 31), none, .extract (.tmp 25) 1),
   ((some 8), none, .mv (.tmp 30)),
   ((some 9), none, .mv (.tmp 31))])
 (.seq [5, 8] (.seq [5, 8, 33] (.reg [((some 32), none, .mv (.tmp 9)),
   ((some 33), none, .bin .neq (.tmp 32) (.const (.int .i64 0)))])
 (.cond (.tmp 33)
  (.seq [6] (.reg [((some 6), none, .mv (.const (.bool false)))])
  (.ret))
  (.skip)))
 (.seq [8, 10, 11] (.dreg [] [((some 34), none, .indexP 2 1 false (.tmp 5) (.const (.int .i64 0))),
   ((some 35), none, .load false 1 (.tmp 34)),
   ((some 36), none, .indexP 2 1 false (.tmp 5) (.const (.int .i64 1))),
   ((some 37), none, .load false 1 (.tmp 36)),
   ((some 10), none, .mv (.tmp 35))]
  [((some 11), none, .mv (.tmp 37))])
 (.seq [8, 10, 11, 12] (.reg [((some 38), none, .mv (.tmp 8)),
   ((some 39), none, .mv (.tmp 10)),
   ((some 40), none, .mv (.tmp 11)),
   ((some 41), none, .call 13 [(.tmp 38), (.tmp 39), (.tmp 40)]),
   ((some 12), none, .mv (.tmp 41))])
 (.seq [8, 10, 11, 12, 13, 14] (.reg [((some 42), none, .mv (.tmp 10)),
   ((some 43), none, .mv (.tmp 11)),
   ((some 13), none, .mv (.tmp 42)),
   ((some 14), none, .mv (.tmp 43))])
 (.seq [8, 10, 11, 12, 13, 14] (.seq [8, 10, 11, 12, 13, 14, 46] (.reg [((some 44), none, .mv (.tmp 13)),
   ((some 45), none, .mv (.tmp 14)),
   ((some 46), none, .bin .gtr (.tmp 44) (.tmp 45))])
 (.cond (.tmp 46)
  (.reg [((some 47), none, .mv (.tmp 11)),
    ((some 48), none, .mv (.tmp 10)),
    ((some 13), none, .mv (.tmp 47)),
    ((some 14), none, .mv (.tmp 48))])
  (.skip)))
 (.seq [8, 10, 11, 12, 13, 14, 15] (.reg [((some 15), none, .mv (.const (.slice none 0 0)))])
 (.seq [8, 10, 11, 12, 15] (.seq [8, 10, 11, 12, 13, 14, 15, 16] (.reg [((some 16), none, .mv (.const (.int .i64 0)))])
 (.block 0
  (.loop [8, 10, 11, 12, 13, 14, 15, 16]
   (.seq [8, 10, 11, 12, 13, 14, 15, 16] (.seq [8, 10, 11, 12, 13, 14, 15, 16, 52] (.reg [((some 49), none, .mv (.tmp 16)),
     ((some 50), none, .mv (.tmp 8)),
     ((some 51), none, .len (.tmp 50)),
     ((some 52), none, .bin .lss (.tmp 49) (.tmp 51))])
   (.cond (.tmp 52)
    (.skip)
    (.exit 0)))
   (.seq [8, 10, 11, 12, 13, 14, 15, 16] (.block 1
    (.seq [8, 10, 11, 12, 13, 14, 15, 16, 17] (.reg [((some 55), none, .mv (.tmp 16)),
      ((some 17), none, .mv (.tmp 55))])
    (.seq [8, 10, 11, 12, 13, 14, 15, 16, 17] (.seq [8, 10, 11, 12, 13, 14, 15, 16, 17, 58] (.reg [((some 56), none, .mv (.tmp 11)),
      ((some 57), none, .mv (.tmp 10)),
      ((some 58), none, .bin .leq (.tmp 56) (.tmp 57))])
    (.cond (.tmp 58)
     (.reg [((some 59), none, .mv (.tmp 8)),
       ((some 60), none, .len (.tmp 59)),
       ((some 61), none, .bin .sub (.tmp 60) (.const (.int .i64 1))),
       ((some 62), none, .mv (.tmp 16)),
       ((some 63), none, .bin .sub (.tmp 61) (.tmp 62)),
       ((some 17), none, .mv (.tmp 63))])
     (.skip)))
    (.seq [8, 10, 11, 12, 13, 14, 15, 16, 17] (.seq [8, 10, 11, 12, 13, 14, 15, 16, 17, 79] (.reg [((some 64), none, .mv (.tmp 8)),
      ((some 65), none, .mv (.tmp 17)),
      ((some 66), none, .indexA 5 (.tmp 64) (.tmp 65)),
      ((some 67), none, .fieldA 4 1 false (.tmp 66)),
      ((some 68), none, .load false 1 (.tmp 67)),
      ((some 69), none, .mv (.tmp 13)),
      ((some 70), none, .bin .leq (.tmp 68) (.tmp 69)),
      ((some 71), none, .mv (.tmp 70)),
      ((some 72), (some (71, false)), .mv (.tmp 8)),
      ((some 73), (some (71, false)), .mv (.tmp 17)),
      ((some 74), (some (71, false)), .indexA 5 (.tmp 72) (.tmp 73)),
      ((some 75), (some (71, false)), .fieldA 4 1 false (.tmp 74)),
      ((some 76), (some (71, false)), .load false 1 (.tmp 75)),
      ((some 77), (some (71, false)), .mv (.tmp 14)),
      ((some 78), (some (71, false)), .bin .geq (.tmp 76) (.tmp 77)),
      ((some 79), none, .pick (.tmp 71) (.const (.bool true)) (.tmp 78))])
    (.cond (.tmp 79)
     (.exit 1)
     (.skip)))
    (.seq [8, 10, 11, 12, 13, 14, 15, 16, 18] (.dreg [] [((some 80), none, .mv (.tmp 8)),
      ((some 81), none, .mv (.tmp 17)),
      ((some 82), none, .indexA 5 (.tmp 80) (.tmp 81)),
      ((some 83), none, .fieldA 0 2 true (.tmp 82)),
      ((some 84), none, .load true 2 (.tmp 83)),
      ((some 85), none, .mv (.tmp 8)),
      ((some 86), none, .mv (.tmp 17)),
      ((some 87), none, .indexA 5 (.tmp 85) (.tmp 86)),
      ((some 88), none, .fieldA 2 2 true (.tmp 87)),
      ((some 89), none, .fieldA 0 1 false (.tmp 88)),
      ((some 90), none, .load false 1 (.tmp 89)),
      ((some 91), none, .bin .eql (.tmp 90) (.const (.int .u8 1))),
      ((some 92), none, .build [(.val (.int .u8 0)), (.val (.int .i64 0)), (.val (.bool false)), (.val (.int .u8 0))] [(0, 2, (.tmp 84)), (2, 1, (.tmp 91)), (3, 1, (.const (.int .u8 0)))]),
      ((some 18), none, .alloc 54 4 (.agg [(.val (.int .u8 0)), (.val (.int .i64 0)), (.val (.bool false)), (.val (.int .u8 0))]))]
     [((some 18), none, .alloc 54 4 (.agg [(.val (.int .u8 0)), (.val (.int .i64 0)), (.val (.bool false)), (.val (.int .u8 0))])),
      (none, none, .store 4 (.tmp 18) (.tmp 92))])
    (.seq [8, 10, 11, 12, 13, 14, 15, 16, 18] (.seq [8, 10, 11, 12, 13, 14, 15, 16, 18, 95] (.reg [((some 93), none, .mv (.tmp 11)),
      ((some 94), none, .mv (.tmp 10)),
      ((some 95), none, .bin .gtr (.tmp 93) (.tmp 94))])
    (.cond (.tmp 95)
     (.reg [((some 96), none, .fieldA 3 1 false (.tmp 18)),
       (none, none, .store 1 (.tmp 96) (.const (.int .u8 1)))])
     (.skip)))
    (.reg [((some 97), none, .mv (.tmp 15)),
      ((some 98), none, .load true 4 (.tmp 18)),
      ((some 99), none, .blist 4 [(.tmp 98)]),
      ((some 100), none, .append true 54 4 24 (.tmp 97) (.tmp 99)),
      ((some 15), none, .mv (.tmp 100))])))))))
   (.reg [((some 53), none, .mv (.tmp 16)),
     ((some 54), none, .bin .add (.tmp 53) (.const (.int .i64 1))),
     ((some 16), none, .mv (.tmp 54))]))))))
 (.seq [8, 10, 11, 12, 15] (.seq [8, 10, 11, 12, 15, 119] (.reg [((some 101), none, .mv (.tmp 12)),
   ((some 102), none, .call 14 [(.tmp 101)]),
   ((some 103), none, .mv (.tmp 15)),
   ((some 104), none, .call 14 [(.tmp 103)]),
   ((some 105), none, .str .neq (.tmp 102) (.tmp 104)),
   ((some 106), none, .mv (.tmp 105)),
   ((some 107), (some (106, false)), .mv (.tmp 12)),
   ((some 108), (some (106, false)), .len (.tmp 107)),
   ((some 109), (some (106, false)), .mv (.tmp 15)),
   ((some 110), (some (106, false)), .len (.tmp 109)),
   ((some 111), (some (106, false)), .bin .neq (.tmp 108) (.tmp 110)),
   ((some 112), none, .pick (.tmp 106) (.const (.bool true)) (.tmp 111)),
   ((some 113), none, .mv (.tmp 112)),
   ((some 114), (some (113, false)), .mv (.tmp 12)),
   ((some 115), (some (113, false)), .cap (.tmp 114)),
   ((some 116), (some (113, false)), .mv (.tmp 12)),
   ((some 117), (some (113, false)), .len (.tmp 116)),
   ((some 118), (some (113, false)), .bin .neq (.tmp 115) (.tmp 117)),
   ((some 119), none, .pick (.tmp 113) (.const (.bool true)) (.tmp 118))])
 (.cond (.tmp 119)
  (.seq [6] (.reg [((some 6), none, .mv (.const (.bool false)))])
  (.ret))
  (.skip)))
 (.seq [8, 10, 11, 12] (.seq [8, 10, 11, 12, 15, 19] (.reg [((some 19), none, .mv (.const (.int .i64 0)))])
 (.block 2
  (.loop [8, 10, 11, 12, 15, 19]
   (.seq [8, 10, 11, 12, 15, 19] (.seq [8, 10, 11, 12, 15, 19, 123] (.reg [((some 120), none, .mv (.tmp 19)),
     ((some 121), none, .mv (.tmp 12)),
     ((some 122), none, .len (.tmp 121)),
     ((some 123), none, .bin .lss (.tmp 120) (.tmp 122))])
   (.cond (.tmp 123)
    (.skip)
    (.exit 2)))
   (.seq [8, 10, 11, 12, 15, 19] (.block 3
    (.seq [8, 10, 11, 12, 15, 19, 134] (.dreg [] [((some 126), none, .mv (.tmp 12)),
      ((some 127), none, .mv (.tmp 19)),
      ((some 128), none, .indexA 4 (.tmp 126) (.tmp 127)),
      ((some 129), none, .load true 4 (.tmp 128)),
      ((some 130), none, .mv (.tmp 15)),
      ((some 131), none, .mv (.tmp 19)),
      ((some 132), none, .indexA 4 (.tmp 130) (.tmp 131)),
      ((some 133), none, .load true 4 (.tmp 132)),
      ((some 134), none, .eqagg true [true, true, false, true] (.tmp 129) (.tmp 133))]
     [])
    (.cond (.tmp 134)
     (.seq [6] (.reg [((some 6), none, .mv (.const (.bool false)))])
     (.ret))
     (.skip))))
   (.reg [((some 124), none, .mv (.tmp 19)),
     ((some 125), none, .bin .add (.tmp 124) (.const (.int .i64 1))),
     ((some 19), none, .mv (.tmp 125))]))))))
 (.seq [12, 20] (.reg [((some 135), none, .mv (.tmp 8)),
   ((some 136), none, .mv (.tmp 11)),
   ((some 137), none, .mv (.tmp 10)),
   ((some 138), none, .call 13 [(.tmp 135), (.tmp 136), (.tmp 137)]),
   ((some 20), none, .mv (.tmp 138))])
 (.seq [6] (.reg [((some 139), none, .blist 4 []),
   ((some 140), none, .mv (.tmp 12)),
   ((some 141), none, .append true 54 4 24 (.tmp 139) (.tmp 140)),
   ((some 142), none, .mv (.tmp 20)),
   ((some 143), none, .append false 54 4 24 (.tmp 141) (.tmp 142)),
   ((some 144), none, .call 15 [(.tmp 143)]),
   ((some 145), none, .len (.tmp 144)),
   ((some 146), none, .bin .eql (.tmp 145) (.const (.int .i64 0))),
   ((some 147), none, .mv (.tmp 146)),
   ((some 148), (some (147, true)), .call 9 []),
   ((some 149), none, .pick (.tmp 147) (.tmp 148) (.const (.bool false))),
   ((some 6), none, .mv (.tmp 149))])
 (.ret))))))))))))))
theorem k6 : FnOK Try.prog 6 c6 [.tmp 6] 3 := ⟨by kernel_rfl, Try.f6, _, [100, 141], Try.func6, rfl, by kernel_rfl, by kernel_rfl, by decide⟩

-- (gansey/ganseylaw03.B).Of
def c7 : Cmd :=
 .seq [0, 2] (.reg [((some 2), none, .alloc 26 2 (.agg [(.val (.slice none 0 0)), (.val (.slice none 0 0))]))])
 (.seq [2] (.reg [((some 3), none, .mv (.tmp 0)),
   ((some 4), none, .call 16 [(.tmp 3)]),
   ((some 5), none, .call 17 [(.tmp 4)]),
   (none, none, .store 2 (.tmp 2) (.tmp 5))])
 (.ret))
theorem k7 : FnOK Try.prog 7 c7 [.cell true 2 2] 1 := ⟨by kernel_rfl, Try.f7, _, [], Try.func7, rfl, by kernel_rfl, by kernel_rfl, by decide⟩

-- gansey/orders.List
def c8 : Cmd :=
 .seq [1, 2] (.reg [((some 2), none, .box 26 2 (.tmp 0)),
   ((some 4), none, .mv (.const (.slice none 0 0))),
   ((some 5), none, .mv (.const (.int .i64 0)))])
 (.seq [1, 2] (.seq [1, 2, 6] (.reg [((some 7), none, .load true 2 (.tmp 2)),
   ((some 8), none, .mv (.tmp 1)),
   ((some 9), none, .call 18 [(.tmp 7), (.tmp 8)]),
   ((some 6), none, .mv (.tmp 9))])
 (.seq [1, 2, 6, 11] (.reg [((some 10), none, .mv (.tmp 6)),
   ((some 11), none, .bin .neq (.tmp 10) (.const (.int .i64 0)))])
 (.cond (.tmp 11)
  (.seq [4, 5] (.reg [((some 12), none, .mv (.tmp 6)),
    ((some 4), none, .mv (.const (.slice none 0 0))),
    ((some 5), none, .mv (.tmp 12))])
  (.ret))
  (.skip))))
 (.seq [4, 5] (.reg [((some 13), none, .load true 2 (.tmp 2)),
   ((some 14), none, .mv (.tmp 1)),
   ((some 15), none, .call 19 [(.tmp 13), (.tmp 14)]),
   ((some 4), none, .mv (.tmp 15)),
   ((some 5), none, .mv (.const (.int .i64 0)))])
 (.ret)))
theorem k8 : FnOK Try.prog 8 c8 [.tmp 4, .tmp 5] 2 := ⟨by kernel_rfl, Try.f8, _, [], Try.func8, rfl, by kernel_rfl, by kernel_rfl, by decide⟩

-- gansey/ganseylaw04.lives
def c9 : Cmd :=
 .seq [] (.reg [((some 0), none, .mv (.const (.bool false)))])
 (.seq [1] (.reg [((some 18), none, .call 20 []),
   ((some 1), none, .alloc 26 2 (.agg [(.val (.slice none 0 0)), (.val (.slice none 0 0))])),
   (none, none, .store 2 (.tmp 1) (.tmp 18))])
 (.seq [1, 2, 3] (.reg [((some 20), none, .load true 2 (.tmp 1)),
   ((some 21), none, .call 8 [(.tmp 20), (.const (.int .i64 0))]),
   ((some 19), none, .mv (.tmp 21)),
   ((some 22), none, .extract (.tmp 19) 0),
   ((some 23), none, .extract (.tmp 19) 1),
   ((some 2), none, .mv (.tmp 22)),
   ((some 3), none, .mv (.tmp 23))])
 (.seq [1, 2, 3, 4, 5] (.reg [((some 25), none, .load true 2 (.tmp 1)),
   ((some 26), none, .call 8 [(.tmp 25), (.const (.int .i64 1))]),
   ((some 24), none, .mv (.tmp 26)),
   ((some 27), none, .extract (.tmp 24) 0),
   ((some 28), none, .extract (.tmp 24) 1),
   ((some 4), none, .mv (.tmp 27)),
   ((some 5), none, .mv (.tmp 28))])
 (.seq [1, 2, 3, 4, 5, 6, 7] (.reg [((some 30), none, .load true 2 (.tmp 1)),
   ((some 31), none, .call 11 [(.tmp 30), (.const (.int .i64 0)), (.const (.int .u8 1))]),
   ((some 29), none, .mv (.tmp 31)),
   ((some 32), none, .extract (.tmp 29) 0),
   ((some 33), none, .extract (.tmp 29) 1),
   ((some 6), none, .mv (.tmp 32)),
   ((some 7), none, .mv (.tmp 33))])
 (.seq [1, 2, 3, 4, 5, 6, 7, 8, 9] (.reg [((some 35), none, .load true 2 (.tmp 1)),
   ((some 36), none, .call 11 [(.tmp 35), (.const (.int .i64 1)), (.const (.int .u8 0))]),
   ((some 34), none, .mv (.tmp 36)),
   ((some 37), none, .extract (.tmp 34) 0),
   ((some 38), none, .extract (.tmp 34) 1),
   ((some 8), none, .mv (.tmp 37)),
   ((some 9), none, .mv (.tmp 38))])
 (.seq [1, 2, 3, 4, 5, 6, 7, 8, 9, 11] (.reg [((some 40), none, .load true 2 (.tmp 1)),
   ((some 41), none, .call 11 [(.tmp 40), (.const (.int .i64 4)), (.const (.int .u8 1))]),
   ((some 39), none, .mv (.tmp 41)),
   ((some 42), none, .extract (.tmp 39) 0),
   ((some 43), none, .extract (.tmp 39) 1),
   ((some 10), none, .mv (.tmp 42)),
   ((some 11), none, .mv (.tmp 43))])
 (.seq [1, 2, 6, 8] (.seq [1, 2, 6, 8, 83] (.reg [((some 44), none, .mv (.tmp 3)),
   ((some 45), none, .bin .neq (.tmp 44) (.const (.int .i64 0))),
   ((some 46), none, .mv (.tmp 45)),
   ((some 47), (some (46, false)), .mv (.tmp 5)),
   ((some 48), (some (46, false)), .bin .neq (.tmp 47) (.const (.int .i64 0))),
   ((some 49), none, .pick (.tmp 46) (.const (.bool true)) (.tmp 48)),
   ((some 50), none, .mv (.tmp 49)),
   ((some 51), (some (50, false)), .mv (.tmp 7)),
   ((some 52), (some (50, false)), .bin .neq (.tmp 51) (.const (.int .i64 0))),
   ((some 53), none, .pick (.tmp 50) (.const (.bool true)) (.tmp 52)),
   ((some 54), none, .mv (.tmp 53)),
   ((some 55), (some (54, false)), .mv (.tmp 9)),
   ((some 56), (some (54, false)), .bin .neq (.tmp 55) (.const (.int .i64 0))),
   ((some 57), none, .pick (.tmp 54) (.const (.bool true)) (.tmp 56)),
   ((some 58), none, .mv (.tmp 57)),
   ((some 59), (some (58, false)), .mv (.tmp 11)),
   ((some 60), (some (58, false)), .bin .neq (.tmp 59) (.const (.int .i64 11))),
   ((some 61), none, .pick (.tmp 58) (.const (.bool true)) (.tmp 60)),
   ((some 62), none, .mv (.tmp 61)),
   ((some 63), (some (62, false)), .mv (.tmp 2)),
   ((some 64), (some (62, false)), .call 22 [(.tmp 63)]),
   ((some 65), (some (62, false)), .call 21 [(.tmp 64)]),
   ((some 66), (some (62, false)), .str .neq (.tmp 65) (.const (.string ⟨#[50, 46, 48, 32, 50, 46, 49, 32, 49, 46, 48, 32, 49, 46, 49, 32, 50, 46, 50, 32]⟩))),
   ((some 67), none, .pick (.tmp 62) (.const (.bool true)) (.tmp 66)),
   ((some 68), none, .mv (.tmp 67)),
   ((some 69), (some (68, false)), .mv (.tmp 4)),
   ((some 70), (some (68, false)), .call 22 [(.tmp 69)]),
   ((some 71), (some (68, false)), .call 21 [(.tmp 70)]),
   ((some 72), (some (68, false)), .str .neq (.tmp 71) (.const (.string ⟨#[49, 46, 48, 32, 49, 46, 49, 32, 50, 46, 48, 32, 50, 46, 49, 32, 50, 46, 50, 32]⟩))),
   ((some 73), none, .pick (.tmp 68) (.const (.bool true)) (.tmp 72)),
   ((some 74), none, .mv (.tmp 73)),
   ((some 75), (some (74, false)), .mv (.tmp 6)),
   ((some 76), (some (74, false)), .len (.tmp 75)),
   ((some 77), (some (74, false)), .bin .neq (.tmp 76) (.const (.int .i64 4))),
   ((some 78), none, .pick (.tmp 74) (.const (.bool true)) (.tmp 77)),
   ((some 79), none, .mv (.tmp 78)),
   ((some 80), (some (79, false)), .mv (.tmp 8)),
   ((some 81), (some (79, false)), .len (.tmp 80)),
   ((some 82), (some (79, false)), .bin .neq (.tmp 81) (.const (.int .i64 4))),
   ((some 83), none, .pick (.tmp 79) (.const (.bool true)) (.tmp 82))])
 (.cond (.tmp 83)
  (.seq [0] (.reg [((some 0), none, .mv (.const (.bool false)))])
  (.ret))
  (.skip)))
 (.seq [1, 2, 6, 8, 12, 13] (.reg [((some 12), none, .mv (.const (.slice none 0 0))),
   ((some 13), none, .mv (.const (.slice none 0 0)))])
 (.seq [1, 2, 12, 13] (.seq [1, 2, 6, 8, 12, 13, 14] (.reg [((some 14), none, .mv (.const (.int .i64 0)))])
 (.block 0
  (.loop [1, 2, 6, 8, 12, 13, 14]
   (.seq [1, 2, 6, 8, 12, 13, 14] (.seq [1, 2, 6, 8, 12, 13, 14, 85] (.reg [((some 84), none, .mv (.tmp 14)),
     ((some 85), none, .bin .lss (.tmp 84) (.const (.int .i64 4)))])
   (.cond (.tmp 85)
    (.skip)
    (.exit 0)))
   (.seq [1, 2, 6, 8, 12, 13, 14] (.block 1
    (.seq [1, 2, 6, 8, 12, 13, 14] (.dreg [] [((some 88), none, .mv (.tmp 12)),
      ((some 89), none, .mv (.tmp 6)),
      ((some 90), none, .mv (.tmp 14)),
      ((some 91), none, .indexA 5 (.tmp 89) (.tmp 90)),
      ((some 92), none, .fieldA 0 2 true (.tmp 91)),
      ((some 93), none, .load true 2 (.tmp 92)),
      ((some 94), none, .mv (.tmp 6)),
      ((some 95), none, .mv (.tmp 14)),
      ((some 96), none, .indexA 5 (.tmp 94) (.tmp 95)),
      ((some 97), none, .fieldA 2 2 true (.tmp 96)),
      ((some 98), none, .load true 2 (.tmp 97)),
      ((some 99), none, .blist 2 [(.tmp 93), (.tmp 98)])]
     [((some 100), none, .append true 35 2 16 (.tmp 88) (.tmp 99)),
      ((some 12), none, .mv (.tmp 100))])
    (.seq [1, 2, 6, 8, 12, 13, 14] (.dreg [] [((some 101), none, .mv (.tmp 13)),
      ((some 102), none, .mv (.tmp 8)),
      ((some 103), none, .mv (.tmp 14)),
      ((some 104), none, .indexA 5 (.tmp 102) (.tmp 103)),
      ((some 105), none, .fieldA 0 2 true (.tmp 104)),
      ((some 106), none, .load true 2 (.tmp 105)),
      ((some 107), none, .mv (.tmp 8)),
      ((some 108), none, .mv (.tmp 14)),
      ((some 109), none, .indexA 5 (.tmp 107) (.tmp 108)),
      ((some 110), none, .fieldA 2 2 true (.tmp 109)),
      ((some 111), none, .load true 2 (.tmp 110)),
      ((some 112), none, .blist 2 [(.tmp 106), (.tmp 111)])]
     [((some 113), none, .append true 35 2 16 (.tmp 101) (.tmp 112)),
      ((some 13), none, .mv (.tmp 113))])
    (.seq [1, 2, 6, 8, 12, 13, 14, 127] (.reg [((some 114), none, .mv (.tmp 6)),
      ((some 115), none, .mv (.tmp 14)),
      ((some 116), none, .indexA 5 (.tmp 114) (.tmp 115)),
      ((some 117), none, .fieldA 4 1 false (.tmp 116)),
      ((some 118), none, .load false 1 (.tmp 117)),
      ((some 119), none, .bin .neq (.tmp 118) (.const (.int .i64 (-1)))),
      ((some 120), none, .mv (.tmp 119)),
      ((some 121), (some (120, false)), .mv (.tmp 8)),
      ((some 122), (some (120, false)), .mv (.tmp 14)),
      ((some 123), (some (120, false)), .indexA 5 (.tmp 121) (.tmp 122)),
      ((some 124), (some (120, false)), .fieldA 4 1 false (.tmp 123)),
      ((some 125), (some (120, false)), .load false 1 (.tmp 124)),
      ((some 126), (some (120, false)), .bin .neq (.tmp 125) (.const (.int .i64 1))),
      ((some 127), none, .pick (.tmp 120) (.const (.bool true)) (.tmp 126))])
    (.cond (.tmp 127)
     (.seq [0] (.reg [((some 0), none, .mv (.const (.bool false)))])
     (.ret))
     (.skip))))))
   (.reg [((some 86), none, .mv (.tmp 14)),
     ((some 87), none, .bin .add (.tmp 86) (.const (.int .i64 1))),
     ((some 14), none, .mv (.tmp 87))]))))))
 (.seq [1, 2] (.seq [1, 2, 135] (.reg [((some 128), none, .mv (.tmp 12)),
   ((some 129), none, .call 21 [(.tmp 128)]),
   ((some 130), none, .str .neq (.tmp 129) (.const (.string ⟨#[50, 46, 49, 32, 49, 46, 48, 32, 50, 46, 49, 32, 49, 46, 49, 32, 50, 46, 48, 32, 49, 46, 48, 32, 50, 46, 48, 32, 49, 46, 49, 32]⟩))),
   ((some 131), none, .mv (.tmp 130)),
   ((some 132), (some (131, false)), .mv (.tmp 13)),
   ((some 133), (some (131, false)), .call 21 [(.tmp 132)]),
   ((some 134), (some (131, false)), .str .neq (.tmp 133) (.const (.string ⟨#[49, 46, 49, 32, 50, 46, 48, 32, 49, 46, 48, 32, 50, 46, 48, 32, 49, 46, 49, 32, 50, 46, 49, 32, 49, 46, 48, 32, 50, 46, 49, 32]⟩))),
   ((some 135), none, .pick (.tmp 131) (.const (.bool true)) (.tmp 134))])
 (.cond (.tmp 135)
  (.seq [0] (.reg [((some 0), none, .mv (.const (.bool false)))])
  (.ret))
  (.skip)))
 (.seq [1, 2, 15] (.reg [((some 136), none, .mv (.tmp 2)),
   ((some 137), none, .call 13 [(.tmp 136), (.const (.int .i64 (-13))), (.const (.int .i64 11))]),
   ((some 15), none, .mv (.tmp 137))])
 (.seq [1, 15, 16] (.reg [((some 138), none, .mv (.tmp 2)),
   ((some 139), none, .call 13 [(.tmp 138), (.const (.int .i64 11)), (.const (.int .i64 9))]),
   ((some 16), none, .mv (.tmp 139))])
 (.seq [1] (.seq [1, 147] (.reg [((some 140), none, .mv (.tmp 15)),
   ((some 141), none, .call 14 [(.tmp 140)]),
   ((some 142), none, .str .neq (.tmp 141) (.const (.string ⟨#[50, 46, 48, 43, 62, 32, 50, 46, 49, 43, 62, 32, 49, 46, 48, 62, 32, 49, 46, 49, 62, 32]⟩))),
   ((some 143), none, .mv (.tmp 142)),
   ((some 144), (some (143, false)), .mv (.tmp 16)),
   ((some 145), (some (143, false)), .call 14 [(.tmp 144)]),
   ((some 146), (some (143, false)), .str .neq (.tmp 145) (.const (.string ⟨#[49, 46, 49, 60, 32, 49, 46, 48, 60, 32]⟩))),
   ((some 147), none, .pick (.tmp 143) (.const (.bool true)) (.tmp 146))])
 (.cond (.tmp 147)
  (.seq [0] (.reg [((some 0), none, .mv (.const (.bool false)))])
  (.ret))
  (.skip)))
 (.seq [1, 3, 15] (.reg [((some 149), none, .load true 2 (.tmp 1)),
   ((some 150), none, .call 12 [(.tmp 149), (.const (.int .i64 0)), (.const (.int .u8 1)), (.const (.int .i64 9))]),
   ((some 148), none, .mv (.tmp 150)),
   ((some 151), none, .extract (.tmp 148) 0),
   ((some 152), none, .extract (.tmp 148) 1),
   ((some 15), none, .mv (.tmp 151)),
   ((some 3), none, .mv (.tmp 152))])
 (.seq [1, 3, 5, 15, 16] (.reg [((some 154), none, .load true 2 (.tmp 1)),
   ((some 155), none, .call 12 [(.tmp 154), (.const (.int .i64 0)), (.const (.int .u8 1)), (.const (.int .i64 11))]),
   ((some 153), none, .mv (.tmp 155)),
   ((some 156), none, .extract (.tmp 153) 0),
   ((some 157), none, .extract (.tmp 153) 1),
   ((some 16), none, .mv (.tmp 156)),
   ((some 5), none, .mv (.tmp 157))])
 (.seq [3, 5, 7, 15, 16, 17] (.reg [((some 159), none, .load true 2 (.tmp 1)),
   ((some 160), none, .call 12 [(.tmp 159), (.const (.int .i64 0)), (.const (.int .u8 1)), (.const (.int .i64 13))]),
   ((some 158), none, .mv (.tmp 160)),
   ((some 161), none, .extract (.tmp 158) 0),
   ((some 162), none, .extract (.tmp 158) 1),
   ((some 17), none, .mv (.tmp 161)),
   ((some 7), none, .mv (.tmp 162))])
 (.seq [0] (.reg [((some 163), none, .mv (.tmp 15)),
   ((some 164), none, .call 14 [(.tmp 163)]),
   ((some 165), none, .str .eql (.tmp 164) (.const (.string ⟨#[50, 46, 49, 43, 60, 32, 50, 46, 48, 43, 60, 32]⟩))),
   ((some 166), none, .mv (.tmp 165)),
   ((some 167), (some (166, true)), .mv (.tmp 16)),
   ((some 168), (some (166, true)), .call 14 [(.tmp 167)]),
   ((some 169), (some (166, true)), .mv (.tmp 15)),
   ((some 170), (some (166, true)), .call 14 [(.tmp 169)]),
   ((some 171), (some (166, true)), .str .eql (.tmp 168) (.tmp 170)),
   ((some 172), none, .pick (.tmp 166) (.tmp 171) (.const (.bool false))),
   ((some 173), none, .mv (.tmp 172)),
   ((some 174), (some (173, true)), .mv (.tmp 17)),
   ((some 175), (some (173, true)), .len (.tmp 174)),
   ((some 176), (some (173, true)), .bin .eql (.tmp 175) (.const (.int .i64 0))),
   ((some 177), none, .pick (.tmp 173) (.tmp 176) (.const (.bool false))),
   ((some 178), none, .mv (.tmp 177)),
   ((some 179), (some (178, true)), .mv (.tmp 3)),
   ((some 180), (some (178, true)), .bin .eql (.tmp 179) (.const (.int .i64 0))),
   ((some 181), none, .pick (.tmp 178) (.tmp 180) (.const (.bool false))),
   ((some 182), none, .mv (.tmp 181)),
   ((some 183), (some (182, true)), .mv (.tmp 5)),
   ((some 184), (some (182, true)), .bin .eql (.tmp 183) (.const (.int .i64 0))),
   ((some 185), none, .pick (.tmp 182) (.tmp 184) (.const (.bool false))),
   ((some 186), none, .mv (.tmp 185)),
   ((some 187), (some (186, true)), .mv (.tmp 7)),
   ((some 188), (some (186, true)), .bin .eql (.tmp 187) (.const (.int .i64 0))),
   ((some 189), none, .pick (.tmp 186) (.tmp 188) (.const (.bool false))),
   ((some 0), none, .mv (.tmp 189))])
 (.ret))))))))))))))))))
theorem k9 : FnOK Try.prog 9 c9 [.tmp 0] 0 := ⟨by kernel_rfl, Try.f9, _, [100, 113], Try.func9, rfl, by kernel_rfl, by kernel_rfl, by decide⟩

-- gansey/orders.Step
def c11 : Cmd :=
 .seq [1, 2, 3] (.reg [((some 3), none, .box 26 2 (.tmp 0)),
   ((some 6), none, .mv (.const (.slice none 0 0))),
   ((some 7), none, .mv (.const (.int .i64 0)))])
 (.seq [1, 2, 3] (.seq [1, 2, 3, 8] (.reg [((some 19), none, .load true 2 (.tmp 3)),
   ((some 20), none, .mv (.tmp 1)),
   ((some 21), none, .mv (.tmp 2)),
   ((some 22), none, .call 26 [(.tmp 19), (.tmp 20), (.tmp 21)]),
   ((some 8), none, .mv (.tmp 22))])
 (.seq [1, 2, 3, 8, 24] (.reg [((some 23), none, .mv (.tmp 8)),
   ((some 24), none, .bin .neq (.tmp 23) (.const (.int .i64 0)))])
 (.cond (.tmp 24)
  (.seq [6, 7] (.reg [((some 25), none, .mv (.tmp 8)),
    ((some 6), none, .mv (.const (.slice none 0 0))),
    ((some 7), none, .mv (.tmp 25))])
  (.ret))
  (.skip))))
 (.seq [1, 2, 3, 9] (.reg [((some 9), none, .mv (.const (.slice none 0 0)))])
 (.seq [1, 2, 3, 9, 10] (.reg [((some 26), none, .mv (.tmp 2)),
   ((some 27), none, .bin .sub (.const (.int .u8 1)) (.tmp 26)),
   ((some 10), none, .mv (.tmp 27))])
 (.seq [9] (.seq [1, 2, 3, 9, 10, 28] (.reg [((some 28), none, .mv (.const (.int .i64 0)))])
 (.block 0
  (.loop [1, 2, 3, 9, 10, 28]
   (.seq [1, 2, 3, 9, 10, 28, 29] (.reg [((some 29), none, .bin .lss (.tmp 28) (.const (.int .i64 40)))])
   (.seq [1, 2, 3, 9, 10, 28] (.cond (.tmp 29)
    (.skip)
    (.exit 0))
   (.seq [1, 2, 3, 9, 10, 28] (.block 1
    (.seq [1, 2, 3, 9, 10, 11, 28] (.reg [((some 30), none, .mv (.tmp 28)),
      ((some 11), none, .mv (.tmp 30))])
    (.seq [1, 2, 3, 9, 10, 11, 12, 28] (.reg [((some 31), none, .mv (.tmp 11)),
      ((some 32), none, .bin .add (.tmp 31) (.const (.int .i64 1))),
      ((some 33), none, .build [(.val (.int .u8 0)), (.val (.int .i64 0))] [(0, 1, (.const (.int .u8 1))), (1, 1, (.tmp 32))]),
      ((some 12), none, .alloc 38 2 (.agg [(.val (.int .u8 0)), (.val (.int .i64 0))])),
      (none, none, .store 2 (.tmp 12) (.tmp 33))])
    (.seq [1, 2, 3, 9, 10, 12, 28] (.seq [1, 2, 3, 9, 10, 11, 12, 28, 35] (.reg [((some 34), none, .mv (.tmp 2)),
      ((some 35), none, .bin .eql (.tmp 34) (.const (.int .u8 1)))])
    (.cond (.tmp 35)
     (.reg [((some 36), none, .mv (.tmp 11)),
       ((some 37), none, .bin .sub (.const (.int .i64 40)) (.tmp 36)),
       ((some 38), none, .fieldA 1 1 false (.tmp 12)),
       (none, none, .store 1 (.tmp 38) (.tmp 37))])
     (.skip)))
    (.seq [1, 2, 3, 9, 10, 12, 13, 14, 28] (.reg [((some 40), none, .load true 2 (.tmp 12)),
      ((some 41), none, .mv (.tmp 1)),
      ((some 42), none, .call 24 [(.tmp 40), (.tmp 41)]),
      ((some 43), none, .mv (.tmp 2)),
      ((some 44), none, .call 28 [(.tmp 43)]),
      ((some 45), none, .bin .mul (.const (.int .i64 2)) (.tmp 44)),
      ((some 46), none, .bin .add (.tmp 42) (.tmp 45)),
      ((some 47), none, .mv (.tmp 1)),
      ((some 48), none, .call 27 [(.tmp 46), (.tmp 47)]),
      ((some 39), none, .mv (.tmp 48)),
      ((some 49), none, .extract (.tmp 39) 0),
      ((some 50), none, .extract (.tmp 39) 1),
      ((some 13), none, .alloc 38 2 (.agg [(.val (.int .u8 0)), (.val (.int .i64 0))])),
      (none, none, .store 2 (.tmp 13) (.tmp 49)),
      ((some 14), none, .mv (.tmp 50))])
    (.seq [1, 2, 3, 9, 10, 12, 13, 28] (.seq [1, 2, 3, 9, 10, 12, 13, 28, 52] (.reg [((some 51), none, .mv (.tmp 14)),
      ((some 52), none, .bin .neq (.tmp 51) (.const (.int .i64 0)))])
    (.cond (.tmp 52)
     (.exit 1)
     (.skip)))
    (.seq [1, 2, 3, 9, 10, 13, 28, 57, 58, 59] (.reg [((some 53), none, .load true 2 (.tmp 3)),
      ((some 54), none, .load true 2 (.tmp 12)),
      ((some 55), none, .call 25 [(.tmp 53), (.tmp 54)]),
      ((some 56), none, .mv (.tmp 10)),
      ((some 57), none, .call 29 [(.tmp 55), (.tmp 56)]),
      ((some 58), none, .len (.tmp 57)),
      ((some 59), none, .mv (.const (.int .i64 0)))])
    (.block 2
     (.loop [1, 2, 3, 9, 10, 13, 28, 57, 58, 59]
      (.seq [1, 2, 3, 9, 10, 13, 28, 57, 58, 59, 60] (.reg [((some 60), none, .bin .lss (.tmp 59) (.tmp 58))])
      (.seq [1, 2, 3, 9, 10, 13, 28, 57, 58, 59] (.cond (.tmp 60)
       (.skip)
       (.exit 2))
      (.seq [1, 2, 3, 9, 10, 13, 28, 57, 58, 59] (.block 3
       (.seq [1, 2, 3, 9, 10, 13, 16, 28, 57, 58, 59] (.reg [((some 61), none, .indexA 2 (.tmp 57) (.tmp 59)),
         ((some 62), none, .load true 2 (.tmp 61)),
         ((some 16), none, .alloc 35 2 (.agg [(.val (.int .u8 0)), (.val (.int .i64 0))])),
         (none, none, .store 2 (.tmp 16) (.tmp 62))])
       (.seq [1, 2, 3, 9, 10, 13, 16, 28, 57, 58, 59, 67, 68, 69] (.reg [((some 63), none, .load true 2 (.tmp 3)),
         ((some 64), none, .load true 2 (.tmp 13)),
         ((some 65), none, .call 25 [(.tmp 63), (.tmp 64)]),
         ((some 66), none, .mv (.tmp 2)),
         ((some 67), none, .call 29 [(.tmp 65), (.tmp 66)]),
         ((some 68), none, .len (.tmp 67)),
         ((some 69), none, .mv (.const (.int .i64 0)))])
       (.block 4
        (.loop [1, 2, 3, 9, 10, 13, 16, 28, 57, 58, 59, 67, 68, 69]
         (.seq [1, 2, 3, 9, 10, 13, 16, 28, 57, 58, 59, 67, 68, 69, 70] (.reg [((some 70), none, .bin .lss (.tmp 69) (.tmp 68))])
         (.seq [1, 2, 3, 9, 10, 13, 16, 28, 57, 58, 59, 67, 68, 69] (.cond (.tmp 70)
          (.skip)
          (.exit 4))
         (.seq [1, 2, 3, 9, 10, 13, 16, 28, 57, 58, 59, 67, 68, 69] (.block 5
          (.seq [1, 2, 3, 9, 10, 13, 16, 18, 28, 57, 58, 59, 67, 68, 69] (.reg [((some 71), none, .indexA 2 (.tmp 67) (.tmp 69)),
            ((some 72), none, .load true 2 (.tmp 71)),
            ((some 18), none, .alloc 35 2 (.agg [(.val (.int .u8 0)), (.val (.int .i64 0))])),
            (none, none, .store 2 (.tmp 18) (.tmp 72))])
          (.seq [1, 2, 3, 9, 10, 13, 16, 18, 28, 57, 58, 59, 67, 68, 69, 74] (.reg [((some 73), none, .mv (.tmp 2)),
            ((some 74), none, .bin .eql (.tmp 73) (.const (.int .u8 1)))])
          (.cond (.tmp 74)
           (.reg [((some 75), none, .mv (.tmp 9)),
             ((some 76), none, .load true 2 (.tmp 16)),
             ((some 77), none, .load true 2 (.tmp 18)),
             ((some 78), none, .build [(.val (.int .u8 0)), (.val (.int .i64 0)), (.val (.int .u8 0)), (.val (.int .i64 0)), (.val (.int .i64 0))] [(0, 2, (.tmp 76)), (2, 2, (.tmp 77)), (4, 1, (.const (.int .i64 (-1))))]),
             ((some 79), none, .blist 5 [(.tmp 78)]),
             ((some 80), none, .append true 47 5 40 (.tmp 75) (.tmp 79)),
             ((some 9), none, .mv (.tmp 80))])
           (.reg [((some 81), none, .mv (.tmp 9)),
             ((some 82), none, .load true 2 (.tmp 18)),
             ((some 83), none, .load true 2 (.tmp 16)),
             ((some 84), none, .build [(.val (.int .u8 0)), (.val (.int .i64 0)), (.val (.int .u8 0)), (.val (.int .i64 0)), (.val (.int .i64 0))] [(0, 2, (.tmp 82)), (2, 2, (.tmp 83)), (4, 1, (.const (.int .i64 1)))]),
             ((some 85), none, .blist 5 [(.tmp 84)]),
             ((some 86), none, .append true 47 5 40 (.tmp 81) (.tmp 85)),
             ((some 9), none, .mv (.tmp 86))])))))
         (.reg [((some 87), none, .bin .add (.tmp 69) (.const (.int .i64 1))),
           ((some 69), none, .mv (.tmp 87))])))))))))
      (.reg [((some 88), none, .bin .add (.tmp 59) (.const (.int .i64 1))),
        ((some 59), none, .mv (.tmp 88))])))))))))))))
   (.reg [((some 89), none, .bin .add (.tmp 28) (.const (.int .i64 1))),
     ((some 28), none, .mv (.tmp 89))])))))))
 (.seq [6, 7] (.reg [((some 90), none, .mv (.tmp 9)),
   ((some 91), none, .call 30 [(.tmp 90)]),
   ((some 6), none, .mv (.tmp 91)),
   ((some 7), none, .mv (.const (.int .i64 0)))])
 (.ret))))))
theorem k11 : FnOK Try.prog 11 c11 [.tmp 6, .tmp 7] 3 := ⟨by kernel_rfl, Try.f11, _, [80, 86], Try.func11, rfl, by kernel_rfl, by kernel_rfl, by decide⟩

-- gansey/orders.Meets
def c12 : Cmd :=
 .seq [1, 2, 3, 4] (.reg [((some 4), none, .box 26 2 (.tmp 0)),
   ((some 8), none, .mv (.const (.slice none 0 0))),
   ((some 9), none, .mv (.const (.int .i64 0)))])
 (.seq [1, 2, 3, 4] (.seq [1, 2, 3, 4, 10] (.reg [((some 19), none, .load true 2 (.tmp 4)),
   ((some 20), none, .mv (.tmp 1)),
   ((some 21), none, .mv (.tmp 2)),
   ((some 22), none, .call 26 [(.tmp 19), (.tmp 20), (.tmp 21)]),
   ((some 10), none, .mv (.tmp 22))])
 (.seq [1, 2, 3, 4, 10, 24] (.reg [((some 23), none, .mv (.tmp 10)),
   ((some 24), none, .bin .neq (.tmp 23) (.const (.int .i64 0)))])
 (.cond (.tmp 24)
  (.seq [8, 9] (.reg [((some 25), none, .mv (.tmp 10)),
    ((some 8), none, .mv (.const (.slice none 0 0))),
    ((some 9), none, .mv (.tmp 25))])
  (.ret))
  (.skip))))
 (.seq [1, 2, 3, 4] (.seq [1, 2, 3, 4, 28] (.reg [((some 26), none, .mv (.tmp 3)),
   ((some 27), none, .bin .and (.tmp 26) (.const (.int .i64 1))),
   ((some 28), none, .bin .eql (.tmp 27) (.const (.int .i64 0)))])
 (.cond (.tmp 28)
  (.seq [8, 9] (.reg [((some 8), none, .mv (.const (.slice none 0 0))),
    ((some 9), none, .mv (.const (.int .i64 1)))])
  (.ret))
  (.skip)))
 (.seq [1, 2, 3, 4, 11] (.reg [((some 11), none, .mv (.const (.slice none 0 0)))])
 (.seq [1, 2, 3, 4, 11, 12] (.reg [((some 29), none, .mv (.tmp 2)),
   ((some 30), none, .bin .sub (.const (.int .u8 1)) (.tmp 29)),
   ((some 12), none, .mv (.tmp 30))])
 (.seq [11] (.seq [1, 2, 3, 4, 11, 12, 31] (.reg [((some 31), none, .mv (.const (.int .i64 0)))])
 (.block 0
  (.loop [1, 2, 3, 4, 11, 12, 31]
   (.seq [1, 2, 3, 4, 11, 12, 31, 32] (.reg [((some 32), none, .bin .lss (.tmp 31) (.const (.int .i64 40)))])
   (.seq [1, 2, 3, 4, 11, 12, 31] (.cond (.tmp 32)
    (.skip)
    (.exit 0))
   (.seq [1, 2, 3, 4, 11, 12, 31] (.block 1
    (.seq [1, 2, 3, 4, 11, 12, 13, 31] (.reg [((some 33), none, .mv (.tmp 31)),
      ((some 13), none, .mv (.tmp 33))])
    (.seq [1, 2, 3, 4, 11, 12, 14, 31] (.reg [((some 34), none, .mv (.tmp 13)),
      ((some 35), none, .bin .add (.tmp 34) (.const (.int .i64 1))),
      ((some 36), none, .build [(.val (.int .u8 0)), (.val (.int .i64 0))] [(0, 1, (.const (.int .u8 1))), (1, 1, (.tmp 35))]),
      ((some 14), none, .alloc 38 2 (.agg [(.val (.int .u8 0)), (.val (.int .i64 0))])),
      (none, none, .store 2 (.tmp 14) (.tmp 36))])
    (.seq [1, 2, 3, 4, 11, 12, 14, 15, 31] (.reg [((some 37), none, .load true 2 (.tmp 14)),
      ((some 38), none, .mv (.tmp 1)),
      ((some 39), none, .call 24 [(.tmp 37), (.tmp 38)]),
      ((some 15), none, .mv (.tmp 39))])
    (.seq [1, 2, 3, 4, 11, 12, 14, 15, 16, 31] (.reg [((some 40), none, .mv (.tmp 15)),
      ((some 41), none, .mv (.tmp 2)),
      ((some 42), none, .call 28 [(.tmp 41)]),
      ((some 43), none, .bin .mul (.const (.int .i64 4)) (.tmp 42)),
      ((some 44), none, .bin .add (.tmp 40) (.tmp 43)),
      ((some 16), none, .mv (.tmp 44))])
    (.seq [1, 2, 3, 4, 11, 12, 14, 31] (.seq [1, 2, 3, 4, 11, 12, 14, 31, 56] (.reg [((some 45), none, .mv (.tmp 3)),
      ((some 46), none, .mv (.tmp 15)),
      ((some 47), none, .mv (.tmp 16)),
      ((some 48), none, .maxmin false (.tmp 46) (.tmp 47)),
      ((some 49), none, .bin .lss (.tmp 45) (.tmp 48)),
      ((some 50), none, .mv (.tmp 49)),
      ((some 51), (some (50, false)), .mv (.tmp 3)),
      ((some 52), (some (50, false)), .mv (.tmp 15)),
      ((some 53), (some (50, false)), .mv (.tmp 16)),
      ((some 54), (some (50, false)), .maxmin true (.tmp 52) (.tmp 53)),
      ((some 55), (some (50, false)), .bin .gtr (.tmp 51) (.tmp 54)),
      ((some 56), none, .pick (.tmp 50) (.const (.bool true)) (.tmp 55))])
    (.cond (.tmp 56)
     (.exit 1)
     (.skip)))
    (.seq [1, 2, 3, 4, 11, 12, 31, 61, 62, 63] (.reg [((some 57), none, .load true 2 (.tmp 4)),
      ((some 58), none, .load true 2 (.tmp 14)),
      ((some 59), none, .call 25 [(.tmp 57), (.tmp 58)]),
      ((some 60), none, .mv (.tmp 12)),
      ((some 61), none, .call 29 [(.tmp 59), (.tmp 60)]),
      ((some 62), none, .len (.tmp 61)),
      ((some 63), none, .mv (.const (.int .i64 0)))])
    (.block 2
     (.loop [1, 2, 3, 4, 11, 12, 31, 61, 62, 63]
      (.seq [1, 2, 3, 4, 11, 12, 31, 61, 62, 63, 64] (.reg [((some 64), none, .bin .lss (.tmp 63) (.tmp 62))])
      (.seq [1, 2, 3, 4, 11, 12, 31, 61, 62, 63] (.cond (.tmp 64)
       (.skip)
       (.exit 2))
      (.seq [1, 2, 3, 4, 11, 12, 31, 61, 62, 63] (.block 3
       (.seq [1, 2, 3, 4, 11, 12, 18, 31, 61, 62, 63] (.reg [((some 65), none, .indexA 2 (.tmp 61) (.tmp 63)),
         ((some 66), none, .load true 2 (.tmp 65)),
         ((some 18), none, .alloc 35 2 (.agg [(.val (.int .u8 0)), (.val (.int .i64 0))])),
         (none, none, .store 2 (.tmp 18) (.tmp 66))])
       (.reg [((some 67), none, .mv (.tmp 11)),
         ((some 68), none, .load true 2 (.tmp 18)),
         ((some 69), none, .mv (.tmp 12)),
         ((some 70), none, .build [(.val (.int .u8 0)), (.val (.int .i64 0)), (.val (.bool false)), (.val (.int .u8 0))] [(0, 2, (.tmp 68)), (2, 1, (.const (.bool true))), (3, 1, (.tmp 69))]),
         ((some 71), none, .blist 4 [(.tmp 70)]),
         ((some 72), none, .append true 54 4 24 (.tmp 67) (.tmp 71)),
         ((some 11), none, .mv (.tmp 72))])))
      (.reg [((some 73), none, .bin .add (.tmp 63) (.const (.int .i64 1))),
        ((some 63), none, .mv (.tmp 73))])))))))))))))
   (.reg [((some 74), none, .bin .add (.tmp 31) (.const (.int .i64 1))),
     ((some 31), none, .mv (.tmp 74))])))))))
 (.seq [8, 9] (.reg [((some 75), none, .mv (.tmp 11)),
   ((some 76), none, .call 31 [(.tmp 75)]),
   ((some 8), none, .mv (.tmp 76)),
   ((some 9), none, .mv (.const (.int .i64 0)))])
 (.ret)))))))
theorem k12 : FnOK Try.prog 12 c12 [.tmp 8, .tmp 9] 4 := ⟨by kernel_rfl, Try.f12, _, [72], Try.func12, rfl, by kernel_rfl, by kernel_rfl, by decide⟩

-- gansey/orders.Between
def c13 : Cmd :=
 .seq [0, 1, 2] (.reg [((some 6), none, .mv (.const (.slice none 0 0)))])
 (.seq [0, 1, 2, 7] (.reg [((some 7), none, .mv (.const (.slice none 0 0)))])
 (.seq [0, 1, 2, 7, 8] (.reg [((some 8), none, .mv (.const (.int .u8 0)))])
 (.seq [0, 1, 2, 7, 8] (.seq [0, 1, 2, 7, 8, 13] (.reg [((some 11), none, .mv (.tmp 2)),
   ((some 12), none, .mv (.tmp 1)),
   ((some 13), none, .bin .gtr (.tmp 11) (.tmp 12))])
 (.cond (.tmp 13)
  (.reg [((some 8), none, .mv (.const (.int .u8 1)))])
  (.skip)))
 (.seq [7, 8] (.seq [1, 2, 7, 8, 14, 15, 16] (.reg [((some 14), none, .mv (.tmp 0)),
   ((some 15), none, .len (.tmp 14)),
   ((some 16), none, .mv (.const (.int .i64 0)))])
 (.block 0
  (.loop [1, 2, 7, 8, 14, 15, 16]
   (.seq [1, 2, 7, 8, 14, 15, 16, 17] (.reg [((some 17), none, .bin .lss (.tmp 16) (.tmp 15))])
   (.seq [1, 2, 7, 8, 14, 15, 16] (.cond (.tmp 17)
    (.skip)
    (.exit 0))
   (.seq [1, 2, 7, 8, 14, 15, 16] (.block 1
    (.seq [1, 2, 7, 8, 10, 14, 15, 16] (.reg [((some 18), none, .indexA 5 (.tmp 14) (.tmp 16)),
      ((some 19), none, .load true 5 (.tmp 18)),
      ((some 10), none, .alloc 40 5 (.agg [(.val (.int .u8 0)), (.val (.int .i64 0)), (.val (.int .u8 0)), (.val (.int .i64 0)), (.val (.int .i64 0))])),
      (none, none, .store 5 (.tmp 10) (.tmp 19))])
    (.seq [1, 2, 7, 8, 10, 14, 15, 16, 33] (.reg [((some 20), none, .fieldA 4 1 false (.tmp 10)),
      ((some 21), none, .load false 1 (.tmp 20)),
      ((some 22), none, .mv (.tmp 1)),
      ((some 23), none, .mv (.tmp 2)),
      ((some 24), none, .maxmin false (.tmp 22) (.tmp 23)),
      ((some 25), none, .bin .gtr (.tmp 21) (.tmp 24)),
      ((some 26), none, .mv (.tmp 25)),
      ((some 27), (some (26, true)), .fieldA 4 1 false (.tmp 10)),
      ((some 28), (some (26, true)), .load false 1 (.tmp 27)),
      ((some 29), (some (26, true)), .mv (.tmp 1)),
      ((some 30), (some (26, true)), .mv (.tmp 2)),
      ((some 31), (some (26, true)), .maxmin true (.tmp 29) (.tmp 30)),
      ((some 32), (some (26, true)), .bin .lss (.tmp 28) (.tmp 31)),
      ((some 33), none, .pick (.tmp 26) (.tmp 32) (.const (.bool false)))])
    (.cond (.tmp 33)
     (.reg [((some 34), none, .mv (.tmp 7)),
       ((some 35), none, .fieldA 0 2 true (.tmp 10)),
       ((some 36), none, .load true 2 (.tmp 35)),
       ((some 37), none, .fieldA 2 2 true (.tmp 10)),
       ((some 38), none, .fieldA 0 1 false (.tmp 37)),
       ((some 39), none, .load false 1 (.tmp 38)),
       ((some 40), none, .bin .eql (.tmp 39) (.const (.int .u8 1))),
       ((some 41), none, .mv (.tmp 8)),
       ((some 42), none, .build [(.val (.int .u8 0)), (.val (.int .i64 0)), (.val (.bool false)), (.val (.int .u8 0))] [(0, 2, (.tmp 36)), (2, 1, (.tmp 40)), (3, 1, (.tmp 41))]),
       ((some 43), none, .blist 4 [(.tmp 42)]),
       ((some 44), none, .append true 54 4 24 (.tmp 34) (.tmp 43)),
       ((some 7), none, .mv (.tmp 44))])
     (.skip)))))
   (.reg [((some 45), none, .bin .add (.tmp 16) (.const (.int .i64 1))),
     ((some 16), none, .mv (.tmp 45))])))))))
 (.seq [7] (.seq [7, 47] (.reg [((some 46), none, .mv (.tmp 8)),
   ((some 47), none, .bin .eql (.tmp 46) (.const (.int .u8 0)))])
 (.cond (.tmp 47)
  (.reg [((some 48), none, .mv (.tmp 7)),
    ((some 49), none, .call 32 [(.tmp 48)])])
  (.skip)))
 (.seq [6] (.reg [((some 50), none, .mv (.tmp 7)),
   ((some 51), none, .call 31 [(.tmp 50)]),
   ((some 6), none, .mv (.tmp 51))])
 (.ret)))))))
theorem k13 : FnOK Try.prog 13 c13 [.tmp 6] 3 := ⟨by kernel_rfl, Try.f13, _, [44], Try.func13, rfl, by kernel_rfl, by kernel_rfl, by decide⟩

-- gansey/ganseylaw04.passed
def c14 : Cmd :=
 .seq [0] (.reg [((some 2), none, .mv (.const (.string ⟨#[]⟩)))])
 (.seq [0, 3] (.reg [((some 3), none, .mv (.const (.string ⟨#[]⟩)))])
 (.seq [3] (.seq [0, 3, 4] (.reg [((some 4), none, .mv (.const (.int .i64 0)))])
 (.block 0
  (.loop [0, 3, 4]
   (.seq [0, 3, 4] (.seq [0, 3, 4, 8] (.reg [((some 5), none, .mv (.tmp 4)),
     ((some 6), none, .mv (.tmp 0)),
     ((some 7), none, .len (.tmp 6)),
     ((some 8), none, .bin .lss (.tmp 5) (.tmp 7))])
   (.cond (.tmp 8)
    (.skip)
    (.exit 0)))
   (.seq [0, 3, 4] (.block 1
    (.seq [0, 3, 4] (.dreg [] [((some 11), none, .mv (.tmp 3)),
      ((some 12), none, .mv (.tmp 0)),
      ((some 13), none, .mv (.tmp 4)),
      ((some 14), none, .indexA 4 (.tmp 12) (.tmp 13)),
      ((some 15), none, .fieldA 0 2 true (.tmp 14)),
      ((some 16), none, .fieldA 0 1 false (.tmp 15)),
      ((some 17), none, .load false 1 (.tmp 16)),
      ((some 18), none, .bin .add (.const (.int .u8 48)) (.tmp 17)),
      ((some 19), none, .mv (.tmp 0)),
      ((some 20), none, .mv (.tmp 4)),
      ((some 21), none, .indexA 4 (.tmp 19) (.tmp 20)),
      ((some 22), none, .fieldA 0 2 true (.tmp 21)),
      ((some 23), none, .fieldA 1 1 false (.tmp 22)),
      ((some 24), none, .load false 1 (.tmp 23)),
      ((some 25), none, .bin .rem (.tmp 24) (.const (.int .i64 10))),
      ((some 26), none, .convi .u8 (.tmp 25)),
      ((some 27), none, .bin .add (.const (.int .u8 48)) (.tmp 26)),
      ((some 28), none, .blist 1 [(.tmp 18), (.const (.int .u8 46)), (.tmp 27)]),
      ((some 29), none, .bstr (.tmp 28)),
      ((some 30), none, .str .add (.tmp 11) (.tmp 29))]
     [((some 3), none, .mv (.tmp 30))])
    (.seq [0, 3, 4] (.seq [0, 3, 4, 35] (.reg [((some 31), none, .mv (.tmp 0)),
      ((some 32), none, .mv (.tmp 4)),
      ((some 33), none, .indexA 4 (.tmp 31) (.tmp 32)),
      ((some 34), none, .fieldA 2 1 false (.tmp 33)),
      ((some 35), none, .load false 1 (.tmp 34))])
    (.cond (.tmp 35)
     (.reg [((some 36), none, .mv (.tmp 3)),
       ((some 37), none, .str .add (.tmp 36) (.const (.string ⟨#[43]⟩))),
       ((some 3), none, .mv (.tmp 37))])
     (.skip)))
    (.reg [((some 38), none, .mv (.tmp 3)),
      ((some 39), none, .blist 1 [(.const (.string ⟨#[60, 32]⟩)), (.const (.string ⟨#[62, 32]⟩))]),
      ((some 40), none, .mv (.tmp 0)),
      ((some 41), none, .mv (.tmp 4)),
      ((some 42), none, .indexA 4 (.tmp 40) (.tmp 41)),
      ((some 43), none, .fieldA 3 1 false (.tmp 42)),
      ((some 44), none, .load false 1 (.tmp 43)),
      ((some 45), none, .indexA 1 (.tmp 39) (.tmp 44)),
      ((some 46), none, .load false 1 (.tmp 45)),
      ((some 47), none, .str .add (.tmp 38) (.tmp 46)),
      ((some 3), none, .mv (.tmp 47))]))))
   (.reg [((some 9), none, .mv (.tmp 4)),
     ((some 10), none, .bin .add (.tmp 9) (.const (.int .i64 1))),
     ((some 4), none, .mv (.tmp 10))]))))))
 (.seq [2] (.reg [((some 48), none, .mv (.tmp 3)),
   ((some 2), none, .mv (.tmp 48))])
 (.ret))))
theorem k14 : FnOK Try.prog 14 c14 [.tmp 2] 1 := ⟨by kernel_rfl, Try.f14, _, [], Try.func14, rfl, by kernel_rfl, by kernel_rfl, by decide⟩

-- gansey/yarns.Reduce
def c15 : Cmd :=
 .seq [0] (.reg [((some 2), none, .mv (.const (.slice none 0 0)))])
 (.seq [0, 3] (.reg [((some 7), none, .mv (.tmp 0)),
   ((some 8), none, .len (.tmp 7)),
   ((some 9), none, .mkslice 54 4 24 (.agg [(.val (.int .u8 0)), (.val (.int .i64 0)), (.val (.bool false)), (.val (.int .u8 0))]) (.const (.int .i64 0)) (.tmp 8)),
   ((some 3), none, .mv (.tmp 9))])
 (.seq [3] (.seq [3, 10, 11, 12] (.reg [((some 10), none, .mv (.tmp 0)),
   ((some 11), none, .len (.tmp 10)),
   ((some 12), none, .mv (.const (.int .i64 0)))])
 (.block 0
  (.loop [3, 10, 11, 12]
   (.seq [3, 10, 11, 12, 13] (.reg [((some 13), none, .bin .lss (.tmp 12) (.tmp 11))])
   (.seq [3, 10, 11, 12] (.cond (.tmp 13)
    (.skip)
    (.exit 0))
   (.seq [3, 10, 11, 12] (.block 1
    (.seq [3, 5, 10, 11, 12] (.reg [((some 14), none, .indexA 4 (.tmp 10) (.tmp 12)),
      ((some 15), none, .load true 4 (.tmp 14)),
      ((some 5), none, .alloc 54 4 (.agg [(.val (.int .u8 0)), (.val (.int .i64 0)), (.val (.bool false)), (.val (.int .u8 0))])),
      (none, none, .store 4 (.tmp 5) (.tmp 15))])
    (.seq [3, 5, 6, 10, 11, 12] (.reg [((some 16), none, .mv (.tmp 3)),
      ((some 17), none, .len (.tmp 16)),
      ((some 18), none, .bin .sub (.tmp 17) (.const (.int .i64 1))),
      ((some 6), none, .mv (.tmp 18))])
    (.seq [3, 5, 6, 10, 11, 12, 34] (.dreg [] [((some 19), none, .mv (.tmp 6)),
      ((some 20), none, .bin .geq (.tmp 19) (.const (.int .i64 0))),
      ((some 21), none, .mv (.tmp 20)),
      ((some 22), (some (21, true)), .mv (.tmp 3)),
      ((some 23), (some (21, true)), .mv (.tmp 6)),
      ((some 24), (some (21, true)), .indexA 4 (.tmp 22) (.tmp 23)),
      ((some 25), (some (21, true)), .load true 4 (.tmp 24)),
      ((some 26), (some (21, true)), .load true 4 (.tmp 5)),
      ((some 27), (some (21, true)), .call 33 [(.tmp 26)]),
      ((some 28), (some (21, true)), .eqagg false [true, true, false, true] (.tmp 25) (.tmp 27)),
      ((some 29), none, .pick (.tmp 21) (.tmp 28) (.const (.bool false))),
      ((some 30), none, .mv (.tmp 29)),
      ((some 31), (some (30, true)), .fieldA 3 1 false (.tmp 5)),
      ((some 32), (some (30, true)), .load false 1 (.tmp 31)),
      ((some 33), (some (30, true)), .bin .leq (.tmp 32) (.const (.int .u8 1))),
      ((some 34), none, .pick (.tmp 30) (.tmp 33) (.const (.bool false)))]
     [])
    (.cond (.tmp 34)
     (.reg [((some 35), none, .mv (.tmp 3)),
       ((some 36), none, .mv (.tmp 6)),
       ((some 37), none, .mv (.tmp 3)),
       ((some 38), none, .cap (.tmp 37)),
       ((some 39), none, .slice 4 (.tmp 35) none (some (.tmp 36)) (some (.tmp 38))),
       ((some 3), none, .mv (.tmp 39))])
     (.reg [((some 40), none, .mv (.tmp 3)),
       ((some 41), none, .load true 4 (.tmp 5)),
       ((some 42), none, .blist 4 [(.tmp 41)]),
       ((some 43), none, .append true 54 4 24 (.tmp 40) (.tmp 42)),
       ((some 3), none, .mv (.tmp 43))]))))))
   (.reg [((some 44), none, .bin .add (.tmp 12) (.const (.int .i64 1))),
     ((some 12), none, .mv (.tmp 44))])))))))
 (.seq [2] (.reg [((some 45), none, .mv (.tmp 3)),
   ((some 46), none, .call 34 [(.tmp 45)]),
   ((some 47), none, .call 31 [(.tmp 46)]),
   ((some 2), none, .mv (.tmp 47))])
 (.ret))))
theorem k15 : FnOK Try.prog 15 c15 [.tmp 2] 1 := ⟨by kernel_rfl, Try.f15, _, [43], Try.func15, rfl, by kernel_rfl, by kernel_rfl, by decide⟩

-- (gansey/ganseylaw03.B).of
def c16 : Cmd :=
 .seq [0, 2] (.reg [((some 2), none, .alloc 62 80 (.agg (List.replicate 80 (.val (.slice none 0 0)))))])
 (.seq [0, 2, 3] (.reg [((some 3), none, .alloc 62 80 (.agg (List.replicate 80 (.val (.slice none 0 0)))))])
 (.seq [0, 2, 3, 4] (.reg [((some 4), none, .mv (.const (.int .i64 0)))])
 (.seq [2, 3] (.seq [0, 2, 3, 4, 5] (.reg [((some 5), none, .mv (.const (.int .i64 0)))])
 (.block 0
  (.loop [0, 2, 3, 4, 5]
   (.seq [0, 2, 3, 4, 5] (.seq [0, 2, 3, 4, 5, 15] (.reg [((some 8), none, .mv (.tmp 5)),
     ((some 9), none, .mv (.tmp 0)),
     ((some 10), none, .len (.tmp 9)),
     ((some 11), none, .bin .lss (.tmp 8) (.tmp 10)),
     ((some 12), none, .mv (.tmp 11)),
     ((some 13), (some (12, true)), .mv (.tmp 5)),
     ((some 14), (some (12, true)), .bin .lss (.tmp 13) (.const (.int .i64 40))),
     ((some 15), none, .pick (.tmp 12) (.tmp 14) (.const (.bool false)))])
   (.cond (.tmp 15)
    (.skip)
    (.exit 0)))
   (.seq [0, 2, 3, 4, 5] (.block 1
    (.seq [0, 2, 3, 4, 5, 6] (.reg [((some 18), none, .mv (.tmp 0)),
      ((some 19), none, .mv (.tmp 5)),
      ((some 20), none, .indexA 2 (.tmp 18) (.tmp 19)),
      ((some 21), none, .fieldA 0 1 false (.tmp 20)),
      ((some 22), none, .load false 1 (.tmp 21)),
      ((some 23), none, .bin .rem (.tmp 22) (.const (.int .u8 80))),
      ((some 6), none, .mv (.tmp 23))])
    (.seq [0, 2, 3, 4, 5, 6, 7] (.reg [((some 7), none, .mv (.const (.int .i64 0)))])
    (.block 2
     (.loop [0, 2, 3, 4, 5, 6, 7]
      (.seq [0, 2, 3, 4, 5, 6, 7] (.seq [0, 2, 3, 4, 5, 6, 7, 39] (.reg [((some 24), none, .mv (.tmp 7)),
        ((some 25), none, .mv (.tmp 0)),
        ((some 26), none, .mv (.tmp 5)),
        ((some 27), none, .indexA 2 (.tmp 25) (.tmp 26)),
        ((some 28), none, .fieldA 1 1 false (.tmp 27)),
        ((some 29), none, .load false 1 (.tmp 28)),
        ((some 30), none, .bin .rem (.tmp 29) (.const (.int .u8 5))),
        ((some 31), none, .convi .i64 (.tmp 30)),
        ((some 32), none, .bin .lss (.tmp 24) (.tmp 31)),
        ((some 33), none, .mv (.tmp 32)),
        ((some 34), (some (33, true)), .mv (.tmp 6)),
        ((some 35), (some (33, true)), .indexP 80 1 false (.tmp 3) (.tmp 34)),
        ((some 36), (some (33, true)), .load false 1 (.tmp 35)),
        ((some 37), (some (33, true)), .len (.tmp 36)),
        ((some 38), (some (33, true)), .bin .lss (.tmp 37) (.const (.int .i64 4))),
        ((some 39), none, .pick (.tmp 33) (.tmp 38) (.const (.bool false)))])
      (.cond (.tmp 39)
       (.skip)
       (.exit 2)))
      (.seq [0, 2, 3, 4, 5, 6, 7] (.block 3
       (.seq [0, 2, 3, 4, 5, 6, 7] (.reg [((some 42), none, .mv (.tmp 6)),
         ((some 43), none, .mv (.tmp 6)),
         ((some 44), none, .indexP 80 1 false (.tmp 3) (.tmp 43)),
         ((some 45), none, .load false 1 (.tmp 44)),
         ((some 46), none, .mv (.tmp 4)),
         ((some 47), none, .bin .rem (.tmp 46) (.const (.int .i64 3))),
         ((some 48), none, .convi .u8 (.tmp 47)),
         ((some 49), none, .bin .add (.const (.int .u8 1)) (.tmp 48)),
         ((some 50), none, .mv (.tmp 4)),
         ((some 51), none, .bin .quo (.tmp 50) (.const (.int .i64 3))),
         ((some 52), none, .build [(.val (.int .u8 0)), (.val (.int .i64 0))] [(0, 1, (.tmp 49)), (1, 1, (.tmp 51))]),
         ((some 53), none, .blist 2 [(.tmp 52)]),
         ((some 54), none, .append true 35 2 16 (.tmp 45) (.tmp 53)),
         ((some 55), none, .indexP 80 1 false (.tmp 3) (.tmp 42)),
         (none, none, .store 1 (.tmp 55) (.tmp 54))])
       (.reg [((some 56), none, .mv (.tmp 4)),
         ((some 57), none, .bin .add (.tmp 56) (.const (.int .i64 1))),
         ((some 4), none, .mv (.tmp 57))])))
      (.reg [((some 40), none, .mv (.tmp 7)),
        ((some 41), none, .bin .add (.tmp 40) (.const (.int .i64 1))),
        ((some 7), none, .mv (.tmp 41))]))))))))
   (.reg [((some 16), none, .mv (.tmp 5)),
     ((some 17), none, .bin .add (.tmp 16) (.const (.int .i64 1))),
     ((some 5), none, .mv (.tmp 17))]))))))
 (.seq [2] (.reg [((some 58), none, .load true 80 (.tmp 3)),
   (none, none, .store 80 (.tmp 2) (.tmp 58))])
 (.ret)))))
theorem k16 : FnOK Try.prog 16 c16 [.cell true 80 2] 1 := ⟨by kernel_rfl, Try.f16, _, [54], Try.func16, rfl, by kernel_rfl, by kernel_rfl, by decide⟩

-- (gansey/ganseylaw03.table).beds
def c17 : Cmd :=
 .seq [1, 2] (.reg [((some 1), none, .box 62 80 (.tmp 0)),
   ((some 2), none, .alloc 26 2 (.agg [(.val (.slice none 0 0)), (.val (.slice none 0 0))]))])
 (.seq [1, 2, 3] (.reg [((some 3), none, .alloc 26 2 (.agg [(.val (.slice none 0 0)), (.val (.slice none 0 0))]))])
 (.seq [1, 2, 3] (.seq [1, 2, 3, 4] (.reg [((some 4), none, .mv (.const (.int .i64 39)))])
 (.block 0
  (.loop [1, 2, 3, 4]
   (.seq [1, 2, 3, 4] (.seq [1, 2, 3, 4, 8] (.reg [((some 7), none, .mv (.tmp 4)),
     ((some 8), none, .bin .geq (.tmp 7) (.const (.int .i64 0)))])
   (.cond (.tmp 8)
    (.skip)
    (.exit 0)))
   (.seq [1, 2, 3, 4] (.block 1
    (.seq [1, 2, 3, 4] (.seq [1, 2, 3, 4, 21] (.reg [((some 11), none, .fieldA 0 1 false (.tmp 3)),
      ((some 12), none, .load false 1 (.tmp 11)),
      ((some 13), none, .len (.tmp 12)),
      ((some 14), none, .bin .eql (.tmp 13) (.const (.int .i64 0))),
      ((some 15), none, .mv (.tmp 14)),
      ((some 16), (some (15, true)), .mv (.tmp 4)),
      ((some 17), (some (15, true)), .indexP 80 1 false (.tmp 1) (.tmp 16)),
      ((some 18), (some (15, true)), .load false 1 (.tmp 17)),
      ((some 19), (some (15, true)), .len (.tmp 18)),
      ((some 20), (some (15, true)), .bin .gtr (.tmp 19) (.const (.int .i64 0))),
      ((some 21), none, .pick (.tmp 15) (.tmp 20) (.const (.bool false)))])
    (.cond (.tmp 21)
     (.reg [((some 22), none, .mv (.tmp 4)),
       ((some 23), none, .bin .add (.tmp 22) (.const (.int .i64 1))),
       ((some 24), none, .mkslice 60 1 24 (.val (.slice none 0 0)) (.tmp 23) (.tmp 23)),
       ((some 25), none, .fieldA 0 1 false (.tmp 3)),
       (none, none, .store 1 (.tmp 25) (.tmp 24))])
     (.skip)))
    (.seq [1, 2, 3, 4, 37] (.reg [((some 26), none, .fieldA 1 1 false (.tmp 3)),
      ((some 27), none, .load false 1 (.tmp 26)),
      ((some 28), none, .len (.tmp 27)),
      ((some 29), none, .bin .eql (.tmp 28) (.const (.int .i64 0))),
      ((some 30), none, .mv (.tmp 29)),
      ((some 31), (some (30, true)), .mv (.tmp 4)),
      ((some 32), (some (30, true)), .bin .add (.const (.int .i64 40)) (.tmp 31)),
      ((some 33), (some (30, true)), .indexP 80 1 false (.tmp 1) (.tmp 32)),
      ((some 34), (some (30, true)), .load false 1 (.tmp 33)),
      ((some 35), (some (30, true)), .len (.tmp 34)),
      ((some 36), (some (30, true)), .bin .gtr (.tmp 35) (.const (.int .i64 0))),
      ((some 37), none, .pick (.tmp 30) (.tmp 36) (.const (.bool false)))])
    (.cond (.tmp 37)
     (.reg [((some 38), none, .mv (.tmp 4)),
       ((some 39), none, .bin .add (.tmp 38) (.const (.int .i64 1))),
       ((some 40), none, .mkslice 60 1 24 (.val (.slice none 0 0)) (.tmp 39) (.tmp 39)),
       ((some 41), none, .fieldA 1 1 false (.tmp 3)),
       (none, none, .store 1 (.tmp 41) (.tmp 40))])
     (.skip)))))
   (.reg [((some 9), none, .mv (.tmp 4)),
     ((some 10), none, .bin .sub (.tmp 9) (.const (.int .i64 1))),
     ((some 4), none, .mv (.tmp 10))]))))))
 (.seq [1, 2, 3] (.seq [1, 2, 3, 5] (.reg [((some 5), none, .mv (.const (.int .i64 0)))])
 (.block 2
  (.loop [1, 2, 3, 5]
   (.seq [1, 2, 3, 5] (.seq [1, 2, 3, 5, 46] (.reg [((some 42), none, .mv (.tmp 5)),
     ((some 43), none, .fieldA 0 1 false (.tmp 3)),
     ((some 44), none, .load false 1 (.tmp 43)),
     ((some 45), none, .len (.tmp 44)),
     ((some 46), none, .bin .lss (.tmp 42) (.tmp 45))])
   (.cond (.tmp 46)
    (.skip)
    (.exit 2)))
   (.seq [1, 2, 3, 5] (.block 3
    (.dreg [] [((some 49), none, .fieldA 0 1 false (.tmp 3)),
      ((some 50), none, .load false 1 (.tmp 49)),
      ((some 51), none, .mv (.tmp 5)),
      ((some 52), none, .blist 2 []),
      ((some 53), none, .mv (.tmp 5)),
      ((some 54), none, .indexP 80 1 false (.tmp 1) (.tmp 53)),
      ((some 55), none, .load false 1 (.tmp 54)),
      ((some 56), none, .append false 35 2 16 (.tmp 52) (.tmp 55))]
     [((some 57), none, .indexA 1 (.tmp 50) (.tmp 51)),
      (none, none, .store 1 (.tmp 57) (.tmp 56))]))
   (.reg [((some 47), none, .mv (.tmp 5)),
     ((some 48), none, .bin .add (.tmp 47) (.const (.int .i64 1))),
     ((some 5), none, .mv (.tmp 48))]))))))
 (.seq [2, 3] (.seq [1, 2, 3, 6] (.reg [((some 6), none, .mv (.const (.int .i64 0)))])
 (.block 4
  (.loop [1, 2, 3, 6]
   (.seq [1, 2, 3, 6] (.seq [1, 2, 3, 6, 62] (.reg [((some 58), none, .mv (.tmp 6)),
     ((some 59), none, .fieldA 1 1 false (.tmp 3)),
     ((some 60), none, .load false 1 (.tmp 59)),
     ((some 61), none, .len (.tmp 60)),
     ((some 62), none, .bin .lss (.tmp 58) (.tmp 61))])
   (.cond (.tmp 62)
    (.skip)
    (.exit 4)))
   (.seq [1, 2, 3, 6] (.block 5
    (.dreg [] [((some 65), none, .fieldA 1 1 false (.tmp 3)),
      ((some 66), none, .load false 1 (.tmp 65)),
      ((some 67), none, .mv (.tmp 6)),
      ((some 68), none, .blist 2 []),
      ((some 69), none, .mv (.tmp 6)),
      ((some 70), none, .bin .add (.const (.int .i64 40)) (.tmp 69)),
      ((some 71), none, .indexP 80 1 false (.tmp 1) (.tmp 70)),
      ((some 72), none, .load false 1 (.tmp 71)),
      ((some 73), none, .append false 35 2 16 (.tmp 68) (.tmp 72))]
     [((some 74), none, .indexA 1 (.tmp 66) (.tmp 67)),
      (none, none, .store 1 (.tmp 74) (.tmp 73))]))
   (.reg [((some 63), none, .mv (.tmp 6)),
     ((some 64), none, .bin .add (.tmp 63) (.const (.int .i64 1))),
     ((some 6), none, .mv (.tmp 64))]))))))
 (.seq [2] (.reg [((some 75), none, .load true 2 (.tmp 3)),
   (none, none, .store 2 (.tmp 2) (.tmp 75))])
 (.ret))))))
theorem k17 : FnOK Try.prog 17 c17 [.cell true 2 2] 1 := ⟨by kernel_rfl, Try.f17, _, [], Try.func17, rfl, by kernel_rfl, by kernel_rfl, by decide⟩

-- gansey/orders.usual
def c18 : Cmd :=
 .seq [1, 2] (.reg [((some 2), none, .box 26 2 (.tmp 0)),
   ((some 4), none, .mv (.const (.int .i64 0)))])
 (.seq [1] (.seq [1, 5] (.reg [((some 6), none, .load true 2 (.tmp 2)),
   ((some 7), none, .call 35 [(.tmp 6)]),
   ((some 5), none, .mv (.tmp 7))])
 (.seq [1, 5, 9] (.reg [((some 8), none, .mv (.tmp 5)),
   ((some 9), none, .bin .neq (.tmp 8) (.const (.int .i64 0)))])
 (.cond (.tmp 9)
  (.seq [4] (.reg [((some 10), none, .mv (.tmp 5)),
    ((some 4), none, .mv (.tmp 10))])
  (.ret))
  (.skip))))
 (.seq [] (.seq [13] (.reg [((some 11), none, .mv (.tmp 1)),
   ((some 12), none, .call 36 [(.tmp 11)]),
   ((some 13), none, .un .not (.tmp 12))])
 (.cond (.tmp 13)
  (.seq [4] (.reg [((some 4), none, .mv (.const (.int .i64 11)))])
  (.ret))
  (.skip)))
 (.seq [4] (.reg [((some 4), none, .mv (.const (.int .i64 0)))])
 (.ret))))
theorem k18 : FnOK Try.prog 18 c18 [.tmp 4] 2 := ⟨by kernel_rfl, Try.f18, _, [], Try.func18, rfl, by kernel_rfl, by kernel_rfl, by decide⟩

-- gansey/orders.list
def c19 : Cmd :=
 .seq [1, 2] (.reg [((some 2), none, .box 26 2 (.tmp 0)),
   ((some 4), none, .mv (.const (.slice none 0 0)))])
 (.seq [1, 2, 5] (.reg [((some 5), none, .mv (.const (.slice none 0 0)))])
 (.seq [5] (.seq [1, 5, 17, 18, 19] (.reg [((some 13), none, .fieldA 0 1 false (.tmp 2)),
   ((some 14), none, .load false 1 (.tmp 13)),
   ((some 15), none, .fieldA 1 1 false (.tmp 2)),
   ((some 16), none, .load false 1 (.tmp 15)),
   ((some 17), none, .blist 1 [(.tmp 14), (.tmp 16)]),
   ((some 18), none, .len (.tmp 17)),
   ((some 19), none, .mv (.const (.int .i64 0)))])
 (.block 0
  (.loop [1, 5, 17, 18, 19]
   (.seq [1, 5, 17, 18, 19, 20] (.reg [((some 20), none, .bin .lss (.tmp 19) (.tmp 18))])
   (.seq [1, 5, 17, 18, 19] (.cond (.tmp 20)
    (.skip)
    (.exit 0))
   (.seq [1, 5, 17, 18, 19] (.block 1
    (.seq [1, 5, 6, 7, 17, 18, 19] (.reg [((some 21), none, .mv (.tmp 19)),
      ((some 22), none, .indexA 1 (.tmp 17) (.tmp 19)),
      ((some 23), none, .load false 1 (.tmp 22)),
      ((some 6), none, .mv (.tmp 21)),
      ((some 7), none, .mv (.tmp 23))])
    (.seq [1, 5, 6, 17, 18, 19, 24, 25, 26] (.reg [((some 24), none, .mv (.tmp 7)),
      ((some 25), none, .len (.tmp 24)),
      ((some 26), none, .mv (.const (.int .i64 0)))])
    (.block 2
     (.loop [1, 5, 6, 17, 18, 19, 24, 25, 26]
      (.seq [1, 5, 6, 17, 18, 19, 24, 25, 26, 27] (.reg [((some 27), none, .bin .lss (.tmp 26) (.tmp 25))])
      (.seq [1, 5, 6, 17, 18, 19, 24, 25, 26] (.cond (.tmp 27)
       (.skip)
       (.exit 2))
      (.seq [1, 5, 6, 17, 18, 19, 24, 25, 26] (.block 3
       (.seq [1, 5, 6, 8, 9, 17, 18, 19, 24, 25, 26] (.reg [((some 28), none, .mv (.tmp 26)),
         ((some 29), none, .indexA 1 (.tmp 24) (.tmp 26)),
         ((some 30), none, .load false 1 (.tmp 29)),
         ((some 8), none, .mv (.tmp 28)),
         ((some 9), none, .mv (.tmp 30))])
       (.seq [1, 5, 6, 9, 10, 17, 18, 19, 24, 25, 26] (.reg [((some 31), none, .mv (.tmp 6)),
         ((some 32), none, .convi .u8 (.tmp 31)),
         ((some 33), none, .mv (.tmp 8)),
         ((some 34), none, .bin .add (.tmp 33) (.const (.int .i64 1))),
         ((some 35), none, .build [(.val (.int .u8 0)), (.val (.int .i64 0))] [(0, 1, (.tmp 32)), (1, 1, (.tmp 34))]),
         ((some 10), none, .alloc 38 2 (.agg [(.val (.int .u8 0)), (.val (.int .i64 0))])),
         (none, none, .store 2 (.tmp 10) (.tmp 35))])
       (.seq [1, 5, 6, 10, 17, 18, 19, 24, 25, 26, 36, 37, 38] (.reg [((some 36), none, .mv (.tmp 9)),
         ((some 37), none, .len (.tmp 36)),
         ((some 38), none, .mv (.const (.int .i64 0)))])
       (.block 4
        (.loop [1, 5, 6, 10, 17, 18, 19, 24, 25, 26, 36, 37, 38]
         (.seq [1, 5, 6, 10, 17, 18, 19, 24, 25, 26, 36, 37, 38, 39] (.reg [((some 39), none, .bin .lss (.tmp 38) (.tmp 37))])
         (.seq [1, 5, 6, 10, 17, 18, 19, 24, 25, 26, 36, 37, 38] (.cond (.tmp 39)
          (.skip)
          (.exit 4))
         (.seq [1, 5, 6, 10, 17, 18, 19, 24, 25, 26, 36, 37, 38] (.block 5
          (.seq [1, 5, 6, 10, 12, 17, 18, 19, 24, 25, 26, 36, 37, 38] (.reg [((some 40), none, .indexA 2 (.tmp 36) (.tmp 38)),
            ((some 41), none, .load true 2 (.tmp 40)),
            ((some 12), none, .alloc 35 2 (.agg [(.val (.int .u8 0)), (.val (.int .i64 0))])),
            (none, none, .store 2 (.tmp 12) (.tmp 41))])
          (.dreg [] [((some 42), none, .mv (.tmp 5)),
            ((some 43), none, .load true 2 (.tmp 12)),
            ((some 44), none, .load true 2 (.tmp 10)),
            ((some 45), none, .load true 2 (.tmp 10)),
            ((some 46), none, .mv (.tmp 1)),
            ((some 47), none, .call 24 [(.tmp 45), (.tmp 46)]),
            ((some 48), none, .build [(.val (.int .u8 0)), (.val (.int .i64 0)), (.val (.int .u8 0)), (.val (.int .i64 0)), (.val (.int .i64 0))] [(0, 2, (.tmp 43)), (2, 2, (.tmp 44)), (4, 1, (.tmp 47))]),
            ((some 49), none, .blist 5 [(.tmp 48)])]
           [((some 50), none, .append true 40 5 40 (.tmp 42) (.tmp 49)),
            ((some 5), none, .mv (.tmp 50))])))
         (.reg [((some 51), none, .bin .add (.tmp 38) (.const (.int .i64 1))),
           ((some 38), none, .mv (.tmp 51))]))))))))))
      (.reg [((some 52), none, .bin .add (.tmp 26) (.const (.int .i64 1))),
        ((some 26), none, .mv (.tmp 52))])))))))))
   (.reg [((some 53), none, .bin .add (.tmp 19) (.const (.int .i64 1))),
     ((some 19), none, .mv (.tmp 53))])))))))
 (.seq [5] (.reg [((some 54), none, .mv (.tmp 5)),
   ((some 55), none, .call 37 [(.tmp 54), (.func 38)])])
 (.seq [4] (.reg [((some 56), none, .mv (.tmp 5)),
   ((some 57), none, .call 40 [(.tmp 56)]),
   ((some 4), none, .mv (.tmp 57))])
 (.ret)))))
theorem k19 : FnOK Try.prog 19 c19 [.tmp 4] 2 := ⟨by kernel_rfl, Try.f19, _, [50], Try.func19, rfl, by kernel_rfl, by kernel_rfl, by decide⟩

-- gansey/ganseylaw04.example
def c20 : Cmd :=
 .seq [0] (.reg [((some 0), none, .alloc 26 2 (.agg [(.val (.slice none 0 0)), (.val (.slice none 0 0))]))])
 (.seq [0] (.reg [((some 1), none, .build [(.val (.int .u8 0)), (.val (.int .i64 0))] [(0, 1, (.const (.int .u8 1)))]),
   ((some 2), none, .build [(.val (.int .u8 0)), (.val (.int .i64 0))] [(0, 1, (.const (.int .u8 1))), (1, 1, (.const (.int .i64 1)))]),
   ((some 3), none, .blist 2 [(.tmp 1), (.tmp 2)]),
   ((some 4), none, .blist 1 [(.const (.slice none 0 0)), (.tmp 3)]),
   ((some 5), none, .build [(.val (.int .u8 0)), (.val (.int .i64 0))] [(0, 1, (.const (.int .u8 2)))]),
   ((some 6), none, .build [(.val (.int .u8 0)), (.val (.int .i64 0))] [(0, 1, (.const (.int .u8 2))), (1, 1, (.const (.int .i64 1)))]),
   ((some 7), none, .blist 2 [(.tmp 5), (.tmp 6)]),
   ((some 8), none, .build [(.val (.int .u8 0)), (.val (.int .i64 0))] [(0, 1, (.const (.int .u8 2))), (1, 1, (.const (.int .i64 2)))]),
   ((some 9), none, .blist 2 [(.tmp 8)]),
   ((some 10), none, .blist 1 [(.const (.slice none 0 0)), (.tmp 7), (.const (.slice none 0 0)), (.tmp 9)]),
   ((some 11), none, .build [(.val (.slice none 0 0)), (.val (.slice none 0 0))] [(0, 1, (.tmp 4)), (1, 1, (.tmp 10))]),
   (none, none, .store 2 (.tmp 0) (.tmp 11))])
 (.ret))
theorem k20 : FnOK Try.prog 20 c20 [.cell true 2 0] 0 := ⟨by kernel_rfl, Try.f20, _, [], Try.func20, rfl, by kernel_rfl, by kernel_rfl, by decide⟩

-- gansey/ganseylaw04.text
def c21 : Cmd :=
 .seq [0] (.reg [((some 2), none, .mv (.const (.string ⟨#[]⟩)))])
 (.seq [0, 3] (.reg [((some 3), none, .mv (.const (.string ⟨#[]⟩)))])
 (.seq [3] (.seq [0, 3, 4] (.reg [((some 4), none, .mv (.const (.int .i64 0)))])
 (.block 0
  (.loop [0, 3, 4]
   (.seq [0, 3, 4] (.seq [0, 3, 4, 8] (.reg [((some 5), none, .mv (.tmp 4)),
     ((some 6), none, .mv (.tmp 0)),
     ((some 7), none, .len (.tmp 6)),
     ((some 8), none, .bin .lss (.tmp 5) (.tmp 7))])
   (.cond (.tmp 8)
    (.skip)
    (.exit 0)))
   (.seq [0, 3, 4] (.block 1
    (.dreg [] [((some 11), none, .mv (.tmp 3)),
      ((some 12), none, .mv (.tmp 0)),
      ((some 13), none, .mv (.tmp 4)),
      ((some 14), none, .indexA 2 (.tmp 12) (.tmp 13)),
      ((some 15), none, .fieldA 0 1 false (.tmp 14)),
      ((some 16), none, .load false 1 (.tmp 15)),
      ((some 17), none, .bin .add (.const (.int .u8 48)) (.tmp 16)),
      ((some 18), none, .mv (.tmp 0)),
      ((some 19), none, .mv (.tmp 4)),
      ((some 20), none, .indexA 2 (.tmp 18) (.tmp 19)),
      ((some 21), none, .fieldA 1 1 false (.tmp 20)),
      ((some 22), none, .load false 1 (.tmp 21)),
      ((some 23), none, .bin .rem (.tmp 22) (.const (.int .i64 10))),
      ((some 24), none, .convi .u8 (.tmp 23)),
      ((some 25), none, .bin .add (.const (.int .u8 48)) (.tmp 24)),
      ((some 26), none, .blist 1 [(.tmp 17), (.const (.int .u8 46)), (.tmp 25), (.const (.int .u8 32))]),
      ((some 27), none, .bstr (.tmp 26)),
      ((some 28), none, .str .add (.tmp 11) (.tmp 27))]
     [((some 3), none, .mv (.tmp 28))]))
   (.reg [((some 9), none, .mv (.tmp 4)),
     ((some 10), none, .bin .add (.tmp 9) (.const (.int .i64 1))),
     ((some 4), none, .mv (.tmp 10))]))))))
 (.seq [2] (.reg [((some 29), none, .mv (.tmp 3)),
   ((some 2), none, .mv (.tmp 29))])
 (.ret))))
theorem k21 : FnOK Try.prog 21 c21 [.tmp 2] 1 := ⟨by kernel_rfl, Try.f21, _, [], Try.func21, rfl, by kernel_rfl, by kernel_rfl, by decide⟩

-- gansey/ganseylaw04.ids
def c22 : Cmd :=
 .seq [0] (.reg [((some 2), none, .mv (.const (.slice none 0 0)))])
 (.seq [0, 3] (.reg [((some 3), none, .mv (.const (.slice none 0 0)))])
 (.seq [3] (.seq [0, 3, 4] (.reg [((some 4), none, .mv (.const (.int .i64 0)))])
 (.block 0
  (.loop [0, 3, 4]
   (.seq [0, 3, 4] (.seq [0, 3, 4, 8] (.reg [((some 5), none, .mv (.tmp 4)),
     ((some 6), none, .mv (.tmp 0)),
     ((some 7), none, .len (.tmp 6)),
     ((some 8), none, .bin .lss (.tmp 5) (.tmp 7))])
   (.cond (.tmp 8)
    (.skip)
    (.exit 0)))
   (.seq [0, 3, 4] (.block 1
    (.reg [((some 11), none, .mv (.tmp 3)),
      ((some 12), none, .mv (.tmp 0)),
      ((some 13), none, .mv (.tmp 4)),
      ((some 14), none, .indexA 5 (.tmp 12) (.tmp 13)),
      ((some 15), none, .fieldA 0 2 true (.tmp 14)),
      ((some 16), none, .load true 2 (.tmp 15)),
      ((some 17), none, .blist 2 [(.tmp 16)]),
      ((some 18), none, .append true 35 2 16 (.tmp 11) (.tmp 17)),
      ((some 3), none, .mv (.tmp 18))]))
   (.reg [((some 9), none, .mv (.tmp 4)),
     ((some 10), none, .bin .add (.tmp 9) (.const (.int .i64 1))),
     ((some 4), none, .mv (.tmp 10))]))))))
 (.seq [2] (.reg [((some 19), none, .mv (.tmp 3)),
   ((some 2), none, .mv (.tmp 19))])
 (.ret))))
theorem k22 : FnOK Try.prog 22 c22 [.tmp 2] 1 := ⟨by kernel_rfl, Try.f22, _, [18], Try.func22, rfl, by kernel_rfl, by kernel_rfl, by decide⟩

-- gansey/needles.Spot
def c24 : Cmd :=
 .seq [1, 2] (.reg [((some 2), none, .box 38 2 (.tmp 0)),
   ((some 4), none, .mv (.const (.int .i64 0)))])
 (.seq [1, 2] (.seq [1, 2, 12] (.reg [((some 5), none, .load true 2 (.tmp 2)),
   ((some 6), none, .call 41 [(.tmp 5)]),
   ((some 7), none, .bin .neq (.tmp 6) (.const (.int .i64 0))),
   ((some 8), none, .mv (.tmp 7)),
   ((some 9), (some (8, false)), .mv (.tmp 1)),
   ((some 10), (some (8, false)), .call 42 [(.tmp 9)]),
   ((some 11), (some (8, false)), .un .not (.tmp 10)),
   ((some 12), none, .pick (.tmp 8) (.const (.bool true)) (.tmp 11))])
 (.cond (.tmp 12)
  (.seq [4] (.reg [((some 4), none, .mv (.const (.int .i64 0)))])
  (.ret))
  (.skip)))
 (.seq [4] (.reg [((some 13), none, .load true 2 (.tmp 2)),
   ((some 14), none, .mv (.tmp 1)),
   ((some 15), none, .call 43 [(.tmp 13), (.tmp 14)]),
   ((some 4), none, .mv (.tmp 15))])
 (.ret)))
theorem k24 : FnOK Try.prog 24 c24 [.tmp 4] 2 := ⟨by kernel_rfl, Try.f24, _, [], Try.func24, rfl, by kernel_rfl, by kernel_rfl, by decide⟩

-- gansey/stacks.At
def c25 : Cmd :=
 .seq [2, 3] (.reg [((some 2), none, .box 26 2 (.tmp 0)),
   ((some 3), none, .box 38 2 (.tmp 1)),
   ((some 4), none, .mv (.const (.slice none 0 0)))])
 (.seq [2, 3] (.seq [2, 3, 8] (.reg [((some 6), none, .load true 2 (.tmp 3)),
   ((some 7), none, .call 41 [(.tmp 6)]),
   ((some 8), none, .bin .neq (.tmp 7) (.const (.int .i64 0)))])
 (.cond (.tmp 8)
  (.seq [4] (.reg [((some 4), none, .mv (.const (.slice none 0 0)))])
  (.ret))
  (.skip)))
 (.seq [2, 3, 5] (.reg [((some 9), none, .fieldA 0 1 false (.tmp 2)),
   ((some 10), none, .load false 1 (.tmp 9)),
   ((some 5), none, .mv (.tmp 10))])
 (.seq [3, 5] (.seq [2, 3, 5, 13] (.reg [((some 11), none, .fieldA 0 1 false (.tmp 3)),
   ((some 12), none, .load false 1 (.tmp 11)),
   ((some 13), none, .bin .eql (.tmp 12) (.const (.int .u8 1)))])
 (.cond (.tmp 13)
  (.reg [((some 14), none, .fieldA 1 1 false (.tmp 2)),
    ((some 15), none, .load false 1 (.tmp 14)),
    ((some 5), none, .mv (.tmp 15))])
  (.skip)))
 (.seq [4] (.reg [((some 16), none, .mv (.tmp 5)),
   ((some 17), none, .fieldA 1 1 false (.tmp 3)),
   ((some 18), none, .load false 1 (.tmp 17)),
   ((some 19), none, .bin .sub (.tmp 18) (.const (.int .i64 1))),
   ((some 20), none, .call 46 [(.tmp 16), (.tmp 19)]),
   ((some 21), none, .call 45 [(.tmp 20)]),
   ((some 22), none, .call 44 [(.tmp 21)]),
   ((some 4), none, .mv (.tmp 22))])
 (.ret)))))
theorem k25 : FnOK Try.prog 25 c25 [.tmp 4] 2 := ⟨by kernel_rfl, Try.f25, _, [], Try.func25, rfl, by kernel_rfl, by kernel_rfl, by decide⟩

-- gansey/orders.movable
def c26 : Cmd :=
 .seq [1, 2, 3] (.reg [((some 3), none, .box 26 2 (.tmp 0)),
   ((some 6), none, .mv (.const (.int .i64 0)))])
 (.seq [1, 2] (.seq [1, 2, 7] (.reg [((some 8), none, .load true 2 (.tmp 3)),
   ((some 9), none, .mv (.tmp 1)),
   ((some 10), none, .call 18 [(.tmp 8), (.tmp 9)]),
   ((some 7), none, .mv (.tmp 10))])
 (.seq [1, 2, 7, 12] (.reg [((some 11), none, .mv (.tmp 7)),
   ((some 12), none, .bin .neq (.tmp 11) (.const (.int .i64 0)))])
 (.cond (.tmp 12)
  (.seq [6] (.reg [((some 13), none, .mv (.tmp 7)),
    ((some 6), none, .mv (.tmp 13))])
  (.ret))
  (.skip))))
 (.seq [] (.block 0
  (.seq [1, 2, 14] (.reg [((some 15), none, .mv (.tmp 2)),
    ((some 16), none, .bin .gtr (.tmp 15) (.const (.int .u8 1))),
    ((some 14), none, .mv (.tmp 16))])
  (.cond (.tmp 14)
   (.seq [6] (.reg [((some 6), none, .mv (.const (.int .i64 1)))])
   (.ret))
   (.seq [17] (.reg [((some 18), none, .mv (.tmp 1)),
     ((some 19), none, .mv (.tmp 2)),
     ((some 20), none, .call 28 [(.tmp 19)]),
     ((some 21), none, .bin .add (.tmp 18) (.tmp 20)),
     ((some 22), none, .call 36 [(.tmp 21)]),
     ((some 23), none, .un .not (.tmp 22)),
     ((some 17), none, .mv (.tmp 23))])
   (.cond (.tmp 17)
    (.seq [6] (.reg [((some 6), none, .mv (.const (.int .i64 11)))])
    (.ret))
    (.skip))))))
 (.seq [6] (.reg [((some 6), none, .mv (.const (.int .i64 0)))])
 (.ret))))
theorem k26 : FnOK Try.prog 26 c26 [.tmp 6] 3 := ⟨by kernel_rfl, Try.f26, _, [], Try.func26, rfl, by kernel_rfl, by kernel_rfl, by decide⟩

-- gansey/needles.At
def c27 : Cmd :=
 .seq [0, 1, 4] (.reg [((some 4), none, .alloc 38 2 (.agg [(.val (.int .u8 0)), (.val (.int .i64 0))])),
   ((some 5), none, .mv (.const (.int .i64 0)))])
 (.seq [0, 1, 4] (.seq [0, 1, 4, 12] (.reg [((some 10), none, .mv (.tmp 1)),
   ((some 11), none, .call 42 [(.tmp 10)]),
   ((some 12), none, .un .not (.tmp 11))])
 (.cond (.tmp 12)
  (.seq [4, 5] (.reg [((some 13), none, .build [(.val (.int .u8 0)), (.val (.int .i64 0))] []),
    (none, none, .store 2 (.tmp 4) (.tmp 13)),
    ((some 5), none, .mv (.const (.int .i64 11)))])
  (.ret))
  (.skip)))
 (.seq [0, 1, 4, 6] (.reg [((some 6), none, .alloc 38 2 (.agg [(.val (.int .u8 0)), (.val (.int .i64 0))]))])
 (.seq [0, 1, 4, 6] (.skip)
 (.seq [4, 6] (.seq [0, 1, 4, 6, 14, 15, 16] (.reg [((some 14), none, .blist 1 [(.const (.int .u8 0)), (.const (.int .u8 1))]),
   ((some 15), none, .len (.tmp 14)),
   ((some 16), none, .mv (.const (.int .i64 0)))])
 (.block 0
  (.loop [0, 1, 4, 6, 14, 15, 16]
   (.seq [0, 1, 4, 6, 14, 15, 16, 17] (.reg [((some 17), none, .bin .lss (.tmp 16) (.tmp 15))])
   (.seq [0, 1, 4, 6, 14, 15, 16] (.cond (.tmp 17)
    (.skip)
    (.exit 0))
   (.seq [0, 1, 4, 6, 14, 15, 16] (.block 1
    (.seq [0, 1, 4, 6, 8, 14, 15, 16] (.reg [((some 18), none, .indexA 1 (.tmp 14) (.tmp 16)),
      ((some 19), none, .load false 1 (.tmp 18)),
      ((some 8), none, .mv (.tmp 19))])
    (.seq [0, 1, 4, 6, 14, 15, 16] (.seq [0, 1, 4, 6, 8, 14, 15, 16, 20] (.reg [((some 20), none, .mv (.const (.int .i64 0)))])
    (.block 2
     (.loop [0, 1, 4, 6, 8, 14, 15, 16, 20]
      (.seq [0, 1, 4, 6, 8, 14, 15, 16, 20, 21] (.reg [((some 21), none, .bin .lss (.tmp 20) (.const (.int .i64 40)))])
      (.seq [0, 1, 4, 6, 8, 14, 15, 16, 20] (.cond (.tmp 21)
       (.skip)
       (.exit 2))
      (.seq [0, 1, 4, 6, 8, 14, 15, 16, 20] (.block 3
       (.seq [0, 1, 4, 6, 8, 9, 14, 15, 16, 20] (.reg [((some 22), none, .mv (.tmp 20)),
         ((some 9), none, .mv (.tmp 22))])
       (.seq [0, 1, 4, 6, 8, 14, 15, 16, 20] (.reg [((some 23), none, .mv (.tmp 8)),
         ((some 24), none, .mv (.tmp 9)),
         ((some 25), none, .bin .add (.tmp 24) (.const (.int .i64 1))),
         ((some 26), none, .build [(.val (.int .u8 0)), (.val (.int .i64 0))] [(0, 1, (.tmp 23)), (1, 1, (.tmp 25))]),
         (none, none, .store 2 (.tmp 6) (.tmp 26))])
       (.seq [0, 1, 4, 6, 8, 14, 15, 16, 20, 31] (.reg [((some 27), none, .load true 2 (.tmp 6)),
         ((some 28), none, .mv (.tmp 1)),
         ((some 29), none, .call 43 [(.tmp 27), (.tmp 28)]),
         ((some 30), none, .mv (.tmp 0)),
         ((some 31), none, .bin .eql (.tmp 29) (.tmp 30))])
       (.cond (.tmp 31)
        (.exit 0)
        (.skip))))))
      (.reg [((some 32), none, .bin .add (.tmp 20) (.const (.int .i64 1))),
        ((some 20), none, .mv (.tmp 32))])))))))
    (.reg [((some 33), none, .build [(.val (.int .u8 0)), (.val (.int .i64 0))] []),
      (none, none, .store 2 (.tmp 6) (.tmp 33))]))))
   (.reg [((some 34), none, .bin .add (.tmp 16) (.const (.int .i64 1))),
     ((some 16), none, .mv (.tmp 34))])))))))
 (.seq [4, 6] (.seq [4, 6, 37] (.reg [((some 35), none, .fieldA 1 1 false (.tmp 6)),
   ((some 36), none, .load false 1 (.tmp 35)),
   ((some 37), none, .bin .eql (.tmp 36) (.const (.int .i64 0)))])
 (.cond (.tmp 37)
  (.seq [4, 5] (.reg [((some 38), none, .build [(.val (.int .u8 0)), (.val (.int .i64 0))] []),
    (none, none, .store 2 (.tmp 4) (.tmp 38)),
    ((some 5), none, .mv (.const (.int .i64 7)))])
  (.ret))
  (.skip)))
 (.seq [4, 5] (.reg [((some 39), none, .load true 2 (.tmp 6)),
   (none, none, .store 2 (.tmp 4) (.tmp 39)),
   ((some 5), none, .mv (.const (.int .i64 0)))])
 (.ret)))))))
theorem k27 : FnOK Try.prog 27 c27 [.cell true 2 4, .tmp 5] 2 := ⟨by kernel_rfl, Try.f27, _, [], Try.func27, rfl, by kernel_rfl, by kernel_rfl, by decide⟩

-- gansey/orders.shift
def c28 : Cmd :=
 .seq [0] (.reg [((some 2), none, .mv (.const (.int .i64 0)))])
 (.seq [2] (.reg [((some 3), none, .build [(.val (.int .i64 0)), (.val (.int .i64 0))] [(0, 1, (.const (.int .i64 (-1)))), (1, 1, (.const (.int .i64 1)))]),
   ((some 4), none, .mv (.tmp 0)),
   ((some 5), none, .index 2 1 false (.tmp 3) (.tmp 4)),
   ((some 2), none, .mv (.tmp 5))])
 (.ret))
theorem k28 : FnOK Try.prog 28 c28 [.tmp 2] 1 := ⟨by kernel_rfl, Try.f28, _, [], Try.func28, rfl, by kernel_rfl, by kernel_rfl, by decide⟩

-- gansey/orders.inOrder
def c29 : Cmd :=
 .seq [0, 1] (.reg [((some 4), none, .mv (.const (.slice none 0 0)))])
 (.seq [0, 1] (.reg [((some 5), none, .mv (.tmp 0)),
   ((some 6), none, .call 45 [(.tmp 5)]),
   ((some 0), none, .mv (.tmp 6))])
 (.seq [0] (.seq [0, 8] (.reg [((some 7), none, .mv (.tmp 1)),
   ((some 8), none, .bin .eql (.tmp 7) (.const (.int .u8 0)))])
 (.cond (.tmp 8)
  (.reg [((some 9), none, .mv (.tmp 0)),
    ((some 10), none, .call 47 [(.tmp 9)])])
  (.skip)))
 (.seq [4] (.reg [((some 11), none, .mv (.tmp 0)),
   ((some 4), none, .mv (.tmp 11))])
 (.ret))))
theorem k29 : FnOK Try.prog 29 c29 [.tmp 4] 2 := ⟨by kernel_rfl, Try.f29, _, [], Try.func29, rfl, by kernel_rfl, by kernel_rfl, by decide⟩

-- slices.Clip[[]gansey/orders.Cross,gansey/orders.Cross]
def c30 : Cmd :=
 .seq [0] (.reg [((some 2), none, .mv (.const (.slice none 0 0)))])
 (.seq [2] (.reg [((some 3), none, .mv (.tmp 0)),
   ((some 4), none, .mv (.tmp 0)),
   ((some 5), none, .len (.tmp 4)),
   ((some 6), none, .mv (.tmp 0)),
   ((some 7), none, .len (.tmp 6)),
   ((some 8), none, .slice 5 (.tmp 3) none (some (.tmp 5)) (some (.tmp 7))),
   ((some 2), none, .mv (.tmp 8))])
 (.ret))
theorem k30 : FnOK Try.prog 30 c30 [.tmp 2] 1 := ⟨by kernel_rfl, Try.f30, _, [], Try.func30, rfl, by kernel_rfl, by kernel_rfl, by decide⟩

-- slices.Clip[[]gansey/yarns.Pass,gansey/yarns.Pass]
def c31 : Cmd :=
 .seq [0] (.reg [((some 2), none, .mv (.const (.slice none 0 0)))])
 (.seq [2] (.reg [((some 3), none, .mv (.tmp 0)),
   ((some 4), none, .mv (.tmp 0)),
   ((some 5), none, .len (.tmp 4)),
   ((some 6), none, .mv (.tmp 0)),
   ((some 7), none, .len (.tmp 6)),
   ((some 8), none, .slice 4 (.tmp 3) none (some (.tmp 5)) (some (.tmp 7))),
   ((some 2), none, .mv (.tmp 8))])
 (.ret))
theorem k31 : FnOK Try.prog 31 c31 [.tmp 2] 1 := ⟨by kernel_rfl, Try.f31, _, [], Try.func31, rfl, by kernel_rfl, by kernel_rfl, by decide⟩

-- slices.Reverse[[]gansey/yarns.Pass,gansey/yarns.Pass]
def c32 : Cmd :=
 .seq [0, 2, 3] (.reg [((some 4), none, .mv (.tmp 0)),
   ((some 5), none, .len (.tmp 4)),
   ((some 6), none, .bin .sub (.tmp 5) (.const (.int .i64 1))),
   ((some 2), none, .mv (.const (.int .i64 0))),
   ((some 3), none, .mv (.tmp 6))])
 (.block 0
  (.loop [0, 2, 3]
   (.seq [0, 2, 3] (.seq [0, 2, 3, 9] (.reg [((some 7), none, .mv (.tmp 2)),
     ((some 8), none, .mv (.tmp 3)),
     ((some 9), none, .bin .lss (.tmp 7) (.tmp 8))])
   (.cond (.tmp 9)
    (.skip)
    (.exit 0)))
   (.seq [0, 2, 3] (.block 1
    (.sreg [] [((some 14), none, .mv (.tmp 0)),
      ((some 15), none, .mv (.tmp 2)),
      ((some 16), none, .mv (.tmp 0)),
      ((some 17), none, .mv (.tmp 3)),
      ((some 18), none, .mv (.tmp 0)),
      ((some 19), none, .mv (.tmp 3)),
      ((some 20), none, .indexA 4 (.tmp 18) (.tmp 19)),
      ((some 21), none, .load true 4 (.tmp 20)),
      ((some 22), none, .mv (.tmp 0)),
      ((some 23), none, .mv (.tmp 2)),
      ((some 24), none, .indexA 4 (.tmp 22) (.tmp 23)),
      ((some 25), none, .load true 4 (.tmp 24)),
      ((some 26), none, .indexA 4 (.tmp 14) (.tmp 15))]
     []
     [((some 16), none, .mv (.tmp 0)),
      ((some 17), none, .mv (.tmp 3)),
      ((some 22), none, .mv (.tmp 0)),
      ((some 23), none, .mv (.tmp 2)),
      ((some 24), none, .indexA 4 (.tmp 22) (.tmp 23))]
     [((none, none, .store 4 (.tmp 26) (.tmp 21)), [((some 16), none, .mv (.tmp 0)),
      ((some 17), none, .mv (.tmp 3)),
      ((some 22), none, .mv (.tmp 0)),
      ((some 23), none, .mv (.tmp 2)),
      ((some 24), none, .indexA 4 (.tmp 22) (.tmp 23))]), (((some 27), none, .indexA 4 (.tmp 16) (.tmp 17)), []), ((none, none, .store 4 (.tmp 27) (.tmp 25)), [])]))
   (.reg [((some 10), none, .mv (.tmp 2)),
     ((some 11), none, .bin .add (.tmp 10) (.const (.int .i64 1))),
     ((some 12), none, .mv (.tmp 3)),
     ((some 13), none, .bin .sub (.tmp 12) (.const (.int .i64 1))),
     ((some 2), none, .mv (.tmp 11)),
     ((some 3), none, .mv (.tmp 13))])))))
theorem k32 : FnOK Try.prog 32 c32 [] 1 := ⟨by kernel_rfl, Try.f32, _, [], Try.func32, rfl, by kernel_rfl, by kernel_rfl, by decide⟩

-- gansey/yarns.back
def c33 : Cmd :=
 .seq [1, 2] (.reg [((some 1), none, .box 54 4 (.tmp 0)),
   ((some 2), none, .alloc 54 4 (.agg [(.val (.int .u8 0)), (.val (.int .i64 0)), (.val (.bool false)), (.val (.int .u8 0))]))])
 (.seq [1, 2] (.seq [1, 2, 5] (.reg [((some 3), none, .fieldA 3 1 false (.tmp 1)),
   ((some 4), none, .load false 1 (.tmp 3)),
   ((some 5), none, .bin .eql (.tmp 4) (.const (.int .u8 1)))])
 (.cond (.tmp 5)
  (.reg [((some 6), none, .fieldA 3 1 false (.tmp 1)),
    (none, none, .store 1 (.tmp 6) (.const (.int .u8 0)))])
  (.reg [((some 7), none, .fieldA 3 1 false (.tmp 1)),
    (none, none, .store 1 (.tmp 7) (.const (.int .u8 1)))])))
 (.seq [2] (.reg [((some 8), none, .load true 4 (.tmp 1)),
   (none, none, .store 4 (.tmp 2) (.tmp 8))])
 (.ret)))
theorem k33 : FnOK Try.prog 33 c33 [.cell true 4 2] 1 := ⟨by kernel_rfl, Try.f33, _, [], Try.func33, rfl, by kernel_rfl, by kernel_rfl, by decide⟩

-- slices.Clone[[]gansey/yarns.Pass,gansey/yarns.Pass]
def c34 : Cmd :=
 .seq [0] (.reg [((some 2), none, .mv (.const (.slice none 0 0)))])
 (.seq [0] (.seq [0, 4] (.reg [((some 3), none, .mv (.tmp 0)),
   ((some 4), none, .eqnil 0 false (.tmp 3))])
 (.cond (.tmp 4)
  (.seq [2] (.reg [((some 2), none, .mv (.const (.slice none 0 0)))])
  (.ret))
  (.skip)))
 (.seq [2] (.reg [((some 5), none, .blist 4 []),
   ((some 6), none, .mv (.tmp 0)),
   ((some 7), none, .append false 54 4 24 (.tmp 5) (.tmp 6)),
   ((some 2), none, .mv (.tmp 7))])
 (.ret)))
theorem k34 : FnOK Try.prog 34 c34 [.tmp 2] 1 := ⟨by kernel_rfl, Try.f34, _, [], Try.func34, rfl, by kernel_rfl, by kernel_rfl, by decide⟩

-- gansey/stacks.Check
def c35 : Cmd :=
 .seq [1, 2] (.reg [((some 1), none, .box 26 2 (.tmp 0)),
   ((some 2), none, .alloc 29 1 (.val (.int .i64 0)))])
 (.seq [1, 2] (.seq [1, 2, 15] (.reg [((some 6), none, .fieldA 0 1 false (.tmp 1)),
   ((some 7), none, .load false 1 (.tmp 6)),
   ((some 8), none, .len (.tmp 7)),
   ((some 9), none, .bin .gtr (.tmp 8) (.const (.int .i64 40))),
   ((some 10), none, .mv (.tmp 9)),
   ((some 11), (some (10, false)), .fieldA 1 1 false (.tmp 1)),
   ((some 12), (some (10, false)), .load false 1 (.tmp 11)),
   ((some 13), (some (10, false)), .len (.tmp 12)),
   ((some 14), (some (10, false)), .bin .gtr (.tmp 13) (.const (.int .i64 40))),
   ((some 15), none, .pick (.tmp 10) (.const (.bool true)) (.tmp 14))])
 (.cond (.tmp 15)
  (.seq [2] (.reg [(none, none, .store 1 (.tmp 2) (.const (.int .i64 9)))])
  (.ret))
  (.skip)))
 (.seq [1, 2] (.seq [1, 2, 17] (.reg [((some 16), none, .load true 2 (.tmp 1)),
   ((some 17), none, .call 48 [(.tmp 16)])])
 (.block 0
  (.range (.tmp 17) [18, 19] (.reg [((some 4), none, .mv (.tmp 19))])
  (.block 1
   (.seq [1, 2, 22] (.reg [((some 20), none, .mv (.tmp 4)),
     ((some 21), none, .len (.tmp 20)),
     ((some 22), none, .bin .gtr (.tmp 21) (.const (.int .i64 4)))])
   (.cond (.tmp 22)
    (.seq [1, 2] (.reg [(none, none, .store 1 (.tmp 2) (.const (.int .i64 9)))])
    (.ret))
    (.skip)))))))
 (.seq [2, 5] (.reg [((some 23), none, .load true 2 (.tmp 1)),
   ((some 24), none, .call 49 [(.tmp 23)]),
   ((some 5), none, .mv (.tmp 24))])
 (.seq [2] (.block 2
  (.seq [2, 5, 25] (.reg [((some 26), none, .mv (.tmp 5)),
    ((some 27), none, .call 50 [(.tmp 26), (.func 51)]),
    ((some 25), none, .mv (.tmp 27))])
  (.cond (.tmp 25)
   (.seq [2] (.reg [(none, none, .store 1 (.tmp 2) (.const (.int .i64 1)))])
   (.ret))
   (.seq [2, 28] (.reg [((some 29), none, .mv (.tmp 5)),
     ((some 30), none, .call 53 [(.tmp 29)]),
     ((some 28), none, .mv (.tmp 30))])
   (.cond (.tmp 28)
    (.seq [2] (.reg [(none, none, .store 1 (.tmp 2) (.const (.int .i64 8)))])
    (.ret))
    (.skip))))))
 (.seq [2] (.reg [(none, none, .store 1 (.tmp 2) (.const (.int .i64 0)))])
 (.ret))))))
theorem k35 : FnOK Try.prog 35 c35 [.cell false 1 2] 1 := ⟨by kernel_rfl, Try.f35, _, [], Try.func35, rfl, by kernel_rfl, by kernel_rfl, by decide⟩

-- gansey/orders.racked
def c36 : Cmd :=
 .seq [0] (.reg [((some 2), none, .mv (.const (.bool false)))])
 (.seq [2] (.reg [((some 3), none, .mv (.tmp 0)),
   ((some 4), none, .bin .geq (.tmp 3) (.const (.int .i64 (-4)))),
   ((some 5), none, .mv (.tmp 4)),
   ((some 6), (some (5, true)), .mv (.tmp 0)),
   ((some 7), (some (5, true)), .bin .leq (.tmp 6) (.const (.int .i64 4))),
   ((some 8), none, .pick (.tmp 5) (.tmp 7) (.const (.bool false))),
   ((some 2), none, .mv (.tmp 8))])
 (.ret))
theorem k36 : FnOK Try.prog 36 c36 [.tmp 2] 1 := ⟨by kernel_rfl, Try.f36, _, [], Try.func36, rfl, by kernel_rfl, by kernel_rfl, by decide⟩

-- slices.SortStableFunc[[]gansey/orders.Held,gansey/orders.Held]
def c37 : Cmd :=
 .reg [((some 4), none, .mv (.tmp 0)),
   ((some 5), none, .mv (.tmp 0)),
   ((some 6), none, .len (.tmp 5)),
   ((some 7), none, .mv (.tmp 1)),
   ((some 8), none, .call 54 [(.tmp 4), (.tmp 6), (.tmp 7)])]
theorem k37 : FnOK Try.prog 37 c37 [] 2 := ⟨by kernel_rfl, Try.f37, _, [], Try.func37, rfl, by kernel_rfl, by kernel_rfl, by decide⟩

-- gansey/orders.list$1
def c38 : Cmd :=
 .seq [2, 3] (.reg [((some 2), none, .box 40 5 (.tmp 0)),
   ((some 3), none, .box 40 5 (.tmp 1)),
   ((some 4), none, .mv (.const (.int .i64 0)))])
 (.seq [4] (.reg [((some 5), none, .fieldA 4 1 false (.tmp 2)),
   ((some 6), none, .load false 1 (.tmp 5)),
   ((some 7), none, .fieldA 4 1 false (.tmp 3)),
   ((some 8), none, .load false 1 (.tmp 7)),
   ((some 9), none, .call 39 [(.tmp 6), (.tmp 8)]),
   ((some 4), none, .mv (.tmp 9))])
 (.ret))
theorem k38 : FnOK Try.prog 38 c38 [.tmp 4] 2 := ⟨by kernel_rfl, Try.f38, _, [], Try.func38, rfl, by kernel_rfl, by kernel_rfl, by decide⟩

-- cmp.Compare[int]
def c39 : Cmd :=
 .seq [0, 1] (.reg [((some 4), none, .mv (.const (.int .i64 0)))])
 (.seq [0, 1, 5] (.reg [((some 7), none, .mv (.tmp 0)),
   ((some 8), none, .call 55 [(.tmp 7)]),
   ((some 5), none, .mv (.tmp 8))])
 (.seq [0, 1, 5, 6] (.reg [((some 9), none, .mv (.tmp 1)),
   ((some 10), none, .call 55 [(.tmp 9)]),
   ((some 6), none, .mv (.tmp 10))])
 (.seq [0, 1, 6] (.seq [0, 1, 6, 11] (.reg [((some 11), none, .mv (.tmp 5))])
 (.cond (.tmp 11)
  (.seq [] (.seq [12] (.reg [((some 12), none, .mv (.tmp 6))])
  (.cond (.tmp 12)
   (.seq [4] (.reg [((some 4), none, .mv (.const (.int .i64 0)))])
   (.ret))
   (.skip)))
  (.seq [4] (.reg [((some 4), none, .mv (.const (.int .i64 (-1))))])
  (.ret)))
  (.skip)))
 (.seq [0, 1] (.seq [0, 1, 13] (.reg [((some 13), none, .mv (.tmp 6))])
 (.cond (.tmp 13)
  (.seq [4] (.reg [((some 4), none, .mv (.const (.int .i64 1)))])
  (.ret))
  (.skip)))
 (.seq [0, 1] (.seq [0, 1, 16] (.reg [((some 14), none, .mv (.tmp 0)),
   ((some 15), none, .mv (.tmp 1)),
   ((some 16), none, .bin .lss (.tmp 14) (.tmp 15))])
 (.cond (.tmp 16)
  (.seq [4] (.reg [((some 4), none, .mv (.const (.int .i64 (-1))))])
  (.ret))
  (.skip)))
 (.seq [] (.seq [19] (.reg [((some 17), none, .mv (.tmp 0)),
   ((some 18), none, .mv (.tmp 1)),
   ((some 19), none, .bin .gtr (.tmp 17) (.tmp 18))])
 (.cond (.tmp 19)
  (.seq [4] (.reg [((some 4), none, .mv (.const (.int .i64 1)))])
  (.ret))
  (.skip)))
 (.seq [4] (.reg [((some 4), none, .mv (.const (.int .i64 0)))])
 (.ret))))))))
theorem k39 : FnOK Try.prog 39 c39 [.tmp 4] 2 := ⟨by kernel_rfl, Try.f39, _, [], Try.func39, rfl, by kernel_rfl, by kernel_rfl, by decide⟩

-- slices.Clip[[]gansey/orders.Held,gansey/orders.Held]
def c40 : Cmd :=
 .seq [0] (.reg [((some 2), none, .mv (.const (.slice none 0 0)))])
 (.seq [2] (.reg [((some 3), none, .mv (.tmp 0)),
   ((some 4), none, .mv (.tmp 0)),
   ((some 5), none, .len (.tmp 4)),
   ((some 6), none, .mv (.tmp 0)),
   ((some 7), none, .len (.tmp 6)),
   ((some 8), none, .slice 5 (.tmp 3) none (some (.tmp 5)) (some (.tmp 7))),
   ((some 2), none, .mv (.tmp 8))])
 (.ret))
theorem k40 : FnOK Try.prog 40 c40 [.tmp 2] 1 := ⟨by kernel_rfl, Try.f40, _, [], Try.func40, rfl, by kernel_rfl, by kernel_rfl, by decide⟩

-- gansey/needles.Check
def c41 : Cmd :=
 .seq [1] (.reg [((some 1), none, .box 38 2 (.tmp 0)),
   ((some 2), none, .mv (.const (.int .i64 0)))])
 (.seq [] (.seq [15] (.reg [((some 3), none, .fieldA 0 1 false (.tmp 1)),
   ((some 4), none, .load false 1 (.tmp 3)),
   ((some 5), none, .bin .gtr (.tmp 4) (.const (.int .u8 1))),
   ((some 6), none, .mv (.tmp 5)),
   ((some 7), (some (6, false)), .fieldA 1 1 false (.tmp 1)),
   ((some 8), (some (6, false)), .load false 1 (.tmp 7)),
   ((some 9), (some (6, false)), .bin .lss (.tmp 8) (.const (.int .i64 1))),
   ((some 10), none, .pick (.tmp 6) (.const (.bool true)) (.tmp 9)),
   ((some 11), none, .mv (.tmp 10)),
   ((some 12), (some (11, false)), .fieldA 1 1 false (.tmp 1)),
   ((some 13), (some (11, false)), .load false 1 (.tmp 12)),
   ((some 14), (some (11, false)), .bin .gtr (.tmp 13) (.const (.int .i64 40))),
   ((some 15), none, .pick (.tmp 11) (.const (.bool true)) (.tmp 14))])
 (.cond (.tmp 15)
  (.seq [2] (.reg [((some 2), none, .mv (.const (.int .i64 1)))])
  (.ret))
  (.skip)))
 (.seq [2] (.reg [((some 2), none, .mv (.const (.int .i64 0)))])
 (.ret)))
theorem k41 : FnOK Try.prog 41 c41 [.tmp 2] 1 := ⟨by kernel_rfl, Try.f41, _, [], Try.func41, rfl, by kernel_rfl, by kernel_rfl, by decide⟩

-- gansey/needles.racked
def c42 : Cmd :=
 .seq [0] (.reg [((some 2), none, .mv (.const (.bool false)))])
 (.seq [2] (.reg [((some 3), none, .mv (.tmp 0)),
   ((some 4), none, .bin .geq (.tmp 3) (.const (.int .i64 (-4)))),
   ((some 5), none, .mv (.tmp 4)),
   ((some 6), (some (5, true)), .mv (.tmp 0)),
   ((some 7), (some (5, true)), .bin .leq (.tmp 6) (.const (.int .i64 4))),
   ((some 8), none, .pick (.tmp 5) (.tmp 7) (.const (.bool false))),
   ((some 2), none, .mv (.tmp 8))])
 (.ret))
theorem k42 : FnOK Try.prog 42 c42 [.tmp 2] 1 := ⟨by kernel_rfl, Try.f42, _, [], Try.func42, rfl, by kernel_rfl, by kernel_rfl, by decide⟩

-- gansey/needles.spot
def c43 : Cmd :=
 .seq [1, 2] (.reg [((some 2), none, .box 38 2 (.tmp 0)),
   ((some 4), none, .mv (.const (.int .i64 0)))])
 (.seq [2] (.seq [1, 2, 7] (.reg [((some 5), none, .fieldA 0 1 false (.tmp 2)),
   ((some 6), none, .load false 1 (.tmp 5)),
   ((some 7), none, .bin .eql (.tmp 6) (.const (.int .u8 1)))])
 (.cond (.tmp 7)
  (.seq [4] (.reg [((some 8), none, .fieldA 1 1 false (.tmp 2)),
    ((some 9), none, .load false 1 (.tmp 8)),
    ((some 10), none, .mv (.tmp 1)),
    ((some 11), none, .bin .add (.tmp 9) (.tmp 10)),
    ((some 12), none, .bin .mul (.const (.int .i64 4)) (.tmp 11)),
    ((some 4), none, .mv (.tmp 12))])
  (.ret))
  (.skip)))
 (.seq [4] (.reg [((some 13), none, .fieldA 1 1 false (.tmp 2)),
   ((some 14), none, .load false 1 (.tmp 13)),
   ((some 15), none, .bin .mul (.const (.int .i64 4)) (.tmp 14)),
   ((some 16), none, .bin .add (.tmp 15) (.const (.int .i64 2))),
   ((some 4), none, .mv (.tmp 16))])
 (.ret)))
theorem k43 : FnOK Try.prog 43 c43 [.tmp 4] 2 := ⟨by kernel_rfl, Try.f43, _, [], Try.func43, rfl, by kernel_rfl, by kernel_rfl, by decide⟩

-- slices.Clip[[]gansey/api.Id,gansey/api.Id]
def c44 : Cmd :=
 .seq [0] (.reg [((some 2), none, .mv (.const (.slice none 0 0)))])
 (.seq [2] (.reg [((some 3), none, .mv (.tmp 0)),
   ((some 4), none, .mv (.tmp 0)),
   ((some 5), none, .len (.tmp 4)),
   ((some 6), none, .mv (.tmp 0)),
   ((some 7), none, .len (.tmp 6)),
   ((some 8), none, .slice 2 (.tmp 3) none (some (.tmp 5)) (some (.tmp 7))),
   ((some 2), none, .mv (.tmp 8))])
 (.ret))
theorem k44 : FnOK Try.prog 44 c44 [.tmp 2] 1 := ⟨by kernel_rfl, Try.f44, _, [], Try.func44, rfl, by kernel_rfl, by kernel_rfl, by decide⟩

-- slices.Clone[[]gansey/api.Id,gansey/api.Id]
def c45 : Cmd :=
 .seq [0] (.reg [((some 2), none, .mv (.const (.slice none 0 0)))])
 (.seq [0] (.seq [0, 4] (.reg [((some 3), none, .mv (.tmp 0)),
   ((some 4), none, .eqnil 0 false (.tmp 3))])
 (.cond (.tmp 4)
  (.seq [2] (.reg [((some 2), none, .mv (.const (.slice none 0 0)))])
  (.ret))
  (.skip)))
 (.seq [2] (.reg [((some 5), none, .blist 2 []),
   ((some 6), none, .mv (.tmp 0)),
   ((some 7), none, .append false 35 2 16 (.tmp 5) (.tmp 6)),
   ((some 2), none, .mv (.tmp 7))])
 (.ret)))
theorem k45 : FnOK Try.prog 45 c45 [.tmp 2] 1 := ⟨by kernel_rfl, Try.f45, _, [], Try.func45, rfl, by kernel_rfl, by kernel_rfl, by decide⟩

-- gansey/stacks.get
def c46 : Cmd :=
 .seq [0, 1] (.reg [((some 4), none, .mv (.const (.slice none 0 0)))])
 (.seq [] (.seq [0, 1, 8] (.reg [((some 5), none, .mv (.tmp 1)),
   ((some 6), none, .mv (.tmp 0)),
   ((some 7), none, .len (.tmp 6)),
   ((some 8), none, .bin .lss (.tmp 5) (.tmp 7))])
 (.cond (.tmp 8)
  (.seq [4] (.reg [((some 9), none, .mv (.tmp 0)),
    ((some 10), none, .mv (.tmp 1)),
    ((some 11), none, .indexA 1 (.tmp 9) (.tmp 10)),
    ((some 12), none, .load false 1 (.tmp 11)),
    ((some 4), none, .mv (.tmp 12))])
  (.ret))
  (.skip)))
 (.seq [4] (.reg [((some 4), none, .mv (.const (.slice none 0 0)))])
 (.ret)))
theorem k46 : FnOK Try.prog 46 c46 [.tmp 4] 2 := ⟨by kernel_rfl, Try.f46, _, [], Try.func46, rfl, by kernel_rfl, by kernel_rfl, by decide⟩

-- slices.Reverse[[]gansey/api.Id,gansey/api.Id]
def c47 : Cmd :=
 .seq [0, 2, 3] (.reg [((some 4), none, .mv (.tmp 0)),
   ((some 5), none, .len (.tmp 4)),
   ((some 6), none, .bin .sub (.tmp 5) (.const (.int .i64 1))),
   ((some 2), none, .mv (.const (.int .i64 0))),
   ((some 3), none, .mv (.tmp 6))])
 (.block 0
  (.loop [0, 2, 3]
   (.seq [0, 2, 3] (.seq [0, 2, 3, 9] (.reg [((some 7), none, .mv (.tmp 2)),
     ((some 8), none, .mv (.tmp 3)),
     ((some 9), none, .bin .lss (.tmp 7) (.tmp 8))])
   (.cond (.tmp 9)
    (.skip)
    (.exit 0)))
   (.seq [0, 2, 3] (.block 1
    (.sreg [] [((some 14), none, .mv (.tmp 0)),
      ((some 15), none, .mv (.tmp 2)),
      ((some 16), none, .mv (.tmp 0)),
      ((some 17), none, .mv (.tmp 3)),
      ((some 18), none, .mv (.tmp 0)),
      ((some 19), none, .mv (.tmp 3)),
      ((some 20), none, .indexA 2 (.tmp 18) (.tmp 19)),
      ((some 21), none, .load true 2 (.tmp 20)),
      ((some 22), none, .mv (.tmp 0)),
      ((some 23), none, .mv (.tmp 2)),
      ((some 24), none, .indexA 2 (.tmp 22) (.tmp 23)),
      ((some 25), none, .load true 2 (.tmp 24)),
      ((some 26), none, .indexA 2 (.tmp 14) (.tmp 15))]
     []
     [((some 16), none, .mv (.tmp 0)),
      ((some 17), none, .mv (.tmp 3)),
      ((some 22), none, .mv (.tmp 0)),
      ((some 23), none, .mv (.tmp 2)),
      ((some 24), none, .indexA 2 (.tmp 22) (.tmp 23))]
     [((none, none, .store 2 (.tmp 26) (.tmp 21)), [((some 16), none, .mv (.tmp 0)),
      ((some 17), none, .mv (.tmp 3)),
      ((some 22), none, .mv (.tmp 0)),
      ((some 23), none, .mv (.tmp 2)),
      ((some 24), none, .indexA 2 (.tmp 22) (.tmp 23))]), (((some 27), none, .indexA 2 (.tmp 16) (.tmp 17)), []), ((none, none, .store 2 (.tmp 27) (.tmp 25)), [])]))
   (.reg [((some 10), none, .mv (.tmp 2)),
     ((some 11), none, .bin .add (.tmp 10) (.const (.int .i64 1))),
     ((some 12), none, .mv (.tmp 3)),
     ((some 13), none, .bin .sub (.tmp 12) (.const (.int .i64 1))),
     ((some 2), none, .mv (.tmp 11)),
     ((some 3), none, .mv (.tmp 13))])))))
theorem k47 : FnOK Try.prog 47 c47 [] 1 := ⟨by kernel_rfl, Try.f47, _, [], Try.func47, rfl, by kernel_rfl, by kernel_rfl, by decide⟩

-- (gansey/stacks.Beds).all
def c48 : Cmd :=
 .seq [1] (.reg [((some 1), none, .box 26 2 (.tmp 0)),
   ((some 2), none, .mv (.const .nilFunc))])
 (.seq [2] (.reg [((some 3), none, .mkfn (.func 56) [] [(.tmp 1)]),
   ((some 2), none, .mv (.tmp 3))])
 (.ret))
theorem k48 : FnOK Try.prog 48 c48 [.tmp 2] 1 := ⟨by kernel_rfl, Try.f48, _, [], Try.func48, rfl, by kernel_rfl, by kernel_rfl, by decide⟩

-- (gansey/stacks.Beds).names
def c49 : Cmd :=
 .seq [1, 2] (.reg [((some 1), none, .box 26 2 (.tmp 0)),
   ((some 2), none, .mv (.const (.slice none 0 0)))])
 (.seq [1, 2, 3] (.reg [((some 3), none, .alloc 60 1 (.val (.slice none 0 0)))])
 (.seq [3] (.seq [2, 3, 7] (.reg [((some 6), none, .load true 2 (.tmp 1)),
   ((some 7), none, .call 48 [(.tmp 6)])])
 (.block 0
  (.range (.tmp 7) [8, 9] (.reg [((some 5), none, .mv (.tmp 9))])
  (.block 1
   (.reg [((some 10), none, .load false 1 (.tmp 3)),
     ((some 11), none, .mv (.tmp 5)),
     ((some 12), none, .append true 35 2 16 (.tmp 10) (.tmp 11)),
     (none, none, .store 1 (.tmp 3) (.tmp 12))])))))
 (.seq [2] (.reg [((some 13), none, .load false 1 (.tmp 3)),
   ((some 2), none, .mv (.tmp 13))])
 (.ret))))
theorem k49 : FnOK Try.prog 49 c49 [.tmp 2] 1 := ⟨by kernel_rfl, Try.f49, _, [12], Try.func49, rfl, by kernel_rfl, by kernel_rfl, by decide⟩

-- slices.ContainsFunc[[]gansey/api.Id,gansey/api.Id]
def c50 : Cmd :=
 .seq [0, 1] (.reg [((some 4), none, .mv (.const (.bool false)))])
 (.seq [4] (.reg [((some 5), none, .mv (.tmp 0)),
   ((some 6), none, .mv (.tmp 1)),
   ((some 7), none, .call 57 [(.tmp 5), (.tmp 6)]),
   ((some 8), none, .bin .geq (.tmp 7) (.const (.int .i64 0))),
   ((some 4), none, .mv (.tmp 8))])
 (.ret))
theorem k50 : FnOK Try.prog 50 c50 [.tmp 4] 2 := ⟨by kernel_rfl, Try.f50, _, [], Try.func50, rfl, by kernel_rfl, by kernel_rfl, by decide⟩

-- gansey/stacks.Check$1
def c51 : Cmd :=
 .seq [1] (.reg [((some 1), none, .box 35 2 (.tmp 0)),
   ((some 2), none, .mv (.const (.bool false)))])
 (.seq [2] (.reg [((some 3), none, .load true 2 (.tmp 1)),
   ((some 4), none, .call 52 [(.tmp 3)]),
   ((some 5), none, .un .not (.tmp 4)),
   ((some 2), none, .mv (.tmp 5))])
 (.ret))
theorem k51 : FnOK Try.prog 51 c51 [.tmp 2] 1 := ⟨by kernel_rfl, Try.f51, _, [], Try.func51, rfl, by kernel_rfl, by kernel_rfl, by decide⟩

-- gansey/yarns.Named
def c52 : Cmd :=
 .seq [1] (.reg [((some 1), none, .box 35 2 (.tmp 0)),
   ((some 2), none, .mv (.const (.bool false)))])
 (.seq [2] (.reg [((some 3), none, .fieldA 0 1 false (.tmp 1)),
   ((some 4), none, .load false 1 (.tmp 3)),
   ((some 5), none, .bin .geq (.tmp 4) (.const (.int .u8 1))),
   ((some 6), none, .mv (.tmp 5)),
   ((some 7), (some (6, true)), .fieldA 0 1 false (.tmp 1)),
   ((some 8), (some (6, true)), .load false 1 (.tmp 7)),
   ((some 9), (some (6, true)), .bin .leq (.tmp 8) (.const (.int .u8 6))),
   ((some 10), none, .pick (.tmp 6) (.tmp 9) (.const (.bool false))),
   ((some 11), none, .mv (.tmp 10)),
   ((some 12), (some (11, true)), .fieldA 1 1 false (.tmp 1)),
   ((some 13), (some (11, true)), .load false 1 (.tmp 12)),
   ((some 14), (some (11, true)), .bin .geq (.tmp 13) (.const (.int .i64 0))),
   ((some 15), none, .pick (.tmp 11) (.tmp 14) (.const (.bool false))),
   ((some 16), none, .mv (.tmp 15)),
   ((some 17), (some (16, true)), .fieldA 1 1 false (.tmp 1)),
   ((some 18), (some (16, true)), .load false 1 (.tmp 17)),
   ((some 19), (some (16, true)), .bin .lss (.tmp 18) (.const (.int .i64 2048))),
   ((some 20), none, .pick (.tmp 16) (.tmp 19) (.const (.bool false))),
   ((some 2), none, .mv (.tmp 20))])
 (.ret))
theorem k52 : FnOK Try.prog 52 c52 [.tmp 2] 1 := ⟨by kernel_rfl, Try.f52, _, [], Try.func52, rfl, by kernel_rfl, by kernel_rfl, by decide⟩

-- gansey/stacks.twice
def c53 : Cmd :=
 .seq [0] (.reg [((some 2), none, .mv (.const (.bool false)))])
 (.seq [0, 3] (.reg [((some 6), none, .mkmap),
   ((some 3), none, .mv (.tmp 6))])
 (.seq [] (.seq [3, 7, 8, 9] (.reg [((some 7), none, .mv (.tmp 0)),
   ((some 8), none, .len (.tmp 7)),
   ((some 9), none, .mv (.const (.int .i64 0)))])
 (.block 0
  (.loop [3, 7, 8, 9]
   (.seq [3, 7, 8, 9, 10] (.reg [((some 10), none, .bin .lss (.tmp 9) (.tmp 8))])
   (.seq [3, 7, 8, 9] (.cond (.tmp 10)
    (.skip)
    (.exit 0))
   (.seq [3, 7, 8, 9] (.block 1
    (.seq [3, 5, 7, 8, 9] (.reg [((some 11), none, .indexA 2 (.tmp 7) (.tmp 9)),
      ((some 12), none, .load true 2 (.tmp 11)),
      ((some 5), none, .alloc 35 2 (.agg [(.val (.int .u8 0)), (.val (.int .i64 0))])),
      (none, none, .store 2 (.tmp 5) (.tmp 12))])
    (.seq [3, 5, 7, 8, 9] (.seq [3, 5, 7, 8, 9, 15] (.reg [((some 13), none, .mv (.tmp 3)),
      ((some 14), none, .load true 2 (.tmp 5)),
      ((some 15), none, .lookup false [true, true] true (.val (.bool false)) (.tmp 13) (.tmp 14))])
    (.cond (.tmp 15)
     (.seq [2] (.reg [((some 2), none, .mv (.const (.bool true)))])
     (.ret))
     (.skip)))
    (.reg [((some 16), none, .mv (.tmp 3)),
      ((some 17), none, .load true 2 (.tmp 5)),
      (none, none, .mapset [true, true] true (.tmp 16) (.tmp 17) (.const (.bool true)))]))))
   (.reg [((some 18), none, .bin .add (.tmp 9) (.const (.int .i64 1))),
     ((some 9), none, .mv (.tmp 18))])))))))
 (.seq [2] (.reg [((some 2), none, .mv (.const (.bool false)))])
 (.ret))))
theorem k53 : FnOK Try.prog 53 c53 [.tmp 2] 1 := ⟨by kernel_rfl, Try.f53, _, [], Try.func53, rfl, by kernel_rfl, by kernel_rfl, by decide⟩

-- slices.stableCmpFunc[gansey/orders.Held]
def c54 : Cmd :=
 .seq [0, 1, 2, 6] (.reg [((some 6), none, .mv (.const (.int .i64 20)))])
 (.seq [0, 1, 2, 6, 7, 8] (.reg [((some 10), none, .mv (.tmp 6)),
   ((some 7), none, .mv (.const (.int .i64 0))),
   ((some 8), none, .mv (.tmp 10))])
 (.seq [0, 1, 2, 6, 7] (.block 0
  (.loop [0, 1, 2, 6, 7, 8]
   (.seq [0, 1, 2, 6, 7, 8] (.seq [0, 1, 2, 6, 7, 8, 13] (.reg [((some 11), none, .mv (.tmp 8)),
     ((some 12), none, .mv (.tmp 1)),
     ((some 13), none, .bin .leq (.tmp 11) (.tmp 12))])
   (.cond (.tmp 13)
    (.skip)
    (.exit 0)))
   (.block 1
    (.seq [0, 1, 2, 6, 8] (.reg [((some 14), none, .mv (.tmp 0)),
      ((some 15), none, .mv (.tmp 7)),
      ((some 16), none, .mv (.tmp 8)),
      ((some 17), none, .mv (.tmp 2)),
      ((some 18), none, .call 58 [(.tmp 14), (.tmp 15), (.tmp 16), (.tmp 17)])])
    (.seq [0, 1, 2, 6, 7, 8] (.reg [((some 19), none, .mv (.tmp 8)),
      ((some 7), none, .mv (.tmp 19))])
    (.reg [((some 20), none, .mv (.tmp 8)),
      ((some 21), none, .mv (.tmp 6)),
      ((some 22), none, .bin .add (.tmp 20) (.tmp 21)),
      ((some 8), none, .mv (.tmp 22))])))))))
 (.seq [0, 1, 2, 6] (.reg [((some 23), none, .mv (.tmp 0)),
   ((some 24), none, .mv (.tmp 7)),
   ((some 25), none, .mv (.tmp 1)),
   ((some 26), none, .mv (.tmp 2)),
   ((some 27), none, .call 58 [(.tmp 23), (.tmp 24), (.tmp 25), (.tmp 26)])])
 (.block 2
  (.loop [0, 1, 2, 6]
   (.seq [0, 1, 2, 6] (.seq [0, 1, 2, 6, 30] (.reg [((some 28), none, .mv (.tmp 6)),
     ((some 29), none, .mv (.tmp 1)),
     ((some 30), none, .bin .lss (.tmp 28) (.tmp 29))])
   (.cond (.tmp 30)
    (.skip)
    (.exit 2)))
   (.block 3
    (.seq [0, 1, 2, 6, 7, 8] (.reg [((some 31), none, .mv (.tmp 6)),
      ((some 32), none, .bin .mul (.const (.int .i64 2)) (.tmp 31)),
      ((some 7), none, .mv (.const (.int .i64 0))),
      ((some 8), none, .mv (.tmp 32))])
    (.seq [0, 1, 2, 6, 7] (.block 4
     (.loop [0, 1, 2, 6, 7, 8]
      (.seq [0, 1, 2, 6, 7, 8] (.seq [0, 1, 2, 6, 7, 8, 35] (.reg [((some 33), none, .mv (.tmp 8)),
        ((some 34), none, .mv (.tmp 1)),
        ((some 35), none, .bin .leq (.tmp 33) (.tmp 34))])
      (.cond (.tmp 35)
       (.skip)
       (.exit 4)))
      (.block 5
       (.seq [0, 1, 2, 6, 8] (.reg [((some 36), none, .mv (.tmp 0)),
         ((some 37), none, .mv (.tmp 7)),
         ((some 38), none, .mv (.tmp 7)),
         ((some 39), none, .mv (.tmp 6)),
         ((some 40), none, .bin .add (.tmp 38) (.tmp 39)),
         ((some 41), none, .mv (.tmp 8)),
         ((some 42), none, .mv (.tmp 2)),
         ((some 43), none, .call 59 [(.tmp 36), (.tmp 37), (.tmp 40), (.tmp 41), (.tmp 42)])])
       (.seq [0, 1, 2, 6, 7, 8] (.reg [((some 44), none, .mv (.tmp 8)),
         ((some 7), none, .mv (.tmp 44))])
       (.reg [((some 45), none, .mv (.tmp 8)),
         ((some 46), none, .mv (.tmp 6)),
         ((some 47), none, .bin .mul (.const (.int .i64 2)) (.tmp 46)),
         ((some 48), none, .bin .add (.tmp 45) (.tmp 47)),
         ((some 8), none, .mv (.tmp 48))])))))))
    (.seq [0, 1, 2, 6] (.seq [0, 1, 2, 6, 7, 9] (.reg [((some 49), none, .mv (.tmp 7)),
      ((some 50), none, .mv (.tmp 6)),
      ((some 51), none, .bin .add (.tmp 49) (.tmp 50)),
      ((some 9), none, .mv (.tmp 51))])
    (.seq [0, 1, 2, 6, 7, 9, 54] (.reg [((some 52), none, .mv (.tmp 9)),
      ((some 53), none, .mv (.tmp 1)),
      ((some 54), none, .bin .lss (.tmp 52) (.tmp 53))])
    (.cond (.tmp 54)
     (.reg [((some 55), none, .mv (.tmp 0)),
       ((some 56), none, .mv (.tmp 7)),
       ((some 57), none, .mv (.tmp 9)),
       ((some 58), none, .mv (.tmp 1)),
       ((some 59), none, .mv (.tmp 2)),
       ((some 60), none, .call 59 [(.tmp 55), (.tmp 56), (.tmp 57), (.tmp 58), (.tmp 59)])])
     (.skip))))
    (.reg [((some 61), none, .mv (.tmp 6)),
      ((some 62), none, .bin .mul (.tmp 61) (.const (.int .i64 2))),
      ((some 6), none, .mv (.tmp 62))])))))))))))
theorem k54 : FnOK Try.prog 54 c54 [] 3 := ⟨by kernel_rfl, Try.f54, _, [], Try.func54, rfl, by kernel_rfl, by kernel_rfl, by decide⟩

-- cmp.isNaN[int]
def c55 : Cmd :=
 .seq [0] (.reg [((some 2), none, .mv (.const (.bool false)))])
 (.seq [2] (.reg [((some 3), none, .mv (.tmp 0)),
   ((some 4), none, .mv (.tmp 0)),
   ((some 5), none, .bin .neq (.tmp 3) (.tmp 4)),
   ((some 2), none, .mv (.tmp 5))])
 (.ret))
theorem k55 : FnOK Try.prog 55 c55 [.tmp 2] 1 := ⟨by kernel_rfl, Try.f55, _, [], Try.func55, rfl, by kernel_rfl, by kernel_rfl, by decide⟩

-- (gansey/stacks.Beds).all$1
def c56 : Cmd :=
 .seq [0, 10, 11, 12] (.reg [((some 6), none, .fieldA 0 1 false (.tmp 1)),
   ((some 7), none, .load false 1 (.tmp 6)),
   ((some 8), none, .fieldA 1 1 false (.tmp 1)),
   ((some 9), none, .load false 1 (.tmp 8)),
   ((some 10), none, .blist 1 [(.tmp 7), (.tmp 9)]),
   ((some 11), none, .len (.tmp 10)),
   ((some 12), none, .mv (.const (.int .i64 0)))])
 (.block 0
  (.loop [0, 10, 11, 12]
   (.seq [0, 10, 11, 12, 13] (.reg [((some 13), none, .bin .lss (.tmp 12) (.tmp 11))])
   (.seq [0, 10, 11, 12] (.cond (.tmp 13)
    (.skip)
    (.exit 0))
   (.seq [0, 10, 11, 12] (.block 1
    (.seq [0, 3, 4, 10, 11, 12] (.reg [((some 14), none, .mv (.tmp 12)),
      ((some 15), none, .indexA 1 (.tmp 10) (.tmp 12)),
      ((some 16), none, .load false 1 (.tmp 15)),
      ((some 3), none, .mv (.tmp 14)),
      ((some 4), none, .mv (.tmp 16))])
    (.seq [0, 3, 4, 10, 11, 12, 19, 20] (.reg [((some 17), none, .mv (.tmp 4)),
      ((some 18), none, .len (.tmp 17)),
      ((some 19), none, .maxmin false (.tmp 18) (.const (.int .i64 40))),
      ((some 20), none, .mv (.const (.int .i64 0)))])
    (.block 2
     (.loop [0, 3, 4, 10, 11, 12, 19, 20]
      (.seq [0, 3, 4, 10, 11, 12, 19, 20, 21] (.reg [((some 21), none, .bin .lss (.tmp 20) (.tmp 19))])
      (.seq [0, 3, 4, 10, 11, 12, 19, 20] (.cond (.tmp 21)
       (.skip)
       (.exit 2))
      (.seq [0, 3, 4, 10, 11, 12, 19, 20] (.block 3
       (.seq [0, 3, 4, 5, 10, 11, 12, 19, 20] (.reg [((some 22), none, .mv (.tmp 20)),
         ((some 5), none, .mv (.tmp 22))])
       (.seq [0, 3, 4, 10, 11, 12, 19, 20, 34] (.reg [((some 23), none, .mv (.tmp 0)),
         ((some 24), none, .mv (.tmp 3)),
         ((some 25), none, .convi .u8 (.tmp 24)),
         ((some 26), none, .mv (.tmp 5)),
         ((some 27), none, .bin .add (.tmp 26) (.const (.int .i64 1))),
         ((some 28), none, .build [(.val (.int .u8 0)), (.val (.int .i64 0))] [(0, 1, (.tmp 25)), (1, 1, (.tmp 27))]),
         ((some 29), none, .mv (.tmp 4)),
         ((some 30), none, .mv (.tmp 5)),
         ((some 31), none, .indexA 1 (.tmp 29) (.tmp 30)),
         ((some 32), none, .load false 1 (.tmp 31)),
         ((some 33), none, .callv (.tmp 23) [(.tmp 28), (.tmp 32)]),
         ((some 34), none, .un .not (.tmp 33))])
       (.cond (.tmp 34)
        (.ret)
        (.skip)))))
      (.reg [((some 35), none, .bin .add (.tmp 20) (.const (.int .i64 1))),
        ((some 20), none, .mv (.tmp 35))])))))))))
   (.reg [((some 36), none, .bin .add (.tmp 12) (.const (.int .i64 1))),
     ((some 12), none, .mv (.tmp 36))]))))))
theorem k56 : FnOK Try.prog 56 c56 [] 2 := ⟨by kernel_rfl, Try.f56, _, [], Try.func56, rfl, by kernel_rfl, by kernel_rfl, by decide⟩

-- slices.IndexFunc[[]gansey/api.Id,gansey/api.Id]
def c57 : Cmd :=
 .seq [0, 1] (.reg [((some 4), none, .mv (.const (.int .i64 0)))])
 (.seq [] (.seq [0, 1, 7, 8] (.reg [((some 6), none, .mv (.tmp 0)),
   ((some 7), none, .len (.tmp 6)),
   ((some 8), none, .mv (.const (.int .i64 0)))])
 (.block 0
  (.loop [0, 1, 7, 8]
   (.seq [0, 1, 7, 8, 9] (.reg [((some 9), none, .bin .lss (.tmp 8) (.tmp 7))])
   (.seq [0, 1, 7, 8] (.cond (.tmp 9)
    (.skip)
    (.exit 0))
   (.seq [0, 1, 7, 8] (.block 1
    (.seq [0, 1, 5, 7, 8] (.reg [((some 10), none, .mv (.tmp 8)),
      ((some 5), none, .mv (.tmp 10))])
    (.seq [0, 1, 5, 7, 8, 16] (.reg [((some 11), none, .mv (.tmp 1)),
      ((some 12), none, .mv (.tmp 0)),
      ((some 13), none, .mv (.tmp 5)),
      ((some 14), none, .indexA 2 (.tmp 12) (.tmp 13)),
      ((some 15), none, .load true 2 (.tmp 14)),
      ((some 16), none, .callv (.tmp 11) [(.tmp 15)])])
    (.cond (.tmp 16)
     (.seq [4] (.reg [((some 17), none, .mv (.tmp 5)),
       ((some 4), none, .mv (.tmp 17))])
     (.ret))
     (.skip)))))
   (.reg [((some 18), none, .bin .add (.tmp 8) (.const (.int .i64 1))),
     ((some 8), none, .mv (.tmp 18))])))))))
 (.seq [4] (.reg [((some 4), none, .mv (.const (.int .i64 (-1))))])
 (.ret)))
theorem k57 : FnOK Try.prog 57 c57 [.tmp 4] 2 := ⟨by kernel_rfl, Try.f57, _, [], Try.func57, rfl, by kernel_rfl, by kernel_rfl, by decide⟩

-- slices.insertionSortCmpFunc[gansey/orders.Held]
def c58 : Cmd :=
 .seq [0, 1, 2, 3, 8] (.reg [((some 10), none, .mv (.tmp 1)),
   ((some 11), none, .bin .add (.tmp 10) (.const (.int .i64 1))),
   ((some 8), none, .mv (.tmp 11))])
 (.block 0
  (.loop [0, 1, 2, 3, 8]
   (.seq [0, 1, 2, 3, 8] (.seq [0, 1, 2, 3, 8, 14] (.reg [((some 12), none, .mv (.tmp 8)),
     ((some 13), none, .mv (.tmp 2)),
     ((some 14), none, .bin .lss (.tmp 12) (.tmp 13))])
   (.cond (.tmp 14)
    (.skip)
    (.exit 0)))
   (.seq [0, 1, 2, 3, 8] (.block 1
    (.seq [0, 1, 2, 3, 8, 9] (.reg [((some 17), none, .mv (.tmp 8)),
      ((some 9), none, .mv (.tmp 17))])
    (.block 2
     (.loop [0, 1, 2, 3, 8, 9]
      (.seq [0, 1, 2, 3, 8, 9] (.seq [0, 1, 2, 3, 8, 9, 34] (.dreg [] [((some 18), none, .mv (.tmp 9)),
        ((some 19), none, .mv (.tmp 1)),
        ((some 20), none, .bin .gtr (.tmp 18) (.tmp 19)),
        ((some 21), none, .mv (.tmp 20)),
        ((some 22), (some (21, true)), .mv (.tmp 3)),
        ((some 23), (some (21, true)), .mv (.tmp 0)),
        ((some 24), (some (21, true)), .mv (.tmp 9)),
        ((some 25), (some (21, true)), .indexA 5 (.tmp 23) (.tmp 24)),
        ((some 26), (some (21, true)), .load true 5 (.tmp 25)),
        ((some 27), (some (21, true)), .mv (.tmp 0)),
        ((some 28), (some (21, true)), .mv (.tmp 9)),
        ((some 29), (some (21, true)), .bin .sub (.tmp 28) (.const (.int .i64 1))),
        ((some 30), (some (21, true)), .indexA 5 (.tmp 27) (.tmp 29)),
        ((some 31), (some (21, true)), .load true 5 (.tmp 30)),
        ((some 32), (some (21, true)), .callv (.tmp 22) [(.tmp 26), (.tmp 31)]),
        ((some 33), (some (21, true)), .bin .lss (.tmp 32) (.const (.int .i64 0))),
        ((some 34), none, .pick (.tmp 21) (.tmp 33) (.const (.bool false)))]
       [])
      (.cond (.tmp 34)
       (.skip)
       (.exit 2)))
      (.seq [0, 1, 2, 3, 8, 9] (.block 3
       (.sreg [] [((some 37), none, .mv (.tmp 0)),
         ((some 38), none, .mv (.tmp 9)),
         ((some 39), none, .mv (.tmp 0)),
         ((some 40), none, .mv (.tmp 9)),
         ((some 41), none, .bin .sub (.tmp 40) (.const (.int .i64 1))),
         ((some 42), none, .mv (.tmp 0)),
         ((some 43), none, .mv (.tmp 9)),
         ((some 44), none, .bin .sub (.tmp 43) (.const (.int .i64 1))),
         ((some 45), none, .indexA 5 (.tmp 42) (.tmp 44)),
         ((some 46), none, .load true 5 (.tmp 45)),
         ((some 47), none, .mv (.tmp 0)),
         ((some 48), none, .mv (.tmp 9)),
         ((some 49), none, .indexA 5 (.tmp 47) (.tmp 48)),
         ((some 50), none, .load true 5 (.tmp 49)),
         ((some 51), none, .indexA 5 (.tmp 37) (.tmp 38))]
        []
        [((some 39), none, .mv (.tmp 0)),
         ((some 40), none, .mv (.tmp 9)),
         ((some 41), none, .bin .sub (.tmp 40) (.const (.int .i64 1))),
         ((some 47), none, .mv (.tmp 0)),
         ((some 48), none, .mv (.tmp 9)),
         ((some 49), none, .indexA 5 (.tmp 47) (.tmp 48))]
        [((none, none, .store 5 (.tmp 51) (.tmp 46)), [((some 39), none, .mv (.tmp 0)),
         ((some 40), none, .mv (.tmp 9)),
         ((some 41), none, .bin .sub (.tmp 40) (.const (.int .i64 1))),
         ((some 47), none, .mv (.tmp 0)),
         ((some 48), none, .mv (.tmp 9)),
         ((some 49), none, .indexA 5 (.tmp 47) (.tmp 48))]), (((some 52), none, .indexA 5 (.tmp 39) (.tmp 41)), []), ((none, none, .store 5 (.tmp 52) (.tmp 50)), [])]))
      (.reg [((some 35), none, .mv (.tmp 9)),
        ((some 36), none, .bin .sub (.tmp 35) (.const (.int .i64 1))),
        ((some 9), none, .mv (.tmp 36))])))))))
   (.reg [((some 15), none, .mv (.tmp 8)),
     ((some 16), none, .bin .add (.tmp 15) (.const (.int .i64 1))),
     ((some 8), none, .mv (.tmp 16))])))))
theorem k58 : FnOK Try.prog 58 c58 [] 4 := ⟨by kernel_rfl, Try.f58, _, [], Try.func58, rfl, by kernel_rfl, by kernel_rfl, by decide⟩

-- slices.symMergeCmpFunc[gansey/orders.Held]
def c59 : Cmd :=
 .seq [0, 1, 2, 3, 4] (.seq [0, 1, 2, 3, 4, 28] (.reg [((some 25), none, .mv (.tmp 2)),
   ((some 26), none, .mv (.tmp 1)),
   ((some 27), none, .bin .sub (.tmp 25) (.tmp 26)),
   ((some 28), none, .bin .eql (.tmp 27) (.const (.int .i64 1)))])
 (.cond (.tmp 28)
  (.seq [0, 1, 3, 4, 10] (.reg [((some 29), none, .mv (.tmp 2)),
    ((some 10), none, .mv (.tmp 29))])
  (.seq [0, 1, 4, 10, 11] (.reg [((some 30), none, .mv (.tmp 3)),
    ((some 11), none, .mv (.tmp 30))])
  (.seq [0, 1, 10] (.block 0
   (.loop [0, 1, 4, 10, 11]
    (.seq [0, 1, 4, 10, 11] (.seq [0, 1, 4, 10, 11, 33] (.reg [((some 31), none, .mv (.tmp 10)),
      ((some 32), none, .mv (.tmp 11)),
      ((some 33), none, .bin .lss (.tmp 31) (.tmp 32))])
    (.cond (.tmp 33)
     (.skip)
     (.exit 0)))
    (.block 1
     (.seq [0, 1, 4, 10, 11, 12] (.reg [((some 34), none, .mv (.tmp 10)),
       ((some 35), none, .mv (.tmp 11)),
       ((some 36), none, .bin .add (.tmp 34) (.tmp 35)),
       ((some 37), none, .convi .u64 (.tmp 36)),
       ((some 38), none, .bin .shr (.tmp 37) (.const (.int .u64 1))),
       ((some 39), none, .convi .i64 (.tmp 38)),
       ((some 12), none, .mv (.tmp 39))])
     (.seq [0, 1, 4, 10, 11, 12, 50] (.dreg [] [((some 40), none, .mv (.tmp 4)),
       ((some 41), none, .mv (.tmp 0)),
       ((some 42), none, .mv (.tmp 12)),
       ((some 43), none, .indexA 5 (.tmp 41) (.tmp 42)),
       ((some 44), none, .load true 5 (.tmp 43)),
       ((some 45), none, .mv (.tmp 0)),
       ((some 46), none, .mv (.tmp 1)),
       ((some 47), none, .indexA 5 (.tmp 45) (.tmp 46)),
       ((some 48), none, .load true 5 (.tmp 47)),
       ((some 49), none, .callv (.tmp 40) [(.tmp 44), (.tmp 48)]),
       ((some 50), none, .bin .lss (.tmp 49) (.const (.int .i64 0)))]
      [])
     (.cond (.tmp 50)
      (.reg [((some 51), none, .mv (.tmp 12)),
        ((some 52), none, .bin .add (.tmp 51) (.const (.int .i64 1))),
        ((some 10), none, .mv (.tmp 52))])
      (.reg [((some 53), none, .mv (.tmp 12)),
        ((some 11), none, .mv (.tmp 53))]))))))))
  (.seq [] (.seq [0, 10, 13] (.reg [((some 54), none, .mv (.tmp 1)),
    ((some 13), none, .mv (.tmp 54))])
  (.block 2
   (.loop [0, 10, 13]
    (.seq [0, 10, 13] (.seq [0, 10, 13, 58] (.reg [((some 55), none, .mv (.tmp 13)),
      ((some 56), none, .mv (.tmp 10)),
      ((some 57), none, .bin .sub (.tmp 56) (.const (.int .i64 1))),
      ((some 58), none, .bin .lss (.tmp 55) (.tmp 57))])
    (.cond (.tmp 58)
     (.skip)
     (.exit 2)))
    (.seq [0, 10, 13] (.block 3
     (.sreg [] [((some 61), none, .mv (.tmp 0)),
       ((some 62), none, .mv (.tmp 13)),
       ((some 63), none, .mv (.tmp 0)),
       ((some 64), none, .mv (.tmp 13)),
       ((some 65), none, .bin .add (.tmp 64) (.const (.int .i64 1))),
       ((some 66), none, .mv (.tmp 0)),
       ((some 67), none, .mv (.tmp 13)),
       ((some 68), none, .bin .add (.tmp 67) (.const (.int .i64 1))),
       ((some 69), none, .indexA 5 (.tmp 66) (.tmp 68)),
       ((some 70), none, .load true 5 (.tmp 69)),
       ((some 71), none, .mv (.tmp 0)),
       ((some 72), none, .mv (.tmp 13)),
       ((some 73), none, .indexA 5 (.tmp 71) (.tmp 72)),
       ((some 74), none, .load true 5 (.tmp 73)),
       ((some 75), none, .indexA 5 (.tmp 61) (.tmp 62))]
      []
      [((some 63), none, .mv (.tmp 0)),
       ((some 64), none, .mv (.tmp 13)),
       ((some 65), none, .bin .add (.tmp 64) (.const (.int .i64 1))),
       ((some 71), none, .mv (.tmp 0)),
       ((some 72), none, .mv (.tmp 13)),
       ((some 73), none, .indexA 5 (.tmp 71) (.tmp 72))]
      [((none, none, .store 5 (.tmp 75) (.tmp 70)), [((some 63), none, .mv (.tmp 0)),
       ((some 64), none, .mv (.tmp 13)),
       ((some 65), none, .bin .add (.tmp 64) (.const (.int .i64 1))),
       ((some 71), none, .mv (.tmp 0)),
       ((some 72), none, .mv (.tmp 13)),
       ((some 73), none, .indexA 5 (.tmp 71) (.tmp 72))]), (((some 76), none, .indexA 5 (.tmp 63) (.tmp 65)), []), ((none, none, .store 5 (.tmp 76) (.tmp 74)), [])]))
    (.reg [((some 59), none, .mv (.tmp 13)),
      ((some 60), none, .bin .add (.tmp 59) (.const (.int .i64 1))),
      ((some 13), none, .mv (.tmp 60))]))))))
  (.ret)))))
  (.skip)))
 (.seq [0, 1, 2, 3, 4] (.seq [0, 1, 2, 3, 4, 80] (.reg [((some 77), none, .mv (.tmp 3)),
   ((some 78), none, .mv (.tmp 2)),
   ((some 79), none, .bin .sub (.tmp 77) (.tmp 78)),
   ((some 80), none, .bin .eql (.tmp 79) (.const (.int .i64 1)))])
 (.cond (.tmp 80)
  (.seq [0, 2, 4, 14] (.reg [((some 81), none, .mv (.tmp 1)),
    ((some 14), none, .mv (.tmp 81))])
  (.seq [0, 2, 4, 14, 15] (.reg [((some 82), none, .mv (.tmp 2)),
    ((some 15), none, .mv (.tmp 82))])
  (.seq [0, 2, 14] (.block 4
   (.loop [0, 2, 4, 14, 15]
    (.seq [0, 2, 4, 14, 15] (.seq [0, 2, 4, 14, 15, 85] (.reg [((some 83), none, .mv (.tmp 14)),
      ((some 84), none, .mv (.tmp 15)),
      ((some 85), none, .bin .lss (.tmp 83) (.tmp 84))])
    (.cond (.tmp 85)
     (.skip)
     (.exit 4)))
    (.block 5
     (.seq [0, 2, 4, 14, 15, 16] (.reg [((some 86), none, .mv (.tmp 14)),
       ((some 87), none, .mv (.tmp 15)),
       ((some 88), none, .bin .add (.tmp 86) (.tmp 87)),
       ((some 89), none, .convi .u64 (.tmp 88)),
       ((some 90), none, .bin .shr (.tmp 89) (.const (.int .u64 1))),
       ((some 91), none, .convi .i64 (.tmp 90)),
       ((some 16), none, .mv (.tmp 91))])
     (.seq [0, 2, 4, 14, 15, 16, 103] (.dreg [] [((some 92), none, .mv (.tmp 4)),
       ((some 93), none, .mv (.tmp 0)),
       ((some 94), none, .mv (.tmp 2)),
       ((some 95), none, .indexA 5 (.tmp 93) (.tmp 94)),
       ((some 96), none, .load true 5 (.tmp 95)),
       ((some 97), none, .mv (.tmp 0)),
       ((some 98), none, .mv (.tmp 16)),
       ((some 99), none, .indexA 5 (.tmp 97) (.tmp 98)),
       ((some 100), none, .load true 5 (.tmp 99)),
       ((some 101), none, .callv (.tmp 92) [(.tmp 96), (.tmp 100)]),
       ((some 102), none, .bin .lss (.tmp 101) (.const (.int .i64 0))),
       ((some 103), none, .un .not (.tmp 102))]
      [])
     (.cond (.tmp 103)
      (.reg [((some 104), none, .mv (.tmp 16)),
        ((some 105), none, .bin .add (.tmp 104) (.const (.int .i64 1))),
        ((some 14), none, .mv (.tmp 105))])
      (.reg [((some 106), none, .mv (.tmp 16)),
        ((some 15), none, .mv (.tmp 106))]))))))))
  (.seq [] (.seq [0, 14, 17] (.reg [((some 107), none, .mv (.tmp 2)),
    ((some 17), none, .mv (.tmp 107))])
  (.block 6
   (.loop [0, 14, 17]
    (.seq [0, 14, 17] (.seq [0, 14, 17, 110] (.reg [((some 108), none, .mv (.tmp 17)),
      ((some 109), none, .mv (.tmp 14)),
      ((some 110), none, .bin .gtr (.tmp 108) (.tmp 109))])
    (.cond (.tmp 110)
     (.skip)
     (.exit 6)))
    (.seq [0, 14, 17] (.block 7
     (.sreg [] [((some 113), none, .mv (.tmp 0)),
       ((some 114), none, .mv (.tmp 17)),
       ((some 115), none, .mv (.tmp 0)),
       ((some 116), none, .mv (.tmp 17)),
       ((some 117), none, .bin .sub (.tmp 116) (.const (.int .i64 1))),
       ((some 118), none, .mv (.tmp 0)),
       ((some 119), none, .mv (.tmp 17)),
       ((some 120), none, .bin .sub (.tmp 119) (.const (.int .i64 1))),
       ((some 121), none, .indexA 5 (.tmp 118) (.tmp 120)),
       ((some 122), none, .load true 5 (.tmp 121)),
       ((some 123), none, .mv (.tmp 0)),
       ((some 124), none, .mv (.tmp 17)),
       ((some 125), none, .indexA 5 (.tmp 123) (.tmp 124)),
       ((some 126), none, .load true 5 (.tmp 125)),
       ((some 127), none, .indexA 5 (.tmp 113) (.tmp 114))]
      []
      [((some 115), none, .mv (.tmp 0)),
       ((some 116), none, .mv (.tmp 17)),
       ((some 117), none, .bin .sub (.tmp 116) (.const (.int .i64 1))),
       ((some 123), none, .mv (.tmp 0)),
       ((some 124), none, .mv (.tmp 17)),
       ((some 125), none, .indexA 5 (.tmp 123) (.tmp 124))]
      [((none, none, .store 5 (.tmp 127) (.tmp 122)), [((some 115), none, .mv (.tmp 0)),
       ((some 116), none, .mv (.tmp 17)),
       ((some 117), none, .bin .sub (.tmp 116) (.const (.int .i64 1))),
       ((some 123), none, .mv (.tmp 0)),
       ((some 124), none, .mv (.tmp 17)),
       ((some 125), none, .indexA 5 (.tmp 123) (.tmp 124))]), (((some 128), none, .indexA 5 (.tmp 115) (.tmp 117)), []), ((none, none, .store 5 (.tmp 128) (.tmp 126)), [])]))
    (.reg [((some 111), none, .mv (.tmp 17)),
      ((some 112), none, .bin .sub (.tmp 111) (.const (.int .i64 1))),
      ((some 17), none, .mv (.tmp 112))]))))))
  (.ret)))))
  (.skip)))
 (.seq [0, 1, 2, 3, 4, 18] (.reg [((some 129), none, .mv (.tmp 1)),
   ((some 130), none, .mv (.tmp 3)),
   ((some 131), none, .bin .add (.tmp 129) (.tmp 130)),
   ((some 132), none, .convi .u64 (.tmp 131)),
   ((some 133), none, .bin .shr (.tmp 132) (.const (.int .u64 1))),
   ((some 134), none, .convi .i64 (.tmp 133)),
   ((some 18), none, .mv (.tmp 134))])
 (.seq [0, 1, 2, 3, 4, 18, 19] (.reg [((some 135), none, .mv (.tmp 18)),
   ((some 136), none, .mv (.tmp 2)),
   ((some 137), none, .bin .add (.tmp 135) (.tmp 136)),
   ((some 19), none, .mv (.tmp 137))])
 (.seq [0, 1, 2, 3, 4, 18, 19] (.reg [((some 20), none, .mv (.const (.int .i64 0))),
   ((some 21), none, .mv (.const (.int .i64 0)))])
 (.seq [0, 1, 2, 3, 4, 18, 19, 20, 21] (.seq [0, 1, 2, 3, 4, 18, 19, 140] (.reg [((some 138), none, .mv (.tmp 2)),
   ((some 139), none, .mv (.tmp 18)),
   ((some 140), none, .bin .gtr (.tmp 138) (.tmp 139))])
 (.cond (.tmp 140)
  (.seq [0, 1, 2, 3, 4, 18, 19, 20] (.reg [((some 141), none, .mv (.tmp 19)),
    ((some 142), none, .mv (.tmp 3)),
    ((some 143), none, .bin .sub (.tmp 141) (.tmp 142)),
    ((some 20), none, .mv (.tmp 143))])
  (.reg [((some 144), none, .mv (.tmp 18)),
    ((some 21), none, .mv (.tmp 144))]))
  (.seq [0, 1, 2, 3, 4, 18, 19, 20] (.reg [((some 145), none, .mv (.tmp 1)),
    ((some 20), none, .mv (.tmp 145))])
  (.reg [((some 146), none, .mv (.tmp 2)),
    ((some 21), none, .mv (.tmp 146))]))))
 (.seq [0, 1, 2, 3, 4, 18, 19, 20, 21, 22] (.reg [((some 147), none, .mv (.tmp 19)),
   ((some 148), none, .bin .sub (.tmp 147) (.const (.int .i64 1))),
   ((some 22), none, .mv (.tmp 148))])
 (.seq [0, 1, 2, 3, 4, 18, 19, 20] (.block 8
  (.loop [0, 1, 2, 3, 4, 18, 19, 20, 21, 22]
   (.seq [0, 1, 2, 3, 4, 18, 19, 20, 21, 22] (.seq [0, 1, 2, 3, 4, 18, 19, 20, 21, 22, 151] (.reg [((some 149), none, .mv (.tmp 20)),
     ((some 150), none, .mv (.tmp 21)),
     ((some 151), none, .bin .lss (.tmp 149) (.tmp 150))])
   (.cond (.tmp 151)
    (.skip)
    (.exit 8)))
   (.block 9
    (.seq [0, 1, 2, 3, 4, 18, 19, 20, 21, 22, 23] (.reg [((some 152), none, .mv (.tmp 20)),
      ((some 153), none, .mv (.tmp 21)),
      ((some 154), none, .bin .add (.tmp 152) (.tmp 153)),
      ((some 155), none, .convi .u64 (.tmp 154)),
      ((some 156), none, .bin .shr (.tmp 155) (.const (.int .u64 1))),
      ((some 157), none, .convi .i64 (.tmp 156)),
      ((some 23), none, .mv (.tmp 157))])
    (.seq [0, 1, 2, 3, 4, 18, 19, 20, 21, 22, 23, 171] (.dreg [] [((some 158), none, .mv (.tmp 4)),
      ((some 159), none, .mv (.tmp 0)),
      ((some 160), none, .mv (.tmp 22)),
      ((some 161), none, .mv (.tmp 23)),
      ((some 162), none, .bin .sub (.tmp 160) (.tmp 161)),
      ((some 163), none, .indexA 5 (.tmp 159) (.tmp 162)),
      ((some 164), none, .load true 5 (.tmp 163)),
      ((some 165), none, .mv (.tmp 0)),
      ((some 166), none, .mv (.tmp 23)),
      ((some 167), none, .indexA 5 (.tmp 165) (.tmp 166)),
      ((some 168), none, .load true 5 (.tmp 167)),
      ((some 169), none, .callv (.tmp 158) [(.tmp 164), (.tmp 168)]),
      ((some 170), none, .bin .lss (.tmp 169) (.const (.int .i64 0))),
      ((some 171), none, .un .not (.tmp 170))]
     [])
    (.cond (.tmp 171)
     (.reg [((some 172), none, .mv (.tmp 23)),
       ((some 173), none, .bin .add (.tmp 172) (.const (.int .i64 1))),
       ((some 20), none, .mv (.tmp 173))])
     (.reg [((some 174), none, .mv (.tmp 23)),
       ((some 21), none, .mv (.tmp 174))]))))))))
 (.seq [0, 1, 2, 3, 4, 18, 20, 24] (.reg [((some 175), none, .mv (.tmp 19)),
   ((some 176), none, .mv (.tmp 20)),
   ((some 177), none, .bin .sub (.tmp 175) (.tmp 176)),
   ((some 24), none, .mv (.tmp 177))])
 (.seq [0, 1, 3, 4, 18, 20, 24] (.seq [0, 1, 2, 3, 4, 18, 20, 24, 185] (.reg [((some 178), none, .mv (.tmp 20)),
   ((some 179), none, .mv (.tmp 2)),
   ((some 180), none, .bin .lss (.tmp 178) (.tmp 179)),
   ((some 181), none, .mv (.tmp 180)),
   ((some 182), (some (181, true)), .mv (.tmp 2)),
   ((some 183), (some (181, true)), .mv (.tmp 24)),
   ((some 184), (some (181, true)), .bin .lss (.tmp 182) (.tmp 183)),
   ((some 185), none, .pick (.tmp 181) (.tmp 184) (.const (.bool false)))])
 (.cond (.tmp 185)
  (.reg [((some 186), none, .mv (.tmp 0)),
    ((some 187), none, .mv (.tmp 20)),
    ((some 188), none, .mv (.tmp 2)),
    ((some 189), none, .mv (.tmp 24)),
    ((some 190), none, .mv (.tmp 4)),
    ((some 191), none, .call 60 [(.tmp 186), (.tmp 187), (.tmp 188), (.tmp 189), (.tmp 190)])])
  (.skip)))
 (.seq [0, 3, 4, 18, 24] (.seq [0, 1, 3, 4, 18, 20, 24, 199] (.reg [((some 192), none, .mv (.tmp 1)),
   ((some 193), none, .mv (.tmp 20)),
   ((some 194), none, .bin .lss (.tmp 192) (.tmp 193)),
   ((some 195), none, .mv (.tmp 194)),
   ((some 196), (some (195, true)), .mv (.tmp 20)),
   ((some 197), (some (195, true)), .mv (.tmp 18)),
   ((some 198), (some (195, true)), .bin .lss (.tmp 196) (.tmp 197)),
   ((some 199), none, .pick (.tmp 195) (.tmp 198) (.const (.bool false)))])
 (.cond (.tmp 199)
  (.reg [((some 200), none, .mv (.tmp 0)),
    ((some 201), none, .mv (.tmp 1)),
    ((some 202), none, .mv (.tmp 20)),
    ((some 203), none, .mv (.tmp 18)),
    ((some 204), none, .mv (.tmp 4)),
    ((some 205), none, .call 59 [(.tmp 200), (.tmp 201), (.tmp 202), (.tmp 203), (.tmp 204)])])
  (.skip)))
 (.seq [0, 3, 4, 18, 24, 213] (.reg [((some 206), none, .mv (.tmp 18)),
   ((some 207), none, .mv (.tmp 24)),
   ((some 208), none, .bin .lss (.tmp 206) (.tmp 207)),
   ((some 209), none, .mv (.tmp 208)),
   ((some 210), (some (209, true)), .mv (.tmp 24)),
   ((some 211), (some (209, true)), .mv (.tmp 3)),
   ((some 212), (some (209, true)), .bin .lss (.tmp 210) (.tmp 211)),
   ((some 213), none, .pick (.tmp 209) (.tmp 212) (.const (.bool false)))])
 (.cond (.tmp 213)
  (.reg [((some 214), none, .mv (.tmp 0)),
    ((some 215), none, .mv (.tmp 18)),
    ((some 216), none, .mv (.tmp 24)),
    ((some 217), none, .mv (.tmp 3)),
    ((some 218), none, .mv (.tmp 4)),
    ((some 219), none, .call 59 [(.tmp 214), (.tmp 215), (.tmp 216), (.tmp 217), (.tmp 218)])])
  (.skip)))))))))))))
theorem k59 : FnOK Try.prog 59 c59 [] 5 := ⟨by kernel_rfl, Try.f59, _, [], Try.func59, rfl, by kernel_rfl, by kernel_rfl, by decide⟩

-- slices.rotateCmpFunc[gansey/orders.Held]
def c60 : Cmd :=
 .seq [0, 2, 3, 4, 10] (.reg [((some 12), none, .mv (.tmp 2)),
   ((some 13), none, .mv (.tmp 1)),
   ((some 14), none, .bin .sub (.tmp 12) (.tmp 13)),
   ((some 10), none, .mv (.tmp 14))])
 (.seq [0, 2, 4, 10, 11] (.reg [((some 15), none, .mv (.tmp 3)),
   ((some 16), none, .mv (.tmp 2)),
   ((some 17), none, .bin .sub (.tmp 15) (.tmp 16)),
   ((some 11), none, .mv (.tmp 17))])
 (.seq [0, 2, 4, 10] (.block 0
  (.loop [0, 2, 4, 10, 11]
   (.seq [0, 2, 4, 10, 11] (.seq [0, 2, 4, 10, 11, 20] (.reg [((some 18), none, .mv (.tmp 10)),
     ((some 19), none, .mv (.tmp 11)),
     ((some 20), none, .bin .neq (.tmp 18) (.tmp 19))])
   (.cond (.tmp 20)
    (.skip)
    (.exit 0)))
   (.block 1
    (.seq [0, 2, 4, 10, 11, 23] (.reg [((some 21), none, .mv (.tmp 10)),
      ((some 22), none, .mv (.tmp 11)),
      ((some 23), none, .bin .gtr (.tmp 21) (.tmp 22))])
    (.cond (.tmp 23)
     (.seq [0, 2, 4, 10, 11] (.reg [((some 24), none, .mv (.tmp 0)),
       ((some 25), none, .mv (.tmp 2)),
       ((some 26), none, .mv (.tmp 10)),
       ((some 27), none, .bin .sub (.tmp 25) (.tmp 26)),
       ((some 28), none, .mv (.tmp 2)),
       ((some 29), none, .mv (.tmp 11)),
       ((some 30), none, .mv (.tmp 4)),
       ((some 31), none, .call 61 [(.tmp 24), (.tmp 27), (.tmp 28), (.tmp 29), (.tmp 30)])])
     (.reg [((some 32), none, .mv (.tmp 10)),
       ((some 33), none, .mv (.tmp 11)),
       ((some 34), none, .bin .sub (.tmp 32) (.tmp 33)),
       ((some 10), none, .mv (.tmp 34))]))
     (.seq [0, 2, 4, 10, 11] (.reg [((some 35), none, .mv (.tmp 0)),
       ((some 36), none, .mv (.tmp 2)),
       ((some 37), none, .mv (.tmp 10)),
       ((some 38), none, .bin .sub (.tmp 36) (.tmp 37)),
       ((some 39), none, .mv (.tmp 2)),
       ((some 40), none, .mv (.tmp 11)),
       ((some 41), none, .bin .add (.tmp 39) (.tmp 40)),
       ((some 42), none, .mv (.tmp 10)),
       ((some 43), none, .bin .sub (.tmp 41) (.tmp 42)),
       ((some 44), none, .mv (.tmp 10)),
       ((some 45), none, .mv (.tmp 4)),
       ((some 46), none, .call 61 [(.tmp 35), (.tmp 38), (.tmp 43), (.tmp 44), (.tmp 45)])])
     (.reg [((some 47), none, .mv (.tmp 11)),
       ((some 48), none, .mv (.tmp 10)),
       ((some 49), none, .bin .sub (.tmp 47) (.tmp 48)),
       ((some 11), none, .mv (.tmp 49))]))))))))
 (.reg [((some 50), none, .mv (.tmp 0)),
   ((some 51), none, .mv (.tmp 2)),
   ((some 52), none, .mv (.tmp 10)),
   ((some 53), none, .bin .sub (.tmp 51) (.tmp 52)),
   ((some 54), none, .mv (.tmp 2)),
   ((some 55), none, .mv (.tmp 10)),
   ((some 56), none, .mv (.tmp 4)),
   ((some 57), none, .call 61 [(.tmp 50), (.tmp 53), (.tmp 54), (.tmp 55), (.tmp 56)])])))
theorem k60 : FnOK Try.prog 60 c60 [] 5 := ⟨by kernel_rfl, Try.f60, _, [], Try.func60, rfl, by kernel_rfl, by kernel_rfl, by decide⟩

-- slices.swapRangeCmpFunc[gansey/orders.Held]
def c61 : Cmd :=
 .seq [0, 1, 2, 3, 10] (.reg [((some 10), none, .mv (.const (.int .i64 0)))])
 (.block 0
  (.loop [0, 1, 2, 3, 10]
   (.seq [0, 1, 2, 3, 10] (.seq [0, 1, 2, 3, 10, 13] (.reg [((some 11), none, .mv (.tmp 10)),
     ((some 12), none, .mv (.tmp 3)),
     ((some 13), none, .bin .lss (.tmp 11) (.tmp 12))])
   (.cond (.tmp 13)
    (.skip)
    (.exit 0)))
   (.seq [0, 1, 2, 3, 10] (.block 1
    (.sreg [] [((some 16), none, .mv (.tmp 0)),
      ((some 17), none, .mv (.tmp 1)),
      ((some 18), none, .mv (.tmp 10)),
      ((some 19), none, .bin .add (.tmp 17) (.tmp 18)),
      ((some 20), none, .mv (.tmp 0)),
      ((some 21), none, .mv (.tmp 2)),
      ((some 22), none, .mv (.tmp 10)),
      ((some 23), none, .bin .add (.tmp 21) (.tmp 22)),
      ((some 24), none, .mv (.tmp 0)),
      ((some 25), none, .mv (.tmp 2)),
      ((some 26), none, .mv (.tmp 10)),
      ((some 27), none, .bin .add (.tmp 25) (.tmp 26)),
      ((some 28), none, .indexA 5 (.tmp 24) (.tmp 27)),
      ((some 29), none, .load true 5 (.tmp 28)),
      ((some 30), none, .mv (.tmp 0)),
      ((some 31), none, .mv (.tmp 1)),
      ((some 32), none, .mv (.tmp 10)),
      ((some 33), none, .bin .add (.tmp 31) (.tmp 32)),
      ((some 34), none, .indexA 5 (.tmp 30) (.tmp 33)),
      ((some 35), none, .load true 5 (.tmp 34)),
      ((some 36), none, .indexA 5 (.tmp 16) (.tmp 19))]
     []
     [((some 20), none, .mv (.tmp 0)),
      ((some 21), none, .mv (.tmp 2)),
      ((some 22), none, .mv (.tmp 10)),
      ((some 23), none, .bin .add (.tmp 21) (.tmp 22)),
      ((some 30), none, .mv (.tmp 0)),
      ((some 31), none, .mv (.tmp 1)),
      ((some 32), none, .mv (.tmp 10)),
      ((some 33), none, .bin .add (.tmp 31) (.tmp 32)),
      ((some 34), none, .indexA 5 (.tmp 30) (.tmp 33))]
     [((none, none, .store 5 (.tmp 36) (.tmp 29)), [((some 20), none, .mv (.tmp 0)),
      ((some 21), none, .mv (.tmp 2)),
      ((some 22), none, .mv (.tmp 10)),
      ((some 23), none, .bin .add (.tmp 21) (.tmp 22)),
      ((some 30), none, .mv (.tmp 0)),
      ((some 31), none, .mv (.tmp 1)),
      ((some 32), none, .mv (.tmp 10)),
      ((some 33), none, .bin .add (.tmp 31) (.tmp 32)),
      ((some 34), none, .indexA 5 (.tmp 30) (.tmp 33))]), (((some 37), none, .indexA 5 (.tmp 20) (.tmp 23)), []), ((none, none, .store 5 (.tmp 37) (.tmp 35)), [])]))
   (.reg [((some 14), none, .mv (.tmp 10)),
     ((some 15), none, .bin .add (.tmp 14) (.const (.int .i64 1))),
     ((some 10), none, .mv (.tmp 15))])))))
theorem k61 : FnOK Try.prog 61 c61 [] 5 := ⟨by kernel_rfl, Try.f61, _, [], Try.func61, rfl, by kernel_rfl, by kernel_rfl, by decide⟩

-- slices.Clone[[]gansey/api.Id,gansey/api.Id]
def c45w : Cmd :=
 .seq [0] (.reg [((some 2), none, .mv (.const (.slice none 0 0)))])
 (.seq [0] (.seq [0, 4] (.reg [((some 3), none, .mv (.tmp 0)),
   ((some 4), none, .eqnil 0 false (.tmp 3))])
 (.cond (.tmp 4)
  (.seq [2] (.reg [((some 2), none, .mv (.const (.slice none 0 0)))])
  (.ret))
  (.skip)))
 (.seq [2] (.reg [((some 5), none, .blist 2 []),
   ((some 6), none, .mv (.tmp 0)),
   ((some 7), none, .append true 35 2 16 (.tmp 5) (.tmp 6)),
   ((some 2), none, .mv (.tmp 7))])
 (.ret)))
theorem k45w : FnOK Try.prog 45 c45w [.tmp 2] 1 := ⟨by kernel_rfl, Try.f45, _, [7], Try.func45, rfl, by kernel_rfl, by kernel_rfl, by decide⟩

end Go.Proofs.Ytembkknplmcamaa
