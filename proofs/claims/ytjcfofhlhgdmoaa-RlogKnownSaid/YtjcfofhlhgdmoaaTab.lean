/-
  What the functions of the program are, one by one, in a form that can be run; that this is what they are, by computation.
-/
import Derived.Test.YtjcfofhlhgdmoaaChecked
import Derived.Test.YtjcfofhlhgdmoaaGlbTop
import Derived.KernelRfl
namespace Go.Proofs.Ytjcfofhlhgdmoaa
open Go Glb Go.Proofs
set_option maxRecDepth 100000

/-- glebe/glebelaw11.RlogThere -/
def fn3 : AFn := ⟨186, fun s => List.contains [0, 1, 2, 3, 6, 7, 8, 9, 11, 12, 13, 14, 15, 16, 17, 25, 47, 61, 83, 118, 133, 135] s, (.seq (.reg [⟨(.loc 3), (.h (.box (.loc 0))), none⟩,
  ⟨(.loc 6), (.r (.mov (.cst (.bool false)))), none⟩])
 (.seq (.seq (.reg [⟨(.tmp 19), (.r (.load true 3 (.loc 3))), none⟩,
  ⟨(.tmp 20), (.call 9 [(.tmp 19)]), none⟩,
  ⟨(.tmp 21), (.r (.not (.tmp 20))), none⟩,
  ⟨(.tmp 22), (.r (.mov (.tmp 21))), none⟩,
  ⟨(.tmp 23), (.r (.mov (.loc 2))), (some ((.tmp 22), false))⟩,
  ⟨(.tmp 24), (.call 10 [(.tmp 23), (.cst (.int .i64 2000)), (.cst (.int .i64 65536))]), (some ((.tmp 22), false))⟩,
  ⟨(.loc 25), (.r (.pick (.tmp 22) (.cst (.bool true)) (.tmp 24))), none⟩])
 (.cond (.loc 25) (.seq (.reg [⟨(.tmp 26), (.call 11 []), none⟩,
  ⟨(.loc 6), (.r (.mov (.tmp 26))), none⟩])
 .ret)
 .skip))
 (.seq (.reg [⟨(.tmp 28), (.r (.load true 3 (.loc 3))), none⟩,
  ⟨(.tmp 29), (.r (.mov (.loc 1))), none⟩,
  ⟨(.tmp 30), (.r (.mov (.loc 2))), none⟩,
  ⟨(.tmp 31), (.call 12 [(.tmp 28), (.tmp 29), (.tmp 30)]), none⟩,
  ⟨(.tmp 27), (.r (.mov (.tmp 31))), none⟩,
  ⟨(.tmp 32), (.r (.ext (.tmp 27) 0)), none⟩,
  ⟨(.tmp 33), (.r (.ext (.tmp 27) 1)), none⟩,
  ⟨(.loc 7), (.h (.mk [(.int .i64 0), (.int .i64 0), .nils])), none⟩,
  ⟨.none, (.h (.store 3 (.loc 7) (.tmp 32))), none⟩,
  ⟨(.loc 8), (.r (.mov (.tmp 33))), none⟩])
 (.seq (.reg [⟨(.tmp 35), (.r (.load true 3 (.loc 3))), none⟩,
  ⟨(.tmp 36), (.call 13 [(.tmp 35)]), none⟩,
  ⟨(.tmp 34), (.r (.mov (.tmp 36))), none⟩,
  ⟨(.tmp 37), (.r (.ext (.tmp 34) 0)), none⟩,
  ⟨(.tmp 38), (.r (.ext (.tmp 34) 1)), none⟩,
  ⟨(.loc 9), (.r (.mov (.tmp 37))), none⟩,
  ⟨(.tmp 10), (.r (.mov (.tmp 38))), none⟩])
 (.seq (.seq (.reg [⟨(.tmp 39), (.r (.mov (.loc 1))), none⟩,
  ⟨(.tmp 40), (.r (.off 0 (.loc 3))), none⟩,
  ⟨(.tmp 41), (.r (.load false 1 (.tmp 40))), none⟩,
  ⟨(.tmp 42), (.r (.bin .lss (.tmp 39) (.tmp 41))), none⟩,
  ⟨(.tmp 43), (.r (.mov (.tmp 42))), none⟩,
  ⟨(.tmp 44), (.r (.mov (.loc 1))), (some ((.tmp 43), false))⟩,
  ⟨(.tmp 45), (.r (.mov (.loc 9))), (some ((.tmp 43), false))⟩,
  ⟨(.tmp 46), (.r (.bin .gtr (.tmp 44) (.tmp 45))), (some ((.tmp 43), false))⟩,
  ⟨(.loc 47), (.r (.pick (.tmp 43) (.cst (.bool true)) (.tmp 46))), none⟩])
 (.cond (.loc 47) (.seq (.reg [⟨(.tmp 48), (.r (.mov (.loc 8))), none⟩,
  ⟨(.tmp 49), (.r (.bin .eql (.tmp 48) (.cst (.int .i64 0)))), none⟩,
  ⟨(.tmp 50), (.r (.mov (.tmp 49))), none⟩,
  ⟨(.tmp 51), (.r (.load true 3 (.loc 7))), (some ((.tmp 50), true))⟩,
  ⟨(.tmp 52), (.r (.load true 3 (.loc 3))), (some ((.tmp 50), true))⟩,
  ⟨(.tmp 53), (.call 14 [(.tmp 51), (.tmp 52)]), (some ((.tmp 50), true))⟩,
  ⟨(.tmp 54), (.r (.pick (.tmp 50) (.tmp 53) (.cst (.bool false)))), none⟩,
  ⟨(.tmp 55), (.r (.mov (.tmp 54))), none⟩,
  ⟨(.tmp 56), (.call 11 []), (some ((.tmp 55), true))⟩,
  ⟨(.tmp 57), (.r (.pick (.tmp 55) (.tmp 56) (.cst (.bool false)))), none⟩,
  ⟨(.loc 6), (.r (.mov (.tmp 57))), none⟩])
 .ret)
 .skip))
 (.seq (.seq (.reg [⟨(.loc 11), (.r (.mov (.cst (.int .i64 0)))), none⟩])
 (.block 0 (.loop (.seq (.seq (.reg [⟨(.tmp 58), (.r (.mov (.loc 11))), none⟩,
  ⟨(.tmp 59), (.r (.mov (.loc 2))), none⟩,
  ⟨(.tmp 60), (.r (.len (.tmp 59))), none⟩,
  ⟨(.loc 61), (.r (.bin .lss (.tmp 58) (.tmp 60))), none⟩])
 (.cond (.loc 61) .skip
 (.exit 0)))
 (.seq (.block 1 (.seq (.reg [⟨(.tmp 65), (.r (.load true 3 (.loc 7))), none⟩,
  ⟨(.tmp 66), (.r (.mov (.loc 1))), none⟩,
  ⟨(.tmp 67), (.r (.bin .add (.tmp 66) (.cst (.int .i64 1)))), none⟩,
  ⟨(.tmp 68), (.r (.mov (.loc 11))), none⟩,
  ⟨(.tmp 69), (.r (.bin .add (.tmp 67) (.tmp 68))), none⟩,
  ⟨(.tmp 70), (.call 15 [(.tmp 65), (.tmp 69)]), none⟩,
  ⟨(.tmp 64), (.r (.mov (.tmp 70))), none⟩,
  ⟨(.tmp 71), (.r (.ext (.tmp 64) 0)), none⟩,
  ⟨(.tmp 72), (.r (.ext (.tmp 64) 1)), none⟩,
  ⟨(.loc 12), (.r (.mov (.tmp 71))), none⟩,
  ⟨(.loc 13), (.r (.mov (.tmp 72))), none⟩])
 (.seq (.reg [⟨(.tmp 73), (.r (.mov (.loc 13))), none⟩,
  ⟨(.tmp 74), (.r (.not (.tmp 73))), none⟩,
  ⟨(.tmp 75), (.r (.mov (.tmp 74))), none⟩,
  ⟨(.tmp 76), (.r (.mov (.loc 12))), (some ((.tmp 75), false))⟩,
  ⟨(.tmp 77), (.r (.mov (.loc 2))), (some ((.tmp 75), false))⟩,
  ⟨(.tmp 78), (.r (.mov (.loc 11))), (some ((.tmp 75), false))⟩,
  ⟨(.tmp 79), (.r (.idx 3 (.tmp 77) (.tmp 78))), (some ((.tmp 75), false))⟩,
  ⟨(.tmp 80), (.r (.off 0 (.tmp 79))), (some ((.tmp 75), false))⟩,
  ⟨(.tmp 81), (.r (.load false 1 (.tmp 80))), (some ((.tmp 75), false))⟩,
  ⟨(.tmp 82), (.r (.bin .neq (.tmp 76) (.tmp 81))), (some ((.tmp 75), false))⟩,
  ⟨(.loc 83), (.r (.pick (.tmp 75) (.cst (.bool true)) (.tmp 82))), none⟩])
 (.cond (.loc 83) (.seq (.reg [⟨(.loc 6), (.r (.mov (.cst (.bool false)))), none⟩])
 .ret)
 .skip))))
 (.reg [⟨(.tmp 62), (.r (.mov (.loc 11))), none⟩,
  ⟨(.tmp 63), (.r (.bin .add (.tmp 62) (.cst (.int .i64 1)))), none⟩,
  ⟨(.loc 11), (.r (.mov (.tmp 63))), none⟩]))))))
 (.seq (.reg [⟨(.tmp 84), (.r (.mov (.loc 1))), none⟩,
  ⟨(.tmp 85), (.r (.off 0 (.loc 3))), none⟩,
  ⟨(.tmp 86), (.r (.load false 1 (.tmp 85))), none⟩,
  ⟨(.tmp 87), (.r (.bin .sub (.tmp 84) (.tmp 86))), none⟩,
  ⟨(.loc 14), (.r (.mov (.tmp 87))), none⟩])
 (.seq (.seq (.dreg ⟨[0, 1, 0, 4, 15, 31, 63, 127, 63, 319, 1023, 2047, 4095, 8191, 16383, 32767, 8191, 131071, 262143, 524287, 1048575, 2097151, 1048575, 8388607, 1048575, 17825791, 1048575, 118489087, 268435455, 536870911, 1073741823], 0, [⟨0, 0, false, (.r (.off 0 (.loc 7))), none⟩,
  ⟨1, 0, false, (.r (.load false 1 (.tmp 0))), none⟩,
  ⟨2, 0, false, (.r (.off 0 (.loc 3))), none⟩,
  ⟨3, 0, false, (.r (.load false 1 (.tmp 2))), none⟩,
  ⟨4, 0, false, (.r (.bin .neq (.tmp 1) (.tmp 3))), none⟩,
  ⟨5, 0, false, (.r (.mov (.tmp 4))), none⟩,
  ⟨6, 0, false, (.r (.off 1 (.loc 7))), (some ((.tmp 5), false))⟩,
  ⟨7, 0, false, (.r (.load false 1 (.tmp 6))), (some ((.tmp 5), false))⟩,
  ⟨8, 0, false, (.r (.off 1 (.loc 3))), (some ((.tmp 5), false))⟩,
  ⟨9, 0, false, (.r (.load false 1 (.tmp 8))), (some ((.tmp 5), false))⟩,
  ⟨10, 0, false, (.r (.bin .neq (.tmp 7) (.tmp 9))), (some ((.tmp 5), false))⟩,
  ⟨11, 0, false, (.r (.pick (.tmp 5) (.cst (.bool true)) (.tmp 10))), none⟩,
  ⟨12, 0, false, (.r (.mov (.tmp 11))), none⟩,
  ⟨13, 0, false, (.r (.off 2 (.loc 7))), (some ((.tmp 12), false))⟩,
  ⟨14, 0, false, (.r (.load false 1 (.tmp 13))), (some ((.tmp 12), false))⟩,
  ⟨15, 0, false, (.r (.len (.tmp 14))), (some ((.tmp 12), false))⟩,
  ⟨16, 0, false, (.r (.mov (.loc 14))), (some ((.tmp 12), false))⟩,
  ⟨17, 0, false, (.r (.bin .lss (.tmp 15) (.tmp 16))), (some ((.tmp 12), false))⟩,
  ⟨18, 0, false, (.r (.pick (.tmp 12) (.cst (.bool true)) (.tmp 17))), none⟩,
  ⟨19, 0, false, (.r (.mov (.tmp 18))), none⟩,
  ⟨20, 0, false, (.r (.off 2 (.loc 7))), (some ((.tmp 19), false))⟩,
  ⟨21, 0, false, (.r (.load false 1 (.tmp 20))), (some ((.tmp 19), false))⟩,
  ⟨22, 0, false, (.r (.mov (.loc 14))), (some ((.tmp 19), false))⟩,
  ⟨23, 0, false, (.r (.slc 3 (.tmp 21) none (some (.tmp 22)) none)), (some ((.tmp 19), false))⟩,
  ⟨24, 0, false, (.r (.off 2 (.loc 3))), (some ((.tmp 19), false))⟩,
  ⟨25, 0, false, (.r (.load false 1 (.tmp 24))), (some ((.tmp 19), false))⟩,
  ⟨26, 0, false, (.r (.mov (.loc 14))), (some ((.tmp 19), false))⟩,
  ⟨27, 0, false, (.r (.slc 3 (.tmp 25) none (some (.tmp 26)) none)), (some ((.tmp 19), false))⟩,
  ⟨28, 0, true, (.call 16 [(.tmp 23), (.tmp 27)]), (some ((.tmp 19), false))⟩,
  ⟨29, 0, false, (.r (.not (.tmp 28))), (some ((.tmp 19), false))⟩,
  ⟨30, 0, false, (.r (.pick (.tmp 19) (.cst (.bool true)) (.tmp 29))), none⟩], [(118, 30)]⟩)
 (.cond (.loc 118) (.seq (.reg [⟨(.loc 6), (.r (.mov (.cst (.bool false)))), none⟩])
 .ret)
 .skip))
 (.seq (.reg [⟨(.tmp 120), (.r (.load true 3 (.loc 7))), none⟩,
  ⟨(.tmp 121), (.r (.mov (.loc 1))), none⟩,
  ⟨(.tmp 122), (.r (.mov (.loc 2))), none⟩,
  ⟨(.tmp 123), (.call 12 [(.tmp 120), (.tmp 121), (.tmp 122)]), none⟩,
  ⟨(.tmp 119), (.r (.mov (.tmp 123))), none⟩,
  ⟨(.tmp 124), (.r (.ext (.tmp 119) 0)), none⟩,
  ⟨(.tmp 125), (.r (.ext (.tmp 119) 1)), none⟩,
  ⟨(.loc 15), (.h (.mk [(.int .i64 0), (.int .i64 0), .nils])), none⟩,
  ⟨.none, (.h (.store 3 (.loc 15) (.tmp 124))), none⟩,
  ⟨(.loc 16), (.r (.mov (.tmp 125))), none⟩])
 (.seq (.seq (.reg [⟨(.tmp 126), (.r (.mov (.loc 16))), none⟩,
  ⟨(.tmp 127), (.r (.bin .neq (.tmp 126) (.cst (.int .i64 0)))), none⟩,
  ⟨(.tmp 128), (.r (.mov (.tmp 127))), none⟩,
  ⟨(.tmp 129), (.r (.load true 3 (.loc 7))), (some ((.tmp 128), false))⟩,
  ⟨(.tmp 130), (.r (.load true 3 (.loc 15))), (some ((.tmp 128), false))⟩,
  ⟨(.tmp 131), (.call 14 [(.tmp 129), (.tmp 130)]), (some ((.tmp 128), false))⟩,
  ⟨(.tmp 132), (.r (.not (.tmp 131))), (some ((.tmp 128), false))⟩,
  ⟨(.loc 133), (.r (.pick (.tmp 128) (.cst (.bool true)) (.tmp 132))), none⟩])
 (.cond (.loc 133) (.seq (.reg [⟨(.loc 6), (.r (.mov (.cst (.bool false)))), none⟩])
 .ret)
 .skip))
 (.seq (.seq (.reg [⟨(.tmp 134), (.r (.mov (.loc 8))), none⟩,
  ⟨(.loc 135), (.r (.bin .eql (.tmp 134) (.cst (.int .i64 0)))), none⟩])
 (.cond (.loc 135) (.seq (.reg [⟨(.tmp 136), (.r (.load true 3 (.loc 7))), none⟩,
  ⟨(.tmp 137), (.r (.load true 3 (.loc 3))), none⟩,
  ⟨(.tmp 138), (.call 14 [(.tmp 136), (.tmp 137)]), none⟩,
  ⟨(.tmp 139), (.r (.mov (.tmp 138))), none⟩,
  ⟨(.tmp 140), (.call 11 []), (some ((.tmp 139), true))⟩,
  ⟨(.tmp 141), (.r (.pick (.tmp 139) (.tmp 140) (.cst (.bool false)))), none⟩,
  ⟨(.loc 6), (.r (.mov (.tmp 141))), none⟩])
 .ret)
 .skip))
 (.seq (.reg [⟨(.tmp 143), (.r (.load true 3 (.loc 7))), none⟩,
  ⟨(.tmp 144), (.call 13 [(.tmp 143)]), none⟩,
  ⟨(.tmp 142), (.r (.mov (.tmp 144))), none⟩,
  ⟨(.tmp 145), (.r (.ext (.tmp 142) 0)), none⟩,
  ⟨(.tmp 146), (.r (.ext (.tmp 142) 1)), none⟩,
  ⟨(.loc 17), (.r (.mov (.tmp 145))), none⟩,
  ⟨(.tmp 18), (.r (.mov (.tmp 146))), none⟩])
 (.seq (.dreg ⟨[0, 0, 3, 7, 15, 15, 15, 79, 239, 511, 1023, 2047, 4095, 4095, 4095, 20479, 61439, 131071, 262143, 524287, 1048575, 2097151, 1048575, 1048575, 9437183, 30408703, 63963135, 134217727, 1048575, 1048575, 1048575, 1611661311, 3759144959, 8322547711, 17179869183, 34359738367, 68719476735, 137438953471, 274877906943, 549755813887], 0, [⟨0, 0, false, (.r (.mov (.loc 8))), none⟩,
  ⟨1, 0, false, (.r (.mov (.loc 1))), none⟩,
  ⟨2, 0, false, (.r (.bin .gtr (.tmp 0) (.tmp 1))), none⟩,
  ⟨3, 0, false, (.r (.mov (.tmp 2))), none⟩,
  ⟨4, 0, false, (.r (.mov (.loc 8))), (some ((.tmp 3), true))⟩,
  ⟨5, 0, false, (.r (.mov (.loc 1))), (some ((.tmp 3), true))⟩,
  ⟨6, 0, false, (.r (.mov (.loc 2))), (some ((.tmp 3), true))⟩,
  ⟨7, 0, false, (.r (.len (.tmp 6))), (some ((.tmp 3), true))⟩,
  ⟨8, 0, false, (.r (.bin .add (.tmp 5) (.tmp 7))), (some ((.tmp 3), true))⟩,
  ⟨9, 0, false, (.r (.bin .leq (.tmp 4) (.tmp 8))), (some ((.tmp 3), true))⟩,
  ⟨10, 0, false, (.r (.pick (.tmp 3) (.tmp 9) (.cst (.bool false)))), none⟩,
  ⟨11, 0, false, (.r (.mov (.tmp 10))), none⟩,
  ⟨12, 0, false, (.r (.mov (.loc 17))), (some ((.tmp 11), true))⟩,
  ⟨13, 0, false, (.r (.mov (.loc 1))), (some ((.tmp 11), true))⟩,
  ⟨14, 0, false, (.r (.mov (.loc 2))), (some ((.tmp 11), true))⟩,
  ⟨15, 0, false, (.r (.len (.tmp 14))), (some ((.tmp 11), true))⟩,
  ⟨16, 0, false, (.r (.bin .add (.tmp 13) (.tmp 15))), (some ((.tmp 11), true))⟩,
  ⟨17, 0, false, (.r (.bin .eql (.tmp 12) (.tmp 16))), (some ((.tmp 11), true))⟩,
  ⟨18, 0, false, (.r (.pick (.tmp 11) (.tmp 17) (.cst (.bool false)))), none⟩,
  ⟨19, 0, false, (.r (.mov (.tmp 18))), none⟩,
  ⟨20, 0, false, (.r (.off 2 (.loc 7))), (some ((.tmp 19), true))⟩,
  ⟨21, 0, false, (.r (.load false 1 (.tmp 20))), (some ((.tmp 19), true))⟩,
  ⟨22, 0, false, (.r (.mov (.loc 8))), (some ((.tmp 19), true))⟩,
  ⟨23, 0, false, (.r (.off 0 (.loc 3))), (some ((.tmp 19), true))⟩,
  ⟨24, 0, false, (.r (.load false 1 (.tmp 23))), (some ((.tmp 19), true))⟩,
  ⟨25, 0, false, (.r (.bin .sub (.tmp 22) (.tmp 24))), (some ((.tmp 19), true))⟩,
  ⟨26, 0, false, (.r (.bin .sub (.tmp 25) (.cst (.int .i64 1)))), (some ((.tmp 19), true))⟩,
  ⟨27, 0, false, (.r (.slc 3 (.tmp 21) (some (.tmp 26)) none none)), (some ((.tmp 19), true))⟩,
  ⟨28, 0, false, (.r (.mov (.loc 2))), (some ((.tmp 19), true))⟩,
  ⟨29, 0, false, (.r (.mov (.loc 8))), (some ((.tmp 19), true))⟩,
  ⟨30, 0, false, (.r (.mov (.loc 1))), (some ((.tmp 19), true))⟩,
  ⟨31, 0, false, (.r (.bin .sub (.tmp 29) (.tmp 30))), (some ((.tmp 19), true))⟩,
  ⟨32, 0, false, (.r (.bin .sub (.tmp 31) (.cst (.int .i64 1)))), (some ((.tmp 19), true))⟩,
  ⟨33, 0, false, (.r (.slc 3 (.tmp 28) (some (.tmp 32)) none none)), (some ((.tmp 19), true))⟩,
  ⟨34, 0, true, (.call 16 [(.tmp 27), (.tmp 33)]), (some ((.tmp 19), true))⟩,
  ⟨35, 0, false, (.r (.pick (.tmp 19) (.tmp 34) (.cst (.bool false)))), none⟩,
  ⟨36, 0, false, (.r (.mov (.tmp 35))), none⟩,
  ⟨37, 0, true, (.call 11 []), (some ((.tmp 36), true))⟩,
  ⟨38, 0, false, (.r (.pick (.tmp 36) (.tmp 37) (.cst (.bool false)))), none⟩,
  ⟨39, 0, false, (.r (.mov (.tmp 38))), none⟩], [(6, 39)]⟩)
 .ret))))))))))))), [(.tmp (.loc 6))]⟩
theorem fn3_ok : cFn Try.prog fn3.keep 3 = some fn3 := by kernel_rfl

/-- glebe/glebelaw11.RlogLays -/
def fn4 : AFn := ⟨91, fun s => List.contains [0, 1, 2, 3, 6, 7, 8, 9, 10, 11, 12, 13, 14, 15, 16, 17, 24] s, (.seq (.reg [⟨(.loc 3), (.h (.box (.loc 0))), none⟩,
  ⟨(.loc 6), (.r (.mov (.cst (.bool false)))), none⟩])
 (.seq (.seq (.reg [⟨(.tmp 18), (.r (.load true 3 (.loc 3))), none⟩,
  ⟨(.tmp 19), (.call 9 [(.tmp 18)]), none⟩,
  ⟨(.tmp 20), (.r (.not (.tmp 19))), none⟩,
  ⟨(.tmp 21), (.r (.mov (.tmp 20))), none⟩,
  ⟨(.tmp 22), (.r (.mov (.loc 2))), (some ((.tmp 21), false))⟩,
  ⟨(.tmp 23), (.call 10 [(.tmp 22), (.cst (.int .i64 2000)), (.cst (.int .i64 65536))]), (some ((.tmp 21), false))⟩,
  ⟨(.loc 24), (.r (.pick (.tmp 21) (.cst (.bool true)) (.tmp 23))), none⟩])
 (.cond (.loc 24) (.seq (.reg [⟨(.tmp 25), (.call 11 []), none⟩,
  ⟨(.loc 6), (.r (.mov (.tmp 25))), none⟩])
 .ret)
 .skip))
 (.seq (.reg [⟨(.tmp 26), (.r (.load true 3 (.loc 3))), none⟩,
  ⟨(.tmp 27), (.call 17 [(.tmp 26)]), none⟩,
  ⟨(.loc 7), (.h (.mk [(.int .i64 0), (.int .i64 0), .nils])), none⟩,
  ⟨.none, (.h (.store 3 (.loc 7) (.tmp 27))), none⟩])
 (.seq (.reg [⟨(.tmp 28), (.r (.mov (.loc 2))), none⟩,
  ⟨(.tmp 29), (.call 18 [(.tmp 28)]), none⟩,
  ⟨(.loc 8), (.r (.mov (.tmp 29))), none⟩])
 (.seq (.reg [⟨(.tmp 31), (.r (.load true 3 (.loc 7))), none⟩,
  ⟨(.tmp 32), (.r (.mov (.loc 1))), none⟩,
  ⟨(.tmp 33), (.r (.mov (.loc 8))), none⟩,
  ⟨(.tmp 34), (.call 12 [(.tmp 31), (.tmp 32), (.tmp 33)]), none⟩,
  ⟨(.tmp 30), (.r (.mov (.tmp 34))), none⟩,
  ⟨(.tmp 35), (.r (.ext (.tmp 30) 0)), none⟩,
  ⟨(.tmp 36), (.r (.ext (.tmp 30) 1)), none⟩,
  ⟨(.loc 9), (.h (.mk [(.int .i64 0), (.int .i64 0), .nils])), none⟩,
  ⟨.none, (.h (.store 3 (.loc 9) (.tmp 35))), none⟩,
  ⟨(.loc 10), (.r (.mov (.tmp 36))), none⟩])
 (.seq (.reg [⟨(.tmp 38), (.r (.load true 3 (.loc 3))), none⟩,
  ⟨(.tmp 39), (.r (.mov (.loc 1))), none⟩,
  ⟨(.tmp 40), (.r (.mov (.loc 2))), none⟩,
  ⟨(.tmp 41), (.call 19 [(.tmp 38), (.tmp 39), (.tmp 40)]), none⟩,
  ⟨(.tmp 37), (.r (.mov (.tmp 41))), none⟩,
  ⟨(.tmp 42), (.r (.ext (.tmp 37) 0)), none⟩,
  ⟨(.tmp 43), (.r (.ext (.tmp 37) 1)), none⟩,
  ⟨(.loc 11), (.h (.mk [(.int .i64 0), (.int .i64 0), .nils])), none⟩,
  ⟨.none, (.h (.store 3 (.loc 11) (.tmp 42))), none⟩,
  ⟨(.loc 12), (.r (.mov (.tmp 43))), none⟩])
 (.seq (.reg [⟨(.tmp 45), (.r (.load true 3 (.loc 7))), none⟩,
  ⟨(.tmp 46), (.r (.mov (.loc 1))), none⟩,
  ⟨(.tmp 47), (.call 20 [(.tmp 45), (.tmp 46)]), none⟩,
  ⟨(.tmp 44), (.r (.mov (.tmp 47))), none⟩,
  ⟨(.tmp 48), (.r (.ext (.tmp 44) 0)), none⟩,
  ⟨(.tmp 49), (.r (.ext (.tmp 44) 1)), none⟩,
  ⟨(.loc 13), (.h (.mk [(.int .i64 0), (.int .i64 0), .nils])), none⟩,
  ⟨.none, (.h (.store 3 (.loc 13) (.tmp 48))), none⟩,
  ⟨(.loc 14), (.r (.mov (.tmp 49))), none⟩])
 (.seq (.reg [⟨(.tmp 51), (.r (.load true 3 (.loc 3))), none⟩,
  ⟨(.tmp 52), (.r (.mov (.loc 1))), none⟩,
  ⟨(.tmp 53), (.call 21 [(.tmp 51), (.tmp 52)]), none⟩,
  ⟨(.tmp 50), (.r (.mov (.tmp 53))), none⟩,
  ⟨(.tmp 54), (.r (.ext (.tmp 50) 0)), none⟩,
  ⟨(.tmp 55), (.r (.ext (.tmp 50) 1)), none⟩,
  ⟨(.loc 15), (.h (.mk [(.int .i64 0), (.int .i64 0), .nils])), none⟩,
  ⟨.none, (.h (.store 3 (.loc 15) (.tmp 54))), none⟩,
  ⟨(.loc 16), (.r (.mov (.tmp 55))), none⟩])
 (.seq (.reg [⟨(.tmp 56), (.r (.load true 3 (.loc 9))), none⟩,
  ⟨(.tmp 57), (.r (.load true 3 (.loc 11))), none⟩,
  ⟨(.tmp 58), (.call 14 [(.tmp 56), (.tmp 57)]), none⟩,
  ⟨(.tmp 59), (.r (.mov (.tmp 58))), none⟩,
  ⟨(.tmp 60), (.r (.mov (.loc 10))), (some ((.tmp 59), true))⟩,
  ⟨(.tmp 61), (.r (.mov (.loc 12))), (some ((.tmp 59), true))⟩,
  ⟨(.tmp 62), (.r (.bin .eql (.tmp 60) (.tmp 61))), (some ((.tmp 59), true))⟩,
  ⟨(.tmp 63), (.r (.pick (.tmp 59) (.tmp 62) (.cst (.bool false)))), none⟩,
  ⟨(.tmp 64), (.r (.mov (.tmp 63))), none⟩,
  ⟨(.tmp 65), (.r (.load true 3 (.loc 13))), (some ((.tmp 64), true))⟩,
  ⟨(.tmp 66), (.r (.load true 3 (.loc 15))), (some ((.tmp 64), true))⟩,
  ⟨(.tmp 67), (.call 14 [(.tmp 65), (.tmp 66)]), (some ((.tmp 64), true))⟩,
  ⟨(.tmp 68), (.r (.pick (.tmp 64) (.tmp 67) (.cst (.bool false)))), none⟩,
  ⟨(.tmp 69), (.r (.mov (.tmp 68))), none⟩,
  ⟨(.tmp 70), (.r (.mov (.loc 14))), (some ((.tmp 69), true))⟩,
  ⟨(.tmp 71), (.r (.mov (.loc 16))), (some ((.tmp 69), true))⟩,
  ⟨(.tmp 72), (.r (.bin .eql (.tmp 70) (.tmp 71))), (some ((.tmp 69), true))⟩,
  ⟨(.tmp 73), (.r (.pick (.tmp 69) (.tmp 72) (.cst (.bool false)))), none⟩,
  ⟨(.loc 17), (.r (.mov (.tmp 73))), none⟩])
 (.seq (.reg [⟨(.tmp 74), (.r (.off 2 (.loc 9))), none⟩,
  ⟨(.tmp 75), (.r (.load false 1 (.tmp 74))), none⟩,
  ⟨(.tmp 76), (.call 22 [(.tmp 75)]), none⟩])
 (.seq (.reg [⟨(.tmp 77), (.r (.off 2 (.loc 13))), none⟩,
  ⟨(.tmp 78), (.r (.load false 1 (.tmp 77))), none⟩,
  ⟨(.tmp 79), (.call 22 [(.tmp 78)]), none⟩])
 (.seq (.reg [⟨(.tmp 80), (.r (.mov (.loc 17))), none⟩,
  ⟨(.tmp 81), (.r (.mov (.tmp 80))), none⟩,
  ⟨(.tmp 82), (.r (.load true 3 (.loc 7))), (some ((.tmp 81), true))⟩,
  ⟨(.tmp 83), (.r (.load true 3 (.loc 3))), (some ((.tmp 81), true))⟩,
  ⟨(.tmp 84), (.call 14 [(.tmp 82), (.tmp 83)]), (some ((.tmp 81), true))⟩,
  ⟨(.tmp 85), (.r (.pick (.tmp 81) (.tmp 84) (.cst (.bool false)))), none⟩,
  ⟨(.tmp 86), (.r (.mov (.tmp 85))), none⟩,
  ⟨(.tmp 87), (.r (.mov (.loc 8))), (some ((.tmp 86), true))⟩,
  ⟨(.tmp 88), (.r (.mov (.loc 2))), (some ((.tmp 86), true))⟩,
  ⟨(.tmp 89), (.call 16 [(.tmp 87), (.tmp 88)]), (some ((.tmp 86), true))⟩,
  ⟨(.tmp 90), (.r (.pick (.tmp 86) (.tmp 89) (.cst (.bool false)))), none⟩,
  ⟨(.loc 6), (.r (.mov (.tmp 90))), none⟩])
 .ret)))))))))))), [(.tmp (.loc 6))]⟩
theorem fn4_ok : cFn Try.prog fn4.keep 4 = some fn4 := by kernel_rfl

/-- glebe/glebelaw11.RlogOrder -/
def fn5 : AFn := ⟨98, fun s => List.contains [0, 1, 2, 3, 4, 5, 6, 7, 8, 9, 10, 11, 12, 13, 14, 27, 68] s, (.seq (.reg [⟨(.loc 3), (.h (.box (.loc 0))), none⟩,
  ⟨(.loc 4), (.h (.box (.loc 1))), none⟩,
  ⟨(.loc 5), (.h (.box (.loc 2))), none⟩,
  ⟨(.loc 6), (.r (.mov (.cst (.bool false)))), none⟩])
 (.seq (.seq (.reg [⟨(.tmp 15), (.r (.load true 3 (.loc 3))), none⟩,
  ⟨(.tmp 16), (.call 9 [(.tmp 15)]), none⟩,
  ⟨(.tmp 17), (.r (.not (.tmp 16))), none⟩,
  ⟨(.tmp 18), (.r (.mov (.tmp 17))), none⟩,
  ⟨(.tmp 19), (.r (.load true 3 (.loc 4))), (some ((.tmp 18), false))⟩,
  ⟨(.tmp 20), (.call 9 [(.tmp 19)]), (some ((.tmp 18), false))⟩,
  ⟨(.tmp 21), (.r (.not (.tmp 20))), (some ((.tmp 18), false))⟩,
  ⟨(.tmp 22), (.r (.pick (.tmp 18) (.cst (.bool true)) (.tmp 21))), none⟩,
  ⟨(.tmp 23), (.r (.mov (.tmp 22))), none⟩,
  ⟨(.tmp 24), (.r (.load true 3 (.loc 5))), (some ((.tmp 23), false))⟩,
  ⟨(.tmp 25), (.call 9 [(.tmp 24)]), (some ((.tmp 23), false))⟩,
  ⟨(.tmp 26), (.r (.not (.tmp 25))), (some ((.tmp 23), false))⟩,
  ⟨(.loc 27), (.r (.pick (.tmp 23) (.cst (.bool true)) (.tmp 26))), none⟩])
 (.cond (.loc 27) (.seq (.reg [⟨(.tmp 28), (.call 11 []), none⟩,
  ⟨(.loc 6), (.r (.mov (.tmp 28))), none⟩])
 .ret)
 .skip))
 (.seq (.reg [⟨(.tmp 30), (.r (.load true 3 (.loc 3))), none⟩,
  ⟨(.tmp 31), (.call 13 [(.tmp 30)]), none⟩,
  ⟨(.tmp 29), (.r (.mov (.tmp 31))), none⟩,
  ⟨(.tmp 32), (.r (.ext (.tmp 29) 0)), none⟩,
  ⟨(.tmp 33), (.r (.ext (.tmp 29) 1)), none⟩,
  ⟨(.loc 7), (.r (.mov (.tmp 32))), none⟩,
  ⟨(.loc 8), (.r (.mov (.tmp 33))), none⟩])
 (.seq (.reg [⟨(.tmp 35), (.r (.load true 3 (.loc 4))), none⟩,
  ⟨(.tmp 36), (.call 13 [(.tmp 35)]), none⟩,
  ⟨(.tmp 34), (.r (.mov (.tmp 36))), none⟩,
  ⟨(.tmp 37), (.r (.ext (.tmp 34) 0)), none⟩,
  ⟨(.tmp 38), (.r (.ext (.tmp 34) 1)), none⟩,
  ⟨(.loc 9), (.r (.mov (.tmp 37))), none⟩,
  ⟨(.loc 10), (.r (.mov (.tmp 38))), none⟩])
 (.seq (.reg [⟨(.tmp 39), (.r (.load true 3 (.loc 3))), none⟩,
  ⟨(.tmp 40), (.r (.mov (.loc 9))), none⟩,
  ⟨(.tmp 41), (.r (.mov (.loc 10))), none⟩,
  ⟨(.tmp 42), (.call 23 [(.tmp 39), (.tmp 40), (.tmp 41)]), none⟩,
  ⟨(.loc 11), (.r (.mov (.tmp 42))), none⟩])
 (.seq (.reg [⟨(.tmp 43), (.r (.load true 3 (.loc 4))), none⟩,
  ⟨(.tmp 44), (.r (.mov (.loc 7))), none⟩,
  ⟨(.tmp 45), (.r (.mov (.loc 8))), none⟩,
  ⟨(.tmp 46), (.call 23 [(.tmp 43), (.tmp 44), (.tmp 45)]), none⟩,
  ⟨(.loc 12), (.r (.mov (.tmp 46))), none⟩])
 (.seq (.seq (.reg [⟨(.tmp 47), (.r (.mov (.loc 11))), none⟩,
  ⟨(.tmp 48), (.r (.not (.tmp 47))), none⟩,
  ⟨(.tmp 49), (.r (.mov (.tmp 48))), none⟩,
  ⟨(.tmp 50), (.r (.mov (.loc 12))), (some ((.tmp 49), true))⟩,
  ⟨(.tmp 51), (.r (.not (.tmp 50))), (some ((.tmp 49), true))⟩,
  ⟨(.tmp 52), (.r (.pick (.tmp 49) (.tmp 51) (.cst (.bool false)))), none⟩,
  ⟨(.tmp 53), (.r (.mov (.tmp 52))), none⟩,
  ⟨(.tmp 54), (.r (.mov (.loc 11))), (some ((.tmp 53), false))⟩,
  ⟨(.tmp 55), (.r (.mov (.tmp 54))), (some ((.tmp 53), false))⟩,
  ⟨(.tmp 56), (.r (.mov (.loc 12))), (some ((.tmp 55), true))⟩,
  ⟨(.tmp 57), (.r (.pick (.tmp 55) (.tmp 56) (.cst (.bool false)))), (some ((.tmp 53), false))⟩,
  ⟨(.tmp 58), (.r (.mov (.tmp 57))), (some ((.tmp 53), false))⟩,
  ⟨(.tmp 59), (.r (.mov (.loc 7))), (some ((.tmp 58), true))⟩,
  ⟨(.tmp 60), (.r (.mov (.loc 9))), (some ((.tmp 58), true))⟩,
  ⟨(.tmp 61), (.r (.bin .neq (.tmp 59) (.tmp 60))), (some ((.tmp 58), true))⟩,
  ⟨(.tmp 62), (.r (.mov (.tmp 61))), (some ((.tmp 58), true))⟩,
  ⟨(.tmp 63), (.r (.mov (.loc 8))), (some ((.tmp 62), false))⟩,
  ⟨(.tmp 64), (.r (.mov (.loc 10))), (some ((.tmp 62), false))⟩,
  ⟨(.tmp 65), (.r (.bin .neq (.tmp 63) (.tmp 64))), (some ((.tmp 62), false))⟩,
  ⟨(.tmp 66), (.r (.pick (.tmp 62) (.cst (.bool true)) (.tmp 65))), (some ((.tmp 58), true))⟩,
  ⟨(.tmp 67), (.r (.pick (.tmp 58) (.tmp 66) (.cst (.bool false)))), (some ((.tmp 53), false))⟩,
  ⟨(.loc 68), (.r (.pick (.tmp 53) (.cst (.bool true)) (.tmp 67))), none⟩])
 (.cond (.loc 68) (.seq (.reg [⟨(.loc 6), (.r (.mov (.cst (.bool false)))), none⟩])
 .ret)
 .skip))
 (.seq (.reg [⟨(.tmp 70), (.r (.load true 3 (.loc 5))), none⟩,
  ⟨(.tmp 71), (.call 13 [(.tmp 70)]), none⟩,
  ⟨(.tmp 69), (.r (.mov (.tmp 71))), none⟩,
  ⟨(.tmp 72), (.r (.ext (.tmp 69) 0)), none⟩,
  ⟨(.tmp 73), (.r (.ext (.tmp 69) 1)), none⟩,
  ⟨(.loc 13), (.r (.mov (.tmp 72))), none⟩,
  ⟨(.loc 14), (.r (.mov (.tmp 73))), none⟩])
 (.seq (.reg [⟨(.tmp 74), (.r (.mov (.loc 11))), none⟩,
  ⟨(.tmp 75), (.r (.not (.tmp 74))), none⟩,
  ⟨(.tmp 76), (.r (.mov (.tmp 75))), none⟩,
  ⟨(.tmp 77), (.r (.load true 3 (.loc 4))), (some ((.tmp 76), false))⟩,
  ⟨(.tmp 78), (.r (.mov (.loc 13))), (some ((.tmp 76), false))⟩,
  ⟨(.tmp 79), (.r (.mov (.loc 14))), (some ((.tmp 76), false))⟩,
  ⟨(.tmp 80), (.call 23 [(.tmp 77), (.tmp 78), (.tmp 79)]), (some ((.tmp 76), false))⟩,
  ⟨(.tmp 81), (.r (.not (.tmp 80))), (some ((.tmp 76), false))⟩,
  ⟨(.tmp 82), (.r (.pick (.tmp 76) (.cst (.bool true)) (.tmp 81))), none⟩,
  ⟨(.tmp 83), (.r (.mov (.tmp 82))), none⟩,
  ⟨(.tmp 84), (.r (.load true 3 (.loc 3))), (some ((.tmp 83), false))⟩,
  ⟨(.tmp 85), (.r (.mov (.loc 13))), (some ((.tmp 83), false))⟩,
  ⟨(.tmp 86), (.r (.mov (.loc 14))), (some ((.tmp 83), false))⟩,
  ⟨(.tmp 87), (.call 23 [(.tmp 84), (.tmp 85), (.tmp 86)]), (some ((.tmp 83), false))⟩,
  ⟨(.tmp 88), (.r (.pick (.tmp 83) (.cst (.bool true)) (.tmp 87))), none⟩,
  ⟨(.tmp 89), (.r (.mov (.tmp 88))), none⟩,
  ⟨(.tmp 90), (.r (.load true 3 (.loc 3))), (some ((.tmp 89), true))⟩,
  ⟨(.tmp 91), (.r (.mov (.loc 7))), (some ((.tmp 89), true))⟩,
  ⟨(.tmp 92), (.r (.mov (.loc 8))), (some ((.tmp 89), true))⟩,
  ⟨(.tmp 93), (.call 23 [(.tmp 90), (.tmp 91), (.tmp 92)]), (some ((.tmp 89), true))⟩,
  ⟨(.tmp 94), (.r (.pick (.tmp 89) (.tmp 93) (.cst (.bool false)))), none⟩,
  ⟨(.tmp 95), (.r (.mov (.tmp 94))), none⟩,
  ⟨(.tmp 96), (.call 11 []), (some ((.tmp 95), true))⟩,
  ⟨(.tmp 97), (.r (.pick (.tmp 95) (.tmp 96) (.cst (.bool false)))), none⟩,
  ⟨(.loc 6), (.r (.mov (.tmp 97))), none⟩])
 .ret))))))))), [(.tmp (.loc 6))]⟩
theorem fn5_ok : cFn Try.prog fn5.keep 5 = some fn5 := by kernel_rfl

/-- glebe/glebelaw11.RlogAsks -/
def fn6 : AFn := ⟨95, fun s => List.contains [0, 1, 2, 3, 6, 7, 8, 9, 10, 11, 12, 13, 14, 15, 16, 17, 20] s, (.seq (.reg [⟨(.loc 3), (.h (.box (.loc 0))), none⟩,
  ⟨(.loc 6), (.r (.mov (.cst (.bool false)))), none⟩])
 (.seq (.seq (.reg [⟨(.tmp 18), (.r (.load true 3 (.loc 3))), none⟩,
  ⟨(.tmp 19), (.call 9 [(.tmp 18)]), none⟩,
  ⟨(.loc 20), (.r (.not (.tmp 19))), none⟩])
 (.cond (.loc 20) (.seq (.reg [⟨(.tmp 21), (.call 11 []), none⟩,
  ⟨(.loc 6), (.r (.mov (.tmp 21))), none⟩])
 .ret)
 .skip))
 (.seq (.reg [⟨(.tmp 22), (.r (.load true 3 (.loc 3))), none⟩,
  ⟨(.tmp 23), (.call 17 [(.tmp 22)]), none⟩,
  ⟨(.loc 7), (.h (.mk [(.int .i64 0), (.int .i64 0), .nils])), none⟩,
  ⟨.none, (.h (.store 3 (.loc 7) (.tmp 23))), none⟩])
 (.seq (.reg [⟨(.tmp 25), (.r (.load true 3 (.loc 7))), none⟩,
  ⟨(.tmp 26), (.call 13 [(.tmp 25)]), none⟩,
  ⟨(.tmp 24), (.r (.mov (.tmp 26))), none⟩,
  ⟨(.tmp 27), (.r (.ext (.tmp 24) 0)), none⟩,
  ⟨(.tmp 28), (.r (.ext (.tmp 24) 1)), none⟩,
  ⟨(.loc 8), (.r (.mov (.tmp 27))), none⟩,
  ⟨(.loc 9), (.r (.mov (.tmp 28))), none⟩])
 (.seq (.reg [⟨(.tmp 30), (.r (.load true 3 (.loc 3))), none⟩,
  ⟨(.tmp 31), (.call 24 [(.tmp 30)]), none⟩,
  ⟨(.tmp 29), (.r (.mov (.tmp 31))), none⟩,
  ⟨(.tmp 32), (.r (.ext (.tmp 29) 0)), none⟩,
  ⟨(.tmp 33), (.r (.ext (.tmp 29) 1)), none⟩,
  ⟨(.loc 10), (.r (.mov (.tmp 32))), none⟩,
  ⟨(.loc 11), (.r (.mov (.tmp 33))), none⟩])
 (.seq (.reg [⟨(.tmp 35), (.r (.load true 3 (.loc 7))), none⟩,
  ⟨(.tmp 36), (.r (.mov (.loc 1))), none⟩,
  ⟨(.tmp 37), (.call 15 [(.tmp 35), (.tmp 36)]), none⟩,
  ⟨(.tmp 34), (.r (.mov (.tmp 37))), none⟩,
  ⟨(.tmp 38), (.r (.ext (.tmp 34) 0)), none⟩,
  ⟨(.tmp 39), (.r (.ext (.tmp 34) 1)), none⟩,
  ⟨(.loc 12), (.r (.mov (.tmp 38))), none⟩,
  ⟨(.loc 13), (.r (.mov (.tmp 39))), none⟩])
 (.seq (.reg [⟨(.tmp 41), (.r (.load true 3 (.loc 3))), none⟩,
  ⟨(.tmp 42), (.r (.mov (.loc 1))), none⟩,
  ⟨(.tmp 43), (.call 25 [(.tmp 41), (.tmp 42)]), none⟩,
  ⟨(.tmp 40), (.r (.mov (.tmp 43))), none⟩,
  ⟨(.tmp 44), (.r (.ext (.tmp 40) 0)), none⟩,
  ⟨(.tmp 45), (.r (.ext (.tmp 40) 1)), none⟩,
  ⟨(.loc 14), (.r (.mov (.tmp 44))), none⟩,
  ⟨(.loc 15), (.r (.mov (.tmp 45))), none⟩])
 (.seq (.reg [⟨(.tmp 46), (.r (.load true 3 (.loc 7))), none⟩,
  ⟨(.tmp 47), (.r (.mov (.loc 1))), none⟩,
  ⟨(.tmp 48), (.r (.mov (.loc 2))), none⟩,
  ⟨(.tmp 49), (.call 26 [(.tmp 46), (.tmp 47), (.tmp 48)]), none⟩,
  ⟨(.loc 16), (.r (.mov (.tmp 49))), none⟩])
 (.seq (.dreg ⟨[0, 0, 3, 7, 15, 15, 63, 127, 255, 511, 511, 2047, 4095, 8191, 16383, 16383, 65535, 131071, 262143, 524287, 524287, 524287, 4194303, 524287, 524287, 524287, 67108863, 134217727, 268435455, 536870911, 1073741823, 1073741823, 1073741823, 1073741823, 16106127359, 34359738367, 68719476735, 137438953471], 0, [⟨0, 0, false, (.r (.mov (.loc 8))), none⟩,
  ⟨1, 0, false, (.r (.mov (.loc 10))), none⟩,
  ⟨2, 0, false, (.r (.bin .eql (.tmp 0) (.tmp 1))), none⟩,
  ⟨3, 0, false, (.r (.mov (.tmp 2))), none⟩,
  ⟨4, 0, false, (.r (.mov (.loc 9))), (some ((.tmp 3), true))⟩,
  ⟨5, 0, false, (.r (.mov (.loc 11))), (some ((.tmp 3), true))⟩,
  ⟨6, 0, false, (.r (.bin .eql (.tmp 4) (.tmp 5))), (some ((.tmp 3), true))⟩,
  ⟨7, 0, false, (.r (.pick (.tmp 3) (.tmp 6) (.cst (.bool false)))), none⟩,
  ⟨8, 0, false, (.r (.mov (.tmp 7))), none⟩,
  ⟨9, 0, false, (.r (.mov (.loc 12))), (some ((.tmp 8), true))⟩,
  ⟨10, 0, false, (.r (.mov (.loc 14))), (some ((.tmp 8), true))⟩,
  ⟨11, 0, false, (.r (.bin .eql (.tmp 9) (.tmp 10))), (some ((.tmp 8), true))⟩,
  ⟨12, 0, false, (.r (.pick (.tmp 8) (.tmp 11) (.cst (.bool false)))), none⟩,
  ⟨13, 0, false, (.r (.mov (.tmp 12))), none⟩,
  ⟨14, 0, false, (.r (.mov (.loc 13))), (some ((.tmp 13), true))⟩,
  ⟨15, 0, false, (.r (.mov (.loc 15))), (some ((.tmp 13), true))⟩,
  ⟨16, 0, false, (.r (.beq .eql (.tmp 14) (.tmp 15))), (some ((.tmp 13), true))⟩,
  ⟨17, 0, false, (.r (.pick (.tmp 13) (.tmp 16) (.cst (.bool false)))), none⟩,
  ⟨18, 0, false, (.r (.mov (.tmp 17))), none⟩,
  ⟨19, 0, false, (.r (.load true 3 (.loc 7))), (some ((.tmp 18), true))⟩,
  ⟨20, 0, false, (.r (.mov (.loc 1))), (some ((.tmp 18), true))⟩,
  ⟨21, 0, false, (.r (.mov (.loc 2))), (some ((.tmp 18), true))⟩,
  ⟨23, 0, false, (.r (.load true 3 (.loc 3))), (some ((.tmp 18), true))⟩,
  ⟨24, 0, false, (.r (.mov (.loc 1))), (some ((.tmp 18), true))⟩,
  ⟨25, 0, false, (.r (.mov (.loc 2))), (some ((.tmp 18), true))⟩,
  ⟨22, 0, true, (.call 23 [(.tmp 19), (.tmp 20), (.tmp 21)]), (some ((.tmp 18), true))⟩,
  ⟨26, 0, true, (.call 27 [(.tmp 23), (.tmp 24), (.tmp 25)]), (some ((.tmp 18), true))⟩,
  ⟨27, 0, false, (.r (.beq .eql (.tmp 22) (.tmp 26))), (some ((.tmp 18), true))⟩,
  ⟨28, 0, false, (.r (.pick (.tmp 18) (.tmp 27) (.cst (.bool false)))), none⟩,
  ⟨29, 0, false, (.r (.mov (.tmp 28))), none⟩,
  ⟨30, 0, false, (.r (.mov (.loc 16))), (some ((.tmp 29), true))⟩,
  ⟨31, 0, false, (.r (.load true 3 (.loc 3))), (some ((.tmp 29), true))⟩,
  ⟨32, 0, false, (.r (.mov (.loc 1))), (some ((.tmp 29), true))⟩,
  ⟨33, 0, false, (.r (.mov (.loc 2))), (some ((.tmp 29), true))⟩,
  ⟨34, 0, true, (.call 28 [(.tmp 31), (.tmp 32), (.tmp 33)]), (some ((.tmp 29), true))⟩,
  ⟨35, 0, true, (.call 16 [(.tmp 30), (.tmp 34)]), (some ((.tmp 29), true))⟩,
  ⟨36, 0, false, (.r (.pick (.tmp 29) (.tmp 35) (.cst (.bool false)))), none⟩,
  ⟨37, 0, false, (.r (.mov (.tmp 36))), none⟩], [(17, 37)]⟩)
 (.seq (.reg [⟨(.tmp 87), (.r (.mov (.loc 16))), none⟩,
  ⟨(.tmp 88), (.call 22 [(.tmp 87)]), none⟩])
 (.seq (.reg [⟨(.tmp 89), (.r (.mov (.loc 17))), none⟩,
  ⟨(.tmp 90), (.r (.mov (.tmp 89))), none⟩,
  ⟨(.tmp 91), (.r (.load true 3 (.loc 7))), (some ((.tmp 90), true))⟩,
  ⟨(.tmp 92), (.r (.load true 3 (.loc 3))), (some ((.tmp 90), true))⟩,
  ⟨(.tmp 93), (.call 14 [(.tmp 91), (.tmp 92)]), (some ((.tmp 90), true))⟩,
  ⟨(.tmp 94), (.r (.pick (.tmp 90) (.tmp 93) (.cst (.bool false)))), none⟩,
  ⟨(.loc 6), (.r (.mov (.tmp 94))), none⟩])
 .ret))))))))))), [(.tmp (.loc 6))]⟩
theorem fn6_ok : cFn Try.prog fn6.keep 6 = some fn6 := by kernel_rfl

/-- glebe/glebelaw11.RlogCut -/
def fn7 : AFn := ⟨139, fun s => List.contains [0, 1, 2, 4, 5, 6, 7, 8, 9, 10, 11, 12, 13, 14, 15, 17, 20, 41, 85, 89, 126] s, (.seq (.reg [⟨(.loc 2), (.h (.box (.loc 0))), none⟩,
  ⟨(.loc 4), (.r (.mov (.cst (.bool false)))), none⟩])
 (.seq (.seq (.reg [⟨(.tmp 18), (.r (.load true 3 (.loc 2))), none⟩,
  ⟨(.tmp 19), (.call 9 [(.tmp 18)]), none⟩,
  ⟨(.loc 20), (.r (.not (.tmp 19))), none⟩])
 (.cond (.loc 20) (.seq (.reg [⟨(.tmp 21), (.call 11 []), none⟩,
  ⟨(.loc 4), (.r (.mov (.tmp 21))), none⟩])
 .ret)
 .skip))
 (.seq (.reg [⟨(.tmp 23), (.r (.load true 3 (.loc 2))), none⟩,
  ⟨(.tmp 24), (.call 13 [(.tmp 23)]), none⟩,
  ⟨(.tmp 22), (.r (.mov (.tmp 24))), none⟩,
  ⟨(.tmp 25), (.r (.ext (.tmp 22) 0)), none⟩,
  ⟨(.tmp 26), (.r (.ext (.tmp 22) 1)), none⟩,
  ⟨(.loc 5), (.r (.mov (.tmp 25))), none⟩,
  ⟨(.loc 6), (.r (.mov (.tmp 26))), none⟩])
 (.seq (.reg [⟨(.tmp 28), (.r (.load true 3 (.loc 2))), none⟩,
  ⟨(.tmp 29), (.r (.mov (.loc 1))), none⟩,
  ⟨(.tmp 30), (.call 20 [(.tmp 28), (.tmp 29)]), none⟩,
  ⟨(.tmp 27), (.r (.mov (.tmp 30))), none⟩,
  ⟨(.tmp 31), (.r (.ext (.tmp 27) 0)), none⟩,
  ⟨(.tmp 32), (.r (.ext (.tmp 27) 1)), none⟩,
  ⟨(.loc 7), (.h (.mk [(.int .i64 0), (.int .i64 0), .nils])), none⟩,
  ⟨.none, (.h (.store 3 (.loc 7) (.tmp 31))), none⟩,
  ⟨(.loc 8), (.r (.mov (.tmp 32))), none⟩])
 (.seq (.seq (.reg [⟨(.tmp 33), (.r (.mov (.loc 1))), none⟩,
  ⟨(.tmp 34), (.r (.off 0 (.loc 2))), none⟩,
  ⟨(.tmp 35), (.r (.load false 1 (.tmp 34))), none⟩,
  ⟨(.tmp 36), (.r (.bin .lss (.tmp 33) (.tmp 35))), none⟩,
  ⟨(.tmp 37), (.r (.mov (.tmp 36))), none⟩,
  ⟨(.tmp 38), (.r (.mov (.loc 1))), (some ((.tmp 37), false))⟩,
  ⟨(.tmp 39), (.r (.mov (.loc 5))), (some ((.tmp 37), false))⟩,
  ⟨(.tmp 40), (.r (.bin .gtr (.tmp 38) (.tmp 39))), (some ((.tmp 37), false))⟩,
  ⟨(.loc 41), (.r (.pick (.tmp 37) (.cst (.bool true)) (.tmp 40))), none⟩])
 (.cond (.loc 41) (.seq (.reg [⟨(.tmp 42), (.r (.mov (.loc 8))), none⟩,
  ⟨(.tmp 43), (.r (.bin .eql (.tmp 42) (.cst (.int .i64 3)))), none⟩,
  ⟨(.tmp 44), (.r (.mov (.tmp 43))), none⟩,
  ⟨(.tmp 45), (.r (.off 2 (.loc 7))), (some ((.tmp 44), true))⟩,
  ⟨(.tmp 46), (.r (.load false 1 (.tmp 45))), (some ((.tmp 44), true))⟩,
  ⟨(.tmp 47), (.r (.len (.tmp 46))), (some ((.tmp 44), true))⟩,
  ⟨(.tmp 48), (.r (.bin .eql (.tmp 47) (.cst (.int .i64 0)))), (some ((.tmp 44), true))⟩,
  ⟨(.tmp 49), (.r (.pick (.tmp 44) (.tmp 48) (.cst (.bool false)))), none⟩,
  ⟨(.tmp 50), (.r (.mov (.tmp 49))), none⟩,
  ⟨(.tmp 51), (.r (.off 0 (.loc 7))), (some ((.tmp 50), true))⟩,
  ⟨(.tmp 52), (.r (.load false 1 (.tmp 51))), (some ((.tmp 50), true))⟩,
  ⟨(.tmp 53), (.r (.bin .eql (.tmp 52) (.cst (.int .i64 0)))), (some ((.tmp 50), true))⟩,
  ⟨(.tmp 54), (.r (.pick (.tmp 50) (.tmp 53) (.cst (.bool false)))), none⟩,
  ⟨(.tmp 55), (.r (.mov (.tmp 54))), none⟩,
  ⟨(.tmp 56), (.r (.off 1 (.loc 7))), (some ((.tmp 55), true))⟩,
  ⟨(.tmp 57), (.r (.load false 1 (.tmp 56))), (some ((.tmp 55), true))⟩,
  ⟨(.tmp 58), (.r (.bin .eql (.tmp 57) (.cst (.int .i64 0)))), (some ((.tmp 55), true))⟩,
  ⟨(.tmp 59), (.r (.pick (.tmp 55) (.tmp 58) (.cst (.bool false)))), none⟩,
  ⟨(.tmp 60), (.r (.mov (.tmp 59))), none⟩,
  ⟨(.tmp 61), (.call 11 []), (some ((.tmp 60), true))⟩,
  ⟨(.tmp 62), (.r (.pick (.tmp 60) (.tmp 61) (.cst (.bool false)))), none⟩,
  ⟨(.loc 4), (.r (.mov (.tmp 62))), none⟩])
 .ret)
 .skip))
 (.seq (.reg [⟨(.tmp 64), (.r (.load true 3 (.loc 7))), none⟩,
  ⟨(.tmp 65), (.call 13 [(.tmp 64)]), none⟩,
  ⟨(.tmp 63), (.r (.mov (.tmp 65))), none⟩,
  ⟨(.tmp 66), (.r (.ext (.tmp 63) 0)), none⟩,
  ⟨(.tmp 67), (.r (.ext (.tmp 63) 1)), none⟩,
  ⟨(.loc 9), (.r (.mov (.tmp 66))), none⟩,
  ⟨(.loc 10), (.r (.mov (.tmp 67))), none⟩])
 (.seq (.seq (.reg [⟨(.tmp 68), (.r (.mov (.loc 8))), none⟩,
  ⟨(.tmp 69), (.r (.bin .neq (.tmp 68) (.cst (.int .i64 0)))), none⟩,
  ⟨(.tmp 70), (.r (.mov (.tmp 69))), none⟩,
  ⟨(.tmp 71), (.r (.off 0 (.loc 7))), (some ((.tmp 70), false))⟩,
  ⟨(.tmp 72), (.r (.load false 1 (.tmp 71))), (some ((.tmp 70), false))⟩,
  ⟨(.tmp 73), (.r (.mov (.loc 1))), (some ((.tmp 70), false))⟩,
  ⟨(.tmp 74), (.r (.bin .neq (.tmp 72) (.tmp 73))), (some ((.tmp 70), false))⟩,
  ⟨(.tmp 75), (.r (.pick (.tmp 70) (.cst (.bool true)) (.tmp 74))), none⟩,
  ⟨(.tmp 76), (.r (.mov (.tmp 75))), none⟩,
  ⟨(.tmp 77), (.r (.mov (.loc 9))), (some ((.tmp 76), false))⟩,
  ⟨(.tmp 78), (.r (.mov (.loc 5))), (some ((.tmp 76), false))⟩,
  ⟨(.tmp 79), (.r (.bin .neq (.tmp 77) (.tmp 78))), (some ((.tmp 76), false))⟩,
  ⟨(.tmp 80), (.r (.pick (.tmp 76) (.cst (.bool true)) (.tmp 79))), none⟩,
  ⟨(.tmp 81), (.r (.mov (.tmp 80))), none⟩,
  ⟨(.tmp 82), (.r (.mov (.loc 10))), (some ((.tmp 81), false))⟩,
  ⟨(.tmp 83), (.r (.mov (.loc 6))), (some ((.tmp 81), false))⟩,
  ⟨(.tmp 84), (.r (.bin .neq (.tmp 82) (.tmp 83))), (some ((.tmp 81), false))⟩,
  ⟨(.loc 85), (.r (.pick (.tmp 81) (.cst (.bool true)) (.tmp 84))), none⟩])
 (.cond (.loc 85) (.seq (.reg [⟨(.loc 4), (.r (.mov (.cst (.bool false)))), none⟩])
 .ret)
 .skip))
 (.seq (.seq (.reg [⟨(.tmp 86), (.r (.mov (.loc 1))), none⟩,
  ⟨(.loc 11), (.r (.mov (.tmp 86))), none⟩])
 (.block 0 (.loop (.seq (.seq (.reg [⟨(.tmp 87), (.r (.mov (.loc 11))), none⟩,
  ⟨(.tmp 88), (.r (.mov (.loc 5))), none⟩,
  ⟨(.loc 89), (.r (.bin .leq (.tmp 87) (.tmp 88))), none⟩])
 (.cond (.loc 89) .skip
 (.exit 0)))
 (.seq (.block 1 (.seq (.reg [⟨(.tmp 93), (.r (.load true 3 (.loc 2))), none⟩,
  ⟨(.tmp 94), (.r (.mov (.loc 11))), none⟩,
  ⟨(.tmp 95), (.call 15 [(.tmp 93), (.tmp 94)]), none⟩,
  ⟨(.tmp 92), (.r (.mov (.tmp 95))), none⟩,
  ⟨(.tmp 96), (.r (.ext (.tmp 92) 0)), none⟩,
  ⟨(.tmp 97), (.r (.ext (.tmp 92) 1)), none⟩,
  ⟨(.loc 12), (.r (.mov (.tmp 96))), none⟩,
  ⟨(.loc 13), (.r (.mov (.tmp 97))), none⟩])
 (.seq (.reg [⟨(.tmp 99), (.r (.load true 3 (.loc 7))), none⟩,
  ⟨(.tmp 100), (.r (.mov (.loc 11))), none⟩,
  ⟨(.tmp 101), (.call 15 [(.tmp 99), (.tmp 100)]), none⟩,
  ⟨(.tmp 98), (.r (.mov (.tmp 101))), none⟩,
  ⟨(.tmp 102), (.r (.ext (.tmp 98) 0)), none⟩,
  ⟨(.tmp 103), (.r (.ext (.tmp 98) 1)), none⟩,
  ⟨(.loc 14), (.r (.mov (.tmp 102))), none⟩,
  ⟨(.loc 15), (.r (.mov (.tmp 103))), none⟩])
 (.seq (.dreg ⟨[0, 1, 3, 7, 15, 31, 63, 127, 127, 511, 1023, 2047, 4095, 4095, 12287, 32767, 4095, 4095, 135167, 524287, 1048575, 2097151, 4194303], 0, [⟨0, 0, false, (.r (.mov (.loc 13))), none⟩,
  ⟨1, 0, false, (.r (.not (.tmp 0))), none⟩,
  ⟨2, 0, false, (.r (.mov (.tmp 1))), none⟩,
  ⟨3, 0, false, (.r (.mov (.loc 15))), (some ((.tmp 2), false))⟩,
  ⟨4, 0, false, (.r (.not (.tmp 3))), (some ((.tmp 2), false))⟩,
  ⟨5, 0, false, (.r (.pick (.tmp 2) (.cst (.bool true)) (.tmp 4))), none⟩,
  ⟨6, 0, false, (.r (.mov (.tmp 5))), none⟩,
  ⟨7, 0, false, (.r (.mov (.loc 12))), (some ((.tmp 6), false))⟩,
  ⟨8, 0, false, (.r (.mov (.loc 14))), (some ((.tmp 6), false))⟩,
  ⟨9, 0, false, (.r (.bin .neq (.tmp 7) (.tmp 8))), (some ((.tmp 6), false))⟩,
  ⟨10, 0, false, (.r (.pick (.tmp 6) (.cst (.bool true)) (.tmp 9))), none⟩,
  ⟨11, 0, false, (.r (.mov (.tmp 10))), none⟩,
  ⟨12, 0, false, (.r (.load true 3 (.loc 7))), (some ((.tmp 11), false))⟩,
  ⟨13, 0, false, (.r (.mov (.loc 11))), (some ((.tmp 11), false))⟩,
  ⟨14, 0, false, (.r (.bin .add (.tmp 13) (.cst (.int .i64 1)))), (some ((.tmp 11), false))⟩,
  ⟨16, 0, false, (.r (.load true 3 (.loc 2))), (some ((.tmp 11), false))⟩,
  ⟨17, 0, false, (.r (.mov (.loc 11))), (some ((.tmp 11), false))⟩,
  ⟨18, 0, false, (.r (.bin .add (.tmp 17) (.cst (.int .i64 1)))), (some ((.tmp 11), false))⟩,
  ⟨15, 0, true, (.call 26 [(.tmp 12), (.tmp 14), (.cst (.int .i64 1))]), (some ((.tmp 11), false))⟩,
  ⟨19, 0, true, (.call 26 [(.tmp 16), (.tmp 18), (.cst (.int .i64 1))]), (some ((.tmp 11), false))⟩,
  ⟨20, 0, true, (.call 16 [(.tmp 15), (.tmp 19)]), (some ((.tmp 11), false))⟩,
  ⟨21, 0, false, (.r (.not (.tmp 20))), (some ((.tmp 11), false))⟩,
  ⟨22, 0, false, (.r (.pick (.tmp 11) (.cst (.bool true)) (.tmp 21))), none⟩], [(126, 22)]⟩)
 (.cond (.loc 126) (.seq (.reg [⟨(.loc 4), (.r (.mov (.cst (.bool false)))), none⟩])
 .ret)
 .skip)))))
 (.reg [⟨(.tmp 90), (.r (.mov (.loc 11))), none⟩,
  ⟨(.tmp 91), (.r (.bin .add (.tmp 90) (.cst (.int .i64 1)))), none⟩,
  ⟨(.loc 11), (.r (.mov (.tmp 91))), none⟩]))))))
 (.seq (.reg [⟨(.tmp 128), (.r (.load true 3 (.loc 7))), none⟩,
  ⟨(.tmp 129), (.r (.mov (.loc 1))), none⟩,
  ⟨(.tmp 130), (.r (.bin .sub (.tmp 129) (.cst (.int .i64 1)))), none⟩,
  ⟨(.tmp 131), (.call 15 [(.tmp 128), (.tmp 130)]), none⟩,
  ⟨(.tmp 127), (.r (.mov (.tmp 131))), none⟩,
  ⟨(.tmp 132), (.r (.ext (.tmp 127) 0)), none⟩,
  ⟨(.tmp 133), (.r (.ext (.tmp 127) 1)), none⟩,
  ⟨(.tmp 16), (.r (.mov (.tmp 132))), none⟩,
  ⟨(.loc 17), (.r (.mov (.tmp 133))), none⟩])
 (.seq (.reg [⟨(.tmp 134), (.r (.mov (.loc 17))), none⟩,
  ⟨(.tmp 135), (.r (.not (.tmp 134))), none⟩,
  ⟨(.tmp 136), (.r (.mov (.tmp 135))), none⟩,
  ⟨(.tmp 137), (.call 11 []), (some ((.tmp 136), true))⟩,
  ⟨(.tmp 138), (.r (.pick (.tmp 136) (.tmp 137) (.cst (.bool false)))), none⟩,
  ⟨(.loc 4), (.r (.mov (.tmp 138))), none⟩])
 .ret)))))))))), [(.tmp (.loc 4))]⟩
theorem fn7_ok : cFn Try.prog fn7.keep 7 = some fn7 := by kernel_rfl

/-- glebe/glebelaw11.RlogKnown -/
def fn8 : AFn := ⟨257, fun s => List.contains [0, 1, 2, 3, 4, 5, 6, 7, 8, 9, 10, 11, 13, 14, 15, 17, 19, 20, 21, 22, 23, 25, 26, 27, 41, 78, 124, 140] s, (.seq (.reg [⟨(.loc 0), (.r (.mov (.cst (.bool false)))), none⟩])
 (.seq (.reg [⟨(.tmp 28), (.h (.bsl 1 [(.cst (.int .i64 2)), (.cst (.int .i64 3)), (.cst (.int .i64 3))])), none⟩,
  ⟨(.tmp 29), (.call 29 [(.tmp 28)]), none⟩,
  ⟨(.tmp 30), (.r (.build [(.int .i64 0), (.int .i64 0), .nils] [(0, 1, (.cst (.int .i64 4))), (1, 1, (.cst (.int .i64 2))), (2, 1, (.tmp 29))])), none⟩,
  ⟨(.loc 1), (.h (.mk [(.int .i64 0), (.int .i64 0), .nils])), none⟩,
  ⟨.none, (.h (.store 3 (.loc 1) (.tmp 30))), none⟩])
 (.seq (.reg [⟨(.tmp 32), (.r (.load true 3 (.loc 1))), none⟩,
  ⟨(.tmp 33), (.call 13 [(.tmp 32)]), none⟩,
  ⟨(.tmp 31), (.r (.mov (.tmp 33))), none⟩,
  ⟨(.tmp 34), (.r (.ext (.tmp 31) 0)), none⟩,
  ⟨(.tmp 35), (.r (.ext (.tmp 31) 1)), none⟩,
  ⟨(.loc 2), (.r (.mov (.tmp 34))), none⟩,
  ⟨(.loc 3), (.r (.mov (.tmp 35))), none⟩])
 (.seq (.reg [⟨(.tmp 36), (.h (.bsl 1 [(.cst (.int .i64 4)), (.cst (.int .i64 5)), (.cst (.int .i64 7)), (.cst (.int .i64 8)), (.cst (.int .i64 3)), (.cst (.int .i64 (-9223372036854775808))), (.cst (.int .i64 9223372036854775807))])), none⟩,
  ⟨(.loc 4), (.r (.mov (.tmp 36))), none⟩])
 (.seq (.reg [⟨(.tmp 37), (.h (.bsl 1 [(.cst (.int .i64 2)), (.cst (.int .i64 2)), (.cst (.int .i64 3)), (.cst (.int .i64 (-1))), (.cst (.int .i64 (-1))), (.cst (.int .i64 (-1))), (.cst (.int .i64 (-1)))])), none⟩,
  ⟨(.loc 5), (.r (.mov (.tmp 37))), none⟩])
 (.seq (.seq (.reg [⟨(.loc 6), (.r (.mov (.cst (.int .i64 0)))), none⟩])
 (.block 0 (.loop (.seq (.seq (.reg [⟨(.tmp 38), (.r (.mov (.loc 6))), none⟩,
  ⟨(.tmp 39), (.r (.mov (.loc 4))), none⟩,
  ⟨(.tmp 40), (.r (.len (.tmp 39))), none⟩,
  ⟨(.loc 41), (.r (.bin .lss (.tmp 38) (.tmp 40))), none⟩])
 (.cond (.loc 41) .skip
 (.exit 0)))
 (.seq (.block 1 (.seq (.dreg ⟨[0, 0, 0, 6, 14, 31, 63, 127, 127, 255, 1023], 0, [⟨0, 0, false, (.r (.load true 3 (.loc 1))), none⟩,
  ⟨1, 0, false, (.r (.mov (.loc 4))), none⟩,
  ⟨2, 0, false, (.r (.mov (.loc 6))), none⟩,
  ⟨3, 0, false, (.r (.idx 1 (.tmp 1) (.tmp 2))), none⟩,
  ⟨4, 0, false, (.r (.load false 1 (.tmp 3))), none⟩,
  ⟨5, 0, true, (.call 15 [(.tmp 0), (.tmp 4)]), none⟩,
  ⟨6, 0, false, (.r (.mov (.tmp 5))), none⟩,
  ⟨7, 0, false, (.r (.ext (.tmp 6) 0)), none⟩,
  ⟨8, 0, false, (.r (.ext (.tmp 6) 1)), none⟩,
  ⟨9, 0, false, (.r (.mov (.tmp 7))), none⟩,
  ⟨10, 0, false, (.r (.mov (.tmp 8))), none⟩], [(7, 9), (8, 10)]⟩)
 (.seq (.reg [⟨(.tmp 53), (.r (.mov (.loc 8))), none⟩,
  ⟨(.tmp 54), (.r (.mov (.loc 5))), none⟩,
  ⟨(.tmp 55), (.r (.mov (.loc 6))), none⟩,
  ⟨(.tmp 56), (.r (.idx 1 (.tmp 54) (.tmp 55))), none⟩,
  ⟨(.tmp 57), (.r (.load false 1 (.tmp 56))), none⟩,
  ⟨(.tmp 58), (.r (.bin .geq (.tmp 57) (.cst (.int .i64 0)))), none⟩,
  ⟨(.tmp 59), (.r (.beq .neq (.tmp 53) (.tmp 58))), none⟩,
  ⟨(.tmp 60), (.r (.mov (.tmp 59))), none⟩,
  ⟨(.tmp 61), (.r (.mov (.loc 8))), (some ((.tmp 60), false))⟩,
  ⟨(.tmp 62), (.r (.mov (.tmp 61))), (some ((.tmp 60), false))⟩,
  ⟨(.tmp 63), (.r (.mov (.loc 7))), (some ((.tmp 62), true))⟩,
  ⟨(.tmp 64), (.r (.mov (.loc 5))), (some ((.tmp 62), true))⟩,
  ⟨(.tmp 65), (.r (.mov (.loc 6))), (some ((.tmp 62), true))⟩,
  ⟨(.tmp 66), (.r (.idx 1 (.tmp 64) (.tmp 65))), (some ((.tmp 62), true))⟩,
  ⟨(.tmp 67), (.r (.load false 1 (.tmp 66))), (some ((.tmp 62), true))⟩,
  ⟨(.tmp 68), (.r (.bin .neq (.tmp 63) (.tmp 67))), (some ((.tmp 62), true))⟩,
  ⟨(.tmp 69), (.r (.pick (.tmp 62) (.tmp 68) (.cst (.bool false)))), (some ((.tmp 60), false))⟩,
  ⟨(.tmp 70), (.r (.pick (.tmp 60) (.cst (.bool true)) (.tmp 69))), none⟩,
  ⟨(.tmp 71), (.r (.mov (.tmp 70))), none⟩,
  ⟨(.tmp 72), (.r (.mov (.loc 8))), (some ((.tmp 71), false))⟩,
  ⟨(.tmp 73), (.r (.not (.tmp 72))), (some ((.tmp 71), false))⟩,
  ⟨(.tmp 74), (.r (.mov (.tmp 73))), (some ((.tmp 71), false))⟩,
  ⟨(.tmp 75), (.r (.mov (.loc 7))), (some ((.tmp 74), true))⟩,
  ⟨(.tmp 76), (.r (.bin .neq (.tmp 75) (.cst (.int .i64 0)))), (some ((.tmp 74), true))⟩,
  ⟨(.tmp 77), (.r (.pick (.tmp 74) (.tmp 76) (.cst (.bool false)))), (some ((.tmp 71), false))⟩,
  ⟨(.loc 78), (.r (.pick (.tmp 71) (.cst (.bool true)) (.tmp 77))), none⟩])
 (.cond (.loc 78) (.seq (.reg [⟨(.loc 0), (.r (.mov (.cst (.bool false)))), none⟩])
 .ret)
 .skip))))
 (.reg [⟨(.tmp 42), (.r (.mov (.loc 6))), none⟩,
  ⟨(.tmp 43), (.r (.bin .add (.tmp 42) (.cst (.int .i64 1)))), none⟩,
  ⟨(.loc 6), (.r (.mov (.tmp 43))), none⟩]))))))
 (.seq (.dreg ⟨[0, 1, 0, 7, 0, 31, 63, 127, 255], 0, [⟨0, 0, false, (.r (.load true 3 (.loc 1))), none⟩,
  ⟨2, 0, false, (.r (.load true 3 (.loc 1))), none⟩,
  ⟨4, 0, false, (.r (.load true 3 (.loc 1))), none⟩,
  ⟨1, 0, true, (.call 26 [(.tmp 0), (.cst (.int .i64 6)), (.cst (.int .i64 1))]), none⟩,
  ⟨3, 0, true, (.call 26 [(.tmp 2), (.cst (.int .i64 4)), (.cst (.int .i64 9))]), none⟩,
  ⟨5, 0, true, (.call 26 [(.tmp 4), (.cst (.int .i64 8)), (.cst (.int .i64 1))]), none⟩,
  ⟨6, 0, false, (.r (.mov (.tmp 1))), none⟩,
  ⟨7, 0, false, (.r (.mov (.tmp 3))), none⟩,
  ⟨8, 0, false, (.r (.mov (.tmp 5))), none⟩], [(9, 6), (10, 7), (11, 8)]⟩)
 (.seq (.seq (.reg [⟨(.tmp 85), (.r (.mov (.loc 2))), none⟩,
  ⟨(.tmp 86), (.r (.bin .neq (.tmp 85) (.cst (.int .i64 7)))), none⟩,
  ⟨(.tmp 87), (.r (.mov (.tmp 86))), none⟩,
  ⟨(.tmp 88), (.r (.mov (.loc 3))), (some ((.tmp 87), false))⟩,
  ⟨(.tmp 89), (.r (.bin .neq (.tmp 88) (.cst (.int .i64 3)))), (some ((.tmp 87), false))⟩,
  ⟨(.tmp 90), (.r (.pick (.tmp 87) (.cst (.bool true)) (.tmp 89))), none⟩,
  ⟨(.tmp 91), (.r (.mov (.tmp 90))), none⟩,
  ⟨(.tmp 92), (.r (.mov (.loc 9))), (some ((.tmp 91), false))⟩,
  ⟨(.tmp 93), (.r (.len (.tmp 92))), (some ((.tmp 91), false))⟩,
  ⟨(.tmp 94), (.r (.bin .neq (.tmp 93) (.cst (.int .i64 1)))), (some ((.tmp 91), false))⟩,
  ⟨(.tmp 95), (.r (.pick (.tmp 91) (.cst (.bool true)) (.tmp 94))), none⟩,
  ⟨(.tmp 96), (.r (.mov (.tmp 95))), none⟩,
  ⟨(.tmp 97), (.r (.mov (.loc 9))), (some ((.tmp 96), false))⟩,
  ⟨(.tmp 98), (.r (.idx 3 (.tmp 97) (.cst (.int .i64 0)))), (some ((.tmp 96), false))⟩,
  ⟨(.tmp 99), (.r (.off 0 (.tmp 98))), (some ((.tmp 96), false))⟩,
  ⟨(.tmp 100), (.r (.load false 1 (.tmp 99))), (some ((.tmp 96), false))⟩,
  ⟨(.tmp 101), (.r (.bin .neq (.tmp 100) (.cst (.int .i64 3)))), (some ((.tmp 96), false))⟩,
  ⟨(.tmp 102), (.r (.pick (.tmp 96) (.cst (.bool true)) (.tmp 101))), none⟩,
  ⟨(.tmp 103), (.r (.mov (.tmp 102))), none⟩,
  ⟨(.tmp 104), (.r (.mov (.loc 10))), (some ((.tmp 103), false))⟩,
  ⟨(.tmp 105), (.r (.len (.tmp 104))), (some ((.tmp 103), false))⟩,
  ⟨(.tmp 106), (.r (.bin .neq (.tmp 105) (.cst (.int .i64 0)))), (some ((.tmp 103), false))⟩,
  ⟨(.tmp 107), (.r (.pick (.tmp 103) (.cst (.bool true)) (.tmp 106))), none⟩,
  ⟨(.tmp 108), (.r (.mov (.tmp 107))), none⟩,
  ⟨(.tmp 109), (.r (.mov (.loc 11))), (some ((.tmp 108), false))⟩,
  ⟨(.tmp 110), (.r (.len (.tmp 109))), (some ((.tmp 108), false))⟩,
  ⟨(.tmp 111), (.r (.bin .neq (.tmp 110) (.cst (.int .i64 0)))), (some ((.tmp 108), false))⟩,
  ⟨(.tmp 112), (.r (.pick (.tmp 108) (.cst (.bool true)) (.tmp 111))), none⟩,
  ⟨(.tmp 113), (.r (.mov (.tmp 112))), none⟩,
  ⟨(.tmp 114), (.r (.load true 3 (.loc 1))), (some ((.tmp 113), false))⟩,
  ⟨(.tmp 115), (.call 26 [(.tmp 114), (.cst (.int .i64 5)), (.cst (.int .i64 9223372036854775807))]), (some ((.tmp 113), false))⟩,
  ⟨(.tmp 116), (.r (.len (.tmp 115))), (some ((.tmp 113), false))⟩,
  ⟨(.tmp 117), (.r (.bin .neq (.tmp 116) (.cst (.int .i64 3)))), (some ((.tmp 113), false))⟩,
  ⟨(.tmp 118), (.r (.pick (.tmp 113) (.cst (.bool true)) (.tmp 117))), none⟩,
  ⟨(.tmp 119), (.r (.mov (.tmp 118))), none⟩,
  ⟨(.tmp 120), (.r (.load true 3 (.loc 1))), (some ((.tmp 119), false))⟩,
  ⟨(.tmp 121), (.call 26 [(.tmp 120), (.cst (.int .i64 5)), (.cst (.int .i64 0))]), (some ((.tmp 119), false))⟩,
  ⟨(.tmp 122), (.r (.len (.tmp 121))), (some ((.tmp 119), false))⟩,
  ⟨(.tmp 123), (.r (.bin .neq (.tmp 122) (.cst (.int .i64 0)))), (some ((.tmp 119), false))⟩,
  ⟨(.loc 124), (.r (.pick (.tmp 119) (.cst (.bool true)) (.tmp 123))), none⟩])
 (.cond (.loc 124) (.seq (.reg [⟨(.loc 0), (.r (.mov (.cst (.bool false)))), none⟩])
 .ret)
 .skip))
 (.seq (.seq (.reg [⟨(.tmp 125), (.r (.load true 3 (.loc 1))), none⟩,
  ⟨(.tmp 126), (.call 23 [(.tmp 125), (.cst (.int .i64 7)), (.cst (.int .i64 3))]), none⟩,
  ⟨(.tmp 127), (.r (.not (.tmp 126))), none⟩,
  ⟨(.tmp 128), (.r (.mov (.tmp 127))), none⟩,
  ⟨(.tmp 129), (.r (.load true 3 (.loc 1))), (some ((.tmp 128), false))⟩,
  ⟨(.tmp 130), (.call 23 [(.tmp 129), (.cst (.int .i64 6)), (.cst (.int .i64 3))]), (some ((.tmp 128), false))⟩,
  ⟨(.tmp 131), (.r (.pick (.tmp 128) (.cst (.bool true)) (.tmp 130))), none⟩,
  ⟨(.tmp 132), (.r (.mov (.tmp 131))), none⟩,
  ⟨(.tmp 133), (.r (.load true 3 (.loc 1))), (some ((.tmp 132), false))⟩,
  ⟨(.tmp 134), (.call 23 [(.tmp 133), (.cst (.int .i64 1)), (.cst (.int .i64 4))]), (some ((.tmp 132), false))⟩,
  ⟨(.tmp 135), (.r (.not (.tmp 134))), (some ((.tmp 132), false))⟩,
  ⟨(.tmp 136), (.r (.pick (.tmp 132) (.cst (.bool true)) (.tmp 135))), none⟩,
  ⟨(.tmp 137), (.r (.mov (.tmp 136))), none⟩,
  ⟨(.tmp 138), (.r (.load true 3 (.loc 1))), (some ((.tmp 137), false))⟩,
  ⟨(.tmp 139), (.call 23 [(.tmp 138), (.cst (.int .i64 9)), (.cst (.int .i64 2))]), (some ((.tmp 137), false))⟩,
  ⟨(.loc 140), (.r (.pick (.tmp 137) (.cst (.bool true)) (.tmp 139))), none⟩])
 (.cond (.loc 140) (.seq (.reg [⟨(.loc 0), (.r (.mov (.cst (.bool false)))), none⟩])
 .ret)
 .skip))
 (.seq (.dreg ⟨[0, 0, 2, 7, 15, 31, 31, 0, 191, 511], 2, [⟨0, 0, false, (.r (.load true 3 (.loc 1))), none⟩,
  ⟨1, 0, false, (.h (.bsl 1 [(.cst (.int .i64 3)), (.cst (.int .i64 3))])), none⟩,
  ⟨7, 1, false, (.h (.mk [(.int .i64 0), (.int .i64 0), .nils])), none⟩,
  ⟨2, 1, true, (.call 29 [(.tmp 1)]), none⟩,
  ⟨3, 1, true, (.call 12 [(.tmp 0), (.cst (.int .i64 5)), (.tmp 2)]), none⟩,
  ⟨4, 1, false, (.r (.mov (.tmp 3))), none⟩,
  ⟨5, 1, false, (.r (.ext (.tmp 4) 0)), none⟩,
  ⟨6, 1, false, (.r (.ext (.tmp 4) 1)), none⟩,
  ⟨8, 2, true, (.h (.store 3 (.tmp 7) (.tmp 5))), none⟩,
  ⟨9, 2, false, (.r (.mov (.tmp 6))), none⟩], [(13, 9)]⟩)
 (.seq (.dreg ⟨[0, 0, 2, 7, 15, 31, 31, 0, 191, 511], 2, [⟨0, 0, false, (.r (.load true 3 (.loc 1))), none⟩,
  ⟨1, 0, false, (.h (.bsl 1 [(.cst (.int .i64 3))])), none⟩,
  ⟨7, 1, false, (.h (.mk [(.int .i64 0), (.int .i64 0), .nils])), none⟩,
  ⟨2, 1, true, (.call 29 [(.tmp 1)]), none⟩,
  ⟨3, 1, true, (.call 12 [(.tmp 0), (.cst (.int .i64 5)), (.tmp 2)]), none⟩,
  ⟨4, 1, false, (.r (.mov (.tmp 3))), none⟩,
  ⟨5, 1, false, (.r (.ext (.tmp 4) 0)), none⟩,
  ⟨6, 1, false, (.r (.ext (.tmp 4) 1)), none⟩,
  ⟨8, 2, true, (.h (.store 3 (.tmp 7) (.tmp 5))), none⟩,
  ⟨9, 2, false, (.r (.mov (.tmp 6))), none⟩], [(14, 7), (15, 9)]⟩)
 (.seq (.dreg ⟨[0, 0, 2, 7, 15, 31, 31, 0, 191, 511], 2, [⟨0, 0, false, (.r (.load true 3 (.loc 1))), none⟩,
  ⟨1, 0, false, (.h (.bsl 1 [(.cst (.int .i64 5))])), none⟩,
  ⟨7, 1, false, (.h (.mk [(.int .i64 0), (.int .i64 0), .nils])), none⟩,
  ⟨2, 1, true, (.call 29 [(.tmp 1)]), none⟩,
  ⟨3, 1, true, (.call 12 [(.tmp 0), (.cst (.int .i64 8)), (.tmp 2)]), none⟩,
  ⟨4, 1, false, (.r (.mov (.tmp 3))), none⟩,
  ⟨5, 1, false, (.r (.ext (.tmp 4) 0)), none⟩,
  ⟨6, 1, false, (.r (.ext (.tmp 4) 1)), none⟩,
  ⟨8, 2, true, (.h (.store 3 (.tmp 7) (.tmp 5))), none⟩,
  ⟨9, 2, false, (.r (.mov (.tmp 6))), none⟩], [(17, 9)]⟩)
 (.seq (.dreg ⟨[0, 0, 2, 7, 15, 31, 31, 0, 191, 511], 2, [⟨0, 0, false, (.r (.load true 3 (.loc 1))), none⟩,
  ⟨1, 0, false, (.h (.bsl 1 [(.cst (.int .i64 5))])), none⟩,
  ⟨7, 1, false, (.h (.mk [(.int .i64 0), (.int .i64 0), .nils])), none⟩,
  ⟨2, 1, true, (.call 29 [(.tmp 1)]), none⟩,
  ⟨3, 1, true, (.call 12 [(.tmp 0), (.cst (.int .i64 3)), (.tmp 2)]), none⟩,
  ⟨4, 1, false, (.r (.mov (.tmp 3))), none⟩,
  ⟨5, 1, false, (.r (.ext (.tmp 4) 0)), none⟩,
  ⟨6, 1, false, (.r (.ext (.tmp 4) 1)), none⟩,
  ⟨8, 2, true, (.h (.store 3 (.tmp 7) (.tmp 5))), none⟩,
  ⟨9, 2, false, (.r (.mov (.tmp 6))), none⟩], [(19, 9)]⟩)
 (.seq (.dreg ⟨[0, 0, 2, 7, 15, 31, 31, 0, 191, 511], 2, [⟨0, 0, false, (.r (.load true 3 (.loc 1))), none⟩,
  ⟨1, 0, false, (.h (.bsl 1 [(.cst (.int .i64 5))])), none⟩,
  ⟨7, 1, false, (.h (.mk [(.int .i64 0), (.int .i64 0), .nils])), none⟩,
  ⟨2, 1, true, (.call 29 [(.tmp 1)]), none⟩,
  ⟨3, 1, true, (.call 12 [(.tmp 0), (.cst (.int .i64 7)), (.tmp 2)]), none⟩,
  ⟨4, 1, false, (.r (.mov (.tmp 3))), none⟩,
  ⟨5, 1, false, (.r (.ext (.tmp 4) 0)), none⟩,
  ⟨6, 1, false, (.r (.ext (.tmp 4) 1)), none⟩,
  ⟨8, 2, true, (.h (.store 3 (.tmp 7) (.tmp 5))), none⟩,
  ⟨9, 2, false, (.r (.mov (.tmp 6))), none⟩], [(20, 7), (21, 9)]⟩)
 (.seq (.reg [⟨(.tmp 177), (.r (.load true 3 (.loc 1))), none⟩,
  ⟨(.tmp 178), (.call 20 [(.tmp 177), (.cst (.int .i64 6))]), none⟩,
  ⟨(.tmp 176), (.r (.mov (.tmp 178))), none⟩,
  ⟨(.tmp 179), (.r (.ext (.tmp 176) 0)), none⟩,
  ⟨(.tmp 180), (.r (.ext (.tmp 176) 1)), none⟩,
  ⟨(.loc 22), (.h (.mk [(.int .i64 0), (.int .i64 0), .nils])), none⟩,
  ⟨.none, (.h (.store 3 (.loc 22) (.tmp 179))), none⟩,
  ⟨(.loc 23), (.r (.mov (.tmp 180))), none⟩])
 (.seq (.reg [⟨(.tmp 182), (.r (.load true 3 (.loc 1))), none⟩,
  ⟨(.tmp 183), (.call 20 [(.tmp 182), (.cst (.int .i64 8))]), none⟩,
  ⟨(.tmp 181), (.r (.mov (.tmp 183))), none⟩,
  ⟨(.tmp 184), (.r (.ext (.tmp 181) 0)), none⟩,
  ⟨(.tmp 185), (.r (.ext (.tmp 181) 1)), none⟩,
  ⟨(.tmp 24), (.h (.mk [(.int .i64 0), (.int .i64 0), .nils])), none⟩,
  ⟨.none, (.h (.store 3 (.tmp 24) (.tmp 184))), none⟩,
  ⟨(.loc 25), (.r (.mov (.tmp 185))), none⟩])
 (.seq (.reg [⟨(.tmp 187), (.r (.load true 3 (.loc 1))), none⟩,
  ⟨(.tmp 188), (.call 20 [(.tmp 187), (.cst (.int .i64 4))]), none⟩,
  ⟨(.tmp 186), (.r (.mov (.tmp 188))), none⟩,
  ⟨(.tmp 189), (.r (.ext (.tmp 186) 0)), none⟩,
  ⟨(.tmp 190), (.r (.ext (.tmp 186) 1)), none⟩,
  ⟨(.loc 26), (.h (.mk [(.int .i64 0), (.int .i64 0), .nils])), none⟩,
  ⟨.none, (.h (.store 3 (.loc 26) (.tmp 189))), none⟩,
  ⟨(.loc 27), (.r (.mov (.tmp 190))), none⟩])
 (.seq (.reg [⟨(.tmp 191), (.r (.mov (.loc 13))), none⟩,
  ⟨(.tmp 192), (.r (.bin .eql (.tmp 191) (.cst (.int .i64 0)))), none⟩,
  ⟨(.tmp 193), (.r (.mov (.tmp 192))), none⟩,
  ⟨(.tmp 194), (.r (.mov (.loc 15))), (some ((.tmp 193), true))⟩,
  ⟨(.tmp 195), (.r (.bin .eql (.tmp 194) (.cst (.int .i64 0)))), (some ((.tmp 193), true))⟩,
  ⟨(.tmp 196), (.r (.pick (.tmp 193) (.tmp 195) (.cst (.bool false)))), none⟩,
  ⟨(.tmp 197), (.r (.mov (.tmp 196))), none⟩,
  ⟨(.tmp 198), (.r (.off 2 (.loc 14))), (some ((.tmp 197), true))⟩,
  ⟨(.tmp 199), (.r (.load false 1 (.tmp 198))), (some ((.tmp 197), true))⟩,
  ⟨(.tmp 200), (.r (.len (.tmp 199))), (some ((.tmp 197), true))⟩,
  ⟨(.tmp 201), (.r (.bin .eql (.tmp 200) (.cst (.int .i64 3)))), (some ((.tmp 197), true))⟩,
  ⟨(.tmp 202), (.r (.pick (.tmp 197) (.tmp 201) (.cst (.bool false)))), none⟩,
  ⟨(.tmp 203), (.r (.mov (.tmp 202))), none⟩,
  ⟨(.tmp 204), (.r (.mov (.loc 17))), (some ((.tmp 203), true))⟩,
  ⟨(.tmp 205), (.r (.bin .eql (.tmp 204) (.cst (.int .i64 0)))), (some ((.tmp 203), true))⟩,
  ⟨(.tmp 206), (.r (.pick (.tmp 203) (.tmp 205) (.cst (.bool false)))), none⟩,
  ⟨(.tmp 207), (.r (.mov (.tmp 206))), none⟩,
  ⟨(.tmp 208), (.r (.mov (.loc 19))), (some ((.tmp 207), true))⟩,
  ⟨(.tmp 209), (.r (.bin .eql (.tmp 208) (.cst (.int .i64 0)))), (some ((.tmp 207), true))⟩,
  ⟨(.tmp 210), (.r (.pick (.tmp 207) (.tmp 209) (.cst (.bool false)))), none⟩,
  ⟨(.tmp 211), (.r (.mov (.tmp 210))), none⟩,
  ⟨(.tmp 212), (.r (.mov (.loc 21))), (some ((.tmp 211), true))⟩,
  ⟨(.tmp 213), (.r (.bin .eql (.tmp 212) (.cst (.int .i64 8)))), (some ((.tmp 211), true))⟩,
  ⟨(.tmp 214), (.r (.pick (.tmp 211) (.tmp 213) (.cst (.bool false)))), none⟩,
  ⟨(.tmp 215), (.r (.mov (.tmp 214))), none⟩,
  ⟨(.tmp 216), (.r (.off 2 (.loc 20))), (some ((.tmp 215), true))⟩,
  ⟨(.tmp 217), (.r (.load false 1 (.tmp 216))), (some ((.tmp 215), true))⟩,
  ⟨(.tmp 218), (.r (.len (.tmp 217))), (some ((.tmp 215), true))⟩,
  ⟨(.tmp 219), (.r (.bin .eql (.tmp 218) (.cst (.int .i64 4)))), (some ((.tmp 215), true))⟩,
  ⟨(.tmp 220), (.r (.pick (.tmp 215) (.tmp 219) (.cst (.bool false)))), none⟩,
  ⟨(.tmp 221), (.r (.mov (.tmp 220))), none⟩,
  ⟨(.tmp 222), (.r (.mov (.loc 23))), (some ((.tmp 221), true))⟩,
  ⟨(.tmp 223), (.r (.bin .eql (.tmp 222) (.cst (.int .i64 0)))), (some ((.tmp 221), true))⟩,
  ⟨(.tmp 224), (.r (.pick (.tmp 221) (.tmp 223) (.cst (.bool false)))), none⟩,
  ⟨(.tmp 225), (.r (.mov (.tmp 224))), none⟩,
  ⟨(.tmp 226), (.r (.off 0 (.loc 22))), (some ((.tmp 225), true))⟩,
  ⟨(.tmp 227), (.r (.load false 1 (.tmp 226))), (some ((.tmp 225), true))⟩,
  ⟨(.tmp 228), (.r (.bin .eql (.tmp 227) (.cst (.int .i64 6)))), (some ((.tmp 225), true))⟩,
  ⟨(.tmp 229), (.r (.pick (.tmp 225) (.tmp 228) (.cst (.bool false)))), none⟩,
  ⟨(.tmp 230), (.r (.mov (.tmp 229))), none⟩,
  ⟨(.tmp 231), (.r (.off 1 (.loc 22))), (some ((.tmp 230), true))⟩,
  ⟨(.tmp 232), (.r (.load false 1 (.tmp 231))), (some ((.tmp 230), true))⟩,
  ⟨(.tmp 233), (.r (.bin .eql (.tmp 232) (.cst (.int .i64 3)))), (some ((.tmp 230), true))⟩,
  ⟨(.tmp 234), (.r (.pick (.tmp 230) (.tmp 233) (.cst (.bool false)))), none⟩,
  ⟨(.tmp 235), (.r (.mov (.tmp 234))), none⟩,
  ⟨(.tmp 236), (.r (.off 2 (.loc 22))), (some ((.tmp 235), true))⟩,
  ⟨(.tmp 237), (.r (.load false 1 (.tmp 236))), (some ((.tmp 235), true))⟩,
  ⟨(.tmp 238), (.r (.len (.tmp 237))), (some ((.tmp 235), true))⟩,
  ⟨(.tmp 239), (.r (.bin .eql (.tmp 238) (.cst (.int .i64 1)))), (some ((.tmp 235), true))⟩,
  ⟨(.tmp 240), (.r (.pick (.tmp 235) (.tmp 239) (.cst (.bool false)))), none⟩,
  ⟨(.tmp 241), (.r (.mov (.tmp 240))), none⟩,
  ⟨(.tmp 242), (.r (.mov (.loc 25))), (some ((.tmp 241), true))⟩,
  ⟨(.tmp 243), (.r (.bin .eql (.tmp 242) (.cst (.int .i64 3)))), (some ((.tmp 241), true))⟩,
  ⟨(.tmp 244), (.r (.pick (.tmp 241) (.tmp 243) (.cst (.bool false)))), none⟩,
  ⟨(.tmp 245), (.r (.mov (.tmp 244))), none⟩,
  ⟨(.tmp 246), (.r (.mov (.loc 27))), (some ((.tmp 245), true))⟩,
  ⟨(.tmp 247), (.r (.bin .eql (.tmp 246) (.cst (.int .i64 0)))), (some ((.tmp 245), true))⟩,
  ⟨(.tmp 248), (.r (.pick (.tmp 245) (.tmp 247) (.cst (.bool false)))), none⟩,
  ⟨(.tmp 249), (.r (.mov (.tmp 248))), none⟩,
  ⟨(.tmp 250), (.r (.load true 3 (.loc 26))), (some ((.tmp 249), true))⟩,
  ⟨(.tmp 251), (.r (.load true 3 (.loc 1))), (some ((.tmp 249), true))⟩,
  ⟨(.tmp 252), (.call 14 [(.tmp 250), (.tmp 251)]), (some ((.tmp 249), true))⟩,
  ⟨(.tmp 253), (.r (.pick (.tmp 249) (.tmp 252) (.cst (.bool false)))), none⟩,
  ⟨(.tmp 254), (.r (.mov (.tmp 253))), none⟩,
  ⟨(.tmp 255), (.call 11 []), (some ((.tmp 254), true))⟩,
  ⟨(.tmp 256), (.r (.pick (.tmp 254) (.tmp 255) (.cst (.bool false)))), none⟩,
  ⟨(.loc 0), (.r (.mov (.tmp 256))), none⟩])
 .ret)))))))))))))))))), [(.tmp (.loc 0))]⟩
theorem fn8_ok : cFn Try.prog fn8.keep 8 = some fn8 := by kernel_rfl

/-- glebe/glebelaw11.right -/
def fn9 : AFn := ⟨27, fun s => List.contains [0, 1, 2] s, (.seq (.reg [⟨(.loc 1), (.h (.box (.loc 0))), none⟩,
  ⟨(.loc 2), (.r (.mov (.cst (.bool false)))), none⟩])
 (.seq (.reg [⟨(.tmp 3), (.r (.off 0 (.loc 1))), none⟩,
  ⟨(.tmp 4), (.r (.load false 1 (.tmp 3))), none⟩,
  ⟨(.tmp 5), (.r (.bin .geq (.tmp 4) (.cst (.int .i64 0)))), none⟩,
  ⟨(.tmp 6), (.r (.mov (.tmp 5))), none⟩,
  ⟨(.tmp 7), (.r (.off 0 (.loc 1))), (some ((.tmp 6), true))⟩,
  ⟨(.tmp 8), (.r (.load false 1 (.tmp 7))), (some ((.tmp 6), true))⟩,
  ⟨(.tmp 9), (.r (.bin .leq (.tmp 8) (.cst (.int .i64 1099511627776)))), (some ((.tmp 6), true))⟩,
  ⟨(.tmp 10), (.r (.pick (.tmp 6) (.tmp 9) (.cst (.bool false)))), none⟩,
  ⟨(.tmp 11), (.r (.mov (.tmp 10))), none⟩,
  ⟨(.tmp 12), (.r (.off 1 (.loc 1))), (some ((.tmp 11), true))⟩,
  ⟨(.tmp 13), (.r (.load false 1 (.tmp 12))), (some ((.tmp 11), true))⟩,
  ⟨(.tmp 14), (.r (.bin .geq (.tmp 13) (.cst (.int .i64 0)))), (some ((.tmp 11), true))⟩,
  ⟨(.tmp 15), (.r (.pick (.tmp 11) (.tmp 14) (.cst (.bool false)))), none⟩,
  ⟨(.tmp 16), (.r (.mov (.tmp 15))), none⟩,
  ⟨(.tmp 17), (.r (.off 1 (.loc 1))), (some ((.tmp 16), true))⟩,
  ⟨(.tmp 18), (.r (.load false 1 (.tmp 17))), (some ((.tmp 16), true))⟩,
  ⟨(.tmp 19), (.r (.bin .leq (.tmp 18) (.cst (.int .i64 1099511627776)))), (some ((.tmp 16), true))⟩,
  ⟨(.tmp 20), (.r (.pick (.tmp 16) (.tmp 19) (.cst (.bool false)))), none⟩,
  ⟨(.tmp 21), (.r (.mov (.tmp 20))), none⟩,
  ⟨(.tmp 22), (.r (.off 2 (.loc 1))), (some ((.tmp 21), true))⟩,
  ⟨(.tmp 23), (.r (.load false 1 (.tmp 22))), (some ((.tmp 21), true))⟩,
  ⟨(.tmp 24), (.call 10 [(.tmp 23), (.cst (.int .i64 2000)), (.cst (.int .i64 65536))]), (some ((.tmp 21), true))⟩,
  ⟨(.tmp 25), (.r (.not (.tmp 24))), (some ((.tmp 21), true))⟩,
  ⟨(.tmp 26), (.r (.pick (.tmp 21) (.tmp 25) (.cst (.bool false)))), none⟩,
  ⟨(.loc 2), (.r (.mov (.tmp 26))), none⟩])
 .ret)), [(.tmp (.loc 2))]⟩
theorem fn9_ok : cFn Try.prog fn9.keep 9 = some fn9 := by kernel_rfl

/-- glebe/glebekit.BigEntries -/
def fn10 : AFn := ⟨33, fun s => List.contains [0, 1, 2, 6, 7, 8, 12, 16, 32] s, (.seq (.reg [⟨(.loc 6), (.r (.mov (.cst (.bool false)))), none⟩])
 (.seq (.seq (.reg [⟨(.tmp 9), (.r (.mov (.loc 0))), none⟩,
  ⟨(.tmp 10), (.r (.len (.tmp 9))), none⟩,
  ⟨(.tmp 11), (.r (.mov (.loc 1))), none⟩,
  ⟨(.loc 12), (.r (.bin .gtr (.tmp 10) (.tmp 11))), none⟩])
 (.cond (.loc 12) (.seq (.reg [⟨(.loc 6), (.r (.mov (.cst (.bool true)))), none⟩])
 .ret)
 .skip))
 (.seq (.reg [⟨(.loc 7), (.r (.mov (.cst (.int .i64 0)))), none⟩])
 (.seq (.seq (.reg [⟨(.loc 8), (.r (.mov (.cst (.int .i64 0)))), none⟩])
 (.block 0 (.loop (.seq (.seq (.reg [⟨(.tmp 13), (.r (.mov (.loc 8))), none⟩,
  ⟨(.tmp 14), (.r (.mov (.loc 0))), none⟩,
  ⟨(.tmp 15), (.r (.len (.tmp 14))), none⟩,
  ⟨(.loc 16), (.r (.bin .lss (.tmp 13) (.tmp 15))), none⟩])
 (.cond (.loc 16) .skip
 (.exit 0)))
 (.seq (.block 1 (.seq (.reg [⟨(.tmp 19), (.r (.mov (.loc 7))), none⟩,
  ⟨(.tmp 20), (.r (.mov (.loc 0))), none⟩,
  ⟨(.tmp 21), (.r (.mov (.loc 8))), none⟩,
  ⟨(.tmp 22), (.r (.idx 3 (.tmp 20) (.tmp 21))), none⟩,
  ⟨(.tmp 23), (.r (.off 2 (.tmp 22))), none⟩,
  ⟨(.tmp 24), (.r (.load false 1 (.tmp 23))), none⟩,
  ⟨(.tmp 25), (.r (.len (.tmp 24))), none⟩,
  ⟨(.tmp 26), (.r (.mov (.loc 2))), none⟩,
  ⟨(.tmp 27), (.r (.bin .add (.tmp 26) (.cst (.int .i64 1)))), none⟩,
  ⟨(.tmp 28), (.r (.mnmx false [(.tmp 25), (.tmp 27)])), none⟩,
  ⟨(.tmp 29), (.r (.bin .add (.tmp 19) (.tmp 28))), none⟩,
  ⟨(.loc 7), (.r (.mov (.tmp 29))), none⟩])
 (.seq (.reg [⟨(.tmp 30), (.r (.mov (.loc 7))), none⟩,
  ⟨(.tmp 31), (.r (.mov (.loc 2))), none⟩,
  ⟨(.loc 32), (.r (.bin .gtr (.tmp 30) (.tmp 31))), none⟩])
 (.cond (.loc 32) (.seq (.reg [⟨(.loc 6), (.r (.mov (.cst (.bool true)))), none⟩])
 .ret)
 .skip))))
 (.reg [⟨(.tmp 17), (.r (.mov (.loc 8))), none⟩,
  ⟨(.tmp 18), (.r (.bin .add (.tmp 17) (.cst (.int .i64 1)))), none⟩,
  ⟨(.loc 8), (.r (.mov (.tmp 18))), none⟩]))))))
 (.seq (.reg [⟨(.loc 6), (.r (.mov (.cst (.bool false)))), none⟩])
 .ret))))), [(.tmp (.loc 6))]⟩
theorem fn10_ok : cFn Try.prog fn10.keep 10 = some fn10 := by kernel_rfl

/-- glebe/glebelaw11.known -/
def fn11 : AFn := ⟨37, fun s => List.contains [0, 1, 2, 3, 4, 5] s, (.seq (.reg [⟨(.loc 0), (.r (.mov (.cst (.bool false)))), none⟩])
 (.seq (.reg [⟨(.tmp 6), (.h (.bsl 1 [(.cst (.int .i64 2)), (.cst (.int .i64 3)), (.cst (.int .i64 3))])), none⟩,
  ⟨(.tmp 7), (.call 29 [(.tmp 6)]), none⟩,
  ⟨(.tmp 8), (.r (.build [(.int .i64 0), (.int .i64 0), .nils] [(0, 1, (.cst (.int .i64 4))), (1, 1, (.cst (.int .i64 2))), (2, 1, (.tmp 7))])), none⟩,
  ⟨(.loc 1), (.h (.mk [(.int .i64 0), (.int .i64 0), .nils])), none⟩,
  ⟨.none, (.h (.store 3 (.loc 1) (.tmp 8))), none⟩])
 (.seq (.dreg ⟨[0, 0, 2, 7, 15, 31, 31, 0, 191, 511], 2, [⟨0, 0, false, (.r (.load true 3 (.loc 1))), none⟩,
  ⟨1, 0, false, (.h (.bsl 1 [(.cst (.int .i64 3)), (.cst (.int .i64 4)), (.cst (.int .i64 4))])), none⟩,
  ⟨7, 1, false, (.h (.mk [(.int .i64 0), (.int .i64 0), .nils])), none⟩,
  ⟨2, 1, true, (.call 29 [(.tmp 1)]), none⟩,
  ⟨3, 1, true, (.call 12 [(.tmp 0), (.cst (.int .i64 5)), (.tmp 2)]), none⟩,
  ⟨4, 1, false, (.r (.mov (.tmp 3))), none⟩,
  ⟨5, 1, false, (.r (.ext (.tmp 4) 0)), none⟩,
  ⟨6, 1, false, (.r (.ext (.tmp 4) 1)), none⟩,
  ⟨8, 2, true, (.h (.store 3 (.tmp 7) (.tmp 5))), none⟩,
  ⟨9, 2, false, (.r (.mov (.tmp 6))), none⟩], [(2, 7), (3, 9)]⟩)
 (.seq (.reg [⟨(.tmp 17), (.r (.load true 3 (.loc 2))), none⟩,
  ⟨(.tmp 18), (.call 13 [(.tmp 17)]), none⟩,
  ⟨(.tmp 16), (.r (.mov (.tmp 18))), none⟩,
  ⟨(.tmp 19), (.r (.ext (.tmp 16) 0)), none⟩,
  ⟨(.tmp 20), (.r (.ext (.tmp 16) 1)), none⟩,
  ⟨(.loc 4), (.r (.mov (.tmp 19))), none⟩,
  ⟨(.loc 5), (.r (.mov (.tmp 20))), none⟩])
 (.seq (.reg [⟨(.tmp 21), (.r (.mov (.loc 3))), none⟩,
  ⟨(.tmp 22), (.r (.bin .eql (.tmp 21) (.cst (.int .i64 7)))), none⟩,
  ⟨(.tmp 23), (.r (.mov (.tmp 22))), none⟩,
  ⟨(.tmp 24), (.r (.mov (.loc 4))), (some ((.tmp 23), true))⟩,
  ⟨(.tmp 25), (.r (.bin .eql (.tmp 24) (.cst (.int .i64 8)))), (some ((.tmp 23), true))⟩,
  ⟨(.tmp 26), (.r (.pick (.tmp 23) (.tmp 25) (.cst (.bool false)))), none⟩,
  ⟨(.tmp 27), (.r (.mov (.tmp 26))), none⟩,
  ⟨(.tmp 28), (.r (.mov (.loc 5))), (some ((.tmp 27), true))⟩,
  ⟨(.tmp 29), (.r (.bin .eql (.tmp 28) (.cst (.int .i64 4)))), (some ((.tmp 27), true))⟩,
  ⟨(.tmp 30), (.r (.pick (.tmp 27) (.tmp 29) (.cst (.bool false)))), none⟩,
  ⟨(.tmp 31), (.r (.mov (.tmp 30))), none⟩,
  ⟨(.tmp 32), (.r (.off 2 (.loc 2))), (some ((.tmp 31), true))⟩,
  ⟨(.tmp 33), (.r (.load false 1 (.tmp 32))), (some ((.tmp 31), true))⟩,
  ⟨(.tmp 34), (.r (.len (.tmp 33))), (some ((.tmp 31), true))⟩,
  ⟨(.tmp 35), (.r (.bin .eql (.tmp 34) (.cst (.int .i64 4)))), (some ((.tmp 31), true))⟩,
  ⟨(.tmp 36), (.r (.pick (.tmp 31) (.tmp 35) (.cst (.bool false)))), none⟩,
  ⟨(.loc 0), (.r (.mov (.tmp 36))), none⟩])
 .ret))))), [(.tmp (.loc 0))]⟩
theorem fn11_ok : cFn Try.prog fn11.keep 11 = some fn11 := by kernel_rfl

/-- glebe/rlog.Append -/
def fn12 : AFn := ⟨79, fun s => List.contains [0, 1, 2, 3, 6, 7, 8, 10, 11, 12, 13, 14, 32, 35, 36, 37, 58] s, (.seq (.reg [⟨(.loc 3), (.h (.box (.loc 0))), none⟩,
  ⟨(.loc 6), (.h (.mk [(.int .i64 0), (.int .i64 0), .nils])), none⟩,
  ⟨(.loc 7), (.r (.mov (.cst (.int .i64 0)))), none⟩])
 (.seq (.reg [⟨(.tmp 16), (.r (.load true 3 (.loc 3))), none⟩,
  ⟨(.tmp 17), (.call 13 [(.tmp 16)]), none⟩,
  ⟨(.tmp 15), (.r (.mov (.tmp 17))), none⟩,
  ⟨(.tmp 18), (.r (.ext (.tmp 15) 0)), none⟩,
  ⟨(.tmp 19), (.r (.ext (.tmp 15) 1)), none⟩,
  ⟨(.loc 8), (.r (.mov (.tmp 18))), none⟩,
  ⟨(.tmp 9), (.r (.mov (.tmp 19))), none⟩])
 (.seq (.reg [⟨(.tmp 20), (.r (.off 2 (.loc 3))), none⟩,
  ⟨(.tmp 21), (.r (.load false 1 (.tmp 20))), none⟩,
  ⟨(.tmp 22), (.call 30 [(.tmp 21)]), none⟩,
  ⟨(.tmp 23), (.r (.off 2 (.loc 3))), none⟩,
  ⟨.none, (.h (.store 1 (.tmp 23) (.tmp 22))), none⟩])
 (.seq (.seq (.reg [⟨(.tmp 24), (.r (.mov (.loc 1))), none⟩,
  ⟨(.tmp 25), (.r (.off 0 (.loc 3))), none⟩,
  ⟨(.tmp 26), (.r (.load false 1 (.tmp 25))), none⟩,
  ⟨(.tmp 27), (.r (.bin .lss (.tmp 24) (.tmp 26))), none⟩,
  ⟨(.tmp 28), (.r (.mov (.tmp 27))), none⟩,
  ⟨(.tmp 29), (.r (.mov (.loc 1))), (some ((.tmp 28), false))⟩,
  ⟨(.tmp 30), (.r (.mov (.loc 8))), (some ((.tmp 28), false))⟩,
  ⟨(.tmp 31), (.r (.bin .gtr (.tmp 29) (.tmp 30))), (some ((.tmp 28), false))⟩,
  ⟨(.loc 32), (.r (.pick (.tmp 28) (.cst (.bool true)) (.tmp 31))), none⟩])
 (.cond (.loc 32) (.seq (.reg [⟨(.tmp 33), (.r (.load true 3 (.loc 3))), none⟩,
  ⟨.none, (.h (.store 3 (.loc 6) (.tmp 33))), none⟩,
  ⟨(.loc 7), (.r (.mov (.cst (.int .i64 0)))), none⟩])
 .ret)
 .skip))
 (.seq (.seq (.reg [⟨(.tmp 34), (.r (.mov (.loc 2))), none⟩,
  ⟨(.loc 35), (.r (.len (.tmp 34))), none⟩,
  ⟨(.loc 36), (.r (.mov (.cst (.int .i64 0)))), none⟩])
 (.block 0 (.loop (.seq (.reg [⟨(.loc 37), (.r (.bin .lss (.loc 36) (.loc 35))), none⟩])
 (.seq (.cond (.loc 37) .skip
 (.exit 0))
 (.seq (.block 1 (.seq (.reg [⟨(.tmp 38), (.r (.mov (.loc 36))), none⟩,
  ⟨(.loc 10), (.r (.mov (.tmp 38))), none⟩])
 (.seq (.reg [⟨(.tmp 39), (.r (.mov (.loc 1))), none⟩,
  ⟨(.tmp 40), (.r (.bin .add (.tmp 39) (.cst (.int .i64 1)))), none⟩,
  ⟨(.tmp 41), (.r (.mov (.loc 10))), none⟩,
  ⟨(.tmp 42), (.r (.bin .add (.tmp 40) (.tmp 41))), none⟩,
  ⟨(.loc 11), (.r (.mov (.tmp 42))), none⟩])
 (.seq (.seq (.reg [⟨(.tmp 44), (.r (.load true 3 (.loc 3))), none⟩,
  ⟨(.tmp 45), (.r (.mov (.loc 11))), none⟩,
  ⟨(.tmp 46), (.call 15 [(.tmp 44), (.tmp 45)]), none⟩,
  ⟨(.tmp 43), (.r (.mov (.tmp 46))), none⟩,
  ⟨(.tmp 47), (.r (.ext (.tmp 43) 0)), none⟩,
  ⟨(.tmp 48), (.r (.ext (.tmp 43) 1)), none⟩,
  ⟨(.loc 12), (.r (.mov (.tmp 47))), none⟩,
  ⟨(.loc 13), (.r (.mov (.tmp 48))), none⟩])
 (.seq (.reg [⟨(.tmp 49), (.r (.mov (.loc 13))), none⟩,
  ⟨(.tmp 50), (.r (.mov (.tmp 49))), none⟩,
  ⟨(.tmp 51), (.r (.mov (.loc 12))), (some ((.tmp 50), true))⟩,
  ⟨(.tmp 52), (.r (.mov (.loc 2))), (some ((.tmp 50), true))⟩,
  ⟨(.tmp 53), (.r (.mov (.loc 10))), (some ((.tmp 50), true))⟩,
  ⟨(.tmp 54), (.r (.idx 3 (.tmp 52) (.tmp 53))), (some ((.tmp 50), true))⟩,
  ⟨(.tmp 55), (.r (.off 0 (.tmp 54))), (some ((.tmp 50), true))⟩,
  ⟨(.tmp 56), (.r (.load false 1 (.tmp 55))), (some ((.tmp 50), true))⟩,
  ⟨(.tmp 57), (.r (.bin .eql (.tmp 51) (.tmp 56))), (some ((.tmp 50), true))⟩,
  ⟨(.loc 58), (.r (.pick (.tmp 50) (.tmp 57) (.cst (.bool false)))), none⟩])
 (.cond (.loc 58) (.exit 1)
 .skip)))
 (.seq (.reg [⟨(.tmp 59), (.r (.mov (.loc 11))), none⟩,
  ⟨(.tmp 60), (.r (.off 0 (.loc 3))), none⟩,
  ⟨(.tmp 61), (.r (.load false 1 (.tmp 60))), none⟩,
  ⟨(.tmp 62), (.r (.bin .sub (.tmp 59) (.tmp 61))), none⟩,
  ⟨(.tmp 63), (.r (.bin .sub (.tmp 62) (.cst (.int .i64 1)))), none⟩,
  ⟨(.loc 14), (.r (.mov (.tmp 63))), none⟩])
 (.seq (.dreg ⟨[0, 1, 0, 0, 15, 0, 0, 96, 224, 511, 1023, 2047], 0, [⟨0, 0, false, (.r (.off 2 (.loc 3))), none⟩,
  ⟨1, 0, false, (.r (.load false 1 (.tmp 0))), none⟩,
  ⟨2, 0, false, (.r (.mov (.loc 14))), none⟩,
  ⟨3, 0, false, (.r (.mov (.loc 14))), none⟩,
  ⟨4, 0, false, (.r (.slc 3 (.tmp 1) none (some (.tmp 2)) (some (.tmp 3)))), none⟩,
  ⟨5, 0, false, (.r (.mov (.loc 2))), none⟩,
  ⟨6, 0, false, (.r (.mov (.loc 10))), none⟩,
  ⟨7, 0, false, (.r (.slc 3 (.tmp 5) (some (.tmp 6)) none none)), none⟩,
  ⟨8, 0, true, (.call 30 [(.tmp 7)]), none⟩,
  ⟨9, 0, true, (.h (.app 3 40 (.tmp 4) (.tmp 8))), none⟩,
  ⟨10, 0, false, (.r (.off 2 (.loc 3))), none⟩,
  ⟨11, 0, true, (.h (.store 1 (.tmp 10) (.tmp 9))), none⟩], []⟩)
 (.seq (.reg [⟨(.tmp 75), (.r (.load true 3 (.loc 3))), none⟩,
  ⟨(.tmp 76), (.r (.mov (.loc 11))), none⟩,
  ⟨.none, (.h (.store 3 (.loc 6) (.tmp 75))), none⟩,
  ⟨(.loc 7), (.r (.mov (.tmp 76))), none⟩])
 .ret)))))))
 (.reg [⟨(.tmp 77), (.r (.bin .add (.loc 36) (.cst (.int .i64 1)))), none⟩,
  ⟨(.loc 36), (.r (.mov (.tmp 77))), none⟩])))))))
 (.seq (.reg [⟨(.tmp 78), (.r (.load true 3 (.loc 3))), none⟩,
  ⟨.none, (.h (.store 3 (.loc 6) (.tmp 78))), none⟩,
  ⟨(.loc 7), (.r (.mov (.cst (.int .i64 0)))), none⟩])
 .ret)))))), [(.cell (.loc 6) true 3), (.tmp (.loc 7))]⟩
theorem fn12_ok : cFn Try.prog fn12.keep 12 = some fn12 := by kernel_rfl

/-- glebe/rlog.Last -/
def fn13 : AFn := ⟨25, fun s => List.contains [0, 1, 2, 3, 4, 9] s, (.seq (.reg [⟨(.loc 1), (.h (.box (.loc 0))), none⟩,
  ⟨(.loc 2), (.r (.mov (.cst (.int .i64 0)))), none⟩,
  ⟨(.loc 3), (.r (.mov (.cst (.int .i64 0)))), none⟩])
 (.seq (.seq (.reg [⟨(.tmp 5), (.r (.off 2 (.loc 1))), none⟩,
  ⟨(.tmp 6), (.r (.load false 1 (.tmp 5))), none⟩,
  ⟨(.tmp 7), (.r (.len (.tmp 6))), none⟩,
  ⟨(.loc 4), (.r (.mov (.tmp 7))), none⟩])
 (.seq (.reg [⟨(.tmp 8), (.r (.mov (.loc 4))), none⟩,
  ⟨(.loc 9), (.r (.bin .gtr (.tmp 8) (.cst (.int .i64 0)))), none⟩])
 (.cond (.loc 9) (.seq (.dreg ⟨[0, 1, 0, 7, 0, 16, 0, 64, 240, 496, 1008, 15, 4095], 0, [⟨0, 0, false, (.r (.off 0 (.loc 1))), none⟩,
  ⟨1, 0, false, (.r (.load false 1 (.tmp 0))), none⟩,
  ⟨2, 0, false, (.r (.mov (.loc 4))), none⟩,
  ⟨3, 0, false, (.r (.bin .add (.tmp 1) (.tmp 2))), none⟩,
  ⟨4, 0, false, (.r (.off 2 (.loc 1))), none⟩,
  ⟨5, 0, false, (.r (.load false 1 (.tmp 4))), none⟩,
  ⟨6, 0, false, (.r (.mov (.loc 4))), none⟩,
  ⟨7, 0, false, (.r (.bin .sub (.tmp 6) (.cst (.int .i64 1)))), none⟩,
  ⟨8, 0, false, (.r (.idx 3 (.tmp 5) (.tmp 7))), none⟩,
  ⟨9, 0, false, (.r (.off 0 (.tmp 8))), none⟩,
  ⟨10, 0, false, (.r (.load false 1 (.tmp 9))), none⟩,
  ⟨11, 0, false, (.r (.mov (.tmp 3))), none⟩,
  ⟨12, 0, false, (.r (.mov (.tmp 10))), none⟩], [(2, 11), (3, 12)]⟩)
 .ret)
 .skip)))
 (.seq (.dreg ⟨[0, 1, 0, 4, 3, 31], 0, [⟨0, 0, false, (.r (.off 0 (.loc 1))), none⟩,
  ⟨1, 0, false, (.r (.load false 1 (.tmp 0))), none⟩,
  ⟨2, 0, false, (.r (.off 1 (.loc 1))), none⟩,
  ⟨3, 0, false, (.r (.load false 1 (.tmp 2))), none⟩,
  ⟨4, 0, false, (.r (.mov (.tmp 1))), none⟩,
  ⟨5, 0, false, (.r (.mov (.tmp 3))), none⟩], [(2, 4), (3, 5)]⟩)
 .ret))), [(.tmp (.loc 2)), (.tmp (.loc 3))]⟩
theorem fn13_ok : cFn Try.prog fn13.keep 13 = some fn13 := by kernel_rfl

/-- glebe/glebekit.SameLog -/
def fn14 : AFn := ⟨24, fun s => List.contains [0, 1, 2, 3, 4] s, (.seq (.reg [⟨(.loc 2), (.h (.box (.loc 0))), none⟩,
  ⟨(.loc 3), (.h (.box (.loc 1))), none⟩,
  ⟨(.loc 4), (.r (.mov (.cst (.bool false)))), none⟩])
 (.seq (.reg [⟨(.tmp 5), (.r (.off 0 (.loc 2))), none⟩,
  ⟨(.tmp 6), (.r (.load false 1 (.tmp 5))), none⟩,
  ⟨(.tmp 7), (.r (.off 0 (.loc 3))), none⟩,
  ⟨(.tmp 8), (.r (.load false 1 (.tmp 7))), none⟩,
  ⟨(.tmp 9), (.r (.bin .eql (.tmp 6) (.tmp 8))), none⟩,
  ⟨(.tmp 10), (.r (.mov (.tmp 9))), none⟩,
  ⟨(.tmp 11), (.r (.off 1 (.loc 2))), (some ((.tmp 10), true))⟩,
  ⟨(.tmp 12), (.r (.load false 1 (.tmp 11))), (some ((.tmp 10), true))⟩,
  ⟨(.tmp 13), (.r (.off 1 (.loc 3))), (some ((.tmp 10), true))⟩,
  ⟨(.tmp 14), (.r (.load false 1 (.tmp 13))), (some ((.tmp 10), true))⟩,
  ⟨(.tmp 15), (.r (.bin .eql (.tmp 12) (.tmp 14))), (some ((.tmp 10), true))⟩,
  ⟨(.tmp 16), (.r (.pick (.tmp 10) (.tmp 15) (.cst (.bool false)))), none⟩,
  ⟨(.tmp 17), (.r (.mov (.tmp 16))), none⟩,
  ⟨(.tmp 18), (.r (.off 2 (.loc 2))), (some ((.tmp 17), true))⟩,
  ⟨(.tmp 19), (.r (.load false 1 (.tmp 18))), (some ((.tmp 17), true))⟩,
  ⟨(.tmp 20), (.r (.off 2 (.loc 3))), (some ((.tmp 17), true))⟩,
  ⟨(.tmp 21), (.r (.load false 1 (.tmp 20))), (some ((.tmp 17), true))⟩,
  ⟨(.tmp 22), (.call 16 [(.tmp 19), (.tmp 21)]), (some ((.tmp 17), true))⟩,
  ⟨(.tmp 23), (.r (.pick (.tmp 17) (.tmp 22) (.cst (.bool false)))), none⟩,
  ⟨(.loc 4), (.r (.mov (.tmp 23))), none⟩])
 .ret)), [(.tmp (.loc 4))]⟩
theorem fn14_ok : cFn Try.prog fn14.keep 14 = some fn14 := by kernel_rfl

/-- glebe/rlog.Term -/
def fn15 : AFn := ⟨38, fun s => List.contains [0, 1, 2, 4, 5, 6, 13, 21] s, (.seq (.reg [⟨(.loc 2), (.h (.box (.loc 0))), none⟩,
  ⟨(.loc 4), (.r (.mov (.cst (.int .i64 0)))), none⟩,
  ⟨(.loc 5), (.r (.mov (.cst (.bool false)))), none⟩])
 (.seq (.reg [⟨(.tmp 9), (.r (.load true 3 (.loc 2))), none⟩,
  ⟨(.tmp 10), (.call 13 [(.tmp 9)]), none⟩,
  ⟨(.tmp 8), (.r (.mov (.tmp 10))), none⟩,
  ⟨(.tmp 11), (.r (.ext (.tmp 8) 0)), none⟩,
  ⟨(.tmp 12), (.r (.ext (.tmp 8) 1)), none⟩,
  ⟨(.loc 6), (.r (.mov (.tmp 11))), none⟩,
  ⟨(.tmp 7), (.r (.mov (.tmp 12))), none⟩])
 (.seq (.block 0 (.seq (.seq (.reg [⟨(.tmp 14), (.r (.mov (.loc 1))), none⟩,
  ⟨(.tmp 15), (.r (.off 0 (.loc 2))), none⟩,
  ⟨(.tmp 16), (.r (.load false 1 (.tmp 15))), none⟩,
  ⟨(.tmp 17), (.r (.bin .lss (.tmp 14) (.tmp 16))), none⟩,
  ⟨(.loc 13), (.r (.mov (.tmp 17))), none⟩])
 (.cond (.loc 13) .skip
 (.reg [⟨(.tmp 18), (.r (.mov (.loc 1))), none⟩,
  ⟨(.tmp 19), (.r (.mov (.loc 6))), none⟩,
  ⟨(.tmp 20), (.r (.bin .gtr (.tmp 18) (.tmp 19))), none⟩,
  ⟨(.loc 13), (.r (.mov (.tmp 20))), none⟩])))
 (.cond (.loc 13) (.seq (.reg [⟨(.loc 4), (.r (.mov (.cst (.int .i64 0)))), none⟩,
  ⟨(.loc 5), (.r (.mov (.cst (.bool false)))), none⟩])
 .ret)
 (.seq (.reg [⟨(.tmp 22), (.r (.mov (.loc 1))), none⟩,
  ⟨(.tmp 23), (.r (.off 0 (.loc 2))), none⟩,
  ⟨(.tmp 24), (.r (.load false 1 (.tmp 23))), none⟩,
  ⟨(.tmp 25), (.r (.bin .eql (.tmp 22) (.tmp 24))), none⟩,
  ⟨(.loc 21), (.r (.mov (.tmp 25))), none⟩])
 (.cond (.loc 21) (.seq (.reg [⟨(.tmp 26), (.r (.off 1 (.loc 2))), none⟩,
  ⟨(.tmp 27), (.r (.load false 1 (.tmp 26))), none⟩,
  ⟨(.loc 4), (.r (.mov (.tmp 27))), none⟩,
  ⟨(.loc 5), (.r (.mov (.cst (.bool true)))), none⟩])
 .ret)
 .skip)))))
 (.seq (.reg [⟨(.tmp 28), (.r (.off 2 (.loc 2))), none⟩,
  ⟨(.tmp 29), (.r (.load false 1 (.tmp 28))), none⟩,
  ⟨(.tmp 30), (.r (.mov (.loc 1))), none⟩,
  ⟨(.tmp 31), (.r (.off 0 (.loc 2))), none⟩,
  ⟨(.tmp 32), (.r (.load false 1 (.tmp 31))), none⟩,
  ⟨(.tmp 33), (.r (.bin .sub (.tmp 30) (.tmp 32))), none⟩,
  ⟨(.tmp 34), (.r (.bin .sub (.tmp 33) (.cst (.int .i64 1)))), none⟩,
  ⟨(.tmp 35), (.r (.idx 3 (.tmp 29) (.tmp 34))), none⟩,
  ⟨(.tmp 36), (.r (.off 0 (.tmp 35))), none⟩,
  ⟨(.tmp 37), (.r (.load false 1 (.tmp 36))), none⟩,
  ⟨(.loc 4), (.r (.mov (.tmp 37))), none⟩,
  ⟨(.loc 5), (.r (.mov (.cst (.bool true)))), none⟩])
 .ret)))), [(.tmp (.loc 4)), (.tmp (.loc 5))]⟩
theorem fn15_ok : cFn Try.prog fn15.keep 15 = some fn15 := by kernel_rfl

/-- glebe/glebekit.SameEntries -/
def fn16 : AFn := ⟨27, fun s => List.contains [0, 1, 4, 5, 10, 14, 26] s, (.seq (.reg [⟨(.loc 4), (.r (.mov (.cst (.bool false)))), none⟩])
 (.seq (.seq (.reg [⟨(.tmp 6), (.r (.mov (.loc 0))), none⟩,
  ⟨(.tmp 7), (.r (.len (.tmp 6))), none⟩,
  ⟨(.tmp 8), (.r (.mov (.loc 1))), none⟩,
  ⟨(.tmp 9), (.r (.len (.tmp 8))), none⟩,
  ⟨(.loc 10), (.r (.bin .neq (.tmp 7) (.tmp 9))), none⟩])
 (.cond (.loc 10) (.seq (.reg [⟨(.loc 4), (.r (.mov (.cst (.bool false)))), none⟩])
 .ret)
 .skip))
 (.seq (.seq (.reg [⟨(.loc 5), (.r (.mov (.cst (.int .i64 0)))), none⟩])
 (.block 0 (.loop (.seq (.seq (.reg [⟨(.tmp 11), (.r (.mov (.loc 5))), none⟩,
  ⟨(.tmp 12), (.r (.mov (.loc 0))), none⟩,
  ⟨(.tmp 13), (.r (.len (.tmp 12))), none⟩,
  ⟨(.loc 14), (.r (.bin .lss (.tmp 11) (.tmp 13))), none⟩])
 (.cond (.loc 14) .skip
 (.exit 0)))
 (.seq (.block 1 (.seq (.dreg ⟨[0, 0, 3, 7, 0, 0, 48, 112, 255, 511], 0, [⟨0, 0, false, (.r (.mov (.loc 0))), none⟩,
  ⟨1, 0, false, (.r (.mov (.loc 5))), none⟩,
  ⟨2, 0, false, (.r (.idx 3 (.tmp 0) (.tmp 1))), none⟩,
  ⟨3, 0, false, (.r (.load true 3 (.tmp 2))), none⟩,
  ⟨4, 0, false, (.r (.mov (.loc 1))), none⟩,
  ⟨5, 0, false, (.r (.mov (.loc 5))), none⟩,
  ⟨6, 0, false, (.r (.idx 3 (.tmp 4) (.tmp 5))), none⟩,
  ⟨7, 0, false, (.r (.load true 3 (.tmp 6))), none⟩,
  ⟨8, 0, true, (.call 31 [(.tmp 3), (.tmp 7)]), none⟩,
  ⟨9, 0, false, (.r (.not (.tmp 8))), none⟩], [(26, 9)]⟩)
 (.cond (.loc 26) (.seq (.reg [⟨(.loc 4), (.r (.mov (.cst (.bool false)))), none⟩])
 .ret)
 .skip)))
 (.reg [⟨(.tmp 15), (.r (.mov (.loc 5))), none⟩,
  ⟨(.tmp 16), (.r (.bin .add (.tmp 15) (.cst (.int .i64 1)))), none⟩,
  ⟨(.loc 5), (.r (.mov (.tmp 16))), none⟩]))))))
 (.seq (.reg [⟨(.loc 4), (.r (.mov (.cst (.bool true)))), none⟩])
 .ret)))), [(.tmp (.loc 4))]⟩
theorem fn16_ok : cFn Try.prog fn16.keep 16 = some fn16 := by kernel_rfl

/-- glebe/glebekit.CopyLog -/
def fn17 : AFn := ⟨8, fun s => List.contains [0, 1, 2] s, (.seq (.reg [⟨(.loc 1), (.h (.box (.loc 0))), none⟩,
  ⟨(.loc 2), (.h (.mk [(.int .i64 0), (.int .i64 0), .nils])), none⟩])
 (.seq (.reg [⟨(.tmp 3), (.r (.off 2 (.loc 1))), none⟩,
  ⟨(.tmp 4), (.r (.load false 1 (.tmp 3))), none⟩,
  ⟨(.tmp 5), (.call 18 [(.tmp 4)]), none⟩,
  ⟨(.tmp 6), (.r (.off 2 (.loc 1))), none⟩,
  ⟨.none, (.h (.store 1 (.tmp 6) (.tmp 5))), none⟩])
 (.seq (.reg [⟨(.tmp 7), (.r (.load true 3 (.loc 1))), none⟩,
  ⟨.none, (.h (.store 3 (.loc 2) (.tmp 7))), none⟩])
 .ret))), [(.cell (.loc 2) true 3)]⟩
theorem fn17_ok : cFn Try.prog fn17.keep 17 = some fn17 := by kernel_rfl

/-- glebe/glebekit.CopyEntries -/
def fn18 : AFn := ⟨32, fun s => List.contains [0, 2, 3, 4, 8] s, (.seq (.reg [⟨(.loc 2), (.r (.mov (.cst .nils))), none⟩])
 (.seq (.reg [⟨(.loc 3), (.r (.mov (.cst .nils))), none⟩])
 (.seq (.seq (.reg [⟨(.loc 4), (.r (.mov (.cst (.int .i64 0)))), none⟩])
 (.block 0 (.loop (.seq (.seq (.reg [⟨(.tmp 5), (.r (.mov (.loc 4))), none⟩,
  ⟨(.tmp 6), (.r (.mov (.loc 0))), none⟩,
  ⟨(.tmp 7), (.r (.len (.tmp 6))), none⟩,
  ⟨(.loc 8), (.r (.bin .lss (.tmp 5) (.tmp 7))), none⟩])
 (.cond (.loc 8) .skip
 (.exit 0)))
 (.seq (.block 1 (.dreg ⟨[0, 0, 0, 6, 14, 30, 0, 0, 192, 448, 960, 0, 0, 6144, 14336, 30720, 63488, 131070, 262142, 524287, 1048575], 1, [⟨0, 0, false, (.r (.mov (.loc 3))), none⟩,
  ⟨1, 0, false, (.r (.mov (.loc 0))), none⟩,
  ⟨2, 0, false, (.r (.mov (.loc 4))), none⟩,
  ⟨3, 0, false, (.r (.idx 3 (.tmp 1) (.tmp 2))), none⟩,
  ⟨4, 0, false, (.r (.off 0 (.tmp 3))), none⟩,
  ⟨5, 0, false, (.r (.load false 1 (.tmp 4))), none⟩,
  ⟨6, 0, false, (.r (.mov (.loc 0))), none⟩,
  ⟨7, 0, false, (.r (.mov (.loc 4))), none⟩,
  ⟨8, 0, false, (.r (.idx 3 (.tmp 6) (.tmp 7))), none⟩,
  ⟨9, 0, false, (.r (.off 1 (.tmp 8))), none⟩,
  ⟨10, 0, false, (.r (.load false 1 (.tmp 9))), none⟩,
  ⟨11, 0, false, (.r (.mov (.loc 0))), none⟩,
  ⟨12, 0, false, (.r (.mov (.loc 4))), none⟩,
  ⟨13, 0, false, (.r (.idx 3 (.tmp 11) (.tmp 12))), none⟩,
  ⟨14, 0, false, (.r (.off 2 (.tmp 13))), none⟩,
  ⟨15, 0, false, (.r (.load false 1 (.tmp 14))), none⟩,
  ⟨16, 0, true, (.call 32 [(.tmp 15)]), none⟩,
  ⟨17, 0, false, (.r (.build [(.int .i64 0), (.int .i64 0), .nils] [(0, 1, (.tmp 5)), (1, 1, (.tmp 10)), (2, 1, (.tmp 16))])), none⟩,
  ⟨18, 0, false, (.h (.bsl 3 [(.tmp 17)])), none⟩,
  ⟨19, 1, true, (.h (.app 3 40 (.tmp 0) (.tmp 18))), none⟩,
  ⟨20, 1, false, (.r (.mov (.tmp 19))), none⟩], [(3, 20)]⟩))
 (.reg [⟨(.tmp 9), (.r (.mov (.loc 4))), none⟩,
  ⟨(.tmp 10), (.r (.bin .add (.tmp 9) (.cst (.int .i64 1)))), none⟩,
  ⟨(.loc 4), (.r (.mov (.tmp 10))), none⟩]))))))
 (.seq (.reg [⟨(.tmp 31), (.r (.mov (.loc 3))), none⟩,
  ⟨(.loc 2), (.r (.mov (.tmp 31))), none⟩])
 .ret)))), [(.tmp (.loc 2))]⟩
theorem fn18_ok : cFn Try.prog fn18.keep 18 = some fn18 := by kernel_rfl

/-- glebe/gleberef11.Append -/
def fn19 : AFn := ⟨103, fun s => List.contains [0, 1, 2, 3, 6, 7, 8, 10, 11, 12, 13, 14, 30, 35, 56, 72] s, (.seq (.reg [⟨(.loc 3), (.h (.box (.loc 0))), none⟩,
  ⟨(.loc 6), (.h (.mk [(.int .i64 0), (.int .i64 0), .nils])), none⟩,
  ⟨(.loc 7), (.r (.mov (.cst (.int .i64 0)))), none⟩])
 (.seq (.reg [⟨(.tmp 16), (.r (.load true 3 (.loc 3))), none⟩,
  ⟨(.tmp 17), (.call 24 [(.tmp 16)]), none⟩,
  ⟨(.tmp 15), (.r (.mov (.tmp 17))), none⟩,
  ⟨(.tmp 18), (.r (.ext (.tmp 15) 0)), none⟩,
  ⟨(.tmp 19), (.r (.ext (.tmp 15) 1)), none⟩,
  ⟨(.loc 8), (.r (.mov (.tmp 18))), none⟩,
  ⟨(.tmp 9), (.r (.mov (.tmp 19))), none⟩])
 (.seq (.reg [⟨(.tmp 20), (.r (.load true 3 (.loc 3))), none⟩,
  ⟨(.tmp 21), (.call 17 [(.tmp 20)]), none⟩,
  ⟨(.loc 10), (.h (.mk [(.int .i64 0), (.int .i64 0), .nils])), none⟩,
  ⟨.none, (.h (.store 3 (.loc 10) (.tmp 21))), none⟩])
 (.seq (.seq (.reg [⟨(.tmp 22), (.r (.mov (.loc 1))), none⟩,
  ⟨(.tmp 23), (.r (.off 0 (.loc 3))), none⟩,
  ⟨(.tmp 24), (.r (.load false 1 (.tmp 23))), none⟩,
  ⟨(.tmp 25), (.r (.bin .lss (.tmp 22) (.tmp 24))), none⟩,
  ⟨(.tmp 26), (.r (.mov (.tmp 25))), none⟩,
  ⟨(.tmp 27), (.r (.mov (.loc 1))), (some ((.tmp 26), false))⟩,
  ⟨(.tmp 28), (.r (.mov (.loc 8))), (some ((.tmp 26), false))⟩,
  ⟨(.tmp 29), (.r (.bin .gtr (.tmp 27) (.tmp 28))), (some ((.tmp 26), false))⟩,
  ⟨(.loc 30), (.r (.pick (.tmp 26) (.cst (.bool true)) (.tmp 29))), none⟩])
 (.cond (.loc 30) (.seq (.reg [⟨(.tmp 31), (.r (.load true 3 (.loc 10))), none⟩,
  ⟨.none, (.h (.store 3 (.loc 6) (.tmp 31))), none⟩,
  ⟨(.loc 7), (.r (.mov (.cst (.int .i64 0)))), none⟩])
 .ret)
 .skip))
 (.seq (.seq (.reg [⟨(.loc 11), (.r (.mov (.cst (.int .i64 0)))), none⟩])
 (.block 0 (.loop (.seq (.seq (.reg [⟨(.tmp 32), (.r (.mov (.loc 11))), none⟩,
  ⟨(.tmp 33), (.r (.mov (.loc 2))), none⟩,
  ⟨(.tmp 34), (.r (.len (.tmp 33))), none⟩,
  ⟨(.loc 35), (.r (.bin .lss (.tmp 32) (.tmp 34))), none⟩])
 (.cond (.loc 35) .skip
 (.exit 0)))
 (.seq (.block 1 (.seq (.reg [⟨(.tmp 39), (.r (.load true 3 (.loc 3))), none⟩,
  ⟨(.tmp 40), (.r (.mov (.loc 1))), none⟩,
  ⟨(.tmp 41), (.r (.bin .add (.tmp 40) (.cst (.int .i64 1)))), none⟩,
  ⟨(.tmp 42), (.r (.mov (.loc 11))), none⟩,
  ⟨(.tmp 43), (.r (.bin .add (.tmp 41) (.tmp 42))), none⟩,
  ⟨(.tmp 44), (.call 25 [(.tmp 39), (.tmp 43)]), none⟩,
  ⟨(.tmp 38), (.r (.mov (.tmp 44))), none⟩,
  ⟨(.tmp 45), (.r (.ext (.tmp 38) 0)), none⟩,
  ⟨(.tmp 46), (.r (.ext (.tmp 38) 1)), none⟩,
  ⟨(.loc 12), (.r (.mov (.tmp 45))), none⟩,
  ⟨(.loc 13), (.r (.mov (.tmp 46))), none⟩])
 (.seq (.seq (.reg [⟨(.tmp 47), (.r (.mov (.loc 13))), none⟩,
  ⟨(.tmp 48), (.r (.mov (.tmp 47))), none⟩,
  ⟨(.tmp 49), (.r (.mov (.loc 12))), (some ((.tmp 48), true))⟩,
  ⟨(.tmp 50), (.r (.mov (.loc 2))), (some ((.tmp 48), true))⟩,
  ⟨(.tmp 51), (.r (.mov (.loc 11))), (some ((.tmp 48), true))⟩,
  ⟨(.tmp 52), (.r (.idx 3 (.tmp 50) (.tmp 51))), (some ((.tmp 48), true))⟩,
  ⟨(.tmp 53), (.r (.off 0 (.tmp 52))), (some ((.tmp 48), true))⟩,
  ⟨(.tmp 54), (.r (.load false 1 (.tmp 53))), (some ((.tmp 48), true))⟩,
  ⟨(.tmp 55), (.r (.bin .eql (.tmp 49) (.tmp 54))), (some ((.tmp 48), true))⟩,
  ⟨(.loc 56), (.r (.pick (.tmp 48) (.tmp 55) (.cst (.bool false)))), none⟩])
 (.cond (.loc 56) (.exit 1)
 .skip))
 (.seq (.reg [⟨(.tmp 57), (.r (.off 2 (.loc 3))), none⟩,
  ⟨(.tmp 58), (.r (.load false 1 (.tmp 57))), none⟩,
  ⟨(.tmp 59), (.r (.mov (.loc 1))), none⟩,
  ⟨(.tmp 60), (.r (.mov (.loc 11))), none⟩,
  ⟨(.tmp 61), (.r (.bin .add (.tmp 59) (.tmp 60))), none⟩,
  ⟨(.tmp 62), (.r (.off 0 (.loc 3))), none⟩,
  ⟨(.tmp 63), (.r (.load false 1 (.tmp 62))), none⟩,
  ⟨(.tmp 64), (.r (.bin .sub (.tmp 61) (.tmp 63))), none⟩,
  ⟨(.tmp 65), (.r (.slc 3 (.tmp 58) none (some (.tmp 64)) none)), none⟩,
  ⟨(.tmp 66), (.call 18 [(.tmp 65)]), none⟩,
  ⟨(.tmp 67), (.r (.off 2 (.loc 10))), none⟩,
  ⟨.none, (.h (.store 1 (.tmp 67) (.tmp 66))), none⟩])
 (.seq (.seq (.reg [⟨(.tmp 68), (.r (.mov (.loc 11))), none⟩,
  ⟨(.loc 14), (.r (.mov (.tmp 68))), none⟩])
 (.block 2 (.loop (.seq (.seq (.reg [⟨(.tmp 69), (.r (.mov (.loc 14))), none⟩,
  ⟨(.tmp 70), (.r (.mov (.loc 2))), none⟩,
  ⟨(.tmp 71), (.r (.len (.tmp 70))), none⟩,
  ⟨(.loc 72), (.r (.bin .lss (.tmp 69) (.tmp 71))), none⟩])
 (.cond (.loc 72) .skip
 (.exit 2)))
 (.seq (.block 3 (.dreg ⟨[0, 1, 0, 0, 12, 28, 60, 0, 0, 384, 896, 1920, 0, 0, 12288, 28672, 61440, 126976, 262140, 524284, 1048575, 2097151, 4194303], 1, [⟨0, 0, false, (.r (.off 2 (.loc 10))), none⟩,
  ⟨1, 0, false, (.r (.load false 1 (.tmp 0))), none⟩,
  ⟨2, 0, false, (.r (.mov (.loc 2))), none⟩,
  ⟨3, 0, false, (.r (.mov (.loc 14))), none⟩,
  ⟨4, 0, false, (.r (.idx 3 (.tmp 2) (.tmp 3))), none⟩,
  ⟨5, 0, false, (.r (.off 0 (.tmp 4))), none⟩,
  ⟨6, 0, false, (.r (.load false 1 (.tmp 5))), none⟩,
  ⟨7, 0, false, (.r (.mov (.loc 2))), none⟩,
  ⟨8, 0, false, (.r (.mov (.loc 14))), none⟩,
  ⟨9, 0, false, (.r (.idx 3 (.tmp 7) (.tmp 8))), none⟩,
  ⟨10, 0, false, (.r (.off 1 (.tmp 9))), none⟩,
  ⟨11, 0, false, (.r (.load false 1 (.tmp 10))), none⟩,
  ⟨12, 0, false, (.r (.mov (.loc 2))), none⟩,
  ⟨13, 0, false, (.r (.mov (.loc 14))), none⟩,
  ⟨14, 0, false, (.r (.idx 3 (.tmp 12) (.tmp 13))), none⟩,
  ⟨15, 0, false, (.r (.off 2 (.tmp 14))), none⟩,
  ⟨16, 0, false, (.r (.load false 1 (.tmp 15))), none⟩,
  ⟨17, 0, true, (.call 32 [(.tmp 16)]), none⟩,
  ⟨18, 0, false, (.r (.build [(.int .i64 0), (.int .i64 0), .nils] [(0, 1, (.tmp 6)), (1, 1, (.tmp 11)), (2, 1, (.tmp 17))])), none⟩,
  ⟨19, 0, false, (.h (.bsl 3 [(.tmp 18)])), none⟩,
  ⟨20, 1, true, (.h (.app 3 40 (.tmp 1) (.tmp 19))), none⟩,
  ⟨21, 1, false, (.r (.off 2 (.loc 10))), none⟩,
  ⟨22, 1, true, (.h (.store 1 (.tmp 21) (.tmp 20))), none⟩], []⟩))
 (.reg [⟨(.tmp 73), (.r (.mov (.loc 14))), none⟩,
  ⟨(.tmp 74), (.r (.bin .add (.tmp 73) (.cst (.int .i64 1)))), none⟩,
  ⟨(.loc 14), (.r (.mov (.tmp 74))), none⟩]))))))
 (.seq (.reg [⟨(.tmp 97), (.r (.load true 3 (.loc 10))), none⟩,
  ⟨(.tmp 98), (.r (.mov (.loc 1))), none⟩,
  ⟨(.tmp 99), (.r (.bin .add (.tmp 98) (.cst (.int .i64 1)))), none⟩,
  ⟨(.tmp 100), (.r (.mov (.loc 11))), none⟩,
  ⟨(.tmp 101), (.r (.bin .add (.tmp 99) (.tmp 100))), none⟩,
  ⟨.none, (.h (.store 3 (.loc 6) (.tmp 97))), none⟩,
  ⟨(.loc 7), (.r (.mov (.tmp 101))), none⟩])
 .ret))))))
 (.reg [⟨(.tmp 36), (.r (.mov (.loc 11))), none⟩,
  ⟨(.tmp 37), (.r (.bin .add (.tmp 36) (.cst (.int .i64 1)))), none⟩,
  ⟨(.loc 11), (.r (.mov (.tmp 37))), none⟩]))))))
 (.seq (.reg [⟨(.tmp 102), (.r (.load true 3 (.loc 10))), none⟩,
  ⟨.none, (.h (.store 3 (.loc 6) (.tmp 102))), none⟩,
  ⟨(.loc 7), (.r (.mov (.cst (.int .i64 0)))), none⟩])
 .ret)))))), [(.cell (.loc 6) true 3), (.tmp (.loc 7))]⟩
theorem fn19_ok : cFn Try.prog fn19.keep 19 = some fn19 := by kernel_rfl

/-- glebe/rlog.Cut -/
def fn20 : AFn := ⟨28, fun s => List.contains [0, 1, 2, 4, 5, 6, 7, 15] s, (.seq (.reg [⟨(.loc 2), (.h (.box (.loc 0))), none⟩,
  ⟨(.loc 4), (.h (.mk [(.int .i64 0), (.int .i64 0), .nils])), none⟩,
  ⟨(.loc 5), (.r (.mov (.cst (.int .i64 0)))), none⟩])
 (.seq (.reg [⟨(.tmp 9), (.r (.load true 3 (.loc 2))), none⟩,
  ⟨(.tmp 10), (.r (.mov (.loc 1))), none⟩,
  ⟨(.tmp 11), (.call 15 [(.tmp 9), (.tmp 10)]), none⟩,
  ⟨(.tmp 8), (.r (.mov (.tmp 11))), none⟩,
  ⟨(.tmp 12), (.r (.ext (.tmp 8) 0)), none⟩,
  ⟨(.tmp 13), (.r (.ext (.tmp 8) 1)), none⟩,
  ⟨(.loc 6), (.r (.mov (.tmp 12))), none⟩,
  ⟨(.loc 7), (.r (.mov (.tmp 13))), none⟩])
 (.seq (.seq (.reg [⟨(.tmp 14), (.r (.mov (.loc 7))), none⟩,
  ⟨(.loc 15), (.r (.not (.tmp 14))), none⟩])
 (.cond (.loc 15) (.seq (.reg [⟨(.tmp 16), (.r (.build [(.int .i64 0), (.int .i64 0), .nils] [])), none⟩,
  ⟨.none, (.h (.store 3 (.loc 4) (.tmp 16))), none⟩,
  ⟨(.loc 5), (.r (.mov (.cst (.int .i64 3)))), none⟩])
 .ret)
 .skip))
 (.seq (.reg [⟨(.tmp 17), (.r (.mov (.loc 1))), none⟩,
  ⟨(.tmp 18), (.r (.mov (.loc 6))), none⟩,
  ⟨(.tmp 19), (.r (.off 2 (.loc 2))), none⟩,
  ⟨(.tmp 20), (.r (.load false 1 (.tmp 19))), none⟩,
  ⟨(.tmp 21), (.r (.mov (.loc 1))), none⟩,
  ⟨(.tmp 22), (.r (.off 0 (.loc 2))), none⟩,
  ⟨(.tmp 23), (.r (.load false 1 (.tmp 22))), none⟩,
  ⟨(.tmp 24), (.r (.bin .sub (.tmp 21) (.tmp 23))), none⟩,
  ⟨(.tmp 25), (.r (.slc 3 (.tmp 20) (some (.tmp 24)) none none)), none⟩,
  ⟨(.tmp 26), (.call 30 [(.tmp 25)]), none⟩,
  ⟨(.tmp 27), (.r (.build [(.int .i64 0), (.int .i64 0), .nils] [(0, 1, (.tmp 17)), (1, 1, (.tmp 18)), (2, 1, (.tmp 26))])), none⟩,
  ⟨.none, (.h (.store 3 (.loc 4) (.tmp 27))), none⟩,
  ⟨(.loc 5), (.r (.mov (.cst (.int .i64 0)))), none⟩])
 .ret)))), [(.cell (.loc 4) true 3), (.tmp (.loc 5))]⟩
theorem fn20_ok : cFn Try.prog fn20.keep 20 = some fn20 := by kernel_rfl

/-- glebe/gleberef11.Cut -/
def fn21 : AFn := ⟨28, fun s => List.contains [0, 1, 2, 4, 5, 6, 7, 15] s, (.seq (.reg [⟨(.loc 2), (.h (.box (.loc 0))), none⟩,
  ⟨(.loc 4), (.h (.mk [(.int .i64 0), (.int .i64 0), .nils])), none⟩,
  ⟨(.loc 5), (.r (.mov (.cst (.int .i64 0)))), none⟩])
 (.seq (.reg [⟨(.tmp 9), (.r (.load true 3 (.loc 2))), none⟩,
  ⟨(.tmp 10), (.r (.mov (.loc 1))), none⟩,
  ⟨(.tmp 11), (.call 25 [(.tmp 9), (.tmp 10)]), none⟩,
  ⟨(.tmp 8), (.r (.mov (.tmp 11))), none⟩,
  ⟨(.tmp 12), (.r (.ext (.tmp 8) 0)), none⟩,
  ⟨(.tmp 13), (.r (.ext (.tmp 8) 1)), none⟩,
  ⟨(.loc 6), (.r (.mov (.tmp 12))), none⟩,
  ⟨(.loc 7), (.r (.mov (.tmp 13))), none⟩])
 (.seq (.seq (.reg [⟨(.tmp 14), (.r (.mov (.loc 7))), none⟩,
  ⟨(.loc 15), (.r (.not (.tmp 14))), none⟩])
 (.cond (.loc 15) (.seq (.reg [⟨(.tmp 16), (.r (.build [(.int .i64 0), (.int .i64 0), .nils] [])), none⟩,
  ⟨.none, (.h (.store 3 (.loc 4) (.tmp 16))), none⟩,
  ⟨(.loc 5), (.r (.mov (.cst (.int .i64 3)))), none⟩])
 .ret)
 .skip))
 (.seq (.reg [⟨(.tmp 17), (.r (.mov (.loc 1))), none⟩,
  ⟨(.tmp 18), (.r (.mov (.loc 6))), none⟩,
  ⟨(.tmp 19), (.r (.off 2 (.loc 2))), none⟩,
  ⟨(.tmp 20), (.r (.load false 1 (.tmp 19))), none⟩,
  ⟨(.tmp 21), (.r (.mov (.loc 1))), none⟩,
  ⟨(.tmp 22), (.r (.off 0 (.loc 2))), none⟩,
  ⟨(.tmp 23), (.r (.load false 1 (.tmp 22))), none⟩,
  ⟨(.tmp 24), (.r (.bin .sub (.tmp 21) (.tmp 23))), none⟩,
  ⟨(.tmp 25), (.r (.slc 3 (.tmp 20) (some (.tmp 24)) none none)), none⟩,
  ⟨(.tmp 26), (.call 18 [(.tmp 25)]), none⟩,
  ⟨(.tmp 27), (.r (.build [(.int .i64 0), (.int .i64 0), .nils] [(0, 1, (.tmp 17)), (1, 1, (.tmp 18)), (2, 1, (.tmp 26))])), none⟩,
  ⟨.none, (.h (.store 3 (.loc 4) (.tmp 27))), none⟩,
  ⟨(.loc 5), (.r (.mov (.cst (.int .i64 0)))), none⟩])
 .ret)))), [(.cell (.loc 4) true 3), (.tmp (.loc 5))]⟩
theorem fn21_ok : cFn Try.prog fn21.keep 21 = some fn21 := by kernel_rfl

/-- glebe/glebekit.SpoilEntries -/
def fn22 : AFn := ⟨19, fun s => List.contains [0, 2, 6] s, (.seq (.reg [⟨(.loc 2), (.r (.mov (.cst (.int .i64 0)))), none⟩])
 (.block 0 (.loop (.seq (.seq (.reg [⟨(.tmp 3), (.r (.mov (.loc 2))), none⟩,
  ⟨(.tmp 4), (.r (.mov (.loc 0))), none⟩,
  ⟨(.tmp 5), (.r (.len (.tmp 4))), none⟩,
  ⟨(.loc 6), (.r (.bin .lss (.tmp 3) (.tmp 5))), none⟩])
 (.cond (.loc 6) .skip
 (.exit 0)))
 (.seq (.block 1 (.seq (.reg [⟨(.tmp 9), (.r (.mov (.loc 0))), none⟩,
  ⟨(.tmp 10), (.r (.mov (.loc 2))), none⟩,
  ⟨(.tmp 11), (.r (.idx 3 (.tmp 9) (.tmp 10))), none⟩,
  ⟨(.tmp 12), (.r (.off 2 (.tmp 11))), none⟩,
  ⟨(.tmp 13), (.r (.load false 1 (.tmp 12))), none⟩,
  ⟨(.tmp 14), (.call 33 [(.tmp 13)]), none⟩])
 (.reg [⟨(.tmp 15), (.r (.mov (.loc 0))), none⟩,
  ⟨(.tmp 16), (.r (.mov (.loc 2))), none⟩,
  ⟨(.tmp 17), (.r (.build [(.int .i64 0), (.int .i64 0), .nils] [(0, 1, (.cst (.int .i64 (-77))))])), none⟩,
  ⟨(.tmp 18), (.r (.idx 3 (.tmp 15) (.tmp 16))), none⟩,
  ⟨.none, (.h (.store 3 (.tmp 18) (.tmp 17))), none⟩])))
 (.reg [⟨(.tmp 7), (.r (.mov (.loc 2))), none⟩,
  ⟨(.tmp 8), (.r (.bin .add (.tmp 7) (.cst (.int .i64 1)))), none⟩,
  ⟨(.loc 2), (.r (.mov (.tmp 8))), none⟩])))))), []⟩
theorem fn22_ok : cFn Try.prog fn22.keep 22 = some fn22 := by kernel_rfl

/-- glebe/rlog.Newer -/
def fn23 : AFn := ⟨23, fun s => List.contains [0, 1, 2, 3, 6, 7, 8, 16] s, (.seq (.reg [⟨(.loc 3), (.h (.box (.loc 0))), none⟩,
  ⟨(.loc 6), (.r (.mov (.cst (.bool false)))), none⟩])
 (.seq (.reg [⟨(.tmp 10), (.r (.load true 3 (.loc 3))), none⟩,
  ⟨(.tmp 11), (.call 13 [(.tmp 10)]), none⟩,
  ⟨(.tmp 9), (.r (.mov (.tmp 11))), none⟩,
  ⟨(.tmp 12), (.r (.ext (.tmp 9) 0)), none⟩,
  ⟨(.tmp 13), (.r (.ext (.tmp 9) 1)), none⟩,
  ⟨(.loc 7), (.r (.mov (.tmp 12))), none⟩,
  ⟨(.loc 8), (.r (.mov (.tmp 13))), none⟩])
 (.seq (.seq (.reg [⟨(.tmp 14), (.r (.mov (.loc 2))), none⟩,
  ⟨(.tmp 15), (.r (.mov (.loc 8))), none⟩,
  ⟨(.loc 16), (.r (.bin .neq (.tmp 14) (.tmp 15))), none⟩])
 (.cond (.loc 16) (.seq (.reg [⟨(.tmp 17), (.r (.mov (.loc 2))), none⟩,
  ⟨(.tmp 18), (.r (.mov (.loc 8))), none⟩,
  ⟨(.tmp 19), (.r (.bin .gtr (.tmp 17) (.tmp 18))), none⟩,
  ⟨(.loc 6), (.r (.mov (.tmp 19))), none⟩])
 .ret)
 .skip))
 (.seq (.reg [⟨(.tmp 20), (.r (.mov (.loc 1))), none⟩,
  ⟨(.tmp 21), (.r (.mov (.loc 7))), none⟩,
  ⟨(.tmp 22), (.r (.bin .geq (.tmp 20) (.tmp 21))), none⟩,
  ⟨(.loc 6), (.r (.mov (.tmp 22))), none⟩])
 .ret)))), [(.tmp (.loc 6))]⟩
theorem fn23_ok : cFn Try.prog fn23.keep 23 = some fn23 := by kernel_rfl

/-- glebe/gleberef11.Last -/
def fn24 : AFn := ⟨25, fun s => List.contains [0, 1, 2, 3, 4, 9] s, (.seq (.reg [⟨(.loc 1), (.h (.box (.loc 0))), none⟩,
  ⟨(.loc 2), (.r (.mov (.cst (.int .i64 0)))), none⟩,
  ⟨(.loc 3), (.r (.mov (.cst (.int .i64 0)))), none⟩])
 (.seq (.reg [⟨(.tmp 5), (.r (.off 2 (.loc 1))), none⟩,
  ⟨(.tmp 6), (.r (.load false 1 (.tmp 5))), none⟩,
  ⟨(.tmp 7), (.r (.len (.tmp 6))), none⟩,
  ⟨(.loc 4), (.r (.mov (.tmp 7))), none⟩])
 (.seq (.seq (.reg [⟨(.tmp 8), (.r (.mov (.loc 4))), none⟩,
  ⟨(.loc 9), (.r (.bin .eql (.tmp 8) (.cst (.int .i64 0)))), none⟩])
 (.cond (.loc 9) (.seq (.dreg ⟨[0, 1, 0, 4, 3, 31], 0, [⟨0, 0, false, (.r (.off 0 (.loc 1))), none⟩,
  ⟨1, 0, false, (.r (.load false 1 (.tmp 0))), none⟩,
  ⟨2, 0, false, (.r (.off 1 (.loc 1))), none⟩,
  ⟨3, 0, false, (.r (.load false 1 (.tmp 2))), none⟩,
  ⟨4, 0, false, (.r (.mov (.tmp 1))), none⟩,
  ⟨5, 0, false, (.r (.mov (.tmp 3))), none⟩], [(2, 4), (3, 5)]⟩)
 .ret)
 .skip))
 (.seq (.dreg ⟨[0, 1, 0, 7, 0, 16, 0, 64, 240, 496, 1008, 15, 4095], 0, [⟨0, 0, false, (.r (.off 0 (.loc 1))), none⟩,
  ⟨1, 0, false, (.r (.load false 1 (.tmp 0))), none⟩,
  ⟨2, 0, false, (.r (.mov (.loc 4))), none⟩,
  ⟨3, 0, false, (.r (.bin .add (.tmp 1) (.tmp 2))), none⟩,
  ⟨4, 0, false, (.r (.off 2 (.loc 1))), none⟩,
  ⟨5, 0, false, (.r (.load false 1 (.tmp 4))), none⟩,
  ⟨6, 0, false, (.r (.mov (.loc 4))), none⟩,
  ⟨7, 0, false, (.r (.bin .sub (.tmp 6) (.cst (.int .i64 1)))), none⟩,
  ⟨8, 0, false, (.r (.idx 3 (.tmp 5) (.tmp 7))), none⟩,
  ⟨9, 0, false, (.r (.off 0 (.tmp 8))), none⟩,
  ⟨10, 0, false, (.r (.load false 1 (.tmp 9))), none⟩,
  ⟨11, 0, false, (.r (.mov (.tmp 3))), none⟩,
  ⟨12, 0, false, (.r (.mov (.tmp 10))), none⟩], [(2, 11), (3, 12)]⟩)
 .ret)))), [(.tmp (.loc 2)), (.tmp (.loc 3))]⟩
theorem fn24_ok : cFn Try.prog fn24.keep 24 = some fn24 := by kernel_rfl

/-- glebe/gleberef11.Term -/
def fn25 : AFn := ⟨38, fun s => List.contains [0, 1, 2, 4, 5, 6, 21, 25] s, (.seq (.reg [⟨(.loc 2), (.h (.box (.loc 0))), none⟩,
  ⟨(.loc 4), (.r (.mov (.cst (.int .i64 0)))), none⟩,
  ⟨(.loc 5), (.r (.mov (.cst (.bool false)))), none⟩])
 (.seq (.reg [⟨(.tmp 9), (.r (.load true 3 (.loc 2))), none⟩,
  ⟨(.tmp 10), (.call 24 [(.tmp 9)]), none⟩,
  ⟨(.tmp 8), (.r (.mov (.tmp 10))), none⟩,
  ⟨(.tmp 11), (.r (.ext (.tmp 8) 0)), none⟩,
  ⟨(.tmp 12), (.r (.ext (.tmp 8) 1)), none⟩,
  ⟨(.loc 6), (.r (.mov (.tmp 11))), none⟩,
  ⟨(.tmp 7), (.r (.mov (.tmp 12))), none⟩])
 (.seq (.seq (.reg [⟨(.tmp 13), (.r (.mov (.loc 1))), none⟩,
  ⟨(.tmp 14), (.r (.off 0 (.loc 2))), none⟩,
  ⟨(.tmp 15), (.r (.load false 1 (.tmp 14))), none⟩,
  ⟨(.tmp 16), (.r (.bin .lss (.tmp 13) (.tmp 15))), none⟩,
  ⟨(.tmp 17), (.r (.mov (.tmp 16))), none⟩,
  ⟨(.tmp 18), (.r (.mov (.loc 1))), (some ((.tmp 17), false))⟩,
  ⟨(.tmp 19), (.r (.mov (.loc 6))), (some ((.tmp 17), false))⟩,
  ⟨(.tmp 20), (.r (.bin .gtr (.tmp 18) (.tmp 19))), (some ((.tmp 17), false))⟩,
  ⟨(.loc 21), (.r (.pick (.tmp 17) (.cst (.bool true)) (.tmp 20))), none⟩])
 (.cond (.loc 21) (.seq (.reg [⟨(.loc 4), (.r (.mov (.cst (.int .i64 0)))), none⟩,
  ⟨(.loc 5), (.r (.mov (.cst (.bool false)))), none⟩])
 .ret)
 .skip))
 (.seq (.seq (.reg [⟨(.tmp 22), (.r (.mov (.loc 1))), none⟩,
  ⟨(.tmp 23), (.r (.off 0 (.loc 2))), none⟩,
  ⟨(.tmp 24), (.r (.load false 1 (.tmp 23))), none⟩,
  ⟨(.loc 25), (.r (.bin .eql (.tmp 22) (.tmp 24))), none⟩])
 (.cond (.loc 25) (.seq (.reg [⟨(.tmp 26), (.r (.off 1 (.loc 2))), none⟩,
  ⟨(.tmp 27), (.r (.load false 1 (.tmp 26))), none⟩,
  ⟨(.loc 4), (.r (.mov (.tmp 27))), none⟩,
  ⟨(.loc 5), (.r (.mov (.cst (.bool true)))), none⟩])
 .ret)
 .skip))
 (.seq (.reg [⟨(.tmp 28), (.r (.off 2 (.loc 2))), none⟩,
  ⟨(.tmp 29), (.r (.load false 1 (.tmp 28))), none⟩,
  ⟨(.tmp 30), (.r (.mov (.loc 1))), none⟩,
  ⟨(.tmp 31), (.r (.off 0 (.loc 2))), none⟩,
  ⟨(.tmp 32), (.r (.load false 1 (.tmp 31))), none⟩,
  ⟨(.tmp 33), (.r (.bin .sub (.tmp 30) (.tmp 32))), none⟩,
  ⟨(.tmp 34), (.r (.bin .sub (.tmp 33) (.cst (.int .i64 1)))), none⟩,
  ⟨(.tmp 35), (.r (.idx 3 (.tmp 29) (.tmp 34))), none⟩,
  ⟨(.tmp 36), (.r (.off 0 (.tmp 35))), none⟩,
  ⟨(.tmp 37), (.r (.load false 1 (.tmp 36))), none⟩,
  ⟨(.loc 4), (.r (.mov (.tmp 37))), none⟩,
  ⟨(.loc 5), (.r (.mov (.cst (.bool true)))), none⟩])
 .ret))))), [(.tmp (.loc 4)), (.tmp (.loc 5))]⟩
theorem fn25_ok : cFn Try.prog fn25.keep 25 = some fn25 := by kernel_rfl

/-- glebe/rlog.Slice -/
def fn26 : AFn := ⟨43, fun s => List.contains [0, 1, 2, 3, 6, 7, 9, 27] s, (.seq (.reg [⟨(.loc 3), (.h (.box (.loc 0))), none⟩,
  ⟨(.loc 6), (.r (.mov (.cst .nils))), none⟩])
 (.seq (.reg [⟨(.tmp 11), (.r (.load true 3 (.loc 3))), none⟩,
  ⟨(.tmp 12), (.call 13 [(.tmp 11)]), none⟩,
  ⟨(.tmp 10), (.r (.mov (.tmp 12))), none⟩,
  ⟨(.tmp 13), (.r (.ext (.tmp 10) 0)), none⟩,
  ⟨(.tmp 14), (.r (.ext (.tmp 10) 1)), none⟩,
  ⟨(.loc 7), (.r (.mov (.tmp 13))), none⟩,
  ⟨(.tmp 8), (.r (.mov (.tmp 14))), none⟩])
 (.seq (.seq (.reg [⟨(.tmp 15), (.r (.mov (.loc 1))), none⟩,
  ⟨(.tmp 16), (.r (.off 0 (.loc 3))), none⟩,
  ⟨(.tmp 17), (.r (.load false 1 (.tmp 16))), none⟩,
  ⟨(.tmp 18), (.r (.bin .leq (.tmp 15) (.tmp 17))), none⟩,
  ⟨(.tmp 19), (.r (.mov (.tmp 18))), none⟩,
  ⟨(.tmp 20), (.r (.mov (.loc 1))), (some ((.tmp 19), false))⟩,
  ⟨(.tmp 21), (.r (.mov (.loc 7))), (some ((.tmp 19), false))⟩,
  ⟨(.tmp 22), (.r (.bin .gtr (.tmp 20) (.tmp 21))), (some ((.tmp 19), false))⟩,
  ⟨(.tmp 23), (.r (.pick (.tmp 19) (.cst (.bool true)) (.tmp 22))), none⟩,
  ⟨(.tmp 24), (.r (.mov (.tmp 23))), none⟩,
  ⟨(.tmp 25), (.r (.mov (.loc 2))), (some ((.tmp 24), false))⟩,
  ⟨(.tmp 26), (.r (.bin .lss (.tmp 25) (.cst (.int .i64 1)))), (some ((.tmp 24), false))⟩,
  ⟨(.loc 27), (.r (.pick (.tmp 24) (.cst (.bool true)) (.tmp 26))), none⟩])
 (.cond (.loc 27) (.seq (.reg [⟨(.loc 6), (.r (.mov (.cst .nils))), none⟩])
 .ret)
 .skip))
 (.seq (.reg [⟨(.tmp 28), (.r (.off 2 (.loc 3))), none⟩,
  ⟨(.tmp 29), (.r (.load false 1 (.tmp 28))), none⟩,
  ⟨(.tmp 30), (.r (.mov (.loc 1))), none⟩,
  ⟨(.tmp 31), (.r (.off 0 (.loc 3))), none⟩,
  ⟨(.tmp 32), (.r (.load false 1 (.tmp 31))), none⟩,
  ⟨(.tmp 33), (.r (.bin .sub (.tmp 30) (.tmp 32))), none⟩,
  ⟨(.tmp 34), (.r (.bin .sub (.tmp 33) (.cst (.int .i64 1)))), none⟩,
  ⟨(.tmp 35), (.r (.slc 3 (.tmp 29) (some (.tmp 34)) none none)), none⟩,
  ⟨(.loc 9), (.r (.mov (.tmp 35))), none⟩])
 (.seq (.reg [⟨(.tmp 36), (.r (.mov (.loc 9))), none⟩,
  ⟨(.tmp 37), (.r (.mov (.loc 2))), none⟩,
  ⟨(.tmp 38), (.r (.mov (.loc 9))), none⟩,
  ⟨(.tmp 39), (.r (.len (.tmp 38))), none⟩,
  ⟨(.tmp 40), (.r (.mnmx false [(.tmp 37), (.tmp 39)])), none⟩,
  ⟨(.tmp 41), (.r (.slc 3 (.tmp 36) none (some (.tmp 40)) none)), none⟩,
  ⟨(.tmp 42), (.call 30 [(.tmp 41)]), none⟩,
  ⟨(.loc 6), (.r (.mov (.tmp 42))), none⟩])
 .ret))))), [(.tmp (.loc 6))]⟩
theorem fn26_ok : cFn Try.prog fn26.keep 26 = some fn26 := by kernel_rfl

/-- glebe/gleberef11.Newer -/
def fn27 : AFn := ⟨27, fun s => List.contains [0, 1, 2, 3, 6, 7, 8] s, (.seq (.reg [⟨(.loc 3), (.h (.box (.loc 0))), none⟩,
  ⟨(.loc 6), (.r (.mov (.cst (.bool false)))), none⟩])
 (.seq (.reg [⟨(.tmp 10), (.r (.load true 3 (.loc 3))), none⟩,
  ⟨(.tmp 11), (.call 24 [(.tmp 10)]), none⟩,
  ⟨(.tmp 9), (.r (.mov (.tmp 11))), none⟩,
  ⟨(.tmp 12), (.r (.ext (.tmp 9) 0)), none⟩,
  ⟨(.tmp 13), (.r (.ext (.tmp 9) 1)), none⟩,
  ⟨(.loc 7), (.r (.mov (.tmp 12))), none⟩,
  ⟨(.loc 8), (.r (.mov (.tmp 13))), none⟩])
 (.seq (.reg [⟨(.tmp 14), (.r (.mov (.loc 2))), none⟩,
  ⟨(.tmp 15), (.r (.mov (.loc 8))), none⟩,
  ⟨(.tmp 16), (.r (.bin .gtr (.tmp 14) (.tmp 15))), none⟩,
  ⟨(.tmp 17), (.r (.mov (.tmp 16))), none⟩,
  ⟨(.tmp 18), (.r (.mov (.loc 2))), (some ((.tmp 17), false))⟩,
  ⟨(.tmp 19), (.r (.mov (.loc 8))), (some ((.tmp 17), false))⟩,
  ⟨(.tmp 20), (.r (.bin .eql (.tmp 18) (.tmp 19))), (some ((.tmp 17), false))⟩,
  ⟨(.tmp 21), (.r (.mov (.tmp 20))), (some ((.tmp 17), false))⟩,
  ⟨(.tmp 22), (.r (.mov (.loc 1))), (some ((.tmp 21), true))⟩,
  ⟨(.tmp 23), (.r (.mov (.loc 7))), (some ((.tmp 21), true))⟩,
  ⟨(.tmp 24), (.r (.bin .geq (.tmp 22) (.tmp 23))), (some ((.tmp 21), true))⟩,
  ⟨(.tmp 25), (.r (.pick (.tmp 21) (.tmp 24) (.cst (.bool false)))), (some ((.tmp 17), false))⟩,
  ⟨(.tmp 26), (.r (.pick (.tmp 17) (.cst (.bool true)) (.tmp 25))), none⟩,
  ⟨(.loc 6), (.r (.mov (.tmp 26))), none⟩])
 .ret))), [(.tmp (.loc 6))]⟩
theorem fn27_ok : cFn Try.prog fn27.keep 27 = some fn27 := by kernel_rfl

/-- glebe/gleberef11.Slice -/
def fn28 : AFn := ⟨52, fun s => List.contains [0, 1, 2, 3, 6, 7, 9, 10, 35] s, (.seq (.reg [⟨(.loc 3), (.h (.box (.loc 0))), none⟩,
  ⟨(.loc 6), (.r (.mov (.cst .nils))), none⟩])
 (.seq (.reg [⟨(.tmp 12), (.r (.load true 3 (.loc 3))), none⟩,
  ⟨(.tmp 13), (.call 24 [(.tmp 12)]), none⟩,
  ⟨(.tmp 11), (.r (.mov (.tmp 13))), none⟩,
  ⟨(.tmp 14), (.r (.ext (.tmp 11) 0)), none⟩,
  ⟨(.tmp 15), (.r (.ext (.tmp 11) 1)), none⟩,
  ⟨(.loc 7), (.r (.mov (.tmp 14))), none⟩,
  ⟨(.tmp 8), (.r (.mov (.tmp 15))), none⟩])
 (.seq (.reg [⟨(.loc 9), (.r (.mov (.cst .nils))), none⟩])
 (.seq (.seq (.reg [⟨(.tmp 16), (.r (.mov (.loc 1))), none⟩,
  ⟨(.tmp 17), (.r (.off 0 (.loc 3))), none⟩,
  ⟨(.tmp 18), (.r (.load false 1 (.tmp 17))), none⟩,
  ⟨(.tmp 19), (.r (.bin .add (.tmp 18) (.cst (.int .i64 1)))), none⟩,
  ⟨(.tmp 20), (.r (.mnmx true [(.tmp 16), (.tmp 19)])), none⟩,
  ⟨(.loc 10), (.r (.mov (.tmp 20))), none⟩])
 (.block 0 (.loop (.seq (.seq (.reg [⟨(.tmp 21), (.r (.mov (.loc 10))), none⟩,
  ⟨(.tmp 22), (.r (.mov (.loc 7))), none⟩,
  ⟨(.tmp 23), (.r (.bin .leq (.tmp 21) (.tmp 22))), none⟩,
  ⟨(.tmp 24), (.r (.mov (.tmp 23))), none⟩,
  ⟨(.tmp 25), (.r (.mov (.loc 1))), (some ((.tmp 24), true))⟩,
  ⟨(.tmp 26), (.r (.off 0 (.loc 3))), (some ((.tmp 24), true))⟩,
  ⟨(.tmp 27), (.r (.load false 1 (.tmp 26))), (some ((.tmp 24), true))⟩,
  ⟨(.tmp 28), (.r (.bin .gtr (.tmp 25) (.tmp 27))), (some ((.tmp 24), true))⟩,
  ⟨(.tmp 29), (.r (.pick (.tmp 24) (.tmp 28) (.cst (.bool false)))), none⟩,
  ⟨(.tmp 30), (.r (.mov (.tmp 29))), none⟩,
  ⟨(.tmp 31), (.r (.mov (.loc 9))), (some ((.tmp 30), true))⟩,
  ⟨(.tmp 32), (.r (.len (.tmp 31))), (some ((.tmp 30), true))⟩,
  ⟨(.tmp 33), (.r (.mov (.loc 2))), (some ((.tmp 30), true))⟩,
  ⟨(.tmp 34), (.r (.bin .lss (.tmp 32) (.tmp 33))), (some ((.tmp 30), true))⟩,
  ⟨(.loc 35), (.r (.pick (.tmp 30) (.tmp 34) (.cst (.bool false)))), none⟩])
 (.cond (.loc 35) .skip
 (.exit 0)))
 (.seq (.block 1 (.reg [⟨(.tmp 38), (.r (.mov (.loc 9))), none⟩,
  ⟨(.tmp 39), (.r (.off 2 (.loc 3))), none⟩,
  ⟨(.tmp 40), (.r (.load false 1 (.tmp 39))), none⟩,
  ⟨(.tmp 41), (.r (.mov (.loc 10))), none⟩,
  ⟨(.tmp 42), (.r (.off 0 (.loc 3))), none⟩,
  ⟨(.tmp 43), (.r (.load false 1 (.tmp 42))), none⟩,
  ⟨(.tmp 44), (.r (.bin .sub (.tmp 41) (.tmp 43))), none⟩,
  ⟨(.tmp 45), (.r (.bin .sub (.tmp 44) (.cst (.int .i64 1)))), none⟩,
  ⟨(.tmp 46), (.r (.idx 3 (.tmp 40) (.tmp 45))), none⟩,
  ⟨(.tmp 47), (.r (.load true 3 (.tmp 46))), none⟩,
  ⟨(.tmp 48), (.h (.bsl 3 [(.tmp 47)])), none⟩,
  ⟨(.tmp 49), (.h (.app 3 40 (.tmp 38) (.tmp 48))), none⟩,
  ⟨(.loc 9), (.r (.mov (.tmp 49))), none⟩]))
 (.reg [⟨(.tmp 36), (.r (.mov (.loc 10))), none⟩,
  ⟨(.tmp 37), (.r (.bin .add (.tmp 36) (.cst (.int .i64 1)))), none⟩,
  ⟨(.loc 10), (.r (.mov (.tmp 37))), none⟩]))))))
 (.seq (.reg [⟨(.tmp 50), (.r (.mov (.loc 9))), none⟩,
  ⟨(.tmp 51), (.call 18 [(.tmp 50)]), none⟩,
  ⟨(.loc 6), (.r (.mov (.tmp 51))), none⟩])
 .ret))))), [(.tmp (.loc 6))]⟩
theorem fn28_ok : cFn Try.prog fn28.keep 28 = some fn28 := by kernel_rfl

/-- glebe/glebelaw11.terms -/
def fn29 : AFn := ⟨23, fun s => List.contains [0, 2, 3, 4, 8] s, (.seq (.reg [⟨(.loc 2), (.r (.mov (.cst .nils))), none⟩])
 (.seq (.reg [⟨(.loc 3), (.r (.mov (.cst .nils))), none⟩])
 (.seq (.seq (.reg [⟨(.loc 4), (.r (.mov (.cst (.int .i64 0)))), none⟩])
 (.block 0 (.loop (.seq (.seq (.reg [⟨(.tmp 5), (.r (.mov (.loc 4))), none⟩,
  ⟨(.tmp 6), (.r (.mov (.loc 0))), none⟩,
  ⟨(.tmp 7), (.r (.len (.tmp 6))), none⟩,
  ⟨(.loc 8), (.r (.bin .lss (.tmp 5) (.tmp 7))), none⟩])
 (.cond (.loc 8) .skip
 (.exit 0)))
 (.seq (.block 1 (.reg [⟨(.tmp 11), (.r (.mov (.loc 3))), none⟩,
  ⟨(.tmp 12), (.r (.mov (.loc 0))), none⟩,
  ⟨(.tmp 13), (.r (.mov (.loc 4))), none⟩,
  ⟨(.tmp 14), (.r (.idx 1 (.tmp 12) (.tmp 13))), none⟩,
  ⟨(.tmp 15), (.r (.load false 1 (.tmp 14))), none⟩,
  ⟨(.tmp 16), (.r (.mov (.loc 4))), none⟩,
  ⟨(.tmp 17), (.r (.conv .u8 (.tmp 16))), none⟩,
  ⟨(.tmp 18), (.h (.bsl 1 [(.tmp 17)])), none⟩,
  ⟨(.tmp 19), (.r (.build [(.int .i64 0), (.int .i64 0), .nils] [(0, 1, (.tmp 15)), (1, 1, (.cst (.int .i64 1))), (2, 1, (.tmp 18))])), none⟩,
  ⟨(.tmp 20), (.h (.bsl 3 [(.tmp 19)])), none⟩,
  ⟨(.tmp 21), (.h (.app 3 40 (.tmp 11) (.tmp 20))), none⟩,
  ⟨(.loc 3), (.r (.mov (.tmp 21))), none⟩]))
 (.reg [⟨(.tmp 9), (.r (.mov (.loc 4))), none⟩,
  ⟨(.tmp 10), (.r (.bin .add (.tmp 9) (.cst (.int .i64 1)))), none⟩,
  ⟨(.loc 4), (.r (.mov (.tmp 10))), none⟩]))))))
 (.seq (.reg [⟨(.tmp 22), (.r (.mov (.loc 3))), none⟩,
  ⟨(.loc 2), (.r (.mov (.tmp 22))), none⟩])
 .ret)))), [(.tmp (.loc 2))]⟩
theorem fn29_ok : cFn Try.prog fn29.keep 29 = some fn29 := by kernel_rfl

/-- glebe/rlog.fresh -/
def fn30 : AFn := ⟨23, fun s => List.contains [0, 2, 3, 5, 6, 7, 8, 9] s, (.seq (.reg [⟨(.loc 2), (.r (.mov (.cst .nils))), none⟩])
 (.seq (.reg [⟨(.loc 3), (.r (.mov (.cst .nils))), none⟩])
 (.seq (.seq (.reg [⟨(.loc 6), (.r (.mov (.loc 0))), none⟩,
  ⟨(.loc 7), (.r (.len (.loc 6))), none⟩,
  ⟨(.loc 8), (.r (.mov (.cst (.int .i64 0)))), none⟩])
 (.block 0 (.loop (.seq (.reg [⟨(.loc 9), (.r (.bin .lss (.loc 8) (.loc 7))), none⟩])
 (.seq (.cond (.loc 9) .skip
 (.exit 0))
 (.seq (.block 1 (.seq (.reg [⟨(.tmp 10), (.r (.idx 3 (.loc 6) (.loc 8))), none⟩,
  ⟨(.tmp 11), (.r (.load true 3 (.tmp 10))), none⟩,
  ⟨(.loc 5), (.h (.mk [(.int .i64 0), (.int .i64 0), .nils])), none⟩,
  ⟨.none, (.h (.store 3 (.loc 5) (.tmp 11))), none⟩])
 (.seq (.reg [⟨(.tmp 12), (.h (.bsl 1 [])), none⟩,
  ⟨(.tmp 13), (.r (.off 2 (.loc 5))), none⟩,
  ⟨(.tmp 14), (.r (.load false 1 (.tmp 13))), none⟩,
  ⟨(.tmp 15), (.h (.app 1 1 (.tmp 12) (.tmp 14))), none⟩,
  ⟨(.tmp 16), (.r (.off 2 (.loc 5))), none⟩,
  ⟨.none, (.h (.store 1 (.tmp 16) (.tmp 15))), none⟩])
 (.reg [⟨(.tmp 17), (.r (.mov (.loc 3))), none⟩,
  ⟨(.tmp 18), (.r (.load true 3 (.loc 5))), none⟩,
  ⟨(.tmp 19), (.h (.bsl 3 [(.tmp 18)])), none⟩,
  ⟨(.tmp 20), (.h (.app 3 40 (.tmp 17) (.tmp 19))), none⟩,
  ⟨(.loc 3), (.r (.mov (.tmp 20))), none⟩]))))
 (.reg [⟨(.tmp 21), (.r (.bin .add (.loc 8) (.cst (.int .i64 1)))), none⟩,
  ⟨(.loc 8), (.r (.mov (.tmp 21))), none⟩])))))))
 (.seq (.reg [⟨(.tmp 22), (.r (.mov (.loc 3))), none⟩,
  ⟨(.loc 2), (.r (.mov (.tmp 22))), none⟩])
 .ret)))), [(.tmp (.loc 2))]⟩
theorem fn30_ok : cFn Try.prog fn30.keep 30 = some fn30 := by kernel_rfl

/-- glebe/glebekit.SameEntry -/
def fn31 : AFn := ⟨24, fun s => List.contains [0, 1, 2, 3, 4] s, (.seq (.reg [⟨(.loc 2), (.h (.box (.loc 0))), none⟩,
  ⟨(.loc 3), (.h (.box (.loc 1))), none⟩,
  ⟨(.loc 4), (.r (.mov (.cst (.bool false)))), none⟩])
 (.seq (.reg [⟨(.tmp 5), (.r (.off 0 (.loc 2))), none⟩,
  ⟨(.tmp 6), (.r (.load false 1 (.tmp 5))), none⟩,
  ⟨(.tmp 7), (.r (.off 0 (.loc 3))), none⟩,
  ⟨(.tmp 8), (.r (.load false 1 (.tmp 7))), none⟩,
  ⟨(.tmp 9), (.r (.bin .eql (.tmp 6) (.tmp 8))), none⟩,
  ⟨(.tmp 10), (.r (.mov (.tmp 9))), none⟩,
  ⟨(.tmp 11), (.r (.off 1 (.loc 2))), (some ((.tmp 10), true))⟩,
  ⟨(.tmp 12), (.r (.load false 1 (.tmp 11))), (some ((.tmp 10), true))⟩,
  ⟨(.tmp 13), (.r (.off 1 (.loc 3))), (some ((.tmp 10), true))⟩,
  ⟨(.tmp 14), (.r (.load false 1 (.tmp 13))), (some ((.tmp 10), true))⟩,
  ⟨(.tmp 15), (.r (.bin .eql (.tmp 12) (.tmp 14))), (some ((.tmp 10), true))⟩,
  ⟨(.tmp 16), (.r (.pick (.tmp 10) (.tmp 15) (.cst (.bool false)))), none⟩,
  ⟨(.tmp 17), (.r (.mov (.tmp 16))), none⟩,
  ⟨(.tmp 18), (.r (.off 2 (.loc 2))), (some ((.tmp 17), true))⟩,
  ⟨(.tmp 19), (.r (.load false 1 (.tmp 18))), (some ((.tmp 17), true))⟩,
  ⟨(.tmp 20), (.r (.off 2 (.loc 3))), (some ((.tmp 17), true))⟩,
  ⟨(.tmp 21), (.r (.load false 1 (.tmp 20))), (some ((.tmp 17), true))⟩,
  ⟨(.tmp 22), (.call 34 [(.tmp 19), (.tmp 21)]), (some ((.tmp 17), true))⟩,
  ⟨(.tmp 23), (.r (.pick (.tmp 17) (.tmp 22) (.cst (.bool false)))), none⟩,
  ⟨(.loc 4), (.r (.mov (.tmp 23))), none⟩])
 .ret)), [(.tmp (.loc 4))]⟩
theorem fn31_ok : cFn Try.prog fn31.keep 31 = some fn31 := by kernel_rfl

/-- glebe/glebekit.CopyBytes -/
def fn32 : AFn := ⟨19, fun s => List.contains [0, 2, 3, 4, 8] s, (.seq (.reg [⟨(.loc 2), (.r (.mov (.cst .nils))), none⟩])
 (.seq (.reg [⟨(.loc 3), (.r (.mov (.cst .nils))), none⟩])
 (.seq (.seq (.reg [⟨(.loc 4), (.r (.mov (.cst (.int .i64 0)))), none⟩])
 (.block 0 (.loop (.seq (.seq (.reg [⟨(.tmp 5), (.r (.mov (.loc 4))), none⟩,
  ⟨(.tmp 6), (.r (.mov (.loc 0))), none⟩,
  ⟨(.tmp 7), (.r (.len (.tmp 6))), none⟩,
  ⟨(.loc 8), (.r (.bin .lss (.tmp 5) (.tmp 7))), none⟩])
 (.cond (.loc 8) .skip
 (.exit 0)))
 (.seq (.block 1 (.reg [⟨(.tmp 11), (.r (.mov (.loc 3))), none⟩,
  ⟨(.tmp 12), (.r (.mov (.loc 0))), none⟩,
  ⟨(.tmp 13), (.r (.mov (.loc 4))), none⟩,
  ⟨(.tmp 14), (.r (.idx 1 (.tmp 12) (.tmp 13))), none⟩,
  ⟨(.tmp 15), (.r (.load false 1 (.tmp 14))), none⟩,
  ⟨(.tmp 16), (.h (.bsl 1 [(.tmp 15)])), none⟩,
  ⟨(.tmp 17), (.h (.app 1 1 (.tmp 11) (.tmp 16))), none⟩,
  ⟨(.loc 3), (.r (.mov (.tmp 17))), none⟩]))
 (.reg [⟨(.tmp 9), (.r (.mov (.loc 4))), none⟩,
  ⟨(.tmp 10), (.r (.bin .add (.tmp 9) (.cst (.int .i64 1)))), none⟩,
  ⟨(.loc 4), (.r (.mov (.tmp 10))), none⟩]))))))
 (.seq (.reg [⟨(.tmp 18), (.r (.mov (.loc 3))), none⟩,
  ⟨(.loc 2), (.r (.mov (.tmp 18))), none⟩])
 .ret)))), [(.tmp (.loc 2))]⟩
theorem fn32_ok : cFn Try.prog fn32.keep 32 = some fn32 := by kernel_rfl

/-- glebe/glebekit.SpoilBytes -/
def fn33 : AFn := ⟨17, fun s => List.contains [0, 2, 6] s, (.seq (.reg [⟨(.loc 2), (.r (.mov (.cst (.int .i64 0)))), none⟩])
 (.block 0 (.loop (.seq (.seq (.reg [⟨(.tmp 3), (.r (.mov (.loc 2))), none⟩,
  ⟨(.tmp 4), (.r (.mov (.loc 0))), none⟩,
  ⟨(.tmp 5), (.r (.len (.tmp 4))), none⟩,
  ⟨(.loc 6), (.r (.bin .lss (.tmp 3) (.tmp 5))), none⟩])
 (.cond (.loc 6) .skip
 (.exit 0)))
 (.seq (.block 1 (.reg [⟨(.tmp 9), (.r (.mov (.loc 0))), none⟩,
  ⟨(.tmp 10), (.r (.mov (.loc 2))), none⟩,
  ⟨(.tmp 11), (.r (.mov (.loc 0))), none⟩,
  ⟨(.tmp 12), (.r (.mov (.loc 2))), none⟩,
  ⟨(.tmp 13), (.r (.idx 1 (.tmp 11) (.tmp 12))), none⟩,
  ⟨(.tmp 14), (.r (.load false 1 (.tmp 13))), none⟩,
  ⟨(.tmp 15), (.r (.bin .xor (.tmp 14) (.cst (.int .u8 90)))), none⟩,
  ⟨(.tmp 16), (.r (.idx 1 (.tmp 9) (.tmp 10))), none⟩,
  ⟨.none, (.h (.store 1 (.tmp 16) (.tmp 15))), none⟩]))
 (.reg [⟨(.tmp 7), (.r (.mov (.loc 2))), none⟩,
  ⟨(.tmp 8), (.r (.bin .add (.tmp 7) (.cst (.int .i64 1)))), none⟩,
  ⟨(.loc 2), (.r (.mov (.tmp 8))), none⟩])))))), []⟩
theorem fn33_ok : cFn Try.prog fn33.keep 33 = some fn33 := by kernel_rfl

/-- glebe/glebekit.SameBytes -/
def fn34 : AFn := ⟨26, fun s => List.contains [0, 1, 4, 5, 10, 14, 25] s, (.seq (.reg [⟨(.loc 4), (.r (.mov (.cst (.bool false)))), none⟩])
 (.seq (.seq (.reg [⟨(.tmp 6), (.r (.mov (.loc 0))), none⟩,
  ⟨(.tmp 7), (.r (.len (.tmp 6))), none⟩,
  ⟨(.tmp 8), (.r (.mov (.loc 1))), none⟩,
  ⟨(.tmp 9), (.r (.len (.tmp 8))), none⟩,
  ⟨(.loc 10), (.r (.bin .neq (.tmp 7) (.tmp 9))), none⟩])
 (.cond (.loc 10) (.seq (.reg [⟨(.loc 4), (.r (.mov (.cst (.bool false)))), none⟩])
 .ret)
 .skip))
 (.seq (.seq (.reg [⟨(.loc 5), (.r (.mov (.cst (.int .i64 0)))), none⟩])
 (.block 0 (.loop (.seq (.seq (.reg [⟨(.tmp 11), (.r (.mov (.loc 5))), none⟩,
  ⟨(.tmp 12), (.r (.mov (.loc 0))), none⟩,
  ⟨(.tmp 13), (.r (.len (.tmp 12))), none⟩,
  ⟨(.loc 14), (.r (.bin .lss (.tmp 11) (.tmp 13))), none⟩])
 (.cond (.loc 14) .skip
 (.exit 0)))
 (.seq (.block 1 (.seq (.dreg ⟨[0, 0, 3, 7, 0, 0, 48, 112, 255], 0, [⟨0, 0, false, (.r (.mov (.loc 0))), none⟩,
  ⟨1, 0, false, (.r (.mov (.loc 5))), none⟩,
  ⟨2, 0, false, (.r (.idx 1 (.tmp 0) (.tmp 1))), none⟩,
  ⟨3, 0, false, (.r (.load false 1 (.tmp 2))), none⟩,
  ⟨4, 0, false, (.r (.mov (.loc 1))), none⟩,
  ⟨5, 0, false, (.r (.mov (.loc 5))), none⟩,
  ⟨6, 0, false, (.r (.idx 1 (.tmp 4) (.tmp 5))), none⟩,
  ⟨7, 0, false, (.r (.load false 1 (.tmp 6))), none⟩,
  ⟨8, 0, false, (.r (.bin .neq (.tmp 3) (.tmp 7))), none⟩], [(25, 8)]⟩)
 (.cond (.loc 25) (.seq (.reg [⟨(.loc 4), (.r (.mov (.cst (.bool false)))), none⟩])
 .ret)
 .skip)))
 (.reg [⟨(.tmp 15), (.r (.mov (.loc 5))), none⟩,
  ⟨(.tmp 16), (.r (.bin .add (.tmp 15) (.cst (.int .i64 1)))), none⟩,
  ⟨(.loc 5), (.r (.mov (.tmp 16))), none⟩]))))))
 (.seq (.reg [⟨(.loc 4), (.r (.mov (.cst (.bool true)))), none⟩])
 .ret)))), [(.tmp (.loc 4))]⟩
theorem fn34_ok : cFn Try.prog fn34.keep 34 = some fn34 := by kernel_rfl


def tab : Tab := [(3, fn3), (4, fn4), (5, fn5), (6, fn6), (7, fn7), (8, fn8), (9, fn9), (10, fn10), (11, fn11), (12, fn12), (13, fn13), (14, fn14), (15, fn15), (16, fn16), (17, fn17), (18, fn18), (19, fn19), (20, fn20), (21, fn21), (22, fn22), (23, fn23), (24, fn24), (25, fn25), (26, fn26), (27, fn27), (28, fn28), (29, fn29), (30, fn30), (31, fn31), (32, fn32), (33, fn33), (34, fn34)]
theorem fn3_is : isFn Try.prog 3 = true := by kernel_rfl
theorem fn4_is : isFn Try.prog 4 = true := by kernel_rfl
theorem fn5_is : isFn Try.prog 5 = true := by kernel_rfl
theorem fn6_is : isFn Try.prog 6 = true := by kernel_rfl
theorem fn7_is : isFn Try.prog 7 = true := by kernel_rfl
theorem fn8_is : isFn Try.prog 8 = true := by kernel_rfl
theorem fn9_is : isFn Try.prog 9 = true := by kernel_rfl
theorem fn10_is : isFn Try.prog 10 = true := by kernel_rfl
theorem fn11_is : isFn Try.prog 11 = true := by kernel_rfl
theorem fn12_is : isFn Try.prog 12 = true := by kernel_rfl
theorem fn13_is : isFn Try.prog 13 = true := by kernel_rfl
theorem fn14_is : isFn Try.prog 14 = true := by kernel_rfl
theorem fn15_is : isFn Try.prog 15 = true := by kernel_rfl
theorem fn16_is : isFn Try.prog 16 = true := by kernel_rfl
theorem fn17_is : isFn Try.prog 17 = true := by kernel_rfl
theorem fn18_is : isFn Try.prog 18 = true := by kernel_rfl
theorem fn19_is : isFn Try.prog 19 = true := by kernel_rfl
theorem fn20_is : isFn Try.prog 20 = true := by kernel_rfl
theorem fn21_is : isFn Try.prog 21 = true := by kernel_rfl
theorem fn22_is : isFn Try.prog 22 = true := by kernel_rfl
theorem fn23_is : isFn Try.prog 23 = true := by kernel_rfl
theorem fn24_is : isFn Try.prog 24 = true := by kernel_rfl
theorem fn25_is : isFn Try.prog 25 = true := by kernel_rfl
theorem fn26_is : isFn Try.prog 26 = true := by kernel_rfl
theorem fn27_is : isFn Try.prog 27 = true := by kernel_rfl
theorem fn28_is : isFn Try.prog 28 = true := by kernel_rfl
theorem fn29_is : isFn Try.prog 29 = true := by kernel_rfl
theorem fn30_is : isFn Try.prog 30 = true := by kernel_rfl
theorem fn31_is : isFn Try.prog 31 = true := by kernel_rfl
theorem fn32_is : isFn Try.prog 32 = true := by kernel_rfl
theorem fn33_is : isFn Try.prog 33 = true := by kernel_rfl
theorem fn34_is : isFn Try.prog 34 = true := by kernel_rfl
theorem tab_ok : TabOk Try.prog tab :=
  TabOk.cons fn3_ok fn3_is (TabOk.cons fn4_ok fn4_is (TabOk.cons fn5_ok fn5_is (TabOk.cons fn6_ok fn6_is (TabOk.cons fn7_ok fn7_is (TabOk.cons fn8_ok fn8_is (TabOk.cons fn9_ok fn9_is (TabOk.cons fn10_ok fn10_is (TabOk.cons fn11_ok fn11_is (TabOk.cons fn12_ok fn12_is (TabOk.cons fn13_ok fn13_is (TabOk.cons fn14_ok fn14_is (TabOk.cons fn15_ok fn15_is (TabOk.cons fn16_ok fn16_is (TabOk.cons fn17_ok fn17_is (TabOk.cons fn18_ok fn18_is (TabOk.cons fn19_ok fn19_is (TabOk.cons fn20_ok fn20_is (TabOk.cons fn21_ok fn21_is (TabOk.cons fn22_ok fn22_is (TabOk.cons fn23_ok fn23_is (TabOk.cons fn24_ok fn24_is (TabOk.cons fn25_ok fn25_is (TabOk.cons fn26_ok fn26_is (TabOk.cons fn27_ok fn27_is (TabOk.cons fn28_ok fn28_is (TabOk.cons fn29_ok fn29_is (TabOk.cons fn30_ok fn30_is (TabOk.cons fn31_ok fn31_is (TabOk.cons fn32_ok fn32_is (TabOk.cons fn33_ok fn33_is (TabOk.cons fn34_ok fn34_is (TabOk.nil _))))))))))))))))))))))))))))))))
end Go.Proofs.Ytjcfofhlhgdmoaa
