/-
  What the functions of the program are, one by one, in a form that can be run; that this is what they are, by computation.
-/
import Derived.Test.YtoijpkpfgamlpaaChecked
import Derived.Test.YtoijpkpfgamlpaaGlbTop
import Derived.KernelRfl
namespace Go.Proofs.Ytoijpkpfgamlpaa
open Go Glb Go.Proofs
set_option maxRecDepth 100000

/-- glebe/glebelaw15.FlowKnown -/
def fn6 : AFn := ⟨122, fun s => List.contains [0, 1, 2, 3, 4, 5, 6, 7, 8, 9, 10] s, (.seq (.reg [⟨(.loc 0), (.r (.mov (.cst (.bool false)))), none⟩])
 (.seq (.reg [⟨(.tmp 12), (.call 31 []), none⟩,
  ⟨(.tmp 11), (.r (.mov (.tmp 12))), none⟩,
  ⟨(.tmp 13), (.r (.ext (.tmp 11) 0)), none⟩,
  ⟨(.tmp 14), (.r (.ext (.tmp 11) 1)), none⟩,
  ⟨(.loc 1), (.h (.mk [(.int .i64 0), (.int .i64 0), (.int .i64 0), (.int .i64 0)])), none⟩,
  ⟨(.loc 2), (.h (.mk [(.int .i64 0), (.int .i64 0), (.int .i64 0), (.int .i64 0), (.int .i64 0), .nils, .nils, .nils, .nils, .nils])), none⟩,
  ⟨.none, (.h (.store 4 (.loc 1) (.tmp 13))), none⟩,
  ⟨.none, (.h (.store 10 (.loc 2) (.tmp 14))), none⟩])
 (.seq (.reg [⟨(.tmp 15), (.r (.load true 4 (.loc 1))), none⟩,
  ⟨(.tmp 16), (.r (.build [(.int .i64 0), (.int .i64 0), (.int .i64 0), (.int .i64 0), (.int .i64 0), (.int .i64 0), (.int .i64 0), (.int .i64 0), (.int .i64 0), (.int .i64 0), (.int .i64 0), (.int .i64 0), (.int .i64 0), (.int .i64 0), (.bool false), .nils, .nils] [(0, 1, (.cst (.int .i64 4))), (1, 1, (.cst (.int .i64 3))), (14, 1, (.cst (.bool true))), (5, 1, (.cst (.int .i64 4))), (8, 1, (.cst (.int .i64 7)))])), none⟩,
  ⟨(.tmp 17), (.call 32 [(.tmp 15), (.tmp 16)]), none⟩,
  ⟨(.loc 3), (.h (.mk [(.int .i64 0), (.int .i64 0), (.int .i64 0), (.int .i64 0)])), none⟩,
  ⟨.none, (.h (.store 4 (.loc 3) (.tmp 17))), none⟩])
 (.seq (.reg [⟨(.tmp 18), (.r (.load true 4 (.loc 1))), none⟩,
  ⟨(.tmp 19), (.r (.build [(.int .i64 0), (.int .i64 0), (.int .i64 0), (.int .i64 0), (.int .i64 0), (.int .i64 0), (.int .i64 0), (.int .i64 0), (.int .i64 0), (.int .i64 0), (.int .i64 0), (.int .i64 0), (.int .i64 0), (.int .i64 0), (.bool false), .nils, .nils] [(0, 1, (.cst (.int .i64 4))), (1, 1, (.cst (.int .i64 3))), (5, 1, (.cst (.int .i64 20)))])), none⟩,
  ⟨(.tmp 20), (.call 32 [(.tmp 18), (.tmp 19)]), none⟩,
  ⟨(.loc 4), (.h (.mk [(.int .i64 0), (.int .i64 0), (.int .i64 0), (.int .i64 0)])), none⟩,
  ⟨.none, (.h (.store 4 (.loc 4) (.tmp 20))), none⟩])
 (.seq (.reg [⟨(.tmp 21), (.r (.load true 4 (.loc 1))), none⟩,
  ⟨(.tmp 22), (.r (.build [(.int .i64 0), (.int .i64 0), (.int .i64 0), (.int .i64 0), (.int .i64 0), (.int .i64 0), (.int .i64 0), (.int .i64 0), (.int .i64 0), (.int .i64 0), (.int .i64 0), (.int .i64 0), (.int .i64 0), (.int .i64 0), (.bool false), .nils, .nils] [(0, 1, (.cst (.int .i64 4))), (1, 1, (.cst (.int .i64 3)))])), none⟩,
  ⟨(.tmp 23), (.call 32 [(.tmp 21), (.tmp 22)]), none⟩,
  ⟨(.loc 5), (.h (.mk [(.int .i64 0), (.int .i64 0), (.int .i64 0), (.int .i64 0)])), none⟩,
  ⟨.none, (.h (.store 4 (.loc 5) (.tmp 23))), none⟩])
 (.seq (.reg [⟨(.tmp 24), (.r (.load true 4 (.loc 1))), none⟩,
  ⟨(.tmp 25), (.r (.build [(.int .i64 0), (.int .i64 0), (.int .i64 0), (.int .i64 0), (.int .i64 0), (.int .i64 0), (.int .i64 0), (.int .i64 0), (.int .i64 0), (.int .i64 0), (.int .i64 0), (.int .i64 0), (.int .i64 0), (.int .i64 0), (.bool false), .nils, .nils] [(0, 1, (.cst (.int .i64 4))), (1, 1, (.cst (.int .i64 4))), (14, 1, (.cst (.bool true))), (5, 1, (.cst (.int .i64 9)))])), none⟩,
  ⟨(.tmp 26), (.call 32 [(.tmp 24), (.tmp 25)]), none⟩,
  ⟨(.loc 6), (.h (.mk [(.int .i64 0), (.int .i64 0), (.int .i64 0), (.int .i64 0)])), none⟩,
  ⟨.none, (.h (.store 4 (.loc 6) (.tmp 26))), none⟩])
 (.seq (.reg [⟨(.tmp 27), (.r (.load true 4 (.loc 1))), none⟩,
  ⟨(.tmp 28), (.r (.build [(.int .i64 0), (.int .i64 0), (.int .i64 0), (.int .i64 0), (.int .i64 0), (.int .i64 0), (.int .i64 0), (.int .i64 0), (.int .i64 0), (.int .i64 0), (.int .i64 0), (.int .i64 0), (.int .i64 0), (.int .i64 0), (.bool false), .nils, .nils] [(0, 1, (.cst (.int .i64 2))), (1, 1, (.cst (.int .i64 3))), (14, 1, (.cst (.bool true))), (5, 1, (.cst (.int .i64 9)))])), none⟩,
  ⟨(.tmp 29), (.call 32 [(.tmp 27), (.tmp 28)]), none⟩,
  ⟨(.loc 7), (.h (.mk [(.int .i64 0), (.int .i64 0), (.int .i64 0), (.int .i64 0)])), none⟩,
  ⟨.none, (.h (.store 4 (.loc 7) (.tmp 29))), none⟩])
 (.seq (.reg [⟨(.tmp 30), (.r (.build [(.int .i64 0), (.int .i64 0), (.int .i64 0), (.int .i64 0)] [(0, 1, (.cst (.int .i64 3))), (1, 1, (.cst (.int .i64 4)))])), none⟩,
  ⟨(.tmp 31), (.r (.load true 10 (.loc 2))), none⟩,
  ⟨(.tmp 32), (.call 26 [(.tmp 30), (.cst (.int .i64 1)), (.tmp 31), (.cst (.int .i64 5)), (.cst (.int .i64 2))]), none⟩,
  ⟨(.loc 8), (.h (.mk [(.int .i64 0), (.int .i64 0), (.int .i64 0), (.int .i64 0), (.int .i64 0), (.int .i64 0), (.int .i64 0), (.int .i64 0), (.int .i64 0), (.int .i64 0), (.int .i64 0), (.int .i64 0), (.int .i64 0), (.int .i64 0), (.bool false), .nils, .nils])), none⟩,
  ⟨.none, (.h (.store 17 (.loc 8) (.tmp 32))), none⟩])
 (.seq (.reg [⟨(.tmp 33), (.r (.build [(.int .i64 0), (.int .i64 0), (.int .i64 0), (.int .i64 0)] [(0, 1, (.cst (.int .i64 3))), (1, 1, (.cst (.int .i64 8)))])), none⟩,
  ⟨(.tmp 34), (.r (.load true 10 (.loc 2))), none⟩,
  ⟨(.tmp 35), (.call 26 [(.tmp 33), (.cst (.int .i64 1)), (.tmp 34), (.cst (.int .i64 5)), (.cst (.int .i64 2))]), none⟩,
  ⟨(.loc 9), (.h (.mk [(.int .i64 0), (.int .i64 0), (.int .i64 0), (.int .i64 0), (.int .i64 0), (.int .i64 0), (.int .i64 0), (.int .i64 0), (.int .i64 0), (.int .i64 0), (.int .i64 0), (.int .i64 0), (.int .i64 0), (.int .i64 0), (.bool false), .nils, .nils])), none⟩,
  ⟨.none, (.h (.store 17 (.loc 9) (.tmp 35))), none⟩])
 (.seq (.reg [⟨(.tmp 36), (.r (.build [(.int .i64 0), (.int .i64 0), (.int .i64 0), (.int .i64 0)] [(0, 1, (.cst (.int .i64 3))), (1, 1, (.cst (.int .i64 9)))])), none⟩,
  ⟨(.tmp 37), (.r (.load true 10 (.loc 2))), none⟩,
  ⟨(.tmp 38), (.call 26 [(.tmp 36), (.cst (.int .i64 1)), (.tmp 37), (.cst (.int .i64 5)), (.cst (.int .i64 2))]), none⟩,
  ⟨(.loc 10), (.h (.mk [(.int .i64 0), (.int .i64 0), (.int .i64 0), (.int .i64 0), (.int .i64 0), (.int .i64 0), (.int .i64 0), (.int .i64 0), (.int .i64 0), (.int .i64 0), (.int .i64 0), (.int .i64 0), (.int .i64 0), (.int .i64 0), (.bool false), .nils, .nils])), none⟩,
  ⟨.none, (.h (.store 17 (.loc 10) (.tmp 38))), none⟩])
 (.seq (.reg [⟨(.tmp 39), (.r (.load true 4 (.loc 3))), none⟩,
  ⟨(.tmp 40), (.r (.build [(.int .i64 0), (.int .i64 0), (.int .i64 0), (.int .i64 0)] [(0, 1, (.cst (.int .i64 3))), (1, 1, (.cst (.int .i64 8))), (2, 1, (.cst (.int .i64 4))), (3, 1, (.cst (.int .i64 7)))])), none⟩,
  ⟨(.tmp 41), (.r (.x (.seq false [(0, true), (1, true), (2, true), (3, true)] (.tmp 39) (.tmp 40)))), none⟩,
  ⟨(.tmp 42), (.r (.mov (.tmp 41))), none⟩,
  ⟨(.tmp 43), (.r (.off 1 (.loc 4))), (some ((.tmp 42), true))⟩,
  ⟨(.tmp 44), (.r (.load false 1 (.tmp 43))), (some ((.tmp 42), true))⟩,
  ⟨(.tmp 45), (.r (.bin .eql (.tmp 44) (.cst (.int .i64 7)))), (some ((.tmp 42), true))⟩,
  ⟨(.tmp 46), (.r (.pick (.tmp 42) (.tmp 45) (.cst (.bool false)))), none⟩,
  ⟨(.tmp 47), (.r (.mov (.tmp 46))), none⟩,
  ⟨(.tmp 48), (.r (.off 1 (.loc 5))), (some ((.tmp 47), true))⟩,
  ⟨(.tmp 49), (.r (.load false 1 (.tmp 48))), (some ((.tmp 47), true))⟩,
  ⟨(.tmp 50), (.r (.bin .eql (.tmp 49) (.cst (.int .i64 3)))), (some ((.tmp 47), true))⟩,
  ⟨(.tmp 51), (.r (.pick (.tmp 47) (.tmp 50) (.cst (.bool false)))), none⟩,
  ⟨(.tmp 52), (.r (.mov (.tmp 51))), none⟩,
  ⟨(.tmp 53), (.r (.load true 4 (.loc 6))), (some ((.tmp 52), true))⟩,
  ⟨(.tmp 54), (.r (.load true 4 (.loc 1))), (some ((.tmp 52), true))⟩,
  ⟨(.tmp 55), (.r (.x (.seq false [(0, true), (1, true), (2, true), (3, true)] (.tmp 53) (.tmp 54)))), (some ((.tmp 52), true))⟩,
  ⟨(.tmp 56), (.r (.pick (.tmp 52) (.tmp 55) (.cst (.bool false)))), none⟩,
  ⟨(.tmp 57), (.r (.mov (.tmp 56))), none⟩,
  ⟨(.tmp 58), (.r (.load true 4 (.loc 7))), (some ((.tmp 57), true))⟩,
  ⟨(.tmp 59), (.r (.load true 4 (.loc 1))), (some ((.tmp 57), true))⟩,
  ⟨(.tmp 60), (.r (.x (.seq false [(0, true), (1, true), (2, true), (3, true)] (.tmp 58) (.tmp 59)))), (some ((.tmp 57), true))⟩,
  ⟨(.tmp 61), (.r (.pick (.tmp 57) (.tmp 60) (.cst (.bool false)))), none⟩,
  ⟨(.tmp 62), (.r (.mov (.tmp 61))), none⟩,
  ⟨(.tmp 63), (.r (.off 0 (.loc 8))), (some ((.tmp 62), true))⟩,
  ⟨(.tmp 64), (.r (.load false 1 (.tmp 63))), (some ((.tmp 62), true))⟩,
  ⟨(.tmp 65), (.r (.bin .eql (.tmp 64) (.cst (.int .i64 5)))), (some ((.tmp 62), true))⟩,
  ⟨(.tmp 66), (.r (.pick (.tmp 62) (.tmp 65) (.cst (.bool false)))), none⟩,
  ⟨(.tmp 67), (.r (.mov (.tmp 66))), none⟩,
  ⟨(.tmp 68), (.r (.off 5 (.loc 8))), (some ((.tmp 67), true))⟩,
  ⟨(.tmp 69), (.r (.load false 1 (.tmp 68))), (some ((.tmp 67), true))⟩,
  ⟨(.tmp 70), (.r (.bin .eql (.tmp 69) (.cst (.int .i64 4)))), (some ((.tmp 67), true))⟩,
  ⟨(.tmp 71), (.r (.pick (.tmp 67) (.tmp 70) (.cst (.bool false)))), none⟩,
  ⟨(.tmp 72), (.r (.mov (.tmp 71))), none⟩,
  ⟨(.tmp 73), (.r (.off 6 (.loc 8))), (some ((.tmp 72), true))⟩,
  ⟨(.tmp 74), (.r (.load false 1 (.tmp 73))), (some ((.tmp 72), true))⟩,
  ⟨(.tmp 75), (.r (.bin .eql (.tmp 74) (.cst (.int .i64 2)))), (some ((.tmp 72), true))⟩,
  ⟨(.tmp 76), (.r (.pick (.tmp 72) (.tmp 75) (.cst (.bool false)))), none⟩,
  ⟨(.tmp 77), (.r (.mov (.tmp 76))), none⟩,
  ⟨(.tmp 78), (.r (.off 7 (.loc 8))), (some ((.tmp 77), true))⟩,
  ⟨(.tmp 79), (.r (.load false 1 (.tmp 78))), (some ((.tmp 77), true))⟩,
  ⟨(.tmp 80), (.r (.bin .eql (.tmp 79) (.cst (.int .i64 0)))), (some ((.tmp 77), true))⟩,
  ⟨(.tmp 81), (.r (.pick (.tmp 77) (.tmp 80) (.cst (.bool false)))), none⟩,
  ⟨(.tmp 82), (.r (.mov (.tmp 81))), none⟩,
  ⟨(.tmp 83), (.r (.off 16 (.loc 8))), (some ((.tmp 82), true))⟩,
  ⟨(.tmp 84), (.r (.load false 1 (.tmp 83))), (some ((.tmp 82), true))⟩,
  ⟨(.tmp 85), (.r (.len (.tmp 84))), (some ((.tmp 82), true))⟩,
  ⟨(.tmp 86), (.r (.bin .eql (.tmp 85) (.cst (.int .i64 57)))), (some ((.tmp 82), true))⟩,
  ⟨(.tmp 87), (.r (.pick (.tmp 82) (.tmp 86) (.cst (.bool false)))), none⟩,
  ⟨(.tmp 88), (.r (.mov (.tmp 87))), none⟩,
  ⟨(.tmp 89), (.r (.off 0 (.loc 9))), (some ((.tmp 88), true))⟩,
  ⟨(.tmp 90), (.r (.load false 1 (.tmp 89))), (some ((.tmp 88), true))⟩,
  ⟨(.tmp 91), (.r (.bin .eql (.tmp 90) (.cst (.int .i64 3)))), (some ((.tmp 88), true))⟩,
  ⟨(.tmp 92), (.r (.pick (.tmp 88) (.tmp 91) (.cst (.bool false)))), none⟩,
  ⟨(.tmp 93), (.r (.mov (.tmp 92))), none⟩,
  ⟨(.tmp 94), (.r (.off 5 (.loc 9))), (some ((.tmp 93), true))⟩,
  ⟨(.tmp 95), (.r (.load false 1 (.tmp 94))), (some ((.tmp 93), true))⟩,
  ⟨(.tmp 96), (.r (.bin .eql (.tmp 95) (.cst (.int .i64 7)))), (some ((.tmp 93), true))⟩,
  ⟨(.tmp 97), (.r (.pick (.tmp 93) (.tmp 96) (.cst (.bool false)))), none⟩,
  ⟨(.tmp 98), (.r (.mov (.tmp 97))), none⟩,
  ⟨(.tmp 99), (.r (.off 6 (.loc 9))), (some ((.tmp 98), true))⟩,
  ⟨(.tmp 100), (.r (.load false 1 (.tmp 99))), (some ((.tmp 98), true))⟩,
  ⟨(.tmp 101), (.r (.bin .eql (.tmp 100) (.cst (.int .i64 3)))), (some ((.tmp 98), true))⟩,
  ⟨(.tmp 102), (.r (.pick (.tmp 98) (.tmp 101) (.cst (.bool false)))), none⟩,
  ⟨(.tmp 103), (.r (.mov (.tmp 102))), none⟩,
  ⟨(.tmp 104), (.r (.off 15 (.loc 9))), (some ((.tmp 103), true))⟩,
  ⟨(.tmp 105), (.r (.load false 1 (.tmp 104))), (some ((.tmp 103), true))⟩,
  ⟨(.tmp 106), (.r (.len (.tmp 105))), (some ((.tmp 103), true))⟩,
  ⟨(.tmp 107), (.r (.bin .eql (.tmp 106) (.cst (.int .i64 0)))), (some ((.tmp 103), true))⟩,
  ⟨(.tmp 108), (.r (.pick (.tmp 103) (.tmp 107) (.cst (.bool false)))), none⟩,
  ⟨(.tmp 109), (.r (.mov (.tmp 108))), none⟩,
  ⟨(.tmp 110), (.r (.off 7 (.loc 9))), (some ((.tmp 109), true))⟩,
  ⟨(.tmp 111), (.r (.load false 1 (.tmp 110))), (some ((.tmp 109), true))⟩,
  ⟨(.tmp 112), (.r (.bin .eql (.tmp 111) (.cst (.int .i64 5)))), (some ((.tmp 109), true))⟩,
  ⟨(.tmp 113), (.r (.pick (.tmp 109) (.tmp 112) (.cst (.bool false)))), none⟩,
  ⟨(.tmp 114), (.r (.mov (.tmp 113))), none⟩,
  ⟨(.tmp 115), (.r (.off 6 (.loc 10))), (some ((.tmp 114), true))⟩,
  ⟨(.tmp 116), (.r (.load false 1 (.tmp 115))), (some ((.tmp 114), true))⟩,
  ⟨(.tmp 117), (.r (.bin .eql (.tmp 116) (.cst (.int .i64 0)))), (some ((.tmp 114), true))⟩,
  ⟨(.tmp 118), (.r (.pick (.tmp 114) (.tmp 117) (.cst (.bool false)))), none⟩,
  ⟨(.tmp 119), (.r (.mov (.tmp 118))), none⟩,
  ⟨(.tmp 120), (.call 24 []), (some ((.tmp 119), true))⟩,
  ⟨(.tmp 121), (.r (.pick (.tmp 119) (.tmp 120) (.cst (.bool false)))), none⟩,
  ⟨(.loc 0), (.r (.mov (.tmp 121))), none⟩])
 .ret))))))))))), [(.tmp (.loc 0))]⟩
theorem fn6_ok : cFn Try.prog fn6.keep 6 = some fn6 := by kernel_rfl

/-- glebe/glebelaw15.known -/
def fn24 : AFn := ⟨48, fun s => List.contains [0, 1, 2, 3, 4, 5] s, (.seq (.reg [⟨(.loc 0), (.r (.mov (.cst (.bool false)))), none⟩])
 (.seq (.reg [⟨(.tmp 7), (.call 31 []), none⟩,
  ⟨(.tmp 6), (.r (.mov (.tmp 7))), none⟩,
  ⟨(.tmp 8), (.r (.ext (.tmp 6) 0)), none⟩,
  ⟨(.tmp 9), (.r (.ext (.tmp 6) 1)), none⟩,
  ⟨(.loc 1), (.h (.mk [(.int .i64 0), (.int .i64 0), (.int .i64 0), (.int .i64 0)])), none⟩,
  ⟨(.loc 2), (.h (.mk [(.int .i64 0), (.int .i64 0), (.int .i64 0), (.int .i64 0), (.int .i64 0), .nils, .nils, .nils, .nils, .nils])), none⟩,
  ⟨.none, (.h (.store 4 (.loc 1) (.tmp 8))), none⟩,
  ⟨.none, (.h (.store 10 (.loc 2) (.tmp 9))), none⟩])
 (.seq (.reg [⟨(.tmp 10), (.r (.load true 4 (.loc 1))), none⟩,
  ⟨(.tmp 11), (.r (.build [(.int .i64 0), (.int .i64 0), (.int .i64 0), (.int .i64 0), (.int .i64 0), (.int .i64 0), (.int .i64 0), (.int .i64 0), (.int .i64 0), (.int .i64 0), (.int .i64 0), (.int .i64 0), (.int .i64 0), (.int .i64 0), (.bool false), .nils, .nils] [(0, 1, (.cst (.int .i64 4))), (1, 1, (.cst (.int .i64 3))), (14, 1, (.cst (.bool true))), (5, 1, (.cst (.int .i64 9))), (8, 1, (.cst (.int .i64 4)))])), none⟩,
  ⟨(.tmp 12), (.call 32 [(.tmp 10), (.tmp 11)]), none⟩,
  ⟨(.loc 3), (.h (.mk [(.int .i64 0), (.int .i64 0), (.int .i64 0), (.int .i64 0)])), none⟩,
  ⟨.none, (.h (.store 4 (.loc 3) (.tmp 12))), none⟩])
 (.seq (.reg [⟨(.tmp 13), (.r (.load true 4 (.loc 1))), none⟩,
  ⟨(.tmp 14), (.r (.build [(.int .i64 0), (.int .i64 0), (.int .i64 0), (.int .i64 0), (.int .i64 0), (.int .i64 0), (.int .i64 0), (.int .i64 0), (.int .i64 0), (.int .i64 0), (.int .i64 0), (.int .i64 0), (.int .i64 0), (.int .i64 0), (.bool false), .nils, .nils] [(0, 1, (.cst (.int .i64 4))), (1, 1, (.cst (.int .i64 3))), (5, 1, (.cst (.int .i64 4)))])), none⟩,
  ⟨(.tmp 15), (.call 32 [(.tmp 13), (.tmp 14)]), none⟩,
  ⟨(.loc 4), (.h (.mk [(.int .i64 0), (.int .i64 0), (.int .i64 0), (.int .i64 0)])), none⟩,
  ⟨.none, (.h (.store 4 (.loc 4) (.tmp 15))), none⟩])
 (.seq (.reg [⟨(.tmp 16), (.r (.build [(.int .i64 0), (.int .i64 0), (.int .i64 0), (.int .i64 0)] [(0, 1, (.cst (.int .i64 3))), (1, 1, (.cst (.int .i64 6)))])), none⟩,
  ⟨(.tmp 17), (.r (.load true 10 (.loc 2))), none⟩,
  ⟨(.tmp 18), (.call 26 [(.tmp 16), (.cst (.int .i64 1)), (.tmp 17), (.cst (.int .i64 5)), (.cst (.int .i64 2))]), none⟩,
  ⟨(.loc 5), (.h (.mk [(.int .i64 0), (.int .i64 0), (.int .i64 0), (.int .i64 0), (.int .i64 0), (.int .i64 0), (.int .i64 0), (.int .i64 0), (.int .i64 0), (.int .i64 0), (.int .i64 0), (.int .i64 0), (.int .i64 0), (.int .i64 0), (.bool false), .nils, .nils])), none⟩,
  ⟨.none, (.h (.store 17 (.loc 5) (.tmp 18))), none⟩])
 (.seq (.reg [⟨(.tmp 19), (.r (.load true 4 (.loc 3))), none⟩,
  ⟨(.tmp 20), (.r (.build [(.int .i64 0), (.int .i64 0), (.int .i64 0), (.int .i64 0)] [(0, 1, (.cst (.int .i64 3))), (1, 1, (.cst (.int .i64 10))), (2, 1, (.cst (.int .i64 9))), (3, 1, (.cst (.int .i64 5)))])), none⟩,
  ⟨(.tmp 21), (.r (.x (.seq false [(0, true), (1, true), (2, true), (3, true)] (.tmp 19) (.tmp 20)))), none⟩,
  ⟨(.tmp 22), (.r (.mov (.tmp 21))), none⟩,
  ⟨(.tmp 23), (.r (.load true 4 (.loc 4))), (some ((.tmp 22), true))⟩,
  ⟨(.tmp 24), (.r (.build [(.int .i64 0), (.int .i64 0), (.int .i64 0), (.int .i64 0)] [(0, 1, (.cst (.int .i64 3))), (1, 1, (.cst (.int .i64 5))), (2, 1, (.cst (.int .i64 2))), (3, 1, (.cst (.int .i64 5)))])), (some ((.tmp 22), true))⟩,
  ⟨(.tmp 25), (.r (.x (.seq false [(0, true), (1, true), (2, true), (3, true)] (.tmp 23) (.tmp 24)))), (some ((.tmp 22), true))⟩,
  ⟨(.tmp 26), (.r (.pick (.tmp 22) (.tmp 25) (.cst (.bool false)))), none⟩,
  ⟨(.tmp 27), (.r (.mov (.tmp 26))), none⟩,
  ⟨(.tmp 28), (.r (.off 0 (.loc 5))), (some ((.tmp 27), true))⟩,
  ⟨(.tmp 29), (.r (.load false 1 (.tmp 28))), (some ((.tmp 27), true))⟩,
  ⟨(.tmp 30), (.r (.bin .eql (.tmp 29) (.cst (.int .i64 3)))), (some ((.tmp 27), true))⟩,
  ⟨(.tmp 31), (.r (.pick (.tmp 27) (.tmp 30) (.cst (.bool false)))), none⟩,
  ⟨(.tmp 32), (.r (.mov (.tmp 31))), none⟩,
  ⟨(.tmp 33), (.r (.off 5 (.loc 5))), (some ((.tmp 32), true))⟩,
  ⟨(.tmp 34), (.r (.load false 1 (.tmp 33))), (some ((.tmp 32), true))⟩,
  ⟨(.tmp 35), (.r (.bin .eql (.tmp 34) (.cst (.int .i64 5)))), (some ((.tmp 32), true))⟩,
  ⟨(.tmp 36), (.r (.pick (.tmp 32) (.tmp 35) (.cst (.bool false)))), none⟩,
  ⟨(.tmp 37), (.r (.mov (.tmp 36))), none⟩,
  ⟨(.tmp 38), (.r (.off 6 (.loc 5))), (some ((.tmp 37), true))⟩,
  ⟨(.tmp 39), (.r (.load false 1 (.tmp 38))), (some ((.tmp 37), true))⟩,
  ⟨(.tmp 40), (.r (.bin .eql (.tmp 39) (.cst (.int .i64 2)))), (some ((.tmp 37), true))⟩,
  ⟨(.tmp 41), (.r (.pick (.tmp 37) (.tmp 40) (.cst (.bool false)))), none⟩,
  ⟨(.tmp 42), (.r (.mov (.tmp 41))), none⟩,
  ⟨(.tmp 43), (.r (.off 15 (.loc 5))), (some ((.tmp 42), true))⟩,
  ⟨(.tmp 44), (.r (.load false 1 (.tmp 43))), (some ((.tmp 42), true))⟩,
  ⟨(.tmp 45), (.r (.len (.tmp 44))), (some ((.tmp 42), true))⟩,
  ⟨(.tmp 46), (.r (.bin .eql (.tmp 45) (.cst (.int .i64 2)))), (some ((.tmp 42), true))⟩,
  ⟨(.tmp 47), (.r (.pick (.tmp 42) (.tmp 46) (.cst (.bool false)))), none⟩,
  ⟨(.loc 0), (.r (.mov (.tmp 47))), none⟩])
 .ret)))))), [(.tmp (.loc 0))]⟩
theorem fn24_ok : cFn Try.prog fn24.keep 24 = some fn24 := by kernel_rfl

/-- glebe/flow.Next -/
def fn26 : AFn := ⟨71, fun s => List.contains [0, 1, 2, 3, 4, 5, 7, 10, 11, 12, 19] s, (.seq (.reg [⟨(.loc 5), (.h (.box (.loc 0))), none⟩,
  ⟨(.loc 7), (.h (.box (.loc 2))), none⟩,
  ⟨(.loc 10), (.h (.mk [(.int .i64 0), (.int .i64 0), (.int .i64 0), (.int .i64 0), (.int .i64 0), (.int .i64 0), (.int .i64 0), (.int .i64 0), (.int .i64 0), (.int .i64 0), (.int .i64 0), (.int .i64 0), (.int .i64 0), (.int .i64 0), (.bool false), .nils, .nils])), none⟩])
 (.seq (.seq (.reg [⟨(.tmp 14), (.r (.off 1 (.loc 5))), none⟩,
  ⟨(.tmp 15), (.r (.load false 1 (.tmp 14))), none⟩,
  ⟨(.tmp 16), (.r (.off 3 (.loc 7))), none⟩,
  ⟨(.tmp 17), (.r (.off 0 (.tmp 16))), none⟩,
  ⟨(.tmp 18), (.r (.load false 1 (.tmp 17))), none⟩,
  ⟨(.loc 19), (.r (.bin .leq (.tmp 15) (.tmp 18))), none⟩])
 (.cond (.loc 19) (.seq (.dreg ⟨[0, 1, 3, 7, 0, 16, 63, 127], 0, [⟨0, 0, false, (.r (.off 6 (.loc 7))), none⟩,
  ⟨1, 0, false, (.r (.load true 3 (.tmp 0))), none⟩,
  ⟨4, 0, false, (.r (.off 9 (.loc 7))), none⟩,
  ⟨5, 0, false, (.r (.load false 1 (.tmp 4))), none⟩,
  ⟨2, 0, true, (.call 55 [(.tmp 1)]), none⟩,
  ⟨3, 0, true, (.call 54 [(.cst .nils), (.tmp 2)]), none⟩,
  ⟨6, 0, true, (.call 54 [(.tmp 3), (.tmp 5)]), none⟩,
  ⟨7, 0, false, (.r (.mov (.tmp 6))), none⟩], [(11, 7)]⟩)
 (.seq (.reg [⟨(.tmp 27), (.r (.mov (.loc 1))), none⟩,
  ⟨(.tmp 28), (.r (.off 0 (.loc 5))), none⟩,
  ⟨(.tmp 29), (.r (.load false 1 (.tmp 28))), none⟩,
  ⟨(.tmp 30), (.r (.off 0 (.loc 7))), none⟩,
  ⟨(.tmp 31), (.r (.load false 1 (.tmp 30))), none⟩,
  ⟨(.tmp 32), (.r (.off 1 (.loc 7))), none⟩,
  ⟨(.tmp 33), (.r (.load false 1 (.tmp 32))), none⟩,
  ⟨(.tmp 34), (.r (.off 3 (.loc 7))), none⟩,
  ⟨(.tmp 35), (.r (.off 0 (.tmp 34))), none⟩,
  ⟨(.tmp 36), (.r (.load false 1 (.tmp 35))), none⟩,
  ⟨(.tmp 37), (.r (.off 3 (.loc 7))), none⟩,
  ⟨(.tmp 38), (.r (.off 1 (.tmp 37))), none⟩,
  ⟨(.tmp 39), (.r (.load false 1 (.tmp 38))), none⟩,
  ⟨(.tmp 40), (.r (.mov (.loc 4))), none⟩,
  ⟨(.tmp 41), (.r (.mov (.loc 11))), none⟩,
  ⟨(.tmp 42), (.r (.build [(.int .i64 0), (.int .i64 0), (.int .i64 0), (.int .i64 0), (.int .i64 0), (.int .i64 0), (.int .i64 0), (.int .i64 0), (.int .i64 0), (.int .i64 0), (.int .i64 0), (.int .i64 0), (.int .i64 0), (.int .i64 0), (.bool false), .nils, .nils] [(0, 1, (.cst (.int .i64 5))), (1, 1, (.tmp 27)), (2, 1, (.tmp 29)), (3, 1, (.tmp 31)), (4, 1, (.tmp 33)), (5, 1, (.tmp 36)), (6, 1, (.tmp 39)), (8, 1, (.tmp 40)), (16, 1, (.tmp 41))])), none⟩,
  ⟨.none, (.h (.store 17 (.loc 10) (.tmp 42))), none⟩])
 .ret))
 .skip))
 (.seq (.reg [⟨(.tmp 44), (.r (.off 3 (.loc 7))), none⟩,
  ⟨(.tmp 45), (.r (.load true 3 (.tmp 44))), none⟩,
  ⟨(.tmp 46), (.r (.off 1 (.loc 5))), none⟩,
  ⟨(.tmp 47), (.r (.load false 1 (.tmp 46))), none⟩,
  ⟨(.tmp 48), (.r (.bin .sub (.tmp 47) (.cst (.int .i64 1)))), none⟩,
  ⟨(.tmp 49), (.call 56 [(.tmp 45), (.tmp 48)]), none⟩,
  ⟨(.tmp 43), (.r (.mov (.tmp 49))), none⟩,
  ⟨(.tmp 50), (.r (.ext (.tmp 43) 0)), none⟩,
  ⟨(.tmp 51), (.r (.ext (.tmp 43) 1)), none⟩,
  ⟨(.loc 12), (.r (.mov (.tmp 50))), none⟩,
  ⟨(.tmp 13), (.r (.mov (.tmp 51))), none⟩])
 (.seq (.dreg ⟨[0, 0, 2, 0, 8, 0, 32, 0, 128, 384, 0, 0, 0, 0, 8192, 0, 32768, 122880, 262143, 524287], 0, [⟨0, 0, false, (.r (.mov (.loc 1))), none⟩,
  ⟨1, 0, false, (.r (.off 0 (.loc 5))), none⟩,
  ⟨2, 0, false, (.r (.load false 1 (.tmp 1))), none⟩,
  ⟨3, 0, false, (.r (.off 0 (.loc 7))), none⟩,
  ⟨4, 0, false, (.r (.load false 1 (.tmp 3))), none⟩,
  ⟨5, 0, false, (.r (.off 1 (.loc 7))), none⟩,
  ⟨6, 0, false, (.r (.load false 1 (.tmp 5))), none⟩,
  ⟨7, 0, false, (.r (.off 1 (.loc 5))), none⟩,
  ⟨8, 0, false, (.r (.load false 1 (.tmp 7))), none⟩,
  ⟨9, 0, false, (.r (.bin .sub (.tmp 8) (.cst (.int .i64 1)))), none⟩,
  ⟨10, 0, false, (.r (.mov (.loc 12))), none⟩,
  ⟨11, 0, false, (.r (.mov (.loc 3))), none⟩,
  ⟨12, 0, false, (.r (.mov (.loc 4))), none⟩,
  ⟨13, 0, false, (.r (.off 3 (.loc 7))), none⟩,
  ⟨14, 0, false, (.r (.load true 3 (.tmp 13))), none⟩,
  ⟨15, 0, false, (.r (.off 1 (.loc 5))), none⟩,
  ⟨16, 0, false, (.r (.load false 1 (.tmp 15))), none⟩,
  ⟨17, 0, true, (.call 57 [(.tmp 14), (.tmp 16), (.cst (.int .i64 8))]), none⟩,
  ⟨18, 0, false, (.r (.build [(.int .i64 0), (.int .i64 0), (.int .i64 0), (.int .i64 0), (.int .i64 0), (.int .i64 0), (.int .i64 0), (.int .i64 0), (.int .i64 0), (.int .i64 0), (.int .i64 0), (.int .i64 0), (.int .i64 0), (.int .i64 0), (.bool false), .nils, .nils] [(0, 1, (.cst (.int .i64 3))), (1, 1, (.tmp 0)), (2, 1, (.tmp 2)), (3, 1, (.tmp 4)), (4, 1, (.tmp 6)), (5, 1, (.tmp 9)), (6, 1, (.tmp 10)), (7, 1, (.tmp 11)), (8, 1, (.tmp 12)), (15, 1, (.tmp 17))])), none⟩,
  ⟨19, 0, true, (.h (.store 17 (.loc 10) (.tmp 18))), none⟩], []⟩)
 .ret)))), [(.cell (.loc 10) true 17)]⟩
theorem fn26_ok : cFn Try.prog fn26.keep 26 = some fn26 := by kernel_rfl

/-- glebe/glebelaw15.example -/
def fn31 : AFn := ⟨14, fun s => List.contains [0, 1, 2] s, (.seq (.reg [⟨(.loc 0), (.h (.mk [(.int .i64 0), (.int .i64 0), (.int .i64 0), (.int .i64 0)])), none⟩,
  ⟨(.loc 1), (.h (.mk [(.int .i64 0), (.int .i64 0), (.int .i64 0), (.int .i64 0), (.int .i64 0), .nils, .nils, .nils, .nils, .nils])), none⟩])
 (.seq (.reg [⟨(.tmp 3), (.r (.build [(.int .i64 0), (.int .i64 0), .nils] [(0, 1, (.cst (.int .i64 2)))])), none⟩,
  ⟨(.tmp 4), (.r (.build [(.int .i64 0), (.int .i64 0), .nils] [(0, 1, (.cst (.int .i64 3)))])), none⟩,
  ⟨(.tmp 5), (.r (.build [(.int .i64 0), (.int .i64 0), .nils] [(0, 1, (.cst (.int .i64 3)))])), none⟩,
  ⟨(.tmp 6), (.h (.bsl 3 [(.tmp 3), (.tmp 4), (.tmp 5)])), none⟩,
  ⟨(.tmp 7), (.r (.build [(.int .i64 0), (.int .i64 0), .nils] [(0, 1, (.cst (.int .i64 4))), (1, 1, (.cst (.int .i64 2))), (2, 1, (.tmp 6))])), none⟩,
  ⟨(.loc 2), (.h (.mk [(.int .i64 0), (.int .i64 0), .nils])), none⟩,
  ⟨.none, (.h (.store 3 (.loc 2) (.tmp 7))), none⟩])
 (.seq (.dreg ⟨[0, 0, 0, 4, 0, 30, 1, 127], 2, [⟨0, 0, false, (.r (.build [(.int .i64 0), (.int .i64 0), (.int .i64 0), (.int .i64 0)] [(0, 1, (.cst (.int .i64 3))), (1, 1, (.cst (.int .i64 8))), (2, 1, (.cst (.int .i64 2))), (3, 1, (.cst (.int .i64 5)))])), none⟩,
  ⟨1, 0, false, (.r (.load true 3 (.loc 2))), none⟩,
  ⟨2, 0, false, (.h (.bsl 1 [(.cst (.int .i64 1)), (.cst (.int .i64 3))])), none⟩,
  ⟨3, 1, false, (.r (.build [.nils, .nils, .nils] [(0, 1, (.tmp 2))])), none⟩,
  ⟨4, 1, false, (.h (.bsl 1 [(.cst (.int .u8 7))])), none⟩,
  ⟨5, 2, false, (.r (.build [(.int .i64 0), (.int .i64 0), (.int .i64 0), (.int .i64 0), (.int .i64 0), .nils, .nils, .nils, .nils, .nils] [(0, 1, (.cst (.int .i64 1))), (1, 1, (.cst (.int .i64 4))), (3, 3, (.tmp 1)), (6, 3, (.tmp 3)), (9, 1, (.tmp 4))])), none⟩,
  ⟨6, 2, true, (.h (.store 4 (.loc 0) (.tmp 0))), none⟩,
  ⟨7, 2, true, (.h (.store 10 (.loc 1) (.tmp 5))), none⟩], []⟩)
 .ret))), [(.cell (.loc 0) true 4), (.cell (.loc 1) true 10)]⟩
theorem fn31_ok : cFn Try.prog fn31.keep 31 = some fn31 := by kernel_rfl

/-- glebe/flow.Heard -/
def fn32 : AFn := ⟨49, fun s => List.contains [0, 1, 2, 3, 4, 17, 26] s, (.seq (.reg [⟨(.loc 2), (.h (.box (.loc 0))), none⟩,
  ⟨(.loc 3), (.h (.box (.loc 1))), none⟩,
  ⟨(.loc 4), (.h (.mk [(.int .i64 0), (.int .i64 0), (.int .i64 0), (.int .i64 0)])), none⟩])
 (.seq (.block 0 (.seq (.seq (.reg [⟨(.tmp 18), (.r (.off 0 (.loc 3))), none⟩,
  ⟨(.tmp 19), (.r (.load false 1 (.tmp 18))), none⟩,
  ⟨(.tmp 20), (.r (.bin .neq (.tmp 19) (.cst (.int .i64 4)))), none⟩,
  ⟨(.loc 17), (.r (.mov (.tmp 20))), none⟩])
 (.cond (.loc 17) .skip
 (.reg [⟨(.tmp 21), (.r (.off 1 (.loc 3))), none⟩,
  ⟨(.tmp 22), (.r (.load false 1 (.tmp 21))), none⟩,
  ⟨(.tmp 23), (.r (.off 0 (.loc 2))), none⟩,
  ⟨(.tmp 24), (.r (.load false 1 (.tmp 23))), none⟩,
  ⟨(.tmp 25), (.r (.bin .neq (.tmp 22) (.tmp 24))), none⟩,
  ⟨(.loc 17), (.r (.mov (.tmp 25))), none⟩])))
 (.cond (.loc 17) .skip
 (.seq (.reg [⟨(.tmp 27), (.r (.off 14 (.loc 3))), none⟩,
  ⟨(.tmp 28), (.r (.load false 1 (.tmp 27))), none⟩,
  ⟨(.loc 26), (.r (.mov (.tmp 28))), none⟩])
 (.cond (.loc 26) (.seq (.reg [⟨(.tmp 29), (.r (.off 2 (.loc 2))), none⟩,
  ⟨(.tmp 30), (.r (.load false 1 (.tmp 29))), none⟩,
  ⟨(.tmp 31), (.r (.off 5 (.loc 3))), none⟩,
  ⟨(.tmp 32), (.r (.load false 1 (.tmp 31))), none⟩,
  ⟨(.tmp 33), (.r (.mnmx true [(.tmp 30), (.tmp 32)])), none⟩,
  ⟨(.tmp 34), (.r (.off 2 (.loc 2))), none⟩,
  ⟨.none, (.h (.store 1 (.tmp 34) (.tmp 33))), none⟩])
 (.seq (.reg [⟨(.tmp 35), (.r (.off 1 (.loc 2))), none⟩,
  ⟨(.tmp 36), (.r (.load false 1 (.tmp 35))), none⟩,
  ⟨(.tmp 37), (.r (.off 2 (.loc 2))), none⟩,
  ⟨(.tmp 38), (.r (.load false 1 (.tmp 37))), none⟩,
  ⟨(.tmp 39), (.r (.bin .add (.tmp 38) (.cst (.int .i64 1)))), none⟩,
  ⟨(.tmp 40), (.r (.mnmx true [(.tmp 36), (.tmp 39)])), none⟩,
  ⟨(.tmp 41), (.r (.off 1 (.loc 2))), none⟩,
  ⟨.none, (.h (.store 1 (.tmp 41) (.tmp 40))), none⟩])
 (.reg [⟨(.tmp 42), (.r (.off 3 (.loc 2))), none⟩,
  ⟨(.tmp 43), (.r (.load false 1 (.tmp 42))), none⟩,
  ⟨(.tmp 44), (.r (.off 8 (.loc 3))), none⟩,
  ⟨(.tmp 45), (.r (.load false 1 (.tmp 44))), none⟩,
  ⟨(.tmp 46), (.r (.mnmx true [(.tmp 43), (.tmp 45)])), none⟩,
  ⟨(.tmp 47), (.r (.off 3 (.loc 2))), none⟩,
  ⟨.none, (.h (.store 1 (.tmp 47) (.tmp 46))), none⟩])))
 (.reg [⟨(.tmp 5), (.r (.off 2 (.loc 2))), none⟩,
  ⟨(.tmp 6), (.r (.load false 1 (.tmp 5))), none⟩,
  ⟨(.tmp 7), (.r (.bin .add (.tmp 6) (.cst (.int .i64 1)))), none⟩,
  ⟨(.tmp 8), (.r (.off 1 (.loc 2))), none⟩,
  ⟨(.tmp 9), (.r (.load false 1 (.tmp 8))), none⟩,
  ⟨(.tmp 10), (.r (.bin .sub (.tmp 9) (.cst (.int .i64 1)))), none⟩,
  ⟨(.tmp 11), (.r (.off 5 (.loc 3))), none⟩,
  ⟨(.tmp 12), (.r (.load false 1 (.tmp 11))), none⟩,
  ⟨(.tmp 13), (.r (.bin .add (.tmp 12) (.cst (.int .i64 1)))), none⟩,
  ⟨(.tmp 14), (.r (.mnmx false [(.tmp 10), (.tmp 13)])), none⟩,
  ⟨(.tmp 15), (.r (.mnmx true [(.tmp 7), (.tmp 14)])), none⟩,
  ⟨(.tmp 16), (.r (.off 1 (.loc 2))), none⟩,
  ⟨.none, (.h (.store 1 (.tmp 16) (.tmp 15))), none⟩]))))))
 (.seq (.reg [⟨(.tmp 48), (.r (.load true 4 (.loc 2))), none⟩,
  ⟨.none, (.h (.store 4 (.loc 4) (.tmp 48))), none⟩])
 .ret))), [(.cell (.loc 4) true 4)]⟩
theorem fn32_ok : cFn Try.prog fn32.keep 32 = some fn32 := by kernel_rfl

/-- glebe/pack.Blob -/
def fn54 : AFn := ⟨15, fun s => List.contains [0, 1, 4] s, (.seq (.reg [⟨(.loc 4), (.r (.mov (.cst .nils))), none⟩])
 (.seq (.reg [⟨(.tmp 5), (.r (.mov (.loc 0))), none⟩,
  ⟨(.tmp 6), (.r (.mov (.loc 1))), none⟩,
  ⟨(.tmp 7), (.r (.len (.tmp 6))), none⟩,
  ⟨(.tmp 8), (.r (.bin .add (.cst (.int .i64 8)) (.tmp 7))), none⟩,
  ⟨(.tmp 9), (.call 81 [(.tmp 5), (.tmp 8)]), none⟩,
  ⟨(.tmp 10), (.r (.mov (.loc 1))), none⟩,
  ⟨(.tmp 11), (.r (.len (.tmp 10))), none⟩,
  ⟨(.tmp 12), (.call 80 [(.tmp 9), (.tmp 11)]), none⟩,
  ⟨(.tmp 13), (.r (.mov (.loc 1))), none⟩,
  ⟨(.tmp 14), (.h (.app 1 1 (.tmp 12) (.tmp 13))), none⟩,
  ⟨(.loc 4), (.r (.mov (.tmp 14))), none⟩])
 .ret)), [(.tmp (.loc 4))]⟩
theorem fn54_ok : cFn Try.prog fn54.keep 54 = some fn54 := by kernel_rfl

/-- glebe/image.PutConf -/
def fn55 : AFn := ⟨5, fun s => List.contains [0, 1, 2] s, (.seq (.reg [⟨(.loc 1), (.h (.box (.loc 0))), none⟩,
  ⟨(.loc 2), (.r (.mov (.cst .nils))), none⟩])
 (.seq (.reg [⟨(.tmp 3), (.r (.load true 3 (.loc 1))), none⟩,
  ⟨(.tmp 4), (.call 82 [(.cst .nils), (.tmp 3)]), none⟩,
  ⟨(.loc 2), (.r (.mov (.tmp 4))), none⟩])
 .ret)), [(.tmp (.loc 2))]⟩
theorem fn55_ok : cFn Try.prog fn55.keep 55 = some fn55 := by kernel_rfl

/-- glebe/rlog.Term -/
def fn56 : AFn := ⟨38, fun s => List.contains [0, 1, 2, 4, 5, 6, 13, 21] s, (.seq (.reg [⟨(.loc 2), (.h (.box (.loc 0))), none⟩,
  ⟨(.loc 4), (.r (.mov (.cst (.int .i64 0)))), none⟩,
  ⟨(.loc 5), (.r (.mov (.cst (.bool false)))), none⟩])
 (.seq (.reg [⟨(.tmp 9), (.r (.load true 3 (.loc 2))), none⟩,
  ⟨(.tmp 10), (.call 83 [(.tmp 9)]), none⟩,
  ⟨(.tmp 8), (.r (.mov (.tmp 10))), none⟩,
  ⟨(.tmp 11), (.r (.ext (.tmp 8) 0)), none⟩,
  ⟨(.tmp 12), (.r (.ext (.tmp 8) 1)), none⟩,
  ⟨(.loc 6), (.r (.mov (.tmp 11))), none⟩,
  ⟨(.tmp 7), (.r (.mov (.tmp 12))), none⟩])
 (.seq (.block 0 (.seq (.seq (.reg [⟨(.tmp 14), (.r (.mov (.loc 1))), none⟩,
  ⟨(.tmp 15), (.r (.off 0 (.loc 2))), none⟩,
  ⟨(.tmp 16), (.r (.load false 1 (.tmp 15))), none⟩,
  ⟨(.tmp 17), (.r (.bin .lss (.tmp 14) (.tmp 16))), none⟩,
  ⟨(.loc 13), (.r (.mov (.tmp 17))), none⟩])
 (.cond (.loc 13) .skip
 (.reg [⟨(.tmp 18), (.r (.mov (.loc 1))), none⟩,
  ⟨(.tmp 19), (.r (.mov (.loc 6))), none⟩,
  ⟨(.tmp 20), (.r (.bin .gtr (.tmp 18) (.tmp 19))), none⟩,
  ⟨(.loc 13), (.r (.mov (.tmp 20))), none⟩])))
 (.cond (.loc 13) (.seq (.reg [⟨(.loc 4), (.r (.mov (.cst (.int .i64 0)))), none⟩,
  ⟨(.loc 5), (.r (.mov (.cst (.bool false)))), none⟩])
 .ret)
 (.seq (.reg [⟨(.tmp 22), (.r (.mov (.loc 1))), none⟩,
  ⟨(.tmp 23), (.r (.off 0 (.loc 2))), none⟩,
  ⟨(.tmp 24), (.r (.load false 1 (.tmp 23))), none⟩,
  ⟨(.tmp 25), (.r (.bin .eql (.tmp 22) (.tmp 24))), none⟩,
  ⟨(.loc 21), (.r (.mov (.tmp 25))), none⟩])
 (.cond (.loc 21) (.seq (.reg [⟨(.tmp 26), (.r (.off 1 (.loc 2))), none⟩,
  ⟨(.tmp 27), (.r (.load false 1 (.tmp 26))), none⟩,
  ⟨(.loc 4), (.r (.mov (.tmp 27))), none⟩,
  ⟨(.loc 5), (.r (.mov (.cst (.bool true)))), none⟩])
 .ret)
 .skip)))))
 (.seq (.reg [⟨(.tmp 28), (.r (.off 2 (.loc 2))), none⟩,
  ⟨(.tmp 29), (.r (.load false 1 (.tmp 28))), none⟩,
  ⟨(.tmp 30), (.r (.mov (.loc 1))), none⟩,
  ⟨(.tmp 31), (.r (.off 0 (.loc 2))), none⟩,
  ⟨(.tmp 32), (.r (.load false 1 (.tmp 31))), none⟩,
  ⟨(.tmp 33), (.r (.bin .sub (.tmp 30) (.tmp 32))), none⟩,
  ⟨(.tmp 34), (.r (.bin .sub (.tmp 33) (.cst (.int .i64 1)))), none⟩,
  ⟨(.tmp 35), (.r (.idx 3 (.tmp 29) (.tmp 34))), none⟩,
  ⟨(.tmp 36), (.r (.off 0 (.tmp 35))), none⟩,
  ⟨(.tmp 37), (.r (.load false 1 (.tmp 36))), none⟩,
  ⟨(.loc 4), (.r (.mov (.tmp 37))), none⟩,
  ⟨(.loc 5), (.r (.mov (.cst (.bool true)))), none⟩])
 .ret)))), [(.tmp (.loc 4)), (.tmp (.loc 5))]⟩
theorem fn56_ok : cFn Try.prog fn56.keep 56 = some fn56 := by kernel_rfl

/-- glebe/rlog.Slice -/
def fn57 : AFn := ⟨43, fun s => List.contains [0, 1, 2, 3, 6, 7, 9, 27] s, (.seq (.reg [⟨(.loc 3), (.h (.box (.loc 0))), none⟩,
  ⟨(.loc 6), (.r (.mov (.cst .nils))), none⟩])
 (.seq (.reg [⟨(.tmp 11), (.r (.load true 3 (.loc 3))), none⟩,
  ⟨(.tmp 12), (.call 83 [(.tmp 11)]), none⟩,
  ⟨(.tmp 10), (.r (.mov (.tmp 12))), none⟩,
  ⟨(.tmp 13), (.r (.ext (.tmp 10) 0)), none⟩,
  ⟨(.tmp 14), (.r (.ext (.tmp 10) 1)), none⟩,
  ⟨(.loc 7), (.r (.mov (.tmp 13))), none⟩,
  ⟨(.tmp 8), (.r (.mov (.tmp 14))), none⟩])
 (.seq (.seq (.reg [⟨(.tmp 15), (.r (.mov (.loc 1))), none⟩,
  ⟨(.tmp 16), (.r (.off 0 (.loc 3))), none⟩,
  ⟨(.tmp 17), (.r (.load false 1 (.tmp 16))), none⟩,
  ⟨(.tmp 18), (.r (.bin .leq (.tmp 15) (.tmp 17))), none⟩,
  ⟨(.tmp 19), (.r (.mov (.tmp 18))), none⟩,
  ⟨(.tmp 20), (.r (.mov (.loc 1))), (some ((.tmp 19), false))⟩,
  ⟨(.tmp 21), (.r (.mov (.loc 7))), (some ((.tmp 19), false))⟩,
  ⟨(.tmp 22), (.r (.bin .gtr (.tmp 20) (.tmp 21))), (some ((.tmp 19), false))⟩,
  ⟨(.tmp 23), (.r (.pick (.tmp 19) (.cst (.bool true)) (.tmp 22))), none⟩,
  ⟨(.tmp 24), (.r (.mov (.tmp 23))), none⟩,
  ⟨(.tmp 25), (.r (.mov (.loc 2))), (some ((.tmp 24), false))⟩,
  ⟨(.tmp 26), (.r (.bin .lss (.tmp 25) (.cst (.int .i64 1)))), (some ((.tmp 24), false))⟩,
  ⟨(.loc 27), (.r (.pick (.tmp 24) (.cst (.bool true)) (.tmp 26))), none⟩])
 (.cond (.loc 27) (.seq (.reg [⟨(.loc 6), (.r (.mov (.cst .nils))), none⟩])
 .ret)
 .skip))
 (.seq (.reg [⟨(.tmp 28), (.r (.off 2 (.loc 3))), none⟩,
  ⟨(.tmp 29), (.r (.load false 1 (.tmp 28))), none⟩,
  ⟨(.tmp 30), (.r (.mov (.loc 1))), none⟩,
  ⟨(.tmp 31), (.r (.off 0 (.loc 3))), none⟩,
  ⟨(.tmp 32), (.r (.load false 1 (.tmp 31))), none⟩,
  ⟨(.tmp 33), (.r (.bin .sub (.tmp 30) (.tmp 32))), none⟩,
  ⟨(.tmp 34), (.r (.bin .sub (.tmp 33) (.cst (.int .i64 1)))), none⟩,
  ⟨(.tmp 35), (.r (.slc 3 (.tmp 29) (some (.tmp 34)) none none)), none⟩,
  ⟨(.loc 9), (.r (.mov (.tmp 35))), none⟩])
 (.seq (.reg [⟨(.tmp 36), (.r (.mov (.loc 9))), none⟩,
  ⟨(.tmp 37), (.r (.mov (.loc 2))), none⟩,
  ⟨(.tmp 38), (.r (.mov (.loc 9))), none⟩,
  ⟨(.tmp 39), (.r (.len (.tmp 38))), none⟩,
  ⟨(.tmp 40), (.r (.mnmx false [(.tmp 37), (.tmp 39)])), none⟩,
  ⟨(.tmp 41), (.r (.slc 3 (.tmp 36) none (some (.tmp 40)) none)), none⟩,
  ⟨(.tmp 42), (.call 84 [(.tmp 41)]), none⟩,
  ⟨(.loc 6), (.r (.mov (.tmp 42))), none⟩])
 .ret))))), [(.tmp (.loc 6))]⟩
theorem fn57_ok : cFn Try.prog fn57.keep 57 = some fn57 := by kernel_rfl

/-- glebe/pack.number -/
def fn80 : AFn := ⟨20, fun s => List.contains [0, 1, 4, 5, 7] s, (.seq (.reg [⟨(.loc 4), (.r (.mov (.cst .nils))), none⟩])
 (.seq (.seq (.reg [⟨(.loc 5), (.r (.mov (.cst (.int .i64 7)))), none⟩])
 (.block 0 (.loop (.seq (.seq (.reg [⟨(.tmp 6), (.r (.mov (.loc 5))), none⟩,
  ⟨(.loc 7), (.r (.bin .geq (.tmp 6) (.cst (.int .i64 0)))), none⟩])
 (.cond (.loc 7) .skip
 (.exit 0)))
 (.seq (.block 1 (.reg [⟨(.tmp 10), (.r (.mov (.loc 0))), none⟩,
  ⟨(.tmp 11), (.r (.mov (.loc 1))), none⟩,
  ⟨(.tmp 12), (.r (.conv .u64 (.tmp 11))), none⟩,
  ⟨(.tmp 13), (.r (.mov (.loc 5))), none⟩,
  ⟨(.tmp 14), (.r (.bin .mul (.cst (.int .i64 8)) (.tmp 13))), none⟩,
  ⟨(.tmp 15), (.r (.bin .shr (.tmp 12) (.tmp 14))), none⟩,
  ⟨(.tmp 16), (.r (.conv .u8 (.tmp 15))), none⟩,
  ⟨(.tmp 17), (.h (.bsl 1 [(.tmp 16)])), none⟩,
  ⟨(.tmp 18), (.h (.app 1 1 (.tmp 10) (.tmp 17))), none⟩,
  ⟨(.loc 0), (.r (.mov (.tmp 18))), none⟩]))
 (.reg [⟨(.tmp 8), (.r (.mov (.loc 5))), none⟩,
  ⟨(.tmp 9), (.r (.bin .sub (.tmp 8) (.cst (.int .i64 1)))), none⟩,
  ⟨(.loc 5), (.r (.mov (.tmp 9))), none⟩]))))))
 (.seq (.reg [⟨(.tmp 19), (.r (.mov (.loc 0))), none⟩,
  ⟨(.loc 4), (.r (.mov (.tmp 19))), none⟩])
 .ret))), [(.tmp (.loc 4))]⟩
theorem fn80_ok : cFn Try.prog fn80.keep 80 = some fn80 := by kernel_rfl

/-- glebe/pack.room -/
def fn81 : AFn := ⟨12, fun s => List.contains [0, 1, 4] s, (.seq (.reg [⟨(.loc 4), (.r (.mov (.cst .nils))), none⟩])
 (.seq (.reg [⟨(.tmp 5), (.r (.mov (.loc 0))), none⟩,
  ⟨(.tmp 6), (.r (.len (.tmp 5))), none⟩,
  ⟨(.tmp 7), (.r (.mov (.loc 1))), none⟩,
  ⟨(.tmp 8), (.r (.bin .add (.tmp 6) (.tmp 7))), none⟩,
  ⟨(.tmp 9), (.h (.mks 1 1 [(.int .u8 0)] (.cst (.int .i64 0)) (.tmp 8))), none⟩,
  ⟨(.tmp 10), (.r (.mov (.loc 0))), none⟩,
  ⟨(.tmp 11), (.h (.app 1 1 (.tmp 9) (.tmp 10))), none⟩,
  ⟨(.loc 4), (.r (.mov (.tmp 11))), none⟩])
 .ret)), [(.tmp (.loc 4))]⟩
theorem fn81_ok : cFn Try.prog fn81.keep 81 = some fn81 := by kernel_rfl

/-- glebe/image.putConf -/
def fn82 : AFn := ⟨15, fun s => List.contains [0, 1, 3, 4] s, (.seq (.reg [⟨(.loc 3), (.h (.box (.loc 1))), none⟩,
  ⟨(.loc 4), (.r (.mov (.cst .nils))), none⟩])
 (.seq (.dreg ⟨[0, 0, 2, 7, 0, 16, 63, 0, 128, 511, 1023], 0, [⟨0, 0, false, (.r (.mov (.loc 0))), none⟩,
  ⟨1, 0, false, (.r (.off 0 (.loc 3))), none⟩,
  ⟨2, 0, false, (.r (.load false 1 (.tmp 1))), none⟩,
  ⟨4, 0, false, (.r (.off 1 (.loc 3))), none⟩,
  ⟨5, 0, false, (.r (.load false 1 (.tmp 4))), none⟩,
  ⟨7, 0, false, (.r (.off 2 (.loc 3))), none⟩,
  ⟨8, 0, false, (.r (.load false 1 (.tmp 7))), none⟩,
  ⟨3, 0, true, (.call 94 [(.tmp 0), (.tmp 2)]), none⟩,
  ⟨6, 0, true, (.call 94 [(.tmp 3), (.tmp 5)]), none⟩,
  ⟨9, 0, true, (.call 94 [(.tmp 6), (.tmp 8)]), none⟩,
  ⟨10, 0, false, (.r (.mov (.tmp 9))), none⟩], [(4, 10)]⟩)
 .ret)), [(.tmp (.loc 4))]⟩
theorem fn82_ok : cFn Try.prog fn82.keep 82 = some fn82 := by kernel_rfl

/-- glebe/rlog.Last -/
def fn83 : AFn := ⟨25, fun s => List.contains [0, 1, 2, 3, 4, 9] s, (.seq (.reg [⟨(.loc 1), (.h (.box (.loc 0))), none⟩,
  ⟨(.loc 2), (.r (.mov (.cst (.int .i64 0)))), none⟩,
  ⟨(.loc 3), (.r (.mov (.cst (.int .i64 0)))), none⟩])
 (.seq (.seq (.reg [⟨(.tmp 5), (.r (.off 2 (.loc 1))), none⟩,
  ⟨(.tmp 6), (.r (.load false 1 (.tmp 5))), none⟩,
  ⟨(.tmp 7), (.r (.len (.tmp 6))), none⟩,
  ⟨(.loc 4), (.r (.mov (.tmp 7))), none⟩])
 (.seq (.reg [⟨(.tmp 8), (.r (.mov (.loc 4))), none⟩,
  ⟨(.loc 9), (.r (.bin .gtr (.tmp 8) (.cst (.int .i64 0)))), none⟩])
 (.cond (.loc 9) (.seq (.dreg ⟨[0, 1, 0, 7, 0, 16, 0, 64, 240, 496, 1008, 15, 4095], 0, [⟨0, 0, false, (.r (.off 0 (.loc 1))), none⟩,
  ⟨1, 0, false, (.r (.load false 1 (.tmp 0))), none⟩,
  ⟨2, 0, false, (.r (.mov (.loc 4))), none⟩,
  ⟨3, 0, false, (.r (.bin .add (.tmp 1) (.tmp 2))), none⟩,
  ⟨4, 0, false, (.r (.off 2 (.loc 1))), none⟩,
  ⟨5, 0, false, (.r (.load false 1 (.tmp 4))), none⟩,
  ⟨6, 0, false, (.r (.mov (.loc 4))), none⟩,
  ⟨7, 0, false, (.r (.bin .sub (.tmp 6) (.cst (.int .i64 1)))), none⟩,
  ⟨8, 0, false, (.r (.idx 3 (.tmp 5) (.tmp 7))), none⟩,
  ⟨9, 0, false, (.r (.off 0 (.tmp 8))), none⟩,
  ⟨10, 0, false, (.r (.load false 1 (.tmp 9))), none⟩,
  ⟨11, 0, false, (.r (.mov (.tmp 3))), none⟩,
  ⟨12, 0, false, (.r (.mov (.tmp 10))), none⟩], [(2, 11), (3, 12)]⟩)
 .ret)
 .skip)))
 (.seq (.dreg ⟨[0, 1, 0, 4, 3, 31], 0, [⟨0, 0, false, (.r (.off 0 (.loc 1))), none⟩,
  ⟨1, 0, false, (.r (.load false 1 (.tmp 0))), none⟩,
  ⟨2, 0, false, (.r (.off 1 (.loc 1))), none⟩,
  ⟨3, 0, false, (.r (.load false 1 (.tmp 2))), none⟩,
  ⟨4, 0, false, (.r (.mov (.tmp 1))), none⟩,
  ⟨5, 0, false, (.r (.mov (.tmp 3))), none⟩], [(2, 4), (3, 5)]⟩)
 .ret))), [(.tmp (.loc 2)), (.tmp (.loc 3))]⟩
theorem fn83_ok : cFn Try.prog fn83.keep 83 = some fn83 := by kernel_rfl

/-- glebe/rlog.fresh -/
def fn84 : AFn := ⟨23, fun s => List.contains [0, 2, 3, 5, 6, 7, 8, 9] s, (.seq (.reg [⟨(.loc 2), (.r (.mov (.cst .nils))), none⟩])
 (.seq (.reg [⟨(.loc 3), (.r (.mov (.cst .nils))), none⟩])
 (.seq (.seq (.reg [⟨(.loc 6), (.r (.mov (.loc 0))), none⟩,
  ⟨(.loc 7), (.r (.len (.loc 6))), none⟩,
  ⟨(.loc 8), (.r (.mov (.cst (.int .i64 0)))), none⟩])
 (.block 0 (.loop (.seq (.reg [⟨(.loc 9), (.r (.bin .lss (.loc 8) (.loc 7))), none⟩])
 (.seq (.cond (.loc 9) .skip
 (.exit 0))
 (.seq (.block 1 (.seq (.reg [⟨(.tmp 10), (.r (.idx 3 (.loc 6) (.loc 8))), none⟩,
  ⟨(.tmp 11), (.r (.load true 3 (.tmp 10))), none⟩,
  ⟨(.loc 5), (.h (.mk [(.int .i64 0), (.int .i64 0), .nils])), none⟩,
  ⟨.none, (.h (.store 3 (.loc 5) (.tmp 11))), none⟩])
 (.seq (.reg [⟨(.tmp 12), (.h (.bsl 1 [])), none⟩,
  ⟨(.tmp 13), (.r (.off 2 (.loc 5))), none⟩,
  ⟨(.tmp 14), (.r (.load false 1 (.tmp 13))), none⟩,
  ⟨(.tmp 15), (.h (.app 1 1 (.tmp 12) (.tmp 14))), none⟩,
  ⟨(.tmp 16), (.r (.off 2 (.loc 5))), none⟩,
  ⟨.none, (.h (.store 1 (.tmp 16) (.tmp 15))), none⟩])
 (.reg [⟨(.tmp 17), (.r (.mov (.loc 3))), none⟩,
  ⟨(.tmp 18), (.r (.load true 3 (.loc 5))), none⟩,
  ⟨(.tmp 19), (.h (.bsl 3 [(.tmp 18)])), none⟩,
  ⟨(.tmp 20), (.h (.app 3 40 (.tmp 17) (.tmp 19))), none⟩,
  ⟨(.loc 3), (.r (.mov (.tmp 20))), none⟩]))))
 (.reg [⟨(.tmp 21), (.r (.bin .add (.loc 8) (.cst (.int .i64 1)))), none⟩,
  ⟨(.loc 8), (.r (.mov (.tmp 21))), none⟩])))))))
 (.seq (.reg [⟨(.tmp 22), (.r (.mov (.loc 3))), none⟩,
  ⟨(.loc 2), (.r (.mov (.tmp 22))), none⟩])
 .ret)))), [(.tmp (.loc 2))]⟩
theorem fn84_ok : cFn Try.prog fn84.keep 84 = some fn84 := by kernel_rfl

/-- glebe/pack.Ints -/
def fn94 : AFn := ⟨28, fun s => List.contains [0, 1, 4, 5, 7, 17, 18, 19, 20] s, (.seq (.reg [⟨(.loc 4), (.r (.mov (.cst .nils))), none⟩])
 (.seq (.reg [⟨(.tmp 8), (.r (.mov (.loc 0))), none⟩,
  ⟨(.tmp 9), (.r (.mov (.loc 1))), none⟩,
  ⟨(.tmp 10), (.r (.len (.tmp 9))), none⟩,
  ⟨(.tmp 11), (.r (.bin .mul (.cst (.int .i64 8)) (.tmp 10))), none⟩,
  ⟨(.tmp 12), (.r (.bin .add (.cst (.int .i64 8)) (.tmp 11))), none⟩,
  ⟨(.tmp 13), (.call 81 [(.tmp 8), (.tmp 12)]), none⟩,
  ⟨(.tmp 14), (.r (.mov (.loc 1))), none⟩,
  ⟨(.tmp 15), (.r (.len (.tmp 14))), none⟩,
  ⟨(.tmp 16), (.call 80 [(.tmp 13), (.tmp 15)]), none⟩,
  ⟨(.loc 5), (.r (.mov (.tmp 16))), none⟩])
 (.seq (.seq (.reg [⟨(.loc 17), (.r (.mov (.loc 1))), none⟩,
  ⟨(.loc 18), (.r (.len (.loc 17))), none⟩,
  ⟨(.loc 19), (.r (.mov (.cst (.int .i64 0)))), none⟩])
 (.block 0 (.loop (.seq (.reg [⟨(.loc 20), (.r (.bin .lss (.loc 19) (.loc 18))), none⟩])
 (.seq (.cond (.loc 20) .skip
 (.exit 0))
 (.seq (.block 1 (.seq (.reg [⟨(.tmp 21), (.r (.idx 1 (.loc 17) (.loc 19))), none⟩,
  ⟨(.tmp 22), (.r (.load false 1 (.tmp 21))), none⟩,
  ⟨(.loc 7), (.r (.mov (.tmp 22))), none⟩])
 (.reg [⟨(.tmp 23), (.r (.mov (.loc 5))), none⟩,
  ⟨(.tmp 24), (.r (.mov (.loc 7))), none⟩,
  ⟨(.tmp 25), (.call 80 [(.tmp 23), (.tmp 24)]), none⟩,
  ⟨(.loc 5), (.r (.mov (.tmp 25))), none⟩])))
 (.reg [⟨(.tmp 26), (.r (.bin .add (.loc 19) (.cst (.int .i64 1)))), none⟩,
  ⟨(.loc 19), (.r (.mov (.tmp 26))), none⟩])))))))
 (.seq (.reg [⟨(.tmp 27), (.r (.mov (.loc 5))), none⟩,
  ⟨(.loc 4), (.r (.mov (.tmp 27))), none⟩])
 .ret)))), [(.tmp (.loc 4))]⟩
theorem fn94_ok : cFn Try.prog fn94.keep 94 = some fn94 := by kernel_rfl

def tab : Tab := [(6, fn6), (24, fn24), (26, fn26), (31, fn31), (32, fn32), (54, fn54), (55, fn55), (56, fn56), (57, fn57), (80, fn80), (81, fn81), (82, fn82), (83, fn83), (84, fn84), (94, fn94)]
theorem fn6_is : isFn Try.prog 6 = true := by kernel_rfl
theorem fn24_is : isFn Try.prog 24 = true := by kernel_rfl
theorem fn26_is : isFn Try.prog 26 = true := by kernel_rfl
theorem fn31_is : isFn Try.prog 31 = true := by kernel_rfl
theorem fn32_is : isFn Try.prog 32 = true := by kernel_rfl
theorem fn54_is : isFn Try.prog 54 = true := by kernel_rfl
theorem fn55_is : isFn Try.prog 55 = true := by kernel_rfl
theorem fn56_is : isFn Try.prog 56 = true := by kernel_rfl
theorem fn57_is : isFn Try.prog 57 = true := by kernel_rfl
theorem fn80_is : isFn Try.prog 80 = true := by kernel_rfl
theorem fn81_is : isFn Try.prog 81 = true := by kernel_rfl
theorem fn82_is : isFn Try.prog 82 = true := by kernel_rfl
theorem fn83_is : isFn Try.prog 83 = true := by kernel_rfl
theorem fn84_is : isFn Try.prog 84 = true := by kernel_rfl
theorem fn94_is : isFn Try.prog 94 = true := by kernel_rfl
theorem tab_ok : TabOk Try.prog tab :=
  TabOk.cons fn6_ok fn6_is (TabOk.cons fn24_ok fn24_is (TabOk.cons fn26_ok fn26_is (TabOk.cons fn31_ok fn31_is (TabOk.cons fn32_ok fn32_is (TabOk.cons fn54_ok fn54_is (TabOk.cons fn55_ok fn55_is (TabOk.cons fn56_ok fn56_is (TabOk.cons fn57_ok fn57_is (TabOk.cons fn80_ok fn80_is (TabOk.cons fn81_ok fn81_is (TabOk.cons fn82_ok fn82_is (TabOk.cons fn83_ok fn83_is (TabOk.cons fn84_ok fn84_is (TabOk.cons fn94_ok fn94_is (TabOk.nil _)))))))))))))))
end Go.Proofs.Ytoijpkpfgamlpaa
