/-
  What functions of the program are, one by one (the functions that they call as parameters), in a form of which something can be shown.
-/
import Derived.Test.YtoijpkpfgamlpaaGlbFun
set_option linter.unusedSimpArgs false
set_option linter.unusedVariables false
namespace Glb
open Go
set_option maxRecDepth 100000

/-- glebe/gleberef15.Next -/
def c_gleberef15_Next (f_gleberef13_PutConf : FuncId) (f_gleberef02_Blob : FuncId) (f_gleberef11_Term : FuncId) (f_gleberef11_Slice : FuncId) : AFn := ⟨72, fun s => List.contains [0, 1, 2, 3, 4, 5, 7, 10, 11, 12, 28] s, (.seq (.reg [⟨(.loc 5), (.h (.box (.loc 0))), none⟩,
  ⟨(.loc 7), (.h (.box (.loc 2))), none⟩,
  ⟨(.loc 10), (.h (.mk [(.int .i64 0), (.int .i64 0), (.int .i64 0), (.int .i64 0), (.int .i64 0), (.int .i64 0), (.int .i64 0), (.int .i64 0), (.int .i64 0), (.int .i64 0), (.int .i64 0), (.int .i64 0), (.int .i64 0), (.int .i64 0), (.bool false), .nils, .nils])), none⟩])
 (.seq (.reg [⟨(.tmp 14), (.r (.mov (.loc 1))), none⟩,
  ⟨(.tmp 15), (.r (.off 0 (.loc 5))), none⟩,
  ⟨(.tmp 16), (.r (.load false 1 (.tmp 15))), none⟩,
  ⟨(.tmp 17), (.r (.off 0 (.loc 7))), none⟩,
  ⟨(.tmp 18), (.r (.load false 1 (.tmp 17))), none⟩,
  ⟨(.tmp 19), (.r (.off 1 (.loc 7))), none⟩,
  ⟨(.tmp 20), (.r (.load false 1 (.tmp 19))), none⟩,
  ⟨(.tmp 21), (.r (.mov (.loc 4))), none⟩,
  ⟨(.tmp 22), (.r (.build [(.int .i64 0), (.int .i64 0), (.int .i64 0), (.int .i64 0), (.int .i64 0), (.int .i64 0), (.int .i64 0), (.int .i64 0), (.int .i64 0), (.int .i64 0), (.int .i64 0), (.int .i64 0), (.int .i64 0), (.int .i64 0), (.bool false), .nils, .nils] [(1, 1, (.tmp 14)), (2, 1, (.tmp 16)), (3, 1, (.tmp 18)), (4, 1, (.tmp 20)), (8, 1, (.tmp 21))])), none⟩,
  ⟨(.loc 11), (.h (.mk [(.int .i64 0), (.int .i64 0), (.int .i64 0), (.int .i64 0), (.int .i64 0), (.int .i64 0), (.int .i64 0), (.int .i64 0), (.int .i64 0), (.int .i64 0), (.int .i64 0), (.int .i64 0), (.int .i64 0), (.int .i64 0), (.bool false), .nils, .nils])), none⟩,
  ⟨.none, (.h (.store 17 (.loc 11) (.tmp 22))), none⟩])
 (.seq (.seq (.reg [⟨(.tmp 23), (.r (.off 1 (.loc 5))), none⟩,
  ⟨(.tmp 24), (.r (.load false 1 (.tmp 23))), none⟩,
  ⟨(.tmp 25), (.r (.off 3 (.loc 7))), none⟩,
  ⟨(.tmp 26), (.r (.off 0 (.tmp 25))), none⟩,
  ⟨(.tmp 27), (.r (.load false 1 (.tmp 26))), none⟩,
  ⟨(.loc 28), (.r (.bin .leq (.tmp 24) (.tmp 27))), none⟩])
 (.cond (.loc 28) (.seq (.reg [⟨(.tmp 29), (.r (.off 0 (.loc 11))), none⟩,
  ⟨.none, (.h (.store 1 (.tmp 29) (.cst (.int .i64 5)))), none⟩])
 (.seq (.reg [⟨(.tmp 30), (.r (.off 3 (.loc 7))), none⟩,
  ⟨(.tmp 31), (.r (.off 0 (.tmp 30))), none⟩,
  ⟨(.tmp 32), (.r (.load false 1 (.tmp 31))), none⟩,
  ⟨(.tmp 33), (.r (.off 5 (.loc 11))), none⟩,
  ⟨.none, (.h (.store 1 (.tmp 33) (.tmp 32))), none⟩])
 (.seq (.reg [⟨(.tmp 34), (.r (.off 3 (.loc 7))), none⟩,
  ⟨(.tmp 35), (.r (.off 1 (.tmp 34))), none⟩,
  ⟨(.tmp 36), (.r (.load false 1 (.tmp 35))), none⟩,
  ⟨(.tmp 37), (.r (.off 6 (.loc 11))), none⟩,
  ⟨.none, (.h (.store 1 (.tmp 37) (.tmp 36))), none⟩])
 (.seq (.dreg ⟨[0, 1, 3, 7, 0, 16, 63, 127, 255], 0, [⟨0, 0, false, (.r (.off 6 (.loc 7))), none⟩,
  ⟨1, 0, false, (.r (.load true 3 (.tmp 0))), none⟩,
  ⟨4, 0, false, (.r (.off 9 (.loc 7))), none⟩,
  ⟨5, 0, false, (.r (.load false 1 (.tmp 4))), none⟩,
  ⟨2, 0, true, (.call f_gleberef13_PutConf [(.tmp 1)]), none⟩,
  ⟨3, 0, true, (.call f_gleberef02_Blob [(.cst .nils), (.tmp 2)]), none⟩,
  ⟨6, 0, true, (.call f_gleberef02_Blob [(.tmp 3), (.tmp 5)]), none⟩,
  ⟨7, 0, false, (.r (.off 16 (.loc 11))), none⟩,
  ⟨8, 0, true, (.h (.store 1 (.tmp 7) (.tmp 6))), none⟩], []⟩)
 (.seq (.reg [⟨(.tmp 46), (.r (.load true 17 (.loc 11))), none⟩,
  ⟨.none, (.h (.store 17 (.loc 10) (.tmp 46))), none⟩])
 .ret)))))
 .skip))
 (.seq (.reg [⟨(.tmp 47), (.r (.off 0 (.loc 11))), none⟩,
  ⟨.none, (.h (.store 1 (.tmp 47) (.cst (.int .i64 3)))), none⟩])
 (.seq (.reg [⟨(.tmp 48), (.r (.off 1 (.loc 5))), none⟩,
  ⟨(.tmp 49), (.r (.load false 1 (.tmp 48))), none⟩,
  ⟨(.tmp 50), (.r (.bin .sub (.tmp 49) (.cst (.int .i64 1)))), none⟩,
  ⟨(.tmp 51), (.r (.off 5 (.loc 11))), none⟩,
  ⟨.none, (.h (.store 1 (.tmp 51) (.tmp 50))), none⟩])
 (.seq (.reg [⟨(.tmp 53), (.r (.off 3 (.loc 7))), none⟩,
  ⟨(.tmp 54), (.r (.load true 3 (.tmp 53))), none⟩,
  ⟨(.tmp 55), (.r (.off 1 (.loc 5))), none⟩,
  ⟨(.tmp 56), (.r (.load false 1 (.tmp 55))), none⟩,
  ⟨(.tmp 57), (.r (.bin .sub (.tmp 56) (.cst (.int .i64 1)))), none⟩,
  ⟨(.tmp 58), (.call f_gleberef11_Term [(.tmp 54), (.tmp 57)]), none⟩,
  ⟨(.tmp 52), (.r (.mov (.tmp 58))), none⟩,
  ⟨(.tmp 59), (.r (.ext (.tmp 52) 0)), none⟩,
  ⟨(.tmp 60), (.r (.ext (.tmp 52) 1)), none⟩,
  ⟨(.loc 12), (.r (.mov (.tmp 59))), none⟩,
  ⟨(.tmp 13), (.r (.mov (.tmp 60))), none⟩])
 (.seq (.reg [⟨(.tmp 61), (.r (.mov (.loc 12))), none⟩,
  ⟨(.tmp 62), (.r (.off 6 (.loc 11))), none⟩,
  ⟨.none, (.h (.store 1 (.tmp 62) (.tmp 61))), none⟩])
 (.seq (.reg [⟨(.tmp 63), (.r (.mov (.loc 3))), none⟩,
  ⟨(.tmp 64), (.r (.off 7 (.loc 11))), none⟩,
  ⟨.none, (.h (.store 1 (.tmp 64) (.tmp 63))), none⟩])
 (.seq (.reg [⟨(.tmp 65), (.r (.off 3 (.loc 7))), none⟩,
  ⟨(.tmp 66), (.r (.load true 3 (.tmp 65))), none⟩,
  ⟨(.tmp 67), (.r (.off 1 (.loc 5))), none⟩,
  ⟨(.tmp 68), (.r (.load false 1 (.tmp 67))), none⟩,
  ⟨(.tmp 69), (.call f_gleberef11_Slice [(.tmp 66), (.tmp 68), (.cst (.int .i64 8))]), none⟩,
  ⟨(.tmp 70), (.r (.off 15 (.loc 11))), none⟩,
  ⟨.none, (.h (.store 1 (.tmp 70) (.tmp 69))), none⟩])
 (.seq (.reg [⟨(.tmp 71), (.r (.load true 17 (.loc 11))), none⟩,
  ⟨.none, (.h (.store 17 (.loc 10) (.tmp 71))), none⟩])
 .ret)))))))))), [(.cell (.loc 10) true 17)]⟩

/-- glebe/gleberef15.Heard -/
def c_gleberef15_Heard : AFn := ⟨51, fun s => List.contains [0, 1, 2, 3, 4, 14, 17] s, (.seq (.reg [⟨(.loc 2), (.h (.box (.loc 0))), none⟩,
  ⟨(.loc 3), (.h (.box (.loc 1))), none⟩,
  ⟨(.loc 4), (.h (.mk [(.int .i64 0), (.int .i64 0), (.int .i64 0), (.int .i64 0)])), none⟩])
 (.seq (.seq (.reg [⟨(.tmp 5), (.r (.off 0 (.loc 3))), none⟩,
  ⟨(.tmp 6), (.r (.load false 1 (.tmp 5))), none⟩,
  ⟨(.tmp 7), (.r (.bin .neq (.tmp 6) (.cst (.int .i64 4)))), none⟩,
  ⟨(.tmp 8), (.r (.mov (.tmp 7))), none⟩,
  ⟨(.tmp 9), (.r (.off 1 (.loc 3))), (some ((.tmp 8), false))⟩,
  ⟨(.tmp 10), (.r (.load false 1 (.tmp 9))), (some ((.tmp 8), false))⟩,
  ⟨(.tmp 11), (.r (.off 0 (.loc 2))), (some ((.tmp 8), false))⟩,
  ⟨(.tmp 12), (.r (.load false 1 (.tmp 11))), (some ((.tmp 8), false))⟩,
  ⟨(.tmp 13), (.r (.bin .neq (.tmp 10) (.tmp 12))), (some ((.tmp 8), false))⟩,
  ⟨(.loc 14), (.r (.pick (.tmp 8) (.cst (.bool true)) (.tmp 13))), none⟩])
 (.cond (.loc 14) (.seq (.reg [⟨(.tmp 15), (.r (.load true 4 (.loc 2))), none⟩,
  ⟨.none, (.h (.store 4 (.loc 4) (.tmp 15))), none⟩])
 .ret)
 .skip))
 (.seq (.seq (.reg [⟨(.tmp 16), (.r (.off 14 (.loc 3))), none⟩,
  ⟨(.loc 17), (.r (.load false 1 (.tmp 16))), none⟩])
 (.cond (.loc 17) (.seq (.reg [⟨(.tmp 18), (.r (.off 2 (.loc 2))), none⟩,
  ⟨(.tmp 19), (.r (.load false 1 (.tmp 18))), none⟩,
  ⟨(.tmp 20), (.r (.off 5 (.loc 3))), none⟩,
  ⟨(.tmp 21), (.r (.load false 1 (.tmp 20))), none⟩,
  ⟨(.tmp 22), (.r (.mnmx true [(.tmp 19), (.tmp 21)])), none⟩,
  ⟨(.tmp 23), (.r (.off 2 (.loc 2))), none⟩,
  ⟨.none, (.h (.store 1 (.tmp 23) (.tmp 22))), none⟩])
 (.seq (.reg [⟨(.tmp 24), (.r (.off 1 (.loc 2))), none⟩,
  ⟨(.tmp 25), (.r (.load false 1 (.tmp 24))), none⟩,
  ⟨(.tmp 26), (.r (.off 2 (.loc 2))), none⟩,
  ⟨(.tmp 27), (.r (.load false 1 (.tmp 26))), none⟩,
  ⟨(.tmp 28), (.r (.bin .add (.tmp 27) (.cst (.int .i64 1)))), none⟩,
  ⟨(.tmp 29), (.r (.mnmx true [(.tmp 25), (.tmp 28)])), none⟩,
  ⟨(.tmp 30), (.r (.off 1 (.loc 2))), none⟩,
  ⟨.none, (.h (.store 1 (.tmp 30) (.tmp 29))), none⟩])
 (.seq (.reg [⟨(.tmp 31), (.r (.off 3 (.loc 2))), none⟩,
  ⟨(.tmp 32), (.r (.load false 1 (.tmp 31))), none⟩,
  ⟨(.tmp 33), (.r (.off 8 (.loc 3))), none⟩,
  ⟨(.tmp 34), (.r (.load false 1 (.tmp 33))), none⟩,
  ⟨(.tmp 35), (.r (.mnmx true [(.tmp 32), (.tmp 34)])), none⟩,
  ⟨(.tmp 36), (.r (.off 3 (.loc 2))), none⟩,
  ⟨.none, (.h (.store 1 (.tmp 36) (.tmp 35))), none⟩])
 (.seq (.reg [⟨(.tmp 37), (.r (.load true 4 (.loc 2))), none⟩,
  ⟨.none, (.h (.store 4 (.loc 4) (.tmp 37))), none⟩])
 .ret))))
 .skip))
 (.seq (.reg [⟨(.tmp 38), (.r (.off 2 (.loc 2))), none⟩,
  ⟨(.tmp 39), (.r (.load false 1 (.tmp 38))), none⟩,
  ⟨(.tmp 40), (.r (.bin .add (.tmp 39) (.cst (.int .i64 1)))), none⟩,
  ⟨(.tmp 41), (.r (.off 1 (.loc 2))), none⟩,
  ⟨(.tmp 42), (.r (.load false 1 (.tmp 41))), none⟩,
  ⟨(.tmp 43), (.r (.bin .sub (.tmp 42) (.cst (.int .i64 1)))), none⟩,
  ⟨(.tmp 44), (.r (.off 5 (.loc 3))), none⟩,
  ⟨(.tmp 45), (.r (.load false 1 (.tmp 44))), none⟩,
  ⟨(.tmp 46), (.r (.bin .add (.tmp 45) (.cst (.int .i64 1)))), none⟩,
  ⟨(.tmp 47), (.r (.mnmx false [(.tmp 43), (.tmp 46)])), none⟩,
  ⟨(.tmp 48), (.r (.mnmx true [(.tmp 40), (.tmp 47)])), none⟩,
  ⟨(.tmp 49), (.r (.off 1 (.loc 2))), none⟩,
  ⟨.none, (.h (.store 1 (.tmp 49) (.tmp 48))), none⟩])
 (.seq (.reg [⟨(.tmp 50), (.r (.load true 4 (.loc 2))), none⟩,
  ⟨.none, (.h (.store 4 (.loc 4) (.tmp 50))), none⟩])
 .ret))))), [(.cell (.loc 4) true 4)]⟩

/-- glebe/gleberef15.New -/
def c_gleberef15_New : AFn := ⟨9, fun s => List.contains [0, 1, 4] s, (.seq (.reg [⟨(.loc 4), (.h (.mk [(.int .i64 0), (.int .i64 0), (.int .i64 0), (.int .i64 0)])), none⟩])
 (.seq (.reg [⟨(.tmp 5), (.r (.mov (.loc 0))), none⟩,
  ⟨(.tmp 6), (.r (.mov (.loc 1))), none⟩,
  ⟨(.tmp 7), (.r (.bin .add (.tmp 6) (.cst (.int .i64 1)))), none⟩,
  ⟨(.tmp 8), (.r (.build [(.int .i64 0), (.int .i64 0), (.int .i64 0), (.int .i64 0)] [(0, 1, (.tmp 5)), (1, 1, (.tmp 7))])), none⟩,
  ⟨.none, (.h (.store 4 (.loc 4) (.tmp 8))), none⟩])
 .ret)), [(.cell (.loc 4) true 4)]⟩

end Glb
