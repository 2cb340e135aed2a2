/-
  What functions of the program are, one by one (the functions that they call as parameters), in a form of which something can be shown.
-/
import Derived.Test.YtoijpkpfgamlpaaGlbFun
set_option linter.unusedSimpArgs false
set_option linter.unusedVariables false
namespace Glb
open Go
set_option maxRecDepth 100000

/-- glebe/flow.Next -/
def c_flow_Next (f_image_PutConf : FuncId) (f_pack_Blob : FuncId) (f_rlog_Term : FuncId) (f_rlog_Slice : FuncId) : AFn := ⟨71, fun s => List.contains [0, 1, 2, 3, 4, 5, 7, 10, 11, 12, 19] s, (.seq (.reg [⟨(.loc 5), (.h (.box (.loc 0))), none⟩,
  ⟨(.loc 7), (.h (.box (.loc 2))), none⟩,
  ⟨(.loc 10), (.h (.mk [(.int .i64 0), (.int .i64 0), (.int .i64 0), (.int .i64 0), (.int .i64 0), (.int .i64 0), (.int .i64 0), (.int .i64 0), (.int .i64 0), (.int .i64 0), (.int .i64 0), (.int .i64 0), (.int .i64 0), (.int .i64 0), (.bool false), .nils, .nils])), none⟩])
 (.seq (.seq (.reg [⟨(.tmp 14), (.r (.off 1 (.loc 5))), none⟩,
  ⟨(.tmp 15), (.r (.load false 1 (.tmp 14))), none⟩,
  ⟨(.tmp 16), (.r (.off 3 (.loc 7))), none⟩,
  ⟨(.tmp 17), (.r (.off 0 (.tmp 16))), none⟩,
  ⟨(.tmp 18), (.r (.load false 1 (.tmp 17))), none⟩,
  ⟨(.loc 19), (.r (.bin .leq (.tmp 15) (.tmp 18))), none⟩])
 (.cond (.loc 19) (.seq (.dreg ⟨[0, 1, 3, 7, 0, 16, 63, 127], 0, [⟨0, 0, false, (.r (.off 6 (.loc 7))), none⟩,
  ⟨1, 0, false, (.r (.load true 3 (.tmp 0))), none⟩,
  ⟨4, 0, false, (.r (.off 9 (.loc 7))), none⟩,
  ⟨5, 0, false, (.r (.load false 1 (.tmp 4))), none⟩,
  ⟨2, 0, true, (.call f_image_PutConf [(.tmp 1)]), none⟩,
  ⟨3, 0, true, (.call f_pack_Blob [(.cst .nils), (.tmp 2)]), none⟩,
  ⟨6, 0, true, (.call f_pack_Blob [(.tmp 3), (.tmp 5)]), none⟩,
  ⟨7, 0, false, (.r (.mov (.tmp 6))), none⟩], [(11, 7)]⟩)
 (.seq (.reg [⟨(.tmp 27), (.r (.mov (.loc 1))), none⟩,
  ⟨(.tmp 28), (.r (.off 0 (.loc 5))), none⟩,
  ⟨(.tmp 29), (.r (.load false 1 (.tmp 28))), none⟩,
  ⟨(.tmp 30), (.r (.off 0 (.loc 7))), none⟩,
  ⟨(.tmp 31), (.r (.load false 1 (.tmp 30))), none⟩,
  ⟨(.tmp 32), (.r (.off 1 (.loc 7))), none⟩,
  ⟨(.tmp 33), (.r (.load false 1 (.tmp 32))), none⟩,
  ⟨(.tmp 34), (.r (.off 3 (.loc 7))), none⟩,
  ⟨(.tmp 35), (.r (.off 0 (.tmp 34))), none⟩,
  ⟨(.tmp 36), (.r (.load false 1 (.tmp 35))), none⟩,
  ⟨(.tmp 37), (.r (.off 3 (.loc 7))), none⟩,
  ⟨(.tmp 38), (.r (.off 1 (.tmp 37))), none⟩,
  ⟨(.tmp 39), (.r (.load false 1 (.tmp 38))), none⟩,
  ⟨(.tmp 40), (.r (.mov (.loc 4))), none⟩,
  ⟨(.tmp 41), (.r (.mov (.loc 11))), none⟩,
  ⟨(.tmp 42), (.r (.build [(.int .i64 0), (.int .i64 0), (.int .i64 0), (.int .i64 0), (.int .i64 0), (.int .i64 0), (.int .i64 0), (.int .i64 0), (.int .i64 0), (.int .i64 0), (.int .i64 0), (.int .i64 0), (.int .i64 0), (.int .i64 0), (.bool false), .nils, .nils] [(0, 1, (.cst (.int .i64 5))), (1, 1, (.tmp 27)), (2, 1, (.tmp 29)), (3, 1, (.tmp 31)), (4, 1, (.tmp 33)), (5, 1, (.tmp 36)), (6, 1, (.tmp 39)), (8, 1, (.tmp 40)), (16, 1, (.tmp 41))])), none⟩,
  ⟨.none, (.h (.store 17 (.loc 10) (.tmp 42))), none⟩])
 .ret))
 .skip))
 (.seq (.reg [⟨(.tmp 44), (.r (.off 3 (.loc 7))), none⟩,
  ⟨(.tmp 45), (.r (.load true 3 (.tmp 44))), none⟩,
  ⟨(.tmp 46), (.r (.off 1 (.loc 5))), none⟩,
  ⟨(.tmp 47), (.r (.load false 1 (.tmp 46))), none⟩,
  ⟨(.tmp 48), (.r (.bin .sub (.tmp 47) (.cst (.int .i64 1)))), none⟩,
  ⟨(.tmp 49), (.call f_rlog_Term [(.tmp 45), (.tmp 48)]), none⟩,
  ⟨(.tmp 43), (.r (.mov (.tmp 49))), none⟩,
  ⟨(.tmp 50), (.r (.ext (.tmp 43) 0)), none⟩,
  ⟨(.tmp 51), (.r (.ext (.tmp 43) 1)), none⟩,
  ⟨(.loc 12), (.r (.mov (.tmp 50))), none⟩,
  ⟨(.tmp 13), (.r (.mov (.tmp 51))), none⟩])
 (.seq (.dreg ⟨[0, 0, 2, 0, 8, 0, 32, 0, 128, 384, 0, 0, 0, 0, 8192, 0, 32768, 122880, 262143, 524287], 0, [⟨0, 0, false, (.r (.mov (.loc 1))), none⟩,
  ⟨1, 0, false, (.r (.off 0 (.loc 5))), none⟩,
  ⟨2, 0, false, (.r (.load false 1 (.tmp 1))), none⟩,
  ⟨3, 0, false, (.r (.off 0 (.loc 7))), none⟩,
  ⟨4, 0, false, (.r (.load false 1 (.tmp 3))), none⟩,
  ⟨5, 0, false, (.r (.off 1 (.loc 7))), none⟩,
  ⟨6, 0, false, (.r (.load false 1 (.tmp 5))), none⟩,
  ⟨7, 0, false, (.r (.off 1 (.loc 5))), none⟩,
  ⟨8, 0, false, (.r (.load false 1 (.tmp 7))), none⟩,
  ⟨9, 0, false, (.r (.bin .sub (.tmp 8) (.cst (.int .i64 1)))), none⟩,
  ⟨10, 0, false, (.r (.mov (.loc 12))), none⟩,
  ⟨11, 0, false, (.r (.mov (.loc 3))), none⟩,
  ⟨12, 0, false, (.r (.mov (.loc 4))), none⟩,
  ⟨13, 0, false, (.r (.off 3 (.loc 7))), none⟩,
  ⟨14, 0, false, (.r (.load true 3 (.tmp 13))), none⟩,
  ⟨15, 0, false, (.r (.off 1 (.loc 5))), none⟩,
  ⟨16, 0, false, (.r (.load false 1 (.tmp 15))), none⟩,
  ⟨17, 0, true, (.call f_rlog_Slice [(.tmp 14), (.tmp 16), (.cst (.int .i64 8))]), none⟩,
  ⟨18, 0, false, (.r (.build [(.int .i64 0), (.int .i64 0), (.int .i64 0), (.int .i64 0), (.int .i64 0), (.int .i64 0), (.int .i64 0), (.int .i64 0), (.int .i64 0), (.int .i64 0), (.int .i64 0), (.int .i64 0), (.int .i64 0), (.int .i64 0), (.bool false), .nils, .nils] [(0, 1, (.cst (.int .i64 3))), (1, 1, (.tmp 0)), (2, 1, (.tmp 2)), (3, 1, (.tmp 4)), (4, 1, (.tmp 6)), (5, 1, (.tmp 9)), (6, 1, (.tmp 10)), (7, 1, (.tmp 11)), (8, 1, (.tmp 12)), (15, 1, (.tmp 17))])), none⟩,
  ⟨19, 0, true, (.h (.store 17 (.loc 10) (.tmp 18))), none⟩], []⟩)
 .ret)))), [(.cell (.loc 10) true 17)]⟩

/-- glebe/flow.Heard -/
def c_flow_Heard : AFn := ⟨49, fun s => List.contains [0, 1, 2, 3, 4, 17, 26] s, (.seq (.reg [⟨(.loc 2), (.h (.box (.loc 0))), none⟩,
  ⟨(.loc 3), (.h (.box (.loc 1))), none⟩,
  ⟨(.loc 4), (.h (.mk [(.int .i64 0), (.int .i64 0), (.int .i64 0), (.int .i64 0)])), none⟩])
 (.seq (.block 0 (.seq (.seq (.reg [⟨(.tmp 18), (.r (.off 0 (.loc 3))), none⟩,
  ⟨(.tmp 19), (.r (.load false 1 (.tmp 18))), none⟩,
  ⟨(.tmp 20), (.r (.bin .neq (.tmp 19) (.cst (.int .i64 4)))), none⟩,
  ⟨(.loc 17), (.r (.mov (.tmp 20))), none⟩])
 (.cond (.loc 17) .skip
 (.reg [⟨(.tmp 21), (.r (.off 1 (.loc 3))), none⟩,
  ⟨(.tmp 22), (.r (.load false 1 (.tmp 21))), none⟩,
  ⟨(.tmp 23), (.r (.off 0 (.loc 2))), none⟩,
  ⟨(.tmp 24), (.r (.load false 1 (.tmp 23))), none⟩,
  ⟨(.tmp 25), (.r (.bin .neq (.tmp 22) (.tmp 24))), none⟩,
  ⟨(.loc 17), (.r (.mov (.tmp 25))), none⟩])))
 (.cond (.loc 17) .skip
 (.seq (.reg [⟨(.tmp 27), (.r (.off 14 (.loc 3))), none⟩,
  ⟨(.tmp 28), (.r (.load false 1 (.tmp 27))), none⟩,
  ⟨(.loc 26), (.r (.mov (.tmp 28))), none⟩])
 (.cond (.loc 26) (.seq (.reg [⟨(.tmp 29), (.r (.off 2 (.loc 2))), none⟩,
  ⟨(.tmp 30), (.r (.load false 1 (.tmp 29))), none⟩,
  ⟨(.tmp 31), (.r (.off 5 (.loc 3))), none⟩,
  ⟨(.tmp 32), (.r (.load false 1 (.tmp 31))), none⟩,
  ⟨(.tmp 33), (.r (.mnmx true [(.tmp 30), (.tmp 32)])), none⟩,
  ⟨(.tmp 34), (.r (.off 2 (.loc 2))), none⟩,
  ⟨.none, (.h (.store 1 (.tmp 34) (.tmp 33))), none⟩])
 (.seq (.reg [⟨(.tmp 35), (.r (.off 1 (.loc 2))), none⟩,
  ⟨(.tmp 36), (.r (.load false 1 (.tmp 35))), none⟩,
  ⟨(.tmp 37), (.r (.off 2 (.loc 2))), none⟩,
  ⟨(.tmp 38), (.r (.load false 1 (.tmp 37))), none⟩,
  ⟨(.tmp 39), (.r (.bin .add (.tmp 38) (.cst (.int .i64 1)))), none⟩,
  ⟨(.tmp 40), (.r (.mnmx true [(.tmp 36), (.tmp 39)])), none⟩,
  ⟨(.tmp 41), (.r (.off 1 (.loc 2))), none⟩,
  ⟨.none, (.h (.store 1 (.tmp 41) (.tmp 40))), none⟩])
 (.reg [⟨(.tmp 42), (.r (.off 3 (.loc 2))), none⟩,
  ⟨(.tmp 43), (.r (.load false 1 (.tmp 42))), none⟩,
  ⟨(.tmp 44), (.r (.off 8 (.loc 3))), none⟩,
  ⟨(.tmp 45), (.r (.load false 1 (.tmp 44))), none⟩,
  ⟨(.tmp 46), (.r (.mnmx true [(.tmp 43), (.tmp 45)])), none⟩,
  ⟨(.tmp 47), (.r (.off 3 (.loc 2))), none⟩,
  ⟨.none, (.h (.store 1 (.tmp 47) (.tmp 46))), none⟩])))
 (.reg [⟨(.tmp 5), (.r (.off 2 (.loc 2))), none⟩,
  ⟨(.tmp 6), (.r (.load false 1 (.tmp 5))), none⟩,
  ⟨(.tmp 7), (.r (.bin .add (.tmp 6) (.cst (.int .i64 1)))), none⟩,
  ⟨(.tmp 8), (.r (.off 1 (.loc 2))), none⟩,
  ⟨(.tmp 9), (.r (.load false 1 (.tmp 8))), none⟩,
  ⟨(.tmp 10), (.r (.bin .sub (.tmp 9) (.cst (.int .i64 1)))), none⟩,
  ⟨(.tmp 11), (.r (.off 5 (.loc 3))), none⟩,
  ⟨(.tmp 12), (.r (.load false 1 (.tmp 11))), none⟩,
  ⟨(.tmp 13), (.r (.bin .add (.tmp 12) (.cst (.int .i64 1)))), none⟩,
  ⟨(.tmp 14), (.r (.mnmx false [(.tmp 10), (.tmp 13)])), none⟩,
  ⟨(.tmp 15), (.r (.mnmx true [(.tmp 7), (.tmp 14)])), none⟩,
  ⟨(.tmp 16), (.r (.off 1 (.loc 2))), none⟩,
  ⟨.none, (.h (.store 1 (.tmp 16) (.tmp 15))), none⟩]))))))
 (.seq (.reg [⟨(.tmp 48), (.r (.load true 4 (.loc 2))), none⟩,
  ⟨.none, (.h (.store 4 (.loc 4) (.tmp 48))), none⟩])
 .ret))), [(.cell (.loc 4) true 4)]⟩

/-- glebe/flow.New -/
def c_flow_New : AFn := ⟨9, fun s => List.contains [0, 1, 4] s, (.seq (.reg [⟨(.loc 4), (.h (.mk [(.int .i64 0), (.int .i64 0), (.int .i64 0), (.int .i64 0)])), none⟩])
 (.seq (.reg [⟨(.tmp 5), (.r (.mov (.loc 0))), none⟩,
  ⟨(.tmp 6), (.r (.mov (.loc 1))), none⟩,
  ⟨(.tmp 7), (.r (.bin .add (.tmp 6) (.cst (.int .i64 1)))), none⟩,
  ⟨(.tmp 8), (.r (.build [(.int .i64 0), (.int .i64 0), (.int .i64 0), (.int .i64 0)] [(0, 1, (.tmp 5)), (1, 1, (.tmp 7))])), none⟩,
  ⟨.none, (.h (.store 4 (.loc 4) (.tmp 8))), none⟩])
 .ret)), [(.cell (.loc 4) true 4)]⟩

end Glb
