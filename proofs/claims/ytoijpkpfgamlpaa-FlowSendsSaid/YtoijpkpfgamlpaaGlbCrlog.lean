/-
  What functions of the program are, one by one (the functions that they call as parameters), in a form of which something can be shown.
-/
import Derived.Test.YtoijpkpfgamlpaaGlbFun
set_option linter.unusedSimpArgs false
set_option linter.unusedVariables false
namespace Glb
open Go
set_option maxRecDepth 100000

def c_rlog_Append_l0 (f_rlog_Last : FuncId) (f_rlog_fresh : FuncId) (f_rlog_Term : FuncId) : AC := (.seq (.reg [⟨(.loc 37), (.r (.bin .lss (.loc 36) (.loc 35))), none⟩])
 (.seq (.cond (.loc 37) .skip
 (.exit 0))
 (.seq (.block 1 (.seq (.reg [⟨(.tmp 38), (.r (.mov (.loc 36))), none⟩,
  ⟨(.loc 10), (.r (.mov (.tmp 38))), none⟩])
 (.seq (.reg [⟨(.tmp 39), (.r (.mov (.loc 1))), none⟩,
  ⟨(.tmp 40), (.r (.bin .add (.tmp 39) (.cst (.int .i64 1)))), none⟩,
  ⟨(.tmp 41), (.r (.mov (.loc 10))), none⟩,
  ⟨(.tmp 42), (.r (.bin .add (.tmp 40) (.tmp 41))), none⟩,
  ⟨(.loc 11), (.r (.mov (.tmp 42))), none⟩])
 (.seq (.seq (.reg [⟨(.tmp 44), (.r (.load true 3 (.loc 3))), none⟩,
  ⟨(.tmp 45), (.r (.mov (.loc 11))), none⟩,
  ⟨(.tmp 46), (.call f_rlog_Term [(.tmp 44), (.tmp 45)]), none⟩,
  ⟨(.tmp 43), (.r (.mov (.tmp 46))), none⟩,
  ⟨(.tmp 47), (.r (.ext (.tmp 43) 0)), none⟩,
  ⟨(.tmp 48), (.r (.ext (.tmp 43) 1)), none⟩,
  ⟨(.loc 12), (.r (.mov (.tmp 47))), none⟩,
  ⟨(.loc 13), (.r (.mov (.tmp 48))), none⟩])
 (.seq (.reg [⟨(.tmp 49), (.r (.mov (.loc 13))), none⟩,
  ⟨(.tmp 50), (.r (.mov (.tmp 49))), none⟩,
  ⟨(.tmp 51), (.r (.mov (.loc 12))), (some ((.tmp 50), true))⟩,
  ⟨(.tmp 52), (.r (.mov (.loc 2))), (some ((.tmp 50), true))⟩,
  ⟨(.tmp 53), (.r (.mov (.loc 10))), (some ((.tmp 50), true))⟩,
  ⟨(.tmp 54), (.r (.idx 3 (.tmp 52) (.tmp 53))), (some ((.tmp 50), true))⟩,
  ⟨(.tmp 55), (.r (.off 0 (.tmp 54))), (some ((.tmp 50), true))⟩,
  ⟨(.tmp 56), (.r (.load false 1 (.tmp 55))), (some ((.tmp 50), true))⟩,
  ⟨(.tmp 57), (.r (.bin .eql (.tmp 51) (.tmp 56))), (some ((.tmp 50), true))⟩,
  ⟨(.loc 58), (.r (.pick (.tmp 50) (.tmp 57) (.cst (.bool false)))), none⟩])
 (.cond (.loc 58) (.exit 1)
 .skip)))
 (.seq (.reg [⟨(.tmp 59), (.r (.mov (.loc 11))), none⟩,
  ⟨(.tmp 60), (.r (.off 0 (.loc 3))), none⟩,
  ⟨(.tmp 61), (.r (.load false 1 (.tmp 60))), none⟩,
  ⟨(.tmp 62), (.r (.bin .sub (.tmp 59) (.tmp 61))), none⟩,
  ⟨(.tmp 63), (.r (.bin .sub (.tmp 62) (.cst (.int .i64 1)))), none⟩,
  ⟨(.loc 14), (.r (.mov (.tmp 63))), none⟩])
 (.seq (.dreg ⟨[0, 1, 0, 0, 15, 0, 0, 96, 224, 511, 1023, 2047], 0, [⟨0, 0, false, (.r (.off 2 (.loc 3))), none⟩,
  ⟨1, 0, false, (.r (.load false 1 (.tmp 0))), none⟩,
  ⟨2, 0, false, (.r (.mov (.loc 14))), none⟩,
  ⟨3, 0, false, (.r (.mov (.loc 14))), none⟩,
  ⟨4, 0, false, (.r (.slc 3 (.tmp 1) none (some (.tmp 2)) (some (.tmp 3)))), none⟩,
  ⟨5, 0, false, (.r (.mov (.loc 2))), none⟩,
  ⟨6, 0, false, (.r (.mov (.loc 10))), none⟩,
  ⟨7, 0, false, (.r (.slc 3 (.tmp 5) (some (.tmp 6)) none none)), none⟩,
  ⟨8, 0, true, (.call f_rlog_fresh [(.tmp 7)]), none⟩,
  ⟨9, 0, true, (.h (.app 3 40 (.tmp 4) (.tmp 8))), none⟩,
  ⟨10, 0, false, (.r (.off 2 (.loc 3))), none⟩,
  ⟨11, 0, true, (.h (.store 1 (.tmp 10) (.tmp 9))), none⟩], []⟩)
 (.seq (.reg [⟨(.tmp 75), (.r (.load true 3 (.loc 3))), none⟩,
  ⟨(.tmp 76), (.r (.mov (.loc 11))), none⟩,
  ⟨.none, (.h (.store 3 (.loc 6) (.tmp 75))), none⟩,
  ⟨(.loc 7), (.r (.mov (.tmp 76))), none⟩])
 .ret)))))))
 (.reg [⟨(.tmp 77), (.r (.bin .add (.loc 36) (.cst (.int .i64 1)))), none⟩,
  ⟨(.loc 36), (.r (.mov (.tmp 77))), none⟩]))))
/-- glebe/rlog.Append -/
def c_rlog_Append (f_rlog_Last : FuncId) (f_rlog_fresh : FuncId) (f_rlog_Term : FuncId) : AFn := ⟨79, fun s => List.contains [0, 1, 2, 3, 6, 7, 8, 10, 11, 12, 13, 14, 32, 35, 36, 37, 58] s, (.seq (.reg [⟨(.loc 3), (.h (.box (.loc 0))), none⟩,
  ⟨(.loc 6), (.h (.mk [(.int .i64 0), (.int .i64 0), .nils])), none⟩,
  ⟨(.loc 7), (.r (.mov (.cst (.int .i64 0)))), none⟩])
 (.seq (.reg [⟨(.tmp 16), (.r (.load true 3 (.loc 3))), none⟩,
  ⟨(.tmp 17), (.call f_rlog_Last [(.tmp 16)]), none⟩,
  ⟨(.tmp 15), (.r (.mov (.tmp 17))), none⟩,
  ⟨(.tmp 18), (.r (.ext (.tmp 15) 0)), none⟩,
  ⟨(.tmp 19), (.r (.ext (.tmp 15) 1)), none⟩,
  ⟨(.loc 8), (.r (.mov (.tmp 18))), none⟩,
  ⟨(.tmp 9), (.r (.mov (.tmp 19))), none⟩])
 (.seq (.reg [⟨(.tmp 20), (.r (.off 2 (.loc 3))), none⟩,
  ⟨(.tmp 21), (.r (.load false 1 (.tmp 20))), none⟩,
  ⟨(.tmp 22), (.call f_rlog_fresh [(.tmp 21)]), none⟩,
  ⟨(.tmp 23), (.r (.off 2 (.loc 3))), none⟩,
  ⟨.none, (.h (.store 1 (.tmp 23) (.tmp 22))), none⟩])
 (.seq (.seq (.reg [⟨(.tmp 24), (.r (.mov (.loc 1))), none⟩,
  ⟨(.tmp 25), (.r (.off 0 (.loc 3))), none⟩,
  ⟨(.tmp 26), (.r (.load false 1 (.tmp 25))), none⟩,
  ⟨(.tmp 27), (.r (.bin .lss (.tmp 24) (.tmp 26))), none⟩,
  ⟨(.tmp 28), (.r (.mov (.tmp 27))), none⟩,
  ⟨(.tmp 29), (.r (.mov (.loc 1))), (some ((.tmp 28), false))⟩,
  ⟨(.tmp 30), (.r (.mov (.loc 8))), (some ((.tmp 28), false))⟩,
  ⟨(.tmp 31), (.r (.bin .gtr (.tmp 29) (.tmp 30))), (some ((.tmp 28), false))⟩,
  ⟨(.loc 32), (.r (.pick (.tmp 28) (.cst (.bool true)) (.tmp 31))), none⟩])
 (.cond (.loc 32) (.seq (.reg [⟨(.tmp 33), (.r (.load true 3 (.loc 3))), none⟩,
  ⟨.none, (.h (.store 3 (.loc 6) (.tmp 33))), none⟩,
  ⟨(.loc 7), (.r (.mov (.cst (.int .i64 0)))), none⟩])
 .ret)
 .skip))
 (.seq (.seq (.reg [⟨(.tmp 34), (.r (.mov (.loc 2))), none⟩,
  ⟨(.loc 35), (.r (.len (.tmp 34))), none⟩,
  ⟨(.loc 36), (.r (.mov (.cst (.int .i64 0)))), none⟩])
 (.block 0 (.loop (c_rlog_Append_l0 f_rlog_Last f_rlog_fresh f_rlog_Term))))
 (.seq (.reg [⟨(.tmp 78), (.r (.load true 3 (.loc 3))), none⟩,
  ⟨.none, (.h (.store 3 (.loc 6) (.tmp 78))), none⟩,
  ⟨(.loc 7), (.r (.mov (.cst (.int .i64 0)))), none⟩])
 .ret)))))), [(.cell (.loc 6) true 3), (.tmp (.loc 7))]⟩

/-- glebe/rlog.Last -/
def c_rlog_Last : AFn := ⟨25, fun s => List.contains [0, 1, 2, 3, 4, 9] s, (.seq (.reg [⟨(.loc 1), (.h (.box (.loc 0))), none⟩,
  ⟨(.loc 2), (.r (.mov (.cst (.int .i64 0)))), none⟩,
  ⟨(.loc 3), (.r (.mov (.cst (.int .i64 0)))), none⟩])
 (.seq (.seq (.reg [⟨(.tmp 5), (.r (.off 2 (.loc 1))), none⟩,
  ⟨(.tmp 6), (.r (.load false 1 (.tmp 5))), none⟩,
  ⟨(.tmp 7), (.r (.len (.tmp 6))), none⟩,
  ⟨(.loc 4), (.r (.mov (.tmp 7))), none⟩])
 (.seq (.reg [⟨(.tmp 8), (.r (.mov (.loc 4))), none⟩,
  ⟨(.loc 9), (.r (.bin .gtr (.tmp 8) (.cst (.int .i64 0)))), none⟩])
 (.cond (.loc 9) (.seq (.dreg ⟨[0, 1, 0, 7, 0, 16, 0, 64, 240, 496, 1008, 15, 4095], 0, [⟨0, 0, false, (.r (.off 0 (.loc 1))), none⟩,
  ⟨1, 0, false, (.r (.load false 1 (.tmp 0))), none⟩,
  ⟨2, 0, false, (.r (.mov (.loc 4))), none⟩,
  ⟨3, 0, false, (.r (.bin .add (.tmp 1) (.tmp 2))), none⟩,
  ⟨4, 0, false, (.r (.off 2 (.loc 1))), none⟩,
  ⟨5, 0, false, (.r (.load false 1 (.tmp 4))), none⟩,
  ⟨6, 0, false, (.r (.mov (.loc 4))), none⟩,
  ⟨7, 0, false, (.r (.bin .sub (.tmp 6) (.cst (.int .i64 1)))), none⟩,
  ⟨8, 0, false, (.r (.idx 3 (.tmp 5) (.tmp 7))), none⟩,
  ⟨9, 0, false, (.r (.off 0 (.tmp 8))), none⟩,
  ⟨10, 0, false, (.r (.load false 1 (.tmp 9))), none⟩,
  ⟨11, 0, false, (.r (.mov (.tmp 3))), none⟩,
  ⟨12, 0, false, (.r (.mov (.tmp 10))), none⟩], [(2, 11), (3, 12)]⟩)
 .ret)
 .skip)))
 (.seq (.dreg ⟨[0, 1, 0, 4, 3, 31], 0, [⟨0, 0, false, (.r (.off 0 (.loc 1))), none⟩,
  ⟨1, 0, false, (.r (.load false 1 (.tmp 0))), none⟩,
  ⟨2, 0, false, (.r (.off 1 (.loc 1))), none⟩,
  ⟨3, 0, false, (.r (.load false 1 (.tmp 2))), none⟩,
  ⟨4, 0, false, (.r (.mov (.tmp 1))), none⟩,
  ⟨5, 0, false, (.r (.mov (.tmp 3))), none⟩], [(2, 4), (3, 5)]⟩)
 .ret))), [(.tmp (.loc 2)), (.tmp (.loc 3))]⟩

/-- glebe/rlog.Term -/
def c_rlog_Term (f_rlog_Last : FuncId) : AFn := ⟨38, fun s => List.contains [0, 1, 2, 4, 5, 6, 13, 21] s, (.seq (.reg [⟨(.loc 2), (.h (.box (.loc 0))), none⟩,
  ⟨(.loc 4), (.r (.mov (.cst (.int .i64 0)))), none⟩,
  ⟨(.loc 5), (.r (.mov (.cst (.bool false)))), none⟩])
 (.seq (.reg [⟨(.tmp 9), (.r (.load true 3 (.loc 2))), none⟩,
  ⟨(.tmp 10), (.call f_rlog_Last [(.tmp 9)]), none⟩,
  ⟨(.tmp 8), (.r (.mov (.tmp 10))), none⟩,
  ⟨(.tmp 11), (.r (.ext (.tmp 8) 0)), none⟩,
  ⟨(.tmp 12), (.r (.ext (.tmp 8) 1)), none⟩,
  ⟨(.loc 6), (.r (.mov (.tmp 11))), none⟩,
  ⟨(.tmp 7), (.r (.mov (.tmp 12))), none⟩])
 (.seq (.block 0 (.seq (.seq (.reg [⟨(.tmp 14), (.r (.mov (.loc 1))), none⟩,
  ⟨(.tmp 15), (.r (.off 0 (.loc 2))), none⟩,
  ⟨(.tmp 16), (.r (.load false 1 (.tmp 15))), none⟩,
  ⟨(.tmp 17), (.r (.bin .lss (.tmp 14) (.tmp 16))), none⟩,
  ⟨(.loc 13), (.r (.mov (.tmp 17))), none⟩])
 (.cond (.loc 13) .skip
 (.reg [⟨(.tmp 18), (.r (.mov (.loc 1))), none⟩,
  ⟨(.tmp 19), (.r (.mov (.loc 6))), none⟩,
  ⟨(.tmp 20), (.r (.bin .gtr (.tmp 18) (.tmp 19))), none⟩,
  ⟨(.loc 13), (.r (.mov (.tmp 20))), none⟩])))
 (.cond (.loc 13) (.seq (.reg [⟨(.loc 4), (.r (.mov (.cst (.int .i64 0)))), none⟩,
  ⟨(.loc 5), (.r (.mov (.cst (.bool false)))), none⟩])
 .ret)
 (.seq (.reg [⟨(.tmp 22), (.r (.mov (.loc 1))), none⟩,
  ⟨(.tmp 23), (.r (.off 0 (.loc 2))), none⟩,
  ⟨(.tmp 24), (.r (.load false 1 (.tmp 23))), none⟩,
  ⟨(.tmp 25), (.r (.bin .eql (.tmp 22) (.tmp 24))), none⟩,
  ⟨(.loc 21), (.r (.mov (.tmp 25))), none⟩])
 (.cond (.loc 21) (.seq (.reg [⟨(.tmp 26), (.r (.off 1 (.loc 2))), none⟩,
  ⟨(.tmp 27), (.r (.load false 1 (.tmp 26))), none⟩,
  ⟨(.loc 4), (.r (.mov (.tmp 27))), none⟩,
  ⟨(.loc 5), (.r (.mov (.cst (.bool true)))), none⟩])
 .ret)
 .skip)))))
 (.seq (.reg [⟨(.tmp 28), (.r (.off 2 (.loc 2))), none⟩,
  ⟨(.tmp 29), (.r (.load false 1 (.tmp 28))), none⟩,
  ⟨(.tmp 30), (.r (.mov (.loc 1))), none⟩,
  ⟨(.tmp 31), (.r (.off 0 (.loc 2))), none⟩,
  ⟨(.tmp 32), (.r (.load false 1 (.tmp 31))), none⟩,
  ⟨(.tmp 33), (.r (.bin .sub (.tmp 30) (.tmp 32))), none⟩,
  ⟨(.tmp 34), (.r (.bin .sub (.tmp 33) (.cst (.int .i64 1)))), none⟩,
  ⟨(.tmp 35), (.r (.idx 3 (.tmp 29) (.tmp 34))), none⟩,
  ⟨(.tmp 36), (.r (.off 0 (.tmp 35))), none⟩,
  ⟨(.tmp 37), (.r (.load false 1 (.tmp 36))), none⟩,
  ⟨(.loc 4), (.r (.mov (.tmp 37))), none⟩,
  ⟨(.loc 5), (.r (.mov (.cst (.bool true)))), none⟩])
 .ret)))), [(.tmp (.loc 4)), (.tmp (.loc 5))]⟩

/-- glebe/rlog.Cut -/
def c_rlog_Cut (f_rlog_Term : FuncId) (f_rlog_fresh : FuncId) : AFn := ⟨28, fun s => List.contains [0, 1, 2, 4, 5, 6, 7, 15] s, (.seq (.reg [⟨(.loc 2), (.h (.box (.loc 0))), none⟩,
  ⟨(.loc 4), (.h (.mk [(.int .i64 0), (.int .i64 0), .nils])), none⟩,
  ⟨(.loc 5), (.r (.mov (.cst (.int .i64 0)))), none⟩])
 (.seq (.reg [⟨(.tmp 9), (.r (.load true 3 (.loc 2))), none⟩,
  ⟨(.tmp 10), (.r (.mov (.loc 1))), none⟩,
  ⟨(.tmp 11), (.call f_rlog_Term [(.tmp 9), (.tmp 10)]), none⟩,
  ⟨(.tmp 8), (.r (.mov (.tmp 11))), none⟩,
  ⟨(.tmp 12), (.r (.ext (.tmp 8) 0)), none⟩,
  ⟨(.tmp 13), (.r (.ext (.tmp 8) 1)), none⟩,
  ⟨(.loc 6), (.r (.mov (.tmp 12))), none⟩,
  ⟨(.loc 7), (.r (.mov (.tmp 13))), none⟩])
 (.seq (.seq (.reg [⟨(.tmp 14), (.r (.mov (.loc 7))), none⟩,
  ⟨(.loc 15), (.r (.not (.tmp 14))), none⟩])
 (.cond (.loc 15) (.seq (.reg [⟨(.tmp 16), (.r (.build [(.int .i64 0), (.int .i64 0), .nils] [])), none⟩,
  ⟨.none, (.h (.store 3 (.loc 4) (.tmp 16))), none⟩,
  ⟨(.loc 5), (.r (.mov (.cst (.int .i64 3)))), none⟩])
 .ret)
 .skip))
 (.seq (.reg [⟨(.tmp 17), (.r (.mov (.loc 1))), none⟩,
  ⟨(.tmp 18), (.r (.mov (.loc 6))), none⟩,
  ⟨(.tmp 19), (.r (.off 2 (.loc 2))), none⟩,
  ⟨(.tmp 20), (.r (.load false 1 (.tmp 19))), none⟩,
  ⟨(.tmp 21), (.r (.mov (.loc 1))), none⟩,
  ⟨(.tmp 22), (.r (.off 0 (.loc 2))), none⟩,
  ⟨(.tmp 23), (.r (.load false 1 (.tmp 22))), none⟩,
  ⟨(.tmp 24), (.r (.bin .sub (.tmp 21) (.tmp 23))), none⟩,
  ⟨(.tmp 25), (.r (.slc 3 (.tmp 20) (some (.tmp 24)) none none)), none⟩,
  ⟨(.tmp 26), (.call f_rlog_fresh [(.tmp 25)]), none⟩,
  ⟨(.tmp 27), (.r (.build [(.int .i64 0), (.int .i64 0), .nils] [(0, 1, (.tmp 17)), (1, 1, (.tmp 18)), (2, 1, (.tmp 26))])), none⟩,
  ⟨.none, (.h (.store 3 (.loc 4) (.tmp 27))), none⟩,
  ⟨(.loc 5), (.r (.mov (.cst (.int .i64 0)))), none⟩])
 .ret)))), [(.cell (.loc 4) true 3), (.tmp (.loc 5))]⟩

/-- glebe/rlog.Newer -/
def c_rlog_Newer (f_rlog_Last : FuncId) : AFn := ⟨23, fun s => List.contains [0, 1, 2, 3, 6, 7, 8, 16] s, (.seq (.reg [⟨(.loc 3), (.h (.box (.loc 0))), none⟩,
  ⟨(.loc 6), (.r (.mov (.cst (.bool false)))), none⟩])
 (.seq (.reg [⟨(.tmp 10), (.r (.load true 3 (.loc 3))), none⟩,
  ⟨(.tmp 11), (.call f_rlog_Last [(.tmp 10)]), none⟩,
  ⟨(.tmp 9), (.r (.mov (.tmp 11))), none⟩,
  ⟨(.tmp 12), (.r (.ext (.tmp 9) 0)), none⟩,
  ⟨(.tmp 13), (.r (.ext (.tmp 9) 1)), none⟩,
  ⟨(.loc 7), (.r (.mov (.tmp 12))), none⟩,
  ⟨(.loc 8), (.r (.mov (.tmp 13))), none⟩])
 (.seq (.seq (.reg [⟨(.tmp 14), (.r (.mov (.loc 2))), none⟩,
  ⟨(.tmp 15), (.r (.mov (.loc 8))), none⟩,
  ⟨(.loc 16), (.r (.bin .neq (.tmp 14) (.tmp 15))), none⟩])
 (.cond (.loc 16) (.seq (.reg [⟨(.tmp 17), (.r (.mov (.loc 2))), none⟩,
  ⟨(.tmp 18), (.r (.mov (.loc 8))), none⟩,
  ⟨(.tmp 19), (.r (.bin .gtr (.tmp 17) (.tmp 18))), none⟩,
  ⟨(.loc 6), (.r (.mov (.tmp 19))), none⟩])
 .ret)
 .skip))
 (.seq (.reg [⟨(.tmp 20), (.r (.mov (.loc 1))), none⟩,
  ⟨(.tmp 21), (.r (.mov (.loc 7))), none⟩,
  ⟨(.tmp 22), (.r (.bin .geq (.tmp 20) (.tmp 21))), none⟩,
  ⟨(.loc 6), (.r (.mov (.tmp 22))), none⟩])
 .ret)))), [(.tmp (.loc 6))]⟩

/-- glebe/rlog.Slice -/
def c_rlog_Slice (f_rlog_Last : FuncId) (f_rlog_fresh : FuncId) : AFn := ⟨43, fun s => List.contains [0, 1, 2, 3, 6, 7, 9, 27] s, (.seq (.reg [⟨(.loc 3), (.h (.box (.loc 0))), none⟩,
  ⟨(.loc 6), (.r (.mov (.cst .nils))), none⟩])
 (.seq (.reg [⟨(.tmp 11), (.r (.load true 3 (.loc 3))), none⟩,
  ⟨(.tmp 12), (.call f_rlog_Last [(.tmp 11)]), none⟩,
  ⟨(.tmp 10), (.r (.mov (.tmp 12))), none⟩,
  ⟨(.tmp 13), (.r (.ext (.tmp 10) 0)), none⟩,
  ⟨(.tmp 14), (.r (.ext (.tmp 10) 1)), none⟩,
  ⟨(.loc 7), (.r (.mov (.tmp 13))), none⟩,
  ⟨(.tmp 8), (.r (.mov (.tmp 14))), none⟩])
 (.seq (.seq (.reg [⟨(.tmp 15), (.r (.mov (.loc 1))), none⟩,
  ⟨(.tmp 16), (.r (.off 0 (.loc 3))), none⟩,
  ⟨(.tmp 17), (.r (.load false 1 (.tmp 16))), none⟩,
  ⟨(.tmp 18), (.r (.bin .leq (.tmp 15) (.tmp 17))), none⟩,
  ⟨(.tmp 19), (.r (.mov (.tmp 18))), none⟩,
  ⟨(.tmp 20), (.r (.mov (.loc 1))), (some ((.tmp 19), false))⟩,
  ⟨(.tmp 21), (.r (.mov (.loc 7))), (some ((.tmp 19), false))⟩,
  ⟨(.tmp 22), (.r (.bin .gtr (.tmp 20) (.tmp 21))), (some ((.tmp 19), false))⟩,
  ⟨(.tmp 23), (.r (.pick (.tmp 19) (.cst (.bool true)) (.tmp 22))), none⟩,
  ⟨(.tmp 24), (.r (.mov (.tmp 23))), none⟩,
  ⟨(.tmp 25), (.r (.mov (.loc 2))), (some ((.tmp 24), false))⟩,
  ⟨(.tmp 26), (.r (.bin .lss (.tmp 25) (.cst (.int .i64 1)))), (some ((.tmp 24), false))⟩,
  ⟨(.loc 27), (.r (.pick (.tmp 24) (.cst (.bool true)) (.tmp 26))), none⟩])
 (.cond (.loc 27) (.seq (.reg [⟨(.loc 6), (.r (.mov (.cst .nils))), none⟩])
 .ret)
 .skip))
 (.seq (.reg [⟨(.tmp 28), (.r (.off 2 (.loc 3))), none⟩,
  ⟨(.tmp 29), (.r (.load false 1 (.tmp 28))), none⟩,
  ⟨(.tmp 30), (.r (.mov (.loc 1))), none⟩,
  ⟨(.tmp 31), (.r (.off 0 (.loc 3))), none⟩,
  ⟨(.tmp 32), (.r (.load false 1 (.tmp 31))), none⟩,
  ⟨(.tmp 33), (.r (.bin .sub (.tmp 30) (.tmp 32))), none⟩,
  ⟨(.tmp 34), (.r (.bin .sub (.tmp 33) (.cst (.int .i64 1)))), none⟩,
  ⟨(.tmp 35), (.r (.slc 3 (.tmp 29) (some (.tmp 34)) none none)), none⟩,
  ⟨(.loc 9), (.r (.mov (.tmp 35))), none⟩])
 (.seq (.reg [⟨(.tmp 36), (.r (.mov (.loc 9))), none⟩,
  ⟨(.tmp 37), (.r (.mov (.loc 2))), none⟩,
  ⟨(.tmp 38), (.r (.mov (.loc 9))), none⟩,
  ⟨(.tmp 39), (.r (.len (.tmp 38))), none⟩,
  ⟨(.tmp 40), (.r (.mnmx false [(.tmp 37), (.tmp 39)])), none⟩,
  ⟨(.tmp 41), (.r (.slc 3 (.tmp 36) none (some (.tmp 40)) none)), none⟩,
  ⟨(.tmp 42), (.call f_rlog_fresh [(.tmp 41)]), none⟩,
  ⟨(.loc 6), (.r (.mov (.tmp 42))), none⟩])
 .ret))))), [(.tmp (.loc 6))]⟩

def c_rlog_fresh_l0 : AC := (.seq (.reg [⟨(.loc 9), (.r (.bin .lss (.loc 8) (.loc 7))), none⟩])
 (.seq (.cond (.loc 9) .skip
 (.exit 0))
 (.seq (.block 1 (.seq (.reg [⟨(.tmp 10), (.r (.idx 3 (.loc 6) (.loc 8))), none⟩,
  ⟨(.tmp 11), (.r (.load true 3 (.tmp 10))), none⟩,
  ⟨(.loc 5), (.h (.mk [(.int .i64 0), (.int .i64 0), .nils])), none⟩,
  ⟨.none, (.h (.store 3 (.loc 5) (.tmp 11))), none⟩])
 (.seq (.reg [⟨(.tmp 12), (.h (.bsl 1 [])), none⟩,
  ⟨(.tmp 13), (.r (.off 2 (.loc 5))), none⟩,
  ⟨(.tmp 14), (.r (.load false 1 (.tmp 13))), none⟩,
  ⟨(.tmp 15), (.h (.app 1 1 (.tmp 12) (.tmp 14))), none⟩,
  ⟨(.tmp 16), (.r (.off 2 (.loc 5))), none⟩,
  ⟨.none, (.h (.store 1 (.tmp 16) (.tmp 15))), none⟩])
 (.reg [⟨(.tmp 17), (.r (.mov (.loc 3))), none⟩,
  ⟨(.tmp 18), (.r (.load true 3 (.loc 5))), none⟩,
  ⟨(.tmp 19), (.h (.bsl 3 [(.tmp 18)])), none⟩,
  ⟨(.tmp 20), (.h (.app 3 40 (.tmp 17) (.tmp 19))), none⟩,
  ⟨(.loc 3), (.r (.mov (.tmp 20))), none⟩]))))
 (.reg [⟨(.tmp 21), (.r (.bin .add (.loc 8) (.cst (.int .i64 1)))), none⟩,
  ⟨(.loc 8), (.r (.mov (.tmp 21))), none⟩]))))
/-- glebe/rlog.fresh -/
def c_rlog_fresh : AFn := ⟨23, fun s => List.contains [0, 2, 3, 5, 6, 7, 8, 9] s, (.seq (.reg [⟨(.loc 2), (.r (.mov (.cst .nils))), none⟩])
 (.seq (.reg [⟨(.loc 3), (.r (.mov (.cst .nils))), none⟩])
 (.seq (.seq (.reg [⟨(.loc 6), (.r (.mov (.loc 0))), none⟩,
  ⟨(.loc 7), (.r (.len (.loc 6))), none⟩,
  ⟨(.loc 8), (.r (.mov (.cst (.int .i64 0)))), none⟩])
 (.block 0 (.loop (c_rlog_fresh_l0))))
 (.seq (.reg [⟨(.tmp 22), (.r (.mov (.loc 3))), none⟩,
  ⟨(.loc 2), (.r (.mov (.tmp 22))), none⟩])
 .ret)))), [(.tmp (.loc 2))]⟩

end Glb
