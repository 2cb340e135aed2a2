/-
  What functions of the program are, one by one (the functions that they call as parameters), in a form of which something can be shown.
-/
import Derived.Test.YtodbhmdfmdfiaaaGreatGlbLibB
set_option linter.unusedSimpArgs false
set_option linter.unusedVariables false
namespace Glb
open Go
set_option maxRecDepth 100000

def c_gleberef10_Check_l0 (f0 f1 : FuncId) : AC := (.seq (.seq (.reg [⟨.tmp 26, .r (.mov (.loc 3)), none⟩,
 ⟨.tmp 27, .r (.off 2 (.loc 1)), none⟩,
 ⟨.tmp 28, .r (.load false 1 (.tmp 27)), none⟩,
 ⟨.tmp 29, .r (.len (.tmp 28)), none⟩,
 ⟨.loc 30, .r (.bin .lss (.tmp 26) (.tmp 29)), none⟩])
 (.cond (.loc 30) .skip
 (.exit 0)))
 (.seq (.block 1 (.seq (.dreg ⟨[0, 1, 0, 4, 0, 28, 60, 127, 255, 511, 1023, 511, 2559, 511, 14847, 31231, 65535, 131071], 0, [⟨0, 0, false, .r (.off 0 (.loc 1)), none⟩,
 ⟨1, 0, false, .r (.load false 1 (.tmp 0)), none⟩,
 ⟨2, 0, false, .r (.off 2 (.loc 1)), none⟩,
 ⟨3, 0, false, .r (.load false 1 (.tmp 2)), none⟩,
 ⟨4, 0, false, .r (.mov (.loc 3)), none⟩,
 ⟨5, 0, false, .r (.idx 1 (.tmp 3) (.tmp 4)), none⟩,
 ⟨6, 0, false, .r (.load false 1 (.tmp 5)), none⟩,
 ⟨7, 0, true, .call f1 [.tmp 1, .tmp 6], none⟩,
 ⟨8, 0, false, .r (.mov (.tmp 7)), none⟩,
 ⟨9, 0, false, .r (.off 1 (.loc 1)), some (.tmp 8, false)⟩,
 ⟨10, 0, false, .r (.load false 1 (.tmp 9)), some (.tmp 8, false)⟩,
 ⟨11, 0, false, .r (.off 2 (.loc 1)), some (.tmp 8, false)⟩,
 ⟨12, 0, false, .r (.load false 1 (.tmp 11)), some (.tmp 8, false)⟩,
 ⟨13, 0, false, .r (.mov (.loc 3)), some (.tmp 8, false)⟩,
 ⟨14, 0, false, .r (.idx 1 (.tmp 12) (.tmp 13)), some (.tmp 8, false)⟩,
 ⟨15, 0, false, .r (.load false 1 (.tmp 14)), some (.tmp 8, false)⟩,
 ⟨16, 0, true, .call f1 [.tmp 10, .tmp 15], some (.tmp 8, false)⟩,
 ⟨17, 0, false, .r (.pick (.tmp 8) (.cst (.bool true)) (.tmp 16)), none⟩], [(50, 17)]⟩)
 (.cond (.loc 50) (.seq (.reg [⟨.loc 2, .r (.mov (.cst (.int .i64 29))), none⟩])
 .ret)
 .skip)))
 (.reg [⟨.tmp 31, .r (.mov (.loc 3)), none⟩,
 ⟨.tmp 32, .r (.bin .add (.tmp 31) (.cst (.int .i64 1))), none⟩,
 ⟨.loc 3, .r (.mov (.tmp 32)), none⟩])))
/-- glebe/gleberef10.Check -/
def c_gleberef10_Check (f0 f1 : FuncId) : AFn := ⟨51, fun s => List.contains [0, 1, 2, 3, 25, 30, 50] s, (.seq (.reg [⟨.loc 1, .h (.box (.loc 0)), none⟩,
 ⟨.loc 2, .r (.mov (.cst (.int .i64 0))), none⟩])
 (.seq (.seq (.reg [⟨.tmp 4, .r (.off 0 (.loc 1)), none⟩,
 ⟨.tmp 5, .r (.load false 1 (.tmp 4)), none⟩,
 ⟨.tmp 6, .r (.len (.tmp 5)), none⟩,
 ⟨.tmp 7, .r (.bin .eql (.tmp 6) (.cst (.int .i64 0))), none⟩,
 ⟨.tmp 8, .r (.mov (.tmp 7)), none⟩,
 ⟨.tmp 9, .r (.off 0 (.loc 1)), some (.tmp 8, false)⟩,
 ⟨.tmp 10, .r (.load false 1 (.tmp 9)), some (.tmp 8, false)⟩,
 ⟨.tmp 11, .call f0 [.tmp 10], some (.tmp 8, false)⟩,
 ⟨.tmp 12, .r (.not (.tmp 11)), some (.tmp 8, false)⟩,
 ⟨.tmp 13, .r (.pick (.tmp 8) (.cst (.bool true)) (.tmp 12)), none⟩,
 ⟨.tmp 14, .r (.mov (.tmp 13)), none⟩,
 ⟨.tmp 15, .r (.off 1 (.loc 1)), some (.tmp 14, false)⟩,
 ⟨.tmp 16, .r (.load false 1 (.tmp 15)), some (.tmp 14, false)⟩,
 ⟨.tmp 17, .call f0 [.tmp 16], some (.tmp 14, false)⟩,
 ⟨.tmp 18, .r (.not (.tmp 17)), some (.tmp 14, false)⟩,
 ⟨.tmp 19, .r (.pick (.tmp 14) (.cst (.bool true)) (.tmp 18)), none⟩,
 ⟨.tmp 20, .r (.mov (.tmp 19)), none⟩,
 ⟨.tmp 21, .r (.off 2 (.loc 1)), some (.tmp 20, false)⟩,
 ⟨.tmp 22, .r (.load false 1 (.tmp 21)), some (.tmp 20, false)⟩,
 ⟨.tmp 23, .call f0 [.tmp 22], some (.tmp 20, false)⟩,
 ⟨.tmp 24, .r (.not (.tmp 23)), some (.tmp 20, false)⟩,
 ⟨.loc 25, .r (.pick (.tmp 20) (.cst (.bool true)) (.tmp 24)), none⟩])
 (.cond (.loc 25) (.seq (.reg [⟨.loc 2, .r (.mov (.cst (.int .i64 29))), none⟩])
 .ret)
 .skip))
 (.seq (.seq (.reg [⟨.loc 3, .r (.mov (.cst (.int .i64 0))), none⟩])
 (.block 0 (.loop (c_gleberef10_Check_l0 f0 f1))))
 (.seq (.reg [⟨.loc 2, .r (.mov (.cst (.int .i64 0))), none⟩])
 .ret)))), [(.tmp (.loc 2))]⟩

def c_gleberef10_rising_l0 : AC := (.seq (.seq (.reg [⟨.tmp 4, .r (.mov (.loc 3)), none⟩,
 ⟨.tmp 5, .r (.mov (.loc 0)), none⟩,
 ⟨.tmp 6, .r (.len (.tmp 5)), none⟩,
 ⟨.loc 7, .r (.bin .lss (.tmp 4) (.tmp 6)), none⟩])
 (.cond (.loc 7) .skip
 (.exit 0)))
 (.seq (.block 1 (.seq (.seq (.reg [⟨.tmp 10, .r (.mov (.loc 0)), none⟩,
 ⟨.tmp 11, .r (.mov (.loc 3)), none⟩,
 ⟨.tmp 12, .r (.idx 1 (.tmp 10) (.tmp 11)), none⟩,
 ⟨.tmp 13, .r (.load false 1 (.tmp 12)), none⟩,
 ⟨.tmp 14, .r (.bin .lss (.tmp 13) (.cst (.int .i64 1))), none⟩,
 ⟨.tmp 15, .r (.mov (.tmp 14)), none⟩,
 ⟨.tmp 16, .r (.mov (.loc 0)), some (.tmp 15, false)⟩,
 ⟨.tmp 17, .r (.mov (.loc 3)), some (.tmp 15, false)⟩,
 ⟨.tmp 18, .r (.idx 1 (.tmp 16) (.tmp 17)), some (.tmp 15, false)⟩,
 ⟨.tmp 19, .r (.load false 1 (.tmp 18)), some (.tmp 15, false)⟩,
 ⟨.tmp 20, .r (.bin .gtr (.tmp 19) (.cst (.int .i64 7))), some (.tmp 15, false)⟩,
 ⟨.loc 21, .r (.pick (.tmp 15) (.cst (.bool true)) (.tmp 20)), none⟩])
 (.cond (.loc 21) (.seq (.reg [⟨.loc 2, .r (.mov (.cst (.bool false))), none⟩])
 .ret)
 .skip))
 (.seq (.dreg ⟨[0, 1, 3, 7, 7, 31, 63, 7, 7, 263, 903, 1927, 4095, 8191], 0, [⟨0, 0, false, .r (.mov (.loc 3)), none⟩,
 ⟨1, 0, false, .r (.bin .gtr (.tmp 0) (.cst (.int .i64 0))), none⟩,
 ⟨2, 0, false, .r (.mov (.tmp 1)), none⟩,
 ⟨3, 0, false, .r (.mov (.loc 0)), some (.tmp 2, true)⟩,
 ⟨4, 0, false, .r (.mov (.loc 3)), some (.tmp 2, true)⟩,
 ⟨5, 0, false, .r (.idx 1 (.tmp 3) (.tmp 4)), some (.tmp 2, true)⟩,
 ⟨6, 0, false, .r (.load false 1 (.tmp 5)), some (.tmp 2, true)⟩,
 ⟨7, 0, false, .r (.mov (.loc 0)), some (.tmp 2, true)⟩,
 ⟨8, 0, false, .r (.mov (.loc 3)), some (.tmp 2, true)⟩,
 ⟨9, 0, false, .r (.bin .sub (.tmp 8) (.cst (.int .i64 1))), some (.tmp 2, true)⟩,
 ⟨10, 0, false, .r (.idx 1 (.tmp 7) (.tmp 9)), some (.tmp 2, true)⟩,
 ⟨11, 0, false, .r (.load false 1 (.tmp 10)), some (.tmp 2, true)⟩,
 ⟨12, 0, false, .r (.bin .leq (.tmp 6) (.tmp 11)), some (.tmp 2, true)⟩,
 ⟨13, 0, false, .r (.pick (.tmp 2) (.tmp 12) (.cst (.bool false))), none⟩], [(35, 13)]⟩)
 (.cond (.loc 35) (.seq (.reg [⟨.loc 2, .r (.mov (.cst (.bool false))), none⟩])
 .ret)
 .skip))))
 (.reg [⟨.tmp 8, .r (.mov (.loc 3)), none⟩,
 ⟨.tmp 9, .r (.bin .add (.tmp 8) (.cst (.int .i64 1))), none⟩,
 ⟨.loc 3, .r (.mov (.tmp 9)), none⟩])))
/-- glebe/gleberef10.rising -/
def c_gleberef10_rising : AFn := ⟨36, fun s => List.contains [0, 2, 3, 7, 21, 35] s, (.seq (.reg [⟨.loc 2, .r (.mov (.cst (.bool false))), none⟩])
 (.seq (.seq (.reg [⟨.loc 3, .r (.mov (.cst (.int .i64 0))), none⟩])
 (.block 0 (.loop (c_gleberef10_rising_l0))))
 (.seq (.reg [⟨.loc 2, .r (.mov (.cst (.bool true))), none⟩])
 .ret))), [(.tmp (.loc 2))]⟩

def c_gleberef10_In_l0 : AC := (.seq (.seq (.reg [⟨.tmp 6, .r (.mov (.loc 5)), none⟩,
 ⟨.tmp 7, .r (.mov (.loc 0)), none⟩,
 ⟨.tmp 8, .r (.len (.tmp 7)), none⟩,
 ⟨.loc 9, .r (.bin .lss (.tmp 6) (.tmp 8)), none⟩])
 (.cond (.loc 9) .skip
 (.exit 0)))
 (.seq (.block 1 (.seq (.reg [⟨.tmp 12, .r (.mov (.loc 0)), none⟩,
 ⟨.tmp 13, .r (.mov (.loc 5)), none⟩,
 ⟨.tmp 14, .r (.idx 1 (.tmp 12) (.tmp 13)), none⟩,
 ⟨.tmp 15, .r (.load false 1 (.tmp 14)), none⟩,
 ⟨.tmp 16, .r (.mov (.loc 1)), none⟩,
 ⟨.loc 17, .r (.bin .eql (.tmp 15) (.tmp 16)), none⟩])
 (.cond (.loc 17) (.seq (.reg [⟨.loc 4, .r (.mov (.cst (.bool true))), none⟩])
 .ret)
 .skip)))
 (.reg [⟨.tmp 10, .r (.mov (.loc 5)), none⟩,
 ⟨.tmp 11, .r (.bin .add (.tmp 10) (.cst (.int .i64 1))), none⟩,
 ⟨.loc 5, .r (.mov (.tmp 11)), none⟩])))
/-- glebe/gleberef10.In -/
def c_gleberef10_In : AFn := ⟨18, fun s => List.contains [0, 1, 4, 5, 9, 17] s, (.seq (.reg [⟨.loc 4, .r (.mov (.cst (.bool false))), none⟩])
 (.seq (.seq (.reg [⟨.loc 5, .r (.mov (.cst (.int .i64 0))), none⟩])
 (.block 0 (.loop (c_gleberef10_In_l0))))
 (.seq (.reg [⟨.loc 4, .r (.mov (.cst (.bool false))), none⟩])
 .ret))), [(.tmp (.loc 4))]⟩

end Glb
