/-
  What functions of the program are, one by one (the functions that they call as parameters), in a form of which something can be shown.
-/
import Derived.Test.YtodbhmdfmdfiaaaGreatGlbLibB
set_option linter.unusedSimpArgs false
set_option linter.unusedVariables false
namespace Glb
open Go
set_option maxRecDepth 100000

/-- glebe/gleberef13.many -/
def c_gleberef13_many (f0 f1 : FuncId) : AFn := ⟨19, fun s => List.contains [0, 2, 3, 14] s, (.seq (.reg [⟨.loc 2, .r (.mov (.cst (.int .i64 0))), none⟩])
 (.seq (.reg [⟨.tmp 4, .r (.mov (.loc 0)), none⟩,
 ⟨.tmp 5, .call f0 [.tmp 4], none⟩,
 ⟨.loc 3, .r (.mov (.tmp 5)), none⟩])
 (.seq (.seq (.reg [⟨.tmp 6, .r (.mov (.loc 3)), none⟩,
 ⟨.tmp 7, .r (.bin .lss (.tmp 6) (.cst (.int .i64 0))), none⟩,
 ⟨.tmp 8, .r (.mov (.tmp 7)), none⟩,
 ⟨.tmp 9, .r (.mov (.loc 3)), some (.tmp 8, false)⟩,
 ⟨.tmp 10, .r (.mov (.loc 0)), some (.tmp 8, false)⟩,
 ⟨.tmp 11, .call f1 [.tmp 10], some (.tmp 8, false)⟩,
 ⟨.tmp 12, .r (.bin .quo (.tmp 11) (.cst (.int .i64 8))), some (.tmp 8, false)⟩,
 ⟨.tmp 13, .r (.bin .gtr (.tmp 9) (.tmp 12)), some (.tmp 8, false)⟩,
 ⟨.loc 14, .r (.pick (.tmp 8) (.cst (.bool true)) (.tmp 13)), none⟩])
 (.cond (.loc 14) (.seq (.reg [⟨.tmp 15, .r (.mov (.loc 0)), none⟩,
 ⟨.tmp 16, .r (.chk (.tmp 15)), none⟩,
 ⟨.tmp 17, .r (.off 2 (.tmp 16)), none⟩,
 ⟨.none, .h (.store 1 (.tmp 17) (.cst (.bool true))), none⟩])
 (.seq (.reg [⟨.loc 2, .r (.mov (.cst (.int .i64 0))), none⟩])
 .ret))
 .skip))
 (.seq (.reg [⟨.tmp 18, .r (.mov (.loc 3)), none⟩,
 ⟨.loc 2, .r (.mov (.tmp 18)), none⟩])
 .ret)))), [(.tmp (.loc 2))]⟩

def c_gleberef13_getLog_l0 (f0 f1 f2 : FuncId) : AC := (.seq (.seq (.reg [⟨.tmp 15, .r (.mov (.loc 5)), none⟩,
 ⟨.tmp 16, .r (.mov (.loc 4)), none⟩,
 ⟨.tmp 17, .r (.bin .lss (.tmp 15) (.tmp 16)), none⟩,
 ⟨.tmp 18, .r (.mov (.tmp 17)), none⟩,
 ⟨.tmp 19, .r (.mov (.loc 0)), some (.tmp 18, true)⟩,
 ⟨.tmp 20, .r (.chk (.tmp 19)), some (.tmp 18, true)⟩,
 ⟨.tmp 21, .r (.off 2 (.tmp 20)), some (.tmp 18, true)⟩,
 ⟨.tmp 22, .r (.load false 1 (.tmp 21)), some (.tmp 18, true)⟩,
 ⟨.tmp 23, .r (.not (.tmp 22)), some (.tmp 18, true)⟩,
 ⟨.loc 24, .r (.pick (.tmp 18) (.tmp 23) (.cst (.bool false))), none⟩])
 (.cond (.loc 24) .skip
 (.exit 0)))
 (.seq (.block 1 (.seq (.reg [⟨.tmp 27, .r (.mov (.loc 0)), none⟩,
 ⟨.tmp 28, .call f0 [.tmp 27], none⟩,
 ⟨.tmp 29, .r (.build [(.int .i64 0), (.int .i64 0), .nils] [(0, 1, .tmp 28)]), none⟩,
 ⟨.loc 6, .h (.mk [(.int .i64 0), (.int .i64 0), .nils]), none⟩,
 ⟨.none, .h (.store 3 (.loc 6) (.tmp 29)), none⟩])
 (.seq (.reg [⟨.tmp 30, .r (.mov (.loc 0)), none⟩,
 ⟨.tmp 31, .call f0 [.tmp 30], none⟩,
 ⟨.tmp 32, .r (.off 1 (.loc 6)), none⟩,
 ⟨.none, .h (.store 1 (.tmp 32) (.tmp 31)), none⟩])
 (.seq (.reg [⟨.tmp 33, .r (.mov (.loc 0)), none⟩,
 ⟨.tmp 34, .call f2 [.tmp 33], none⟩,
 ⟨.tmp 35, .r (.off 2 (.loc 6)), none⟩,
 ⟨.none, .h (.store 1 (.tmp 35) (.tmp 34)), none⟩])
 (.reg [⟨.tmp 36, .r (.off 2 (.loc 3)), none⟩,
 ⟨.tmp 37, .r (.load false 1 (.tmp 36)), none⟩,
 ⟨.tmp 38, .r (.load true 3 (.loc 6)), none⟩,
 ⟨.tmp 39, .h (.bsl 3 [.tmp 38]), none⟩,
 ⟨.tmp 40, .h (.app 3 40 (.tmp 37) (.tmp 39)), none⟩,
 ⟨.tmp 41, .r (.off 2 (.loc 3)), none⟩,
 ⟨.none, .h (.store 1 (.tmp 41) (.tmp 40)), none⟩])))))
 (.reg [⟨.tmp 25, .r (.mov (.loc 5)), none⟩,
 ⟨.tmp 26, .r (.bin .add (.tmp 25) (.cst (.int .i64 1))), none⟩,
 ⟨.loc 5, .r (.mov (.tmp 26)), none⟩])))
/-- glebe/gleberef13.getLog -/
def c_gleberef13_getLog (f0 f1 f2 : FuncId) : AFn := ⟨43, fun s => List.contains [0, 2, 3, 4, 5, 6, 24] s, (.seq (.reg [⟨.loc 2, .h (.mk [(.int .i64 0), (.int .i64 0), .nils]), none⟩])
 (.seq (.reg [⟨.tmp 7, .r (.mov (.loc 0)), none⟩,
 ⟨.tmp 8, .call f0 [.tmp 7], none⟩,
 ⟨.tmp 9, .r (.build [(.int .i64 0), (.int .i64 0), .nils] [(0, 1, .tmp 8)]), none⟩,
 ⟨.loc 3, .h (.mk [(.int .i64 0), (.int .i64 0), .nils]), none⟩,
 ⟨.none, .h (.store 3 (.loc 3) (.tmp 9)), none⟩])
 (.seq (.reg [⟨.tmp 10, .r (.mov (.loc 0)), none⟩,
 ⟨.tmp 11, .call f0 [.tmp 10], none⟩,
 ⟨.tmp 12, .r (.off 1 (.loc 3)), none⟩,
 ⟨.none, .h (.store 1 (.tmp 12) (.tmp 11)), none⟩])
 (.seq (.reg [⟨.tmp 13, .r (.mov (.loc 0)), none⟩,
 ⟨.tmp 14, .call f1 [.tmp 13], none⟩,
 ⟨.loc 4, .r (.mov (.tmp 14)), none⟩])
 (.seq (.seq (.reg [⟨.loc 5, .r (.mov (.cst (.int .i64 0))), none⟩])
 (.block 0 (.loop (c_gleberef13_getLog_l0 f0 f1 f2))))
 (.seq (.reg [⟨.tmp 42, .r (.load true 3 (.loc 3)), none⟩,
 ⟨.none, .h (.store 3 (.loc 2) (.tmp 42)), none⟩])
 .ret)))))), [(.cell (.loc 2) true 3)]⟩

/-- glebe/gleberef13.getConf -/
def c_gleberef13_getConf (f0 : FuncId) : AFn := ⟨14, fun s => List.contains [0, 2, 3] s, (.seq (.reg [⟨.loc 2, .h (.mk [.nils, .nils, .nils]), none⟩])
 (.seq (.reg [⟨.tmp 4, .r (.mov (.loc 0)), none⟩,
 ⟨.tmp 5, .call f0 [.tmp 4], none⟩,
 ⟨.tmp 6, .r (.build [.nils, .nils, .nils] [(0, 1, .tmp 5)]), none⟩,
 ⟨.loc 3, .h (.mk [.nils, .nils, .nils]), none⟩,
 ⟨.none, .h (.store 3 (.loc 3) (.tmp 6)), none⟩])
 (.seq (.reg [⟨.tmp 7, .r (.mov (.loc 0)), none⟩,
 ⟨.tmp 8, .call f0 [.tmp 7], none⟩,
 ⟨.tmp 9, .r (.off 1 (.loc 3)), none⟩,
 ⟨.none, .h (.store 1 (.tmp 9) (.tmp 8)), none⟩])
 (.seq (.reg [⟨.tmp 10, .r (.mov (.loc 0)), none⟩,
 ⟨.tmp 11, .call f0 [.tmp 10], none⟩,
 ⟨.tmp 12, .r (.off 2 (.loc 3)), none⟩,
 ⟨.none, .h (.store 1 (.tmp 12) (.tmp 11)), none⟩])
 (.seq (.reg [⟨.tmp 13, .r (.load true 3 (.loc 3)), none⟩,
 ⟨.none, .h (.store 3 (.loc 2) (.tmp 13)), none⟩])
 .ret))))), [(.cell (.loc 2) true 3)]⟩

/-- glebe/gleberef13.getVote -/
def c_gleberef13_getVote (f0 : FuncId) : AFn := ⟨20, fun s => List.contains [0, 2, 3] s, (.seq (.reg [⟨.loc 2, .h (.mk [(.int .i64 0), (.int .i64 0), (.int .i64 0), (.int .i64 0), (.int .i64 0)]), none⟩])
 (.seq (.reg [⟨.tmp 4, .r (.mov (.loc 0)), none⟩,
 ⟨.tmp 5, .call f0 [.tmp 4], none⟩,
 ⟨.tmp 6, .r (.build [(.int .i64 0), (.int .i64 0), (.int .i64 0), (.int .i64 0), (.int .i64 0)] [(0, 1, .tmp 5)]), none⟩,
 ⟨.loc 3, .h (.mk [(.int .i64 0), (.int .i64 0), (.int .i64 0), (.int .i64 0), (.int .i64 0)]), none⟩,
 ⟨.none, .h (.store 5 (.loc 3) (.tmp 6)), none⟩])
 (.seq (.reg [⟨.tmp 7, .r (.mov (.loc 0)), none⟩,
 ⟨.tmp 8, .call f0 [.tmp 7], none⟩,
 ⟨.tmp 9, .r (.off 1 (.loc 3)), none⟩,
 ⟨.none, .h (.store 1 (.tmp 9) (.tmp 8)), none⟩])
 (.seq (.reg [⟨.tmp 10, .r (.mov (.loc 0)), none⟩,
 ⟨.tmp 11, .call f0 [.tmp 10], none⟩,
 ⟨.tmp 12, .r (.off 2 (.loc 3)), none⟩,
 ⟨.none, .h (.store 1 (.tmp 12) (.tmp 11)), none⟩])
 (.seq (.reg [⟨.tmp 13, .r (.mov (.loc 0)), none⟩,
 ⟨.tmp 14, .call f0 [.tmp 13], none⟩,
 ⟨.tmp 15, .r (.off 3 (.loc 3)), none⟩,
 ⟨.none, .h (.store 1 (.tmp 15) (.tmp 14)), none⟩])
 (.seq (.reg [⟨.tmp 16, .r (.mov (.loc 0)), none⟩,
 ⟨.tmp 17, .call f0 [.tmp 16], none⟩,
 ⟨.tmp 18, .r (.off 4 (.loc 3)), none⟩,
 ⟨.none, .h (.store 1 (.tmp 18) (.tmp 17)), none⟩])
 (.seq (.reg [⟨.tmp 19, .r (.load true 5 (.loc 3)), none⟩,
 ⟨.none, .h (.store 5 (.loc 2) (.tmp 19)), none⟩])
 .ret))))))), [(.cell (.loc 2) true 5)]⟩

/-- glebe/gleberef13.ahead -/
def c_gleberef13_ahead : AFn := ⟨24, fun s => List.contains [0, 1, 2, 3, 4] s, (.seq (.reg [⟨.loc 2, .h (.box (.loc 0)), none⟩,
 ⟨.loc 3, .h (.box (.loc 1)), none⟩,
 ⟨.loc 4, .r (.mov (.cst (.bool false))), none⟩])
 (.seq (.reg [⟨.tmp 5, .r (.off 0 (.loc 2)), none⟩,
 ⟨.tmp 6, .r (.load false 1 (.tmp 5)), none⟩,
 ⟨.tmp 7, .r (.off 0 (.loc 3)), none⟩,
 ⟨.tmp 8, .r (.load false 1 (.tmp 7)), none⟩,
 ⟨.tmp 9, .r (.bin .lss (.tmp 6) (.tmp 8)), none⟩,
 ⟨.tmp 10, .r (.mov (.tmp 9)), none⟩,
 ⟨.tmp 11, .r (.off 0 (.loc 2)), some (.tmp 10, false)⟩,
 ⟨.tmp 12, .r (.load false 1 (.tmp 11)), some (.tmp 10, false)⟩,
 ⟨.tmp 13, .r (.off 0 (.loc 3)), some (.tmp 10, false)⟩,
 ⟨.tmp 14, .r (.load false 1 (.tmp 13)), some (.tmp 10, false)⟩,
 ⟨.tmp 15, .r (.bin .eql (.tmp 12) (.tmp 14)), some (.tmp 10, false)⟩,
 ⟨.tmp 16, .r (.mov (.tmp 15)), some (.tmp 10, false)⟩,
 ⟨.tmp 17, .r (.off 1 (.loc 2)), some (.tmp 16, true)⟩,
 ⟨.tmp 18, .r (.load false 1 (.tmp 17)), some (.tmp 16, true)⟩,
 ⟨.tmp 19, .r (.off 1 (.loc 3)), some (.tmp 16, true)⟩,
 ⟨.tmp 20, .r (.load false 1 (.tmp 19)), some (.tmp 16, true)⟩,
 ⟨.tmp 21, .r (.bin .lss (.tmp 18) (.tmp 20)), some (.tmp 16, true)⟩,
 ⟨.tmp 22, .r (.pick (.tmp 16) (.tmp 21) (.cst (.bool false))), some (.tmp 10, false)⟩,
 ⟨.tmp 23, .r (.pick (.tmp 10) (.cst (.bool true)) (.tmp 22)), none⟩,
 ⟨.loc 4, .r (.mov (.tmp 23)), none⟩])
 .ret)), [(.tmp (.loc 4))]⟩

def c_gleberef13_Ordered_l0 (f0 : FuncId) : AC := (.seq (.seq (.reg [⟨.tmp 5, .r (.mov (.loc 3)), none⟩,
 ⟨.tmp 6, .r (.off 0 (.loc 1)), none⟩,
 ⟨.tmp 7, .r (.load false 1 (.tmp 6)), none⟩,
 ⟨.tmp 8, .r (.len (.tmp 7)), none⟩,
 ⟨.loc 9, .r (.bin .lss (.tmp 5) (.tmp 8)), none⟩])
 (.cond (.loc 9) .skip
 (.exit 0)))
 (.seq (.block 1 (.seq (.dreg ⟨[0, 1, 0, 4, 15, 31, 63, 0, 128, 0, 896, 1920, 3968, 8191], 0, [⟨0, 0, false, .r (.off 0 (.loc 1)), none⟩,
 ⟨1, 0, false, .r (.load false 1 (.tmp 0)), none⟩,
 ⟨2, 0, false, .r (.mov (.loc 3)), none⟩,
 ⟨3, 0, false, .r (.bin .sub (.tmp 2) (.cst (.int .i64 1))), none⟩,
 ⟨4, 0, false, .r (.idx 10 (.tmp 1) (.tmp 3)), none⟩,
 ⟨5, 0, false, .r (.off 0 (.tmp 4)), none⟩,
 ⟨6, 0, false, .r (.load false 1 (.tmp 5)), none⟩,
 ⟨7, 0, false, .r (.off 0 (.loc 1)), none⟩,
 ⟨8, 0, false, .r (.load false 1 (.tmp 7)), none⟩,
 ⟨9, 0, false, .r (.mov (.loc 3)), none⟩,
 ⟨10, 0, false, .r (.idx 10 (.tmp 8) (.tmp 9)), none⟩,
 ⟨11, 0, false, .r (.off 0 (.tmp 10)), none⟩,
 ⟨12, 0, false, .r (.load false 1 (.tmp 11)), none⟩,
 ⟨13, 0, false, .r (.bin .geq (.tmp 6) (.tmp 12)), none⟩], [(25, 13)]⟩)
 (.cond (.loc 25) (.seq (.reg [⟨.loc 2, .r (.mov (.cst (.bool false))), none⟩])
 .ret)
 .skip)))
 (.reg [⟨.tmp 10, .r (.mov (.loc 3)), none⟩,
 ⟨.tmp 11, .r (.bin .add (.tmp 10) (.cst (.int .i64 1))), none⟩,
 ⟨.loc 3, .r (.mov (.tmp 11)), none⟩])))
def c_gleberef13_Ordered_l1 (f0 : FuncId) : AC := (.seq (.seq (.reg [⟨.tmp 26, .r (.mov (.loc 4)), none⟩,
 ⟨.tmp 27, .r (.off 1 (.loc 1)), none⟩,
 ⟨.tmp 28, .r (.load false 1 (.tmp 27)), none⟩,
 ⟨.tmp 29, .r (.len (.tmp 28)), none⟩,
 ⟨.loc 30, .r (.bin .lss (.tmp 26) (.tmp 29)), none⟩])
 (.cond (.loc 30) .skip
 (.exit 2)))
 (.seq (.block 3 (.seq (.dreg ⟨[0, 1, 0, 4, 15, 31, 0, 64, 0, 448, 960, 2047, 4095], 0, [⟨0, 0, false, .r (.off 1 (.loc 1)), none⟩,
 ⟨1, 0, false, .r (.load false 1 (.tmp 0)), none⟩,
 ⟨2, 0, false, .r (.mov (.loc 4)), none⟩,
 ⟨3, 0, false, .r (.bin .sub (.tmp 2) (.cst (.int .i64 1))), none⟩,
 ⟨4, 0, false, .r (.idx 5 (.tmp 1) (.tmp 3)), none⟩,
 ⟨5, 0, false, .r (.load true 5 (.tmp 4)), none⟩,
 ⟨6, 0, false, .r (.off 1 (.loc 1)), none⟩,
 ⟨7, 0, false, .r (.load false 1 (.tmp 6)), none⟩,
 ⟨8, 0, false, .r (.mov (.loc 4)), none⟩,
 ⟨9, 0, false, .r (.idx 5 (.tmp 7) (.tmp 8)), none⟩,
 ⟨10, 0, false, .r (.load true 5 (.tmp 9)), none⟩,
 ⟨11, 0, true, .call f0 [.tmp 5, .tmp 10], none⟩,
 ⟨12, 0, false, .r (.not (.tmp 11)), none⟩], [(45, 12)]⟩)
 (.cond (.loc 45) (.seq (.reg [⟨.loc 2, .r (.mov (.cst (.bool false))), none⟩])
 .ret)
 .skip)))
 (.reg [⟨.tmp 31, .r (.mov (.loc 4)), none⟩,
 ⟨.tmp 32, .r (.bin .add (.tmp 31) (.cst (.int .i64 1))), none⟩,
 ⟨.loc 4, .r (.mov (.tmp 32)), none⟩])))
/-- glebe/gleberef13.Ordered -/
def c_gleberef13_Ordered (f0 : FuncId) : AFn := ⟨46, fun s => List.contains [0, 1, 2, 3, 4, 9, 25, 30, 45] s, (.seq (.reg [⟨.loc 1, .h (.box (.loc 0)), none⟩,
 ⟨.loc 2, .r (.mov (.cst (.bool false))), none⟩])
 (.seq (.seq (.reg [⟨.loc 3, .r (.mov (.cst (.int .i64 1))), none⟩])
 (.block 0 (.loop (c_gleberef13_Ordered_l0 f0))))
 (.seq (.seq (.reg [⟨.loc 4, .r (.mov (.cst (.int .i64 1))), none⟩])
 (.block 2 (.loop (c_gleberef13_Ordered_l1 f0))))
 (.seq (.reg [⟨.loc 2, .r (.mov (.cst (.bool true))), none⟩])
 .ret)))), [(.tmp (.loc 2))]⟩

def c_gleberef13_Get_l0 (f0 f1 f2 f3 f4 f5 f6 f7 f8 : FuncId) : AC := (.seq (.seq (.reg [⟨.tmp 16, .r (.mov (.loc 7)), none⟩,
 ⟨.tmp 17, .r (.mov (.loc 6)), none⟩,
 ⟨.tmp 18, .r (.bin .lss (.tmp 16) (.tmp 17)), none⟩,
 ⟨.tmp 19, .r (.mov (.tmp 18)), none⟩,
 ⟨.tmp 20, .r (.mov (.loc 4)), some (.tmp 19, true)⟩,
 ⟨.tmp 21, .r (.chk (.tmp 20)), some (.tmp 19, true)⟩,
 ⟨.tmp 22, .r (.off 2 (.tmp 21)), some (.tmp 19, true)⟩,
 ⟨.tmp 23, .r (.load false 1 (.tmp 22)), some (.tmp 19, true)⟩,
 ⟨.tmp 24, .r (.not (.tmp 23)), some (.tmp 19, true)⟩,
 ⟨.loc 25, .r (.pick (.tmp 19) (.tmp 24) (.cst (.bool false))), none⟩])
 (.cond (.loc 25) .skip
 (.exit 0)))
 (.seq (.block 1 (.seq (.reg [⟨.tmp 28, .r (.mov (.loc 4)), none⟩,
 ⟨.tmp 29, .call f2 [.tmp 28], none⟩,
 ⟨.tmp 30, .r (.build [(.int .i64 0), (.int .i64 0), (.int .i64 0), (.int .i64 0), (.int .i64 0), .nils, .nils, .nils, .nils, .nils] [(0, 1, .tmp 29)]), none⟩,
 ⟨.loc 8, .h (.mk [(.int .i64 0), (.int .i64 0), (.int .i64 0), (.int .i64 0), (.int .i64 0), .nils, .nils, .nils, .nils, .nils]), none⟩,
 ⟨.none, .h (.store 10 (.loc 8) (.tmp 30)), none⟩])
 (.seq (.reg [⟨.tmp 31, .r (.mov (.loc 4)), none⟩,
 ⟨.tmp 32, .call f2 [.tmp 31], none⟩,
 ⟨.tmp 33, .r (.off 1 (.loc 8)), none⟩,
 ⟨.none, .h (.store 1 (.tmp 33) (.tmp 32)), none⟩])
 (.seq (.reg [⟨.tmp 34, .r (.mov (.loc 4)), none⟩,
 ⟨.tmp 35, .call f2 [.tmp 34], none⟩,
 ⟨.tmp 36, .r (.off 2 (.loc 8)), none⟩,
 ⟨.none, .h (.store 1 (.tmp 36) (.tmp 35)), none⟩])
 (.seq (.reg [⟨.tmp 37, .r (.mov (.loc 4)), none⟩,
 ⟨.tmp 38, .call f3 [.tmp 37], none⟩,
 ⟨.tmp 39, .r (.off 3 (.loc 8)), none⟩,
 ⟨.none, .h (.store 3 (.tmp 39) (.tmp 38)), none⟩])
 (.seq (.reg [⟨.tmp 40, .r (.mov (.loc 4)), none⟩,
 ⟨.tmp 41, .call f4 [.tmp 40], none⟩,
 ⟨.tmp 42, .r (.off 6 (.loc 8)), none⟩,
 ⟨.none, .h (.store 3 (.tmp 42) (.tmp 41)), none⟩])
 (.seq (.reg [⟨.tmp 43, .r (.mov (.loc 4)), none⟩,
 ⟨.tmp 44, .call f5 [.tmp 43], none⟩,
 ⟨.tmp 45, .r (.off 9 (.loc 8)), none⟩,
 ⟨.none, .h (.store 1 (.tmp 45) (.tmp 44)), none⟩])
 (.reg [⟨.tmp 46, .r (.off 0 (.loc 5)), none⟩,
 ⟨.tmp 47, .r (.load false 1 (.tmp 46)), none⟩,
 ⟨.tmp 48, .r (.load true 10 (.loc 8)), none⟩,
 ⟨.tmp 49, .h (.bsl 10 [.tmp 48]), none⟩,
 ⟨.tmp 50, .h (.app 10 160 (.tmp 47) (.tmp 49)), none⟩,
 ⟨.tmp 51, .r (.off 0 (.loc 5)), none⟩,
 ⟨.none, .h (.store 1 (.tmp 51) (.tmp 50)), none⟩]))))))))
 (.reg [⟨.tmp 26, .r (.mov (.loc 7)), none⟩,
 ⟨.tmp 27, .r (.bin .add (.tmp 26) (.cst (.int .i64 1))), none⟩,
 ⟨.loc 7, .r (.mov (.tmp 27)), none⟩])))
def c_gleberef13_Get_l1 (f0 f1 f2 f3 f4 f5 f6 f7 f8 : FuncId) : AC := (.seq (.seq (.reg [⟨.tmp 54, .r (.mov (.loc 10)), none⟩,
 ⟨.tmp 55, .r (.mov (.loc 9)), none⟩,
 ⟨.tmp 56, .r (.bin .lss (.tmp 54) (.tmp 55)), none⟩,
 ⟨.tmp 57, .r (.mov (.tmp 56)), none⟩,
 ⟨.tmp 58, .r (.mov (.loc 4)), some (.tmp 57, true)⟩,
 ⟨.tmp 59, .r (.chk (.tmp 58)), some (.tmp 57, true)⟩,
 ⟨.tmp 60, .r (.off 2 (.tmp 59)), some (.tmp 57, true)⟩,
 ⟨.tmp 61, .r (.load false 1 (.tmp 60)), some (.tmp 57, true)⟩,
 ⟨.tmp 62, .r (.not (.tmp 61)), some (.tmp 57, true)⟩,
 ⟨.loc 63, .r (.pick (.tmp 57) (.tmp 62) (.cst (.bool false))), none⟩])
 (.cond (.loc 63) .skip
 (.exit 2)))
 (.seq (.block 3 (.dreg ⟨[0, 1, 0, 4, 12, 31, 63, 127], 1, [⟨0, 0, false, .r (.off 1 (.loc 5)), none⟩,
 ⟨1, 0, false, .r (.load false 1 (.tmp 0)), none⟩,
 ⟨2, 0, false, .r (.mov (.loc 4)), none⟩,
 ⟨3, 0, true, .call f6 [.tmp 2], none⟩,
 ⟨4, 0, false, .h (.bsl 5 [.tmp 3]), none⟩,
 ⟨5, 1, true, .h (.app 5 40 (.tmp 1) (.tmp 4)), none⟩,
 ⟨6, 1, false, .r (.off 1 (.loc 5)), none⟩,
 ⟨7, 1, true, .h (.store 1 (.tmp 6) (.tmp 5)), none⟩], []⟩))
 (.reg [⟨.tmp 64, .r (.mov (.loc 10)), none⟩,
 ⟨.tmp 65, .r (.bin .add (.tmp 64) (.cst (.int .i64 1))), none⟩,
 ⟨.loc 10, .r (.mov (.tmp 65)), none⟩])))
/-- glebe/gleberef13.Get -/
def c_gleberef13_Get (f0 f1 f2 f3 f4 f5 f6 f7 f8 : FuncId) : AFn := ⟨84, fun s => List.contains [0, 2, 3, 4, 5, 6, 7, 8, 9, 10, 11, 25, 63, 76, 81] s, (.seq (.reg [⟨.loc 2, .h (.mk [.nils, .nils]), none⟩,
 ⟨.loc 3, .r (.mov (.cst (.int .i64 0))), none⟩])
 (.seq (.reg [⟨.tmp 12, .r (.mov (.loc 0)), none⟩,
 ⟨.tmp 13, .call f0 [.tmp 12], none⟩,
 ⟨.loc 4, .r (.mov (.tmp 13)), none⟩])
 (.seq (.reg [⟨.loc 5, .h (.mk [.nils, .nils]), none⟩])
 (.seq (.reg [⟨.tmp 14, .r (.mov (.loc 4)), none⟩,
 ⟨.tmp 15, .call f1 [.tmp 14], none⟩,
 ⟨.loc 6, .r (.mov (.tmp 15)), none⟩])
 (.seq (.seq (.reg [⟨.loc 7, .r (.mov (.cst (.int .i64 0))), none⟩])
 (.block 0 (.loop (c_gleberef13_Get_l0 f0 f1 f2 f3 f4 f5 f6 f7 f8))))
 (.seq (.reg [⟨.tmp 52, .r (.mov (.loc 4)), none⟩,
 ⟨.tmp 53, .call f1 [.tmp 52], none⟩,
 ⟨.loc 9, .r (.mov (.tmp 53)), none⟩])
 (.seq (.seq (.reg [⟨.loc 10, .r (.mov (.cst (.int .i64 0))), none⟩])
 (.block 2 (.loop (c_gleberef13_Get_l1 f0 f1 f2 f3 f4 f5 f6 f7 f8))))
 (.seq (.reg [⟨.tmp 73, .r (.mov (.loc 4)), none⟩,
 ⟨.tmp 74, .call f7 [.tmp 73], none⟩,
 ⟨.loc 11, .r (.mov (.tmp 74)), none⟩])
 (.seq (.seq (.reg [⟨.tmp 75, .r (.mov (.loc 11)), none⟩,
 ⟨.loc 76, .r (.bin .neq (.tmp 75) (.cst (.int .i64 0))), none⟩])
 (.cond (.loc 76) (.seq (.reg [⟨.tmp 77, .r (.build [.nils, .nils] []), none⟩,
 ⟨.tmp 78, .r (.mov (.loc 11)), none⟩,
 ⟨.none, .h (.store 2 (.loc 2) (.tmp 77)), none⟩,
 ⟨.loc 3, .r (.mov (.tmp 78)), none⟩])
 .ret)
 .skip))
 (.seq (.seq (.reg [⟨.tmp 79, .r (.load true 2 (.loc 5)), none⟩,
 ⟨.tmp 80, .call f8 [.tmp 79], none⟩,
 ⟨.loc 81, .r (.not (.tmp 80)), none⟩])
 (.cond (.loc 81) (.seq (.reg [⟨.tmp 82, .r (.build [.nils, .nils] []), none⟩,
 ⟨.none, .h (.store 2 (.loc 2) (.tmp 82)), none⟩,
 ⟨.loc 3, .r (.mov (.cst (.int .i64 15))), none⟩])
 .ret)
 .skip))
 (.seq (.reg [⟨.tmp 83, .r (.load true 2 (.loc 5)), none⟩,
 ⟨.none, .h (.store 2 (.loc 2) (.tmp 83)), none⟩,
 ⟨.loc 3, .r (.mov (.cst (.int .i64 0))), none⟩])
 .ret))))))))))), [(.cell (.loc 2) true 2), (.tmp (.loc 3))]⟩

def c_gleberef13_GetChanges_l0 (f0 f1 f2 f3 f4 f5 f6 f7 : FuncId) : AC := (.seq (.seq (.reg [⟨.tmp 14, .r (.mov (.loc 7)), none⟩,
 ⟨.tmp 15, .r (.mov (.loc 6)), none⟩,
 ⟨.tmp 16, .r (.bin .lss (.tmp 14) (.tmp 15)), none⟩,
 ⟨.tmp 17, .r (.mov (.tmp 16)), none⟩,
 ⟨.tmp 18, .r (.mov (.loc 4)), some (.tmp 17, true)⟩,
 ⟨.tmp 19, .r (.chk (.tmp 18)), some (.tmp 17, true)⟩,
 ⟨.tmp 20, .r (.off 2 (.tmp 19)), some (.tmp 17, true)⟩,
 ⟨.tmp 21, .r (.load false 1 (.tmp 20)), some (.tmp 17, true)⟩,
 ⟨.tmp 22, .r (.not (.tmp 21)), some (.tmp 17, true)⟩,
 ⟨.loc 23, .r (.pick (.tmp 17) (.tmp 22) (.cst (.bool false))), none⟩])
 (.cond (.loc 23) .skip
 (.exit 0)))
 (.seq (.block 1 (.seq (.reg [⟨.tmp 26, .r (.mov (.loc 4)), none⟩,
 ⟨.tmp 27, .call f2 [.tmp 26], none⟩,
 ⟨.tmp 28, .r (.build [(.int .i64 0), (.int .i64 0), (.int .i64 0), (.int .i64 0), (.int .i64 0), (.int .i64 0), (.int .i64 0), .nils, .nils, .nils, .nils, .nils, (.int .i64 0), (.int .i64 0), (.int .i64 0), (.int .i64 0), (.int .i64 0)] [(0, 1, .tmp 27)]), none⟩,
 ⟨.loc 8, .h (.mk [(.int .i64 0), (.int .i64 0), (.int .i64 0), (.int .i64 0), (.int .i64 0), (.int .i64 0), (.int .i64 0), .nils, .nils, .nils, .nils, .nils, (.int .i64 0), (.int .i64 0), (.int .i64 0), (.int .i64 0), (.int .i64 0)]), none⟩,
 ⟨.none, .h (.store 17 (.loc 8) (.tmp 28)), none⟩])
 (.seq (.reg [⟨.tmp 29, .r (.mov (.loc 4)), none⟩,
 ⟨.tmp 30, .call f2 [.tmp 29], none⟩,
 ⟨.tmp 31, .r (.off 1 (.loc 8)), none⟩,
 ⟨.none, .h (.store 1 (.tmp 31) (.tmp 30)), none⟩])
 (.seq (.reg [⟨.tmp 32, .r (.mov (.loc 4)), none⟩,
 ⟨.tmp 33, .call f2 [.tmp 32], none⟩,
 ⟨.tmp 34, .r (.off 2 (.loc 8)), none⟩,
 ⟨.none, .h (.store 1 (.tmp 34) (.tmp 33)), none⟩])
 (.seq (.reg [⟨.tmp 35, .r (.mov (.loc 4)), none⟩,
 ⟨.tmp 36, .call f2 [.tmp 35], none⟩,
 ⟨.tmp 37, .r (.off 3 (.loc 8)), none⟩,
 ⟨.none, .h (.store 1 (.tmp 37) (.tmp 36)), none⟩])
 (.seq (.reg [⟨.tmp 38, .r (.mov (.loc 4)), none⟩,
 ⟨.tmp 39, .call f2 [.tmp 38], none⟩,
 ⟨.tmp 40, .r (.off 4 (.loc 8)), none⟩,
 ⟨.none, .h (.store 1 (.tmp 40) (.tmp 39)), none⟩])
 (.seq (.reg [⟨.tmp 41, .r (.mov (.loc 4)), none⟩,
 ⟨.tmp 42, .call f3 [.tmp 41], none⟩,
 ⟨.tmp 43, .r (.off 5 (.loc 8)), none⟩,
 ⟨.none, .h (.store 3 (.tmp 43) (.tmp 42)), none⟩])
 (.seq (.reg [⟨.tmp 44, .r (.mov (.loc 4)), none⟩,
 ⟨.tmp 45, .call f4 [.tmp 44], none⟩,
 ⟨.tmp 46, .r (.off 8 (.loc 8)), none⟩,
 ⟨.none, .h (.store 3 (.tmp 46) (.tmp 45)), none⟩])
 (.seq (.reg [⟨.tmp 47, .r (.mov (.loc 4)), none⟩,
 ⟨.tmp 48, .call f5 [.tmp 47], none⟩,
 ⟨.tmp 49, .r (.off 11 (.loc 8)), none⟩,
 ⟨.none, .h (.store 1 (.tmp 49) (.tmp 48)), none⟩])
 (.seq (.reg [⟨.tmp 50, .r (.mov (.loc 4)), none⟩,
 ⟨.tmp 51, .call f6 [.tmp 50], none⟩,
 ⟨.tmp 52, .r (.off 12 (.loc 8)), none⟩,
 ⟨.none, .h (.store 5 (.tmp 52) (.tmp 51)), none⟩])
 (.reg [⟨.tmp 53, .r (.mov (.loc 5)), none⟩,
 ⟨.tmp 54, .r (.load true 17 (.loc 8)), none⟩,
 ⟨.tmp 55, .h (.bsl 17 [.tmp 54]), none⟩,
 ⟨.tmp 56, .h (.app 17 216 (.tmp 53) (.tmp 55)), none⟩,
 ⟨.loc 5, .r (.mov (.tmp 56)), none⟩])))))))))))
 (.reg [⟨.tmp 24, .r (.mov (.loc 7)), none⟩,
 ⟨.tmp 25, .r (.bin .add (.tmp 24) (.cst (.int .i64 1))), none⟩,
 ⟨.loc 7, .r (.mov (.tmp 25)), none⟩])))
/-- glebe/gleberef13.GetChanges -/
def c_gleberef13_GetChanges (f0 f1 f2 f3 f4 f5 f6 f7 : FuncId) : AFn := ⟨63, fun s => List.contains [0, 2, 3, 4, 5, 6, 7, 8, 9, 23, 60] s, (.seq (.reg [⟨.loc 2, .r (.mov (.cst .nils)), none⟩,
 ⟨.loc 3, .r (.mov (.cst (.int .i64 0))), none⟩])
 (.seq (.reg [⟨.tmp 10, .r (.mov (.loc 0)), none⟩,
 ⟨.tmp 11, .call f0 [.tmp 10], none⟩,
 ⟨.loc 4, .r (.mov (.tmp 11)), none⟩])
 (.seq (.reg [⟨.loc 5, .r (.mov (.cst .nils)), none⟩])
 (.seq (.reg [⟨.tmp 12, .r (.mov (.loc 4)), none⟩,
 ⟨.tmp 13, .call f1 [.tmp 12], none⟩,
 ⟨.loc 6, .r (.mov (.tmp 13)), none⟩])
 (.seq (.seq (.reg [⟨.loc 7, .r (.mov (.cst (.int .i64 0))), none⟩])
 (.block 0 (.loop (c_gleberef13_GetChanges_l0 f0 f1 f2 f3 f4 f5 f6 f7))))
 (.seq (.reg [⟨.tmp 57, .r (.mov (.loc 4)), none⟩,
 ⟨.tmp 58, .call f7 [.tmp 57], none⟩,
 ⟨.loc 9, .r (.mov (.tmp 58)), none⟩])
 (.seq (.seq (.reg [⟨.tmp 59, .r (.mov (.loc 9)), none⟩,
 ⟨.loc 60, .r (.bin .neq (.tmp 59) (.cst (.int .i64 0))), none⟩])
 (.cond (.loc 60) (.seq (.reg [⟨.tmp 61, .r (.mov (.loc 9)), none⟩,
 ⟨.loc 2, .r (.mov (.cst .nils)), none⟩,
 ⟨.loc 3, .r (.mov (.tmp 61)), none⟩])
 .ret)
 .skip))
 (.seq (.reg [⟨.tmp 62, .r (.mov (.loc 5)), none⟩,
 ⟨.loc 2, .r (.mov (.tmp 62)), none⟩,
 ⟨.loc 3, .r (.mov (.cst (.int .i64 0))), none⟩])
 .ret)))))))), [(.tmp (.loc 2)), (.tmp (.loc 3))]⟩

/-- glebe/gleberef13.GetConf -/
def c_gleberef13_GetConf (f0 f1 f2 f3 : FuncId) : AFn := ⟨25, fun s => List.contains [0, 2, 3, 4, 5, 6, 7, 15, 21] s, (.seq (.reg [⟨.loc 2, .h (.mk [.nils, .nils, .nils]), none⟩,
 ⟨.loc 3, .r (.mov (.cst (.int .i64 0))), none⟩])
 (.seq (.reg [⟨.tmp 8, .r (.mov (.loc 0)), none⟩,
 ⟨.tmp 9, .call f0 [.tmp 8], none⟩,
 ⟨.loc 4, .r (.mov (.tmp 9)), none⟩])
 (.seq (.reg [⟨.tmp 10, .r (.mov (.loc 4)), none⟩,
 ⟨.tmp 11, .call f1 [.tmp 10], none⟩,
 ⟨.loc 5, .h (.mk [.nils, .nils, .nils]), none⟩,
 ⟨.none, .h (.store 3 (.loc 5) (.tmp 11)), none⟩])
 (.seq (.reg [⟨.tmp 12, .r (.mov (.loc 4)), none⟩,
 ⟨.tmp 13, .call f2 [.tmp 12], none⟩,
 ⟨.loc 6, .r (.mov (.tmp 13)), none⟩])
 (.seq (.seq (.reg [⟨.tmp 14, .r (.mov (.loc 6)), none⟩,
 ⟨.loc 15, .r (.bin .neq (.tmp 14) (.cst (.int .i64 0))), none⟩])
 (.cond (.loc 15) (.seq (.reg [⟨.tmp 16, .r (.build [.nils, .nils, .nils] []), none⟩,
 ⟨.tmp 17, .r (.mov (.loc 6)), none⟩,
 ⟨.none, .h (.store 3 (.loc 2) (.tmp 16)), none⟩,
 ⟨.loc 3, .r (.mov (.tmp 17)), none⟩])
 .ret)
 .skip))
 (.seq (.reg [⟨.tmp 18, .r (.load true 3 (.loc 5)), none⟩,
 ⟨.tmp 19, .call f3 [.tmp 18], none⟩,
 ⟨.loc 7, .r (.mov (.tmp 19)), none⟩])
 (.seq (.seq (.reg [⟨.tmp 20, .r (.mov (.loc 7)), none⟩,
 ⟨.loc 21, .r (.bin .neq (.tmp 20) (.cst (.int .i64 0))), none⟩])
 (.cond (.loc 21) (.seq (.reg [⟨.tmp 22, .r (.build [.nils, .nils, .nils] []), none⟩,
 ⟨.tmp 23, .r (.mov (.loc 7)), none⟩,
 ⟨.none, .h (.store 3 (.loc 2) (.tmp 22)), none⟩,
 ⟨.loc 3, .r (.mov (.tmp 23)), none⟩])
 .ret)
 .skip))
 (.seq (.reg [⟨.tmp 24, .r (.load true 3 (.loc 5)), none⟩,
 ⟨.none, .h (.store 3 (.loc 2) (.tmp 24)), none⟩,
 ⟨.loc 3, .r (.mov (.cst (.int .i64 0))), none⟩])
 .ret)))))))), [(.cell (.loc 2) true 3), (.tmp (.loc 3))]⟩

end Glb
