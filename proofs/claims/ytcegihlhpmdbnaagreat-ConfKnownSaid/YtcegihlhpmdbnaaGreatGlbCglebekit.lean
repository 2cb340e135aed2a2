/-
  What functions of the program are, one by one (the functions that they call as parameters), in a form of which something can be shown.
-/
import Derived.Test.YtcegihlhpmdbnaaGreatGlbLibB
set_option linter.unusedSimpArgs false
set_option linter.unusedVariables false
namespace Glb
open Go
set_option maxRecDepth 100000

def c_glebekit_BigEntries_l0 : AC := (.seq (.seq (.reg [⟨.tmp 13, .r (.mov (.loc 8)), none⟩,
 ⟨.tmp 14, .r (.mov (.loc 0)), none⟩,
 ⟨.tmp 15, .r (.len (.tmp 14)), none⟩,
 ⟨.loc 16, .r (.bin .lss (.tmp 13) (.tmp 15)), none⟩])
 (.cond (.loc 16) .skip
 (.exit 0)))
 (.seq (.block 1 (.seq (.reg [⟨.tmp 19, .r (.mov (.loc 7)), none⟩,
 ⟨.tmp 20, .r (.mov (.loc 0)), none⟩,
 ⟨.tmp 21, .r (.mov (.loc 8)), none⟩,
 ⟨.tmp 22, .r (.idx 3 (.tmp 20) (.tmp 21)), none⟩,
 ⟨.tmp 23, .r (.off 2 (.tmp 22)), none⟩,
 ⟨.tmp 24, .r (.load false 1 (.tmp 23)), none⟩,
 ⟨.tmp 25, .r (.len (.tmp 24)), none⟩,
 ⟨.tmp 26, .r (.mov (.loc 2)), none⟩,
 ⟨.tmp 27, .r (.bin .add (.tmp 26) (.cst (.int .i64 1))), none⟩,
 ⟨.tmp 28, .r (.mnmx false [.tmp 25, .tmp 27]), none⟩,
 ⟨.tmp 29, .r (.bin .add (.tmp 19) (.tmp 28)), none⟩,
 ⟨.loc 7, .r (.mov (.tmp 29)), none⟩])
 (.seq (.reg [⟨.tmp 30, .r (.mov (.loc 7)), none⟩,
 ⟨.tmp 31, .r (.mov (.loc 2)), none⟩,
 ⟨.loc 32, .r (.bin .gtr (.tmp 30) (.tmp 31)), none⟩])
 (.cond (.loc 32) (.seq (.reg [⟨.loc 6, .r (.mov (.cst (.bool true))), none⟩])
 .ret)
 .skip))))
 (.reg [⟨.tmp 17, .r (.mov (.loc 8)), none⟩,
 ⟨.tmp 18, .r (.bin .add (.tmp 17) (.cst (.int .i64 1))), none⟩,
 ⟨.loc 8, .r (.mov (.tmp 18)), none⟩])))
/-- glebe/glebekit.BigEntries -/
def c_glebekit_BigEntries : AFn := ⟨33, fun s => List.contains [0, 1, 2, 6, 7, 8, 12, 16, 32] s, (.seq (.reg [⟨.loc 6, .r (.mov (.cst (.bool false))), none⟩])
 (.seq (.seq (.reg [⟨.tmp 9, .r (.mov (.loc 0)), none⟩,
 ⟨.tmp 10, .r (.len (.tmp 9)), none⟩,
 ⟨.tmp 11, .r (.mov (.loc 1)), none⟩,
 ⟨.loc 12, .r (.bin .gtr (.tmp 10) (.tmp 11)), none⟩])
 (.cond (.loc 12) (.seq (.reg [⟨.loc 6, .r (.mov (.cst (.bool true))), none⟩])
 .ret)
 .skip))
 (.seq (.reg [⟨.loc 7, .r (.mov (.cst (.int .i64 0))), none⟩])
 (.seq (.seq (.reg [⟨.loc 8, .r (.mov (.cst (.int .i64 0))), none⟩])
 (.block 0 (.loop (c_glebekit_BigEntries_l0))))
 (.seq (.reg [⟨.loc 6, .r (.mov (.cst (.bool false))), none⟩])
 .ret))))), [(.tmp (.loc 6))]⟩

/-- glebe/glebekit.SameLog -/
def c_glebekit_SameLog (f0 : FuncId) : AFn := ⟨24, fun s => List.contains [0, 1, 2, 3, 4] s, (.seq (.reg [⟨.loc 2, .h (.box (.loc 0)), none⟩,
 ⟨.loc 3, .h (.box (.loc 1)), none⟩,
 ⟨.loc 4, .r (.mov (.cst (.bool false))), none⟩])
 (.seq (.reg [⟨.tmp 5, .r (.off 0 (.loc 2)), none⟩,
 ⟨.tmp 6, .r (.load false 1 (.tmp 5)), none⟩,
 ⟨.tmp 7, .r (.off 0 (.loc 3)), none⟩,
 ⟨.tmp 8, .r (.load false 1 (.tmp 7)), none⟩,
 ⟨.tmp 9, .r (.bin .eql (.tmp 6) (.tmp 8)), none⟩,
 ⟨.tmp 10, .r (.mov (.tmp 9)), none⟩,
 ⟨.tmp 11, .r (.off 1 (.loc 2)), some (.tmp 10, true)⟩,
 ⟨.tmp 12, .r (.load false 1 (.tmp 11)), some (.tmp 10, true)⟩,
 ⟨.tmp 13, .r (.off 1 (.loc 3)), some (.tmp 10, true)⟩,
 ⟨.tmp 14, .r (.load false 1 (.tmp 13)), some (.tmp 10, true)⟩,
 ⟨.tmp 15, .r (.bin .eql (.tmp 12) (.tmp 14)), some (.tmp 10, true)⟩,
 ⟨.tmp 16, .r (.pick (.tmp 10) (.tmp 15) (.cst (.bool false))), none⟩,
 ⟨.tmp 17, .r (.mov (.tmp 16)), none⟩,
 ⟨.tmp 18, .r (.off 2 (.loc 2)), some (.tmp 17, true)⟩,
 ⟨.tmp 19, .r (.load false 1 (.tmp 18)), some (.tmp 17, true)⟩,
 ⟨.tmp 20, .r (.off 2 (.loc 3)), some (.tmp 17, true)⟩,
 ⟨.tmp 21, .r (.load false 1 (.tmp 20)), some (.tmp 17, true)⟩,
 ⟨.tmp 22, .call f0 [.tmp 19, .tmp 21], some (.tmp 17, true)⟩,
 ⟨.tmp 23, .r (.pick (.tmp 17) (.tmp 22) (.cst (.bool false))), none⟩,
 ⟨.loc 4, .r (.mov (.tmp 23)), none⟩])
 .ret)), [(.tmp (.loc 4))]⟩

def c_glebekit_SameEntries_l0 (f0 : FuncId) : AC := (.seq (.seq (.reg [⟨.tmp 11, .r (.mov (.loc 5)), none⟩,
 ⟨.tmp 12, .r (.mov (.loc 0)), none⟩,
 ⟨.tmp 13, .r (.len (.tmp 12)), none⟩,
 ⟨.loc 14, .r (.bin .lss (.tmp 11) (.tmp 13)), none⟩])
 (.cond (.loc 14) .skip
 (.exit 0)))
 (.seq (.block 1 (.seq (.dreg ⟨[0, 0, 3, 7, 0, 0, 48, 112, 255, 511], 0, [⟨0, 0, false, .r (.mov (.loc 0)), none⟩,
 ⟨1, 0, false, .r (.mov (.loc 5)), none⟩,
 ⟨2, 0, false, .r (.idx 3 (.tmp 0) (.tmp 1)), none⟩,
 ⟨3, 0, false, .r (.load true 3 (.tmp 2)), none⟩,
 ⟨4, 0, false, .r (.mov (.loc 1)), none⟩,
 ⟨5, 0, false, .r (.mov (.loc 5)), none⟩,
 ⟨6, 0, false, .r (.idx 3 (.tmp 4) (.tmp 5)), none⟩,
 ⟨7, 0, false, .r (.load true 3 (.tmp 6)), none⟩,
 ⟨8, 0, true, .call f0 [.tmp 3, .tmp 7], none⟩,
 ⟨9, 0, false, .r (.not (.tmp 8)), none⟩], [(26, 9)]⟩)
 (.cond (.loc 26) (.seq (.reg [⟨.loc 4, .r (.mov (.cst (.bool false))), none⟩])
 .ret)
 .skip)))
 (.reg [⟨.tmp 15, .r (.mov (.loc 5)), none⟩,
 ⟨.tmp 16, .r (.bin .add (.tmp 15) (.cst (.int .i64 1))), none⟩,
 ⟨.loc 5, .r (.mov (.tmp 16)), none⟩])))
/-- glebe/glebekit.SameEntries -/
def c_glebekit_SameEntries (f0 : FuncId) : AFn := ⟨27, fun s => List.contains [0, 1, 4, 5, 10, 14, 26] s, (.seq (.reg [⟨.loc 4, .r (.mov (.cst (.bool false))), none⟩])
 (.seq (.seq (.reg [⟨.tmp 6, .r (.mov (.loc 0)), none⟩,
 ⟨.tmp 7, .r (.len (.tmp 6)), none⟩,
 ⟨.tmp 8, .r (.mov (.loc 1)), none⟩,
 ⟨.tmp 9, .r (.len (.tmp 8)), none⟩,
 ⟨.loc 10, .r (.bin .neq (.tmp 7) (.tmp 9)), none⟩])
 (.cond (.loc 10) (.seq (.reg [⟨.loc 4, .r (.mov (.cst (.bool false))), none⟩])
 .ret)
 .skip))
 (.seq (.seq (.reg [⟨.loc 5, .r (.mov (.cst (.int .i64 0))), none⟩])
 (.block 0 (.loop (c_glebekit_SameEntries_l0 f0))))
 (.seq (.reg [⟨.loc 4, .r (.mov (.cst (.bool true))), none⟩])
 .ret)))), [(.tmp (.loc 4))]⟩

/-- glebe/glebekit.CopyLog -/
def c_glebekit_CopyLog (f0 : FuncId) : AFn := ⟨8, fun s => List.contains [0, 1, 2] s, (.seq (.reg [⟨.loc 1, .h (.box (.loc 0)), none⟩,
 ⟨.loc 2, .h (.mk [(.int .i64 0), (.int .i64 0), .nils]), none⟩])
 (.seq (.reg [⟨.tmp 3, .r (.off 2 (.loc 1)), none⟩,
 ⟨.tmp 4, .r (.load false 1 (.tmp 3)), none⟩,
 ⟨.tmp 5, .call f0 [.tmp 4], none⟩,
 ⟨.tmp 6, .r (.off 2 (.loc 1)), none⟩,
 ⟨.none, .h (.store 1 (.tmp 6) (.tmp 5)), none⟩])
 (.seq (.reg [⟨.tmp 7, .r (.load true 3 (.loc 1)), none⟩,
 ⟨.none, .h (.store 3 (.loc 2) (.tmp 7)), none⟩])
 .ret))), [(.cell (.loc 2) true 3)]⟩

def c_glebekit_CopyEntries_l0 (f0 : FuncId) : AC := (.seq (.seq (.reg [⟨.tmp 5, .r (.mov (.loc 4)), none⟩,
 ⟨.tmp 6, .r (.mov (.loc 0)), none⟩,
 ⟨.tmp 7, .r (.len (.tmp 6)), none⟩,
 ⟨.loc 8, .r (.bin .lss (.tmp 5) (.tmp 7)), none⟩])
 (.cond (.loc 8) .skip
 (.exit 0)))
 (.seq (.block 1 (.dreg ⟨[0, 0, 0, 6, 14, 30, 0, 0, 192, 448, 960, 0, 0, 6144, 14336, 30720, 63488, 131070, 262142, 524287, 1048575], 1, [⟨0, 0, false, .r (.mov (.loc 3)), none⟩,
 ⟨1, 0, false, .r (.mov (.loc 0)), none⟩,
 ⟨2, 0, false, .r (.mov (.loc 4)), none⟩,
 ⟨3, 0, false, .r (.idx 3 (.tmp 1) (.tmp 2)), none⟩,
 ⟨4, 0, false, .r (.off 0 (.tmp 3)), none⟩,
 ⟨5, 0, false, .r (.load false 1 (.tmp 4)), none⟩,
 ⟨6, 0, false, .r (.mov (.loc 0)), none⟩,
 ⟨7, 0, false, .r (.mov (.loc 4)), none⟩,
 ⟨8, 0, false, .r (.idx 3 (.tmp 6) (.tmp 7)), none⟩,
 ⟨9, 0, false, .r (.off 1 (.tmp 8)), none⟩,
 ⟨10, 0, false, .r (.load false 1 (.tmp 9)), none⟩,
 ⟨11, 0, false, .r (.mov (.loc 0)), none⟩,
 ⟨12, 0, false, .r (.mov (.loc 4)), none⟩,
 ⟨13, 0, false, .r (.idx 3 (.tmp 11) (.tmp 12)), none⟩,
 ⟨14, 0, false, .r (.off 2 (.tmp 13)), none⟩,
 ⟨15, 0, false, .r (.load false 1 (.tmp 14)), none⟩,
 ⟨16, 0, true, .call f0 [.tmp 15], none⟩,
 ⟨17, 0, false, .r (.build [(.int .i64 0), (.int .i64 0), .nils] [(0, 1, .tmp 5), (1, 1, .tmp 10), (2, 1, .tmp 16)]), none⟩,
 ⟨18, 0, false, .h (.bsl 3 [.tmp 17]), none⟩,
 ⟨19, 1, true, .h (.app 3 40 (.tmp 0) (.tmp 18)), none⟩,
 ⟨20, 1, false, .r (.mov (.tmp 19)), none⟩], [(3, 20)]⟩))
 (.reg [⟨.tmp 9, .r (.mov (.loc 4)), none⟩,
 ⟨.tmp 10, .r (.bin .add (.tmp 9) (.cst (.int .i64 1))), none⟩,
 ⟨.loc 4, .r (.mov (.tmp 10)), none⟩])))
/-- glebe/glebekit.CopyEntries -/
def c_glebekit_CopyEntries (f0 : FuncId) : AFn := ⟨32, fun s => List.contains [0, 2, 3, 4, 8] s, (.seq (.reg [⟨.loc 2, .r (.mov (.cst .nils)), none⟩])
 (.seq (.reg [⟨.loc 3, .r (.mov (.cst .nils)), none⟩])
 (.seq (.seq (.reg [⟨.loc 4, .r (.mov (.cst (.int .i64 0))), none⟩])
 (.block 0 (.loop (c_glebekit_CopyEntries_l0 f0))))
 (.seq (.reg [⟨.tmp 31, .r (.mov (.loc 3)), none⟩,
 ⟨.loc 2, .r (.mov (.tmp 31)), none⟩])
 .ret)))), [(.tmp (.loc 2))]⟩

/-- glebe/glebekit.SameEntry -/
def c_glebekit_SameEntry (f0 : FuncId) : AFn := ⟨24, fun s => List.contains [0, 1, 2, 3, 4] s, (.seq (.reg [⟨.loc 2, .h (.box (.loc 0)), none⟩,
 ⟨.loc 3, .h (.box (.loc 1)), none⟩,
 ⟨.loc 4, .r (.mov (.cst (.bool false))), none⟩])
 (.seq (.reg [⟨.tmp 5, .r (.off 0 (.loc 2)), none⟩,
 ⟨.tmp 6, .r (.load false 1 (.tmp 5)), none⟩,
 ⟨.tmp 7, .r (.off 0 (.loc 3)), none⟩,
 ⟨.tmp 8, .r (.load false 1 (.tmp 7)), none⟩,
 ⟨.tmp 9, .r (.bin .eql (.tmp 6) (.tmp 8)), none⟩,
 ⟨.tmp 10, .r (.mov (.tmp 9)), none⟩,
 ⟨.tmp 11, .r (.off 1 (.loc 2)), some (.tmp 10, true)⟩,
 ⟨.tmp 12, .r (.load false 1 (.tmp 11)), some (.tmp 10, true)⟩,
 ⟨.tmp 13, .r (.off 1 (.loc 3)), some (.tmp 10, true)⟩,
 ⟨.tmp 14, .r (.load false 1 (.tmp 13)), some (.tmp 10, true)⟩,
 ⟨.tmp 15, .r (.bin .eql (.tmp 12) (.tmp 14)), some (.tmp 10, true)⟩,
 ⟨.tmp 16, .r (.pick (.tmp 10) (.tmp 15) (.cst (.bool false))), none⟩,
 ⟨.tmp 17, .r (.mov (.tmp 16)), none⟩,
 ⟨.tmp 18, .r (.off 2 (.loc 2)), some (.tmp 17, true)⟩,
 ⟨.tmp 19, .r (.load false 1 (.tmp 18)), some (.tmp 17, true)⟩,
 ⟨.tmp 20, .r (.off 2 (.loc 3)), some (.tmp 17, true)⟩,
 ⟨.tmp 21, .r (.load false 1 (.tmp 20)), some (.tmp 17, true)⟩,
 ⟨.tmp 22, .call f0 [.tmp 19, .tmp 21], some (.tmp 17, true)⟩,
 ⟨.tmp 23, .r (.pick (.tmp 17) (.tmp 22) (.cst (.bool false))), none⟩,
 ⟨.loc 4, .r (.mov (.tmp 23)), none⟩])
 .ret)), [(.tmp (.loc 4))]⟩

def c_glebekit_CopyBytes_l0 : AC := (.seq (.seq (.reg [⟨.tmp 5, .r (.mov (.loc 4)), none⟩,
 ⟨.tmp 6, .r (.mov (.loc 0)), none⟩,
 ⟨.tmp 7, .r (.len (.tmp 6)), none⟩,
 ⟨.loc 8, .r (.bin .lss (.tmp 5) (.tmp 7)), none⟩])
 (.cond (.loc 8) .skip
 (.exit 0)))
 (.seq (.block 1 (.reg [⟨.tmp 11, .r (.mov (.loc 3)), none⟩,
 ⟨.tmp 12, .r (.mov (.loc 0)), none⟩,
 ⟨.tmp 13, .r (.mov (.loc 4)), none⟩,
 ⟨.tmp 14, .r (.idx 1 (.tmp 12) (.tmp 13)), none⟩,
 ⟨.tmp 15, .r (.load false 1 (.tmp 14)), none⟩,
 ⟨.tmp 16, .h (.bsl 1 [.tmp 15]), none⟩,
 ⟨.tmp 17, .h (.app 1 1 (.tmp 11) (.tmp 16)), none⟩,
 ⟨.loc 3, .r (.mov (.tmp 17)), none⟩]))
 (.reg [⟨.tmp 9, .r (.mov (.loc 4)), none⟩,
 ⟨.tmp 10, .r (.bin .add (.tmp 9) (.cst (.int .i64 1))), none⟩,
 ⟨.loc 4, .r (.mov (.tmp 10)), none⟩])))
/-- glebe/glebekit.CopyBytes -/
def c_glebekit_CopyBytes : AFn := ⟨19, fun s => List.contains [0, 2, 3, 4, 8] s, (.seq (.reg [⟨.loc 2, .r (.mov (.cst .nils)), none⟩])
 (.seq (.reg [⟨.loc 3, .r (.mov (.cst .nils)), none⟩])
 (.seq (.seq (.reg [⟨.loc 4, .r (.mov (.cst (.int .i64 0))), none⟩])
 (.block 0 (.loop (c_glebekit_CopyBytes_l0))))
 (.seq (.reg [⟨.tmp 18, .r (.mov (.loc 3)), none⟩,
 ⟨.loc 2, .r (.mov (.tmp 18)), none⟩])
 .ret)))), [(.tmp (.loc 2))]⟩

def c_glebekit_SameBytes_l0 : AC := (.seq (.seq (.reg [⟨.tmp 11, .r (.mov (.loc 5)), none⟩,
 ⟨.tmp 12, .r (.mov (.loc 0)), none⟩,
 ⟨.tmp 13, .r (.len (.tmp 12)), none⟩,
 ⟨.loc 14, .r (.bin .lss (.tmp 11) (.tmp 13)), none⟩])
 (.cond (.loc 14) .skip
 (.exit 0)))
 (.seq (.block 1 (.seq (.dreg ⟨[0, 0, 3, 7, 0, 0, 48, 112, 255], 0, [⟨0, 0, false, .r (.mov (.loc 0)), none⟩,
 ⟨1, 0, false, .r (.mov (.loc 5)), none⟩,
 ⟨2, 0, false, .r (.idx 1 (.tmp 0) (.tmp 1)), none⟩,
 ⟨3, 0, false, .r (.load false 1 (.tmp 2)), none⟩,
 ⟨4, 0, false, .r (.mov (.loc 1)), none⟩,
 ⟨5, 0, false, .r (.mov (.loc 5)), none⟩,
 ⟨6, 0, false, .r (.idx 1 (.tmp 4) (.tmp 5)), none⟩,
 ⟨7, 0, false, .r (.load false 1 (.tmp 6)), none⟩,
 ⟨8, 0, false, .r (.bin .neq (.tmp 3) (.tmp 7)), none⟩], [(25, 8)]⟩)
 (.cond (.loc 25) (.seq (.reg [⟨.loc 4, .r (.mov (.cst (.bool false))), none⟩])
 .ret)
 .skip)))
 (.reg [⟨.tmp 15, .r (.mov (.loc 5)), none⟩,
 ⟨.tmp 16, .r (.bin .add (.tmp 15) (.cst (.int .i64 1))), none⟩,
 ⟨.loc 5, .r (.mov (.tmp 16)), none⟩])))
/-- glebe/glebekit.SameBytes -/
def c_glebekit_SameBytes : AFn := ⟨26, fun s => List.contains [0, 1, 4, 5, 10, 14, 25] s, (.seq (.reg [⟨.loc 4, .r (.mov (.cst (.bool false))), none⟩])
 (.seq (.seq (.reg [⟨.tmp 6, .r (.mov (.loc 0)), none⟩,
 ⟨.tmp 7, .r (.len (.tmp 6)), none⟩,
 ⟨.tmp 8, .r (.mov (.loc 1)), none⟩,
 ⟨.tmp 9, .r (.len (.tmp 8)), none⟩,
 ⟨.loc 10, .r (.bin .neq (.tmp 7) (.tmp 9)), none⟩])
 (.cond (.loc 10) (.seq (.reg [⟨.loc 4, .r (.mov (.cst (.bool false))), none⟩])
 .ret)
 .skip))
 (.seq (.seq (.reg [⟨.loc 5, .r (.mov (.cst (.int .i64 0))), none⟩])
 (.block 0 (.loop (c_glebekit_SameBytes_l0))))
 (.seq (.reg [⟨.loc 4, .r (.mov (.cst (.bool true))), none⟩])
 .ret)))), [(.tmp (.loc 4))]⟩

def c_glebekit_LentInts_l0 : AC := (.seq (.seq (.reg [⟨.tmp 9, .r (.mov (.loc 4)), none⟩,
 ⟨.tmp 10, .r (.mov (.loc 3)), none⟩,
 ⟨.tmp 11, .r (.len (.tmp 10)), none⟩,
 ⟨.loc 12, .r (.bin .lss (.tmp 9) (.tmp 11)), none⟩])
 (.cond (.loc 12) .skip
 (.exit 0)))
 (.seq (.block 1 (.seq (.reg [⟨.tmp 15, .r (.mov (.loc 3)), none⟩,
 ⟨.tmp 16, .r (.mov (.loc 4)), none⟩,
 ⟨.tmp 17, .r (.idx 1 (.tmp 15) (.tmp 16)), none⟩,
 ⟨.none, .h (.store 1 (.tmp 17) (.cst (.int .i64 (-77)))), none⟩])
 (.seq (.reg [⟨.tmp 18, .r (.mov (.loc 4)), none⟩,
 ⟨.tmp 19, .r (.mov (.loc 0)), none⟩,
 ⟨.tmp 20, .r (.len (.tmp 19)), none⟩,
 ⟨.loc 21, .r (.bin .lss (.tmp 18) (.tmp 20)), none⟩])
 (.cond (.loc 21) (.reg [⟨.tmp 22, .r (.mov (.loc 3)), none⟩,
 ⟨.tmp 23, .r (.mov (.loc 4)), none⟩,
 ⟨.tmp 24, .r (.mov (.loc 0)), none⟩,
 ⟨.tmp 25, .r (.mov (.loc 4)), none⟩,
 ⟨.tmp 26, .r (.idx 1 (.tmp 24) (.tmp 25)), none⟩,
 ⟨.tmp 27, .r (.load false 1 (.tmp 26)), none⟩,
 ⟨.tmp 28, .r (.idx 1 (.tmp 22) (.tmp 23)), none⟩,
 ⟨.none, .h (.store 1 (.tmp 28) (.tmp 27)), none⟩])
 .skip))))
 (.reg [⟨.tmp 13, .r (.mov (.loc 4)), none⟩,
 ⟨.tmp 14, .r (.bin .add (.tmp 13) (.cst (.int .i64 1))), none⟩,
 ⟨.loc 4, .r (.mov (.tmp 14)), none⟩])))
/-- glebe/glebekit.LentInts -/
def c_glebekit_LentInts : AFn := ⟨30, fun s => List.contains [0, 2, 3, 4, 12, 21] s, (.seq (.reg [⟨.loc 2, .r (.mov (.cst .nils)), none⟩])
 (.seq (.reg [⟨.tmp 5, .r (.mov (.loc 0)), none⟩,
 ⟨.tmp 6, .r (.len (.tmp 5)), none⟩,
 ⟨.tmp 7, .r (.bin .add (.tmp 6) (.cst (.int .i64 5))), none⟩,
 ⟨.tmp 8, .h (.mks 1 8 [(.int .i64 0)] (.tmp 7) (.tmp 7)), none⟩,
 ⟨.loc 3, .r (.mov (.tmp 8)), none⟩])
 (.seq (.seq (.reg [⟨.loc 4, .r (.mov (.cst (.int .i64 0))), none⟩])
 (.block 0 (.loop (c_glebekit_LentInts_l0))))
 (.seq (.reg [⟨.tmp 29, .r (.mov (.loc 3)), none⟩,
 ⟨.loc 2, .r (.mov (.tmp 29)), none⟩])
 .ret)))), [(.tmp (.loc 2))]⟩

def c_glebekit_KeptInts_l0 (f0 : FuncId) : AC := (.seq (.seq (.reg [⟨.tmp 23, .r (.mov (.loc 5)), none⟩,
 ⟨.tmp 24, .r (.mov (.loc 0)), none⟩,
 ⟨.tmp 25, .r (.len (.tmp 24)), none⟩,
 ⟨.loc 26, .r (.bin .lss (.tmp 23) (.tmp 25)), none⟩])
 (.cond (.loc 26) .skip
 (.exit 0)))
 (.seq (.block 1 (.seq (.reg [⟨.tmp 29, .r (.mov (.loc 0)), none⟩,
 ⟨.tmp 30, .r (.mov (.loc 5)), none⟩,
 ⟨.tmp 31, .r (.idx 1 (.tmp 29) (.tmp 30)), none⟩,
 ⟨.tmp 32, .r (.load false 1 (.tmp 31)), none⟩,
 ⟨.loc 33, .r (.bin .neq (.tmp 32) (.cst (.int .i64 (-77)))), none⟩])
 (.cond (.loc 33) (.seq (.reg [⟨.loc 4, .r (.mov (.cst (.bool false))), none⟩])
 .ret)
 .skip)))
 (.reg [⟨.tmp 27, .r (.mov (.loc 5)), none⟩,
 ⟨.tmp 28, .r (.bin .add (.tmp 27) (.cst (.int .i64 1))), none⟩,
 ⟨.loc 5, .r (.mov (.tmp 28)), none⟩])))
/-- glebe/glebekit.KeptInts -/
def c_glebekit_KeptInts (f0 : FuncId) : AFn := ⟨34, fun s => List.contains [0, 1, 4, 5, 20, 26, 33] s, (.seq (.reg [⟨.loc 4, .r (.mov (.cst (.bool false))), none⟩])
 (.seq (.seq (.reg [⟨.tmp 6, .r (.mov (.loc 0)), none⟩,
 ⟨.tmp 7, .r (.len (.tmp 6)), none⟩,
 ⟨.tmp 8, .r (.mov (.loc 1)), none⟩,
 ⟨.tmp 9, .r (.len (.tmp 8)), none⟩,
 ⟨.tmp 10, .r (.bin .add (.tmp 9) (.cst (.int .i64 5))), none⟩,
 ⟨.tmp 11, .r (.bin .neq (.tmp 7) (.tmp 10)), none⟩,
 ⟨.tmp 12, .r (.mov (.tmp 11)), none⟩,
 ⟨.tmp 13, .r (.mov (.loc 0)), some (.tmp 12, false)⟩,
 ⟨.tmp 14, .r (.mov (.loc 1)), some (.tmp 12, false)⟩,
 ⟨.tmp 15, .r (.len (.tmp 14)), some (.tmp 12, false)⟩,
 ⟨.tmp 16, .r (.slc 1 (.tmp 13) none (some (.tmp 15)) none), some (.tmp 12, false)⟩,
 ⟨.tmp 17, .r (.mov (.loc 1)), some (.tmp 12, false)⟩,
 ⟨.tmp 18, .call f0 [.tmp 16, .tmp 17], some (.tmp 12, false)⟩,
 ⟨.tmp 19, .r (.not (.tmp 18)), some (.tmp 12, false)⟩,
 ⟨.loc 20, .r (.pick (.tmp 12) (.cst (.bool true)) (.tmp 19)), none⟩])
 (.cond (.loc 20) (.seq (.reg [⟨.loc 4, .r (.mov (.cst (.bool false))), none⟩])
 .ret)
 .skip))
 (.seq (.seq (.reg [⟨.tmp 21, .r (.mov (.loc 1)), none⟩,
 ⟨.tmp 22, .r (.len (.tmp 21)), none⟩,
 ⟨.loc 5, .r (.mov (.tmp 22)), none⟩])
 (.block 0 (.loop (c_glebekit_KeptInts_l0 f0))))
 (.seq (.reg [⟨.loc 4, .r (.mov (.cst (.bool true))), none⟩])
 .ret)))), [(.tmp (.loc 4))]⟩

def c_glebekit_CopyInts_l0 : AC := (.seq (.seq (.reg [⟨.tmp 5, .r (.mov (.loc 4)), none⟩,
 ⟨.tmp 6, .r (.mov (.loc 0)), none⟩,
 ⟨.tmp 7, .r (.len (.tmp 6)), none⟩,
 ⟨.loc 8, .r (.bin .lss (.tmp 5) (.tmp 7)), none⟩])
 (.cond (.loc 8) .skip
 (.exit 0)))
 (.seq (.block 1 (.reg [⟨.tmp 11, .r (.mov (.loc 3)), none⟩,
 ⟨.tmp 12, .r (.mov (.loc 0)), none⟩,
 ⟨.tmp 13, .r (.mov (.loc 4)), none⟩,
 ⟨.tmp 14, .r (.idx 1 (.tmp 12) (.tmp 13)), none⟩,
 ⟨.tmp 15, .r (.load false 1 (.tmp 14)), none⟩,
 ⟨.tmp 16, .h (.bsl 1 [.tmp 15]), none⟩,
 ⟨.tmp 17, .h (.app 1 8 (.tmp 11) (.tmp 16)), none⟩,
 ⟨.loc 3, .r (.mov (.tmp 17)), none⟩]))
 (.reg [⟨.tmp 9, .r (.mov (.loc 4)), none⟩,
 ⟨.tmp 10, .r (.bin .add (.tmp 9) (.cst (.int .i64 1))), none⟩,
 ⟨.loc 4, .r (.mov (.tmp 10)), none⟩])))
/-- glebe/glebekit.CopyInts -/
def c_glebekit_CopyInts : AFn := ⟨19, fun s => List.contains [0, 2, 3, 4, 8] s, (.seq (.reg [⟨.loc 2, .r (.mov (.cst .nils)), none⟩])
 (.seq (.reg [⟨.loc 3, .r (.mov (.cst .nils)), none⟩])
 (.seq (.seq (.reg [⟨.loc 4, .r (.mov (.cst (.int .i64 0))), none⟩])
 (.block 0 (.loop (c_glebekit_CopyInts_l0))))
 (.seq (.reg [⟨.tmp 18, .r (.mov (.loc 3)), none⟩,
 ⟨.loc 2, .r (.mov (.tmp 18)), none⟩])
 .ret)))), [(.tmp (.loc 2))]⟩

/-- glebe/glebekit.Pick -/
def c_glebekit_Pick : AFn := ⟨16, fun s => List.contains [0, 1, 4, 6, 11] s, (.seq (.reg [⟨.loc 4, .r (.mov (.cst (.int .i64 0))), none⟩])
 (.seq (.seq (.reg [⟨.tmp 5, .r (.mov (.loc 1)), none⟩,
 ⟨.loc 6, .r (.bin .lss (.tmp 5) (.cst (.int .i64 1))), none⟩])
 (.cond (.loc 6) (.seq (.reg [⟨.loc 4, .r (.mov (.cst (.int .i64 0))), none⟩])
 .ret)
 .skip))
 (.seq (.reg [⟨.tmp 7, .r (.mov (.loc 0)), none⟩,
 ⟨.tmp 8, .r (.mov (.loc 1)), none⟩,
 ⟨.tmp 9, .r (.bin .rem (.tmp 7) (.tmp 8)), none⟩,
 ⟨.loc 0, .r (.mov (.tmp 9)), none⟩])
 (.seq (.seq (.reg [⟨.tmp 10, .r (.mov (.loc 0)), none⟩,
 ⟨.loc 11, .r (.bin .lss (.tmp 10) (.cst (.int .i64 0))), none⟩])
 (.cond (.loc 11) (.reg [⟨.tmp 12, .r (.mov (.loc 0)), none⟩,
 ⟨.tmp 13, .r (.mov (.loc 1)), none⟩,
 ⟨.tmp 14, .r (.bin .add (.tmp 12) (.tmp 13)), none⟩,
 ⟨.loc 0, .r (.mov (.tmp 14)), none⟩])
 .skip))
 (.seq (.reg [⟨.tmp 15, .r (.mov (.loc 0)), none⟩,
 ⟨.loc 4, .r (.mov (.tmp 15)), none⟩])
 .ret))))), [(.tmp (.loc 4))]⟩

/-- glebe/glebekit.CopyHard -/
def c_glebekit_CopyHard (f0 f1 f2 : FuncId) : AFn := ⟨16, fun s => List.contains [0, 1, 2] s, (.seq (.reg [⟨.loc 1, .h (.box (.loc 0)), none⟩,
 ⟨.loc 2, .h (.mk [(.int .i64 0), (.int .i64 0), (.int .i64 0), (.int .i64 0), (.int .i64 0), .nils, .nils, .nils, .nils, .nils]), none⟩])
 (.seq (.reg [⟨.tmp 3, .r (.off 3 (.loc 1)), none⟩,
 ⟨.tmp 4, .r (.load true 3 (.tmp 3)), none⟩,
 ⟨.tmp 5, .call f0 [.tmp 4], none⟩,
 ⟨.tmp 6, .r (.off 3 (.loc 1)), none⟩,
 ⟨.none, .h (.store 3 (.tmp 6) (.tmp 5)), none⟩])
 (.seq (.reg [⟨.tmp 7, .r (.off 6 (.loc 1)), none⟩,
 ⟨.tmp 8, .r (.load true 3 (.tmp 7)), none⟩,
 ⟨.tmp 9, .call f1 [.tmp 8], none⟩,
 ⟨.tmp 10, .r (.off 6 (.loc 1)), none⟩,
 ⟨.none, .h (.store 3 (.tmp 10) (.tmp 9)), none⟩])
 (.seq (.reg [⟨.tmp 11, .r (.off 9 (.loc 1)), none⟩,
 ⟨.tmp 12, .r (.load false 1 (.tmp 11)), none⟩,
 ⟨.tmp 13, .call f2 [.tmp 12], none⟩,
 ⟨.tmp 14, .r (.off 9 (.loc 1)), none⟩,
 ⟨.none, .h (.store 1 (.tmp 14) (.tmp 13)), none⟩])
 (.seq (.reg [⟨.tmp 15, .r (.load true 10 (.loc 1)), none⟩,
 ⟨.none, .h (.store 10 (.loc 2) (.tmp 15)), none⟩])
 .ret))))), [(.cell (.loc 2) true 10)]⟩

/-- glebe/glebekit.SameHard -/
def c_glebekit_SameHard (f0 f1 f2 : FuncId) : AFn := ⟨45, fun s => List.contains [0, 1, 2, 3, 4] s, (.seq (.reg [⟨.loc 2, .h (.box (.loc 0)), none⟩,
 ⟨.loc 3, .h (.box (.loc 1)), none⟩,
 ⟨.loc 4, .r (.mov (.cst (.bool false))), none⟩])
 (.seq (.reg [⟨.tmp 5, .r (.off 0 (.loc 2)), none⟩,
 ⟨.tmp 6, .r (.load false 1 (.tmp 5)), none⟩,
 ⟨.tmp 7, .r (.off 0 (.loc 3)), none⟩,
 ⟨.tmp 8, .r (.load false 1 (.tmp 7)), none⟩,
 ⟨.tmp 9, .r (.bin .eql (.tmp 6) (.tmp 8)), none⟩,
 ⟨.tmp 10, .r (.mov (.tmp 9)), none⟩,
 ⟨.tmp 11, .r (.off 1 (.loc 2)), some (.tmp 10, true)⟩,
 ⟨.tmp 12, .r (.load false 1 (.tmp 11)), some (.tmp 10, true)⟩,
 ⟨.tmp 13, .r (.off 1 (.loc 3)), some (.tmp 10, true)⟩,
 ⟨.tmp 14, .r (.load false 1 (.tmp 13)), some (.tmp 10, true)⟩,
 ⟨.tmp 15, .r (.bin .eql (.tmp 12) (.tmp 14)), some (.tmp 10, true)⟩,
 ⟨.tmp 16, .r (.pick (.tmp 10) (.tmp 15) (.cst (.bool false))), none⟩,
 ⟨.tmp 17, .r (.mov (.tmp 16)), none⟩,
 ⟨.tmp 18, .r (.off 2 (.loc 2)), some (.tmp 17, true)⟩,
 ⟨.tmp 19, .r (.load false 1 (.tmp 18)), some (.tmp 17, true)⟩,
 ⟨.tmp 20, .r (.off 2 (.loc 3)), some (.tmp 17, true)⟩,
 ⟨.tmp 21, .r (.load false 1 (.tmp 20)), some (.tmp 17, true)⟩,
 ⟨.tmp 22, .r (.bin .eql (.tmp 19) (.tmp 21)), some (.tmp 17, true)⟩,
 ⟨.tmp 23, .r (.pick (.tmp 17) (.tmp 22) (.cst (.bool false))), none⟩,
 ⟨.tmp 24, .r (.mov (.tmp 23)), none⟩,
 ⟨.tmp 25, .r (.off 3 (.loc 2)), some (.tmp 24, true)⟩,
 ⟨.tmp 26, .r (.load true 3 (.tmp 25)), some (.tmp 24, true)⟩,
 ⟨.tmp 27, .r (.off 3 (.loc 3)), some (.tmp 24, true)⟩,
 ⟨.tmp 28, .r (.load true 3 (.tmp 27)), some (.tmp 24, true)⟩,
 ⟨.tmp 29, .call f0 [.tmp 26, .tmp 28], some (.tmp 24, true)⟩,
 ⟨.tmp 30, .r (.pick (.tmp 24) (.tmp 29) (.cst (.bool false))), none⟩,
 ⟨.tmp 31, .r (.mov (.tmp 30)), none⟩,
 ⟨.tmp 32, .r (.off 6 (.loc 2)), some (.tmp 31, true)⟩,
 ⟨.tmp 33, .r (.load true 3 (.tmp 32)), some (.tmp 31, true)⟩,
 ⟨.tmp 34, .r (.off 6 (.loc 3)), some (.tmp 31, true)⟩,
 ⟨.tmp 35, .r (.load true 3 (.tmp 34)), some (.tmp 31, true)⟩,
 ⟨.tmp 36, .call f1 [.tmp 33, .tmp 35], some (.tmp 31, true)⟩,
 ⟨.tmp 37, .r (.pick (.tmp 31) (.tmp 36) (.cst (.bool false))), none⟩,
 ⟨.tmp 38, .r (.mov (.tmp 37)), none⟩,
 ⟨.tmp 39, .r (.off 9 (.loc 2)), some (.tmp 38, true)⟩,
 ⟨.tmp 40, .r (.load false 1 (.tmp 39)), some (.tmp 38, true)⟩,
 ⟨.tmp 41, .r (.off 9 (.loc 3)), some (.tmp 38, true)⟩,
 ⟨.tmp 42, .r (.load false 1 (.tmp 41)), some (.tmp 38, true)⟩,
 ⟨.tmp 43, .call f2 [.tmp 40, .tmp 42], some (.tmp 38, true)⟩,
 ⟨.tmp 44, .r (.pick (.tmp 38) (.tmp 43) (.cst (.bool false))), none⟩,
 ⟨.loc 4, .r (.mov (.tmp 44)), none⟩])
 .ret)), [(.tmp (.loc 4))]⟩

/-- glebe/glebekit.CopyConf -/
def c_glebekit_CopyConf (f0 : FuncId) : AFn := ⟨13, fun s => List.contains [0, 1, 2] s, (.seq (.reg [⟨.loc 1, .h (.box (.loc 0)), none⟩,
 ⟨.loc 2, .h (.mk [.nils, .nils, .nils]), none⟩])
 (.seq (.dreg ⟨[0, 1, 3, 0, 8, 31, 0, 64, 255, 511, 1023], 0, [⟨0, 0, false, .r (.off 0 (.loc 1)), none⟩,
 ⟨1, 0, false, .r (.load false 1 (.tmp 0)), none⟩,
 ⟨3, 0, false, .r (.off 1 (.loc 1)), none⟩,
 ⟨4, 0, false, .r (.load false 1 (.tmp 3)), none⟩,
 ⟨6, 0, false, .r (.off 2 (.loc 1)), none⟩,
 ⟨7, 0, false, .r (.load false 1 (.tmp 6)), none⟩,
 ⟨2, 0, true, .call f0 [.tmp 1], none⟩,
 ⟨5, 0, true, .call f0 [.tmp 4], none⟩,
 ⟨8, 0, true, .call f0 [.tmp 7], none⟩,
 ⟨9, 0, false, .r (.build [.nils, .nils, .nils] [(0, 1, .tmp 2), (1, 1, .tmp 5), (2, 1, .tmp 8)]), none⟩,
 ⟨10, 0, true, .h (.store 3 (.loc 2) (.tmp 9)), none⟩], []⟩)
 .ret)), [(.cell (.loc 2) true 3)]⟩

def c_glebekit_SameInts_l0 : AC := (.seq (.seq (.reg [⟨.tmp 11, .r (.mov (.loc 5)), none⟩,
 ⟨.tmp 12, .r (.mov (.loc 0)), none⟩,
 ⟨.tmp 13, .r (.len (.tmp 12)), none⟩,
 ⟨.loc 14, .r (.bin .lss (.tmp 11) (.tmp 13)), none⟩])
 (.cond (.loc 14) .skip
 (.exit 0)))
 (.seq (.block 1 (.seq (.dreg ⟨[0, 0, 3, 7, 0, 0, 48, 112, 255], 0, [⟨0, 0, false, .r (.mov (.loc 0)), none⟩,
 ⟨1, 0, false, .r (.mov (.loc 5)), none⟩,
 ⟨2, 0, false, .r (.idx 1 (.tmp 0) (.tmp 1)), none⟩,
 ⟨3, 0, false, .r (.load false 1 (.tmp 2)), none⟩,
 ⟨4, 0, false, .r (.mov (.loc 1)), none⟩,
 ⟨5, 0, false, .r (.mov (.loc 5)), none⟩,
 ⟨6, 0, false, .r (.idx 1 (.tmp 4) (.tmp 5)), none⟩,
 ⟨7, 0, false, .r (.load false 1 (.tmp 6)), none⟩,
 ⟨8, 0, false, .r (.bin .neq (.tmp 3) (.tmp 7)), none⟩], [(25, 8)]⟩)
 (.cond (.loc 25) (.seq (.reg [⟨.loc 4, .r (.mov (.cst (.bool false))), none⟩])
 .ret)
 .skip)))
 (.reg [⟨.tmp 15, .r (.mov (.loc 5)), none⟩,
 ⟨.tmp 16, .r (.bin .add (.tmp 15) (.cst (.int .i64 1))), none⟩,
 ⟨.loc 5, .r (.mov (.tmp 16)), none⟩])))
/-- glebe/glebekit.SameInts -/
def c_glebekit_SameInts : AFn := ⟨26, fun s => List.contains [0, 1, 4, 5, 10, 14, 25] s, (.seq (.reg [⟨.loc 4, .r (.mov (.cst (.bool false))), none⟩])
 (.seq (.seq (.reg [⟨.tmp 6, .r (.mov (.loc 0)), none⟩,
 ⟨.tmp 7, .r (.len (.tmp 6)), none⟩,
 ⟨.tmp 8, .r (.mov (.loc 1)), none⟩,
 ⟨.tmp 9, .r (.len (.tmp 8)), none⟩,
 ⟨.loc 10, .r (.bin .neq (.tmp 7) (.tmp 9)), none⟩])
 (.cond (.loc 10) (.seq (.reg [⟨.loc 4, .r (.mov (.cst (.bool false))), none⟩])
 .ret)
 .skip))
 (.seq (.seq (.reg [⟨.loc 5, .r (.mov (.cst (.int .i64 0))), none⟩])
 (.block 0 (.loop (c_glebekit_SameInts_l0))))
 (.seq (.reg [⟨.loc 4, .r (.mov (.cst (.bool true))), none⟩])
 .ret)))), [(.tmp (.loc 4))]⟩

def c_glebekit_SpoilInts_l0 : AC := (.seq (.seq (.reg [⟨.tmp 3, .r (.mov (.loc 2)), none⟩,
 ⟨.tmp 4, .r (.mov (.loc 0)), none⟩,
 ⟨.tmp 5, .r (.len (.tmp 4)), none⟩,
 ⟨.loc 6, .r (.bin .lss (.tmp 3) (.tmp 5)), none⟩])
 (.cond (.loc 6) .skip
 (.exit 0)))
 (.seq (.block 1 (.reg [⟨.tmp 9, .r (.mov (.loc 0)), none⟩,
 ⟨.tmp 10, .r (.mov (.loc 2)), none⟩,
 ⟨.tmp 11, .r (.mov (.loc 0)), none⟩,
 ⟨.tmp 12, .r (.mov (.loc 2)), none⟩,
 ⟨.tmp 13, .r (.idx 1 (.tmp 11) (.tmp 12)), none⟩,
 ⟨.tmp 14, .r (.load false 1 (.tmp 13)), none⟩,
 ⟨.tmp 15, .r (.bin .xor (.tmp 14) (.cst (.int .i64 77))), none⟩,
 ⟨.tmp 16, .r (.idx 1 (.tmp 9) (.tmp 10)), none⟩,
 ⟨.none, .h (.store 1 (.tmp 16) (.tmp 15)), none⟩]))
 (.reg [⟨.tmp 7, .r (.mov (.loc 2)), none⟩,
 ⟨.tmp 8, .r (.bin .add (.tmp 7) (.cst (.int .i64 1))), none⟩,
 ⟨.loc 2, .r (.mov (.tmp 8)), none⟩])))
/-- glebe/glebekit.SpoilInts -/
def c_glebekit_SpoilInts : AFn := ⟨17, fun s => List.contains [0, 2, 6] s, (.seq (.reg [⟨.loc 2, .r (.mov (.cst (.int .i64 0))), none⟩])
 (.block 0 (.loop (c_glebekit_SpoilInts_l0)))), []⟩

/-- glebe/glebekit.SameConf -/
def c_glebekit_SameConf (f0 : FuncId) : AFn := ⟨24, fun s => List.contains [0, 1, 2, 3, 4] s, (.seq (.reg [⟨.loc 2, .h (.box (.loc 0)), none⟩,
 ⟨.loc 3, .h (.box (.loc 1)), none⟩,
 ⟨.loc 4, .r (.mov (.cst (.bool false))), none⟩])
 (.seq (.reg [⟨.tmp 5, .r (.off 0 (.loc 2)), none⟩,
 ⟨.tmp 6, .r (.load false 1 (.tmp 5)), none⟩,
 ⟨.tmp 7, .r (.off 0 (.loc 3)), none⟩,
 ⟨.tmp 8, .r (.load false 1 (.tmp 7)), none⟩,
 ⟨.tmp 9, .call f0 [.tmp 6, .tmp 8], none⟩,
 ⟨.tmp 10, .r (.mov (.tmp 9)), none⟩,
 ⟨.tmp 11, .r (.off 1 (.loc 2)), some (.tmp 10, true)⟩,
 ⟨.tmp 12, .r (.load false 1 (.tmp 11)), some (.tmp 10, true)⟩,
 ⟨.tmp 13, .r (.off 1 (.loc 3)), some (.tmp 10, true)⟩,
 ⟨.tmp 14, .r (.load false 1 (.tmp 13)), some (.tmp 10, true)⟩,
 ⟨.tmp 15, .call f0 [.tmp 12, .tmp 14], some (.tmp 10, true)⟩,
 ⟨.tmp 16, .r (.pick (.tmp 10) (.tmp 15) (.cst (.bool false))), none⟩,
 ⟨.tmp 17, .r (.mov (.tmp 16)), none⟩,
 ⟨.tmp 18, .r (.off 2 (.loc 2)), some (.tmp 17, true)⟩,
 ⟨.tmp 19, .r (.load false 1 (.tmp 18)), some (.tmp 17, true)⟩,
 ⟨.tmp 20, .r (.off 2 (.loc 3)), some (.tmp 17, true)⟩,
 ⟨.tmp 21, .r (.load false 1 (.tmp 20)), some (.tmp 17, true)⟩,
 ⟨.tmp 22, .call f0 [.tmp 19, .tmp 21], some (.tmp 17, true)⟩,
 ⟨.tmp 23, .r (.pick (.tmp 17) (.tmp 22) (.cst (.bool false))), none⟩,
 ⟨.loc 4, .r (.mov (.tmp 23)), none⟩])
 .ret)), [(.tmp (.loc 4))]⟩

/-- glebe/glebekit.BigHard -/
def c_glebekit_BigHard (f0 f1 : FuncId) : AFn := ⟨26, fun s => List.contains [0, 1, 2, 3, 6] s, (.seq (.reg [⟨.loc 3, .h (.box (.loc 0)), none⟩,
 ⟨.loc 6, .r (.mov (.cst (.bool false))), none⟩])
 (.seq (.reg [⟨.tmp 7, .r (.off 3 (.loc 3)), none⟩,
 ⟨.tmp 8, .r (.off 2 (.tmp 7)), none⟩,
 ⟨.tmp 9, .r (.load false 1 (.tmp 8)), none⟩,
 ⟨.tmp 10, .r (.mov (.loc 1)), none⟩,
 ⟨.tmp 11, .r (.mov (.loc 2)), none⟩,
 ⟨.tmp 12, .call f0 [.tmp 9, .tmp 10, .tmp 11], none⟩,
 ⟨.tmp 13, .r (.mov (.tmp 12)), none⟩,
 ⟨.tmp 14, .r (.off 6 (.loc 3)), some (.tmp 13, false)⟩,
 ⟨.tmp 15, .r (.load true 3 (.tmp 14)), some (.tmp 13, false)⟩,
 ⟨.tmp 16, .r (.mov (.loc 1)), some (.tmp 13, false)⟩,
 ⟨.tmp 17, .call f1 [.tmp 15, .tmp 16], some (.tmp 13, false)⟩,
 ⟨.tmp 18, .r (.pick (.tmp 13) (.cst (.bool true)) (.tmp 17)), none⟩,
 ⟨.tmp 19, .r (.mov (.tmp 18)), none⟩,
 ⟨.tmp 20, .r (.off 9 (.loc 3)), some (.tmp 19, false)⟩,
 ⟨.tmp 21, .r (.load false 1 (.tmp 20)), some (.tmp 19, false)⟩,
 ⟨.tmp 22, .r (.len (.tmp 21)), some (.tmp 19, false)⟩,
 ⟨.tmp 23, .r (.mov (.loc 2)), some (.tmp 19, false)⟩,
 ⟨.tmp 24, .r (.bin .gtr (.tmp 22) (.tmp 23)), some (.tmp 19, false)⟩,
 ⟨.tmp 25, .r (.pick (.tmp 19) (.cst (.bool true)) (.tmp 24)), none⟩,
 ⟨.loc 6, .r (.mov (.tmp 25)), none⟩])
 .ret)), [(.tmp (.loc 6))]⟩

/-- glebe/glebekit.BigConf -/
def c_glebekit_BigConf : AFn := ⟨24, fun s => List.contains [0, 1, 2, 4] s, (.seq (.reg [⟨.loc 2, .h (.box (.loc 0)), none⟩,
 ⟨.loc 4, .r (.mov (.cst (.bool false))), none⟩])
 (.seq (.reg [⟨.tmp 5, .r (.off 0 (.loc 2)), none⟩,
 ⟨.tmp 6, .r (.load false 1 (.tmp 5)), none⟩,
 ⟨.tmp 7, .r (.len (.tmp 6)), none⟩,
 ⟨.tmp 8, .r (.mov (.loc 1)), none⟩,
 ⟨.tmp 9, .r (.bin .gtr (.tmp 7) (.tmp 8)), none⟩,
 ⟨.tmp 10, .r (.mov (.tmp 9)), none⟩,
 ⟨.tmp 11, .r (.off 1 (.loc 2)), some (.tmp 10, false)⟩,
 ⟨.tmp 12, .r (.load false 1 (.tmp 11)), some (.tmp 10, false)⟩,
 ⟨.tmp 13, .r (.len (.tmp 12)), some (.tmp 10, false)⟩,
 ⟨.tmp 14, .r (.mov (.loc 1)), some (.tmp 10, false)⟩,
 ⟨.tmp 15, .r (.bin .gtr (.tmp 13) (.tmp 14)), some (.tmp 10, false)⟩,
 ⟨.tmp 16, .r (.pick (.tmp 10) (.cst (.bool true)) (.tmp 15)), none⟩,
 ⟨.tmp 17, .r (.mov (.tmp 16)), none⟩,
 ⟨.tmp 18, .r (.off 2 (.loc 2)), some (.tmp 17, false)⟩,
 ⟨.tmp 19, .r (.load false 1 (.tmp 18)), some (.tmp 17, false)⟩,
 ⟨.tmp 20, .r (.len (.tmp 19)), some (.tmp 17, false)⟩,
 ⟨.tmp 21, .r (.mov (.loc 1)), some (.tmp 17, false)⟩,
 ⟨.tmp 22, .r (.bin .gtr (.tmp 20) (.tmp 21)), some (.tmp 17, false)⟩,
 ⟨.tmp 23, .r (.pick (.tmp 17) (.cst (.bool true)) (.tmp 22)), none⟩,
 ⟨.loc 4, .r (.mov (.tmp 23)), none⟩])
 .ret)), [(.tmp (.loc 4))]⟩

end Glb
