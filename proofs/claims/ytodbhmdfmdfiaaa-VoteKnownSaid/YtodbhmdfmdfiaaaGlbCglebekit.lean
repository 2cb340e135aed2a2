/-
  What functions of the program are, one by one (the functions that they call as parameters), in a form of which something can be shown.
-/
import Derived.Test.YtodbhmdfmdfiaaaGlbLibB
set_option linter.unusedSimpArgs false
set_option linter.unusedVariables false
namespace Glb
open Go
set_option maxRecDepth 100000

def c_glebekit_BigEntries_l0 : AC := (.seq (.seq (.reg [⟨.tmp 13, .r (.mov (.loc 8)), none⟩,
 ⟨.tmp 14, .r (.mov (.loc 0)), none⟩,
 ⟨.tmp 15, .r (.len (.tmp 14)), none⟩,
 ⟨.loc 16, .r (.bin .lss (.tmp 13) (.tmp 15)), none⟩])
 (.cond (.loc 16) .skip
 (.exit 0)))
 (.seq (.block 1 (.seq (.reg [⟨.tmp 19, .r (.mov (.loc 7)), none⟩,
 ⟨.tmp 20, .r (.mov (.loc 0)), none⟩,
 ⟨.tmp 21, .r (.mov (.loc 8)), none⟩,
 ⟨.tmp 22, .r (.idx 3 (.tmp 20) (.tmp 21)), none⟩,
 ⟨.tmp 23, .r (.off 2 (.tmp 22)), none⟩,
 ⟨.tmp 24, .r (.load false 1 (.tmp 23)), none⟩,
 ⟨.tmp 25, .r (.len (.tmp 24)), none⟩,
 ⟨.tmp 26, .r (.mov (.loc 2)), none⟩,
 ⟨.tmp 27, .r (.bin .add (.tmp 26) (.cst (.int .i64 1))), none⟩,
 ⟨.tmp 28, .r (.mnmx false [.tmp 25, .tmp 27]), none⟩,
 ⟨.tmp 29, .r (.bin .add (.tmp 19) (.tmp 28)), none⟩,
 ⟨.loc 7, .r (.mov (.tmp 29)), none⟩])
 (.seq (.reg [⟨.tmp 30, .r (.mov (.loc 7)), none⟩,
 ⟨.tmp 31, .r (.mov (.loc 2)), none⟩,
 ⟨.loc 32, .r (.bin .gtr (.tmp 30) (.tmp 31)), none⟩])
 (.cond (.loc 32) (.seq (.reg [⟨.loc 6, .r (.mov (.cst (.bool true))), none⟩])
 .ret)
 .skip))))
 (.reg [⟨.tmp 17, .r (.mov (.loc 8)), none⟩,
 ⟨.tmp 18, .r (.bin .add (.tmp 17) (.cst (.int .i64 1))), none⟩,
 ⟨.loc 8, .r (.mov (.tmp 18)), none⟩])))
/-- glebe/glebekit.BigEntries -/
def c_glebekit_BigEntries : AFn := ⟨33, fun s => List.contains [0, 1, 2, 6, 7, 8, 12, 16, 32] s, (.seq (.reg [⟨.loc 6, .r (.mov (.cst (.bool false))), none⟩])
 (.seq (.seq (.reg [⟨.tmp 9, .r (.mov (.loc 0)), none⟩,
 ⟨.tmp 10, .r (.len (.tmp 9)), none⟩,
 ⟨.tmp 11, .r (.mov (.loc 1)), none⟩,
 ⟨.loc 12, .r (.bin .gtr (.tmp 10) (.tmp 11)), none⟩])
 (.cond (.loc 12) (.seq (.reg [⟨.loc 6, .r (.mov (.cst (.bool true))), none⟩])
 .ret)
 .skip))
 (.seq (.reg [⟨.loc 7, .r (.mov (.cst (.int .i64 0))), none⟩])
 (.seq (.seq (.reg [⟨.loc 8, .r (.mov (.cst (.int .i64 0))), none⟩])
 (.block 0 (.loop (c_glebekit_BigEntries_l0))))
 (.seq (.reg [⟨.loc 6, .r (.mov (.cst (.bool false))), none⟩])
 .ret))))), [(.tmp (.loc 6))]⟩

/-- glebe/glebekit.SameLog -/
def c_glebekit_SameLog (f0 : FuncId) : AFn := ⟨24, fun s => List.contains [0, 1, 2, 3, 4] s, (.seq (.reg [⟨.loc 2, .h (.box (.loc 0)), none⟩,
 ⟨.loc 3, .h (.box (.loc 1)), none⟩,
 ⟨.loc 4, .r (.mov (.cst (.bool false))), none⟩])
 (.seq (.reg [⟨.tmp 5, .r (.off 0 (.loc 2)), none⟩,
 ⟨.tmp 6, .r (.load false 1 (.tmp 5)), none⟩,
 ⟨.tmp 7, .r (.off 0 (.loc 3)), none⟩,
 ⟨.tmp 8, .r (.load false 1 (.tmp 7)), none⟩,
 ⟨.tmp 9, .r (.bin .eql (.tmp 6) (.tmp 8)), none⟩,
 ⟨.tmp 10, .r (.mov (.tmp 9)), none⟩,
 ⟨.tmp 11, .r (.off 1 (.loc 2)), some (.tmp 10, true)⟩,
 ⟨.tmp 12, .r (.load false 1 (.tmp 11)), some (.tmp 10, true)⟩,
 ⟨.tmp 13, .r (.off 1 (.loc 3)), some (.tmp 10, true)⟩,
 ⟨.tmp 14, .r (.load false 1 (.tmp 13)), some (.tmp 10, true)⟩,
 ⟨.tmp 15, .r (.bin .eql (.tmp 12) (.tmp 14)), some (.tmp 10, true)⟩,
 ⟨.tmp 16, .r (.pick (.tmp 10) (.tmp 15) (.cst (.bool false))), none⟩,
 ⟨.tmp 17, .r (.mov (.tmp 16)), none⟩,
 ⟨.tmp 18, .r (.off 2 (.loc 2)), some (.tmp 17, true)⟩,
 ⟨.tmp 19, .r (.load false 1 (.tmp 18)), some (.tmp 17, true)⟩,
 ⟨.tmp 20, .r (.off 2 (.loc 3)), some (.tmp 17, true)⟩,
 ⟨.tmp 21, .r (.load false 1 (.tmp 20)), some (.tmp 17, true)⟩,
 ⟨.tmp 22, .call f0 [.tmp 19, .tmp 21], some (.tmp 17, true)⟩,
 ⟨.tmp 23, .r (.pick (.tmp 17) (.tmp 22) (.cst (.bool false))), none⟩,
 ⟨.loc 4, .r (.mov (.tmp 23)), none⟩])
 .ret)), [(.tmp (.loc 4))]⟩

def c_glebekit_SameEntries_l0 (f0 : FuncId) : AC := (.seq (.seq (.reg [⟨.tmp 11, .r (.mov (.loc 5)), none⟩,
 ⟨.tmp 12, .r (.mov (.loc 0)), none⟩,
 ⟨.tmp 13, .r (.len (.tmp 12)), none⟩,
 ⟨.loc 14, .r (.bin .lss (.tmp 11) (.tmp 13)), none⟩])
 (.cond (.loc 14) .skip
 (.exit 0)))
 (.seq (.block 1 (.seq (.dreg ⟨[0, 0, 3, 7, 0, 0, 48, 112, 255, 511], 0, [⟨0, 0, false, .r (.mov (.loc 0)), none⟩,
 ⟨1, 0, false, .r (.mov (.loc 5)), none⟩,
 ⟨2, 0, false, .r (.idx 3 (.tmp 0) (.tmp 1)), none⟩,
 ⟨3, 0, false, .r (.load true 3 (.tmp 2)), none⟩,
 ⟨4, 0, false, .r (.mov (.loc 1)), none⟩,
 ⟨5, 0, false, .r (.mov (.loc 5)), none⟩,
 ⟨6, 0, false, .r (.idx 3 (.tmp 4) (.tmp 5)), none⟩,
 ⟨7, 0, false, .r (.load true 3 (.tmp 6)), none⟩,
 ⟨8, 0, true, .call f0 [.tmp 3, .tmp 7], none⟩,
 ⟨9, 0, false, .r (.not (.tmp 8)), none⟩], [(26, 9)]⟩)
 (.cond (.loc 26) (.seq (.reg [⟨.loc 4, .r (.mov (.cst (.bool false))), none⟩])
 .ret)
 .skip)))
 (.reg [⟨.tmp 15, .r (.mov (.loc 5)), none⟩,
 ⟨.tmp 16, .r (.bin .add (.tmp 15) (.cst (.int .i64 1))), none⟩,
 ⟨.loc 5, .r (.mov (.tmp 16)), none⟩])))
/-- glebe/glebekit.SameEntries -/
def c_glebekit_SameEntries (f0 : FuncId) : AFn := ⟨27, fun s => List.contains [0, 1, 4, 5, 10, 14, 26] s, (.seq (.reg [⟨.loc 4, .r (.mov (.cst (.bool false))), none⟩])
 (.seq (.seq (.reg [⟨.tmp 6, .r (.mov (.loc 0)), none⟩,
 ⟨.tmp 7, .r (.len (.tmp 6)), none⟩,
 ⟨.tmp 8, .r (.mov (.loc 1)), none⟩,
 ⟨.tmp 9, .r (.len (.tmp 8)), none⟩,
 ⟨.loc 10, .r (.bin .neq (.tmp 7) (.tmp 9)), none⟩])
 (.cond (.loc 10) (.seq (.reg [⟨.loc 4, .r (.mov (.cst (.bool false))), none⟩])
 .ret)
 .skip))
 (.seq (.seq (.reg [⟨.loc 5, .r (.mov (.cst (.int .i64 0))), none⟩])
 (.block 0 (.loop (c_glebekit_SameEntries_l0 f0))))
 (.seq (.reg [⟨.loc 4, .r (.mov (.cst (.bool true))), none⟩])
 .ret)))), [(.tmp (.loc 4))]⟩

/-- glebe/glebekit.CopyLog -/
def c_glebekit_CopyLog (f0 : FuncId) : AFn := ⟨8, fun s => List.contains [0, 1, 2] s, (.seq (.reg [⟨.loc 1, .h (.box (.loc 0)), none⟩,
 ⟨.loc 2, .h (.mk [(.int .i64 0), (.int .i64 0), .nils]), none⟩])
 (.seq (.reg [⟨.tmp 3, .r (.off 2 (.loc 1)), none⟩,
 ⟨.tmp 4, .r (.load false 1 (.tmp 3)), none⟩,
 ⟨.tmp 5, .call f0 [.tmp 4], none⟩,
 ⟨.tmp 6, .r (.off 2 (.loc 1)), none⟩,
 ⟨.none, .h (.store 1 (.tmp 6) (.tmp 5)), none⟩])
 (.seq (.reg [⟨.tmp 7, .r (.load true 3 (.loc 1)), none⟩,
 ⟨.none, .h (.store 3 (.loc 2) (.tmp 7)), none⟩])
 .ret))), [(.cell (.loc 2) true 3)]⟩

def c_glebekit_CopyEntries_l0 (f0 : FuncId) : AC := (.seq (.seq (.reg [⟨.tmp 5, .r (.mov (.loc 4)), none⟩,
 ⟨.tmp 6, .r (.mov (.loc 0)), none⟩,
 ⟨.tmp 7, .r (.len (.tmp 6)), none⟩,
 ⟨.loc 8, .r (.bin .lss (.tmp 5) (.tmp 7)), none⟩])
 (.cond (.loc 8) .skip
 (.exit 0)))
 (.seq (.block 1 (.dreg ⟨[0, 0, 0, 6, 14, 30, 0, 0, 192, 448, 960, 0, 0, 6144, 14336, 30720, 63488, 131070, 262142, 524287, 1048575], 1, [⟨0, 0, false, .r (.mov (.loc 3)), none⟩,
 ⟨1, 0, false, .r (.mov (.loc 0)), none⟩,
 ⟨2, 0, false, .r (.mov (.loc 4)), none⟩,
 ⟨3, 0, false, .r (.idx 3 (.tmp 1) (.tmp 2)), none⟩,
 ⟨4, 0, false, .r (.off 0 (.tmp 3)), none⟩,
 ⟨5, 0, false, .r (.load false 1 (.tmp 4)), none⟩,
 ⟨6, 0, false, .r (.mov (.loc 0)), none⟩,
 ⟨7, 0, false, .r (.mov (.loc 4)), none⟩,
 ⟨8, 0, false, .r (.idx 3 (.tmp 6) (.tmp 7)), none⟩,
 ⟨9, 0, false, .r (.off 1 (.tmp 8)), none⟩,
 ⟨10, 0, false, .r (.load false 1 (.tmp 9)), none⟩,
 ⟨11, 0, false, .r (.mov (.loc 0)), none⟩,
 ⟨12, 0, false, .r (.mov (.loc 4)), none⟩,
 ⟨13, 0, false, .r (.idx 3 (.tmp 11) (.tmp 12)), none⟩,
 ⟨14, 0, false, .r (.off 2 (.tmp 13)), none⟩,
 ⟨15, 0, false, .r (.load false 1 (.tmp 14)), none⟩,
 ⟨16, 0, true, .call f0 [.tmp 15], none⟩,
 ⟨17, 0, false, .r (.build [(.int .i64 0), (.int .i64 0), .nils] [(0, 1, .tmp 5), (1, 1, .tmp 10), (2, 1, .tmp 16)]), none⟩,
 ⟨18, 0, false, .h (.bsl 3 [.tmp 17]), none⟩,
 ⟨19, 1, true, .h (.app 3 40 (.tmp 0) (.tmp 18)), none⟩,
 ⟨20, 1, false, .r (.mov (.tmp 19)), none⟩], [(3, 20)]⟩))
 (.reg [⟨.tmp 9, .r (.mov (.loc 4)), none⟩,
 ⟨.tmp 10, .r (.bin .add (.tmp 9) (.cst (.int .i64 1))), none⟩,
 ⟨.loc 4, .r (.mov (.tmp 10)), none⟩])))
/-- glebe/glebekit.CopyEntries -/
def c_glebekit_CopyEntries (f0 : FuncId) : AFn := ⟨32, fun s => List.contains [0, 2, 3, 4, 8] s, (.seq (.reg [⟨.loc 2, .r (.mov (.cst .nils)), none⟩])
 (.seq (.reg [⟨.loc 3, .r (.mov (.cst .nils)), none⟩])
 (.seq (.seq (.reg [⟨.loc 4, .r (.mov (.cst (.int .i64 0))), none⟩])
 (.block 0 (.loop (c_glebekit_CopyEntries_l0 f0))))
 (.seq (.reg [⟨.tmp 31, .r (.mov (.loc 3)), none⟩,
 ⟨.loc 2, .r (.mov (.tmp 31)), none⟩])
 .ret)))), [(.tmp (.loc 2))]⟩

/-- glebe/glebekit.SameEntry -/
def c_glebekit_SameEntry (f0 : FuncId) : AFn := ⟨24, fun s => List.contains [0, 1, 2, 3, 4] s, (.seq (.reg [⟨.loc 2, .h (.box (.loc 0)), none⟩,
 ⟨.loc 3, .h (.box (.loc 1)), none⟩,
 ⟨.loc 4, .r (.mov (.cst (.bool false))), none⟩])
 (.seq (.reg [⟨.tmp 5, .r (.off 0 (.loc 2)), none⟩,
 ⟨.tmp 6, .r (.load false 1 (.tmp 5)), none⟩,
 ⟨.tmp 7, .r (.off 0 (.loc 3)), none⟩,
 ⟨.tmp 8, .r (.load false 1 (.tmp 7)), none⟩,
 ⟨.tmp 9, .r (.bin .eql (.tmp 6) (.tmp 8)), none⟩,
 ⟨.tmp 10, .r (.mov (.tmp 9)), none⟩,
 ⟨.tmp 11, .r (.off 1 (.loc 2)), some (.tmp 10, true)⟩,
 ⟨.tmp 12, .r (.load false 1 (.tmp 11)), some (.tmp 10, true)⟩,
 ⟨.tmp 13, .r (.off 1 (.loc 3)), some (.tmp 10, true)⟩,
 ⟨.tmp 14, .r (.load false 1 (.tmp 13)), some (.tmp 10, true)⟩,
 ⟨.tmp 15, .r (.bin .eql (.tmp 12) (.tmp 14)), some (.tmp 10, true)⟩,
 ⟨.tmp 16, .r (.pick (.tmp 10) (.tmp 15) (.cst (.bool false))), none⟩,
 ⟨.tmp 17, .r (.mov (.tmp 16)), none⟩,
 ⟨.tmp 18, .r (.off 2 (.loc 2)), some (.tmp 17, true)⟩,
 ⟨.tmp 19, .r (.load false 1 (.tmp 18)), some (.tmp 17, true)⟩,
 ⟨.tmp 20, .r (.off 2 (.loc 3)), some (.tmp 17, true)⟩,
 ⟨.tmp 21, .r (.load false 1 (.tmp 20)), some (.tmp 17, true)⟩,
 ⟨.tmp 22, .call f0 [.tmp 19, .tmp 21], some (.tmp 17, true)⟩,
 ⟨.tmp 23, .r (.pick (.tmp 17) (.tmp 22) (.cst (.bool false))), none⟩,
 ⟨.loc 4, .r (.mov (.tmp 23)), none⟩])
 .ret)), [(.tmp (.loc 4))]⟩

def c_glebekit_CopyBytes_l0 : AC := (.seq (.seq (.reg [⟨.tmp 5, .r (.mov (.loc 4)), none⟩,
 ⟨.tmp 6, .r (.mov (.loc 0)), none⟩,
 ⟨.tmp 7, .r (.len (.tmp 6)), none⟩,
 ⟨.loc 8, .r (.bin .lss (.tmp 5) (.tmp 7)), none⟩])
 (.cond (.loc 8) .skip
 (.exit 0)))
 (.seq (.block 1 (.reg [⟨.tmp 11, .r (.mov (.loc 3)), none⟩,
 ⟨.tmp 12, .r (.mov (.loc 0)), none⟩,
 ⟨.tmp 13, .r (.mov (.loc 4)), none⟩,
 ⟨.tmp 14, .r (.idx 1 (.tmp 12) (.tmp 13)), none⟩,
 ⟨.tmp 15, .r (.load false 1 (.tmp 14)), none⟩,
 ⟨.tmp 16, .h (.bsl 1 [.tmp 15]), none⟩,
 ⟨.tmp 17, .h (.app 1 1 (.tmp 11) (.tmp 16)), none⟩,
 ⟨.loc 3, .r (.mov (.tmp 17)), none⟩]))
 (.reg [⟨.tmp 9, .r (.mov (.loc 4)), none⟩,
 ⟨.tmp 10, .r (.bin .add (.tmp 9) (.cst (.int .i64 1))), none⟩,
 ⟨.loc 4, .r (.mov (.tmp 10)), none⟩])))
/-- glebe/glebekit.CopyBytes -/
def c_glebekit_CopyBytes : AFn := ⟨19, fun s => List.contains [0, 2, 3, 4, 8] s, (.seq (.reg [⟨.loc 2, .r (.mov (.cst .nils)), none⟩])
 (.seq (.reg [⟨.loc 3, .r (.mov (.cst .nils)), none⟩])
 (.seq (.seq (.reg [⟨.loc 4, .r (.mov (.cst (.int .i64 0))), none⟩])
 (.block 0 (.loop (c_glebekit_CopyBytes_l0))))
 (.seq (.reg [⟨.tmp 18, .r (.mov (.loc 3)), none⟩,
 ⟨.loc 2, .r (.mov (.tmp 18)), none⟩])
 .ret)))), [(.tmp (.loc 2))]⟩

def c_glebekit_SameBytes_l0 : AC := (.seq (.seq (.reg [⟨.tmp 11, .r (.mov (.loc 5)), none⟩,
 ⟨.tmp 12, .r (.mov (.loc 0)), none⟩,
 ⟨.tmp 13, .r (.len (.tmp 12)), none⟩,
 ⟨.loc 14, .r (.bin .lss (.tmp 11) (.tmp 13)), none⟩])
 (.cond (.loc 14) .skip
 (.exit 0)))
 (.seq (.block 1 (.seq (.dreg ⟨[0, 0, 3, 7, 0, 0, 48, 112, 255], 0, [⟨0, 0, false, .r (.mov (.loc 0)), none⟩,
 ⟨1, 0, false, .r (.mov (.loc 5)), none⟩,
 ⟨2, 0, false, .r (.idx 1 (.tmp 0) (.tmp 1)), none⟩,
 ⟨3, 0, false, .r (.load false 1 (.tmp 2)), none⟩,
 ⟨4, 0, false, .r (.mov (.loc 1)), none⟩,
 ⟨5, 0, false, .r (.mov (.loc 5)), none⟩,
 ⟨6, 0, false, .r (.idx 1 (.tmp 4) (.tmp 5)), none⟩,
 ⟨7, 0, false, .r (.load false 1 (.tmp 6)), none⟩,
 ⟨8, 0, false, .r (.bin .neq (.tmp 3) (.tmp 7)), none⟩], [(25, 8)]⟩)
 (.cond (.loc 25) (.seq (.reg [⟨.loc 4, .r (.mov (.cst (.bool false))), none⟩])
 .ret)
 .skip)))
 (.reg [⟨.tmp 15, .r (.mov (.loc 5)), none⟩,
 ⟨.tmp 16, .r (.bin .add (.tmp 15) (.cst (.int .i64 1))), none⟩,
 ⟨.loc 5, .r (.mov (.tmp 16)), none⟩])))
/-- glebe/glebekit.SameBytes -/
def c_glebekit_SameBytes : AFn := ⟨26, fun s => List.contains [0, 1, 4, 5, 10, 14, 25] s, (.seq (.reg [⟨.loc 4, .r (.mov (.cst (.bool false))), none⟩])
 (.seq (.seq (.reg [⟨.tmp 6, .r (.mov (.loc 0)), none⟩,
 ⟨.tmp 7, .r (.len (.tmp 6)), none⟩,
 ⟨.tmp 8, .r (.mov (.loc 1)), none⟩,
 ⟨.tmp 9, .r (.len (.tmp 8)), none⟩,
 ⟨.loc 10, .r (.bin .neq (.tmp 7) (.tmp 9)), none⟩])
 (.cond (.loc 10) (.seq (.reg [⟨.loc 4, .r (.mov (.cst (.bool false))), none⟩])
 .ret)
 .skip))
 (.seq (.seq (.reg [⟨.loc 5, .r (.mov (.cst (.int .i64 0))), none⟩])
 (.block 0 (.loop (c_glebekit_SameBytes_l0))))
 (.seq (.reg [⟨.loc 4, .r (.mov (.cst (.bool true))), none⟩])
 .ret)))), [(.tmp (.loc 4))]⟩

def c_glebekit_CopyInts_l0 : AC := (.seq (.seq (.reg [⟨.tmp 5, .r (.mov (.loc 4)), none⟩,
 ⟨.tmp 6, .r (.mov (.loc 0)), none⟩,
 ⟨.tmp 7, .r (.len (.tmp 6)), none⟩,
 ⟨.loc 8, .r (.bin .lss (.tmp 5) (.tmp 7)), none⟩])
 (.cond (.loc 8) .skip
 (.exit 0)))
 (.seq (.block 1 (.reg [⟨.tmp 11, .r (.mov (.loc 3)), none⟩,
 ⟨.tmp 12, .r (.mov (.loc 0)), none⟩,
 ⟨.tmp 13, .r (.mov (.loc 4)), none⟩,
 ⟨.tmp 14, .r (.idx 1 (.tmp 12) (.tmp 13)), none⟩,
 ⟨.tmp 15, .r (.load false 1 (.tmp 14)), none⟩,
 ⟨.tmp 16, .h (.bsl 1 [.tmp 15]), none⟩,
 ⟨.tmp 17, .h (.app 1 8 (.tmp 11) (.tmp 16)), none⟩,
 ⟨.loc 3, .r (.mov (.tmp 17)), none⟩]))
 (.reg [⟨.tmp 9, .r (.mov (.loc 4)), none⟩,
 ⟨.tmp 10, .r (.bin .add (.tmp 9) (.cst (.int .i64 1))), none⟩,
 ⟨.loc 4, .r (.mov (.tmp 10)), none⟩])))
/-- glebe/glebekit.CopyInts -/
def c_glebekit_CopyInts : AFn := ⟨19, fun s => List.contains [0, 2, 3, 4, 8] s, (.seq (.reg [⟨.loc 2, .r (.mov (.cst .nils)), none⟩])
 (.seq (.reg [⟨.loc 3, .r (.mov (.cst .nils)), none⟩])
 (.seq (.seq (.reg [⟨.loc 4, .r (.mov (.cst (.int .i64 0))), none⟩])
 (.block 0 (.loop (c_glebekit_CopyInts_l0))))
 (.seq (.reg [⟨.tmp 18, .r (.mov (.loc 3)), none⟩,
 ⟨.loc 2, .r (.mov (.tmp 18)), none⟩])
 .ret)))), [(.tmp (.loc 2))]⟩

/-- glebe/glebekit.Pick -/
def c_glebekit_Pick : AFn := ⟨16, fun s => List.contains [0, 1, 4, 6, 11] s, (.seq (.reg [⟨.loc 4, .r (.mov (.cst (.int .i64 0))), none⟩])
 (.seq (.seq (.reg [⟨.tmp 5, .r (.mov (.loc 1)), none⟩,
 ⟨.loc 6, .r (.bin .lss (.tmp 5) (.cst (.int .i64 1))), none⟩])
 (.cond (.loc 6) (.seq (.reg [⟨.loc 4, .r (.mov (.cst (.int .i64 0))), none⟩])
 .ret)
 .skip))
 (.seq (.reg [⟨.tmp 7, .r (.mov (.loc 0)), none⟩,
 ⟨.tmp 8, .r (.mov (.loc 1)), none⟩,
 ⟨.tmp 9, .r (.bin .rem (.tmp 7) (.tmp 8)), none⟩,
 ⟨.loc 0, .r (.mov (.tmp 9)), none⟩])
 (.seq (.seq (.reg [⟨.tmp 10, .r (.mov (.loc 0)), none⟩,
 ⟨.loc 11, .r (.bin .lss (.tmp 10) (.cst (.int .i64 0))), none⟩])
 (.cond (.loc 11) (.reg [⟨.tmp 12, .r (.mov (.loc 0)), none⟩,
 ⟨.tmp 13, .r (.mov (.loc 1)), none⟩,
 ⟨.tmp 14, .r (.bin .add (.tmp 12) (.tmp 13)), none⟩,
 ⟨.loc 0, .r (.mov (.tmp 14)), none⟩])
 .skip))
 (.seq (.reg [⟨.tmp 15, .r (.mov (.loc 0)), none⟩,
 ⟨.loc 4, .r (.mov (.tmp 15)), none⟩])
 .ret))))), [(.tmp (.loc 4))]⟩

/-- glebe/glebekit.SameMsg -/
def c_glebekit_SameMsg (f0 f1 : FuncId) : AFn := ⟨124, fun s => List.contains [0, 1, 2, 3, 4, 5] s, (.seq (.reg [⟨.loc 2, .h (.box (.loc 0)), none⟩,
 ⟨.loc 3, .h (.box (.loc 1)), none⟩,
 ⟨.loc 4, .r (.mov (.cst (.bool false))), none⟩])
 (.seq (.reg [⟨.tmp 6, .r (.off 0 (.loc 2)), none⟩,
 ⟨.tmp 7, .r (.load false 1 (.tmp 6)), none⟩,
 ⟨.tmp 8, .r (.off 0 (.loc 3)), none⟩,
 ⟨.tmp 9, .r (.load false 1 (.tmp 8)), none⟩,
 ⟨.tmp 10, .r (.bin .eql (.tmp 7) (.tmp 9)), none⟩,
 ⟨.tmp 11, .r (.mov (.tmp 10)), none⟩,
 ⟨.tmp 12, .r (.off 1 (.loc 2)), some (.tmp 11, true)⟩,
 ⟨.tmp 13, .r (.load false 1 (.tmp 12)), some (.tmp 11, true)⟩,
 ⟨.tmp 14, .r (.off 1 (.loc 3)), some (.tmp 11, true)⟩,
 ⟨.tmp 15, .r (.load false 1 (.tmp 14)), some (.tmp 11, true)⟩,
 ⟨.tmp 16, .r (.bin .eql (.tmp 13) (.tmp 15)), some (.tmp 11, true)⟩,
 ⟨.tmp 17, .r (.pick (.tmp 11) (.tmp 16) (.cst (.bool false))), none⟩,
 ⟨.tmp 18, .r (.mov (.tmp 17)), none⟩,
 ⟨.tmp 19, .r (.off 2 (.loc 2)), some (.tmp 18, true)⟩,
 ⟨.tmp 20, .r (.load false 1 (.tmp 19)), some (.tmp 18, true)⟩,
 ⟨.tmp 21, .r (.off 2 (.loc 3)), some (.tmp 18, true)⟩,
 ⟨.tmp 22, .r (.load false 1 (.tmp 21)), some (.tmp 18, true)⟩,
 ⟨.tmp 23, .r (.bin .eql (.tmp 20) (.tmp 22)), some (.tmp 18, true)⟩,
 ⟨.tmp 24, .r (.pick (.tmp 18) (.tmp 23) (.cst (.bool false))), none⟩,
 ⟨.tmp 25, .r (.mov (.tmp 24)), none⟩,
 ⟨.tmp 26, .r (.off 3 (.loc 2)), some (.tmp 25, true)⟩,
 ⟨.tmp 27, .r (.load false 1 (.tmp 26)), some (.tmp 25, true)⟩,
 ⟨.tmp 28, .r (.off 3 (.loc 3)), some (.tmp 25, true)⟩,
 ⟨.tmp 29, .r (.load false 1 (.tmp 28)), some (.tmp 25, true)⟩,
 ⟨.tmp 30, .r (.bin .eql (.tmp 27) (.tmp 29)), some (.tmp 25, true)⟩,
 ⟨.tmp 31, .r (.pick (.tmp 25) (.tmp 30) (.cst (.bool false))), none⟩,
 ⟨.tmp 32, .r (.mov (.tmp 31)), none⟩,
 ⟨.tmp 33, .r (.off 4 (.loc 2)), some (.tmp 32, true)⟩,
 ⟨.tmp 34, .r (.load false 1 (.tmp 33)), some (.tmp 32, true)⟩,
 ⟨.tmp 35, .r (.off 4 (.loc 3)), some (.tmp 32, true)⟩,
 ⟨.tmp 36, .r (.load false 1 (.tmp 35)), some (.tmp 32, true)⟩,
 ⟨.tmp 37, .r (.bin .eql (.tmp 34) (.tmp 36)), some (.tmp 32, true)⟩,
 ⟨.tmp 38, .r (.pick (.tmp 32) (.tmp 37) (.cst (.bool false))), none⟩,
 ⟨.tmp 39, .r (.mov (.tmp 38)), none⟩,
 ⟨.tmp 40, .r (.off 5 (.loc 2)), some (.tmp 39, true)⟩,
 ⟨.tmp 41, .r (.load false 1 (.tmp 40)), some (.tmp 39, true)⟩,
 ⟨.tmp 42, .r (.off 5 (.loc 3)), some (.tmp 39, true)⟩,
 ⟨.tmp 43, .r (.load false 1 (.tmp 42)), some (.tmp 39, true)⟩,
 ⟨.tmp 44, .r (.bin .eql (.tmp 41) (.tmp 43)), some (.tmp 39, true)⟩,
 ⟨.tmp 45, .r (.pick (.tmp 39) (.tmp 44) (.cst (.bool false))), none⟩,
 ⟨.tmp 46, .r (.mov (.tmp 45)), none⟩,
 ⟨.tmp 47, .r (.off 6 (.loc 2)), some (.tmp 46, true)⟩,
 ⟨.tmp 48, .r (.load false 1 (.tmp 47)), some (.tmp 46, true)⟩,
 ⟨.tmp 49, .r (.off 6 (.loc 3)), some (.tmp 46, true)⟩,
 ⟨.tmp 50, .r (.load false 1 (.tmp 49)), some (.tmp 46, true)⟩,
 ⟨.tmp 51, .r (.bin .eql (.tmp 48) (.tmp 50)), some (.tmp 46, true)⟩,
 ⟨.tmp 52, .r (.pick (.tmp 46) (.tmp 51) (.cst (.bool false))), none⟩,
 ⟨.tmp 53, .r (.mov (.tmp 52)), none⟩,
 ⟨.tmp 54, .r (.off 7 (.loc 2)), some (.tmp 53, true)⟩,
 ⟨.tmp 55, .r (.load false 1 (.tmp 54)), some (.tmp 53, true)⟩,
 ⟨.tmp 56, .r (.off 7 (.loc 3)), some (.tmp 53, true)⟩,
 ⟨.tmp 57, .r (.load false 1 (.tmp 56)), some (.tmp 53, true)⟩,
 ⟨.tmp 58, .r (.bin .eql (.tmp 55) (.tmp 57)), some (.tmp 53, true)⟩,
 ⟨.tmp 59, .r (.pick (.tmp 53) (.tmp 58) (.cst (.bool false))), none⟩,
 ⟨.tmp 60, .r (.mov (.tmp 59)), none⟩,
 ⟨.tmp 61, .r (.off 8 (.loc 2)), some (.tmp 60, true)⟩,
 ⟨.tmp 62, .r (.load false 1 (.tmp 61)), some (.tmp 60, true)⟩,
 ⟨.tmp 63, .r (.off 8 (.loc 3)), some (.tmp 60, true)⟩,
 ⟨.tmp 64, .r (.load false 1 (.tmp 63)), some (.tmp 60, true)⟩,
 ⟨.tmp 65, .r (.bin .eql (.tmp 62) (.tmp 64)), some (.tmp 60, true)⟩,
 ⟨.tmp 66, .r (.pick (.tmp 60) (.tmp 65) (.cst (.bool false))), none⟩,
 ⟨.loc 5, .r (.mov (.tmp 66)), none⟩])
 (.seq (.reg [⟨.tmp 67, .r (.mov (.loc 5)), none⟩,
 ⟨.tmp 68, .r (.mov (.tmp 67)), none⟩,
 ⟨.tmp 69, .r (.off 9 (.loc 2)), some (.tmp 68, true)⟩,
 ⟨.tmp 70, .r (.load false 1 (.tmp 69)), some (.tmp 68, true)⟩,
 ⟨.tmp 71, .r (.off 9 (.loc 3)), some (.tmp 68, true)⟩,
 ⟨.tmp 72, .r (.load false 1 (.tmp 71)), some (.tmp 68, true)⟩,
 ⟨.tmp 73, .r (.bin .eql (.tmp 70) (.tmp 72)), some (.tmp 68, true)⟩,
 ⟨.tmp 74, .r (.pick (.tmp 68) (.tmp 73) (.cst (.bool false))), none⟩,
 ⟨.tmp 75, .r (.mov (.tmp 74)), none⟩,
 ⟨.tmp 76, .r (.off 10 (.loc 2)), some (.tmp 75, true)⟩,
 ⟨.tmp 77, .r (.load false 1 (.tmp 76)), some (.tmp 75, true)⟩,
 ⟨.tmp 78, .r (.off 10 (.loc 3)), some (.tmp 75, true)⟩,
 ⟨.tmp 79, .r (.load false 1 (.tmp 78)), some (.tmp 75, true)⟩,
 ⟨.tmp 80, .r (.bin .eql (.tmp 77) (.tmp 79)), some (.tmp 75, true)⟩,
 ⟨.tmp 81, .r (.pick (.tmp 75) (.tmp 80) (.cst (.bool false))), none⟩,
 ⟨.tmp 82, .r (.mov (.tmp 81)), none⟩,
 ⟨.tmp 83, .r (.off 11 (.loc 2)), some (.tmp 82, true)⟩,
 ⟨.tmp 84, .r (.load false 1 (.tmp 83)), some (.tmp 82, true)⟩,
 ⟨.tmp 85, .r (.off 11 (.loc 3)), some (.tmp 82, true)⟩,
 ⟨.tmp 86, .r (.load false 1 (.tmp 85)), some (.tmp 82, true)⟩,
 ⟨.tmp 87, .r (.bin .eql (.tmp 84) (.tmp 86)), some (.tmp 82, true)⟩,
 ⟨.tmp 88, .r (.pick (.tmp 82) (.tmp 87) (.cst (.bool false))), none⟩,
 ⟨.tmp 89, .r (.mov (.tmp 88)), none⟩,
 ⟨.tmp 90, .r (.off 12 (.loc 2)), some (.tmp 89, true)⟩,
 ⟨.tmp 91, .r (.load false 1 (.tmp 90)), some (.tmp 89, true)⟩,
 ⟨.tmp 92, .r (.off 12 (.loc 3)), some (.tmp 89, true)⟩,
 ⟨.tmp 93, .r (.load false 1 (.tmp 92)), some (.tmp 89, true)⟩,
 ⟨.tmp 94, .r (.bin .eql (.tmp 91) (.tmp 93)), some (.tmp 89, true)⟩,
 ⟨.tmp 95, .r (.pick (.tmp 89) (.tmp 94) (.cst (.bool false))), none⟩,
 ⟨.tmp 96, .r (.mov (.tmp 95)), none⟩,
 ⟨.tmp 97, .r (.off 13 (.loc 2)), some (.tmp 96, true)⟩,
 ⟨.tmp 98, .r (.load false 1 (.tmp 97)), some (.tmp 96, true)⟩,
 ⟨.tmp 99, .r (.off 13 (.loc 3)), some (.tmp 96, true)⟩,
 ⟨.tmp 100, .r (.load false 1 (.tmp 99)), some (.tmp 96, true)⟩,
 ⟨.tmp 101, .r (.bin .eql (.tmp 98) (.tmp 100)), some (.tmp 96, true)⟩,
 ⟨.tmp 102, .r (.pick (.tmp 96) (.tmp 101) (.cst (.bool false))), none⟩,
 ⟨.tmp 103, .r (.mov (.tmp 102)), none⟩,
 ⟨.tmp 104, .r (.off 14 (.loc 2)), some (.tmp 103, true)⟩,
 ⟨.tmp 105, .r (.load false 1 (.tmp 104)), some (.tmp 103, true)⟩,
 ⟨.tmp 106, .r (.off 14 (.loc 3)), some (.tmp 103, true)⟩,
 ⟨.tmp 107, .r (.load false 1 (.tmp 106)), some (.tmp 103, true)⟩,
 ⟨.tmp 108, .r (.beq .eql (.tmp 105) (.tmp 107)), some (.tmp 103, true)⟩,
 ⟨.tmp 109, .r (.pick (.tmp 103) (.tmp 108) (.cst (.bool false))), none⟩,
 ⟨.tmp 110, .r (.mov (.tmp 109)), none⟩,
 ⟨.tmp 111, .r (.off 15 (.loc 2)), some (.tmp 110, true)⟩,
 ⟨.tmp 112, .r (.load false 1 (.tmp 111)), some (.tmp 110, true)⟩,
 ⟨.tmp 113, .r (.off 15 (.loc 3)), some (.tmp 110, true)⟩,
 ⟨.tmp 114, .r (.load false 1 (.tmp 113)), some (.tmp 110, true)⟩,
 ⟨.tmp 115, .call f0 [.tmp 112, .tmp 114], some (.tmp 110, true)⟩,
 ⟨.tmp 116, .r (.pick (.tmp 110) (.tmp 115) (.cst (.bool false))), none⟩,
 ⟨.tmp 117, .r (.mov (.tmp 116)), none⟩,
 ⟨.tmp 118, .r (.off 16 (.loc 2)), some (.tmp 117, true)⟩,
 ⟨.tmp 119, .r (.load false 1 (.tmp 118)), some (.tmp 117, true)⟩,
 ⟨.tmp 120, .r (.off 16 (.loc 3)), some (.tmp 117, true)⟩,
 ⟨.tmp 121, .r (.load false 1 (.tmp 120)), some (.tmp 117, true)⟩,
 ⟨.tmp 122, .call f1 [.tmp 119, .tmp 121], some (.tmp 117, true)⟩,
 ⟨.tmp 123, .r (.pick (.tmp 117) (.tmp 122) (.cst (.bool false))), none⟩,
 ⟨.loc 4, .r (.mov (.tmp 123)), none⟩])
 .ret))), [(.tmp (.loc 4))]⟩

/-- glebe/glebekit.CopyConf -/
def c_glebekit_CopyConf (f0 : FuncId) : AFn := ⟨13, fun s => List.contains [0, 1, 2] s, (.seq (.reg [⟨.loc 1, .h (.box (.loc 0)), none⟩,
 ⟨.loc 2, .h (.mk [.nils, .nils, .nils]), none⟩])
 (.seq (.dreg ⟨[0, 1, 3, 0, 8, 31, 0, 64, 255, 511, 1023], 0, [⟨0, 0, false, .r (.off 0 (.loc 1)), none⟩,
 ⟨1, 0, false, .r (.load false 1 (.tmp 0)), none⟩,
 ⟨3, 0, false, .r (.off 1 (.loc 1)), none⟩,
 ⟨4, 0, false, .r (.load false 1 (.tmp 3)), none⟩,
 ⟨6, 0, false, .r (.off 2 (.loc 1)), none⟩,
 ⟨7, 0, false, .r (.load false 1 (.tmp 6)), none⟩,
 ⟨2, 0, true, .call f0 [.tmp 1], none⟩,
 ⟨5, 0, true, .call f0 [.tmp 4], none⟩,
 ⟨8, 0, true, .call f0 [.tmp 7], none⟩,
 ⟨9, 0, false, .r (.build [.nils, .nils, .nils] [(0, 1, .tmp 2), (1, 1, .tmp 5), (2, 1, .tmp 8)]), none⟩,
 ⟨10, 0, true, .h (.store 3 (.loc 2) (.tmp 9)), none⟩], []⟩)
 .ret)), [(.cell (.loc 2) true 3)]⟩

def c_glebekit_SameInts_l0 : AC := (.seq (.seq (.reg [⟨.tmp 11, .r (.mov (.loc 5)), none⟩,
 ⟨.tmp 12, .r (.mov (.loc 0)), none⟩,
 ⟨.tmp 13, .r (.len (.tmp 12)), none⟩,
 ⟨.loc 14, .r (.bin .lss (.tmp 11) (.tmp 13)), none⟩])
 (.cond (.loc 14) .skip
 (.exit 0)))
 (.seq (.block 1 (.seq (.dreg ⟨[0, 0, 3, 7, 0, 0, 48, 112, 255], 0, [⟨0, 0, false, .r (.mov (.loc 0)), none⟩,
 ⟨1, 0, false, .r (.mov (.loc 5)), none⟩,
 ⟨2, 0, false, .r (.idx 1 (.tmp 0) (.tmp 1)), none⟩,
 ⟨3, 0, false, .r (.load false 1 (.tmp 2)), none⟩,
 ⟨4, 0, false, .r (.mov (.loc 1)), none⟩,
 ⟨5, 0, false, .r (.mov (.loc 5)), none⟩,
 ⟨6, 0, false, .r (.idx 1 (.tmp 4) (.tmp 5)), none⟩,
 ⟨7, 0, false, .r (.load false 1 (.tmp 6)), none⟩,
 ⟨8, 0, false, .r (.bin .neq (.tmp 3) (.tmp 7)), none⟩], [(25, 8)]⟩)
 (.cond (.loc 25) (.seq (.reg [⟨.loc 4, .r (.mov (.cst (.bool false))), none⟩])
 .ret)
 .skip)))
 (.reg [⟨.tmp 15, .r (.mov (.loc 5)), none⟩,
 ⟨.tmp 16, .r (.bin .add (.tmp 15) (.cst (.int .i64 1))), none⟩,
 ⟨.loc 5, .r (.mov (.tmp 16)), none⟩])))
/-- glebe/glebekit.SameInts -/
def c_glebekit_SameInts : AFn := ⟨26, fun s => List.contains [0, 1, 4, 5, 10, 14, 25] s, (.seq (.reg [⟨.loc 4, .r (.mov (.cst (.bool false))), none⟩])
 (.seq (.seq (.reg [⟨.tmp 6, .r (.mov (.loc 0)), none⟩,
 ⟨.tmp 7, .r (.len (.tmp 6)), none⟩,
 ⟨.tmp 8, .r (.mov (.loc 1)), none⟩,
 ⟨.tmp 9, .r (.len (.tmp 8)), none⟩,
 ⟨.loc 10, .r (.bin .neq (.tmp 7) (.tmp 9)), none⟩])
 (.cond (.loc 10) (.seq (.reg [⟨.loc 4, .r (.mov (.cst (.bool false))), none⟩])
 .ret)
 .skip))
 (.seq (.seq (.reg [⟨.loc 5, .r (.mov (.cst (.int .i64 0))), none⟩])
 (.block 0 (.loop (c_glebekit_SameInts_l0))))
 (.seq (.reg [⟨.loc 4, .r (.mov (.cst (.bool true))), none⟩])
 .ret)))), [(.tmp (.loc 4))]⟩

/-- glebe/glebekit.SameConf -/
def c_glebekit_SameConf (f0 : FuncId) : AFn := ⟨24, fun s => List.contains [0, 1, 2, 3, 4] s, (.seq (.reg [⟨.loc 2, .h (.box (.loc 0)), none⟩,
 ⟨.loc 3, .h (.box (.loc 1)), none⟩,
 ⟨.loc 4, .r (.mov (.cst (.bool false))), none⟩])
 (.seq (.reg [⟨.tmp 5, .r (.off 0 (.loc 2)), none⟩,
 ⟨.tmp 6, .r (.load false 1 (.tmp 5)), none⟩,
 ⟨.tmp 7, .r (.off 0 (.loc 3)), none⟩,
 ⟨.tmp 8, .r (.load false 1 (.tmp 7)), none⟩,
 ⟨.tmp 9, .call f0 [.tmp 6, .tmp 8], none⟩,
 ⟨.tmp 10, .r (.mov (.tmp 9)), none⟩,
 ⟨.tmp 11, .r (.off 1 (.loc 2)), some (.tmp 10, true)⟩,
 ⟨.tmp 12, .r (.load false 1 (.tmp 11)), some (.tmp 10, true)⟩,
 ⟨.tmp 13, .r (.off 1 (.loc 3)), some (.tmp 10, true)⟩,
 ⟨.tmp 14, .r (.load false 1 (.tmp 13)), some (.tmp 10, true)⟩,
 ⟨.tmp 15, .call f0 [.tmp 12, .tmp 14], some (.tmp 10, true)⟩,
 ⟨.tmp 16, .r (.pick (.tmp 10) (.tmp 15) (.cst (.bool false))), none⟩,
 ⟨.tmp 17, .r (.mov (.tmp 16)), none⟩,
 ⟨.tmp 18, .r (.off 2 (.loc 2)), some (.tmp 17, true)⟩,
 ⟨.tmp 19, .r (.load false 1 (.tmp 18)), some (.tmp 17, true)⟩,
 ⟨.tmp 20, .r (.off 2 (.loc 3)), some (.tmp 17, true)⟩,
 ⟨.tmp 21, .r (.load false 1 (.tmp 20)), some (.tmp 17, true)⟩,
 ⟨.tmp 22, .call f0 [.tmp 19, .tmp 21], some (.tmp 17, true)⟩,
 ⟨.tmp 23, .r (.pick (.tmp 17) (.tmp 22) (.cst (.bool false))), none⟩,
 ⟨.loc 4, .r (.mov (.tmp 23)), none⟩])
 .ret)), [(.tmp (.loc 4))]⟩

/-- glebe/glebekit.BigConf -/
def c_glebekit_BigConf : AFn := ⟨24, fun s => List.contains [0, 1, 2, 4] s, (.seq (.reg [⟨.loc 2, .h (.box (.loc 0)), none⟩,
 ⟨.loc 4, .r (.mov (.cst (.bool false))), none⟩])
 (.seq (.reg [⟨.tmp 5, .r (.off 0 (.loc 2)), none⟩,
 ⟨.tmp 6, .r (.load false 1 (.tmp 5)), none⟩,
 ⟨.tmp 7, .r (.len (.tmp 6)), none⟩,
 ⟨.tmp 8, .r (.mov (.loc 1)), none⟩,
 ⟨.tmp 9, .r (.bin .gtr (.tmp 7) (.tmp 8)), none⟩,
 ⟨.tmp 10, .r (.mov (.tmp 9)), none⟩,
 ⟨.tmp 11, .r (.off 1 (.loc 2)), some (.tmp 10, false)⟩,
 ⟨.tmp 12, .r (.load false 1 (.tmp 11)), some (.tmp 10, false)⟩,
 ⟨.tmp 13, .r (.len (.tmp 12)), some (.tmp 10, false)⟩,
 ⟨.tmp 14, .r (.mov (.loc 1)), some (.tmp 10, false)⟩,
 ⟨.tmp 15, .r (.bin .gtr (.tmp 13) (.tmp 14)), some (.tmp 10, false)⟩,
 ⟨.tmp 16, .r (.pick (.tmp 10) (.cst (.bool true)) (.tmp 15)), none⟩,
 ⟨.tmp 17, .r (.mov (.tmp 16)), none⟩,
 ⟨.tmp 18, .r (.off 2 (.loc 2)), some (.tmp 17, false)⟩,
 ⟨.tmp 19, .r (.load false 1 (.tmp 18)), some (.tmp 17, false)⟩,
 ⟨.tmp 20, .r (.len (.tmp 19)), some (.tmp 17, false)⟩,
 ⟨.tmp 21, .r (.mov (.loc 1)), some (.tmp 17, false)⟩,
 ⟨.tmp 22, .r (.bin .gtr (.tmp 20) (.tmp 21)), some (.tmp 17, false)⟩,
 ⟨.tmp 23, .r (.pick (.tmp 17) (.cst (.bool true)) (.tmp 22)), none⟩,
 ⟨.loc 4, .r (.mov (.tmp 23)), none⟩])
 .ret)), [(.tmp (.loc 4))]⟩

def c_glebekit_SameMsgs_l0 (f0 : FuncId) : AC := (.seq (.seq (.reg [⟨.tmp 11, .r (.mov (.loc 5)), none⟩,
 ⟨.tmp 12, .r (.mov (.loc 0)), none⟩,
 ⟨.tmp 13, .r (.len (.tmp 12)), none⟩,
 ⟨.loc 14, .r (.bin .lss (.tmp 11) (.tmp 13)), none⟩])
 (.cond (.loc 14) .skip
 (.exit 0)))
 (.seq (.block 1 (.seq (.dreg ⟨[0, 0, 3, 7, 0, 0, 48, 112, 255, 511], 0, [⟨0, 0, false, .r (.mov (.loc 0)), none⟩,
 ⟨1, 0, false, .r (.mov (.loc 5)), none⟩,
 ⟨2, 0, false, .r (.idx 17 (.tmp 0) (.tmp 1)), none⟩,
 ⟨3, 0, false, .r (.load true 17 (.tmp 2)), none⟩,
 ⟨4, 0, false, .r (.mov (.loc 1)), none⟩,
 ⟨5, 0, false, .r (.mov (.loc 5)), none⟩,
 ⟨6, 0, false, .r (.idx 17 (.tmp 4) (.tmp 5)), none⟩,
 ⟨7, 0, false, .r (.load true 17 (.tmp 6)), none⟩,
 ⟨8, 0, true, .call f0 [.tmp 3, .tmp 7], none⟩,
 ⟨9, 0, false, .r (.not (.tmp 8)), none⟩], [(26, 9)]⟩)
 (.cond (.loc 26) (.seq (.reg [⟨.loc 4, .r (.mov (.cst (.bool false))), none⟩])
 .ret)
 .skip)))
 (.reg [⟨.tmp 15, .r (.mov (.loc 5)), none⟩,
 ⟨.tmp 16, .r (.bin .add (.tmp 15) (.cst (.int .i64 1))), none⟩,
 ⟨.loc 5, .r (.mov (.tmp 16)), none⟩])))
/-- glebe/glebekit.SameMsgs -/
def c_glebekit_SameMsgs (f0 : FuncId) : AFn := ⟨27, fun s => List.contains [0, 1, 4, 5, 10, 14, 26] s, (.seq (.reg [⟨.loc 4, .r (.mov (.cst (.bool false))), none⟩])
 (.seq (.seq (.reg [⟨.tmp 6, .r (.mov (.loc 0)), none⟩,
 ⟨.tmp 7, .r (.len (.tmp 6)), none⟩,
 ⟨.tmp 8, .r (.mov (.loc 1)), none⟩,
 ⟨.tmp 9, .r (.len (.tmp 8)), none⟩,
 ⟨.loc 10, .r (.bin .neq (.tmp 7) (.tmp 9)), none⟩])
 (.cond (.loc 10) (.seq (.reg [⟨.loc 4, .r (.mov (.cst (.bool false))), none⟩])
 .ret)
 .skip))
 (.seq (.seq (.reg [⟨.loc 5, .r (.mov (.cst (.int .i64 0))), none⟩])
 (.block 0 (.loop (c_glebekit_SameMsgs_l0 f0))))
 (.seq (.reg [⟨.loc 4, .r (.mov (.cst (.bool true))), none⟩])
 .ret)))), [(.tmp (.loc 4))]⟩

end Glb
