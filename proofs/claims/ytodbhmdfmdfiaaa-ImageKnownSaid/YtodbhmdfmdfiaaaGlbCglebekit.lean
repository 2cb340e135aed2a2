/-
  What functions of the program are, one by one (the functions that they call as parameters), in a form of which something can be shown.
-/
import Derived.Test.YtodbhmdfmdfiaaaGlbLibB
set_option linter.unusedSimpArgs false
set_option linter.unusedVariables false
namespace Glb
open Go
set_option maxRecDepth 100000

/-- glebe/glebekit.SameLog -/
def c_glebekit_SameLog (f0 : FuncId) : AFn := ⟨24, fun s => List.contains [0, 1, 2, 3, 4] s, (.seq (.reg [⟨.loc 2, .h (.box (.loc 0)), none⟩,
 ⟨.loc 3, .h (.box (.loc 1)), none⟩,
 ⟨.loc 4, .r (.mov (.cst (.bool false))), none⟩])
 (.seq (.reg [⟨.tmp 5, .r (.off 0 (.loc 2)), none⟩,
 ⟨.tmp 6, .r (.load false 1 (.tmp 5)), none⟩,
 ⟨.tmp 7, .r (.off 0 (.loc 3)), none⟩,
 ⟨.tmp 8, .r (.load false 1 (.tmp 7)), none⟩,
 ⟨.tmp 9, .r (.bin .eql (.tmp 6) (.tmp 8)), none⟩,
 ⟨.tmp 10, .r (.mov (.tmp 9)), none⟩,
 ⟨.tmp 11, .r (.off 1 (.loc 2)), some (.tmp 10, true)⟩,
 ⟨.tmp 12, .r (.load false 1 (.tmp 11)), some (.tmp 10, true)⟩,
 ⟨.tmp 13, .r (.off 1 (.loc 3)), some (.tmp 10, true)⟩,
 ⟨.tmp 14, .r (.load false 1 (.tmp 13)), some (.tmp 10, true)⟩,
 ⟨.tmp 15, .r (.bin .eql (.tmp 12) (.tmp 14)), some (.tmp 10, true)⟩,
 ⟨.tmp 16, .r (.pick (.tmp 10) (.tmp 15) (.cst (.bool false))), none⟩,
 ⟨.tmp 17, .r (.mov (.tmp 16)), none⟩,
 ⟨.tmp 18, .r (.off 2 (.loc 2)), some (.tmp 17, true)⟩,
 ⟨.tmp 19, .r (.load false 1 (.tmp 18)), some (.tmp 17, true)⟩,
 ⟨.tmp 20, .r (.off 2 (.loc 3)), some (.tmp 17, true)⟩,
 ⟨.tmp 21, .r (.load false 1 (.tmp 20)), some (.tmp 17, true)⟩,
 ⟨.tmp 22, .call f0 [.tmp 19, .tmp 21], some (.tmp 17, true)⟩,
 ⟨.tmp 23, .r (.pick (.tmp 17) (.tmp 22) (.cst (.bool false))), none⟩,
 ⟨.loc 4, .r (.mov (.tmp 23)), none⟩])
 .ret)), [(.tmp (.loc 4))]⟩

def c_glebekit_SameEntries_l0 (f0 : FuncId) : AC := (.seq (.seq (.reg [⟨.tmp 11, .r (.mov (.loc 5)), none⟩,
 ⟨.tmp 12, .r (.mov (.loc 0)), none⟩,
 ⟨.tmp 13, .r (.len (.tmp 12)), none⟩,
 ⟨.loc 14, .r (.bin .lss (.tmp 11) (.tmp 13)), none⟩])
 (.cond (.loc 14) .skip
 (.exit 0)))
 (.seq (.block 1 (.seq (.dreg ⟨[0, 0, 3, 7, 0, 0, 48, 112, 255, 511], 0, [⟨0, 0, false, .r (.mov (.loc 0)), none⟩,
 ⟨1, 0, false, .r (.mov (.loc 5)), none⟩,
 ⟨2, 0, false, .r (.idx 3 (.tmp 0) (.tmp 1)), none⟩,
 ⟨3, 0, false, .r (.load true 3 (.tmp 2)), none⟩,
 ⟨4, 0, false, .r (.mov (.loc 1)), none⟩,
 ⟨5, 0, false, .r (.mov (.loc 5)), none⟩,
 ⟨6, 0, false, .r (.idx 3 (.tmp 4) (.tmp 5)), none⟩,
 ⟨7, 0, false, .r (.load true 3 (.tmp 6)), none⟩,
 ⟨8, 0, true, .call f0 [.tmp 3, .tmp 7], none⟩,
 ⟨9, 0, false, .r (.not (.tmp 8)), none⟩], [(26, 9)]⟩)
 (.cond (.loc 26) (.seq (.reg [⟨.loc 4, .r (.mov (.cst (.bool false))), none⟩])
 .ret)
 .skip)))
 (.reg [⟨.tmp 15, .r (.mov (.loc 5)), none⟩,
 ⟨.tmp 16, .r (.bin .add (.tmp 15) (.cst (.int .i64 1))), none⟩,
 ⟨.loc 5, .r (.mov (.tmp 16)), none⟩])))
/-- glebe/glebekit.SameEntries -/
def c_glebekit_SameEntries (f0 : FuncId) : AFn := ⟨27, fun s => List.contains [0, 1, 4, 5, 10, 14, 26] s, (.seq (.reg [⟨.loc 4, .r (.mov (.cst (.bool false))), none⟩])
 (.seq (.seq (.reg [⟨.tmp 6, .r (.mov (.loc 0)), none⟩,
 ⟨.tmp 7, .r (.len (.tmp 6)), none⟩,
 ⟨.tmp 8, .r (.mov (.loc 1)), none⟩,
 ⟨.tmp 9, .r (.len (.tmp 8)), none⟩,
 ⟨.loc 10, .r (.bin .neq (.tmp 7) (.tmp 9)), none⟩])
 (.cond (.loc 10) (.seq (.reg [⟨.loc 4, .r (.mov (.cst (.bool false))), none⟩])
 .ret)
 .skip))
 (.seq (.seq (.reg [⟨.loc 5, .r (.mov (.cst (.int .i64 0))), none⟩])
 (.block 0 (.loop (c_glebekit_SameEntries_l0 f0))))
 (.seq (.reg [⟨.loc 4, .r (.mov (.cst (.bool true))), none⟩])
 .ret)))), [(.tmp (.loc 4))]⟩

/-- glebe/glebekit.SameEntry -/
def c_glebekit_SameEntry (f0 : FuncId) : AFn := ⟨24, fun s => List.contains [0, 1, 2, 3, 4] s, (.seq (.reg [⟨.loc 2, .h (.box (.loc 0)), none⟩,
 ⟨.loc 3, .h (.box (.loc 1)), none⟩,
 ⟨.loc 4, .r (.mov (.cst (.bool false))), none⟩])
 (.seq (.reg [⟨.tmp 5, .r (.off 0 (.loc 2)), none⟩,
 ⟨.tmp 6, .r (.load false 1 (.tmp 5)), none⟩,
 ⟨.tmp 7, .r (.off 0 (.loc 3)), none⟩,
 ⟨.tmp 8, .r (.load false 1 (.tmp 7)), none⟩,
 ⟨.tmp 9, .r (.bin .eql (.tmp 6) (.tmp 8)), none⟩,
 ⟨.tmp 10, .r (.mov (.tmp 9)), none⟩,
 ⟨.tmp 11, .r (.off 1 (.loc 2)), some (.tmp 10, true)⟩,
 ⟨.tmp 12, .r (.load false 1 (.tmp 11)), some (.tmp 10, true)⟩,
 ⟨.tmp 13, .r (.off 1 (.loc 3)), some (.tmp 10, true)⟩,
 ⟨.tmp 14, .r (.load false 1 (.tmp 13)), some (.tmp 10, true)⟩,
 ⟨.tmp 15, .r (.bin .eql (.tmp 12) (.tmp 14)), some (.tmp 10, true)⟩,
 ⟨.tmp 16, .r (.pick (.tmp 10) (.tmp 15) (.cst (.bool false))), none⟩,
 ⟨.tmp 17, .r (.mov (.tmp 16)), none⟩,
 ⟨.tmp 18, .r (.off 2 (.loc 2)), some (.tmp 17, true)⟩,
 ⟨.tmp 19, .r (.load false 1 (.tmp 18)), some (.tmp 17, true)⟩,
 ⟨.tmp 20, .r (.off 2 (.loc 3)), some (.tmp 17, true)⟩,
 ⟨.tmp 21, .r (.load false 1 (.tmp 20)), some (.tmp 17, true)⟩,
 ⟨.tmp 22, .call f0 [.tmp 19, .tmp 21], some (.tmp 17, true)⟩,
 ⟨.tmp 23, .r (.pick (.tmp 17) (.tmp 22) (.cst (.bool false))), none⟩,
 ⟨.loc 4, .r (.mov (.tmp 23)), none⟩])
 .ret)), [(.tmp (.loc 4))]⟩

def c_glebekit_SameBytes_l0 : AC := (.seq (.seq (.reg [⟨.tmp 11, .r (.mov (.loc 5)), none⟩,
 ⟨.tmp 12, .r (.mov (.loc 0)), none⟩,
 ⟨.tmp 13, .r (.len (.tmp 12)), none⟩,
 ⟨.loc 14, .r (.bin .lss (.tmp 11) (.tmp 13)), none⟩])
 (.cond (.loc 14) .skip
 (.exit 0)))
 (.seq (.block 1 (.seq (.dreg ⟨[0, 0, 3, 7, 0, 0, 48, 112, 255], 0, [⟨0, 0, false, .r (.mov (.loc 0)), none⟩,
 ⟨1, 0, false, .r (.mov (.loc 5)), none⟩,
 ⟨2, 0, false, .r (.idx 1 (.tmp 0) (.tmp 1)), none⟩,
 ⟨3, 0, false, .r (.load false 1 (.tmp 2)), none⟩,
 ⟨4, 0, false, .r (.mov (.loc 1)), none⟩,
 ⟨5, 0, false, .r (.mov (.loc 5)), none⟩,
 ⟨6, 0, false, .r (.idx 1 (.tmp 4) (.tmp 5)), none⟩,
 ⟨7, 0, false, .r (.load false 1 (.tmp 6)), none⟩,
 ⟨8, 0, false, .r (.bin .neq (.tmp 3) (.tmp 7)), none⟩], [(25, 8)]⟩)
 (.cond (.loc 25) (.seq (.reg [⟨.loc 4, .r (.mov (.cst (.bool false))), none⟩])
 .ret)
 .skip)))
 (.reg [⟨.tmp 15, .r (.mov (.loc 5)), none⟩,
 ⟨.tmp 16, .r (.bin .add (.tmp 15) (.cst (.int .i64 1))), none⟩,
 ⟨.loc 5, .r (.mov (.tmp 16)), none⟩])))
/-- glebe/glebekit.SameBytes -/
def c_glebekit_SameBytes : AFn := ⟨26, fun s => List.contains [0, 1, 4, 5, 10, 14, 25] s, (.seq (.reg [⟨.loc 4, .r (.mov (.cst (.bool false))), none⟩])
 (.seq (.seq (.reg [⟨.tmp 6, .r (.mov (.loc 0)), none⟩,
 ⟨.tmp 7, .r (.len (.tmp 6)), none⟩,
 ⟨.tmp 8, .r (.mov (.loc 1)), none⟩,
 ⟨.tmp 9, .r (.len (.tmp 8)), none⟩,
 ⟨.loc 10, .r (.bin .neq (.tmp 7) (.tmp 9)), none⟩])
 (.cond (.loc 10) (.seq (.reg [⟨.loc 4, .r (.mov (.cst (.bool false))), none⟩])
 .ret)
 .skip))
 (.seq (.seq (.reg [⟨.loc 5, .r (.mov (.cst (.int .i64 0))), none⟩])
 (.block 0 (.loop (c_glebekit_SameBytes_l0))))
 (.seq (.reg [⟨.loc 4, .r (.mov (.cst (.bool true))), none⟩])
 .ret)))), [(.tmp (.loc 4))]⟩

/-- glebe/glebekit.SameHard -/
def c_glebekit_SameHard (f0 f1 f2 : FuncId) : AFn := ⟨45, fun s => List.contains [0, 1, 2, 3, 4] s, (.seq (.reg [⟨.loc 2, .h (.box (.loc 0)), none⟩,
 ⟨.loc 3, .h (.box (.loc 1)), none⟩,
 ⟨.loc 4, .r (.mov (.cst (.bool false))), none⟩])
 (.seq (.reg [⟨.tmp 5, .r (.off 0 (.loc 2)), none⟩,
 ⟨.tmp 6, .r (.load false 1 (.tmp 5)), none⟩,
 ⟨.tmp 7, .r (.off 0 (.loc 3)), none⟩,
 ⟨.tmp 8, .r (.load false 1 (.tmp 7)), none⟩,
 ⟨.tmp 9, .r (.bin .eql (.tmp 6) (.tmp 8)), none⟩,
 ⟨.tmp 10, .r (.mov (.tmp 9)), none⟩,
 ⟨.tmp 11, .r (.off 1 (.loc 2)), some (.tmp 10, true)⟩,
 ⟨.tmp 12, .r (.load false 1 (.tmp 11)), some (.tmp 10, true)⟩,
 ⟨.tmp 13, .r (.off 1 (.loc 3)), some (.tmp 10, true)⟩,
 ⟨.tmp 14, .r (.load false 1 (.tmp 13)), some (.tmp 10, true)⟩,
 ⟨.tmp 15, .r (.bin .eql (.tmp 12) (.tmp 14)), some (.tmp 10, true)⟩,
 ⟨.tmp 16, .r (.pick (.tmp 10) (.tmp 15) (.cst (.bool false))), none⟩,
 ⟨.tmp 17, .r (.mov (.tmp 16)), none⟩,
 ⟨.tmp 18, .r (.off 2 (.loc 2)), some (.tmp 17, true)⟩,
 ⟨.tmp 19, .r (.load false 1 (.tmp 18)), some (.tmp 17, true)⟩,
 ⟨.tmp 20, .r (.off 2 (.loc 3)), some (.tmp 17, true)⟩,
 ⟨.tmp 21, .r (.load false 1 (.tmp 20)), some (.tmp 17, true)⟩,
 ⟨.tmp 22, .r (.bin .eql (.tmp 19) (.tmp 21)), some (.tmp 17, true)⟩,
 ⟨.tmp 23, .r (.pick (.tmp 17) (.tmp 22) (.cst (.bool false))), none⟩,
 ⟨.tmp 24, .r (.mov (.tmp 23)), none⟩,
 ⟨.tmp 25, .r (.off 3 (.loc 2)), some (.tmp 24, true)⟩,
 ⟨.tmp 26, .r (.load true 3 (.tmp 25)), some (.tmp 24, true)⟩,
 ⟨.tmp 27, .r (.off 3 (.loc 3)), some (.tmp 24, true)⟩,
 ⟨.tmp 28, .r (.load true 3 (.tmp 27)), some (.tmp 24, true)⟩,
 ⟨.tmp 29, .call f0 [.tmp 26, .tmp 28], some (.tmp 24, true)⟩,
 ⟨.tmp 30, .r (.pick (.tmp 24) (.tmp 29) (.cst (.bool false))), none⟩,
 ⟨.tmp 31, .r (.mov (.tmp 30)), none⟩,
 ⟨.tmp 32, .r (.off 6 (.loc 2)), some (.tmp 31, true)⟩,
 ⟨.tmp 33, .r (.load true 3 (.tmp 32)), some (.tmp 31, true)⟩,
 ⟨.tmp 34, .r (.off 6 (.loc 3)), some (.tmp 31, true)⟩,
 ⟨.tmp 35, .r (.load true 3 (.tmp 34)), some (.tmp 31, true)⟩,
 ⟨.tmp 36, .call f1 [.tmp 33, .tmp 35], some (.tmp 31, true)⟩,
 ⟨.tmp 37, .r (.pick (.tmp 31) (.tmp 36) (.cst (.bool false))), none⟩,
 ⟨.tmp 38, .r (.mov (.tmp 37)), none⟩,
 ⟨.tmp 39, .r (.off 9 (.loc 2)), some (.tmp 38, true)⟩,
 ⟨.tmp 40, .r (.load false 1 (.tmp 39)), some (.tmp 38, true)⟩,
 ⟨.tmp 41, .r (.off 9 (.loc 3)), some (.tmp 38, true)⟩,
 ⟨.tmp 42, .r (.load false 1 (.tmp 41)), some (.tmp 38, true)⟩,
 ⟨.tmp 43, .call f2 [.tmp 40, .tmp 42], some (.tmp 38, true)⟩,
 ⟨.tmp 44, .r (.pick (.tmp 38) (.tmp 43) (.cst (.bool false))), none⟩,
 ⟨.loc 4, .r (.mov (.tmp 44)), none⟩])
 .ret)), [(.tmp (.loc 4))]⟩

def c_glebekit_SameInts_l0 : AC := (.seq (.seq (.reg [⟨.tmp 11, .r (.mov (.loc 5)), none⟩,
 ⟨.tmp 12, .r (.mov (.loc 0)), none⟩,
 ⟨.tmp 13, .r (.len (.tmp 12)), none⟩,
 ⟨.loc 14, .r (.bin .lss (.tmp 11) (.tmp 13)), none⟩])
 (.cond (.loc 14) .skip
 (.exit 0)))
 (.seq (.block 1 (.seq (.dreg ⟨[0, 0, 3, 7, 0, 0, 48, 112, 255], 0, [⟨0, 0, false, .r (.mov (.loc 0)), none⟩,
 ⟨1, 0, false, .r (.mov (.loc 5)), none⟩,
 ⟨2, 0, false, .r (.idx 1 (.tmp 0) (.tmp 1)), none⟩,
 ⟨3, 0, false, .r (.load false 1 (.tmp 2)), none⟩,
 ⟨4, 0, false, .r (.mov (.loc 1)), none⟩,
 ⟨5, 0, false, .r (.mov (.loc 5)), none⟩,
 ⟨6, 0, false, .r (.idx 1 (.tmp 4) (.tmp 5)), none⟩,
 ⟨7, 0, false, .r (.load false 1 (.tmp 6)), none⟩,
 ⟨8, 0, false, .r (.bin .neq (.tmp 3) (.tmp 7)), none⟩], [(25, 8)]⟩)
 (.cond (.loc 25) (.seq (.reg [⟨.loc 4, .r (.mov (.cst (.bool false))), none⟩])
 .ret)
 .skip)))
 (.reg [⟨.tmp 15, .r (.mov (.loc 5)), none⟩,
 ⟨.tmp 16, .r (.bin .add (.tmp 15) (.cst (.int .i64 1))), none⟩,
 ⟨.loc 5, .r (.mov (.tmp 16)), none⟩])))
/-- glebe/glebekit.SameInts -/
def c_glebekit_SameInts : AFn := ⟨26, fun s => List.contains [0, 1, 4, 5, 10, 14, 25] s, (.seq (.reg [⟨.loc 4, .r (.mov (.cst (.bool false))), none⟩])
 (.seq (.seq (.reg [⟨.tmp 6, .r (.mov (.loc 0)), none⟩,
 ⟨.tmp 7, .r (.len (.tmp 6)), none⟩,
 ⟨.tmp 8, .r (.mov (.loc 1)), none⟩,
 ⟨.tmp 9, .r (.len (.tmp 8)), none⟩,
 ⟨.loc 10, .r (.bin .neq (.tmp 7) (.tmp 9)), none⟩])
 (.cond (.loc 10) (.seq (.reg [⟨.loc 4, .r (.mov (.cst (.bool false))), none⟩])
 .ret)
 .skip))
 (.seq (.seq (.reg [⟨.loc 5, .r (.mov (.cst (.int .i64 0))), none⟩])
 (.block 0 (.loop (c_glebekit_SameInts_l0))))
 (.seq (.reg [⟨.loc 4, .r (.mov (.cst (.bool true))), none⟩])
 .ret)))), [(.tmp (.loc 4))]⟩

/-- glebe/glebekit.SameConf -/
def c_glebekit_SameConf (f0 : FuncId) : AFn := ⟨24, fun s => List.contains [0, 1, 2, 3, 4] s, (.seq (.reg [⟨.loc 2, .h (.box (.loc 0)), none⟩,
 ⟨.loc 3, .h (.box (.loc 1)), none⟩,
 ⟨.loc 4, .r (.mov (.cst (.bool false))), none⟩])
 (.seq (.reg [⟨.tmp 5, .r (.off 0 (.loc 2)), none⟩,
 ⟨.tmp 6, .r (.load false 1 (.tmp 5)), none⟩,
 ⟨.tmp 7, .r (.off 0 (.loc 3)), none⟩,
 ⟨.tmp 8, .r (.load false 1 (.tmp 7)), none⟩,
 ⟨.tmp 9, .call f0 [.tmp 6, .tmp 8], none⟩,
 ⟨.tmp 10, .r (.mov (.tmp 9)), none⟩,
 ⟨.tmp 11, .r (.off 1 (.loc 2)), some (.tmp 10, true)⟩,
 ⟨.tmp 12, .r (.load false 1 (.tmp 11)), some (.tmp 10, true)⟩,
 ⟨.tmp 13, .r (.off 1 (.loc 3)), some (.tmp 10, true)⟩,
 ⟨.tmp 14, .r (.load false 1 (.tmp 13)), some (.tmp 10, true)⟩,
 ⟨.tmp 15, .call f0 [.tmp 12, .tmp 14], some (.tmp 10, true)⟩,
 ⟨.tmp 16, .r (.pick (.tmp 10) (.tmp 15) (.cst (.bool false))), none⟩,
 ⟨.tmp 17, .r (.mov (.tmp 16)), none⟩,
 ⟨.tmp 18, .r (.off 2 (.loc 2)), some (.tmp 17, true)⟩,
 ⟨.tmp 19, .r (.load false 1 (.tmp 18)), some (.tmp 17, true)⟩,
 ⟨.tmp 20, .r (.off 2 (.loc 3)), some (.tmp 17, true)⟩,
 ⟨.tmp 21, .r (.load false 1 (.tmp 20)), some (.tmp 17, true)⟩,
 ⟨.tmp 22, .call f0 [.tmp 19, .tmp 21], some (.tmp 17, true)⟩,
 ⟨.tmp 23, .r (.pick (.tmp 17) (.tmp 22) (.cst (.bool false))), none⟩,
 ⟨.loc 4, .r (.mov (.tmp 23)), none⟩])
 .ret)), [(.tmp (.loc 4))]⟩

/-- glebe/glebekit.SameImage -/
def c_glebekit_SameImage (f0 f1 : FuncId) : AFn := ⟨17, fun s => List.contains [0, 1, 2, 3, 4] s, (.seq (.reg [⟨.loc 2, .h (.box (.loc 0)), none⟩,
 ⟨.loc 3, .h (.box (.loc 1)), none⟩,
 ⟨.loc 4, .r (.mov (.cst (.bool false))), none⟩])
 (.seq (.reg [⟨.tmp 5, .r (.off 0 (.loc 2)), none⟩,
 ⟨.tmp 6, .r (.load false 1 (.tmp 5)), none⟩,
 ⟨.tmp 7, .r (.off 0 (.loc 3)), none⟩,
 ⟨.tmp 8, .r (.load false 1 (.tmp 7)), none⟩,
 ⟨.tmp 9, .call f0 [.tmp 6, .tmp 8], none⟩,
 ⟨.tmp 10, .r (.mov (.tmp 9)), none⟩,
 ⟨.tmp 11, .r (.off 1 (.loc 2)), some (.tmp 10, true)⟩,
 ⟨.tmp 12, .r (.load false 1 (.tmp 11)), some (.tmp 10, true)⟩,
 ⟨.tmp 13, .r (.off 1 (.loc 3)), some (.tmp 10, true)⟩,
 ⟨.tmp 14, .r (.load false 1 (.tmp 13)), some (.tmp 10, true)⟩,
 ⟨.tmp 15, .call f1 [.tmp 12, .tmp 14], some (.tmp 10, true)⟩,
 ⟨.tmp 16, .r (.pick (.tmp 10) (.tmp 15) (.cst (.bool false))), none⟩,
 ⟨.loc 4, .r (.mov (.tmp 16)), none⟩])
 .ret)), [(.tmp (.loc 4))]⟩

def c_glebekit_SameHards_l0 (f0 : FuncId) : AC := (.seq (.seq (.reg [⟨.tmp 11, .r (.mov (.loc 5)), none⟩,
 ⟨.tmp 12, .r (.mov (.loc 0)), none⟩,
 ⟨.tmp 13, .r (.len (.tmp 12)), none⟩,
 ⟨.loc 14, .r (.bin .lss (.tmp 11) (.tmp 13)), none⟩])
 (.cond (.loc 14) .skip
 (.exit 0)))
 (.seq (.block 1 (.seq (.dreg ⟨[0, 0, 3, 7, 0, 0, 48, 112, 255, 511], 0, [⟨0, 0, false, .r (.mov (.loc 0)), none⟩,
 ⟨1, 0, false, .r (.mov (.loc 5)), none⟩,
 ⟨2, 0, false, .r (.idx 10 (.tmp 0) (.tmp 1)), none⟩,
 ⟨3, 0, false, .r (.load true 10 (.tmp 2)), none⟩,
 ⟨4, 0, false, .r (.mov (.loc 1)), none⟩,
 ⟨5, 0, false, .r (.mov (.loc 5)), none⟩,
 ⟨6, 0, false, .r (.idx 10 (.tmp 4) (.tmp 5)), none⟩,
 ⟨7, 0, false, .r (.load true 10 (.tmp 6)), none⟩,
 ⟨8, 0, true, .call f0 [.tmp 3, .tmp 7], none⟩,
 ⟨9, 0, false, .r (.not (.tmp 8)), none⟩], [(26, 9)]⟩)
 (.cond (.loc 26) (.seq (.reg [⟨.loc 4, .r (.mov (.cst (.bool false))), none⟩])
 .ret)
 .skip)))
 (.reg [⟨.tmp 15, .r (.mov (.loc 5)), none⟩,
 ⟨.tmp 16, .r (.bin .add (.tmp 15) (.cst (.int .i64 1))), none⟩,
 ⟨.loc 5, .r (.mov (.tmp 16)), none⟩])))
/-- glebe/glebekit.SameHards -/
def c_glebekit_SameHards (f0 : FuncId) : AFn := ⟨27, fun s => List.contains [0, 1, 4, 5, 10, 14, 26] s, (.seq (.reg [⟨.loc 4, .r (.mov (.cst (.bool false))), none⟩])
 (.seq (.seq (.reg [⟨.tmp 6, .r (.mov (.loc 0)), none⟩,
 ⟨.tmp 7, .r (.len (.tmp 6)), none⟩,
 ⟨.tmp 8, .r (.mov (.loc 1)), none⟩,
 ⟨.tmp 9, .r (.len (.tmp 8)), none⟩,
 ⟨.loc 10, .r (.bin .neq (.tmp 7) (.tmp 9)), none⟩])
 (.cond (.loc 10) (.seq (.reg [⟨.loc 4, .r (.mov (.cst (.bool false))), none⟩])
 .ret)
 .skip))
 (.seq (.seq (.reg [⟨.loc 5, .r (.mov (.cst (.int .i64 0))), none⟩])
 (.block 0 (.loop (c_glebekit_SameHards_l0 f0))))
 (.seq (.reg [⟨.loc 4, .r (.mov (.cst (.bool true))), none⟩])
 .ret)))), [(.tmp (.loc 4))]⟩

def c_glebekit_SameVotes_l0 : AC := (.seq (.seq (.reg [⟨.tmp 11, .r (.mov (.loc 5)), none⟩,
 ⟨.tmp 12, .r (.mov (.loc 0)), none⟩,
 ⟨.tmp 13, .r (.len (.tmp 12)), none⟩,
 ⟨.loc 14, .r (.bin .lss (.tmp 11) (.tmp 13)), none⟩])
 (.cond (.loc 14) .skip
 (.exit 0)))
 (.seq (.block 1 (.seq (.dreg ⟨[0, 0, 3, 7, 0, 0, 48, 112, 255], 0, [⟨0, 0, false, .r (.mov (.loc 0)), none⟩,
 ⟨1, 0, false, .r (.mov (.loc 5)), none⟩,
 ⟨2, 0, false, .r (.idx 5 (.tmp 0) (.tmp 1)), none⟩,
 ⟨3, 0, false, .r (.load true 5 (.tmp 2)), none⟩,
 ⟨4, 0, false, .r (.mov (.loc 1)), none⟩,
 ⟨5, 0, false, .r (.mov (.loc 5)), none⟩,
 ⟨6, 0, false, .r (.idx 5 (.tmp 4) (.tmp 5)), none⟩,
 ⟨7, 0, false, .r (.load true 5 (.tmp 6)), none⟩,
 ⟨8, 0, false, .r (.x (.seq true [(0, true), (1, true), (2, true), (3, true), (4, true)] (.tmp 3) (.tmp 7))), none⟩], [(25, 8)]⟩)
 (.cond (.loc 25) (.seq (.reg [⟨.loc 4, .r (.mov (.cst (.bool false))), none⟩])
 .ret)
 .skip)))
 (.reg [⟨.tmp 15, .r (.mov (.loc 5)), none⟩,
 ⟨.tmp 16, .r (.bin .add (.tmp 15) (.cst (.int .i64 1))), none⟩,
 ⟨.loc 5, .r (.mov (.tmp 16)), none⟩])))
/-- glebe/glebekit.SameVotes -/
def c_glebekit_SameVotes : AFn := ⟨26, fun s => List.contains [0, 1, 4, 5, 10, 14, 25] s, (.seq (.reg [⟨.loc 4, .r (.mov (.cst (.bool false))), none⟩])
 (.seq (.seq (.reg [⟨.tmp 6, .r (.mov (.loc 0)), none⟩,
 ⟨.tmp 7, .r (.len (.tmp 6)), none⟩,
 ⟨.tmp 8, .r (.mov (.loc 1)), none⟩,
 ⟨.tmp 9, .r (.len (.tmp 8)), none⟩,
 ⟨.loc 10, .r (.bin .neq (.tmp 7) (.tmp 9)), none⟩])
 (.cond (.loc 10) (.seq (.reg [⟨.loc 4, .r (.mov (.cst (.bool false))), none⟩])
 .ret)
 .skip))
 (.seq (.seq (.reg [⟨.loc 5, .r (.mov (.cst (.int .i64 0))), none⟩])
 (.block 0 (.loop (c_glebekit_SameVotes_l0))))
 (.seq (.reg [⟨.loc 4, .r (.mov (.cst (.bool true))), none⟩])
 .ret)))), [(.tmp (.loc 4))]⟩

end Glb
