/-
  What functions of the program are, one by one (the functions that they call as parameters), in a form of which something can be shown.
-/
import Derived.Test.YthbhbgnngmfpiaaGlbLibB
set_option linter.unusedSimpArgs false
set_option linter.unusedVariables false
namespace Glb
open Go
set_option maxRecDepth 100000

def c_glebekit_LentBytes_l0 : AC := (.seq (.seq (.reg [⟨.tmp 9, .r (.mov (.loc 4)), none⟩,
 ⟨.tmp 10, .r (.mov (.loc 3)), none⟩,
 ⟨.tmp 11, .r (.len (.tmp 10)), none⟩,
 ⟨.loc 12, .r (.bin .lss (.tmp 9) (.tmp 11)), none⟩])
 (.cond (.loc 12) .skip
 (.exit 0)))
 (.seq (.block 1 (.seq (.reg [⟨.tmp 15, .r (.mov (.loc 3)), none⟩,
 ⟨.tmp 16, .r (.mov (.loc 4)), none⟩,
 ⟨.tmp 17, .r (.idx 1 (.tmp 15) (.tmp 16)), none⟩,
 ⟨.none, .h (.store 1 (.tmp 17) (.cst (.int .u8 165))), none⟩])
 (.seq (.reg [⟨.tmp 18, .r (.mov (.loc 4)), none⟩,
 ⟨.tmp 19, .r (.mov (.loc 0)), none⟩,
 ⟨.tmp 20, .r (.len (.tmp 19)), none⟩,
 ⟨.loc 21, .r (.bin .lss (.tmp 18) (.tmp 20)), none⟩])
 (.cond (.loc 21) (.reg [⟨.tmp 22, .r (.mov (.loc 3)), none⟩,
 ⟨.tmp 23, .r (.mov (.loc 4)), none⟩,
 ⟨.tmp 24, .r (.mov (.loc 0)), none⟩,
 ⟨.tmp 25, .r (.mov (.loc 4)), none⟩,
 ⟨.tmp 26, .r (.idx 1 (.tmp 24) (.tmp 25)), none⟩,
 ⟨.tmp 27, .r (.load false 1 (.tmp 26)), none⟩,
 ⟨.tmp 28, .r (.idx 1 (.tmp 22) (.tmp 23)), none⟩,
 ⟨.none, .h (.store 1 (.tmp 28) (.tmp 27)), none⟩])
 .skip))))
 (.reg [⟨.tmp 13, .r (.mov (.loc 4)), none⟩,
 ⟨.tmp 14, .r (.bin .add (.tmp 13) (.cst (.int .i64 1))), none⟩,
 ⟨.loc 4, .r (.mov (.tmp 14)), none⟩])))
/-- glebe/glebekit.LentBytes -/
def c_glebekit_LentBytes : AFn := ⟨30, fun s => List.contains [0, 2, 3, 4, 12, 21] s, (.seq (.reg [⟨.loc 2, .r (.mov (.cst .nils)), none⟩])
 (.seq (.reg [⟨.tmp 5, .r (.mov (.loc 0)), none⟩,
 ⟨.tmp 6, .r (.len (.tmp 5)), none⟩,
 ⟨.tmp 7, .r (.bin .add (.tmp 6) (.cst (.int .i64 5))), none⟩,
 ⟨.tmp 8, .h (.mks 1 1 [(.int .u8 0)] (.tmp 7) (.tmp 7)), none⟩,
 ⟨.loc 3, .r (.mov (.tmp 8)), none⟩])
 (.seq (.seq (.reg [⟨.loc 4, .r (.mov (.cst (.int .i64 0))), none⟩])
 (.block 0 (.loop (c_glebekit_LentBytes_l0))))
 (.seq (.reg [⟨.tmp 29, .r (.mov (.loc 3)), none⟩,
 ⟨.loc 2, .r (.mov (.tmp 29)), none⟩])
 .ret)))), [(.tmp (.loc 2))]⟩

def c_glebekit_KeptBytes_l0 (f0 : FuncId) : AC := (.seq (.seq (.reg [⟨.tmp 23, .r (.mov (.loc 5)), none⟩,
 ⟨.tmp 24, .r (.mov (.loc 0)), none⟩,
 ⟨.tmp 25, .r (.len (.tmp 24)), none⟩,
 ⟨.loc 26, .r (.bin .lss (.tmp 23) (.tmp 25)), none⟩])
 (.cond (.loc 26) .skip
 (.exit 0)))
 (.seq (.block 1 (.seq (.reg [⟨.tmp 29, .r (.mov (.loc 0)), none⟩,
 ⟨.tmp 30, .r (.mov (.loc 5)), none⟩,
 ⟨.tmp 31, .r (.idx 1 (.tmp 29) (.tmp 30)), none⟩,
 ⟨.tmp 32, .r (.load false 1 (.tmp 31)), none⟩,
 ⟨.loc 33, .r (.bin .neq (.tmp 32) (.cst (.int .u8 165))), none⟩])
 (.cond (.loc 33) (.seq (.reg [⟨.loc 4, .r (.mov (.cst (.bool false))), none⟩])
 .ret)
 .skip)))
 (.reg [⟨.tmp 27, .r (.mov (.loc 5)), none⟩,
 ⟨.tmp 28, .r (.bin .add (.tmp 27) (.cst (.int .i64 1))), none⟩,
 ⟨.loc 5, .r (.mov (.tmp 28)), none⟩])))
/-- glebe/glebekit.KeptBytes -/
def c_glebekit_KeptBytes (f0 : FuncId) : AFn := ⟨34, fun s => List.contains [0, 1, 4, 5, 20, 26, 33] s, (.seq (.reg [⟨.loc 4, .r (.mov (.cst (.bool false))), none⟩])
 (.seq (.seq (.reg [⟨.tmp 6, .r (.mov (.loc 0)), none⟩,
 ⟨.tmp 7, .r (.len (.tmp 6)), none⟩,
 ⟨.tmp 8, .r (.mov (.loc 1)), none⟩,
 ⟨.tmp 9, .r (.len (.tmp 8)), none⟩,
 ⟨.tmp 10, .r (.bin .add (.tmp 9) (.cst (.int .i64 5))), none⟩,
 ⟨.tmp 11, .r (.bin .neq (.tmp 7) (.tmp 10)), none⟩,
 ⟨.tmp 12, .r (.mov (.tmp 11)), none⟩,
 ⟨.tmp 13, .r (.mov (.loc 0)), some (.tmp 12, false)⟩,
 ⟨.tmp 14, .r (.mov (.loc 1)), some (.tmp 12, false)⟩,
 ⟨.tmp 15, .r (.len (.tmp 14)), some (.tmp 12, false)⟩,
 ⟨.tmp 16, .r (.slc 1 (.tmp 13) none (some (.tmp 15)) none), some (.tmp 12, false)⟩,
 ⟨.tmp 17, .r (.mov (.loc 1)), some (.tmp 12, false)⟩,
 ⟨.tmp 18, .call f0 [.tmp 16, .tmp 17], some (.tmp 12, false)⟩,
 ⟨.tmp 19, .r (.not (.tmp 18)), some (.tmp 12, false)⟩,
 ⟨.loc 20, .r (.pick (.tmp 12) (.cst (.bool true)) (.tmp 19)), none⟩])
 (.cond (.loc 20) (.seq (.reg [⟨.loc 4, .r (.mov (.cst (.bool false))), none⟩])
 .ret)
 .skip))
 (.seq (.seq (.reg [⟨.tmp 21, .r (.mov (.loc 1)), none⟩,
 ⟨.tmp 22, .r (.len (.tmp 21)), none⟩,
 ⟨.loc 5, .r (.mov (.tmp 22)), none⟩])
 (.block 0 (.loop (c_glebekit_KeptBytes_l0 f0))))
 (.seq (.reg [⟨.loc 4, .r (.mov (.cst (.bool true))), none⟩])
 .ret)))), [(.tmp (.loc 4))]⟩

end Glb
