/-
  What functions of the program are, one by one (the functions that they call as parameters), in a form of which something can be shown.
-/
import Derived.Test.YtodbhmdfmdfiaaaGlbLibB
set_option linter.unusedSimpArgs false
set_option linter.unusedVariables false
namespace Glb
open Go
set_option maxRecDepth 100000

/-- glebe/rlog.Last -/
def c_rlog_Last : AFn := ⟨25, fun s => List.contains [0, 1, 2, 3, 4, 9] s, (.seq (.reg [⟨.loc 1, .h (.box (.loc 0)), none⟩,
 ⟨.loc 2, .r (.mov (.cst (.int .i64 0))), none⟩,
 ⟨.loc 3, .r (.mov (.cst (.int .i64 0))), none⟩])
 (.seq (.seq (.reg [⟨.tmp 5, .r (.off 2 (.loc 1)), none⟩,
 ⟨.tmp 6, .r (.load false 1 (.tmp 5)), none⟩,
 ⟨.tmp 7, .r (.len (.tmp 6)), none⟩,
 ⟨.loc 4, .r (.mov (.tmp 7)), none⟩])
 (.seq (.reg [⟨.tmp 8, .r (.mov (.loc 4)), none⟩,
 ⟨.loc 9, .r (.bin .gtr (.tmp 8) (.cst (.int .i64 0))), none⟩])
 (.cond (.loc 9) (.seq (.dreg ⟨[0, 1, 0, 7, 0, 16, 0, 64, 240, 496, 1008, 15, 4095], 0, [⟨0, 0, false, .r (.off 0 (.loc 1)), none⟩,
 ⟨1, 0, false, .r (.load false 1 (.tmp 0)), none⟩,
 ⟨2, 0, false, .r (.mov (.loc 4)), none⟩,
 ⟨3, 0, false, .r (.bin .add (.tmp 1) (.tmp 2)), none⟩,
 ⟨4, 0, false, .r (.off 2 (.loc 1)), none⟩,
 ⟨5, 0, false, .r (.load false 1 (.tmp 4)), none⟩,
 ⟨6, 0, false, .r (.mov (.loc 4)), none⟩,
 ⟨7, 0, false, .r (.bin .sub (.tmp 6) (.cst (.int .i64 1))), none⟩,
 ⟨8, 0, false, .r (.idx 3 (.tmp 5) (.tmp 7)), none⟩,
 ⟨9, 0, false, .r (.off 0 (.tmp 8)), none⟩,
 ⟨10, 0, false, .r (.load false 1 (.tmp 9)), none⟩,
 ⟨11, 0, false, .r (.mov (.tmp 3)), none⟩,
 ⟨12, 0, false, .r (.mov (.tmp 10)), none⟩], [(2, 11), (3, 12)]⟩)
 .ret)
 .skip)))
 (.seq (.dreg ⟨[0, 1, 0, 4, 3, 31], 0, [⟨0, 0, false, .r (.off 0 (.loc 1)), none⟩,
 ⟨1, 0, false, .r (.load false 1 (.tmp 0)), none⟩,
 ⟨2, 0, false, .r (.off 1 (.loc 1)), none⟩,
 ⟨3, 0, false, .r (.load false 1 (.tmp 2)), none⟩,
 ⟨4, 0, false, .r (.mov (.tmp 1)), none⟩,
 ⟨5, 0, false, .r (.mov (.tmp 3)), none⟩], [(2, 4), (3, 5)]⟩)
 .ret))), [(.tmp (.loc 2)), (.tmp (.loc 3))]⟩

/-- glebe/rlog.Term -/
def c_rlog_Term (f0 : FuncId) : AFn := ⟨38, fun s => List.contains [0, 1, 2, 4, 5, 6, 13, 21] s, (.seq (.reg [⟨.loc 2, .h (.box (.loc 0)), none⟩,
 ⟨.loc 4, .r (.mov (.cst (.int .i64 0))), none⟩,
 ⟨.loc 5, .r (.mov (.cst (.bool false))), none⟩])
 (.seq (.reg [⟨.tmp 9, .r (.load true 3 (.loc 2)), none⟩,
 ⟨.tmp 10, .call f0 [.tmp 9], none⟩,
 ⟨.tmp 8, .r (.mov (.tmp 10)), none⟩,
 ⟨.tmp 11, .r (.ext (.tmp 8) 0), none⟩,
 ⟨.tmp 12, .r (.ext (.tmp 8) 1), none⟩,
 ⟨.loc 6, .r (.mov (.tmp 11)), none⟩,
 ⟨.tmp 7, .r (.mov (.tmp 12)), none⟩])
 (.seq (.block 0 (.seq (.seq (.reg [⟨.tmp 14, .r (.mov (.loc 1)), none⟩,
 ⟨.tmp 15, .r (.off 0 (.loc 2)), none⟩,
 ⟨.tmp 16, .r (.load false 1 (.tmp 15)), none⟩,
 ⟨.tmp 17, .r (.bin .lss (.tmp 14) (.tmp 16)), none⟩,
 ⟨.loc 13, .r (.mov (.tmp 17)), none⟩])
 (.cond (.loc 13) .skip
 (.reg [⟨.tmp 18, .r (.mov (.loc 1)), none⟩,
 ⟨.tmp 19, .r (.mov (.loc 6)), none⟩,
 ⟨.tmp 20, .r (.bin .gtr (.tmp 18) (.tmp 19)), none⟩,
 ⟨.loc 13, .r (.mov (.tmp 20)), none⟩])))
 (.cond (.loc 13) (.seq (.reg [⟨.loc 4, .r (.mov (.cst (.int .i64 0))), none⟩,
 ⟨.loc 5, .r (.mov (.cst (.bool false))), none⟩])
 .ret)
 (.seq (.reg [⟨.tmp 22, .r (.mov (.loc 1)), none⟩,
 ⟨.tmp 23, .r (.off 0 (.loc 2)), none⟩,
 ⟨.tmp 24, .r (.load false 1 (.tmp 23)), none⟩,
 ⟨.tmp 25, .r (.bin .eql (.tmp 22) (.tmp 24)), none⟩,
 ⟨.loc 21, .r (.mov (.tmp 25)), none⟩])
 (.cond (.loc 21) (.seq (.reg [⟨.tmp 26, .r (.off 1 (.loc 2)), none⟩,
 ⟨.tmp 27, .r (.load false 1 (.tmp 26)), none⟩,
 ⟨.loc 4, .r (.mov (.tmp 27)), none⟩,
 ⟨.loc 5, .r (.mov (.cst (.bool true))), none⟩])
 .ret)
 .skip)))))
 (.seq (.reg [⟨.tmp 28, .r (.off 2 (.loc 2)), none⟩,
 ⟨.tmp 29, .r (.load false 1 (.tmp 28)), none⟩,
 ⟨.tmp 30, .r (.mov (.loc 1)), none⟩,
 ⟨.tmp 31, .r (.off 0 (.loc 2)), none⟩,
 ⟨.tmp 32, .r (.load false 1 (.tmp 31)), none⟩,
 ⟨.tmp 33, .r (.bin .sub (.tmp 30) (.tmp 32)), none⟩,
 ⟨.tmp 34, .r (.bin .sub (.tmp 33) (.cst (.int .i64 1))), none⟩,
 ⟨.tmp 35, .r (.idx 3 (.tmp 29) (.tmp 34)), none⟩,
 ⟨.tmp 36, .r (.off 0 (.tmp 35)), none⟩,
 ⟨.tmp 37, .r (.load false 1 (.tmp 36)), none⟩,
 ⟨.loc 4, .r (.mov (.tmp 37)), none⟩,
 ⟨.loc 5, .r (.mov (.cst (.bool true))), none⟩])
 .ret)))), [(.tmp (.loc 4)), (.tmp (.loc 5))]⟩

/-- glebe/rlog.Cut -/
def c_rlog_Cut (f0 f1 : FuncId) : AFn := ⟨28, fun s => List.contains [0, 1, 2, 4, 5, 6, 7, 15] s, (.seq (.reg [⟨.loc 2, .h (.box (.loc 0)), none⟩,
 ⟨.loc 4, .h (.mk [(.int .i64 0), (.int .i64 0), .nils]), none⟩,
 ⟨.loc 5, .r (.mov (.cst (.int .i64 0))), none⟩])
 (.seq (.reg [⟨.tmp 9, .r (.load true 3 (.loc 2)), none⟩,
 ⟨.tmp 10, .r (.mov (.loc 1)), none⟩,
 ⟨.tmp 11, .call f0 [.tmp 9, .tmp 10], none⟩,
 ⟨.tmp 8, .r (.mov (.tmp 11)), none⟩,
 ⟨.tmp 12, .r (.ext (.tmp 8) 0), none⟩,
 ⟨.tmp 13, .r (.ext (.tmp 8) 1), none⟩,
 ⟨.loc 6, .r (.mov (.tmp 12)), none⟩,
 ⟨.loc 7, .r (.mov (.tmp 13)), none⟩])
 (.seq (.seq (.reg [⟨.tmp 14, .r (.mov (.loc 7)), none⟩,
 ⟨.loc 15, .r (.not (.tmp 14)), none⟩])
 (.cond (.loc 15) (.seq (.reg [⟨.tmp 16, .r (.build [(.int .i64 0), (.int .i64 0), .nils] []), none⟩,
 ⟨.none, .h (.store 3 (.loc 4) (.tmp 16)), none⟩,
 ⟨.loc 5, .r (.mov (.cst (.int .i64 3))), none⟩])
 .ret)
 .skip))
 (.seq (.reg [⟨.tmp 17, .r (.mov (.loc 1)), none⟩,
 ⟨.tmp 18, .r (.mov (.loc 6)), none⟩,
 ⟨.tmp 19, .r (.off 2 (.loc 2)), none⟩,
 ⟨.tmp 20, .r (.load false 1 (.tmp 19)), none⟩,
 ⟨.tmp 21, .r (.mov (.loc 1)), none⟩,
 ⟨.tmp 22, .r (.off 0 (.loc 2)), none⟩,
 ⟨.tmp 23, .r (.load false 1 (.tmp 22)), none⟩,
 ⟨.tmp 24, .r (.bin .sub (.tmp 21) (.tmp 23)), none⟩,
 ⟨.tmp 25, .r (.slc 3 (.tmp 20) (some (.tmp 24)) none none), none⟩,
 ⟨.tmp 26, .call f1 [.tmp 25], none⟩,
 ⟨.tmp 27, .r (.build [(.int .i64 0), (.int .i64 0), .nils] [(0, 1, .tmp 17), (1, 1, .tmp 18), (2, 1, .tmp 26)]), none⟩,
 ⟨.none, .h (.store 3 (.loc 4) (.tmp 27)), none⟩,
 ⟨.loc 5, .r (.mov (.cst (.int .i64 0))), none⟩])
 .ret)))), [(.cell (.loc 4) true 3), (.tmp (.loc 5))]⟩

def c_rlog_fresh_l0 : AC := (.seq (.reg [⟨.loc 9, .r (.bin .lss (.loc 8) (.loc 7)), none⟩])
 (.seq (.cond (.loc 9) .skip
 (.exit 0))
 (.seq (.block 1 (.seq (.reg [⟨.tmp 10, .r (.idx 3 (.loc 6) (.loc 8)), none⟩,
 ⟨.tmp 11, .r (.load true 3 (.tmp 10)), none⟩,
 ⟨.loc 5, .h (.mk [(.int .i64 0), (.int .i64 0), .nils]), none⟩,
 ⟨.none, .h (.store 3 (.loc 5) (.tmp 11)), none⟩])
 (.seq (.reg [⟨.tmp 12, .h (.bsl 1 []), none⟩,
 ⟨.tmp 13, .r (.off 2 (.loc 5)), none⟩,
 ⟨.tmp 14, .r (.load false 1 (.tmp 13)), none⟩,
 ⟨.tmp 15, .h (.app 1 1 (.tmp 12) (.tmp 14)), none⟩,
 ⟨.tmp 16, .r (.off 2 (.loc 5)), none⟩,
 ⟨.none, .h (.store 1 (.tmp 16) (.tmp 15)), none⟩])
 (.reg [⟨.tmp 17, .r (.mov (.loc 3)), none⟩,
 ⟨.tmp 18, .r (.load true 3 (.loc 5)), none⟩,
 ⟨.tmp 19, .h (.bsl 3 [.tmp 18]), none⟩,
 ⟨.tmp 20, .h (.app 3 40 (.tmp 17) (.tmp 19)), none⟩,
 ⟨.loc 3, .r (.mov (.tmp 20)), none⟩]))))
 (.reg [⟨.tmp 21, .r (.bin .add (.loc 8) (.cst (.int .i64 1))), none⟩,
 ⟨.loc 8, .r (.mov (.tmp 21)), none⟩]))))
/-- glebe/rlog.fresh -/
def c_rlog_fresh : AFn := ⟨23, fun s => List.contains [0, 2, 3, 5, 6, 7, 8, 9] s, (.seq (.reg [⟨.loc 2, .r (.mov (.cst .nils)), none⟩])
 (.seq (.reg [⟨.loc 3, .r (.mov (.cst .nils)), none⟩])
 (.seq (.seq (.reg [⟨.loc 6, .r (.mov (.loc 0)), none⟩,
 ⟨.loc 7, .r (.len (.loc 6)), none⟩,
 ⟨.loc 8, .r (.mov (.cst (.int .i64 0))), none⟩])
 (.block 0 (.loop (c_rlog_fresh_l0))))
 (.seq (.reg [⟨.tmp 22, .r (.mov (.loc 3)), none⟩,
 ⟨.loc 2, .r (.mov (.tmp 22)), none⟩])
 .ret)))), [(.tmp (.loc 2))]⟩

end Glb
