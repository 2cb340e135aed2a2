/-
  What functions of the program are, one by one (the functions that they call as parameters), in a form of which something can be shown.
-/
import Derived.Test.YtdeiamnhnfmilaaGreatGlbShort
import Derived.Test.YtdeiamnhnfmilaaGreatGlbLibB
set_option linter.unusedSimpArgs false
set_option linter.unusedVariables false
namespace Glb
open Go
set_option maxRecDepth 100000
def c_image_source_conf (f0 : FuncId) : AFn := ⟨19, fun s => List.contains [0, 2] s, (.seq (.reg [⟨.loc 2, .h (.mk [.nils, .nils, .nils]), none⟩])
 (.seq (.dreg ⟨[0, 1, 3, 7, 15, 0, 32, 96, 224, 511, 0, 1024, 3072, 7168, 16383, 32767, 65535], 0, [Zc 0 0 0,
 Zb 1 0 0,
 Za 2 0 0 1,
 Qy 3 0 1 2,
 Zc 5 0 0,
 Zb 6 0 5,
 Za 7 0 0 6,
 Qy 8 0 1 7,
 Zc 10 0 0,
 Zb 11 0 10,
 Za 12 0 0 11,
 Qy 13 0 1 12,
 Zg 4 0 f0 3,
 Zg 9 0 f0 8,
 Zg 14 0 f0 13,
 ⟨15, 0, false, .r (.build [.nils, .nils, .nils] [(0, 1, .tmp 4), (1, 1, .tmp 9), (2, 1, .tmp 14)]), none⟩,
 ⟨16, 0, true, .h (.store 3 (.loc 2) (.tmp 15)), none⟩], []⟩)
 .ret)), [(.cell (.loc 2) true 3)]⟩
def c_image_source_end (f0 : FuncId) : AFn := ⟨12, fun s => List.contains [0, 2, 6] s, (.seq (.reg [Qh 2 0])
 (.seq (.seq (.reg [Qa 3 0,
 Qj 4 3,
 Qf 5 1 4,
 ⟨.loc 6, .r (.load false 1 (.tmp 5)), none⟩])
 (.cond (.loc 6) (.seq (.reg [Qh 2 4])
 .ret)
 .skip))
 (.seq (.reg [Qa 7 0,
 Qj 8 7,
 Qf 9 0 8,
 Qd 10 1 9,
 Qn 11 f0 10,
 Qb 2 11])
 .ret))), [(.tmp (.loc 2))]⟩
def c_image_GetConf (f0 f1 f2 f3 : FuncId) : AFn := ⟨24, fun s => List.contains [0, 2, 3, 4, 5, 6, 16, 20] s, (.seq (.reg [⟨.loc 2, .h (.mk [.nils, .nils, .nils]), none⟩,
 Qh 3 0])
 (.seq (.reg [Qa 7 0,
 Qn 8 f0 7,
 ⟨.tmp 9, .r (.build [(.raw (.pointer none)), (.bool false)] [(0, 1, .tmp 8)]), none⟩,
 ⟨.tmp 10, .h (.box (.tmp 9)), none⟩,
 Qb 4 10])
 (.seq (.reg [Qa 11 4,
 Qn 12 f1 11,
 ⟨.loc 5, .h (.mk [.nils, .nils, .nils]), none⟩,
 Ql 3 5 12])
 (.seq (.reg [Qa 13 4,
 Qn 14 f2 13,
 Qb 6 14])
 (.seq (.seq (.reg [Qa 15 6,
 ⟨.loc 16, .r (.bin .eql (.tmp 15) (.cst (.int .i64 0))), none⟩])
 (.cond (.loc 16) (.reg [Qg 17 3 5,
 Qn 18 f3 17,
 Qb 6 18])
 .skip))
 (.seq (.seq (.reg [Qa 19 6,
 ⟨.loc 20, .r (.bin .neq (.tmp 19) (.cst (.int .i64 0))), none⟩])
 (.cond (.loc 20) (.seq (.reg [⟨.tmp 21, .r (.build [.nils, .nils, .nils] []), none⟩,
 Qa 22 6,
 Ql 3 2 21,
 Qb 3 22])
 .ret)
 .skip))
 (.seq (.reg [Qg 23 3 5,
 Ql 3 2 23,
 Qh 3 0])
 .ret))))))), [(.cell (.loc 2) true 3), (.tmp (.loc 3))]⟩
end Glb
