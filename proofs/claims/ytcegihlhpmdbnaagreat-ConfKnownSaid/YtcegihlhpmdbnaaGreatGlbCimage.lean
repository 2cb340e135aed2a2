/-
  What functions of the program are, one by one (the functions that they call as parameters), in a form of which something can be shown.
-/
import Derived.Test.YtcegihlhpmdbnaaGreatGlbLibB
set_option linter.unusedSimpArgs false
set_option linter.unusedVariables false
namespace Glb
open Go
set_option maxRecDepth 100000

/-- (*glebe/image.source).conf -/
def c_image_source_conf (f0 : FuncId) : AFn := ⟨19, fun s => List.contains [0, 2] s, (.seq (.reg [⟨.loc 2, .h (.mk [.nils, .nils, .nils]), none⟩])
 (.seq (.dreg ⟨[0, 1, 3, 7, 15, 0, 32, 96, 224, 511, 0, 1024, 3072, 7168, 16383, 32767, 65535], 0, [⟨0, 0, false, .r (.mov (.loc 0)), none⟩,
 ⟨1, 0, false, .r (.chk (.tmp 0)), none⟩,
 ⟨2, 0, false, .r (.off 0 (.tmp 1)), none⟩,
 ⟨3, 0, false, .r (.load false 1 (.tmp 2)), none⟩,
 ⟨5, 0, false, .r (.mov (.loc 0)), none⟩,
 ⟨6, 0, false, .r (.chk (.tmp 5)), none⟩,
 ⟨7, 0, false, .r (.off 0 (.tmp 6)), none⟩,
 ⟨8, 0, false, .r (.load false 1 (.tmp 7)), none⟩,
 ⟨10, 0, false, .r (.mov (.loc 0)), none⟩,
 ⟨11, 0, false, .r (.chk (.tmp 10)), none⟩,
 ⟨12, 0, false, .r (.off 0 (.tmp 11)), none⟩,
 ⟨13, 0, false, .r (.load false 1 (.tmp 12)), none⟩,
 ⟨4, 0, true, .call f0 [.tmp 3], none⟩,
 ⟨9, 0, true, .call f0 [.tmp 8], none⟩,
 ⟨14, 0, true, .call f0 [.tmp 13], none⟩,
 ⟨15, 0, false, .r (.build [.nils, .nils, .nils] [(0, 1, .tmp 4), (1, 1, .tmp 9), (2, 1, .tmp 14)]), none⟩,
 ⟨16, 0, true, .h (.store 3 (.loc 2) (.tmp 15)), none⟩], []⟩)
 .ret)), [(.cell (.loc 2) true 3)]⟩

/-- (*glebe/image.source).end -/
def c_image_source_end (f0 : FuncId) : AFn := ⟨12, fun s => List.contains [0, 2, 6] s, (.seq (.reg [⟨.loc 2, .r (.mov (.cst (.int .i64 0))), none⟩])
 (.seq (.seq (.reg [⟨.tmp 3, .r (.mov (.loc 0)), none⟩,
 ⟨.tmp 4, .r (.chk (.tmp 3)), none⟩,
 ⟨.tmp 5, .r (.off 1 (.tmp 4)), none⟩,
 ⟨.loc 6, .r (.load false 1 (.tmp 5)), none⟩])
 (.cond (.loc 6) (.seq (.reg [⟨.loc 2, .r (.mov (.cst (.int .i64 4))), none⟩])
 .ret)
 .skip))
 (.seq (.reg [⟨.tmp 7, .r (.mov (.loc 0)), none⟩,
 ⟨.tmp 8, .r (.chk (.tmp 7)), none⟩,
 ⟨.tmp 9, .r (.off 0 (.tmp 8)), none⟩,
 ⟨.tmp 10, .r (.load false 1 (.tmp 9)), none⟩,
 ⟨.tmp 11, .call f0 [.tmp 10], none⟩,
 ⟨.loc 2, .r (.mov (.tmp 11)), none⟩])
 .ret))), [(.tmp (.loc 2))]⟩

/-- glebe/image.GetConf -/
def c_image_GetConf (f0 f1 f2 f3 : FuncId) : AFn := ⟨24, fun s => List.contains [0, 2, 3, 4, 5, 6, 16, 20] s, (.seq (.reg [⟨.loc 2, .h (.mk [.nils, .nils, .nils]), none⟩,
 ⟨.loc 3, .r (.mov (.cst (.int .i64 0))), none⟩])
 (.seq (.reg [⟨.tmp 7, .r (.mov (.loc 0)), none⟩,
 ⟨.tmp 8, .call f0 [.tmp 7], none⟩,
 ⟨.tmp 9, .r (.build [(.raw (.pointer none)), (.bool false)] [(0, 1, .tmp 8)]), none⟩,
 ⟨.tmp 10, .h (.box (.tmp 9)), none⟩,
 ⟨.loc 4, .r (.mov (.tmp 10)), none⟩])
 (.seq (.reg [⟨.tmp 11, .r (.mov (.loc 4)), none⟩,
 ⟨.tmp 12, .call f1 [.tmp 11], none⟩,
 ⟨.loc 5, .h (.mk [.nils, .nils, .nils]), none⟩,
 ⟨.none, .h (.store 3 (.loc 5) (.tmp 12)), none⟩])
 (.seq (.reg [⟨.tmp 13, .r (.mov (.loc 4)), none⟩,
 ⟨.tmp 14, .call f2 [.tmp 13], none⟩,
 ⟨.loc 6, .r (.mov (.tmp 14)), none⟩])
 (.seq (.seq (.reg [⟨.tmp 15, .r (.mov (.loc 6)), none⟩,
 ⟨.loc 16, .r (.bin .eql (.tmp 15) (.cst (.int .i64 0))), none⟩])
 (.cond (.loc 16) (.reg [⟨.tmp 17, .r (.load true 3 (.loc 5)), none⟩,
 ⟨.tmp 18, .call f3 [.tmp 17], none⟩,
 ⟨.loc 6, .r (.mov (.tmp 18)), none⟩])
 .skip))
 (.seq (.seq (.reg [⟨.tmp 19, .r (.mov (.loc 6)), none⟩,
 ⟨.loc 20, .r (.bin .neq (.tmp 19) (.cst (.int .i64 0))), none⟩])
 (.cond (.loc 20) (.seq (.reg [⟨.tmp 21, .r (.build [.nils, .nils, .nils] []), none⟩,
 ⟨.tmp 22, .r (.mov (.loc 6)), none⟩,
 ⟨.none, .h (.store 3 (.loc 2) (.tmp 21)), none⟩,
 ⟨.loc 3, .r (.mov (.tmp 22)), none⟩])
 .ret)
 .skip))
 (.seq (.reg [⟨.tmp 23, .r (.load true 3 (.loc 5)), none⟩,
 ⟨.none, .h (.store 3 (.loc 2) (.tmp 23)), none⟩,
 ⟨.loc 3, .r (.mov (.cst (.int .i64 0))), none⟩])
 .ret))))))), [(.cell (.loc 2) true 3), (.tmp (.loc 3))]⟩

end Glb
