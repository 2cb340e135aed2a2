/-
  What functions of the program are, one by one (the functions that they call as parameters), in a form of which something can be shown.
-/
import Derived.Test.YtgjgniadldlmiaaGlbLibB
set_option linter.unusedSimpArgs false
set_option linter.unusedVariables false
namespace Glb
open Go
set_option maxRecDepth 100000

/-- glebe/pack.Read -/
def c_pack_Read (f0 : FuncId) : AFn := ⟨7, fun s => List.contains [0, 2] s, (.seq (.reg [⟨.loc 2, .r (.mov (.cst (.raw (.pointer none)))), none⟩])
 (.seq (.reg [⟨.tmp 3, .r (.mov (.loc 0)), none⟩,
 ⟨.tmp 4, .call f0 [.tmp 3], none⟩,
 ⟨.tmp 5, .r (.build [.nils, (.bool false)] [(0, 1, .tmp 4)]), none⟩,
 ⟨.tmp 6, .h (.box (.tmp 5)), none⟩,
 ⟨.loc 2, .r (.mov (.tmp 6)), none⟩])
 .ret)), [(.tmp (.loc 2))]⟩

/-- slices.Clone[[]byte,byte] -/
def c_slices_Clone_byte_byte : AFn := ⟨8, fun s => List.contains [0, 2, 4] s, (.seq (.reg [⟨.loc 2, .r (.mov (.cst .nils)), none⟩])
 (.seq (.seq (.reg [⟨.tmp 3, .r (.mov (.loc 0)), none⟩,
 ⟨.loc 4, .r (.nileq false (.tmp 3)), none⟩])
 (.cond (.loc 4) (.seq (.reg [⟨.loc 2, .r (.mov (.cst .nils)), none⟩])
 .ret)
 .skip))
 (.seq (.reg [⟨.tmp 5, .h (.bsl 1 []), none⟩,
 ⟨.tmp 6, .r (.mov (.loc 0)), none⟩,
 ⟨.tmp 7, .h (.app 1 1 (.tmp 5) (.tmp 6)), none⟩,
 ⟨.loc 2, .r (.mov (.tmp 7)), none⟩])
 .ret))), [(.tmp (.loc 2))]⟩

/-- (*glebe/pack.Reader).fail -/
def c_pack_Reader_fail : AFn := ⟨8, fun s => List.contains [0] s, (.reg [⟨.tmp 2, .r (.mov (.loc 0)), none⟩,
 ⟨.tmp 3, .r (.mov (.loc 0)), none⟩,
 ⟨.tmp 4, .r (.chk (.tmp 2)), none⟩,
 ⟨.tmp 5, .r (.off 0 (.tmp 4)), none⟩,
 ⟨.none, .h (.store 1 (.tmp 5) (.cst .nils)), none⟩,
 ⟨.tmp 6, .r (.chk (.tmp 3)), none⟩,
 ⟨.tmp 7, .r (.off 1 (.tmp 6)), none⟩,
 ⟨.none, .h (.store 1 (.tmp 7) (.cst (.bool true))), none⟩]), []⟩

/-- (*glebe/pack.Reader).take -/
def c_pack_Reader_take (f0 : FuncId) : AFn := ⟨43, fun s => List.contains [0, 1, 4, 5, 6, 23] s, (.seq (.reg [⟨.loc 4, .r (.mov (.cst .nils)), none⟩,
 ⟨.loc 5, .r (.mov (.cst (.bool false))), none⟩])
 (.seq (.seq (.reg [⟨.tmp 7, .r (.mov (.loc 0)), none⟩,
 ⟨.tmp 8, .r (.chk (.tmp 7)), none⟩,
 ⟨.tmp 9, .r (.off 1 (.tmp 8)), none⟩,
 ⟨.tmp 10, .r (.load false 1 (.tmp 9)), none⟩,
 ⟨.tmp 11, .r (.mov (.tmp 10)), none⟩,
 ⟨.tmp 12, .r (.mov (.loc 1)), some (.tmp 11, false)⟩,
 ⟨.tmp 13, .r (.bin .lss (.tmp 12) (.cst (.int .i64 0))), some (.tmp 11, false)⟩,
 ⟨.tmp 14, .r (.pick (.tmp 11) (.cst (.bool true)) (.tmp 13)), none⟩,
 ⟨.tmp 15, .r (.mov (.tmp 14)), none⟩,
 ⟨.tmp 16, .r (.mov (.loc 1)), some (.tmp 15, false)⟩,
 ⟨.tmp 17, .r (.mov (.loc 0)), some (.tmp 15, false)⟩,
 ⟨.tmp 18, .r (.chk (.tmp 17)), some (.tmp 15, false)⟩,
 ⟨.tmp 19, .r (.off 0 (.tmp 18)), some (.tmp 15, false)⟩,
 ⟨.tmp 20, .r (.load false 1 (.tmp 19)), some (.tmp 15, false)⟩,
 ⟨.tmp 21, .r (.len (.tmp 20)), some (.tmp 15, false)⟩,
 ⟨.tmp 22, .r (.bin .gtr (.tmp 16) (.tmp 21)), some (.tmp 15, false)⟩,
 ⟨.loc 23, .r (.pick (.tmp 15) (.cst (.bool true)) (.tmp 22)), none⟩])
 (.cond (.loc 23) (.seq (.reg [⟨.tmp 24, .r (.mov (.loc 0)), none⟩,
 ⟨.tmp 25, .call f0 [.tmp 24], none⟩])
 (.seq (.reg [⟨.loc 4, .r (.mov (.cst .nils)), none⟩,
 ⟨.loc 5, .r (.mov (.cst (.bool false))), none⟩])
 .ret))
 .skip))
 (.seq (.reg [⟨.tmp 26, .r (.mov (.loc 0)), none⟩,
 ⟨.tmp 27, .r (.chk (.tmp 26)), none⟩,
 ⟨.tmp 28, .r (.off 0 (.tmp 27)), none⟩,
 ⟨.tmp 29, .r (.load false 1 (.tmp 28)), none⟩,
 ⟨.tmp 30, .r (.mov (.loc 1)), none⟩,
 ⟨.tmp 31, .r (.mov (.loc 1)), none⟩,
 ⟨.tmp 32, .r (.slc 1 (.tmp 29) none (some (.tmp 30)) (some (.tmp 31))), none⟩,
 ⟨.loc 6, .r (.mov (.tmp 32)), none⟩])
 (.seq (.reg [⟨.tmp 33, .r (.mov (.loc 0)), none⟩,
 ⟨.tmp 34, .r (.mov (.loc 0)), none⟩,
 ⟨.tmp 35, .r (.chk (.tmp 34)), none⟩,
 ⟨.tmp 36, .r (.off 0 (.tmp 35)), none⟩,
 ⟨.tmp 37, .r (.load false 1 (.tmp 36)), none⟩,
 ⟨.tmp 38, .r (.mov (.loc 1)), none⟩,
 ⟨.tmp 39, .r (.slc 1 (.tmp 37) (some (.tmp 38)) none none), none⟩,
 ⟨.tmp 40, .r (.chk (.tmp 33)), none⟩,
 ⟨.tmp 41, .r (.off 0 (.tmp 40)), none⟩,
 ⟨.none, .h (.store 1 (.tmp 41) (.tmp 39)), none⟩])
 (.seq (.reg [⟨.tmp 42, .r (.mov (.loc 6)), none⟩,
 ⟨.loc 4, .r (.mov (.tmp 42)), none⟩,
 ⟨.loc 5, .r (.mov (.cst (.bool true))), none⟩])
 .ret))))), [(.tmp (.loc 4)), (.tmp (.loc 5))]⟩

def c_pack_Reader_Int_l0 (f0 : FuncId) : AC := (.seq (.reg [⟨.loc 18, .r (.bin .lss (.loc 17) (.loc 16)), none⟩])
 (.seq (.cond (.loc 18) .skip
 (.exit 0))
 (.seq (.block 1 (.seq (.reg [⟨.tmp 19, .r (.idx 1 (.loc 15) (.loc 17)), none⟩,
 ⟨.tmp 20, .r (.load false 1 (.tmp 19)), none⟩,
 ⟨.loc 7, .r (.mov (.tmp 20)), none⟩])
 (.reg [⟨.tmp 21, .r (.mov (.loc 5)), none⟩,
 ⟨.tmp 22, .r (.bin .shl (.tmp 21) (.cst (.int .u64 8))), none⟩,
 ⟨.tmp 23, .r (.mov (.loc 7)), none⟩,
 ⟨.tmp 24, .r (.conv .u64 (.tmp 23)), none⟩,
 ⟨.tmp 25, .r (.bin .or (.tmp 22) (.tmp 24)), none⟩,
 ⟨.loc 5, .r (.mov (.tmp 25)), none⟩])))
 (.reg [⟨.tmp 26, .r (.bin .add (.loc 17) (.cst (.int .i64 1))), none⟩,
 ⟨.loc 17, .r (.mov (.tmp 26)), none⟩]))))
/-- (*glebe/pack.Reader).Int -/
def c_pack_Reader_Int (f0 : FuncId) : AFn := ⟨29, fun s => List.contains [0, 2, 3, 4, 5, 7, 14, 15, 16, 17, 18] s, (.seq (.reg [⟨.loc 2, .r (.mov (.cst (.int .i64 0))), none⟩])
 (.seq (.reg [⟨.tmp 9, .r (.mov (.loc 0)), none⟩,
 ⟨.tmp 10, .call f0 [.tmp 9, (.cst (.int .i64 8))], none⟩,
 ⟨.tmp 8, .r (.mov (.tmp 10)), none⟩,
 ⟨.tmp 11, .r (.ext (.tmp 8) 0), none⟩,
 ⟨.tmp 12, .r (.ext (.tmp 8) 1), none⟩,
 ⟨.loc 3, .r (.mov (.tmp 11)), none⟩,
 ⟨.loc 4, .r (.mov (.tmp 12)), none⟩])
 (.seq (.seq (.reg [⟨.tmp 13, .r (.mov (.loc 4)), none⟩,
 ⟨.loc 14, .r (.not (.tmp 13)), none⟩])
 (.cond (.loc 14) (.seq (.reg [⟨.loc 2, .r (.mov (.cst (.int .i64 0))), none⟩])
 .ret)
 .skip))
 (.seq (.reg [⟨.loc 5, .r (.mov (.cst (.int .u64 0))), none⟩])
 (.seq (.seq (.reg [⟨.loc 15, .r (.mov (.loc 3)), none⟩,
 ⟨.loc 16, .r (.len (.loc 15)), none⟩,
 ⟨.loc 17, .r (.mov (.cst (.int .i64 0))), none⟩])
 (.block 0 (.loop (c_pack_Reader_Int_l0 f0))))
 (.seq (.reg [⟨.tmp 27, .r (.mov (.loc 5)), none⟩,
 ⟨.tmp 28, .r (.conv .i64 (.tmp 27)), none⟩,
 ⟨.loc 2, .r (.mov (.tmp 28)), none⟩])
 .ret)))))), [(.tmp (.loc 2))]⟩

/-- (*glebe/pack.Reader).Left -/
def c_pack_Reader_Left : AFn := ⟨8, fun s => List.contains [0, 2] s, (.seq (.reg [⟨.loc 2, .r (.mov (.cst (.int .i64 0))), none⟩])
 (.seq (.reg [⟨.tmp 3, .r (.mov (.loc 0)), none⟩,
 ⟨.tmp 4, .r (.chk (.tmp 3)), none⟩,
 ⟨.tmp 5, .r (.off 0 (.tmp 4)), none⟩,
 ⟨.tmp 6, .r (.load false 1 (.tmp 5)), none⟩,
 ⟨.tmp 7, .r (.len (.tmp 6)), none⟩,
 ⟨.loc 2, .r (.mov (.tmp 7)), none⟩])
 .ret)), [(.tmp (.loc 2))]⟩

/-- (*glebe/pack.Reader).Bad -/
def c_pack_Reader_Bad : AFn := ⟨7, fun s => List.contains [0, 2] s, (.seq (.reg [⟨.loc 2, .r (.mov (.cst (.bool false))), none⟩])
 (.seq (.reg [⟨.tmp 3, .r (.mov (.loc 0)), none⟩,
 ⟨.tmp 4, .r (.chk (.tmp 3)), none⟩,
 ⟨.tmp 5, .r (.off 1 (.tmp 4)), none⟩,
 ⟨.tmp 6, .r (.load false 1 (.tmp 5)), none⟩,
 ⟨.loc 2, .r (.mov (.tmp 6)), none⟩])
 .ret)), [(.tmp (.loc 2))]⟩

end Glb
