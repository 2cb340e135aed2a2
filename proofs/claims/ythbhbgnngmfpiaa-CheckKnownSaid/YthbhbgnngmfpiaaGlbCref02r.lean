/-
  What functions of the program are, one by one (the functions that they call as parameters), in a form of which something can be shown.
-/
import Derived.Test.YthbhbgnngmfpiaaGlbLibB
set_option linter.unusedSimpArgs false
set_option linter.unusedVariables false
namespace Glb
open Go
set_option maxRecDepth 100000

def c_gleberef02_Read_l0 : AC := (.seq (.seq (.reg [⟨.tmp 7, .r (.mov (.loc 4)), none⟩,
 ⟨.tmp 8, .r (.mov (.loc 0)), none⟩,
 ⟨.tmp 9, .r (.len (.tmp 8)), none⟩,
 ⟨.loc 10, .r (.bin .lss (.tmp 7) (.tmp 9)), none⟩])
 (.cond (.loc 10) .skip
 (.exit 0)))
 (.seq (.block 1 (.dreg ⟨[0, 0, 2, 6, 14, 0, 0, 96, 224, 480, 1022, 2047, 4095, 8191], 1, [⟨0, 0, false, .r (.mov (.loc 3)), none⟩,
 ⟨1, 0, false, .r (.mov (.loc 3)), none⟩,
 ⟨2, 0, false, .r (.chk (.tmp 1)), none⟩,
 ⟨3, 0, false, .r (.off 0 (.tmp 2)), none⟩,
 ⟨4, 0, false, .r (.load false 1 (.tmp 3)), none⟩,
 ⟨5, 0, false, .r (.mov (.loc 0)), none⟩,
 ⟨6, 0, false, .r (.mov (.loc 4)), none⟩,
 ⟨7, 0, false, .r (.idx 1 (.tmp 5) (.tmp 6)), none⟩,
 ⟨8, 0, false, .r (.load false 1 (.tmp 7)), none⟩,
 ⟨9, 0, false, .h (.bsl 1 [.tmp 8]), none⟩,
 ⟨10, 1, true, .h (.app 1 1 (.tmp 4) (.tmp 9)), none⟩,
 ⟨11, 1, false, .r (.chk (.tmp 0)), none⟩,
 ⟨12, 1, false, .r (.off 0 (.tmp 11)), none⟩,
 ⟨13, 1, true, .h (.store 1 (.tmp 12) (.tmp 10)), none⟩], []⟩))
 (.reg [⟨.tmp 11, .r (.mov (.loc 4)), none⟩,
 ⟨.tmp 12, .r (.bin .add (.tmp 11) (.cst (.int .i64 1))), none⟩,
 ⟨.loc 4, .r (.mov (.tmp 12)), none⟩])))
/-- glebe/gleberef02.Read -/
def c_gleberef02_Read : AFn := ⟨27, fun s => List.contains [0, 2, 3, 4, 10] s, (.seq (.reg [⟨.loc 2, .r (.mov (.cst (.raw (.pointer none)))), none⟩])
 (.seq (.reg [⟨.tmp 5, .r (.build [.nils, (.int .i64 0), (.bool false)] []), none⟩,
 ⟨.tmp 6, .h (.box (.tmp 5)), none⟩,
 ⟨.loc 3, .r (.mov (.tmp 6)), none⟩])
 (.seq (.seq (.reg [⟨.loc 4, .r (.mov (.cst (.int .i64 0))), none⟩])
 (.block 0 (.loop (c_gleberef02_Read_l0))))
 (.seq (.reg [⟨.tmp 26, .r (.mov (.loc 3)), none⟩,
 ⟨.loc 2, .r (.mov (.tmp 26)), none⟩])
 .ret)))), [(.tmp (.loc 2))]⟩

/-- (*glebe/gleberef02.Reader).Left -/
def c_gleberef02_Reader_Left : AFn := ⟨17, fun s => List.contains [0, 2, 6] s, (.seq (.reg [⟨.loc 2, .r (.mov (.cst (.int .i64 0))), none⟩])
 (.seq (.seq (.reg [⟨.tmp 3, .r (.mov (.loc 0)), none⟩,
 ⟨.tmp 4, .r (.chk (.tmp 3)), none⟩,
 ⟨.tmp 5, .r (.off 2 (.tmp 4)), none⟩,
 ⟨.loc 6, .r (.load false 1 (.tmp 5)), none⟩])
 (.cond (.loc 6) (.seq (.reg [⟨.loc 2, .r (.mov (.cst (.int .i64 0))), none⟩])
 .ret)
 .skip))
 (.seq (.dreg ⟨[0, 1, 3, 7, 15, 0, 32, 96, 224, 511, 1023], 0, [⟨0, 0, false, .r (.mov (.loc 0)), none⟩,
 ⟨1, 0, false, .r (.chk (.tmp 0)), none⟩,
 ⟨2, 0, false, .r (.off 0 (.tmp 1)), none⟩,
 ⟨3, 0, false, .r (.load false 1 (.tmp 2)), none⟩,
 ⟨4, 0, false, .r (.len (.tmp 3)), none⟩,
 ⟨5, 0, false, .r (.mov (.loc 0)), none⟩,
 ⟨6, 0, false, .r (.chk (.tmp 5)), none⟩,
 ⟨7, 0, false, .r (.off 1 (.tmp 6)), none⟩,
 ⟨8, 0, false, .r (.load false 1 (.tmp 7)), none⟩,
 ⟨9, 0, false, .r (.bin .sub (.tmp 4) (.tmp 8)), none⟩,
 ⟨10, 0, false, .r (.mov (.tmp 9)), none⟩], [(2, 10)]⟩)
 .ret))), [(.tmp (.loc 2))]⟩

def c_gleberef02_Reader_Int_l0 (f0 : FuncId) : AC := (.seq (.seq (.reg [⟨.tmp 11, .r (.mov (.loc 4)), none⟩,
 ⟨.loc 12, .r (.bin .lss (.tmp 11) (.cst (.int .i64 8))), none⟩])
 (.cond (.loc 12) .skip
 (.exit 0)))
 (.seq (.block 1 (.dreg ⟨[0, 1, 0, 4, 12, 28, 0, 64, 192, 448, 0, 1984, 4092, 8188, 16380, 32767, 65535], 0, [⟨0, 0, false, .r (.mov (.loc 3)), none⟩,
 ⟨1, 0, false, .r (.bin .mul (.tmp 0) (.cst (.int .u64 256))), none⟩,
 ⟨2, 0, false, .r (.mov (.loc 0)), none⟩,
 ⟨3, 0, false, .r (.chk (.tmp 2)), none⟩,
 ⟨4, 0, false, .r (.off 0 (.tmp 3)), none⟩,
 ⟨5, 0, false, .r (.load false 1 (.tmp 4)), none⟩,
 ⟨6, 0, false, .r (.mov (.loc 0)), none⟩,
 ⟨7, 0, false, .r (.chk (.tmp 6)), none⟩,
 ⟨8, 0, false, .r (.off 1 (.tmp 7)), none⟩,
 ⟨9, 0, false, .r (.load false 1 (.tmp 8)), none⟩,
 ⟨10, 0, false, .r (.mov (.loc 4)), none⟩,
 ⟨11, 0, false, .r (.bin .add (.tmp 9) (.tmp 10)), none⟩,
 ⟨12, 0, false, .r (.idx 1 (.tmp 5) (.tmp 11)), none⟩,
 ⟨13, 0, false, .r (.load false 1 (.tmp 12)), none⟩,
 ⟨14, 0, false, .r (.conv .u64 (.tmp 13)), none⟩,
 ⟨15, 0, false, .r (.bin .add (.tmp 1) (.tmp 14)), none⟩,
 ⟨16, 0, false, .r (.mov (.tmp 15)), none⟩], [(3, 16)]⟩))
 (.reg [⟨.tmp 13, .r (.mov (.loc 4)), none⟩,
 ⟨.tmp 14, .r (.bin .add (.tmp 13) (.cst (.int .i64 1))), none⟩,
 ⟨.loc 4, .r (.mov (.tmp 14)), none⟩])))
/-- (*glebe/gleberef02.Reader).Int -/
def c_gleberef02_Reader_Int (f0 : FuncId) : AFn := ⟨41, fun s => List.contains [0, 2, 3, 4, 7, 12] s, (.seq (.reg [⟨.loc 2, .r (.mov (.cst (.int .i64 0))), none⟩])
 (.seq (.seq (.reg [⟨.tmp 5, .r (.mov (.loc 0)), none⟩,
 ⟨.tmp 6, .call f0 [.tmp 5], none⟩,
 ⟨.loc 7, .r (.bin .lss (.tmp 6) (.cst (.int .i64 8))), none⟩])
 (.cond (.loc 7) (.seq (.reg [⟨.tmp 8, .r (.mov (.loc 0)), none⟩,
 ⟨.tmp 9, .r (.chk (.tmp 8)), none⟩,
 ⟨.tmp 10, .r (.off 2 (.tmp 9)), none⟩,
 ⟨.none, .h (.store 1 (.tmp 10) (.cst (.bool true))), none⟩])
 (.seq (.reg [⟨.loc 2, .r (.mov (.cst (.int .i64 0))), none⟩])
 .ret))
 .skip))
 (.seq (.reg [⟨.loc 3, .r (.mov (.cst (.int .u64 0))), none⟩])
 (.seq (.seq (.reg [⟨.loc 4, .r (.mov (.cst (.int .i64 0))), none⟩])
 (.block 0 (.loop (c_gleberef02_Reader_Int_l0 f0))))
 (.seq (.reg [⟨.tmp 31, .r (.mov (.loc 0)), none⟩,
 ⟨.tmp 32, .r (.mov (.loc 0)), none⟩,
 ⟨.tmp 33, .r (.chk (.tmp 32)), none⟩,
 ⟨.tmp 34, .r (.off 1 (.tmp 33)), none⟩,
 ⟨.tmp 35, .r (.load false 1 (.tmp 34)), none⟩,
 ⟨.tmp 36, .r (.bin .add (.tmp 35) (.cst (.int .i64 8))), none⟩,
 ⟨.tmp 37, .r (.chk (.tmp 31)), none⟩,
 ⟨.tmp 38, .r (.off 1 (.tmp 37)), none⟩,
 ⟨.none, .h (.store 1 (.tmp 38) (.tmp 36)), none⟩])
 (.seq (.reg [⟨.tmp 39, .r (.mov (.loc 3)), none⟩,
 ⟨.tmp 40, .r (.conv .i64 (.tmp 39)), none⟩,
 ⟨.loc 2, .r (.mov (.tmp 40)), none⟩])
 .ret)))))), [(.tmp (.loc 2))]⟩

end Glb
