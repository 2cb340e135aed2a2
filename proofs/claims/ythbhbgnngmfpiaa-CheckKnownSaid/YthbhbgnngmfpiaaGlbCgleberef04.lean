/-
  What functions of the program are, one by one (the functions that they call as parameters), in a form of which something can be shown.
-/
import Derived.Test.YthbhbgnngmfpiaaGlbLibB
set_option linter.unusedSimpArgs false
set_option linter.unusedVariables false
namespace Glb
open Go
set_option maxRecDepth 100000

/-- glebe/gleberef04.New -/
def c_gleberef04_New : AFn := ⟨13, fun s => List.contains [0, 2, 3, 9] s, (.seq (.reg [⟨.loc 2, .r (.mov (.cst (.raw (.pointer none)))), none⟩,
 ⟨.loc 3, .r (.mov (.cst (.int .i64 0))), none⟩])
 (.seq (.seq (.reg [⟨.tmp 4, .r (.mov (.loc 0)), none⟩,
 ⟨.tmp 5, .r (.bin .lss (.tmp 4) (.cst (.int .i64 1))), none⟩,
 ⟨.tmp 6, .r (.mov (.tmp 5)), none⟩,
 ⟨.tmp 7, .r (.mov (.loc 0)), some (.tmp 6, false)⟩,
 ⟨.tmp 8, .r (.bin .gtr (.tmp 7) (.cst (.int .i64 16384))), some (.tmp 6, false)⟩,
 ⟨.loc 9, .r (.pick (.tmp 6) (.cst (.bool true)) (.tmp 8)), none⟩])
 (.cond (.loc 9) (.seq (.reg [⟨.loc 2, .r (.mov (.cst (.raw (.pointer none)))), none⟩,
 ⟨.loc 3, .r (.mov (.cst (.int .i64 3))), none⟩])
 .ret)
 .skip))
 (.seq (.reg [⟨.tmp 10, .r (.mov (.loc 0)), none⟩,
 ⟨.tmp 11, .r (.build [(.int .i64 0), (.int .i64 0), (.bool false), .nils, .nils] [(0, 1, .tmp 10), (1, 1, (.cst (.int .i64 (-1))))]), none⟩,
 ⟨.tmp 12, .h (.box (.tmp 11)), none⟩,
 ⟨.loc 2, .r (.mov (.tmp 12)), none⟩,
 ⟨.loc 3, .r (.mov (.cst (.int .i64 0))), none⟩])
 .ret))), [(.tmp (.loc 2)), (.tmp (.loc 3))]⟩

/-- (*glebe/gleberef04.Disk).Write -/
def c_gleberef04_Disk_Write (f0 f1 f2 : FuncId) : AFn := ⟨39, fun s => List.contains [0, 1, 2, 6, 10, 20, 23, 26] s, (.seq (.reg [⟨.loc 6, .r (.mov (.cst (.int .i64 0))), none⟩])
 (.seq (.seq (.reg [⟨.tmp 7, .r (.mov (.loc 0)), none⟩,
 ⟨.tmp 8, .r (.chk (.tmp 7)), none⟩,
 ⟨.tmp 9, .r (.off 2 (.tmp 8)), none⟩,
 ⟨.loc 10, .r (.load false 1 (.tmp 9)), none⟩])
 (.cond (.loc 10) (.seq (.reg [⟨.loc 6, .r (.mov (.cst (.int .i64 10))), none⟩])
 .ret)
 .skip))
 (.seq (.seq (.reg [⟨.tmp 11, .r (.mov (.loc 1)), none⟩,
 ⟨.tmp 12, .r (.bin .lss (.tmp 11) (.cst (.int .i64 0))), none⟩,
 ⟨.tmp 13, .r (.mov (.tmp 12)), none⟩,
 ⟨.tmp 14, .r (.mov (.loc 1)), some (.tmp 13, false)⟩,
 ⟨.tmp 15, .r (.mov (.loc 0)), some (.tmp 13, false)⟩,
 ⟨.tmp 16, .r (.chk (.tmp 15)), some (.tmp 13, false)⟩,
 ⟨.tmp 17, .r (.off 0 (.tmp 16)), some (.tmp 13, false)⟩,
 ⟨.tmp 18, .r (.load false 1 (.tmp 17)), some (.tmp 13, false)⟩,
 ⟨.tmp 19, .r (.bin .geq (.tmp 14) (.tmp 18)), some (.tmp 13, false)⟩,
 ⟨.loc 20, .r (.pick (.tmp 13) (.cst (.bool true)) (.tmp 19)), none⟩])
 (.cond (.loc 20) (.seq (.reg [⟨.loc 6, .r (.mov (.cst (.int .i64 3))), none⟩])
 .ret)
 .skip))
 (.seq (.seq (.reg [⟨.tmp 21, .r (.mov (.loc 2)), none⟩,
 ⟨.tmp 22, .r (.len (.tmp 21)), none⟩,
 ⟨.loc 23, .r (.bin .gtr (.tmp 22) (.cst (.int .i64 64))), none⟩])
 (.cond (.loc 23) (.seq (.reg [⟨.loc 6, .r (.mov (.cst (.int .i64 2))), none⟩])
 .ret)
 .skip))
 (.seq (.seq (.reg [⟨.tmp 24, .r (.mov (.loc 0)), none⟩,
 ⟨.tmp 25, .call f0 [.tmp 24], none⟩,
 ⟨.loc 26, .r (.not (.tmp 25)), none⟩])
 (.cond (.loc 26) (.seq (.reg [⟨.loc 6, .r (.mov (.cst (.int .i64 10))), none⟩])
 .ret)
 .skip))
 (.seq (.dreg ⟨[0, 0, 2, 6, 14, 0, 0, 64, 224, 510, 1023, 2047, 4095], 0, [⟨0, 0, false, .r (.mov (.loc 0)), none⟩,
 ⟨1, 0, false, .r (.mov (.loc 0)), none⟩,
 ⟨2, 0, false, .r (.chk (.tmp 1)), none⟩,
 ⟨3, 0, false, .r (.off 4 (.tmp 2)), none⟩,
 ⟨4, 0, false, .r (.load false 1 (.tmp 3)), none⟩,
 ⟨5, 0, false, .r (.mov (.loc 1)), none⟩,
 ⟨6, 0, false, .r (.mov (.loc 2)), none⟩,
 ⟨7, 0, true, .call f1 [.tmp 6], none⟩,
 ⟨8, 0, false, .r (.build [(.int .i64 0), .nils, (.bool false)] [(0, 1, .tmp 5), (1, 1, .tmp 7)]), none⟩,
 ⟨9, 0, true, .call f2 [.tmp 4, .tmp 8], none⟩,
 ⟨10, 0, false, .r (.chk (.tmp 0)), none⟩,
 ⟨11, 0, false, .r (.off 4 (.tmp 10)), none⟩,
 ⟨12, 0, true, .h (.store 1 (.tmp 11) (.tmp 9)), none⟩], []⟩)
 (.seq (.reg [⟨.loc 6, .r (.mov (.cst (.int .i64 0))), none⟩])
 .ret))))))), [(.tmp (.loc 6))]⟩

def c_gleberef04_Disk_Flush_l0 (f0 f1 : FuncId) : AC := (.seq (.seq (.reg [⟨.tmp 13, .r (.mov (.loc 3)), none⟩,
 ⟨.tmp 14, .r (.mov (.loc 0)), none⟩,
 ⟨.tmp 15, .r (.chk (.tmp 14)), none⟩,
 ⟨.tmp 16, .r (.off 4 (.tmp 15)), none⟩,
 ⟨.tmp 17, .r (.load false 1 (.tmp 16)), none⟩,
 ⟨.tmp 18, .r (.len (.tmp 17)), none⟩,
 ⟨.loc 19, .r (.bin .lss (.tmp 13) (.tmp 18)), none⟩])
 (.cond (.loc 19) .skip
 (.exit 0)))
 (.seq (.block 1 (.dreg ⟨[0, 0, 2, 6, 14, 0, 32, 96, 224, 0, 992, 2016, 4094, 8191, 16383, 32767], 0, [⟨0, 0, false, .r (.mov (.loc 0)), none⟩,
 ⟨1, 0, false, .r (.mov (.loc 0)), none⟩,
 ⟨2, 0, false, .r (.chk (.tmp 1)), none⟩,
 ⟨3, 0, false, .r (.off 3 (.tmp 2)), none⟩,
 ⟨4, 0, false, .r (.load false 1 (.tmp 3)), none⟩,
 ⟨5, 0, false, .r (.mov (.loc 0)), none⟩,
 ⟨6, 0, false, .r (.chk (.tmp 5)), none⟩,
 ⟨7, 0, false, .r (.off 4 (.tmp 6)), none⟩,
 ⟨8, 0, false, .r (.load false 1 (.tmp 7)), none⟩,
 ⟨9, 0, false, .r (.mov (.loc 3)), none⟩,
 ⟨10, 0, false, .r (.idx 3 (.tmp 8) (.tmp 9)), none⟩,
 ⟨11, 0, false, .r (.load true 3 (.tmp 10)), none⟩,
 ⟨12, 0, true, .call f1 [.tmp 4, .tmp 11], none⟩,
 ⟨13, 0, false, .r (.chk (.tmp 0)), none⟩,
 ⟨14, 0, false, .r (.off 3 (.tmp 13)), none⟩,
 ⟨15, 0, true, .h (.store 1 (.tmp 14) (.tmp 12)), none⟩], []⟩))
 (.reg [⟨.tmp 20, .r (.mov (.loc 3)), none⟩,
 ⟨.tmp 21, .r (.bin .add (.tmp 20) (.cst (.int .i64 1))), none⟩,
 ⟨.loc 3, .r (.mov (.tmp 21)), none⟩])))
/-- (*glebe/gleberef04.Disk).Flush -/
def c_gleberef04_Disk_Flush (f0 f1 : FuncId) : AFn := ⟨40, fun s => List.contains [0, 2, 3, 12, 19] s, (.seq (.reg [⟨.loc 2, .r (.mov (.cst (.int .i64 0))), none⟩])
 (.seq (.seq (.reg [⟨.tmp 4, .r (.mov (.loc 0)), none⟩,
 ⟨.tmp 5, .r (.chk (.tmp 4)), none⟩,
 ⟨.tmp 6, .r (.off 2 (.tmp 5)), none⟩,
 ⟨.tmp 7, .r (.load false 1 (.tmp 6)), none⟩,
 ⟨.tmp 8, .r (.mov (.tmp 7)), none⟩,
 ⟨.tmp 9, .r (.mov (.loc 0)), some (.tmp 8, false)⟩,
 ⟨.tmp 10, .call f0 [.tmp 9], some (.tmp 8, false)⟩,
 ⟨.tmp 11, .r (.not (.tmp 10)), some (.tmp 8, false)⟩,
 ⟨.loc 12, .r (.pick (.tmp 8) (.cst (.bool true)) (.tmp 11)), none⟩])
 (.cond (.loc 12) (.seq (.reg [⟨.loc 2, .r (.mov (.cst (.int .i64 10))), none⟩])
 .ret)
 .skip))
 (.seq (.seq (.reg [⟨.loc 3, .r (.mov (.cst (.int .i64 0))), none⟩])
 (.block 0 (.loop (c_gleberef04_Disk_Flush_l0 f0 f1))))
 (.seq (.reg [⟨.tmp 37, .r (.mov (.loc 0)), none⟩,
 ⟨.tmp 38, .r (.chk (.tmp 37)), none⟩,
 ⟨.tmp 39, .r (.off 4 (.tmp 38)), none⟩,
 ⟨.none, .h (.store 1 (.tmp 39) (.cst .nils)), none⟩])
 (.seq (.reg [⟨.loc 2, .r (.mov (.cst (.int .i64 0))), none⟩])
 .ret))))), [(.tmp (.loc 2))]⟩

/-- (*glebe/gleberef04.Disk).Arm -/
def c_gleberef04_Disk_Arm : AFn := ⟨13, fun s => List.contains [0, 1, 9] s, (.seq (.reg [⟨.tmp 4, .r (.mov (.loc 0)), none⟩,
 ⟨.tmp 5, .r (.mov (.loc 1)), none⟩,
 ⟨.tmp 6, .r (.chk (.tmp 4)), none⟩,
 ⟨.tmp 7, .r (.off 1 (.tmp 6)), none⟩,
 ⟨.none, .h (.store 1 (.tmp 7) (.tmp 5)), none⟩])
 (.seq (.reg [⟨.tmp 8, .r (.mov (.loc 1)), none⟩,
 ⟨.loc 9, .r (.bin .lss (.tmp 8) (.cst (.int .i64 0))), none⟩])
 (.cond (.loc 9) (.reg [⟨.tmp 10, .r (.mov (.loc 0)), none⟩,
 ⟨.tmp 11, .r (.chk (.tmp 10)), none⟩,
 ⟨.tmp 12, .r (.off 1 (.tmp 11)), none⟩,
 ⟨.none, .h (.store 1 (.tmp 12) (.cst (.int .i64 (-1)))), none⟩])
 .skip))), []⟩

def c_gleberef04_Disk_Crash_l0 (f0 : FuncId) : AC := (.seq (.seq (.reg [⟨.tmp 5, .r (.mov (.loc 4)), none⟩,
 ⟨.tmp 6, .r (.mov (.loc 0)), none⟩,
 ⟨.tmp 7, .r (.chk (.tmp 6)), none⟩,
 ⟨.tmp 8, .r (.off 4 (.tmp 7)), none⟩,
 ⟨.tmp 9, .r (.load false 1 (.tmp 8)), none⟩,
 ⟨.tmp 10, .r (.len (.tmp 9)), none⟩,
 ⟨.loc 11, .r (.bin .lss (.tmp 5) (.tmp 10)), none⟩])
 (.cond (.loc 11) .skip
 (.exit 0)))
 (.seq (.block 1 (.seq (.seq (.reg [⟨.tmp 14, .r (.mov (.loc 4)), none⟩,
 ⟨.tmp 15, .r (.mov (.loc 1)), none⟩,
 ⟨.tmp 16, .r (.len (.tmp 15)), none⟩,
 ⟨.tmp 17, .r (.bin .lss (.tmp 14) (.tmp 16)), none⟩,
 ⟨.tmp 18, .r (.mov (.tmp 17)), none⟩,
 ⟨.tmp 19, .r (.mov (.loc 1)), some (.tmp 18, true)⟩,
 ⟨.tmp 20, .r (.mov (.loc 4)), some (.tmp 18, true)⟩,
 ⟨.tmp 21, .r (.idx 1 (.tmp 19) (.tmp 20)), some (.tmp 18, true)⟩,
 ⟨.tmp 22, .r (.load false 1 (.tmp 21)), some (.tmp 18, true)⟩,
 ⟨.tmp 23, .r (.bin .eql (.tmp 22) (.cst (.int .i64 1))), some (.tmp 18, true)⟩,
 ⟨.loc 24, .r (.pick (.tmp 18) (.tmp 23) (.cst (.bool false))), none⟩])
 (.cond (.loc 24) (.dreg ⟨[0, 0, 2, 6, 14, 0, 32, 96, 224, 0, 992, 2016, 4094, 8191, 16383, 32767], 0, [⟨0, 0, false, .r (.mov (.loc 0)), none⟩,
 ⟨1, 0, false, .r (.mov (.loc 0)), none⟩,
 ⟨2, 0, false, .r (.chk (.tmp 1)), none⟩,
 ⟨3, 0, false, .r (.off 3 (.tmp 2)), none⟩,
 ⟨4, 0, false, .r (.load false 1 (.tmp 3)), none⟩,
 ⟨5, 0, false, .r (.mov (.loc 0)), none⟩,
 ⟨6, 0, false, .r (.chk (.tmp 5)), none⟩,
 ⟨7, 0, false, .r (.off 4 (.tmp 6)), none⟩,
 ⟨8, 0, false, .r (.load false 1 (.tmp 7)), none⟩,
 ⟨9, 0, false, .r (.mov (.loc 4)), none⟩,
 ⟨10, 0, false, .r (.idx 3 (.tmp 8) (.tmp 9)), none⟩,
 ⟨11, 0, false, .r (.load true 3 (.tmp 10)), none⟩,
 ⟨12, 0, true, .call f0 [.tmp 4, .tmp 11], none⟩,
 ⟨13, 0, false, .r (.chk (.tmp 0)), none⟩,
 ⟨14, 0, false, .r (.off 3 (.tmp 13)), none⟩,
 ⟨15, 0, true, .h (.store 1 (.tmp 14) (.tmp 12)), none⟩], []⟩)
 .skip))
 (.seq (.reg [⟨.tmp 40, .r (.mov (.loc 4)), none⟩,
 ⟨.tmp 41, .r (.mov (.loc 1)), none⟩,
 ⟨.tmp 42, .r (.len (.tmp 41)), none⟩,
 ⟨.tmp 43, .r (.bin .lss (.tmp 40) (.tmp 42)), none⟩,
 ⟨.tmp 44, .r (.mov (.tmp 43)), none⟩,
 ⟨.tmp 45, .r (.mov (.loc 1)), some (.tmp 44, true)⟩,
 ⟨.tmp 46, .r (.mov (.loc 4)), some (.tmp 44, true)⟩,
 ⟨.tmp 47, .r (.idx 1 (.tmp 45) (.tmp 46)), some (.tmp 44, true)⟩,
 ⟨.tmp 48, .r (.load false 1 (.tmp 47)), some (.tmp 44, true)⟩,
 ⟨.tmp 49, .r (.bin .neq (.tmp 48) (.cst (.int .i64 0))), some (.tmp 44, true)⟩,
 ⟨.tmp 50, .r (.pick (.tmp 44) (.tmp 49) (.cst (.bool false))), none⟩,
 ⟨.tmp 51, .r (.mov (.tmp 50)), none⟩,
 ⟨.tmp 52, .r (.mov (.loc 1)), some (.tmp 51, true)⟩,
 ⟨.tmp 53, .r (.mov (.loc 4)), some (.tmp 51, true)⟩,
 ⟨.tmp 54, .r (.idx 1 (.tmp 52) (.tmp 53)), some (.tmp 51, true)⟩,
 ⟨.tmp 55, .r (.load false 1 (.tmp 54)), some (.tmp 51, true)⟩,
 ⟨.tmp 56, .r (.bin .neq (.tmp 55) (.cst (.int .i64 1))), some (.tmp 51, true)⟩,
 ⟨.loc 57, .r (.pick (.tmp 51) (.tmp 56) (.cst (.bool false))), none⟩])
 (.cond (.loc 57) (.dreg ⟨[0, 0, 2, 6, 14, 0, 32, 96, 224, 0, 992, 2016, 4064, 8160, 16382, 32767, 65535, 131071], 0, [⟨0, 0, false, .r (.mov (.loc 0)), none⟩,
 ⟨1, 0, false, .r (.mov (.loc 0)), none⟩,
 ⟨2, 0, false, .r (.chk (.tmp 1)), none⟩,
 ⟨3, 0, false, .r (.off 3 (.tmp 2)), none⟩,
 ⟨4, 0, false, .r (.load false 1 (.tmp 3)), none⟩,
 ⟨5, 0, false, .r (.mov (.loc 0)), none⟩,
 ⟨6, 0, false, .r (.chk (.tmp 5)), none⟩,
 ⟨7, 0, false, .r (.off 4 (.tmp 6)), none⟩,
 ⟨8, 0, false, .r (.load false 1 (.tmp 7)), none⟩,
 ⟨9, 0, false, .r (.mov (.loc 4)), none⟩,
 ⟨10, 0, false, .r (.idx 3 (.tmp 8) (.tmp 9)), none⟩,
 ⟨11, 0, false, .r (.off 0 (.tmp 10)), none⟩,
 ⟨12, 0, false, .r (.load false 1 (.tmp 11)), none⟩,
 ⟨13, 0, false, .r (.build [(.int .i64 0), .nils, (.bool false)] [(0, 1, .tmp 12), (2, 1, (.cst (.bool true)))]), none⟩,
 ⟨14, 0, true, .call f0 [.tmp 4, .tmp 13], none⟩,
 ⟨15, 0, false, .r (.chk (.tmp 0)), none⟩,
 ⟨16, 0, false, .r (.off 3 (.tmp 15)), none⟩,
 ⟨17, 0, true, .h (.store 1 (.tmp 16) (.tmp 14)), none⟩], []⟩)
 .skip))))
 (.reg [⟨.tmp 12, .r (.mov (.loc 4)), none⟩,
 ⟨.tmp 13, .r (.bin .add (.tmp 12) (.cst (.int .i64 1))), none⟩,
 ⟨.loc 4, .r (.mov (.tmp 13)), none⟩])))
/-- (*glebe/gleberef04.Disk).Crash -/
def c_gleberef04_Disk_Crash (f0 : FuncId) : AFn := ⟨84, fun s => List.contains [0, 1, 4, 11, 24, 57] s, (.seq (.seq (.reg [⟨.loc 4, .r (.mov (.cst (.int .i64 0))), none⟩])
 (.block 0 (.loop (c_gleberef04_Disk_Crash_l0 f0))))
 (.seq (.reg [⟨.tmp 75, .r (.mov (.loc 0)), none⟩,
 ⟨.tmp 76, .r (.chk (.tmp 75)), none⟩,
 ⟨.tmp 77, .r (.off 4 (.tmp 76)), none⟩,
 ⟨.none, .h (.store 1 (.tmp 77) (.cst .nils)), none⟩])
 (.seq (.reg [⟨.tmp 78, .r (.mov (.loc 0)), none⟩,
 ⟨.tmp 79, .r (.chk (.tmp 78)), none⟩,
 ⟨.tmp 80, .r (.off 1 (.tmp 79)), none⟩,
 ⟨.none, .h (.store 1 (.tmp 80) (.cst (.int .i64 (-1)))), none⟩])
 (.reg [⟨.tmp 81, .r (.mov (.loc 0)), none⟩,
 ⟨.tmp 82, .r (.chk (.tmp 81)), none⟩,
 ⟨.tmp 83, .r (.off 2 (.tmp 82)), none⟩,
 ⟨.none, .h (.store 1 (.tmp 83) (.cst (.bool false))), none⟩])))), []⟩

/-- (*glebe/gleberef04.Disk).Read -/
def c_gleberef04_Disk_Read (f0 f1 : FuncId) : AFn := ⟨59, fun s => List.contains [0, 1, 4, 5, 6, 16, 24, 41, 49] s, (.seq (.reg [⟨.loc 4, .r (.mov (.cst .nils)), none⟩,
 ⟨.loc 5, .r (.mov (.cst (.int .i64 0))), none⟩])
 (.seq (.seq (.reg [⟨.tmp 7, .r (.mov (.loc 1)), none⟩,
 ⟨.tmp 8, .r (.bin .lss (.tmp 7) (.cst (.int .i64 0))), none⟩,
 ⟨.tmp 9, .r (.mov (.tmp 8)), none⟩,
 ⟨.tmp 10, .r (.mov (.loc 1)), some (.tmp 9, false)⟩,
 ⟨.tmp 11, .r (.mov (.loc 0)), some (.tmp 9, false)⟩,
 ⟨.tmp 12, .r (.chk (.tmp 11)), some (.tmp 9, false)⟩,
 ⟨.tmp 13, .r (.off 0 (.tmp 12)), some (.tmp 9, false)⟩,
 ⟨.tmp 14, .r (.load false 1 (.tmp 13)), some (.tmp 9, false)⟩,
 ⟨.tmp 15, .r (.bin .geq (.tmp 10) (.tmp 14)), some (.tmp 9, false)⟩,
 ⟨.loc 16, .r (.pick (.tmp 9) (.cst (.bool true)) (.tmp 15)), none⟩])
 (.cond (.loc 16) (.seq (.reg [⟨.loc 4, .r (.mov (.cst .nils)), none⟩,
 ⟨.loc 5, .r (.mov (.cst (.int .i64 3))), none⟩])
 .ret)
 .skip))
 (.seq (.reg [⟨.tmp 17, .r (.mov (.loc 0)), none⟩,
 ⟨.tmp 18, .r (.chk (.tmp 17)), none⟩,
 ⟨.tmp 19, .r (.off 4 (.tmp 18)), none⟩,
 ⟨.tmp 20, .r (.load false 1 (.tmp 19)), none⟩,
 ⟨.tmp 21, .r (.mov (.loc 1)), none⟩,
 ⟨.tmp 22, .call f0 [.tmp 20, .tmp 21], none⟩,
 ⟨.loc 6, .r (.mov (.tmp 22)), none⟩])
 (.seq (.seq (.reg [⟨.tmp 23, .r (.mov (.loc 6)), none⟩,
 ⟨.loc 24, .r (.bin .geq (.tmp 23) (.cst (.int .i64 0))), none⟩])
 (.cond (.loc 24) (.seq (.reg [⟨.tmp 25, .r (.mov (.loc 0)), none⟩,
 ⟨.tmp 26, .r (.chk (.tmp 25)), none⟩,
 ⟨.tmp 27, .r (.off 4 (.tmp 26)), none⟩,
 ⟨.tmp 28, .r (.load false 1 (.tmp 27)), none⟩,
 ⟨.tmp 29, .r (.mov (.loc 6)), none⟩,
 ⟨.tmp 30, .r (.idx 3 (.tmp 28) (.tmp 29)), none⟩,
 ⟨.tmp 31, .r (.off 1 (.tmp 30)), none⟩,
 ⟨.tmp 32, .r (.load false 1 (.tmp 31)), none⟩,
 ⟨.tmp 33, .call f1 [.tmp 32], none⟩,
 ⟨.loc 4, .r (.mov (.tmp 33)), none⟩,
 ⟨.loc 5, .r (.mov (.cst (.int .i64 0))), none⟩])
 .ret)
 .skip))
 (.seq (.reg [⟨.tmp 34, .r (.mov (.loc 0)), none⟩,
 ⟨.tmp 35, .r (.chk (.tmp 34)), none⟩,
 ⟨.tmp 36, .r (.off 3 (.tmp 35)), none⟩,
 ⟨.tmp 37, .r (.load false 1 (.tmp 36)), none⟩,
 ⟨.tmp 38, .r (.mov (.loc 1)), none⟩,
 ⟨.tmp 39, .call f0 [.tmp 37, .tmp 38], none⟩,
 ⟨.loc 6, .r (.mov (.tmp 39)), none⟩])
 (.seq (.seq (.reg [⟨.tmp 40, .r (.mov (.loc 6)), none⟩,
 ⟨.loc 41, .r (.bin .lss (.tmp 40) (.cst (.int .i64 0))), none⟩])
 (.cond (.loc 41) (.seq (.reg [⟨.loc 4, .r (.mov (.cst .nils)), none⟩,
 ⟨.loc 5, .r (.mov (.cst (.int .i64 0))), none⟩])
 .ret)
 .skip))
 (.seq (.seq (.reg [⟨.tmp 42, .r (.mov (.loc 0)), none⟩,
 ⟨.tmp 43, .r (.chk (.tmp 42)), none⟩,
 ⟨.tmp 44, .r (.off 3 (.tmp 43)), none⟩,
 ⟨.tmp 45, .r (.load false 1 (.tmp 44)), none⟩,
 ⟨.tmp 46, .r (.mov (.loc 6)), none⟩,
 ⟨.tmp 47, .r (.idx 3 (.tmp 45) (.tmp 46)), none⟩,
 ⟨.tmp 48, .r (.off 2 (.tmp 47)), none⟩,
 ⟨.loc 49, .r (.load false 1 (.tmp 48)), none⟩])
 (.cond (.loc 49) (.seq (.reg [⟨.loc 4, .r (.mov (.cst .nils)), none⟩,
 ⟨.loc 5, .r (.mov (.cst (.int .i64 9))), none⟩])
 .ret)
 .skip))
 (.seq (.reg [⟨.tmp 50, .r (.mov (.loc 0)), none⟩,
 ⟨.tmp 51, .r (.chk (.tmp 50)), none⟩,
 ⟨.tmp 52, .r (.off 3 (.tmp 51)), none⟩,
 ⟨.tmp 53, .r (.load false 1 (.tmp 52)), none⟩,
 ⟨.tmp 54, .r (.mov (.loc 6)), none⟩,
 ⟨.tmp 55, .r (.idx 3 (.tmp 53) (.tmp 54)), none⟩,
 ⟨.tmp 56, .r (.off 1 (.tmp 55)), none⟩,
 ⟨.tmp 57, .r (.load false 1 (.tmp 56)), none⟩,
 ⟨.tmp 58, .call f1 [.tmp 57], none⟩,
 ⟨.loc 4, .r (.mov (.tmp 58)), none⟩,
 ⟨.loc 5, .r (.mov (.cst (.int .i64 0))), none⟩])
 .ret)))))))), [(.tmp (.loc 4)), (.tmp (.loc 5))]⟩

def c_gleberef04_Disk_Dirty_l0 : AC := (.seq (.seq (.reg [⟨.tmp 5, .r (.mov (.loc 4)), none⟩,
 ⟨.tmp 6, .r (.mov (.loc 0)), none⟩,
 ⟨.tmp 7, .r (.chk (.tmp 6)), none⟩,
 ⟨.tmp 8, .r (.off 4 (.tmp 7)), none⟩,
 ⟨.tmp 9, .r (.load false 1 (.tmp 8)), none⟩,
 ⟨.tmp 10, .r (.len (.tmp 9)), none⟩,
 ⟨.loc 11, .r (.bin .lss (.tmp 5) (.tmp 10)), none⟩])
 (.cond (.loc 11) .skip
 (.exit 0)))
 (.seq (.block 1 (.reg [⟨.tmp 14, .r (.mov (.loc 3)), none⟩,
 ⟨.tmp 15, .r (.mov (.loc 0)), none⟩,
 ⟨.tmp 16, .r (.chk (.tmp 15)), none⟩,
 ⟨.tmp 17, .r (.off 4 (.tmp 16)), none⟩,
 ⟨.tmp 18, .r (.load false 1 (.tmp 17)), none⟩,
 ⟨.tmp 19, .r (.mov (.loc 4)), none⟩,
 ⟨.tmp 20, .r (.idx 3 (.tmp 18) (.tmp 19)), none⟩,
 ⟨.tmp 21, .r (.off 0 (.tmp 20)), none⟩,
 ⟨.tmp 22, .r (.load false 1 (.tmp 21)), none⟩,
 ⟨.tmp 23, .h (.bsl 1 [.tmp 22]), none⟩,
 ⟨.tmp 24, .h (.app 1 8 (.tmp 14) (.tmp 23)), none⟩,
 ⟨.loc 3, .r (.mov (.tmp 24)), none⟩]))
 (.reg [⟨.tmp 12, .r (.mov (.loc 4)), none⟩,
 ⟨.tmp 13, .r (.bin .add (.tmp 12) (.cst (.int .i64 1))), none⟩,
 ⟨.loc 4, .r (.mov (.tmp 13)), none⟩])))
/-- (*glebe/gleberef04.Disk).Dirty -/
def c_gleberef04_Disk_Dirty : AFn := ⟨26, fun s => List.contains [0, 2, 3, 4, 11] s, (.seq (.reg [⟨.loc 2, .r (.mov (.cst .nils)), none⟩])
 (.seq (.reg [⟨.loc 3, .r (.mov (.cst .nils)), none⟩])
 (.seq (.seq (.reg [⟨.loc 4, .r (.mov (.cst (.int .i64 0))), none⟩])
 (.block 0 (.loop (c_gleberef04_Disk_Dirty_l0))))
 (.seq (.reg [⟨.tmp 25, .r (.mov (.loc 3)), none⟩,
 ⟨.loc 2, .r (.mov (.tmp 25)), none⟩])
 .ret)))), [(.tmp (.loc 2))]⟩

/-- (*glebe/gleberef04.Disk).Done -/
def c_gleberef04_Disk_Done : AFn := ⟨24, fun s => List.contains [0, 2, 7, 15] s, (.seq (.reg [⟨.loc 2, .r (.mov (.cst (.bool false))), none⟩])
 (.seq (.seq (.reg [⟨.tmp 3, .r (.mov (.loc 0)), none⟩,
 ⟨.tmp 4, .r (.chk (.tmp 3)), none⟩,
 ⟨.tmp 5, .r (.off 1 (.tmp 4)), none⟩,
 ⟨.tmp 6, .r (.load false 1 (.tmp 5)), none⟩,
 ⟨.loc 7, .r (.bin .eql (.tmp 6) (.cst (.int .i64 0))), none⟩])
 (.cond (.loc 7) (.seq (.reg [⟨.tmp 8, .r (.mov (.loc 0)), none⟩,
 ⟨.tmp 9, .r (.chk (.tmp 8)), none⟩,
 ⟨.tmp 10, .r (.off 2 (.tmp 9)), none⟩,
 ⟨.none, .h (.store 1 (.tmp 10) (.cst (.bool true))), none⟩])
 (.seq (.reg [⟨.loc 2, .r (.mov (.cst (.bool false))), none⟩])
 .ret))
 .skip))
 (.seq (.seq (.reg [⟨.tmp 11, .r (.mov (.loc 0)), none⟩,
 ⟨.tmp 12, .r (.chk (.tmp 11)), none⟩,
 ⟨.tmp 13, .r (.off 1 (.tmp 12)), none⟩,
 ⟨.tmp 14, .r (.load false 1 (.tmp 13)), none⟩,
 ⟨.loc 15, .r (.bin .gtr (.tmp 14) (.cst (.int .i64 0))), none⟩])
 (.cond (.loc 15) (.reg [⟨.tmp 16, .r (.mov (.loc 0)), none⟩,
 ⟨.tmp 17, .r (.mov (.loc 0)), none⟩,
 ⟨.tmp 18, .r (.chk (.tmp 17)), none⟩,
 ⟨.tmp 19, .r (.off 1 (.tmp 18)), none⟩,
 ⟨.tmp 20, .r (.load false 1 (.tmp 19)), none⟩,
 ⟨.tmp 21, .r (.bin .sub (.tmp 20) (.cst (.int .i64 1))), none⟩,
 ⟨.tmp 22, .r (.chk (.tmp 16)), none⟩,
 ⟨.tmp 23, .r (.off 1 (.tmp 22)), none⟩,
 ⟨.none, .h (.store 1 (.tmp 23) (.tmp 21)), none⟩])
 .skip))
 (.seq (.reg [⟨.loc 2, .r (.mov (.cst (.bool true))), none⟩])
 .ret)))), [(.tmp (.loc 2))]⟩

def c_gleberef04_put_l0 : AC := (.seq (.seq (.reg [⟨.tmp 8, .r (.mov (.loc 7)), none⟩,
 ⟨.tmp 9, .r (.mov (.loc 0)), none⟩,
 ⟨.tmp 10, .r (.len (.tmp 9)), none⟩,
 ⟨.loc 11, .r (.bin .lss (.tmp 8) (.tmp 10)), none⟩])
 (.cond (.loc 11) .skip
 (.exit 0)))
 (.seq (.block 1 (.seq (.seq (.dreg ⟨[0, 1, 3, 7, 7, 31, 63, 127, 7, 263, 1023, 2047], 0, [⟨0, 0, false, .r (.mov (.loc 6)), none⟩,
 ⟨1, 0, false, .r (.not (.tmp 0)), none⟩,
 ⟨2, 0, false, .r (.mov (.tmp 1)), none⟩,
 ⟨3, 0, false, .r (.mov (.loc 0)), some (.tmp 2, true)⟩,
 ⟨4, 0, false, .r (.mov (.loc 7)), some (.tmp 2, true)⟩,
 ⟨5, 0, false, .r (.idx 3 (.tmp 3) (.tmp 4)), some (.tmp 2, true)⟩,
 ⟨6, 0, false, .r (.off 0 (.tmp 5)), some (.tmp 2, true)⟩,
 ⟨7, 0, false, .r (.load false 1 (.tmp 6)), some (.tmp 2, true)⟩,
 ⟨8, 0, false, .r (.off 0 (.loc 3)), some (.tmp 2, true)⟩,
 ⟨9, 0, false, .r (.load false 1 (.tmp 8)), some (.tmp 2, true)⟩,
 ⟨10, 0, false, .r (.bin .geq (.tmp 7) (.tmp 9)), some (.tmp 2, true)⟩,
 ⟨11, 0, false, .r (.pick (.tmp 2) (.tmp 10) (.cst (.bool false))), none⟩], [(25, 11)]⟩)
 (.cond (.loc 25) (.seq (.reg [⟨.tmp 26, .r (.mov (.loc 5)), none⟩,
 ⟨.tmp 27, .r (.load true 3 (.loc 3)), none⟩,
 ⟨.tmp 28, .h (.bsl 3 [.tmp 27]), none⟩,
 ⟨.tmp 29, .h (.app 3 40 (.tmp 26) (.tmp 28)), none⟩,
 ⟨.loc 5, .r (.mov (.tmp 29)), none⟩])
 (.reg [⟨.loc 6, .r (.mov (.cst (.bool true))), none⟩]))
 .skip))
 (.seq (.dreg ⟨[0, 0, 3, 7, 15, 0, 32, 127], 0, [⟨0, 0, false, .r (.mov (.loc 0)), none⟩,
 ⟨1, 0, false, .r (.mov (.loc 7)), none⟩,
 ⟨2, 0, false, .r (.idx 3 (.tmp 0) (.tmp 1)), none⟩,
 ⟨3, 0, false, .r (.off 0 (.tmp 2)), none⟩,
 ⟨4, 0, false, .r (.load false 1 (.tmp 3)), none⟩,
 ⟨5, 0, false, .r (.off 0 (.loc 3)), none⟩,
 ⟨6, 0, false, .r (.load false 1 (.tmp 5)), none⟩,
 ⟨7, 0, false, .r (.bin .neq (.tmp 4) (.tmp 6)), none⟩], [(37, 7)]⟩)
 (.cond (.loc 37) (.reg [⟨.tmp 38, .r (.mov (.loc 5)), none⟩,
 ⟨.tmp 39, .r (.mov (.loc 0)), none⟩,
 ⟨.tmp 40, .r (.mov (.loc 7)), none⟩,
 ⟨.tmp 41, .r (.idx 3 (.tmp 39) (.tmp 40)), none⟩,
 ⟨.tmp 42, .r (.load true 3 (.tmp 41)), none⟩,
 ⟨.tmp 43, .h (.bsl 3 [.tmp 42]), none⟩,
 ⟨.tmp 44, .h (.app 3 40 (.tmp 38) (.tmp 43)), none⟩,
 ⟨.loc 5, .r (.mov (.tmp 44)), none⟩])
 .skip))))
 (.reg [⟨.tmp 12, .r (.mov (.loc 7)), none⟩,
 ⟨.tmp 13, .r (.bin .add (.tmp 12) (.cst (.int .i64 1))), none⟩,
 ⟨.loc 7, .r (.mov (.tmp 13)), none⟩])))
/-- glebe/gleberef04.put -/
def c_gleberef04_put : AFn := ⟨52, fun s => List.contains [0, 1, 3, 4, 5, 6, 7, 11, 25, 37, 46] s, (.seq (.reg [⟨.loc 3, .h (.box (.loc 1)), none⟩,
 ⟨.loc 4, .r (.mov (.cst .nils)), none⟩])
 (.seq (.reg [⟨.loc 5, .r (.mov (.cst .nils)), none⟩])
 (.seq (.reg [⟨.loc 6, .r (.mov (.cst (.bool false))), none⟩])
 (.seq (.seq (.reg [⟨.loc 7, .r (.mov (.cst (.int .i64 0))), none⟩])
 (.block 0 (.loop (c_gleberef04_put_l0))))
 (.seq (.seq (.reg [⟨.tmp 45, .r (.mov (.loc 6)), none⟩,
 ⟨.loc 46, .r (.not (.tmp 45)), none⟩])
 (.cond (.loc 46) (.reg [⟨.tmp 47, .r (.mov (.loc 5)), none⟩,
 ⟨.tmp 48, .r (.load true 3 (.loc 3)), none⟩,
 ⟨.tmp 49, .h (.bsl 3 [.tmp 48]), none⟩,
 ⟨.tmp 50, .h (.app 3 40 (.tmp 47) (.tmp 49)), none⟩,
 ⟨.loc 5, .r (.mov (.tmp 50)), none⟩])
 .skip))
 (.seq (.reg [⟨.tmp 51, .r (.mov (.loc 5)), none⟩,
 ⟨.loc 4, .r (.mov (.tmp 51)), none⟩])
 .ret)))))), [(.tmp (.loc 4))]⟩

def c_gleberef04_find_l0 : AC := (.seq (.seq (.reg [⟨.tmp 6, .r (.mov (.loc 5)), none⟩,
 ⟨.tmp 7, .r (.mov (.loc 0)), none⟩,
 ⟨.tmp 8, .r (.len (.tmp 7)), none⟩,
 ⟨.loc 9, .r (.bin .lss (.tmp 6) (.tmp 8)), none⟩])
 (.cond (.loc 9) .skip
 (.exit 0)))
 (.seq (.block 1 (.seq (.reg [⟨.tmp 12, .r (.mov (.loc 0)), none⟩,
 ⟨.tmp 13, .r (.mov (.loc 5)), none⟩,
 ⟨.tmp 14, .r (.idx 3 (.tmp 12) (.tmp 13)), none⟩,
 ⟨.tmp 15, .r (.off 0 (.tmp 14)), none⟩,
 ⟨.tmp 16, .r (.load false 1 (.tmp 15)), none⟩,
 ⟨.tmp 17, .r (.mov (.loc 1)), none⟩,
 ⟨.loc 18, .r (.bin .eql (.tmp 16) (.tmp 17)), none⟩])
 (.cond (.loc 18) (.seq (.reg [⟨.tmp 19, .r (.mov (.loc 5)), none⟩,
 ⟨.loc 4, .r (.mov (.tmp 19)), none⟩])
 .ret)
 .skip)))
 (.reg [⟨.tmp 10, .r (.mov (.loc 5)), none⟩,
 ⟨.tmp 11, .r (.bin .add (.tmp 10) (.cst (.int .i64 1))), none⟩,
 ⟨.loc 5, .r (.mov (.tmp 11)), none⟩])))
/-- glebe/gleberef04.find -/
def c_gleberef04_find : AFn := ⟨20, fun s => List.contains [0, 1, 4, 5, 9, 18] s, (.seq (.reg [⟨.loc 4, .r (.mov (.cst (.int .i64 0))), none⟩])
 (.seq (.seq (.reg [⟨.loc 5, .r (.mov (.cst (.int .i64 0))), none⟩])
 (.block 0 (.loop (c_gleberef04_find_l0))))
 (.seq (.reg [⟨.loc 4, .r (.mov (.cst (.int .i64 (-1)))), none⟩])
 .ret))), [(.tmp (.loc 4))]⟩

end Glb
