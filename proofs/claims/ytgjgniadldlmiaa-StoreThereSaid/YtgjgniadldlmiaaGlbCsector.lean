/-
  What functions of the program are, one by one (the functions that they call as parameters), in a form of which something can be shown.
-/
import Derived.Test.YtgjgniadldlmiaaGlbLibB
set_option linter.unusedSimpArgs false
set_option linter.unusedVariables false
namespace Glb
open Go
set_option maxRecDepth 100000

/-- bytes.Clone -/
def c_bytes_Clone : AFn := ⟨8, fun s => List.contains [0, 2, 4] s, (.seq (.reg [⟨.loc 2, .r (.mov (.cst .nils)), none⟩])
 (.seq (.seq (.reg [⟨.tmp 3, .r (.mov (.loc 0)), none⟩,
 ⟨.loc 4, .r (.nileq false (.tmp 3)), none⟩])
 (.cond (.loc 4) (.seq (.reg [⟨.loc 2, .r (.mov (.cst .nils)), none⟩])
 .ret)
 .skip))
 (.seq (.reg [⟨.tmp 5, .h (.bsl 1 []), none⟩,
 ⟨.tmp 6, .r (.mov (.loc 0)), none⟩,
 ⟨.tmp 7, .h (.app 1 1 (.tmp 5) (.tmp 6)), none⟩,
 ⟨.loc 2, .r (.mov (.tmp 7)), none⟩])
 .ret))), [(.tmp (.loc 2))]⟩

def c_glebekit_SameRows_l0 (f0 : FuncId) : AC := (.seq (.seq (.reg [⟨.tmp 11, .r (.mov (.loc 5)), none⟩,
 ⟨.tmp 12, .r (.mov (.loc 0)), none⟩,
 ⟨.tmp 13, .r (.len (.tmp 12)), none⟩,
 ⟨.loc 14, .r (.bin .lss (.tmp 11) (.tmp 13)), none⟩])
 (.cond (.loc 14) .skip
 (.exit 0)))
 (.seq (.block 1 (.seq (.dreg ⟨[0, 0, 3, 7, 0, 0, 48, 112, 255, 511], 0, [⟨0, 0, false, .r (.mov (.loc 0)), none⟩,
 ⟨1, 0, false, .r (.mov (.loc 5)), none⟩,
 ⟨2, 0, false, .r (.idx 1 (.tmp 0) (.tmp 1)), none⟩,
 ⟨3, 0, false, .r (.load false 1 (.tmp 2)), none⟩,
 ⟨4, 0, false, .r (.mov (.loc 1)), none⟩,
 ⟨5, 0, false, .r (.mov (.loc 5)), none⟩,
 ⟨6, 0, false, .r (.idx 1 (.tmp 4) (.tmp 5)), none⟩,
 ⟨7, 0, false, .r (.load false 1 (.tmp 6)), none⟩,
 ⟨8, 0, true, .call f0 [.tmp 3, .tmp 7], none⟩,
 ⟨9, 0, false, .r (.not (.tmp 8)), none⟩], [(26, 9)]⟩)
 (.cond (.loc 26) (.seq (.reg [⟨.loc 4, .r (.mov (.cst (.bool false))), none⟩])
 .ret)
 .skip)))
 (.reg [⟨.tmp 15, .r (.mov (.loc 5)), none⟩,
 ⟨.tmp 16, .r (.bin .add (.tmp 15) (.cst (.int .i64 1))), none⟩,
 ⟨.loc 5, .r (.mov (.tmp 16)), none⟩])))
/-- glebe/glebekit.SameRows -/
def c_glebekit_SameRows (f0 : FuncId) : AFn := ⟨27, fun s => List.contains [0, 1, 4, 5, 10, 14, 26] s, (.seq (.reg [⟨.loc 4, .r (.mov (.cst (.bool false))), none⟩])
 (.seq (.seq (.reg [⟨.tmp 6, .r (.mov (.loc 0)), none⟩,
 ⟨.tmp 7, .r (.len (.tmp 6)), none⟩,
 ⟨.tmp 8, .r (.mov (.loc 1)), none⟩,
 ⟨.tmp 9, .r (.len (.tmp 8)), none⟩,
 ⟨.loc 10, .r (.bin .neq (.tmp 7) (.tmp 9)), none⟩])
 (.cond (.loc 10) (.seq (.reg [⟨.loc 4, .r (.mov (.cst (.bool false))), none⟩])
 .ret)
 .skip))
 (.seq (.seq (.reg [⟨.loc 5, .r (.mov (.cst (.int .i64 0))), none⟩])
 (.block 0 (.loop (c_glebekit_SameRows_l0 f0))))
 (.seq (.reg [⟨.loc 4, .r (.mov (.cst (.bool true))), none⟩])
 .ret)))), [(.tmp (.loc 4))]⟩

/-- glebe/sector.New -/
def c_sector_New : AFn := ⟨15, fun s => List.contains [0, 2, 3, 9] s, (.seq (.reg [⟨.loc 2, .r (.mov (.cst (.raw (.pointer none)))), none⟩,
 ⟨.loc 3, .r (.mov (.cst (.int .i64 0))), none⟩])
 (.seq (.seq (.reg [⟨.tmp 4, .r (.mov (.loc 0)), none⟩,
 ⟨.tmp 5, .r (.bin .lss (.tmp 4) (.cst (.int .i64 1))), none⟩,
 ⟨.tmp 6, .r (.mov (.tmp 5)), none⟩,
 ⟨.tmp 7, .r (.mov (.loc 0)), some (.tmp 6, false)⟩,
 ⟨.tmp 8, .r (.bin .gtr (.tmp 7) (.cst (.int .i64 16384))), some (.tmp 6, false)⟩,
 ⟨.loc 9, .r (.pick (.tmp 6) (.cst (.bool true)) (.tmp 8)), none⟩])
 (.cond (.loc 9) (.seq (.reg [⟨.loc 2, .r (.mov (.cst (.raw (.pointer none)))), none⟩,
 ⟨.loc 3, .r (.mov (.cst (.int .i64 3))), none⟩])
 .ret)
 .skip))
 (.seq (.reg [⟨.tmp 10, .r (.mov (.loc 0)), none⟩,
 ⟨.tmp 11, .h (.mmk), none⟩,
 ⟨.tmp 12, .h (.mmk), none⟩,
 ⟨.tmp 13, .r (.build [(.int .i64 0), (.raw (.map none)), (.raw (.map none)), (.bool false), (.bool false), (.int .i64 0)] [(0, 1, .tmp 10), (1, 1, .tmp 11), (2, 1, .tmp 12)]), none⟩,
 ⟨.tmp 14, .h (.box (.tmp 13)), none⟩,
 ⟨.loc 2, .r (.mov (.tmp 14)), none⟩,
 ⟨.loc 3, .r (.mov (.cst (.int .i64 0))), none⟩])
 .ret))), [(.tmp (.loc 2)), (.tmp (.loc 3))]⟩

/-- (*glebe/sector.Disk).has -/
def c_sector_Disk_has : AFn := ⟨15, fun s => List.contains [0, 1, 4] s, (.seq (.reg [⟨.loc 4, .r (.mov (.cst (.bool false))), none⟩])
 (.seq (.reg [⟨.tmp 5, .r (.mov (.loc 1)), none⟩,
 ⟨.tmp 6, .r (.bin .geq (.tmp 5) (.cst (.int .i64 0))), none⟩,
 ⟨.tmp 7, .r (.mov (.tmp 6)), none⟩,
 ⟨.tmp 8, .r (.mov (.loc 1)), some (.tmp 7, true)⟩,
 ⟨.tmp 9, .r (.mov (.loc 0)), some (.tmp 7, true)⟩,
 ⟨.tmp 10, .r (.chk (.tmp 9)), some (.tmp 7, true)⟩,
 ⟨.tmp 11, .r (.off 0 (.tmp 10)), some (.tmp 7, true)⟩,
 ⟨.tmp 12, .r (.load false 1 (.tmp 11)), some (.tmp 7, true)⟩,
 ⟨.tmp 13, .r (.bin .lss (.tmp 8) (.tmp 12)), some (.tmp 7, true)⟩,
 ⟨.tmp 14, .r (.pick (.tmp 7) (.tmp 13) (.cst (.bool false))), none⟩,
 ⟨.loc 4, .r (.mov (.tmp 14)), none⟩])
 .ret)), [(.tmp (.loc 4))]⟩

/-- (*glebe/sector.Disk).spend -/
def c_sector_Disk_spend : AFn := ⟨28, fun s => List.contains [0, 2, 13, 20] s, (.seq (.reg [⟨.loc 2, .r (.mov (.cst (.bool false))), none⟩])
 (.seq (.seq (.reg [⟨.tmp 3, .r (.mov (.loc 0)), none⟩,
 ⟨.tmp 4, .r (.chk (.tmp 3)), none⟩,
 ⟨.tmp 5, .r (.off 3 (.tmp 4)), none⟩,
 ⟨.tmp 6, .r (.load false 1 (.tmp 5)), none⟩,
 ⟨.tmp 7, .r (.mov (.tmp 6)), none⟩,
 ⟨.tmp 8, .r (.mov (.loc 0)), some (.tmp 7, true)⟩,
 ⟨.tmp 9, .r (.chk (.tmp 8)), some (.tmp 7, true)⟩,
 ⟨.tmp 10, .r (.off 5 (.tmp 9)), some (.tmp 7, true)⟩,
 ⟨.tmp 11, .r (.load false 1 (.tmp 10)), some (.tmp 7, true)⟩,
 ⟨.tmp 12, .r (.bin .eql (.tmp 11) (.cst (.int .i64 0))), some (.tmp 7, true)⟩,
 ⟨.loc 13, .r (.pick (.tmp 7) (.tmp 12) (.cst (.bool false))), none⟩])
 (.cond (.loc 13) (.seq (.reg [⟨.tmp 14, .r (.mov (.loc 0)), none⟩,
 ⟨.tmp 15, .r (.chk (.tmp 14)), none⟩,
 ⟨.tmp 16, .r (.off 4 (.tmp 15)), none⟩,
 ⟨.none, .h (.store 1 (.tmp 16) (.cst (.bool true))), none⟩])
 (.seq (.reg [⟨.loc 2, .r (.mov (.cst (.bool false))), none⟩])
 .ret))
 .skip))
 (.seq (.seq (.reg [⟨.tmp 17, .r (.mov (.loc 0)), none⟩,
 ⟨.tmp 18, .r (.chk (.tmp 17)), none⟩,
 ⟨.tmp 19, .r (.off 3 (.tmp 18)), none⟩,
 ⟨.loc 20, .r (.load false 1 (.tmp 19)), none⟩])
 (.cond (.loc 20) (.reg [⟨.tmp 21, .r (.mov (.loc 0)), none⟩,
 ⟨.tmp 22, .r (.chk (.tmp 21)), none⟩,
 ⟨.tmp 23, .r (.off 5 (.tmp 22)), none⟩,
 ⟨.tmp 24, .r (.load false 1 (.tmp 23)), none⟩,
 ⟨.tmp 25, .r (.bin .sub (.tmp 24) (.cst (.int .i64 1))), none⟩,
 ⟨.tmp 26, .r (.chk (.tmp 21)), none⟩,
 ⟨.tmp 27, .r (.off 5 (.tmp 26)), none⟩,
 ⟨.none, .h (.store 1 (.tmp 27) (.tmp 25)), none⟩])
 .skip))
 (.seq (.reg [⟨.loc 2, .r (.mov (.cst (.bool true))), none⟩])
 .ret)))), [(.tmp (.loc 2))]⟩

/-- (*glebe/sector.Disk).Write -/
def c_sector_Disk_Write (f0 f1 f2 : FuncId) : AFn := ⟨32, fun s => List.contains [0, 1, 2, 6, 7, 12, 17, 21] s, (.seq (.reg [⟨.loc 6, .r (.mov (.cst (.int .i64 0))), none⟩])
 (.seq (.block 0 (.seq (.reg [⟨.tmp 8, .r (.mov (.loc 0)), none⟩,
 ⟨.tmp 9, .r (.chk (.tmp 8)), none⟩,
 ⟨.tmp 10, .r (.off 4 (.tmp 9)), none⟩,
 ⟨.tmp 11, .r (.load false 1 (.tmp 10)), none⟩,
 ⟨.loc 7, .r (.mov (.tmp 11)), none⟩])
 (.cond (.loc 7) (.seq (.reg [⟨.loc 6, .r (.mov (.cst (.int .i64 10))), none⟩])
 .ret)
 (.seq (.reg [⟨.tmp 13, .r (.mov (.loc 0)), none⟩,
 ⟨.tmp 14, .r (.mov (.loc 1)), none⟩,
 ⟨.tmp 15, .call f0 [.tmp 13, .tmp 14], none⟩,
 ⟨.tmp 16, .r (.not (.tmp 15)), none⟩,
 ⟨.loc 12, .r (.mov (.tmp 16)), none⟩])
 (.cond (.loc 12) (.seq (.reg [⟨.loc 6, .r (.mov (.cst (.int .i64 3))), none⟩])
 .ret)
 (.seq (.reg [⟨.tmp 18, .r (.mov (.loc 2)), none⟩,
 ⟨.tmp 19, .r (.len (.tmp 18)), none⟩,
 ⟨.tmp 20, .r (.bin .gtr (.tmp 19) (.cst (.int .i64 64))), none⟩,
 ⟨.loc 17, .r (.mov (.tmp 20)), none⟩])
 (.cond (.loc 17) (.seq (.reg [⟨.loc 6, .r (.mov (.cst (.int .i64 2))), none⟩])
 .ret)
 (.seq (.reg [⟨.tmp 22, .r (.mov (.loc 0)), none⟩,
 ⟨.tmp 23, .call f1 [.tmp 22], none⟩,
 ⟨.tmp 24, .r (.not (.tmp 23)), none⟩,
 ⟨.loc 21, .r (.mov (.tmp 24)), none⟩])
 (.cond (.loc 21) (.seq (.reg [⟨.loc 6, .r (.mov (.cst (.int .i64 10))), none⟩])
 .ret)
 .skip)))))))))
 (.seq (.dreg ⟨[0, 1, 3, 7, 0, 0, 32, 127], 0, [⟨0, 0, false, .r (.mov (.loc 0)), none⟩,
 ⟨1, 0, false, .r (.chk (.tmp 0)), none⟩,
 ⟨2, 0, false, .r (.off 2 (.tmp 1)), none⟩,
 ⟨3, 0, false, .r (.load false 1 (.tmp 2)), none⟩,
 ⟨4, 0, false, .r (.mov (.loc 1)), none⟩,
 ⟨5, 0, false, .r (.mov (.loc 2)), none⟩,
 ⟨6, 0, true, .call f2 [.tmp 5], none⟩,
 ⟨7, 0, true, .h (.mset (.tmp 3) (.tmp 4) (.tmp 6)), none⟩], []⟩)
 (.seq (.reg [⟨.loc 6, .r (.mov (.cst (.int .i64 0))), none⟩])
 .ret)))), [(.tmp (.loc 6))]⟩

def c_sector_Disk_Flush_l0 (f0 f1 : FuncId) : AC := (.seq (.reg [⟨.loc 18, .r (.bin .lss (.loc 17) (.loc 16)), none⟩])
 (.seq (.cond (.loc 18) .skip
 (.exit 0))
 (.seq (.block 1 (.seq (.reg [⟨.tmp 19, .r (.idx 1 (.loc 15) (.loc 17)), none⟩,
 ⟨.tmp 20, .r (.load false 1 (.tmp 19)), none⟩,
 ⟨.loc 4, .r (.mov (.tmp 20)), none⟩])
 (.dreg ⟨[0, 1, 3, 7, 0, 0, 32, 96, 224, 0, 992, 2016, 4095], 0, [⟨0, 0, false, .r (.mov (.loc 0)), none⟩,
 ⟨1, 0, false, .r (.chk (.tmp 0)), none⟩,
 ⟨2, 0, false, .r (.off 1 (.tmp 1)), none⟩,
 ⟨3, 0, false, .r (.load false 1 (.tmp 2)), none⟩,
 ⟨4, 0, false, .r (.mov (.loc 4)), none⟩,
 ⟨5, 0, false, .r (.mov (.loc 0)), none⟩,
 ⟨6, 0, false, .r (.chk (.tmp 5)), none⟩,
 ⟨7, 0, false, .r (.off 2 (.tmp 6)), none⟩,
 ⟨8, 0, false, .r (.load false 1 (.tmp 7)), none⟩,
 ⟨9, 0, false, .r (.mov (.loc 4)), none⟩,
 ⟨10, 0, true, .h (.mlook false .nils (.tmp 8) (.tmp 9)), none⟩,
 ⟨11, 0, false, .r (.build [.nils, (.bool false)] [(0, 1, .tmp 10)]), none⟩,
 ⟨12, 0, true, .h (.mset (.tmp 3) (.tmp 4) (.tmp 11)), none⟩], []⟩)))
 (.reg [⟨.tmp 33, .r (.bin .add (.loc 17) (.cst (.int .i64 1))), none⟩,
 ⟨.loc 17, .r (.mov (.tmp 33)), none⟩]))))
/-- (*glebe/sector.Disk).Flush -/
def c_sector_Disk_Flush (f0 f1 : FuncId) : AFn := ⟨38, fun s => List.contains [0, 2, 4, 13, 15, 16, 17, 18] s, (.seq (.reg [⟨.loc 2, .r (.mov (.cst (.int .i64 0))), none⟩])
 (.seq (.seq (.reg [⟨.tmp 5, .r (.mov (.loc 0)), none⟩,
 ⟨.tmp 6, .r (.chk (.tmp 5)), none⟩,
 ⟨.tmp 7, .r (.off 4 (.tmp 6)), none⟩,
 ⟨.tmp 8, .r (.load false 1 (.tmp 7)), none⟩,
 ⟨.tmp 9, .r (.mov (.tmp 8)), none⟩,
 ⟨.tmp 10, .r (.mov (.loc 0)), some (.tmp 9, false)⟩,
 ⟨.tmp 11, .call f0 [.tmp 10], some (.tmp 9, false)⟩,
 ⟨.tmp 12, .r (.not (.tmp 11)), some (.tmp 9, false)⟩,
 ⟨.loc 13, .r (.pick (.tmp 9) (.cst (.bool true)) (.tmp 12)), none⟩])
 (.cond (.loc 13) (.seq (.reg [⟨.loc 2, .r (.mov (.cst (.int .i64 10))), none⟩])
 .ret)
 .skip))
 (.seq (.seq (.reg [⟨.tmp 14, .r (.mov (.loc 0)), none⟩,
 ⟨.loc 15, .call f1 [.tmp 14], none⟩,
 ⟨.loc 16, .r (.len (.loc 15)), none⟩,
 ⟨.loc 17, .r (.mov (.cst (.int .i64 0))), none⟩])
 (.block 0 (.loop (c_sector_Disk_Flush_l0 f0 f1))))
 (.seq (.reg [⟨.tmp 34, .r (.mov (.loc 0)), none⟩,
 ⟨.tmp 35, .r (.chk (.tmp 34)), none⟩,
 ⟨.tmp 36, .r (.off 2 (.tmp 35)), none⟩,
 ⟨.tmp 37, .r (.load false 1 (.tmp 36)), none⟩,
 ⟨.none, .h (.mclr (.tmp 37)), none⟩])
 (.seq (.reg [⟨.loc 2, .r (.mov (.cst (.int .i64 0))), none⟩])
 .ret))))), [(.tmp (.loc 2))]⟩

/-- (*glebe/sector.Disk).Read -/
def c_sector_Disk_Read (f0 f1 : FuncId) : AFn := ⟨36, fun s => List.contains [0, 1, 4, 5, 6, 7, 8, 12, 22, 32] s, (.seq (.reg [⟨.loc 4, .r (.mov (.cst .nils)), none⟩,
 ⟨.loc 5, .r (.mov (.cst (.int .i64 0))), none⟩])
 (.seq (.seq (.reg [⟨.tmp 9, .r (.mov (.loc 0)), none⟩,
 ⟨.tmp 10, .r (.mov (.loc 1)), none⟩,
 ⟨.tmp 11, .call f0 [.tmp 9, .tmp 10], none⟩,
 ⟨.loc 12, .r (.not (.tmp 11)), none⟩])
 (.cond (.loc 12) (.seq (.reg [⟨.loc 4, .r (.mov (.cst .nils)), none⟩,
 ⟨.loc 5, .r (.mov (.cst (.int .i64 3))), none⟩])
 .ret)
 .skip))
 (.seq (.seq (.reg [⟨.tmp 14, .r (.mov (.loc 0)), none⟩,
 ⟨.tmp 15, .r (.chk (.tmp 14)), none⟩,
 ⟨.tmp 16, .r (.off 2 (.tmp 15)), none⟩,
 ⟨.tmp 17, .r (.load false 1 (.tmp 16)), none⟩,
 ⟨.tmp 18, .r (.mov (.loc 1)), none⟩,
 ⟨.tmp 19, .h (.mlook true .nils (.tmp 17) (.tmp 18)), none⟩,
 ⟨.tmp 13, .r (.mov (.tmp 19)), none⟩,
 ⟨.tmp 20, .r (.ext (.tmp 13) 0), none⟩,
 ⟨.tmp 21, .r (.ext (.tmp 13) 1), none⟩,
 ⟨.loc 6, .r (.mov (.tmp 20)), none⟩,
 ⟨.loc 7, .r (.mov (.tmp 21)), none⟩])
 (.seq (.reg [⟨.loc 22, .r (.mov (.loc 7)), none⟩])
 (.cond (.loc 22) (.seq (.reg [⟨.tmp 23, .r (.mov (.loc 6)), none⟩,
 ⟨.tmp 24, .call f1 [.tmp 23], none⟩,
 ⟨.loc 4, .r (.mov (.tmp 24)), none⟩,
 ⟨.loc 5, .r (.mov (.cst (.int .i64 0))), none⟩])
 .ret)
 .skip)))
 (.seq (.reg [⟨.tmp 25, .r (.mov (.loc 0)), none⟩,
 ⟨.tmp 26, .r (.chk (.tmp 25)), none⟩,
 ⟨.tmp 27, .r (.off 1 (.tmp 26)), none⟩,
 ⟨.tmp 28, .r (.load false 1 (.tmp 27)), none⟩,
 ⟨.tmp 29, .r (.mov (.loc 1)), none⟩,
 ⟨.tmp 30, .h (.mlook false (.agg [.nils, (.bool false)]) (.tmp 28) (.tmp 29)), none⟩,
 ⟨.loc 8, .h (.mk [.nils, (.bool false)]), none⟩,
 ⟨.none, .h (.store 2 (.loc 8) (.tmp 30)), none⟩])
 (.seq (.seq (.reg [⟨.tmp 31, .r (.off 1 (.loc 8)), none⟩,
 ⟨.loc 32, .r (.load false 1 (.tmp 31)), none⟩])
 (.cond (.loc 32) (.seq (.reg [⟨.loc 4, .r (.mov (.cst .nils)), none⟩,
 ⟨.loc 5, .r (.mov (.cst (.int .i64 9))), none⟩])
 .ret)
 .skip))
 (.seq (.reg [⟨.tmp 33, .r (.off 0 (.loc 8)), none⟩,
 ⟨.tmp 34, .r (.load false 1 (.tmp 33)), none⟩,
 ⟨.tmp 35, .call f1 [.tmp 34], none⟩,
 ⟨.loc 4, .r (.mov (.tmp 35)), none⟩,
 ⟨.loc 5, .r (.mov (.cst (.int .i64 0))), none⟩])
 .ret)))))), [(.tmp (.loc 4)), (.tmp (.loc 5))]⟩

/-- (*glebe/sector.Disk).Len -/
def c_sector_Disk_Len : AFn := ⟨7, fun s => List.contains [0, 2] s, (.seq (.reg [⟨.loc 2, .r (.mov (.cst (.int .i64 0))), none⟩])
 (.seq (.reg [⟨.tmp 3, .r (.mov (.loc 0)), none⟩,
 ⟨.tmp 4, .r (.chk (.tmp 3)), none⟩,
 ⟨.tmp 5, .r (.off 0 (.tmp 4)), none⟩,
 ⟨.tmp 6, .r (.load false 1 (.tmp 5)), none⟩,
 ⟨.loc 2, .r (.mov (.tmp 6)), none⟩])
 .ret)), [(.tmp (.loc 2))]⟩

/-- (*glebe/sector.Disk).Dirty -/
def c_sector_Disk_Dirty (f0 f1 : FuncId) : AFn := ⟨9, fun s => List.contains [0, 2] s, (.seq (.reg [⟨.loc 2, .r (.mov (.cst .nils)), none⟩])
 (.seq (.reg [⟨.tmp 3, .r (.mov (.loc 0)), none⟩,
 ⟨.tmp 4, .r (.chk (.tmp 3)), none⟩,
 ⟨.tmp 5, .r (.off 2 (.tmp 4)), none⟩,
 ⟨.tmp 6, .r (.load false 1 (.tmp 5)), none⟩,
 ⟨.tmp 7, .call f0 [.tmp 6], none⟩,
 ⟨.tmp 8, .call f1 [.tmp 7], none⟩,
 ⟨.loc 2, .r (.mov (.tmp 8)), none⟩])
 .ret)), [(.tmp (.loc 2))]⟩

/-- (*glebe/sector.Disk).Arm -/
def c_sector_Disk_Arm : AFn := ⟨13, fun s => List.contains [0, 1] s, (.reg [⟨.tmp 4, .r (.mov (.loc 0)), none⟩,
 ⟨.tmp 5, .r (.mov (.loc 0)), none⟩,
 ⟨.tmp 6, .r (.mov (.loc 1)), none⟩,
 ⟨.tmp 7, .r (.bin .geq (.tmp 6) (.cst (.int .i64 0))), none⟩,
 ⟨.tmp 8, .r (.mov (.loc 1)), none⟩,
 ⟨.tmp 9, .r (.chk (.tmp 4)), none⟩,
 ⟨.tmp 10, .r (.off 3 (.tmp 9)), none⟩,
 ⟨.none, .h (.store 1 (.tmp 10) (.tmp 7)), none⟩,
 ⟨.tmp 11, .r (.chk (.tmp 5)), none⟩,
 ⟨.tmp 12, .r (.off 5 (.tmp 11)), none⟩,
 ⟨.none, .h (.store 1 (.tmp 12) (.tmp 8)), none⟩]), []⟩

/-- (*glebe/sector.Disk).Down -/
def c_sector_Disk_Down : AFn := ⟨7, fun s => List.contains [0, 2] s, (.seq (.reg [⟨.loc 2, .r (.mov (.cst (.bool false))), none⟩])
 (.seq (.reg [⟨.tmp 3, .r (.mov (.loc 0)), none⟩,
 ⟨.tmp 4, .r (.chk (.tmp 3)), none⟩,
 ⟨.tmp 5, .r (.off 4 (.tmp 4)), none⟩,
 ⟨.tmp 6, .r (.load false 1 (.tmp 5)), none⟩,
 ⟨.loc 2, .r (.mov (.tmp 6)), none⟩])
 .ret)), [(.tmp (.loc 2))]⟩

def c_sector_Disk_Crash_l0 (f0 : FuncId) : AC := (.seq (.reg [⟨.loc 10, .r (.bin .lss (.loc 9) (.loc 8)), none⟩])
 (.seq (.cond (.loc 10) .skip
 (.exit 0))
 (.seq (.block 1 (.seq (.reg [⟨.tmp 11, .r (.mov (.loc 9)), none⟩,
 ⟨.tmp 12, .r (.idx 1 (.loc 7) (.loc 9)), none⟩,
 ⟨.tmp 13, .r (.load false 1 (.tmp 12)), none⟩,
 ⟨.loc 4, .r (.mov (.tmp 11)), none⟩,
 ⟨.loc 5, .r (.mov (.tmp 13)), none⟩])
 (.block 2 (.seq (.reg [⟨.tmp 21, .r (.mov (.loc 4)), none⟩,
 ⟨.tmp 22, .r (.mov (.loc 1)), none⟩,
 ⟨.tmp 23, .r (.len (.tmp 22)), none⟩,
 ⟨.tmp 24, .r (.bin .geq (.tmp 21) (.tmp 23)), none⟩,
 ⟨.tmp 25, .r (.mov (.tmp 24)), none⟩,
 ⟨.tmp 26, .r (.mov (.loc 1)), some (.tmp 25, false)⟩,
 ⟨.tmp 27, .r (.mov (.loc 4)), some (.tmp 25, false)⟩,
 ⟨.tmp 28, .r (.idx 1 (.tmp 26) (.tmp 27)), some (.tmp 25, false)⟩,
 ⟨.tmp 29, .r (.load false 1 (.tmp 28)), some (.tmp 25, false)⟩,
 ⟨.tmp 30, .r (.bin .eql (.tmp 29) (.cst (.int .i64 0))), some (.tmp 25, false)⟩,
 ⟨.tmp 31, .r (.pick (.tmp 25) (.cst (.bool true)) (.tmp 30)), none⟩,
 ⟨.loc 20, .r (.mov (.tmp 31)), none⟩])
 (.cond (.loc 20) .skip
 (.seq (.reg [⟨.tmp 33, .r (.mov (.loc 1)), none⟩,
 ⟨.tmp 34, .r (.mov (.loc 4)), none⟩,
 ⟨.tmp 35, .r (.idx 1 (.tmp 33) (.tmp 34)), none⟩,
 ⟨.tmp 36, .r (.load false 1 (.tmp 35)), none⟩,
 ⟨.tmp 37, .r (.bin .eql (.tmp 36) (.cst (.int .i64 1))), none⟩,
 ⟨.loc 32, .r (.mov (.tmp 37)), none⟩])
 (.cond (.loc 32) (.dreg ⟨[0, 1, 3, 7, 0, 0, 32, 96, 224, 0, 992, 2016, 4095], 0, [⟨0, 0, false, .r (.mov (.loc 0)), none⟩,
 ⟨1, 0, false, .r (.chk (.tmp 0)), none⟩,
 ⟨2, 0, false, .r (.off 1 (.tmp 1)), none⟩,
 ⟨3, 0, false, .r (.load false 1 (.tmp 2)), none⟩,
 ⟨4, 0, false, .r (.mov (.loc 5)), none⟩,
 ⟨5, 0, false, .r (.mov (.loc 0)), none⟩,
 ⟨6, 0, false, .r (.chk (.tmp 5)), none⟩,
 ⟨7, 0, false, .r (.off 2 (.tmp 6)), none⟩,
 ⟨8, 0, false, .r (.load false 1 (.tmp 7)), none⟩,
 ⟨9, 0, false, .r (.mov (.loc 5)), none⟩,
 ⟨10, 0, true, .h (.mlook false .nils (.tmp 8) (.tmp 9)), none⟩,
 ⟨11, 0, false, .r (.build [.nils, (.bool false)] [(0, 1, .tmp 10)]), none⟩,
 ⟨12, 0, true, .h (.mset (.tmp 3) (.tmp 4) (.tmp 11)), none⟩], []⟩)
 (.reg [⟨.tmp 14, .r (.mov (.loc 0)), none⟩,
 ⟨.tmp 15, .r (.chk (.tmp 14)), none⟩,
 ⟨.tmp 16, .r (.off 1 (.tmp 15)), none⟩,
 ⟨.tmp 17, .r (.load false 1 (.tmp 16)), none⟩,
 ⟨.tmp 18, .r (.mov (.loc 5)), none⟩,
 ⟨.tmp 19, .r (.build [.nils, (.bool false)] [(1, 1, (.cst (.bool true)))]), none⟩,
 ⟨.none, .h (.mset (.tmp 17) (.tmp 18) (.tmp 19)), none⟩]))))))))
 (.reg [⟨.tmp 50, .r (.bin .add (.loc 9) (.cst (.int .i64 1))), none⟩,
 ⟨.loc 9, .r (.mov (.tmp 50)), none⟩]))))
/-- (*glebe/sector.Disk).Crash -/
def c_sector_Disk_Crash (f0 : FuncId) : AFn := ⟨61, fun s => List.contains [0, 1, 4, 5, 7, 8, 9, 10, 20, 32] s, (.seq (.seq (.reg [⟨.tmp 6, .r (.mov (.loc 0)), none⟩,
 ⟨.loc 7, .call f0 [.tmp 6], none⟩,
 ⟨.loc 8, .r (.len (.loc 7)), none⟩,
 ⟨.loc 9, .r (.mov (.cst (.int .i64 0))), none⟩])
 (.block 0 (.loop (c_sector_Disk_Crash_l0 f0))))
 (.seq (.reg [⟨.tmp 51, .r (.mov (.loc 0)), none⟩,
 ⟨.tmp 52, .r (.chk (.tmp 51)), none⟩,
 ⟨.tmp 53, .r (.off 2 (.tmp 52)), none⟩,
 ⟨.tmp 54, .r (.load false 1 (.tmp 53)), none⟩,
 ⟨.none, .h (.mclr (.tmp 54)), none⟩])
 (.reg [⟨.tmp 55, .r (.mov (.loc 0)), none⟩,
 ⟨.tmp 56, .r (.mov (.loc 0)), none⟩,
 ⟨.tmp 57, .r (.chk (.tmp 55)), none⟩,
 ⟨.tmp 58, .r (.off 3 (.tmp 57)), none⟩,
 ⟨.none, .h (.store 1 (.tmp 58) (.cst (.bool false))), none⟩,
 ⟨.tmp 59, .r (.chk (.tmp 56)), none⟩,
 ⟨.tmp 60, .r (.off 4 (.tmp 59)), none⟩,
 ⟨.none, .h (.store 1 (.tmp 60) (.cst (.bool false))), none⟩]))), []⟩

end Glb
