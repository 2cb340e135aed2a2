/-
  What functions of the program are, one by one (the functions that they call as parameters), in a form of which something can be shown.
-/
import Derived.Test.YtdeiamnhnfmilaaGreatGlbShort
import Derived.Test.YtdeiamnhnfmilaaGreatGlbLibB
set_option linter.unusedSimpArgs false
set_option linter.unusedVariables false
namespace Glb
open Go
set_option maxRecDepth 100000
def c_pack_Read (f0 : FuncId) : AFn := ⟨7, fun s => List.contains [0, 2] s, (.seq (.reg [⟨.loc 2, .r (.mov (.cst (.raw (.pointer none)))), none⟩])
 (.seq (.reg [Qa 3 0,
 Qn 4 f0 3,
 ⟨.tmp 5, .r (.build [.nils, (.bool false)] [(0, 1, .tmp 4)]), none⟩,
 ⟨.tmp 6, .h (.box (.tmp 5)), none⟩,
 Qb 2 6])
 .ret)), [(.tmp (.loc 2))]⟩
def c_slices_Clone_byte_byte : AFn := ⟨8, fun s => List.contains [0, 2, 4] s, (.seq (.reg [Qw 2])
 (.seq (.seq (.reg [Qa 3 0,
 ⟨.loc 4, .r (.nileq false (.tmp 3)), none⟩])
 (.cond (.loc 4) (.seq (.reg [Qw 2])
 .ret)
 .skip))
 (.seq (.reg [⟨.tmp 5, .h (.bsl 1 []), none⟩,
 Qa 6 0,
 ⟨.tmp 7, .h (.app 1 1 (.tmp 5) (.tmp 6)), none⟩,
 Qb 2 7])
 .ret))), [(.tmp (.loc 2))]⟩
def c_pack_Reader_fail : AFn := ⟨8, fun s => List.contains [0] s, (.reg [Qa 2 0,
 Qa 3 0,
 Qj 4 2,
 Qf 5 0 4,
 ⟨.none, .h (.store 1 (.tmp 5) (.cst .nils)), none⟩,
 Qj 6 3,
 Qf 7 1 6,
 ⟨.none, .h (.store 1 (.tmp 7) (.cst (.bool true))), none⟩]), []⟩
def c_pack_Reader_take (f0 : FuncId) : AFn := ⟨43, fun s => List.contains [0, 1, 4, 5, 6, 23] s, (.seq (.reg [Qw 4,
 Qv 5 false])
 (.seq (.seq (.reg [Qa 7 0,
 Qj 8 7,
 Qf 9 1 8,
 Qd 10 1 9,
 Qc 11 10,
 Qp 12 1 11 false,
 ⟨.tmp 13, .r (.bin .lss (.tmp 12) (.cst (.int .i64 0))), some (.tmp 11, false)⟩,
 Qt 14 11 13,
 Qc 15 14,
 Qp 16 1 15 false,
 Qp 17 0 15 false,
 ⟨.tmp 18, .r (.chk (.tmp 17)), some (.tmp 15, false)⟩,
 Qs 19 0 18 15 false,
 Qq 20 1 19 15 false,
 ⟨.tmp 21, .r (.len (.tmp 20)), some (.tmp 15, false)⟩,
 ⟨.tmp 22, .r (.bin .gtr (.tmp 16) (.tmp 21)), some (.tmp 15, false)⟩,
 ⟨.loc 23, .r (.pick (.tmp 15) (.cst (.bool true)) (.tmp 22)), none⟩])
 (.cond (.loc 23) (.seq (.reg [Qa 24 0,
 Qn 25 f0 24])
 (.seq (.reg [Qw 4,
 Qv 5 false])
 .ret))
 .skip))
 (.seq (.reg [Qa 26 0,
 Qj 27 26,
 Qf 28 0 27,
 Qd 29 1 28,
 Qa 30 1,
 Qa 31 1,
 ⟨.tmp 32, .r (.slc 1 (.tmp 29) none (some (.tmp 30)) (some (.tmp 31))), none⟩,
 Qb 6 32])
 (.seq (.reg [Qa 33 0,
 Qa 34 0,
 Qj 35 34,
 Qf 36 0 35,
 Qd 37 1 36,
 Qa 38 1,
 ⟨.tmp 39, .r (.slc 1 (.tmp 37) (some (.tmp 38)) none none), none⟩,
 Qj 40 33,
 Qf 41 0 40,
 Qm 1 41 39])
 (.seq (.reg [Qa 42 6,
 Qb 4 42,
 Qv 5 true])
 .ret))))), [(.tmp (.loc 4)), (.tmp (.loc 5))]⟩
def c_pack_Reader_Int_l0 (f0 : FuncId) : AC := (.seq (.reg [⟨.loc 18, .r (.bin .lss (.loc 17) (.loc 16)), none⟩])
 (.seq (.cond (.loc 18) .skip
 (.exit 0))
 (.seq (.block 1 (.seq (.reg [⟨.tmp 19, .r (.idx 1 (.loc 15) (.loc 17)), none⟩,
 Qd 20 1 19,
 Qb 7 20])
 (.reg [Qa 21 5,
 ⟨.tmp 22, .r (.bin .shl (.tmp 21) (.cst (.int .u64 8))), none⟩,
 Qa 23 7,
 ⟨.tmp 24, .r (.conv .u64 (.tmp 23)), none⟩,
 ⟨.tmp 25, .r (.bin .or (.tmp 22) (.tmp 24)), none⟩,
 Qb 5 25])))
 (.reg [⟨.tmp 26, .r (.bin .add (.loc 17) (.cst (.int .i64 1))), none⟩,
 Qb 17 26]))))
def c_pack_Reader_Int (f0 : FuncId) : AFn := ⟨29, fun s => List.contains [0, 2, 3, 4, 5, 7, 14, 15, 16, 17, 18] s, (.seq (.reg [Qh 2 0])
 (.seq (.reg [Qa 9 0,
 ⟨.tmp 10, .call f0 [.tmp 9, (.cst (.int .i64 8))], none⟩,
 Qc 8 10,
 Qi 11 8 0,
 Qi 12 8 1,
 Qb 3 11,
 Qb 4 12])
 (.seq (.seq (.reg [Qa 13 4,
 ⟨.loc 14, .r (.not (.tmp 13)), none⟩])
 (.cond (.loc 14) (.seq (.reg [Qh 2 0])
 .ret)
 .skip))
 (.seq (.reg [⟨.loc 5, .r (.mov (.cst (.int .u64 0))), none⟩])
 (.seq (.seq (.reg [⟨.loc 15, .r (.mov (.loc 3)), none⟩,
 ⟨.loc 16, .r (.len (.loc 15)), none⟩,
 Qh 17 0])
 (.block 0 (.loop (c_pack_Reader_Int_l0 f0))))
 (.seq (.reg [Qa 27 5,
 ⟨.tmp 28, .r (.conv .i64 (.tmp 27)), none⟩,
 Qb 2 28])
 .ret)))))), [(.tmp (.loc 2))]⟩
def c_pack_Reader_Blob (f0 f1 : FuncId) : AFn := ⟨13, fun s => List.contains [0, 2, 3] s, (.seq (.reg [Qw 2])
 (.seq (.reg [Qa 6 0,
 Qa 7 0,
 Qn 8 f0 7,
 Qo 9 f1 6 8,
 Qc 5 9,
 Qi 10 5 0,
 Qi 11 5 1,
 Qb 3 10,
 Qc 4 11])
 (.seq (.reg [Qa 12 3,
 Qb 2 12])
 .ret))), [(.tmp (.loc 2))]⟩
def c_pack_Reader_Ints_l0 (f0 f1 : FuncId) : AC := (.seq (.reg [⟨.loc 33, .r (.bin .lss (.loc 32) (.loc 31)), none⟩])
 (.seq (.cond (.loc 33) .skip
 (.exit 0))
 (.seq (.block 1 (.seq (.reg [Qa 34 32,
 Qb 5 34])
 (.reg [Qa 35 4,
 Qa 36 5,
 Qa 37 0,
 Qn 38 f0 37,
 ⟨.tmp 39, .r (.idx 1 (.tmp 35) (.tmp 36)), none⟩,
 Qm 1 39 38])))
 (.reg [⟨.tmp 40, .r (.bin .add (.loc 32) (.cst (.int .i64 1))), none⟩,
 Qb 32 40]))))
def c_pack_Reader_Ints (f0 f1 : FuncId) : AFn := ⟨42, fun s => List.contains [0, 2, 3, 4, 5, 25, 31, 32, 33] s, (.seq (.reg [Qw 2])
 (.seq (.reg [Qa 6 0,
 Qn 7 f0 6,
 Qb 3 7])
 (.seq (.seq (.reg [Qa 8 0,
 Qj 9 8,
 Qf 10 1 9,
 Qd 11 1 10,
 Qc 12 11,
 Qp 13 3 12 false,
 ⟨.tmp 14, .r (.bin .lss (.tmp 13) (.cst (.int .i64 0))), some (.tmp 12, false)⟩,
 Qt 15 12 14,
 Qc 16 15,
 Qp 17 3 16 false,
 Qp 18 0 16 false,
 ⟨.tmp 19, .r (.chk (.tmp 18)), some (.tmp 16, false)⟩,
 Qs 20 0 19 16 false,
 Qq 21 1 20 16 false,
 ⟨.tmp 22, .r (.len (.tmp 21)), some (.tmp 16, false)⟩,
 ⟨.tmp 23, .r (.bin .quo (.tmp 22) (.cst (.int .i64 8))), some (.tmp 16, false)⟩,
 ⟨.tmp 24, .r (.bin .gtr (.tmp 17) (.tmp 23)), some (.tmp 16, false)⟩,
 ⟨.loc 25, .r (.pick (.tmp 16) (.cst (.bool true)) (.tmp 24)), none⟩])
 (.cond (.loc 25) (.seq (.reg [Qa 26 0,
 Qn 27 f1 26])
 (.seq (.reg [Qw 2])
 .ret))
 .skip))
 (.seq (.reg [Qa 28 3,
 ⟨.tmp 29, .h (.mks 1 8 [(.int .i64 0)] (.tmp 28) (.tmp 28)), none⟩,
 Qb 4 29])
 (.seq (.seq (.reg [Qa 30 4,
 ⟨.loc 31, .r (.len (.tmp 30)), none⟩,
 Qh 32 0])
 (.block 0 (.loop (c_pack_Reader_Ints_l0 f0 f1))))
 (.seq (.reg [Qa 41 4,
 Qb 2 41])
 .ret)))))), [(.tmp (.loc 2))]⟩
def c_pack_Reader_End : AFn := ⟨15, fun s => List.contains [0, 2, 3, 8] s, (.seq (.reg [Qh 2 0])
 (.seq (.block 0 (.seq (.reg [Qa 4 0,
 Qj 5 4,
 Qf 6 1 5,
 Qd 7 1 6,
 Qb 3 7])
 (.cond (.loc 3) (.seq (.reg [Qh 2 4])
 .ret)
 (.seq (.reg [Qa 9 0,
 Qj 10 9,
 Qf 11 0 10,
 Qd 12 1 11,
 ⟨.tmp 13, .r (.len (.tmp 12)), none⟩,
 ⟨.tmp 14, .r (.bin .gtr (.tmp 13) (.cst (.int .i64 0))), none⟩,
 Qb 8 14])
 (.cond (.loc 8) (.seq (.reg [Qh 2 2])
 .ret)
 .skip)))))
 (.seq (.reg [Qh 2 0])
 .ret))), [(.tmp (.loc 2))]⟩
end Glb
