/-
  What functions of the program are, one by one (the functions that they call as parameters), in a form of which something can be shown.
-/
import Derived.Test.YtdeiamnhnfmilaaGreatGlbShort
import Derived.Test.YtdeiamnhnfmilaaGreatGlbLibB
set_option linter.unusedSimpArgs false
set_option linter.unusedVariables false
namespace Glb
open Go
set_option maxRecDepth 100000
def c_quorum_Agreed_l0 (f0 : FuncId) : AC := (.seq (.reg [⟨.loc 35, .r (.bin .lss (.loc 34) (.loc 33)), none⟩])
 (.seq (.cond (.loc 35) .skip
 (.exit 2))
 (.seq (.block 3 (.seq (.reg [Qa 36 34,
 ⟨.tmp 37, .r (.idx 1 (.loc 32) (.loc 34)), none⟩,
 Qd 38 1 37,
 Qb 12 36,
 Qb 13 38])
 (.seq (.reg [Qa 39 2,
 Qa 40 12,
 ⟨.tmp 41, .r (.idx 1 (.tmp 39) (.tmp 40)), none⟩,
 Qd 42 1 41,
 Qa 43 10,
 ⟨.loc 44, .r (.bin .geq (.tmp 42) (.tmp 43)), none⟩])
 (.cond (.loc 44) (.reg [Qa 45 11,
 Qa 46 13,
 ⟨.tmp 47, .h (.bsl 1 [.tmp 46]), none⟩,
 ⟨.tmp 48, .h (.app 1 8 (.tmp 45) (.tmp 47)), none⟩,
 Qb 11 48])
 .skip))))
 (.reg [⟨.tmp 49, .r (.bin .add (.loc 34) (.cst (.int .i64 1))), none⟩,
 Qb 34 49]))))
def c_quorum_Agreed_l1 (f0 : FuncId) : AC := (.seq (.reg [⟨.loc 24, .r (.bin .lss (.loc 23) (.loc 22)), none⟩])
 (.seq (.cond (.loc 24) .skip
 (.exit 0))
 (.seq (.block 1 (.seq (.reg [⟨.tmp 25, .r (.idx 1 (.loc 21) (.loc 23)), none⟩,
 Qd 26 1 25,
 Qb 10 26])
 (.seq (.seq (.reg [Qa 27 10,
 Qa 28 8,
 ⟨.loc 29, .r (.bin .leq (.tmp 27) (.tmp 28)), none⟩])
 (.cond (.loc 29) (.exit 1)
 .skip))
 (.seq (.reg [Qw 11])
 (.seq (.seq (.reg [Qa 30 1,
 Qa 31 7,
 ⟨.loc 32, .r (.slc 1 (.tmp 30) none (some (.tmp 31)) none), none⟩,
 ⟨.loc 33, .r (.len (.loc 32)), none⟩,
 Qh 34 0])
 (.block 2 (.loop (c_quorum_Agreed_l0 f0))))
 (.seq (.reg [Qg 50 3 3,
 Qa 51 11,
 ⟨.loc 52, .call f0 [.tmp 50, .tmp 51], none⟩])
 (.cond (.loc 52) (.reg [Qa 53 10,
 Qb 8 53])
 .skip)))))))
 (.reg [⟨.tmp 54, .r (.bin .add (.loc 23) (.cst (.int .i64 1))), none⟩,
 Qb 23 54]))))
def c_quorum_Agreed (f0 : FuncId) : AFn := ⟨56, fun s => List.contains [0, 1, 2, 3, 6, 7, 8, 10, 11, 12, 13, 21, 22, 23, 24, 29, 32, 33, 34, 35, 44, 52] s, (.seq (.reg [Qk 3 0,
 Qh 6 0])
 (.seq (.reg [Qa 14 1,
 ⟨.tmp 15, .r (.len (.tmp 14)), none⟩,
 Qa 16 2,
 ⟨.tmp 17, .r (.len (.tmp 16)), none⟩,
 ⟨.tmp 18, .r (.mnmx false [.tmp 15, .tmp 17]), none⟩,
 Qb 7 18])
 (.seq (.reg [Qh 8 0])
 (.seq (.seq (.reg [Qa 19 2,
 Qa 20 7,
 ⟨.loc 21, .r (.slc 1 (.tmp 19) none (some (.tmp 20)) none), none⟩,
 ⟨.loc 22, .r (.len (.loc 21)), none⟩,
 Qh 23 0])
 (.block 0 (.loop (c_quorum_Agreed_l1 f0))))
 (.seq (.reg [Qa 55 8,
 Qb 6 55])
 .ret))))), [(.tmp (.loc 6))]⟩
def c_quorum_Won (f0 : FuncId) : AFn := ⟨21, fun s => List.contains [0, 1, 2, 4] s, (.seq (.reg [Qk 2 0,
 Qv 4 false])
 (.seq (.reg [Qe 5 0 2,
 Qd 6 1 5,
 Qa 7 1,
 Qo 8 f0 6 7,
 Qc 9 8,
 Qr 10 1 2 9 true,
 Qq 11 1 10 9 true,
 ⟨.tmp 12, .r (.len (.tmp 11)), some (.tmp 9, true)⟩,
 ⟨.tmp 13, .r (.bin .eql (.tmp 12) (.cst (.int .i64 0))), some (.tmp 9, true)⟩,
 ⟨.tmp 14, .r (.mov (.tmp 13)), some (.tmp 9, true)⟩,
 Qr 15 1 2 14 false,
 Qq 16 1 15 14 false,
 Qp 17 1 14 false,
 ⟨.tmp 18, .call f0 [.tmp 16, .tmp 17], some (.tmp 14, false)⟩,
 ⟨.tmp 19, .r (.pick (.tmp 14) (.cst (.bool true)) (.tmp 18)), some (.tmp 9, true)⟩,
 Qu 20 9 19,
 Qb 4 20])
 .ret)), [(.tmp (.loc 4))]⟩
def c_quorum_Check (f0 f1 f2 : FuncId) : AFn := ⟨34, fun s => List.contains [0, 1, 2, 3, 33] s, (.seq (.reg [Qk 1 0,
 Qh 2 0])
 (.seq (.reg [⟨.tmp 4, .r (.clo f0 [.loc 1]), none⟩,
 Qb 3 4])
 (.seq (.seq (.reg [Qe 5 0 1,
 Qd 6 1 5,
 ⟨.tmp 7, .r (.len (.tmp 6)), none⟩,
 ⟨.tmp 8, .r (.bin .eql (.tmp 7) (.cst (.int .i64 0))), none⟩,
 Qc 9 8,
 Qr 10 0 1 9 false,
 Qq 11 1 10 9 false,
 ⟨.tmp 12, .call f1 [.tmp 11], some (.tmp 9, false)⟩,
 ⟨.tmp 13, .r (.not (.tmp 12)), some (.tmp 9, false)⟩,
 Qt 14 9 13,
 Qc 15 14,
 Qr 16 1 1 15 false,
 Qq 17 1 16 15 false,
 ⟨.tmp 18, .call f1 [.tmp 17], some (.tmp 15, false)⟩,
 ⟨.tmp 19, .r (.not (.tmp 18)), some (.tmp 15, false)⟩,
 Qt 20 15 19,
 Qc 21 20,
 Qr 22 2 1 21 false,
 Qq 23 1 22 21 false,
 ⟨.tmp 24, .call f1 [.tmp 23], some (.tmp 21, false)⟩,
 ⟨.tmp 25, .r (.not (.tmp 24)), some (.tmp 21, false)⟩,
 Qt 26 21 25,
 Qc 27 26,
 Qr 28 2 1 27 false,
 Qq 29 1 28 27 false,
 Qp 30 3 27 false,
 ⟨.tmp 31, .call f2 [.tmp 29, .tmp 30], some (.tmp 27, false)⟩,
 ⟨.tmp 32, .r (.bin .gtr (.tmp 31) (.cst (.int .i64 0))), some (.tmp 27, false)⟩,
 ⟨.loc 33, .r (.pick (.tmp 27) (.cst (.bool true)) (.tmp 32)), none⟩])
 (.cond (.loc 33) (.seq (.reg [Qh 2 29])
 .ret)
 .skip))
 (.seq (.reg [Qh 2 0])
 .ret)))), [(.tmp (.loc 2))]⟩
def c_quorum_Voters (f0 : FuncId) : AFn := ⟨9, fun s => List.contains [0, 1, 2] s, (.seq (.reg [Qk 1 0,
 Qw 2])
 (.seq (.reg [Qe 3 0 1,
 Qd 4 1 3,
 Qe 5 1 1,
 Qd 6 1 5,
 ⟨.tmp 7, .h (.bsl 1 [.tmp 4, .tmp 6]), none⟩,
 Qn 8 f0 7,
 Qb 2 8])
 .ret)), [(.tmp (.loc 2))]⟩
def c_quorum_Members (f0 : FuncId) : AFn := ⟨11, fun s => List.contains [0, 1, 2] s, (.seq (.reg [Qk 1 0,
 Qw 2])
 (.seq (.reg [Qe 3 0 1,
 Qd 4 1 3,
 Qe 5 1 1,
 Qd 6 1 5,
 Qe 7 2 1,
 Qd 8 1 7,
 ⟨.tmp 9, .h (.bsl 1 [.tmp 4, .tmp 6, .tmp 8]), none⟩,
 Qn 10 f0 9,
 Qb 2 10])
 .ret)), [(.tmp (.loc 2))]⟩
def c_quorum_enough (f0 f1 : FuncId) : AFn := ⟨12, fun s => List.contains [0, 1, 3, 4] s, (.seq (.reg [Qk 3 1,
 Qv 4 false])
 (.seq (.reg [Qa 5 0,
 ⟨.tmp 6, .r (.clo f0 [.loc 3]), none⟩,
 Qo 7 f1 5 6,
 Qa 8 0,
 ⟨.tmp 9, .r (.len (.tmp 8)), none⟩,
 ⟨.tmp 10, .r (.bin .quo (.tmp 9) (.cst (.int .i64 2))), none⟩,
 ⟨.tmp 11, .r (.bin .gtr (.tmp 7) (.tmp 10)), none⟩,
 Qb 4 11])
 .ret)), [(.tmp (.loc 4))]⟩
def c_quorum_Check_f1 (f0 : FuncId) : AFn := ⟨14, fun s => List.contains [0, 1, 3] s, (.seq (.reg [Qv 3 false])
 (.seq (.reg [Qe 4 0 1,
 Qd 5 1 4,
 Qa 6 0,
 Qo 7 f0 5 6,
 Qc 8 7,
 Qr 9 1 1 8 false,
 Qq 10 1 9 8 false,
 Qp 11 0 8 false,
 ⟨.tmp 12, .call f0 [.tmp 10, .tmp 11], some (.tmp 8, false)⟩,
 Qt 13 8 12,
 Qb 3 13])
 .ret)), [(.tmp (.loc 3))]⟩
def c_slices_Contains_int_int (f0 : FuncId) : AFn := ⟨9, fun s => List.contains [0, 1, 4] s, (.seq (.reg [Qv 4 false])
 (.seq (.reg [Qa 5 0,
 Qa 6 1,
 Qo 7 f0 5 6,
 ⟨.tmp 8, .r (.bin .geq (.tmp 7) (.cst (.int .i64 0))), none⟩,
 Qb 4 8])
 .ret)), [(.tmp (.loc 4))]⟩
def c_quorum_rises_l0 : AC := (.seq (.reg [⟨.loc 8, .r (.bin .lss (.loc 7) (.loc 6)), none⟩])
 (.seq (.cond (.loc 8) .skip
 (.exit 0))
 (.seq (.block 1 (.seq (.reg [Qa 9 7,
 ⟨.tmp 10, .r (.idx 1 (.loc 5) (.loc 7)), none⟩,
 Qd 11 1 10,
 Qb 3 9,
 Qb 4 11])
 (.seq (.reg [Qa 12 4,
 ⟨.tmp 13, .r (.bin .lss (.tmp 12) (.cst (.int .i64 1))), none⟩,
 Qc 14 13,
 Qp 15 4 14 false,
 ⟨.tmp 16, .r (.bin .gtr (.tmp 15) (.cst (.int .i64 7))), some (.tmp 14, false)⟩,
 Qt 17 14 16,
 Qc 18 17,
 Qp 19 3 18 false,
 ⟨.tmp 20, .r (.bin .gtr (.tmp 19) (.cst (.int .i64 0))), some (.tmp 18, false)⟩,
 ⟨.tmp 21, .r (.mov (.tmp 20)), some (.tmp 18, false)⟩,
 Qp 22 4 21 true,
 Qp 23 0 21 true,
 Qp 24 3 21 true,
 ⟨.tmp 25, .r (.bin .sub (.tmp 24) (.cst (.int .i64 1))), some (.tmp 21, true)⟩,
 ⟨.tmp 26, .r (.idx 1 (.tmp 23) (.tmp 25)), some (.tmp 21, true)⟩,
 Qq 27 1 26 21 true,
 ⟨.tmp 28, .r (.bin .leq (.tmp 22) (.tmp 27)), some (.tmp 21, true)⟩,
 ⟨.tmp 29, .r (.pick (.tmp 21) (.tmp 28) (.cst (.bool false))), some (.tmp 18, false)⟩,
 ⟨.loc 30, .r (.pick (.tmp 18) (.cst (.bool true)) (.tmp 29)), none⟩])
 (.cond (.loc 30) (.seq (.reg [Qv 2 false])
 .ret)
 .skip))))
 (.reg [⟨.tmp 31, .r (.bin .add (.loc 7) (.cst (.int .i64 1))), none⟩,
 Qb 7 31]))))
def c_quorum_rises : AFn := ⟨32, fun s => List.contains [0, 2, 3, 4, 5, 6, 7, 8, 30] s, (.seq (.reg [Qv 2 false])
 (.seq (.seq (.reg [⟨.loc 5, .r (.mov (.loc 0)), none⟩,
 ⟨.loc 6, .r (.len (.loc 5)), none⟩,
 Qh 7 0])
 (.block 0 (.loop (c_quorum_rises_l0))))
 (.seq (.reg [Qv 2 true])
 .ret))), [(.tmp (.loc 2))]⟩
def c_quorum_count_int_l0 : AC := (.seq (.reg [⟨.loc 11, .r (.bin .lss (.loc 10) (.loc 9)), none⟩])
 (.seq (.cond (.loc 11) .skip
 (.exit 0))
 (.seq (.block 1 (.seq (.reg [⟨.tmp 12, .r (.idx 1 (.loc 8) (.loc 10)), none⟩,
 Qd 13 1 12,
 Qb 7 13])
 (.seq (.reg [Qa 14 1,
 Qa 15 7,
 ⟨(.loc 16), (.callv (.tmp 14) [.tmp 15]), none⟩])
 (.cond (.loc 16) (.reg [Qa 17 5,
 Qx 18 17 1,
 Qb 5 18])
 .skip))))
 (.reg [⟨.tmp 19, .r (.bin .add (.loc 10) (.cst (.int .i64 1))), none⟩,
 Qb 10 19]))))
def c_quorum_count_int : AFn := ⟨21, fun s => List.contains [0, 1, 4, 5, 7, 8, 9, 10, 11, 16] s, (.seq (.reg [Qh 4 0])
 (.seq (.reg [Qh 5 0])
 (.seq (.seq (.reg [⟨.loc 8, .r (.mov (.loc 0)), none⟩,
 ⟨.loc 9, .r (.len (.loc 8)), none⟩,
 Qh 10 0])
 (.block 0 (.loop (c_quorum_count_int_l0))))
 (.seq (.reg [Qa 20 5,
 Qb 4 20])
 .ret)))), [(.tmp (.loc 4))]⟩
def c_quorum_united (f0 f1 f2 : FuncId) : AFn := ⟨10, fun s => List.contains [0, 2, 3] s, (.seq (.reg [Qw 2])
 (.seq (.reg [Qa 4 0,
 Qn 5 f0 4,
 Qb 3 5])
 (.seq (.reg [Qa 6 3,
 Qn 7 f1 6])
 (.seq (.reg [Qa 8 3,
 Qn 9 f2 8,
 Qb 2 9])
 .ret)))), [(.tmp (.loc 2))]⟩
def c_quorum_enough_f1 (f0 : FuncId) : AFn := ⟨7, fun s => List.contains [0, 1, 3] s, (.seq (.reg [Qv 3 false])
 (.seq (.reg [⟨.tmp 4, .r (.load false 1 (.loc 1)), none⟩,
 Qa 5 0,
 Qo 6 f0 4 5,
 Qb 3 6])
 .ret)), [(.tmp (.loc 3))]⟩
def c_slices_Index_int_int_l0 : AC := (.seq (.reg [⟨.loc 9, .r (.bin .lss (.loc 8) (.loc 7)), none⟩])
 (.seq (.cond (.loc 9) .skip
 (.exit 0))
 (.seq (.block 1 (.seq (.reg [Qa 10 8,
 Qb 5 10])
 (.seq (.reg [Qa 11 1,
 Qa 12 0,
 Qa 13 5,
 ⟨.tmp 14, .r (.idx 1 (.tmp 12) (.tmp 13)), none⟩,
 Qd 15 1 14,
 ⟨.loc 16, .r (.bin .eql (.tmp 11) (.tmp 15)), none⟩])
 (.cond (.loc 16) (.seq (.reg [Qa 17 5,
 Qb 4 17])
 .ret)
 .skip))))
 (.reg [⟨.tmp 18, .r (.bin .add (.loc 8) (.cst (.int .i64 1))), none⟩,
 Qb 8 18]))))
def c_slices_Index_int_int : AFn := ⟨19, fun s => List.contains [0, 1, 4, 5, 7, 8, 9, 16] s, (.seq (.reg [Qh 4 0])
 (.seq (.seq (.reg [Qa 6 0,
 ⟨.loc 7, .r (.len (.tmp 6)), none⟩,
 Qh 8 0])
 (.block 0 (.loop (c_slices_Index_int_int_l0))))
 (.seq (.reg [Qh 4 (-1)])
 .ret))), [(.tmp (.loc 4))]⟩
def c_slices_Concat_int_int_l0 (f0 : FuncId) : AC := (.seq (.reg [⟨.loc 12, .r (.bin .lss (.loc 11) (.loc 10)), none⟩])
 (.seq (.cond (.loc 12) .skip
 (.exit 0))
 (.seq (.block 1 (.seq (.reg [⟨.tmp 13, .r (.idx 1 (.loc 9) (.loc 11)), none⟩,
 Qd 14 1 13,
 Qb 5 14])
 (.seq (.reg [Qa 15 3,
 Qa 16 5,
 ⟨.tmp 17, .r (.len (.tmp 16)), none⟩,
 ⟨.tmp 18, .r (.bin .add (.tmp 15) (.tmp 17)), none⟩,
 Qb 3 18])
 (.seq (.reg [Qa 19 3,
 ⟨.loc 20, .r (.bin .lss (.tmp 19) (.cst (.int .i64 0))), none⟩])
 (.cond (.loc 20) (.reg [⟨.tmp 21, .r (.x (.bad)), none⟩,
 ⟨.none, .r (.x (.bad)), none⟩])
 .skip)))))
 (.reg [⟨.tmp 22, .r (.bin .add (.loc 11) (.cst (.int .i64 1))), none⟩,
 Qb 11 22]))))
def c_slices_Concat_int_int_l1 (f0 : FuncId) : AC := (.seq (.reg [⟨.loc 28, .r (.bin .lss (.loc 27) (.loc 26)), none⟩])
 (.seq (.cond (.loc 28) .skip
 (.exit 2))
 (.seq (.block 3 (.seq (.reg [⟨.tmp 29, .r (.idx 1 (.loc 25) (.loc 27)), none⟩,
 Qd 30 1 29,
 Qb 8 30])
 (.reg [Qa 31 6,
 Qa 32 8,
 ⟨.tmp 33, .h (.app 1 8 (.tmp 31) (.tmp 32)), none⟩,
 Qb 6 33])))
 (.reg [⟨.tmp 34, .r (.bin .add (.loc 27) (.cst (.int .i64 1))), none⟩,
 Qb 27 34]))))
def c_slices_Concat_int_int (f0 : FuncId) : AFn := ⟨36, fun s => List.contains [0, 2, 3, 5, 6, 8, 9, 10, 11, 12, 20, 25, 26, 27, 28] s, (.seq (.reg [Qw 2])
 (.seq (.reg [Qh 3 0])
 (.seq (.seq (.reg [⟨.loc 9, .r (.mov (.loc 0)), none⟩,
 ⟨.loc 10, .r (.len (.loc 9)), none⟩,
 Qh 11 0])
 (.block 0 (.loop (c_slices_Concat_int_int_l0 f0))))
 (.seq (.reg [Qa 23 3,
 ⟨.tmp 24, .call f0 [(.cst .nils), .tmp 23], none⟩,
 Qb 6 24])
 (.seq (.seq (.reg [⟨.loc 25, .r (.mov (.loc 0)), none⟩,
 ⟨.loc 26, .r (.len (.loc 25)), none⟩,
 Qh 27 0])
 (.block 2 (.loop (c_slices_Concat_int_int_l1 f0))))
 (.seq (.reg [Qa 35 6,
 Qb 2 35])
 .ret)))))), [(.tmp (.loc 2))]⟩
def c_slices_Compact_int_int_l0 : AC := (.seq (.seq (.reg [Qa 29 5,
 Qa 30 4,
 ⟨.tmp 31, .r (.len (.tmp 30)), none⟩,
 ⟨.loc 32, .r (.bin .lss (.tmp 29) (.tmp 31)), none⟩])
 (.cond (.loc 32) .skip
 (.exit 2)))
 (.seq (.block 3 (.seq (.dreg ⟨[0, 0, 3, 7, 0, 0, 32, 112, 240, 511], 0, [Zc 0 0 4,
 Zc 1 0 5,
 ⟨2, 0, false, .r (.idx 1 (.tmp 0) (.tmp 1)), none⟩,
 Qy 3 0 1 2,
 Zc 4 0 4,
 Zc 5 0 5,
 ⟨6, 0, false, .r (.bin .sub (.tmp 5) (.cst (.int .i64 1))), none⟩,
 ⟨7, 0, false, .r (.idx 1 (.tmp 4) (.tmp 6)), none⟩,
 Qy 8 0 1 7,
 ⟨9, 0, false, .r (.bin .neq (.tmp 3) (.tmp 8)), none⟩], [(44, 9)]⟩)
 (.cond (.loc 44) (.seq (.reg [Qa 45 0,
 Qa 46 3,
 Qa 47 4,
 Qa 48 5,
 ⟨.tmp 49, .r (.idx 1 (.tmp 47) (.tmp 48)), none⟩,
 Qd 50 1 49,
 ⟨.tmp 51, .r (.idx 1 (.tmp 45) (.tmp 46)), none⟩,
 Qm 1 51 50])
 (.reg [Qa 52 3,
 Qx 53 52 1,
 Qb 3 53]))
 .skip)))
 (.reg [Qa 33 5,
 Qx 34 33 1,
 Qb 5 34])))
def c_slices_Compact_int_int_l1 : AC := (.seq (.seq (.reg [Qa 10 3,
 Qa 11 0,
 ⟨.tmp 12, .r (.len (.tmp 11)), none⟩,
 ⟨.loc 13, .r (.bin .lss (.tmp 10) (.tmp 12)), none⟩])
 (.cond (.loc 13) .skip
 (.exit 0)))
 (.seq (.block 1 (.seq (.dreg ⟨[0, 0, 3, 7, 0, 0, 32, 112, 240, 511], 0, [Zc 0 0 0,
 Zc 1 0 3,
 ⟨2, 0, false, .r (.idx 1 (.tmp 0) (.tmp 1)), none⟩,
 Qy 3 0 1 2,
 Zc 4 0 0,
 Zc 5 0 3,
 ⟨6, 0, false, .r (.bin .sub (.tmp 5) (.cst (.int .i64 1))), none⟩,
 ⟨7, 0, false, .r (.idx 1 (.tmp 4) (.tmp 6)), none⟩,
 Qy 8 0 1 7,
 ⟨9, 0, false, .r (.bin .eql (.tmp 3) (.tmp 8)), none⟩], [(25, 9)]⟩)
 (.cond (.loc 25) (.seq (.reg [Qa 26 0,
 Qa 27 3,
 ⟨.tmp 28, .r (.slc 1 (.tmp 26) (some (.tmp 27)) none none), none⟩,
 Qb 4 28])
 (.seq (.seq (.reg [Qh 5 1])
 (.block 2 (.loop (c_slices_Compact_int_int_l0))))
 (.seq (.reg [Qa 54 0,
 Qa 55 3,
 ⟨.tmp 56, .r (.slc 1 (.tmp 54) (some (.tmp 55)) none none), none⟩,
 ⟨.none, .h (.clr 1 [(.int .i64 0)] (.tmp 56)), none⟩])
 (.seq (.reg [Qa 57 0,
 Qa 58 3,
 ⟨.tmp 59, .r (.slc 1 (.tmp 57) none (some (.tmp 58)) none), none⟩,
 Qb 2 59])
 .ret))))
 .skip)))
 (.reg [Qa 14 3,
 Qx 15 14 1,
 Qb 3 15])))
def c_slices_Compact_int_int : AFn := ⟨61, fun s => List.contains [0, 2, 3, 4, 5, 8, 13, 25, 32, 44] s, (.seq (.reg [Qw 2])
 (.seq (.seq (.reg [Qa 6 0,
 ⟨.tmp 7, .r (.len (.tmp 6)), none⟩,
 ⟨.loc 8, .r (.bin .lss (.tmp 7) (.cst (.int .i64 2))), none⟩])
 (.cond (.loc 8) (.seq (.reg [Qa 9 0,
 Qb 2 9])
 .ret)
 .skip))
 (.seq (.seq (.reg [Qh 3 1])
 (.block 0 (.loop (c_slices_Compact_int_int_l1))))
 (.seq (.reg [Qa 60 0,
 Qb 2 60])
 .ret)))), [(.tmp (.loc 2))]⟩
def c_slices_Grow_int_int : AFn := ⟨27, fun s => List.contains [0, 1, 4, 6, 16] s, (.seq (.reg [Qw 4])
 (.seq (.seq (.reg [Qa 5 1,
 ⟨.loc 6, .r (.bin .lss (.tmp 5) (.cst (.int .i64 0))), none⟩])
 (.cond (.loc 6) (.reg [⟨.tmp 7, .r (.x (.bad)), none⟩,
 ⟨.none, .r (.x (.bad)), none⟩])
 .skip))
 (.seq (.seq (.reg [Qa 8 1,
 Qa 9 0,
 ⟨.tmp 10, .r (.x (.cap (.tmp 9))), none⟩,
 Qa 11 0,
 ⟨.tmp 12, .r (.len (.tmp 11)), none⟩,
 ⟨.tmp 13, .r (.bin .sub (.tmp 10) (.tmp 12)), none⟩,
 ⟨.tmp 14, .r (.bin .sub (.tmp 8) (.tmp 13)), none⟩,
 Qb 1 14])
 (.seq (.reg [Qa 15 1,
 ⟨.loc 16, .r (.bin .gtr (.tmp 15) (.cst (.int .i64 0))), none⟩])
 (.cond (.loc 16) (.reg [Qa 17 0,
 Qa 18 0,
 ⟨.tmp 19, .r (.x (.cap (.tmp 18))), none⟩,
 ⟨.tmp 20, .r (.slc 1 (.tmp 17) none (some (.tmp 19)) none), none⟩,
 Qa 21 1,
 ⟨.tmp 22, .h (.appz 1 8 [(.int .i64 0)] (.tmp 20) (.tmp 21)), none⟩,
 Qa 23 0,
 ⟨.tmp 24, .r (.len (.tmp 23)), none⟩,
 ⟨.tmp 25, .r (.slc 1 (.tmp 22) none (some (.tmp 24)) none), none⟩,
 Qb 0 25])
 .skip)))
 (.seq (.reg [Qa 26 0,
 Qb 4 26])
 .ret)))), [(.tmp (.loc 4))]⟩
end Glb
