/-
  What functions of the program are, one by one (the functions that they call as parameters), in a form of which something can be shown.
-/
import Derived.Test.YtdeiamnhnfmilaaGreatGlbShort
import Derived.Test.YtdeiamnhnfmilaaGreatGlbLibB
set_option linter.unusedSimpArgs false
set_option linter.unusedVariables false
namespace Glb
open Go
set_option maxRecDepth 100000
def c_rlog_Append_l0 (f0 f1 f2 : FuncId) : AC := (.seq (.reg [⟨.loc 37, .r (.bin .lss (.loc 36) (.loc 35)), none⟩])
 (.seq (.cond (.loc 37) .skip
 (.exit 0))
 (.seq (.block 1 (.seq (.reg [Qa 38 36,
 Qb 10 38])
 (.seq (.reg [Qa 39 1,
 Qx 40 39 1,
 Qa 41 10,
 ⟨.tmp 42, .r (.bin .add (.tmp 40) (.tmp 41)), none⟩,
 Qb 11 42])
 (.seq (.seq (.reg [Qg 44 3 3,
 Qa 45 11,
 Qo 46 f2 44 45,
 Qc 43 46,
 Qi 47 43 0,
 Qi 48 43 1,
 Qb 12 47,
 Qb 13 48])
 (.seq (.reg [Qa 49 13,
 Qc 50 49,
 Qp 51 12 50 true,
 Qp 52 2 50 true,
 Qp 53 10 50 true,
 ⟨.tmp 54, .r (.idx 3 (.tmp 52) (.tmp 53)), some (.tmp 50, true)⟩,
 Qs 55 0 54 50 true,
 Qq 56 1 55 50 true,
 ⟨.tmp 57, .r (.bin .eql (.tmp 51) (.tmp 56)), some (.tmp 50, true)⟩,
 ⟨.loc 58, .r (.pick (.tmp 50) (.tmp 57) (.cst (.bool false))), none⟩])
 (.cond (.loc 58) (.exit 1)
 .skip)))
 (.seq (.reg [Qa 59 11,
 Qe 60 0 3,
 Qd 61 1 60,
 ⟨.tmp 62, .r (.bin .sub (.tmp 59) (.tmp 61)), none⟩,
 ⟨.tmp 63, .r (.bin .sub (.tmp 62) (.cst (.int .i64 1))), none⟩,
 Qb 14 63])
 (.seq (.dreg ⟨[0, 1, 0, 0, 15, 0, 0, 96, 224, 511, 1023, 2047], 0, [Qz 0 0 2 3,
 Qy 1 0 1 0,
 Zc 2 0 14,
 Zc 3 0 14,
 ⟨4, 0, false, .r (.slc 3 (.tmp 1) none (some (.tmp 2)) (some (.tmp 3))), none⟩,
 Zc 5 0 2,
 Zc 6 0 10,
 ⟨7, 0, false, .r (.slc 3 (.tmp 5) (some (.tmp 6)) none none), none⟩,
 Zg 8 0 f1 7,
 ⟨9, 0, true, .h (.app 3 40 (.tmp 4) (.tmp 8)), none⟩,
 Qz 10 0 2 3,
 Zf 11 0 1 10 9], []⟩)
 (.seq (.reg [Qg 75 3 3,
 Qa 76 11,
 Ql 3 6 75,
 Qb 7 76])
 .ret)))))))
 (.reg [⟨.tmp 77, .r (.bin .add (.loc 36) (.cst (.int .i64 1))), none⟩,
 Qb 36 77]))))
def c_rlog_Append (f0 f1 f2 : FuncId) : AFn := ⟨79, fun s => List.contains [0, 1, 2, 3, 6, 7, 8, 10, 11, 12, 13, 14, 32, 35, 36, 37, 58] s, (.seq (.reg [Qk 3 0,
 ⟨.loc 6, .h (.mk [(.int .i64 0), (.int .i64 0), .nils]), none⟩,
 Qh 7 0])
 (.seq (.reg [Qg 16 3 3,
 Qn 17 f0 16,
 Qc 15 17,
 Qi 18 15 0,
 Qi 19 15 1,
 Qb 8 18,
 Qc 9 19])
 (.seq (.reg [Qe 20 2 3,
 Qd 21 1 20,
 Qn 22 f1 21,
 Qe 23 2 3,
 Qm 1 23 22])
 (.seq (.seq (.reg [Qa 24 1,
 Qe 25 0 3,
 Qd 26 1 25,
 ⟨.tmp 27, .r (.bin .lss (.tmp 24) (.tmp 26)), none⟩,
 Qc 28 27,
 Qp 29 1 28 false,
 Qp 30 8 28 false,
 ⟨.tmp 31, .r (.bin .gtr (.tmp 29) (.tmp 30)), some (.tmp 28, false)⟩,
 ⟨.loc 32, .r (.pick (.tmp 28) (.cst (.bool true)) (.tmp 31)), none⟩])
 (.cond (.loc 32) (.seq (.reg [Qg 33 3 3,
 Ql 3 6 33,
 Qh 7 0])
 .ret)
 .skip))
 (.seq (.seq (.reg [Qa 34 2,
 ⟨.loc 35, .r (.len (.tmp 34)), none⟩,
 Qh 36 0])
 (.block 0 (.loop (c_rlog_Append_l0 f0 f1 f2))))
 (.seq (.reg [Qg 78 3 3,
 Ql 3 6 78,
 Qh 7 0])
 .ret)))))), [(.cell (.loc 6) true 3), (.tmp (.loc 7))]⟩
def c_rlog_Last : AFn := ⟨25, fun s => List.contains [0, 1, 2, 3, 4, 9] s, (.seq (.reg [Qk 1 0,
 Qh 2 0,
 Qh 3 0])
 (.seq (.seq (.reg [Qe 5 2 1,
 Qd 6 1 5,
 ⟨.tmp 7, .r (.len (.tmp 6)), none⟩,
 Qb 4 7])
 (.seq (.reg [Qa 8 4,
 ⟨.loc 9, .r (.bin .gtr (.tmp 8) (.cst (.int .i64 0))), none⟩])
 (.cond (.loc 9) (.seq (.dreg ⟨[0, 1, 0, 7, 0, 16, 0, 64, 240, 496, 1008, 15, 4095], 0, [Qz 0 0 0 1,
 Qy 1 0 1 0,
 Zc 2 0 4,
 ⟨3, 0, false, .r (.bin .add (.tmp 1) (.tmp 2)), none⟩,
 Qz 4 0 2 1,
 Qy 5 0 1 4,
 Zc 6 0 4,
 ⟨7, 0, false, .r (.bin .sub (.tmp 6) (.cst (.int .i64 1))), none⟩,
 ⟨8, 0, false, .r (.idx 3 (.tmp 5) (.tmp 7)), none⟩,
 Za 9 0 0 8,
 Qy 10 0 1 9,
 Zd 11 0 3,
 Zd 12 0 10], [(2, 11), (3, 12)]⟩)
 .ret)
 .skip)))
 (.seq (.dreg ⟨[0, 1, 0, 4, 3, 31], 0, [Qz 0 0 0 1,
 Qy 1 0 1 0,
 Qz 2 0 1 1,
 Qy 3 0 1 2,
 Zd 4 0 1,
 Zd 5 0 3], [(2, 4), (3, 5)]⟩)
 .ret))), [(.tmp (.loc 2)), (.tmp (.loc 3))]⟩
def c_rlog_Term (f0 : FuncId) : AFn := ⟨38, fun s => List.contains [0, 1, 2, 4, 5, 6, 13, 21] s, (.seq (.reg [Qk 2 0,
 Qh 4 0,
 Qv 5 false])
 (.seq (.reg [Qg 9 3 2,
 Qn 10 f0 9,
 Qc 8 10,
 Qi 11 8 0,
 Qi 12 8 1,
 Qb 6 11,
 Qc 7 12])
 (.seq (.block 0 (.seq (.seq (.reg [Qa 14 1,
 Qe 15 0 2,
 Qd 16 1 15,
 ⟨.tmp 17, .r (.bin .lss (.tmp 14) (.tmp 16)), none⟩,
 Qb 13 17])
 (.cond (.loc 13) .skip
 (.reg [Qa 18 1,
 Qa 19 6,
 ⟨.tmp 20, .r (.bin .gtr (.tmp 18) (.tmp 19)), none⟩,
 Qb 13 20])))
 (.cond (.loc 13) (.seq (.reg [Qh 4 0,
 Qv 5 false])
 .ret)
 (.seq (.reg [Qa 22 1,
 Qe 23 0 2,
 Qd 24 1 23,
 ⟨.tmp 25, .r (.bin .eql (.tmp 22) (.tmp 24)), none⟩,
 Qb 21 25])
 (.cond (.loc 21) (.seq (.reg [Qe 26 1 2,
 Qd 27 1 26,
 Qb 4 27,
 Qv 5 true])
 .ret)
 .skip)))))
 (.seq (.reg [Qe 28 2 2,
 Qd 29 1 28,
 Qa 30 1,
 Qe 31 0 2,
 Qd 32 1 31,
 ⟨.tmp 33, .r (.bin .sub (.tmp 30) (.tmp 32)), none⟩,
 ⟨.tmp 34, .r (.bin .sub (.tmp 33) (.cst (.int .i64 1))), none⟩,
 ⟨.tmp 35, .r (.idx 3 (.tmp 29) (.tmp 34)), none⟩,
 Qf 36 0 35,
 Qd 37 1 36,
 Qb 4 37,
 Qv 5 true])
 .ret)))), [(.tmp (.loc 4)), (.tmp (.loc 5))]⟩
def c_rlog_Cut (f0 f1 : FuncId) : AFn := ⟨28, fun s => List.contains [0, 1, 2, 4, 5, 6, 7, 15] s, (.seq (.reg [Qk 2 0,
 ⟨.loc 4, .h (.mk [(.int .i64 0), (.int .i64 0), .nils]), none⟩,
 Qh 5 0])
 (.seq (.reg [Qg 9 3 2,
 Qa 10 1,
 Qo 11 f0 9 10,
 Qc 8 11,
 Qi 12 8 0,
 Qi 13 8 1,
 Qb 6 12,
 Qb 7 13])
 (.seq (.seq (.reg [Qa 14 7,
 ⟨.loc 15, .r (.not (.tmp 14)), none⟩])
 (.cond (.loc 15) (.seq (.reg [⟨.tmp 16, .r (.build [(.int .i64 0), (.int .i64 0), .nils] []), none⟩,
 Ql 3 4 16,
 Qh 5 3])
 .ret)
 .skip))
 (.seq (.reg [Qa 17 1,
 Qa 18 6,
 Qe 19 2 2,
 Qd 20 1 19,
 Qa 21 1,
 Qe 22 0 2,
 Qd 23 1 22,
 ⟨.tmp 24, .r (.bin .sub (.tmp 21) (.tmp 23)), none⟩,
 ⟨.tmp 25, .r (.slc 3 (.tmp 20) (some (.tmp 24)) none none), none⟩,
 Qn 26 f1 25,
 ⟨.tmp 27, .r (.build [(.int .i64 0), (.int .i64 0), .nils] [(0, 1, .tmp 17), (1, 1, .tmp 18), (2, 1, .tmp 26)]), none⟩,
 Ql 3 4 27,
 Qh 5 0])
 .ret)))), [(.cell (.loc 4) true 3), (.tmp (.loc 5))]⟩
def c_rlog_Newer (f0 : FuncId) : AFn := ⟨23, fun s => List.contains [0, 1, 2, 3, 6, 7, 8, 16] s, (.seq (.reg [Qk 3 0,
 Qv 6 false])
 (.seq (.reg [Qg 10 3 3,
 Qn 11 f0 10,
 Qc 9 11,
 Qi 12 9 0,
 Qi 13 9 1,
 Qb 7 12,
 Qb 8 13])
 (.seq (.seq (.reg [Qa 14 2,
 Qa 15 8,
 ⟨.loc 16, .r (.bin .neq (.tmp 14) (.tmp 15)), none⟩])
 (.cond (.loc 16) (.seq (.reg [Qa 17 2,
 Qa 18 8,
 ⟨.tmp 19, .r (.bin .gtr (.tmp 17) (.tmp 18)), none⟩,
 Qb 6 19])
 .ret)
 .skip))
 (.seq (.reg [Qa 20 1,
 Qa 21 7,
 ⟨.tmp 22, .r (.bin .geq (.tmp 20) (.tmp 21)), none⟩,
 Qb 6 22])
 .ret)))), [(.tmp (.loc 6))]⟩
def c_rlog_Slice (f0 f1 : FuncId) : AFn := ⟨43, fun s => List.contains [0, 1, 2, 3, 6, 7, 9, 27] s, (.seq (.reg [Qk 3 0,
 Qw 6])
 (.seq (.reg [Qg 11 3 3,
 Qn 12 f0 11,
 Qc 10 12,
 Qi 13 10 0,
 Qi 14 10 1,
 Qb 7 13,
 Qc 8 14])
 (.seq (.seq (.reg [Qa 15 1,
 Qe 16 0 3,
 Qd 17 1 16,
 ⟨.tmp 18, .r (.bin .leq (.tmp 15) (.tmp 17)), none⟩,
 Qc 19 18,
 Qp 20 1 19 false,
 Qp 21 7 19 false,
 ⟨.tmp 22, .r (.bin .gtr (.tmp 20) (.tmp 21)), some (.tmp 19, false)⟩,
 Qt 23 19 22,
 Qc 24 23,
 Qp 25 2 24 false,
 ⟨.tmp 26, .r (.bin .lss (.tmp 25) (.cst (.int .i64 1))), some (.tmp 24, false)⟩,
 ⟨.loc 27, .r (.pick (.tmp 24) (.cst (.bool true)) (.tmp 26)), none⟩])
 (.cond (.loc 27) (.seq (.reg [Qw 6])
 .ret)
 .skip))
 (.seq (.reg [Qe 28 2 3,
 Qd 29 1 28,
 Qa 30 1,
 Qe 31 0 3,
 Qd 32 1 31,
 ⟨.tmp 33, .r (.bin .sub (.tmp 30) (.tmp 32)), none⟩,
 ⟨.tmp 34, .r (.bin .sub (.tmp 33) (.cst (.int .i64 1))), none⟩,
 ⟨.tmp 35, .r (.slc 3 (.tmp 29) (some (.tmp 34)) none none), none⟩,
 Qb 9 35])
 (.seq (.reg [Qa 36 9,
 Qa 37 2,
 Qa 38 9,
 ⟨.tmp 39, .r (.len (.tmp 38)), none⟩,
 ⟨.tmp 40, .r (.mnmx false [.tmp 37, .tmp 39]), none⟩,
 ⟨.tmp 41, .r (.slc 3 (.tmp 36) none (some (.tmp 40)) none), none⟩,
 Qn 42 f1 41,
 Qb 6 42])
 .ret))))), [(.tmp (.loc 6))]⟩
def c_rlog_fresh_l0 : AC := (.seq (.reg [⟨.loc 9, .r (.bin .lss (.loc 8) (.loc 7)), none⟩])
 (.seq (.cond (.loc 9) .skip
 (.exit 0))
 (.seq (.block 1 (.seq (.reg [⟨.tmp 10, .r (.idx 3 (.loc 6) (.loc 8)), none⟩,
 ⟨.tmp 11, .r (.load true 3 (.tmp 10)), none⟩,
 ⟨.loc 5, .h (.mk [(.int .i64 0), (.int .i64 0), .nils]), none⟩,
 Ql 3 5 11])
 (.seq (.reg [⟨.tmp 12, .h (.bsl 1 []), none⟩,
 Qe 13 2 5,
 Qd 14 1 13,
 ⟨.tmp 15, .h (.app 1 1 (.tmp 12) (.tmp 14)), none⟩,
 Qe 16 2 5,
 Qm 1 16 15])
 (.reg [Qa 17 3,
 Qg 18 3 5,
 ⟨.tmp 19, .h (.bsl 3 [.tmp 18]), none⟩,
 ⟨.tmp 20, .h (.app 3 40 (.tmp 17) (.tmp 19)), none⟩,
 Qb 3 20]))))
 (.reg [⟨.tmp 21, .r (.bin .add (.loc 8) (.cst (.int .i64 1))), none⟩,
 Qb 8 21]))))
def c_rlog_fresh : AFn := ⟨23, fun s => List.contains [0, 2, 3, 5, 6, 7, 8, 9] s, (.seq (.reg [Qw 2])
 (.seq (.reg [Qw 3])
 (.seq (.seq (.reg [⟨.loc 6, .r (.mov (.loc 0)), none⟩,
 ⟨.loc 7, .r (.len (.loc 6)), none⟩,
 Qh 8 0])
 (.block 0 (.loop (c_rlog_fresh_l0))))
 (.seq (.reg [Qa 22 3,
 Qb 2 22])
 .ret)))), [(.tmp (.loc 2))]⟩
end Glb
