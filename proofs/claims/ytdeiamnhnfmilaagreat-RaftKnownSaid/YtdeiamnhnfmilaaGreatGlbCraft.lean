/-
  What functions of the program are, one by one (the functions that they call as parameters), in a form of which something can be shown.
-/
import Derived.Test.YtdeiamnhnfmilaaGreatGlbShort
import Derived.Test.YtdeiamnhnfmilaaGreatGlbDef
set_option linter.unusedSimpArgs false
set_option linter.unusedVariables false
namespace Glb
open Go
set_option maxRecDepth 100000
def c_raft_New (f0 f1 : FuncId) : AFn := ⟨20, fun s => List.contains [0, 1, 2, 4, 6] s, (.seq (.reg [Qk 4 1,
 ⟨.loc 6, .r (.mov (.cst (.raw (.pointer none)))), none⟩])
 (.seq (.dreg ⟨[0, 0, 2, 0, 8, 24, 0, 64, 192, 0, 518, 2047, 4095, 8191], 1, [Zc 0 0 0,
 Ze 1 0 10 4,
 Qz 3 0 3 4,
 Za 4 0 0 3,
 Qy 5 0 1 4,
 Qz 6 0 3 4,
 Za 7 0 0 6,
 Qy 8 0 1 7,
 Zc 9 0 2,
 Zg 2 0 f0 1,
 Zg 10 0 f1 9,
 ⟨11, 0, false, .r (.build [(.int .i64 0), (.int .i64 0), (.int .i64 0), (.int .i64 0), (.int .i64 0), (.int .i64 0), .nils, .nils, .nils, .nils, .nils, (.int .i64 0), (.int .i64 0), (.int .i64 0), (.int .i64 0), (.int .i64 0), (.int .i64 0), .nils, .nils, (.int .i64 0), (.int .i64 0)] [(0, 1, .tmp 0), (1, 10, .tmp 2), (11, 1, .tmp 5), (12, 1, .tmp 8), (16, 1, .tmp 10)]), none⟩,
 ⟨12, 0, false, .h (.box (.tmp 11)), none⟩,
 Zd 13 1 12], [(6, 13)]⟩)
 .ret)), [(.tmp (.loc 6))]⟩
def d_raft_Raft_Tick (f0 f1 f2 f3 f4 f5 f6 : FuncId) : DFn := ⟨73, fun s => List.contains [0, 1, 4, 5, 13, 25, 69] s, (.seq (.reg [⟨.loc 4, .h (.mk [.nils, .nils, .nils, (.int .i64 0), (.bool false)]), none⟩])
 (.seq (.reg [Qa 6 0,
 ⟨.tmp 7, .call f0 [.tmp 6, .loc 4], none⟩,
 ⟨.loc 5, .h (.mk [(.raw (.pointer none)), (.raw (.pointer none))]), none⟩,
 Ql 2 5 7])
 (.defer [Qg 8 2 5] f1 [.tmp 8]
 (.seq (.seq (.reg [Qa 9 0,
 Qj 10 9,
 Qf 11 13 10,
 Qd 12 1 11,
 ⟨.loc 13, .r (.bin .eql (.tmp 12) (.cst (.int .i64 2))), none⟩])
 (.cond (.loc 13) (.seq (.reg [Qa 14 0,
 Qj 15 14,
 Qf 16 20 15,
 Qd 17 1 16,
 Qx 18 17 1,
 Qj 19 14,
 Qf 20 20 19,
 Qm 1 20 18])
 (.seq (.seq (.reg [Qa 21 0,
 Qj 22 21,
 Qf 23 20 22,
 Qd 24 1 23,
 ⟨.loc 25, .r (.bin .geq (.tmp 24) (.cst (.int .i64 2))), none⟩])
 (.cond (.loc 25) (.seq (.reg [Qa 26 0,
 Qj 27 26,
 Qf 28 20 27,
 ⟨.none, .h (.store 1 (.tmp 28) (.cst (.int .i64 0))), none⟩])
 (.reg [Qa 29 0,
 Qg 30 2 5,
 ⟨.tmp 31, .r (.x (.bclo f2 [.tmp 30] [])), none⟩,
 Qo 32 f3 29 31]))
 .skip))
 .ret))
 .skip))
 (.seq (.reg [Qa 33 0,
 Qj 34 33,
 Qf 35 15 34,
 Qd 36 1 35,
 Qx 37 36 1,
 Qj 38 33,
 Qf 39 15 38,
 Qm 1 39 37])
 (.seq (.seq (.dreg ⟨[0, 1, 3, 7, 0, 16, 48, 112, 255, 511, 1023, 1023, 3071, 7167, 15359, 32767, 65535, 131071, 262143, 524287, 1048575, 2097151, 4194303, 8388607, 16777215, 33554431, 67108863, 134217727, 268435455, 536870911], 0, [Zc 0 0 0,
 Zb 1 0 0,
 Za 2 0 15 1,
 Qy 3 0 1 2,
 Zc 4 0 0,
 Zb 5 0 4,
 Za 6 0 16 5,
 Qy 7 0 1 6,
 ⟨8, 0, false, .r (.bin .geq (.tmp 3) (.tmp 7)), none⟩,
 Zd 9 0 8,
 ⟨10, 0, false, .r (.mov (.loc 0)), some (.tmp 9, true)⟩,
 ⟨11, 0, false, .r (.mov (.loc 0)), some (.tmp 9, true)⟩,
 ⟨12, 0, false, .r (.chk (.tmp 11)), some (.tmp 9, true)⟩,
 ⟨13, 0, false, .r (.off 0 (.tmp 12)), some (.tmp 9, true)⟩,
 ⟨14, 0, false, .r (.load false 1 (.tmp 13)), some (.tmp 9, true)⟩,
 ⟨15, 0, true, .call f4 [.tmp 10, .tmp 14], some (.tmp 9, true)⟩,
 ⟨16, 0, false, .r (.pick (.tmp 9) (.tmp 15) (.cst (.bool false))), none⟩,
 Zd 17 0 16,
 ⟨18, 0, false, .r (.mov (.loc 0)), some (.tmp 17, true)⟩,
 ⟨19, 0, false, .r (.chk (.tmp 18)), some (.tmp 17, true)⟩,
 ⟨20, 0, false, .r (.off 1 (.tmp 19)), some (.tmp 17, true)⟩,
 ⟨21, 0, false, .r (.off 1 (.tmp 20)), some (.tmp 17, true)⟩,
 ⟨22, 0, false, .r (.load false 1 (.tmp 21)), some (.tmp 17, true)⟩,
 ⟨23, 0, false, .r (.bin .lss (.tmp 22) (.cst (.int .i64 1099511627776))), some (.tmp 17, true)⟩,
 ⟨24, 0, false, .r (.pick (.tmp 17) (.tmp 23) (.cst (.bool false))), none⟩,
 Zd 25 0 24,
 ⟨26, 0, false, .r (.mov (.loc 0)), some (.tmp 25, true)⟩,
 ⟨27, 0, true, .call f5 [.tmp 26], some (.tmp 25, true)⟩,
 ⟨28, 0, false, .r (.bin .lss (.tmp 27) (.cst (.int .i64 1099511627776))), some (.tmp 25, true)⟩,
 ⟨29, 0, false, .r (.pick (.tmp 25) (.tmp 28) (.cst (.bool false))), none⟩], [(69, 29)]⟩)
 (.cond (.loc 69) (.reg [Qg 70 2 5,
 Qa 71 1,
 Qo 72 f6 70 71])
 .skip))
 .ret)))))), [(.cell (.loc 4) true 5)]⟩
def c_raft_Raft_Propose (f0 f1 f2 f3 f4 f5 f6 f7 : FuncId) : AFn := ⟨63, fun s => List.contains [0, 1, 2, 6, 7, 8, 9, 11, 12, 13, 19, 26, 34, 42] s, (.seq (.reg [Qh 6 0,
 ⟨.loc 7, .h (.mk [.nils, .nils, .nils, (.int .i64 0), (.bool false)]), none⟩,
 Qh 8 0])
 (.seq (.reg [⟨.loc 9, .h (.mk [.nils, .nils, .nils, (.int .i64 0), (.bool false)]), none⟩])
 (.seq (.reg [Qa 15 2,
 Qn 16 f0 15,
 Qc 14 16,
 Qi 17 14 0,
 Qi 18 14 1,
 ⟨.tmp 10, .h (.mk [.nils, .nils, .nils]), none⟩,
 Qm 3 10 17,
 Qb 11 18])
 (.seq (.block 0 (.seq (.reg [Qa 20 0,
 Qj 21 20,
 Qf 22 13 21,
 Qd 23 1 22,
 ⟨.tmp 24, .r (.bin .neq (.tmp 23) (.cst (.int .i64 2))), none⟩,
 Qb 19 24])
 (.cond (.loc 19) (.seq (.dreg ⟨[0, 0, 3, 7], 0, [Ze 0 0 5 9,
 ⟨1, 0, false, .r (.mov (.cst (.int .i64 0))), none⟩,
 ⟨2, 0, true, .h (.store 5 (.loc 7) (.tmp 0)), none⟩,
 ⟨3, 0, false, .r (.mov (.cst (.int .i64 30))), none⟩], [(6, 1), (8, 3)]⟩)
 .ret)
 (.seq (.reg [Qa 27 1,
 ⟨.tmp 28, .r (.bin .neq (.tmp 27) (.cst (.int .i64 1))), none⟩,
 Qc 29 28,
 Qp 30 1 29 true,
 ⟨.tmp 31, .r (.bin .neq (.tmp 30) (.cst (.int .i64 2))), some (.tmp 29, true)⟩,
 Qu 32 29 31,
 Qb 26 32])
 (.cond (.loc 26) (.seq (.dreg ⟨[0, 0, 3, 7], 0, [Ze 0 0 5 9,
 ⟨1, 0, false, .r (.mov (.cst (.int .i64 0))), none⟩,
 ⟨2, 0, true, .h (.store 5 (.loc 7) (.tmp 0)), none⟩,
 ⟨3, 0, false, .r (.mov (.cst (.int .i64 13))), none⟩], [(6, 1), (8, 3)]⟩)
 .ret)
 (.seq (.reg [Qa 35 1,
 ⟨.tmp 36, .r (.bin .eql (.tmp 35) (.cst (.int .i64 2))), none⟩,
 Qc 37 36,
 Qp 38 11 37 true,
 ⟨.tmp 39, .r (.bin .neq (.tmp 38) (.cst (.int .i64 0))), some (.tmp 37, true)⟩,
 Qu 40 37 39,
 Qb 34 40])
 (.cond (.loc 34) (.seq (.dreg ⟨[0, 0, 3, 7], 0, [Ze 0 0 5 9,
 ⟨1, 0, false, .r (.mov (.cst (.int .i64 0))), none⟩,
 ⟨2, 0, true, .h (.store 5 (.loc 7) (.tmp 0)), none⟩,
 ⟨3, 0, false, .r (.mov (.cst (.int .i64 4))), none⟩], [(6, 1), (8, 3)]⟩)
 .ret)
 (.seq (.reg [Qa 43 0,
 Qn 44 f1 43,
 ⟨.tmp 45, .r (.bin .geq (.tmp 44) (.cst (.int .i64 1099511627776))), none⟩,
 Qb 42 45])
 (.cond (.loc 42) (.seq (.dreg ⟨[0, 0, 3, 7], 0, [Ze 0 0 5 9,
 ⟨1, 0, false, .r (.mov (.cst (.int .i64 0))), none⟩,
 ⟨2, 0, true, .h (.store 5 (.loc 7) (.tmp 0)), none⟩,
 ⟨3, 0, false, .r (.mov (.cst (.int .i64 17))), none⟩], [(6, 1), (8, 3)]⟩)
 .ret)
 .skip)))))))))
 (.seq (.reg [Qa 47 0,
 ⟨.tmp 48, .call f2 [.tmp 47, .loc 9], none⟩,
 ⟨.loc 12, .h (.mk [(.raw (.pointer none)), (.raw (.pointer none))]), none⟩,
 Ql 2 12 48])
 (.seq (.reg [Qg 49 2 12,
 Qa 50 1,
 Qa 51 2,
 ⟨.tmp 52, .call f3 [.tmp 49, .tmp 50, .tmp 51], none⟩,
 Qb 13 52])
 (.seq (.reg [Qa 53 0,
 Qg 54 2 12,
 ⟨.tmp 55, .r (.x (.bclo f4 [.tmp 54] [])), none⟩,
 Qo 56 f5 53 55])
 (.seq (.reg [Qg 57 2 12,
 Qn 58 f6 57])
 (.seq (.reg [Qg 59 2 12,
 Qn 60 f7 59])
 (.seq (.dreg ⟨[0, 0, 1, 7, 15], 0, [Zc 0 0 13,
 Ze 1 0 5 9,
 Zd 2 0 0,
 ⟨3, 0, true, .h (.store 5 (.loc 7) (.tmp 1)), none⟩,
 ⟨4, 0, false, .r (.mov (.cst (.int .i64 0))), none⟩], [(6, 2), (8, 4)]⟩)
 .ret)))))))))), [(.tmp (.loc 6)), (.cell (.loc 7) true 5), (.tmp (.loc 8))]⟩
def c_raft_Raft_Read (f0 f1 f2 f3 : FuncId) : AFn := ⟨56, fun s => List.contains [0, 2, 3, 4, 5, 6, 7, 12, 37] s, (.seq (.reg [Qh 2 0,
 ⟨.loc 3, .h (.mk [.nils, .nils, .nils, (.int .i64 0), (.bool false)]), none⟩,
 Qh 4 0])
 (.seq (.reg [⟨.loc 5, .h (.mk [.nils, .nils, .nils, (.int .i64 0), (.bool false)]), none⟩])
 (.seq (.seq (.reg [Qa 8 0,
 Qj 9 8,
 Qf 10 13 9,
 Qd 11 1 10,
 ⟨.loc 12, .r (.bin .neq (.tmp 11) (.cst (.int .i64 2))), none⟩])
 (.cond (.loc 12) (.seq (.dreg ⟨[0, 0, 3, 7], 0, [Ze 0 0 5 5,
 ⟨1, 0, false, .r (.mov (.cst (.int .i64 0))), none⟩,
 ⟨2, 0, true, .h (.store 5 (.loc 3) (.tmp 0)), none⟩,
 ⟨3, 0, false, .r (.mov (.cst (.int .i64 30))), none⟩], [(2, 1), (4, 3)]⟩)
 .ret)
 .skip))
 (.seq (.seq (.dreg ⟨[0, 1, 3, 7, 15, 0, 32, 96, 224, 511, 1023, 2047, 2047, 4095, 16383], 0, [Zc 0 0 0,
 Zb 1 0 0,
 Za 2 0 1 1,
 Za 3 0 3 2,
 ⟨4, 0, false, .r (.load true 3 (.tmp 3)), none⟩,
 Zc 5 0 0,
 Zb 6 0 5,
 Za 7 0 11 6,
 Qy 8 0 1 7,
 ⟨9, 0, true, .call f0 [.tmp 4, .tmp 8], none⟩,
 Zd 10 0 9,
 ⟨11, 0, false, .r (.ext (.tmp 10) 0), none⟩,
 ⟨12, 0, false, .r (.ext (.tmp 10) 1), none⟩,
 Zd 13 0 11,
 Zd 14 0 12], [(6, 13), (7, 14)]⟩)
 (.seq (.reg [Qa 27 7,
 ⟨.tmp 28, .r (.not (.tmp 27)), none⟩,
 Qc 29 28,
 Qp 30 6 29 false,
 Qp 31 0 29 false,
 ⟨.tmp 32, .r (.chk (.tmp 31)), some (.tmp 29, false)⟩,
 Qs 33 1 32 29 false,
 Qs 34 1 33 29 false,
 Qq 35 1 34 29 false,
 ⟨.tmp 36, .r (.bin .neq (.tmp 30) (.tmp 35)), some (.tmp 29, false)⟩,
 ⟨.loc 37, .r (.pick (.tmp 29) (.cst (.bool true)) (.tmp 36)), none⟩])
 (.cond (.loc 37) (.seq (.dreg ⟨[0, 0, 3, 7], 0, [Ze 0 0 5 5,
 ⟨1, 0, false, .r (.mov (.cst (.int .i64 0))), none⟩,
 ⟨2, 0, true, .h (.store 5 (.loc 3) (.tmp 0)), none⟩,
 ⟨3, 0, false, .r (.mov (.cst (.int .i64 11))), none⟩], [(2, 1), (4, 3)]⟩)
 .ret)
 .skip)))
 (.seq (.reg [Qa 39 0,
 Qj 40 39,
 Qf 41 19 40,
 Qd 42 1 41,
 Qx 43 42 1,
 Qj 44 39,
 Qf 45 19 44,
 Qm 1 45 43])
 (.seq (.reg [Qa 46 0,
 Qa 47 0,
 ⟨.tmp 48, .call f1 [.tmp 47, .loc 5], none⟩,
 ⟨.tmp 49, .r (.x (.bclo f2 [.tmp 48] [])), none⟩,
 Qo 50 f3 46 49])
 (.seq (.dreg ⟨[0, 1, 3, 7, 0, 15, 63, 127], 0, [Zc 0 0 0,
 Zb 1 0 0,
 Za 2 0 19 1,
 Qy 3 0 1 2,
 Ze 4 0 5 5,
 Zd 5 0 3,
 ⟨6, 0, true, .h (.store 5 (.loc 3) (.tmp 4)), none⟩,
 ⟨7, 0, false, .r (.mov (.cst (.int .i64 0))), none⟩], [(2, 5), (4, 7)]⟩)
 .ret))))))), [(.tmp (.loc 2)), (.cell (.loc 3) true 5), (.tmp (.loc 4))]⟩
def c_raft_Raft_Compact (f0 f1 f2 f3 f4 : FuncId) : AFn := ⟨73, fun s => List.contains [0, 1, 2, 6, 7, 8, 9, 10, 12, 14, 30] s, (.seq (.reg [⟨.loc 6, .h (.mk [.nils, .nils, .nils, (.int .i64 0), (.bool false)]), none⟩,
 Qh 7 0])
 (.seq (.reg [⟨.loc 8, .h (.mk [.nils, .nils, .nils, (.int .i64 0), (.bool false)]), none⟩])
 (.seq (.seq (.reg [Qa 15 1,
 Qa 16 0,
 Qj 17 16,
 Qf 18 1 17,
 Qf 19 3 18,
 Qf 20 0 19,
 Qd 21 1 20,
 ⟨.tmp 22, .r (.bin .leq (.tmp 15) (.tmp 21)), none⟩,
 Qc 23 22,
 Qp 24 1 23 false,
 Qp 25 0 23 false,
 ⟨.tmp 26, .r (.chk (.tmp 25)), some (.tmp 23, false)⟩,
 Qs 27 12 26 23 false,
 Qq 28 1 27 23 false,
 ⟨.tmp 29, .r (.bin .gtr (.tmp 24) (.tmp 28)), some (.tmp 23, false)⟩,
 ⟨.loc 30, .r (.pick (.tmp 23) (.cst (.bool true)) (.tmp 29)), none⟩])
 (.cond (.loc 30) (.seq (.reg [Qg 31 5 8,
 Ql 5 6 31,
 Qh 7 3])
 .ret)
 .skip))
 (.seq (.reg [Qa 32 0,
 Qj 33 32,
 Qf 34 1 33,
 ⟨.tmp 35, .r (.load true 10 (.tmp 34)), none⟩,
 ⟨.loc 9, .h (.mk [(.int .i64 0), (.int .i64 0), (.int .i64 0), (.int .i64 0), (.int .i64 0), .nils, .nils, .nils, .nils, .nils]), none⟩,
 Ql 10 9 35])
 (.seq (.reg [Qe 36 3 9,
 Qf 37 2 36,
 Qd 38 1 37,
 Qa 39 1,
 Qe 40 3 9,
 Qf 41 0 40,
 Qd 42 1 41,
 ⟨.tmp 43, .r (.bin .sub (.tmp 39) (.tmp 42)), none⟩,
 ⟨.tmp 44, .r (.slc 3 (.tmp 38) none (some (.tmp 43)) none), none⟩,
 Qe 45 3 9,
 Qf 46 2 45,
 Qm 1 46 44])
 (.seq (.reg [Qg 48 10 9,
 Qn 49 f0 48,
 Qc 47 49,
 Qi 50 47 0,
 Qi 51 47 1,
 ⟨.loc 10, .h (.mk [.nils, .nils, .nils]), none⟩,
 Ql 3 10 50,
 Qc 11 51])
 (.seq (.reg [Qa 53 0,
 Qj 54 53,
 Qf 55 1 54,
 Qf 56 3 55,
 ⟨.tmp 57, .r (.load true 3 (.tmp 56)), none⟩,
 Qa 58 1,
 Qo 59 f1 57 58,
 Qc 52 59,
 Qi 60 52 0,
 Qi 61 52 1,
 Qb 12 60,
 Qc 13 61])
 (.seq (.reg [Qa 62 0,
 ⟨.tmp 63, .call f2 [.tmp 62, .loc 8], none⟩,
 ⟨.loc 14, .h (.mk [(.raw (.pointer none)), (.raw (.pointer none))]), none⟩,
 Ql 2 14 63])
 (.seq (.reg [Qg 64 2 14,
 Qa 65 1,
 Qa 66 12,
 Qg 67 3 10,
 Qa 68 2,
 ⟨.tmp 69, .call f3 [.tmp 64, .tmp 65, .tmp 66, .tmp 67, .tmp 68], none⟩])
 (.seq (.reg [Qg 70 2 14,
 Qn 71 f4 70])
 (.seq (.reg [Qg 72 5 8,
 Ql 5 6 72,
 Qh 7 0])
 .ret))))))))))), [(.cell (.loc 6) true 5), (.tmp (.loc 7))]⟩
def c_raft_Raft_Hard (f0 : FuncId) : AFn := ⟨8, fun s => List.contains [0, 2] s, (.seq (.reg [⟨.loc 2, .h (.mk [(.int .i64 0), (.int .i64 0), (.int .i64 0), (.int .i64 0), (.int .i64 0), .nils, .nils, .nils, .nils, .nils]), none⟩])
 (.seq (.reg [Qa 3 0,
 Qj 4 3,
 Qf 5 1 4,
 ⟨.tmp 6, .r (.load true 10 (.tmp 5)), none⟩,
 Qn 7 f0 6,
 Ql 10 2 7])
 .ret)), [(.cell (.loc 2) true 10)]⟩
def c_raft_Raft_Safe (f0 f1 f2 f3 : FuncId) : AFn := ⟨35, fun s => List.contains [0, 1, 3, 4, 5, 22] s, (.seq (.reg [Qk 3 1,
 Qv 4 false])
 (.seq (.seq (.dreg ⟨[0, 1, 3, 7, 15, 31, 63, 127, 255, 511, 1023, 1023, 3071, 7167, 15359, 32767, 65535], 0, [Zc 0 0 0,
 Zb 1 0 0,
 Za 2 0 13 1,
 Qy 3 0 1 2,
 ⟨4, 0, false, .r (.bin .neq (.tmp 3) (.cst (.int .i64 2))), none⟩,
 Zd 5 0 4,
 ⟨6, 0, false, .r (.load false 1 (.loc 3)), some (.tmp 5, false)⟩,
 ⟨7, 0, false, .r (.bin .lss (.tmp 6) (.cst (.int .i64 1))), some (.tmp 5, false)⟩,
 ⟨8, 0, false, .r (.pick (.tmp 5) (.cst (.bool true)) (.tmp 7)), none⟩,
 Zd 9 0 8,
 ⟨10, 0, false, .r (.load false 1 (.loc 3)), some (.tmp 9, false)⟩,
 ⟨11, 0, false, .r (.mov (.loc 0)), some (.tmp 9, false)⟩,
 ⟨12, 0, false, .r (.chk (.tmp 11)), some (.tmp 9, false)⟩,
 ⟨13, 0, false, .r (.off 19 (.tmp 12)), some (.tmp 9, false)⟩,
 ⟨14, 0, false, .r (.load false 1 (.tmp 13)), some (.tmp 9, false)⟩,
 ⟨15, 0, false, .r (.bin .gtr (.tmp 10) (.tmp 14)), some (.tmp 9, false)⟩,
 ⟨16, 0, false, .r (.pick (.tmp 9) (.cst (.bool true)) (.tmp 15)), none⟩], [(22, 16)]⟩)
 (.cond (.loc 22) (.seq (.reg [Qv 4 false])
 .ret)
 .skip))
 (.seq (.reg [Qa 23 0,
 Qj 24 23,
 Qf 25 0 24,
 Qd 26 1 25,
 ⟨.tmp 27, .h (.bsl 1 [.tmp 26]), none⟩,
 ⟨.loc 5, .h (.mk [.nils]), none⟩,
 Ql 1 5 27])
 (.seq (.reg [Qa 28 0,
 ⟨.tmp 29, .r (.clo f0 [.loc 3, .loc 5]), none⟩,
 Qo 30 f1 28 29])
 (.seq (.dreg ⟨[0, 1, 0, 7, 15], 0, [Zc 0 0 0,
 ⟨2, 0, false, .r (.load false 1 (.loc 5)), none⟩,
 Zg 1 0 f2 0,
 ⟨3, 0, true, .call f3 [.tmp 1, .tmp 2], none⟩,
 Zd 4 0 3], [(4, 4)]⟩)
 .ret))))), [(.tmp (.loc 4))]⟩
def d_raft_Raft_Step (f0 f1 f2 f3 f4 f5 f6 f7 f8 f9 f10 : FuncId) : DFn := ⟨116, fun s => List.contains [0, 1, 3, 4, 5, 38, 46, 60, 62, 63, 70, 79, 84, 94, 101, 106, 111] s, (.seq (.reg [Qk 3 1,
 ⟨.loc 4, .h (.mk [.nils, .nils, .nils, (.int .i64 0), (.bool false)]), none⟩])
 (.seq (.reg [Qa 6 0,
 ⟨.tmp 7, .call f0 [.tmp 6, .loc 4], none⟩,
 ⟨.loc 5, .h (.mk [(.raw (.pointer none)), (.raw (.pointer none))]), none⟩,
 Ql 2 5 7])
 (.defer [Qg 8 2 5] f1 [.tmp 8]
 (.seq (.seq (.dreg ⟨[0, 1, 0, 4, 12, 28, 60, 127, 255, 511, 1023, 2047, 4095, 8191, 16383, 32767, 65535, 131071, 262143, 524287, 1048575, 2097151, 4194303, 8388607, 8388607, 25165823, 67108863, 134217727, 268435455, 536870911], 0, [Qz 0 0 3 3,
 Qy 1 0 1 0,
 Zc 2 0 0,
 Zb 3 0 2,
 Za 4 0 1 3,
 Za 5 0 0 4,
 Qy 6 0 1 5,
 ⟨7, 0, false, .r (.bin .neq (.tmp 1) (.tmp 6)), none⟩,
 Zd 8 0 7,
 ⟨9, 0, false, .r (.off 0 (.loc 3)), some (.tmp 8, false)⟩,
 ⟨10, 0, false, .r (.load false 1 (.tmp 9)), some (.tmp 8, false)⟩,
 ⟨11, 0, false, .r (.bin .lss (.tmp 10) (.cst (.int .i64 1))), some (.tmp 8, false)⟩,
 ⟨12, 0, false, .r (.pick (.tmp 8) (.cst (.bool true)) (.tmp 11)), none⟩,
 Zd 13 0 12,
 ⟨14, 0, false, .r (.off 0 (.loc 3)), some (.tmp 13, false)⟩,
 ⟨15, 0, false, .r (.load false 1 (.tmp 14)), some (.tmp 13, false)⟩,
 ⟨16, 0, false, .r (.bin .gtr (.tmp 15) (.cst (.int .i64 5))), some (.tmp 13, false)⟩,
 ⟨17, 0, false, .r (.pick (.tmp 13) (.cst (.bool true)) (.tmp 16)), none⟩,
 Zd 18 0 17,
 ⟨19, 0, false, .r (.off 0 (.loc 3)), some (.tmp 18, false)⟩,
 ⟨20, 0, false, .r (.load false 1 (.tmp 19)), some (.tmp 18, false)⟩,
 ⟨21, 0, false, .r (.bin .eql (.tmp 20) (.cst (.int .i64 1))), some (.tmp 18, false)⟩,
 ⟨22, 0, false, .r (.mov (.tmp 21)), some (.tmp 18, false)⟩,
 ⟨23, 0, false, .r (.mov (.loc 0)), some (.tmp 22, true)⟩,
 ⟨24, 0, false, .r (.off 1 (.loc 3)), some (.tmp 22, true)⟩,
 ⟨25, 0, false, .r (.load false 1 (.tmp 24)), some (.tmp 22, true)⟩,
 ⟨26, 0, true, .call f2 [.tmp 23, .tmp 25], some (.tmp 22, true)⟩,
 ⟨27, 0, false, .r (.not (.tmp 26)), some (.tmp 22, true)⟩,
 ⟨28, 0, false, .r (.pick (.tmp 22) (.tmp 27) (.cst (.bool false))), some (.tmp 18, false)⟩,
 ⟨29, 0, false, .r (.pick (.tmp 18) (.cst (.bool true)) (.tmp 28)), none⟩], [(38, 29)]⟩)
 (.cond (.loc 38) .ret
 .skip))
 (.seq (.seq (.dreg ⟨[0, 1, 0, 4, 12, 28, 60, 127], 0, [Qz 0 0 4 3,
 Qy 1 0 1 0,
 Zc 2 0 0,
 Zb 3 0 2,
 Za 4 0 1 3,
 Za 5 0 1 4,
 Qy 6 0 1 5,
 ⟨7, 0, false, .r (.bin .gtr (.tmp 1) (.tmp 6)), none⟩], [(46, 7)]⟩)
 (.cond (.loc 46) (.seq (.reg [Qg 47 2 5,
 Qe 48 4 3,
 Qd 49 1 48,
 ⟨.tmp 50, .call f3 [.tmp 47, .tmp 49, (.cst (.int .i64 0))], none⟩])
 (.reg [Qa 51 0,
 ⟨.tmp 52, .call f4 [.tmp 51, (.cst (.int .i64 0))], none⟩]))
 .skip))
 (.seq (.seq (.dreg ⟨[0, 1, 0, 4, 12, 28, 60, 127], 0, [Qz 0 0 4 3,
 Qy 1 0 1 0,
 Zc 2 0 0,
 Zb 3 0 2,
 Za 4 0 1 3,
 Za 5 0 1 4,
 Qy 6 0 1 5,
 ⟨7, 0, false, .r (.bin .lss (.tmp 1) (.tmp 6)), none⟩], [(60, 7)]⟩)
 (.cond (.loc 60) (.seq (.seq (.reg [Qe 61 0 3,
 ⟨.loc 62, .r (.load false 1 (.tmp 61)), none⟩])
 (.block 0 (.seq (.reg [⟨.tmp 64, .r (.bin .eql (.loc 62) (.cst (.int .i64 1))), none⟩,
 Qb 63 64])
 (.cond (.loc 63) (.reg [Qg 65 2 5,
 Qe 66 1 3,
 Qd 67 1 66,
 ⟨.tmp 68, .r (.build [(.int .i64 0), (.int .i64 0), (.int .i64 0), (.int .i64 0), (.int .i64 0), (.int .i64 0), (.int .i64 0), (.int .i64 0), (.int .i64 0), (.int .i64 0), (.int .i64 0), (.int .i64 0), (.int .i64 0), (.int .i64 0), (.bool false), .nils, .nils] [(0, 1, (.cst (.int .i64 2))), (2, 1, .tmp 67)]), none⟩,
 Qo 69 f5 65 68])
 (.seq (.seq (.reg [⟨.tmp 71, .r (.bin .eql (.loc 62) (.cst (.int .i64 3))), none⟩,
 Qb 70 71])
 (.cond (.loc 70) .skip
 (.reg [⟨.tmp 72, .r (.bin .eql (.loc 62) (.cst (.int .i64 5))), none⟩,
 Qb 70 72])))
 (.cond (.loc 70) (.reg [Qg 73 2 5,
 Qe 74 1 3,
 Qd 75 1 74,
 ⟨.tmp 76, .r (.build [(.int .i64 0), (.int .i64 0), (.int .i64 0), (.int .i64 0), (.int .i64 0), (.int .i64 0), (.int .i64 0), (.int .i64 0), (.int .i64 0), (.int .i64 0), (.int .i64 0), (.int .i64 0), (.int .i64 0), (.int .i64 0), (.bool false), .nils, .nils] [(0, 1, (.cst (.int .i64 4))), (2, 1, .tmp 75)]), none⟩,
 Qo 77 f5 73 76])
 .skip))))))
 .ret)
 .skip))
 (.seq (.seq (.reg [Qe 78 0 3,
 ⟨.loc 79, .r (.load false 1 (.tmp 78)), none⟩])
 (.block 1 (.seq (.reg [⟨.tmp 102, .r (.bin .eql (.loc 79) (.cst (.int .i64 1))), none⟩,
 Qb 101 102])
 (.cond (.loc 101) (.reg [Qg 103 2 5,
 Qg 104 17 3,
 Qo 105 f6 103 104])
 (.seq (.reg [⟨.tmp 107, .r (.bin .eql (.loc 79) (.cst (.int .i64 2))), none⟩,
 Qb 106 107])
 (.cond (.loc 106) (.reg [Qg 108 2 5,
 Qg 109 17 3,
 Qo 110 f7 108 109])
 (.seq (.reg [⟨.tmp 112, .r (.bin .eql (.loc 79) (.cst (.int .i64 4))), none⟩,
 Qb 111 112])
 (.cond (.loc 111) (.reg [Qg 113 2 5,
 Qg 114 17 3,
 Qo 115 f8 113 114])
 (.seq (.seq (.reg [Qa 80 0,
 Qj 81 80,
 Qf 82 13 81,
 Qd 83 1 82,
 ⟨.loc 84, .r (.bin .eql (.tmp 83) (.cst (.int .i64 2))), none⟩])
 (.cond (.loc 84) .ret
 .skip))
 (.seq (.reg [Qa 85 0,
 Qe 86 1 3,
 Qd 87 1 86,
 Qo 88 f4 85 87])
 (.seq (.reg [Qa 89 0,
 Qj 90 89,
 Qf 91 15 90,
 ⟨.none, .h (.store 1 (.tmp 91) (.cst (.int .i64 0))), none⟩])
 (.seq (.reg [Qe 92 0 3,
 Qd 93 1 92,
 ⟨.loc 94, .r (.bin .eql (.tmp 93) (.cst (.int .i64 3))), none⟩])
 (.cond (.loc 94) (.reg [Qg 95 2 5,
 Qg 96 17 3,
 Qo 97 f9 95 96])
 (.reg [Qg 98 2 5,
 Qg 99 17 3,
 Qo 100 f10 98 99]))))))))))))))
 .ret))))))), [(.cell (.loc 4) true 5)]⟩
def c_raft_Raft_Leader : AFn := ⟨7, fun s => List.contains [0, 2] s, (.seq (.reg [Qh 2 0])
 (.seq (.reg [Qa 3 0,
 Qj 4 3,
 Qf 5 14 4,
 Qd 6 1 5,
 Qb 2 6])
 .ret)), [(.tmp (.loc 2))]⟩
def c_raft_Raft_Role : AFn := ⟨7, fun s => List.contains [0, 2] s, (.seq (.reg [Qh 2 0])
 (.seq (.reg [Qa 3 0,
 Qj 4 3,
 Qf 5 13 4,
 Qd 6 1 5,
 Qb 2 6])
 .ret)), [(.tmp (.loc 2))]⟩
def c_raft_Raft_Commit : AFn := ⟨7, fun s => List.contains [0, 2] s, (.seq (.reg [Qh 2 0])
 (.seq (.reg [Qa 3 0,
 Qj 4 3,
 Qf 5 11 4,
 Qd 6 1 5,
 Qb 2 6])
 .ret)), [(.tmp (.loc 2))]⟩
def c_raft_fresh (f0 f1 f2 : FuncId) : AFn := ⟨25, fun s => List.contains [0, 1, 2] s, (.seq (.reg [Qk 1 0,
 ⟨.loc 2, .h (.mk [(.int .i64 0), (.int .i64 0), (.int .i64 0), (.int .i64 0), (.int .i64 0), .nils, .nils, .nils, .nils, .nils]), none⟩])
 (.seq (.reg [Qe 3 3 1,
 ⟨.tmp 4, .r (.load true 3 (.tmp 3)), none⟩,
 Qe 5 3 1,
 Qf 6 0 5,
 Qd 7 1 6,
 Qx 8 7 1,
 Qe 9 3 1,
 Qf 10 2 9,
 Qd 11 1 10,
 ⟨.tmp 12, .r (.len (.tmp 11)), none⟩,
 ⟨.tmp 13, .call f0 [.tmp 4, .tmp 8, .tmp 12], none⟩,
 Qe 14 3 1,
 Qf 15 2 14,
 Qm 1 15 13])
 (.seq (.reg [Qe 16 6 1,
 ⟨.tmp 17, .r (.load true 3 (.tmp 16)), none⟩,
 Qn 18 f1 17,
 Qe 19 6 1,
 Qm 3 19 18])
 (.seq (.reg [Qe 20 9 1,
 Qd 21 1 20,
 Qn 22 f2 21,
 Qe 23 9 1,
 Qm 1 23 22])
 (.seq (.reg [Qg 24 10 1,
 Ql 10 2 24])
 .ret))))), [(.cell (.loc 2) true 10)]⟩
def c_raft_Raft_begin : AFn := ⟨8, fun s => List.contains [0, 1, 4] s, (.seq (.reg [⟨.loc 4, .h (.mk [(.raw (.pointer none)), (.raw (.pointer none))]), none⟩])
 (.seq (.reg [Qa 5 0,
 Qa 6 1,
 ⟨.tmp 7, .r (.build [(.raw (.pointer none)), (.raw (.pointer none))] [(0, 1, .tmp 5), (1, 1, .tmp 6)]), none⟩,
 Ql 2 4 7])
 .ret)), [(.cell (.loc 4) true 2)]⟩
def c_raft_call_end (f0 f1 f2 f3 f4 : FuncId) : AFn := ⟨100, fun s => List.contains [0, 1, 2, 3, 38, 52] s, (.seq (.reg [Qk 1 0])
 (.seq (.reg [Qe 5 0 1,
 Qd 6 1 5,
 Qj 7 6,
 Qf 8 1 7,
 ⟨.tmp 9, .r (.load true 10 (.tmp 8)), none⟩,
 Qn 10 f0 9,
 Qc 4 10,
 Qi 11 4 0,
 Qi 12 4 1,
 ⟨.loc 2, .h (.mk [.nils, .nils, .nils]), none⟩,
 Ql 3 2 11,
 Qb 3 12])
 (.seq (.seq (.dreg ⟨[0, 1, 3, 7, 15, 31, 63, 127, 127, 383, 895, 1919, 3967, 8191, 16383, 32767, 65535, 131071, 65535, 327679, 851967, 1900543, 3997695, 8388607, 16777215, 33554431], 0, [Qz 0 0 0 1,
 Qy 1 0 1 0,
 Zb 2 0 1,
 Za 3 0 13 2,
 Qy 4 0 1 3,
 ⟨5, 0, false, .r (.bin .eql (.tmp 4) (.cst (.int .i64 2))), none⟩,
 Zd 6 0 5,
 ⟨7, 0, false, .r (.mov (.loc 3)), some (.tmp 6, true)⟩,
 ⟨8, 0, false, .r (.off 0 (.loc 1)), some (.tmp 6, true)⟩,
 ⟨9, 0, false, .r (.load false 1 (.tmp 8)), some (.tmp 6, true)⟩,
 ⟨10, 0, false, .r (.chk (.tmp 9)), some (.tmp 6, true)⟩,
 ⟨11, 0, false, .r (.off 11 (.tmp 10)), some (.tmp 6, true)⟩,
 ⟨12, 0, false, .r (.load false 1 (.tmp 11)), some (.tmp 6, true)⟩,
 ⟨13, 0, false, .r (.bin .leq (.tmp 7) (.tmp 12)), some (.tmp 6, true)⟩,
 ⟨14, 0, false, .r (.pick (.tmp 6) (.tmp 13) (.cst (.bool false))), none⟩,
 Zd 15 0 14,
 ⟨16, 0, false, .r (.load true 3 (.loc 2)), some (.tmp 15, true)⟩,
 ⟨18, 0, false, .r (.off 0 (.loc 1)), some (.tmp 15, true)⟩,
 ⟨19, 0, false, .r (.load false 1 (.tmp 18)), some (.tmp 15, true)⟩,
 ⟨20, 0, false, .r (.chk (.tmp 19)), some (.tmp 15, true)⟩,
 ⟨21, 0, false, .r (.off 0 (.tmp 20)), some (.tmp 15, true)⟩,
 ⟨22, 0, false, .r (.load false 1 (.tmp 21)), some (.tmp 15, true)⟩,
 ⟨17, 0, true, .call f1 [.tmp 16], some (.tmp 15, true)⟩,
 ⟨23, 0, true, .call f2 [.tmp 17, .tmp 22], some (.tmp 15, true)⟩,
 ⟨24, 0, false, .r (.not (.tmp 23)), some (.tmp 15, true)⟩,
 ⟨25, 0, false, .r (.pick (.tmp 15) (.tmp 24) (.cst (.bool false))), none⟩], [(38, 25)]⟩)
 (.cond (.loc 38) (.reg [Qe 39 0 1,
 Qd 40 1 39,
 ⟨.tmp 41, .call f3 [.tmp 40, (.cst (.int .i64 0))], none⟩])
 .skip))
 (.seq (.seq (.dreg ⟨[0, 1, 3, 7, 15, 0, 32, 96, 224, 480, 1023], 0, [Qz 0 0 0 1,
 Qy 1 0 1 0,
 Zb 2 0 1,
 Za 3 0 11 2,
 Qy 4 0 1 3,
 Qz 5 0 0 1,
 Qy 6 0 1 5,
 Zb 7 0 6,
 Za 8 0 12 7,
 Qy 9 0 1 8,
 ⟨10, 0, false, .r (.bin .leq (.tmp 4) (.tmp 9)), none⟩], [(52, 10)]⟩)
 (.cond (.loc 52) .ret
 .skip))
 (.seq (.dreg ⟨[0, 1, 0, 4, 12, 28, 60, 124, 255, 511, 1023], 0, [Qz 0 0 1 1,
 Qy 1 0 1 0,
 Qz 2 0 0 1,
 Qy 3 0 1 2,
 Zb 4 0 3,
 Za 5 0 12 4,
 Qy 6 0 1 5,
 ⟨7, 0, false, .r (.bin .add (.tmp 6) (.cst (.int .i64 1))), none⟩,
 Zb 8 0 1,
 Za 9 0 3 8,
 Zf 10 0 1 9 7], []⟩)
 (.seq (.dreg ⟨[0, 1, 0, 4, 12, 28, 60, 124, 0, 256, 768, 1792, 3840, 7936, 0, 16384, 49152, 114688, 245760, 0, 524288, 1572864, 3670016, 7864320, 16760832, 33554428, 67108863, 134217727, 268435455], 0, [Qz 0 0 1 1,
 Qy 1 0 1 0,
 Qz 2 0 0 1,
 Qy 3 0 1 2,
 Zb 4 0 3,
 Za 5 0 1 4,
 Za 6 0 3 5,
 ⟨7, 0, false, .r (.load true 3 (.tmp 6)), none⟩,
 Qz 8 0 0 1,
 Qy 9 0 1 8,
 Zb 10 0 9,
 Za 11 0 12 10,
 Qy 12 0 1 11,
 ⟨13, 0, false, .r (.bin .add (.tmp 12) (.cst (.int .i64 1))), none⟩,
 Qz 14 0 0 1,
 Qy 15 0 1 14,
 Zb 16 0 15,
 Za 17 0 11 16,
 Qy 18 0 1 17,
 Qz 19 0 0 1,
 Qy 20 0 1 19,
 Zb 21 0 20,
 Za 22 0 12 21,
 Qy 23 0 1 22,
 ⟨24, 0, false, .r (.bin .sub (.tmp 18) (.tmp 23)), none⟩,
 ⟨25, 0, true, .call f4 [.tmp 7, .tmp 13, .tmp 24], none⟩,
 Zb 26 0 1,
 Za 27 0 2 26,
 Zf 28 0 1 27 25], []⟩)
 (.dreg ⟨[0, 1, 0, 4, 12, 28, 60, 127, 255, 511], 0, [Qz 0 0 0 1,
 Qy 1 0 1 0,
 Qz 2 0 0 1,
 Qy 3 0 1 2,
 Zb 4 0 3,
 Za 5 0 11 4,
 Qy 6 0 1 5,
 Zb 7 0 1,
 Za 8 0 12 7,
 Zf 9 0 1 8 6], []⟩))))))), []⟩
def c_raft_Raft_each_l0 : AC := (.seq (.reg [⟨.loc 12, .r (.bin .lss (.loc 11) (.loc 10)), none⟩])
 (.seq (.cond (.loc 12) .skip
 (.exit 0))
 (.seq (.block 1 (.seq (.reg [⟨.tmp 13, .r (.idx 4 (.loc 9) (.loc 11)), none⟩,
 ⟨.tmp 14, .r (.load true 4 (.tmp 13)), none⟩,
 ⟨.loc 5, .h (.mk [(.int .i64 0), (.int .i64 0), (.int .i64 0), (.int .i64 0)]), none⟩,
 Ql 4 5 14])
 (.reg [Qa 15 1,
 Qg 16 4 5,
 ⟨(.tmp 17), (.callv (.tmp 15) [.tmp 16]), none⟩])))
 (.reg [⟨.tmp 18, .r (.bin .add (.loc 11) (.cst (.int .i64 1))), none⟩,
 Qb 11 18]))))
def c_raft_Raft_each : AFn := ⟨19, fun s => List.contains [0, 1, 5, 9, 10, 11, 12] s, (.seq (.reg [Qa 6 0,
 Qj 7 6,
 Qf 8 18 7,
 ⟨.loc 9, .r (.load false 1 (.tmp 8)), none⟩,
 ⟨.loc 10, .r (.len (.loc 9)), none⟩,
 Qh 11 0])
 (.block 0 (.loop (c_raft_Raft_each_l0)))), []⟩
def c_raft_call_to (f0 f1 : FuncId) : AFn := ⟨28, fun s => List.contains [0, 1, 2, 3] s, (.seq (.reg [Qk 2 0,
 Qk 3 1])
 (.dreg ⟨[0, 0, 0, 4, 12, 28, 60, 0, 128, 384, 896, 1920, 0, 4096, 12288, 28672, 61440, 0, 131072, 393216, 917504, 1966080, 4194302, 8388607], 0, [Ze 0 0 2 2,
 Ze 1 0 4 3,
 Qz 2 0 0 2,
 Qy 3 0 1 2,
 Zb 4 0 3,
 Za 5 0 0 4,
 Qy 6 0 1 5,
 Qz 7 0 0 2,
 Qy 8 0 1 7,
 Zb 9 0 8,
 Za 10 0 1 9,
 ⟨11, 0, false, .r (.load true 10 (.tmp 10)), none⟩,
 Qz 12 0 0 2,
 Qy 13 0 1 12,
 Zb 14 0 13,
 Za 15 0 11 14,
 Qy 16 0 1 15,
 Qz 17 0 0 2,
 Qy 18 0 1 17,
 Zb 19 0 18,
 Za 20 0 19 19,
 Qy 21 0 1 20,
 ⟨22, 0, true, .call f0 [.tmp 1, .tmp 6, .tmp 11, .tmp 16, .tmp 21], none⟩,
 ⟨23, 0, true, .call f1 [.tmp 0, .tmp 22], none⟩], []⟩)), []⟩
def c_raft_Raft_voter (f0 f1 f2 : FuncId) : AFn := ⟨10, fun s => List.contains [0, 1, 4] s, (.seq (.reg [Qv 4 false])
 (.seq (.reg [Qa 5 0,
 Qn 6 f0 5,
 Qn 7 f1 6,
 Qa 8 1,
 Qo 9 f2 7 8,
 Qb 4 9])
 .ret)), [(.tmp (.loc 4))]⟩
def c_raft_Raft_last (f0 : FuncId) : AFn := ⟨15, fun s => List.contains [0, 2, 3] s, (.seq (.reg [Qh 2 0])
 (.seq (.reg [Qa 6 0,
 Qj 7 6,
 Qf 8 1 7,
 Qf 9 3 8,
 ⟨.tmp 10, .r (.load true 3 (.tmp 9)), none⟩,
 Qn 11 f0 10,
 Qc 5 11,
 Qi 12 5 0,
 Qi 13 5 1,
 Qb 3 12,
 Qc 4 13])
 (.seq (.reg [Qa 14 3,
 Qb 2 14])
 .ret))), [(.tmp (.loc 2))]⟩
def c_raft_call_stand_l0 (f0 f1 f2 f3 f4 f5 f6 f7 : FuncId) : AC := (.seq (.reg [⟨.loc 87, .r (.bin .lss (.loc 86) (.loc 85)), none⟩])
 (.seq (.cond (.loc 87) .skip
 (.exit 0))
 (.seq (.block 1 (.seq (.reg [⟨.tmp 88, .r (.idx 17 (.loc 84) (.loc 86)), none⟩,
 ⟨.tmp 89, .r (.load true 17 (.tmp 88)), none⟩,
 ⟨.loc 5, .h (.mk [(.int .i64 0), (.int .i64 0), (.int .i64 0), (.int .i64 0), (.int .i64 0), (.int .i64 0), (.int .i64 0), (.int .i64 0), (.int .i64 0), (.int .i64 0), (.int .i64 0), (.int .i64 0), (.int .i64 0), (.int .i64 0), (.bool false), .nils, .nils]), none⟩,
 Ql 17 5 89])
 (.reg [Qg 90 2 2,
 Qg 91 17 5,
 Qo 92 f7 90 91])))
 (.reg [⟨.tmp 93, .r (.bin .add (.loc 86) (.cst (.int .i64 1))), none⟩,
 Qb 86 93]))))
def c_raft_call_stand (f0 f1 f2 f3 f4 f5 f6 f7 : FuncId) : AFn := ⟨94, fun s => List.contains [0, 1, 2, 5, 55, 84, 85, 86, 87] s, (.seq (.reg [Qk 2 0])
 (.seq (.dreg ⟨[0, 0, 2, 6, 14, 30, 62, 126, 0, 256, 768, 1792, 3840, 8191], 0, [Ze 0 0 2 2,
 Qz 1 0 0 2,
 Qy 2 0 1 1,
 Zb 3 0 2,
 Za 4 0 1 3,
 Za 5 0 1 4,
 Qy 6 0 1 5,
 ⟨7, 0, false, .r (.bin .add (.tmp 6) (.cst (.int .i64 1))), none⟩,
 Qz 8 0 0 2,
 Qy 9 0 1 8,
 Zb 10 0 9,
 Za 11 0 0 10,
 Qy 12 0 1 11,
 ⟨13, 0, true, .call f0 [.tmp 0, .tmp 7, .tmp 12], none⟩], []⟩)
 (.seq (.reg [Qe 20 0 2,
 Qd 21 1 20,
 ⟨.tmp 22, .call f1 [.tmp 21, (.cst (.int .i64 0))], none⟩])
 (.seq (.dreg ⟨[0, 1, 0, 4, 0, 16, 0, 64, 0, 256, 0, 1024, 3072, 7168, 15360, 31744, 32515, 98051, 229123, 491279, 1015567, 2064143, 4161343, 8355647, 16744255, 33554431, 67108863, 134217727], 1, [Qz 0 0 0 2,
 Qy 1 0 1 0,
 Qz 2 0 0 2,
 Qy 3 0 1 2,
 Qz 4 0 0 2,
 Qy 5 0 1 4,
 Qz 6 0 0 2,
 Qy 7 0 1 6,
 Zc 8 0 1,
 Qz 10 0 0 2,
 Qy 11 0 1 10,
 Zb 12 0 11,
 Za 13 0 0 12,
 Qy 14 0 1 13,
 ⟨15, 0, false, .h (.bsl 1 [.tmp 14]), none⟩,
 Zg 9 0 f2 8,
 Zb 16 1 1,
 Za 17 1 13 16,
 ⟨18, 1, true, .h (.store 1 (.tmp 17) (.cst (.int .i64 1))), none⟩,
 Zb 19 1 3,
 Za 20 1 15 19,
 ⟨21, 1, true, .h (.store 1 (.tmp 20) (.cst (.int .i64 0))), none⟩,
 Zb 22 1 5,
 Za 23 1 16 22,
 Zf 24 1 1 23 9,
 Zb 25 1 7,
 Za 26 1 17 25,
 Zf 27 1 1 26 15], []⟩)
 (.seq (.seq (.dreg ⟨[0, 1, 3, 0, 8, 24, 56, 120, 255], 0, [Qz 0 0 0 2,
 Qy 1 0 1 0,
 Qz 3 0 0 2,
 Qy 4 0 1 3,
 Zb 5 0 4,
 Za 6 0 17 5,
 Qy 7 0 1 6,
 Zg 2 0 f3 1,
 ⟨8, 0, true, .call f4 [.tmp 2, .tmp 7], none⟩], [(55, 8)]⟩)
 (.cond (.loc 55) (.seq (.reg [Qg 56 2 2,
 Qn 57 f5 56])
 .ret)
 .skip))
 (.seq (.dreg ⟨[0, 1, 3, 7, 15, 0, 32, 96, 224, 480, 992, 0, 2048, 6144, 14336, 30720, 63488, 0, 131072, 393216, 917504, 1966080, 4063232, 0, 8388608, 25165824, 67108863, 134217727, 0], 0, [Qz 0 0 0 2,
 Qy 1 0 1 0,
 Zb 2 0 1,
 Za 3 0 0 2,
 Qy 4 0 1 3,
 Qz 5 0 0 2,
 Qy 6 0 1 5,
 Zb 7 0 6,
 Za 8 0 1 7,
 Za 9 0 0 8,
 Qy 10 0 1 9,
 Qz 11 0 0 2,
 Qy 12 0 1 11,
 Zb 13 0 12,
 Za 14 0 1 13,
 Za 15 0 1 14,
 Qy 16 0 1 15,
 Qz 17 0 0 2,
 Qy 18 0 1 17,
 Zb 19 0 18,
 Za 20 0 1 19,
 Za 21 0 3 20,
 ⟨22, 0, false, .r (.load true 3 (.tmp 21)), none⟩,
 Qz 23 0 0 2,
 Qy 24 0 1 23,
 ⟨28, 0, false, .r (.mov (.cst (.int .i64 0))), none⟩,
 Zg 25 0 f3 24,
 ⟨26, 0, true, .call f6 [.tmp 4, .tmp 10, .tmp 16, .tmp 22, .tmp 25], none⟩,
 ⟨27, 0, false, .r (.len (.tmp 26)), none⟩], [(84, 26), (85, 27), (86, 28)]⟩)
 (.block 0 (.loop (c_raft_call_stand_l0 f0 f1 f2 f3 f4 f5 f6 f7))))))))), []⟩
def c_raft_call_lay (f0 f1 f2 f3 f4 : FuncId) : AFn := ⟨62, fun s => List.contains [0, 1, 2, 3, 6, 7, 8, 55] s, (.seq (.reg [Qk 3 0,
 Qh 6 0])
 (.seq (.reg [Qe 9 0 3,
 Qd 10 1 9,
 Qn 11 f0 10,
 Qb 7 11])
 (.seq (.reg [Qe 12 0 3,
 Qd 13 1 12,
 Qj 14 13,
 Qf 15 1 14,
 Qf 16 1 15,
 Qd 17 1 16,
 Qa 18 1,
 Qa 19 2,
 ⟨.tmp 20, .r (.build [(.int .i64 0), (.int .i64 0), .nils] [(0, 1, .tmp 17), (1, 1, .tmp 18), (2, 1, .tmp 19)]), none⟩,
 ⟨.tmp 21, .h (.bsl 3 [.tmp 20]), none⟩,
 Qb 8 21])
 (.seq (.dreg ⟨[0, 1, 0, 4, 12, 28, 60, 124, 0, 0, 1020, 2044, 4092, 4092, 8191, 24575, 57343, 122879], 0, [Qz 0 0 0 3,
 Qy 1 0 1 0,
 Qz 2 0 0 3,
 Qy 3 0 1 2,
 Zb 4 0 3,
 Za 5 0 1 4,
 Za 6 0 3 5,
 ⟨7, 0, false, .r (.load true 3 (.tmp 6)), none⟩,
 Zc 8 0 7,
 Zc 9 0 8,
 ⟨10, 0, true, .call f1 [.tmp 7, .tmp 8, .tmp 9], none⟩,
 Zd 11 0 10,
 ⟨12, 0, false, .r (.ext (.tmp 11) 0), none⟩,
 ⟨13, 0, false, .r (.ext (.tmp 11) 1), none⟩,
 Zb 14 0 1,
 Za 15 0 1 14,
 Za 16 0 3 15,
 Zf 17 0 3 16 12], []⟩)
 (.seq (.dreg ⟨[0, 0, 2, 0, 8, 24, 56, 120, 248, 0, 512, 2040, 4088, 8190, 16383], 0, [Ze 0 0 2 3,
 Zc 1 0 7,
 ⟨2, 0, false, .r (.bin .add (.tmp 1) (.cst (.int .i64 1))), none⟩,
 Qz 3 0 0 3,
 Qy 4 0 1 3,
 Zb 5 0 4,
 Za 6 0 1 5,
 Za 7 0 3 6,
 ⟨8, 0, false, .r (.load true 3 (.tmp 7)), none⟩,
 Zc 9 0 7,
 ⟨10, 0, false, .r (.bin .add (.tmp 9) (.cst (.int .i64 1))), none⟩,
 ⟨11, 0, true, .call f2 [.tmp 8, .tmp 10, (.cst (.int .i64 1))], none⟩,
 ⟨12, 0, false, .r (.build [(.int .i64 0), (.int .i64 0), .nils] [(2, 1, .tmp 11)]), none⟩,
 ⟨13, 0, false, .r (.build [(.int .i64 0), (.int .i64 0), (.int .i64 0), (.int .i64 0), (.int .i64 0), (.int .i64 0), (.int .i64 0), .nils, .nils, .nils, .nils, .nils, (.int .i64 0), (.int .i64 0), (.int .i64 0), (.int .i64 0), (.int .i64 0)] [(0, 1, (.cst (.int .i64 2))), (4, 1, .tmp 2), (5, 3, .tmp 12)]), none⟩,
 ⟨14, 0, true, .call f3 [.tmp 0, .tmp 13], none⟩], []⟩)
 (.seq (.seq (.reg [Qa 54 1,
 ⟨.loc 55, .r (.bin .eql (.tmp 54) (.cst (.int .i64 2))), none⟩])
 (.cond (.loc 55) (.reg [Qe 56 0 3,
 Qd 57 1 56,
 Qa 58 7,
 Qo 59 f4 57 58])
 .skip))
 (.seq (.reg [Qa 60 7,
 Qx 61 60 1,
 Qb 6 61])
 .ret))))))), [(.tmp (.loc 6))]⟩
def c_raft_call_settle (f0 f1 f2 f3 f4 f5 : FuncId) : AFn := ⟨63, fun s => List.contains [0, 1, 2, 3, 4, 5, 6, 57] s, (.seq (.reg [Qk 1 0])
 (.seq (.dreg ⟨[0, 1, 3, 7, 15, 31, 0, 64, 192, 448, 0, 0, 3583, 8191], 4, [Qz 0 0 0 1,
 Qy 1 0 1 0,
 Zb 2 0 1,
 Za 3 0 0 2,
 Qy 4 0 1 3,
 ⟨5, 0, false, .h (.bsl 1 [.tmp 4]), none⟩,
 Qz 6 1 0 1,
 Qy 7 1 1 6,
 ⟨10, 2, false, .h (.mk [.nils]), none⟩,
 ⟨11, 3, false, .h (.mk [.nils]), none⟩,
 Zg 8 1 f0 7,
 ⟨9, 1, false, .h (.bsl 1 [.tmp 8]), none⟩,
 Zf 12 4 1 10 5,
 Zf 13 4 1 11 9], [(2, 10), (3, 11)]⟩)
 (.seq (.reg [Qe 17 0 1,
 Qd 18 1 17,
 ⟨.tmp 19, .r (.clo f1 [.loc 2, .loc 3]), none⟩,
 Qo 20 f2 18 19])
 (.seq (.dreg ⟨[0, 1, 3, 0, 0, 31, 63], 0, [Qz 0 0 0 1,
 Qy 1 0 1 0,
 ⟨3, 0, false, .r (.load false 1 (.loc 2)), none⟩,
 ⟨4, 0, false, .r (.load false 1 (.loc 3)), none⟩,
 Zg 2 0 f3 1,
 ⟨5, 0, true, .call f4 [.tmp 2, .tmp 3, .tmp 4], none⟩,
 Zd 6 0 5], [(4, 6)]⟩)
 (.seq (.reg [Qe 28 0 1,
 Qd 29 1 28,
 Qj 30 29,
 Qf 31 1 30,
 Qf 32 3 31,
 ⟨.tmp 33, .r (.load true 3 (.tmp 32)), none⟩,
 Qa 34 4,
 Qo 35 f5 33 34,
 Qc 27 35,
 Qi 36 27 0,
 Qi 37 27 1,
 Qb 5 36,
 Qb 6 37])
 (.seq (.reg [Qa 38 4,
 Qe 39 0 1,
 Qd 40 1 39,
 Qj 41 40,
 Qf 42 11 41,
 Qd 43 1 42,
 ⟨.tmp 44, .r (.bin .gtr (.tmp 38) (.tmp 43)), none⟩,
 Qc 45 44,
 Qp 46 6 45 true,
 Qu 47 45 46,
 Qc 48 47,
 Qp 49 5 48 true,
 Qr 50 0 1 48 true,
 Qq 51 1 50 48 true,
 ⟨.tmp 52, .r (.chk (.tmp 51)), some (.tmp 48, true)⟩,
 Qs 53 1 52 48 true,
 Qs 54 1 53 48 true,
 Qq 55 1 54 48 true,
 ⟨.tmp 56, .r (.bin .eql (.tmp 49) (.tmp 55)), some (.tmp 48, true)⟩,
 ⟨.loc 57, .r (.pick (.tmp 48) (.tmp 56) (.cst (.bool false))), none⟩])
 (.cond (.loc 57) (.reg [Qe 58 0 1,
 Qd 59 1 58,
 Qa 60 4,
 Qj 61 59,
 Qf 62 11 61,
 Qm 1 62 60])
 .skip))))))), []⟩
def c_raft_call_base (f0 f1 f2 f3 f4 : FuncId) : AFn := ⟨77, fun s => List.contains [0, 1, 2, 3, 4, 5, 8, 10, 11, 28] s, (.seq (.reg [Qk 5 0,
 Qk 8 3])
 (.seq (.seq (.reg [Qe 13 0 5,
 Qd 14 1 13,
 Qj 15 14,
 Qf 16 1 15,
 Qf 17 3 16,
 ⟨.tmp 18, .r (.load true 3 (.tmp 17)), none⟩,
 Qa 19 1,
 Qo 20 f0 18 19,
 Qc 12 20,
 Qi 21 12 0,
 Qi 22 12 1,
 Qb 10 21,
 Qb 11 22])
 (.seq (.reg [Qa 23 11,
 Qc 24 23,
 Qp 25 10 24 true,
 Qp 26 2 24 true,
 ⟨.tmp 27, .r (.bin .eql (.tmp 25) (.tmp 26)), some (.tmp 24, true)⟩,
 ⟨.loc 28, .r (.pick (.tmp 24) (.tmp 27) (.cst (.bool false))), none⟩])
 (.cond (.loc 28) (.dreg ⟨[0, 1, 0, 4, 12, 28, 60, 124, 0, 508, 1020, 2044, 2044, 4095, 12287, 28671, 61439], 0, [Qz 0 0 0 5,
 Qy 1 0 1 0,
 Qz 2 0 0 5,
 Qy 3 0 1 2,
 Zb 4 0 3,
 Za 5 0 1 4,
 Za 6 0 3 5,
 ⟨7, 0, false, .r (.load true 3 (.tmp 6)), none⟩,
 Zc 8 0 1,
 ⟨9, 0, true, .call f1 [.tmp 7, .tmp 8], none⟩,
 Zd 10 0 9,
 ⟨11, 0, false, .r (.ext (.tmp 10) 0), none⟩,
 ⟨12, 0, false, .r (.ext (.tmp 10) 1), none⟩,
 Zb 13 0 1,
 Za 14 0 1 13,
 Za 15 0 3 14,
 Zf 16 0 3 15 11], []⟩)
 (.reg [Qe 45 0 5,
 Qd 46 1 45,
 Qa 47 1,
 Qa 48 2,
 ⟨.tmp 49, .r (.build [(.int .i64 0), (.int .i64 0), .nils] [(0, 1, .tmp 47), (1, 1, .tmp 48)]), none⟩,
 Qj 50 46,
 Qf 51 1 50,
 Qf 52 3 51,
 Qm 3 52 49]))))
 (.seq (.dreg ⟨[0, 1, 0, 4, 0, 16, 0, 112, 243, 499, 1011, 2035, 4095, 8191, 16383, 32767], 0, [Qz 0 0 0 5,
 Qy 1 0 1 0,
 Qz 2 0 0 5,
 Qy 3 0 1 2,
 Ze 4 0 3 8,
 Zc 6 0 4,
 Zg 5 0 f2 4,
 Zg 7 0 f3 6,
 Zb 8 0 1,
 Za 9 0 1 8,
 Za 10 0 6 9,
 Zf 11 0 3 10 5,
 Zb 12 0 3,
 Za 13 0 1 12,
 Za 14 0 9 13,
 Zf 15 0 1 14 7], []⟩)
 (.dreg ⟨[0, 0, 0, 6, 0, 16, 0, 112, 254, 511], 0, [Ze 0 0 2 5,
 Zc 1 0 1,
 Zc 2 0 2,
 ⟨3, 0, false, .r (.build [(.int .i64 0), (.int .i64 0), .nils] [(0, 1, .tmp 1), (1, 1, .tmp 2)]), none⟩,
 Ze 4 0 3 8,
 Zc 6 0 4,
 Zg 5 0 f2 4,
 Zg 7 0 f3 6,
 ⟨8, 0, false, .r (.build [(.int .i64 0), (.int .i64 0), (.int .i64 0), (.int .i64 0), (.int .i64 0), (.int .i64 0), (.int .i64 0), .nils, .nils, .nils, .nils, .nils, (.int .i64 0), (.int .i64 0), (.int .i64 0), (.int .i64 0), (.int .i64 0)] [(0, 1, (.cst (.int .i64 3))), (5, 3, .tmp 3), (8, 3, .tmp 5), (11, 1, .tmp 7)]), none⟩,
 ⟨9, 0, true, .call f4 [.tmp 0, .tmp 8], none⟩], []⟩)))), []⟩
def c_raft_Raft_Safe_f1 : AFn := ⟨13, fun s => List.contains [0, 1, 2, 3, 7] s, (.seq (.reg [Qk 3 0])
 (.seq (.reg [Qe 4 3 3,
 Qd 5 1 4,
 ⟨.tmp 6, .r (.load false 1 (.loc 1)), none⟩,
 ⟨.loc 7, .r (.bin .geq (.tmp 5) (.tmp 6)), none⟩])
 (.cond (.loc 7) (.reg [⟨.tmp 8, .r (.load false 1 (.loc 2)), none⟩,
 Qe 9 0 3,
 Qd 10 1 9,
 ⟨.tmp 11, .h (.bsl 1 [.tmp 10]), none⟩,
 ⟨.tmp 12, .h (.app 1 8 (.tmp 8) (.tmp 11)), none⟩,
 Ql 1 2 12])
 .skip))), []⟩
def c_raft_Raft_now (f0 : FuncId) : AFn := ⟨14, fun s => List.contains [0, 2, 3] s, (.seq (.reg [⟨.loc 2, .h (.mk [.nils, .nils, .nils]), none⟩])
 (.seq (.reg [Qa 6 0,
 Qj 7 6,
 Qf 8 1 7,
 ⟨.tmp 9, .r (.load true 10 (.tmp 8)), none⟩,
 Qn 10 f0 9,
 Qc 5 10,
 Qi 11 5 0,
 Qi 12 5 1,
 ⟨.loc 3, .h (.mk [.nils, .nils, .nils]), none⟩,
 Ql 3 3 11,
 Qc 4 12])
 (.seq (.reg [Qg 13 3 3,
 Ql 3 2 13])
 .ret))), [(.cell (.loc 2) true 3)]⟩
def c_raft_call_term (f0 : FuncId) : AFn := ⟨23, fun s => List.contains [0, 1, 2, 3] s, (.seq (.reg [Qk 3 0])
 (.seq (.dreg ⟨[0, 1, 0, 4, 0, 0, 19, 83, 211, 467, 1023, 2047, 4095, 8191], 0, [Qz 0 0 0 3,
 Qy 1 0 1 0,
 Qz 2 0 0 3,
 Qy 3 0 1 2,
 Zc 4 0 1,
 Zc 5 0 2,
 Zb 6 0 1,
 Za 7 0 1 6,
 Za 8 0 1 7,
 Zf 9 0 1 8 4,
 Zb 10 0 3,
 Za 11 0 1 10,
 Za 12 0 2 11,
 Zf 13 0 1 12 5], []⟩)
 (.reg [Qg 18 2 3,
 Qa 19 1,
 Qa 20 2,
 ⟨.tmp 21, .r (.build [(.int .i64 0), (.int .i64 0), (.int .i64 0), (.int .i64 0), (.int .i64 0), (.int .i64 0), (.int .i64 0), .nils, .nils, .nils, .nils, .nils, (.int .i64 0), (.int .i64 0), (.int .i64 0), (.int .i64 0), (.int .i64 0)] [(0, 1, (.cst (.int .i64 1))), (2, 1, .tmp 19), (3, 1, .tmp 20)]), none⟩,
 Qo 22 f0 18 21]))), []⟩
def c_raft_Raft_follow : AFn := ⟨17, fun s => List.contains [0, 1] s, (.reg [Qa 4 0,
 Qa 5 0,
 Qa 6 0,
 Qa 7 0,
 Qa 8 1,
 Qj 9 4,
 Qf 10 13 9,
 ⟨.none, .h (.store 1 (.tmp 10) (.cst (.int .i64 0))), none⟩,
 Qj 11 5,
 Qf 12 14 11,
 Qm 1 12 8,
 Qj 13 6,
 Qf 14 18 13,
 ⟨.none, .h (.store 1 (.tmp 14) (.cst .nils)), none⟩,
 Qj 15 7,
 Qf 16 17 15,
 ⟨.none, .h (.store 1 (.tmp 16) (.cst .nils)), none⟩]), []⟩
def c_raft_call_send : AFn := ⟨36, fun s => List.contains [0, 1, 2, 3] s, (.seq (.reg [Qk 2 0,
 Qk 3 1])
 (.seq (.dreg ⟨[0, 1, 3, 7, 15, 0, 32, 96, 224, 480, 992, 0, 2048, 6144, 14336, 30720, 63488, 31, 131103, 395263, 919551, 2097151, 4194303], 0, [Qz 0 0 0 2,
 Qy 1 0 1 0,
 Zb 2 0 1,
 Za 3 0 0 2,
 Qy 4 0 1 3,
 Qz 5 0 0 2,
 Qy 6 0 1 5,
 Zb 7 0 6,
 Za 8 0 1 7,
 Za 9 0 0 8,
 Qy 10 0 1 9,
 Qz 11 0 0 2,
 Qy 12 0 1 11,
 Zb 13 0 12,
 Za 14 0 1 13,
 Za 15 0 1 14,
 Qy 16 0 1 15,
 Qz 17 0 1 3,
 Zf 18 0 1 17 4,
 Qz 19 0 3 3,
 Zf 20 0 1 19 10,
 Qz 21 0 4 3,
 Zf 22 0 1 21 16], []⟩)
 (.dreg ⟨[0, 1, 0, 4, 12, 28, 60, 0, 128, 508, 1023, 2047, 4095], 1, [Qz 0 0 1 2,
 Qy 1 0 1 0,
 Qz 2 0 1 2,
 Qy 3 0 1 2,
 Zb 4 0 3,
 Za 5 0 0 4,
 Qy 6 0 1 5,
 Ze 7 0 17 3,
 ⟨8, 0, false, .h (.bsl 17 [.tmp 7]), none⟩,
 ⟨9, 1, true, .h (.app 17 168 (.tmp 6) (.tmp 8)), none⟩,
 Zb 10 1 1,
 Za 11 1 0 10,
 Zf 12 1 1 11 9], []⟩))), []⟩
def c_raft_call_asked (f0 f1 f2 : FuncId) : AFn := ⟨55, fun s => List.contains [0, 1, 2, 3, 4, 25, 38] s, (.seq (.reg [Qk 2 0,
 Qk 3 1])
 (.seq (.dreg ⟨[0, 1, 3, 7, 15, 31, 0, 64, 192, 448, 960, 1984, 0, 4096, 12288, 28672, 61440, 126976, 0, 524287, 1048575], 0, [Qz 0 0 0 2,
 Qy 1 0 1 0,
 Zb 2 0 1,
 Za 3 0 1 2,
 Za 4 0 1 3,
 Qy 5 0 1 4,
 Qz 6 0 0 2,
 Qy 7 0 1 6,
 Zb 8 0 7,
 Za 9 0 1 8,
 Za 10 0 2 9,
 Qy 11 0 1 10,
 Qz 12 0 0 2,
 Qy 13 0 1 12,
 Zb 14 0 13,
 Za 15 0 1 14,
 Za 16 0 3 15,
 ⟨17, 0, false, .r (.load true 3 (.tmp 16)), none⟩,
 Ze 18 0 17 3,
 ⟨19, 0, true, .call f0 [.tmp 5, .tmp 11, .tmp 17, .tmp 18], none⟩,
 Zd 20 0 19], [(4, 20)]⟩)
 (.seq (.seq (.reg [⟨.loc 25, .r (.mov (.loc 4)), none⟩])
 (.cond (.loc 25) (.seq (.reg [Qe 26 0 2,
 Qd 27 1 26,
 Qj 28 27,
 Qf 29 15 28,
 ⟨.none, .h (.store 1 (.tmp 29) (.cst (.int .i64 0))), none⟩])
 (.seq (.dreg ⟨[0, 1, 3, 7, 15, 31, 0, 64, 255], 0, [Qz 0 0 0 2,
 Qy 1 0 1 0,
 Zb 2 0 1,
 Za 3 0 1 2,
 Za 4 0 2 3,
 Qy 5 0 1 4,
 Qz 6 0 1 3,
 Qy 7 0 1 6,
 ⟨8, 0, false, .r (.bin .neq (.tmp 5) (.tmp 7)), none⟩], [(38, 8)]⟩)
 (.cond (.loc 38) (.dreg ⟨[0, 0, 2, 6, 14, 30, 62, 0, 128, 511], 0, [Ze 0 0 2 2,
 Qz 1 0 0 2,
 Qy 2 0 1 1,
 Zb 3 0 2,
 Za 4 0 1 3,
 Za 5 0 1 4,
 Qy 6 0 1 5,
 Qz 7 0 1 3,
 Qy 8 0 1 7,
 ⟨9, 0, true, .call f1 [.tmp 0, .tmp 6, .tmp 8], none⟩], []⟩)
 .skip)))
 .skip))
 (.reg [Qg 49 2 2,
 Qe 50 1 3,
 Qd 51 1 50,
 Qa 52 4,
 ⟨.tmp 53, .r (.build [(.int .i64 0), (.int .i64 0), (.int .i64 0), (.int .i64 0), (.int .i64 0), (.int .i64 0), (.int .i64 0), (.int .i64 0), (.int .i64 0), (.int .i64 0), (.int .i64 0), (.int .i64 0), (.int .i64 0), (.int .i64 0), (.bool false), .nils, .nils] [(0, 1, (.cst (.int .i64 2))), (2, 1, .tmp 51), (14, 1, .tmp 52)]), none⟩,
 Qo 54 f2 49 53])))), []⟩
def c_raft_call_voted (f0 f1 f2 f3 f4 : FuncId) : AFn := ⟨57, fun s => List.contains [0, 1, 2, 3, 32, 54] s, (.seq (.reg [Qk 2 0,
 Qk 3 1])
 (.seq (.seq (.dreg ⟨[0, 1, 3, 7, 15, 31, 63, 127, 255, 511, 1023, 2047, 4095, 8191, 16383, 32767, 65535, 4095, 135167, 524287, 1048575, 2097151, 4194303, 8388607, 4194303, 20971519, 67108863, 134217727, 268435455], 0, [Qz 0 0 0 2,
 Qy 1 0 1 0,
 Zb 2 0 1,
 Za 3 0 13 2,
 Qy 4 0 1 3,
 ⟨5, 0, false, .r (.bin .neq (.tmp 4) (.cst (.int .i64 1))), none⟩,
 Zd 6 0 5,
 ⟨7, 0, false, .r (.off 14 (.loc 3)), some (.tmp 6, false)⟩,
 ⟨8, 0, false, .r (.load false 1 (.tmp 7)), some (.tmp 6, false)⟩,
 ⟨9, 0, false, .r (.not (.tmp 8)), some (.tmp 6, false)⟩,
 ⟨10, 0, false, .r (.pick (.tmp 6) (.cst (.bool true)) (.tmp 9)), none⟩,
 Zd 11 0 10,
 ⟨12, 0, false, .r (.off 0 (.loc 2)), some (.tmp 11, false)⟩,
 ⟨13, 0, false, .r (.load false 1 (.tmp 12)), some (.tmp 11, false)⟩,
 ⟨14, 0, false, .r (.chk (.tmp 13)), some (.tmp 11, false)⟩,
 ⟨15, 0, false, .r (.off 17 (.tmp 14)), some (.tmp 11, false)⟩,
 ⟨16, 0, false, .r (.load false 1 (.tmp 15)), some (.tmp 11, false)⟩,
 ⟨17, 0, false, .r (.off 1 (.loc 3)), some (.tmp 11, false)⟩,
 ⟨18, 0, false, .r (.load false 1 (.tmp 17)), some (.tmp 11, false)⟩,
 ⟨19, 0, true, .call f0 [.tmp 16, .tmp 18], some (.tmp 11, false)⟩,
 ⟨20, 0, false, .r (.pick (.tmp 11) (.cst (.bool true)) (.tmp 19)), none⟩,
 Zd 21 0 20,
 ⟨22, 0, false, .r (.off 0 (.loc 2)), some (.tmp 21, false)⟩,
 ⟨23, 0, false, .r (.load false 1 (.tmp 22)), some (.tmp 21, false)⟩,
 ⟨24, 0, false, .r (.off 1 (.loc 3)), some (.tmp 21, false)⟩,
 ⟨25, 0, false, .r (.load false 1 (.tmp 24)), some (.tmp 21, false)⟩,
 ⟨26, 0, true, .call f1 [.tmp 23, .tmp 25], some (.tmp 21, false)⟩,
 ⟨27, 0, false, .r (.not (.tmp 26)), some (.tmp 21, false)⟩,
 ⟨28, 0, false, .r (.pick (.tmp 21) (.cst (.bool true)) (.tmp 27)), none⟩], [(32, 28)]⟩)
 (.cond (.loc 32) .ret
 .skip))
 (.seq (.dreg ⟨[0, 1, 0, 4, 12, 28, 60, 0, 128, 384, 1020, 2047, 4095, 8191], 1, [Qz 0 0 0 2,
 Qy 1 0 1 0,
 Qz 2 0 0 2,
 Qy 3 0 1 2,
 Zb 4 0 3,
 Za 5 0 17 4,
 Qy 6 0 1 5,
 Qz 7 0 1 3,
 Qy 8 0 1 7,
 ⟨9, 0, false, .h (.bsl 1 [.tmp 8]), none⟩,
 ⟨10, 1, true, .h (.app 1 8 (.tmp 6) (.tmp 9)), none⟩,
 Zb 11 1 1,
 Za 12 1 17 11,
 Zf 13 1 1 12 10], []⟩)
 (.seq (.dreg ⟨[0, 1, 3, 0, 8, 24, 56, 120, 255], 0, [Qz 0 0 0 2,
 Qy 1 0 1 0,
 Qz 3 0 0 2,
 Qy 4 0 1 3,
 Zb 5 0 4,
 Za 6 0 17 5,
 Qy 7 0 1 6,
 Zg 2 0 f2 1,
 ⟨8, 0, true, .call f3 [.tmp 2, .tmp 7], none⟩], [(54, 8)]⟩)
 (.cond (.loc 54) (.reg [Qg 55 2 2,
 Qn 56 f4 55])
 .skip))))), []⟩
def c_raft_call_heard (f0 f1 f2 f3 f4 f5 : FuncId) : AFn := ⟨59, fun s => List.contains [0, 1, 2, 3, 4, 5, 22, 42, 55] s, (.seq (.reg [Qk 2 0,
 Qk 3 1])
 (.seq (.reg [Qe 6 0 2,
 Qd 7 1 6,
 Qj 8 7,
 Qf 9 18 8,
 Qd 10 1 9,
 ⟨.tmp 11, .r (.clo f0 [.loc 3]), none⟩,
 Qo 12 f1 10 11,
 Qb 4 12])
 (.seq (.seq (.reg [Qe 13 0 2,
 Qd 14 1 13,
 Qj 15 14,
 Qf 16 13 15,
 Qd 17 1 16,
 ⟨.tmp 18, .r (.bin .neq (.tmp 17) (.cst (.int .i64 2))), none⟩,
 Qc 19 18,
 Qp 20 4 19 false,
 ⟨.tmp 21, .r (.bin .lss (.tmp 20) (.cst (.int .i64 0))), some (.tmp 19, false)⟩,
 ⟨.loc 22, .r (.pick (.tmp 19) (.cst (.bool true)) (.tmp 21)), none⟩])
 (.cond (.loc 22) .ret
 .skip))
 (.seq (.dreg ⟨[0, 1, 3, 7, 15, 0, 63, 127, 0, 511, 0, 2047], 1, [Qz 0 0 0 2,
 Qy 1 0 1 0,
 Zb 2 0 1,
 Za 3 0 18 2,
 Qy 4 0 1 3,
 Zc 5 0 4,
 ⟨6, 0, false, .r (.idx 4 (.tmp 4) (.tmp 5)), none⟩,
 ⟨7, 0, false, .r (.load true 4 (.tmp 6)), none⟩,
 Ze 8 0 17 3,
 ⟨10, 0, false, .h (.mk [(.int .i64 0), (.int .i64 0), (.int .i64 0), (.int .i64 0)]), none⟩,
 ⟨9, 0, true, .call f2 [.tmp 7, .tmp 8], none⟩,
 Zf 11 1 4 10 9], [(5, 10)]⟩)
 (.seq (.dreg ⟨[0, 1, 3, 7, 15, 0, 0, 127, 255], 0, [Qz 0 0 0 2,
 Qy 1 0 1 0,
 Zb 2 0 1,
 Za 3 0 18 2,
 Qy 4 0 1 3,
 Zc 5 0 4,
 Ze 6 0 4 5,
 ⟨7, 0, false, .r (.idx 4 (.tmp 4) (.tmp 5)), none⟩,
 Zf 8 0 4 7 6], []⟩)
 (.seq (.seq (.reg [Qe 41 14 3,
 ⟨.loc 42, .r (.load false 1 (.tmp 41)), none⟩])
 (.cond (.loc 42) (.reg [Qg 43 2 2,
 Qn 44 f3 43])
 .skip))
 (.seq (.dreg ⟨[0, 1, 3, 7, 15, 31, 15, 79, 207, 511, 1023], 0, [Qz 0 0 14 3,
 Qy 1 0 1 0,
 ⟨2, 0, false, .r (.not (.tmp 1)), none⟩,
 Zd 3 0 2,
 ⟨4, 0, false, .r (.off 1 (.loc 5)), some (.tmp 3, false)⟩,
 ⟨5, 0, false, .r (.load false 1 (.tmp 4)), some (.tmp 3, false)⟩,
 ⟨6, 0, false, .r (.off 0 (.loc 2)), some (.tmp 3, false)⟩,
 ⟨7, 0, false, .r (.load false 1 (.tmp 6)), some (.tmp 3, false)⟩,
 ⟨8, 0, true, .call f4 [.tmp 7], some (.tmp 3, false)⟩,
 ⟨9, 0, false, .r (.bin .leq (.tmp 5) (.tmp 8)), some (.tmp 3, false)⟩,
 ⟨10, 0, false, .r (.pick (.tmp 3) (.cst (.bool true)) (.tmp 9)), none⟩], [(55, 10)]⟩)
 (.cond (.loc 55) (.reg [Qg 56 2 2,
 Qg 57 4 5,
 Qo 58 f5 56 57])
 .skip)))))))), []⟩
def c_raft_call_append (f0 f1 f2 f3 f4 f5 : FuncId) : AFn := ⟨122, fun s => List.contains [0, 1, 2, 3, 4, 5, 6, 7, 8, 18, 46, 73, 80] s, (.seq (.reg [Qk 2 0,
 Qk 3 1])
 (.seq (.seq (.dreg ⟨[0, 1, 0, 4, 12, 28, 60, 124, 252, 511], 0, [Qz 0 0 5 3,
 Qy 1 0 1 0,
 Qz 2 0 0 2,
 Qy 3 0 1 2,
 Zb 4 0 3,
 Za 5 0 1 4,
 Za 6 0 3 5,
 Za 7 0 0 6,
 Qy 8 0 1 7,
 ⟨9, 0, false, .r (.bin .lss (.tmp 1) (.tmp 8)), none⟩], [(18, 9)]⟩)
 (.cond (.loc 18) (.seq (.dreg ⟨[0, 0, 0, 4, 12, 28, 60, 127], 0, [Ze 0 0 2 2,
 Ze 1 0 17 3,
 Qz 2 0 0 2,
 Qy 3 0 1 2,
 Zb 4 0 3,
 Za 5 0 11 4,
 Qy 6 0 1 5,
 ⟨7, 0, true, .call f0 [.tmp 0, .tmp 1, (.cst (.bool true)), .tmp 6], none⟩], []⟩)
 .ret)
 .skip))
 (.seq (.seq (.dreg ⟨[0, 1, 3, 7, 15, 31, 0, 64, 255, 511, 1023, 1023, 2047, 8191], 0, [Qz 0 0 0 2,
 Qy 1 0 1 0,
 Zb 2 0 1,
 Za 3 0 1 2,
 Za 4 0 3 3,
 ⟨5, 0, false, .r (.load true 3 (.tmp 4)), none⟩,
 Qz 6 0 5 3,
 Qy 7 0 1 6,
 ⟨8, 0, true, .call f1 [.tmp 5, .tmp 7], none⟩,
 Zd 9 0 8,
 ⟨10, 0, false, .r (.ext (.tmp 9) 0), none⟩,
 ⟨11, 0, false, .r (.ext (.tmp 9) 1), none⟩,
 Zd 12 0 10,
 Zd 13 0 11], [(4, 12), (5, 13)]⟩)
 (.seq (.reg [Qa 39 5,
 ⟨.tmp 40, .r (.not (.tmp 39)), none⟩,
 Qc 41 40,
 Qp 42 4 41 false,
 Qr 43 6 3 41 false,
 Qq 44 1 43 41 false,
 ⟨.tmp 45, .r (.bin .neq (.tmp 42) (.tmp 44)), some (.tmp 41, false)⟩,
 ⟨.loc 46, .r (.pick (.tmp 41) (.cst (.bool true)) (.tmp 45)), none⟩])
 (.cond (.loc 46) (.seq (.dreg ⟨[0, 0, 0, 4, 12, 0, 32, 96, 252, 508, 1023], 0, [Ze 0 0 2 2,
 Ze 1 0 17 3,
 Qz 2 0 0 2,
 Qy 3 0 1 2,
 Qz 5 0 5 3,
 Qy 6 0 1 5,
 ⟨7, 0, false, .r (.bin .sub (.tmp 6) (.cst (.int .i64 1))), none⟩,
 Zg 4 0 f2 3,
 ⟨8, 0, false, .r (.mnmx false [.tmp 4, .tmp 7]), none⟩,
 ⟨9, 0, false, .r (.mnmx true [(.cst (.int .i64 0)), .tmp 8]), none⟩,
 ⟨10, 0, true, .call f0 [.tmp 0, .tmp 1, (.cst (.bool false)), .tmp 9], none⟩], []⟩)
 .ret)
 .skip)))
 (.seq (.dreg ⟨[0, 1, 3, 7, 15, 31, 0, 64, 0, 256, 1023, 2047, 4095, 4095, 0, 24575, 65535], 1, [Qz 0 0 0 2,
 Qy 1 0 1 0,
 Zb 2 0 1,
 Za 3 0 1 2,
 Za 4 0 3 3,
 ⟨5, 0, false, .r (.load true 3 (.tmp 4)), none⟩,
 Qz 6 0 5 3,
 Qy 7 0 1 6,
 Qz 8 0 15 3,
 Qy 9 0 1 8,
 ⟨14, 0, false, .h (.mk [(.int .i64 0), (.int .i64 0), .nils]), none⟩,
 ⟨10, 0, true, .call f3 [.tmp 5, .tmp 7, .tmp 9], none⟩,
 Zd 11 0 10,
 ⟨12, 0, false, .r (.ext (.tmp 11) 0), none⟩,
 ⟨13, 0, false, .r (.ext (.tmp 11) 1), none⟩,
 Zf 15 1 3 14 12,
 Zd 16 1 13], [(6, 14), (7, 16)]⟩)
 (.seq (.seq (.reg [Qa 72 7,
 ⟨.loc 73, .r (.bin .gtr (.tmp 72) (.cst (.int .i64 0))), none⟩])
 (.cond (.loc 73) (.seq (.seq (.reg [Qa 74 7,
 Qe 75 0 2,
 Qd 76 1 75,
 Qj 77 76,
 Qf 78 11 77,
 Qd 79 1 78,
 ⟨.loc 80, .r (.bin .leq (.tmp 74) (.tmp 79)), none⟩])
 (.cond (.loc 80) .ret
 .skip))
 (.seq (.reg [Qe 81 0 2,
 Qd 82 1 81,
 Qg 83 3 6,
 Qj 84 82,
 Qf 85 1 84,
 Qf 86 3 85,
 Qm 3 86 83])
 (.dreg ⟨[0, 0, 0, 0, 0, 16, 48, 124, 252, 510, 1023], 0, [Ze 0 0 2 2,
 Zc 1 0 7,
 Ze 2 0 3 6,
 Zc 3 0 7,
 Qz 4 0 2 6,
 Qy 5 0 1 4,
 ⟨6, 0, false, .r (.len (.tmp 5)), none⟩,
 ⟨7, 0, true, .call f4 [.tmp 2, .tmp 3, .tmp 6], none⟩,
 ⟨8, 0, false, .r (.build [(.int .i64 0), (.int .i64 0), .nils] [(2, 1, .tmp 7)]), none⟩,
 ⟨9, 0, false, .r (.build [(.int .i64 0), (.int .i64 0), (.int .i64 0), (.int .i64 0), (.int .i64 0), (.int .i64 0), (.int .i64 0), .nils, .nils, .nils, .nils, .nils, (.int .i64 0), (.int .i64 0), (.int .i64 0), (.int .i64 0), (.int .i64 0)] [(0, 1, (.cst (.int .i64 2))), (4, 1, .tmp 1), (5, 3, .tmp 8)]), none⟩,
 ⟨10, 0, true, .call f5 [.tmp 0, .tmp 9], none⟩], []⟩)))
 .skip))
 (.seq (.reg [Qe 98 5 3,
 Qd 99 1 98,
 Qe 100 15 3,
 Qd 101 1 100,
 ⟨.tmp 102, .r (.len (.tmp 101)), none⟩,
 ⟨.tmp 103, .r (.bin .add (.tmp 99) (.tmp 102)), none⟩,
 Qb 8 103])
 (.seq (.dreg ⟨[0, 1, 0, 4, 12, 28, 60, 0, 128, 0, 896, 2044, 4095, 8191, 16383], 0, [Qz 0 0 0 2,
 Qy 1 0 1 0,
 Qz 2 0 0 2,
 Qy 3 0 1 2,
 Zb 4 0 3,
 Za 5 0 11 4,
 Qy 6 0 1 5,
 Qz 7 0 7 3,
 Qy 8 0 1 7,
 Zc 9 0 8,
 ⟨10, 0, false, .r (.mnmx false [.tmp 8, .tmp 9]), none⟩,
 ⟨11, 0, false, .r (.mnmx true [.tmp 6, .tmp 10]), none⟩,
 Zb 12 0 1,
 Za 13 0 11 12,
 Zf 14 0 1 13 11], []⟩)
 (.reg [Qg 118 2 2,
 Qg 119 17 3,
 Qa 120 8,
 ⟨.tmp 121, .call f0 [.tmp 118, .tmp 119, (.cst (.bool true)), .tmp 120], none⟩])))))))), []⟩
def c_raft_call_restore (f0 f1 f2 f3 f4 f5 : FuncId) : AFn := ⟨73, fun s => List.contains [0, 1, 2, 3, 4, 5, 6, 7, 8, 16, 43] s, (.seq (.reg [Qk 2 0,
 Qk 3 1])
 (.seq (.seq (.dreg ⟨[0, 1, 0, 4, 12, 28, 60, 127], 0, [Qz 0 0 5 3,
 Qy 1 0 1 0,
 Qz 2 0 0 2,
 Qy 3 0 1 2,
 Zb 4 0 3,
 Za 5 0 11 4,
 Qy 6 0 1 5,
 ⟨7, 0, false, .r (.bin .leq (.tmp 1) (.tmp 6)), none⟩], [(16, 7)]⟩)
 (.cond (.loc 16) (.seq (.dreg ⟨[0, 0, 0, 4, 12, 28, 60, 127], 0, [Ze 0 0 2 2,
 Ze 1 0 17 3,
 Qz 2 0 0 2,
 Qy 3 0 1 2,
 Zb 4 0 3,
 Za 5 0 11 4,
 Qy 6 0 1 5,
 ⟨7, 0, true, .call f0 [.tmp 0, .tmp 1, (.cst (.bool true)), .tmp 6], none⟩], []⟩)
 .ret)
 .skip))
 (.seq (.reg [Qe 25 16 3,
 Qd 26 1 25,
 Qn 27 f1 26,
 Qb 4 27])
 (.seq (.reg [Qa 28 4,
 Qn 29 f2 28,
 Qa 30 4,
 Qn 31 f2 30,
 Qb 5 29,
 Qb 6 31])
 (.seq (.reg [Qa 33 5,
 Qn 34 f3 33,
 Qc 32 34,
 Qi 35 32 0,
 Qi 36 32 1,
 ⟨.loc 7, .h (.mk [.nils, .nils, .nils]), none⟩,
 Ql 3 7 35,
 Qb 8 36])
 (.seq (.seq (.reg [Qa 37 4,
 Qn 38 f4 37,
 ⟨.tmp 39, .r (.bin .neq (.tmp 38) (.cst (.int .i64 0))), none⟩,
 Qc 40 39,
 Qp 41 8 40 false,
 ⟨.tmp 42, .r (.bin .neq (.tmp 41) (.cst (.int .i64 0))), some (.tmp 40, false)⟩,
 ⟨.loc 43, .r (.pick (.tmp 40) (.cst (.bool true)) (.tmp 42)), none⟩])
 (.cond (.loc 43) .ret
 .skip))
 (.seq (.reg [Qg 44 2 2,
 Qe 45 5 3,
 Qd 46 1 45,
 Qe 47 6 3,
 Qd 48 1 47,
 Qg 49 3 7,
 Qa 50 6,
 ⟨.tmp 51, .call f5 [.tmp 44, .tmp 46, .tmp 48, .tmp 49, .tmp 50], none⟩])
 (.seq (.dreg ⟨[0, 1, 0, 4, 0, 16, 0, 64, 0, 256, 195, 1219, 3267, 8143, 16335, 32719, 65535, 131071, 262143], 0, [Qz 0 0 0 2,
 Qy 1 0 1 0,
 Qz 2 0 0 2,
 Qy 3 0 1 2,
 Qz 4 0 1 2,
 Qy 5 0 1 4,
 Qz 6 0 5 3,
 Qy 7 0 1 6,
 Qz 8 0 5 3,
 Qy 9 0 1 8,
 Zb 10 0 1,
 Za 11 0 11 10,
 Zf 12 0 1 11 7,
 Zb 13 0 3,
 Za 14 0 12 13,
 Zf 15 0 1 14 9,
 Zb 16 0 5,
 Za 17 0 4 16,
 ⟨18, 0, true, .h (.store 1 (.tmp 17) (.cst (.bool true))), none⟩], []⟩)
 (.reg [Qg 68 2 2,
 Qg 69 17 3,
 Qe 70 5 3,
 Qd 71 1 70,
 ⟨.tmp 72, .call f0 [.tmp 68, .tmp 69, (.cst (.bool true)), .tmp 71], none⟩]))))))))), []⟩
def c_raft_freshConf (f0 : FuncId) : AFn := ⟨13, fun s => List.contains [0, 1, 2] s, (.seq (.reg [Qk 1 0,
 ⟨.loc 2, .h (.mk [.nils, .nils, .nils]), none⟩])
 (.seq (.dreg ⟨[0, 1, 3, 0, 8, 31, 0, 64, 255, 511, 1023], 0, [Qz 0 0 0 1,
 Qy 1 0 1 0,
 Qz 3 0 1 1,
 Qy 4 0 1 3,
 Qz 6 0 2 1,
 Qy 7 0 1 6,
 Zg 2 0 f0 1,
 Zg 5 0 f0 4,
 Zg 8 0 f0 7,
 ⟨9, 0, false, .r (.build [.nils, .nils, .nils] [(0, 1, .tmp 2), (1, 1, .tmp 5), (2, 1, .tmp 8)]), none⟩,
 ⟨10, 0, true, .h (.store 3 (.loc 2) (.tmp 9)), none⟩], []⟩)
 .ret)), [(.cell (.loc 2) true 3)]⟩
def c_raft_call_lead (f0 f1 f2 f3 f4 f5 : FuncId) : AFn := ⟨42, fun s => List.contains [0, 1] s, (.seq (.reg [Qk 1 0])
 (.seq (.dreg ⟨[0, 1, 0, 4, 0, 16, 0, 64, 0, 256, 0, 1024, 3072, 7168, 15360, 31747, 64515, 130051, 261135, 523279, 1047567, 2096191, 4193343, 8387647, 16776447, 33553663, 67108095, 134217727, 268435455, 536870911], 0, [Qz 0 0 0 1,
 Qy 1 0 1 0,
 Qz 2 0 0 1,
 Qy 3 0 1 2,
 Qz 4 0 0 1,
 Qy 5 0 1 4,
 Qz 6 0 0 1,
 Qy 7 0 1 6,
 Qz 8 0 0 1,
 Qy 9 0 1 8,
 Qz 10 0 0 1,
 Qy 11 0 1 10,
 Zb 12 0 11,
 Za 13 0 0 12,
 Qy 14 0 1 13,
 Zb 15 0 1,
 Za 16 0 13 15,
 ⟨17, 0, true, .h (.store 1 (.tmp 16) (.cst (.int .i64 2))), none⟩,
 Zb 18 0 3,
 Za 19 0 14 18,
 Zf 20 0 1 19 14,
 Zb 21 0 5,
 Za 22 0 20 21,
 ⟨23, 0, true, .h (.store 1 (.tmp 22) (.cst (.int .i64 0))), none⟩,
 Zb 24 0 7,
 Za 25 0 17 24,
 ⟨26, 0, true, .h (.store 1 (.tmp 25) (.cst .nils)), none⟩,
 Zb 27 0 9,
 Za 28 0 18 27,
 ⟨29, 0, true, .h (.store 1 (.tmp 28) (.cst .nils)), none⟩], []⟩)
 (.seq (.dreg ⟨[0, 1, 0, 4, 12, 31], 0, [Qz 0 0 0 1,
 Qy 1 0 1 0,
 Qz 2 0 0 1,
 Qy 3 0 1 2,
 Zg 4 0 f0 3,
 ⟨5, 0, true, .call f1 [.tmp 1, .tmp 4], none⟩], []⟩)
 (.seq (.reg [Qg 33 2 1,
 ⟨.tmp 34, .call f2 [.tmp 33, (.cst (.int .i64 0)), (.cst .nils)], none⟩])
 (.seq (.reg [Qe 35 0 1,
 Qd 36 1 35,
 Qg 37 2 1,
 ⟨.tmp 38, .r (.x (.bclo f3 [.tmp 37] [])), none⟩,
 Qo 39 f4 36 38])
 (.reg [Qg 40 2 1,
 Qn 41 f5 40])))))), []⟩
def c_raft_call_tell : AFn := ⟨23, fun s => List.contains [0, 1, 2, 3] s, (.seq (.reg [Qk 2 0,
 Qk 3 1])
 (.seq (.reg [Qe 4 0 2,
 Qd 5 1 4,
 Qj 6 5,
 Qf 7 1 6,
 Qf 8 0 7,
 Qd 9 1 8,
 Qe 10 1 3,
 Qm 1 10 9])
 (.dreg ⟨[0, 1, 0, 4, 12, 28, 60, 0, 128, 508, 1023, 2047, 4095], 1, [Qz 0 0 1 2,
 Qy 1 0 1 0,
 Qz 2 0 1 2,
 Qy 3 0 1 2,
 Zb 4 0 3,
 Za 5 0 1 4,
 Qy 6 0 1 5,
 Ze 7 0 17 3,
 ⟨8, 0, false, .h (.bsl 17 [.tmp 7]), none⟩,
 ⟨9, 1, true, .h (.app 17 216 (.tmp 6) (.tmp 8)), none⟩,
 Zb 10 1 1,
 Za 11 1 1 10,
 Zf 12 1 1 11 9], []⟩))), []⟩
def c_raft_Raft_meet_l0 (f0 f1 f2 f3 f4 : FuncId) : AC := (.seq (.reg [⟨.loc 14, .r (.bin .lss (.loc 13) (.loc 12)), none⟩])
 (.seq (.cond (.loc 14) .skip
 (.exit 0))
 (.seq (.block 1 (.seq (.reg [⟨.tmp 15, .r (.idx 1 (.loc 11) (.loc 13)), none⟩,
 Qd 16 1 15,
 ⟨.loc 6, .h (.mk [(.int .i64 0)]), none⟩,
 Ql 1 6 16])
 (.seq (.seq (.dreg ⟨[0, 0, 2, 6, 14, 31], 0, [⟨0, 0, false, .r (.load false 1 (.loc 6)), none⟩,
 Zc 1 0 0,
 Zb 2 0 1,
 Za 3 0 0 2,
 Qy 4 0 1 3,
 ⟨5, 0, false, .r (.bin .eql (.tmp 0) (.tmp 4)), none⟩], [(22, 5)]⟩)
 (.cond (.loc 22) (.exit 1)
 .skip))
 (.seq (.reg [⟨.tmp 23, .r (.load false 1 (.loc 6)), none⟩,
 Qa 24 1,
 Qo 25 f2 23 24,
 ⟨.loc 7, .h (.mk [(.int .i64 0), (.int .i64 0), (.int .i64 0), (.int .i64 0)]), none⟩,
 Ql 4 7 25])
 (.seq (.seq (.reg [Qa 26 0,
 Qj 27 26,
 Qf 28 18 27,
 Qd 29 1 28,
 ⟨.tmp 30, .r (.clo f3 [.loc 6]), none⟩,
 Qo 31 f4 29 30,
 Qb 8 31])
 (.seq (.reg [Qa 32 8,
 ⟨.loc 33, .r (.bin .geq (.tmp 32) (.cst (.int .i64 0))), none⟩])
 (.cond (.loc 33) (.reg [Qa 34 0,
 Qj 35 34,
 Qf 36 18 35,
 Qd 37 1 36,
 Qa 38 8,
 ⟨.tmp 39, .r (.idx 4 (.tmp 37) (.tmp 38)), none⟩,
 ⟨.tmp 40, .r (.load true 4 (.tmp 39)), none⟩,
 Ql 4 7 40])
 .skip)))
 (.reg [Qa 41 4,
 Qg 42 4 7,
 ⟨.tmp 43, .h (.bsl 4 [.tmp 42]), none⟩,
 ⟨.tmp 44, .h (.app 4 32 (.tmp 41) (.tmp 43)), none⟩,
 Qb 4 44]))))))
 (.reg [⟨.tmp 45, .r (.bin .add (.loc 13) (.cst (.int .i64 1))), none⟩,
 Qb 13 45]))))
def c_raft_Raft_meet (f0 f1 f2 f3 f4 : FuncId) : AFn := ⟨50, fun s => List.contains [0, 1, 4, 6, 7, 8, 11, 12, 13, 14, 22, 33] s, (.seq (.reg [Qw 4])
 (.seq (.seq (.reg [Qa 9 0,
 Qn 10 f0 9,
 ⟨.loc 11, .call f1 [.tmp 10], none⟩,
 ⟨.loc 12, .r (.len (.loc 11)), none⟩,
 Qh 13 0])
 (.block 0 (.loop (c_raft_Raft_meet_l0 f0 f1 f2 f3 f4))))
 (.reg [Qa 46 0,
 Qa 47 4,
 Qj 48 46,
 Qf 49 18 48,
 Qm 1 49 47]))), []⟩
def c_raft_call_settle_f1 : AFn := ⟨14, fun s => List.contains [0, 1, 2, 3] s, (.seq (.reg [Qk 3 0])
 (.dreg ⟨[0, 0, 2, 6, 15, 0, 0, 64, 192, 511, 1023, 2047], 2, [⟨0, 0, false, .r (.load false 1 (.loc 1)), none⟩,
 Qz 1 0 0 3,
 Qy 2 0 1 1,
 ⟨3, 0, false, .h (.bsl 1 [.tmp 2]), none⟩,
 ⟨5, 1, false, .r (.load false 1 (.loc 2)), none⟩,
 Qz 6 1 2 3,
 Qy 7 1 1 6,
 ⟨8, 1, false, .h (.bsl 1 [.tmp 7]), none⟩,
 ⟨4, 1, true, .h (.app 1 8 (.tmp 0) (.tmp 3)), none⟩,
 ⟨9, 2, true, .h (.app 1 8 (.tmp 5) (.tmp 8)), none⟩,
 ⟨10, 2, true, .h (.store 1 (.loc 1) (.tmp 4)), none⟩,
 ⟨11, 2, true, .h (.store 1 (.loc 2) (.tmp 9)), none⟩], []⟩)), []⟩
def c_raft_call_heard_f1 : AFn := ⟨9, fun s => List.contains [0, 1, 2, 3] s, (.seq (.reg [Qk 2 0,
 Qv 3 false])
 (.seq (.reg [Qe 4 0 2,
 Qd 5 1 4,
 Qe 6 1 1,
 Qd 7 1 6,
 ⟨.tmp 8, .r (.bin .eql (.tmp 5) (.tmp 7)), none⟩,
 Qb 3 8])
 .ret)), [(.tmp (.loc 3))]⟩
def c_raft_call_answer (f0 : FuncId) : AFn := ⟨17, fun s => List.contains [0, 1, 2, 3, 4, 5] s, (.seq (.reg [Qk 4 0,
 Qk 5 1])
 (.reg [Qg 8 2 4,
 Qe 9 1 5,
 Qd 10 1 9,
 Qa 11 2,
 Qa 12 3,
 Qe 13 8 5,
 Qd 14 1 13,
 ⟨.tmp 15, .r (.build [(.int .i64 0), (.int .i64 0), (.int .i64 0), (.int .i64 0), (.int .i64 0), (.int .i64 0), (.int .i64 0), (.int .i64 0), (.int .i64 0), (.int .i64 0), (.int .i64 0), (.int .i64 0), (.int .i64 0), (.int .i64 0), (.bool false), .nils, .nils] [(0, 1, (.cst (.int .i64 4))), (2, 1, .tmp 10), (14, 1, .tmp 11), (5, 1, .tmp 12), (8, 1, .tmp 14)]), none⟩,
 Qo 16 f0 8 15])), []⟩
def c_raft_Raft_meet_f1 : AFn := ⟨8, fun s => List.contains [0, 1, 2, 3] s, (.seq (.reg [Qk 2 0,
 Qv 3 false])
 (.seq (.reg [Qe 4 0 2,
 Qd 5 1 4,
 ⟨.tmp 6, .r (.load false 1 (.loc 1)), none⟩,
 ⟨.tmp 7, .r (.bin .eql (.tmp 5) (.tmp 6)), none⟩,
 Qb 3 7])
 .ret)), [(.tmp (.loc 3))]⟩
def c_slices_IndexFunc_api_Flow_api_Flow_l0 : AC := (.seq (.reg [⟨.loc 9, .r (.bin .lss (.loc 8) (.loc 7)), none⟩])
 (.seq (.cond (.loc 9) .skip
 (.exit 0))
 (.seq (.block 1 (.seq (.reg [Qa 10 8,
 Qb 5 10])
 (.seq (.reg [Qa 11 1,
 Qa 12 0,
 Qa 13 5,
 ⟨.tmp 14, .r (.idx 4 (.tmp 12) (.tmp 13)), none⟩,
 ⟨.tmp 15, .r (.load true 4 (.tmp 14)), none⟩,
 ⟨(.loc 16), (.callv (.tmp 11) [.tmp 15]), none⟩])
 (.cond (.loc 16) (.seq (.reg [Qa 17 5,
 Qb 4 17])
 .ret)
 .skip))))
 (.reg [⟨.tmp 18, .r (.bin .add (.loc 8) (.cst (.int .i64 1))), none⟩,
 Qb 8 18]))))
def c_slices_IndexFunc_api_Flow_api_Flow : AFn := ⟨19, fun s => List.contains [0, 1, 4, 5, 7, 8, 9, 16] s, (.seq (.reg [Qh 4 0])
 (.seq (.seq (.reg [Qa 6 0,
 ⟨.loc 7, .r (.len (.tmp 6)), none⟩,
 Qh 8 0])
 (.block 0 (.loop (c_slices_IndexFunc_api_Flow_api_Flow_l0))))
 (.seq (.reg [Qh 4 (-1)])
 .ret))), [(.tmp (.loc 4))]⟩
end Glb
