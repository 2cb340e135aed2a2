/-
  What functions of the program are, one by one (the functions that they call as parameters), in a form of which something can be shown.
-/
import Derived.Test.YtdeiamnhnfmilaaGreatGlbShort
import Derived.Test.YtdeiamnhnfmilaaGreatGlbLibB
set_option linter.unusedSimpArgs false
set_option linter.unusedVariables false
namespace Glb
open Go
set_option maxRecDepth 100000
def c_vote_Grants (f0 : FuncId) : AFn := ⟨36, fun s => List.contains [0, 1, 2, 3, 6, 7, 8] s, (.seq (.reg [Qk 6 2,
 Qk 7 3,
 Qv 8 false])
 (.seq (.reg [Qe 9 0 7,
 Qd 10 1 9,
 ⟨.tmp 11, .r (.bin .eql (.tmp 10) (.cst (.int .i64 1))), none⟩,
 Qc 12 11,
 Qr 13 4 7 12 true,
 Qq 14 1 13 12 true,
 Qp 15 0 12 true,
 ⟨.tmp 16, .r (.bin .eql (.tmp 14) (.tmp 15)), some (.tmp 12, true)⟩,
 Qu 17 12 16,
 Qc 18 17,
 Qp 19 1 18 true,
 ⟨.tmp 20, .r (.bin .eql (.tmp 19) (.cst (.int .i64 0))), some (.tmp 18, true)⟩,
 ⟨.tmp 21, .r (.mov (.tmp 20)), some (.tmp 18, true)⟩,
 Qp 22 1 21 false,
 Qr 23 1 7 21 false,
 Qq 24 1 23 21 false,
 ⟨.tmp 25, .r (.bin .eql (.tmp 22) (.tmp 24)), some (.tmp 21, false)⟩,
 ⟨.tmp 26, .r (.pick (.tmp 21) (.cst (.bool true)) (.tmp 25)), some (.tmp 18, true)⟩,
 Qu 27 18 26,
 Qc 28 27,
 ⟨.tmp 29, .r (.load true 3 (.loc 6)), some (.tmp 28, true)⟩,
 Qr 30 5 7 28 true,
 Qq 31 1 30 28 true,
 Qr 32 6 7 28 true,
 Qq 33 1 32 28 true,
 ⟨.tmp 34, .call f0 [.tmp 29, .tmp 31, .tmp 33], some (.tmp 28, true)⟩,
 Qu 35 28 34,
 Qb 8 35])
 .ret)), [(.tmp (.loc 8))]⟩
def c_vote_Timeout : AFn := ⟨12, fun s => List.contains [0, 2, 3, 7] s, (.seq (.reg [Qh 2 0])
 (.seq (.reg [Qa 4 0,
 ⟨.tmp 5, .r (.bin .rem (.tmp 4) (.cst (.int .i64 10))), none⟩,
 Qb 3 5])
 (.seq (.seq (.reg [Qa 6 3,
 ⟨.loc 7, .r (.bin .lss (.tmp 6) (.cst (.int .i64 0))), none⟩])
 (.cond (.loc 7) (.reg [Qa 8 3,
 Qx 9 8 10,
 Qb 3 9])
 .skip))
 (.seq (.reg [Qa 10 3,
 ⟨.tmp 11, .r (.bin .add (.cst (.int .i64 10)) (.tmp 10)), none⟩,
 Qb 2 11])
 .ret)))), [(.tmp (.loc 2))]⟩
def c_vote_Asks_l0 (f0 f1 : FuncId) : AC := (.seq (.reg [⟨.loc 25, .r (.bin .lss (.loc 24) (.loc 23)), none⟩])
 (.seq (.cond (.loc 25) .skip
 (.exit 0))
 (.seq (.block 1 (.seq (.reg [⟨.tmp 26, .r (.idx 1 (.loc 22) (.loc 24)), none⟩,
 Qd 27 1 26,
 Qb 15 27])
 (.seq (.seq (.reg [Qa 28 15,
 Qa 29 0,
 ⟨.loc 30, .r (.bin .eql (.tmp 28) (.tmp 29)), none⟩])
 (.cond (.loc 30) (.exit 1)
 .skip))
 (.reg [Qa 31 13,
 Qa 32 0,
 Qa 33 15,
 Qa 34 1,
 Qa 35 2,
 Qa 36 11,
 Qa 37 12,
 ⟨.tmp 38, .r (.build [(.int .i64 0), (.int .i64 0), (.int .i64 0), (.int .i64 0), (.int .i64 0), (.int .i64 0), (.int .i64 0), (.int .i64 0), (.int .i64 0), (.int .i64 0), (.int .i64 0), (.int .i64 0), (.int .i64 0), (.int .i64 0), (.bool false), .nils, .nils] [(0, 1, (.cst (.int .i64 1))), (1, 1, .tmp 32), (2, 1, .tmp 33), (3, 1, .tmp 34), (4, 1, .tmp 35), (5, 1, .tmp 36), (6, 1, .tmp 37)]), none⟩,
 ⟨.tmp 39, .h (.bsl 17 [.tmp 38]), none⟩,
 ⟨.tmp 40, .h (.app 17 168 (.tmp 31) (.tmp 39)), none⟩,
 Qb 13 40]))))
 (.reg [⟨.tmp 41, .r (.bin .add (.loc 24) (.cst (.int .i64 1))), none⟩,
 Qb 24 41]))))
def c_vote_Asks (f0 f1 : FuncId) : AFn := ⟨43, fun s => List.contains [0, 1, 2, 3, 4, 8, 9, 10, 11, 12, 13, 15, 22, 23, 24, 25, 30] s, (.seq (.reg [Qk 8 3,
 Qk 9 4,
 Qw 10])
 (.seq (.reg [Qg 17 3 8,
 Qn 18 f0 17,
 Qc 16 18,
 Qi 19 16 0,
 Qi 20 16 1,
 Qb 11 19,
 Qb 12 20])
 (.seq (.reg [Qw 13])
 (.seq .skip
 (.seq (.seq (.reg [Qg 21 3 9,
 ⟨.loc 22, .call f1 [.tmp 21], none⟩,
 ⟨.loc 23, .r (.len (.loc 22)), none⟩,
 Qh 24 0])
 (.block 0 (.loop (c_vote_Asks_l0 f0 f1))))
 (.seq (.reg [Qa 42 13,
 Qb 10 42])
 .ret)))))), [(.tmp (.loc 10))]⟩
end Glb
