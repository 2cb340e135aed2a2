/-
  What functions of the program are, one by one (the functions that they call as parameters), in a form of which something can be shown.
-/
import Derived.Test.YtdeiamnhnfmilaaGreatGlbShort
import Derived.Test.YtdeiamnhnfmilaaGreatGlbLibB
set_option linter.unusedSimpArgs false
set_option linter.unusedVariables false
namespace Glb
open Go
set_option maxRecDepth 100000
def c_flow_Next (f0 f1 f2 f3 : FuncId) : AFn := ⟨71, fun s => List.contains [0, 1, 2, 3, 4, 5, 7, 10, 11, 12, 19] s, (.seq (.reg [Qk 5 0,
 Qk 7 2,
 ⟨.loc 10, .h (.mk [(.int .i64 0), (.int .i64 0), (.int .i64 0), (.int .i64 0), (.int .i64 0), (.int .i64 0), (.int .i64 0), (.int .i64 0), (.int .i64 0), (.int .i64 0), (.int .i64 0), (.int .i64 0), (.int .i64 0), (.int .i64 0), (.bool false), .nils, .nils]), none⟩])
 (.seq (.seq (.reg [Qe 14 1 5,
 Qd 15 1 14,
 Qe 16 3 7,
 Qf 17 0 16,
 Qd 18 1 17,
 ⟨.loc 19, .r (.bin .leq (.tmp 15) (.tmp 18)), none⟩])
 (.cond (.loc 19) (.seq (.dreg ⟨[0, 1, 3, 7, 0, 16, 63, 127], 0, [Qz 0 0 6 7,
 ⟨1, 0, false, .r (.load true 3 (.tmp 0)), none⟩,
 Qz 4 0 9 7,
 Qy 5 0 1 4,
 Zg 2 0 f0 1,
 ⟨3, 0, true, .call f1 [(.cst .nils), .tmp 2], none⟩,
 ⟨6, 0, true, .call f1 [.tmp 3, .tmp 5], none⟩,
 Zd 7 0 6], [(11, 7)]⟩)
 (.seq (.reg [Qa 27 1,
 Qe 28 0 5,
 Qd 29 1 28,
 Qe 30 0 7,
 Qd 31 1 30,
 Qe 32 1 7,
 Qd 33 1 32,
 Qe 34 3 7,
 Qf 35 0 34,
 Qd 36 1 35,
 Qe 37 3 7,
 Qf 38 1 37,
 Qd 39 1 38,
 Qa 40 4,
 Qa 41 11,
 ⟨.tmp 42, .r (.build [(.int .i64 0), (.int .i64 0), (.int .i64 0), (.int .i64 0), (.int .i64 0), (.int .i64 0), (.int .i64 0), (.int .i64 0), (.int .i64 0), (.int .i64 0), (.int .i64 0), (.int .i64 0), (.int .i64 0), (.int .i64 0), (.bool false), .nils, .nils] [(0, 1, (.cst (.int .i64 5))), (1, 1, .tmp 27), (2, 1, .tmp 29), (3, 1, .tmp 31), (4, 1, .tmp 33), (5, 1, .tmp 36), (6, 1, .tmp 39), (8, 1, .tmp 40), (16, 1, .tmp 41)]), none⟩,
 Ql 17 10 42])
 .ret))
 .skip))
 (.seq (.reg [Qe 44 3 7,
 ⟨.tmp 45, .r (.load true 3 (.tmp 44)), none⟩,
 Qe 46 1 5,
 Qd 47 1 46,
 ⟨.tmp 48, .r (.bin .sub (.tmp 47) (.cst (.int .i64 1))), none⟩,
 Qo 49 f2 45 48,
 Qc 43 49,
 Qi 50 43 0,
 Qi 51 43 1,
 Qb 12 50,
 Qc 13 51])
 (.seq (.dreg ⟨[0, 0, 2, 0, 8, 0, 32, 0, 128, 384, 0, 0, 0, 0, 8192, 0, 32768, 122880, 262143, 524287], 0, [Zc 0 0 1,
 Qz 1 0 0 5,
 Qy 2 0 1 1,
 Qz 3 0 0 7,
 Qy 4 0 1 3,
 Qz 5 0 1 7,
 Qy 6 0 1 5,
 Qz 7 0 1 5,
 Qy 8 0 1 7,
 ⟨9, 0, false, .r (.bin .sub (.tmp 8) (.cst (.int .i64 1))), none⟩,
 Zc 10 0 12,
 Zc 11 0 3,
 Zc 12 0 4,
 Qz 13 0 3 7,
 ⟨14, 0, false, .r (.load true 3 (.tmp 13)), none⟩,
 Qz 15 0 1 5,
 Qy 16 0 1 15,
 ⟨17, 0, true, .call f3 [.tmp 14, .tmp 16, (.cst (.int .i64 8))], none⟩,
 ⟨18, 0, false, .r (.build [(.int .i64 0), (.int .i64 0), (.int .i64 0), (.int .i64 0), (.int .i64 0), (.int .i64 0), (.int .i64 0), (.int .i64 0), (.int .i64 0), (.int .i64 0), (.int .i64 0), (.int .i64 0), (.int .i64 0), (.int .i64 0), (.bool false), .nils, .nils] [(0, 1, (.cst (.int .i64 3))), (1, 1, .tmp 0), (2, 1, .tmp 2), (3, 1, .tmp 4), (4, 1, .tmp 6), (5, 1, .tmp 9), (6, 1, .tmp 10), (7, 1, .tmp 11), (8, 1, .tmp 12), (15, 1, .tmp 17)]), none⟩,
 ⟨19, 0, true, .h (.store 17 (.loc 10) (.tmp 18)), none⟩], []⟩)
 .ret)))), [(.cell (.loc 10) true 17)]⟩
def c_flow_Heard : AFn := ⟨49, fun s => List.contains [0, 1, 2, 3, 4, 17, 26] s, (.seq (.reg [Qk 2 0,
 Qk 3 1,
 ⟨.loc 4, .h (.mk [(.int .i64 0), (.int .i64 0), (.int .i64 0), (.int .i64 0)]), none⟩])
 (.seq (.block 0 (.seq (.seq (.reg [Qe 18 0 3,
 Qd 19 1 18,
 ⟨.tmp 20, .r (.bin .neq (.tmp 19) (.cst (.int .i64 4))), none⟩,
 Qb 17 20])
 (.cond (.loc 17) .skip
 (.reg [Qe 21 1 3,
 Qd 22 1 21,
 Qe 23 0 2,
 Qd 24 1 23,
 ⟨.tmp 25, .r (.bin .neq (.tmp 22) (.tmp 24)), none⟩,
 Qb 17 25])))
 (.cond (.loc 17) .skip
 (.seq (.reg [Qe 27 14 3,
 Qd 28 1 27,
 Qb 26 28])
 (.cond (.loc 26) (.seq (.reg [Qe 29 2 2,
 Qd 30 1 29,
 Qe 31 5 3,
 Qd 32 1 31,
 ⟨.tmp 33, .r (.mnmx true [.tmp 30, .tmp 32]), none⟩,
 Qe 34 2 2,
 Qm 1 34 33])
 (.seq (.reg [Qe 35 1 2,
 Qd 36 1 35,
 Qe 37 2 2,
 Qd 38 1 37,
 Qx 39 38 1,
 ⟨.tmp 40, .r (.mnmx true [.tmp 36, .tmp 39]), none⟩,
 Qe 41 1 2,
 Qm 1 41 40])
 (.reg [Qe 42 3 2,
 Qd 43 1 42,
 Qe 44 8 3,
 Qd 45 1 44,
 ⟨.tmp 46, .r (.mnmx true [.tmp 43, .tmp 45]), none⟩,
 Qe 47 3 2,
 Qm 1 47 46])))
 (.reg [Qe 5 2 2,
 Qd 6 1 5,
 Qx 7 6 1,
 Qe 8 1 2,
 Qd 9 1 8,
 ⟨.tmp 10, .r (.bin .sub (.tmp 9) (.cst (.int .i64 1))), none⟩,
 Qe 11 5 3,
 Qd 12 1 11,
 Qx 13 12 1,
 ⟨.tmp 14, .r (.mnmx false [.tmp 10, .tmp 13]), none⟩,
 ⟨.tmp 15, .r (.mnmx true [.tmp 7, .tmp 14]), none⟩,
 Qe 16 1 2,
 Qm 1 16 15]))))))
 (.seq (.reg [Qg 48 4 2,
 Ql 4 4 48])
 .ret))), [(.cell (.loc 4) true 4)]⟩
def c_flow_New : AFn := ⟨9, fun s => List.contains [0, 1, 4] s, (.seq (.reg [⟨.loc 4, .h (.mk [(.int .i64 0), (.int .i64 0), (.int .i64 0), (.int .i64 0)]), none⟩])
 (.seq (.reg [Qa 5 0,
 Qa 6 1,
 Qx 7 6 1,
 ⟨.tmp 8, .r (.build [(.int .i64 0), (.int .i64 0), (.int .i64 0), (.int .i64 0)] [(0, 1, .tmp 5), (1, 1, .tmp 7)]), none⟩,
 Ql 4 4 8])
 .ret)), [(.cell (.loc 4) true 4)]⟩
end Glb
