/-
  What functions of the program are, one by one (the functions that they call as parameters), in a form of which something can be shown.
-/
import Derived.Test.YtdeiamnhnfmilaaGreatGlbShort
import Derived.Test.YtdeiamnhnfmilaaGreatGlbLibB
set_option linter.unusedSimpArgs false
set_option linter.unusedVariables false
namespace Glb
open Go
set_option maxRecDepth 100000
def c_image_PutConf (f0 : FuncId) : AFn := ⟨5, fun s => List.contains [0, 1, 2] s, (.seq (.reg [Qk 1 0,
 Qw 2])
 (.seq (.reg [Qg 3 3 1,
 ⟨.tmp 4, .call f0 [(.cst .nils), .tmp 3], none⟩,
 Qb 2 4])
 .ret)), [(.tmp (.loc 2))]⟩
def c_image_putConf (f0 : FuncId) : AFn := ⟨15, fun s => List.contains [0, 1, 3, 4] s, (.seq (.reg [Qk 3 1,
 Qw 4])
 (.seq (.dreg ⟨[0, 0, 2, 7, 0, 16, 63, 0, 128, 511, 1023], 0, [Zc 0 0 0,
 Qz 1 0 0 3,
 Qy 2 0 1 1,
 Qz 4 0 1 3,
 Qy 5 0 1 4,
 Qz 7 0 2 3,
 Qy 8 0 1 7,
 ⟨3, 0, true, .call f0 [.tmp 0, .tmp 2], none⟩,
 ⟨6, 0, true, .call f0 [.tmp 3, .tmp 5], none⟩,
 ⟨9, 0, true, .call f0 [.tmp 6, .tmp 8], none⟩,
 Zd 10 0 9], [(4, 10)]⟩)
 .ret)), [(.tmp (.loc 4))]⟩
def c_pack_Blob (f0 f1 : FuncId) : AFn := ⟨15, fun s => List.contains [0, 1, 4] s, (.seq (.reg [Qw 4])
 (.seq (.reg [Qa 5 0,
 Qa 6 1,
 ⟨.tmp 7, .r (.len (.tmp 6)), none⟩,
 ⟨.tmp 8, .r (.bin .add (.cst (.int .i64 8)) (.tmp 7)), none⟩,
 Qo 9 f0 5 8,
 Qa 10 1,
 ⟨.tmp 11, .r (.len (.tmp 10)), none⟩,
 Qo 12 f1 9 11,
 Qa 13 1,
 ⟨.tmp 14, .h (.app 1 1 (.tmp 12) (.tmp 13)), none⟩,
 Qb 4 14])
 .ret)), [(.tmp (.loc 4))]⟩
def c_pack_Ints_l0 (f0 f1 : FuncId) : AC := (.seq (.reg [⟨.loc 20, .r (.bin .lss (.loc 19) (.loc 18)), none⟩])
 (.seq (.cond (.loc 20) .skip
 (.exit 0))
 (.seq (.block 1 (.seq (.reg [⟨.tmp 21, .r (.idx 1 (.loc 17) (.loc 19)), none⟩,
 Qd 22 1 21,
 Qb 7 22])
 (.reg [Qa 23 5,
 Qa 24 7,
 Qo 25 f1 23 24,
 Qb 5 25])))
 (.reg [⟨.tmp 26, .r (.bin .add (.loc 19) (.cst (.int .i64 1))), none⟩,
 Qb 19 26]))))
def c_pack_Ints (f0 f1 : FuncId) : AFn := ⟨28, fun s => List.contains [0, 1, 4, 5, 7, 17, 18, 19, 20] s, (.seq (.reg [Qw 4])
 (.seq (.reg [Qa 8 0,
 Qa 9 1,
 ⟨.tmp 10, .r (.len (.tmp 9)), none⟩,
 ⟨.tmp 11, .r (.bin .mul (.cst (.int .i64 8)) (.tmp 10)), none⟩,
 ⟨.tmp 12, .r (.bin .add (.cst (.int .i64 8)) (.tmp 11)), none⟩,
 Qo 13 f0 8 12,
 Qa 14 1,
 ⟨.tmp 15, .r (.len (.tmp 14)), none⟩,
 Qo 16 f1 13 15,
 Qb 5 16])
 (.seq (.seq (.reg [⟨.loc 17, .r (.mov (.loc 1)), none⟩,
 ⟨.loc 18, .r (.len (.loc 17)), none⟩,
 Qh 19 0])
 (.block 0 (.loop (c_pack_Ints_l0 f0 f1))))
 (.seq (.reg [Qa 27 5,
 Qb 4 27])
 .ret)))), [(.tmp (.loc 4))]⟩
def c_pack_number_l0 : AC := (.seq (.seq (.reg [Qa 6 5,
 ⟨.loc 7, .r (.bin .geq (.tmp 6) (.cst (.int .i64 0))), none⟩])
 (.cond (.loc 7) .skip
 (.exit 0)))
 (.seq (.block 1 (.reg [Qa 10 0,
 Qa 11 1,
 ⟨.tmp 12, .r (.conv .u64 (.tmp 11)), none⟩,
 Qa 13 5,
 ⟨.tmp 14, .r (.bin .mul (.cst (.int .i64 8)) (.tmp 13)), none⟩,
 ⟨.tmp 15, .r (.bin .shr (.tmp 12) (.tmp 14)), none⟩,
 ⟨.tmp 16, .r (.conv .u8 (.tmp 15)), none⟩,
 ⟨.tmp 17, .h (.bsl 1 [.tmp 16]), none⟩,
 ⟨.tmp 18, .h (.app 1 1 (.tmp 10) (.tmp 17)), none⟩,
 Qb 0 18]))
 (.reg [Qa 8 5,
 ⟨.tmp 9, .r (.bin .sub (.tmp 8) (.cst (.int .i64 1))), none⟩,
 Qb 5 9])))
def c_pack_number : AFn := ⟨20, fun s => List.contains [0, 1, 4, 5, 7] s, (.seq (.reg [Qw 4])
 (.seq (.seq (.reg [Qh 5 7])
 (.block 0 (.loop (c_pack_number_l0))))
 (.seq (.reg [Qa 19 0,
 Qb 4 19])
 .ret))), [(.tmp (.loc 4))]⟩
def c_pack_room : AFn := ⟨12, fun s => List.contains [0, 1, 4] s, (.seq (.reg [Qw 4])
 (.seq (.reg [Qa 5 0,
 ⟨.tmp 6, .r (.len (.tmp 5)), none⟩,
 Qa 7 1,
 ⟨.tmp 8, .r (.bin .add (.tmp 6) (.tmp 7)), none⟩,
 ⟨.tmp 9, .h (.mks 1 1 [(.int .u8 0)] (.cst (.int .i64 0)) (.tmp 8)), none⟩,
 Qa 10 0,
 ⟨.tmp 11, .h (.app 1 1 (.tmp 9) (.tmp 10)), none⟩,
 Qb 4 11])
 .ret)), [(.tmp (.loc 4))]⟩
end Glb
