/-
  What functions of the program are, one by one (the functions that they call as parameters), in a form of which something can be shown.
-/
import Derived.Test.YtodbhmdfmdfiaaaGlbLibB
set_option linter.unusedSimpArgs false
set_option linter.unusedVariables false
namespace Glb
open Go
set_option maxRecDepth 100000

/-- glebe/image.PutConf -/
def c_image_PutConf (f0 : FuncId) : AFn := ⟨5, fun s => List.contains [0, 1, 2] s, (.seq (.reg [⟨.loc 1, .h (.box (.loc 0)), none⟩,
 ⟨.loc 2, .r (.mov (.cst .nils)), none⟩])
 (.seq (.reg [⟨.tmp 3, .r (.load true 3 (.loc 1)), none⟩,
 ⟨.tmp 4, .call f0 [(.cst .nils), .tmp 3], none⟩,
 ⟨.loc 2, .r (.mov (.tmp 4)), none⟩])
 .ret)), [(.tmp (.loc 2))]⟩

/-- glebe/image.putConf -/
def c_image_putConf (f0 : FuncId) : AFn := ⟨15, fun s => List.contains [0, 1, 3, 4] s, (.seq (.reg [⟨.loc 3, .h (.box (.loc 1)), none⟩,
 ⟨.loc 4, .r (.mov (.cst .nils)), none⟩])
 (.seq (.dreg ⟨[0, 0, 2, 7, 0, 16, 63, 0, 128, 511, 1023], 0, [⟨0, 0, false, .r (.mov (.loc 0)), none⟩,
 ⟨1, 0, false, .r (.off 0 (.loc 3)), none⟩,
 ⟨2, 0, false, .r (.load false 1 (.tmp 1)), none⟩,
 ⟨4, 0, false, .r (.off 1 (.loc 3)), none⟩,
 ⟨5, 0, false, .r (.load false 1 (.tmp 4)), none⟩,
 ⟨7, 0, false, .r (.off 2 (.loc 3)), none⟩,
 ⟨8, 0, false, .r (.load false 1 (.tmp 7)), none⟩,
 ⟨3, 0, true, .call f0 [.tmp 0, .tmp 2], none⟩,
 ⟨6, 0, true, .call f0 [.tmp 3, .tmp 5], none⟩,
 ⟨9, 0, true, .call f0 [.tmp 6, .tmp 8], none⟩,
 ⟨10, 0, false, .r (.mov (.tmp 9)), none⟩], [(4, 10)]⟩)
 .ret)), [(.tmp (.loc 4))]⟩

/-- glebe/pack.Blob -/
def c_pack_Blob (f0 f1 : FuncId) : AFn := ⟨15, fun s => List.contains [0, 1, 4] s, (.seq (.reg [⟨.loc 4, .r (.mov (.cst .nils)), none⟩])
 (.seq (.reg [⟨.tmp 5, .r (.mov (.loc 0)), none⟩,
 ⟨.tmp 6, .r (.mov (.loc 1)), none⟩,
 ⟨.tmp 7, .r (.len (.tmp 6)), none⟩,
 ⟨.tmp 8, .r (.bin .add (.cst (.int .i64 8)) (.tmp 7)), none⟩,
 ⟨.tmp 9, .call f0 [.tmp 5, .tmp 8], none⟩,
 ⟨.tmp 10, .r (.mov (.loc 1)), none⟩,
 ⟨.tmp 11, .r (.len (.tmp 10)), none⟩,
 ⟨.tmp 12, .call f1 [.tmp 9, .tmp 11], none⟩,
 ⟨.tmp 13, .r (.mov (.loc 1)), none⟩,
 ⟨.tmp 14, .h (.app 1 1 (.tmp 12) (.tmp 13)), none⟩,
 ⟨.loc 4, .r (.mov (.tmp 14)), none⟩])
 .ret)), [(.tmp (.loc 4))]⟩

def c_pack_Ints_l0 (f0 f1 : FuncId) : AC := (.seq (.reg [⟨.loc 20, .r (.bin .lss (.loc 19) (.loc 18)), none⟩])
 (.seq (.cond (.loc 20) .skip
 (.exit 0))
 (.seq (.block 1 (.seq (.reg [⟨.tmp 21, .r (.idx 1 (.loc 17) (.loc 19)), none⟩,
 ⟨.tmp 22, .r (.load false 1 (.tmp 21)), none⟩,
 ⟨.loc 7, .r (.mov (.tmp 22)), none⟩])
 (.reg [⟨.tmp 23, .r (.mov (.loc 5)), none⟩,
 ⟨.tmp 24, .r (.mov (.loc 7)), none⟩,
 ⟨.tmp 25, .call f1 [.tmp 23, .tmp 24], none⟩,
 ⟨.loc 5, .r (.mov (.tmp 25)), none⟩])))
 (.reg [⟨.tmp 26, .r (.bin .add (.loc 19) (.cst (.int .i64 1))), none⟩,
 ⟨.loc 19, .r (.mov (.tmp 26)), none⟩]))))
/-- glebe/pack.Ints -/
def c_pack_Ints (f0 f1 : FuncId) : AFn := ⟨28, fun s => List.contains [0, 1, 4, 5, 7, 17, 18, 19, 20] s, (.seq (.reg [⟨.loc 4, .r (.mov (.cst .nils)), none⟩])
 (.seq (.reg [⟨.tmp 8, .r (.mov (.loc 0)), none⟩,
 ⟨.tmp 9, .r (.mov (.loc 1)), none⟩,
 ⟨.tmp 10, .r (.len (.tmp 9)), none⟩,
 ⟨.tmp 11, .r (.bin .mul (.cst (.int .i64 8)) (.tmp 10)), none⟩,
 ⟨.tmp 12, .r (.bin .add (.cst (.int .i64 8)) (.tmp 11)), none⟩,
 ⟨.tmp 13, .call f0 [.tmp 8, .tmp 12], none⟩,
 ⟨.tmp 14, .r (.mov (.loc 1)), none⟩,
 ⟨.tmp 15, .r (.len (.tmp 14)), none⟩,
 ⟨.tmp 16, .call f1 [.tmp 13, .tmp 15], none⟩,
 ⟨.loc 5, .r (.mov (.tmp 16)), none⟩])
 (.seq (.seq (.reg [⟨.loc 17, .r (.mov (.loc 1)), none⟩,
 ⟨.loc 18, .r (.len (.loc 17)), none⟩,
 ⟨.loc 19, .r (.mov (.cst (.int .i64 0))), none⟩])
 (.block 0 (.loop (c_pack_Ints_l0 f0 f1))))
 (.seq (.reg [⟨.tmp 27, .r (.mov (.loc 5)), none⟩,
 ⟨.loc 4, .r (.mov (.tmp 27)), none⟩])
 .ret)))), [(.tmp (.loc 4))]⟩

def c_pack_number_l0 : AC := (.seq (.seq (.reg [⟨.tmp 6, .r (.mov (.loc 5)), none⟩,
 ⟨.loc 7, .r (.bin .geq (.tmp 6) (.cst (.int .i64 0))), none⟩])
 (.cond (.loc 7) .skip
 (.exit 0)))
 (.seq (.block 1 (.reg [⟨.tmp 10, .r (.mov (.loc 0)), none⟩,
 ⟨.tmp 11, .r (.mov (.loc 1)), none⟩,
 ⟨.tmp 12, .r (.conv .u64 (.tmp 11)), none⟩,
 ⟨.tmp 13, .r (.mov (.loc 5)), none⟩,
 ⟨.tmp 14, .r (.bin .mul (.cst (.int .i64 8)) (.tmp 13)), none⟩,
 ⟨.tmp 15, .r (.bin .shr (.tmp 12) (.tmp 14)), none⟩,
 ⟨.tmp 16, .r (.conv .u8 (.tmp 15)), none⟩,
 ⟨.tmp 17, .h (.bsl 1 [.tmp 16]), none⟩,
 ⟨.tmp 18, .h (.app 1 1 (.tmp 10) (.tmp 17)), none⟩,
 ⟨.loc 0, .r (.mov (.tmp 18)), none⟩]))
 (.reg [⟨.tmp 8, .r (.mov (.loc 5)), none⟩,
 ⟨.tmp 9, .r (.bin .sub (.tmp 8) (.cst (.int .i64 1))), none⟩,
 ⟨.loc 5, .r (.mov (.tmp 9)), none⟩])))
/-- glebe/pack.number -/
def c_pack_number : AFn := ⟨20, fun s => List.contains [0, 1, 4, 5, 7] s, (.seq (.reg [⟨.loc 4, .r (.mov (.cst .nils)), none⟩])
 (.seq (.seq (.reg [⟨.loc 5, .r (.mov (.cst (.int .i64 7))), none⟩])
 (.block 0 (.loop (c_pack_number_l0))))
 (.seq (.reg [⟨.tmp 19, .r (.mov (.loc 0)), none⟩,
 ⟨.loc 4, .r (.mov (.tmp 19)), none⟩])
 .ret))), [(.tmp (.loc 4))]⟩

/-- glebe/pack.room -/
def c_pack_room : AFn := ⟨12, fun s => List.contains [0, 1, 4] s, (.seq (.reg [⟨.loc 4, .r (.mov (.cst .nils)), none⟩])
 (.seq (.reg [⟨.tmp 5, .r (.mov (.loc 0)), none⟩,
 ⟨.tmp 6, .r (.len (.tmp 5)), none⟩,
 ⟨.tmp 7, .r (.mov (.loc 1)), none⟩,
 ⟨.tmp 8, .r (.bin .add (.tmp 6) (.tmp 7)), none⟩,
 ⟨.tmp 9, .h (.mks 1 1 [(.int .u8 0)] (.cst (.int .i64 0)) (.tmp 8)), none⟩,
 ⟨.tmp 10, .r (.mov (.loc 0)), none⟩,
 ⟨.tmp 11, .h (.app 1 1 (.tmp 9) (.tmp 10)), none⟩,
 ⟨.loc 4, .r (.mov (.tmp 11)), none⟩])
 .ret)), [(.tmp (.loc 4))]⟩

end Glb
