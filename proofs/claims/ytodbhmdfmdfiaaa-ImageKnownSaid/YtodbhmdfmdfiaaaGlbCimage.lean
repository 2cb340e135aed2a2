/-
  What functions of the program are, one by one (the functions that they call as parameters), in a form of which something can be shown.
-/
import Derived.Test.YtodbhmdfmdfiaaaGlbLibB
set_option linter.unusedSimpArgs false
set_option linter.unusedVariables false
namespace Glb
open Go
set_option maxRecDepth 100000

/-- glebe/pack.Int -/
def c_pack_Int (f0 f1 : FuncId) : AFn := ⟨9, fun s => List.contains [0, 1, 4] s, (.seq (.reg [⟨.loc 4, .r (.mov (.cst .nils)), none⟩])
 (.seq (.reg [⟨.tmp 5, .r (.mov (.loc 0)), none⟩,
 ⟨.tmp 6, .call f0 [.tmp 5, (.cst (.int .i64 8))], none⟩,
 ⟨.tmp 7, .r (.mov (.loc 1)), none⟩,
 ⟨.tmp 8, .call f1 [.tmp 6, .tmp 7], none⟩,
 ⟨.loc 4, .r (.mov (.tmp 8)), none⟩])
 .ret)), [(.tmp (.loc 4))]⟩

def c_image_ints_l0 (f0 : FuncId) : AC := (.seq (.reg [⟨.loc 10, .r (.bin .lss (.loc 9) (.loc 8)), none⟩])
 (.seq (.cond (.loc 10) .skip
 (.exit 0))
 (.seq (.block 1 (.seq (.reg [⟨.tmp 11, .r (.idx 1 (.loc 7) (.loc 9)), none⟩,
 ⟨.tmp 12, .r (.load false 1 (.tmp 11)), none⟩,
 ⟨.loc 6, .r (.mov (.tmp 12)), none⟩])
 (.reg [⟨.tmp 13, .r (.mov (.loc 0)), none⟩,
 ⟨.tmp 14, .r (.mov (.loc 6)), none⟩,
 ⟨.tmp 15, .call f0 [.tmp 13, .tmp 14], none⟩,
 ⟨.loc 0, .r (.mov (.tmp 15)), none⟩])))
 (.reg [⟨.tmp 16, .r (.bin .add (.loc 9) (.cst (.int .i64 1))), none⟩,
 ⟨.loc 9, .r (.mov (.tmp 16)), none⟩]))))
/-- glebe/image.ints -/
def c_image_ints (f0 : FuncId) : AFn := ⟨18, fun s => List.contains [0, 1, 4, 6, 7, 8, 9, 10] s, (.seq (.reg [⟨.loc 4, .r (.mov (.cst .nils)), none⟩])
 (.seq (.seq (.reg [⟨.loc 7, .r (.mov (.loc 1)), none⟩,
 ⟨.loc 8, .r (.len (.loc 7)), none⟩,
 ⟨.loc 9, .r (.mov (.cst (.int .i64 0))), none⟩])
 (.block 0 (.loop (c_image_ints_l0 f0))))
 (.seq (.reg [⟨.tmp 17, .r (.mov (.loc 0)), none⟩,
 ⟨.loc 4, .r (.mov (.tmp 17)), none⟩])
 .ret))), [(.tmp (.loc 4))]⟩

/-- glebe/image.putEntry -/
def c_image_putEntry (f0 f1 : FuncId) : AFn := ⟨15, fun s => List.contains [0, 1, 3, 4] s, (.seq (.reg [⟨.loc 3, .h (.box (.loc 1)), none⟩,
 ⟨.loc 4, .r (.mov (.cst .nils)), none⟩])
 (.seq (.dreg ⟨[0, 0, 2, 0, 8, 30, 63, 0, 128, 511, 1023], 1, [⟨0, 0, false, .r (.mov (.loc 0)), none⟩,
 ⟨1, 0, false, .r (.off 0 (.loc 3)), none⟩,
 ⟨2, 0, false, .r (.load false 1 (.tmp 1)), none⟩,
 ⟨3, 0, false, .r (.off 1 (.loc 3)), none⟩,
 ⟨4, 0, false, .r (.load false 1 (.tmp 3)), none⟩,
 ⟨5, 0, false, .h (.bsl 1 [.tmp 2, .tmp 4]), none⟩,
 ⟨7, 1, false, .r (.off 2 (.loc 3)), none⟩,
 ⟨8, 1, false, .r (.load false 1 (.tmp 7)), none⟩,
 ⟨6, 1, true, .call f0 [.tmp 0, .tmp 5], none⟩,
 ⟨9, 1, true, .call f1 [.tmp 6, .tmp 8], none⟩,
 ⟨10, 1, false, .r (.mov (.tmp 9)), none⟩], [(4, 10)]⟩)
 .ret)), [(.tmp (.loc 4))]⟩

/-- glebe/image.putLog -/
def c_image_putLog (f0 f1 f2 : FuncId) : AFn := ⟨15, fun s => List.contains [0, 1, 3, 4] s, (.seq (.reg [⟨.loc 3, .h (.box (.loc 1)), none⟩,
 ⟨.loc 4, .r (.mov (.cst .nils)), none⟩])
 (.seq (.dreg ⟨[0, 0, 2, 0, 8, 30, 63, 0, 128, 511, 1023], 1, [⟨0, 0, false, .r (.mov (.loc 0)), none⟩,
 ⟨1, 0, false, .r (.off 0 (.loc 3)), none⟩,
 ⟨2, 0, false, .r (.load false 1 (.tmp 1)), none⟩,
 ⟨3, 0, false, .r (.off 1 (.loc 3)), none⟩,
 ⟨4, 0, false, .r (.load false 1 (.tmp 3)), none⟩,
 ⟨5, 0, false, .h (.bsl 1 [.tmp 2, .tmp 4]), none⟩,
 ⟨7, 1, false, .r (.off 2 (.loc 3)), none⟩,
 ⟨8, 1, false, .r (.load false 1 (.tmp 7)), none⟩,
 ⟨6, 1, true, .call f0 [.tmp 0, .tmp 5], none⟩,
 ⟨9, 1, true, .call f1 [.tmp 6, .tmp 8, (.cst (.clo f2 [] []))], none⟩,
 ⟨10, 1, false, .r (.mov (.tmp 9)), none⟩], [(4, 10)]⟩)
 .ret)), [(.tmp (.loc 4))]⟩

/-- glebe/image.putVote -/
def c_image_putVote (f0 : FuncId) : AFn := ⟨18, fun s => List.contains [0, 1, 3, 4] s, (.seq (.reg [⟨.loc 3, .h (.box (.loc 1)), none⟩,
 ⟨.loc 4, .r (.mov (.cst .nils)), none⟩])
 (.seq (.reg [⟨.tmp 5, .r (.mov (.loc 0)), none⟩,
 ⟨.tmp 6, .r (.off 0 (.loc 3)), none⟩,
 ⟨.tmp 7, .r (.load false 1 (.tmp 6)), none⟩,
 ⟨.tmp 8, .r (.off 1 (.loc 3)), none⟩,
 ⟨.tmp 9, .r (.load false 1 (.tmp 8)), none⟩,
 ⟨.tmp 10, .r (.off 2 (.loc 3)), none⟩,
 ⟨.tmp 11, .r (.load false 1 (.tmp 10)), none⟩,
 ⟨.tmp 12, .r (.off 3 (.loc 3)), none⟩,
 ⟨.tmp 13, .r (.load false 1 (.tmp 12)), none⟩,
 ⟨.tmp 14, .r (.off 4 (.loc 3)), none⟩,
 ⟨.tmp 15, .r (.load false 1 (.tmp 14)), none⟩,
 ⟨.tmp 16, .h (.bsl 1 [.tmp 7, .tmp 9, .tmp 11, .tmp 13, .tmp 15]), none⟩,
 ⟨.tmp 17, .call f0 [.tmp 5, .tmp 16], none⟩,
 ⟨.loc 4, .r (.mov (.tmp 17)), none⟩])
 .ret)), [(.tmp (.loc 4))]⟩

/-- glebe/image.putHard -/
def c_image_putHard (f0 f1 f2 f3 : FuncId) : AFn := ⟨23, fun s => List.contains [0, 1, 3, 4] s, (.seq (.reg [⟨.loc 3, .h (.box (.loc 1)), none⟩,
 ⟨.loc 4, .r (.mov (.cst .nils)), none⟩])
 (.seq (.dreg ⟨[0, 0, 2, 0, 8, 0, 32, 126, 255, 0, 512, 2047, 0, 4096, 16383, 0, 32768, 131071, 262143], 1, [⟨0, 0, false, .r (.mov (.loc 0)), none⟩,
 ⟨1, 0, false, .r (.off 0 (.loc 3)), none⟩,
 ⟨2, 0, false, .r (.load false 1 (.tmp 1)), none⟩,
 ⟨3, 0, false, .r (.off 1 (.loc 3)), none⟩,
 ⟨4, 0, false, .r (.load false 1 (.tmp 3)), none⟩,
 ⟨5, 0, false, .r (.off 2 (.loc 3)), none⟩,
 ⟨6, 0, false, .r (.load false 1 (.tmp 5)), none⟩,
 ⟨7, 0, false, .h (.bsl 1 [.tmp 2, .tmp 4, .tmp 6]), none⟩,
 ⟨9, 1, false, .r (.off 3 (.loc 3)), none⟩,
 ⟨10, 1, false, .r (.load true 3 (.tmp 9)), none⟩,
 ⟨12, 1, false, .r (.off 6 (.loc 3)), none⟩,
 ⟨13, 1, false, .r (.load true 3 (.tmp 12)), none⟩,
 ⟨15, 1, false, .r (.off 9 (.loc 3)), none⟩,
 ⟨16, 1, false, .r (.load false 1 (.tmp 15)), none⟩,
 ⟨8, 1, true, .call f0 [.tmp 0, .tmp 7], none⟩,
 ⟨11, 1, true, .call f1 [.tmp 8, .tmp 10], none⟩,
 ⟨14, 1, true, .call f2 [.tmp 11, .tmp 13], none⟩,
 ⟨17, 1, true, .call f3 [.tmp 14, .tmp 16], none⟩,
 ⟨18, 1, false, .r (.mov (.tmp 17)), none⟩], [(4, 18)]⟩)
 .ret)), [(.tmp (.loc 4))]⟩

/-- glebe/image.putChange -/
def c_image_putChange (f0 f1 f2 f3 f4 : FuncId) : AFn := ⟨31, fun s => List.contains [0, 1, 3, 4] s, (.seq (.reg [⟨.loc 3, .h (.box (.loc 1)), none⟩,
 ⟨.loc 4, .r (.mov (.cst .nils)), none⟩])
 (.seq (.dreg ⟨[0, 0, 2, 0, 8, 0, 32, 0, 128, 0, 512, 2046, 4095, 0, 8192, 32767, 65535], 1, [⟨0, 0, false, .r (.mov (.loc 0)), none⟩,
 ⟨1, 0, false, .r (.off 0 (.loc 3)), none⟩,
 ⟨2, 0, false, .r (.load false 1 (.tmp 1)), none⟩,
 ⟨3, 0, false, .r (.off 1 (.loc 3)), none⟩,
 ⟨4, 0, false, .r (.load false 1 (.tmp 3)), none⟩,
 ⟨5, 0, false, .r (.off 2 (.loc 3)), none⟩,
 ⟨6, 0, false, .r (.load false 1 (.tmp 5)), none⟩,
 ⟨7, 0, false, .r (.off 3 (.loc 3)), none⟩,
 ⟨8, 0, false, .r (.load false 1 (.tmp 7)), none⟩,
 ⟨9, 0, false, .r (.off 4 (.loc 3)), none⟩,
 ⟨10, 0, false, .r (.load false 1 (.tmp 9)), none⟩,
 ⟨11, 0, false, .h (.bsl 1 [.tmp 2, .tmp 4, .tmp 6, .tmp 8, .tmp 10]), none⟩,
 ⟨13, 1, false, .r (.off 5 (.loc 3)), none⟩,
 ⟨14, 1, false, .r (.load true 3 (.tmp 13)), none⟩,
 ⟨12, 1, true, .call f0 [.tmp 0, .tmp 11], none⟩,
 ⟨15, 1, true, .call f1 [.tmp 12, .tmp 14], none⟩,
 ⟨16, 1, false, .r (.mov (.tmp 15)), none⟩], [(0, 16)]⟩)
 (.seq (.dreg ⟨[0, 0, 2, 7, 0, 16, 63, 0, 128, 511, 1023], 0, [⟨0, 0, false, .r (.mov (.loc 0)), none⟩,
 ⟨1, 0, false, .r (.off 8 (.loc 3)), none⟩,
 ⟨2, 0, false, .r (.load true 3 (.tmp 1)), none⟩,
 ⟨4, 0, false, .r (.off 11 (.loc 3)), none⟩,
 ⟨5, 0, false, .r (.load false 1 (.tmp 4)), none⟩,
 ⟨7, 0, false, .r (.off 12 (.loc 3)), none⟩,
 ⟨8, 0, false, .r (.load true 5 (.tmp 7)), none⟩,
 ⟨3, 0, true, .call f2 [.tmp 0, .tmp 2], none⟩,
 ⟨6, 0, true, .call f3 [.tmp 3, .tmp 5], none⟩,
 ⟨9, 0, true, .call f4 [.tmp 6, .tmp 8], none⟩,
 ⟨10, 0, false, .r (.mov (.tmp 9)), none⟩], [(4, 10)]⟩)
 .ret))), [(.tmp (.loc 4))]⟩

/-- glebe/image.Put -/
def c_image_Put (f0 f1 f2 f3 : FuncId) : AFn := ⟨9, fun s => List.contains [0, 1, 2] s, (.seq (.reg [⟨.loc 1, .h (.box (.loc 0)), none⟩,
 ⟨.loc 2, .r (.mov (.cst .nils)), none⟩])
 (.seq (.dreg ⟨[0, 1, 3, 0, 8, 31, 63], 0, [⟨0, 0, false, .r (.off 0 (.loc 1)), none⟩,
 ⟨1, 0, false, .r (.load false 1 (.tmp 0)), none⟩,
 ⟨3, 0, false, .r (.off 1 (.loc 1)), none⟩,
 ⟨4, 0, false, .r (.load false 1 (.tmp 3)), none⟩,
 ⟨2, 0, true, .call f0 [(.cst .nils), .tmp 1, (.cst (.clo f1 [] []))], none⟩,
 ⟨5, 0, true, .call f2 [.tmp 2, .tmp 4, (.cst (.clo f3 [] []))], none⟩,
 ⟨6, 0, false, .r (.mov (.tmp 5)), none⟩], [(2, 6)]⟩)
 .ret)), [(.tmp (.loc 2))]⟩

def c_image_putList_api_Entry_l0 (f0 : FuncId) : AC := (.seq (.reg [⟨.loc 16, .r (.bin .lss (.loc 15) (.loc 14)), none⟩])
 (.seq (.cond (.loc 16) .skip
 (.exit 0))
 (.seq (.block 1 (.seq (.reg [⟨.tmp 17, .r (.idx 3 (.loc 13) (.loc 15)), none⟩,
 ⟨.tmp 18, .r (.load true 3 (.tmp 17)), none⟩,
 ⟨.loc 8, .h (.mk [(.int .i64 0), (.int .i64 0), .nils]), none⟩,
 ⟨.none, .h (.store 3 (.loc 8) (.tmp 18)), none⟩])
 (.reg [⟨.tmp 19, .r (.mov (.loc 2)), none⟩,
 ⟨.tmp 20, .r (.mov (.loc 0)), none⟩,
 ⟨.tmp 21, .r (.load true 3 (.loc 8)), none⟩,
 ⟨(.tmp 22), (.callv (.tmp 19) [.tmp 20, .tmp 21]), none⟩,
 ⟨.loc 0, .r (.mov (.tmp 22)), none⟩])))
 (.reg [⟨.tmp 23, .r (.bin .add (.loc 15) (.cst (.int .i64 1))), none⟩,
 ⟨.loc 15, .r (.mov (.tmp 23)), none⟩]))))
/-- glebe/image.putList[glebe/api.Entry] -/
def c_image_putList_api_Entry (f0 : FuncId) : AFn := ⟨25, fun s => List.contains [0, 1, 2, 6, 8, 13, 14, 15, 16] s, (.seq (.reg [⟨.loc 6, .r (.mov (.cst .nils)), none⟩])
 (.seq (.reg [⟨.tmp 9, .r (.mov (.loc 0)), none⟩,
 ⟨.tmp 10, .r (.mov (.loc 1)), none⟩,
 ⟨.tmp 11, .r (.len (.tmp 10)), none⟩,
 ⟨.tmp 12, .call f0 [.tmp 9, .tmp 11], none⟩,
 ⟨.loc 0, .r (.mov (.tmp 12)), none⟩])
 (.seq (.seq (.reg [⟨.loc 13, .r (.mov (.loc 1)), none⟩,
 ⟨.loc 14, .r (.len (.loc 13)), none⟩,
 ⟨.loc 15, .r (.mov (.cst (.int .i64 0))), none⟩])
 (.block 0 (.loop (c_image_putList_api_Entry_l0 f0))))
 (.seq (.reg [⟨.tmp 24, .r (.mov (.loc 0)), none⟩,
 ⟨.loc 6, .r (.mov (.tmp 24)), none⟩])
 .ret)))), [(.tmp (.loc 6))]⟩

def c_image_putList_api_Hard_l0 (f0 : FuncId) : AC := (.seq (.reg [⟨.loc 16, .r (.bin .lss (.loc 15) (.loc 14)), none⟩])
 (.seq (.cond (.loc 16) .skip
 (.exit 0))
 (.seq (.block 1 (.seq (.reg [⟨.tmp 17, .r (.idx 10 (.loc 13) (.loc 15)), none⟩,
 ⟨.tmp 18, .r (.load true 10 (.tmp 17)), none⟩,
 ⟨.loc 8, .h (.mk [(.int .i64 0), (.int .i64 0), (.int .i64 0), (.int .i64 0), (.int .i64 0), .nils, .nils, .nils, .nils, .nils]), none⟩,
 ⟨.none, .h (.store 10 (.loc 8) (.tmp 18)), none⟩])
 (.reg [⟨.tmp 19, .r (.mov (.loc 2)), none⟩,
 ⟨.tmp 20, .r (.mov (.loc 0)), none⟩,
 ⟨.tmp 21, .r (.load true 10 (.loc 8)), none⟩,
 ⟨(.tmp 22), (.callv (.tmp 19) [.tmp 20, .tmp 21]), none⟩,
 ⟨.loc 0, .r (.mov (.tmp 22)), none⟩])))
 (.reg [⟨.tmp 23, .r (.bin .add (.loc 15) (.cst (.int .i64 1))), none⟩,
 ⟨.loc 15, .r (.mov (.tmp 23)), none⟩]))))
/-- glebe/image.putList[glebe/api.Hard] -/
def c_image_putList_api_Hard (f0 : FuncId) : AFn := ⟨25, fun s => List.contains [0, 1, 2, 6, 8, 13, 14, 15, 16] s, (.seq (.reg [⟨.loc 6, .r (.mov (.cst .nils)), none⟩])
 (.seq (.reg [⟨.tmp 9, .r (.mov (.loc 0)), none⟩,
 ⟨.tmp 10, .r (.mov (.loc 1)), none⟩,
 ⟨.tmp 11, .r (.len (.tmp 10)), none⟩,
 ⟨.tmp 12, .call f0 [.tmp 9, .tmp 11], none⟩,
 ⟨.loc 0, .r (.mov (.tmp 12)), none⟩])
 (.seq (.seq (.reg [⟨.loc 13, .r (.mov (.loc 1)), none⟩,
 ⟨.loc 14, .r (.len (.loc 13)), none⟩,
 ⟨.loc 15, .r (.mov (.cst (.int .i64 0))), none⟩])
 (.block 0 (.loop (c_image_putList_api_Hard_l0 f0))))
 (.seq (.reg [⟨.tmp 24, .r (.mov (.loc 0)), none⟩,
 ⟨.loc 6, .r (.mov (.tmp 24)), none⟩])
 .ret)))), [(.tmp (.loc 6))]⟩

def c_image_putList_api_Accepted_l0 (f0 : FuncId) : AC := (.seq (.reg [⟨.loc 16, .r (.bin .lss (.loc 15) (.loc 14)), none⟩])
 (.seq (.cond (.loc 16) .skip
 (.exit 0))
 (.seq (.block 1 (.seq (.reg [⟨.tmp 17, .r (.idx 5 (.loc 13) (.loc 15)), none⟩,
 ⟨.tmp 18, .r (.load true 5 (.tmp 17)), none⟩,
 ⟨.loc 8, .h (.mk [(.int .i64 0), (.int .i64 0), (.int .i64 0), (.int .i64 0), (.int .i64 0)]), none⟩,
 ⟨.none, .h (.store 5 (.loc 8) (.tmp 18)), none⟩])
 (.reg [⟨.tmp 19, .r (.mov (.loc 2)), none⟩,
 ⟨.tmp 20, .r (.mov (.loc 0)), none⟩,
 ⟨.tmp 21, .r (.load true 5 (.loc 8)), none⟩,
 ⟨(.tmp 22), (.callv (.tmp 19) [.tmp 20, .tmp 21]), none⟩,
 ⟨.loc 0, .r (.mov (.tmp 22)), none⟩])))
 (.reg [⟨.tmp 23, .r (.bin .add (.loc 15) (.cst (.int .i64 1))), none⟩,
 ⟨.loc 15, .r (.mov (.tmp 23)), none⟩]))))
/-- glebe/image.putList[glebe/api.Accepted] -/
def c_image_putList_api_Accepted (f0 : FuncId) : AFn := ⟨25, fun s => List.contains [0, 1, 2, 6, 8, 13, 14, 15, 16] s, (.seq (.reg [⟨.loc 6, .r (.mov (.cst .nils)), none⟩])
 (.seq (.reg [⟨.tmp 9, .r (.mov (.loc 0)), none⟩,
 ⟨.tmp 10, .r (.mov (.loc 1)), none⟩,
 ⟨.tmp 11, .r (.len (.tmp 10)), none⟩,
 ⟨.tmp 12, .call f0 [.tmp 9, .tmp 11], none⟩,
 ⟨.loc 0, .r (.mov (.tmp 12)), none⟩])
 (.seq (.seq (.reg [⟨.loc 13, .r (.mov (.loc 1)), none⟩,
 ⟨.loc 14, .r (.len (.loc 13)), none⟩,
 ⟨.loc 15, .r (.mov (.cst (.int .i64 0))), none⟩])
 (.block 0 (.loop (c_image_putList_api_Accepted_l0 f0))))
 (.seq (.reg [⟨.tmp 24, .r (.mov (.loc 0)), none⟩,
 ⟨.loc 6, .r (.mov (.tmp 24)), none⟩])
 .ret)))), [(.tmp (.loc 6))]⟩

def c_image_getList_api_Entry_l0 (f0 f1 f2 : FuncId) : AC := (.seq (.reg [⟨.loc 21, .r (.bin .lss (.loc 20) (.loc 19)), none⟩])
 (.seq (.cond (.loc 21) .skip
 (.exit 0))
 (.seq (.block 1 (.seq (.reg [⟨.tmp 22, .r (.mov (.loc 7)), none⟩,
 ⟨.tmp 23, .r (.mov (.loc 1)), none⟩,
 ⟨(.tmp 24), (.callv (.tmp 23) []), none⟩,
 ⟨.tmp 25, .h (.bsl 3 [.tmp 24]), none⟩,
 ⟨.tmp 26, .h (.app 3 40 (.tmp 22) (.tmp 25)), none⟩,
 ⟨.loc 7, .r (.mov (.tmp 26)), none⟩])
 (.seq (.reg [⟨.tmp 27, .r (.mov (.loc 0)), none⟩,
 ⟨.loc 28, .call f2 [.tmp 27], none⟩])
 (.cond (.loc 28) (.seq (.reg [⟨.loc 4, .r (.mov (.cst .nils)), none⟩,
 ⟨.loc 5, .r (.mov (.cst (.bool false))), none⟩])
 .ret)
 .skip))))
 (.reg [⟨.tmp 29, .r (.bin .add (.loc 20) (.cst (.int .i64 1))), none⟩,
 ⟨.loc 20, .r (.mov (.tmp 29)), none⟩]))))
/-- glebe/image.getList[glebe/api.Entry] -/
def c_image_getList_api_Entry (f0 f1 f2 : FuncId) : AFn := ⟨34, fun s => List.contains [0, 1, 4, 5, 6, 7, 18, 19, 20, 21, 28] s, (.seq (.reg [⟨.loc 4, .r (.mov (.cst .nils)), none⟩,
 ⟨.loc 5, .r (.mov (.cst (.bool false))), none⟩])
 (.seq (.reg [⟨.tmp 8, .r (.mov (.loc 0)), none⟩,
 ⟨.tmp 9, .call f0 [.tmp 8], none⟩,
 ⟨.loc 6, .r (.mov (.tmp 9)), none⟩])
 (.seq (.seq (.reg [⟨.tmp 10, .r (.mov (.loc 6)), none⟩,
 ⟨.tmp 11, .r (.bin .lss (.tmp 10) (.cst (.int .i64 0))), none⟩,
 ⟨.tmp 12, .r (.mov (.tmp 11)), none⟩,
 ⟨.tmp 13, .r (.mov (.loc 6)), some (.tmp 12, false)⟩,
 ⟨.tmp 14, .r (.mov (.loc 0)), some (.tmp 12, false)⟩,
 ⟨.tmp 15, .call f1 [.tmp 14], some (.tmp 12, false)⟩,
 ⟨.tmp 16, .r (.bin .quo (.tmp 15) (.cst (.int .i64 8))), some (.tmp 12, false)⟩,
 ⟨.tmp 17, .r (.bin .gtr (.tmp 13) (.tmp 16)), some (.tmp 12, false)⟩,
 ⟨.loc 18, .r (.pick (.tmp 12) (.cst (.bool true)) (.tmp 17)), none⟩])
 (.cond (.loc 18) (.seq (.reg [⟨.loc 4, .r (.mov (.cst .nils)), none⟩,
 ⟨.loc 5, .r (.mov (.cst (.bool false))), none⟩])
 .ret)
 .skip))
 (.seq (.reg [⟨.loc 7, .r (.mov (.cst .nils)), none⟩])
 (.seq (.seq (.reg [⟨.loc 19, .r (.mov (.loc 6)), none⟩,
 ⟨.loc 20, .r (.mov (.cst (.int .i64 0))), none⟩])
 (.block 0 (.loop (c_image_getList_api_Entry_l0 f0 f1 f2))))
 (.seq (.reg [⟨.tmp 30, .r (.mov (.loc 7)), none⟩,
 ⟨.tmp 31, .r (.mov (.loc 0)), none⟩,
 ⟨.tmp 32, .call f2 [.tmp 31], none⟩,
 ⟨.tmp 33, .r (.not (.tmp 32)), none⟩,
 ⟨.loc 4, .r (.mov (.tmp 30)), none⟩,
 ⟨.loc 5, .r (.mov (.tmp 33)), none⟩])
 .ret)))))), [(.tmp (.loc 4)), (.tmp (.loc 5))]⟩

def c_image_getList_api_Hard_l0 (f0 f1 f2 : FuncId) : AC := (.seq (.reg [⟨.loc 21, .r (.bin .lss (.loc 20) (.loc 19)), none⟩])
 (.seq (.cond (.loc 21) .skip
 (.exit 0))
 (.seq (.block 1 (.seq (.reg [⟨.tmp 22, .r (.mov (.loc 7)), none⟩,
 ⟨.tmp 23, .r (.mov (.loc 1)), none⟩,
 ⟨(.tmp 24), (.callv (.tmp 23) []), none⟩,
 ⟨.tmp 25, .h (.bsl 10 [.tmp 24]), none⟩,
 ⟨.tmp 26, .h (.app 10 160 (.tmp 22) (.tmp 25)), none⟩,
 ⟨.loc 7, .r (.mov (.tmp 26)), none⟩])
 (.seq (.reg [⟨.tmp 27, .r (.mov (.loc 0)), none⟩,
 ⟨.loc 28, .call f2 [.tmp 27], none⟩])
 (.cond (.loc 28) (.seq (.reg [⟨.loc 4, .r (.mov (.cst .nils)), none⟩,
 ⟨.loc 5, .r (.mov (.cst (.bool false))), none⟩])
 .ret)
 .skip))))
 (.reg [⟨.tmp 29, .r (.bin .add (.loc 20) (.cst (.int .i64 1))), none⟩,
 ⟨.loc 20, .r (.mov (.tmp 29)), none⟩]))))
/-- glebe/image.getList[glebe/api.Hard] -/
def c_image_getList_api_Hard (f0 f1 f2 : FuncId) : AFn := ⟨34, fun s => List.contains [0, 1, 4, 5, 6, 7, 18, 19, 20, 21, 28] s, (.seq (.reg [⟨.loc 4, .r (.mov (.cst .nils)), none⟩,
 ⟨.loc 5, .r (.mov (.cst (.bool false))), none⟩])
 (.seq (.reg [⟨.tmp 8, .r (.mov (.loc 0)), none⟩,
 ⟨.tmp 9, .call f0 [.tmp 8], none⟩,
 ⟨.loc 6, .r (.mov (.tmp 9)), none⟩])
 (.seq (.seq (.reg [⟨.tmp 10, .r (.mov (.loc 6)), none⟩,
 ⟨.tmp 11, .r (.bin .lss (.tmp 10) (.cst (.int .i64 0))), none⟩,
 ⟨.tmp 12, .r (.mov (.tmp 11)), none⟩,
 ⟨.tmp 13, .r (.mov (.loc 6)), some (.tmp 12, false)⟩,
 ⟨.tmp 14, .r (.mov (.loc 0)), some (.tmp 12, false)⟩,
 ⟨.tmp 15, .call f1 [.tmp 14], some (.tmp 12, false)⟩,
 ⟨.tmp 16, .r (.bin .quo (.tmp 15) (.cst (.int .i64 8))), some (.tmp 12, false)⟩,
 ⟨.tmp 17, .r (.bin .gtr (.tmp 13) (.tmp 16)), some (.tmp 12, false)⟩,
 ⟨.loc 18, .r (.pick (.tmp 12) (.cst (.bool true)) (.tmp 17)), none⟩])
 (.cond (.loc 18) (.seq (.reg [⟨.loc 4, .r (.mov (.cst .nils)), none⟩,
 ⟨.loc 5, .r (.mov (.cst (.bool false))), none⟩])
 .ret)
 .skip))
 (.seq (.reg [⟨.loc 7, .r (.mov (.cst .nils)), none⟩])
 (.seq (.seq (.reg [⟨.loc 19, .r (.mov (.loc 6)), none⟩,
 ⟨.loc 20, .r (.mov (.cst (.int .i64 0))), none⟩])
 (.block 0 (.loop (c_image_getList_api_Hard_l0 f0 f1 f2))))
 (.seq (.reg [⟨.tmp 30, .r (.mov (.loc 7)), none⟩,
 ⟨.tmp 31, .r (.mov (.loc 0)), none⟩,
 ⟨.tmp 32, .call f2 [.tmp 31], none⟩,
 ⟨.tmp 33, .r (.not (.tmp 32)), none⟩,
 ⟨.loc 4, .r (.mov (.tmp 30)), none⟩,
 ⟨.loc 5, .r (.mov (.tmp 33)), none⟩])
 .ret)))))), [(.tmp (.loc 4)), (.tmp (.loc 5))]⟩

def c_image_getList_api_Accepted_l0 (f0 f1 f2 : FuncId) : AC := (.seq (.reg [⟨.loc 21, .r (.bin .lss (.loc 20) (.loc 19)), none⟩])
 (.seq (.cond (.loc 21) .skip
 (.exit 0))
 (.seq (.block 1 (.seq (.reg [⟨.tmp 22, .r (.mov (.loc 7)), none⟩,
 ⟨.tmp 23, .r (.mov (.loc 1)), none⟩,
 ⟨(.tmp 24), (.callv (.tmp 23) []), none⟩,
 ⟨.tmp 25, .h (.bsl 5 [.tmp 24]), none⟩,
 ⟨.tmp 26, .h (.app 5 40 (.tmp 22) (.tmp 25)), none⟩,
 ⟨.loc 7, .r (.mov (.tmp 26)), none⟩])
 (.seq (.reg [⟨.tmp 27, .r (.mov (.loc 0)), none⟩,
 ⟨.loc 28, .call f2 [.tmp 27], none⟩])
 (.cond (.loc 28) (.seq (.reg [⟨.loc 4, .r (.mov (.cst .nils)), none⟩,
 ⟨.loc 5, .r (.mov (.cst (.bool false))), none⟩])
 .ret)
 .skip))))
 (.reg [⟨.tmp 29, .r (.bin .add (.loc 20) (.cst (.int .i64 1))), none⟩,
 ⟨.loc 20, .r (.mov (.tmp 29)), none⟩]))))
/-- glebe/image.getList[glebe/api.Accepted] -/
def c_image_getList_api_Accepted (f0 f1 f2 : FuncId) : AFn := ⟨34, fun s => List.contains [0, 1, 4, 5, 6, 7, 18, 19, 20, 21, 28] s, (.seq (.reg [⟨.loc 4, .r (.mov (.cst .nils)), none⟩,
 ⟨.loc 5, .r (.mov (.cst (.bool false))), none⟩])
 (.seq (.reg [⟨.tmp 8, .r (.mov (.loc 0)), none⟩,
 ⟨.tmp 9, .call f0 [.tmp 8], none⟩,
 ⟨.loc 6, .r (.mov (.tmp 9)), none⟩])
 (.seq (.seq (.reg [⟨.tmp 10, .r (.mov (.loc 6)), none⟩,
 ⟨.tmp 11, .r (.bin .lss (.tmp 10) (.cst (.int .i64 0))), none⟩,
 ⟨.tmp 12, .r (.mov (.tmp 11)), none⟩,
 ⟨.tmp 13, .r (.mov (.loc 6)), some (.tmp 12, false)⟩,
 ⟨.tmp 14, .r (.mov (.loc 0)), some (.tmp 12, false)⟩,
 ⟨.tmp 15, .call f1 [.tmp 14], some (.tmp 12, false)⟩,
 ⟨.tmp 16, .r (.bin .quo (.tmp 15) (.cst (.int .i64 8))), some (.tmp 12, false)⟩,
 ⟨.tmp 17, .r (.bin .gtr (.tmp 13) (.tmp 16)), some (.tmp 12, false)⟩,
 ⟨.loc 18, .r (.pick (.tmp 12) (.cst (.bool true)) (.tmp 17)), none⟩])
 (.cond (.loc 18) (.seq (.reg [⟨.loc 4, .r (.mov (.cst .nils)), none⟩,
 ⟨.loc 5, .r (.mov (.cst (.bool false))), none⟩])
 .ret)
 .skip))
 (.seq (.reg [⟨.loc 7, .r (.mov (.cst .nils)), none⟩])
 (.seq (.seq (.reg [⟨.loc 19, .r (.mov (.loc 6)), none⟩,
 ⟨.loc 20, .r (.mov (.cst (.int .i64 0))), none⟩])
 (.block 0 (.loop (c_image_getList_api_Accepted_l0 f0 f1 f2))))
 (.seq (.reg [⟨.tmp 30, .r (.mov (.loc 7)), none⟩,
 ⟨.tmp 31, .r (.mov (.loc 0)), none⟩,
 ⟨.tmp 32, .call f2 [.tmp 31], none⟩,
 ⟨.tmp 33, .r (.not (.tmp 32)), none⟩,
 ⟨.loc 4, .r (.mov (.tmp 30)), none⟩,
 ⟨.loc 5, .r (.mov (.tmp 33)), none⟩])
 .ret)))))), [(.tmp (.loc 4)), (.tmp (.loc 5))]⟩

/-- glebe/image.listOf[glebe/api.Entry] -/
def c_image_listOf_api_Entry (f0 : FuncId) : AFn := ⟨22, fun s => List.contains [0, 1, 4, 5, 6, 17] s, (.seq (.reg [⟨.loc 4, .r (.mov (.cst .nils)), none⟩])
 (.seq (.reg [⟨.tmp 8, .r (.mov (.loc 0)), none⟩,
 ⟨.tmp 9, .r (.chk (.tmp 8)), none⟩,
 ⟨.tmp 10, .r (.off 0 (.tmp 9)), none⟩,
 ⟨.tmp 11, .r (.load false 1 (.tmp 10)), none⟩,
 ⟨.tmp 12, .r (.mov (.loc 1)), none⟩,
 ⟨.tmp 13, .call f0 [.tmp 11, .tmp 12], none⟩,
 ⟨.tmp 7, .r (.mov (.tmp 13)), none⟩,
 ⟨.tmp 14, .r (.ext (.tmp 7) 0), none⟩,
 ⟨.tmp 15, .r (.ext (.tmp 7) 1), none⟩,
 ⟨.loc 5, .r (.mov (.tmp 14)), none⟩,
 ⟨.loc 6, .r (.mov (.tmp 15)), none⟩])
 (.seq (.seq (.reg [⟨.tmp 16, .r (.mov (.loc 6)), none⟩,
 ⟨.loc 17, .r (.not (.tmp 16)), none⟩])
 (.cond (.loc 17) (.reg [⟨.tmp 18, .r (.mov (.loc 0)), none⟩,
 ⟨.tmp 19, .r (.chk (.tmp 18)), none⟩,
 ⟨.tmp 20, .r (.off 1 (.tmp 19)), none⟩,
 ⟨.none, .h (.store 1 (.tmp 20) (.cst (.bool true))), none⟩])
 .skip))
 (.seq (.reg [⟨.tmp 21, .r (.mov (.loc 5)), none⟩,
 ⟨.loc 4, .r (.mov (.tmp 21)), none⟩])
 .ret)))), [(.tmp (.loc 4))]⟩

/-- glebe/image.listOf[glebe/api.Hard] -/
def c_image_listOf_api_Hard (f0 : FuncId) : AFn := ⟨22, fun s => List.contains [0, 1, 4, 5, 6, 17] s, (.seq (.reg [⟨.loc 4, .r (.mov (.cst .nils)), none⟩])
 (.seq (.reg [⟨.tmp 8, .r (.mov (.loc 0)), none⟩,
 ⟨.tmp 9, .r (.chk (.tmp 8)), none⟩,
 ⟨.tmp 10, .r (.off 0 (.tmp 9)), none⟩,
 ⟨.tmp 11, .r (.load false 1 (.tmp 10)), none⟩,
 ⟨.tmp 12, .r (.mov (.loc 1)), none⟩,
 ⟨.tmp 13, .call f0 [.tmp 11, .tmp 12], none⟩,
 ⟨.tmp 7, .r (.mov (.tmp 13)), none⟩,
 ⟨.tmp 14, .r (.ext (.tmp 7) 0), none⟩,
 ⟨.tmp 15, .r (.ext (.tmp 7) 1), none⟩,
 ⟨.loc 5, .r (.mov (.tmp 14)), none⟩,
 ⟨.loc 6, .r (.mov (.tmp 15)), none⟩])
 (.seq (.seq (.reg [⟨.tmp 16, .r (.mov (.loc 6)), none⟩,
 ⟨.loc 17, .r (.not (.tmp 16)), none⟩])
 (.cond (.loc 17) (.reg [⟨.tmp 18, .r (.mov (.loc 0)), none⟩,
 ⟨.tmp 19, .r (.chk (.tmp 18)), none⟩,
 ⟨.tmp 20, .r (.off 1 (.tmp 19)), none⟩,
 ⟨.none, .h (.store 1 (.tmp 20) (.cst (.bool true))), none⟩])
 .skip))
 (.seq (.reg [⟨.tmp 21, .r (.mov (.loc 5)), none⟩,
 ⟨.loc 4, .r (.mov (.tmp 21)), none⟩])
 .ret)))), [(.tmp (.loc 4))]⟩

/-- glebe/image.listOf[glebe/api.Accepted] -/
def c_image_listOf_api_Accepted (f0 : FuncId) : AFn := ⟨22, fun s => List.contains [0, 1, 4, 5, 6, 17] s, (.seq (.reg [⟨.loc 4, .r (.mov (.cst .nils)), none⟩])
 (.seq (.reg [⟨.tmp 8, .r (.mov (.loc 0)), none⟩,
 ⟨.tmp 9, .r (.chk (.tmp 8)), none⟩,
 ⟨.tmp 10, .r (.off 0 (.tmp 9)), none⟩,
 ⟨.tmp 11, .r (.load false 1 (.tmp 10)), none⟩,
 ⟨.tmp 12, .r (.mov (.loc 1)), none⟩,
 ⟨.tmp 13, .call f0 [.tmp 11, .tmp 12], none⟩,
 ⟨.tmp 7, .r (.mov (.tmp 13)), none⟩,
 ⟨.tmp 14, .r (.ext (.tmp 7) 0), none⟩,
 ⟨.tmp 15, .r (.ext (.tmp 7) 1), none⟩,
 ⟨.loc 5, .r (.mov (.tmp 14)), none⟩,
 ⟨.loc 6, .r (.mov (.tmp 15)), none⟩])
 (.seq (.seq (.reg [⟨.tmp 16, .r (.mov (.loc 6)), none⟩,
 ⟨.loc 17, .r (.not (.tmp 16)), none⟩])
 (.cond (.loc 17) (.reg [⟨.tmp 18, .r (.mov (.loc 0)), none⟩,
 ⟨.tmp 19, .r (.chk (.tmp 18)), none⟩,
 ⟨.tmp 20, .r (.off 1 (.tmp 19)), none⟩,
 ⟨.none, .h (.store 1 (.tmp 20) (.cst (.bool true))), none⟩])
 .skip))
 (.seq (.reg [⟨.tmp 21, .r (.mov (.loc 5)), none⟩,
 ⟨.loc 4, .r (.mov (.tmp 21)), none⟩])
 .ret)))), [(.tmp (.loc 4))]⟩

/-- (*glebe/image.source).entry -/
def c_image_source_entry (f0 f1 : FuncId) : AFn := ⟨22, fun s => List.contains [0, 2, 3] s, (.seq (.reg [⟨.loc 2, .h (.mk [(.int .i64 0), (.int .i64 0), .nils]), none⟩])
 (.seq (.dreg ⟨[0, 1, 3, 7, 15, 0, 32, 96, 224, 511, 1023, 0, 4095], 1, [⟨0, 0, false, .r (.mov (.loc 0)), none⟩,
 ⟨1, 0, false, .r (.chk (.tmp 0)), none⟩,
 ⟨2, 0, false, .r (.off 0 (.tmp 1)), none⟩,
 ⟨3, 0, false, .r (.load false 1 (.tmp 2)), none⟩,
 ⟨5, 0, false, .r (.mov (.loc 0)), none⟩,
 ⟨6, 0, false, .r (.chk (.tmp 5)), none⟩,
 ⟨7, 0, false, .r (.off 0 (.tmp 6)), none⟩,
 ⟨8, 0, false, .r (.load false 1 (.tmp 7)), none⟩,
 ⟨11, 0, false, .h (.mk [(.int .i64 0), (.int .i64 0), .nils]), none⟩,
 ⟨4, 0, true, .call f0 [.tmp 3], none⟩,
 ⟨9, 0, true, .call f0 [.tmp 8], none⟩,
 ⟨10, 0, false, .r (.build [(.int .i64 0), (.int .i64 0), .nils] [(0, 1, .tmp 4), (1, 1, .tmp 9)]), none⟩,
 ⟨12, 1, true, .h (.store 3 (.tmp 11) (.tmp 10)), none⟩], [(3, 11)]⟩)
 (.seq (.reg [⟨.tmp 15, .r (.mov (.loc 0)), none⟩,
 ⟨.tmp 16, .r (.chk (.tmp 15)), none⟩,
 ⟨.tmp 17, .r (.off 0 (.tmp 16)), none⟩,
 ⟨.tmp 18, .r (.load false 1 (.tmp 17)), none⟩,
 ⟨.tmp 19, .call f1 [.tmp 18], none⟩,
 ⟨.tmp 20, .r (.off 2 (.loc 3)), none⟩,
 ⟨.none, .h (.store 1 (.tmp 20) (.tmp 19)), none⟩])
 (.seq (.reg [⟨.tmp 21, .r (.load true 3 (.loc 3)), none⟩,
 ⟨.none, .h (.store 3 (.loc 2) (.tmp 21)), none⟩])
 .ret)))), [(.cell (.loc 2) true 3)]⟩

/-- (*glebe/image.source).log -/
def c_image_source_log (f0 f1 f2 : FuncId) : AFn := ⟨21, fun s => List.contains [0, 2, 3] s, (.seq (.reg [⟨.loc 2, .h (.mk [(.int .i64 0), (.int .i64 0), .nils]), none⟩])
 (.seq (.dreg ⟨[0, 1, 3, 7, 15, 0, 32, 96, 224, 511, 1023, 0, 4095], 1, [⟨0, 0, false, .r (.mov (.loc 0)), none⟩,
 ⟨1, 0, false, .r (.chk (.tmp 0)), none⟩,
 ⟨2, 0, false, .r (.off 0 (.tmp 1)), none⟩,
 ⟨3, 0, false, .r (.load false 1 (.tmp 2)), none⟩,
 ⟨5, 0, false, .r (.mov (.loc 0)), none⟩,
 ⟨6, 0, false, .r (.chk (.tmp 5)), none⟩,
 ⟨7, 0, false, .r (.off 0 (.tmp 6)), none⟩,
 ⟨8, 0, false, .r (.load false 1 (.tmp 7)), none⟩,
 ⟨11, 0, false, .h (.mk [(.int .i64 0), (.int .i64 0), .nils]), none⟩,
 ⟨4, 0, true, .call f0 [.tmp 3], none⟩,
 ⟨9, 0, true, .call f0 [.tmp 8], none⟩,
 ⟨10, 0, false, .r (.build [(.int .i64 0), (.int .i64 0), .nils] [(0, 1, .tmp 4), (1, 1, .tmp 9)]), none⟩,
 ⟨12, 1, true, .h (.store 3 (.tmp 11) (.tmp 10)), none⟩], [(3, 11)]⟩)
 (.seq (.reg [⟨.tmp 15, .r (.mov (.loc 0)), none⟩,
 ⟨.tmp 16, .r (.mov (.loc 0)), none⟩,
 ⟨.tmp 17, .r (.x (.bclo f1 [.tmp 16] [])), none⟩,
 ⟨.tmp 18, .call f2 [.tmp 15, .tmp 17], none⟩,
 ⟨.tmp 19, .r (.off 2 (.loc 3)), none⟩,
 ⟨.none, .h (.store 1 (.tmp 19) (.tmp 18)), none⟩])
 (.seq (.reg [⟨.tmp 20, .r (.load true 3 (.loc 3)), none⟩,
 ⟨.none, .h (.store 3 (.loc 2) (.tmp 20)), none⟩])
 .ret)))), [(.cell (.loc 2) true 3)]⟩

/-- (*glebe/image.source).conf -/
def c_image_source_conf (f0 : FuncId) : AFn := ⟨19, fun s => List.contains [0, 2] s, (.seq (.reg [⟨.loc 2, .h (.mk [.nils, .nils, .nils]), none⟩])
 (.seq (.dreg ⟨[0, 1, 3, 7, 15, 0, 32, 96, 224, 511, 0, 1024, 3072, 7168, 16383, 32767, 65535], 0, [⟨0, 0, false, .r (.mov (.loc 0)), none⟩,
 ⟨1, 0, false, .r (.chk (.tmp 0)), none⟩,
 ⟨2, 0, false, .r (.off 0 (.tmp 1)), none⟩,
 ⟨3, 0, false, .r (.load false 1 (.tmp 2)), none⟩,
 ⟨5, 0, false, .r (.mov (.loc 0)), none⟩,
 ⟨6, 0, false, .r (.chk (.tmp 5)), none⟩,
 ⟨7, 0, false, .r (.off 0 (.tmp 6)), none⟩,
 ⟨8, 0, false, .r (.load false 1 (.tmp 7)), none⟩,
 ⟨10, 0, false, .r (.mov (.loc 0)), none⟩,
 ⟨11, 0, false, .r (.chk (.tmp 10)), none⟩,
 ⟨12, 0, false, .r (.off 0 (.tmp 11)), none⟩,
 ⟨13, 0, false, .r (.load false 1 (.tmp 12)), none⟩,
 ⟨4, 0, true, .call f0 [.tmp 3], none⟩,
 ⟨9, 0, true, .call f0 [.tmp 8], none⟩,
 ⟨14, 0, true, .call f0 [.tmp 13], none⟩,
 ⟨15, 0, false, .r (.build [.nils, .nils, .nils] [(0, 1, .tmp 4), (1, 1, .tmp 9), (2, 1, .tmp 14)]), none⟩,
 ⟨16, 0, true, .h (.store 3 (.loc 2) (.tmp 15)), none⟩], []⟩)
 .ret)), [(.cell (.loc 2) true 3)]⟩

/-- (*glebe/image.source).vote -/
def c_image_source_vote (f0 : FuncId) : AFn := ⟨29, fun s => List.contains [0, 2] s, (.seq (.reg [⟨.loc 2, .h (.mk [(.int .i64 0), (.int .i64 0), (.int .i64 0), (.int .i64 0), (.int .i64 0)]), none⟩])
 (.seq (.dreg ⟨[0, 1, 3, 7, 15, 0, 32, 96, 224, 511, 0, 1024, 3072, 7168, 16383, 0, 32768, 98304, 229376, 524287, 0, 1048576, 3145728, 7340032, 16777215, 33554431, 67108863], 0, [⟨0, 0, false, .r (.mov (.loc 0)), none⟩,
 ⟨1, 0, false, .r (.chk (.tmp 0)), none⟩,
 ⟨2, 0, false, .r (.off 0 (.tmp 1)), none⟩,
 ⟨3, 0, false, .r (.load false 1 (.tmp 2)), none⟩,
 ⟨5, 0, false, .r (.mov (.loc 0)), none⟩,
 ⟨6, 0, false, .r (.chk (.tmp 5)), none⟩,
 ⟨7, 0, false, .r (.off 0 (.tmp 6)), none⟩,
 ⟨8, 0, false, .r (.load false 1 (.tmp 7)), none⟩,
 ⟨10, 0, false, .r (.mov (.loc 0)), none⟩,
 ⟨11, 0, false, .r (.chk (.tmp 10)), none⟩,
 ⟨12, 0, false, .r (.off 0 (.tmp 11)), none⟩,
 ⟨13, 0, false, .r (.load false 1 (.tmp 12)), none⟩,
 ⟨15, 0, false, .r (.mov (.loc 0)), none⟩,
 ⟨16, 0, false, .r (.chk (.tmp 15)), none⟩,
 ⟨17, 0, false, .r (.off 0 (.tmp 16)), none⟩,
 ⟨18, 0, false, .r (.load false 1 (.tmp 17)), none⟩,
 ⟨20, 0, false, .r (.mov (.loc 0)), none⟩,
 ⟨21, 0, false, .r (.chk (.tmp 20)), none⟩,
 ⟨22, 0, false, .r (.off 0 (.tmp 21)), none⟩,
 ⟨23, 0, false, .r (.load false 1 (.tmp 22)), none⟩,
 ⟨4, 0, true, .call f0 [.tmp 3], none⟩,
 ⟨9, 0, true, .call f0 [.tmp 8], none⟩,
 ⟨14, 0, true, .call f0 [.tmp 13], none⟩,
 ⟨19, 0, true, .call f0 [.tmp 18], none⟩,
 ⟨24, 0, true, .call f0 [.tmp 23], none⟩,
 ⟨25, 0, false, .r (.build [(.int .i64 0), (.int .i64 0), (.int .i64 0), (.int .i64 0), (.int .i64 0)] [(0, 1, .tmp 4), (1, 1, .tmp 9), (2, 1, .tmp 14), (3, 1, .tmp 19), (4, 1, .tmp 24)]), none⟩,
 ⟨26, 0, true, .h (.store 5 (.loc 2) (.tmp 25)), none⟩], []⟩)
 .ret)), [(.cell (.loc 2) true 5)]⟩

/-- (*glebe/image.source).hard -/
def c_image_source_hard (f0 f1 f2 f3 : FuncId) : AFn := ⟨33, fun s => List.contains [0, 2, 3] s, (.seq (.reg [⟨.loc 2, .h (.mk [(.int .i64 0), (.int .i64 0), (.int .i64 0), (.int .i64 0), (.int .i64 0), .nils, .nils, .nils, .nils, .nils]), none⟩])
 (.seq (.dreg ⟨[0, 1, 3, 7, 15, 0, 32, 96, 224, 511, 0, 1024, 3072, 7168, 16383, 32767, 0, 131071], 1, [⟨0, 0, false, .r (.mov (.loc 0)), none⟩,
 ⟨1, 0, false, .r (.chk (.tmp 0)), none⟩,
 ⟨2, 0, false, .r (.off 0 (.tmp 1)), none⟩,
 ⟨3, 0, false, .r (.load false 1 (.tmp 2)), none⟩,
 ⟨5, 0, false, .r (.mov (.loc 0)), none⟩,
 ⟨6, 0, false, .r (.chk (.tmp 5)), none⟩,
 ⟨7, 0, false, .r (.off 0 (.tmp 6)), none⟩,
 ⟨8, 0, false, .r (.load false 1 (.tmp 7)), none⟩,
 ⟨10, 0, false, .r (.mov (.loc 0)), none⟩,
 ⟨11, 0, false, .r (.chk (.tmp 10)), none⟩,
 ⟨12, 0, false, .r (.off 0 (.tmp 11)), none⟩,
 ⟨13, 0, false, .r (.load false 1 (.tmp 12)), none⟩,
 ⟨16, 0, false, .h (.mk [(.int .i64 0), (.int .i64 0), (.int .i64 0), (.int .i64 0), (.int .i64 0), .nils, .nils, .nils, .nils, .nils]), none⟩,
 ⟨4, 0, true, .call f0 [.tmp 3], none⟩,
 ⟨9, 0, true, .call f0 [.tmp 8], none⟩,
 ⟨14, 0, true, .call f0 [.tmp 13], none⟩,
 ⟨15, 0, false, .r (.build [(.int .i64 0), (.int .i64 0), (.int .i64 0), (.int .i64 0), (.int .i64 0), .nils, .nils, .nils, .nils, .nils] [(0, 1, .tmp 4), (1, 1, .tmp 9), (2, 1, .tmp 14)]), none⟩,
 ⟨17, 1, true, .h (.store 10 (.tmp 16) (.tmp 15)), none⟩], [(3, 16)]⟩)
 (.seq (.reg [⟨.tmp 20, .r (.mov (.loc 0)), none⟩,
 ⟨.tmp 21, .call f1 [.tmp 20], none⟩,
 ⟨.tmp 22, .r (.off 3 (.loc 3)), none⟩,
 ⟨.none, .h (.store 3 (.tmp 22) (.tmp 21)), none⟩])
 (.seq (.reg [⟨.tmp 23, .r (.mov (.loc 0)), none⟩,
 ⟨.tmp 24, .call f2 [.tmp 23], none⟩,
 ⟨.tmp 25, .r (.off 6 (.loc 3)), none⟩,
 ⟨.none, .h (.store 3 (.tmp 25) (.tmp 24)), none⟩])
 (.seq (.reg [⟨.tmp 26, .r (.mov (.loc 0)), none⟩,
 ⟨.tmp 27, .r (.chk (.tmp 26)), none⟩,
 ⟨.tmp 28, .r (.off 0 (.tmp 27)), none⟩,
 ⟨.tmp 29, .r (.load false 1 (.tmp 28)), none⟩,
 ⟨.tmp 30, .call f3 [.tmp 29], none⟩,
 ⟨.tmp 31, .r (.off 9 (.loc 3)), none⟩,
 ⟨.none, .h (.store 1 (.tmp 31) (.tmp 30)), none⟩])
 (.seq (.reg [⟨.tmp 32, .r (.load true 10 (.loc 3)), none⟩,
 ⟨.none, .h (.store 10 (.loc 2) (.tmp 32)), none⟩])
 .ret)))))), [(.cell (.loc 2) true 10)]⟩

/-- (*glebe/image.source).change -/
def c_image_source_change (f0 f1 f2 f3 f4 : FuncId) : AFn := ⟨46, fun s => List.contains [0, 2, 3] s, (.seq (.reg [⟨.loc 2, .h (.mk [(.int .i64 0), (.int .i64 0), (.int .i64 0), (.int .i64 0), (.int .i64 0), (.int .i64 0), (.int .i64 0), .nils, .nils, .nils, .nils, .nils, (.int .i64 0), (.int .i64 0), (.int .i64 0), (.int .i64 0), (.int .i64 0)]), none⟩])
 (.seq (.dreg ⟨[0, 1, 3, 7, 15, 0, 32, 96, 224, 511, 0, 1024, 3072, 7168, 16383, 0, 32768, 98304, 229376, 524287, 0, 1048576, 3145728, 7340032, 16777215, 33554431, 0, 134217727], 1, [⟨0, 0, false, .r (.mov (.loc 0)), none⟩,
 ⟨1, 0, false, .r (.chk (.tmp 0)), none⟩,
 ⟨2, 0, false, .r (.off 0 (.tmp 1)), none⟩,
 ⟨3, 0, false, .r (.load false 1 (.tmp 2)), none⟩,
 ⟨5, 0, false, .r (.mov (.loc 0)), none⟩,
 ⟨6, 0, false, .r (.chk (.tmp 5)), none⟩,
 ⟨7, 0, false, .r (.off 0 (.tmp 6)), none⟩,
 ⟨8, 0, false, .r (.load false 1 (.tmp 7)), none⟩,
 ⟨10, 0, false, .r (.mov (.loc 0)), none⟩,
 ⟨11, 0, false, .r (.chk (.tmp 10)), none⟩,
 ⟨12, 0, false, .r (.off 0 (.tmp 11)), none⟩,
 ⟨13, 0, false, .r (.load false 1 (.tmp 12)), none⟩,
 ⟨15, 0, false, .r (.mov (.loc 0)), none⟩,
 ⟨16, 0, false, .r (.chk (.tmp 15)), none⟩,
 ⟨17, 0, false, .r (.off 0 (.tmp 16)), none⟩,
 ⟨18, 0, false, .r (.load false 1 (.tmp 17)), none⟩,
 ⟨20, 0, false, .r (.mov (.loc 0)), none⟩,
 ⟨21, 0, false, .r (.chk (.tmp 20)), none⟩,
 ⟨22, 0, false, .r (.off 0 (.tmp 21)), none⟩,
 ⟨23, 0, false, .r (.load false 1 (.tmp 22)), none⟩,
 ⟨26, 0, false, .h (.mk [(.int .i64 0), (.int .i64 0), (.int .i64 0), (.int .i64 0), (.int .i64 0), (.int .i64 0), (.int .i64 0), .nils, .nils, .nils, .nils, .nils, (.int .i64 0), (.int .i64 0), (.int .i64 0), (.int .i64 0), (.int .i64 0)]), none⟩,
 ⟨4, 0, true, .call f0 [.tmp 3], none⟩,
 ⟨9, 0, true, .call f0 [.tmp 8], none⟩,
 ⟨14, 0, true, .call f0 [.tmp 13], none⟩,
 ⟨19, 0, true, .call f0 [.tmp 18], none⟩,
 ⟨24, 0, true, .call f0 [.tmp 23], none⟩,
 ⟨25, 0, false, .r (.build [(.int .i64 0), (.int .i64 0), (.int .i64 0), (.int .i64 0), (.int .i64 0), (.int .i64 0), (.int .i64 0), .nils, .nils, .nils, .nils, .nils, (.int .i64 0), (.int .i64 0), (.int .i64 0), (.int .i64 0), (.int .i64 0)] [(0, 1, .tmp 4), (1, 1, .tmp 9), (2, 1, .tmp 14), (3, 1, .tmp 19), (4, 1, .tmp 24)]), none⟩,
 ⟨27, 1, true, .h (.store 17 (.tmp 26) (.tmp 25)), none⟩], [(3, 26)]⟩)
 (.seq (.reg [⟨.tmp 30, .r (.mov (.loc 0)), none⟩,
 ⟨.tmp 31, .call f1 [.tmp 30], none⟩,
 ⟨.tmp 32, .r (.off 5 (.loc 3)), none⟩,
 ⟨.none, .h (.store 3 (.tmp 32) (.tmp 31)), none⟩])
 (.seq (.reg [⟨.tmp 33, .r (.mov (.loc 0)), none⟩,
 ⟨.tmp 34, .call f2 [.tmp 33], none⟩,
 ⟨.tmp 35, .r (.off 8 (.loc 3)), none⟩,
 ⟨.none, .h (.store 3 (.tmp 35) (.tmp 34)), none⟩])
 (.seq (.reg [⟨.tmp 36, .r (.mov (.loc 0)), none⟩,
 ⟨.tmp 37, .r (.chk (.tmp 36)), none⟩,
 ⟨.tmp 38, .r (.off 0 (.tmp 37)), none⟩,
 ⟨.tmp 39, .r (.load false 1 (.tmp 38)), none⟩,
 ⟨.tmp 40, .call f3 [.tmp 39], none⟩,
 ⟨.tmp 41, .r (.off 11 (.loc 3)), none⟩,
 ⟨.none, .h (.store 1 (.tmp 41) (.tmp 40)), none⟩])
 (.seq (.reg [⟨.tmp 42, .r (.mov (.loc 0)), none⟩,
 ⟨.tmp 43, .call f4 [.tmp 42], none⟩,
 ⟨.tmp 44, .r (.off 12 (.loc 3)), none⟩,
 ⟨.none, .h (.store 5 (.tmp 44) (.tmp 43)), none⟩])
 (.seq (.reg [⟨.tmp 45, .r (.load true 17 (.loc 3)), none⟩,
 ⟨.none, .h (.store 17 (.loc 2) (.tmp 45)), none⟩])
 .ret))))))), [(.cell (.loc 2) true 17)]⟩

/-- (*glebe/image.source).end -/
def c_image_source_end (f0 : FuncId) : AFn := ⟨12, fun s => List.contains [0, 2, 6] s, (.seq (.reg [⟨.loc 2, .r (.mov (.cst (.int .i64 0))), none⟩])
 (.seq (.seq (.reg [⟨.tmp 3, .r (.mov (.loc 0)), none⟩,
 ⟨.tmp 4, .r (.chk (.tmp 3)), none⟩,
 ⟨.tmp 5, .r (.off 1 (.tmp 4)), none⟩,
 ⟨.loc 6, .r (.load false 1 (.tmp 5)), none⟩])
 (.cond (.loc 6) (.seq (.reg [⟨.loc 2, .r (.mov (.cst (.int .i64 4))), none⟩])
 .ret)
 .skip))
 (.seq (.reg [⟨.tmp 7, .r (.mov (.loc 0)), none⟩,
 ⟨.tmp 8, .r (.chk (.tmp 7)), none⟩,
 ⟨.tmp 9, .r (.off 0 (.tmp 8)), none⟩,
 ⟨.tmp 10, .r (.load false 1 (.tmp 9)), none⟩,
 ⟨.tmp 11, .call f0 [.tmp 10], none⟩,
 ⟨.loc 2, .r (.mov (.tmp 11)), none⟩])
 .ret))), [(.tmp (.loc 2))]⟩

/-- glebe/image.ahead -/
def c_image_ahead : AFn := ⟨24, fun s => List.contains [0, 1, 2, 3, 4] s, (.seq (.reg [⟨.loc 2, .h (.box (.loc 0)), none⟩,
 ⟨.loc 3, .h (.box (.loc 1)), none⟩,
 ⟨.loc 4, .r (.mov (.cst (.bool false))), none⟩])
 (.seq (.reg [⟨.tmp 5, .r (.off 0 (.loc 2)), none⟩,
 ⟨.tmp 6, .r (.load false 1 (.tmp 5)), none⟩,
 ⟨.tmp 7, .r (.off 0 (.loc 3)), none⟩,
 ⟨.tmp 8, .r (.load false 1 (.tmp 7)), none⟩,
 ⟨.tmp 9, .r (.bin .lss (.tmp 6) (.tmp 8)), none⟩,
 ⟨.tmp 10, .r (.mov (.tmp 9)), none⟩,
 ⟨.tmp 11, .r (.off 0 (.loc 2)), some (.tmp 10, false)⟩,
 ⟨.tmp 12, .r (.load false 1 (.tmp 11)), some (.tmp 10, false)⟩,
 ⟨.tmp 13, .r (.off 0 (.loc 3)), some (.tmp 10, false)⟩,
 ⟨.tmp 14, .r (.load false 1 (.tmp 13)), some (.tmp 10, false)⟩,
 ⟨.tmp 15, .r (.bin .eql (.tmp 12) (.tmp 14)), some (.tmp 10, false)⟩,
 ⟨.tmp 16, .r (.mov (.tmp 15)), some (.tmp 10, false)⟩,
 ⟨.tmp 17, .r (.off 1 (.loc 2)), some (.tmp 16, true)⟩,
 ⟨.tmp 18, .r (.load false 1 (.tmp 17)), some (.tmp 16, true)⟩,
 ⟨.tmp 19, .r (.off 1 (.loc 3)), some (.tmp 16, true)⟩,
 ⟨.tmp 20, .r (.load false 1 (.tmp 19)), some (.tmp 16, true)⟩,
 ⟨.tmp 21, .r (.bin .lss (.tmp 18) (.tmp 20)), some (.tmp 16, true)⟩,
 ⟨.tmp 22, .r (.pick (.tmp 16) (.tmp 21) (.cst (.bool false))), some (.tmp 10, false)⟩,
 ⟨.tmp 23, .r (.pick (.tmp 10) (.cst (.bool true)) (.tmp 22)), none⟩,
 ⟨.loc 4, .r (.mov (.tmp 23)), none⟩])
 .ret)), [(.tmp (.loc 4))]⟩

def c_image_ordered_l0 (f0 : FuncId) : AC := (.seq (.seq (.reg [⟨.tmp 5, .r (.mov (.loc 3)), none⟩,
 ⟨.tmp 6, .r (.off 0 (.loc 1)), none⟩,
 ⟨.tmp 7, .r (.load false 1 (.tmp 6)), none⟩,
 ⟨.tmp 8, .r (.len (.tmp 7)), none⟩,
 ⟨.loc 9, .r (.bin .lss (.tmp 5) (.tmp 8)), none⟩])
 (.cond (.loc 9) .skip
 (.exit 0)))
 (.seq (.block 1 (.seq (.dreg ⟨[0, 1, 0, 4, 15, 31, 63, 0, 128, 0, 896, 1920, 3968, 8191], 0, [⟨0, 0, false, .r (.off 0 (.loc 1)), none⟩,
 ⟨1, 0, false, .r (.load false 1 (.tmp 0)), none⟩,
 ⟨2, 0, false, .r (.mov (.loc 3)), none⟩,
 ⟨3, 0, false, .r (.bin .sub (.tmp 2) (.cst (.int .i64 1))), none⟩,
 ⟨4, 0, false, .r (.idx 10 (.tmp 1) (.tmp 3)), none⟩,
 ⟨5, 0, false, .r (.off 0 (.tmp 4)), none⟩,
 ⟨6, 0, false, .r (.load false 1 (.tmp 5)), none⟩,
 ⟨7, 0, false, .r (.off 0 (.loc 1)), none⟩,
 ⟨8, 0, false, .r (.load false 1 (.tmp 7)), none⟩,
 ⟨9, 0, false, .r (.mov (.loc 3)), none⟩,
 ⟨10, 0, false, .r (.idx 10 (.tmp 8) (.tmp 9)), none⟩,
 ⟨11, 0, false, .r (.off 0 (.tmp 10)), none⟩,
 ⟨12, 0, false, .r (.load false 1 (.tmp 11)), none⟩,
 ⟨13, 0, false, .r (.bin .geq (.tmp 6) (.tmp 12)), none⟩], [(25, 13)]⟩)
 (.cond (.loc 25) (.seq (.reg [⟨.loc 2, .r (.mov (.cst (.bool false))), none⟩])
 .ret)
 .skip)))
 (.reg [⟨.tmp 10, .r (.mov (.loc 3)), none⟩,
 ⟨.tmp 11, .r (.bin .add (.tmp 10) (.cst (.int .i64 1))), none⟩,
 ⟨.loc 3, .r (.mov (.tmp 11)), none⟩])))
def c_image_ordered_l1 (f0 : FuncId) : AC := (.seq (.seq (.reg [⟨.tmp 26, .r (.mov (.loc 4)), none⟩,
 ⟨.tmp 27, .r (.off 1 (.loc 1)), none⟩,
 ⟨.tmp 28, .r (.load false 1 (.tmp 27)), none⟩,
 ⟨.tmp 29, .r (.len (.tmp 28)), none⟩,
 ⟨.loc 30, .r (.bin .lss (.tmp 26) (.tmp 29)), none⟩])
 (.cond (.loc 30) .skip
 (.exit 2)))
 (.seq (.block 3 (.seq (.dreg ⟨[0, 1, 0, 4, 15, 31, 0, 64, 0, 448, 960, 2047, 4095], 0, [⟨0, 0, false, .r (.off 1 (.loc 1)), none⟩,
 ⟨1, 0, false, .r (.load false 1 (.tmp 0)), none⟩,
 ⟨2, 0, false, .r (.mov (.loc 4)), none⟩,
 ⟨3, 0, false, .r (.bin .sub (.tmp 2) (.cst (.int .i64 1))), none⟩,
 ⟨4, 0, false, .r (.idx 5 (.tmp 1) (.tmp 3)), none⟩,
 ⟨5, 0, false, .r (.load true 5 (.tmp 4)), none⟩,
 ⟨6, 0, false, .r (.off 1 (.loc 1)), none⟩,
 ⟨7, 0, false, .r (.load false 1 (.tmp 6)), none⟩,
 ⟨8, 0, false, .r (.mov (.loc 4)), none⟩,
 ⟨9, 0, false, .r (.idx 5 (.tmp 7) (.tmp 8)), none⟩,
 ⟨10, 0, false, .r (.load true 5 (.tmp 9)), none⟩,
 ⟨11, 0, true, .call f0 [.tmp 5, .tmp 10], none⟩,
 ⟨12, 0, false, .r (.not (.tmp 11)), none⟩], [(45, 12)]⟩)
 (.cond (.loc 45) (.seq (.reg [⟨.loc 2, .r (.mov (.cst (.bool false))), none⟩])
 .ret)
 .skip)))
 (.reg [⟨.tmp 31, .r (.mov (.loc 4)), none⟩,
 ⟨.tmp 32, .r (.bin .add (.tmp 31) (.cst (.int .i64 1))), none⟩,
 ⟨.loc 4, .r (.mov (.tmp 32)), none⟩])))
/-- glebe/image.ordered -/
def c_image_ordered (f0 : FuncId) : AFn := ⟨46, fun s => List.contains [0, 1, 2, 3, 4, 9, 25, 30, 45] s, (.seq (.reg [⟨.loc 1, .h (.box (.loc 0)), none⟩,
 ⟨.loc 2, .r (.mov (.cst (.bool false))), none⟩])
 (.seq (.seq (.reg [⟨.loc 3, .r (.mov (.cst (.int .i64 1))), none⟩])
 (.block 0 (.loop (c_image_ordered_l0 f0))))
 (.seq (.seq (.reg [⟨.loc 4, .r (.mov (.cst (.int .i64 1))), none⟩])
 (.block 2 (.loop (c_image_ordered_l1 f0))))
 (.seq (.reg [⟨.loc 2, .r (.mov (.cst (.bool true))), none⟩])
 .ret)))), [(.tmp (.loc 2))]⟩

/-- glebe/image.Get -/
def c_image_Get (f0 f1 f2 f3 f4 f5 f6 : FuncId) : AFn := ⟨32, fun s => List.contains [0, 2, 3, 4, 5, 6, 24, 29] s, (.seq (.reg [⟨.loc 2, .h (.mk [.nils, .nils]), none⟩,
 ⟨.loc 3, .r (.mov (.cst (.int .i64 0))), none⟩])
 (.seq (.reg [⟨.tmp 7, .r (.mov (.loc 0)), none⟩,
 ⟨.tmp 8, .call f0 [.tmp 7], none⟩,
 ⟨.tmp 9, .r (.build [(.raw (.pointer none)), (.bool false)] [(0, 1, .tmp 8)]), none⟩,
 ⟨.tmp 10, .h (.box (.tmp 9)), none⟩,
 ⟨.loc 4, .r (.mov (.tmp 10)), none⟩])
 (.seq (.reg [⟨.tmp 11, .r (.mov (.loc 4)), none⟩,
 ⟨.tmp 12, .r (.mov (.loc 4)), none⟩,
 ⟨.tmp 13, .r (.x (.bclo f1 [.tmp 12] [])), none⟩,
 ⟨.tmp 14, .call f2 [.tmp 11, .tmp 13], none⟩,
 ⟨.tmp 15, .r (.build [.nils, .nils] [(0, 1, .tmp 14)]), none⟩,
 ⟨.loc 5, .h (.mk [.nils, .nils]), none⟩,
 ⟨.none, .h (.store 2 (.loc 5) (.tmp 15)), none⟩])
 (.seq (.reg [⟨.tmp 16, .r (.mov (.loc 4)), none⟩,
 ⟨.tmp 17, .r (.mov (.loc 4)), none⟩,
 ⟨.tmp 18, .r (.x (.bclo f3 [.tmp 17] [])), none⟩,
 ⟨.tmp 19, .call f4 [.tmp 16, .tmp 18], none⟩,
 ⟨.tmp 20, .r (.off 1 (.loc 5)), none⟩,
 ⟨.none, .h (.store 1 (.tmp 20) (.tmp 19)), none⟩])
 (.seq (.seq (.reg [⟨.tmp 21, .r (.mov (.loc 4)), none⟩,
 ⟨.tmp 22, .call f5 [.tmp 21], none⟩,
 ⟨.loc 6, .r (.mov (.tmp 22)), none⟩])
 (.seq (.reg [⟨.tmp 23, .r (.mov (.loc 6)), none⟩,
 ⟨.loc 24, .r (.bin .neq (.tmp 23) (.cst (.int .i64 0))), none⟩])
 (.cond (.loc 24) (.seq (.reg [⟨.tmp 25, .r (.build [.nils, .nils] []), none⟩,
 ⟨.tmp 26, .r (.mov (.loc 6)), none⟩,
 ⟨.none, .h (.store 2 (.loc 2) (.tmp 25)), none⟩,
 ⟨.loc 3, .r (.mov (.tmp 26)), none⟩])
 .ret)
 .skip)))
 (.seq (.seq (.reg [⟨.tmp 27, .r (.load true 2 (.loc 5)), none⟩,
 ⟨.tmp 28, .call f6 [.tmp 27], none⟩,
 ⟨.loc 29, .r (.not (.tmp 28)), none⟩])
 (.cond (.loc 29) (.seq (.reg [⟨.tmp 30, .r (.build [.nils, .nils] []), none⟩,
 ⟨.none, .h (.store 2 (.loc 2) (.tmp 30)), none⟩,
 ⟨.loc 3, .r (.mov (.cst (.int .i64 15))), none⟩])
 .ret)
 .skip))
 (.seq (.reg [⟨.tmp 31, .r (.load true 2 (.loc 5)), none⟩,
 ⟨.none, .h (.store 2 (.loc 2) (.tmp 31)), none⟩,
 ⟨.loc 3, .r (.mov (.cst (.int .i64 0))), none⟩])
 .ret))))))), [(.cell (.loc 2) true 2), (.tmp (.loc 3))]⟩

/-- glebe/image.GetConf -/
def c_image_GetConf (f0 f1 f2 f3 : FuncId) : AFn := ⟨24, fun s => List.contains [0, 2, 3, 4, 5, 6, 16, 20] s, (.seq (.reg [⟨.loc 2, .h (.mk [.nils, .nils, .nils]), none⟩,
 ⟨.loc 3, .r (.mov (.cst (.int .i64 0))), none⟩])
 (.seq (.reg [⟨.tmp 7, .r (.mov (.loc 0)), none⟩,
 ⟨.tmp 8, .call f0 [.tmp 7], none⟩,
 ⟨.tmp 9, .r (.build [(.raw (.pointer none)), (.bool false)] [(0, 1, .tmp 8)]), none⟩,
 ⟨.tmp 10, .h (.box (.tmp 9)), none⟩,
 ⟨.loc 4, .r (.mov (.tmp 10)), none⟩])
 (.seq (.reg [⟨.tmp 11, .r (.mov (.loc 4)), none⟩,
 ⟨.tmp 12, .call f1 [.tmp 11], none⟩,
 ⟨.loc 5, .h (.mk [.nils, .nils, .nils]), none⟩,
 ⟨.none, .h (.store 3 (.loc 5) (.tmp 12)), none⟩])
 (.seq (.reg [⟨.tmp 13, .r (.mov (.loc 4)), none⟩,
 ⟨.tmp 14, .call f2 [.tmp 13], none⟩,
 ⟨.loc 6, .r (.mov (.tmp 14)), none⟩])
 (.seq (.seq (.reg [⟨.tmp 15, .r (.mov (.loc 6)), none⟩,
 ⟨.loc 16, .r (.bin .eql (.tmp 15) (.cst (.int .i64 0))), none⟩])
 (.cond (.loc 16) (.reg [⟨.tmp 17, .r (.load true 3 (.loc 5)), none⟩,
 ⟨.tmp 18, .call f3 [.tmp 17], none⟩,
 ⟨.loc 6, .r (.mov (.tmp 18)), none⟩])
 .skip))
 (.seq (.seq (.reg [⟨.tmp 19, .r (.mov (.loc 6)), none⟩,
 ⟨.loc 20, .r (.bin .neq (.tmp 19) (.cst (.int .i64 0))), none⟩])
 (.cond (.loc 20) (.seq (.reg [⟨.tmp 21, .r (.build [.nils, .nils, .nils] []), none⟩,
 ⟨.tmp 22, .r (.mov (.loc 6)), none⟩,
 ⟨.none, .h (.store 3 (.loc 2) (.tmp 21)), none⟩,
 ⟨.loc 3, .r (.mov (.tmp 22)), none⟩])
 .ret)
 .skip))
 (.seq (.reg [⟨.tmp 23, .r (.load true 3 (.loc 5)), none⟩,
 ⟨.none, .h (.store 3 (.loc 2) (.tmp 23)), none⟩,
 ⟨.loc 3, .r (.mov (.cst (.int .i64 0))), none⟩])
 .ret))))))), [(.cell (.loc 2) true 3), (.tmp (.loc 3))]⟩

/-- glebe/image.fresh -/
def c_image_fresh (f0 f1 f2 f3 f4 f5 : FuncId) : AFn := ⟨21, fun s => List.contains [0, 1, 2, 3, 4] s, (.seq (.reg [⟨.loc 1, .h (.box (.loc 0)), none⟩,
 ⟨.loc 2, .h (.mk [.nils, .nils]), none⟩])
 (.seq (.reg [⟨.tmp 5, .r (.load true 2 (.loc 1)), none⟩,
 ⟨.tmp 6, .call f0 [.tmp 5], none⟩,
 ⟨.tmp 7, .call f1 [.tmp 6], none⟩,
 ⟨.tmp 8, .r (.build [(.raw (.pointer none)), (.bool false)] [(0, 1, .tmp 7)]), none⟩,
 ⟨.tmp 9, .h (.box (.tmp 8)), none⟩,
 ⟨.loc 3, .r (.mov (.tmp 9)), none⟩])
 (.seq (.reg [⟨.tmp 10, .r (.mov (.loc 3)), none⟩,
 ⟨.tmp 11, .r (.mov (.loc 3)), none⟩,
 ⟨.tmp 12, .r (.x (.bclo f2 [.tmp 11] [])), none⟩,
 ⟨.tmp 13, .call f3 [.tmp 10, .tmp 12], none⟩,
 ⟨.tmp 14, .r (.build [.nils, .nils] [(0, 1, .tmp 13)]), none⟩,
 ⟨.loc 4, .h (.mk [.nils, .nils]), none⟩,
 ⟨.none, .h (.store 2 (.loc 4) (.tmp 14)), none⟩])
 (.seq (.reg [⟨.tmp 15, .r (.mov (.loc 3)), none⟩,
 ⟨.tmp 16, .r (.mov (.loc 3)), none⟩,
 ⟨.tmp 17, .r (.x (.bclo f4 [.tmp 16] [])), none⟩,
 ⟨.tmp 18, .call f5 [.tmp 15, .tmp 17], none⟩,
 ⟨.tmp 19, .r (.off 1 (.loc 4)), none⟩,
 ⟨.none, .h (.store 1 (.tmp 19) (.tmp 18)), none⟩])
 (.seq (.reg [⟨.tmp 20, .r (.load true 2 (.loc 4)), none⟩,
 ⟨.none, .h (.store 2 (.loc 2) (.tmp 20)), none⟩])
 .ret))))), [(.cell (.loc 2) true 2)]⟩

/-- glebe/image.freshChange -/
def c_image_freshChange (f0 f1 f2 : FuncId) : AFn := ⟨11, fun s => List.contains [0, 1, 2, 3] s, (.seq (.reg [⟨.loc 1, .h (.box (.loc 0)), none⟩,
 ⟨.loc 2, .h (.mk [(.int .i64 0), (.int .i64 0), (.int .i64 0), (.int .i64 0), (.int .i64 0), (.int .i64 0), (.int .i64 0), .nils, .nils, .nils, .nils, .nils, (.int .i64 0), (.int .i64 0), (.int .i64 0), (.int .i64 0), (.int .i64 0)]), none⟩])
 (.seq (.reg [⟨.tmp 4, .r (.load true 17 (.loc 1)), none⟩,
 ⟨.tmp 5, .call f0 [(.cst .nils), .tmp 4], none⟩,
 ⟨.tmp 6, .call f1 [.tmp 5], none⟩,
 ⟨.tmp 7, .r (.build [(.raw (.pointer none)), (.bool false)] [(0, 1, .tmp 6)]), none⟩,
 ⟨.tmp 8, .h (.box (.tmp 7)), none⟩,
 ⟨.loc 3, .r (.mov (.tmp 8)), none⟩])
 (.seq (.reg [⟨.tmp 9, .r (.mov (.loc 3)), none⟩,
 ⟨.tmp 10, .call f2 [.tmp 9], none⟩,
 ⟨.none, .h (.store 17 (.loc 2) (.tmp 10)), none⟩])
 .ret))), [(.cell (.loc 2) true 17)]⟩

def c_image_accept_l0 (f0 : FuncId) : AC := (.seq (.seq (.dreg ⟨[0, 0, 2, 7, 15, 31, 31, 127, 255, 31, 1023, 2047], 0, [⟨0, 0, false, .r (.mov (.loc 5)), none⟩,
 ⟨1, 0, false, .r (.mov (.loc 0)), none⟩,
 ⟨2, 0, false, .r (.len (.tmp 1)), none⟩,
 ⟨3, 0, false, .r (.bin .lss (.tmp 0) (.tmp 2)), none⟩,
 ⟨4, 0, false, .r (.mov (.tmp 3)), none⟩,
 ⟨5, 0, false, .r (.mov (.loc 0)), some (.tmp 4, true)⟩,
 ⟨6, 0, false, .r (.mov (.loc 5)), some (.tmp 4, true)⟩,
 ⟨7, 0, false, .r (.idx 5 (.tmp 5) (.tmp 6)), some (.tmp 4, true)⟩,
 ⟨8, 0, false, .r (.load true 5 (.tmp 7)), some (.tmp 4, true)⟩,
 ⟨9, 0, false, .r (.load true 5 (.loc 3)), some (.tmp 4, true)⟩,
 ⟨10, 0, true, .call f0 [.tmp 8, .tmp 9], some (.tmp 4, true)⟩,
 ⟨11, 0, false, .r (.pick (.tmp 4) (.tmp 10) (.cst (.bool false))), none⟩], [(17, 11)]⟩)
 (.cond (.loc 17) .skip
 (.exit 0)))
 (.block 1 (.reg [⟨.tmp 18, .r (.mov (.loc 5)), none⟩,
 ⟨.tmp 19, .r (.bin .add (.tmp 18) (.cst (.int .i64 1))), none⟩,
 ⟨.loc 5, .r (.mov (.tmp 19)), none⟩])))
/-- glebe/image.accept -/
def c_image_accept (f0 : FuncId) : AFn := ⟨60, fun s => List.contains [0, 1, 3, 4, 5, 17, 43] s, (.seq (.reg [⟨.loc 3, .h (.box (.loc 1)), none⟩,
 ⟨.loc 4, .r (.mov (.cst .nils)), none⟩])
 (.seq (.reg [⟨.loc 5, .r (.mov (.cst (.int .i64 0))), none⟩])
 (.seq (.block 0 (.loop (c_image_accept_l0 f0)))
 (.seq (.seq (.dreg ⟨[0, 0, 2, 7, 15, 31, 31, 127, 255, 511, 31, 1055, 4095, 8191, 16383, 32767, 32767, 131071, 262143, 524287, 32767, 1081343, 4194303, 8388607], 0, [⟨0, 0, false, .r (.mov (.loc 5)), none⟩,
 ⟨1, 0, false, .r (.mov (.loc 0)), none⟩,
 ⟨2, 0, false, .r (.len (.tmp 1)), none⟩,
 ⟨3, 0, false, .r (.bin .lss (.tmp 0) (.tmp 2)), none⟩,
 ⟨4, 0, false, .r (.mov (.tmp 3)), none⟩,
 ⟨5, 0, false, .r (.mov (.loc 0)), some (.tmp 4, true)⟩,
 ⟨6, 0, false, .r (.mov (.loc 5)), some (.tmp 4, true)⟩,
 ⟨7, 0, false, .r (.idx 5 (.tmp 5) (.tmp 6)), some (.tmp 4, true)⟩,
 ⟨8, 0, false, .r (.off 0 (.tmp 7)), some (.tmp 4, true)⟩,
 ⟨9, 0, false, .r (.load false 1 (.tmp 8)), some (.tmp 4, true)⟩,
 ⟨10, 0, false, .r (.off 0 (.loc 3)), some (.tmp 4, true)⟩,
 ⟨11, 0, false, .r (.load false 1 (.tmp 10)), some (.tmp 4, true)⟩,
 ⟨12, 0, false, .r (.bin .eql (.tmp 9) (.tmp 11)), some (.tmp 4, true)⟩,
 ⟨13, 0, false, .r (.pick (.tmp 4) (.tmp 12) (.cst (.bool false))), none⟩,
 ⟨14, 0, false, .r (.mov (.tmp 13)), none⟩,
 ⟨15, 0, false, .r (.mov (.loc 0)), some (.tmp 14, true)⟩,
 ⟨16, 0, false, .r (.mov (.loc 5)), some (.tmp 14, true)⟩,
 ⟨17, 0, false, .r (.idx 5 (.tmp 15) (.tmp 16)), some (.tmp 14, true)⟩,
 ⟨18, 0, false, .r (.off 1 (.tmp 17)), some (.tmp 14, true)⟩,
 ⟨19, 0, false, .r (.load false 1 (.tmp 18)), some (.tmp 14, true)⟩,
 ⟨20, 0, false, .r (.off 1 (.loc 3)), some (.tmp 14, true)⟩,
 ⟨21, 0, false, .r (.load false 1 (.tmp 20)), some (.tmp 14, true)⟩,
 ⟨22, 0, false, .r (.bin .eql (.tmp 19) (.tmp 21)), some (.tmp 14, true)⟩,
 ⟨23, 0, false, .r (.pick (.tmp 14) (.tmp 22) (.cst (.bool false))), none⟩], [(43, 23)]⟩)
 (.cond (.loc 43) (.seq (.reg [⟨.tmp 44, .r (.mov (.loc 0)), none⟩,
 ⟨.tmp 45, .r (.mov (.loc 5)), none⟩,
 ⟨.tmp 46, .r (.load true 5 (.loc 3)), none⟩,
 ⟨.tmp 47, .r (.idx 5 (.tmp 44) (.tmp 45)), none⟩,
 ⟨.none, .h (.store 5 (.tmp 47) (.tmp 46)), none⟩])
 (.seq (.reg [⟨.tmp 48, .r (.mov (.loc 0)), none⟩,
 ⟨.loc 4, .r (.mov (.tmp 48)), none⟩])
 .ret))
 .skip))
 (.seq (.dreg ⟨[0, 0, 0, 7, 0, 16, 0, 0, 192, 496, 1023, 2047], 1, [⟨0, 0, false, .r (.mov (.loc 0)), none⟩,
 ⟨1, 0, false, .r (.mov (.loc 5)), none⟩,
 ⟨2, 0, false, .r (.mov (.loc 5)), none⟩,
 ⟨3, 0, false, .r (.slc 5 (.tmp 0) none (some (.tmp 1)) (some (.tmp 2))), none⟩,
 ⟨4, 0, false, .r (.load true 5 (.loc 3)), none⟩,
 ⟨5, 0, false, .h (.bsl 5 [.tmp 4]), none⟩,
 ⟨6, 1, false, .r (.mov (.loc 0)), none⟩,
 ⟨7, 1, false, .r (.mov (.loc 5)), none⟩,
 ⟨8, 1, false, .r (.slc 5 (.tmp 6) (some (.tmp 7)) none none), none⟩,
 ⟨9, 1, true, .h (.app 5 40 (.tmp 5) (.tmp 8)), none⟩,
 ⟨10, 1, true, .h (.app 5 40 (.tmp 3) (.tmp 9)), none⟩,
 ⟨11, 1, false, .r (.mov (.tmp 10)), none⟩], [(4, 11)]⟩)
 .ret))))), [(.tmp (.loc 4))]⟩

/-- glebe/image.turn -/
def c_image_turn (f0 f1 f2 : FuncId) : AFn := ⟨104, fun s => List.contains [0, 1, 2, 3, 4, 5, 6, 8, 9, 10, 11, 12, 14, 15, 23, 43, 64, 84] s, (.seq (.reg [⟨.loc 2, .h (.box (.loc 0)), none⟩,
 ⟨.loc 3, .h (.box (.loc 1)), none⟩,
 ⟨.loc 4, .h (.mk [(.int .i64 0), (.int .i64 0), (.int .i64 0), (.int .i64 0), (.int .i64 0), .nils, .nils, .nils, .nils, .nils]), none⟩,
 ⟨.loc 5, .r (.mov (.cst (.int .i64 0))), none⟩])
 (.seq (.seq (.reg [⟨.tmp 13, .r (.off 0 (.loc 3)), none⟩,
 ⟨.loc 14, .r (.load false 1 (.tmp 13)), none⟩])
 (.block 0 (.seq (.reg [⟨.tmp 16, .r (.bin .eql (.loc 14) (.cst (.int .i64 1))), none⟩,
 ⟨.loc 15, .r (.mov (.tmp 16)), none⟩])
 (.cond (.loc 15) (.dreg ⟨[0, 1, 0, 4, 3, 19, 63, 127], 0, [⟨0, 0, false, .r (.off 2 (.loc 3)), none⟩,
 ⟨1, 0, false, .r (.load false 1 (.tmp 0)), none⟩,
 ⟨2, 0, false, .r (.off 3 (.loc 3)), none⟩,
 ⟨3, 0, false, .r (.load false 1 (.tmp 2)), none⟩,
 ⟨4, 0, false, .r (.off 1 (.loc 2)), none⟩,
 ⟨5, 0, true, .h (.store 1 (.tmp 4) (.tmp 1)), none⟩,
 ⟨6, 0, false, .r (.off 2 (.loc 2)), none⟩,
 ⟨7, 0, true, .h (.store 1 (.tmp 6) (.tmp 3)), none⟩], []⟩)
 (.seq (.reg [⟨.tmp 24, .r (.bin .eql (.loc 14) (.cst (.int .i64 2))), none⟩,
 ⟨.loc 23, .r (.mov (.tmp 24)), none⟩])
 (.cond (.loc 23) (.seq (.reg [⟨.tmp 26, .r (.off 3 (.loc 2)), none⟩,
 ⟨.tmp 27, .r (.load true 3 (.tmp 26)), none⟩,
 ⟨.tmp 28, .call f0 [.tmp 27], none⟩,
 ⟨.tmp 25, .r (.mov (.tmp 28)), none⟩,
 ⟨.tmp 29, .r (.ext (.tmp 25) 0), none⟩,
 ⟨.tmp 30, .r (.ext (.tmp 25) 1), none⟩,
 ⟨.loc 6, .r (.mov (.tmp 29)), none⟩,
 ⟨.tmp 7, .r (.mov (.tmp 30)), none⟩])
 (.seq (.seq (.reg [⟨.tmp 31, .r (.off 4 (.loc 3)), none⟩,
 ⟨.tmp 32, .r (.load false 1 (.tmp 31)), none⟩,
 ⟨.tmp 33, .r (.off 3 (.loc 2)), none⟩,
 ⟨.tmp 34, .r (.off 0 (.tmp 33)), none⟩,
 ⟨.tmp 35, .r (.load false 1 (.tmp 34)), none⟩,
 ⟨.tmp 36, .r (.bin .leq (.tmp 32) (.tmp 35)), none⟩,
 ⟨.tmp 37, .r (.mov (.tmp 36)), none⟩,
 ⟨.tmp 38, .r (.off 4 (.loc 3)), some (.tmp 37, false)⟩,
 ⟨.tmp 39, .r (.load false 1 (.tmp 38)), some (.tmp 37, false)⟩,
 ⟨.tmp 40, .r (.mov (.loc 6)), some (.tmp 37, false)⟩,
 ⟨.tmp 41, .r (.bin .add (.tmp 40) (.cst (.int .i64 1))), some (.tmp 37, false)⟩,
 ⟨.tmp 42, .r (.bin .gtr (.tmp 39) (.tmp 41)), some (.tmp 37, false)⟩,
 ⟨.loc 43, .r (.pick (.tmp 37) (.cst (.bool true)) (.tmp 42)), none⟩])
 (.cond (.loc 43) (.seq (.reg [⟨.tmp 44, .r (.load true 10 (.loc 2)), none⟩,
 ⟨.none, .h (.store 10 (.loc 4) (.tmp 44)), none⟩,
 ⟨.loc 5, .r (.mov (.cst (.int .i64 3))), none⟩])
 .ret)
 .skip))
 (.seq (.reg [⟨.tmp 45, .r (.off 4 (.loc 3)), none⟩,
 ⟨.tmp 46, .r (.load false 1 (.tmp 45)), none⟩,
 ⟨.tmp 47, .r (.off 3 (.loc 2)), none⟩,
 ⟨.tmp 48, .r (.off 0 (.tmp 47)), none⟩,
 ⟨.tmp 49, .r (.load false 1 (.tmp 48)), none⟩,
 ⟨.tmp 50, .r (.bin .sub (.tmp 46) (.tmp 49)), none⟩,
 ⟨.tmp 51, .r (.bin .sub (.tmp 50) (.cst (.int .i64 1))), none⟩,
 ⟨.loc 8, .r (.mov (.tmp 51)), none⟩])
 (.dreg ⟨[0, 1, 3, 0, 0, 31, 0, 64, 192, 511, 1023, 2047, 4095], 0, [⟨0, 0, false, .r (.off 3 (.loc 2)), none⟩,
 ⟨1, 0, false, .r (.off 2 (.tmp 0)), none⟩,
 ⟨2, 0, false, .r (.load false 1 (.tmp 1)), none⟩,
 ⟨3, 0, false, .r (.mov (.loc 8)), none⟩,
 ⟨4, 0, false, .r (.mov (.loc 8)), none⟩,
 ⟨5, 0, false, .r (.slc 3 (.tmp 2) none (some (.tmp 3)) (some (.tmp 4))), none⟩,
 ⟨6, 0, false, .r (.off 5 (.loc 3)), none⟩,
 ⟨7, 0, false, .r (.off 2 (.tmp 6)), none⟩,
 ⟨8, 0, false, .r (.load false 1 (.tmp 7)), none⟩,
 ⟨9, 0, true, .h (.app 3 40 (.tmp 5) (.tmp 8)), none⟩,
 ⟨10, 0, false, .r (.off 3 (.loc 2)), none⟩,
 ⟨11, 0, false, .r (.off 2 (.tmp 10)), none⟩,
 ⟨12, 0, true, .h (.store 1 (.tmp 11) (.tmp 9)), none⟩], []⟩))))
 (.seq (.reg [⟨.tmp 65, .r (.bin .eql (.loc 14) (.cst (.int .i64 3))), none⟩,
 ⟨.loc 64, .r (.mov (.tmp 65)), none⟩])
 (.cond (.loc 64) (.seq (.dreg ⟨[0, 1, 3, 0, 8, 24, 7, 127], 0, [⟨0, 0, false, .r (.off 5 (.loc 3)), none⟩,
 ⟨1, 0, false, .r (.off 0 (.tmp 0)), none⟩,
 ⟨2, 0, false, .r (.load false 1 (.tmp 1)), none⟩,
 ⟨3, 0, false, .r (.off 5 (.loc 3)), none⟩,
 ⟨4, 0, false, .r (.off 1 (.tmp 3)), none⟩,
 ⟨5, 0, false, .r (.load false 1 (.tmp 4)), none⟩,
 ⟨6, 0, false, .r (.mov (.tmp 2)), none⟩,
 ⟨7, 0, false, .r (.mov (.tmp 5)), none⟩], [(9, 6), (10, 7)]⟩)
 (.seq (.seq (.reg [⟨.tmp 73, .r (.off 3 (.loc 2)), none⟩,
 ⟨.tmp 74, .r (.load true 3 (.tmp 73)), none⟩,
 ⟨.tmp 75, .r (.mov (.loc 9)), none⟩,
 ⟨.tmp 76, .call f1 [.tmp 74, .tmp 75], none⟩,
 ⟨.tmp 72, .r (.mov (.tmp 76)), none⟩,
 ⟨.tmp 77, .r (.ext (.tmp 72) 0), none⟩,
 ⟨.tmp 78, .r (.ext (.tmp 72) 1), none⟩,
 ⟨.loc 11, .r (.mov (.tmp 77)), none⟩,
 ⟨.loc 12, .r (.mov (.tmp 78)), none⟩])
 (.seq (.reg [⟨.tmp 79, .r (.mov (.loc 12)), none⟩,
 ⟨.tmp 80, .r (.mov (.tmp 79)), none⟩,
 ⟨.tmp 81, .r (.mov (.loc 11)), some (.tmp 80, true)⟩,
 ⟨.tmp 82, .r (.mov (.loc 10)), some (.tmp 80, true)⟩,
 ⟨.tmp 83, .r (.bin .eql (.tmp 81) (.tmp 82)), some (.tmp 80, true)⟩,
 ⟨.loc 84, .r (.pick (.tmp 80) (.tmp 83) (.cst (.bool false))), none⟩])
 (.cond (.loc 84) (.reg [⟨.tmp 86, .r (.off 3 (.loc 2)), none⟩,
 ⟨.tmp 87, .r (.load true 3 (.tmp 86)), none⟩,
 ⟨.tmp 88, .r (.mov (.loc 9)), none⟩,
 ⟨.tmp 89, .call f2 [.tmp 87, .tmp 88], none⟩,
 ⟨.tmp 85, .r (.mov (.tmp 89)), none⟩,
 ⟨.tmp 90, .r (.ext (.tmp 85) 0), none⟩,
 ⟨.tmp 91, .r (.ext (.tmp 85) 1), none⟩,
 ⟨.tmp 92, .r (.off 3 (.loc 2)), none⟩,
 ⟨.none, .h (.store 3 (.tmp 92) (.tmp 90)), none⟩])
 (.reg [⟨.tmp 93, .r (.mov (.loc 9)), none⟩,
 ⟨.tmp 94, .r (.mov (.loc 10)), none⟩,
 ⟨.tmp 95, .r (.build [(.int .i64 0), (.int .i64 0), .nils] [(0, 1, .tmp 93), (1, 1, .tmp 94)]), none⟩,
 ⟨.tmp 96, .r (.off 3 (.loc 2)), none⟩,
 ⟨.none, .h (.store 3 (.tmp 96) (.tmp 95)), none⟩]))))
 (.dreg ⟨[0, 1, 0, 4, 3, 19, 63, 127], 0, [⟨0, 0, false, .r (.off 8 (.loc 3)), none⟩,
 ⟨1, 0, false, .r (.load true 3 (.tmp 0)), none⟩,
 ⟨2, 0, false, .r (.off 11 (.loc 3)), none⟩,
 ⟨3, 0, false, .r (.load false 1 (.tmp 2)), none⟩,
 ⟨4, 0, false, .r (.off 6 (.loc 2)), none⟩,
 ⟨5, 0, true, .h (.store 3 (.tmp 4) (.tmp 1)), none⟩,
 ⟨6, 0, false, .r (.off 9 (.loc 2)), none⟩,
 ⟨7, 0, true, .h (.store 1 (.tmp 6) (.tmp 3)), none⟩], []⟩)))
 .skip))))))))
 (.seq (.reg [⟨.tmp 103, .r (.load true 10 (.loc 2)), none⟩,
 ⟨.none, .h (.store 10 (.loc 4) (.tmp 103)), none⟩,
 ⟨.loc 5, .r (.mov (.cst (.int .i64 0))), none⟩])
 .ret))), [(.cell (.loc 4) true 10), (.tmp (.loc 5))]⟩

def c_image_Apply_l0 (f0 f1 f2 f3 : FuncId) : AC := (.seq (.reg [⟨.loc 36, .r (.bin .lss (.loc 35) (.loc 34)), none⟩])
 (.seq (.cond (.loc 36) .skip
 (.exit 0))
 (.seq (.block 1 (.seq (.reg [⟨.tmp 37, .r (.mov (.loc 35)), none⟩,
 ⟨.loc 6, .r (.mov (.tmp 37)), none⟩])
 (.seq (.seq (.dreg ⟨[0, 1, 0, 7, 15, 31, 0, 64, 255], 0, [⟨0, 0, false, .r (.off 0 (.loc 2)), none⟩,
 ⟨1, 0, false, .r (.load false 1 (.tmp 0)), none⟩,
 ⟨2, 0, false, .r (.mov (.loc 6)), none⟩,
 ⟨3, 0, false, .r (.idx 10 (.tmp 1) (.tmp 2)), none⟩,
 ⟨4, 0, false, .r (.off 0 (.tmp 3)), none⟩,
 ⟨5, 0, false, .r (.load false 1 (.tmp 4)), none⟩,
 ⟨6, 0, false, .r (.off 1 (.loc 3)), none⟩,
 ⟨7, 0, false, .r (.load false 1 (.tmp 6)), none⟩,
 ⟨8, 0, false, .r (.bin .neq (.tmp 5) (.tmp 7)), none⟩], [(46, 8)]⟩)
 (.cond (.loc 46) (.exit 1)
 .skip))
 (.seq (.dreg ⟨[0, 1, 0, 7, 15, 0, 63, 127, 255, 255, 0, 1535, 4095], 1, [⟨0, 0, false, .r (.off 0 (.loc 2)), none⟩,
 ⟨1, 0, false, .r (.load false 1 (.tmp 0)), none⟩,
 ⟨2, 0, false, .r (.mov (.loc 6)), none⟩,
 ⟨3, 0, false, .r (.idx 10 (.tmp 1) (.tmp 2)), none⟩,
 ⟨4, 0, false, .r (.load true 10 (.tmp 3)), none⟩,
 ⟨5, 0, false, .r (.load true 17 (.loc 3)), none⟩,
 ⟨10, 0, false, .h (.mk [(.int .i64 0), (.int .i64 0), (.int .i64 0), (.int .i64 0), (.int .i64 0), .nils, .nils, .nils, .nils, .nils]), none⟩,
 ⟨6, 0, true, .call f3 [.tmp 4, .tmp 5], none⟩,
 ⟨7, 0, false, .r (.mov (.tmp 6)), none⟩,
 ⟨8, 0, false, .r (.ext (.tmp 7) 0), none⟩,
 ⟨9, 0, false, .r (.ext (.tmp 7) 1), none⟩,
 ⟨11, 1, true, .h (.store 10 (.tmp 10) (.tmp 8)), none⟩,
 ⟨12, 1, false, .r (.mov (.tmp 9)), none⟩], [(7, 10), (8, 12)]⟩)
 (.seq (.seq (.reg [⟨.tmp 57, .r (.mov (.loc 8)), none⟩,
 ⟨.loc 58, .r (.bin .neq (.tmp 57) (.cst (.int .i64 0))), none⟩])
 (.cond (.loc 58) (.seq (.reg [⟨.tmp 59, .r (.build [.nils, .nils] []), none⟩,
 ⟨.tmp 60, .r (.mov (.loc 8)), none⟩,
 ⟨.none, .h (.store 2 (.loc 4) (.tmp 59)), none⟩,
 ⟨.loc 5, .r (.mov (.tmp 60)), none⟩])
 .ret)
 .skip))
 (.seq (.reg [⟨.tmp 61, .r (.off 0 (.loc 2)), none⟩,
 ⟨.tmp 62, .r (.load false 1 (.tmp 61)), none⟩,
 ⟨.tmp 63, .r (.mov (.loc 6)), none⟩,
 ⟨.tmp 64, .r (.load true 10 (.loc 7)), none⟩,
 ⟨.tmp 65, .r (.idx 10 (.tmp 62) (.tmp 63)), none⟩,
 ⟨.none, .h (.store 10 (.tmp 65) (.tmp 64)), none⟩])
 (.seq (.reg [⟨.tmp 66, .r (.load true 2 (.loc 2)), none⟩,
 ⟨.none, .h (.store 2 (.loc 4) (.tmp 66)), none⟩,
 ⟨.loc 5, .r (.mov (.cst (.int .i64 0))), none⟩])
 .ret)))))))
 (.reg [⟨.tmp 67, .r (.bin .add (.loc 35) (.cst (.int .i64 1))), none⟩,
 ⟨.loc 35, .r (.mov (.tmp 67)), none⟩]))))
/-- glebe/image.Apply -/
def c_image_Apply (f0 f1 f2 f3 : FuncId) : AFn := ⟨69, fun s => List.contains [0, 1, 2, 3, 4, 5, 6, 7, 8, 16, 24, 34, 35, 36, 46, 58] s, (.seq (.reg [⟨.loc 2, .h (.box (.loc 0)), none⟩,
 ⟨.loc 3, .h (.box (.loc 1)), none⟩,
 ⟨.loc 4, .h (.mk [.nils, .nils]), none⟩,
 ⟨.loc 5, .r (.mov (.cst (.int .i64 0))), none⟩])
 (.seq (.seq (.reg [⟨.tmp 9, .r (.off 0 (.loc 3)), none⟩,
 ⟨.tmp 10, .r (.load false 1 (.tmp 9)), none⟩,
 ⟨.tmp 11, .r (.bin .lss (.tmp 10) (.cst (.int .i64 1))), none⟩,
 ⟨.tmp 12, .r (.mov (.tmp 11)), none⟩,
 ⟨.tmp 13, .r (.off 0 (.loc 3)), some (.tmp 12, false)⟩,
 ⟨.tmp 14, .r (.load false 1 (.tmp 13)), some (.tmp 12, false)⟩,
 ⟨.tmp 15, .r (.bin .gtr (.tmp 14) (.cst (.int .i64 4))), some (.tmp 12, false)⟩,
 ⟨.loc 16, .r (.pick (.tmp 12) (.cst (.bool true)) (.tmp 15)), none⟩])
 (.cond (.loc 16) (.seq (.reg [⟨.tmp 17, .r (.build [.nils, .nils] []), none⟩,
 ⟨.none, .h (.store 2 (.loc 4) (.tmp 17)), none⟩,
 ⟨.loc 5, .r (.mov (.cst (.int .i64 13))), none⟩])
 .ret)
 .skip))
 (.seq (.dreg ⟨[0, 1, 0, 7, 15, 31], 0, [⟨0, 0, false, .r (.load true 2 (.loc 2)), none⟩,
 ⟨2, 0, false, .r (.load true 17 (.loc 3)), none⟩,
 ⟨1, 0, true, .call f0 [.tmp 0], none⟩,
 ⟨3, 0, true, .call f1 [.tmp 2], none⟩,
 ⟨4, 0, true, .h (.store 2 (.loc 2) (.tmp 1)), none⟩,
 ⟨5, 0, true, .h (.store 17 (.loc 3) (.tmp 3)), none⟩], []⟩)
 (.seq (.seq (.reg [⟨.tmp 22, .r (.off 0 (.loc 3)), none⟩,
 ⟨.tmp 23, .r (.load false 1 (.tmp 22)), none⟩,
 ⟨.loc 24, .r (.bin .eql (.tmp 23) (.cst (.int .i64 4))), none⟩])
 (.cond (.loc 24) (.seq (.reg [⟨.tmp 25, .r (.off 1 (.loc 2)), none⟩,
 ⟨.tmp 26, .r (.load false 1 (.tmp 25)), none⟩,
 ⟨.tmp 27, .r (.off 12 (.loc 3)), none⟩,
 ⟨.tmp 28, .r (.load true 5 (.tmp 27)), none⟩,
 ⟨.tmp 29, .call f2 [.tmp 26, .tmp 28], none⟩,
 ⟨.tmp 30, .r (.off 1 (.loc 2)), none⟩,
 ⟨.none, .h (.store 1 (.tmp 30) (.tmp 29)), none⟩])
 (.seq (.reg [⟨.tmp 31, .r (.load true 2 (.loc 2)), none⟩,
 ⟨.none, .h (.store 2 (.loc 4) (.tmp 31)), none⟩,
 ⟨.loc 5, .r (.mov (.cst (.int .i64 0))), none⟩])
 .ret))
 .skip))
 (.seq (.seq (.reg [⟨.tmp 32, .r (.off 0 (.loc 2)), none⟩,
 ⟨.tmp 33, .r (.load false 1 (.tmp 32)), none⟩,
 ⟨.loc 34, .r (.len (.tmp 33)), none⟩,
 ⟨.loc 35, .r (.mov (.cst (.int .i64 0))), none⟩])
 (.block 0 (.loop (c_image_Apply_l0 f0 f1 f2 f3))))
 (.seq (.reg [⟨.tmp 68, .r (.build [.nils, .nils] []), none⟩,
 ⟨.none, .h (.store 2 (.loc 4) (.tmp 68)), none⟩,
 ⟨.loc 5, .r (.mov (.cst (.int .i64 6))), none⟩])
 .ret)))))), [(.cell (.loc 4) true 2), (.tmp (.loc 5))]⟩

end Glb
