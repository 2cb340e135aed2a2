/-
  What functions of the program are, one by one (the functions that they call as parameters), in a form of which something can be shown.
-/
import Derived.Test.YtodbhmdfmdfiaaaGreatGlbLibB
set_option linter.unusedSimpArgs false
set_option linter.unusedVariables false
namespace Glb
open Go
set_option maxRecDepth 100000

def c_gleberef13_putLog_l0 (f_gleberef02_Int : FuncId) (f_gleberef02_Blob : FuncId) : AC := (.seq (.seq (.reg [⟨(.tmp 18), (.r (.mov (.loc 5))), none⟩,
  ⟨(.tmp 19), (.r (.off 2 (.loc 3))), none⟩,
  ⟨(.tmp 20), (.r (.load false 1 (.tmp 19))), none⟩,
  ⟨(.tmp 21), (.r (.len (.tmp 20))), none⟩,
  ⟨(.loc 22), (.r (.bin .lss (.tmp 18) (.tmp 21))), none⟩])
 (.cond (.loc 22) .skip
 (.exit 0)))
 (.seq (.block 1 (.seq (.reg [⟨(.tmp 25), (.r (.off 2 (.loc 3))), none⟩,
  ⟨(.tmp 26), (.r (.load false 1 (.tmp 25))), none⟩,
  ⟨(.tmp 27), (.r (.mov (.loc 5))), none⟩,
  ⟨(.tmp 28), (.r (.idx 3 (.tmp 26) (.tmp 27))), none⟩,
  ⟨(.tmp 29), (.r (.load true 3 (.tmp 28))), none⟩,
  ⟨(.loc 6), (.h (.mk [(.int .i64 0), (.int .i64 0), .nils])), none⟩,
  ⟨.none, (.h (.store 3 (.loc 6) (.tmp 29))), none⟩])
 (.dreg ⟨[0, 0, 2, 7, 0, 16, 63, 0, 128, 511, 1023], 0, [⟨0, 0, false, (.r (.mov (.loc 0))), none⟩,
  ⟨1, 0, false, (.r (.off 0 (.loc 6))), none⟩,
  ⟨2, 0, false, (.r (.load false 1 (.tmp 1))), none⟩,
  ⟨4, 0, false, (.r (.off 1 (.loc 6))), none⟩,
  ⟨5, 0, false, (.r (.load false 1 (.tmp 4))), none⟩,
  ⟨7, 0, false, (.r (.off 2 (.loc 6))), none⟩,
  ⟨8, 0, false, (.r (.load false 1 (.tmp 7))), none⟩,
  ⟨3, 0, true, (.call f_gleberef02_Int [(.tmp 0), (.tmp 2)]), none⟩,
  ⟨6, 0, true, (.call f_gleberef02_Int [(.tmp 3), (.tmp 5)]), none⟩,
  ⟨9, 0, true, (.call f_gleberef02_Blob [(.tmp 6), (.tmp 8)]), none⟩,
  ⟨10, 0, false, (.r (.mov (.tmp 9))), none⟩], [(0, 10)]⟩)))
 (.reg [⟨(.tmp 23), (.r (.mov (.loc 5))), none⟩,
  ⟨(.tmp 24), (.r (.bin .add (.tmp 23) (.cst (.int .i64 1)))), none⟩,
  ⟨(.loc 5), (.r (.mov (.tmp 24))), none⟩])))
/-- glebe/gleberef13.putLog -/
def c_gleberef13_putLog (f_gleberef02_Int : FuncId) (f_gleberef02_Blob : FuncId) : AFn := ⟨41, fun s => List.contains [0, 1, 3, 4, 5, 6, 22] s, (.seq (.reg [⟨(.loc 3), (.h (.box (.loc 1))), none⟩,
  ⟨(.loc 4), (.r (.mov (.cst .nils))), none⟩])
 (.seq (.dreg ⟨[0, 0, 2, 7, 0, 16, 63, 0, 128, 384, 1023, 2047], 0, [⟨0, 0, false, (.r (.mov (.loc 0))), none⟩,
  ⟨1, 0, false, (.r (.off 0 (.loc 3))), none⟩,
  ⟨2, 0, false, (.r (.load false 1 (.tmp 1))), none⟩,
  ⟨4, 0, false, (.r (.off 1 (.loc 3))), none⟩,
  ⟨5, 0, false, (.r (.load false 1 (.tmp 4))), none⟩,
  ⟨7, 0, false, (.r (.off 2 (.loc 3))), none⟩,
  ⟨8, 0, false, (.r (.load false 1 (.tmp 7))), none⟩,
  ⟨9, 0, false, (.r (.len (.tmp 8))), none⟩,
  ⟨3, 0, true, (.call f_gleberef02_Int [(.tmp 0), (.tmp 2)]), none⟩,
  ⟨6, 0, true, (.call f_gleberef02_Int [(.tmp 3), (.tmp 5)]), none⟩,
  ⟨10, 0, true, (.call f_gleberef02_Int [(.tmp 6), (.tmp 9)]), none⟩,
  ⟨11, 0, false, (.r (.mov (.tmp 10))), none⟩], [(0, 11)]⟩)
 (.seq (.seq (.reg [⟨(.loc 5), (.r (.mov (.cst (.int .i64 0)))), none⟩])
 (.block 0 (.loop (c_gleberef13_putLog_l0 f_gleberef02_Int f_gleberef02_Blob))))
 (.seq (.reg [⟨(.tmp 40), (.r (.mov (.loc 0))), none⟩,
  ⟨(.loc 4), (.r (.mov (.tmp 40))), none⟩])
 .ret)))), [(.tmp (.loc 4))]⟩

/-- glebe/gleberef13.putVote -/
def c_gleberef13_putVote (f_gleberef02_Int : FuncId) : AFn := ⟨22, fun s => List.contains [0, 1, 3, 4] s, (.seq (.reg [⟨(.loc 3), (.h (.box (.loc 1))), none⟩,
  ⟨(.loc 4), (.r (.mov (.cst .nils))), none⟩])
 (.seq (.dreg ⟨[0, 0, 2, 7, 0, 16, 63, 127], 0, [⟨0, 0, false, (.r (.mov (.loc 0))), none⟩,
  ⟨1, 0, false, (.r (.off 0 (.loc 3))), none⟩,
  ⟨2, 0, false, (.r (.load false 1 (.tmp 1))), none⟩,
  ⟨4, 0, false, (.r (.off 1 (.loc 3))), none⟩,
  ⟨5, 0, false, (.r (.load false 1 (.tmp 4))), none⟩,
  ⟨3, 0, true, (.call f_gleberef02_Int [(.tmp 0), (.tmp 2)]), none⟩,
  ⟨6, 0, true, (.call f_gleberef02_Int [(.tmp 3), (.tmp 5)]), none⟩,
  ⟨7, 0, false, (.r (.mov (.tmp 6))), none⟩], [(0, 7)]⟩)
 (.seq (.dreg ⟨[0, 0, 2, 7, 0, 16, 63, 0, 128, 511, 1023], 0, [⟨0, 0, false, (.r (.mov (.loc 0))), none⟩,
  ⟨1, 0, false, (.r (.off 2 (.loc 3))), none⟩,
  ⟨2, 0, false, (.r (.load false 1 (.tmp 1))), none⟩,
  ⟨4, 0, false, (.r (.off 3 (.loc 3))), none⟩,
  ⟨5, 0, false, (.r (.load false 1 (.tmp 4))), none⟩,
  ⟨7, 0, false, (.r (.off 4 (.loc 3))), none⟩,
  ⟨8, 0, false, (.r (.load false 1 (.tmp 7))), none⟩,
  ⟨3, 0, true, (.call f_gleberef02_Int [(.tmp 0), (.tmp 2)]), none⟩,
  ⟨6, 0, true, (.call f_gleberef02_Int [(.tmp 3), (.tmp 5)]), none⟩,
  ⟨9, 0, true, (.call f_gleberef02_Int [(.tmp 6), (.tmp 8)]), none⟩,
  ⟨10, 0, false, (.r (.mov (.tmp 9))), none⟩], [(4, 10)]⟩)
 .ret))), [(.tmp (.loc 4))]⟩

def c_gleberef13_PutChanges_l0 (f_gleberef02_Int : FuncId) (f_gleberef13_putLog : FuncId) (f_gleberef13_putConf : FuncId) (f_gleberef02_Blob : FuncId) (f_gleberef13_putVote : FuncId) : AC := (.seq (.seq (.reg [⟨(.tmp 9), (.r (.mov (.loc 4))), none⟩,
  ⟨(.tmp 10), (.r (.mov (.loc 0))), none⟩,
  ⟨(.tmp 11), (.r (.len (.tmp 10))), none⟩,
  ⟨(.loc 12), (.r (.bin .lss (.tmp 9) (.tmp 11))), none⟩])
 (.cond (.loc 12) .skip
 (.exit 0)))
 (.seq (.block 1 (.seq (.reg [⟨(.tmp 15), (.r (.mov (.loc 0))), none⟩,
  ⟨(.tmp 16), (.r (.mov (.loc 4))), none⟩,
  ⟨(.tmp 17), (.r (.idx 17 (.tmp 15) (.tmp 16))), none⟩,
  ⟨(.tmp 18), (.r (.load true 17 (.tmp 17))), none⟩,
  ⟨(.loc 5), (.h (.mk [(.int .i64 0), (.int .i64 0), (.int .i64 0), (.int .i64 0), (.int .i64 0), (.int .i64 0), (.int .i64 0), .nils, .nils, .nils, .nils, .nils, (.int .i64 0), (.int .i64 0), (.int .i64 0), (.int .i64 0), (.int .i64 0)])), none⟩,
  ⟨.none, (.h (.store 17 (.loc 5) (.tmp 18))), none⟩])
 (.seq (.dreg ⟨[0, 0, 2, 7, 0, 16, 63, 127], 0, [⟨0, 0, false, (.r (.mov (.loc 3))), none⟩,
  ⟨1, 0, false, (.r (.off 0 (.loc 5))), none⟩,
  ⟨2, 0, false, (.r (.load false 1 (.tmp 1))), none⟩,
  ⟨4, 0, false, (.r (.off 1 (.loc 5))), none⟩,
  ⟨5, 0, false, (.r (.load false 1 (.tmp 4))), none⟩,
  ⟨3, 0, true, (.call f_gleberef02_Int [(.tmp 0), (.tmp 2)]), none⟩,
  ⟨6, 0, true, (.call f_gleberef02_Int [(.tmp 3), (.tmp 5)]), none⟩,
  ⟨7, 0, false, (.r (.mov (.tmp 6))), none⟩], [(3, 7)]⟩)
 (.seq (.dreg ⟨[0, 0, 2, 7, 0, 16, 63, 0, 128, 511, 1023], 0, [⟨0, 0, false, (.r (.mov (.loc 3))), none⟩,
  ⟨1, 0, false, (.r (.off 2 (.loc 5))), none⟩,
  ⟨2, 0, false, (.r (.load false 1 (.tmp 1))), none⟩,
  ⟨4, 0, false, (.r (.off 3 (.loc 5))), none⟩,
  ⟨5, 0, false, (.r (.load false 1 (.tmp 4))), none⟩,
  ⟨7, 0, false, (.r (.off 4 (.loc 5))), none⟩,
  ⟨8, 0, false, (.r (.load false 1 (.tmp 7))), none⟩,
  ⟨3, 0, true, (.call f_gleberef02_Int [(.tmp 0), (.tmp 2)]), none⟩,
  ⟨6, 0, true, (.call f_gleberef02_Int [(.tmp 3), (.tmp 5)]), none⟩,
  ⟨9, 0, true, (.call f_gleberef02_Int [(.tmp 6), (.tmp 8)]), none⟩,
  ⟨10, 0, false, (.r (.mov (.tmp 9))), none⟩], [(3, 10)]⟩)
 (.dreg ⟨[0, 0, 2, 7, 0, 16, 63, 0, 128, 511, 0, 1024, 4095, 8191], 0, [⟨0, 0, false, (.r (.mov (.loc 3))), none⟩,
  ⟨1, 0, false, (.r (.off 5 (.loc 5))), none⟩,
  ⟨2, 0, false, (.r (.load true 3 (.tmp 1))), none⟩,
  ⟨4, 0, false, (.r (.off 8 (.loc 5))), none⟩,
  ⟨5, 0, false, (.r (.load true 3 (.tmp 4))), none⟩,
  ⟨7, 0, false, (.r (.off 11 (.loc 5))), none⟩,
  ⟨8, 0, false, (.r (.load false 1 (.tmp 7))), none⟩,
  ⟨10, 0, false, (.r (.off 12 (.loc 5))), none⟩,
  ⟨11, 0, false, (.r (.load true 5 (.tmp 10))), none⟩,
  ⟨3, 0, true, (.call f_gleberef13_putLog [(.tmp 0), (.tmp 2)]), none⟩,
  ⟨6, 0, true, (.call f_gleberef13_putConf [(.tmp 3), (.tmp 5)]), none⟩,
  ⟨9, 0, true, (.call f_gleberef02_Blob [(.tmp 6), (.tmp 8)]), none⟩,
  ⟨12, 0, true, (.call f_gleberef13_putVote [(.tmp 9), (.tmp 11)]), none⟩,
  ⟨13, 0, false, (.r (.mov (.tmp 12))), none⟩], [(3, 13)]⟩)))))
 (.reg [⟨(.tmp 13), (.r (.mov (.loc 4))), none⟩,
  ⟨(.tmp 14), (.r (.bin .add (.tmp 13) (.cst (.int .i64 1)))), none⟩,
  ⟨(.loc 4), (.r (.mov (.tmp 14))), none⟩])))
/-- glebe/gleberef13.PutChanges -/
def c_gleberef13_PutChanges (f_gleberef02_Int : FuncId) (f_gleberef13_putLog : FuncId) (f_gleberef13_putConf : FuncId) (f_gleberef02_Blob : FuncId) (f_gleberef13_putVote : FuncId) : AFn := ⟨50, fun s => List.contains [0, 2, 3, 4, 5, 12] s, (.seq (.reg [⟨(.loc 2), (.r (.mov (.cst .nils))), none⟩])
 (.seq (.reg [⟨(.tmp 6), (.r (.mov (.loc 0))), none⟩,
  ⟨(.tmp 7), (.r (.len (.tmp 6))), none⟩,
  ⟨(.tmp 8), (.call f_gleberef02_Int [(.cst .nils), (.tmp 7)]), none⟩,
  ⟨(.loc 3), (.r (.mov (.tmp 8))), none⟩])
 (.seq (.seq (.reg [⟨(.loc 4), (.r (.mov (.cst (.int .i64 0)))), none⟩])
 (.block 0 (.loop (c_gleberef13_PutChanges_l0 f_gleberef02_Int f_gleberef13_putLog f_gleberef13_putConf f_gleberef02_Blob f_gleberef13_putVote))))
 (.seq (.reg [⟨(.tmp 49), (.r (.mov (.loc 3))), none⟩,
  ⟨(.loc 2), (.r (.mov (.tmp 49))), none⟩])
 .ret)))), [(.tmp (.loc 2))]⟩

/-- glebe/gleberef13.ahead -/
def c_gleberef13_ahead : AFn := ⟨24, fun s => List.contains [0, 1, 2, 3, 4] s, (.seq (.reg [⟨(.loc 2), (.h (.box (.loc 0))), none⟩,
  ⟨(.loc 3), (.h (.box (.loc 1))), none⟩,
  ⟨(.loc 4), (.r (.mov (.cst (.bool false)))), none⟩])
 (.seq (.reg [⟨(.tmp 5), (.r (.off 0 (.loc 2))), none⟩,
  ⟨(.tmp 6), (.r (.load false 1 (.tmp 5))), none⟩,
  ⟨(.tmp 7), (.r (.off 0 (.loc 3))), none⟩,
  ⟨(.tmp 8), (.r (.load false 1 (.tmp 7))), none⟩,
  ⟨(.tmp 9), (.r (.bin .lss (.tmp 6) (.tmp 8))), none⟩,
  ⟨(.tmp 10), (.r (.mov (.tmp 9))), none⟩,
  ⟨(.tmp 11), (.r (.off 0 (.loc 2))), (some ((.tmp 10), false))⟩,
  ⟨(.tmp 12), (.r (.load false 1 (.tmp 11))), (some ((.tmp 10), false))⟩,
  ⟨(.tmp 13), (.r (.off 0 (.loc 3))), (some ((.tmp 10), false))⟩,
  ⟨(.tmp 14), (.r (.load false 1 (.tmp 13))), (some ((.tmp 10), false))⟩,
  ⟨(.tmp 15), (.r (.bin .eql (.tmp 12) (.tmp 14))), (some ((.tmp 10), false))⟩,
  ⟨(.tmp 16), (.r (.mov (.tmp 15))), (some ((.tmp 10), false))⟩,
  ⟨(.tmp 17), (.r (.off 1 (.loc 2))), (some ((.tmp 16), true))⟩,
  ⟨(.tmp 18), (.r (.load false 1 (.tmp 17))), (some ((.tmp 16), true))⟩,
  ⟨(.tmp 19), (.r (.off 1 (.loc 3))), (some ((.tmp 16), true))⟩,
  ⟨(.tmp 20), (.r (.load false 1 (.tmp 19))), (some ((.tmp 16), true))⟩,
  ⟨(.tmp 21), (.r (.bin .lss (.tmp 18) (.tmp 20))), (some ((.tmp 16), true))⟩,
  ⟨(.tmp 22), (.r (.pick (.tmp 16) (.tmp 21) (.cst (.bool false)))), (some ((.tmp 10), false))⟩,
  ⟨(.tmp 23), (.r (.pick (.tmp 10) (.cst (.bool true)) (.tmp 22))), none⟩,
  ⟨(.loc 4), (.r (.mov (.tmp 23))), none⟩])
 .ret)), [(.tmp (.loc 4))]⟩

def c_gleberef13_Ordered_l0 (f_gleberef13_ahead : FuncId) : AC := (.seq (.seq (.reg [⟨(.tmp 5), (.r (.mov (.loc 3))), none⟩,
  ⟨(.tmp 6), (.r (.off 0 (.loc 1))), none⟩,
  ⟨(.tmp 7), (.r (.load false 1 (.tmp 6))), none⟩,
  ⟨(.tmp 8), (.r (.len (.tmp 7))), none⟩,
  ⟨(.loc 9), (.r (.bin .lss (.tmp 5) (.tmp 8))), none⟩])
 (.cond (.loc 9) .skip
 (.exit 0)))
 (.seq (.block 1 (.seq (.dreg ⟨[0, 1, 0, 4, 15, 31, 63, 0, 128, 0, 896, 1920, 3968, 8191], 0, [⟨0, 0, false, (.r (.off 0 (.loc 1))), none⟩,
  ⟨1, 0, false, (.r (.load false 1 (.tmp 0))), none⟩,
  ⟨2, 0, false, (.r (.mov (.loc 3))), none⟩,
  ⟨3, 0, false, (.r (.bin .sub (.tmp 2) (.cst (.int .i64 1)))), none⟩,
  ⟨4, 0, false, (.r (.idx 10 (.tmp 1) (.tmp 3))), none⟩,
  ⟨5, 0, false, (.r (.off 0 (.tmp 4))), none⟩,
  ⟨6, 0, false, (.r (.load false 1 (.tmp 5))), none⟩,
  ⟨7, 0, false, (.r (.off 0 (.loc 1))), none⟩,
  ⟨8, 0, false, (.r (.load false 1 (.tmp 7))), none⟩,
  ⟨9, 0, false, (.r (.mov (.loc 3))), none⟩,
  ⟨10, 0, false, (.r (.idx 10 (.tmp 8) (.tmp 9))), none⟩,
  ⟨11, 0, false, (.r (.off 0 (.tmp 10))), none⟩,
  ⟨12, 0, false, (.r (.load false 1 (.tmp 11))), none⟩,
  ⟨13, 0, false, (.r (.bin .geq (.tmp 6) (.tmp 12))), none⟩], [(25, 13)]⟩)
 (.cond (.loc 25) (.seq (.reg [⟨(.loc 2), (.r (.mov (.cst (.bool false)))), none⟩])
 .ret)
 .skip)))
 (.reg [⟨(.tmp 10), (.r (.mov (.loc 3))), none⟩,
  ⟨(.tmp 11), (.r (.bin .add (.tmp 10) (.cst (.int .i64 1)))), none⟩,
  ⟨(.loc 3), (.r (.mov (.tmp 11))), none⟩])))
def c_gleberef13_Ordered_l1 (f_gleberef13_ahead : FuncId) : AC := (.seq (.seq (.reg [⟨(.tmp 26), (.r (.mov (.loc 4))), none⟩,
  ⟨(.tmp 27), (.r (.off 1 (.loc 1))), none⟩,
  ⟨(.tmp 28), (.r (.load false 1 (.tmp 27))), none⟩,
  ⟨(.tmp 29), (.r (.len (.tmp 28))), none⟩,
  ⟨(.loc 30), (.r (.bin .lss (.tmp 26) (.tmp 29))), none⟩])
 (.cond (.loc 30) .skip
 (.exit 2)))
 (.seq (.block 3 (.seq (.dreg ⟨[0, 1, 0, 4, 15, 31, 0, 64, 0, 448, 960, 2047, 4095], 0, [⟨0, 0, false, (.r (.off 1 (.loc 1))), none⟩,
  ⟨1, 0, false, (.r (.load false 1 (.tmp 0))), none⟩,
  ⟨2, 0, false, (.r (.mov (.loc 4))), none⟩,
  ⟨3, 0, false, (.r (.bin .sub (.tmp 2) (.cst (.int .i64 1)))), none⟩,
  ⟨4, 0, false, (.r (.idx 5 (.tmp 1) (.tmp 3))), none⟩,
  ⟨5, 0, false, (.r (.load true 5 (.tmp 4))), none⟩,
  ⟨6, 0, false, (.r (.off 1 (.loc 1))), none⟩,
  ⟨7, 0, false, (.r (.load false 1 (.tmp 6))), none⟩,
  ⟨8, 0, false, (.r (.mov (.loc 4))), none⟩,
  ⟨9, 0, false, (.r (.idx 5 (.tmp 7) (.tmp 8))), none⟩,
  ⟨10, 0, false, (.r (.load true 5 (.tmp 9))), none⟩,
  ⟨11, 0, true, (.call f_gleberef13_ahead [(.tmp 5), (.tmp 10)]), none⟩,
  ⟨12, 0, false, (.r (.not (.tmp 11))), none⟩], [(45, 12)]⟩)
 (.cond (.loc 45) (.seq (.reg [⟨(.loc 2), (.r (.mov (.cst (.bool false)))), none⟩])
 .ret)
 .skip)))
 (.reg [⟨(.tmp 31), (.r (.mov (.loc 4))), none⟩,
  ⟨(.tmp 32), (.r (.bin .add (.tmp 31) (.cst (.int .i64 1)))), none⟩,
  ⟨(.loc 4), (.r (.mov (.tmp 32))), none⟩])))
/-- glebe/gleberef13.Ordered -/
def c_gleberef13_Ordered (f_gleberef13_ahead : FuncId) : AFn := ⟨46, fun s => List.contains [0, 1, 2, 3, 4, 9, 25, 30, 45] s, (.seq (.reg [⟨(.loc 1), (.h (.box (.loc 0))), none⟩,
  ⟨(.loc 2), (.r (.mov (.cst (.bool false)))), none⟩])
 (.seq (.seq (.reg [⟨(.loc 3), (.r (.mov (.cst (.int .i64 1)))), none⟩])
 (.block 0 (.loop (c_gleberef13_Ordered_l0 f_gleberef13_ahead))))
 (.seq (.seq (.reg [⟨(.loc 4), (.r (.mov (.cst (.int .i64 1)))), none⟩])
 (.block 2 (.loop (c_gleberef13_Ordered_l1 f_gleberef13_ahead))))
 (.seq (.reg [⟨(.loc 2), (.r (.mov (.cst (.bool true)))), none⟩])
 .ret)))), [(.tmp (.loc 2))]⟩

/-- glebe/gleberef13.Snapped -/
def c_gleberef13_Snapped (f_gleberef11_Term : FuncId) (f_gleberef11_Cut : FuncId) : AFn := ⟨33, fun s => List.contains [0, 1, 2, 3, 6, 7, 8, 9, 22] s, (.seq (.reg [⟨(.loc 3), (.h (.box (.loc 0))), none⟩,
  ⟨(.loc 6), (.h (.mk [(.int .i64 0), (.int .i64 0), .nils])), none⟩])
 (.seq (.reg [⟨(.tmp 12), (.r (.load true 3 (.loc 3))), none⟩,
  ⟨(.tmp 13), (.r (.mov (.loc 1))), none⟩,
  ⟨(.tmp 14), (.call f_gleberef11_Term [(.tmp 12), (.tmp 13)]), none⟩,
  ⟨(.tmp 11), (.r (.mov (.tmp 14))), none⟩,
  ⟨(.tmp 15), (.r (.ext (.tmp 11) 0)), none⟩,
  ⟨(.tmp 16), (.r (.ext (.tmp 11) 1)), none⟩,
  ⟨(.loc 7), (.r (.mov (.tmp 15))), none⟩,
  ⟨(.loc 8), (.r (.mov (.tmp 16))), none⟩])
 (.seq (.seq (.reg [⟨(.tmp 17), (.r (.mov (.loc 8))), none⟩,
  ⟨(.tmp 18), (.r (.mov (.tmp 17))), none⟩,
  ⟨(.tmp 19), (.r (.mov (.loc 7))), (some ((.tmp 18), true))⟩,
  ⟨(.tmp 20), (.r (.mov (.loc 2))), (some ((.tmp 18), true))⟩,
  ⟨(.tmp 21), (.r (.bin .eql (.tmp 19) (.tmp 20))), (some ((.tmp 18), true))⟩,
  ⟨(.loc 22), (.r (.pick (.tmp 18) (.tmp 21) (.cst (.bool false)))), none⟩])
 (.cond (.loc 22) (.seq (.reg [⟨(.tmp 24), (.r (.load true 3 (.loc 3))), none⟩,
  ⟨(.tmp 25), (.r (.mov (.loc 1))), none⟩,
  ⟨(.tmp 26), (.call f_gleberef11_Cut [(.tmp 24), (.tmp 25)]), none⟩,
  ⟨(.tmp 23), (.r (.mov (.tmp 26))), none⟩,
  ⟨(.tmp 27), (.r (.ext (.tmp 23) 0)), none⟩,
  ⟨(.tmp 28), (.r (.ext (.tmp 23) 1)), none⟩,
  ⟨(.loc 9), (.h (.mk [(.int .i64 0), (.int .i64 0), .nils])), none⟩,
  ⟨.none, (.h (.store 3 (.loc 9) (.tmp 27))), none⟩,
  ⟨(.tmp 10), (.r (.mov (.tmp 28))), none⟩])
 (.seq (.reg [⟨(.tmp 29), (.r (.load true 3 (.loc 9))), none⟩,
  ⟨.none, (.h (.store 3 (.loc 6) (.tmp 29))), none⟩])
 .ret))
 .skip))
 (.seq (.reg [⟨(.tmp 30), (.r (.mov (.loc 1))), none⟩,
  ⟨(.tmp 31), (.r (.mov (.loc 2))), none⟩,
  ⟨(.tmp 32), (.r (.build [(.int .i64 0), (.int .i64 0), .nils] [(0, 1, (.tmp 30)), (1, 1, (.tmp 31))])), none⟩,
  ⟨.none, (.h (.store 3 (.loc 6) (.tmp 32))), none⟩])
 .ret)))), [(.cell (.loc 6) true 3)]⟩

/-- glebe/gleberef13.Turned -/
def c_gleberef13_Turned (f_glebekit_CopyHard : FuncId) (f_glebekit_CopyChange : FuncId) (f_gleberef11_Last : FuncId) (f_glebekit_CopyEntries : FuncId) (f_gleberef13_Snapped : FuncId) : AFn := ⟨79, fun s => List.contains [0, 1, 2, 3, 4, 5, 6, 13, 30, 38, 58] s, (.seq (.reg [⟨(.loc 2), (.h (.box (.loc 0))), none⟩,
  ⟨(.loc 3), (.h (.box (.loc 1))), none⟩,
  ⟨(.loc 4), (.h (.mk [(.int .i64 0), (.int .i64 0), (.int .i64 0), (.int .i64 0), (.int .i64 0), .nils, .nils, .nils, .nils, .nils])), none⟩,
  ⟨(.loc 5), (.r (.mov (.cst (.bool false)))), none⟩])
 (.seq (.reg [⟨(.tmp 8), (.r (.load true 10 (.loc 2))), none⟩,
  ⟨(.tmp 9), (.call f_glebekit_CopyHard [(.tmp 8)]), none⟩,
  ⟨.none, (.h (.store 10 (.loc 2) (.tmp 9))), none⟩])
 (.seq (.reg [⟨(.tmp 10), (.r (.load true 17 (.loc 3))), none⟩,
  ⟨(.tmp 11), (.call f_glebekit_CopyChange [(.tmp 10)]), none⟩,
  ⟨.none, (.h (.store 17 (.loc 3) (.tmp 11))), none⟩])
 (.seq (.seq (.reg [⟨(.tmp 12), (.r (.off 0 (.loc 3))), none⟩,
  ⟨(.loc 13), (.r (.load false 1 (.tmp 12))), none⟩])
 (.block 0 (.seq (.reg [⟨(.tmp 31), (.r (.bin .eql (.loc 13) (.cst (.int .i64 1)))), none⟩,
  ⟨(.loc 30), (.r (.mov (.tmp 31))), none⟩])
 (.cond (.loc 30) (.seq (.reg [⟨(.tmp 32), (.r (.off 2 (.loc 3))), none⟩,
  ⟨(.tmp 33), (.r (.load false 1 (.tmp 32))), none⟩,
  ⟨(.tmp 34), (.r (.off 1 (.loc 2))), none⟩,
  ⟨.none, (.h (.store 1 (.tmp 34) (.tmp 33))), none⟩])
 (.reg [⟨(.tmp 35), (.r (.off 3 (.loc 3))), none⟩,
  ⟨(.tmp 36), (.r (.load false 1 (.tmp 35))), none⟩,
  ⟨(.tmp 37), (.r (.off 2 (.loc 2))), none⟩,
  ⟨.none, (.h (.store 1 (.tmp 37) (.tmp 36))), none⟩]))
 (.seq (.reg [⟨(.tmp 39), (.r (.bin .eql (.loc 13) (.cst (.int .i64 2)))), none⟩,
  ⟨(.loc 38), (.r (.mov (.tmp 39))), none⟩])
 (.cond (.loc 38) (.seq (.reg [⟨(.tmp 41), (.r (.off 3 (.loc 2))), none⟩,
  ⟨(.tmp 42), (.r (.load true 3 (.tmp 41))), none⟩,
  ⟨(.tmp 43), (.call f_gleberef11_Last [(.tmp 42)]), none⟩,
  ⟨(.tmp 40), (.r (.mov (.tmp 43))), none⟩,
  ⟨(.tmp 44), (.r (.ext (.tmp 40) 0)), none⟩,
  ⟨(.tmp 45), (.r (.ext (.tmp 40) 1)), none⟩,
  ⟨(.loc 6), (.r (.mov (.tmp 44))), none⟩,
  ⟨(.tmp 7), (.r (.mov (.tmp 45))), none⟩])
 (.seq (.seq (.reg [⟨(.tmp 46), (.r (.off 4 (.loc 3))), none⟩,
  ⟨(.tmp 47), (.r (.load false 1 (.tmp 46))), none⟩,
  ⟨(.tmp 48), (.r (.off 3 (.loc 2))), none⟩,
  ⟨(.tmp 49), (.r (.off 0 (.tmp 48))), none⟩,
  ⟨(.tmp 50), (.r (.load false 1 (.tmp 49))), none⟩,
  ⟨(.tmp 51), (.r (.bin .leq (.tmp 47) (.tmp 50))), none⟩,
  ⟨(.tmp 52), (.r (.mov (.tmp 51))), none⟩,
  ⟨(.tmp 53), (.r (.off 4 (.loc 3))), (some ((.tmp 52), false))⟩,
  ⟨(.tmp 54), (.r (.load false 1 (.tmp 53))), (some ((.tmp 52), false))⟩,
  ⟨(.tmp 55), (.r (.mov (.loc 6))), (some ((.tmp 52), false))⟩,
  ⟨(.tmp 56), (.r (.bin .add (.tmp 55) (.cst (.int .i64 1)))), (some ((.tmp 52), false))⟩,
  ⟨(.tmp 57), (.r (.bin .gtr (.tmp 54) (.tmp 56))), (some ((.tmp 52), false))⟩,
  ⟨(.loc 58), (.r (.pick (.tmp 52) (.cst (.bool true)) (.tmp 57))), none⟩])
 (.cond (.loc 58) (.seq (.reg [⟨(.tmp 59), (.r (.load true 10 (.loc 2))), none⟩,
  ⟨.none, (.h (.store 10 (.loc 4) (.tmp 59))), none⟩,
  ⟨(.loc 5), (.r (.mov (.cst (.bool false)))), none⟩])
 .ret)
 .skip))
 (.dreg ⟨[0, 1, 3, 0, 8, 0, 32, 96, 248, 504, 1023, 2047, 0, 4096, 12288, 32767, 65535, 131071, 262143], 0, [⟨0, 0, false, (.r (.off 3 (.loc 2))), none⟩,
  ⟨1, 0, false, (.r (.off 2 (.tmp 0))), none⟩,
  ⟨2, 0, false, (.r (.load false 1 (.tmp 1))), none⟩,
  ⟨3, 0, false, (.r (.off 4 (.loc 3))), none⟩,
  ⟨4, 0, false, (.r (.load false 1 (.tmp 3))), none⟩,
  ⟨5, 0, false, (.r (.off 3 (.loc 2))), none⟩,
  ⟨6, 0, false, (.r (.off 0 (.tmp 5))), none⟩,
  ⟨7, 0, false, (.r (.load false 1 (.tmp 6))), none⟩,
  ⟨8, 0, false, (.r (.bin .sub (.tmp 4) (.tmp 7))), none⟩,
  ⟨9, 0, false, (.r (.bin .sub (.tmp 8) (.cst (.int .i64 1)))), none⟩,
  ⟨10, 0, false, (.r (.slc 3 (.tmp 2) none (some (.tmp 9)) none)), none⟩,
  ⟨12, 0, false, (.r (.off 5 (.loc 3))), none⟩,
  ⟨13, 0, false, (.r (.off 2 (.tmp 12))), none⟩,
  ⟨14, 0, false, (.r (.load false 1 (.tmp 13))), none⟩,
  ⟨11, 0, true, (.call f_glebekit_CopyEntries [(.tmp 10)]), none⟩,
  ⟨15, 0, true, (.h (.app 3 40 (.tmp 11) (.tmp 14))), none⟩,
  ⟨16, 0, false, (.r (.off 3 (.loc 2))), none⟩,
  ⟨17, 0, false, (.r (.off 2 (.tmp 16))), none⟩,
  ⟨18, 0, true, (.h (.store 1 (.tmp 17) (.tmp 15))), none⟩], []⟩)))
 (.seq (.reg [⟨(.tmp 14), (.r (.off 3 (.loc 2))), none⟩,
  ⟨(.tmp 15), (.r (.load true 3 (.tmp 14))), none⟩,
  ⟨(.tmp 16), (.r (.off 5 (.loc 3))), none⟩,
  ⟨(.tmp 17), (.r (.off 0 (.tmp 16))), none⟩,
  ⟨(.tmp 18), (.r (.load false 1 (.tmp 17))), none⟩,
  ⟨(.tmp 19), (.r (.off 5 (.loc 3))), none⟩,
  ⟨(.tmp 20), (.r (.off 1 (.tmp 19))), none⟩,
  ⟨(.tmp 21), (.r (.load false 1 (.tmp 20))), none⟩,
  ⟨(.tmp 22), (.call f_gleberef13_Snapped [(.tmp 15), (.tmp 18), (.tmp 21)]), none⟩,
  ⟨(.tmp 23), (.r (.off 3 (.loc 2))), none⟩,
  ⟨.none, (.h (.store 3 (.tmp 23) (.tmp 22))), none⟩])
 (.seq (.reg [⟨(.tmp 24), (.r (.off 8 (.loc 3))), none⟩,
  ⟨(.tmp 25), (.r (.load true 3 (.tmp 24))), none⟩,
  ⟨(.tmp 26), (.r (.off 6 (.loc 2))), none⟩,
  ⟨.none, (.h (.store 3 (.tmp 26) (.tmp 25))), none⟩])
 (.reg [⟨(.tmp 27), (.r (.off 11 (.loc 3))), none⟩,
  ⟨(.tmp 28), (.r (.load false 1 (.tmp 27))), none⟩,
  ⟨(.tmp 29), (.r (.off 9 (.loc 2))), none⟩,
  ⟨.none, (.h (.store 1 (.tmp 29) (.tmp 28))), none⟩])))))))))
 (.seq (.reg [⟨(.tmp 78), (.r (.load true 10 (.loc 2))), none⟩,
  ⟨.none, (.h (.store 10 (.loc 4) (.tmp 78))), none⟩,
  ⟨(.loc 5), (.r (.mov (.cst (.bool true)))), none⟩])
 .ret))))), [(.cell (.loc 4) true 10), (.tmp (.loc 5))]⟩

def c_gleberef13_Apply_l0 (f_glebekit_CopyImage : FuncId) (f_gleberef13_ahead : FuncId) (f_gleberef13_Turned : FuncId) : AC := (.seq (.seq (.reg [⟨(.tmp 28), (.r (.mov (.loc 8))), none⟩,
  ⟨(.tmp 29), (.r (.off 1 (.loc 2))), none⟩,
  ⟨(.tmp 30), (.r (.load false 1 (.tmp 29))), none⟩,
  ⟨(.tmp 31), (.r (.len (.tmp 30))), none⟩,
  ⟨(.loc 32), (.r (.bin .lss (.tmp 28) (.tmp 31))), none⟩])
 (.cond (.loc 32) .skip
 (.exit 0)))
 (.seq (.block 1 (.seq (.reg [⟨(.tmp 35), (.r (.off 1 (.loc 2))), none⟩,
  ⟨(.tmp 36), (.r (.load false 1 (.tmp 35))), none⟩,
  ⟨(.tmp 37), (.r (.mov (.loc 8))), none⟩,
  ⟨(.tmp 38), (.r (.idx 5 (.tmp 36) (.tmp 37))), none⟩,
  ⟨(.tmp 39), (.r (.load true 5 (.tmp 38))), none⟩,
  ⟨(.loc 9), (.h (.mk [(.int .i64 0), (.int .i64 0), (.int .i64 0), (.int .i64 0), (.int .i64 0)])), none⟩,
  ⟨.none, (.h (.store 5 (.loc 9) (.tmp 39))), none⟩])
 (.seq (.seq (.reg [⟨(.tmp 40), (.r (.mov (.loc 7))), none⟩,
  ⟨(.tmp 41), (.r (.not (.tmp 40))), none⟩,
  ⟨(.tmp 42), (.r (.mov (.tmp 41))), none⟩,
  ⟨(.tmp 43), (.r (.load true 5 (.loc 9))), (some ((.tmp 42), true))⟩,
  ⟨(.tmp 44), (.r (.off 12 (.loc 3))), (some ((.tmp 42), true))⟩,
  ⟨(.tmp 45), (.r (.load true 5 (.tmp 44))), (some ((.tmp 42), true))⟩,
  ⟨(.tmp 46), (.call f_gleberef13_ahead [(.tmp 43), (.tmp 45)]), (some ((.tmp 42), true))⟩,
  ⟨(.tmp 47), (.r (.not (.tmp 46))), (some ((.tmp 42), true))⟩,
  ⟨(.loc 48), (.r (.pick (.tmp 42) (.tmp 47) (.cst (.bool false)))), none⟩])
 (.cond (.loc 48) (.seq (.reg [⟨(.tmp 49), (.r (.off 1 (.loc 6))), none⟩,
  ⟨(.tmp 50), (.r (.load false 1 (.tmp 49))), none⟩,
  ⟨(.tmp 51), (.r (.off 12 (.loc 3))), none⟩,
  ⟨(.tmp 52), (.r (.load true 5 (.tmp 51))), none⟩,
  ⟨(.tmp 53), (.h (.bsl 5 [(.tmp 52)])), none⟩,
  ⟨(.tmp 54), (.h (.app 5 40 (.tmp 50) (.tmp 53))), none⟩,
  ⟨(.tmp 55), (.r (.off 1 (.loc 6))), none⟩,
  ⟨.none, (.h (.store 1 (.tmp 55) (.tmp 54))), none⟩])
 (.reg [⟨(.loc 7), (.r (.mov (.cst (.bool true)))), none⟩]))
 .skip))
 (.seq (.reg [⟨(.tmp 56), (.r (.off 0 (.loc 9))), none⟩,
  ⟨(.tmp 57), (.r (.load false 1 (.tmp 56))), none⟩,
  ⟨(.tmp 58), (.r (.off 12 (.loc 3))), none⟩,
  ⟨(.tmp 59), (.r (.off 0 (.tmp 58))), none⟩,
  ⟨(.tmp 60), (.r (.load false 1 (.tmp 59))), none⟩,
  ⟨(.tmp 61), (.r (.bin .neq (.tmp 57) (.tmp 60))), none⟩,
  ⟨(.tmp 62), (.r (.mov (.tmp 61))), none⟩,
  ⟨(.tmp 63), (.r (.off 1 (.loc 9))), (some ((.tmp 62), false))⟩,
  ⟨(.tmp 64), (.r (.load false 1 (.tmp 63))), (some ((.tmp 62), false))⟩,
  ⟨(.tmp 65), (.r (.off 12 (.loc 3))), (some ((.tmp 62), false))⟩,
  ⟨(.tmp 66), (.r (.off 1 (.tmp 65))), (some ((.tmp 62), false))⟩,
  ⟨(.tmp 67), (.r (.load false 1 (.tmp 66))), (some ((.tmp 62), false))⟩,
  ⟨(.tmp 68), (.r (.bin .neq (.tmp 64) (.tmp 67))), (some ((.tmp 62), false))⟩,
  ⟨(.loc 69), (.r (.pick (.tmp 62) (.cst (.bool true)) (.tmp 68))), none⟩])
 (.cond (.loc 69) (.reg [⟨(.tmp 70), (.r (.off 1 (.loc 6))), none⟩,
  ⟨(.tmp 71), (.r (.load false 1 (.tmp 70))), none⟩,
  ⟨(.tmp 72), (.r (.load true 5 (.loc 9))), none⟩,
  ⟨(.tmp 73), (.h (.bsl 5 [(.tmp 72)])), none⟩,
  ⟨(.tmp 74), (.h (.app 5 40 (.tmp 71) (.tmp 73))), none⟩,
  ⟨(.tmp 75), (.r (.off 1 (.loc 6))), none⟩,
  ⟨.none, (.h (.store 1 (.tmp 75) (.tmp 74))), none⟩])
 .skip)))))
 (.reg [⟨(.tmp 33), (.r (.mov (.loc 8))), none⟩,
  ⟨(.tmp 34), (.r (.bin .add (.tmp 33) (.cst (.int .i64 1)))), none⟩,
  ⟨(.loc 8), (.r (.mov (.tmp 34))), none⟩])))
def c_gleberef13_Apply_l1 (f_glebekit_CopyImage : FuncId) (f_gleberef13_ahead : FuncId) (f_gleberef13_Turned : FuncId) : AC := (.seq (.seq (.reg [⟨(.tmp 86), (.r (.mov (.loc 10))), none⟩,
  ⟨(.tmp 87), (.r (.off 0 (.loc 6))), none⟩,
  ⟨(.tmp 88), (.r (.load false 1 (.tmp 87))), none⟩,
  ⟨(.tmp 89), (.r (.len (.tmp 88))), none⟩,
  ⟨(.loc 90), (.r (.bin .lss (.tmp 86) (.tmp 89))), none⟩])
 (.cond (.loc 90) .skip
 (.exit 2)))
 (.seq (.block 3 (.seq (.dreg ⟨[0, 1, 0, 7, 15, 31, 0, 64, 255], 0, [⟨0, 0, false, (.r (.off 0 (.loc 6))), none⟩,
  ⟨1, 0, false, (.r (.load false 1 (.tmp 0))), none⟩,
  ⟨2, 0, false, (.r (.mov (.loc 10))), none⟩,
  ⟨3, 0, false, (.r (.idx 10 (.tmp 1) (.tmp 2))), none⟩,
  ⟨4, 0, false, (.r (.off 0 (.tmp 3))), none⟩,
  ⟨5, 0, false, (.r (.load false 1 (.tmp 4))), none⟩,
  ⟨6, 0, false, (.r (.off 1 (.loc 3))), none⟩,
  ⟨7, 0, false, (.r (.load false 1 (.tmp 6))), none⟩,
  ⟨8, 0, false, (.r (.bin .eql (.tmp 5) (.tmp 7))), none⟩], [(101, 8)]⟩)
 (.cond (.loc 101) (.seq (.dreg ⟨[0, 1, 0, 7, 15, 0, 63, 127, 255, 255, 0, 1535, 4095], 1, [⟨0, 0, false, (.r (.off 0 (.loc 6))), none⟩,
  ⟨1, 0, false, (.r (.load false 1 (.tmp 0))), none⟩,
  ⟨2, 0, false, (.r (.mov (.loc 10))), none⟩,
  ⟨3, 0, false, (.r (.idx 10 (.tmp 1) (.tmp 2))), none⟩,
  ⟨4, 0, false, (.r (.load true 10 (.tmp 3))), none⟩,
  ⟨5, 0, false, (.r (.load true 17 (.loc 3))), none⟩,
  ⟨10, 0, false, (.h (.mk [(.int .i64 0), (.int .i64 0), (.int .i64 0), (.int .i64 0), (.int .i64 0), .nils, .nils, .nils, .nils, .nils])), none⟩,
  ⟨6, 0, true, (.call f_gleberef13_Turned [(.tmp 4), (.tmp 5)]), none⟩,
  ⟨7, 0, false, (.r (.mov (.tmp 6))), none⟩,
  ⟨8, 0, false, (.r (.ext (.tmp 7) 0)), none⟩,
  ⟨9, 0, false, (.r (.ext (.tmp 7) 1)), none⟩,
  ⟨11, 1, true, (.h (.store 10 (.tmp 10) (.tmp 8))), none⟩,
  ⟨12, 1, false, (.r (.mov (.tmp 9))), none⟩], [(11, 10), (12, 12)]⟩)
 (.seq (.seq (.reg [⟨(.tmp 112), (.r (.mov (.loc 12))), none⟩,
  ⟨(.loc 113), (.r (.not (.tmp 112))), none⟩])
 (.cond (.loc 113) (.seq (.reg [⟨(.tmp 114), (.r (.build [.nils, .nils] [])), none⟩,
  ⟨.none, (.h (.store 2 (.loc 4) (.tmp 114))), none⟩,
  ⟨(.loc 5), (.r (.mov (.cst (.int .i64 3)))), none⟩])
 .ret)
 .skip))
 (.seq (.reg [⟨(.tmp 115), (.r (.off 0 (.loc 6))), none⟩,
  ⟨(.tmp 116), (.r (.load false 1 (.tmp 115))), none⟩,
  ⟨(.tmp 117), (.r (.mov (.loc 10))), none⟩,
  ⟨(.tmp 118), (.r (.load true 10 (.loc 11))), none⟩,
  ⟨(.tmp 119), (.r (.idx 10 (.tmp 116) (.tmp 117))), none⟩,
  ⟨.none, (.h (.store 10 (.tmp 119) (.tmp 118))), none⟩])
 (.seq (.reg [⟨(.tmp 120), (.r (.load true 2 (.loc 6))), none⟩,
  ⟨.none, (.h (.store 2 (.loc 4) (.tmp 120))), none⟩,
  ⟨(.loc 5), (.r (.mov (.cst (.int .i64 0)))), none⟩])
 .ret))))
 .skip)))
 (.reg [⟨(.tmp 91), (.r (.mov (.loc 10))), none⟩,
  ⟨(.tmp 92), (.r (.bin .add (.tmp 91) (.cst (.int .i64 1)))), none⟩,
  ⟨(.loc 10), (.r (.mov (.tmp 92))), none⟩])))
/-- glebe/gleberef13.Apply -/
def c_gleberef13_Apply (f_glebekit_CopyImage : FuncId) (f_gleberef13_ahead : FuncId) (f_gleberef13_Turned : FuncId) : AFn := ⟨122, fun s => List.contains [0, 1, 2, 3, 4, 5, 6, 7, 8, 9, 10, 11, 12, 22, 26, 32, 48, 69, 77, 90, 101, 113] s, (.seq (.reg [⟨(.loc 2), (.h (.box (.loc 0))), none⟩,
  ⟨(.loc 3), (.h (.box (.loc 1))), none⟩,
  ⟨(.loc 4), (.h (.mk [.nils, .nils])), none⟩,
  ⟨(.loc 5), (.r (.mov (.cst (.int .i64 0)))), none⟩])
 (.seq (.reg [⟨(.tmp 13), (.r (.load true 2 (.loc 2))), none⟩,
  ⟨(.tmp 14), (.call f_glebekit_CopyImage [(.tmp 13)]), none⟩,
  ⟨(.loc 6), (.h (.mk [.nils, .nils])), none⟩,
  ⟨.none, (.h (.store 2 (.loc 6) (.tmp 14))), none⟩])
 (.seq (.seq (.reg [⟨(.tmp 15), (.r (.off 0 (.loc 3))), none⟩,
  ⟨(.tmp 16), (.r (.load false 1 (.tmp 15))), none⟩,
  ⟨(.tmp 17), (.r (.bin .lss (.tmp 16) (.cst (.int .i64 1)))), none⟩,
  ⟨(.tmp 18), (.r (.mov (.tmp 17))), none⟩,
  ⟨(.tmp 19), (.r (.off 0 (.loc 3))), (some ((.tmp 18), false))⟩,
  ⟨(.tmp 20), (.r (.load false 1 (.tmp 19))), (some ((.tmp 18), false))⟩,
  ⟨(.tmp 21), (.r (.bin .gtr (.tmp 20) (.cst (.int .i64 4)))), (some ((.tmp 18), false))⟩,
  ⟨(.loc 22), (.r (.pick (.tmp 18) (.cst (.bool true)) (.tmp 21))), none⟩])
 (.cond (.loc 22) (.seq (.reg [⟨(.tmp 23), (.r (.build [.nils, .nils] [])), none⟩,
  ⟨.none, (.h (.store 2 (.loc 4) (.tmp 23))), none⟩,
  ⟨(.loc 5), (.r (.mov (.cst (.int .i64 13)))), none⟩])
 .ret)
 .skip))
 (.seq (.seq (.reg [⟨(.tmp 24), (.r (.off 0 (.loc 3))), none⟩,
  ⟨(.tmp 25), (.r (.load false 1 (.tmp 24))), none⟩,
  ⟨(.loc 26), (.r (.bin .eql (.tmp 25) (.cst (.int .i64 4)))), none⟩])
 (.cond (.loc 26) (.seq (.reg [⟨(.tmp 27), (.r (.off 1 (.loc 6))), none⟩,
  ⟨.none, (.h (.store 1 (.tmp 27) (.cst .nils))), none⟩])
 (.seq (.reg [⟨(.loc 7), (.r (.mov (.cst (.bool false)))), none⟩])
 (.seq (.seq (.reg [⟨(.loc 8), (.r (.mov (.cst (.int .i64 0)))), none⟩])
 (.block 0 (.loop (c_gleberef13_Apply_l0 f_glebekit_CopyImage f_gleberef13_ahead f_gleberef13_Turned))))
 (.seq (.seq (.reg [⟨(.tmp 76), (.r (.mov (.loc 7))), none⟩,
  ⟨(.loc 77), (.r (.not (.tmp 76))), none⟩])
 (.cond (.loc 77) (.reg [⟨(.tmp 78), (.r (.off 1 (.loc 6))), none⟩,
  ⟨(.tmp 79), (.r (.load false 1 (.tmp 78))), none⟩,
  ⟨(.tmp 80), (.r (.off 12 (.loc 3))), none⟩,
  ⟨(.tmp 81), (.r (.load true 5 (.tmp 80))), none⟩,
  ⟨(.tmp 82), (.h (.bsl 5 [(.tmp 81)])), none⟩,
  ⟨(.tmp 83), (.h (.app 5 40 (.tmp 79) (.tmp 82))), none⟩,
  ⟨(.tmp 84), (.r (.off 1 (.loc 6))), none⟩,
  ⟨.none, (.h (.store 1 (.tmp 84) (.tmp 83))), none⟩])
 .skip))
 (.seq (.reg [⟨(.tmp 85), (.r (.load true 2 (.loc 6))), none⟩,
  ⟨.none, (.h (.store 2 (.loc 4) (.tmp 85))), none⟩,
  ⟨(.loc 5), (.r (.mov (.cst (.int .i64 0)))), none⟩])
 .ret)))))
 .skip))
 (.seq (.seq (.reg [⟨(.loc 10), (.r (.mov (.cst (.int .i64 0)))), none⟩])
 (.block 2 (.loop (c_gleberef13_Apply_l1 f_glebekit_CopyImage f_gleberef13_ahead f_gleberef13_Turned))))
 (.seq (.reg [⟨(.tmp 121), (.r (.build [.nils, .nils] [])), none⟩,
  ⟨.none, (.h (.store 2 (.loc 4) (.tmp 121))), none⟩,
  ⟨(.loc 5), (.r (.mov (.cst (.int .i64 6)))), none⟩])
 .ret)))))), [(.cell (.loc 4) true 2), (.tmp (.loc 5))]⟩

end Glb
