/-
  What functions of the program are, one by one (the functions that they call as parameters), in a form of which something can be shown.
-/
import Derived.Test.YtodbhmdfmdfiaaaGlbLibB
set_option linter.unusedSimpArgs false
set_option linter.unusedVariables false
namespace Glb
open Go
set_option maxRecDepth 100000

def c_gleberef13_putLog_l0 (f_gleberef02_Int : FuncId) (f_gleberef02_Blob : FuncId) : AC := (.seq (.seq (.reg [⟨(.tmp 18), (.r (.mov (.loc 5))), none⟩,
  ⟨(.tmp 19), (.r (.off 2 (.loc 3))), none⟩,
  ⟨(.tmp 20), (.r (.load false 1 (.tmp 19))), none⟩,
  ⟨(.tmp 21), (.r (.len (.tmp 20))), none⟩,
  ⟨(.loc 22), (.r (.bin .lss (.tmp 18) (.tmp 21))), none⟩])
 (.cond (.loc 22) .skip
 (.exit 0)))
 (.seq (.block 1 (.seq (.reg [⟨(.tmp 25), (.r (.off 2 (.loc 3))), none⟩,
  ⟨(.tmp 26), (.r (.load false 1 (.tmp 25))), none⟩,
  ⟨(.tmp 27), (.r (.mov (.loc 5))), none⟩,
  ⟨(.tmp 28), (.r (.idx 3 (.tmp 26) (.tmp 27))), none⟩,
  ⟨(.tmp 29), (.r (.load true 3 (.tmp 28))), none⟩,
  ⟨(.loc 6), (.h (.mk [(.int .i64 0), (.int .i64 0), .nils])), none⟩,
  ⟨.none, (.h (.store 3 (.loc 6) (.tmp 29))), none⟩])
 (.dreg ⟨[0, 0, 2, 7, 0, 16, 63, 0, 128, 511, 1023], 0, [⟨0, 0, false, (.r (.mov (.loc 0))), none⟩,
  ⟨1, 0, false, (.r (.off 0 (.loc 6))), none⟩,
  ⟨2, 0, false, (.r (.load false 1 (.tmp 1))), none⟩,
  ⟨4, 0, false, (.r (.off 1 (.loc 6))), none⟩,
  ⟨5, 0, false, (.r (.load false 1 (.tmp 4))), none⟩,
  ⟨7, 0, false, (.r (.off 2 (.loc 6))), none⟩,
  ⟨8, 0, false, (.r (.load false 1 (.tmp 7))), none⟩,
  ⟨3, 0, true, (.call f_gleberef02_Int [(.tmp 0), (.tmp 2)]), none⟩,
  ⟨6, 0, true, (.call f_gleberef02_Int [(.tmp 3), (.tmp 5)]), none⟩,
  ⟨9, 0, true, (.call f_gleberef02_Blob [(.tmp 6), (.tmp 8)]), none⟩,
  ⟨10, 0, false, (.r (.mov (.tmp 9))), none⟩], [(0, 10)]⟩)))
 (.reg [⟨(.tmp 23), (.r (.mov (.loc 5))), none⟩,
  ⟨(.tmp 24), (.r (.bin .add (.tmp 23) (.cst (.int .i64 1)))), none⟩,
  ⟨(.loc 5), (.r (.mov (.tmp 24))), none⟩])))
/-- glebe/gleberef13.putLog -/
def c_gleberef13_putLog (f_gleberef02_Int : FuncId) (f_gleberef02_Blob : FuncId) : AFn := ⟨41, fun s => List.contains [0, 1, 3, 4, 5, 6, 22] s, (.seq (.reg [⟨(.loc 3), (.h (.box (.loc 1))), none⟩,
  ⟨(.loc 4), (.r (.mov (.cst .nils))), none⟩])
 (.seq (.dreg ⟨[0, 0, 2, 7, 0, 16, 63, 0, 128, 384, 1023, 2047], 0, [⟨0, 0, false, (.r (.mov (.loc 0))), none⟩,
  ⟨1, 0, false, (.r (.off 0 (.loc 3))), none⟩,
  ⟨2, 0, false, (.r (.load false 1 (.tmp 1))), none⟩,
  ⟨4, 0, false, (.r (.off 1 (.loc 3))), none⟩,
  ⟨5, 0, false, (.r (.load false 1 (.tmp 4))), none⟩,
  ⟨7, 0, false, (.r (.off 2 (.loc 3))), none⟩,
  ⟨8, 0, false, (.r (.load false 1 (.tmp 7))), none⟩,
  ⟨9, 0, false, (.r (.len (.tmp 8))), none⟩,
  ⟨3, 0, true, (.call f_gleberef02_Int [(.tmp 0), (.tmp 2)]), none⟩,
  ⟨6, 0, true, (.call f_gleberef02_Int [(.tmp 3), (.tmp 5)]), none⟩,
  ⟨10, 0, true, (.call f_gleberef02_Int [(.tmp 6), (.tmp 9)]), none⟩,
  ⟨11, 0, false, (.r (.mov (.tmp 10))), none⟩], [(0, 11)]⟩)
 (.seq (.seq (.reg [⟨(.loc 5), (.r (.mov (.cst (.int .i64 0)))), none⟩])
 (.block 0 (.loop (c_gleberef13_putLog_l0 f_gleberef02_Int f_gleberef02_Blob))))
 (.seq (.reg [⟨(.tmp 40), (.r (.mov (.loc 0))), none⟩,
  ⟨(.loc 4), (.r (.mov (.tmp 40))), none⟩])
 .ret)))), [(.tmp (.loc 4))]⟩

/-- glebe/gleberef13.putVote -/
def c_gleberef13_putVote (f_gleberef02_Int : FuncId) : AFn := ⟨22, fun s => List.contains [0, 1, 3, 4] s, (.seq (.reg [⟨(.loc 3), (.h (.box (.loc 1))), none⟩,
  ⟨(.loc 4), (.r (.mov (.cst .nils))), none⟩])
 (.seq (.dreg ⟨[0, 0, 2, 7, 0, 16, 63, 127], 0, [⟨0, 0, false, (.r (.mov (.loc 0))), none⟩,
  ⟨1, 0, false, (.r (.off 0 (.loc 3))), none⟩,
  ⟨2, 0, false, (.r (.load false 1 (.tmp 1))), none⟩,
  ⟨4, 0, false, (.r (.off 1 (.loc 3))), none⟩,
  ⟨5, 0, false, (.r (.load false 1 (.tmp 4))), none⟩,
  ⟨3, 0, true, (.call f_gleberef02_Int [(.tmp 0), (.tmp 2)]), none⟩,
  ⟨6, 0, true, (.call f_gleberef02_Int [(.tmp 3), (.tmp 5)]), none⟩,
  ⟨7, 0, false, (.r (.mov (.tmp 6))), none⟩], [(0, 7)]⟩)
 (.seq (.dreg ⟨[0, 0, 2, 7, 0, 16, 63, 0, 128, 511, 1023], 0, [⟨0, 0, false, (.r (.mov (.loc 0))), none⟩,
  ⟨1, 0, false, (.r (.off 2 (.loc 3))), none⟩,
  ⟨2, 0, false, (.r (.load false 1 (.tmp 1))), none⟩,
  ⟨4, 0, false, (.r (.off 3 (.loc 3))), none⟩,
  ⟨5, 0, false, (.r (.load false 1 (.tmp 4))), none⟩,
  ⟨7, 0, false, (.r (.off 4 (.loc 3))), none⟩,
  ⟨8, 0, false, (.r (.load false 1 (.tmp 7))), none⟩,
  ⟨3, 0, true, (.call f_gleberef02_Int [(.tmp 0), (.tmp 2)]), none⟩,
  ⟨6, 0, true, (.call f_gleberef02_Int [(.tmp 3), (.tmp 5)]), none⟩,
  ⟨9, 0, true, (.call f_gleberef02_Int [(.tmp 6), (.tmp 8)]), none⟩,
  ⟨10, 0, false, (.r (.mov (.tmp 9))), none⟩], [(4, 10)]⟩)
 .ret))), [(.tmp (.loc 4))]⟩

def c_gleberef13_Put_l0 (f_gleberef02_Int : FuncId) (f_gleberef13_putLog : FuncId) (f_gleberef13_putConf : FuncId) (f_gleberef02_Blob : FuncId) (f_gleberef13_putVote : FuncId) : AC := (.seq (.seq (.reg [⟨(.tmp 11), (.r (.mov (.loc 4))), none⟩,
  ⟨(.tmp 12), (.r (.off 0 (.loc 1))), none⟩,
  ⟨(.tmp 13), (.r (.load false 1 (.tmp 12))), none⟩,
  ⟨(.tmp 14), (.r (.len (.tmp 13))), none⟩,
  ⟨(.loc 15), (.r (.bin .lss (.tmp 11) (.tmp 14))), none⟩])
 (.cond (.loc 15) .skip
 (.exit 0)))
 (.seq (.block 1 (.seq (.reg [⟨(.tmp 18), (.r (.off 0 (.loc 1))), none⟩,
  ⟨(.tmp 19), (.r (.load false 1 (.tmp 18))), none⟩,
  ⟨(.tmp 20), (.r (.mov (.loc 4))), none⟩,
  ⟨(.tmp 21), (.r (.idx 10 (.tmp 19) (.tmp 20))), none⟩,
  ⟨(.tmp 22), (.r (.load true 10 (.tmp 21))), none⟩,
  ⟨(.loc 5), (.h (.mk [(.int .i64 0), (.int .i64 0), (.int .i64 0), (.int .i64 0), (.int .i64 0), .nils, .nils, .nils, .nils, .nils])), none⟩,
  ⟨.none, (.h (.store 10 (.loc 5) (.tmp 22))), none⟩])
 (.seq (.dreg ⟨[0, 0, 2, 7, 0, 16, 63, 0, 128, 511, 1023], 0, [⟨0, 0, false, (.r (.mov (.loc 3))), none⟩,
  ⟨1, 0, false, (.r (.off 0 (.loc 5))), none⟩,
  ⟨2, 0, false, (.r (.load false 1 (.tmp 1))), none⟩,
  ⟨4, 0, false, (.r (.off 1 (.loc 5))), none⟩,
  ⟨5, 0, false, (.r (.load false 1 (.tmp 4))), none⟩,
  ⟨7, 0, false, (.r (.off 2 (.loc 5))), none⟩,
  ⟨8, 0, false, (.r (.load false 1 (.tmp 7))), none⟩,
  ⟨3, 0, true, (.call f_gleberef02_Int [(.tmp 0), (.tmp 2)]), none⟩,
  ⟨6, 0, true, (.call f_gleberef02_Int [(.tmp 3), (.tmp 5)]), none⟩,
  ⟨9, 0, true, (.call f_gleberef02_Int [(.tmp 6), (.tmp 8)]), none⟩,
  ⟨10, 0, false, (.r (.mov (.tmp 9))), none⟩], [(3, 10)]⟩)
 (.dreg ⟨[0, 0, 2, 7, 0, 16, 63, 0, 128, 511, 1023], 0, [⟨0, 0, false, (.r (.mov (.loc 3))), none⟩,
  ⟨1, 0, false, (.r (.off 3 (.loc 5))), none⟩,
  ⟨2, 0, false, (.r (.load true 3 (.tmp 1))), none⟩,
  ⟨4, 0, false, (.r (.off 6 (.loc 5))), none⟩,
  ⟨5, 0, false, (.r (.load true 3 (.tmp 4))), none⟩,
  ⟨7, 0, false, (.r (.off 9 (.loc 5))), none⟩,
  ⟨8, 0, false, (.r (.load false 1 (.tmp 7))), none⟩,
  ⟨3, 0, true, (.call f_gleberef13_putLog [(.tmp 0), (.tmp 2)]), none⟩,
  ⟨6, 0, true, (.call f_gleberef13_putConf [(.tmp 3), (.tmp 5)]), none⟩,
  ⟨9, 0, true, (.call f_gleberef02_Blob [(.tmp 6), (.tmp 8)]), none⟩,
  ⟨10, 0, false, (.r (.mov (.tmp 9))), none⟩], [(3, 10)]⟩))))
 (.reg [⟨(.tmp 16), (.r (.mov (.loc 4))), none⟩,
  ⟨(.tmp 17), (.r (.bin .add (.tmp 16) (.cst (.int .i64 1)))), none⟩,
  ⟨(.loc 4), (.r (.mov (.tmp 17))), none⟩])))
def c_gleberef13_Put_l1 (f_gleberef02_Int : FuncId) (f_gleberef13_putLog : FuncId) (f_gleberef13_putConf : FuncId) (f_gleberef02_Blob : FuncId) (f_gleberef13_putVote : FuncId) : AC := (.seq (.seq (.reg [⟨(.tmp 48), (.r (.mov (.loc 6))), none⟩,
  ⟨(.tmp 49), (.r (.off 1 (.loc 1))), none⟩,
  ⟨(.tmp 50), (.r (.load false 1 (.tmp 49))), none⟩,
  ⟨(.tmp 51), (.r (.len (.tmp 50))), none⟩,
  ⟨(.loc 52), (.r (.bin .lss (.tmp 48) (.tmp 51))), none⟩])
 (.cond (.loc 52) .skip
 (.exit 2)))
 (.seq (.block 3 (.reg [⟨(.tmp 55), (.r (.mov (.loc 3))), none⟩,
  ⟨(.tmp 56), (.r (.off 1 (.loc 1))), none⟩,
  ⟨(.tmp 57), (.r (.load false 1 (.tmp 56))), none⟩,
  ⟨(.tmp 58), (.r (.mov (.loc 6))), none⟩,
  ⟨(.tmp 59), (.r (.idx 5 (.tmp 57) (.tmp 58))), none⟩,
  ⟨(.tmp 60), (.r (.load true 5 (.tmp 59))), none⟩,
  ⟨(.tmp 61), (.call f_gleberef13_putVote [(.tmp 55), (.tmp 60)]), none⟩,
  ⟨(.loc 3), (.r (.mov (.tmp 61))), none⟩]))
 (.reg [⟨(.tmp 53), (.r (.mov (.loc 6))), none⟩,
  ⟨(.tmp 54), (.r (.bin .add (.tmp 53) (.cst (.int .i64 1)))), none⟩,
  ⟨(.loc 6), (.r (.mov (.tmp 54))), none⟩])))
/-- glebe/gleberef13.Put -/
def c_gleberef13_Put (f_gleberef02_Int : FuncId) (f_gleberef13_putLog : FuncId) (f_gleberef13_putConf : FuncId) (f_gleberef02_Blob : FuncId) (f_gleberef13_putVote : FuncId) : AFn := ⟨63, fun s => List.contains [0, 1, 2, 3, 4, 5, 6, 15, 52] s, (.seq (.reg [⟨(.loc 1), (.h (.box (.loc 0))), none⟩,
  ⟨(.loc 2), (.r (.mov (.cst .nils))), none⟩])
 (.seq (.reg [⟨(.tmp 7), (.r (.off 0 (.loc 1))), none⟩,
  ⟨(.tmp 8), (.r (.load false 1 (.tmp 7))), none⟩,
  ⟨(.tmp 9), (.r (.len (.tmp 8))), none⟩,
  ⟨(.tmp 10), (.call f_gleberef02_Int [(.cst .nils), (.tmp 9)]), none⟩,
  ⟨(.loc 3), (.r (.mov (.tmp 10))), none⟩])
 (.seq (.seq (.reg [⟨(.loc 4), (.r (.mov (.cst (.int .i64 0)))), none⟩])
 (.block 0 (.loop (c_gleberef13_Put_l0 f_gleberef02_Int f_gleberef13_putLog f_gleberef13_putConf f_gleberef02_Blob f_gleberef13_putVote))))
 (.seq (.reg [⟨(.tmp 43), (.r (.mov (.loc 3))), none⟩,
  ⟨(.tmp 44), (.r (.off 1 (.loc 1))), none⟩,
  ⟨(.tmp 45), (.r (.load false 1 (.tmp 44))), none⟩,
  ⟨(.tmp 46), (.r (.len (.tmp 45))), none⟩,
  ⟨(.tmp 47), (.call f_gleberef02_Int [(.tmp 43), (.tmp 46)]), none⟩,
  ⟨(.loc 3), (.r (.mov (.tmp 47))), none⟩])
 (.seq (.seq (.reg [⟨(.loc 6), (.r (.mov (.cst (.int .i64 0)))), none⟩])
 (.block 2 (.loop (c_gleberef13_Put_l1 f_gleberef02_Int f_gleberef13_putLog f_gleberef13_putConf f_gleberef02_Blob f_gleberef13_putVote))))
 (.seq (.reg [⟨(.tmp 62), (.r (.mov (.loc 3))), none⟩,
  ⟨(.loc 2), (.r (.mov (.tmp 62))), none⟩])
 .ret)))))), [(.tmp (.loc 2))]⟩

end Glb
