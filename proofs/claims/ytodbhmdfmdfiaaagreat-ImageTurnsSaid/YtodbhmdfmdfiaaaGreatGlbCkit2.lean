/-
  What functions of the program are, one by one (the functions that they call as parameters), in a form of which something can be shown.
-/
import Derived.Test.YtodbhmdfmdfiaaaGreatGlbLibB
set_option linter.unusedSimpArgs false
set_option linter.unusedVariables false
namespace Glb
open Go
set_option maxRecDepth 100000

/-- glebe/glebekit.CopyChange -/
def c_glebekit_CopyChange (f_glebekit_CopyLog : FuncId) (f_glebekit_CopyConf : FuncId) (f_glebekit_CopyBytes : FuncId) : AFn := ⟨16, fun s => List.contains [0, 1, 2] s, (.seq (.reg [⟨(.loc 1), (.h (.box (.loc 0))), none⟩,
  ⟨(.loc 2), (.h (.mk [(.int .i64 0), (.int .i64 0), (.int .i64 0), (.int .i64 0), (.int .i64 0), (.int .i64 0), (.int .i64 0), .nils, .nils, .nils, .nils, .nils, (.int .i64 0), (.int .i64 0), (.int .i64 0), (.int .i64 0), (.int .i64 0)])), none⟩])
 (.seq (.reg [⟨(.tmp 3), (.r (.off 5 (.loc 1))), none⟩,
  ⟨(.tmp 4), (.r (.load true 3 (.tmp 3))), none⟩,
  ⟨(.tmp 5), (.call f_glebekit_CopyLog [(.tmp 4)]), none⟩,
  ⟨(.tmp 6), (.r (.off 5 (.loc 1))), none⟩,
  ⟨.none, (.h (.store 3 (.tmp 6) (.tmp 5))), none⟩])
 (.seq (.reg [⟨(.tmp 7), (.r (.off 8 (.loc 1))), none⟩,
  ⟨(.tmp 8), (.r (.load true 3 (.tmp 7))), none⟩,
  ⟨(.tmp 9), (.call f_glebekit_CopyConf [(.tmp 8)]), none⟩,
  ⟨(.tmp 10), (.r (.off 8 (.loc 1))), none⟩,
  ⟨.none, (.h (.store 3 (.tmp 10) (.tmp 9))), none⟩])
 (.seq (.reg [⟨(.tmp 11), (.r (.off 11 (.loc 1))), none⟩,
  ⟨(.tmp 12), (.r (.load false 1 (.tmp 11))), none⟩,
  ⟨(.tmp 13), (.call f_glebekit_CopyBytes [(.tmp 12)]), none⟩,
  ⟨(.tmp 14), (.r (.off 11 (.loc 1))), none⟩,
  ⟨.none, (.h (.store 1 (.tmp 14) (.tmp 13))), none⟩])
 (.seq (.reg [⟨(.tmp 15), (.r (.load true 17 (.loc 1))), none⟩,
  ⟨.none, (.h (.store 17 (.loc 2) (.tmp 15))), none⟩])
 .ret))))), [(.cell (.loc 2) true 17)]⟩

def c_glebekit_CopyChanges_l0 (f_glebekit_CopyChange : FuncId) : AC := (.seq (.seq (.reg [⟨(.tmp 5), (.r (.mov (.loc 4))), none⟩,
  ⟨(.tmp 6), (.r (.mov (.loc 0))), none⟩,
  ⟨(.tmp 7), (.r (.len (.tmp 6))), none⟩,
  ⟨(.loc 8), (.r (.bin .lss (.tmp 5) (.tmp 7))), none⟩])
 (.cond (.loc 8) .skip
 (.exit 0)))
 (.seq (.block 1 (.reg [⟨(.tmp 11), (.r (.mov (.loc 3))), none⟩,
  ⟨(.tmp 12), (.r (.mov (.loc 0))), none⟩,
  ⟨(.tmp 13), (.r (.mov (.loc 4))), none⟩,
  ⟨(.tmp 14), (.r (.idx 17 (.tmp 12) (.tmp 13))), none⟩,
  ⟨(.tmp 15), (.r (.load true 17 (.tmp 14))), none⟩,
  ⟨(.tmp 16), (.call f_glebekit_CopyChange [(.tmp 15)]), none⟩,
  ⟨(.tmp 17), (.h (.bsl 17 [(.tmp 16)])), none⟩,
  ⟨(.tmp 18), (.h (.app 17 216 (.tmp 11) (.tmp 17))), none⟩,
  ⟨(.loc 3), (.r (.mov (.tmp 18))), none⟩]))
 (.reg [⟨(.tmp 9), (.r (.mov (.loc 4))), none⟩,
  ⟨(.tmp 10), (.r (.bin .add (.tmp 9) (.cst (.int .i64 1)))), none⟩,
  ⟨(.loc 4), (.r (.mov (.tmp 10))), none⟩])))
/-- glebe/glebekit.CopyChanges -/
def c_glebekit_CopyChanges (f_glebekit_CopyChange : FuncId) : AFn := ⟨20, fun s => List.contains [0, 2, 3, 4, 8] s, (.seq (.reg [⟨(.loc 2), (.r (.mov (.cst .nils))), none⟩])
 (.seq (.reg [⟨(.loc 3), (.r (.mov (.cst .nils))), none⟩])
 (.seq (.seq (.reg [⟨(.loc 4), (.r (.mov (.cst (.int .i64 0)))), none⟩])
 (.block 0 (.loop (c_glebekit_CopyChanges_l0 f_glebekit_CopyChange))))
 (.seq (.reg [⟨(.tmp 19), (.r (.mov (.loc 3))), none⟩,
  ⟨(.loc 2), (.r (.mov (.tmp 19))), none⟩])
 .ret)))), [(.tmp (.loc 2))]⟩

def c_glebekit_SpoilImage_l0 (f_glebekit_SpoilHard : FuncId) (f_glebekit_SpoilVotes : FuncId) : AC := (.seq (.seq (.reg [⟨(.tmp 3), (.r (.mov (.loc 2))), none⟩,
  ⟨(.tmp 4), (.r (.off 0 (.loc 1))), none⟩,
  ⟨(.tmp 5), (.r (.load false 1 (.tmp 4))), none⟩,
  ⟨(.tmp 6), (.r (.len (.tmp 5))), none⟩,
  ⟨(.loc 7), (.r (.bin .lss (.tmp 3) (.tmp 6))), none⟩])
 (.cond (.loc 7) .skip
 (.exit 0)))
 (.seq (.block 1 (.seq (.reg [⟨(.tmp 10), (.r (.off 0 (.loc 1))), none⟩,
  ⟨(.tmp 11), (.r (.load false 1 (.tmp 10))), none⟩,
  ⟨(.tmp 12), (.r (.mov (.loc 2))), none⟩,
  ⟨(.tmp 13), (.r (.idx 10 (.tmp 11) (.tmp 12))), none⟩,
  ⟨(.tmp 14), (.r (.load true 10 (.tmp 13))), none⟩,
  ⟨(.tmp 15), (.call f_glebekit_SpoilHard [(.tmp 14)]), none⟩])
 (.reg [⟨(.tmp 16), (.r (.off 0 (.loc 1))), none⟩,
  ⟨(.tmp 17), (.r (.load false 1 (.tmp 16))), none⟩,
  ⟨(.tmp 18), (.r (.mov (.loc 2))), none⟩,
  ⟨(.tmp 19), (.r (.build [(.int .i64 0), (.int .i64 0), (.int .i64 0), (.int .i64 0), (.int .i64 0), .nils, .nils, .nils, .nils, .nils] [(0, 1, (.cst (.int .i64 (-77))))])), none⟩,
  ⟨(.tmp 20), (.r (.idx 10 (.tmp 17) (.tmp 18))), none⟩,
  ⟨.none, (.h (.store 10 (.tmp 20) (.tmp 19))), none⟩])))
 (.reg [⟨(.tmp 8), (.r (.mov (.loc 2))), none⟩,
  ⟨(.tmp 9), (.r (.bin .add (.tmp 8) (.cst (.int .i64 1)))), none⟩,
  ⟨(.loc 2), (.r (.mov (.tmp 9))), none⟩])))
/-- glebe/glebekit.SpoilImage -/
def c_glebekit_SpoilImage (f_glebekit_SpoilHard : FuncId) (f_glebekit_SpoilVotes : FuncId) : AFn := ⟨24, fun s => List.contains [0, 1, 2, 7] s, (.seq (.reg [⟨(.loc 1), (.h (.box (.loc 0))), none⟩])
 (.seq (.seq (.reg [⟨(.loc 2), (.r (.mov (.cst (.int .i64 0)))), none⟩])
 (.block 0 (.loop (c_glebekit_SpoilImage_l0 f_glebekit_SpoilHard f_glebekit_SpoilVotes))))
 (.reg [⟨(.tmp 21), (.r (.off 1 (.loc 1))), none⟩,
  ⟨(.tmp 22), (.r (.load false 1 (.tmp 21))), none⟩,
  ⟨(.tmp 23), (.call f_glebekit_SpoilVotes [(.tmp 22)]), none⟩]))), []⟩

/-- glebe/glebekit.SpoilHard -/
def c_glebekit_SpoilHard (f_glebekit_SpoilEntries : FuncId) (f_glebekit_SpoilConf : FuncId) (f_glebekit_SpoilBytes : FuncId) : AFn := ⟨12, fun s => List.contains [0, 1] s, (.seq (.reg [⟨(.loc 1), (.h (.box (.loc 0))), none⟩])
 (.seq (.reg [⟨(.tmp 2), (.r (.off 3 (.loc 1))), none⟩,
  ⟨(.tmp 3), (.r (.off 2 (.tmp 2))), none⟩,
  ⟨(.tmp 4), (.r (.load false 1 (.tmp 3))), none⟩,
  ⟨(.tmp 5), (.call f_glebekit_SpoilEntries [(.tmp 4)]), none⟩])
 (.seq (.reg [⟨(.tmp 6), (.r (.off 6 (.loc 1))), none⟩,
  ⟨(.tmp 7), (.r (.load true 3 (.tmp 6))), none⟩,
  ⟨(.tmp 8), (.call f_glebekit_SpoilConf [(.tmp 7)]), none⟩])
 (.reg [⟨(.tmp 9), (.r (.off 9 (.loc 1))), none⟩,
  ⟨(.tmp 10), (.r (.load false 1 (.tmp 9))), none⟩,
  ⟨(.tmp 11), (.call f_glebekit_SpoilBytes [(.tmp 10)]), none⟩])))), []⟩

def c_glebekit_SpoilVotes_l0 : AC := (.seq (.seq (.reg [⟨(.tmp 3), (.r (.mov (.loc 2))), none⟩,
  ⟨(.tmp 4), (.r (.mov (.loc 0))), none⟩,
  ⟨(.tmp 5), (.r (.len (.tmp 4))), none⟩,
  ⟨(.loc 6), (.r (.bin .lss (.tmp 3) (.tmp 5))), none⟩])
 (.cond (.loc 6) .skip
 (.exit 0)))
 (.seq (.block 1 (.reg [⟨(.tmp 9), (.r (.mov (.loc 0))), none⟩,
  ⟨(.tmp 10), (.r (.mov (.loc 2))), none⟩,
  ⟨(.tmp 11), (.r (.mov (.loc 0))), none⟩,
  ⟨(.tmp 12), (.r (.mov (.loc 2))), none⟩,
  ⟨(.tmp 13), (.r (.idx 5 (.tmp 11) (.tmp 12))), none⟩,
  ⟨(.tmp 14), (.r (.off 0 (.tmp 13))), none⟩,
  ⟨(.tmp 15), (.r (.load false 1 (.tmp 14))), none⟩,
  ⟨(.tmp 16), (.r (.bin .xor (.tmp 15) (.cst (.int .i64 77)))), none⟩,
  ⟨(.tmp 17), (.r (.build [(.int .i64 0), (.int .i64 0), (.int .i64 0), (.int .i64 0), (.int .i64 0)] [(0, 1, (.tmp 16))])), none⟩,
  ⟨(.tmp 18), (.r (.idx 5 (.tmp 9) (.tmp 10))), none⟩,
  ⟨.none, (.h (.store 5 (.tmp 18) (.tmp 17))), none⟩]))
 (.reg [⟨(.tmp 7), (.r (.mov (.loc 2))), none⟩,
  ⟨(.tmp 8), (.r (.bin .add (.tmp 7) (.cst (.int .i64 1)))), none⟩,
  ⟨(.loc 2), (.r (.mov (.tmp 8))), none⟩])))
/-- glebe/glebekit.SpoilVotes -/
def c_glebekit_SpoilVotes : AFn := ⟨19, fun s => List.contains [0, 2, 6] s, (.seq (.reg [⟨(.loc 2), (.r (.mov (.cst (.int .i64 0)))), none⟩])
 (.block 0 (.loop (c_glebekit_SpoilVotes_l0)))), []⟩

end Glb
