/-
  What functions of the program are, one by one (the functions that they call as parameters), in a form of which something can be shown.
-/
import Derived.Test.YtoijpkpfgamlpaaGlbFun
set_option linter.unusedSimpArgs false
set_option linter.unusedVariables false
namespace Glb
open Go
set_option maxRecDepth 100000

def c_gleberef11_Append_l0 (f_gleberef11_Last : FuncId) (f_glebekit_CopyLog : FuncId) (f_gleberef11_Term : FuncId) (f_glebekit_CopyEntries : FuncId) (f_glebekit_CopyBytes : FuncId) : AC := (.seq (.seq (.reg [⟨(.tmp 69), (.r (.mov (.loc 14))), none⟩,
  ⟨(.tmp 70), (.r (.mov (.loc 2))), none⟩,
  ⟨(.tmp 71), (.r (.len (.tmp 70))), none⟩,
  ⟨(.loc 72), (.r (.bin .lss (.tmp 69) (.tmp 71))), none⟩])
 (.cond (.loc 72) .skip
 (.exit 2)))
 (.seq (.block 3 (.dreg ⟨[0, 1, 0, 0, 12, 28, 60, 0, 0, 384, 896, 1920, 0, 0, 12288, 28672, 61440, 126976, 262140, 524284, 1048575, 2097151, 4194303], 1, [⟨0, 0, false, (.r (.off 2 (.loc 10))), none⟩,
  ⟨1, 0, false, (.r (.load false 1 (.tmp 0))), none⟩,
  ⟨2, 0, false, (.r (.mov (.loc 2))), none⟩,
  ⟨3, 0, false, (.r (.mov (.loc 14))), none⟩,
  ⟨4, 0, false, (.r (.idx 3 (.tmp 2) (.tmp 3))), none⟩,
  ⟨5, 0, false, (.r (.off 0 (.tmp 4))), none⟩,
  ⟨6, 0, false, (.r (.load false 1 (.tmp 5))), none⟩,
  ⟨7, 0, false, (.r (.mov (.loc 2))), none⟩,
  ⟨8, 0, false, (.r (.mov (.loc 14))), none⟩,
  ⟨9, 0, false, (.r (.idx 3 (.tmp 7) (.tmp 8))), none⟩,
  ⟨10, 0, false, (.r (.off 1 (.tmp 9))), none⟩,
  ⟨11, 0, false, (.r (.load false 1 (.tmp 10))), none⟩,
  ⟨12, 0, false, (.r (.mov (.loc 2))), none⟩,
  ⟨13, 0, false, (.r (.mov (.loc 14))), none⟩,
  ⟨14, 0, false, (.r (.idx 3 (.tmp 12) (.tmp 13))), none⟩,
  ⟨15, 0, false, (.r (.off 2 (.tmp 14))), none⟩,
  ⟨16, 0, false, (.r (.load false 1 (.tmp 15))), none⟩,
  ⟨17, 0, true, (.call f_glebekit_CopyBytes [(.tmp 16)]), none⟩,
  ⟨18, 0, false, (.r (.build [(.int .i64 0), (.int .i64 0), .nils] [(0, 1, (.tmp 6)), (1, 1, (.tmp 11)), (2, 1, (.tmp 17))])), none⟩,
  ⟨19, 0, false, (.h (.bsl 3 [(.tmp 18)])), none⟩,
  ⟨20, 1, true, (.h (.app 3 40 (.tmp 1) (.tmp 19))), none⟩,
  ⟨21, 1, false, (.r (.off 2 (.loc 10))), none⟩,
  ⟨22, 1, true, (.h (.store 1 (.tmp 21) (.tmp 20))), none⟩], []⟩))
 (.reg [⟨(.tmp 73), (.r (.mov (.loc 14))), none⟩,
  ⟨(.tmp 74), (.r (.bin .add (.tmp 73) (.cst (.int .i64 1)))), none⟩,
  ⟨(.loc 14), (.r (.mov (.tmp 74))), none⟩])))
def c_gleberef11_Append_l1 (f_gleberef11_Last : FuncId) (f_glebekit_CopyLog : FuncId) (f_gleberef11_Term : FuncId) (f_glebekit_CopyEntries : FuncId) (f_glebekit_CopyBytes : FuncId) : AC := (.seq (.seq (.reg [⟨(.tmp 32), (.r (.mov (.loc 11))), none⟩,
  ⟨(.tmp 33), (.r (.mov (.loc 2))), none⟩,
  ⟨(.tmp 34), (.r (.len (.tmp 33))), none⟩,
  ⟨(.loc 35), (.r (.bin .lss (.tmp 32) (.tmp 34))), none⟩])
 (.cond (.loc 35) .skip
 (.exit 0)))
 (.seq (.block 1 (.seq (.reg [⟨(.tmp 39), (.r (.load true 3 (.loc 3))), none⟩,
  ⟨(.tmp 40), (.r (.mov (.loc 1))), none⟩,
  ⟨(.tmp 41), (.r (.bin .add (.tmp 40) (.cst (.int .i64 1)))), none⟩,
  ⟨(.tmp 42), (.r (.mov (.loc 11))), none⟩,
  ⟨(.tmp 43), (.r (.bin .add (.tmp 41) (.tmp 42))), none⟩,
  ⟨(.tmp 44), (.call f_gleberef11_Term [(.tmp 39), (.tmp 43)]), none⟩,
  ⟨(.tmp 38), (.r (.mov (.tmp 44))), none⟩,
  ⟨(.tmp 45), (.r (.ext (.tmp 38) 0)), none⟩,
  ⟨(.tmp 46), (.r (.ext (.tmp 38) 1)), none⟩,
  ⟨(.loc 12), (.r (.mov (.tmp 45))), none⟩,
  ⟨(.loc 13), (.r (.mov (.tmp 46))), none⟩])
 (.seq (.seq (.reg [⟨(.tmp 47), (.r (.mov (.loc 13))), none⟩,
  ⟨(.tmp 48), (.r (.mov (.tmp 47))), none⟩,
  ⟨(.tmp 49), (.r (.mov (.loc 12))), (some ((.tmp 48), true))⟩,
  ⟨(.tmp 50), (.r (.mov (.loc 2))), (some ((.tmp 48), true))⟩,
  ⟨(.tmp 51), (.r (.mov (.loc 11))), (some ((.tmp 48), true))⟩,
  ⟨(.tmp 52), (.r (.idx 3 (.tmp 50) (.tmp 51))), (some ((.tmp 48), true))⟩,
  ⟨(.tmp 53), (.r (.off 0 (.tmp 52))), (some ((.tmp 48), true))⟩,
  ⟨(.tmp 54), (.r (.load false 1 (.tmp 53))), (some ((.tmp 48), true))⟩,
  ⟨(.tmp 55), (.r (.bin .eql (.tmp 49) (.tmp 54))), (some ((.tmp 48), true))⟩,
  ⟨(.loc 56), (.r (.pick (.tmp 48) (.tmp 55) (.cst (.bool false)))), none⟩])
 (.cond (.loc 56) (.exit 1)
 .skip))
 (.seq (.reg [⟨(.tmp 57), (.r (.off 2 (.loc 3))), none⟩,
  ⟨(.tmp 58), (.r (.load false 1 (.tmp 57))), none⟩,
  ⟨(.tmp 59), (.r (.mov (.loc 1))), none⟩,
  ⟨(.tmp 60), (.r (.mov (.loc 11))), none⟩,
  ⟨(.tmp 61), (.r (.bin .add (.tmp 59) (.tmp 60))), none⟩,
  ⟨(.tmp 62), (.r (.off 0 (.loc 3))), none⟩,
  ⟨(.tmp 63), (.r (.load false 1 (.tmp 62))), none⟩,
  ⟨(.tmp 64), (.r (.bin .sub (.tmp 61) (.tmp 63))), none⟩,
  ⟨(.tmp 65), (.r (.slc 3 (.tmp 58) none (some (.tmp 64)) none)), none⟩,
  ⟨(.tmp 66), (.call f_glebekit_CopyEntries [(.tmp 65)]), none⟩,
  ⟨(.tmp 67), (.r (.off 2 (.loc 10))), none⟩,
  ⟨.none, (.h (.store 1 (.tmp 67) (.tmp 66))), none⟩])
 (.seq (.seq (.reg [⟨(.tmp 68), (.r (.mov (.loc 11))), none⟩,
  ⟨(.loc 14), (.r (.mov (.tmp 68))), none⟩])
 (.block 2 (.loop (c_gleberef11_Append_l0 f_gleberef11_Last f_glebekit_CopyLog f_gleberef11_Term f_glebekit_CopyEntries f_glebekit_CopyBytes))))
 (.seq (.reg [⟨(.tmp 97), (.r (.load true 3 (.loc 10))), none⟩,
  ⟨(.tmp 98), (.r (.mov (.loc 1))), none⟩,
  ⟨(.tmp 99), (.r (.bin .add (.tmp 98) (.cst (.int .i64 1)))), none⟩,
  ⟨(.tmp 100), (.r (.mov (.loc 11))), none⟩,
  ⟨(.tmp 101), (.r (.bin .add (.tmp 99) (.tmp 100))), none⟩,
  ⟨.none, (.h (.store 3 (.loc 6) (.tmp 97))), none⟩,
  ⟨(.loc 7), (.r (.mov (.tmp 101))), none⟩])
 .ret))))))
 (.reg [⟨(.tmp 36), (.r (.mov (.loc 11))), none⟩,
  ⟨(.tmp 37), (.r (.bin .add (.tmp 36) (.cst (.int .i64 1)))), none⟩,
  ⟨(.loc 11), (.r (.mov (.tmp 37))), none⟩])))
/-- glebe/gleberef11.Append -/
def c_gleberef11_Append (f_gleberef11_Last : FuncId) (f_glebekit_CopyLog : FuncId) (f_gleberef11_Term : FuncId) (f_glebekit_CopyEntries : FuncId) (f_glebekit_CopyBytes : FuncId) : AFn := ⟨103, fun s => List.contains [0, 1, 2, 3, 6, 7, 8, 10, 11, 12, 13, 14, 30, 35, 56, 72] s, (.seq (.reg [⟨(.loc 3), (.h (.box (.loc 0))), none⟩,
  ⟨(.loc 6), (.h (.mk [(.int .i64 0), (.int .i64 0), .nils])), none⟩,
  ⟨(.loc 7), (.r (.mov (.cst (.int .i64 0)))), none⟩])
 (.seq (.reg [⟨(.tmp 16), (.r (.load true 3 (.loc 3))), none⟩,
  ⟨(.tmp 17), (.call f_gleberef11_Last [(.tmp 16)]), none⟩,
  ⟨(.tmp 15), (.r (.mov (.tmp 17))), none⟩,
  ⟨(.tmp 18), (.r (.ext (.tmp 15) 0)), none⟩,
  ⟨(.tmp 19), (.r (.ext (.tmp 15) 1)), none⟩,
  ⟨(.loc 8), (.r (.mov (.tmp 18))), none⟩,
  ⟨(.tmp 9), (.r (.mov (.tmp 19))), none⟩])
 (.seq (.reg [⟨(.tmp 20), (.r (.load true 3 (.loc 3))), none⟩,
  ⟨(.tmp 21), (.call f_glebekit_CopyLog [(.tmp 20)]), none⟩,
  ⟨(.loc 10), (.h (.mk [(.int .i64 0), (.int .i64 0), .nils])), none⟩,
  ⟨.none, (.h (.store 3 (.loc 10) (.tmp 21))), none⟩])
 (.seq (.seq (.reg [⟨(.tmp 22), (.r (.mov (.loc 1))), none⟩,
  ⟨(.tmp 23), (.r (.off 0 (.loc 3))), none⟩,
  ⟨(.tmp 24), (.r (.load false 1 (.tmp 23))), none⟩,
  ⟨(.tmp 25), (.r (.bin .lss (.tmp 22) (.tmp 24))), none⟩,
  ⟨(.tmp 26), (.r (.mov (.tmp 25))), none⟩,
  ⟨(.tmp 27), (.r (.mov (.loc 1))), (some ((.tmp 26), false))⟩,
  ⟨(.tmp 28), (.r (.mov (.loc 8))), (some ((.tmp 26), false))⟩,
  ⟨(.tmp 29), (.r (.bin .gtr (.tmp 27) (.tmp 28))), (some ((.tmp 26), false))⟩,
  ⟨(.loc 30), (.r (.pick (.tmp 26) (.cst (.bool true)) (.tmp 29))), none⟩])
 (.cond (.loc 30) (.seq (.reg [⟨(.tmp 31), (.r (.load true 3 (.loc 10))), none⟩,
  ⟨.none, (.h (.store 3 (.loc 6) (.tmp 31))), none⟩,
  ⟨(.loc 7), (.r (.mov (.cst (.int .i64 0)))), none⟩])
 .ret)
 .skip))
 (.seq (.seq (.reg [⟨(.loc 11), (.r (.mov (.cst (.int .i64 0)))), none⟩])
 (.block 0 (.loop (c_gleberef11_Append_l1 f_gleberef11_Last f_glebekit_CopyLog f_gleberef11_Term f_glebekit_CopyEntries f_glebekit_CopyBytes))))
 (.seq (.reg [⟨(.tmp 102), (.r (.load true 3 (.loc 10))), none⟩,
  ⟨.none, (.h (.store 3 (.loc 6) (.tmp 102))), none⟩,
  ⟨(.loc 7), (.r (.mov (.cst (.int .i64 0)))), none⟩])
 .ret)))))), [(.cell (.loc 6) true 3), (.tmp (.loc 7))]⟩

/-- glebe/gleberef11.Cut -/
def c_gleberef11_Cut (f_gleberef11_Term : FuncId) (f_glebekit_CopyEntries : FuncId) : AFn := ⟨28, fun s => List.contains [0, 1, 2, 4, 5, 6, 7, 15] s, (.seq (.reg [⟨(.loc 2), (.h (.box (.loc 0))), none⟩,
  ⟨(.loc 4), (.h (.mk [(.int .i64 0), (.int .i64 0), .nils])), none⟩,
  ⟨(.loc 5), (.r (.mov (.cst (.int .i64 0)))), none⟩])
 (.seq (.reg [⟨(.tmp 9), (.r (.load true 3 (.loc 2))), none⟩,
  ⟨(.tmp 10), (.r (.mov (.loc 1))), none⟩,
  ⟨(.tmp 11), (.call f_gleberef11_Term [(.tmp 9), (.tmp 10)]), none⟩,
  ⟨(.tmp 8), (.r (.mov (.tmp 11))), none⟩,
  ⟨(.tmp 12), (.r (.ext (.tmp 8) 0)), none⟩,
  ⟨(.tmp 13), (.r (.ext (.tmp 8) 1)), none⟩,
  ⟨(.loc 6), (.r (.mov (.tmp 12))), none⟩,
  ⟨(.loc 7), (.r (.mov (.tmp 13))), none⟩])
 (.seq (.seq (.reg [⟨(.tmp 14), (.r (.mov (.loc 7))), none⟩,
  ⟨(.loc 15), (.r (.not (.tmp 14))), none⟩])
 (.cond (.loc 15) (.seq (.reg [⟨(.tmp 16), (.r (.build [(.int .i64 0), (.int .i64 0), .nils] [])), none⟩,
  ⟨.none, (.h (.store 3 (.loc 4) (.tmp 16))), none⟩,
  ⟨(.loc 5), (.r (.mov (.cst (.int .i64 3)))), none⟩])
 .ret)
 .skip))
 (.seq (.reg [⟨(.tmp 17), (.r (.mov (.loc 1))), none⟩,
  ⟨(.tmp 18), (.r (.mov (.loc 6))), none⟩,
  ⟨(.tmp 19), (.r (.off 2 (.loc 2))), none⟩,
  ⟨(.tmp 20), (.r (.load false 1 (.tmp 19))), none⟩,
  ⟨(.tmp 21), (.r (.mov (.loc 1))), none⟩,
  ⟨(.tmp 22), (.r (.off 0 (.loc 2))), none⟩,
  ⟨(.tmp 23), (.r (.load false 1 (.tmp 22))), none⟩,
  ⟨(.tmp 24), (.r (.bin .sub (.tmp 21) (.tmp 23))), none⟩,
  ⟨(.tmp 25), (.r (.slc 3 (.tmp 20) (some (.tmp 24)) none none)), none⟩,
  ⟨(.tmp 26), (.call f_glebekit_CopyEntries [(.tmp 25)]), none⟩,
  ⟨(.tmp 27), (.r (.build [(.int .i64 0), (.int .i64 0), .nils] [(0, 1, (.tmp 17)), (1, 1, (.tmp 18)), (2, 1, (.tmp 26))])), none⟩,
  ⟨.none, (.h (.store 3 (.loc 4) (.tmp 27))), none⟩,
  ⟨(.loc 5), (.r (.mov (.cst (.int .i64 0)))), none⟩])
 .ret)))), [(.cell (.loc 4) true 3), (.tmp (.loc 5))]⟩

/-- glebe/gleberef11.Last -/
def c_gleberef11_Last : AFn := ⟨25, fun s => List.contains [0, 1, 2, 3, 4, 9] s, (.seq (.reg [⟨(.loc 1), (.h (.box (.loc 0))), none⟩,
  ⟨(.loc 2), (.r (.mov (.cst (.int .i64 0)))), none⟩,
  ⟨(.loc 3), (.r (.mov (.cst (.int .i64 0)))), none⟩])
 (.seq (.reg [⟨(.tmp 5), (.r (.off 2 (.loc 1))), none⟩,
  ⟨(.tmp 6), (.r (.load false 1 (.tmp 5))), none⟩,
  ⟨(.tmp 7), (.r (.len (.tmp 6))), none⟩,
  ⟨(.loc 4), (.r (.mov (.tmp 7))), none⟩])
 (.seq (.seq (.reg [⟨(.tmp 8), (.r (.mov (.loc 4))), none⟩,
  ⟨(.loc 9), (.r (.bin .eql (.tmp 8) (.cst (.int .i64 0)))), none⟩])
 (.cond (.loc 9) (.seq (.dreg ⟨[0, 1, 0, 4, 3, 31], 0, [⟨0, 0, false, (.r (.off 0 (.loc 1))), none⟩,
  ⟨1, 0, false, (.r (.load false 1 (.tmp 0))), none⟩,
  ⟨2, 0, false, (.r (.off 1 (.loc 1))), none⟩,
  ⟨3, 0, false, (.r (.load false 1 (.tmp 2))), none⟩,
  ⟨4, 0, false, (.r (.mov (.tmp 1))), none⟩,
  ⟨5, 0, false, (.r (.mov (.tmp 3))), none⟩], [(2, 4), (3, 5)]⟩)
 .ret)
 .skip))
 (.seq (.dreg ⟨[0, 1, 0, 7, 0, 16, 0, 64, 240, 496, 1008, 15, 4095], 0, [⟨0, 0, false, (.r (.off 0 (.loc 1))), none⟩,
  ⟨1, 0, false, (.r (.load false 1 (.tmp 0))), none⟩,
  ⟨2, 0, false, (.r (.mov (.loc 4))), none⟩,
  ⟨3, 0, false, (.r (.bin .add (.tmp 1) (.tmp 2))), none⟩,
  ⟨4, 0, false, (.r (.off 2 (.loc 1))), none⟩,
  ⟨5, 0, false, (.r (.load false 1 (.tmp 4))), none⟩,
  ⟨6, 0, false, (.r (.mov (.loc 4))), none⟩,
  ⟨7, 0, false, (.r (.bin .sub (.tmp 6) (.cst (.int .i64 1)))), none⟩,
  ⟨8, 0, false, (.r (.idx 3 (.tmp 5) (.tmp 7))), none⟩,
  ⟨9, 0, false, (.r (.off 0 (.tmp 8))), none⟩,
  ⟨10, 0, false, (.r (.load false 1 (.tmp 9))), none⟩,
  ⟨11, 0, false, (.r (.mov (.tmp 3))), none⟩,
  ⟨12, 0, false, (.r (.mov (.tmp 10))), none⟩], [(2, 11), (3, 12)]⟩)
 .ret)))), [(.tmp (.loc 2)), (.tmp (.loc 3))]⟩

/-- glebe/gleberef11.Term -/
def c_gleberef11_Term (f_gleberef11_Last : FuncId) : AFn := ⟨38, fun s => List.contains [0, 1, 2, 4, 5, 6, 21, 25] s, (.seq (.reg [⟨(.loc 2), (.h (.box (.loc 0))), none⟩,
  ⟨(.loc 4), (.r (.mov (.cst (.int .i64 0)))), none⟩,
  ⟨(.loc 5), (.r (.mov (.cst (.bool false)))), none⟩])
 (.seq (.reg [⟨(.tmp 9), (.r (.load true 3 (.loc 2))), none⟩,
  ⟨(.tmp 10), (.call f_gleberef11_Last [(.tmp 9)]), none⟩,
  ⟨(.tmp 8), (.r (.mov (.tmp 10))), none⟩,
  ⟨(.tmp 11), (.r (.ext (.tmp 8) 0)), none⟩,
  ⟨(.tmp 12), (.r (.ext (.tmp 8) 1)), none⟩,
  ⟨(.loc 6), (.r (.mov (.tmp 11))), none⟩,
  ⟨(.tmp 7), (.r (.mov (.tmp 12))), none⟩])
 (.seq (.seq (.reg [⟨(.tmp 13), (.r (.mov (.loc 1))), none⟩,
  ⟨(.tmp 14), (.r (.off 0 (.loc 2))), none⟩,
  ⟨(.tmp 15), (.r (.load false 1 (.tmp 14))), none⟩,
  ⟨(.tmp 16), (.r (.bin .lss (.tmp 13) (.tmp 15))), none⟩,
  ⟨(.tmp 17), (.r (.mov (.tmp 16))), none⟩,
  ⟨(.tmp 18), (.r (.mov (.loc 1))), (some ((.tmp 17), false))⟩,
  ⟨(.tmp 19), (.r (.mov (.loc 6))), (some ((.tmp 17), false))⟩,
  ⟨(.tmp 20), (.r (.bin .gtr (.tmp 18) (.tmp 19))), (some ((.tmp 17), false))⟩,
  ⟨(.loc 21), (.r (.pick (.tmp 17) (.cst (.bool true)) (.tmp 20))), none⟩])
 (.cond (.loc 21) (.seq (.reg [⟨(.loc 4), (.r (.mov (.cst (.int .i64 0)))), none⟩,
  ⟨(.loc 5), (.r (.mov (.cst (.bool false)))), none⟩])
 .ret)
 .skip))
 (.seq (.seq (.reg [⟨(.tmp 22), (.r (.mov (.loc 1))), none⟩,
  ⟨(.tmp 23), (.r (.off 0 (.loc 2))), none⟩,
  ⟨(.tmp 24), (.r (.load false 1 (.tmp 23))), none⟩,
  ⟨(.loc 25), (.r (.bin .eql (.tmp 22) (.tmp 24))), none⟩])
 (.cond (.loc 25) (.seq (.reg [⟨(.tmp 26), (.r (.off 1 (.loc 2))), none⟩,
  ⟨(.tmp 27), (.r (.load false 1 (.tmp 26))), none⟩,
  ⟨(.loc 4), (.r (.mov (.tmp 27))), none⟩,
  ⟨(.loc 5), (.r (.mov (.cst (.bool true)))), none⟩])
 .ret)
 .skip))
 (.seq (.reg [⟨(.tmp 28), (.r (.off 2 (.loc 2))), none⟩,
  ⟨(.tmp 29), (.r (.load false 1 (.tmp 28))), none⟩,
  ⟨(.tmp 30), (.r (.mov (.loc 1))), none⟩,
  ⟨(.tmp 31), (.r (.off 0 (.loc 2))), none⟩,
  ⟨(.tmp 32), (.r (.load false 1 (.tmp 31))), none⟩,
  ⟨(.tmp 33), (.r (.bin .sub (.tmp 30) (.tmp 32))), none⟩,
  ⟨(.tmp 34), (.r (.bin .sub (.tmp 33) (.cst (.int .i64 1)))), none⟩,
  ⟨(.tmp 35), (.r (.idx 3 (.tmp 29) (.tmp 34))), none⟩,
  ⟨(.tmp 36), (.r (.off 0 (.tmp 35))), none⟩,
  ⟨(.tmp 37), (.r (.load false 1 (.tmp 36))), none⟩,
  ⟨(.loc 4), (.r (.mov (.tmp 37))), none⟩,
  ⟨(.loc 5), (.r (.mov (.cst (.bool true)))), none⟩])
 .ret))))), [(.tmp (.loc 4)), (.tmp (.loc 5))]⟩

/-- glebe/gleberef11.Newer -/
def c_gleberef11_Newer (f_gleberef11_Last : FuncId) : AFn := ⟨27, fun s => List.contains [0, 1, 2, 3, 6, 7, 8] s, (.seq (.reg [⟨(.loc 3), (.h (.box (.loc 0))), none⟩,
  ⟨(.loc 6), (.r (.mov (.cst (.bool false)))), none⟩])
 (.seq (.reg [⟨(.tmp 10), (.r (.load true 3 (.loc 3))), none⟩,
  ⟨(.tmp 11), (.call f_gleberef11_Last [(.tmp 10)]), none⟩,
  ⟨(.tmp 9), (.r (.mov (.tmp 11))), none⟩,
  ⟨(.tmp 12), (.r (.ext (.tmp 9) 0)), none⟩,
  ⟨(.tmp 13), (.r (.ext (.tmp 9) 1)), none⟩,
  ⟨(.loc 7), (.r (.mov (.tmp 12))), none⟩,
  ⟨(.loc 8), (.r (.mov (.tmp 13))), none⟩])
 (.seq (.reg [⟨(.tmp 14), (.r (.mov (.loc 2))), none⟩,
  ⟨(.tmp 15), (.r (.mov (.loc 8))), none⟩,
  ⟨(.tmp 16), (.r (.bin .gtr (.tmp 14) (.tmp 15))), none⟩,
  ⟨(.tmp 17), (.r (.mov (.tmp 16))), none⟩,
  ⟨(.tmp 18), (.r (.mov (.loc 2))), (some ((.tmp 17), false))⟩,
  ⟨(.tmp 19), (.r (.mov (.loc 8))), (some ((.tmp 17), false))⟩,
  ⟨(.tmp 20), (.r (.bin .eql (.tmp 18) (.tmp 19))), (some ((.tmp 17), false))⟩,
  ⟨(.tmp 21), (.r (.mov (.tmp 20))), (some ((.tmp 17), false))⟩,
  ⟨(.tmp 22), (.r (.mov (.loc 1))), (some ((.tmp 21), true))⟩,
  ⟨(.tmp 23), (.r (.mov (.loc 7))), (some ((.tmp 21), true))⟩,
  ⟨(.tmp 24), (.r (.bin .geq (.tmp 22) (.tmp 23))), (some ((.tmp 21), true))⟩,
  ⟨(.tmp 25), (.r (.pick (.tmp 21) (.tmp 24) (.cst (.bool false)))), (some ((.tmp 17), false))⟩,
  ⟨(.tmp 26), (.r (.pick (.tmp 17) (.cst (.bool true)) (.tmp 25))), none⟩,
  ⟨(.loc 6), (.r (.mov (.tmp 26))), none⟩])
 .ret))), [(.tmp (.loc 6))]⟩

def c_gleberef11_Slice_l0 (f_gleberef11_Last : FuncId) (f_glebekit_CopyEntries : FuncId) : AC := (.seq (.seq (.reg [⟨(.tmp 21), (.r (.mov (.loc 10))), none⟩,
  ⟨(.tmp 22), (.r (.mov (.loc 7))), none⟩,
  ⟨(.tmp 23), (.r (.bin .leq (.tmp 21) (.tmp 22))), none⟩,
  ⟨(.tmp 24), (.r (.mov (.tmp 23))), none⟩,
  ⟨(.tmp 25), (.r (.mov (.loc 1))), (some ((.tmp 24), true))⟩,
  ⟨(.tmp 26), (.r (.off 0 (.loc 3))), (some ((.tmp 24), true))⟩,
  ⟨(.tmp 27), (.r (.load false 1 (.tmp 26))), (some ((.tmp 24), true))⟩,
  ⟨(.tmp 28), (.r (.bin .gtr (.tmp 25) (.tmp 27))), (some ((.tmp 24), true))⟩,
  ⟨(.tmp 29), (.r (.pick (.tmp 24) (.tmp 28) (.cst (.bool false)))), none⟩,
  ⟨(.tmp 30), (.r (.mov (.tmp 29))), none⟩,
  ⟨(.tmp 31), (.r (.mov (.loc 9))), (some ((.tmp 30), true))⟩,
  ⟨(.tmp 32), (.r (.len (.tmp 31))), (some ((.tmp 30), true))⟩,
  ⟨(.tmp 33), (.r (.mov (.loc 2))), (some ((.tmp 30), true))⟩,
  ⟨(.tmp 34), (.r (.bin .lss (.tmp 32) (.tmp 33))), (some ((.tmp 30), true))⟩,
  ⟨(.loc 35), (.r (.pick (.tmp 30) (.tmp 34) (.cst (.bool false)))), none⟩])
 (.cond (.loc 35) .skip
 (.exit 0)))
 (.seq (.block 1 (.reg [⟨(.tmp 38), (.r (.mov (.loc 9))), none⟩,
  ⟨(.tmp 39), (.r (.off 2 (.loc 3))), none⟩,
  ⟨(.tmp 40), (.r (.load false 1 (.tmp 39))), none⟩,
  ⟨(.tmp 41), (.r (.mov (.loc 10))), none⟩,
  ⟨(.tmp 42), (.r (.off 0 (.loc 3))), none⟩,
  ⟨(.tmp 43), (.r (.load false 1 (.tmp 42))), none⟩,
  ⟨(.tmp 44), (.r (.bin .sub (.tmp 41) (.tmp 43))), none⟩,
  ⟨(.tmp 45), (.r (.bin .sub (.tmp 44) (.cst (.int .i64 1)))), none⟩,
  ⟨(.tmp 46), (.r (.idx 3 (.tmp 40) (.tmp 45))), none⟩,
  ⟨(.tmp 47), (.r (.load true 3 (.tmp 46))), none⟩,
  ⟨(.tmp 48), (.h (.bsl 3 [(.tmp 47)])), none⟩,
  ⟨(.tmp 49), (.h (.app 3 40 (.tmp 38) (.tmp 48))), none⟩,
  ⟨(.loc 9), (.r (.mov (.tmp 49))), none⟩]))
 (.reg [⟨(.tmp 36), (.r (.mov (.loc 10))), none⟩,
  ⟨(.tmp 37), (.r (.bin .add (.tmp 36) (.cst (.int .i64 1)))), none⟩,
  ⟨(.loc 10), (.r (.mov (.tmp 37))), none⟩])))
/-- glebe/gleberef11.Slice -/
def c_gleberef11_Slice (f_gleberef11_Last : FuncId) (f_glebekit_CopyEntries : FuncId) : AFn := ⟨52, fun s => List.contains [0, 1, 2, 3, 6, 7, 9, 10, 35] s, (.seq (.reg [⟨(.loc 3), (.h (.box (.loc 0))), none⟩,
  ⟨(.loc 6), (.r (.mov (.cst .nils))), none⟩])
 (.seq (.reg [⟨(.tmp 12), (.r (.load true 3 (.loc 3))), none⟩,
  ⟨(.tmp 13), (.call f_gleberef11_Last [(.tmp 12)]), none⟩,
  ⟨(.tmp 11), (.r (.mov (.tmp 13))), none⟩,
  ⟨(.tmp 14), (.r (.ext (.tmp 11) 0)), none⟩,
  ⟨(.tmp 15), (.r (.ext (.tmp 11) 1)), none⟩,
  ⟨(.loc 7), (.r (.mov (.tmp 14))), none⟩,
  ⟨(.tmp 8), (.r (.mov (.tmp 15))), none⟩])
 (.seq (.reg [⟨(.loc 9), (.r (.mov (.cst .nils))), none⟩])
 (.seq (.seq (.reg [⟨(.tmp 16), (.r (.mov (.loc 1))), none⟩,
  ⟨(.tmp 17), (.r (.off 0 (.loc 3))), none⟩,
  ⟨(.tmp 18), (.r (.load false 1 (.tmp 17))), none⟩,
  ⟨(.tmp 19), (.r (.bin .add (.tmp 18) (.cst (.int .i64 1)))), none⟩,
  ⟨(.tmp 20), (.r (.mnmx true [(.tmp 16), (.tmp 19)])), none⟩,
  ⟨(.loc 10), (.r (.mov (.tmp 20))), none⟩])
 (.block 0 (.loop (c_gleberef11_Slice_l0 f_gleberef11_Last f_glebekit_CopyEntries))))
 (.seq (.reg [⟨(.tmp 50), (.r (.mov (.loc 9))), none⟩,
  ⟨(.tmp 51), (.call f_glebekit_CopyEntries [(.tmp 50)]), none⟩,
  ⟨(.loc 6), (.r (.mov (.tmp 51))), none⟩])
 .ret))))), [(.tmp (.loc 6))]⟩

end Glb
