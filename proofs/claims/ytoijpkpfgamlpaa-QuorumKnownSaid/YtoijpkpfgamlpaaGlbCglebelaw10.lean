/-
  What functions of the program are, one by one (the functions that they call as parameters), in a form of which something can be shown.
-/
import Derived.Test.YtoijpkpfgamlpaaGlbLibB
set_option linter.unusedSimpArgs false
set_option linter.unusedVariables false
namespace Glb
open Go
set_option maxRecDepth 100000

/-- glebe/glebelaw10.QuorumAgrees -/
def c_glebelaw10_QuorumAgrees (f_glebelaw10_long : FuncId) (f_glebelaw10_works : FuncId) (f_glebekit_LentInts : FuncId) (f_quorum_Agreed : FuncId) (f_gleberef10_Agreed : FuncId) (f_glebekit_KeptInts : FuncId) : AFn := ⟨56, fun s => List.contains [0, 1, 2, 3, 6, 7, 8, 9, 21] s, (.seq (.reg [⟨(.loc 3), (.h (.box (.loc 0))), none⟩,
  ⟨(.loc 6), (.r (.mov (.cst (.bool false)))), none⟩])
 (.seq (.seq (.reg [⟨(.tmp 10), (.r (.load true 3 (.loc 3))), none⟩,
  ⟨(.tmp 11), (.call f_glebelaw10_long [(.tmp 10)]), none⟩,
  ⟨(.tmp 12), (.r (.mov (.tmp 11))), none⟩,
  ⟨(.tmp 13), (.r (.mov (.loc 1))), (some ((.tmp 12), false))⟩,
  ⟨(.tmp 14), (.r (.len (.tmp 13))), (some ((.tmp 12), false))⟩,
  ⟨(.tmp 15), (.r (.bin .gtr (.tmp 14) (.cst (.int .i64 300)))), (some ((.tmp 12), false))⟩,
  ⟨(.tmp 16), (.r (.pick (.tmp 12) (.cst (.bool true)) (.tmp 15))), none⟩,
  ⟨(.tmp 17), (.r (.mov (.tmp 16))), none⟩,
  ⟨(.tmp 18), (.r (.mov (.loc 2))), (some ((.tmp 17), false))⟩,
  ⟨(.tmp 19), (.r (.len (.tmp 18))), (some ((.tmp 17), false))⟩,
  ⟨(.tmp 20), (.r (.bin .gtr (.tmp 19) (.cst (.int .i64 300)))), (some ((.tmp 17), false))⟩,
  ⟨(.loc 21), (.r (.pick (.tmp 17) (.cst (.bool true)) (.tmp 20))), none⟩])
 (.cond (.loc 21) (.seq (.reg [⟨(.tmp 22), (.call f_glebelaw10_works []), none⟩,
  ⟨(.loc 6), (.r (.mov (.tmp 22))), none⟩])
 .ret)
 .skip))
 (.seq (.reg [⟨(.tmp 23), (.r (.mov (.loc 1))), none⟩,
  ⟨(.tmp 24), (.call f_glebekit_LentInts [(.tmp 23)]), none⟩,
  ⟨(.loc 7), (.r (.mov (.tmp 24))), none⟩])
 (.seq (.reg [⟨(.tmp 25), (.r (.mov (.loc 2))), none⟩,
  ⟨(.tmp 26), (.call f_glebekit_LentInts [(.tmp 25)]), none⟩,
  ⟨(.loc 8), (.r (.mov (.tmp 26))), none⟩])
 (.seq (.dreg ⟨[0, 0, 0, 4, 14, 0, 0, 64, 224, 511, 1023], 0, [⟨0, 0, false, (.r (.load true 3 (.loc 3))), none⟩,
  ⟨1, 0, false, (.r (.mov (.loc 7))), none⟩,
  ⟨2, 0, false, (.r (.mov (.loc 1))), none⟩,
  ⟨3, 0, false, (.r (.len (.tmp 2))), none⟩,
  ⟨4, 0, false, (.r (.slc 1 (.tmp 1) none (some (.tmp 3)) none)), none⟩,
  ⟨5, 0, false, (.r (.mov (.loc 8))), none⟩,
  ⟨6, 0, false, (.r (.mov (.loc 2))), none⟩,
  ⟨7, 0, false, (.r (.len (.tmp 6))), none⟩,
  ⟨8, 0, false, (.r (.slc 1 (.tmp 5) none (some (.tmp 7)) none)), none⟩,
  ⟨9, 0, true, (.call f_quorum_Agreed [(.tmp 0), (.tmp 4), (.tmp 8)]), none⟩,
  ⟨10, 0, false, (.r (.mov (.tmp 9))), none⟩], [(9, 10)]⟩)
 (.seq (.reg [⟨(.tmp 37), (.r (.mov (.loc 9))), none⟩,
  ⟨(.tmp 38), (.r (.load true 3 (.loc 3))), none⟩,
  ⟨(.tmp 39), (.r (.mov (.loc 1))), none⟩,
  ⟨(.tmp 40), (.r (.mov (.loc 2))), none⟩,
  ⟨(.tmp 41), (.call f_gleberef10_Agreed [(.tmp 38), (.tmp 39), (.tmp 40)]), none⟩,
  ⟨(.tmp 42), (.r (.bin .eql (.tmp 37) (.tmp 41))), none⟩,
  ⟨(.tmp 43), (.r (.mov (.tmp 42))), none⟩,
  ⟨(.tmp 44), (.r (.mov (.loc 7))), (some ((.tmp 43), true))⟩,
  ⟨(.tmp 45), (.r (.mov (.loc 1))), (some ((.tmp 43), true))⟩,
  ⟨(.tmp 46), (.call f_glebekit_KeptInts [(.tmp 44), (.tmp 45)]), (some ((.tmp 43), true))⟩,
  ⟨(.tmp 47), (.r (.pick (.tmp 43) (.tmp 46) (.cst (.bool false)))), none⟩,
  ⟨(.tmp 48), (.r (.mov (.tmp 47))), none⟩,
  ⟨(.tmp 49), (.r (.mov (.loc 8))), (some ((.tmp 48), true))⟩,
  ⟨(.tmp 50), (.r (.mov (.loc 2))), (some ((.tmp 48), true))⟩,
  ⟨(.tmp 51), (.call f_glebekit_KeptInts [(.tmp 49), (.tmp 50)]), (some ((.tmp 48), true))⟩,
  ⟨(.tmp 52), (.r (.pick (.tmp 48) (.tmp 51) (.cst (.bool false)))), none⟩,
  ⟨(.tmp 53), (.r (.mov (.tmp 52))), none⟩,
  ⟨(.tmp 54), (.call f_glebelaw10_works []), (some ((.tmp 53), true))⟩,
  ⟨(.tmp 55), (.r (.pick (.tmp 53) (.tmp 54) (.cst (.bool false)))), none⟩,
  ⟨(.loc 6), (.r (.mov (.tmp 55))), none⟩])
 .ret)))))), [(.tmp (.loc 6))]⟩

def c_glebelaw10_QuorumReached_l0 (f_glebelaw10_long : FuncId) (f_glebelaw10_works : FuncId) (f_quorum_Agreed : FuncId) (f_glebelaw10_in : FuncId) (f_quorum_Won : FuncId) (f_glebekit_CopyInts : FuncId) (f_glebekit_Pick : FuncId) : AC := (.seq (.seq (.reg [⟨(.tmp 54), (.r (.mov (.loc 14))), none⟩,
  ⟨(.tmp 55), (.r (.mov (.loc 1))), none⟩,
  ⟨(.tmp 56), (.r (.len (.tmp 55))), none⟩,
  ⟨(.loc 57), (.r (.bin .lss (.tmp 54) (.tmp 56))), none⟩])
 (.cond (.loc 57) .skip
 (.exit 2)))
 (.seq (.block 3 (.seq (.dreg ⟨[0, 0, 3, 7, 0, 0, 48, 112, 255], 0, [⟨0, 0, false, (.r (.mov (.loc 2))), none⟩,
  ⟨1, 0, false, (.r (.mov (.loc 14))), none⟩,
  ⟨2, 0, false, (.r (.idx 1 (.tmp 0) (.tmp 1))), none⟩,
  ⟨3, 0, false, (.r (.load false 1 (.tmp 2))), none⟩,
  ⟨4, 0, false, (.r (.mov (.loc 2))), none⟩,
  ⟨5, 0, false, (.r (.mov (.loc 12))), none⟩,
  ⟨6, 0, false, (.r (.idx 1 (.tmp 4) (.tmp 5))), none⟩,
  ⟨7, 0, false, (.r (.load false 1 (.tmp 6))), none⟩,
  ⟨8, 0, false, (.r (.bin .geq (.tmp 3) (.tmp 7))), none⟩], [(68, 8)]⟩)
 (.cond (.loc 68) (.reg [⟨(.tmp 69), (.r (.mov (.loc 13))), none⟩,
  ⟨(.tmp 70), (.r (.mov (.loc 1))), none⟩,
  ⟨(.tmp 71), (.r (.mov (.loc 14))), none⟩,
  ⟨(.tmp 72), (.r (.idx 1 (.tmp 70) (.tmp 71))), none⟩,
  ⟨(.tmp 73), (.r (.load false 1 (.tmp 72))), none⟩,
  ⟨(.tmp 74), (.h (.bsl 1 [(.tmp 73)])), none⟩,
  ⟨(.tmp 75), (.h (.app 1 8 (.tmp 69) (.tmp 74))), none⟩,
  ⟨(.loc 13), (.r (.mov (.tmp 75))), none⟩])
 .skip)))
 (.reg [⟨(.tmp 58), (.r (.mov (.loc 14))), none⟩,
  ⟨(.tmp 59), (.r (.bin .add (.tmp 58) (.cst (.int .i64 1)))), none⟩,
  ⟨(.loc 14), (.r (.mov (.tmp 59))), none⟩])))
def c_glebelaw10_QuorumReached_l1 (f_glebelaw10_long : FuncId) (f_glebelaw10_works : FuncId) (f_quorum_Agreed : FuncId) (f_glebelaw10_in : FuncId) (f_quorum_Won : FuncId) (f_glebekit_CopyInts : FuncId) (f_glebekit_Pick : FuncId) : AC := (.seq (.seq (.reg [⟨(.tmp 48), (.r (.mov (.loc 12))), none⟩,
  ⟨(.tmp 49), (.r (.mov (.loc 2))), none⟩,
  ⟨(.tmp 50), (.r (.len (.tmp 49))), none⟩,
  ⟨(.loc 51), (.r (.bin .lss (.tmp 48) (.tmp 50))), none⟩])
 (.cond (.loc 51) .skip
 (.exit 0)))
 (.seq (.block 1 (.seq (.reg [⟨(.loc 13), (.r (.mov (.cst .nils))), none⟩])
 (.seq (.seq (.reg [⟨(.loc 14), (.r (.mov (.cst (.int .i64 0)))), none⟩])
 (.block 2 (.loop (c_glebelaw10_QuorumReached_l0 f_glebelaw10_long f_glebelaw10_works f_quorum_Agreed f_glebelaw10_in f_quorum_Won f_glebekit_CopyInts f_glebekit_Pick))))
 (.seq (.reg [⟨(.tmp 76), (.r (.load true 3 (.loc 5))), none⟩,
  ⟨(.tmp 77), (.r (.mov (.loc 13))), none⟩,
  ⟨(.tmp 78), (.call f_quorum_Won [(.tmp 76), (.tmp 77)]), none⟩,
  ⟨(.tmp 79), (.r (.mov (.tmp 78))), none⟩,
  ⟨(.tmp 80), (.r (.mov (.loc 2))), (some ((.tmp 79), true))⟩,
  ⟨(.tmp 81), (.r (.mov (.loc 12))), (some ((.tmp 79), true))⟩,
  ⟨(.tmp 82), (.r (.idx 1 (.tmp 80) (.tmp 81))), (some ((.tmp 79), true))⟩,
  ⟨(.tmp 83), (.r (.load false 1 (.tmp 82))), (some ((.tmp 79), true))⟩,
  ⟨(.tmp 84), (.r (.mov (.loc 11))), (some ((.tmp 79), true))⟩,
  ⟨(.tmp 85), (.r (.bin .gtr (.tmp 83) (.tmp 84))), (some ((.tmp 79), true))⟩,
  ⟨(.tmp 86), (.r (.pick (.tmp 79) (.tmp 85) (.cst (.bool false)))), none⟩,
  ⟨(.tmp 87), (.r (.mov (.tmp 86))), none⟩,
  ⟨(.tmp 88), (.r (.mov (.loc 2))), (some ((.tmp 87), false))⟩,
  ⟨(.tmp 89), (.r (.mov (.loc 12))), (some ((.tmp 87), false))⟩,
  ⟨(.tmp 90), (.r (.idx 1 (.tmp 88) (.tmp 89))), (some ((.tmp 87), false))⟩,
  ⟨(.tmp 91), (.r (.load false 1 (.tmp 90))), (some ((.tmp 87), false))⟩,
  ⟨(.tmp 92), (.r (.mov (.loc 11))), (some ((.tmp 87), false))⟩,
  ⟨(.tmp 93), (.r (.bin .eql (.tmp 91) (.tmp 92))), (some ((.tmp 87), false))⟩,
  ⟨(.tmp 94), (.r (.mov (.tmp 93))), (some ((.tmp 87), false))⟩,
  ⟨(.tmp 95), (.r (.mov (.loc 11))), (some ((.tmp 94), true))⟩,
  ⟨(.tmp 96), (.r (.bin .gtr (.tmp 95) (.cst (.int .i64 0)))), (some ((.tmp 94), true))⟩,
  ⟨(.tmp 97), (.r (.pick (.tmp 94) (.tmp 96) (.cst (.bool false)))), (some ((.tmp 87), false))⟩,
  ⟨(.tmp 98), (.r (.mov (.tmp 97))), (some ((.tmp 87), false))⟩,
  ⟨(.tmp 99), (.r (.load true 3 (.loc 5))), (some ((.tmp 98), true))⟩,
  ⟨(.tmp 100), (.r (.mov (.loc 13))), (some ((.tmp 98), true))⟩,
  ⟨(.tmp 101), (.call f_quorum_Won [(.tmp 99), (.tmp 100)]), (some ((.tmp 98), true))⟩,
  ⟨(.tmp 102), (.r (.not (.tmp 101))), (some ((.tmp 98), true))⟩,
  ⟨(.tmp 103), (.r (.pick (.tmp 98) (.tmp 102) (.cst (.bool false)))), (some ((.tmp 87), false))⟩,
  ⟨(.loc 104), (.r (.pick (.tmp 87) (.cst (.bool true)) (.tmp 103))), none⟩])
 (.cond (.loc 104) (.seq (.reg [⟨(.loc 10), (.r (.mov (.cst (.bool false)))), none⟩])
 .ret)
 .skip)))))
 (.reg [⟨(.tmp 52), (.r (.mov (.loc 12))), none⟩,
  ⟨(.tmp 53), (.r (.bin .add (.tmp 52) (.cst (.int .i64 1)))), none⟩,
  ⟨(.loc 12), (.r (.mov (.tmp 53))), none⟩])))
/-- glebe/glebelaw10.QuorumReached -/
def c_glebelaw10_QuorumReached (f_glebelaw10_long : FuncId) (f_glebelaw10_works : FuncId) (f_quorum_Agreed : FuncId) (f_glebelaw10_in : FuncId) (f_quorum_Won : FuncId) (f_glebekit_CopyInts : FuncId) (f_glebekit_Pick : FuncId) : AFn := ⟨137, fun s => List.contains [0, 1, 2, 3, 4, 5, 10, 11, 12, 13, 14, 15, 16, 30, 47, 51, 57, 68, 104, 107] s, (.seq (.reg [⟨(.loc 5), (.h (.box (.loc 0))), none⟩,
  ⟨(.loc 10), (.r (.mov (.cst (.bool false)))), none⟩])
 (.seq (.seq (.reg [⟨(.tmp 17), (.r (.load true 3 (.loc 5))), none⟩,
  ⟨(.tmp 18), (.call f_glebelaw10_long [(.tmp 17)]), none⟩,
  ⟨(.tmp 19), (.r (.mov (.tmp 18))), none⟩,
  ⟨(.tmp 20), (.r (.mov (.loc 1))), (some ((.tmp 19), false))⟩,
  ⟨(.tmp 21), (.r (.len (.tmp 20))), (some ((.tmp 19), false))⟩,
  ⟨(.tmp 22), (.r (.bin .gtr (.tmp 21) (.cst (.int .i64 300)))), (some ((.tmp 19), false))⟩,
  ⟨(.tmp 23), (.r (.pick (.tmp 19) (.cst (.bool true)) (.tmp 22))), none⟩,
  ⟨(.tmp 24), (.r (.mov (.tmp 23))), none⟩,
  ⟨(.tmp 25), (.r (.mov (.loc 2))), (some ((.tmp 24), false))⟩,
  ⟨(.tmp 26), (.r (.len (.tmp 25))), (some ((.tmp 24), false))⟩,
  ⟨(.tmp 27), (.r (.mov (.loc 1))), (some ((.tmp 24), false))⟩,
  ⟨(.tmp 28), (.r (.len (.tmp 27))), (some ((.tmp 24), false))⟩,
  ⟨(.tmp 29), (.r (.bin .neq (.tmp 26) (.tmp 28))), (some ((.tmp 24), false))⟩,
  ⟨(.loc 30), (.r (.pick (.tmp 24) (.cst (.bool true)) (.tmp 29))), none⟩])
 (.cond (.loc 30) (.seq (.reg [⟨(.tmp 31), (.call f_glebelaw10_works []), none⟩,
  ⟨(.loc 10), (.r (.mov (.tmp 31))), none⟩])
 .ret)
 .skip))
 (.seq (.reg [⟨(.tmp 32), (.r (.load true 3 (.loc 5))), none⟩,
  ⟨(.tmp 33), (.r (.mov (.loc 1))), none⟩,
  ⟨(.tmp 34), (.r (.mov (.loc 2))), none⟩,
  ⟨(.tmp 35), (.call f_quorum_Agreed [(.tmp 32), (.tmp 33), (.tmp 34)]), none⟩,
  ⟨(.loc 11), (.r (.mov (.tmp 35))), none⟩])
 (.seq (.seq (.reg [⟨(.tmp 36), (.r (.mov (.loc 11))), none⟩,
  ⟨(.tmp 37), (.r (.bin .lss (.tmp 36) (.cst (.int .i64 0)))), none⟩,
  ⟨(.tmp 38), (.r (.mov (.tmp 37))), none⟩,
  ⟨(.tmp 39), (.r (.mov (.loc 11))), (some ((.tmp 38), false))⟩,
  ⟨(.tmp 40), (.r (.bin .gtr (.tmp 39) (.cst (.int .i64 0)))), (some ((.tmp 38), false))⟩,
  ⟨(.tmp 41), (.r (.mov (.tmp 40))), (some ((.tmp 38), false))⟩,
  ⟨(.tmp 42), (.r (.mov (.loc 2))), (some ((.tmp 41), true))⟩,
  ⟨(.tmp 43), (.r (.mov (.loc 11))), (some ((.tmp 41), true))⟩,
  ⟨(.tmp 44), (.call f_glebelaw10_in [(.tmp 42), (.tmp 43)]), (some ((.tmp 41), true))⟩,
  ⟨(.tmp 45), (.r (.not (.tmp 44))), (some ((.tmp 41), true))⟩,
  ⟨(.tmp 46), (.r (.pick (.tmp 41) (.tmp 45) (.cst (.bool false)))), (some ((.tmp 38), false))⟩,
  ⟨(.loc 47), (.r (.pick (.tmp 38) (.cst (.bool true)) (.tmp 46))), none⟩])
 (.cond (.loc 47) (.seq (.reg [⟨(.loc 10), (.r (.mov (.cst (.bool false)))), none⟩])
 .ret)
 .skip))
 (.seq (.seq (.reg [⟨(.loc 12), (.r (.mov (.cst (.int .i64 0)))), none⟩])
 (.block 0 (.loop (c_glebelaw10_QuorumReached_l1 f_glebelaw10_long f_glebelaw10_works f_quorum_Agreed f_glebelaw10_in f_quorum_Won f_glebekit_CopyInts f_glebekit_Pick))))
 (.seq (.seq (.reg [⟨(.tmp 105), (.r (.mov (.loc 2))), none⟩,
  ⟨(.tmp 106), (.r (.len (.tmp 105))), none⟩,
  ⟨(.loc 107), (.r (.bin .eql (.tmp 106) (.cst (.int .i64 0)))), none⟩])
 (.cond (.loc 107) (.seq (.reg [⟨(.tmp 108), (.r (.mov (.loc 11))), none⟩,
  ⟨(.tmp 109), (.r (.bin .eql (.tmp 108) (.cst (.int .i64 0)))), none⟩,
  ⟨(.tmp 110), (.r (.mov (.tmp 109))), none⟩,
  ⟨(.tmp 111), (.call f_glebelaw10_works []), (some ((.tmp 110), true))⟩,
  ⟨(.tmp 112), (.r (.pick (.tmp 110) (.tmp 111) (.cst (.bool false)))), none⟩,
  ⟨(.loc 10), (.r (.mov (.tmp 112))), none⟩])
 .ret)
 .skip))
 (.seq (.reg [⟨(.tmp 113), (.r (.mov (.loc 2))), none⟩,
  ⟨(.tmp 114), (.call f_glebekit_CopyInts [(.tmp 113)]), none⟩,
  ⟨(.loc 15), (.r (.mov (.tmp 114))), none⟩])
 (.seq (.reg [⟨(.tmp 115), (.r (.mov (.loc 3))), none⟩,
  ⟨(.tmp 116), (.r (.mov (.loc 15))), none⟩,
  ⟨(.tmp 117), (.r (.len (.tmp 116))), none⟩,
  ⟨(.tmp 118), (.call f_glebekit_Pick [(.tmp 115), (.tmp 117)]), none⟩,
  ⟨(.loc 16), (.r (.mov (.tmp 118))), none⟩])
 (.seq (.reg [⟨(.tmp 119), (.r (.mov (.loc 15))), none⟩,
  ⟨(.tmp 120), (.r (.mov (.loc 16))), none⟩,
  ⟨(.tmp 121), (.r (.mov (.loc 15))), none⟩,
  ⟨(.tmp 122), (.r (.mov (.loc 16))), none⟩,
  ⟨(.tmp 123), (.r (.idx 1 (.tmp 121) (.tmp 122))), none⟩,
  ⟨(.tmp 124), (.r (.load false 1 (.tmp 123))), none⟩,
  ⟨(.tmp 125), (.r (.mov (.loc 4))), none⟩,
  ⟨(.tmp 126), (.r (.mnmx true [(.tmp 124), (.tmp 125)])), none⟩,
  ⟨(.tmp 127), (.r (.idx 1 (.tmp 119) (.tmp 120))), none⟩,
  ⟨.none, (.h (.store 1 (.tmp 127) (.tmp 126))), none⟩])
 (.seq (.reg [⟨(.tmp 128), (.r (.load true 3 (.loc 5))), none⟩,
  ⟨(.tmp 129), (.r (.mov (.loc 1))), none⟩,
  ⟨(.tmp 130), (.r (.mov (.loc 15))), none⟩,
  ⟨(.tmp 131), (.call f_quorum_Agreed [(.tmp 128), (.tmp 129), (.tmp 130)]), none⟩,
  ⟨(.tmp 132), (.r (.mov (.loc 11))), none⟩,
  ⟨(.tmp 133), (.r (.bin .geq (.tmp 131) (.tmp 132))), none⟩,
  ⟨(.tmp 134), (.r (.mov (.tmp 133))), none⟩,
  ⟨(.tmp 135), (.call f_glebelaw10_works []), (some ((.tmp 134), true))⟩,
  ⟨(.tmp 136), (.r (.pick (.tmp 134) (.tmp 135) (.cst (.bool false)))), none⟩,
  ⟨(.loc 10), (.r (.mov (.tmp 136))), none⟩])
 .ret)))))))))), [(.tmp (.loc 10))]⟩

/-- glebe/glebelaw10.QuorumMeets -/
def c_glebelaw10_QuorumMeets (f_glebelaw10_long : FuncId) (f_quorum_Check : FuncId) (f_glebelaw10_works : FuncId) (f_quorum_Voters : FuncId) (f_quorum_Won : FuncId) (f_glebelaw10_meet : FuncId) : AFn := ⟨86, fun s => List.contains [0, 1, 2, 3, 6, 7, 24, 42, 60, 84] s, (.seq (.reg [⟨(.loc 3), (.h (.box (.loc 0))), none⟩,
  ⟨(.loc 6), (.r (.mov (.cst (.bool false)))), none⟩])
 (.seq (.seq (.reg [⟨(.tmp 8), (.r (.load true 3 (.loc 3))), none⟩,
  ⟨(.tmp 9), (.call f_glebelaw10_long [(.tmp 8)]), none⟩,
  ⟨(.tmp 10), (.r (.mov (.tmp 9))), none⟩,
  ⟨(.tmp 11), (.r (.mov (.loc 1))), (some ((.tmp 10), false))⟩,
  ⟨(.tmp 12), (.r (.len (.tmp 11))), (some ((.tmp 10), false))⟩,
  ⟨(.tmp 13), (.r (.bin .gtr (.tmp 12) (.cst (.int .i64 300)))), (some ((.tmp 10), false))⟩,
  ⟨(.tmp 14), (.r (.pick (.tmp 10) (.cst (.bool true)) (.tmp 13))), none⟩,
  ⟨(.tmp 15), (.r (.mov (.tmp 14))), none⟩,
  ⟨(.tmp 16), (.r (.mov (.loc 2))), (some ((.tmp 15), false))⟩,
  ⟨(.tmp 17), (.r (.len (.tmp 16))), (some ((.tmp 15), false))⟩,
  ⟨(.tmp 18), (.r (.bin .gtr (.tmp 17) (.cst (.int .i64 300)))), (some ((.tmp 15), false))⟩,
  ⟨(.tmp 19), (.r (.pick (.tmp 15) (.cst (.bool true)) (.tmp 18))), none⟩,
  ⟨(.tmp 20), (.r (.mov (.tmp 19))), none⟩,
  ⟨(.tmp 21), (.r (.load true 3 (.loc 3))), (some ((.tmp 20), false))⟩,
  ⟨(.tmp 22), (.call f_quorum_Check [(.tmp 21)]), (some ((.tmp 20), false))⟩,
  ⟨(.tmp 23), (.r (.bin .neq (.tmp 22) (.cst (.int .i64 0)))), (some ((.tmp 20), false))⟩,
  ⟨(.loc 24), (.r (.pick (.tmp 20) (.cst (.bool true)) (.tmp 23))), none⟩])
 (.cond (.loc 24) (.seq (.reg [⟨(.tmp 25), (.call f_glebelaw10_works []), none⟩,
  ⟨(.loc 6), (.r (.mov (.tmp 25))), none⟩])
 .ret)
 .skip))
 (.seq (.reg [⟨(.tmp 26), (.r (.load true 3 (.loc 3))), none⟩,
  ⟨(.tmp 27), (.call f_quorum_Voters [(.tmp 26)]), none⟩,
  ⟨(.loc 7), (.r (.mov (.tmp 27))), none⟩])
 (.seq (.seq (.reg [⟨(.tmp 28), (.r (.load true 3 (.loc 3))), none⟩,
  ⟨(.tmp 29), (.r (.mov (.loc 1))), none⟩,
  ⟨(.tmp 30), (.call f_quorum_Won [(.tmp 28), (.tmp 29)]), none⟩,
  ⟨(.tmp 31), (.r (.mov (.tmp 30))), none⟩,
  ⟨(.tmp 32), (.r (.load true 3 (.loc 3))), (some ((.tmp 31), true))⟩,
  ⟨(.tmp 33), (.r (.mov (.loc 2))), (some ((.tmp 31), true))⟩,
  ⟨(.tmp 34), (.call f_quorum_Won [(.tmp 32), (.tmp 33)]), (some ((.tmp 31), true))⟩,
  ⟨(.tmp 35), (.r (.pick (.tmp 31) (.tmp 34) (.cst (.bool false)))), none⟩,
  ⟨(.tmp 36), (.r (.mov (.tmp 35))), none⟩,
  ⟨(.tmp 37), (.r (.mov (.loc 1))), (some ((.tmp 36), true))⟩,
  ⟨(.tmp 38), (.r (.mov (.loc 2))), (some ((.tmp 36), true))⟩,
  ⟨(.tmp 39), (.r (.mov (.loc 7))), (some ((.tmp 36), true))⟩,
  ⟨(.tmp 40), (.call f_glebelaw10_meet [(.tmp 37), (.tmp 38), (.tmp 39)]), (some ((.tmp 36), true))⟩,
  ⟨(.tmp 41), (.r (.not (.tmp 40))), (some ((.tmp 36), true))⟩,
  ⟨(.loc 42), (.r (.pick (.tmp 36) (.tmp 41) (.cst (.bool false)))), none⟩])
 (.cond (.loc 42) (.seq (.reg [⟨(.loc 6), (.r (.mov (.cst (.bool false)))), none⟩])
 .ret)
 .skip))
 (.seq (.seq (.reg [⟨(.tmp 43), (.r (.off 0 (.loc 3))), none⟩,
  ⟨(.tmp 44), (.r (.load false 1 (.tmp 43))), none⟩,
  ⟨(.tmp 45), (.r (.build [.nils, .nils, .nils] [(0, 1, (.tmp 44))])), none⟩,
  ⟨(.tmp 46), (.r (.mov (.loc 1))), none⟩,
  ⟨(.tmp 47), (.call f_quorum_Won [(.tmp 45), (.tmp 46)]), none⟩,
  ⟨(.tmp 48), (.r (.mov (.tmp 47))), none⟩,
  ⟨(.tmp 49), (.r (.load true 3 (.loc 3))), (some ((.tmp 48), true))⟩,
  ⟨(.tmp 50), (.r (.mov (.loc 2))), (some ((.tmp 48), true))⟩,
  ⟨(.tmp 51), (.call f_quorum_Won [(.tmp 49), (.tmp 50)]), (some ((.tmp 48), true))⟩,
  ⟨(.tmp 52), (.r (.pick (.tmp 48) (.tmp 51) (.cst (.bool false)))), none⟩,
  ⟨(.tmp 53), (.r (.mov (.tmp 52))), none⟩,
  ⟨(.tmp 54), (.r (.mov (.loc 1))), (some ((.tmp 53), true))⟩,
  ⟨(.tmp 55), (.r (.mov (.loc 2))), (some ((.tmp 53), true))⟩,
  ⟨(.tmp 56), (.r (.off 0 (.loc 3))), (some ((.tmp 53), true))⟩,
  ⟨(.tmp 57), (.r (.load false 1 (.tmp 56))), (some ((.tmp 53), true))⟩,
  ⟨(.tmp 58), (.call f_glebelaw10_meet [(.tmp 54), (.tmp 55), (.tmp 57)]), (some ((.tmp 53), true))⟩,
  ⟨(.tmp 59), (.r (.not (.tmp 58))), (some ((.tmp 53), true))⟩,
  ⟨(.loc 60), (.r (.pick (.tmp 53) (.tmp 59) (.cst (.bool false)))), none⟩])
 (.cond (.loc 60) (.seq (.reg [⟨(.loc 6), (.r (.mov (.cst (.bool false)))), none⟩])
 .ret)
 .skip))
 (.seq (.seq (.reg [⟨(.tmp 61), (.r (.off 1 (.loc 3))), none⟩,
  ⟨(.tmp 62), (.r (.load false 1 (.tmp 61))), none⟩,
  ⟨(.tmp 63), (.r (.len (.tmp 62))), none⟩,
  ⟨(.tmp 64), (.r (.bin .gtr (.tmp 63) (.cst (.int .i64 0)))), none⟩,
  ⟨(.tmp 65), (.r (.mov (.tmp 64))), none⟩,
  ⟨(.tmp 66), (.r (.load true 3 (.loc 3))), (some ((.tmp 65), true))⟩,
  ⟨(.tmp 67), (.r (.mov (.loc 1))), (some ((.tmp 65), true))⟩,
  ⟨(.tmp 68), (.call f_quorum_Won [(.tmp 66), (.tmp 67)]), (some ((.tmp 65), true))⟩,
  ⟨(.tmp 69), (.r (.pick (.tmp 65) (.tmp 68) (.cst (.bool false)))), none⟩,
  ⟨(.tmp 70), (.r (.mov (.tmp 69))), none⟩,
  ⟨(.tmp 71), (.r (.off 1 (.loc 3))), (some ((.tmp 70), true))⟩,
  ⟨(.tmp 72), (.r (.load false 1 (.tmp 71))), (some ((.tmp 70), true))⟩,
  ⟨(.tmp 73), (.r (.build [.nils, .nils, .nils] [(0, 1, (.tmp 72))])), (some ((.tmp 70), true))⟩,
  ⟨(.tmp 74), (.r (.mov (.loc 2))), (some ((.tmp 70), true))⟩,
  ⟨(.tmp 75), (.call f_quorum_Won [(.tmp 73), (.tmp 74)]), (some ((.tmp 70), true))⟩,
  ⟨(.tmp 76), (.r (.pick (.tmp 70) (.tmp 75) (.cst (.bool false)))), none⟩,
  ⟨(.tmp 77), (.r (.mov (.tmp 76))), none⟩,
  ⟨(.tmp 78), (.r (.mov (.loc 1))), (some ((.tmp 77), true))⟩,
  ⟨(.tmp 79), (.r (.mov (.loc 2))), (some ((.tmp 77), true))⟩,
  ⟨(.tmp 80), (.r (.off 1 (.loc 3))), (some ((.tmp 77), true))⟩,
  ⟨(.tmp 81), (.r (.load false 1 (.tmp 80))), (some ((.tmp 77), true))⟩,
  ⟨(.tmp 82), (.call f_glebelaw10_meet [(.tmp 78), (.tmp 79), (.tmp 81)]), (some ((.tmp 77), true))⟩,
  ⟨(.tmp 83), (.r (.not (.tmp 82))), (some ((.tmp 77), true))⟩,
  ⟨(.loc 84), (.r (.pick (.tmp 77) (.tmp 83) (.cst (.bool false)))), none⟩])
 (.cond (.loc 84) (.seq (.reg [⟨(.loc 6), (.r (.mov (.cst (.bool false)))), none⟩])
 .ret)
 .skip))
 (.seq (.reg [⟨(.tmp 85), (.call f_glebelaw10_works []), none⟩,
  ⟨(.loc 6), (.r (.mov (.tmp 85))), none⟩])
 .ret))))))), [(.tmp (.loc 6))]⟩

/-- glebe/glebelaw10.QuorumMore -/
def c_glebelaw10_QuorumMore (f_glebelaw10_long : FuncId) (f_glebelaw10_works : FuncId) (f_glebekit_CopyInts : FuncId) (f_quorum_Won : FuncId) (f_quorum_Check : FuncId) (f_quorum_Voters : FuncId) : AFn := ⟨62, fun s => List.contains [0, 1, 2, 3, 6, 7, 19, 49] s, (.seq (.reg [⟨(.loc 3), (.h (.box (.loc 0))), none⟩,
  ⟨(.loc 6), (.r (.mov (.cst (.bool false)))), none⟩])
 (.seq (.seq (.reg [⟨(.tmp 8), (.r (.load true 3 (.loc 3))), none⟩,
  ⟨(.tmp 9), (.call f_glebelaw10_long [(.tmp 8)]), none⟩,
  ⟨(.tmp 10), (.r (.mov (.tmp 9))), none⟩,
  ⟨(.tmp 11), (.r (.mov (.loc 1))), (some ((.tmp 10), false))⟩,
  ⟨(.tmp 12), (.r (.len (.tmp 11))), (some ((.tmp 10), false))⟩,
  ⟨(.tmp 13), (.r (.bin .gtr (.tmp 12) (.cst (.int .i64 300)))), (some ((.tmp 10), false))⟩,
  ⟨(.tmp 14), (.r (.pick (.tmp 10) (.cst (.bool true)) (.tmp 13))), none⟩,
  ⟨(.tmp 15), (.r (.mov (.tmp 14))), none⟩,
  ⟨(.tmp 16), (.r (.mov (.loc 2))), (some ((.tmp 15), false))⟩,
  ⟨(.tmp 17), (.r (.len (.tmp 16))), (some ((.tmp 15), false))⟩,
  ⟨(.tmp 18), (.r (.bin .gtr (.tmp 17) (.cst (.int .i64 300)))), (some ((.tmp 15), false))⟩,
  ⟨(.loc 19), (.r (.pick (.tmp 15) (.cst (.bool true)) (.tmp 18))), none⟩])
 (.cond (.loc 19) (.seq (.reg [⟨(.tmp 20), (.call f_glebelaw10_works []), none⟩,
  ⟨(.loc 6), (.r (.mov (.tmp 20))), none⟩])
 .ret)
 .skip))
 (.seq (.reg [⟨(.tmp 21), (.r (.mov (.loc 2))), none⟩,
  ⟨(.tmp 22), (.call f_glebekit_CopyInts [(.tmp 21)]), none⟩,
  ⟨(.tmp 23), (.r (.mov (.loc 1))), none⟩,
  ⟨(.tmp 24), (.h (.app 1 8 (.tmp 22) (.tmp 23))), none⟩,
  ⟨(.loc 7), (.r (.mov (.tmp 24))), none⟩])
 (.seq (.seq (.dreg ⟨[0, 0, 3, 7, 15, 15, 63, 127, 255, 511, 1023, 2047, 4095, 8191, 16383, 16383, 65535, 16383, 16383, 393215, 16383, 1966079, 4194303, 8388607, 16777215], 0, [⟨0, 0, false, (.r (.load true 3 (.loc 3))), none⟩,
  ⟨1, 0, false, (.r (.mov (.loc 1))), none⟩,
  ⟨2, 0, true, (.call f_quorum_Won [(.tmp 0), (.tmp 1)]), none⟩,
  ⟨3, 0, false, (.r (.mov (.tmp 2))), none⟩,
  ⟨4, 0, false, (.r (.load true 3 (.loc 3))), (some ((.tmp 3), true))⟩,
  ⟨5, 0, false, (.r (.mov (.loc 7))), (some ((.tmp 3), true))⟩,
  ⟨6, 0, true, (.call f_quorum_Won [(.tmp 4), (.tmp 5)]), (some ((.tmp 3), true))⟩,
  ⟨7, 0, false, (.r (.not (.tmp 6))), (some ((.tmp 3), true))⟩,
  ⟨8, 0, false, (.r (.pick (.tmp 3) (.tmp 7) (.cst (.bool false)))), none⟩,
  ⟨9, 0, false, (.r (.mov (.tmp 8))), none⟩,
  ⟨10, 0, false, (.r (.load true 3 (.loc 3))), (some ((.tmp 9), false))⟩,
  ⟨11, 0, true, (.call f_quorum_Won [(.tmp 10), (.cst .nils)]), (some ((.tmp 9), false))⟩,
  ⟨12, 0, false, (.r (.pick (.tmp 9) (.cst (.bool true)) (.tmp 11))), none⟩,
  ⟨13, 0, false, (.r (.mov (.tmp 12))), none⟩,
  ⟨14, 0, false, (.r (.load true 3 (.loc 3))), (some ((.tmp 13), false))⟩,
  ⟨15, 0, false, (.r (.mov (.loc 7))), (some ((.tmp 13), false))⟩,
  ⟨17, 0, false, (.r (.load true 3 (.loc 3))), (some ((.tmp 13), false))⟩,
  ⟨18, 0, false, (.r (.mov (.loc 1))), (some ((.tmp 13), false))⟩,
  ⟨20, 0, false, (.r (.mov (.loc 2))), (some ((.tmp 13), false))⟩,
  ⟨16, 0, true, (.call f_quorum_Won [(.tmp 14), (.tmp 15)]), (some ((.tmp 13), false))⟩,
  ⟨19, 0, true, (.call f_glebekit_CopyInts [(.tmp 18)]), (some ((.tmp 13), false))⟩,
  ⟨21, 0, true, (.h (.app 1 8 (.tmp 19) (.tmp 20))), (some ((.tmp 13), false))⟩,
  ⟨22, 0, true, (.call f_quorum_Won [(.tmp 17), (.tmp 21)]), (some ((.tmp 13), false))⟩,
  ⟨23, 0, false, (.r (.beq .neq (.tmp 16) (.tmp 22))), (some ((.tmp 13), false))⟩,
  ⟨24, 0, false, (.r (.pick (.tmp 13) (.cst (.bool true)) (.tmp 23))), none⟩], [(49, 24)]⟩)
 (.cond (.loc 49) (.seq (.reg [⟨(.loc 6), (.r (.mov (.cst (.bool false)))), none⟩])
 .ret)
 .skip))
 (.seq (.dreg ⟨[0, 1, 3, 7, 15, 15, 47, 127, 255, 511, 1023, 2047, 4095], 0, [⟨0, 0, false, (.r (.load true 3 (.loc 3))), none⟩,
  ⟨1, 0, true, (.call f_quorum_Check [(.tmp 0)]), none⟩,
  ⟨2, 0, false, (.r (.bin .neq (.tmp 1) (.cst (.int .i64 0)))), none⟩,
  ⟨3, 0, false, (.r (.mov (.tmp 2))), none⟩,
  ⟨4, 0, false, (.r (.load true 3 (.loc 3))), (some ((.tmp 3), false))⟩,
  ⟨5, 0, false, (.r (.load true 3 (.loc 3))), (some ((.tmp 3), false))⟩,
  ⟨6, 0, true, (.call f_quorum_Voters [(.tmp 5)]), (some ((.tmp 3), false))⟩,
  ⟨7, 0, true, (.call f_quorum_Won [(.tmp 4), (.tmp 6)]), (some ((.tmp 3), false))⟩,
  ⟨8, 0, false, (.r (.pick (.tmp 3) (.cst (.bool true)) (.tmp 7))), none⟩,
  ⟨9, 0, false, (.r (.mov (.tmp 8))), none⟩,
  ⟨10, 0, true, (.call f_glebelaw10_works []), (some ((.tmp 9), true))⟩,
  ⟨11, 0, false, (.r (.pick (.tmp 9) (.tmp 10) (.cst (.bool false)))), none⟩,
  ⟨12, 0, false, (.r (.mov (.tmp 11))), none⟩], [(6, 12)]⟩)
 .ret))))), [(.tmp (.loc 6))]⟩

/-- glebe/glebelaw10.QuorumTells -/
def c_glebelaw10_QuorumTells (f_glebelaw10_long : FuncId) (f_glebelaw10_works : FuncId) (f_glebekit_CopyConf : FuncId) (f_glebekit_LentInts : FuncId) (f_quorum_Voters : FuncId) (f_quorum_Members : FuncId) (f_quorum_Check : FuncId) (f_gleberef10_Check : FuncId) (f_quorum_Won : FuncId) (f_gleberef10_Won : FuncId) (f_gleberef10_Voters : FuncId) (f_glebekit_SameInts : FuncId) (f_gleberef10_Members : FuncId) (f_glebekit_SpoilInts : FuncId) (f_glebekit_SameConf : FuncId) (f_glebekit_KeptInts : FuncId) : AFn := ⟨83, fun s => List.contains [0, 1, 2, 4, 5, 6, 7, 8, 15, 55, 62] s, (.seq (.reg [⟨(.loc 2), (.h (.box (.loc 0))), none⟩,
  ⟨(.loc 4), (.r (.mov (.cst (.bool false)))), none⟩])
 (.seq (.seq (.reg [⟨(.tmp 9), (.r (.load true 3 (.loc 2))), none⟩,
  ⟨(.tmp 10), (.call f_glebelaw10_long [(.tmp 9)]), none⟩,
  ⟨(.tmp 11), (.r (.mov (.tmp 10))), none⟩,
  ⟨(.tmp 12), (.r (.mov (.loc 1))), (some ((.tmp 11), false))⟩,
  ⟨(.tmp 13), (.r (.len (.tmp 12))), (some ((.tmp 11), false))⟩,
  ⟨(.tmp 14), (.r (.bin .gtr (.tmp 13) (.cst (.int .i64 300)))), (some ((.tmp 11), false))⟩,
  ⟨(.loc 15), (.r (.pick (.tmp 11) (.cst (.bool true)) (.tmp 14))), none⟩])
 (.cond (.loc 15) (.seq (.reg [⟨(.tmp 16), (.call f_glebelaw10_works []), none⟩,
  ⟨(.loc 4), (.r (.mov (.tmp 16))), none⟩])
 .ret)
 .skip))
 (.seq (.reg [⟨(.tmp 17), (.r (.load true 3 (.loc 2))), none⟩,
  ⟨(.tmp 18), (.call f_glebekit_CopyConf [(.tmp 17)]), none⟩,
  ⟨(.loc 5), (.h (.mk [.nils, .nils, .nils])), none⟩,
  ⟨.none, (.h (.store 3 (.loc 5) (.tmp 18))), none⟩])
 (.seq (.reg [⟨(.tmp 19), (.r (.mov (.loc 1))), none⟩,
  ⟨(.tmp 20), (.call f_glebekit_LentInts [(.tmp 19)]), none⟩,
  ⟨(.loc 6), (.r (.mov (.tmp 20))), none⟩])
 (.seq (.reg [⟨(.tmp 21), (.r (.load true 3 (.loc 5))), none⟩,
  ⟨(.tmp 22), (.call f_quorum_Voters [(.tmp 21)]), none⟩,
  ⟨(.loc 7), (.r (.mov (.tmp 22))), none⟩])
 (.seq (.reg [⟨(.tmp 23), (.r (.load true 3 (.loc 5))), none⟩,
  ⟨(.tmp 24), (.call f_quorum_Members [(.tmp 23)]), none⟩,
  ⟨(.loc 8), (.r (.mov (.tmp 24))), none⟩])
 (.seq (.seq (.dreg ⟨[0, 1, 0, 7, 15, 31, 63, 63, 63, 319, 959, 2047, 63, 63, 16383, 32767, 65535, 131071, 262143, 262143, 786431, 2097151, 4194303, 8388607, 16777215, 33554431, 33554431, 100663295, 268435455, 536870911, 1073741823], 0, [⟨0, 0, false, (.r (.load true 3 (.loc 5))), none⟩,
  ⟨2, 0, false, (.r (.load true 3 (.loc 2))), none⟩,
  ⟨1, 0, true, (.call f_quorum_Check [(.tmp 0)]), none⟩,
  ⟨3, 0, true, (.call f_gleberef10_Check [(.tmp 2)]), none⟩,
  ⟨4, 0, false, (.r (.bin .neq (.tmp 1) (.tmp 3))), none⟩,
  ⟨5, 0, false, (.r (.mov (.tmp 4))), none⟩,
  ⟨6, 0, false, (.r (.load true 3 (.loc 5))), (some ((.tmp 5), false))⟩,
  ⟨7, 0, false, (.r (.mov (.loc 6))), (some ((.tmp 5), false))⟩,
  ⟨8, 0, false, (.r (.mov (.loc 1))), (some ((.tmp 5), false))⟩,
  ⟨9, 0, false, (.r (.len (.tmp 8))), (some ((.tmp 5), false))⟩,
  ⟨10, 0, false, (.r (.slc 1 (.tmp 7) none (some (.tmp 9)) none)), (some ((.tmp 5), false))⟩,
  ⟨12, 0, false, (.r (.load true 3 (.loc 2))), (some ((.tmp 5), false))⟩,
  ⟨13, 0, false, (.r (.mov (.loc 1))), (some ((.tmp 5), false))⟩,
  ⟨11, 0, true, (.call f_quorum_Won [(.tmp 6), (.tmp 10)]), (some ((.tmp 5), false))⟩,
  ⟨14, 0, true, (.call f_gleberef10_Won [(.tmp 12), (.tmp 13)]), (some ((.tmp 5), false))⟩,
  ⟨15, 0, false, (.r (.beq .neq (.tmp 11) (.tmp 14))), (some ((.tmp 5), false))⟩,
  ⟨16, 0, false, (.r (.pick (.tmp 5) (.cst (.bool true)) (.tmp 15))), none⟩,
  ⟨17, 0, false, (.r (.mov (.tmp 16))), none⟩,
  ⟨18, 0, false, (.r (.mov (.loc 7))), (some ((.tmp 17), false))⟩,
  ⟨19, 0, false, (.r (.load true 3 (.loc 2))), (some ((.tmp 17), false))⟩,
  ⟨20, 0, true, (.call f_gleberef10_Voters [(.tmp 19)]), (some ((.tmp 17), false))⟩,
  ⟨21, 0, true, (.call f_glebekit_SameInts [(.tmp 18), (.tmp 20)]), (some ((.tmp 17), false))⟩,
  ⟨22, 0, false, (.r (.not (.tmp 21))), (some ((.tmp 17), false))⟩,
  ⟨23, 0, false, (.r (.pick (.tmp 17) (.cst (.bool true)) (.tmp 22))), none⟩,
  ⟨24, 0, false, (.r (.mov (.tmp 23))), none⟩,
  ⟨25, 0, false, (.r (.mov (.loc 8))), (some ((.tmp 24), false))⟩,
  ⟨26, 0, false, (.r (.load true 3 (.loc 2))), (some ((.tmp 24), false))⟩,
  ⟨27, 0, true, (.call f_gleberef10_Members [(.tmp 26)]), (some ((.tmp 24), false))⟩,
  ⟨28, 0, true, (.call f_glebekit_SameInts [(.tmp 25), (.tmp 27)]), (some ((.tmp 24), false))⟩,
  ⟨29, 0, false, (.r (.not (.tmp 28))), (some ((.tmp 24), false))⟩,
  ⟨30, 0, false, (.r (.pick (.tmp 24) (.cst (.bool true)) (.tmp 29))), none⟩], [(55, 30)]⟩)
 (.cond (.loc 55) (.seq (.reg [⟨(.loc 4), (.r (.mov (.cst (.bool false)))), none⟩])
 .ret)
 .skip))
 (.seq (.reg [⟨(.tmp 56), (.r (.mov (.loc 7))), none⟩,
  ⟨(.tmp 57), (.call f_glebekit_SpoilInts [(.tmp 56)]), none⟩])
 (.seq (.seq (.reg [⟨(.tmp 58), (.r (.mov (.loc 8))), none⟩,
  ⟨(.tmp 59), (.r (.load true 3 (.loc 2))), none⟩,
  ⟨(.tmp 60), (.call f_gleberef10_Members [(.tmp 59)]), none⟩,
  ⟨(.tmp 61), (.call f_glebekit_SameInts [(.tmp 58), (.tmp 60)]), none⟩,
  ⟨(.loc 62), (.r (.not (.tmp 61))), none⟩])
 (.cond (.loc 62) (.seq (.reg [⟨(.loc 4), (.r (.mov (.cst (.bool false)))), none⟩])
 .ret)
 .skip))
 (.seq (.reg [⟨(.tmp 63), (.r (.mov (.loc 8))), none⟩,
  ⟨(.tmp 64), (.call f_glebekit_SpoilInts [(.tmp 63)]), none⟩])
 (.seq (.dreg ⟨[0, 0, 3, 7, 15, 15, 63, 127, 255, 511, 1023, 511, 4095, 8191, 16383, 32767, 65535, 131071, 262143], 0, [⟨0, 0, false, (.r (.load true 3 (.loc 5))), none⟩,
  ⟨1, 0, false, (.r (.load true 3 (.loc 2))), none⟩,
  ⟨2, 0, true, (.call f_glebekit_SameConf [(.tmp 0), (.tmp 1)]), none⟩,
  ⟨3, 0, false, (.r (.mov (.tmp 2))), none⟩,
  ⟨4, 0, false, (.r (.mov (.loc 6))), (some ((.tmp 3), true))⟩,
  ⟨5, 0, false, (.r (.mov (.loc 1))), (some ((.tmp 3), true))⟩,
  ⟨6, 0, true, (.call f_glebekit_KeptInts [(.tmp 4), (.tmp 5)]), (some ((.tmp 3), true))⟩,
  ⟨7, 0, false, (.r (.pick (.tmp 3) (.tmp 6) (.cst (.bool false)))), none⟩,
  ⟨8, 0, false, (.r (.mov (.tmp 7))), none⟩,
  ⟨9, 0, false, (.r (.load true 3 (.loc 5))), (some ((.tmp 8), true))⟩,
  ⟨11, 0, false, (.r (.load true 3 (.loc 2))), (some ((.tmp 8), true))⟩,
  ⟨10, 0, true, (.call f_quorum_Voters [(.tmp 9)]), (some ((.tmp 8), true))⟩,
  ⟨12, 0, true, (.call f_gleberef10_Voters [(.tmp 11)]), (some ((.tmp 8), true))⟩,
  ⟨13, 0, true, (.call f_glebekit_SameInts [(.tmp 10), (.tmp 12)]), (some ((.tmp 8), true))⟩,
  ⟨14, 0, false, (.r (.pick (.tmp 8) (.tmp 13) (.cst (.bool false)))), none⟩,
  ⟨15, 0, false, (.r (.mov (.tmp 14))), none⟩,
  ⟨16, 0, true, (.call f_glebelaw10_works []), (some ((.tmp 15), true))⟩,
  ⟨17, 0, false, (.r (.pick (.tmp 15) (.tmp 16) (.cst (.bool false)))), none⟩,
  ⟨18, 0, false, (.r (.mov (.tmp 17))), none⟩], [(4, 18)]⟩)
 .ret))))))))))), [(.tmp (.loc 4))]⟩

def c_glebelaw10_QuorumKnown_l0 (f_glebelaw10_QuorumTells : FuncId) (f_glebelaw10_QuorumMore : FuncId) (f_glebelaw10_QuorumMeets : FuncId) (f_glebelaw10_QuorumAgrees : FuncId) (f_glebelaw10_QuorumReached : FuncId) (f_glebelaw10_works : FuncId) : AC := (.seq (.seq (.reg [⟨(.tmp 50), (.r (.mov (.loc 5))), none⟩,
  ⟨(.loc 51), (.r (.bin .lss (.tmp 50) (.cst (.int .i64 7)))), none⟩])
 (.cond (.loc 51) .skip
 (.exit 4)))
 (.seq (.block 5 (.seq (.reg [⟨(.tmp 54), (.r (.mov (.loc 3))), none⟩,
  ⟨(.tmp 55), (.r (.mov (.loc 5))), none⟩,
  ⟨(.tmp 56), (.r (.conv .u64 (.tmp 55))), none⟩,
  ⟨(.tmp 57), (.r (.bin .shr (.tmp 54) (.tmp 56))), none⟩,
  ⟨(.tmp 58), (.r (.bin .and (.tmp 57) (.cst (.int .i64 1)))), none⟩,
  ⟨(.loc 59), (.r (.bin .eql (.tmp 58) (.cst (.int .i64 1)))), none⟩])
 (.cond (.loc 59) (.reg [⟨(.tmp 60), (.r (.mov (.loc 4))), none⟩,
  ⟨(.tmp 61), (.r (.mov (.loc 5))), none⟩,
  ⟨(.tmp 62), (.r (.bin .add (.tmp 61) (.cst (.int .i64 1)))), none⟩,
  ⟨(.tmp 63), (.h (.bsl 1 [(.tmp 62)])), none⟩,
  ⟨(.tmp 64), (.h (.app 1 8 (.tmp 60) (.tmp 63))), none⟩,
  ⟨(.loc 4), (.r (.mov (.tmp 64))), none⟩])
 .skip)))
 (.reg [⟨(.tmp 52), (.r (.mov (.loc 5))), none⟩,
  ⟨(.tmp 53), (.r (.bin .add (.tmp 52) (.cst (.int .i64 1)))), none⟩,
  ⟨(.loc 5), (.r (.mov (.tmp 53))), none⟩])))
def c_glebelaw10_QuorumKnown_l1 (f_glebelaw10_QuorumTells : FuncId) (f_glebelaw10_QuorumMore : FuncId) (f_glebelaw10_QuorumMeets : FuncId) (f_glebelaw10_QuorumAgrees : FuncId) (f_glebelaw10_QuorumReached : FuncId) (f_glebelaw10_works : FuncId) : AC := (.seq (.seq (.reg [⟨(.tmp 46), (.r (.mov (.loc 3))), none⟩,
  ⟨(.loc 47), (.r (.bin .lss (.tmp 46) (.cst (.int .i64 128)))), none⟩])
 (.cond (.loc 47) .skip
 (.exit 2)))
 (.seq (.block 3 (.seq (.reg [⟨(.loc 4), (.r (.mov (.cst .nils))), none⟩])
 (.seq (.seq (.reg [⟨(.loc 5), (.r (.mov (.cst (.int .i64 0)))), none⟩])
 (.block 4 (.loop (c_glebelaw10_QuorumKnown_l0 f_glebelaw10_QuorumTells f_glebelaw10_QuorumMore f_glebelaw10_QuorumMeets f_glebelaw10_QuorumAgrees f_glebelaw10_QuorumReached f_glebelaw10_works))))
 (.seq (.reg [⟨(.tmp 65), (.r (.mov (.loc 1))), none⟩,
  ⟨(.tmp 66), (.r (.mov (.loc 2))), none⟩,
  ⟨(.tmp 67), (.r (.idx 3 (.tmp 65) (.tmp 66))), none⟩,
  ⟨(.tmp 68), (.r (.load true 3 (.tmp 67))), none⟩,
  ⟨(.tmp 69), (.r (.mov (.loc 4))), none⟩,
  ⟨(.tmp 70), (.call f_glebelaw10_QuorumTells [(.tmp 68), (.tmp 69)]), none⟩,
  ⟨(.tmp 71), (.r (.not (.tmp 70))), none⟩,
  ⟨(.tmp 72), (.r (.mov (.tmp 71))), none⟩,
  ⟨(.tmp 73), (.r (.mov (.loc 1))), (some ((.tmp 72), false))⟩,
  ⟨(.tmp 74), (.r (.mov (.loc 2))), (some ((.tmp 72), false))⟩,
  ⟨(.tmp 75), (.r (.idx 3 (.tmp 73) (.tmp 74))), (some ((.tmp 72), false))⟩,
  ⟨(.tmp 76), (.r (.load true 3 (.tmp 75))), (some ((.tmp 72), false))⟩,
  ⟨(.tmp 77), (.r (.mov (.loc 4))), (some ((.tmp 72), false))⟩,
  ⟨(.tmp 78), (.h (.bsl 1 [(.cst (.int .i64 3))])), (some ((.tmp 72), false))⟩,
  ⟨(.tmp 79), (.call f_glebelaw10_QuorumMore [(.tmp 76), (.tmp 77), (.tmp 78)]), (some ((.tmp 72), false))⟩,
  ⟨(.tmp 80), (.r (.not (.tmp 79))), (some ((.tmp 72), false))⟩,
  ⟨(.tmp 81), (.r (.pick (.tmp 72) (.cst (.bool true)) (.tmp 80))), none⟩,
  ⟨(.tmp 82), (.r (.mov (.tmp 81))), none⟩,
  ⟨(.tmp 83), (.r (.mov (.loc 1))), (some ((.tmp 82), false))⟩,
  ⟨(.tmp 84), (.r (.mov (.loc 2))), (some ((.tmp 82), false))⟩,
  ⟨(.tmp 85), (.r (.idx 3 (.tmp 83) (.tmp 84))), (some ((.tmp 82), false))⟩,
  ⟨(.tmp 86), (.r (.load true 3 (.tmp 85))), (some ((.tmp 82), false))⟩,
  ⟨(.tmp 87), (.r (.mov (.loc 4))), (some ((.tmp 82), false))⟩,
  ⟨(.tmp 88), (.h (.bsl 1 [(.cst (.int .i64 1)), (.cst (.int .i64 3)), (.cst (.int .i64 4)), (.cst (.int .i64 5))])), (some ((.tmp 82), false))⟩,
  ⟨(.tmp 89), (.call f_glebelaw10_QuorumMeets [(.tmp 86), (.tmp 87), (.tmp 88)]), (some ((.tmp 82), false))⟩,
  ⟨(.tmp 90), (.r (.not (.tmp 89))), (some ((.tmp 82), false))⟩,
  ⟨(.loc 91), (.r (.pick (.tmp 82) (.cst (.bool true)) (.tmp 90))), none⟩])
 (.cond (.loc 91) (.seq (.reg [⟨(.loc 0), (.r (.mov (.cst (.bool false)))), none⟩])
 .ret)
 .skip)))))
 (.reg [⟨(.tmp 48), (.r (.mov (.loc 3))), none⟩,
  ⟨(.tmp 49), (.r (.bin .add (.tmp 48) (.cst (.int .i64 1)))), none⟩,
  ⟨(.loc 3), (.r (.mov (.tmp 49))), none⟩])))
def c_glebelaw10_QuorumKnown_l2 (f_glebelaw10_QuorumTells : FuncId) (f_glebelaw10_QuorumMore : FuncId) (f_glebelaw10_QuorumMeets : FuncId) (f_glebelaw10_QuorumAgrees : FuncId) (f_glebelaw10_QuorumReached : FuncId) (f_glebelaw10_works : FuncId) : AC := (.seq (.seq (.reg [⟨(.tmp 93), (.r (.mov (.loc 7))), none⟩,
  ⟨(.loc 94), (.r (.bin .leq (.tmp 93) (.cst (.int .i64 7)))), none⟩])
 (.cond (.loc 94) .skip
 (.exit 6)))
 (.seq (.block 7 (.seq (.dreg ⟨[0, 0, 3, 7, 0, 0, 0, 96, 255, 511, 1023, 2047, 2047, 8191, 16383, 2047, 2047, 2047, 262143, 524287, 1048575, 2097151, 4194303, 4194303, 16777215, 33554431, 4194303, 4194303, 4194303, 406847487, 1073741823, 2147483647, 4294967295], 3, [⟨0, 0, false, (.r (.mov (.loc 1))), none⟩,
  ⟨1, 0, false, (.r (.mov (.loc 2))), none⟩,
  ⟨2, 0, false, (.r (.idx 3 (.tmp 0) (.tmp 1))), none⟩,
  ⟨3, 0, false, (.r (.load true 3 (.tmp 2))), none⟩,
  ⟨4, 0, false, (.h (.bsl 1 [(.cst (.int .i64 1)), (.cst (.int .i64 2)), (.cst (.int .i64 3)), (.cst (.int .i64 4)), (.cst (.int .i64 5)), (.cst (.int .i64 6)), (.cst (.int .i64 7))])), none⟩,
  ⟨5, 1, false, (.r (.mov (.loc 6))), none⟩,
  ⟨6, 1, false, (.r (.mov (.loc 7))), none⟩,
  ⟨7, 1, false, (.r (.slc 1 (.tmp 5) none (some (.tmp 6)) none)), none⟩,
  ⟨8, 1, true, (.call f_glebelaw10_QuorumAgrees [(.tmp 3), (.tmp 4), (.tmp 7)]), none⟩,
  ⟨9, 1, false, (.r (.not (.tmp 8))), none⟩,
  ⟨10, 1, false, (.r (.mov (.tmp 9))), none⟩,
  ⟨11, 1, false, (.r (.mov (.loc 1))), (some ((.tmp 10), false))⟩,
  ⟨12, 1, false, (.r (.mov (.loc 2))), (some ((.tmp 10), false))⟩,
  ⟨13, 1, false, (.r (.idx 3 (.tmp 11) (.tmp 12))), (some ((.tmp 10), false))⟩,
  ⟨14, 1, false, (.r (.load true 3 (.tmp 13))), (some ((.tmp 10), false))⟩,
  ⟨15, 1, false, (.h (.bsl 1 [(.cst (.int .i64 1)), (.cst (.int .i64 2)), (.cst (.int .i64 3)), (.cst (.int .i64 4)), (.cst (.int .i64 5)), (.cst (.int .i64 6)), (.cst (.int .i64 7))])), (some ((.tmp 10), false))⟩,
  ⟨16, 2, false, (.r (.mov (.loc 6))), (some ((.tmp 10), false))⟩,
  ⟨17, 2, false, (.r (.mov (.loc 7))), (some ((.tmp 10), false))⟩,
  ⟨18, 2, true, (.call f_glebelaw10_QuorumReached [(.tmp 14), (.tmp 15), (.tmp 16), (.tmp 17), (.cst (.int .i64 8))]), (some ((.tmp 10), false))⟩,
  ⟨19, 2, false, (.r (.not (.tmp 18))), (some ((.tmp 10), false))⟩,
  ⟨20, 2, false, (.r (.pick (.tmp 10) (.cst (.bool true)) (.tmp 19))), none⟩,
  ⟨21, 2, false, (.r (.mov (.tmp 20))), none⟩,
  ⟨22, 2, false, (.r (.mov (.loc 1))), (some ((.tmp 21), false))⟩,
  ⟨23, 2, false, (.r (.mov (.loc 2))), (some ((.tmp 21), false))⟩,
  ⟨24, 2, false, (.r (.idx 3 (.tmp 22) (.tmp 23))), (some ((.tmp 21), false))⟩,
  ⟨25, 2, false, (.r (.load true 3 (.tmp 24))), (some ((.tmp 21), false))⟩,
  ⟨26, 2, false, (.h (.bsl 1 [(.cst (.int .i64 3)), (.cst (.int .i64 3)), (.cst (.int .i64 1))])), (some ((.tmp 21), false))⟩,
  ⟨27, 3, false, (.r (.mov (.loc 6))), (some ((.tmp 21), false))⟩,
  ⟨28, 3, false, (.r (.mov (.loc 7))), (some ((.tmp 21), false))⟩,
  ⟨29, 3, false, (.r (.slc 1 (.tmp 27) (some (.tmp 28)) none none)), (some ((.tmp 21), false))⟩,
  ⟨30, 3, true, (.call f_glebelaw10_QuorumAgrees [(.tmp 25), (.tmp 26), (.tmp 29)]), (some ((.tmp 21), false))⟩,
  ⟨31, 3, false, (.r (.not (.tmp 30))), (some ((.tmp 21), false))⟩,
  ⟨32, 3, false, (.r (.pick (.tmp 21) (.cst (.bool true)) (.tmp 31))), none⟩], [(129, 32)]⟩)
 (.cond (.loc 129) (.seq (.reg [⟨(.loc 0), (.r (.mov (.cst (.bool false)))), none⟩])
 .ret)
 .skip)))
 (.reg [⟨(.tmp 95), (.r (.mov (.loc 7))), none⟩,
  ⟨(.tmp 96), (.r (.bin .add (.tmp 95) (.cst (.int .i64 1)))), none⟩,
  ⟨(.loc 7), (.r (.mov (.tmp 96))), none⟩])))
def c_glebelaw10_QuorumKnown_l3 (f_glebelaw10_QuorumTells : FuncId) (f_glebelaw10_QuorumMore : FuncId) (f_glebelaw10_QuorumMeets : FuncId) (f_glebelaw10_QuorumAgrees : FuncId) (f_glebelaw10_QuorumReached : FuncId) (f_glebelaw10_works : FuncId) : AC := (.seq (.seq (.reg [⟨(.tmp 40), (.r (.mov (.loc 2))), none⟩,
  ⟨(.tmp 41), (.r (.mov (.loc 1))), none⟩,
  ⟨(.tmp 42), (.r (.len (.tmp 41))), none⟩,
  ⟨(.loc 43), (.r (.bin .lss (.tmp 40) (.tmp 42))), none⟩])
 (.cond (.loc 43) .skip
 (.exit 0)))
 (.seq (.block 1 (.seq (.seq (.reg [⟨(.loc 3), (.r (.mov (.cst (.int .i64 0)))), none⟩])
 (.block 2 (.loop (c_glebelaw10_QuorumKnown_l1 f_glebelaw10_QuorumTells f_glebelaw10_QuorumMore f_glebelaw10_QuorumMeets f_glebelaw10_QuorumAgrees f_glebelaw10_QuorumReached f_glebelaw10_works))))
 (.seq (.reg [⟨(.tmp 92), (.h (.bsl 1 [(.cst (.int .i64 7)), (.cst (.int .i64 5)), (.cst (.int .i64 9)), (.cst (.int .i64 0)), (.cst (.int .i64 (-1))), (.cst (.int .i64 7)), (.cst (.int .i64 9223372036854775807))])), none⟩,
  ⟨(.loc 6), (.r (.mov (.tmp 92))), none⟩])
 (.seq (.reg [⟨(.loc 7), (.r (.mov (.cst (.int .i64 0)))), none⟩])
 (.block 6 (.loop (c_glebelaw10_QuorumKnown_l2 f_glebelaw10_QuorumTells f_glebelaw10_QuorumMore f_glebelaw10_QuorumMeets f_glebelaw10_QuorumAgrees f_glebelaw10_QuorumReached f_glebelaw10_works)))))))
 (.reg [⟨(.tmp 44), (.r (.mov (.loc 2))), none⟩,
  ⟨(.tmp 45), (.r (.bin .add (.tmp 44) (.cst (.int .i64 1)))), none⟩,
  ⟨(.loc 2), (.r (.mov (.tmp 45))), none⟩])))
/-- glebe/glebelaw10.QuorumKnown -/
def c_glebelaw10_QuorumKnown (f_glebelaw10_QuorumTells : FuncId) (f_glebelaw10_QuorumMore : FuncId) (f_glebelaw10_QuorumMeets : FuncId) (f_glebelaw10_QuorumAgrees : FuncId) (f_glebelaw10_QuorumReached : FuncId) (f_glebelaw10_works : FuncId) : AFn := ⟨131, fun s => List.contains [0, 1, 2, 3, 4, 5, 6, 7, 43, 47, 51, 59, 91, 94, 129] s, (.seq (.reg [⟨(.loc 0), (.r (.mov (.cst (.bool false)))), none⟩])
 (.seq (.reg [⟨(.tmp 8), (.r (.build [.nils, .nils, .nils] [])), none⟩,
  ⟨(.tmp 9), (.h (.bsl 1 [(.cst (.int .i64 1)), (.cst (.int .i64 2)), (.cst (.int .i64 3))])), none⟩,
  ⟨(.tmp 10), (.r (.build [.nils, .nils, .nils] [(0, 1, (.tmp 9))])), none⟩,
  ⟨(.tmp 11), (.h (.bsl 1 [(.cst (.int .i64 1)), (.cst (.int .i64 2)), (.cst (.int .i64 3))])), none⟩,
  ⟨(.tmp 12), (.h (.bsl 1 [(.cst (.int .i64 3)), (.cst (.int .i64 4))])), none⟩,
  ⟨(.tmp 13), (.r (.build [.nils, .nils, .nils] [(0, 1, (.tmp 11)), (1, 1, (.tmp 12))])), none⟩,
  ⟨(.tmp 14), (.h (.bsl 1 [(.cst (.int .i64 1)), (.cst (.int .i64 2)), (.cst (.int .i64 3)), (.cst (.int .i64 4))])), none⟩,
  ⟨(.tmp 15), (.r (.build [.nils, .nils, .nils] [(0, 1, (.tmp 14))])), none⟩,
  ⟨(.tmp 16), (.h (.bsl 1 [(.cst (.int .i64 2)), (.cst (.int .i64 1))])), none⟩,
  ⟨(.tmp 17), (.r (.build [.nils, .nils, .nils] [(0, 1, (.tmp 16))])), none⟩,
  ⟨(.tmp 18), (.h (.bsl 1 [(.cst (.int .i64 8))])), none⟩,
  ⟨(.tmp 19), (.r (.build [.nils, .nils, .nils] [(0, 1, (.tmp 18))])), none⟩,
  ⟨(.tmp 20), (.h (.bsl 1 [(.cst (.int .i64 0))])), none⟩,
  ⟨(.tmp 21), (.r (.build [.nils, .nils, .nils] [(0, 1, (.tmp 20))])), none⟩,
  ⟨(.tmp 22), (.h (.bsl 1 [(.cst (.int .i64 1))])), none⟩,
  ⟨(.tmp 23), (.h (.bsl 1 [(.cst (.int .i64 1))])), none⟩,
  ⟨(.tmp 24), (.r (.build [.nils, .nils, .nils] [(0, 1, (.tmp 22)), (2, 1, (.tmp 23))])), none⟩,
  ⟨(.tmp 25), (.h (.bsl 1 [(.cst (.int .i64 1))])), none⟩,
  ⟨(.tmp 26), (.h (.bsl 1 [(.cst (.int .i64 2))])), none⟩,
  ⟨(.tmp 27), (.h (.bsl 1 [(.cst (.int .i64 2))])), none⟩,
  ⟨(.tmp 28), (.r (.build [.nils, .nils, .nils] [(0, 1, (.tmp 25)), (1, 1, (.tmp 26)), (2, 1, (.tmp 27))])), none⟩,
  ⟨(.tmp 29), (.h (.bsl 1 [(.cst (.int .i64 7))])), none⟩,
  ⟨(.tmp 30), (.h (.bsl 1 [(.cst (.int .i64 1)), (.cst (.int .i64 1))])), none⟩,
  ⟨(.tmp 31), (.r (.build [.nils, .nils, .nils] [(0, 1, (.tmp 29)), (1, 1, (.tmp 30))])), none⟩,
  ⟨(.tmp 32), (.h (.bsl 1 [(.cst (.int .i64 1))])), none⟩,
  ⟨(.tmp 33), (.r (.build [.nils, .nils, .nils] [(1, 1, (.tmp 32))])), none⟩,
  ⟨(.tmp 34), (.h (.bsl 1 [(.cst (.int .i64 1)), (.cst (.int .i64 2)), (.cst (.int .i64 3)), (.cst (.int .i64 4)), (.cst (.int .i64 5)), (.cst (.int .i64 6)), (.cst (.int .i64 7))])), none⟩,
  ⟨(.tmp 35), (.h (.bsl 1 [])), none⟩,
  ⟨(.tmp 36), (.r (.build [.nils, .nils, .nils] [(0, 1, (.tmp 34)), (2, 1, (.tmp 35))])), none⟩,
  ⟨(.tmp 37), (.h (.bsl 1 [(.cst (.int .i64 3)), (.cst (.int .i64 3)), (.cst (.int .i64 3)), (.cst (.int .i64 1))])), none⟩,
  ⟨(.tmp 38), (.r (.build [.nils, .nils, .nils] [(0, 1, (.tmp 37))])), none⟩,
  ⟨(.tmp 39), (.h (.bsl 3 [(.tmp 8), (.tmp 10), (.tmp 13), (.tmp 15), (.tmp 17), (.tmp 19), (.tmp 21), (.tmp 24), (.tmp 28), (.tmp 31), (.tmp 33), (.tmp 36), (.tmp 38)])), none⟩,
  ⟨(.loc 1), (.r (.mov (.tmp 39))), none⟩])
 (.seq (.seq (.reg [⟨(.loc 2), (.r (.mov (.cst (.int .i64 0)))), none⟩])
 (.block 0 (.loop (c_glebelaw10_QuorumKnown_l3 f_glebelaw10_QuorumTells f_glebelaw10_QuorumMore f_glebelaw10_QuorumMeets f_glebelaw10_QuorumAgrees f_glebelaw10_QuorumReached f_glebelaw10_works))))
 (.seq (.reg [⟨(.tmp 130), (.call f_glebelaw10_works []), none⟩,
  ⟨(.loc 0), (.r (.mov (.tmp 130))), none⟩])
 .ret)))), [(.tmp (.loc 0))]⟩

/-- glebe/glebelaw10.long -/
def c_glebelaw10_long : AFn := ⟨19, fun s => List.contains [0, 1, 2] s, (.seq (.reg [⟨(.loc 1), (.h (.box (.loc 0))), none⟩,
  ⟨(.loc 2), (.r (.mov (.cst (.bool false)))), none⟩])
 (.seq (.reg [⟨(.tmp 3), (.r (.off 0 (.loc 1))), none⟩,
  ⟨(.tmp 4), (.r (.load false 1 (.tmp 3))), none⟩,
  ⟨(.tmp 5), (.r (.len (.tmp 4))), none⟩,
  ⟨(.tmp 6), (.r (.bin .gtr (.tmp 5) (.cst (.int .i64 300)))), none⟩,
  ⟨(.tmp 7), (.r (.mov (.tmp 6))), none⟩,
  ⟨(.tmp 8), (.r (.off 1 (.loc 1))), (some ((.tmp 7), false))⟩,
  ⟨(.tmp 9), (.r (.load false 1 (.tmp 8))), (some ((.tmp 7), false))⟩,
  ⟨(.tmp 10), (.r (.len (.tmp 9))), (some ((.tmp 7), false))⟩,
  ⟨(.tmp 11), (.r (.bin .gtr (.tmp 10) (.cst (.int .i64 300)))), (some ((.tmp 7), false))⟩,
  ⟨(.tmp 12), (.r (.pick (.tmp 7) (.cst (.bool true)) (.tmp 11))), none⟩,
  ⟨(.tmp 13), (.r (.mov (.tmp 12))), none⟩,
  ⟨(.tmp 14), (.r (.off 2 (.loc 1))), (some ((.tmp 13), false))⟩,
  ⟨(.tmp 15), (.r (.load false 1 (.tmp 14))), (some ((.tmp 13), false))⟩,
  ⟨(.tmp 16), (.r (.len (.tmp 15))), (some ((.tmp 13), false))⟩,
  ⟨(.tmp 17), (.r (.bin .gtr (.tmp 16) (.cst (.int .i64 300)))), (some ((.tmp 13), false))⟩,
  ⟨(.tmp 18), (.r (.pick (.tmp 13) (.cst (.bool true)) (.tmp 17))), none⟩,
  ⟨(.loc 2), (.r (.mov (.tmp 18))), none⟩])
 .ret)), [(.tmp (.loc 2))]⟩

/-- glebe/glebelaw10.works -/
def c_glebelaw10_works (f_quorum_Check : FuncId) (f_quorum_Won : FuncId) (f_quorum_Agreed : FuncId) : AFn := ⟨25, fun s => List.contains [0, 1] s, (.seq (.reg [⟨(.loc 0), (.r (.mov (.cst (.bool false)))), none⟩])
 (.seq (.reg [⟨(.tmp 2), (.h (.bsl 1 [(.cst (.int .i64 1)), (.cst (.int .i64 2)), (.cst (.int .i64 3))])), none⟩,
  ⟨(.tmp 3), (.r (.build [.nils, .nils, .nils] [(0, 1, (.tmp 2))])), none⟩,
  ⟨(.loc 1), (.h (.mk [.nils, .nils, .nils])), none⟩,
  ⟨.none, (.h (.store 3 (.loc 1) (.tmp 3))), none⟩])
 (.seq (.reg [⟨(.tmp 4), (.r (.load true 3 (.loc 1))), none⟩,
  ⟨(.tmp 5), (.call f_quorum_Check [(.tmp 4)]), none⟩,
  ⟨(.tmp 6), (.r (.bin .eql (.tmp 5) (.cst (.int .i64 0)))), none⟩,
  ⟨(.tmp 7), (.r (.mov (.tmp 6))), none⟩,
  ⟨(.tmp 8), (.r (.load true 3 (.loc 1))), (some ((.tmp 7), true))⟩,
  ⟨(.tmp 9), (.h (.bsl 1 [(.cst (.int .i64 1)), (.cst (.int .i64 3))])), (some ((.tmp 7), true))⟩,
  ⟨(.tmp 10), (.call f_quorum_Won [(.tmp 8), (.tmp 9)]), (some ((.tmp 7), true))⟩,
  ⟨(.tmp 11), (.r (.pick (.tmp 7) (.tmp 10) (.cst (.bool false)))), none⟩,
  ⟨(.tmp 12), (.r (.mov (.tmp 11))), none⟩,
  ⟨(.tmp 13), (.r (.load true 3 (.loc 1))), (some ((.tmp 12), true))⟩,
  ⟨(.tmp 14), (.h (.bsl 1 [(.cst (.int .i64 3))])), (some ((.tmp 12), true))⟩,
  ⟨(.tmp 15), (.call f_quorum_Won [(.tmp 13), (.tmp 14)]), (some ((.tmp 12), true))⟩,
  ⟨(.tmp 16), (.r (.not (.tmp 15))), (some ((.tmp 12), true))⟩,
  ⟨(.tmp 17), (.r (.pick (.tmp 12) (.tmp 16) (.cst (.bool false)))), none⟩,
  ⟨(.tmp 18), (.r (.mov (.tmp 17))), none⟩,
  ⟨(.tmp 19), (.r (.load true 3 (.loc 1))), (some ((.tmp 18), true))⟩,
  ⟨(.tmp 20), (.h (.bsl 1 [(.cst (.int .i64 1)), (.cst (.int .i64 2)), (.cst (.int .i64 3))])), (some ((.tmp 18), true))⟩,
  ⟨(.tmp 21), (.h (.bsl 1 [(.cst (.int .i64 7)), (.cst (.int .i64 5)), (.cst (.int .i64 9))])), (some ((.tmp 18), true))⟩,
  ⟨(.tmp 22), (.call f_quorum_Agreed [(.tmp 19), (.tmp 20), (.tmp 21)]), (some ((.tmp 18), true))⟩,
  ⟨(.tmp 23), (.r (.bin .eql (.tmp 22) (.cst (.int .i64 7)))), (some ((.tmp 18), true))⟩,
  ⟨(.tmp 24), (.r (.pick (.tmp 18) (.tmp 23) (.cst (.bool false)))), none⟩,
  ⟨(.loc 0), (.r (.mov (.tmp 24))), none⟩])
 .ret))), [(.tmp (.loc 0))]⟩

def c_glebelaw10_in_l0 : AC := (.seq (.seq (.reg [⟨(.tmp 6), (.r (.mov (.loc 5))), none⟩,
  ⟨(.tmp 7), (.r (.mov (.loc 0))), none⟩,
  ⟨(.tmp 8), (.r (.len (.tmp 7))), none⟩,
  ⟨(.loc 9), (.r (.bin .lss (.tmp 6) (.tmp 8))), none⟩])
 (.cond (.loc 9) .skip
 (.exit 0)))
 (.seq (.block 1 (.seq (.reg [⟨(.tmp 12), (.r (.mov (.loc 0))), none⟩,
  ⟨(.tmp 13), (.r (.mov (.loc 5))), none⟩,
  ⟨(.tmp 14), (.r (.idx 1 (.tmp 12) (.tmp 13))), none⟩,
  ⟨(.tmp 15), (.r (.load false 1 (.tmp 14))), none⟩,
  ⟨(.tmp 16), (.r (.mov (.loc 1))), none⟩,
  ⟨(.loc 17), (.r (.bin .eql (.tmp 15) (.tmp 16))), none⟩])
 (.cond (.loc 17) (.seq (.reg [⟨(.loc 4), (.r (.mov (.cst (.bool true)))), none⟩])
 .ret)
 .skip)))
 (.reg [⟨(.tmp 10), (.r (.mov (.loc 5))), none⟩,
  ⟨(.tmp 11), (.r (.bin .add (.tmp 10) (.cst (.int .i64 1)))), none⟩,
  ⟨(.loc 5), (.r (.mov (.tmp 11))), none⟩])))
/-- glebe/glebelaw10.in -/
def c_glebelaw10_in : AFn := ⟨18, fun s => List.contains [0, 1, 4, 5, 9, 17] s, (.seq (.reg [⟨(.loc 4), (.r (.mov (.cst (.bool false)))), none⟩])
 (.seq (.seq (.reg [⟨(.loc 5), (.r (.mov (.cst (.int .i64 0)))), none⟩])
 (.block 0 (.loop (c_glebelaw10_in_l0))))
 (.seq (.reg [⟨(.loc 4), (.r (.mov (.cst (.bool false)))), none⟩])
 .ret))), [(.tmp (.loc 4))]⟩

def c_glebelaw10_meet_l0 (f_glebelaw10_in : FuncId) : AC := (.seq (.seq (.reg [⟨(.tmp 8), (.r (.mov (.loc 7))), none⟩,
  ⟨(.tmp 9), (.r (.mov (.loc 0))), none⟩,
  ⟨(.tmp 10), (.r (.len (.tmp 9))), none⟩,
  ⟨(.loc 11), (.r (.bin .lss (.tmp 8) (.tmp 10))), none⟩])
 (.cond (.loc 11) .skip
 (.exit 0)))
 (.seq (.block 1 (.seq (.reg [⟨(.tmp 14), (.r (.mov (.loc 1))), none⟩,
  ⟨(.tmp 15), (.r (.mov (.loc 0))), none⟩,
  ⟨(.tmp 16), (.r (.mov (.loc 7))), none⟩,
  ⟨(.tmp 17), (.r (.idx 1 (.tmp 15) (.tmp 16))), none⟩,
  ⟨(.tmp 18), (.r (.load false 1 (.tmp 17))), none⟩,
  ⟨(.tmp 19), (.call f_glebelaw10_in [(.tmp 14), (.tmp 18)]), none⟩,
  ⟨(.tmp 20), (.r (.mov (.tmp 19))), none⟩,
  ⟨(.tmp 21), (.r (.mov (.loc 2))), (some ((.tmp 20), true))⟩,
  ⟨(.tmp 22), (.r (.mov (.loc 0))), (some ((.tmp 20), true))⟩,
  ⟨(.tmp 23), (.r (.mov (.loc 7))), (some ((.tmp 20), true))⟩,
  ⟨(.tmp 24), (.r (.idx 1 (.tmp 22) (.tmp 23))), (some ((.tmp 20), true))⟩,
  ⟨(.tmp 25), (.r (.load false 1 (.tmp 24))), (some ((.tmp 20), true))⟩,
  ⟨(.tmp 26), (.call f_glebelaw10_in [(.tmp 21), (.tmp 25)]), (some ((.tmp 20), true))⟩,
  ⟨(.loc 27), (.r (.pick (.tmp 20) (.tmp 26) (.cst (.bool false)))), none⟩])
 (.cond (.loc 27) (.seq (.reg [⟨(.loc 6), (.r (.mov (.cst (.bool true)))), none⟩])
 .ret)
 .skip)))
 (.reg [⟨(.tmp 12), (.r (.mov (.loc 7))), none⟩,
  ⟨(.tmp 13), (.r (.bin .add (.tmp 12) (.cst (.int .i64 1)))), none⟩,
  ⟨(.loc 7), (.r (.mov (.tmp 13))), none⟩])))
/-- glebe/glebelaw10.meet -/
def c_glebelaw10_meet (f_glebelaw10_in : FuncId) : AFn := ⟨28, fun s => List.contains [0, 1, 2, 6, 7, 11, 27] s, (.seq (.reg [⟨(.loc 6), (.r (.mov (.cst (.bool false)))), none⟩])
 (.seq (.seq (.reg [⟨(.loc 7), (.r (.mov (.cst (.int .i64 0)))), none⟩])
 (.block 0 (.loop (c_glebelaw10_meet_l0 f_glebelaw10_in))))
 (.seq (.reg [⟨(.loc 6), (.r (.mov (.cst (.bool false)))), none⟩])
 .ret))), [(.tmp (.loc 6))]⟩

end Glb
