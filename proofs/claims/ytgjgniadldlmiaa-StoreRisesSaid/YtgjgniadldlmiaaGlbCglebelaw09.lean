/-
  What functions of the program are, one by one (the functions that they call as parameters), in a form of which something can be shown.
-/
import Derived.Test.YtgjgniadldlmiaaGlbInA
set_option linter.unusedSimpArgs false
set_option linter.unusedVariables false
namespace Glb
open Go
set_option maxRecDepth 100000

def c_glebelaw09_StoreRises_l0 (f_sector_New : FuncId) (f_store_Open : FuncId) (f_store_Store_Renew : FuncId) (f_store_Store_Append : FuncId) (f_store_Store_Epoch : FuncId) (f_store_Store_Count : FuncId) (f_glebelaw09_known : FuncId) : AC := (.seq (.seq (.reg [⟨(.tmp 37), (.r (.mov (.loc 13))), none⟩,
  ⟨(.tmp 38), (.r (.mov (.loc 0))), none⟩,
  ⟨(.tmp 39), (.r (.len (.tmp 38))), none⟩,
  ⟨(.tmp 40), (.r (.bin .lss (.tmp 37) (.tmp 39))), none⟩,
  ⟨(.tmp 41), (.r (.mov (.tmp 40))), none⟩,
  ⟨(.tmp 42), (.r (.mov (.loc 13))), (some ((.tmp 41), true))⟩,
  ⟨(.tmp 43), (.r (.bin .lss (.tmp 42) (.cst (.int .i64 100)))), (some ((.tmp 41), true))⟩,
  ⟨(.loc 44), (.r (.pick (.tmp 41) (.tmp 43) (.cst (.bool false)))), none⟩])
 (.cond (.loc 44) .skip
 (.exit 0)))
 (.seq (.block 1 (.seq (.seq (.reg [⟨(.tmp 47), (.r (.mov (.loc 13))), none⟩,
  ⟨(.tmp 48), (.r (.mov (.loc 1))), none⟩,
  ⟨(.tmp 49), (.r (.len (.tmp 48))), none⟩,
  ⟨(.tmp 50), (.r (.bin .lss (.tmp 47) (.tmp 49))), none⟩,
  ⟨(.tmp 51), (.r (.mov (.tmp 50))), none⟩,
  ⟨(.tmp 52), (.r (.mov (.loc 1))), (some ((.tmp 51), true))⟩,
  ⟨(.tmp 53), (.r (.mov (.loc 13))), (some ((.tmp 51), true))⟩,
  ⟨(.tmp 54), (.r (.idx 1 (.tmp 52) (.tmp 53))), (some ((.tmp 51), true))⟩,
  ⟨(.tmp 55), (.r (.load false 1 (.tmp 54))), (some ((.tmp 51), true))⟩,
  ⟨(.loc 56), (.r (.pick (.tmp 51) (.tmp 55) (.cst (.bool false)))), none⟩])
 (.cond (.loc 56) (.seq (.reg [⟨(.tmp 57), (.r (.mov (.loc 7))), none⟩,
  ⟨(.tmp 58), (.r (.mov (.loc 0))), none⟩,
  ⟨(.tmp 59), (.r (.mov (.loc 13))), none⟩,
  ⟨(.tmp 60), (.r (.idx 1 (.tmp 58) (.tmp 59))), none⟩,
  ⟨(.tmp 61), (.r (.load false 1 (.tmp 60))), none⟩,
  ⟨(.tmp 62), (.call f_store_Store_Renew [(.tmp 57), (.tmp 61)]), none⟩,
  ⟨(.loc 63), (.r (.bin .eql (.tmp 62) (.cst (.int .i64 0)))), none⟩])
 (.cond (.loc 63) (.seq (.reg [⟨(.tmp 64), (.r (.mov (.loc 11))), none⟩,
  ⟨(.tmp 65), (.r (.bin .add (.tmp 64) (.cst (.int .i64 1)))), none⟩,
  ⟨(.loc 11), (.r (.mov (.tmp 65))), none⟩])
 (.reg [⟨(.loc 12), (.r (.mov (.cst (.int .i64 0)))), none⟩]))
 .skip))
 (.seq (.reg [⟨(.tmp 66), (.r (.mov (.loc 7))), none⟩,
  ⟨(.tmp 67), (.r (.mov (.loc 0))), none⟩,
  ⟨(.tmp 68), (.r (.mov (.loc 13))), none⟩,
  ⟨(.tmp 69), (.r (.idx 1 (.tmp 67) (.tmp 68))), none⟩,
  ⟨(.tmp 70), (.r (.load false 1 (.tmp 69))), none⟩,
  ⟨(.tmp 71), (.call f_store_Store_Append [(.tmp 66), (.tmp 70)]), none⟩,
  ⟨(.loc 72), (.r (.bin .eql (.tmp 71) (.cst (.int .i64 0)))), none⟩])
 (.cond (.loc 72) (.reg [⟨(.tmp 73), (.r (.mov (.loc 12))), none⟩,
  ⟨(.tmp 74), (.r (.bin .add (.tmp 73) (.cst (.int .i64 1)))), none⟩,
  ⟨(.loc 12), (.r (.mov (.tmp 74))), none⟩])
 .skip))))
 (.seq (.reg [⟨(.tmp 75), (.r (.mov (.loc 7))), none⟩,
  ⟨(.tmp 76), (.call f_store_Store_Epoch [(.tmp 75)]), none⟩,
  ⟨(.tmp 77), (.r (.mov (.loc 11))), none⟩,
  ⟨(.tmp 78), (.r (.bin .neq (.tmp 76) (.tmp 77))), none⟩,
  ⟨(.tmp 79), (.r (.mov (.tmp 78))), none⟩,
  ⟨(.tmp 80), (.r (.mov (.loc 7))), (some ((.tmp 79), false))⟩,
  ⟨(.tmp 81), (.call f_store_Store_Count [(.tmp 80)]), (some ((.tmp 79), false))⟩,
  ⟨(.tmp 82), (.r (.mov (.loc 12))), (some ((.tmp 79), false))⟩,
  ⟨(.tmp 83), (.r (.bin .neq (.tmp 81) (.tmp 82))), (some ((.tmp 79), false))⟩,
  ⟨(.loc 84), (.r (.pick (.tmp 79) (.cst (.bool true)) (.tmp 83))), none⟩])
 (.cond (.loc 84) (.seq (.reg [⟨(.loc 4), (.r (.mov (.cst (.bool false)))), none⟩])
 .ret)
 .skip))))
 (.reg [⟨(.tmp 45), (.r (.mov (.loc 13))), none⟩,
  ⟨(.tmp 46), (.r (.bin .add (.tmp 45) (.cst (.int .i64 1)))), none⟩,
  ⟨(.loc 13), (.r (.mov (.tmp 46))), none⟩])))
/-- glebe/glebelaw09.StoreRises -/
def c_glebelaw09_StoreRises (f_sector_New : FuncId) (f_store_Open : FuncId) (f_store_Store_Renew : FuncId) (f_store_Store_Append : FuncId) (f_store_Store_Epoch : FuncId) (f_store_Store_Count : FuncId) (f_glebelaw09_known : FuncId) : AFn := ⟨103, fun s => List.contains [0, 1, 4, 5, 6, 7, 10, 11, 12, 13, 16, 17, 23, 36, 44, 56, 63, 72, 84] s, (.seq (.reg [⟨(.loc 4), (.r (.mov (.cst (.bool false)))), none⟩])
 (.seq (.reg [⟨(.tmp 19), (.call f_sector_New [(.cst (.int .i64 60))]), none⟩,
  ⟨(.tmp 18), (.r (.mov (.tmp 19))), none⟩,
  ⟨(.tmp 20), (.r (.ext (.tmp 18) 0)), none⟩,
  ⟨(.tmp 21), (.r (.ext (.tmp 18) 1)), none⟩,
  ⟨(.loc 5), (.r (.mov (.tmp 20))), none⟩,
  ⟨(.loc 6), (.r (.mov (.tmp 21))), none⟩])
 (.seq (.seq (.reg [⟨(.tmp 22), (.r (.mov (.loc 6))), none⟩,
  ⟨(.loc 23), (.r (.bin .neq (.tmp 22) (.cst (.int .i64 0)))), none⟩])
 (.cond (.loc 23) (.seq (.reg [⟨(.loc 4), (.r (.mov (.cst (.bool false)))), none⟩])
 .ret)
 .skip))
 (.seq (.reg [⟨(.tmp 25), (.r (.mov (.loc 5))), none⟩,
  ⟨(.tmp 26), (.call f_store_Open [(.tmp 25), (.cst (.int .i64 5))]), none⟩,
  ⟨(.tmp 24), (.r (.mov (.tmp 26))), none⟩,
  ⟨(.tmp 27), (.r (.ext (.tmp 24) 0)), none⟩,
  ⟨(.tmp 28), (.r (.ext (.tmp 24) 1)), none⟩,
  ⟨(.tmp 29), (.r (.ext (.tmp 24) 2)), none⟩,
  ⟨(.tmp 30), (.r (.ext (.tmp 24) 3)), none⟩,
  ⟨(.loc 7), (.r (.mov (.tmp 27))), none⟩,
  ⟨(.tmp 8), (.r (.mov (.tmp 28))), none⟩,
  ⟨(.tmp 9), (.r (.mov (.tmp 29))), none⟩,
  ⟨(.loc 10), (.r (.mov (.tmp 30))), none⟩])
 (.seq (.seq (.reg [⟨(.tmp 31), (.r (.mov (.loc 10))), none⟩,
  ⟨(.tmp 32), (.r (.bin .neq (.tmp 31) (.cst (.int .i64 0)))), none⟩,
  ⟨(.tmp 33), (.r (.mov (.tmp 32))), none⟩,
  ⟨(.tmp 34), (.r (.mov (.loc 7))), (some ((.tmp 33), false))⟩,
  ⟨(.tmp 35), (.r (.x (.peq false (.tmp 34)))), (some ((.tmp 33), false))⟩,
  ⟨(.loc 36), (.r (.pick (.tmp 33) (.cst (.bool true)) (.tmp 35))), none⟩])
 (.cond (.loc 36) (.seq (.reg [⟨(.loc 4), (.r (.mov (.cst (.bool false)))), none⟩])
 .ret)
 .skip))
 (.seq (.reg [⟨(.loc 11), (.r (.mov (.cst (.int .i64 0)))), none⟩,
  ⟨(.loc 12), (.r (.mov (.cst (.int .i64 0)))), none⟩])
 (.seq (.seq (.reg [⟨(.loc 13), (.r (.mov (.cst (.int .i64 0)))), none⟩])
 (.block 0 (.loop (c_glebelaw09_StoreRises_l0 f_sector_New f_store_Open f_store_Store_Renew f_store_Store_Append f_store_Store_Epoch f_store_Store_Count f_glebelaw09_known))))
 (.seq (.reg [⟨(.tmp 86), (.r (.mov (.loc 5))), none⟩,
  ⟨(.tmp 87), (.call f_store_Open [(.tmp 86), (.cst (.int .i64 5))]), none⟩,
  ⟨(.tmp 85), (.r (.mov (.tmp 87))), none⟩,
  ⟨(.tmp 88), (.r (.ext (.tmp 85) 0)), none⟩,
  ⟨(.tmp 89), (.r (.ext (.tmp 85) 1)), none⟩,
  ⟨(.tmp 90), (.r (.ext (.tmp 85) 2)), none⟩,
  ⟨(.tmp 91), (.r (.ext (.tmp 85) 3)), none⟩,
  ⟨(.tmp 14), (.r (.mov (.tmp 88))), none⟩,
  ⟨(.tmp 15), (.r (.mov (.tmp 89))), none⟩,
  ⟨(.loc 16), (.r (.mov (.tmp 90))), none⟩,
  ⟨(.loc 17), (.r (.mov (.tmp 91))), none⟩])
 (.seq (.reg [⟨(.tmp 92), (.r (.mov (.loc 17))), none⟩,
  ⟨(.tmp 93), (.r (.bin .eql (.tmp 92) (.cst (.int .i64 0)))), none⟩,
  ⟨(.tmp 94), (.r (.mov (.tmp 93))), none⟩,
  ⟨(.tmp 95), (.r (.mov (.loc 16))), (some ((.tmp 94), true))⟩,
  ⟨(.tmp 96), (.r (.len (.tmp 95))), (some ((.tmp 94), true))⟩,
  ⟨(.tmp 97), (.r (.mov (.loc 12))), (some ((.tmp 94), true))⟩,
  ⟨(.tmp 98), (.r (.bin .eql (.tmp 96) (.tmp 97))), (some ((.tmp 94), true))⟩,
  ⟨(.tmp 99), (.r (.pick (.tmp 94) (.tmp 98) (.cst (.bool false)))), none⟩,
  ⟨(.tmp 100), (.r (.mov (.tmp 99))), none⟩,
  ⟨(.tmp 101), (.call f_glebelaw09_known []), (some ((.tmp 100), true))⟩,
  ⟨(.tmp 102), (.r (.pick (.tmp 100) (.tmp 101) (.cst (.bool false)))), none⟩,
  ⟨(.loc 4), (.r (.mov (.tmp 102))), none⟩])
 .ret))))))))), [(.tmp (.loc 4))]⟩

/-- glebe/glebelaw09.known -/
def r_glebelaw09_known (f_sector_New : FuncId) (f_store_Open : FuncId) (f_store_Store_Epoch : FuncId) (f_store_Store_Append : FuncId) (f_store_Store_Renew : FuncId) (f_store_Store_Count : FuncId) (f_glebekit_SameBytes : FuncId) (f_glebekit_SameRows : FuncId) : RFn := ⟨118, fun s => List.contains [0, 1, 2, 3, 4, 5, 6, 7, 8, 9, 10, 16, 79] s, (.seq (.calm (.reg [⟨(.loc 0), (.r (.mov (.cst (.bool false)))), none⟩]))
 (.seq (.calm (.reg [⟨(.tmp 12), (.call f_sector_New [(.cst (.int .i64 12))]), none⟩,
  ⟨(.tmp 11), (.r (.mov (.tmp 12))), none⟩,
  ⟨(.tmp 13), (.r (.ext (.tmp 11) 0)), none⟩,
  ⟨(.tmp 14), (.r (.ext (.tmp 11) 1)), none⟩,
  ⟨(.loc 1), (.r (.mov (.tmp 13))), none⟩,
  ⟨(.loc 2), (.r (.mov (.tmp 14))), none⟩]))
 (.seq (.calm (.seq (.reg [⟨(.tmp 15), (.r (.mov (.loc 2))), none⟩,
  ⟨(.loc 16), (.r (.bin .neq (.tmp 15) (.cst (.int .i64 0)))), none⟩])
 (.cond (.loc 16) (.seq (.reg [⟨(.loc 0), (.r (.mov (.cst (.bool false)))), none⟩])
 .ret)
 .skip)))
 (.seq (.calm (.reg [⟨(.tmp 18), (.r (.mov (.loc 1))), none⟩,
  ⟨(.tmp 19), (.call f_store_Open [(.tmp 18), (.cst (.int .i64 2))]), none⟩,
  ⟨(.tmp 17), (.r (.mov (.tmp 19))), none⟩,
  ⟨(.tmp 20), (.r (.ext (.tmp 17) 0)), none⟩,
  ⟨(.tmp 21), (.r (.ext (.tmp 17) 1)), none⟩,
  ⟨(.tmp 22), (.r (.ext (.tmp 17) 2)), none⟩,
  ⟨(.tmp 23), (.r (.ext (.tmp 17) 3)), none⟩,
  ⟨(.loc 3), (.r (.mov (.tmp 20))), none⟩,
  ⟨(.loc 4), (.r (.mov (.tmp 21))), none⟩,
  ⟨(.loc 5), (.r (.mov (.tmp 22))), none⟩,
  ⟨(.loc 6), (.r (.mov (.tmp 23))), none⟩]))
 (.seq (.seq (.lits [.op ⟨(.tmp 24), (.r (.mov (.loc 6))), none⟩,
  .op ⟨(.tmp 25), (.r (.bin .neq (.tmp 24) (.cst (.int .i64 0)))), none⟩,
  .op ⟨(.tmp 26), (.r (.mov (.tmp 25))), none⟩,
  .op ⟨(.tmp 27), (.r (.mov (.loc 3))), (some ((.tmp 26), false))⟩,
  .op ⟨(.tmp 28), (.r (.x (.peq false (.tmp 27)))), (some ((.tmp 26), false))⟩,
  .op ⟨(.tmp 29), (.r (.pick (.tmp 26) (.cst (.bool true)) (.tmp 28))), none⟩,
  .op ⟨(.tmp 30), (.r (.mov (.tmp 29))), none⟩,
  .op ⟨(.tmp 31), (.r (.mov (.loc 4))), (some ((.tmp 30), false))⟩,
  .op ⟨(.tmp 32), (.r (.len (.tmp 31))), (some ((.tmp 30), false))⟩,
  .op ⟨(.tmp 33), (.r (.mov (.loc 5))), (some ((.tmp 30), false))⟩,
  .op ⟨(.tmp 34), (.r (.len (.tmp 33))), (some ((.tmp 30), false))⟩,
  .op ⟨(.tmp 35), (.r (.bin .add (.tmp 32) (.tmp 34))), (some ((.tmp 30), false))⟩,
  .op ⟨(.tmp 36), (.r (.bin .gtr (.tmp 35) (.cst (.int .i64 0)))), (some ((.tmp 30), false))⟩,
  .op ⟨(.tmp 37), (.r (.pick (.tmp 30) (.cst (.bool true)) (.tmp 36))), none⟩,
  .op ⟨(.tmp 38), (.r (.mov (.tmp 37))), none⟩,
  .op ⟨(.tmp 39), (.r (.mov (.loc 3))), (some ((.tmp 38), false))⟩,
  .op ⟨(.tmp 40), (.call f_store_Store_Epoch [(.tmp 39)]), (some ((.tmp 38), false))⟩,
  .op ⟨(.tmp 41), (.r (.bin .neq (.tmp 40) (.cst (.int .i64 0)))), (some ((.tmp 38), false))⟩,
  .op ⟨(.tmp 42), (.r (.pick (.tmp 38) (.cst (.bool true)) (.tmp 41))), none⟩,
  .op ⟨(.tmp 43), (.r (.mov (.tmp 42))), none⟩,
  .op ⟨(.tmp 44), (.r (.mov (.loc 3))), (some ((.tmp 43), false))⟩,
  .op ⟨(.tmp 45), (.h (.bsl 1 [(.cst (.int .u8 1))])), (some ((.tmp 43), false))⟩,
  .op ⟨(.tmp 46), (.call f_store_Store_Append [(.tmp 44), (.tmp 45)]), (some ((.tmp 43), false))⟩,
  .op ⟨(.tmp 47), (.r (.bin .neq (.tmp 46) (.cst (.int .i64 12)))), (some ((.tmp 43), false))⟩,
  .op ⟨(.tmp 48), (.r (.pick (.tmp 43) (.cst (.bool true)) (.tmp 47))), none⟩,
  .op ⟨(.tmp 49), (.r (.mov (.tmp 48))), none⟩,
  .op ⟨(.tmp 50), (.r (.mov (.loc 3))), (some ((.tmp 49), false))⟩,
  .lit (.tmp 51) (.tmp 52) [97] (some ((.tmp 49), false)),
  .op ⟨(.tmp 53), (.call f_store_Store_Renew [(.tmp 50), (.tmp 52)]), (some ((.tmp 49), false))⟩,
  .op ⟨(.tmp 54), (.r (.bin .neq (.tmp 53) (.cst (.int .i64 0)))), (some ((.tmp 49), false))⟩,
  .op ⟨(.tmp 55), (.r (.pick (.tmp 49) (.cst (.bool true)) (.tmp 54))), none⟩,
  .op ⟨(.tmp 56), (.r (.mov (.tmp 55))), none⟩,
  .op ⟨(.tmp 57), (.r (.mov (.loc 3))), (some ((.tmp 56), false))⟩,
  .lit (.tmp 58) (.tmp 59) [98] (some ((.tmp 56), false)),
  .op ⟨(.tmp 60), (.call f_store_Store_Append [(.tmp 57), (.tmp 59)]), (some ((.tmp 56), false))⟩,
  .op ⟨(.tmp 61), (.r (.bin .neq (.tmp 60) (.cst (.int .i64 0)))), (some ((.tmp 56), false))⟩,
  .op ⟨(.tmp 62), (.r (.pick (.tmp 56) (.cst (.bool true)) (.tmp 61))), none⟩,
  .op ⟨(.tmp 63), (.r (.mov (.tmp 62))), none⟩,
  .op ⟨(.tmp 64), (.r (.mov (.loc 3))), (some ((.tmp 63), false))⟩,
  .lit (.tmp 65) (.tmp 66) [99] (some ((.tmp 63), false)),
  .op ⟨(.tmp 67), (.call f_store_Store_Append [(.tmp 64), (.tmp 66)]), (some ((.tmp 63), false))⟩,
  .op ⟨(.tmp 68), (.r (.bin .neq (.tmp 67) (.cst (.int .i64 0)))), (some ((.tmp 63), false))⟩,
  .op ⟨(.tmp 69), (.r (.pick (.tmp 63) (.cst (.bool true)) (.tmp 68))), none⟩,
  .op ⟨(.tmp 70), (.r (.mov (.tmp 69))), none⟩,
  .op ⟨(.tmp 71), (.r (.mov (.loc 3))), (some ((.tmp 70), false))⟩,
  .op ⟨(.tmp 72), (.call f_store_Store_Epoch [(.tmp 71)]), (some ((.tmp 70), false))⟩,
  .op ⟨(.tmp 73), (.r (.bin .neq (.tmp 72) (.cst (.int .i64 1)))), (some ((.tmp 70), false))⟩,
  .op ⟨(.tmp 74), (.r (.pick (.tmp 70) (.cst (.bool true)) (.tmp 73))), none⟩,
  .op ⟨(.tmp 75), (.r (.mov (.tmp 74))), none⟩,
  .op ⟨(.tmp 76), (.r (.mov (.loc 3))), (some ((.tmp 75), false))⟩,
  .op ⟨(.tmp 77), (.call f_store_Store_Count [(.tmp 76)]), (some ((.tmp 75), false))⟩,
  .op ⟨(.tmp 78), (.r (.bin .neq (.tmp 77) (.cst (.int .i64 2)))), (some ((.tmp 75), false))⟩,
  .op ⟨(.loc 79), (.r (.pick (.tmp 75) (.cst (.bool true)) (.tmp 78))), none⟩])
 (.calm (.cond (.loc 79) (.seq (.reg [⟨(.loc 0), (.r (.mov (.cst (.bool false)))), none⟩])
 .ret)
 .skip)))
 (.seq (.calm (.reg [⟨(.tmp 81), (.r (.mov (.loc 1))), none⟩,
  ⟨(.tmp 82), (.call f_store_Open [(.tmp 81), (.cst (.int .i64 2))]), none⟩,
  ⟨(.tmp 80), (.r (.mov (.tmp 82))), none⟩,
  ⟨(.tmp 83), (.r (.ext (.tmp 80) 0)), none⟩,
  ⟨(.tmp 84), (.r (.ext (.tmp 80) 1)), none⟩,
  ⟨(.tmp 85), (.r (.ext (.tmp 80) 2)), none⟩,
  ⟨(.tmp 86), (.r (.ext (.tmp 80) 3)), none⟩,
  ⟨(.loc 7), (.r (.mov (.tmp 83))), none⟩,
  ⟨(.loc 8), (.r (.mov (.tmp 84))), none⟩,
  ⟨(.loc 9), (.r (.mov (.tmp 85))), none⟩,
  ⟨(.loc 10), (.r (.mov (.tmp 86))), none⟩]))
 (.seq (.lits [.op ⟨(.tmp 87), (.r (.mov (.loc 10))), none⟩,
  .op ⟨(.tmp 88), (.r (.bin .eql (.tmp 87) (.cst (.int .i64 0)))), none⟩,
  .op ⟨(.tmp 89), (.r (.mov (.tmp 88))), none⟩,
  .op ⟨(.tmp 90), (.r (.mov (.loc 7))), (some ((.tmp 89), true))⟩,
  .op ⟨(.tmp 91), (.r (.x (.peq true (.tmp 90)))), (some ((.tmp 89), true))⟩,
  .op ⟨(.tmp 92), (.r (.pick (.tmp 89) (.tmp 91) (.cst (.bool false)))), none⟩,
  .op ⟨(.tmp 93), (.r (.mov (.tmp 92))), none⟩,
  .op ⟨(.tmp 94), (.r (.mov (.loc 7))), (some ((.tmp 93), true))⟩,
  .op ⟨(.tmp 95), (.call f_store_Store_Epoch [(.tmp 94)]), (some ((.tmp 93), true))⟩,
  .op ⟨(.tmp 96), (.r (.bin .eql (.tmp 95) (.cst (.int .i64 1)))), (some ((.tmp 93), true))⟩,
  .op ⟨(.tmp 97), (.r (.pick (.tmp 93) (.tmp 96) (.cst (.bool false)))), none⟩,
  .op ⟨(.tmp 98), (.r (.mov (.tmp 97))), none⟩,
  .op ⟨(.tmp 99), (.r (.mov (.loc 7))), (some ((.tmp 98), true))⟩,
  .op ⟨(.tmp 100), (.call f_store_Store_Count [(.tmp 99)]), (some ((.tmp 98), true))⟩,
  .op ⟨(.tmp 101), (.r (.bin .eql (.tmp 100) (.cst (.int .i64 0)))), (some ((.tmp 98), true))⟩,
  .op ⟨(.tmp 102), (.r (.pick (.tmp 98) (.tmp 101) (.cst (.bool false)))), none⟩,
  .op ⟨(.tmp 103), (.r (.mov (.tmp 102))), none⟩,
  .op ⟨(.tmp 104), (.r (.mov (.loc 8))), (some ((.tmp 103), true))⟩,
  .lit (.tmp 105) (.tmp 106) [97] (some ((.tmp 103), true)),
  .op ⟨(.tmp 107), (.call f_glebekit_SameBytes [(.tmp 104), (.tmp 106)]), (some ((.tmp 103), true))⟩,
  .op ⟨(.tmp 108), (.r (.pick (.tmp 103) (.tmp 107) (.cst (.bool false)))), none⟩,
  .op ⟨(.tmp 109), (.r (.mov (.tmp 108))), none⟩,
  .op ⟨(.tmp 110), (.r (.mov (.loc 9))), (some ((.tmp 109), true))⟩,
  .lit (.tmp 111) (.tmp 112) [98] (some ((.tmp 109), true)),
  .lit (.tmp 113) (.tmp 114) [99] (some ((.tmp 109), true)),
  .op ⟨(.tmp 115), (.h (.bsl 1 [(.tmp 112), (.tmp 114)])), (some ((.tmp 109), true))⟩,
  .op ⟨(.tmp 116), (.call f_glebekit_SameRows [(.tmp 110), (.tmp 115)]), (some ((.tmp 109), true))⟩,
  .op ⟨(.tmp 117), (.r (.pick (.tmp 109) (.tmp 116) (.cst (.bool false)))), none⟩,
  .op ⟨(.loc 0), (.r (.mov (.tmp 117))), none⟩])
 (.calm .ret)))))))), [(.tmp (.loc 0))]⟩

end Glb
