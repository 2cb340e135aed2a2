/-
  What functions of the program are, one by one (the functions that they call as parameters), in a form of which something can be shown.
-/
import Derived.Test.YtgjgniadldlmiaaGlbInA
set_option linter.unusedSimpArgs false
set_option linter.unusedVariables false
namespace Glb
open Go
set_option maxRecDepth 100000

def c_glebelaw09_StoreThere_l0 (f_sector_New : FuncId) (f_store_Open : FuncId) (f_glebelaw09_known : FuncId) (f_sector_Disk_Arm : FuncId) (f_glebelaw09_does : FuncId) (f_store_Store_Append : FuncId) (f_store_Store_Renew : FuncId) (f_sector_Disk_Crash : FuncId) (f_glebelaw09_held_is : FuncId) : AC := (.seq (.seq (.reg [⟨(.tmp 39), (.r (.mov (.loc 11))), none⟩,
  ⟨(.tmp 40), (.r (.mov (.loc 0))), none⟩,
  ⟨(.tmp 41), (.r (.len (.tmp 40))), none⟩,
  ⟨(.tmp 42), (.r (.bin .lss (.tmp 39) (.tmp 41))), none⟩,
  ⟨(.tmp 43), (.r (.mov (.tmp 42))), none⟩,
  ⟨(.tmp 44), (.r (.mov (.loc 11))), (some ((.tmp 43), true))⟩,
  ⟨(.tmp 45), (.r (.bin .lss (.tmp 44) (.cst (.int .i64 60)))), (some ((.tmp 43), true))⟩,
  ⟨(.loc 46), (.r (.pick (.tmp 43) (.tmp 45) (.cst (.bool false)))), none⟩])
 (.cond (.loc 46) .skip
 (.exit 0)))
 (.seq (.block 1 (.seq (.reg [⟨(.tmp 49), (.r (.mov (.loc 0))), none⟩,
  ⟨(.tmp 50), (.r (.mov (.loc 11))), none⟩,
  ⟨(.tmp 51), (.r (.idx 4 (.tmp 49) (.tmp 50))), none⟩,
  ⟨(.tmp 52), (.r (.load true 4 (.tmp 51))), none⟩,
  ⟨(.loc 12), (.h (.mk [(.bool false), .nils, (.int .i64 0), .nils])), none⟩,
  ⟨.none, (.h (.store 4 (.loc 12) (.tmp 52))), none⟩])
 (.seq (.seq (.reg [⟨(.tmp 53), (.r (.off 3 (.loc 12))), none⟩,
  ⟨(.tmp 54), (.r (.load false 1 (.tmp 53))), none⟩,
  ⟨(.tmp 55), (.r (.len (.tmp 54))), none⟩,
  ⟨(.loc 56), (.r (.bin .gtr (.tmp 55) (.cst (.int .i64 100)))), none⟩])
 (.cond (.loc 56) (.seq (.reg [⟨(.tmp 57), (.call f_glebelaw09_known []), none⟩,
  ⟨(.loc 2), (.r (.mov (.tmp 57))), none⟩])
 .ret)
 .skip))
 (.seq (.seq (.reg [⟨(.tmp 58), (.r (.off 2 (.loc 12))), none⟩,
  ⟨(.tmp 59), (.r (.load false 1 (.tmp 58))), none⟩,
  ⟨(.loc 60), (.r (.bin .gtr (.tmp 59) (.cst (.int .i64 0)))), none⟩])
 (.cond (.loc 60) (.reg [⟨(.tmp 61), (.r (.mov (.loc 3))), none⟩,
  ⟨(.tmp 62), (.r (.off 2 (.loc 12))), none⟩,
  ⟨(.tmp 63), (.r (.load false 1 (.tmp 62))), none⟩,
  ⟨(.tmp 64), (.r (.bin .sub (.tmp 63) (.cst (.int .i64 1)))), none⟩,
  ⟨(.tmp 65), (.r (.bin .rem (.tmp 64) (.cst (.int .i64 7)))), none⟩,
  ⟨(.tmp 66), (.call f_sector_Disk_Arm [(.tmp 61), (.tmp 65)]), none⟩])
 .skip))
 (.seq (.reg [⟨(.tmp 68), (.r (.mov (.loc 5))), none⟩,
  ⟨(.tmp 69), (.r (.load true 4 (.loc 9))), none⟩,
  ⟨(.tmp 70), (.r (.load true 4 (.loc 12))), none⟩,
  ⟨(.tmp 71), (.call f_glebelaw09_does [(.tmp 68), (.tmp 69), (.tmp 70)]), none⟩,
  ⟨(.tmp 67), (.r (.mov (.tmp 71))), none⟩,
  ⟨(.tmp 72), (.r (.ext (.tmp 67) 0)), none⟩,
  ⟨(.tmp 73), (.r (.ext (.tmp 67) 1)), none⟩,
  ⟨(.loc 13), (.h (.mk [(.bool false), .nils, .nils, (.int .i64 0)])), none⟩,
  ⟨.none, (.h (.store 4 (.loc 13) (.tmp 72))), none⟩,
  ⟨(.loc 14), (.r (.mov (.tmp 73))), none⟩])
 (.seq (.reg [⟨(.tmp 74), (.r (.mov (.loc 3))), none⟩,
  ⟨(.tmp 75), (.call f_sector_Disk_Arm [(.tmp 74), (.cst (.int .i64 (-1)))]), none⟩])
 (.seq (.seq (.reg [⟨(.loc 76), (.r (.mov (.loc 14))), none⟩])
 (.block 2 (.seq (.reg [⟨(.tmp 78), (.r (.bin .eql (.loc 76) (.cst (.int .i64 0)))), none⟩,
  ⟨(.loc 77), (.r (.mov (.tmp 78))), none⟩])
 (.cond (.loc 77) (.seq (.reg [⟨(.tmp 79), (.r (.load true 4 (.loc 13))), none⟩,
  ⟨.none, (.h (.store 4 (.loc 9) (.tmp 79))), none⟩])
 (.reg [⟨(.tmp 80), (.r (.mov (.loc 10))), none⟩,
  ⟨(.tmp 81), (.r (.mov (.tmp 80))), none⟩,
  ⟨(.tmp 82), (.r (.off 0 (.loc 12))), (some ((.tmp 81), false))⟩,
  ⟨(.tmp 83), (.r (.load false 1 (.tmp 82))), (some ((.tmp 81), false))⟩,
  ⟨(.tmp 84), (.r (.pick (.tmp 81) (.cst (.bool true)) (.tmp 83))), none⟩,
  ⟨(.loc 10), (.r (.mov (.tmp 84))), none⟩]))
 (.seq (.reg [⟨(.tmp 86), (.r (.bin .eql (.loc 76) (.cst (.int .i64 12)))), none⟩,
  ⟨(.loc 85), (.r (.mov (.tmp 86))), none⟩])
 (.cond (.loc 85) (.seq (.reg [⟨(.tmp 87), (.r (.mov (.loc 10))), none⟩,
  ⟨(.tmp 88), (.r (.mov (.tmp 87))), none⟩,
  ⟨(.tmp 89), (.r (.off 0 (.loc 12))), (some ((.tmp 88), false))⟩,
  ⟨(.tmp 90), (.r (.load false 1 (.tmp 89))), (some ((.tmp 88), false))⟩,
  ⟨(.loc 91), (.r (.pick (.tmp 88) (.cst (.bool true)) (.tmp 90))), none⟩])
 (.cond (.loc 91) (.seq (.reg [⟨(.loc 2), (.r (.mov (.cst (.bool false)))), none⟩])
 .ret)
 .skip))
 (.seq (.reg [⟨(.tmp 93), (.r (.bin .eql (.loc 76) (.cst (.int .i64 8)))), none⟩,
  ⟨(.loc 92), (.r (.mov (.tmp 93))), none⟩])
 (.cond (.loc 92) (.seq (.reg [⟨(.tmp 94), (.r (.off 0 (.loc 12))), none⟩,
  ⟨(.loc 95), (.r (.load false 1 (.tmp 94))), none⟩])
 (.cond (.loc 95) (.seq (.reg [⟨(.loc 2), (.r (.mov (.cst (.bool false)))), none⟩])
 .ret)
 .skip))
 (.seq (.reg [⟨(.tmp 97), (.r (.bin .eql (.loc 76) (.cst (.int .i64 10)))), none⟩,
  ⟨(.loc 96), (.r (.mov (.tmp 97))), none⟩])
 (.cond (.loc 96) (.seq (.seq (.reg [⟨(.tmp 98), (.r (.off 2 (.loc 12))), none⟩,
  ⟨(.tmp 99), (.r (.load false 1 (.tmp 98))), none⟩,
  ⟨(.tmp 100), (.r (.bin .lss (.tmp 99) (.cst (.int .i64 1)))), none⟩,
  ⟨(.tmp 101), (.r (.mov (.tmp 100))), none⟩,
  ⟨(.tmp 102), (.r (.mov (.loc 5))), (some ((.tmp 101), false))⟩,
  ⟨(.tmp 103), (.call f_store_Store_Append [(.tmp 102), (.cst .nils)]), (some ((.tmp 101), false))⟩,
  ⟨(.tmp 104), (.r (.bin .neq (.tmp 103) (.cst (.int .i64 10)))), (some ((.tmp 101), false))⟩,
  ⟨(.tmp 105), (.r (.pick (.tmp 101) (.cst (.bool true)) (.tmp 104))), none⟩,
  ⟨(.tmp 106), (.r (.mov (.tmp 105))), none⟩,
  ⟨(.tmp 107), (.r (.mov (.loc 5))), (some ((.tmp 106), false))⟩,
  ⟨(.tmp 108), (.call f_store_Store_Renew [(.tmp 107), (.cst .nils)]), (some ((.tmp 106), false))⟩,
  ⟨(.tmp 109), (.r (.bin .neq (.tmp 108) (.cst (.int .i64 10)))), (some ((.tmp 106), false))⟩,
  ⟨(.loc 110), (.r (.pick (.tmp 106) (.cst (.bool true)) (.tmp 109))), none⟩])
 (.cond (.loc 110) (.seq (.reg [⟨(.loc 2), (.r (.mov (.cst (.bool false)))), none⟩])
 .ret)
 .skip))
 (.seq (.reg [⟨(.tmp 111), (.r (.mov (.loc 3))), none⟩,
  ⟨(.tmp 112), (.r (.off 3 (.loc 12))), none⟩,
  ⟨(.tmp 113), (.r (.load false 1 (.tmp 112))), none⟩,
  ⟨(.tmp 114), (.call f_sector_Disk_Crash [(.tmp 111), (.tmp 113)]), none⟩])
 (.seq (.seq (.reg [⟨(.tmp 115), (.r (.load true 4 (.loc 9))), none⟩,
  ⟨(.tmp 116), (.r (.mov (.loc 3))), none⟩,
  ⟨(.tmp 117), (.call f_glebelaw09_held_is [(.tmp 115), (.tmp 116)]), none⟩,
  ⟨(.loc 118), (.r (.not (.tmp 117))), none⟩])
 (.cond (.loc 118) (.reg [⟨(.tmp 119), (.r (.load true 4 (.loc 13))), none⟩,
  ⟨.none, (.h (.store 4 (.loc 9) (.tmp 119))), none⟩])
 .skip))
 (.seq (.reg [⟨(.tmp 121), (.r (.mov (.loc 3))), none⟩,
  ⟨(.tmp 122), (.call f_store_Open [(.tmp 121), (.cst (.int .i64 4))]), none⟩,
  ⟨(.tmp 120), (.r (.mov (.tmp 122))), none⟩,
  ⟨(.tmp 123), (.r (.ext (.tmp 120) 0)), none⟩,
  ⟨(.tmp 124), (.r (.ext (.tmp 120) 1)), none⟩,
  ⟨(.tmp 125), (.r (.ext (.tmp 120) 2)), none⟩,
  ⟨(.tmp 126), (.r (.ext (.tmp 120) 3)), none⟩,
  ⟨(.loc 15), (.r (.mov (.tmp 123))), none⟩,
  ⟨(.tmp 16), (.r (.mov (.tmp 124))), none⟩,
  ⟨(.tmp 17), (.r (.mov (.tmp 125))), none⟩,
  ⟨(.loc 18), (.r (.mov (.tmp 126))), none⟩])
 (.seq (.seq (.reg [⟨(.tmp 127), (.r (.mov (.loc 18))), none⟩,
  ⟨(.tmp 128), (.r (.bin .neq (.tmp 127) (.cst (.int .i64 0)))), none⟩,
  ⟨(.tmp 129), (.r (.mov (.tmp 128))), none⟩,
  ⟨(.tmp 130), (.r (.mov (.loc 15))), (some ((.tmp 129), false))⟩,
  ⟨(.tmp 131), (.r (.x (.peq false (.tmp 130)))), (some ((.tmp 129), false))⟩,
  ⟨(.loc 132), (.r (.pick (.tmp 129) (.cst (.bool true)) (.tmp 131))), none⟩])
 (.cond (.loc 132) (.seq (.reg [⟨(.loc 2), (.r (.mov (.cst (.bool false)))), none⟩])
 .ret)
 .skip))
 (.seq (.reg [⟨(.tmp 133), (.r (.mov (.loc 15))), none⟩,
  ⟨(.loc 5), (.r (.mov (.tmp 133))), none⟩])
 (.reg [⟨(.loc 10), (.r (.mov (.cst (.bool false)))), none⟩])))))))
 (.seq (.reg [⟨(.loc 2), (.r (.mov (.cst (.bool false)))), none⟩])
 .ret)))))))))))
 (.seq (.reg [⟨(.tmp 134), (.r (.load true 4 (.loc 9))), none⟩,
  ⟨(.tmp 135), (.r (.mov (.loc 3))), none⟩,
  ⟨(.tmp 136), (.call f_glebelaw09_held_is [(.tmp 134), (.tmp 135)]), none⟩,
  ⟨(.loc 137), (.r (.not (.tmp 136))), none⟩])
 (.cond (.loc 137) (.seq (.reg [⟨(.loc 2), (.r (.mov (.cst (.bool false)))), none⟩])
 .ret)
 .skip)))))))))
 (.reg [⟨(.tmp 47), (.r (.mov (.loc 11))), none⟩,
  ⟨(.tmp 48), (.r (.bin .add (.tmp 47) (.cst (.int .i64 1)))), none⟩,
  ⟨(.loc 11), (.r (.mov (.tmp 48))), none⟩])))
/-- glebe/glebelaw09.StoreThere -/
def c_glebelaw09_StoreThere (f_sector_New : FuncId) (f_store_Open : FuncId) (f_glebelaw09_known : FuncId) (f_sector_Disk_Arm : FuncId) (f_glebelaw09_does : FuncId) (f_store_Store_Append : FuncId) (f_store_Store_Renew : FuncId) (f_sector_Disk_Crash : FuncId) (f_glebelaw09_held_is : FuncId) : AFn := ⟨144, fun s => List.contains [0, 2, 3, 4, 5, 8, 9, 10, 11, 12, 13, 14, 15, 18, 24, 37, 46, 56, 60, 76, 77, 85, 91, 92, 95, 96, 110, 118, 132, 137] s, (.seq (.reg [⟨(.loc 2), (.r (.mov (.cst (.bool false)))), none⟩])
 (.seq (.reg [⟨(.tmp 20), (.call f_sector_New [(.cst (.int .i64 30))]), none⟩,
  ⟨(.tmp 19), (.r (.mov (.tmp 20))), none⟩,
  ⟨(.tmp 21), (.r (.ext (.tmp 19) 0)), none⟩,
  ⟨(.tmp 22), (.r (.ext (.tmp 19) 1)), none⟩,
  ⟨(.loc 3), (.r (.mov (.tmp 21))), none⟩,
  ⟨(.loc 4), (.r (.mov (.tmp 22))), none⟩])
 (.seq (.seq (.reg [⟨(.tmp 23), (.r (.mov (.loc 4))), none⟩,
  ⟨(.loc 24), (.r (.bin .neq (.tmp 23) (.cst (.int .i64 0)))), none⟩])
 (.cond (.loc 24) (.seq (.reg [⟨(.loc 2), (.r (.mov (.cst (.bool false)))), none⟩])
 .ret)
 .skip))
 (.seq (.reg [⟨(.tmp 26), (.r (.mov (.loc 3))), none⟩,
  ⟨(.tmp 27), (.call f_store_Open [(.tmp 26), (.cst (.int .i64 4))]), none⟩,
  ⟨(.tmp 25), (.r (.mov (.tmp 27))), none⟩,
  ⟨(.tmp 28), (.r (.ext (.tmp 25) 0)), none⟩,
  ⟨(.tmp 29), (.r (.ext (.tmp 25) 1)), none⟩,
  ⟨(.tmp 30), (.r (.ext (.tmp 25) 2)), none⟩,
  ⟨(.tmp 31), (.r (.ext (.tmp 25) 3)), none⟩,
  ⟨(.loc 5), (.r (.mov (.tmp 28))), none⟩,
  ⟨(.tmp 6), (.r (.mov (.tmp 29))), none⟩,
  ⟨(.tmp 7), (.r (.mov (.tmp 30))), none⟩,
  ⟨(.loc 8), (.r (.mov (.tmp 31))), none⟩])
 (.seq (.seq (.reg [⟨(.tmp 32), (.r (.mov (.loc 8))), none⟩,
  ⟨(.tmp 33), (.r (.bin .neq (.tmp 32) (.cst (.int .i64 0)))), none⟩,
  ⟨(.tmp 34), (.r (.mov (.tmp 33))), none⟩,
  ⟨(.tmp 35), (.r (.mov (.loc 5))), (some ((.tmp 34), false))⟩,
  ⟨(.tmp 36), (.r (.x (.peq false (.tmp 35)))), (some ((.tmp 34), false))⟩,
  ⟨(.loc 37), (.r (.pick (.tmp 34) (.cst (.bool true)) (.tmp 36))), none⟩])
 (.cond (.loc 37) (.seq (.reg [⟨(.loc 2), (.r (.mov (.cst (.bool false)))), none⟩])
 .ret)
 .skip))
 (.seq (.reg [⟨(.tmp 38), (.r (.build [(.bool false), .nils, .nils, (.int .i64 0)] [])), none⟩,
  ⟨(.loc 9), (.h (.mk [(.bool false), .nils, .nils, (.int .i64 0)])), none⟩,
  ⟨.none, (.h (.store 4 (.loc 9) (.tmp 38))), none⟩])
 (.seq (.reg [⟨(.loc 10), (.r (.mov (.cst (.bool false)))), none⟩])
 (.seq (.seq (.reg [⟨(.loc 11), (.r (.mov (.cst (.int .i64 0)))), none⟩])
 (.block 0 (.loop (c_glebelaw09_StoreThere_l0 f_sector_New f_store_Open f_glebelaw09_known f_sector_Disk_Arm f_glebelaw09_does f_store_Store_Append f_store_Store_Renew f_sector_Disk_Crash f_glebelaw09_held_is))))
 (.seq (.reg [⟨(.tmp 138), (.r (.load true 4 (.loc 9))), none⟩,
  ⟨(.tmp 139), (.r (.mov (.loc 3))), none⟩,
  ⟨(.tmp 140), (.call f_glebelaw09_held_is [(.tmp 138), (.tmp 139)]), none⟩,
  ⟨(.tmp 141), (.r (.mov (.tmp 140))), none⟩,
  ⟨(.tmp 142), (.call f_glebelaw09_known []), (some ((.tmp 141), true))⟩,
  ⟨(.tmp 143), (.r (.pick (.tmp 141) (.tmp 142) (.cst (.bool false)))), none⟩,
  ⟨(.loc 2), (.r (.mov (.tmp 143))), none⟩])
 .ret))))))))), [(.tmp (.loc 2))]⟩

/-- glebe/glebelaw09.known -/
def r_glebelaw09_known (f_sector_New : FuncId) (f_store_Open : FuncId) (f_store_Store_Epoch : FuncId) (f_store_Store_Append : FuncId) (f_store_Store_Renew : FuncId) (f_store_Store_Count : FuncId) (f_glebekit_SameBytes : FuncId) (f_glebekit_SameRows : FuncId) : RFn := ⟨118, fun s => List.contains [0, 1, 2, 3, 4, 5, 6, 7, 8, 9, 10, 16, 79] s, (.seq (.calm (.reg [⟨(.loc 0), (.r (.mov (.cst (.bool false)))), none⟩]))
 (.seq (.calm (.reg [⟨(.tmp 12), (.call f_sector_New [(.cst (.int .i64 12))]), none⟩,
  ⟨(.tmp 11), (.r (.mov (.tmp 12))), none⟩,
  ⟨(.tmp 13), (.r (.ext (.tmp 11) 0)), none⟩,
  ⟨(.tmp 14), (.r (.ext (.tmp 11) 1)), none⟩,
  ⟨(.loc 1), (.r (.mov (.tmp 13))), none⟩,
  ⟨(.loc 2), (.r (.mov (.tmp 14))), none⟩]))
 (.seq (.calm (.seq (.reg [⟨(.tmp 15), (.r (.mov (.loc 2))), none⟩,
  ⟨(.loc 16), (.r (.bin .neq (.tmp 15) (.cst (.int .i64 0)))), none⟩])
 (.cond (.loc 16) (.seq (.reg [⟨(.loc 0), (.r (.mov (.cst (.bool false)))), none⟩])
 .ret)
 .skip)))
 (.seq (.calm (.reg [⟨(.tmp 18), (.r (.mov (.loc 1))), none⟩,
  ⟨(.tmp 19), (.call f_store_Open [(.tmp 18), (.cst (.int .i64 2))]), none⟩,
  ⟨(.tmp 17), (.r (.mov (.tmp 19))), none⟩,
  ⟨(.tmp 20), (.r (.ext (.tmp 17) 0)), none⟩,
  ⟨(.tmp 21), (.r (.ext (.tmp 17) 1)), none⟩,
  ⟨(.tmp 22), (.r (.ext (.tmp 17) 2)), none⟩,
  ⟨(.tmp 23), (.r (.ext (.tmp 17) 3)), none⟩,
  ⟨(.loc 3), (.r (.mov (.tmp 20))), none⟩,
  ⟨(.loc 4), (.r (.mov (.tmp 21))), none⟩,
  ⟨(.loc 5), (.r (.mov (.tmp 22))), none⟩,
  ⟨(.loc 6), (.r (.mov (.tmp 23))), none⟩]))
 (.seq (.seq (.lits [.op ⟨(.tmp 24), (.r (.mov (.loc 6))), none⟩,
  .op ⟨(.tmp 25), (.r (.bin .neq (.tmp 24) (.cst (.int .i64 0)))), none⟩,
  .op ⟨(.tmp 26), (.r (.mov (.tmp 25))), none⟩,
  .op ⟨(.tmp 27), (.r (.mov (.loc 3))), (some ((.tmp 26), false))⟩,
  .op ⟨(.tmp 28), (.r (.x (.peq false (.tmp 27)))), (some ((.tmp 26), false))⟩,
  .op ⟨(.tmp 29), (.r (.pick (.tmp 26) (.cst (.bool true)) (.tmp 28))), none⟩,
  .op ⟨(.tmp 30), (.r (.mov (.tmp 29))), none⟩,
  .op ⟨(.tmp 31), (.r (.mov (.loc 4))), (some ((.tmp 30), false))⟩,
  .op ⟨(.tmp 32), (.r (.len (.tmp 31))), (some ((.tmp 30), false))⟩,
  .op ⟨(.tmp 33), (.r (.mov (.loc 5))), (some ((.tmp 30), false))⟩,
  .op ⟨(.tmp 34), (.r (.len (.tmp 33))), (some ((.tmp 30), false))⟩,
  .op ⟨(.tmp 35), (.r (.bin .add (.tmp 32) (.tmp 34))), (some ((.tmp 30), false))⟩,
  .op ⟨(.tmp 36), (.r (.bin .gtr (.tmp 35) (.cst (.int .i64 0)))), (some ((.tmp 30), false))⟩,
  .op ⟨(.tmp 37), (.r (.pick (.tmp 30) (.cst (.bool true)) (.tmp 36))), none⟩,
  .op ⟨(.tmp 38), (.r (.mov (.tmp 37))), none⟩,
  .op ⟨(.tmp 39), (.r (.mov (.loc 3))), (some ((.tmp 38), false))⟩,
  .op ⟨(.tmp 40), (.call f_store_Store_Epoch [(.tmp 39)]), (some ((.tmp 38), false))⟩,
  .op ⟨(.tmp 41), (.r (.bin .neq (.tmp 40) (.cst (.int .i64 0)))), (some ((.tmp 38), false))⟩,
  .op ⟨(.tmp 42), (.r (.pick (.tmp 38) (.cst (.bool true)) (.tmp 41))), none⟩,
  .op ⟨(.tmp 43), (.r (.mov (.tmp 42))), none⟩,
  .op ⟨(.tmp 44), (.r (.mov (.loc 3))), (some ((.tmp 43), false))⟩,
  .op ⟨(.tmp 45), (.h (.bsl 1 [(.cst (.int .u8 1))])), (some ((.tmp 43), false))⟩,
  .op ⟨(.tmp 46), (.call f_store_Store_Append [(.tmp 44), (.tmp 45)]), (some ((.tmp 43), false))⟩,
  .op ⟨(.tmp 47), (.r (.bin .neq (.tmp 46) (.cst (.int .i64 12)))), (some ((.tmp 43), false))⟩,
  .op ⟨(.tmp 48), (.r (.pick (.tmp 43) (.cst (.bool true)) (.tmp 47))), none⟩,
  .op ⟨(.tmp 49), (.r (.mov (.tmp 48))), none⟩,
  .op ⟨(.tmp 50), (.r (.mov (.loc 3))), (some ((.tmp 49), false))⟩,
  .lit (.tmp 51) (.tmp 52) [97] (some ((.tmp 49), false)),
  .op ⟨(.tmp 53), (.call f_store_Store_Renew [(.tmp 50), (.tmp 52)]), (some ((.tmp 49), false))⟩,
  .op ⟨(.tmp 54), (.r (.bin .neq (.tmp 53) (.cst (.int .i64 0)))), (some ((.tmp 49), false))⟩,
  .op ⟨(.tmp 55), (.r (.pick (.tmp 49) (.cst (.bool true)) (.tmp 54))), none⟩,
  .op ⟨(.tmp 56), (.r (.mov (.tmp 55))), none⟩,
  .op ⟨(.tmp 57), (.r (.mov (.loc 3))), (some ((.tmp 56), false))⟩,
  .lit (.tmp 58) (.tmp 59) [98] (some ((.tmp 56), false)),
  .op ⟨(.tmp 60), (.call f_store_Store_Append [(.tmp 57), (.tmp 59)]), (some ((.tmp 56), false))⟩,
  .op ⟨(.tmp 61), (.r (.bin .neq (.tmp 60) (.cst (.int .i64 0)))), (some ((.tmp 56), false))⟩,
  .op ⟨(.tmp 62), (.r (.pick (.tmp 56) (.cst (.bool true)) (.tmp 61))), none⟩,
  .op ⟨(.tmp 63), (.r (.mov (.tmp 62))), none⟩,
  .op ⟨(.tmp 64), (.r (.mov (.loc 3))), (some ((.tmp 63), false))⟩,
  .lit (.tmp 65) (.tmp 66) [99] (some ((.tmp 63), false)),
  .op ⟨(.tmp 67), (.call f_store_Store_Append [(.tmp 64), (.tmp 66)]), (some ((.tmp 63), false))⟩,
  .op ⟨(.tmp 68), (.r (.bin .neq (.tmp 67) (.cst (.int .i64 0)))), (some ((.tmp 63), false))⟩,
  .op ⟨(.tmp 69), (.r (.pick (.tmp 63) (.cst (.bool true)) (.tmp 68))), none⟩,
  .op ⟨(.tmp 70), (.r (.mov (.tmp 69))), none⟩,
  .op ⟨(.tmp 71), (.r (.mov (.loc 3))), (some ((.tmp 70), false))⟩,
  .op ⟨(.tmp 72), (.call f_store_Store_Epoch [(.tmp 71)]), (some ((.tmp 70), false))⟩,
  .op ⟨(.tmp 73), (.r (.bin .neq (.tmp 72) (.cst (.int .i64 1)))), (some ((.tmp 70), false))⟩,
  .op ⟨(.tmp 74), (.r (.pick (.tmp 70) (.cst (.bool true)) (.tmp 73))), none⟩,
  .op ⟨(.tmp 75), (.r (.mov (.tmp 74))), none⟩,
  .op ⟨(.tmp 76), (.r (.mov (.loc 3))), (some ((.tmp 75), false))⟩,
  .op ⟨(.tmp 77), (.call f_store_Store_Count [(.tmp 76)]), (some ((.tmp 75), false))⟩,
  .op ⟨(.tmp 78), (.r (.bin .neq (.tmp 77) (.cst (.int .i64 2)))), (some ((.tmp 75), false))⟩,
  .op ⟨(.loc 79), (.r (.pick (.tmp 75) (.cst (.bool true)) (.tmp 78))), none⟩])
 (.calm (.cond (.loc 79) (.seq (.reg [⟨(.loc 0), (.r (.mov (.cst (.bool false)))), none⟩])
 .ret)
 .skip)))
 (.seq (.calm (.reg [⟨(.tmp 81), (.r (.mov (.loc 1))), none⟩,
  ⟨(.tmp 82), (.call f_store_Open [(.tmp 81), (.cst (.int .i64 2))]), none⟩,
  ⟨(.tmp 80), (.r (.mov (.tmp 82))), none⟩,
  ⟨(.tmp 83), (.r (.ext (.tmp 80) 0)), none⟩,
  ⟨(.tmp 84), (.r (.ext (.tmp 80) 1)), none⟩,
  ⟨(.tmp 85), (.r (.ext (.tmp 80) 2)), none⟩,
  ⟨(.tmp 86), (.r (.ext (.tmp 80) 3)), none⟩,
  ⟨(.loc 7), (.r (.mov (.tmp 83))), none⟩,
  ⟨(.loc 8), (.r (.mov (.tmp 84))), none⟩,
  ⟨(.loc 9), (.r (.mov (.tmp 85))), none⟩,
  ⟨(.loc 10), (.r (.mov (.tmp 86))), none⟩]))
 (.seq (.lits [.op ⟨(.tmp 87), (.r (.mov (.loc 10))), none⟩,
  .op ⟨(.tmp 88), (.r (.bin .eql (.tmp 87) (.cst (.int .i64 0)))), none⟩,
  .op ⟨(.tmp 89), (.r (.mov (.tmp 88))), none⟩,
  .op ⟨(.tmp 90), (.r (.mov (.loc 7))), (some ((.tmp 89), true))⟩,
  .op ⟨(.tmp 91), (.r (.x (.peq true (.tmp 90)))), (some ((.tmp 89), true))⟩,
  .op ⟨(.tmp 92), (.r (.pick (.tmp 89) (.tmp 91) (.cst (.bool false)))), none⟩,
  .op ⟨(.tmp 93), (.r (.mov (.tmp 92))), none⟩,
  .op ⟨(.tmp 94), (.r (.mov (.loc 7))), (some ((.tmp 93), true))⟩,
  .op ⟨(.tmp 95), (.call f_store_Store_Epoch [(.tmp 94)]), (some ((.tmp 93), true))⟩,
  .op ⟨(.tmp 96), (.r (.bin .eql (.tmp 95) (.cst (.int .i64 1)))), (some ((.tmp 93), true))⟩,
  .op ⟨(.tmp 97), (.r (.pick (.tmp 93) (.tmp 96) (.cst (.bool false)))), none⟩,
  .op ⟨(.tmp 98), (.r (.mov (.tmp 97))), none⟩,
  .op ⟨(.tmp 99), (.r (.mov (.loc 7))), (some ((.tmp 98), true))⟩,
  .op ⟨(.tmp 100), (.call f_store_Store_Count [(.tmp 99)]), (some ((.tmp 98), true))⟩,
  .op ⟨(.tmp 101), (.r (.bin .eql (.tmp 100) (.cst (.int .i64 0)))), (some ((.tmp 98), true))⟩,
  .op ⟨(.tmp 102), (.r (.pick (.tmp 98) (.tmp 101) (.cst (.bool false)))), none⟩,
  .op ⟨(.tmp 103), (.r (.mov (.tmp 102))), none⟩,
  .op ⟨(.tmp 104), (.r (.mov (.loc 8))), (some ((.tmp 103), true))⟩,
  .lit (.tmp 105) (.tmp 106) [97] (some ((.tmp 103), true)),
  .op ⟨(.tmp 107), (.call f_glebekit_SameBytes [(.tmp 104), (.tmp 106)]), (some ((.tmp 103), true))⟩,
  .op ⟨(.tmp 108), (.r (.pick (.tmp 103) (.tmp 107) (.cst (.bool false)))), none⟩,
  .op ⟨(.tmp 109), (.r (.mov (.tmp 108))), none⟩,
  .op ⟨(.tmp 110), (.r (.mov (.loc 9))), (some ((.tmp 109), true))⟩,
  .lit (.tmp 111) (.tmp 112) [98] (some ((.tmp 109), true)),
  .lit (.tmp 113) (.tmp 114) [99] (some ((.tmp 109), true)),
  .op ⟨(.tmp 115), (.h (.bsl 1 [(.tmp 112), (.tmp 114)])), (some ((.tmp 109), true))⟩,
  .op ⟨(.tmp 116), (.call f_glebekit_SameRows [(.tmp 110), (.tmp 115)]), (some ((.tmp 109), true))⟩,
  .op ⟨(.tmp 117), (.r (.pick (.tmp 109) (.tmp 116) (.cst (.bool false)))), none⟩,
  .op ⟨(.loc 0), (.r (.mov (.tmp 117))), none⟩])
 (.calm .ret)))))))), [(.tmp (.loc 0))]⟩

/-- glebe/glebelaw09.does -/
def c_glebelaw09_does (f_store_Store_Renew : FuncId) (f_glebekit_CopyRows : FuncId) (f_store_Store_Append : FuncId) : AFn := ⟨39, fun s => List.contains [0, 1, 2, 4, 5, 6, 7, 8, 9, 18] s, (.seq (.reg [⟨(.loc 4), (.h (.box (.loc 1))), none⟩,
  ⟨(.loc 5), (.h (.box (.loc 2))), none⟩,
  ⟨(.loc 6), (.h (.mk [(.bool false), .nils, .nils, (.int .i64 0)])), none⟩,
  ⟨(.loc 7), (.r (.mov (.cst (.int .i64 0)))), none⟩])
 (.seq (.reg [⟨(.tmp 10), (.r (.off 1 (.loc 5))), none⟩,
  ⟨(.tmp 11), (.r (.load false 1 (.tmp 10))), none⟩,
  ⟨(.tmp 12), (.r (.off 1 (.loc 5))), none⟩,
  ⟨(.tmp 13), (.r (.load false 1 (.tmp 12))), none⟩,
  ⟨(.tmp 14), (.r (.len (.tmp 13))), none⟩,
  ⟨(.tmp 15), (.r (.mnmx false [(.tmp 14), (.cst (.int .i64 120))])), none⟩,
  ⟨(.tmp 16), (.r (.slc 1 (.tmp 11) none (some (.tmp 15)) none)), none⟩,
  ⟨(.loc 8), (.r (.mov (.tmp 16))), none⟩])
 (.seq (.seq (.reg [⟨(.tmp 17), (.r (.off 0 (.loc 5))), none⟩,
  ⟨(.loc 18), (.r (.load false 1 (.tmp 17))), none⟩])
 (.cond (.loc 18) (.seq (.dreg ⟨[0, 0, 2, 6, 15, 0, 0, 96, 255, 511], 0, [⟨0, 0, false, (.r (.mov (.loc 8))), none⟩,
  ⟨1, 0, false, (.r (.off 3 (.loc 4))), none⟩,
  ⟨2, 0, false, (.r (.load false 1 (.tmp 1))), none⟩,
  ⟨3, 0, false, (.r (.bin .add (.tmp 2) (.cst (.int .i64 1)))), none⟩,
  ⟨4, 0, false, (.r (.build [(.bool false), .nils, .nils, (.int .i64 0)] [(0, 1, (.cst (.bool true))), (1, 1, (.tmp 0)), (3, 1, (.tmp 3))])), none⟩,
  ⟨5, 0, false, (.r (.mov (.loc 0))), none⟩,
  ⟨6, 0, false, (.r (.mov (.loc 8))), none⟩,
  ⟨7, 0, true, (.call f_store_Store_Renew [(.tmp 5), (.tmp 6)]), none⟩,
  ⟨8, 0, true, (.h (.store 4 (.loc 6) (.tmp 4))), none⟩,
  ⟨9, 0, false, (.r (.mov (.tmp 7))), none⟩], [(7, 9)]⟩)
 .ret)
 .skip))
 (.seq (.reg [⟨(.tmp 27), (.r (.load true 4 (.loc 4))), none⟩,
  ⟨(.loc 9), (.h (.mk [(.bool false), .nils, .nils, (.int .i64 0)])), none⟩,
  ⟨.none, (.h (.store 4 (.loc 9) (.tmp 27))), none⟩])
 (.seq (.reg [⟨(.tmp 28), (.r (.off 2 (.loc 4))), none⟩,
  ⟨(.tmp 29), (.r (.load false 1 (.tmp 28))), none⟩,
  ⟨(.tmp 30), (.call f_glebekit_CopyRows [(.tmp 29)]), none⟩,
  ⟨(.tmp 31), (.r (.mov (.loc 8))), none⟩,
  ⟨(.tmp 32), (.h (.bsl 1 [(.tmp 31)])), none⟩,
  ⟨(.tmp 33), (.h (.app 1 24 (.tmp 30) (.tmp 32))), none⟩,
  ⟨(.tmp 34), (.r (.off 2 (.loc 9))), none⟩,
  ⟨.none, (.h (.store 1 (.tmp 34) (.tmp 33))), none⟩])
 (.seq (.dreg ⟨[0, 0, 0, 6, 15, 31], 0, [⟨0, 0, false, (.r (.load true 4 (.loc 9))), none⟩,
  ⟨1, 0, false, (.r (.mov (.loc 0))), none⟩,
  ⟨2, 0, false, (.r (.mov (.loc 8))), none⟩,
  ⟨3, 0, true, (.call f_store_Store_Append [(.tmp 1), (.tmp 2)]), none⟩,
  ⟨4, 0, true, (.h (.store 4 (.loc 6) (.tmp 0))), none⟩,
  ⟨5, 0, false, (.r (.mov (.tmp 3))), none⟩], [(7, 5)]⟩)
 .ret)))))), [(.cell (.loc 6) true 4), (.tmp (.loc 7))]⟩

/-- (glebe/glebelaw09.held).is -/
def c_glebelaw09_held_is (f_store_Open : FuncId) (f_store_Store_Epoch : FuncId) (f_glebekit_SameBytes : FuncId) (f_glebekit_SameRows : FuncId) : AFn := ⟨41, fun s => List.contains [0, 1, 2, 4, 5, 6, 7, 8] s, (.seq (.reg [⟨(.loc 2), (.h (.box (.loc 0))), none⟩,
  ⟨(.loc 4), (.r (.mov (.cst (.bool false)))), none⟩])
 (.seq (.reg [⟨(.tmp 10), (.r (.mov (.loc 1))), none⟩,
  ⟨(.tmp 11), (.call f_store_Open [(.tmp 10), (.cst (.int .i64 4))]), none⟩,
  ⟨(.tmp 9), (.r (.mov (.tmp 11))), none⟩,
  ⟨(.tmp 12), (.r (.ext (.tmp 9) 0)), none⟩,
  ⟨(.tmp 13), (.r (.ext (.tmp 9) 1)), none⟩,
  ⟨(.tmp 14), (.r (.ext (.tmp 9) 2)), none⟩,
  ⟨(.tmp 15), (.r (.ext (.tmp 9) 3)), none⟩,
  ⟨(.loc 5), (.r (.mov (.tmp 12))), none⟩,
  ⟨(.loc 6), (.r (.mov (.tmp 13))), none⟩,
  ⟨(.loc 7), (.r (.mov (.tmp 14))), none⟩,
  ⟨(.loc 8), (.r (.mov (.tmp 15))), none⟩])
 (.seq (.dreg ⟨[0, 1, 3, 7, 15, 31, 63, 127, 255, 127, 639, 2047, 4095, 8191, 16383, 16383, 49151, 131071, 262143, 524287, 1048575, 1048575, 3145727, 8388607, 16777215, 33554431], 0, [⟨0, 0, false, (.r (.mov (.loc 8))), none⟩,
  ⟨1, 0, false, (.r (.bin .eql (.tmp 0) (.cst (.int .i64 0)))), none⟩,
  ⟨2, 0, false, (.r (.mov (.tmp 1))), none⟩,
  ⟨3, 0, false, (.r (.mov (.loc 5))), (some ((.tmp 2), true))⟩,
  ⟨4, 0, false, (.r (.x (.peq true (.tmp 3)))), (some ((.tmp 2), true))⟩,
  ⟨5, 0, false, (.r (.pick (.tmp 2) (.tmp 4) (.cst (.bool false)))), none⟩,
  ⟨6, 0, false, (.r (.mov (.tmp 5))), none⟩,
  ⟨7, 0, false, (.r (.mov (.loc 5))), (some ((.tmp 6), true))⟩,
  ⟨9, 0, false, (.r (.off 3 (.loc 2))), (some ((.tmp 6), true))⟩,
  ⟨10, 0, false, (.r (.load false 1 (.tmp 9))), (some ((.tmp 6), true))⟩,
  ⟨8, 0, true, (.call f_store_Store_Epoch [(.tmp 7)]), (some ((.tmp 6), true))⟩,
  ⟨11, 0, false, (.r (.bin .eql (.tmp 8) (.tmp 10))), (some ((.tmp 6), true))⟩,
  ⟨12, 0, false, (.r (.pick (.tmp 6) (.tmp 11) (.cst (.bool false)))), none⟩,
  ⟨13, 0, false, (.r (.mov (.tmp 12))), none⟩,
  ⟨14, 0, false, (.r (.mov (.loc 6))), (some ((.tmp 13), true))⟩,
  ⟨15, 0, false, (.r (.off 1 (.loc 2))), (some ((.tmp 13), true))⟩,
  ⟨16, 0, false, (.r (.load false 1 (.tmp 15))), (some ((.tmp 13), true))⟩,
  ⟨17, 0, true, (.call f_glebekit_SameBytes [(.tmp 14), (.tmp 16)]), (some ((.tmp 13), true))⟩,
  ⟨18, 0, false, (.r (.pick (.tmp 13) (.tmp 17) (.cst (.bool false)))), none⟩,
  ⟨19, 0, false, (.r (.mov (.tmp 18))), none⟩,
  ⟨20, 0, false, (.r (.mov (.loc 7))), (some ((.tmp 19), true))⟩,
  ⟨21, 0, false, (.r (.off 2 (.loc 2))), (some ((.tmp 19), true))⟩,
  ⟨22, 0, false, (.r (.load false 1 (.tmp 21))), (some ((.tmp 19), true))⟩,
  ⟨23, 0, true, (.call f_glebekit_SameRows [(.tmp 20), (.tmp 22)]), (some ((.tmp 19), true))⟩,
  ⟨24, 0, false, (.r (.pick (.tmp 19) (.tmp 23) (.cst (.bool false)))), none⟩,
  ⟨25, 0, false, (.r (.mov (.tmp 24))), none⟩], [(4, 25)]⟩)
 .ret))), [(.tmp (.loc 4))]⟩

end Glb
