/-
  What functions of the program are, one by one (the functions that they call as parameters), in a form of which something can be shown.
-/
import Derived.Test.YtgjgniadldlmiaaGlbInA
set_option linter.unusedSimpArgs false
set_option linter.unusedVariables false
namespace Glb
open Go
set_option maxRecDepth 100000

/-- glebe/journal.New -/
def c_journal_New (f_journal_right : FuncId) : AFn := ⟨24, fun s => List.contains [0, 1, 2, 3, 8, 9, 15] s, (.seq (.reg [⟨(.loc 8), (.r (.mov (.cst (.raw (.pointer none))))), none⟩,
  ⟨(.loc 9), (.r (.mov (.cst (.int .i64 0)))), none⟩])
 (.seq (.seq (.reg [⟨(.tmp 10), (.r (.mov (.loc 0))), none⟩,
  ⟨(.tmp 11), (.r (.mov (.loc 1))), none⟩,
  ⟨(.tmp 12), (.r (.mov (.loc 2))), none⟩,
  ⟨(.tmp 13), (.r (.mov (.loc 3))), none⟩,
  ⟨(.tmp 14), (.call f_journal_right [(.tmp 10), (.tmp 11), (.tmp 12), (.tmp 13)]), none⟩,
  ⟨(.loc 15), (.r (.not (.tmp 14))), none⟩])
 (.cond (.loc 15) (.seq (.reg [⟨(.loc 8), (.r (.mov (.cst (.raw (.pointer none))))), none⟩,
  ⟨(.loc 9), (.r (.mov (.cst (.int .i64 3)))), none⟩])
 .ret)
 .skip))
 (.seq (.reg [⟨(.tmp 16), (.r (.mov (.loc 0))), none⟩,
  ⟨(.tmp 17), (.r (.mov (.loc 1))), none⟩,
  ⟨(.tmp 18), (.r (.mov (.loc 1))), none⟩,
  ⟨(.tmp 19), (.r (.mov (.loc 2))), none⟩,
  ⟨(.tmp 20), (.r (.bin .add (.tmp 18) (.tmp 19))), none⟩,
  ⟨(.tmp 21), (.r (.mov (.loc 3))), none⟩,
  ⟨(.tmp 22), (.r (.build [(.raw (.pointer none)), (.int .i64 0), (.int .i64 0), (.int .i64 0), (.int .i64 0)] [(0, 1, (.tmp 16)), (1, 1, (.tmp 17)), (2, 1, (.tmp 20)), (3, 1, (.tmp 21))])), none⟩,
  ⟨(.tmp 23), (.h (.box (.tmp 22))), none⟩,
  ⟨(.loc 8), (.r (.mov (.tmp 23))), none⟩,
  ⟨(.loc 9), (.r (.mov (.cst (.int .i64 0)))), none⟩])
 .ret))), [(.tmp (.loc 8)), (.tmp (.loc 9))]⟩

/-- (*glebe/journal.Journal).Room -/
def c_journal_Journal_Room : AFn := ⟨12, fun s => List.contains [0, 2] s, (.seq (.reg [⟨(.loc 2), (.r (.mov (.cst (.int .i64 0)))), none⟩])
 (.seq (.dreg ⟨[0, 1, 3, 7, 0, 16, 48, 112, 255, 511], 0, [⟨0, 0, false, (.r (.mov (.loc 0))), none⟩,
  ⟨1, 0, false, (.r (.chk (.tmp 0))), none⟩,
  ⟨2, 0, false, (.r (.off 2 (.tmp 1))), none⟩,
  ⟨3, 0, false, (.r (.load false 1 (.tmp 2))), none⟩,
  ⟨4, 0, false, (.r (.mov (.loc 0))), none⟩,
  ⟨5, 0, false, (.r (.chk (.tmp 4))), none⟩,
  ⟨6, 0, false, (.r (.off 1 (.tmp 5))), none⟩,
  ⟨7, 0, false, (.r (.load false 1 (.tmp 6))), none⟩,
  ⟨8, 0, false, (.r (.bin .sub (.tmp 3) (.tmp 7))), none⟩,
  ⟨9, 0, false, (.r (.mov (.tmp 8))), none⟩], [(2, 9)]⟩)
 .ret)), [(.tmp (.loc 2))]⟩

/-- (*glebe/journal.Journal).Append -/
def r_journal_Journal_Append (f_journal_need : FuncId) (f_journal_Journal_Room : FuncId) (f_journal_sectors : FuncId) (f_sector_Disk_Write : FuncId) (f_sector_Disk_Flush : FuncId) : RFn := ⟨71, fun s => List.contains [0, 1, 2, 4, 5, 6, 7, 8, 9, 12, 19, 30, 31, 32, 46, 54] s, (.seq (.calm (.reg [⟨(.loc 2), (.h (.box (.loc 0))), none⟩,
  ⟨(.loc 4), (.h (.mk [(.int .i64 0)])), none⟩]))
 (.seq (.calm (.seq (.reg [⟨(.tmp 10), (.r (.mov (.loc 1))), none⟩,
  ⟨(.tmp 11), (.r (.len (.tmp 10))), none⟩,
  ⟨(.loc 12), (.r (.bin .gtr (.tmp 11) (.cst (.int .i64 32768)))), none⟩])
 (.cond (.loc 12) (.seq (.reg [⟨.none, (.h (.store 1 (.loc 4) (.cst (.int .i64 2)))), none⟩])
 .ret)
 .skip)))
 (.seq (.calm (.reg [⟨(.tmp 13), (.r (.mov (.loc 1))), none⟩,
  ⟨(.tmp 14), (.r (.len (.tmp 13))), none⟩,
  ⟨(.tmp 15), (.call f_journal_need [(.tmp 14)]), none⟩,
  ⟨(.loc 5), (.r (.mov (.tmp 15))), none⟩]))
 (.seq (.calm (.seq (.reg [⟨(.tmp 16), (.r (.mov (.loc 5))), none⟩,
  ⟨(.tmp 17), (.r (.load false 1 (.loc 2))), none⟩,
  ⟨(.tmp 18), (.call f_journal_Journal_Room [(.tmp 17)]), none⟩,
  ⟨(.loc 19), (.r (.bin .gtr (.tmp 16) (.tmp 18))), none⟩])
 (.cond (.loc 19) (.seq (.reg [⟨.none, (.h (.store 1 (.loc 4) (.cst (.int .i64 8)))), none⟩])
 .ret)
 .skip)))
 (.seq (.seq (.calm (.dreg ⟨[0, 1, 3, 7, 0, 16, 48, 112, 240, 0, 1023], 0, [⟨0, 0, false, (.r (.load false 1 (.loc 2))), none⟩,
  ⟨1, 0, false, (.r (.chk (.tmp 0))), none⟩,
  ⟨2, 0, false, (.r (.off 3 (.tmp 1))), none⟩,
  ⟨3, 0, false, (.r (.load false 1 (.tmp 2))), none⟩,
  ⟨4, 0, false, (.r (.load false 1 (.loc 2))), none⟩,
  ⟨5, 0, false, (.r (.chk (.tmp 4))), none⟩,
  ⟨6, 0, false, (.r (.off 4 (.tmp 5))), none⟩,
  ⟨7, 0, false, (.r (.load false 1 (.tmp 6))), none⟩,
  ⟨8, 0, false, (.r (.bin .add (.tmp 7) (.cst (.int .i64 1)))), none⟩,
  ⟨9, 0, false, (.r (.mov (.loc 1))), none⟩,
  ⟨10, 0, true, (.call f_journal_sectors [(.tmp 3), (.tmp 8), (.tmp 9)]), none⟩], [(30, 10)]⟩))
 (.block 0 (.range (.loc 30) [31, 32] (.seq (.reg [⟨(.loc 6), (.r (.mov (.loc 31))), none⟩])
 (.reg [⟨(.loc 7), (.r (.mov (.loc 32))), none⟩]))
 (.block 1 (.seq (.dreg ⟨[0, 1, 3, 7, 0, 16, 48, 112, 0, 496, 0, 2047, 4095], 0, [⟨0, 0, false, (.r (.load false 1 (.loc 2))), none⟩,
  ⟨1, 0, false, (.r (.chk (.tmp 0))), none⟩,
  ⟨2, 0, false, (.r (.off 0 (.tmp 1))), none⟩,
  ⟨3, 0, false, (.r (.load false 1 (.tmp 2))), none⟩,
  ⟨4, 0, false, (.r (.load false 1 (.loc 2))), none⟩,
  ⟨5, 0, false, (.r (.chk (.tmp 4))), none⟩,
  ⟨6, 0, false, (.r (.off 1 (.tmp 5))), none⟩,
  ⟨7, 0, false, (.r (.load false 1 (.tmp 6))), none⟩,
  ⟨8, 0, false, (.r (.mov (.loc 6))), none⟩,
  ⟨9, 0, false, (.r (.bin .add (.tmp 7) (.tmp 8))), none⟩,
  ⟨10, 0, false, (.r (.mov (.loc 7))), none⟩,
  ⟨11, 0, true, (.call f_sector_Disk_Write [(.tmp 3), (.tmp 9), (.tmp 10)]), none⟩,
  ⟨12, 0, false, (.r (.mov (.tmp 11))), none⟩], [(8, 12)]⟩)
 (.seq (.reg [⟨(.tmp 45), (.r (.mov (.loc 8))), none⟩,
  ⟨(.loc 46), (.r (.bin .neq (.tmp 45) (.cst (.int .i64 0)))), none⟩])
 (.cond (.loc 46) (.seq (.reg [⟨(.tmp 47), (.r (.mov (.loc 8))), none⟩,
  ⟨.none, (.h (.store 1 (.loc 4) (.tmp 47))), none⟩])
 .ret)
 .skip)))))))
 (.calm (.seq (.seq (.reg [⟨(.tmp 48), (.r (.load false 1 (.loc 2))), none⟩,
  ⟨(.tmp 49), (.r (.chk (.tmp 48))), none⟩,
  ⟨(.tmp 50), (.r (.off 0 (.tmp 49))), none⟩,
  ⟨(.tmp 51), (.r (.load false 1 (.tmp 50))), none⟩,
  ⟨(.tmp 52), (.call f_sector_Disk_Flush [(.tmp 51)]), none⟩,
  ⟨(.loc 9), (.r (.mov (.tmp 52))), none⟩])
 (.seq (.reg [⟨(.tmp 53), (.r (.mov (.loc 9))), none⟩,
  ⟨(.loc 54), (.r (.bin .neq (.tmp 53) (.cst (.int .i64 0)))), none⟩])
 (.cond (.loc 54) (.seq (.reg [⟨(.tmp 55), (.r (.mov (.loc 9))), none⟩,
  ⟨.none, (.h (.store 1 (.loc 4) (.tmp 55))), none⟩])
 .ret)
 .skip)))
 (.seq (.reg [⟨(.tmp 56), (.r (.load false 1 (.loc 2))), none⟩,
  ⟨(.tmp 57), (.r (.chk (.tmp 56))), none⟩,
  ⟨(.tmp 58), (.r (.off 1 (.tmp 57))), none⟩,
  ⟨(.tmp 59), (.r (.load false 1 (.tmp 58))), none⟩,
  ⟨(.tmp 60), (.r (.mov (.loc 5))), none⟩,
  ⟨(.tmp 61), (.r (.bin .add (.tmp 59) (.tmp 60))), none⟩,
  ⟨(.tmp 62), (.r (.chk (.tmp 56))), none⟩,
  ⟨(.tmp 63), (.r (.off 1 (.tmp 62))), none⟩,
  ⟨.none, (.h (.store 1 (.tmp 63) (.tmp 61))), none⟩])
 (.seq (.reg [⟨(.tmp 64), (.r (.load false 1 (.loc 2))), none⟩,
  ⟨(.tmp 65), (.r (.chk (.tmp 64))), none⟩,
  ⟨(.tmp 66), (.r (.off 4 (.tmp 65))), none⟩,
  ⟨(.tmp 67), (.r (.load false 1 (.tmp 66))), none⟩,
  ⟨(.tmp 68), (.r (.bin .add (.tmp 67) (.cst (.int .i64 1)))), none⟩,
  ⟨(.tmp 69), (.r (.chk (.tmp 64))), none⟩,
  ⟨(.tmp 70), (.r (.off 4 (.tmp 69))), none⟩,
  ⟨.none, (.h (.store 1 (.tmp 70) (.tmp 68))), none⟩])
 (.seq (.reg [⟨.none, (.h (.store 1 (.loc 4) (.cst (.int .i64 0)))), none⟩])
 .ret)))))))))), [(.cell (.loc 4) false 1)]⟩

def c_journal_Scan_l0 (f_journal_right : FuncId) (f_journal_piece : FuncId) : AC := (.seq (.seq (.reg [⟨(.tmp 25), (.r (.mov (.loc 13))), none⟩,
  ⟨(.tmp 26), (.r (.mov (.loc 1))), none⟩,
  ⟨(.tmp 27), (.r (.mov (.loc 2))), none⟩,
  ⟨(.tmp 28), (.r (.bin .add (.tmp 26) (.tmp 27))), none⟩,
  ⟨(.loc 29), (.r (.bin .lss (.tmp 25) (.tmp 28))), none⟩])
 (.cond (.loc 29) .skip
 (.exit 0)))
 (.seq (.block 1 (.seq (.reg [⟨(.tmp 33), (.r (.mov (.loc 0))), none⟩,
  ⟨(.tmp 34), (.r (.mov (.loc 13))), none⟩,
  ⟨(.tmp 35), (.r (.mov (.loc 3))), none⟩,
  ⟨(.tmp 36), (.r (.mov (.loc 10))), none⟩,
  ⟨(.tmp 37), (.r (.len (.tmp 36))), none⟩,
  ⟨(.tmp 38), (.r (.bin .add (.tmp 37) (.cst (.int .i64 1)))), none⟩,
  ⟨(.tmp 39), (.call f_journal_piece [(.tmp 33), (.tmp 34), (.tmp 35), (.tmp 38)]), none⟩,
  ⟨(.tmp 32), (.r (.mov (.tmp 39))), none⟩,
  ⟨(.tmp 40), (.r (.ext (.tmp 32) 0)), none⟩,
  ⟨(.tmp 41), (.r (.ext (.tmp 32) 1)), none⟩,
  ⟨(.tmp 42), (.r (.ext (.tmp 32) 2)), none⟩,
  ⟨(.loc 14), (.r (.mov (.tmp 40))), none⟩,
  ⟨(.loc 15), (.r (.mov (.tmp 41))), none⟩,
  ⟨(.loc 16), (.r (.mov (.tmp 42))), none⟩])
 (.seq (.reg [⟨(.tmp 43), (.r (.mov (.loc 15))), none⟩,
  ⟨(.tmp 44), (.r (.mov (.loc 12))), none⟩,
  ⟨(.tmp 45), (.r (.bin .mul (.cst (.int .i64 2)) (.tmp 44))), none⟩,
  ⟨(.tmp 46), (.r (.bin .add (.tmp 45) (.cst (.int .i64 1)))), none⟩,
  ⟨(.tmp 47), (.r (.bin .eql (.tmp 43) (.tmp 46))), none⟩,
  ⟨(.loc 17), (.r (.mov (.tmp 47))), none⟩])
 (.seq (.block 2 (.seq (.seq (.reg [⟨(.tmp 49), (.r (.mov (.loc 16))), none⟩,
  ⟨(.tmp 50), (.r (.not (.tmp 49))), none⟩,
  ⟨(.loc 48), (.r (.mov (.tmp 50))), none⟩])
 (.cond (.loc 48) .skip
 (.seq (.reg [⟨(.tmp 51), (.r (.mov (.loc 17))), none⟩,
  ⟨(.tmp 52), (.r (.not (.tmp 51))), none⟩,
  ⟨(.tmp 53), (.r (.mov (.tmp 52))), none⟩,
  ⟨(.tmp 54), (.r (.mov (.loc 15))), (some ((.tmp 53), true))⟩,
  ⟨(.tmp 55), (.r (.mov (.loc 12))), (some ((.tmp 53), true))⟩,
  ⟨(.tmp 56), (.r (.bin .mul (.cst (.int .i64 2)) (.tmp 55))), (some ((.tmp 53), true))⟩,
  ⟨(.tmp 57), (.r (.bin .neq (.tmp 54) (.tmp 56))), (some ((.tmp 53), true))⟩,
  ⟨(.tmp 58), (.r (.pick (.tmp 53) (.tmp 57) (.cst (.bool false)))), none⟩,
  ⟨(.loc 48), (.r (.mov (.tmp 58))), none⟩])
 (.cond (.loc 48) .skip
 (.seq (.reg [⟨(.tmp 59), (.r (.mov (.loc 17))), none⟩,
  ⟨(.tmp 60), (.r (.not (.tmp 59))), none⟩,
  ⟨(.tmp 61), (.r (.mov (.tmp 60))), none⟩,
  ⟨(.tmp 62), (.r (.mov (.loc 14))), (some ((.tmp 61), true))⟩,
  ⟨(.tmp 63), (.r (.len (.tmp 62))), (some ((.tmp 61), true))⟩,
  ⟨(.tmp 64), (.r (.bin .neq (.tmp 63) (.cst (.int .i64 40)))), (some ((.tmp 61), true))⟩,
  ⟨(.tmp 65), (.r (.pick (.tmp 61) (.tmp 64) (.cst (.bool false)))), none⟩,
  ⟨(.loc 48), (.r (.mov (.tmp 65))), none⟩])
 (.cond (.loc 48) .skip
 (.seq (.reg [⟨(.tmp 66), (.r (.mov (.loc 17))), none⟩,
  ⟨(.tmp 67), (.r (.mov (.tmp 66))), none⟩,
  ⟨(.tmp 68), (.r (.mov (.loc 12))), (some ((.tmp 67), true))⟩,
  ⟨(.tmp 69), (.r (.bin .gtr (.tmp 68) (.cst (.int .i64 0)))), (some ((.tmp 67), true))⟩,
  ⟨(.tmp 70), (.r (.pick (.tmp 67) (.tmp 69) (.cst (.bool false)))), none⟩,
  ⟨(.tmp 71), (.r (.mov (.tmp 70))), none⟩,
  ⟨(.tmp 72), (.r (.mov (.loc 14))), (some ((.tmp 71), true))⟩,
  ⟨(.tmp 73), (.r (.len (.tmp 72))), (some ((.tmp 71), true))⟩,
  ⟨(.tmp 74), (.r (.bin .eql (.tmp 73) (.cst (.int .i64 0)))), (some ((.tmp 71), true))⟩,
  ⟨(.tmp 75), (.r (.pick (.tmp 71) (.tmp 74) (.cst (.bool false)))), none⟩,
  ⟨(.loc 48), (.r (.mov (.tmp 75))), none⟩])
 (.cond (.loc 48) .skip
 (.reg [⟨(.tmp 76), (.r (.mov (.loc 11))), none⟩,
  ⟨(.tmp 77), (.r (.len (.tmp 76))), none⟩,
  ⟨(.tmp 78), (.r (.mov (.loc 14))), none⟩,
  ⟨(.tmp 79), (.r (.len (.tmp 78))), none⟩,
  ⟨(.tmp 80), (.r (.bin .add (.tmp 77) (.tmp 79))), none⟩,
  ⟨(.tmp 81), (.r (.bin .gtr (.tmp 80) (.cst (.int .i64 32768)))), none⟩,
  ⟨(.loc 48), (.r (.mov (.tmp 81))), none⟩])))))))))
 (.cond (.loc 48) (.exit 0)
 .skip)))
 (.seq (.reg [⟨(.tmp 82), (.r (.mov (.loc 11))), none⟩,
  ⟨(.tmp 83), (.r (.mov (.loc 14))), none⟩,
  ⟨(.tmp 84), (.h (.app 1 1 (.tmp 82) (.tmp 83))), none⟩,
  ⟨(.loc 11), (.r (.mov (.tmp 84))), none⟩])
 (.seq (.reg [⟨(.tmp 85), (.r (.mov (.loc 12))), none⟩,
  ⟨(.tmp 86), (.r (.bin .add (.tmp 85) (.cst (.int .i64 1)))), none⟩,
  ⟨(.loc 12), (.r (.mov (.tmp 86))), none⟩])
 (.seq (.reg [⟨(.loc 87), (.r (.mov (.loc 17))), none⟩])
 (.cond (.loc 87) (.seq (.reg [⟨(.tmp 88), (.r (.mov (.loc 10))), none⟩,
  ⟨(.tmp 89), (.h (.bsl 1 [])), none⟩,
  ⟨(.tmp 90), (.r (.mov (.loc 11))), none⟩,
  ⟨(.tmp 91), (.h (.app 1 1 (.tmp 89) (.tmp 90))), none⟩,
  ⟨(.tmp 92), (.h (.bsl 1 [(.tmp 91)])), none⟩,
  ⟨(.tmp 93), (.h (.app 1 24 (.tmp 88) (.tmp 92))), none⟩,
  ⟨(.loc 10), (.r (.mov (.tmp 93))), none⟩])
 (.reg [⟨(.loc 11), (.r (.mov (.cst .nils))), none⟩,
  ⟨(.loc 12), (.r (.mov (.cst (.int .i64 0)))), none⟩]))
 .skip))))))))
 (.reg [⟨(.tmp 30), (.r (.mov (.loc 13))), none⟩,
  ⟨(.tmp 31), (.r (.bin .add (.tmp 30) (.cst (.int .i64 1)))), none⟩,
  ⟨(.loc 13), (.r (.mov (.tmp 31))), none⟩])))
/-- glebe/journal.Scan -/
def c_journal_Scan (f_journal_right : FuncId) (f_journal_piece : FuncId) : AFn := ⟨95, fun s => List.contains [0, 1, 2, 3, 8, 9, 10, 11, 12, 13, 14, 15, 16, 17, 23, 29, 48, 87] s, (.seq (.reg [⟨(.loc 8), (.r (.mov (.cst .nils))), none⟩,
  ⟨(.loc 9), (.r (.mov (.cst (.int .i64 0)))), none⟩])
 (.seq (.seq (.reg [⟨(.tmp 18), (.r (.mov (.loc 0))), none⟩,
  ⟨(.tmp 19), (.r (.mov (.loc 1))), none⟩,
  ⟨(.tmp 20), (.r (.mov (.loc 2))), none⟩,
  ⟨(.tmp 21), (.r (.mov (.loc 3))), none⟩,
  ⟨(.tmp 22), (.call f_journal_right [(.tmp 18), (.tmp 19), (.tmp 20), (.tmp 21)]), none⟩,
  ⟨(.loc 23), (.r (.not (.tmp 22))), none⟩])
 (.cond (.loc 23) (.seq (.reg [⟨(.loc 8), (.r (.mov (.cst .nils))), none⟩,
  ⟨(.loc 9), (.r (.mov (.cst (.int .i64 3)))), none⟩])
 .ret)
 .skip))
 (.seq (.reg [⟨(.loc 10), (.r (.mov (.cst .nils))), none⟩])
 (.seq (.reg [⟨(.loc 11), (.r (.mov (.cst .nils))), none⟩])
 (.seq (.reg [⟨(.loc 12), (.r (.mov (.cst (.int .i64 0)))), none⟩])
 (.seq .skip
 (.seq (.seq (.reg [⟨(.tmp 24), (.r (.mov (.loc 1))), none⟩,
  ⟨(.loc 13), (.r (.mov (.tmp 24))), none⟩])
 (.block 0 (.loop (c_journal_Scan_l0 f_journal_right f_journal_piece))))
 (.seq (.reg [⟨(.tmp 94), (.r (.mov (.loc 10))), none⟩,
  ⟨(.loc 8), (.r (.mov (.tmp 94))), none⟩,
  ⟨(.loc 9), (.r (.mov (.cst (.int .i64 0)))), none⟩])
 .ret)))))))), [(.tmp (.loc 8)), (.tmp (.loc 9))]⟩

/-- (*glebe/journal.Journal).Count -/
def c_journal_Journal_Count : AFn := ⟨7, fun s => List.contains [0, 2] s, (.seq (.reg [⟨(.loc 2), (.r (.mov (.cst (.int .i64 0)))), none⟩])
 (.seq (.reg [⟨(.tmp 3), (.r (.mov (.loc 0))), none⟩,
  ⟨(.tmp 4), (.r (.chk (.tmp 3))), none⟩,
  ⟨(.tmp 5), (.r (.off 4 (.tmp 4))), none⟩,
  ⟨(.tmp 6), (.r (.load false 1 (.tmp 5))), none⟩,
  ⟨(.loc 2), (.r (.mov (.tmp 6))), none⟩])
 .ret)), [(.tmp (.loc 2))]⟩

/-- glebe/journal.right -/
def c_journal_right (f_sector_Disk_Len : FuncId) : AFn := ⟨37, fun s => List.contains [0, 1, 2, 3, 8] s, (.seq (.reg [⟨(.loc 8), (.r (.mov (.cst (.bool false)))), none⟩])
 (.seq (.reg [⟨(.tmp 9), (.r (.mov (.loc 1))), none⟩,
  ⟨(.tmp 10), (.r (.bin .geq (.tmp 9) (.cst (.int .i64 0)))), none⟩,
  ⟨(.tmp 11), (.r (.mov (.tmp 10))), none⟩,
  ⟨(.tmp 12), (.r (.mov (.loc 2))), (some ((.tmp 11), true))⟩,
  ⟨(.tmp 13), (.r (.bin .geq (.tmp 12) (.cst (.int .i64 1)))), (some ((.tmp 11), true))⟩,
  ⟨(.tmp 14), (.r (.pick (.tmp 11) (.tmp 13) (.cst (.bool false)))), none⟩,
  ⟨(.tmp 15), (.r (.mov (.tmp 14))), none⟩,
  ⟨(.tmp 16), (.r (.mov (.loc 1))), (some ((.tmp 15), true))⟩,
  ⟨(.tmp 17), (.r (.mov (.loc 0))), (some ((.tmp 15), true))⟩,
  ⟨(.tmp 18), (.call f_sector_Disk_Len [(.tmp 17)]), (some ((.tmp 15), true))⟩,
  ⟨(.tmp 19), (.r (.bin .leq (.tmp 16) (.tmp 18))), (some ((.tmp 15), true))⟩,
  ⟨(.tmp 20), (.r (.pick (.tmp 15) (.tmp 19) (.cst (.bool false)))), none⟩,
  ⟨(.tmp 21), (.r (.mov (.tmp 20))), none⟩,
  ⟨(.tmp 22), (.r (.mov (.loc 2))), (some ((.tmp 21), true))⟩,
  ⟨(.tmp 23), (.r (.mov (.loc 0))), (some ((.tmp 21), true))⟩,
  ⟨(.tmp 24), (.call f_sector_Disk_Len [(.tmp 23)]), (some ((.tmp 21), true))⟩,
  ⟨(.tmp 25), (.r (.mov (.loc 1))), (some ((.tmp 21), true))⟩,
  ⟨(.tmp 26), (.r (.bin .sub (.tmp 24) (.tmp 25))), (some ((.tmp 21), true))⟩,
  ⟨(.tmp 27), (.r (.bin .leq (.tmp 22) (.tmp 26))), (some ((.tmp 21), true))⟩,
  ⟨(.tmp 28), (.r (.pick (.tmp 21) (.tmp 27) (.cst (.bool false)))), none⟩,
  ⟨(.tmp 29), (.r (.mov (.tmp 28))), none⟩,
  ⟨(.tmp 30), (.r (.mov (.loc 3))), (some ((.tmp 29), true))⟩,
  ⟨(.tmp 31), (.r (.bin .geq (.tmp 30) (.cst (.int .i64 1)))), (some ((.tmp 29), true))⟩,
  ⟨(.tmp 32), (.r (.pick (.tmp 29) (.tmp 31) (.cst (.bool false)))), none⟩,
  ⟨(.tmp 33), (.r (.mov (.tmp 32))), none⟩,
  ⟨(.tmp 34), (.r (.mov (.loc 3))), (some ((.tmp 33), true))⟩,
  ⟨(.tmp 35), (.r (.bin .leq (.tmp 34) (.cst (.int .i64 1099511627776)))), (some ((.tmp 33), true))⟩,
  ⟨(.tmp 36), (.r (.pick (.tmp 33) (.tmp 35) (.cst (.bool false)))), none⟩,
  ⟨(.loc 8), (.r (.mov (.tmp 36))), none⟩])
 .ret)), [(.tmp (.loc 8))]⟩

/-- glebe/journal.need -/
def c_journal_need : AFn := ⟨8, fun s => List.contains [0, 2] s, (.seq (.reg [⟨(.loc 2), (.r (.mov (.cst (.int .i64 0)))), none⟩])
 (.seq (.reg [⟨(.tmp 3), (.r (.mov (.loc 0))), none⟩,
  ⟨(.tmp 4), (.r (.bin .add (.tmp 3) (.cst (.int .i64 40)))), none⟩,
  ⟨(.tmp 5), (.r (.bin .sub (.tmp 4) (.cst (.int .i64 1)))), none⟩,
  ⟨(.tmp 6), (.r (.bin .quo (.tmp 5) (.cst (.int .i64 40)))), none⟩,
  ⟨(.tmp 7), (.r (.mnmx true [(.cst (.int .i64 1)), (.tmp 6)])), none⟩,
  ⟨(.loc 2), (.r (.mov (.tmp 7))), none⟩])
 .ret)), [(.tmp (.loc 2))]⟩

/-- glebe/journal.sectors -/
def c_journal_sectors (f_journal_sectors_f1 : FuncId) : AFn := ⟨8, fun s => List.contains [0, 1, 2, 3, 4, 5, 6] s, (.seq (.reg [⟨(.loc 3), (.h (.box (.loc 0))), none⟩,
  ⟨(.loc 4), (.h (.box (.loc 1))), none⟩,
  ⟨(.loc 5), (.h (.box (.loc 2))), none⟩,
  ⟨(.loc 6), (.r (.mov (.cst (.raw .nilFunc)))), none⟩])
 (.seq (.reg [⟨(.tmp 7), (.r (.clo f_journal_sectors_f1 [(.loc 5), (.loc 3), (.loc 4)])), none⟩,
  ⟨(.loc 6), (.r (.mov (.tmp 7))), none⟩])
 .ret)), [(.tmp (.loc 6))]⟩

/-- glebe/journal.piece -/
def c_journal_piece (f_sector_Disk_Read : FuncId) (f_pack_Read : FuncId) (f_pack_Reader_Int : FuncId) : AFn := ⟨45, fun s => List.contains [0, 1, 2, 3, 8, 9, 10, 11, 12, 13, 14, 27, 39] s, (.seq (.reg [⟨(.loc 8), (.r (.mov (.cst .nils))), none⟩,
  ⟨(.loc 9), (.r (.mov (.cst (.int .i64 0)))), none⟩,
  ⟨(.loc 10), (.r (.mov (.cst (.bool false)))), none⟩])
 (.seq (.reg [⟨(.tmp 16), (.r (.mov (.loc 0))), none⟩,
  ⟨(.tmp 17), (.r (.mov (.loc 1))), none⟩,
  ⟨(.tmp 18), (.call f_sector_Disk_Read [(.tmp 16), (.tmp 17)]), none⟩,
  ⟨(.tmp 15), (.r (.mov (.tmp 18))), none⟩,
  ⟨(.tmp 19), (.r (.ext (.tmp 15) 0)), none⟩,
  ⟨(.tmp 20), (.r (.ext (.tmp 15) 1)), none⟩,
  ⟨(.loc 11), (.r (.mov (.tmp 19))), none⟩,
  ⟨(.loc 12), (.r (.mov (.tmp 20))), none⟩])
 (.seq (.seq (.reg [⟨(.tmp 21), (.r (.mov (.loc 12))), none⟩,
  ⟨(.tmp 22), (.r (.bin .neq (.tmp 21) (.cst (.int .i64 0)))), none⟩,
  ⟨(.tmp 23), (.r (.mov (.tmp 22))), none⟩,
  ⟨(.tmp 24), (.r (.mov (.loc 11))), (some ((.tmp 23), false))⟩,
  ⟨(.tmp 25), (.r (.len (.tmp 24))), (some ((.tmp 23), false))⟩,
  ⟨(.tmp 26), (.r (.bin .lss (.tmp 25) (.cst (.int .i64 24)))), (some ((.tmp 23), false))⟩,
  ⟨(.loc 27), (.r (.pick (.tmp 23) (.cst (.bool true)) (.tmp 26))), none⟩])
 (.cond (.loc 27) (.seq (.reg [⟨(.loc 8), (.r (.mov (.cst .nils))), none⟩,
  ⟨(.loc 9), (.r (.mov (.cst (.int .i64 0)))), none⟩,
  ⟨(.loc 10), (.r (.mov (.cst (.bool false)))), none⟩])
 .ret)
 .skip))
 (.seq (.reg [⟨(.tmp 28), (.r (.mov (.loc 11))), none⟩,
  ⟨(.tmp 29), (.call f_pack_Read [(.tmp 28)]), none⟩,
  ⟨(.loc 13), (.r (.mov (.tmp 29))), none⟩])
 (.seq (.seq (.reg [⟨(.tmp 30), (.r (.mov (.loc 13))), none⟩,
  ⟨(.tmp 31), (.call f_pack_Reader_Int [(.tmp 30)]), none⟩,
  ⟨(.tmp 32), (.r (.mov (.loc 2))), none⟩,
  ⟨(.tmp 33), (.r (.bin .neq (.tmp 31) (.tmp 32))), none⟩,
  ⟨(.tmp 34), (.r (.mov (.tmp 33))), none⟩,
  ⟨(.tmp 35), (.r (.mov (.loc 13))), (some ((.tmp 34), false))⟩,
  ⟨(.tmp 36), (.call f_pack_Reader_Int [(.tmp 35)]), (some ((.tmp 34), false))⟩,
  ⟨(.tmp 37), (.r (.mov (.loc 3))), (some ((.tmp 34), false))⟩,
  ⟨(.tmp 38), (.r (.bin .neq (.tmp 36) (.tmp 37))), (some ((.tmp 34), false))⟩,
  ⟨(.loc 39), (.r (.pick (.tmp 34) (.cst (.bool true)) (.tmp 38))), none⟩])
 (.cond (.loc 39) (.seq (.reg [⟨(.loc 8), (.r (.mov (.cst .nils))), none⟩,
  ⟨(.loc 9), (.r (.mov (.cst (.int .i64 0)))), none⟩,
  ⟨(.loc 10), (.r (.mov (.cst (.bool false)))), none⟩])
 .ret)
 .skip))
 (.seq (.reg [⟨(.tmp 40), (.r (.mov (.loc 13))), none⟩,
  ⟨(.tmp 41), (.call f_pack_Reader_Int [(.tmp 40)]), none⟩,
  ⟨(.loc 14), (.r (.mov (.tmp 41))), none⟩])
 (.seq (.reg [⟨(.tmp 42), (.r (.mov (.loc 11))), none⟩,
  ⟨(.tmp 43), (.r (.slc 1 (.tmp 42) (some (.cst (.int .i64 24))) none none)), none⟩,
  ⟨(.tmp 44), (.r (.mov (.loc 14))), none⟩,
  ⟨(.loc 8), (.r (.mov (.tmp 43))), none⟩,
  ⟨(.loc 9), (.r (.mov (.tmp 44))), none⟩,
  ⟨(.loc 10), (.r (.mov (.cst (.bool true)))), none⟩])
 .ret))))))), [(.tmp (.loc 8)), (.tmp (.loc 9)), (.tmp (.loc 10))]⟩

/-- glebe/journal.sectors$1 -/
def y_journal_sectors_f1 (f_journal_need : FuncId) (f_pack_Int : FuncId) : RFn := ⟨47, fun s => List.contains [0, 1, 2, 3, 5, 6, 7, 8, 12, 13, 14, 21, 45] s, (.seq (.calm (.reg [⟨(.tmp 9), (.r (.load false 1 (.loc 1))), none⟩,
  ⟨(.tmp 10), (.r (.len (.tmp 9))), none⟩,
  ⟨(.tmp 11), (.call f_journal_need [(.tmp 10)]), none⟩,
  ⟨(.loc 5), (.r (.mov (.tmp 11))), none⟩]))
 (.seq (.calm (.reg [⟨(.loc 12), (.r (.mov (.loc 5))), none⟩,
  ⟨(.loc 13), (.r (.mov (.cst (.int .i64 0)))), none⟩]))
 (.block 0 (.loop (.seq (.calm (.reg [⟨(.loc 14), (.r (.bin .lss (.loc 13) (.loc 12))), none⟩]))
 (.seq (.calm (.cond (.loc 14) .skip
 (.exit 0)))
 (.seq (.block 1 (.seq (.calm (.reg [⟨(.tmp 15), (.r (.mov (.loc 13))), none⟩,
  ⟨(.loc 6), (.r (.mov (.tmp 15))), none⟩]))
 (.seq (.calm (.reg [⟨(.tmp 16), (.r (.mov (.loc 6))), none⟩,
  ⟨(.tmp 17), (.r (.bin .mul (.cst (.int .i64 2)) (.tmp 16))), none⟩,
  ⟨(.loc 7), (.r (.mov (.tmp 17))), none⟩]))
 (.seq (.calm (.seq (.reg [⟨(.tmp 18), (.r (.mov (.loc 6))), none⟩,
  ⟨(.tmp 19), (.r (.mov (.loc 5))), none⟩,
  ⟨(.tmp 20), (.r (.bin .sub (.tmp 19) (.cst (.int .i64 1)))), none⟩,
  ⟨(.loc 21), (.r (.bin .eql (.tmp 18) (.tmp 20))), none⟩])
 (.cond (.loc 21) (.reg [⟨(.tmp 22), (.r (.mov (.loc 7))), none⟩,
  ⟨(.tmp 23), (.r (.bin .add (.tmp 22) (.cst (.int .i64 1)))), none⟩,
  ⟨(.loc 7), (.r (.mov (.tmp 23))), none⟩])
 .skip)))
 (.seq (.calm (.dreg ⟨[0, 1, 0, 7, 0, 31, 63], 0, [⟨0, 0, false, (.r (.load false 1 (.loc 2))), none⟩,
  ⟨2, 0, false, (.r (.load false 1 (.loc 3))), none⟩,
  ⟨4, 0, false, (.r (.mov (.loc 7))), none⟩,
  ⟨1, 0, true, (.call f_pack_Int [(.cst .nils), (.tmp 0)]), none⟩,
  ⟨3, 0, true, (.call f_pack_Int [(.tmp 1), (.tmp 2)]), none⟩,
  ⟨5, 0, true, (.call f_pack_Int [(.tmp 3), (.tmp 4)]), none⟩,
  ⟨6, 0, false, (.r (.mov (.tmp 5))), none⟩], [(8, 6)]⟩))
 (.seq (.yop [⟨(.tmp 30), (.r (.mov (.loc 0))), none⟩,
  ⟨(.tmp 31), (.r (.mov (.loc 6))), none⟩,
  ⟨(.tmp 32), (.r (.mov (.loc 8))), none⟩,
  ⟨(.tmp 33), (.r (.load false 1 (.loc 1))), none⟩,
  ⟨(.tmp 34), (.r (.mov (.loc 6))), none⟩,
  ⟨(.tmp 35), (.r (.bin .mul (.tmp 34) (.cst (.int .i64 40)))), none⟩,
  ⟨(.tmp 36), (.r (.load false 1 (.loc 1))), none⟩,
  ⟨(.tmp 37), (.r (.len (.tmp 36))), none⟩,
  ⟨(.tmp 38), (.r (.mov (.loc 6))), none⟩,
  ⟨(.tmp 39), (.r (.bin .add (.tmp 38) (.cst (.int .i64 1)))), none⟩,
  ⟨(.tmp 40), (.r (.bin .mul (.tmp 39) (.cst (.int .i64 40)))), none⟩,
  ⟨(.tmp 41), (.r (.mnmx false [(.tmp 37), (.tmp 40)])), none⟩,
  ⟨(.tmp 42), (.r (.slc 1 (.tmp 33) (some (.tmp 35)) (some (.tmp 41)) none)), none⟩,
  ⟨(.tmp 43), (.h (.app 1 1 (.tmp 32) (.tmp 42))), none⟩] (.tmp 44) (.tmp 30) [(.tmp 31), (.tmp 43)] [⟨(.loc 45), (.r (.not (.tmp 44))), none⟩])
 (.calm (.cond (.loc 45) .ret
 .skip))))))))
 (.calm (.reg [⟨(.tmp 46), (.r (.bin .add (.loc 13) (.cst (.int .i64 1)))), none⟩,
  ⟨(.loc 13), (.r (.mov (.tmp 46))), none⟩]))))))))), []⟩

end Glb
