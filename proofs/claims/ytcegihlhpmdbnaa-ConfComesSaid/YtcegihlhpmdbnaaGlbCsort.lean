/-
  What functions of the program are, one by one (the functions that they call as parameters), in a form of which something can be shown.
-/
import Derived.Test.YtcegihlhpmdbnaaGlbLibB
set_option linter.unusedSimpArgs false
set_option linter.unusedVariables false
namespace Glb
open Go
set_option maxRecDepth 100000

/-- slices.Sort[[]int,int] -/
def c_slices_Sort_int_int (f_math_bits_Len : FuncId) (f_slices_pdqsortOrdered_int : FuncId) : AFn := ⟨11, fun s => List.contains [0, 2] s, (.seq (.reg [⟨(.tmp 3), (.r (.mov (.loc 0))), none⟩,
  ⟨(.tmp 4), (.r (.len (.tmp 3))), none⟩,
  ⟨(.loc 2), (.r (.mov (.tmp 4))), none⟩])
 (.reg [⟨(.tmp 5), (.r (.mov (.loc 0))), none⟩,
  ⟨(.tmp 6), (.r (.mov (.loc 2))), none⟩,
  ⟨(.tmp 7), (.r (.mov (.loc 2))), none⟩,
  ⟨(.tmp 8), (.r (.conv .u64 (.tmp 7))), none⟩,
  ⟨(.tmp 9), (.call f_math_bits_Len [(.tmp 8)]), none⟩,
  ⟨(.tmp 10), (.call f_slices_pdqsortOrdered_int [(.tmp 5), (.cst (.int .i64 0)), (.tmp 6), (.tmp 9)]), none⟩])), []⟩

/-- math/bits.Len -/
def c_math_bits_Len (f_math_bits_Len32 : FuncId) (f_math_bits_Len64 : FuncId) : AFn := ⟨8, fun s => List.contains [0, 2] s, (.seq (.reg [⟨(.loc 2), (.r (.mov (.cst (.int .i64 0)))), none⟩])
 (.seq (.cond (.cst (.bool false)) (.seq (.reg [⟨(.tmp 3), (.r (.mov (.loc 0))), none⟩,
  ⟨(.tmp 4), (.r (.conv .u32 (.tmp 3))), none⟩,
  ⟨(.tmp 5), (.call f_math_bits_Len32 [(.tmp 4)]), none⟩,
  ⟨(.loc 2), (.r (.mov (.tmp 5))), none⟩])
 .ret)
 .skip)
 (.seq (.reg [⟨(.tmp 6), (.r (.mov (.loc 0))), none⟩,
  ⟨(.tmp 7), (.call f_math_bits_Len64 [(.tmp 6)]), none⟩,
  ⟨(.loc 2), (.r (.mov (.tmp 7))), none⟩])
 .ret))), [(.tmp (.loc 2))]⟩

/-- math/bits.Len32 -/
def c_math_bits_Len32 : AFn := ⟨19, fun s => List.contains [0, 2, 4, 8] s, (.seq (.reg [⟨(.loc 2), (.r (.mov (.cst (.int .i64 0)))), none⟩])
 (.seq (.seq (.reg [⟨(.tmp 3), (.r (.mov (.loc 0))), none⟩,
  ⟨(.loc 4), (.r (.bin .geq (.tmp 3) (.cst (.int .u32 65536)))), none⟩])
 (.cond (.loc 4) (.seq (.reg [⟨(.tmp 5), (.r (.mov (.loc 0))), none⟩,
  ⟨(.tmp 6), (.r (.bin .shr (.tmp 5) (.cst (.int .u64 16)))), none⟩,
  ⟨(.loc 0), (.r (.mov (.tmp 6))), none⟩])
 (.reg [⟨(.loc 2), (.r (.mov (.cst (.int .i64 16)))), none⟩]))
 .skip))
 (.seq (.seq (.reg [⟨(.tmp 7), (.r (.mov (.loc 0))), none⟩,
  ⟨(.loc 8), (.r (.bin .geq (.tmp 7) (.cst (.int .u32 256)))), none⟩])
 (.cond (.loc 8) (.seq (.reg [⟨(.tmp 9), (.r (.mov (.loc 0))), none⟩,
  ⟨(.tmp 10), (.r (.bin .shr (.tmp 9) (.cst (.int .u64 8)))), none⟩,
  ⟨(.loc 0), (.r (.mov (.tmp 10))), none⟩])
 (.reg [⟨(.tmp 11), (.r (.mov (.loc 2))), none⟩,
  ⟨(.tmp 12), (.r (.bin .add (.tmp 11) (.cst (.int .i64 8)))), none⟩,
  ⟨(.loc 2), (.r (.mov (.tmp 12))), none⟩]))
 .skip))
 (.seq (.reg [⟨(.tmp 13), (.r (.mov (.loc 2))), none⟩,
  ⟨(.tmp 14), (.r (.mov (.loc 0))), none⟩,
  ⟨(.tmp 15), (.r (.conv .u8 (.tmp 14))), none⟩,
  ⟨(.tmp 16), (.r (.x (.sidx (.cst (.str ⟨#[0, 1, 2, 2, 3, 3, 3, 3, 4, 4, 4, 4, 4, 4, 4, 4, 5, 5, 5, 5, 5, 5, 5, 5, 5, 5, 5, 5, 5, 5, 5, 5, 6, 6, 6, 6, 6, 6, 6, 6, 6, 6, 6, 6, 6, 6, 6, 6, 6, 6, 6, 6, 6, 6, 6, 6, 6, 6, 6, 6, 6, 6, 6, 6, 7, 7, 7, 7, 7, 7, 7, 7, 7, 7, 7, 7, 7, 7, 7, 7, 7, 7, 7, 7, 7, 7, 7, 7, 7, 7, 7, 7, 7, 7, 7, 7, 7, 7, 7, 7, 7, 7, 7, 7, 7, 7, 7, 7, 7, 7, 7, 7, 7, 7, 7, 7, 7, 7, 7, 7, 7, 7, 7, 7, 7, 7, 7, 7, 8, 8, 8, 8, 8, 8, 8, 8, 8, 8, 8, 8, 8, 8, 8, 8, 8, 8, 8, 8, 8, 8, 8, 8, 8, 8, 8, 8, 8, 8, 8, 8, 8, 8, 8, 8, 8, 8, 8, 8, 8, 8, 8, 8, 8, 8, 8, 8, 8, 8, 8, 8, 8, 8, 8, 8, 8, 8, 8, 8, 8, 8, 8, 8, 8, 8, 8, 8, 8, 8, 8, 8, 8, 8, 8, 8, 8, 8, 8, 8, 8, 8, 8, 8, 8, 8, 8, 8, 8, 8, 8, 8, 8, 8, 8, 8, 8, 8, 8, 8, 8, 8, 8, 8, 8, 8, 8, 8, 8, 8, 8, 8, 8, 8, 8, 8, 8, 8, 8, 8, 8, 8, 8, 8, 8, 8, 8, 8]⟩)) (.tmp 15)))), none⟩,
  ⟨(.tmp 17), (.r (.conv .i64 (.tmp 16))), none⟩,
  ⟨(.tmp 18), (.r (.bin .add (.tmp 13) (.tmp 17))), none⟩,
  ⟨(.loc 2), (.r (.mov (.tmp 18))), none⟩])
 .ret)))), [(.tmp (.loc 2))]⟩

/-- math/bits.Len64 -/
def c_math_bits_Len64 : AFn := ⟨25, fun s => List.contains [0, 2, 4, 8, 14] s, (.seq (.reg [⟨(.loc 2), (.r (.mov (.cst (.int .i64 0)))), none⟩])
 (.seq (.seq (.reg [⟨(.tmp 3), (.r (.mov (.loc 0))), none⟩,
  ⟨(.loc 4), (.r (.bin .geq (.tmp 3) (.cst (.int .u64 4294967296)))), none⟩])
 (.cond (.loc 4) (.seq (.reg [⟨(.tmp 5), (.r (.mov (.loc 0))), none⟩,
  ⟨(.tmp 6), (.r (.bin .shr (.tmp 5) (.cst (.int .u64 32)))), none⟩,
  ⟨(.loc 0), (.r (.mov (.tmp 6))), none⟩])
 (.reg [⟨(.loc 2), (.r (.mov (.cst (.int .i64 32)))), none⟩]))
 .skip))
 (.seq (.seq (.reg [⟨(.tmp 7), (.r (.mov (.loc 0))), none⟩,
  ⟨(.loc 8), (.r (.bin .geq (.tmp 7) (.cst (.int .u64 65536)))), none⟩])
 (.cond (.loc 8) (.seq (.reg [⟨(.tmp 9), (.r (.mov (.loc 0))), none⟩,
  ⟨(.tmp 10), (.r (.bin .shr (.tmp 9) (.cst (.int .u64 16)))), none⟩,
  ⟨(.loc 0), (.r (.mov (.tmp 10))), none⟩])
 (.reg [⟨(.tmp 11), (.r (.mov (.loc 2))), none⟩,
  ⟨(.tmp 12), (.r (.bin .add (.tmp 11) (.cst (.int .i64 16)))), none⟩,
  ⟨(.loc 2), (.r (.mov (.tmp 12))), none⟩]))
 .skip))
 (.seq (.seq (.reg [⟨(.tmp 13), (.r (.mov (.loc 0))), none⟩,
  ⟨(.loc 14), (.r (.bin .geq (.tmp 13) (.cst (.int .u64 256)))), none⟩])
 (.cond (.loc 14) (.seq (.reg [⟨(.tmp 15), (.r (.mov (.loc 0))), none⟩,
  ⟨(.tmp 16), (.r (.bin .shr (.tmp 15) (.cst (.int .u64 8)))), none⟩,
  ⟨(.loc 0), (.r (.mov (.tmp 16))), none⟩])
 (.reg [⟨(.tmp 17), (.r (.mov (.loc 2))), none⟩,
  ⟨(.tmp 18), (.r (.bin .add (.tmp 17) (.cst (.int .i64 8)))), none⟩,
  ⟨(.loc 2), (.r (.mov (.tmp 18))), none⟩]))
 .skip))
 (.seq (.reg [⟨(.tmp 19), (.r (.mov (.loc 2))), none⟩,
  ⟨(.tmp 20), (.r (.mov (.loc 0))), none⟩,
  ⟨(.tmp 21), (.r (.conv .u8 (.tmp 20))), none⟩,
  ⟨(.tmp 22), (.r (.x (.sidx (.cst (.str ⟨#[0, 1, 2, 2, 3, 3, 3, 3, 4, 4, 4, 4, 4, 4, 4, 4, 5, 5, 5, 5, 5, 5, 5, 5, 5, 5, 5, 5, 5, 5, 5, 5, 6, 6, 6, 6, 6, 6, 6, 6, 6, 6, 6, 6, 6, 6, 6, 6, 6, 6, 6, 6, 6, 6, 6, 6, 6, 6, 6, 6, 6, 6, 6, 6, 7, 7, 7, 7, 7, 7, 7, 7, 7, 7, 7, 7, 7, 7, 7, 7, 7, 7, 7, 7, 7, 7, 7, 7, 7, 7, 7, 7, 7, 7, 7, 7, 7, 7, 7, 7, 7, 7, 7, 7, 7, 7, 7, 7, 7, 7, 7, 7, 7, 7, 7, 7, 7, 7, 7, 7, 7, 7, 7, 7, 7, 7, 7, 7, 8, 8, 8, 8, 8, 8, 8, 8, 8, 8, 8, 8, 8, 8, 8, 8, 8, 8, 8, 8, 8, 8, 8, 8, 8, 8, 8, 8, 8, 8, 8, 8, 8, 8, 8, 8, 8, 8, 8, 8, 8, 8, 8, 8, 8, 8, 8, 8, 8, 8, 8, 8, 8, 8, 8, 8, 8, 8, 8, 8, 8, 8, 8, 8, 8, 8, 8, 8, 8, 8, 8, 8, 8, 8, 8, 8, 8, 8, 8, 8, 8, 8, 8, 8, 8, 8, 8, 8, 8, 8, 8, 8, 8, 8, 8, 8, 8, 8, 8, 8, 8, 8, 8, 8, 8, 8, 8, 8, 8, 8, 8, 8, 8, 8, 8, 8, 8, 8, 8, 8, 8, 8, 8, 8, 8, 8, 8, 8]⟩)) (.tmp 21)))), none⟩,
  ⟨(.tmp 23), (.r (.conv .i64 (.tmp 22))), none⟩,
  ⟨(.tmp 24), (.r (.bin .add (.tmp 19) (.tmp 23))), none⟩,
  ⟨(.loc 2), (.r (.mov (.tmp 24))), none⟩])
 .ret))))), [(.tmp (.loc 2))]⟩

def c_slices_pdqsortOrdered_int_l0 (f_slices_insertionSortOrdered_int : FuncId) (f_slices_heapSortOrdered_int : FuncId) (f_slices_breakPatternsOrdered_int : FuncId) (f_slices_choosePivotOrdered_int : FuncId) (f_slices_reverseRangeOrdered_int : FuncId) (f_slices_partialInsertionSortOrdered_int : FuncId) (f_cmp_Less_int : FuncId) (f_slices_partitionEqualOrdered_int : FuncId) (f_slices_partitionOrdered_int : FuncId) (f_slices_pdqsortOrdered_int : FuncId) : AC := (.block 1 (.seq (.reg [⟨(.tmp 19), (.r (.mov (.loc 2))), none⟩,
  ⟨(.tmp 20), (.r (.mov (.loc 1))), none⟩,
  ⟨(.tmp 21), (.r (.bin .sub (.tmp 19) (.tmp 20))), none⟩,
  ⟨(.loc 10), (.r (.mov (.tmp 21))), none⟩])
 (.seq (.seq (.reg [⟨(.tmp 22), (.r (.mov (.loc 10))), none⟩,
  ⟨(.loc 23), (.r (.bin .leq (.tmp 22) (.cst (.int .i64 12)))), none⟩])
 (.cond (.loc 23) (.seq (.reg [⟨(.tmp 24), (.r (.mov (.loc 0))), none⟩,
  ⟨(.tmp 25), (.r (.mov (.loc 1))), none⟩,
  ⟨(.tmp 26), (.r (.mov (.loc 2))), none⟩,
  ⟨(.tmp 27), (.call f_slices_insertionSortOrdered_int [(.tmp 24), (.tmp 25), (.tmp 26)]), none⟩])
 .ret)
 .skip))
 (.seq (.seq (.reg [⟨(.tmp 28), (.r (.mov (.loc 3))), none⟩,
  ⟨(.loc 29), (.r (.bin .eql (.tmp 28) (.cst (.int .i64 0)))), none⟩])
 (.cond (.loc 29) (.seq (.reg [⟨(.tmp 30), (.r (.mov (.loc 0))), none⟩,
  ⟨(.tmp 31), (.r (.mov (.loc 1))), none⟩,
  ⟨(.tmp 32), (.r (.mov (.loc 2))), none⟩,
  ⟨(.tmp 33), (.call f_slices_heapSortOrdered_int [(.tmp 30), (.tmp 31), (.tmp 32)]), none⟩])
 .ret)
 .skip))
 (.seq (.seq (.reg [⟨(.tmp 34), (.r (.mov (.loc 8))), none⟩,
  ⟨(.loc 35), (.r (.not (.tmp 34))), none⟩])
 (.cond (.loc 35) (.seq (.reg [⟨(.tmp 36), (.r (.mov (.loc 0))), none⟩,
  ⟨(.tmp 37), (.r (.mov (.loc 1))), none⟩,
  ⟨(.tmp 38), (.r (.mov (.loc 2))), none⟩,
  ⟨(.tmp 39), (.call f_slices_breakPatternsOrdered_int [(.tmp 36), (.tmp 37), (.tmp 38)]), none⟩])
 (.reg [⟨(.tmp 40), (.r (.mov (.loc 3))), none⟩,
  ⟨(.tmp 41), (.r (.bin .sub (.tmp 40) (.cst (.int .i64 1)))), none⟩,
  ⟨(.loc 3), (.r (.mov (.tmp 41))), none⟩]))
 .skip))
 (.seq (.reg [⟨(.tmp 43), (.r (.mov (.loc 0))), none⟩,
  ⟨(.tmp 44), (.r (.mov (.loc 1))), none⟩,
  ⟨(.tmp 45), (.r (.mov (.loc 2))), none⟩,
  ⟨(.tmp 46), (.call f_slices_choosePivotOrdered_int [(.tmp 43), (.tmp 44), (.tmp 45)]), none⟩,
  ⟨(.tmp 42), (.r (.mov (.tmp 46))), none⟩,
  ⟨(.tmp 47), (.r (.ext (.tmp 42) 0)), none⟩,
  ⟨(.tmp 48), (.r (.ext (.tmp 42) 1)), none⟩,
  ⟨(.loc 11), (.r (.mov (.tmp 47))), none⟩,
  ⟨(.loc 12), (.r (.mov (.tmp 48))), none⟩])
 (.seq (.seq (.reg [⟨(.tmp 49), (.r (.mov (.loc 12))), none⟩,
  ⟨(.loc 50), (.r (.bin .eql (.tmp 49) (.cst (.int .i64 2)))), none⟩])
 (.cond (.loc 50) (.seq (.reg [⟨(.tmp 51), (.r (.mov (.loc 0))), none⟩,
  ⟨(.tmp 52), (.r (.mov (.loc 1))), none⟩,
  ⟨(.tmp 53), (.r (.mov (.loc 2))), none⟩,
  ⟨(.tmp 54), (.call f_slices_reverseRangeOrdered_int [(.tmp 51), (.tmp 52), (.tmp 53)]), none⟩])
 (.seq (.reg [⟨(.tmp 55), (.r (.mov (.loc 2))), none⟩,
  ⟨(.tmp 56), (.r (.bin .sub (.tmp 55) (.cst (.int .i64 1)))), none⟩,
  ⟨(.tmp 57), (.r (.mov (.loc 11))), none⟩,
  ⟨(.tmp 58), (.r (.mov (.loc 1))), none⟩,
  ⟨(.tmp 59), (.r (.bin .sub (.tmp 57) (.tmp 58))), none⟩,
  ⟨(.tmp 60), (.r (.bin .sub (.tmp 56) (.tmp 59))), none⟩,
  ⟨(.loc 11), (.r (.mov (.tmp 60))), none⟩])
 (.reg [⟨(.loc 12), (.r (.mov (.cst (.int .i64 1)))), none⟩])))
 .skip))
 (.seq (.seq (.reg [⟨(.tmp 61), (.r (.mov (.loc 8))), none⟩,
  ⟨(.tmp 62), (.r (.mov (.tmp 61))), none⟩,
  ⟨(.tmp 63), (.r (.mov (.loc 9))), (some ((.tmp 62), true))⟩,
  ⟨(.tmp 64), (.r (.pick (.tmp 62) (.tmp 63) (.cst (.bool false)))), none⟩,
  ⟨(.tmp 65), (.r (.mov (.tmp 64))), none⟩,
  ⟨(.tmp 66), (.r (.mov (.loc 12))), (some ((.tmp 65), true))⟩,
  ⟨(.tmp 67), (.r (.bin .eql (.tmp 66) (.cst (.int .i64 1)))), (some ((.tmp 65), true))⟩,
  ⟨(.loc 68), (.r (.pick (.tmp 65) (.tmp 67) (.cst (.bool false)))), none⟩])
 (.cond (.loc 68) (.seq (.reg [⟨(.tmp 69), (.r (.mov (.loc 0))), none⟩,
  ⟨(.tmp 70), (.r (.mov (.loc 1))), none⟩,
  ⟨(.tmp 71), (.r (.mov (.loc 2))), none⟩,
  ⟨(.loc 72), (.call f_slices_partialInsertionSortOrdered_int [(.tmp 69), (.tmp 70), (.tmp 71)]), none⟩])
 (.cond (.loc 72) .ret
 .skip))
 .skip))
 (.seq (.seq (.dreg ⟨[0, 1, 3, 7, 7, 23, 63, 127, 7, 7, 775, 1799, 4095, 8191, 16383], 0, [⟨0, 0, false, (.r (.mov (.loc 1))), none⟩,
  ⟨1, 0, false, (.r (.bin .gtr (.tmp 0) (.cst (.int .i64 0)))), none⟩,
  ⟨2, 0, false, (.r (.mov (.tmp 1))), none⟩,
  ⟨3, 0, false, (.r (.mov (.loc 0))), (some ((.tmp 2), true))⟩,
  ⟨4, 0, false, (.r (.mov (.loc 1))), (some ((.tmp 2), true))⟩,
  ⟨5, 0, false, (.r (.bin .sub (.tmp 4) (.cst (.int .i64 1)))), (some ((.tmp 2), true))⟩,
  ⟨6, 0, false, (.r (.idx 1 (.tmp 3) (.tmp 5))), (some ((.tmp 2), true))⟩,
  ⟨7, 0, false, (.r (.load false 1 (.tmp 6))), (some ((.tmp 2), true))⟩,
  ⟨8, 0, false, (.r (.mov (.loc 0))), (some ((.tmp 2), true))⟩,
  ⟨9, 0, false, (.r (.mov (.loc 11))), (some ((.tmp 2), true))⟩,
  ⟨10, 0, false, (.r (.idx 1 (.tmp 8) (.tmp 9))), (some ((.tmp 2), true))⟩,
  ⟨11, 0, false, (.r (.load false 1 (.tmp 10))), (some ((.tmp 2), true))⟩,
  ⟨12, 0, true, (.call f_cmp_Less_int [(.tmp 7), (.tmp 11)]), (some ((.tmp 2), true))⟩,
  ⟨13, 0, false, (.r (.not (.tmp 12))), (some ((.tmp 2), true))⟩,
  ⟨14, 0, false, (.r (.pick (.tmp 2) (.tmp 13) (.cst (.bool false)))), none⟩], [(87, 14)]⟩)
 (.cond (.loc 87) (.seq (.reg [⟨(.tmp 88), (.r (.mov (.loc 0))), none⟩,
  ⟨(.tmp 89), (.r (.mov (.loc 1))), none⟩,
  ⟨(.tmp 90), (.r (.mov (.loc 2))), none⟩,
  ⟨(.tmp 91), (.r (.mov (.loc 11))), none⟩,
  ⟨(.tmp 92), (.call f_slices_partitionEqualOrdered_int [(.tmp 88), (.tmp 89), (.tmp 90), (.tmp 91)]), none⟩,
  ⟨(.loc 13), (.r (.mov (.tmp 92))), none⟩])
 (.seq (.reg [⟨(.tmp 93), (.r (.mov (.loc 13))), none⟩,
  ⟨(.loc 1), (.r (.mov (.tmp 93))), none⟩])
 (.exit 1)))
 .skip))
 (.seq (.reg [⟨(.tmp 95), (.r (.mov (.loc 0))), none⟩,
  ⟨(.tmp 96), (.r (.mov (.loc 1))), none⟩,
  ⟨(.tmp 97), (.r (.mov (.loc 2))), none⟩,
  ⟨(.tmp 98), (.r (.mov (.loc 11))), none⟩,
  ⟨(.tmp 99), (.call f_slices_partitionOrdered_int [(.tmp 95), (.tmp 96), (.tmp 97), (.tmp 98)]), none⟩,
  ⟨(.tmp 94), (.r (.mov (.tmp 99))), none⟩,
  ⟨(.tmp 100), (.r (.ext (.tmp 94) 0)), none⟩,
  ⟨(.tmp 101), (.r (.ext (.tmp 94) 1)), none⟩,
  ⟨(.loc 14), (.r (.mov (.tmp 100))), none⟩,
  ⟨(.loc 15), (.r (.mov (.tmp 101))), none⟩])
 (.seq (.reg [⟨(.tmp 102), (.r (.mov (.loc 15))), none⟩,
  ⟨(.loc 9), (.r (.mov (.tmp 102))), none⟩])
 (.seq (.reg [⟨(.tmp 103), (.r (.mov (.loc 14))), none⟩,
  ⟨(.tmp 104), (.r (.mov (.loc 1))), none⟩,
  ⟨(.tmp 105), (.r (.bin .sub (.tmp 103) (.tmp 104))), none⟩,
  ⟨(.tmp 106), (.r (.mov (.loc 2))), none⟩,
  ⟨(.tmp 107), (.r (.mov (.loc 14))), none⟩,
  ⟨(.tmp 108), (.r (.bin .sub (.tmp 106) (.tmp 107))), none⟩,
  ⟨(.loc 16), (.r (.mov (.tmp 105))), none⟩,
  ⟨(.loc 17), (.r (.mov (.tmp 108))), none⟩])
 (.seq (.reg [⟨(.tmp 109), (.r (.mov (.loc 10))), none⟩,
  ⟨(.tmp 110), (.r (.bin .quo (.tmp 109) (.cst (.int .i64 8)))), none⟩,
  ⟨(.loc 18), (.r (.mov (.tmp 110))), none⟩])
 (.seq (.reg [⟨(.tmp 111), (.r (.mov (.loc 16))), none⟩,
  ⟨(.tmp 112), (.r (.mov (.loc 17))), none⟩,
  ⟨(.loc 113), (.r (.bin .lss (.tmp 111) (.tmp 112))), none⟩])
 (.cond (.loc 113) (.seq (.reg [⟨(.tmp 114), (.r (.mov (.loc 16))), none⟩,
  ⟨(.tmp 115), (.r (.mov (.loc 18))), none⟩,
  ⟨(.tmp 116), (.r (.bin .geq (.tmp 114) (.tmp 115))), none⟩,
  ⟨(.loc 8), (.r (.mov (.tmp 116))), none⟩])
 (.seq (.reg [⟨(.tmp 117), (.r (.mov (.loc 0))), none⟩,
  ⟨(.tmp 118), (.r (.mov (.loc 1))), none⟩,
  ⟨(.tmp 119), (.r (.mov (.loc 14))), none⟩,
  ⟨(.tmp 120), (.r (.mov (.loc 3))), none⟩,
  ⟨(.tmp 121), (.call f_slices_pdqsortOrdered_int [(.tmp 117), (.tmp 118), (.tmp 119), (.tmp 120)]), none⟩])
 (.reg [⟨(.tmp 122), (.r (.mov (.loc 14))), none⟩,
  ⟨(.tmp 123), (.r (.bin .add (.tmp 122) (.cst (.int .i64 1)))), none⟩,
  ⟨(.loc 1), (.r (.mov (.tmp 123))), none⟩])))
 (.seq (.reg [⟨(.tmp 124), (.r (.mov (.loc 17))), none⟩,
  ⟨(.tmp 125), (.r (.mov (.loc 18))), none⟩,
  ⟨(.tmp 126), (.r (.bin .geq (.tmp 124) (.tmp 125))), none⟩,
  ⟨(.loc 8), (.r (.mov (.tmp 126))), none⟩])
 (.seq (.reg [⟨(.tmp 127), (.r (.mov (.loc 0))), none⟩,
  ⟨(.tmp 128), (.r (.mov (.loc 14))), none⟩,
  ⟨(.tmp 129), (.r (.bin .add (.tmp 128) (.cst (.int .i64 1)))), none⟩,
  ⟨(.tmp 130), (.r (.mov (.loc 2))), none⟩,
  ⟨(.tmp 131), (.r (.mov (.loc 3))), none⟩,
  ⟨(.tmp 132), (.call f_slices_pdqsortOrdered_int [(.tmp 127), (.tmp 129), (.tmp 130), (.tmp 131)]), none⟩])
 (.reg [⟨(.tmp 133), (.r (.mov (.loc 14))), none⟩,
  ⟨(.loc 2), (.r (.mov (.tmp 133))), none⟩]))))))))))))))))))
/-- slices.pdqsortOrdered[int] -/
def c_slices_pdqsortOrdered_int (f_slices_insertionSortOrdered_int : FuncId) (f_slices_heapSortOrdered_int : FuncId) (f_slices_breakPatternsOrdered_int : FuncId) (f_slices_choosePivotOrdered_int : FuncId) (f_slices_reverseRangeOrdered_int : FuncId) (f_slices_partialInsertionSortOrdered_int : FuncId) (f_cmp_Less_int : FuncId) (f_slices_partitionEqualOrdered_int : FuncId) (f_slices_partitionOrdered_int : FuncId) (f_slices_pdqsortOrdered_int : FuncId) : AFn := ⟨134, fun s => List.contains [0, 1, 2, 3, 8, 9, 10, 11, 12, 13, 14, 15, 16, 17, 18, 23, 29, 35, 50, 68, 72, 87, 113] s, (.seq (.reg [⟨(.loc 8), (.r (.mov (.cst (.bool true)))), none⟩])
 (.seq (.reg [⟨(.loc 9), (.r (.mov (.cst (.bool true)))), none⟩])
 (.block 0 (.loop (c_slices_pdqsortOrdered_int_l0 f_slices_insertionSortOrdered_int f_slices_heapSortOrdered_int f_slices_breakPatternsOrdered_int f_slices_choosePivotOrdered_int f_slices_reverseRangeOrdered_int f_slices_partialInsertionSortOrdered_int f_cmp_Less_int f_slices_partitionEqualOrdered_int f_slices_partitionOrdered_int f_slices_pdqsortOrdered_int))))), []⟩

def c_slices_insertionSortOrdered_int_l0 (f_cmp_Less_int : FuncId) : AC := (.seq (.seq (.dreg ⟨[0, 0, 3, 7, 15, 15, 63, 127, 15, 15, 527, 1807, 3855, 8191, 16383], 0, [⟨0, 0, false, (.r (.mov (.loc 7))), none⟩,
  ⟨1, 0, false, (.r (.mov (.loc 1))), none⟩,
  ⟨2, 0, false, (.r (.bin .gtr (.tmp 0) (.tmp 1))), none⟩,
  ⟨3, 0, false, (.r (.mov (.tmp 2))), none⟩,
  ⟨4, 0, false, (.r (.mov (.loc 0))), (some ((.tmp 3), true))⟩,
  ⟨5, 0, false, (.r (.mov (.loc 7))), (some ((.tmp 3), true))⟩,
  ⟨6, 0, false, (.r (.idx 1 (.tmp 4) (.tmp 5))), (some ((.tmp 3), true))⟩,
  ⟨7, 0, false, (.r (.load false 1 (.tmp 6))), (some ((.tmp 3), true))⟩,
  ⟨8, 0, false, (.r (.mov (.loc 0))), (some ((.tmp 3), true))⟩,
  ⟨9, 0, false, (.r (.mov (.loc 7))), (some ((.tmp 3), true))⟩,
  ⟨10, 0, false, (.r (.bin .sub (.tmp 9) (.cst (.int .i64 1)))), (some ((.tmp 3), true))⟩,
  ⟨11, 0, false, (.r (.idx 1 (.tmp 8) (.tmp 10))), (some ((.tmp 3), true))⟩,
  ⟨12, 0, false, (.r (.load false 1 (.tmp 11))), (some ((.tmp 3), true))⟩,
  ⟨13, 0, true, (.call f_cmp_Less_int [(.tmp 7), (.tmp 12)]), (some ((.tmp 3), true))⟩,
  ⟨14, 0, false, (.r (.pick (.tmp 3) (.tmp 13) (.cst (.bool false)))), none⟩], [(30, 14)]⟩)
 (.cond (.loc 30) .skip
 (.exit 2)))
 (.seq (.block 3 (.dreg ⟨[0, 0, 0, 0, 8, 0, 0, 64, 224, 480, 0, 0, 3072, 7168, 16355, 32739, 65535, 131071], 0, [⟨0, 0, false, (.r (.mov (.loc 0))), none⟩,
  ⟨1, 0, false, (.r (.mov (.loc 7))), none⟩,
  ⟨2, 0, false, (.r (.mov (.loc 0))), none⟩,
  ⟨3, 0, false, (.r (.mov (.loc 7))), none⟩,
  ⟨4, 0, false, (.r (.bin .sub (.tmp 3) (.cst (.int .i64 1)))), none⟩,
  ⟨5, 0, false, (.r (.mov (.loc 0))), none⟩,
  ⟨6, 0, false, (.r (.mov (.loc 7))), none⟩,
  ⟨7, 0, false, (.r (.bin .sub (.tmp 6) (.cst (.int .i64 1)))), none⟩,
  ⟨8, 0, false, (.r (.idx 1 (.tmp 5) (.tmp 7))), none⟩,
  ⟨9, 0, false, (.r (.load false 1 (.tmp 8))), none⟩,
  ⟨10, 0, false, (.r (.mov (.loc 0))), none⟩,
  ⟨11, 0, false, (.r (.mov (.loc 7))), none⟩,
  ⟨12, 0, false, (.r (.idx 1 (.tmp 10) (.tmp 11))), none⟩,
  ⟨13, 0, false, (.r (.load false 1 (.tmp 12))), none⟩,
  ⟨14, 0, false, (.r (.idx 1 (.tmp 0) (.tmp 1))), none⟩,
  ⟨15, 0, true, (.h (.store 1 (.tmp 14) (.tmp 9))), none⟩,
  ⟨16, 0, false, (.r (.idx 1 (.tmp 2) (.tmp 4))), none⟩,
  ⟨17, 0, true, (.h (.store 1 (.tmp 16) (.tmp 13))), none⟩], []⟩))
 (.reg [⟨(.tmp 31), (.r (.mov (.loc 7))), none⟩,
  ⟨(.tmp 32), (.r (.bin .sub (.tmp 31) (.cst (.int .i64 1)))), none⟩,
  ⟨(.loc 7), (.r (.mov (.tmp 32))), none⟩])))
def c_slices_insertionSortOrdered_int_l1 (f_cmp_Less_int : FuncId) : AC := (.seq (.seq (.reg [⟨(.tmp 10), (.r (.mov (.loc 6))), none⟩,
  ⟨(.tmp 11), (.r (.mov (.loc 2))), none⟩,
  ⟨(.loc 12), (.r (.bin .lss (.tmp 10) (.tmp 11))), none⟩])
 (.cond (.loc 12) .skip
 (.exit 0)))
 (.seq (.block 1 (.seq (.reg [⟨(.tmp 15), (.r (.mov (.loc 6))), none⟩,
  ⟨(.loc 7), (.r (.mov (.tmp 15))), none⟩])
 (.block 2 (.loop (c_slices_insertionSortOrdered_int_l0 f_cmp_Less_int)))))
 (.reg [⟨(.tmp 13), (.r (.mov (.loc 6))), none⟩,
  ⟨(.tmp 14), (.r (.bin .add (.tmp 13) (.cst (.int .i64 1)))), none⟩,
  ⟨(.loc 6), (.r (.mov (.tmp 14))), none⟩])))
/-- slices.insertionSortOrdered[int] -/
def c_slices_insertionSortOrdered_int (f_cmp_Less_int : FuncId) : AFn := ⟨49, fun s => List.contains [0, 1, 2, 6, 7, 12, 30] s, (.seq (.reg [⟨(.tmp 8), (.r (.mov (.loc 1))), none⟩,
  ⟨(.tmp 9), (.r (.bin .add (.tmp 8) (.cst (.int .i64 1)))), none⟩,
  ⟨(.loc 6), (.r (.mov (.tmp 9))), none⟩])
 (.block 0 (.loop (c_slices_insertionSortOrdered_int_l1 f_cmp_Less_int)))), []⟩

/-- cmp.Less[int] -/
def c_cmp_Less_int (f_cmp_isNaN_int : FuncId) : AFn := ⟨17, fun s => List.contains [0, 1, 4] s, (.seq (.reg [⟨(.loc 4), (.r (.mov (.cst (.bool false)))), none⟩])
 (.seq (.reg [⟨(.tmp 5), (.r (.mov (.loc 0))), none⟩,
  ⟨(.tmp 6), (.call f_cmp_isNaN_int [(.tmp 5)]), none⟩,
  ⟨(.tmp 7), (.r (.mov (.tmp 6))), none⟩,
  ⟨(.tmp 8), (.r (.mov (.loc 1))), (some ((.tmp 7), true))⟩,
  ⟨(.tmp 9), (.call f_cmp_isNaN_int [(.tmp 8)]), (some ((.tmp 7), true))⟩,
  ⟨(.tmp 10), (.r (.not (.tmp 9))), (some ((.tmp 7), true))⟩,
  ⟨(.tmp 11), (.r (.pick (.tmp 7) (.tmp 10) (.cst (.bool false)))), none⟩,
  ⟨(.tmp 12), (.r (.mov (.tmp 11))), none⟩,
  ⟨(.tmp 13), (.r (.mov (.loc 0))), (some ((.tmp 12), false))⟩,
  ⟨(.tmp 14), (.r (.mov (.loc 1))), (some ((.tmp 12), false))⟩,
  ⟨(.tmp 15), (.r (.bin .lss (.tmp 13) (.tmp 14))), (some ((.tmp 12), false))⟩,
  ⟨(.tmp 16), (.r (.pick (.tmp 12) (.cst (.bool true)) (.tmp 15))), none⟩,
  ⟨(.loc 4), (.r (.mov (.tmp 16))), none⟩])
 .ret)), [(.tmp (.loc 4))]⟩

/-- cmp.isNaN[int] -/
def c_cmp_isNaN_int : AFn := ⟨6, fun s => List.contains [0, 2] s, (.seq (.reg [⟨(.loc 2), (.r (.mov (.cst (.bool false)))), none⟩])
 (.seq (.reg [⟨(.tmp 3), (.r (.mov (.loc 0))), none⟩,
  ⟨(.tmp 4), (.r (.mov (.loc 0))), none⟩,
  ⟨(.tmp 5), (.r (.bin .neq (.tmp 3) (.tmp 4))), none⟩,
  ⟨(.loc 2), (.r (.mov (.tmp 5))), none⟩])
 .ret)), [(.tmp (.loc 2))]⟩

end Glb
