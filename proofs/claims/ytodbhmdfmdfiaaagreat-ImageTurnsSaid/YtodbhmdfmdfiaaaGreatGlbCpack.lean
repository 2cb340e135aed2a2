/-
  What functions of the program are, one by one (the functions that they call as parameters), in a form of which something can be shown.
-/
import Derived.Test.YtodbhmdfmdfiaaaGreatGlbLibB
set_option linter.unusedSimpArgs false
set_option linter.unusedVariables false
namespace Glb
open Go
set_option maxRecDepth 100000

/-- glebe/image.putConf -/
def c_image_putConf (f_pack_Ints : FuncId) : AFn := ⟨15, fun s => List.contains [0, 1, 3, 4] s, (.seq (.reg [⟨(.loc 3), (.h (.box (.loc 1))), none⟩,
  ⟨(.loc 4), (.r (.mov (.cst .nils))), none⟩])
 (.seq (.dreg ⟨[0, 0, 2, 7, 0, 16, 63, 0, 128, 511, 1023], 0, [⟨0, 0, false, (.r (.mov (.loc 0))), none⟩,
  ⟨1, 0, false, (.r (.off 0 (.loc 3))), none⟩,
  ⟨2, 0, false, (.r (.load false 1 (.tmp 1))), none⟩,
  ⟨4, 0, false, (.r (.off 1 (.loc 3))), none⟩,
  ⟨5, 0, false, (.r (.load false 1 (.tmp 4))), none⟩,
  ⟨7, 0, false, (.r (.off 2 (.loc 3))), none⟩,
  ⟨8, 0, false, (.r (.load false 1 (.tmp 7))), none⟩,
  ⟨3, 0, true, (.call f_pack_Ints [(.tmp 0), (.tmp 2)]), none⟩,
  ⟨6, 0, true, (.call f_pack_Ints [(.tmp 3), (.tmp 5)]), none⟩,
  ⟨9, 0, true, (.call f_pack_Ints [(.tmp 6), (.tmp 8)]), none⟩,
  ⟨10, 0, false, (.r (.mov (.tmp 9))), none⟩], [(4, 10)]⟩)
 .ret)), [(.tmp (.loc 4))]⟩

/-- glebe/pack.Blob -/
def c_pack_Blob (f_pack_room : FuncId) (f_pack_number : FuncId) : AFn := ⟨15, fun s => List.contains [0, 1, 4] s, (.seq (.reg [⟨(.loc 4), (.r (.mov (.cst .nils))), none⟩])
 (.seq (.reg [⟨(.tmp 5), (.r (.mov (.loc 0))), none⟩,
  ⟨(.tmp 6), (.r (.mov (.loc 1))), none⟩,
  ⟨(.tmp 7), (.r (.len (.tmp 6))), none⟩,
  ⟨(.tmp 8), (.r (.bin .add (.cst (.int .i64 8)) (.tmp 7))), none⟩,
  ⟨(.tmp 9), (.call f_pack_room [(.tmp 5), (.tmp 8)]), none⟩,
  ⟨(.tmp 10), (.r (.mov (.loc 1))), none⟩,
  ⟨(.tmp 11), (.r (.len (.tmp 10))), none⟩,
  ⟨(.tmp 12), (.call f_pack_number [(.tmp 9), (.tmp 11)]), none⟩,
  ⟨(.tmp 13), (.r (.mov (.loc 1))), none⟩,
  ⟨(.tmp 14), (.h (.app 1 1 (.tmp 12) (.tmp 13))), none⟩,
  ⟨(.loc 4), (.r (.mov (.tmp 14))), none⟩])
 .ret)), [(.tmp (.loc 4))]⟩

def c_pack_Ints_l0 (f_pack_room : FuncId) (f_pack_number : FuncId) : AC := (.seq (.reg [⟨(.loc 20), (.r (.bin .lss (.loc 19) (.loc 18))), none⟩])
 (.seq (.cond (.loc 20) .skip
 (.exit 0))
 (.seq (.block 1 (.seq (.reg [⟨(.tmp 21), (.r (.idx 1 (.loc 17) (.loc 19))), none⟩,
  ⟨(.tmp 22), (.r (.load false 1 (.tmp 21))), none⟩,
  ⟨(.loc 7), (.r (.mov (.tmp 22))), none⟩])
 (.reg [⟨(.tmp 23), (.r (.mov (.loc 5))), none⟩,
  ⟨(.tmp 24), (.r (.mov (.loc 7))), none⟩,
  ⟨(.tmp 25), (.call f_pack_number [(.tmp 23), (.tmp 24)]), none⟩,
  ⟨(.loc 5), (.r (.mov (.tmp 25))), none⟩])))
 (.reg [⟨(.tmp 26), (.r (.bin .add (.loc 19) (.cst (.int .i64 1)))), none⟩,
  ⟨(.loc 19), (.r (.mov (.tmp 26))), none⟩]))))
/-- glebe/pack.Ints -/
def c_pack_Ints (f_pack_room : FuncId) (f_pack_number : FuncId) : AFn := ⟨28, fun s => List.contains [0, 1, 4, 5, 7, 17, 18, 19, 20] s, (.seq (.reg [⟨(.loc 4), (.r (.mov (.cst .nils))), none⟩])
 (.seq (.reg [⟨(.tmp 8), (.r (.mov (.loc 0))), none⟩,
  ⟨(.tmp 9), (.r (.mov (.loc 1))), none⟩,
  ⟨(.tmp 10), (.r (.len (.tmp 9))), none⟩,
  ⟨(.tmp 11), (.r (.bin .mul (.cst (.int .i64 8)) (.tmp 10))), none⟩,
  ⟨(.tmp 12), (.r (.bin .add (.cst (.int .i64 8)) (.tmp 11))), none⟩,
  ⟨(.tmp 13), (.call f_pack_room [(.tmp 8), (.tmp 12)]), none⟩,
  ⟨(.tmp 14), (.r (.mov (.loc 1))), none⟩,
  ⟨(.tmp 15), (.r (.len (.tmp 14))), none⟩,
  ⟨(.tmp 16), (.call f_pack_number [(.tmp 13), (.tmp 15)]), none⟩,
  ⟨(.loc 5), (.r (.mov (.tmp 16))), none⟩])
 (.seq (.seq (.reg [⟨(.loc 17), (.r (.mov (.loc 1))), none⟩,
  ⟨(.loc 18), (.r (.len (.loc 17))), none⟩,
  ⟨(.loc 19), (.r (.mov (.cst (.int .i64 0)))), none⟩])
 (.block 0 (.loop (c_pack_Ints_l0 f_pack_room f_pack_number))))
 (.seq (.reg [⟨(.tmp 27), (.r (.mov (.loc 5))), none⟩,
  ⟨(.loc 4), (.r (.mov (.tmp 27))), none⟩])
 .ret)))), [(.tmp (.loc 4))]⟩

def c_pack_number_l0 : AC := (.seq (.seq (.reg [⟨(.tmp 6), (.r (.mov (.loc 5))), none⟩,
  ⟨(.loc 7), (.r (.bin .geq (.tmp 6) (.cst (.int .i64 0)))), none⟩])
 (.cond (.loc 7) .skip
 (.exit 0)))
 (.seq (.block 1 (.reg [⟨(.tmp 10), (.r (.mov (.loc 0))), none⟩,
  ⟨(.tmp 11), (.r (.mov (.loc 1))), none⟩,
  ⟨(.tmp 12), (.r (.conv .u64 (.tmp 11))), none⟩,
  ⟨(.tmp 13), (.r (.mov (.loc 5))), none⟩,
  ⟨(.tmp 14), (.r (.bin .mul (.cst (.int .i64 8)) (.tmp 13))), none⟩,
  ⟨(.tmp 15), (.r (.bin .shr (.tmp 12) (.tmp 14))), none⟩,
  ⟨(.tmp 16), (.r (.conv .u8 (.tmp 15))), none⟩,
  ⟨(.tmp 17), (.h (.bsl 1 [(.tmp 16)])), none⟩,
  ⟨(.tmp 18), (.h (.app 1 1 (.tmp 10) (.tmp 17))), none⟩,
  ⟨(.loc 0), (.r (.mov (.tmp 18))), none⟩]))
 (.reg [⟨(.tmp 8), (.r (.mov (.loc 5))), none⟩,
  ⟨(.tmp 9), (.r (.bin .sub (.tmp 8) (.cst (.int .i64 1)))), none⟩,
  ⟨(.loc 5), (.r (.mov (.tmp 9))), none⟩])))
/-- glebe/pack.number -/
def c_pack_number : AFn := ⟨20, fun s => List.contains [0, 1, 4, 5, 7] s, (.seq (.reg [⟨(.loc 4), (.r (.mov (.cst .nils))), none⟩])
 (.seq (.seq (.reg [⟨(.loc 5), (.r (.mov (.cst (.int .i64 7)))), none⟩])
 (.block 0 (.loop (c_pack_number_l0))))
 (.seq (.reg [⟨(.tmp 19), (.r (.mov (.loc 0))), none⟩,
  ⟨(.loc 4), (.r (.mov (.tmp 19))), none⟩])
 .ret))), [(.tmp (.loc 4))]⟩

/-- glebe/pack.room -/
def c_pack_room : AFn := ⟨12, fun s => List.contains [0, 1, 4] s, (.seq (.reg [⟨(.loc 4), (.r (.mov (.cst .nils))), none⟩])
 (.seq (.reg [⟨(.tmp 5), (.r (.mov (.loc 0))), none⟩,
  ⟨(.tmp 6), (.r (.len (.tmp 5))), none⟩,
  ⟨(.tmp 7), (.r (.mov (.loc 1))), none⟩,
  ⟨(.tmp 8), (.r (.bin .add (.tmp 6) (.tmp 7))), none⟩,
  ⟨(.tmp 9), (.h (.mks 1 1 [(.int .u8 0)] (.cst (.int .i64 0)) (.tmp 8))), none⟩,
  ⟨(.tmp 10), (.r (.mov (.loc 0))), none⟩,
  ⟨(.tmp 11), (.h (.app 1 1 (.tmp 9) (.tmp 10))), none⟩,
  ⟨(.loc 4), (.r (.mov (.tmp 11))), none⟩])
 .ret)), [(.tmp (.loc 4))]⟩

def c_gleberef02_Blob_l0 (f_gleberef02_Int : FuncId) : AC := (.seq (.seq (.reg [⟨(.tmp 11), (.r (.mov (.loc 6))), none⟩,
  ⟨(.tmp 12), (.r (.mov (.loc 1))), none⟩,
  ⟨(.tmp 13), (.r (.len (.tmp 12))), none⟩,
  ⟨(.loc 14), (.r (.bin .lss (.tmp 11) (.tmp 13))), none⟩])
 (.cond (.loc 14) .skip
 (.exit 0)))
 (.seq (.block 1 (.reg [⟨(.tmp 17), (.r (.mov (.loc 5))), none⟩,
  ⟨(.tmp 18), (.r (.mov (.loc 1))), none⟩,
  ⟨(.tmp 19), (.r (.mov (.loc 6))), none⟩,
  ⟨(.tmp 20), (.r (.idx 1 (.tmp 18) (.tmp 19))), none⟩,
  ⟨(.tmp 21), (.r (.load false 1 (.tmp 20))), none⟩,
  ⟨(.tmp 22), (.h (.bsl 1 [(.tmp 21)])), none⟩,
  ⟨(.tmp 23), (.h (.app 1 1 (.tmp 17) (.tmp 22))), none⟩,
  ⟨(.loc 5), (.r (.mov (.tmp 23))), none⟩]))
 (.reg [⟨(.tmp 15), (.r (.mov (.loc 6))), none⟩,
  ⟨(.tmp 16), (.r (.bin .add (.tmp 15) (.cst (.int .i64 1)))), none⟩,
  ⟨(.loc 6), (.r (.mov (.tmp 16))), none⟩])))
/-- glebe/gleberef02.Blob -/
def c_gleberef02_Blob (f_gleberef02_Int : FuncId) : AFn := ⟨25, fun s => List.contains [0, 1, 4, 5, 6, 14] s, (.seq (.reg [⟨(.loc 4), (.r (.mov (.cst .nils))), none⟩])
 (.seq (.reg [⟨(.tmp 7), (.r (.mov (.loc 0))), none⟩,
  ⟨(.tmp 8), (.r (.mov (.loc 1))), none⟩,
  ⟨(.tmp 9), (.r (.len (.tmp 8))), none⟩,
  ⟨(.tmp 10), (.call f_gleberef02_Int [(.tmp 7), (.tmp 9)]), none⟩,
  ⟨(.loc 5), (.r (.mov (.tmp 10))), none⟩])
 (.seq (.seq (.reg [⟨(.loc 6), (.r (.mov (.cst (.int .i64 0)))), none⟩])
 (.block 0 (.loop (c_gleberef02_Blob_l0 f_gleberef02_Int))))
 (.seq (.reg [⟨(.tmp 24), (.r (.mov (.loc 5))), none⟩,
  ⟨(.loc 4), (.r (.mov (.tmp 24))), none⟩])
 .ret)))), [(.tmp (.loc 4))]⟩

def c_gleberef02_Int_l0 : AC := (.seq (.seq (.reg [⟨(.tmp 13), (.r (.mov (.loc 7))), none⟩,
  ⟨(.loc 14), (.r (.bin .lss (.tmp 13) (.cst (.int .i64 8)))), none⟩])
 (.cond (.loc 14) .skip
 (.exit 0)))
 (.seq (.block 1 (.seq (.reg [⟨(.tmp 17), (.r (.mov (.loc 5))), none⟩,
  ⟨(.tmp 18), (.r (.mov (.loc 6))), none⟩,
  ⟨(.tmp 19), (.r (.bin .rem (.tmp 18) (.cst (.int .u64 256)))), none⟩,
  ⟨(.tmp 20), (.r (.conv .u8 (.tmp 19))), none⟩,
  ⟨(.tmp 21), (.h (.bsl 1 [(.tmp 20)])), none⟩,
  ⟨(.tmp 22), (.h (.app 1 1 (.tmp 17) (.tmp 21))), none⟩,
  ⟨(.loc 5), (.r (.mov (.tmp 22))), none⟩])
 (.reg [⟨(.tmp 23), (.r (.mov (.loc 6))), none⟩,
  ⟨(.tmp 24), (.r (.bin .quo (.tmp 23) (.cst (.int .u64 256)))), none⟩,
  ⟨(.loc 6), (.r (.mov (.tmp 24))), none⟩])))
 (.reg [⟨(.tmp 15), (.r (.mov (.loc 7))), none⟩,
  ⟨(.tmp 16), (.r (.bin .add (.tmp 15) (.cst (.int .i64 1)))), none⟩,
  ⟨(.loc 7), (.r (.mov (.tmp 16))), none⟩])))
def c_gleberef02_Int_l1 : AC := (.seq (.seq (.reg [⟨(.tmp 25), (.r (.mov (.loc 9))), none⟩,
  ⟨(.tmp 26), (.r (.mov (.loc 0))), none⟩,
  ⟨(.tmp 27), (.r (.len (.tmp 26))), none⟩,
  ⟨(.loc 28), (.r (.bin .lss (.tmp 25) (.tmp 27))), none⟩])
 (.cond (.loc 28) .skip
 (.exit 2)))
 (.seq (.block 3 (.reg [⟨(.tmp 31), (.r (.mov (.loc 8))), none⟩,
  ⟨(.tmp 32), (.r (.mov (.loc 0))), none⟩,
  ⟨(.tmp 33), (.r (.mov (.loc 9))), none⟩,
  ⟨(.tmp 34), (.r (.idx 1 (.tmp 32) (.tmp 33))), none⟩,
  ⟨(.tmp 35), (.r (.load false 1 (.tmp 34))), none⟩,
  ⟨(.tmp 36), (.h (.bsl 1 [(.tmp 35)])), none⟩,
  ⟨(.tmp 37), (.h (.app 1 1 (.tmp 31) (.tmp 36))), none⟩,
  ⟨(.loc 8), (.r (.mov (.tmp 37))), none⟩]))
 (.reg [⟨(.tmp 29), (.r (.mov (.loc 9))), none⟩,
  ⟨(.tmp 30), (.r (.bin .add (.tmp 29) (.cst (.int .i64 1)))), none⟩,
  ⟨(.loc 9), (.r (.mov (.tmp 30))), none⟩])))
def c_gleberef02_Int_l2 : AC := (.seq (.seq (.reg [⟨(.tmp 38), (.r (.mov (.loc 10))), none⟩,
  ⟨(.loc 39), (.r (.bin .geq (.tmp 38) (.cst (.int .i64 0)))), none⟩])
 (.cond (.loc 39) .skip
 (.exit 4)))
 (.seq (.block 5 (.reg [⟨(.tmp 42), (.r (.mov (.loc 8))), none⟩,
  ⟨(.tmp 43), (.r (.mov (.loc 5))), none⟩,
  ⟨(.tmp 44), (.r (.mov (.loc 10))), none⟩,
  ⟨(.tmp 45), (.r (.idx 1 (.tmp 43) (.tmp 44))), none⟩,
  ⟨(.tmp 46), (.r (.load false 1 (.tmp 45))), none⟩,
  ⟨(.tmp 47), (.h (.bsl 1 [(.tmp 46)])), none⟩,
  ⟨(.tmp 48), (.h (.app 1 1 (.tmp 42) (.tmp 47))), none⟩,
  ⟨(.loc 8), (.r (.mov (.tmp 48))), none⟩]))
 (.reg [⟨(.tmp 40), (.r (.mov (.loc 10))), none⟩,
  ⟨(.tmp 41), (.r (.bin .sub (.tmp 40) (.cst (.int .i64 1)))), none⟩,
  ⟨(.loc 10), (.r (.mov (.tmp 41))), none⟩])))
/-- glebe/gleberef02.Int -/
def c_gleberef02_Int : AFn := ⟨50, fun s => List.contains [0, 1, 4, 5, 6, 7, 8, 9, 10, 14, 28, 39] s, (.seq (.reg [⟨(.loc 4), (.r (.mov (.cst .nils))), none⟩])
 (.seq (.reg [⟨(.loc 5), (.r (.mov (.cst .nils))), none⟩])
 (.seq (.reg [⟨(.tmp 11), (.r (.mov (.loc 1))), none⟩,
  ⟨(.tmp 12), (.r (.conv .u64 (.tmp 11))), none⟩,
  ⟨(.loc 6), (.r (.mov (.tmp 12))), none⟩])
 (.seq (.seq (.reg [⟨(.loc 7), (.r (.mov (.cst (.int .i64 0)))), none⟩])
 (.block 0 (.loop (c_gleberef02_Int_l0))))
 (.seq (.reg [⟨(.loc 8), (.r (.mov (.cst .nils))), none⟩])
 (.seq (.seq (.reg [⟨(.loc 9), (.r (.mov (.cst (.int .i64 0)))), none⟩])
 (.block 2 (.loop (c_gleberef02_Int_l1))))
 (.seq (.seq (.reg [⟨(.loc 10), (.r (.mov (.cst (.int .i64 7)))), none⟩])
 (.block 4 (.loop (c_gleberef02_Int_l2))))
 (.seq (.reg [⟨(.tmp 49), (.r (.mov (.loc 8))), none⟩,
  ⟨(.loc 4), (.r (.mov (.tmp 49))), none⟩])
 .ret)))))))), [(.tmp (.loc 4))]⟩

def c_gleberef02_Ints_l0 (f_gleberef02_Int : FuncId) : AC := (.seq (.seq (.reg [⟨(.tmp 24), (.r (.mov (.loc 8))), none⟩,
  ⟨(.loc 25), (.r (.bin .lss (.tmp 24) (.cst (.int .i64 8)))), none⟩])
 (.cond (.loc 25) .skip
 (.exit 2)))
 (.seq (.block 3 (.reg [⟨(.tmp 28), (.r (.mov (.loc 5))), none⟩,
  ⟨(.tmp 29), (.r (.mov (.loc 7))), none⟩,
  ⟨(.tmp 30), (.r (.mov (.loc 8))), none⟩,
  ⟨(.tmp 31), (.r (.idx 1 (.tmp 29) (.tmp 30))), none⟩,
  ⟨(.tmp 32), (.r (.load false 1 (.tmp 31))), none⟩,
  ⟨(.tmp 33), (.h (.bsl 1 [(.tmp 32)])), none⟩,
  ⟨(.tmp 34), (.h (.app 1 1 (.tmp 28) (.tmp 33))), none⟩,
  ⟨(.loc 5), (.r (.mov (.tmp 34))), none⟩]))
 (.reg [⟨(.tmp 26), (.r (.mov (.loc 8))), none⟩,
  ⟨(.tmp 27), (.r (.bin .add (.tmp 26) (.cst (.int .i64 1)))), none⟩,
  ⟨(.loc 8), (.r (.mov (.tmp 27))), none⟩])))
def c_gleberef02_Ints_l1 (f_gleberef02_Int : FuncId) : AC := (.seq (.seq (.reg [⟨(.tmp 13), (.r (.mov (.loc 6))), none⟩,
  ⟨(.tmp 14), (.r (.mov (.loc 1))), none⟩,
  ⟨(.tmp 15), (.r (.len (.tmp 14))), none⟩,
  ⟨(.loc 16), (.r (.bin .lss (.tmp 13) (.tmp 15))), none⟩])
 (.cond (.loc 16) .skip
 (.exit 0)))
 (.seq (.block 1 (.seq (.reg [⟨(.tmp 19), (.r (.mov (.loc 1))), none⟩,
  ⟨(.tmp 20), (.r (.mov (.loc 6))), none⟩,
  ⟨(.tmp 21), (.r (.idx 1 (.tmp 19) (.tmp 20))), none⟩,
  ⟨(.tmp 22), (.r (.load false 1 (.tmp 21))), none⟩,
  ⟨(.tmp 23), (.call f_gleberef02_Int [(.cst .nils), (.tmp 22)]), none⟩,
  ⟨(.loc 7), (.r (.mov (.tmp 23))), none⟩])
 (.seq (.reg [⟨(.loc 8), (.r (.mov (.cst (.int .i64 0)))), none⟩])
 (.block 2 (.loop (c_gleberef02_Ints_l0 f_gleberef02_Int))))))
 (.reg [⟨(.tmp 17), (.r (.mov (.loc 6))), none⟩,
  ⟨(.tmp 18), (.r (.bin .add (.tmp 17) (.cst (.int .i64 1)))), none⟩,
  ⟨(.loc 6), (.r (.mov (.tmp 18))), none⟩])))
/-- glebe/gleberef02.Ints -/
def c_gleberef02_Ints (f_gleberef02_Int : FuncId) : AFn := ⟨36, fun s => List.contains [0, 1, 4, 5, 6, 7, 8, 16, 25] s, (.seq (.reg [⟨(.loc 4), (.r (.mov (.cst .nils))), none⟩])
 (.seq (.reg [⟨(.tmp 9), (.r (.mov (.loc 0))), none⟩,
  ⟨(.tmp 10), (.r (.mov (.loc 1))), none⟩,
  ⟨(.tmp 11), (.r (.len (.tmp 10))), none⟩,
  ⟨(.tmp 12), (.call f_gleberef02_Int [(.tmp 9), (.tmp 11)]), none⟩,
  ⟨(.loc 5), (.r (.mov (.tmp 12))), none⟩])
 (.seq (.seq (.reg [⟨(.loc 6), (.r (.mov (.cst (.int .i64 0)))), none⟩])
 (.block 0 (.loop (c_gleberef02_Ints_l1 f_gleberef02_Int))))
 (.seq (.reg [⟨(.tmp 35), (.r (.mov (.loc 5))), none⟩,
  ⟨(.loc 4), (.r (.mov (.tmp 35))), none⟩])
 .ret)))), [(.tmp (.loc 4))]⟩

/-- glebe/gleberef13.putConf -/
def c_gleberef13_putConf (f_gleberef02_Ints : FuncId) : AFn := ⟨15, fun s => List.contains [0, 1, 3, 4] s, (.seq (.reg [⟨(.loc 3), (.h (.box (.loc 1))), none⟩,
  ⟨(.loc 4), (.r (.mov (.cst .nils))), none⟩])
 (.seq (.dreg ⟨[0, 0, 2, 7, 0, 16, 63, 0, 128, 511, 1023], 0, [⟨0, 0, false, (.r (.mov (.loc 0))), none⟩,
  ⟨1, 0, false, (.r (.off 0 (.loc 3))), none⟩,
  ⟨2, 0, false, (.r (.load false 1 (.tmp 1))), none⟩,
  ⟨4, 0, false, (.r (.off 1 (.loc 3))), none⟩,
  ⟨5, 0, false, (.r (.load false 1 (.tmp 4))), none⟩,
  ⟨7, 0, false, (.r (.off 2 (.loc 3))), none⟩,
  ⟨8, 0, false, (.r (.load false 1 (.tmp 7))), none⟩,
  ⟨3, 0, true, (.call f_gleberef02_Ints [(.tmp 0), (.tmp 2)]), none⟩,
  ⟨6, 0, true, (.call f_gleberef02_Ints [(.tmp 3), (.tmp 5)]), none⟩,
  ⟨9, 0, true, (.call f_gleberef02_Ints [(.tmp 6), (.tmp 8)]), none⟩,
  ⟨10, 0, false, (.r (.mov (.tmp 9))), none⟩], [(4, 10)]⟩)
 .ret)), [(.tmp (.loc 4))]⟩

end Glb
