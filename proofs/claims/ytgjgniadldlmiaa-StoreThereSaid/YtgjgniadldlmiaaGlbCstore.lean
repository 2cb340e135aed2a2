/-
  What functions of the program are, one by one (the functions that they call as parameters), in a form of which something can be shown.
-/
import Derived.Test.YtgjgniadldlmiaaGlbLibB
set_option linter.unusedSimpArgs false
set_option linter.unusedVariables false
namespace Glb
open Go
set_option maxRecDepth 100000

/-- glebe/store.Open -/
def c_store_Open (f0 f1 f2 f3 f4 : FuncId) : AFn := ⟨62, fun s => List.contains [0, 1, 4, 5, 6, 7, 8, 9, 10, 11, 12, 13, 14, 25, 27, 40] s, (.seq (.reg [⟨.loc 4, .r (.mov (.cst (.raw (.pointer none)))), none⟩,
 ⟨.loc 5, .r (.mov (.cst .nils)), none⟩,
 ⟨.loc 6, .r (.mov (.cst .nils)), none⟩,
 ⟨.loc 7, .r (.mov (.cst (.int .i64 0))), none⟩])
 (.seq (.seq (.reg [⟨.tmp 16, .r (.mov (.loc 1)), none⟩,
 ⟨.tmp 17, .r (.bin .lss (.tmp 16) (.cst (.int .i64 1))), none⟩,
 ⟨.tmp 18, .r (.mov (.tmp 17)), none⟩,
 ⟨.tmp 19, .r (.mov (.loc 1)), some (.tmp 18, false)⟩,
 ⟨.tmp 20, .r (.mov (.loc 0)), some (.tmp 18, false)⟩,
 ⟨.tmp 21, .call f0 [.tmp 20], some (.tmp 18, false)⟩,
 ⟨.tmp 22, .r (.bin .sub (.tmp 21) (.cst (.int .i64 1))), some (.tmp 18, false)⟩,
 ⟨.tmp 23, .r (.bin .quo (.tmp 22) (.cst (.int .i64 2))), some (.tmp 18, false)⟩,
 ⟨.tmp 24, .r (.bin .gtr (.tmp 19) (.tmp 23)), some (.tmp 18, false)⟩,
 ⟨.loc 25, .r (.pick (.tmp 18) (.cst (.bool true)) (.tmp 24)), none⟩])
 (.cond (.loc 25) (.seq (.reg [⟨.loc 4, .r (.mov (.cst (.raw (.pointer none)))), none⟩,
 ⟨.loc 5, .r (.mov (.cst .nils)), none⟩,
 ⟨.loc 6, .r (.mov (.cst .nils)), none⟩,
 ⟨.loc 7, .r (.mov (.cst (.int .i64 3))), none⟩])
 .ret)
 .skip))
 (.seq (.seq (.reg [⟨.tmp 26, .r (.mov (.loc 0)), none⟩,
 ⟨.loc 27, .call f1 [.tmp 26], none⟩])
 (.cond (.loc 27) (.seq (.reg [⟨.loc 4, .r (.mov (.cst (.raw (.pointer none)))), none⟩,
 ⟨.loc 5, .r (.mov (.cst .nils)), none⟩,
 ⟨.loc 6, .r (.mov (.cst .nils)), none⟩,
 ⟨.loc 7, .r (.mov (.cst (.int .i64 10))), none⟩])
 .ret)
 .skip))
 (.seq (.reg [⟨.tmp 28, .r (.mov (.loc 0)), none⟩,
 ⟨.tmp 29, .r (.mov (.loc 1)), none⟩,
 ⟨.tmp 30, .r (.build [(.raw (.pointer none)), (.raw (.pointer none)), (.int .i64 0), (.int .i64 0), (.bool false)] [(1, 1, .tmp 28), (2, 1, .tmp 29)]), none⟩,
 ⟨.tmp 31, .h (.box (.tmp 30)), none⟩,
 ⟨.loc 8, .r (.mov (.tmp 31)), none⟩])
 (.seq (.reg [⟨.tmp 33, .r (.mov (.loc 0)), none⟩,
 ⟨.tmp 34, .r (.mov (.loc 1)), none⟩,
 ⟨.tmp 35, .call f2 [.tmp 33, (.cst (.int .i64 0)), .tmp 34], none⟩,
 ⟨.tmp 32, .r (.mov (.tmp 35)), none⟩,
 ⟨.tmp 36, .r (.ext (.tmp 32) 0), none⟩,
 ⟨.tmp 37, .r (.ext (.tmp 32) 1), none⟩,
 ⟨.tmp 38, .r (.ext (.tmp 32) 2), none⟩,
 ⟨.loc 9, .r (.mov (.tmp 36)), none⟩,
 ⟨.loc 10, .r (.mov (.tmp 37)), none⟩,
 ⟨.loc 11, .r (.mov (.tmp 38)), none⟩])
 (.seq (.seq (.reg [⟨.tmp 39, .r (.mov (.loc 11)), none⟩,
 ⟨.loc 40, .r (.bin .neq (.tmp 39) (.cst (.int .i64 0))), none⟩])
 (.cond (.loc 40) (.seq (.reg [⟨.tmp 41, .r (.mov (.loc 8)), none⟩,
 ⟨.loc 4, .r (.mov (.tmp 41)), none⟩,
 ⟨.loc 5, .r (.mov (.cst .nils)), none⟩,
 ⟨.loc 6, .r (.mov (.cst .nils)), none⟩,
 ⟨.loc 7, .r (.mov (.cst (.int .i64 0))), none⟩])
 .ret)
 .skip))
 (.seq (.reg [⟨.tmp 42, .r (.mov (.loc 8)), none⟩,
 ⟨.tmp 43, .r (.mov (.loc 10)), none⟩,
 ⟨.tmp 44, .r (.chk (.tmp 42)), none⟩,
 ⟨.tmp 45, .r (.off 3 (.tmp 44)), none⟩,
 ⟨.none, .h (.store 1 (.tmp 45) (.tmp 43)), none⟩])
 (.seq (.reg [⟨.tmp 47, .r (.mov (.loc 8)), none⟩,
 ⟨.tmp 48, .call f3 [.tmp 47], none⟩,
 ⟨.tmp 46, .r (.mov (.tmp 48)), none⟩,
 ⟨.tmp 49, .r (.ext (.tmp 46) 0), none⟩,
 ⟨.tmp 50, .r (.ext (.tmp 46) 1), none⟩,
 ⟨.loc 12, .r (.mov (.tmp 49)), none⟩,
 ⟨.loc 13, .r (.mov (.tmp 50)), none⟩])
 (.seq (.reg [⟨.tmp 52, .r (.mov (.loc 0)), none⟩,
 ⟨.tmp 53, .r (.mov (.loc 12)), none⟩,
 ⟨.tmp 54, .r (.mov (.loc 13)), none⟩,
 ⟨.tmp 55, .r (.mov (.loc 10)), none⟩,
 ⟨.tmp 56, .call f4 [.tmp 52, .tmp 53, .tmp 54, .tmp 55], none⟩,
 ⟨.tmp 51, .r (.mov (.tmp 56)), none⟩,
 ⟨.tmp 57, .r (.ext (.tmp 51) 0), none⟩,
 ⟨.tmp 58, .r (.ext (.tmp 51) 1), none⟩,
 ⟨.loc 14, .r (.mov (.tmp 57)), none⟩,
 ⟨.tmp 15, .r (.mov (.tmp 58)), none⟩])
 (.seq (.reg [⟨.tmp 59, .r (.mov (.loc 8)), none⟩,
 ⟨.tmp 60, .r (.mov (.loc 9)), none⟩,
 ⟨.tmp 61, .r (.mov (.loc 14)), none⟩,
 ⟨.loc 4, .r (.mov (.tmp 59)), none⟩,
 ⟨.loc 5, .r (.mov (.tmp 60)), none⟩,
 ⟨.loc 6, .r (.mov (.tmp 61)), none⟩,
 ⟨.loc 7, .r (.mov (.cst (.int .i64 0))), none⟩])
 .ret)))))))))), [(.tmp (.loc 4)), (.tmp (.loc 5)), (.tmp (.loc 6)), (.tmp (.loc 7))]⟩

/-- (*glebe/store.Store).Renew -/
def c_store_Store_Renew (f0 f1 f2 f3 : FuncId) : AFn := ⟨61, fun s => List.contains [0, 1, 4, 5, 6, 7, 11, 30] s, (.seq (.reg [⟨.loc 4, .r (.mov (.cst (.int .i64 0))), none⟩])
 (.seq (.seq (.reg [⟨.tmp 8, .r (.mov (.loc 0)), none⟩,
 ⟨.tmp 9, .r (.chk (.tmp 8)), none⟩,
 ⟨.tmp 10, .r (.off 4 (.tmp 9)), none⟩,
 ⟨.loc 11, .r (.load false 1 (.tmp 10)), none⟩])
 (.cond (.loc 11) (.seq (.reg [⟨.loc 4, .r (.mov (.cst (.int .i64 10))), none⟩])
 .ret)
 .skip))
 (.seq (.seq (.dreg ⟨[0, 0, 2, 6, 14, 0, 32, 96, 224, 0, 512, 1536, 3584, 7680, 0, 32766, 65535, 131071], 0, [⟨0, 0, false, .r (.mov (.loc 0)), none⟩,
 ⟨1, 0, false, .r (.mov (.loc 0)), none⟩,
 ⟨2, 0, false, .r (.chk (.tmp 1)), none⟩,
 ⟨3, 0, false, .r (.off 1 (.tmp 2)), none⟩,
 ⟨4, 0, false, .r (.load false 1 (.tmp 3)), none⟩,
 ⟨5, 0, false, .r (.mov (.loc 0)), none⟩,
 ⟨6, 0, false, .r (.chk (.tmp 5)), none⟩,
 ⟨7, 0, false, .r (.off 2 (.tmp 6)), none⟩,
 ⟨8, 0, false, .r (.load false 1 (.tmp 7)), none⟩,
 ⟨9, 0, false, .r (.mov (.loc 0)), none⟩,
 ⟨10, 0, false, .r (.chk (.tmp 9)), none⟩,
 ⟨11, 0, false, .r (.off 3 (.tmp 10)), none⟩,
 ⟨12, 0, false, .r (.load false 1 (.tmp 11)), none⟩,
 ⟨13, 0, false, .r (.bin .add (.tmp 12) (.cst (.int .i64 1))), none⟩,
 ⟨14, 0, false, .r (.mov (.loc 1)), none⟩,
 ⟨15, 0, true, .call f0 [.tmp 4, (.cst (.int .i64 0)), .tmp 8, .tmp 13, .tmp 14], none⟩,
 ⟨16, 0, true, .call f1 [.tmp 0, .tmp 15], none⟩,
 ⟨17, 0, false, .r (.mov (.tmp 16)), none⟩], [(5, 17)]⟩)
 (.seq (.reg [⟨.tmp 29, .r (.mov (.loc 5)), none⟩,
 ⟨.loc 30, .r (.bin .neq (.tmp 29) (.cst (.int .i64 0))), none⟩])
 (.cond (.loc 30) (.seq (.reg [⟨.tmp 31, .r (.mov (.loc 5)), none⟩,
 ⟨.loc 4, .r (.mov (.tmp 31)), none⟩])
 .ret)
 .skip)))
 (.seq (.reg [⟨.tmp 32, .r (.mov (.loc 0)), none⟩,
 ⟨.tmp 33, .r (.chk (.tmp 32)), none⟩,
 ⟨.tmp 34, .r (.off 3 (.tmp 33)), none⟩,
 ⟨.tmp 35, .r (.load false 1 (.tmp 34)), none⟩,
 ⟨.tmp 36, .r (.bin .add (.tmp 35) (.cst (.int .i64 1))), none⟩,
 ⟨.tmp 37, .r (.chk (.tmp 32)), none⟩,
 ⟨.tmp 38, .r (.off 3 (.tmp 37)), none⟩,
 ⟨.none, .h (.store 1 (.tmp 38) (.tmp 36)), none⟩])
 (.seq (.reg [⟨.tmp 40, .r (.mov (.loc 0)), none⟩,
 ⟨.tmp 41, .call f2 [.tmp 40], none⟩,
 ⟨.tmp 39, .r (.mov (.tmp 41)), none⟩,
 ⟨.tmp 42, .r (.ext (.tmp 39) 0), none⟩,
 ⟨.tmp 43, .r (.ext (.tmp 39) 1), none⟩,
 ⟨.loc 6, .r (.mov (.tmp 42)), none⟩,
 ⟨.loc 7, .r (.mov (.tmp 43)), none⟩])
 (.seq (.dreg ⟨[0, 0, 2, 6, 14, 0, 0, 0, 128, 384, 896, 2046, 4094, 8190, 8190, 16383, 49151, 114687], 0, [⟨0, 0, false, .r (.mov (.loc 0)), none⟩,
 ⟨1, 0, false, .r (.mov (.loc 0)), none⟩,
 ⟨2, 0, false, .r (.chk (.tmp 1)), none⟩,
 ⟨3, 0, false, .r (.off 1 (.tmp 2)), none⟩,
 ⟨4, 0, false, .r (.load false 1 (.tmp 3)), none⟩,
 ⟨5, 0, false, .r (.mov (.loc 6)), none⟩,
 ⟨6, 0, false, .r (.mov (.loc 7)), none⟩,
 ⟨7, 0, false, .r (.mov (.loc 0)), none⟩,
 ⟨8, 0, false, .r (.chk (.tmp 7)), none⟩,
 ⟨9, 0, false, .r (.off 3 (.tmp 8)), none⟩,
 ⟨10, 0, false, .r (.load false 1 (.tmp 9)), none⟩,
 ⟨11, 0, true, .call f3 [.tmp 4, .tmp 5, .tmp 6, .tmp 10], none⟩,
 ⟨12, 0, false, .r (.mov (.tmp 11)), none⟩,
 ⟨13, 0, false, .r (.ext (.tmp 12) 0), none⟩,
 ⟨14, 0, false, .r (.ext (.tmp 12) 1), none⟩,
 ⟨15, 0, false, .r (.chk (.tmp 0)), none⟩,
 ⟨16, 0, false, .r (.off 0 (.tmp 15)), none⟩,
 ⟨17, 0, true, .h (.store 1 (.tmp 16) (.tmp 13)), none⟩], []⟩)
 (.seq (.reg [⟨.loc 4, .r (.mov (.cst (.int .i64 0))), none⟩])
 .ret))))))), [(.tmp (.loc 4))]⟩

/-- (*glebe/store.Store).Append -/
def c_store_Store_Append (f0 f1 : FuncId) : AFn := ⟨24, fun s => List.contains [0, 1, 4, 5, 10] s, (.seq (.reg [⟨.loc 4, .r (.mov (.cst (.int .i64 0))), none⟩])
 (.seq (.block 0 (.seq (.reg [⟨.tmp 6, .r (.mov (.loc 0)), none⟩,
 ⟨.tmp 7, .r (.chk (.tmp 6)), none⟩,
 ⟨.tmp 8, .r (.off 4 (.tmp 7)), none⟩,
 ⟨.tmp 9, .r (.load false 1 (.tmp 8)), none⟩,
 ⟨.loc 5, .r (.mov (.tmp 9)), none⟩])
 (.cond (.loc 5) (.seq (.reg [⟨.loc 4, .r (.mov (.cst (.int .i64 10))), none⟩])
 .ret)
 (.seq (.reg [⟨.tmp 11, .r (.mov (.loc 0)), none⟩,
 ⟨.tmp 12, .r (.chk (.tmp 11)), none⟩,
 ⟨.tmp 13, .r (.off 0 (.tmp 12)), none⟩,
 ⟨.tmp 14, .r (.load false 1 (.tmp 13)), none⟩,
 ⟨.tmp 15, .r (.x (.peq false (.tmp 14))), none⟩,
 ⟨.loc 10, .r (.mov (.tmp 15)), none⟩])
 (.cond (.loc 10) (.seq (.reg [⟨.loc 4, .r (.mov (.cst (.int .i64 12))), none⟩])
 .ret)
 .skip)))))
 (.seq (.reg [⟨.tmp 16, .r (.mov (.loc 0)), none⟩,
 ⟨.tmp 17, .r (.mov (.loc 0)), none⟩,
 ⟨.tmp 18, .r (.chk (.tmp 17)), none⟩,
 ⟨.tmp 19, .r (.off 0 (.tmp 18)), none⟩,
 ⟨.tmp 20, .r (.load false 1 (.tmp 19)), none⟩,
 ⟨.tmp 21, .r (.mov (.loc 1)), none⟩,
 ⟨.tmp 22, .call f0 [.tmp 20, .tmp 21], none⟩,
 ⟨.tmp 23, .call f1 [.tmp 16, .tmp 22], none⟩,
 ⟨.loc 4, .r (.mov (.tmp 23)), none⟩])
 .ret))), [(.tmp (.loc 4))]⟩

/-- (*glebe/store.Store).Epoch -/
def c_store_Store_Epoch : AFn := ⟨7, fun s => List.contains [0, 2] s, (.seq (.reg [⟨.loc 2, .r (.mov (.cst (.int .i64 0))), none⟩])
 (.seq (.reg [⟨.tmp 3, .r (.mov (.loc 0)), none⟩,
 ⟨.tmp 4, .r (.chk (.tmp 3)), none⟩,
 ⟨.tmp 5, .r (.off 3 (.tmp 4)), none⟩,
 ⟨.tmp 6, .r (.load false 1 (.tmp 5)), none⟩,
 ⟨.loc 2, .r (.mov (.tmp 6)), none⟩])
 .ret)), [(.tmp (.loc 2))]⟩

/-- (*glebe/store.Store).Count -/
def c_store_Store_Count (f0 : FuncId) : AFn := ⟨13, fun s => List.contains [0, 2, 7] s, (.seq (.reg [⟨.loc 2, .r (.mov (.cst (.int .i64 0))), none⟩])
 (.seq (.seq (.reg [⟨.tmp 3, .r (.mov (.loc 0)), none⟩,
 ⟨.tmp 4, .r (.chk (.tmp 3)), none⟩,
 ⟨.tmp 5, .r (.off 0 (.tmp 4)), none⟩,
 ⟨.tmp 6, .r (.load false 1 (.tmp 5)), none⟩,
 ⟨.loc 7, .r (.x (.peq false (.tmp 6))), none⟩])
 (.cond (.loc 7) (.seq (.reg [⟨.loc 2, .r (.mov (.cst (.int .i64 0))), none⟩])
 .ret)
 .skip))
 (.seq (.reg [⟨.tmp 8, .r (.mov (.loc 0)), none⟩,
 ⟨.tmp 9, .r (.chk (.tmp 8)), none⟩,
 ⟨.tmp 10, .r (.off 0 (.tmp 9)), none⟩,
 ⟨.tmp 11, .r (.load false 1 (.tmp 10)), none⟩,
 ⟨.tmp 12, .call f0 [.tmp 11], none⟩,
 ⟨.loc 2, .r (.mov (.tmp 12)), none⟩])
 .ret))), [(.tmp (.loc 2))]⟩

/-- (*glebe/store.Store).place -/
def c_store_Store_place (f0 : FuncId) : AFn := ⟨20, fun s => List.contains [0, 2, 3] s, (.seq (.reg [⟨.loc 2, .r (.mov (.cst (.int .i64 0))), none⟩,
 ⟨.loc 3, .r (.mov (.cst (.int .i64 0))), none⟩])
 (.seq (.dreg ⟨[0, 1, 3, 7, 15, 0, 32, 96, 224, 480, 0, 1024, 3072, 7168, 15360, 32736, 1023, 131071], 0, [⟨0, 0, false, .r (.mov (.loc 0)), none⟩,
 ⟨1, 0, false, .r (.chk (.tmp 0)), none⟩,
 ⟨2, 0, false, .r (.off 2 (.tmp 1)), none⟩,
 ⟨3, 0, false, .r (.load false 1 (.tmp 2)), none⟩,
 ⟨4, 0, false, .r (.bin .mul (.cst (.int .i64 2)) (.tmp 3)), none⟩,
 ⟨5, 0, false, .r (.mov (.loc 0)), none⟩,
 ⟨6, 0, false, .r (.chk (.tmp 5)), none⟩,
 ⟨7, 0, false, .r (.off 1 (.tmp 6)), none⟩,
 ⟨8, 0, false, .r (.load false 1 (.tmp 7)), none⟩,
 ⟨10, 0, false, .r (.mov (.loc 0)), none⟩,
 ⟨11, 0, false, .r (.chk (.tmp 10)), none⟩,
 ⟨12, 0, false, .r (.off 2 (.tmp 11)), none⟩,
 ⟨13, 0, false, .r (.load false 1 (.tmp 12)), none⟩,
 ⟨14, 0, false, .r (.bin .mul (.cst (.int .i64 2)) (.tmp 13)), none⟩,
 ⟨9, 0, true, .call f0 [.tmp 8], none⟩,
 ⟨15, 0, false, .r (.bin .sub (.tmp 9) (.tmp 14)), none⟩,
 ⟨16, 0, false, .r (.mov (.tmp 4)), none⟩,
 ⟨17, 0, false, .r (.mov (.tmp 15)), none⟩], [(2, 16), (3, 17)]⟩)
 .ret)), [(.tmp (.loc 2)), (.tmp (.loc 3))]⟩

/-- (*glebe/store.Store).died -/
def c_store_Store_died : AFn := ⟨11, fun s => List.contains [0, 1, 4, 6] s, (.seq (.reg [⟨.loc 4, .r (.mov (.cst (.int .i64 0))), none⟩])
 (.seq (.seq (.reg [⟨.tmp 5, .r (.mov (.loc 1)), none⟩,
 ⟨.loc 6, .r (.bin .eql (.tmp 5) (.cst (.int .i64 10))), none⟩])
 (.cond (.loc 6) (.reg [⟨.tmp 7, .r (.mov (.loc 0)), none⟩,
 ⟨.tmp 8, .r (.chk (.tmp 7)), none⟩,
 ⟨.tmp 9, .r (.off 4 (.tmp 8)), none⟩,
 ⟨.none, .h (.store 1 (.tmp 9) (.cst (.bool true))), none⟩])
 .skip))
 (.seq (.reg [⟨.tmp 10, .r (.mov (.loc 1)), none⟩,
 ⟨.loc 4, .r (.mov (.tmp 10)), none⟩])
 .ret))), [(.tmp (.loc 4))]⟩

end Glb
