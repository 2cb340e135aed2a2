/-
  What functions of the program are, one by one (the functions that they call as parameters), in a form of which something can be shown.
-/
import Derived.Test.YtcegihlhpmdbnaaGreatGlbLibB
set_option linter.unusedSimpArgs false
set_option linter.unusedVariables false
namespace Glb
open Go
set_option maxRecDepth 100000

/-- glebe/glebekit.SpoilConf -/
def c_glebekit_SpoilConf (f0 : FuncId) : AFn := ⟨11, fun s => List.contains [0, 1] s, (.seq (.reg [⟨.loc 1, .h (.box (.loc 0)), none⟩])
 (.seq (.reg [⟨.tmp 2, .r (.off 0 (.loc 1)), none⟩,
 ⟨.tmp 3, .r (.load false 1 (.tmp 2)), none⟩,
 ⟨.tmp 4, .call f0 [.tmp 3], none⟩])
 (.seq (.reg [⟨.tmp 5, .r (.off 1 (.loc 1)), none⟩,
 ⟨.tmp 6, .r (.load false 1 (.tmp 5)), none⟩,
 ⟨.tmp 7, .call f0 [.tmp 6], none⟩])
 (.reg [⟨.tmp 8, .r (.off 2 (.loc 1)), none⟩,
 ⟨.tmp 9, .r (.load false 1 (.tmp 8)), none⟩,
 ⟨.tmp 10, .call f0 [.tmp 9], none⟩])))), []⟩

/-- glebe/conf.Add -/
def c_conf_Add (f0 f1 f2 : FuncId) : AFn := ⟨25, fun s => List.contains [0, 1, 2, 4, 5, 6, 11, 17] s, (.seq (.reg [⟨.loc 2, .h (.box (.loc 0)), none⟩,
 ⟨.loc 4, .h (.mk [.nils, .nils, .nils]), none⟩,
 ⟨.loc 5, .r (.mov (.cst (.int .i64 0))), none⟩])
 (.seq (.seq (.reg [⟨.tmp 7, .r (.load true 3 (.loc 2)), none⟩,
 ⟨.tmp 8, .r (.mov (.loc 1)), none⟩,
 ⟨.tmp 9, .call f0 [.tmp 7, .tmp 8], none⟩,
 ⟨.loc 6, .r (.mov (.tmp 9)), none⟩])
 (.seq (.reg [⟨.tmp 10, .r (.mov (.loc 6)), none⟩,
 ⟨.loc 11, .r (.bin .neq (.tmp 10) (.cst (.int .i64 0))), none⟩])
 (.cond (.loc 11) (.seq (.reg [⟨.tmp 12, .r (.build [.nils, .nils, .nils] []), none⟩,
 ⟨.tmp 13, .r (.mov (.loc 6)), none⟩,
 ⟨.none, .h (.store 3 (.loc 4) (.tmp 12)), none⟩,
 ⟨.loc 5, .r (.mov (.tmp 13)), none⟩])
 .ret)
 .skip)))
 (.seq (.seq (.reg [⟨.tmp 14, .r (.off 0 (.loc 2)), none⟩,
 ⟨.tmp 15, .r (.load false 1 (.tmp 14)), none⟩,
 ⟨.tmp 16, .r (.mov (.loc 1)), none⟩,
 ⟨.loc 17, .call f1 [.tmp 15, .tmp 16], none⟩])
 (.cond (.loc 17) (.seq (.reg [⟨.tmp 18, .r (.build [.nils, .nils, .nils] []), none⟩,
 ⟨.none, .h (.store 3 (.loc 4) (.tmp 18)), none⟩,
 ⟨.loc 5, .r (.mov (.cst (.int .i64 7))), none⟩])
 .ret)
 .skip))
 (.seq (.reg [⟨.tmp 19, .r (.off 0 (.loc 2)), none⟩,
 ⟨.tmp 20, .r (.load false 1 (.tmp 19)), none⟩,
 ⟨.tmp 21, .call f2 [.tmp 20], none⟩,
 ⟨.tmp 22, .r (.mov (.loc 1)), none⟩,
 ⟨.tmp 23, .h (.bsl 1 [.tmp 22]), none⟩,
 ⟨.tmp 24, .r (.build [.nils, .nils, .nils] [(0, 1, .tmp 21), (2, 1, .tmp 23)]), none⟩,
 ⟨.none, .h (.store 3 (.loc 4) (.tmp 24)), none⟩,
 ⟨.loc 5, .r (.mov (.cst (.int .i64 0))), none⟩])
 .ret)))), [(.cell (.loc 4) true 3), (.tmp (.loc 5))]⟩

/-- glebe/conf.Drop -/
def c_conf_Drop (f0 f1 f2 f3 : FuncId) : AFn := ⟨40, fun s => List.contains [0, 1, 2, 4, 5, 6, 7, 12, 19, 23] s, (.seq (.reg [⟨.loc 2, .h (.box (.loc 0)), none⟩,
 ⟨.loc 4, .h (.mk [.nils, .nils, .nils]), none⟩,
 ⟨.loc 5, .r (.mov (.cst (.int .i64 0))), none⟩])
 (.seq (.seq (.reg [⟨.tmp 8, .r (.load true 3 (.loc 2)), none⟩,
 ⟨.tmp 9, .r (.mov (.loc 1)), none⟩,
 ⟨.tmp 10, .call f0 [.tmp 8, .tmp 9], none⟩,
 ⟨.loc 6, .r (.mov (.tmp 10)), none⟩])
 (.seq (.reg [⟨.tmp 11, .r (.mov (.loc 6)), none⟩,
 ⟨.loc 12, .r (.bin .neq (.tmp 11) (.cst (.int .i64 0))), none⟩])
 (.cond (.loc 12) (.seq (.reg [⟨.tmp 13, .r (.build [.nils, .nils, .nils] []), none⟩,
 ⟨.tmp 14, .r (.mov (.loc 6)), none⟩,
 ⟨.none, .h (.store 3 (.loc 4) (.tmp 13)), none⟩,
 ⟨.loc 5, .r (.mov (.tmp 14)), none⟩])
 .ret)
 .skip)))
 (.seq (.reg [⟨.tmp 15, .r (.off 0 (.loc 2)), none⟩,
 ⟨.tmp 16, .r (.load false 1 (.tmp 15)), none⟩,
 ⟨.tmp 17, .r (.mov (.loc 1)), none⟩,
 ⟨.tmp 18, .call f1 [.tmp 16, .tmp 17], none⟩,
 ⟨.loc 7, .r (.mov (.tmp 18)), none⟩])
 (.seq (.block 0 (.seq (.reg [⟨.tmp 20, .r (.mov (.loc 7)), none⟩,
 ⟨.tmp 21, .r (.bin .lss (.tmp 20) (.cst (.int .i64 0))), none⟩,
 ⟨.loc 19, .r (.mov (.tmp 21)), none⟩])
 (.cond (.loc 19) (.seq (.reg [⟨.tmp 22, .r (.build [.nils, .nils, .nils] []), none⟩,
 ⟨.none, .h (.store 3 (.loc 4) (.tmp 22)), none⟩,
 ⟨.loc 5, .r (.mov (.cst (.int .i64 6))), none⟩])
 .ret)
 (.seq (.reg [⟨.tmp 24, .r (.off 0 (.loc 2)), none⟩,
 ⟨.tmp 25, .r (.load false 1 (.tmp 24)), none⟩,
 ⟨.tmp 26, .r (.len (.tmp 25)), none⟩,
 ⟨.tmp 27, .r (.bin .eql (.tmp 26) (.cst (.int .i64 1))), none⟩,
 ⟨.loc 23, .r (.mov (.tmp 27)), none⟩])
 (.cond (.loc 23) (.seq (.reg [⟨.tmp 28, .r (.build [.nils, .nils, .nils] []), none⟩,
 ⟨.none, .h (.store 3 (.loc 4) (.tmp 28)), none⟩,
 ⟨.loc 5, .r (.mov (.cst (.int .i64 29))), none⟩])
 .ret)
 .skip)))))
 (.seq (.dreg ⟨[0, 1, 3, 0, 8, 31, 0, 0, 128, 511, 1023, 2047, 4095], 0, [⟨0, 0, false, .r (.off 0 (.loc 2)), none⟩,
 ⟨1, 0, false, .r (.load false 1 (.tmp 0)), none⟩,
 ⟨3, 0, false, .r (.off 0 (.loc 2)), none⟩,
 ⟨4, 0, false, .r (.load false 1 (.tmp 3)), none⟩,
 ⟨6, 0, false, .r (.mov (.loc 7)), none⟩,
 ⟨7, 0, false, .r (.mov (.loc 7)), none⟩,
 ⟨8, 0, false, .r (.bin .add (.tmp 7) (.cst (.int .i64 1))), none⟩,
 ⟨2, 0, true, .call f2 [.tmp 1], none⟩,
 ⟨5, 0, true, .call f2 [.tmp 4], none⟩,
 ⟨9, 0, true, .call f3 [.tmp 5, .tmp 6, .tmp 8], none⟩,
 ⟨10, 0, false, .r (.build [.nils, .nils, .nils] [(0, 1, .tmp 2), (1, 1, .tmp 9)]), none⟩,
 ⟨11, 0, true, .h (.store 3 (.loc 4) (.tmp 10)), none⟩,
 ⟨12, 0, false, .r (.mov (.cst (.int .i64 0))), none⟩], [(5, 12)]⟩)
 .ret))))), [(.cell (.loc 4) true 3), (.tmp (.loc 5))]⟩

/-- glebe/conf.Next -/
def c_conf_Next (f0 f1 f2 f3 f4 f5 f6 : FuncId) : AFn := ⟨52, fun s => List.contains [0, 1, 2, 3, 4, 5, 6, 7, 8, 31, 47] s, (.seq (.reg [⟨.loc 2, .h (.box (.loc 0)), none⟩,
 ⟨.loc 3, .h (.box (.loc 1)), none⟩,
 ⟨.loc 4, .h (.mk [.nils, .nils, .nils]), none⟩,
 ⟨.loc 5, .r (.mov (.cst (.bool false))), none⟩])
 (.seq (.reg [⟨.tmp 9, .r (.load true 3 (.loc 2)), none⟩,
 ⟨.tmp 10, .r (.build [.nils, .nils, .nils] [(0, 3, .tmp 9)]), none⟩,
 ⟨.loc 6, .h (.mk [.nils, .nils, .nils]), none⟩,
 ⟨.none, .h (.store 3 (.loc 6) (.tmp 10)), none⟩])
 (.seq (.reg [⟨.tmp 11, .r (.clo f0 [.loc 3]), none⟩,
 ⟨.loc 7, .r (.mov (.tmp 11)), none⟩])
 (.seq (.seq (.reg [⟨.tmp 12, .r (.load true 3 (.loc 2)), none⟩,
 ⟨.tmp 13, .call f1 [.tmp 12], none⟩,
 ⟨.tmp 14, .r (.bin .neq (.tmp 13) (.cst (.int .i64 0))), none⟩,
 ⟨.tmp 15, .r (.mov (.tmp 14)), none⟩,
 ⟨.tmp 16, .r (.load true 3 (.loc 6)), some (.tmp 15, false)⟩,
 ⟨.tmp 17, .call f2 [.tmp 16], some (.tmp 15, false)⟩,
 ⟨.tmp 18, .r (.not (.tmp 17)), some (.tmp 15, false)⟩,
 ⟨.tmp 19, .r (.pick (.tmp 15) (.cst (.bool true)) (.tmp 18)), none⟩,
 ⟨.tmp 20, .r (.mov (.tmp 19)), none⟩,
 ⟨.tmp 21, .r (.off 1 (.loc 2)), some (.tmp 20, false)⟩,
 ⟨.tmp 22, .r (.load false 1 (.tmp 21)), some (.tmp 20, false)⟩,
 ⟨.tmp 23, .r (.len (.tmp 22)), some (.tmp 20, false)⟩,
 ⟨.tmp 24, .r (.bin .eql (.tmp 23) (.cst (.int .i64 0))), some (.tmp 20, false)⟩,
 ⟨.tmp 25, .r (.mov (.tmp 24)), some (.tmp 20, false)⟩,
 ⟨.tmp 26, .r (.off 2 (.loc 2)), some (.tmp 25, true)⟩,
 ⟨.tmp 27, .r (.load false 1 (.tmp 26)), some (.tmp 25, true)⟩,
 ⟨.tmp 28, .r (.mov (.loc 7)), some (.tmp 25, true)⟩,
 ⟨.tmp 29, .call f3 [.tmp 27, .tmp 28], some (.tmp 25, true)⟩,
 ⟨.tmp 30, .r (.pick (.tmp 25) (.tmp 29) (.cst (.bool false))), some (.tmp 20, false)⟩,
 ⟨.loc 31, .r (.pick (.tmp 20) (.cst (.bool true)) (.tmp 30)), none⟩])
 (.cond (.loc 31) (.seq (.dreg ⟨[0, 1, 3, 0, 8, 31, 0, 64, 255, 511, 1023, 2047], 0, [⟨0, 0, false, .r (.off 0 (.loc 2)), none⟩,
 ⟨1, 0, false, .r (.load false 1 (.tmp 0)), none⟩,
 ⟨3, 0, false, .r (.off 1 (.loc 2)), none⟩,
 ⟨4, 0, false, .r (.load false 1 (.tmp 3)), none⟩,
 ⟨6, 0, false, .r (.off 2 (.loc 2)), none⟩,
 ⟨7, 0, false, .r (.load false 1 (.tmp 6)), none⟩,
 ⟨2, 0, true, .call f4 [.tmp 1], none⟩,
 ⟨5, 0, true, .call f4 [.tmp 4], none⟩,
 ⟨8, 0, true, .call f4 [.tmp 7], none⟩,
 ⟨9, 0, false, .r (.build [.nils, .nils, .nils] [(0, 1, .tmp 2), (1, 1, .tmp 5), (2, 1, .tmp 8)]), none⟩,
 ⟨10, 0, true, .h (.store 3 (.loc 4) (.tmp 9)), none⟩,
 ⟨11, 0, false, .r (.mov (.cst (.bool false))), none⟩], [(5, 11)]⟩)
 .ret)
 .skip))
 (.seq (.reg [⟨.tmp 42, .r (.load true 3 (.loc 6)), none⟩,
 ⟨.tmp 43, .r (.x (.bclo f5 [.tmp 42] [])), none⟩,
 ⟨.loc 8, .r (.mov (.tmp 43)), none⟩])
 (.seq (.seq (.reg [⟨.tmp 44, .r (.off 1 (.loc 2)), none⟩,
 ⟨.tmp 45, .r (.load false 1 (.tmp 44)), none⟩,
 ⟨.tmp 46, .r (.len (.tmp 45)), none⟩,
 ⟨.loc 47, .r (.bin .gtr (.tmp 46) (.cst (.int .i64 0))), none⟩])
 (.cond (.loc 47) (.reg [⟨.tmp 48, .r (.load true 3 (.loc 6)), none⟩,
 ⟨.tmp 49, .r (.x (.bclo f6 [.tmp 48] [])), none⟩,
 ⟨.loc 8, .r (.mov (.tmp 49)), none⟩])
 .skip))
 (.seq (.reg [⟨.tmp 50, .r (.mov (.loc 8)), none⟩,
 ⟨(.tmp 51), (.callv (.tmp 50) []), none⟩,
 ⟨.none, .h (.store 3 (.loc 4) (.tmp 51)), none⟩,
 ⟨.loc 5, .r (.mov (.cst (.bool true))), none⟩])
 .ret))))))), [(.cell (.loc 4) true 3), (.tmp (.loc 5))]⟩

/-- glebe/conf.Next$1 -/
def c_conf_Next_f1 (f0 : FuncId) : AFn := ⟨8, fun s => List.contains [0, 1, 3] s, (.seq (.reg [⟨.loc 3, .r (.mov (.cst (.bool false))), none⟩])
 (.seq (.reg [⟨.tmp 4, .r (.load false 1 (.loc 1)), none⟩,
 ⟨.tmp 5, .r (.mov (.loc 0)), none⟩,
 ⟨.tmp 6, .call f0 [.tmp 4, .tmp 5], none⟩,
 ⟨.tmp 7, .r (.not (.tmp 6)), none⟩,
 ⟨.loc 3, .r (.mov (.tmp 7)), none⟩])
 .ret)), [(.tmp (.loc 3))]⟩

/-- glebe/conf.may -/
def c_conf_may (f0 f1 : FuncId) : AFn := ⟨20, fun s => List.contains [0, 1, 2, 4, 5, 9, 16] s, (.seq (.reg [⟨.loc 2, .h (.box (.loc 0)), none⟩,
 ⟨.loc 4, .r (.mov (.cst (.int .i64 0))), none⟩])
 (.seq (.block 0 (.seq (.reg [⟨.tmp 6, .r (.load true 3 (.loc 2)), none⟩,
 ⟨.tmp 7, .call f0 [.tmp 6], none⟩,
 ⟨.tmp 8, .r (.bin .neq (.tmp 7) (.cst (.int .i64 0))), none⟩,
 ⟨.loc 5, .r (.mov (.tmp 8)), none⟩])
 (.cond (.loc 5) (.seq (.reg [⟨.loc 4, .r (.mov (.cst (.int .i64 29))), none⟩])
 .ret)
 (.seq (.reg [⟨.tmp 10, .r (.mov (.loc 1)), none⟩,
 ⟨.tmp 11, .r (.bin .lss (.tmp 10) (.cst (.int .i64 1))), none⟩,
 ⟨.tmp 12, .r (.mov (.tmp 11)), none⟩,
 ⟨.tmp 13, .r (.mov (.loc 1)), some (.tmp 12, false)⟩,
 ⟨.tmp 14, .r (.bin .gtr (.tmp 13) (.cst (.int .i64 7))), some (.tmp 12, false)⟩,
 ⟨.tmp 15, .r (.pick (.tmp 12) (.cst (.bool true)) (.tmp 14)), none⟩,
 ⟨.loc 9, .r (.mov (.tmp 15)), none⟩])
 (.cond (.loc 9) (.seq (.reg [⟨.loc 4, .r (.mov (.cst (.int .i64 28))), none⟩])
 .ret)
 (.seq (.reg [⟨.tmp 17, .r (.load true 3 (.loc 2)), none⟩,
 ⟨.tmp 18, .r (.build [.nils, .nils, .nils] [(0, 3, .tmp 17)]), none⟩,
 ⟨.tmp 19, .call f1 [.tmp 18], none⟩,
 ⟨.loc 16, .r (.mov (.tmp 19)), none⟩])
 (.cond (.loc 16) (.seq (.reg [⟨.loc 4, .r (.mov (.cst (.int .i64 11))), none⟩])
 .ret)
 .skip)))))))
 (.seq (.reg [⟨.loc 4, .r (.mov (.cst (.int .i64 0))), none⟩])
 .ret))), [(.tmp (.loc 4))]⟩

/-- (glebe/conf.members).busy -/
def c_conf_members_busy : AFn := ⟨13, fun s => List.contains [0, 1, 2] s, (.seq (.reg [⟨.loc 1, .h (.box (.loc 0)), none⟩,
 ⟨.loc 2, .r (.mov (.cst (.bool false))), none⟩])
 (.seq (.reg [⟨.tmp 3, .r (.off 0 (.loc 1)), none⟩,
 ⟨.tmp 4, .r (.off 1 (.tmp 3)), none⟩,
 ⟨.tmp 5, .r (.load false 1 (.tmp 4)), none⟩,
 ⟨.tmp 6, .r (.len (.tmp 5)), none⟩,
 ⟨.tmp 7, .r (.off 0 (.loc 1)), none⟩,
 ⟨.tmp 8, .r (.off 2 (.tmp 7)), none⟩,
 ⟨.tmp 9, .r (.load false 1 (.tmp 8)), none⟩,
 ⟨.tmp 10, .r (.len (.tmp 9)), none⟩,
 ⟨.tmp 11, .r (.bin .add (.tmp 6) (.tmp 10)), none⟩,
 ⟨.tmp 12, .r (.bin .gtr (.tmp 11) (.cst (.int .i64 0))), none⟩,
 ⟨.loc 2, .r (.mov (.tmp 12)), none⟩])
 .ret)), [(.tmp (.loc 2))]⟩

/-- (glebe/conf.members).joint -/
def c_conf_members_joint (f0 f1 : FuncId) : AFn := ⟨20, fun s => List.contains [0, 1, 2, 3] s, (.seq (.reg [⟨.loc 1, .h (.box (.loc 0)), none⟩,
 ⟨.loc 2, .h (.mk [.nils, .nils, .nils]), none⟩])
 (.seq (.dreg ⟨[0, 1, 3, 7, 0, 16, 48, 127, 255], 0, [⟨0, 0, false, .r (.off 0 (.loc 1)), none⟩,
 ⟨1, 0, false, .r (.off 0 (.tmp 0)), none⟩,
 ⟨2, 0, false, .r (.load false 1 (.tmp 1)), none⟩,
 ⟨4, 0, false, .r (.off 0 (.loc 1)), none⟩,
 ⟨5, 0, false, .r (.off 2 (.tmp 4)), none⟩,
 ⟨6, 0, false, .r (.load false 1 (.tmp 5)), none⟩,
 ⟨3, 0, true, .call f0 [.tmp 2], none⟩,
 ⟨7, 0, true, .h (.app 1 8 (.tmp 3) (.tmp 6)), none⟩,
 ⟨8, 0, false, .r (.mov (.tmp 7)), none⟩], [(3, 8)]⟩)
 (.seq (.reg [⟨.tmp 12, .r (.mov (.loc 3)), none⟩,
 ⟨.tmp 13, .call f1 [.tmp 12], none⟩])
 (.seq (.reg [⟨.tmp 14, .r (.off 0 (.loc 1)), none⟩,
 ⟨.tmp 15, .r (.off 0 (.tmp 14)), none⟩,
 ⟨.tmp 16, .r (.load false 1 (.tmp 15)), none⟩,
 ⟨.tmp 17, .call f0 [.tmp 16], none⟩,
 ⟨.tmp 18, .r (.mov (.loc 3)), none⟩,
 ⟨.tmp 19, .r (.build [.nils, .nils, .nils] [(0, 1, .tmp 17), (1, 1, .tmp 18)]), none⟩,
 ⟨.none, .h (.store 3 (.loc 2) (.tmp 19)), none⟩])
 .ret)))), [(.cell (.loc 2) true 3)]⟩

/-- (glebe/conf.members).alone -/
def c_conf_members_alone (f0 : FuncId) : AFn := ⟨8, fun s => List.contains [0, 1, 2] s, (.seq (.reg [⟨.loc 1, .h (.box (.loc 0)), none⟩,
 ⟨.loc 2, .h (.mk [.nils, .nils, .nils]), none⟩])
 (.seq (.reg [⟨.tmp 3, .r (.off 0 (.loc 1)), none⟩,
 ⟨.tmp 4, .r (.off 1 (.tmp 3)), none⟩,
 ⟨.tmp 5, .r (.load false 1 (.tmp 4)), none⟩,
 ⟨.tmp 6, .call f0 [.tmp 5], none⟩,
 ⟨.tmp 7, .r (.build [.nils, .nils, .nils] [(0, 1, .tmp 6)]), none⟩,
 ⟨.none, .h (.store 3 (.loc 2) (.tmp 7)), none⟩])
 .ret)), [(.cell (.loc 2) true 3)]⟩

/-- glebe/gleberef16.Add -/
def c_gleberef16_Add (f0 f1 f2 : FuncId) : AFn := ⟨25, fun s => List.contains [0, 1, 2, 4, 5, 6, 11, 17] s, (.seq (.reg [⟨.loc 2, .h (.box (.loc 0)), none⟩,
 ⟨.loc 4, .h (.mk [.nils, .nils, .nils]), none⟩,
 ⟨.loc 5, .r (.mov (.cst (.int .i64 0))), none⟩])
 (.seq (.reg [⟨.tmp 7, .r (.load true 3 (.loc 2)), none⟩,
 ⟨.tmp 8, .r (.mov (.loc 1)), none⟩,
 ⟨.tmp 9, .call f0 [.tmp 7, .tmp 8], none⟩,
 ⟨.loc 6, .r (.mov (.tmp 9)), none⟩])
 (.seq (.seq (.reg [⟨.tmp 10, .r (.mov (.loc 6)), none⟩,
 ⟨.loc 11, .r (.bin .neq (.tmp 10) (.cst (.int .i64 0))), none⟩])
 (.cond (.loc 11) (.seq (.reg [⟨.tmp 12, .r (.build [.nils, .nils, .nils] []), none⟩,
 ⟨.tmp 13, .r (.mov (.loc 6)), none⟩,
 ⟨.none, .h (.store 3 (.loc 4) (.tmp 12)), none⟩,
 ⟨.loc 5, .r (.mov (.tmp 13)), none⟩])
 .ret)
 .skip))
 (.seq (.seq (.reg [⟨.tmp 14, .r (.off 0 (.loc 2)), none⟩,
 ⟨.tmp 15, .r (.load false 1 (.tmp 14)), none⟩,
 ⟨.tmp 16, .r (.mov (.loc 1)), none⟩,
 ⟨.loc 17, .call f1 [.tmp 15, .tmp 16], none⟩])
 (.cond (.loc 17) (.seq (.reg [⟨.tmp 18, .r (.build [.nils, .nils, .nils] []), none⟩,
 ⟨.none, .h (.store 3 (.loc 4) (.tmp 18)), none⟩,
 ⟨.loc 5, .r (.mov (.cst (.int .i64 7))), none⟩])
 .ret)
 .skip))
 (.seq (.reg [⟨.tmp 19, .r (.off 0 (.loc 2)), none⟩,
 ⟨.tmp 20, .r (.load false 1 (.tmp 19)), none⟩,
 ⟨.tmp 21, .call f2 [.tmp 20], none⟩,
 ⟨.tmp 22, .r (.mov (.loc 1)), none⟩,
 ⟨.tmp 23, .h (.bsl 1 [.tmp 22]), none⟩,
 ⟨.tmp 24, .r (.build [.nils, .nils, .nils] [(0, 1, .tmp 21), (2, 1, .tmp 23)]), none⟩,
 ⟨.none, .h (.store 3 (.loc 4) (.tmp 24)), none⟩,
 ⟨.loc 5, .r (.mov (.cst (.int .i64 0))), none⟩])
 .ret))))), [(.cell (.loc 4) true 3), (.tmp (.loc 5))]⟩

def c_gleberef16_Drop_l0 (f0 f1 f2 : FuncId) : AC := (.seq (.seq (.reg [⟨.tmp 27, .r (.mov (.loc 8)), none⟩,
 ⟨.tmp 28, .r (.off 0 (.loc 2)), none⟩,
 ⟨.tmp 29, .r (.load false 1 (.tmp 28)), none⟩,
 ⟨.tmp 30, .r (.len (.tmp 29)), none⟩,
 ⟨.loc 31, .r (.bin .lss (.tmp 27) (.tmp 30)), none⟩])
 (.cond (.loc 31) .skip
 (.exit 0)))
 (.seq (.block 1 (.seq (.reg [⟨.tmp 34, .r (.off 0 (.loc 2)), none⟩,
 ⟨.tmp 35, .r (.load false 1 (.tmp 34)), none⟩,
 ⟨.tmp 36, .r (.mov (.loc 8)), none⟩,
 ⟨.tmp 37, .r (.idx 1 (.tmp 35) (.tmp 36)), none⟩,
 ⟨.tmp 38, .r (.load false 1 (.tmp 37)), none⟩,
 ⟨.tmp 39, .r (.mov (.loc 1)), none⟩,
 ⟨.loc 40, .r (.bin .neq (.tmp 38) (.tmp 39)), none⟩])
 (.cond (.loc 40) (.reg [⟨.tmp 41, .r (.mov (.loc 7)), none⟩,
 ⟨.tmp 42, .r (.off 0 (.loc 2)), none⟩,
 ⟨.tmp 43, .r (.load false 1 (.tmp 42)), none⟩,
 ⟨.tmp 44, .r (.mov (.loc 8)), none⟩,
 ⟨.tmp 45, .r (.idx 1 (.tmp 43) (.tmp 44)), none⟩,
 ⟨.tmp 46, .r (.load false 1 (.tmp 45)), none⟩,
 ⟨.tmp 47, .h (.bsl 1 [.tmp 46]), none⟩,
 ⟨.tmp 48, .h (.app 1 8 (.tmp 41) (.tmp 47)), none⟩,
 ⟨.loc 7, .r (.mov (.tmp 48)), none⟩])
 .skip)))
 (.reg [⟨.tmp 32, .r (.mov (.loc 8)), none⟩,
 ⟨.tmp 33, .r (.bin .add (.tmp 32) (.cst (.int .i64 1))), none⟩,
 ⟨.loc 8, .r (.mov (.tmp 33)), none⟩])))
/-- glebe/gleberef16.Drop -/
def c_gleberef16_Drop (f0 f1 f2 : FuncId) : AFn := ⟨54, fun s => List.contains [0, 1, 2, 4, 5, 6, 7, 8, 13, 20, 25, 31, 40] s, (.seq (.reg [⟨.loc 2, .h (.box (.loc 0)), none⟩,
 ⟨.loc 4, .h (.mk [.nils, .nils, .nils]), none⟩,
 ⟨.loc 5, .r (.mov (.cst (.int .i64 0))), none⟩])
 (.seq (.reg [⟨.tmp 9, .r (.load true 3 (.loc 2)), none⟩,
 ⟨.tmp 10, .r (.mov (.loc 1)), none⟩,
 ⟨.tmp 11, .call f0 [.tmp 9, .tmp 10], none⟩,
 ⟨.loc 6, .r (.mov (.tmp 11)), none⟩])
 (.seq (.seq (.reg [⟨.tmp 12, .r (.mov (.loc 6)), none⟩,
 ⟨.loc 13, .r (.bin .neq (.tmp 12) (.cst (.int .i64 0))), none⟩])
 (.cond (.loc 13) (.seq (.reg [⟨.tmp 14, .r (.build [.nils, .nils, .nils] []), none⟩,
 ⟨.tmp 15, .r (.mov (.loc 6)), none⟩,
 ⟨.none, .h (.store 3 (.loc 4) (.tmp 14)), none⟩,
 ⟨.loc 5, .r (.mov (.tmp 15)), none⟩])
 .ret)
 .skip))
 (.seq (.seq (.reg [⟨.tmp 16, .r (.off 0 (.loc 2)), none⟩,
 ⟨.tmp 17, .r (.load false 1 (.tmp 16)), none⟩,
 ⟨.tmp 18, .r (.mov (.loc 1)), none⟩,
 ⟨.tmp 19, .call f1 [.tmp 17, .tmp 18], none⟩,
 ⟨.loc 20, .r (.not (.tmp 19)), none⟩])
 (.cond (.loc 20) (.seq (.reg [⟨.tmp 21, .r (.build [.nils, .nils, .nils] []), none⟩,
 ⟨.none, .h (.store 3 (.loc 4) (.tmp 21)), none⟩,
 ⟨.loc 5, .r (.mov (.cst (.int .i64 6))), none⟩])
 .ret)
 .skip))
 (.seq (.seq (.reg [⟨.tmp 22, .r (.off 0 (.loc 2)), none⟩,
 ⟨.tmp 23, .r (.load false 1 (.tmp 22)), none⟩,
 ⟨.tmp 24, .r (.len (.tmp 23)), none⟩,
 ⟨.loc 25, .r (.bin .eql (.tmp 24) (.cst (.int .i64 1))), none⟩])
 (.cond (.loc 25) (.seq (.reg [⟨.tmp 26, .r (.build [.nils, .nils, .nils] []), none⟩,
 ⟨.none, .h (.store 3 (.loc 4) (.tmp 26)), none⟩,
 ⟨.loc 5, .r (.mov (.cst (.int .i64 29))), none⟩])
 .ret)
 .skip))
 (.seq (.reg [⟨.loc 7, .r (.mov (.cst .nils)), none⟩])
 (.seq (.seq (.reg [⟨.loc 8, .r (.mov (.cst (.int .i64 0))), none⟩])
 (.block 0 (.loop (c_gleberef16_Drop_l0 f0 f1 f2))))
 (.seq (.reg [⟨.tmp 49, .r (.off 0 (.loc 2)), none⟩,
 ⟨.tmp 50, .r (.load false 1 (.tmp 49)), none⟩,
 ⟨.tmp 51, .call f2 [.tmp 50], none⟩,
 ⟨.tmp 52, .r (.mov (.loc 7)), none⟩,
 ⟨.tmp 53, .r (.build [.nils, .nils, .nils] [(0, 1, .tmp 51), (1, 1, .tmp 52)]), none⟩,
 ⟨.none, .h (.store 3 (.loc 4) (.tmp 53)), none⟩,
 ⟨.loc 5, .r (.mov (.cst (.int .i64 0))), none⟩])
 .ret)))))))), [(.cell (.loc 4) true 3), (.tmp (.loc 5))]⟩

def c_gleberef16_Next_l0 (f0 f1 f2 f3 f4 f5 : FuncId) : AC := (.seq (.seq (.reg [⟨.tmp 29, .r (.mov (.loc 7)), none⟩,
 ⟨.tmp 30, .r (.off 2 (.loc 2)), none⟩,
 ⟨.tmp 31, .r (.load false 1 (.tmp 30)), none⟩,
 ⟨.tmp 32, .r (.len (.tmp 31)), none⟩,
 ⟨.loc 33, .r (.bin .lss (.tmp 29) (.tmp 32)), none⟩])
 (.cond (.loc 33) .skip
 (.exit 0)))
 (.seq (.block 1 (.seq (.seq (.reg [⟨.tmp 36, .r (.mov (.loc 1)), none⟩,
 ⟨.tmp 37, .r (.off 2 (.loc 2)), none⟩,
 ⟨.tmp 38, .r (.load false 1 (.tmp 37)), none⟩,
 ⟨.tmp 39, .r (.mov (.loc 7)), none⟩,
 ⟨.tmp 40, .r (.idx 1 (.tmp 38) (.tmp 39)), none⟩,
 ⟨.tmp 41, .r (.load false 1 (.tmp 40)), none⟩,
 ⟨.tmp 42, .call f4 [.tmp 36, .tmp 41], none⟩,
 ⟨.loc 43, .r (.not (.tmp 42)), none⟩])
 (.cond (.loc 43) (.seq (.reg [⟨.tmp 44, .r (.load true 3 (.loc 2)), none⟩,
 ⟨.tmp 45, .call f2 [.tmp 44], none⟩,
 ⟨.none, .h (.store 3 (.loc 4) (.tmp 45)), none⟩,
 ⟨.loc 5, .r (.mov (.cst (.bool false))), none⟩])
 .ret)
 .skip))
 (.reg [⟨.tmp 46, .r (.mov (.loc 6)), none⟩,
 ⟨.tmp 47, .r (.off 2 (.loc 2)), none⟩,
 ⟨.tmp 48, .r (.load false 1 (.tmp 47)), none⟩,
 ⟨.tmp 49, .r (.mov (.loc 7)), none⟩,
 ⟨.tmp 50, .r (.idx 1 (.tmp 48) (.tmp 49)), none⟩,
 ⟨.tmp 51, .r (.load false 1 (.tmp 50)), none⟩,
 ⟨.tmp 52, .call f5 [.tmp 46, .tmp 51], none⟩,
 ⟨.loc 6, .r (.mov (.tmp 52)), none⟩])))
 (.reg [⟨.tmp 34, .r (.mov (.loc 7)), none⟩,
 ⟨.tmp 35, .r (.bin .add (.tmp 34) (.cst (.int .i64 1))), none⟩,
 ⟨.loc 7, .r (.mov (.tmp 35)), none⟩])))
/-- glebe/gleberef16.Next -/
def c_gleberef16_Next (f0 f1 f2 f3 f4 f5 : FuncId) : AFn := ⟨58, fun s => List.contains [0, 1, 2, 4, 5, 6, 7, 15, 21, 33, 43] s, (.seq (.reg [⟨.loc 2, .h (.box (.loc 0)), none⟩,
 ⟨.loc 4, .h (.mk [.nils, .nils, .nils]), none⟩,
 ⟨.loc 5, .r (.mov (.cst (.bool false))), none⟩])
 (.seq (.seq (.reg [⟨.tmp 8, .r (.load true 3 (.loc 2)), none⟩,
 ⟨.tmp 9, .call f0 [.tmp 8], none⟩,
 ⟨.tmp 10, .r (.bin .neq (.tmp 9) (.cst (.int .i64 0))), none⟩,
 ⟨.tmp 11, .r (.mov (.tmp 10)), none⟩,
 ⟨.tmp 12, .r (.load true 3 (.loc 2)), some (.tmp 11, false)⟩,
 ⟨.tmp 13, .call f1 [.tmp 12], some (.tmp 11, false)⟩,
 ⟨.tmp 14, .r (.not (.tmp 13)), some (.tmp 11, false)⟩,
 ⟨.loc 15, .r (.pick (.tmp 11) (.cst (.bool true)) (.tmp 14)), none⟩])
 (.cond (.loc 15) (.seq (.reg [⟨.tmp 16, .r (.load true 3 (.loc 2)), none⟩,
 ⟨.tmp 17, .call f2 [.tmp 16], none⟩,
 ⟨.none, .h (.store 3 (.loc 4) (.tmp 17)), none⟩,
 ⟨.loc 5, .r (.mov (.cst (.bool false))), none⟩])
 .ret)
 .skip))
 (.seq (.seq (.reg [⟨.tmp 18, .r (.off 1 (.loc 2)), none⟩,
 ⟨.tmp 19, .r (.load false 1 (.tmp 18)), none⟩,
 ⟨.tmp 20, .r (.len (.tmp 19)), none⟩,
 ⟨.loc 21, .r (.bin .gtr (.tmp 20) (.cst (.int .i64 0))), none⟩])
 (.cond (.loc 21) (.seq (.reg [⟨.tmp 22, .r (.off 1 (.loc 2)), none⟩,
 ⟨.tmp 23, .r (.load false 1 (.tmp 22)), none⟩,
 ⟨.tmp 24, .call f3 [.tmp 23], none⟩,
 ⟨.tmp 25, .r (.build [.nils, .nils, .nils] [(0, 1, .tmp 24)]), none⟩,
 ⟨.none, .h (.store 3 (.loc 4) (.tmp 25)), none⟩,
 ⟨.loc 5, .r (.mov (.cst (.bool true))), none⟩])
 .ret)
 .skip))
 (.seq (.reg [⟨.tmp 26, .r (.off 0 (.loc 2)), none⟩,
 ⟨.tmp 27, .r (.load false 1 (.tmp 26)), none⟩,
 ⟨.tmp 28, .call f3 [.tmp 27], none⟩,
 ⟨.loc 6, .r (.mov (.tmp 28)), none⟩])
 (.seq (.seq (.reg [⟨.loc 7, .r (.mov (.cst (.int .i64 0))), none⟩])
 (.block 0 (.loop (c_gleberef16_Next_l0 f0 f1 f2 f3 f4 f5))))
 (.seq (.reg [⟨.tmp 53, .r (.off 0 (.loc 2)), none⟩,
 ⟨.tmp 54, .r (.load false 1 (.tmp 53)), none⟩,
 ⟨.tmp 55, .call f3 [.tmp 54], none⟩,
 ⟨.tmp 56, .r (.mov (.loc 6)), none⟩,
 ⟨.tmp 57, .r (.build [.nils, .nils, .nils] [(0, 1, .tmp 55), (1, 1, .tmp 56)]), none⟩,
 ⟨.none, .h (.store 3 (.loc 4) (.tmp 57)), none⟩,
 ⟨.loc 5, .r (.mov (.cst (.bool true))), none⟩])
 .ret)))))), [(.cell (.loc 4) true 3), (.tmp (.loc 5))]⟩

/-- glebe/gleberef16.forbids -/
def c_gleberef16_forbids (f0 f1 : FuncId) : AFn := ⟨16, fun s => List.contains [0, 1, 2, 4, 7, 13, 15] s, (.seq (.reg [⟨.loc 2, .h (.box (.loc 0)), none⟩,
 ⟨.loc 4, .r (.mov (.cst (.int .i64 0))), none⟩])
 (.seq (.seq (.reg [⟨.tmp 5, .r (.load true 3 (.loc 2)), none⟩,
 ⟨.tmp 6, .call f0 [.tmp 5], none⟩,
 ⟨.loc 7, .r (.bin .neq (.tmp 6) (.cst (.int .i64 0))), none⟩])
 (.cond (.loc 7) (.seq (.reg [⟨.loc 4, .r (.mov (.cst (.int .i64 29))), none⟩])
 .ret)
 .skip))
 (.seq (.seq (.reg [⟨.tmp 8, .r (.mov (.loc 1)), none⟩,
 ⟨.tmp 9, .r (.bin .lss (.tmp 8) (.cst (.int .i64 1))), none⟩,
 ⟨.tmp 10, .r (.mov (.tmp 9)), none⟩,
 ⟨.tmp 11, .r (.mov (.loc 1)), some (.tmp 10, false)⟩,
 ⟨.tmp 12, .r (.bin .gtr (.tmp 11) (.cst (.int .i64 7))), some (.tmp 10, false)⟩,
 ⟨.loc 13, .r (.pick (.tmp 10) (.cst (.bool true)) (.tmp 12)), none⟩])
 (.cond (.loc 13) (.seq (.reg [⟨.loc 4, .r (.mov (.cst (.int .i64 28))), none⟩])
 .ret)
 .skip))
 (.seq (.seq (.reg [⟨.tmp 14, .r (.load true 3 (.loc 2)), none⟩,
 ⟨.loc 15, .call f1 [.tmp 14], none⟩])
 (.cond (.loc 15) (.seq (.reg [⟨.loc 4, .r (.mov (.cst (.int .i64 11))), none⟩])
 .ret)
 .skip))
 (.seq (.reg [⟨.loc 4, .r (.mov (.cst (.int .i64 0))), none⟩])
 .ret))))), [(.tmp (.loc 4))]⟩

/-- glebe/gleberef16.Changing -/
def c_gleberef16_Changing : AFn := ⟨13, fun s => List.contains [0, 1, 2] s, (.seq (.reg [⟨.loc 1, .h (.box (.loc 0)), none⟩,
 ⟨.loc 2, .r (.mov (.cst (.bool false))), none⟩])
 (.seq (.reg [⟨.tmp 3, .r (.off 1 (.loc 1)), none⟩,
 ⟨.tmp 4, .r (.load false 1 (.tmp 3)), none⟩,
 ⟨.tmp 5, .r (.len (.tmp 4)), none⟩,
 ⟨.tmp 6, .r (.bin .gtr (.tmp 5) (.cst (.int .i64 0))), none⟩,
 ⟨.tmp 7, .r (.mov (.tmp 6)), none⟩,
 ⟨.tmp 8, .r (.off 2 (.loc 1)), some (.tmp 7, false)⟩,
 ⟨.tmp 9, .r (.load false 1 (.tmp 8)), some (.tmp 7, false)⟩,
 ⟨.tmp 10, .r (.len (.tmp 9)), some (.tmp 7, false)⟩,
 ⟨.tmp 11, .r (.bin .gtr (.tmp 10) (.cst (.int .i64 0))), some (.tmp 7, false)⟩,
 ⟨.tmp 12, .r (.pick (.tmp 7) (.cst (.bool true)) (.tmp 11)), none⟩,
 ⟨.loc 2, .r (.mov (.tmp 12)), none⟩])
 .ret)), [(.tmp (.loc 2))]⟩

/-- slices.Clone[[]int,int] -/
def c_slices_Clone_int_int : AFn := ⟨8, fun s => List.contains [0, 2, 4] s, (.seq (.reg [⟨.loc 2, .r (.mov (.cst .nils)), none⟩])
 (.seq (.seq (.reg [⟨.tmp 3, .r (.mov (.loc 0)), none⟩,
 ⟨.loc 4, .r (.nileq false (.tmp 3)), none⟩])
 (.cond (.loc 4) (.seq (.reg [⟨.loc 2, .r (.mov (.cst .nils)), none⟩])
 .ret)
 .skip))
 (.seq (.reg [⟨.tmp 5, .h (.bsl 1 []), none⟩,
 ⟨.tmp 6, .r (.mov (.loc 0)), none⟩,
 ⟨.tmp 7, .h (.app 1 8 (.tmp 5) (.tmp 6)), none⟩,
 ⟨.loc 2, .r (.mov (.tmp 7)), none⟩])
 .ret))), [(.tmp (.loc 2))]⟩

/-- slices.Delete[[]int,int] -/
def c_slices_Delete_int_int : AFn := ⟨33, fun s => List.contains [0, 1, 2, 6, 7, 16] s, (.seq (.reg [⟨.loc 6, .r (.mov (.cst .nils)), none⟩])
 (.seq (.reg [⟨.tmp 8, .r (.mov (.loc 0)), none⟩,
 ⟨.tmp 9, .r (.mov (.loc 1)), none⟩,
 ⟨.tmp 10, .r (.mov (.loc 2)), none⟩,
 ⟨.tmp 11, .r (.mov (.loc 0)), none⟩,
 ⟨.tmp 12, .r (.len (.tmp 11)), none⟩,
 ⟨.tmp 13, .r (.slc 1 (.tmp 8) (some (.tmp 9)) (some (.tmp 10)) (some (.tmp 12))), none⟩])
 (.seq (.seq (.reg [⟨.tmp 14, .r (.mov (.loc 1)), none⟩,
 ⟨.tmp 15, .r (.mov (.loc 2)), none⟩,
 ⟨.loc 16, .r (.bin .eql (.tmp 14) (.tmp 15)), none⟩])
 (.cond (.loc 16) (.seq (.reg [⟨.tmp 17, .r (.mov (.loc 0)), none⟩,
 ⟨.loc 6, .r (.mov (.tmp 17)), none⟩])
 .ret)
 .skip))
 (.seq (.reg [⟨.tmp 18, .r (.mov (.loc 0)), none⟩,
 ⟨.tmp 19, .r (.len (.tmp 18)), none⟩,
 ⟨.loc 7, .r (.mov (.tmp 19)), none⟩])
 (.seq (.dreg ⟨[0, 0, 3, 0, 0, 24, 63, 127], 0, [⟨0, 0, false, .r (.mov (.loc 0)), none⟩,
 ⟨1, 0, false, .r (.mov (.loc 1)), none⟩,
 ⟨2, 0, false, .r (.slc 1 (.tmp 0) none (some (.tmp 1)) none), none⟩,
 ⟨3, 0, false, .r (.mov (.loc 0)), none⟩,
 ⟨4, 0, false, .r (.mov (.loc 2)), none⟩,
 ⟨5, 0, false, .r (.slc 1 (.tmp 3) (some (.tmp 4)) none none), none⟩,
 ⟨6, 0, true, .h (.app 1 8 (.tmp 2) (.tmp 5)), none⟩,
 ⟨7, 0, false, .r (.mov (.tmp 6)), none⟩], [(0, 7)]⟩)
 (.seq (.reg [⟨.tmp 27, .r (.mov (.loc 0)), none⟩,
 ⟨.tmp 28, .r (.mov (.loc 0)), none⟩,
 ⟨.tmp 29, .r (.len (.tmp 28)), none⟩,
 ⟨.tmp 30, .r (.mov (.loc 7)), none⟩,
 ⟨.tmp 31, .r (.slc 1 (.tmp 27) (some (.tmp 29)) (some (.tmp 30)) none), none⟩,
 ⟨.none, .h (.clr 1 [(.int .i64 0)] (.tmp 31)), none⟩])
 (.seq (.reg [⟨.tmp 32, .r (.mov (.loc 0)), none⟩,
 ⟨.loc 6, .r (.mov (.tmp 32)), none⟩])
 .ret))))))), [(.tmp (.loc 6))]⟩

/-- slices.ContainsFunc[[]int,int] -/
def c_slices_ContainsFunc_int_int (f0 : FuncId) : AFn := ⟨9, fun s => List.contains [0, 1, 4] s, (.seq (.reg [⟨.loc 4, .r (.mov (.cst (.bool false))), none⟩])
 (.seq (.reg [⟨.tmp 5, .r (.mov (.loc 0)), none⟩,
 ⟨.tmp 6, .r (.mov (.loc 1)), none⟩,
 ⟨.tmp 7, .call f0 [.tmp 5, .tmp 6], none⟩,
 ⟨.tmp 8, .r (.bin .geq (.tmp 7) (.cst (.int .i64 0))), none⟩,
 ⟨.loc 4, .r (.mov (.tmp 8)), none⟩])
 .ret)), [(.tmp (.loc 4))]⟩

def c_slices_IndexFunc_int_int_l0 : AC := (.seq (.reg [⟨.loc 9, .r (.bin .lss (.loc 8) (.loc 7)), none⟩])
 (.seq (.cond (.loc 9) .skip
 (.exit 0))
 (.seq (.block 1 (.seq (.reg [⟨.tmp 10, .r (.mov (.loc 8)), none⟩,
 ⟨.loc 5, .r (.mov (.tmp 10)), none⟩])
 (.seq (.reg [⟨.tmp 11, .r (.mov (.loc 1)), none⟩,
 ⟨.tmp 12, .r (.mov (.loc 0)), none⟩,
 ⟨.tmp 13, .r (.mov (.loc 5)), none⟩,
 ⟨.tmp 14, .r (.idx 1 (.tmp 12) (.tmp 13)), none⟩,
 ⟨.tmp 15, .r (.load false 1 (.tmp 14)), none⟩,
 ⟨(.loc 16), (.callv (.tmp 11) [.tmp 15]), none⟩])
 (.cond (.loc 16) (.seq (.reg [⟨.tmp 17, .r (.mov (.loc 5)), none⟩,
 ⟨.loc 4, .r (.mov (.tmp 17)), none⟩])
 .ret)
 .skip))))
 (.reg [⟨.tmp 18, .r (.bin .add (.loc 8) (.cst (.int .i64 1))), none⟩,
 ⟨.loc 8, .r (.mov (.tmp 18)), none⟩]))))
/-- slices.IndexFunc[[]int,int] -/
def c_slices_IndexFunc_int_int : AFn := ⟨19, fun s => List.contains [0, 1, 4, 5, 7, 8, 9, 16] s, (.seq (.reg [⟨.loc 4, .r (.mov (.cst (.int .i64 0))), none⟩])
 (.seq (.seq (.reg [⟨.tmp 6, .r (.mov (.loc 0)), none⟩,
 ⟨.loc 7, .r (.len (.tmp 6)), none⟩,
 ⟨.loc 8, .r (.mov (.cst (.int .i64 0))), none⟩])
 (.block 0 (.loop (c_slices_IndexFunc_int_int_l0))))
 (.seq (.reg [⟨.loc 4, .r (.mov (.cst (.int .i64 (-1)))), none⟩])
 .ret))), [(.tmp (.loc 4))]⟩

end Glb
