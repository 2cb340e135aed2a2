/-
  What functions of the program are, one by one (the functions that they call as parameters), in a form of which something can be shown.
-/
import Derived.Test.YtodbhmdfmdfiaaaGlbLibB
set_option linter.unusedSimpArgs false
set_option linter.unusedVariables false
namespace Glb
open Go
set_option maxRecDepth 100000

def c_glebelaw14_VoteKnown_l0 (f0 f1 f2 f3 f4 f5 f6 f7 f8 : FuncId) : AC := (.seq (.seq (.reg [⟨.tmp 24, .r (.mov (.loc 5)), none⟩,
 ⟨.tmp 25, .r (.mov (.loc 2)), none⟩,
 ⟨.tmp 26, .r (.len (.tmp 25)), none⟩,
 ⟨.loc 27, .r (.bin .lss (.tmp 24) (.tmp 26)), none⟩])
 (.cond (.loc 27) .skip
 (.exit 4)))
 (.seq (.block 5 (.seq (.dreg ⟨[0, 0, 3, 7, 0, 0, 48, 112, 0, 0, 768, 1792, 0, 0, 12288, 28672, 0, 0, 196608, 458752, 1044480, 2097151, 4194303, 8388607, 16777215, 16777215, 67108863, 134217727, 16777215, 16777215, 822083583, 1895825407, 16777215, 16777215, 12901679103, 30081548287, 16777215, 16777215, 206175207423, 481053114367, 1030808928255, 2199023255551, 4398046511103, 8796093022207, 17592186044415, 35184372088831, 35184372088831, 140737488355327, 281474976710655, 35184372088831, 35184372088831, 1724034232352767, 3975834046038015, 35184372088831, 35184372088831, 27056782136311807, 63085579155275775, 35184372088831, 35184372088831, 432380748599656447, 1008841500903079935, 35184372088831, 35184372088831, 6917564212013170687, 16140936248867946495, 36749408143715336191, 35184372088831, 35184372088831, 221360964068886708223, 516508869248239534079, 35184372088831, 35184372088831, 3541774897336605999103, 8264141380206251212799, 18889321851474877087743, 37778931862957161709567, 75557863725914323419135, 151115727451828646838271, 302231454903657293676543, 604462909807314587353087, 604462909807314587353087, 2417851639229258349412351, 4835703278458516698824703, 604462909807314587353087, 604462909807314587353087, 29618682580558414780301311, 68304308808226548370898943, 604462909807314587353087, 604462909807314587353087, 464831977641824917674524671, 1083801997284515055124086783, 2466813134923650830987952127, 604462909807314587353087, 604462909807314587353087, 14855884934334370613376843775, 34662925562900455011762831359, 604462909807314587353087, 604462909807314587353087, 237685092005702820095219204095, 554597742062760170469395005439, 1267650600228229401496703205375, 2535301200456458802993406410751, 5070602400912917605986812821503], 0, [⟨0, 0, false, .r (.mov (.loc 1)), none⟩,
 ⟨1, 0, false, .r (.mov (.loc 3)), none⟩,
 ⟨2, 0, false, .r (.idx 1 (.tmp 0) (.tmp 1)), none⟩,
 ⟨3, 0, false, .r (.load false 1 (.tmp 2)), none⟩,
 ⟨4, 0, false, .r (.mov (.loc 1)), none⟩,
 ⟨5, 0, false, .r (.mov (.loc 4)), none⟩,
 ⟨6, 0, false, .r (.idx 1 (.tmp 4) (.tmp 5)), none⟩,
 ⟨7, 0, false, .r (.load false 1 (.tmp 6)), none⟩,
 ⟨8, 0, false, .r (.mov (.loc 2)), none⟩,
 ⟨9, 0, false, .r (.mov (.loc 5)), none⟩,
 ⟨10, 0, false, .r (.idx 3 (.tmp 8) (.tmp 9)), none⟩,
 ⟨11, 0, false, .r (.load true 3 (.tmp 10)), none⟩,
 ⟨12, 0, false, .r (.mov (.loc 1)), none⟩,
 ⟨13, 0, false, .r (.mov (.loc 3)), none⟩,
 ⟨14, 0, false, .r (.idx 1 (.tmp 12) (.tmp 13)), none⟩,
 ⟨15, 0, false, .r (.load false 1 (.tmp 14)), none⟩,
 ⟨16, 0, false, .r (.mov (.loc 1)), none⟩,
 ⟨17, 0, false, .r (.mov (.loc 4)), none⟩,
 ⟨18, 0, false, .r (.idx 1 (.tmp 16) (.tmp 17)), none⟩,
 ⟨19, 0, false, .r (.load false 1 (.tmp 18)), none⟩,
 ⟨20, 0, true, .call f1 [(.cst (.int .i64 2)), (.cst (.int .i64 5)), .tmp 15, .tmp 19], none⟩,
 ⟨21, 0, true, .call f2 [.tmp 3, (.cst (.int .i64 5)), .tmp 7, .tmp 11, .tmp 20], none⟩,
 ⟨22, 0, false, .r (.not (.tmp 21)), none⟩,
 ⟨23, 0, false, .r (.mov (.tmp 22)), none⟩,
 ⟨24, 0, false, .r (.mov (.loc 1)), some (.tmp 23, false)⟩,
 ⟨25, 0, false, .r (.mov (.loc 3)), some (.tmp 23, false)⟩,
 ⟨26, 0, false, .r (.idx 1 (.tmp 24) (.tmp 25)), some (.tmp 23, false)⟩,
 ⟨27, 0, false, .r (.load false 1 (.tmp 26)), some (.tmp 23, false)⟩,
 ⟨28, 0, false, .r (.mov (.loc 1)), some (.tmp 23, false)⟩,
 ⟨29, 0, false, .r (.mov (.loc 3)), some (.tmp 23, false)⟩,
 ⟨30, 0, false, .r (.idx 1 (.tmp 28) (.tmp 29)), some (.tmp 23, false)⟩,
 ⟨31, 0, false, .r (.load false 1 (.tmp 30)), some (.tmp 23, false)⟩,
 ⟨32, 0, false, .r (.mov (.loc 2)), some (.tmp 23, false)⟩,
 ⟨33, 0, false, .r (.mov (.loc 5)), some (.tmp 23, false)⟩,
 ⟨34, 0, false, .r (.idx 3 (.tmp 32) (.tmp 33)), some (.tmp 23, false)⟩,
 ⟨35, 0, false, .r (.load true 3 (.tmp 34)), some (.tmp 23, false)⟩,
 ⟨36, 0, false, .r (.mov (.loc 1)), some (.tmp 23, false)⟩,
 ⟨37, 0, false, .r (.mov (.loc 4)), some (.tmp 23, false)⟩,
 ⟨38, 0, false, .r (.idx 1 (.tmp 36) (.tmp 37)), some (.tmp 23, false)⟩,
 ⟨39, 0, false, .r (.load false 1 (.tmp 38)), some (.tmp 23, false)⟩,
 ⟨40, 0, true, .call f1 [.tmp 39, (.cst (.int .i64 5)), (.cst (.int .i64 7)), (.cst (.int .i64 3))], some (.tmp 23, false)⟩,
 ⟨41, 0, true, .call f2 [.tmp 27, .tmp 31, (.cst (.int .i64 0)), .tmp 35, .tmp 40], some (.tmp 23, false)⟩,
 ⟨42, 0, false, .r (.not (.tmp 41)), some (.tmp 23, false)⟩,
 ⟨43, 0, false, .r (.pick (.tmp 23) (.cst (.bool true)) (.tmp 42)), none⟩,
 ⟨44, 0, false, .r (.mov (.tmp 43)), none⟩,
 ⟨45, 0, false, .r (.mov (.loc 1)), some (.tmp 44, false)⟩,
 ⟨46, 0, false, .r (.mov (.loc 4)), some (.tmp 44, false)⟩,
 ⟨47, 0, false, .r (.idx 1 (.tmp 45) (.tmp 46)), some (.tmp 44, false)⟩,
 ⟨48, 0, false, .r (.load false 1 (.tmp 47)), some (.tmp 44, false)⟩,
 ⟨49, 0, false, .r (.mov (.loc 1)), some (.tmp 44, false)⟩,
 ⟨50, 0, false, .r (.mov (.loc 3)), some (.tmp 44, false)⟩,
 ⟨51, 0, false, .r (.idx 1 (.tmp 49) (.tmp 50)), some (.tmp 44, false)⟩,
 ⟨52, 0, false, .r (.load false 1 (.tmp 51)), some (.tmp 44, false)⟩,
 ⟨53, 0, false, .r (.mov (.loc 2)), some (.tmp 44, false)⟩,
 ⟨54, 0, false, .r (.mov (.loc 5)), some (.tmp 44, false)⟩,
 ⟨55, 0, false, .r (.idx 3 (.tmp 53) (.tmp 54)), some (.tmp 44, false)⟩,
 ⟨56, 0, false, .r (.load true 3 (.tmp 55)), some (.tmp 44, false)⟩,
 ⟨57, 0, false, .r (.mov (.loc 1)), some (.tmp 44, false)⟩,
 ⟨58, 0, false, .r (.mov (.loc 3)), some (.tmp 44, false)⟩,
 ⟨59, 0, false, .r (.idx 1 (.tmp 57) (.tmp 58)), some (.tmp 44, false)⟩,
 ⟨60, 0, false, .r (.load false 1 (.tmp 59)), some (.tmp 44, false)⟩,
 ⟨61, 0, false, .r (.mov (.loc 1)), some (.tmp 44, false)⟩,
 ⟨62, 0, false, .r (.mov (.loc 4)), some (.tmp 44, false)⟩,
 ⟨63, 0, false, .r (.idx 1 (.tmp 61) (.tmp 62)), some (.tmp 44, false)⟩,
 ⟨64, 0, false, .r (.load false 1 (.tmp 63)), some (.tmp 44, false)⟩,
 ⟨66, 0, false, .r (.mov (.loc 1)), some (.tmp 44, false)⟩,
 ⟨67, 0, false, .r (.mov (.loc 4)), some (.tmp 44, false)⟩,
 ⟨68, 0, false, .r (.idx 1 (.tmp 66) (.tmp 67)), some (.tmp 44, false)⟩,
 ⟨69, 0, false, .r (.load false 1 (.tmp 68)), some (.tmp 44, false)⟩,
 ⟨70, 0, false, .r (.mov (.loc 1)), some (.tmp 44, false)⟩,
 ⟨71, 0, false, .r (.mov (.loc 3)), some (.tmp 44, false)⟩,
 ⟨72, 0, false, .r (.idx 1 (.tmp 70) (.tmp 71)), some (.tmp 44, false)⟩,
 ⟨73, 0, false, .r (.load false 1 (.tmp 72)), some (.tmp 44, false)⟩,
 ⟨65, 0, true, .call f1 [(.cst (.int .i64 2)), .tmp 60, .tmp 64, (.cst (.int .i64 3))], some (.tmp 44, false)⟩,
 ⟨74, 0, true, .call f1 [.tmp 69, .tmp 73, (.cst (.int .i64 9)), (.cst (.int .i64 9))], some (.tmp 44, false)⟩,
 ⟨75, 0, true, .call f3 [.tmp 48, .tmp 52, .tmp 56, .tmp 65, .tmp 74], some (.tmp 44, false)⟩,
 ⟨76, 0, false, .r (.not (.tmp 75)), some (.tmp 44, false)⟩,
 ⟨77, 0, false, .r (.pick (.tmp 44) (.cst (.bool true)) (.tmp 76)), none⟩,
 ⟨78, 0, false, .r (.mov (.tmp 77)), none⟩,
 ⟨79, 0, false, .r (.mov (.loc 2)), some (.tmp 78, false)⟩,
 ⟨80, 0, false, .r (.mov (.loc 5)), some (.tmp 78, false)⟩,
 ⟨81, 0, false, .r (.idx 3 (.tmp 79) (.tmp 80)), some (.tmp 78, false)⟩,
 ⟨82, 0, false, .r (.load true 3 (.tmp 81)), some (.tmp 78, false)⟩,
 ⟨83, 0, false, .r (.mov (.loc 1)), some (.tmp 78, false)⟩,
 ⟨84, 0, false, .r (.mov (.loc 3)), some (.tmp 78, false)⟩,
 ⟨85, 0, false, .r (.idx 1 (.tmp 83) (.tmp 84)), some (.tmp 78, false)⟩,
 ⟨86, 0, false, .r (.load false 1 (.tmp 85)), some (.tmp 78, false)⟩,
 ⟨87, 0, false, .r (.mov (.loc 1)), some (.tmp 78, false)⟩,
 ⟨88, 0, false, .r (.mov (.loc 4)), some (.tmp 78, false)⟩,
 ⟨89, 0, false, .r (.idx 1 (.tmp 87) (.tmp 88)), some (.tmp 78, false)⟩,
 ⟨90, 0, false, .r (.load false 1 (.tmp 89)), some (.tmp 78, false)⟩,
 ⟨92, 0, false, .r (.mov (.loc 1)), some (.tmp 78, false)⟩,
 ⟨93, 0, false, .r (.mov (.loc 4)), some (.tmp 78, false)⟩,
 ⟨94, 0, false, .r (.idx 1 (.tmp 92) (.tmp 93)), some (.tmp 78, false)⟩,
 ⟨95, 0, false, .r (.load false 1 (.tmp 94)), some (.tmp 78, false)⟩,
 ⟨96, 0, false, .r (.mov (.loc 1)), some (.tmp 78, false)⟩,
 ⟨97, 0, false, .r (.mov (.loc 3)), some (.tmp 78, false)⟩,
 ⟨98, 0, false, .r (.idx 1 (.tmp 96) (.tmp 97)), some (.tmp 78, false)⟩,
 ⟨99, 0, false, .r (.load false 1 (.tmp 98)), some (.tmp 78, false)⟩,
 ⟨91, 0, true, .call f1 [(.cst (.int .i64 2)), (.cst (.int .i64 5)), .tmp 86, .tmp 90], some (.tmp 78, false)⟩,
 ⟨100, 0, true, .call f4 [(.cst (.int .i64 5)), (.cst (.int .i64 2)), .tmp 82, .tmp 91, .tmp 95, .tmp 99], some (.tmp 78, false)⟩,
 ⟨101, 0, false, .r (.not (.tmp 100)), some (.tmp 78, false)⟩,
 ⟨102, 0, false, .r (.pick (.tmp 78) (.cst (.bool true)) (.tmp 101)), none⟩], [(132, 102)]⟩)
 (.cond (.loc 132) (.seq (.reg [⟨.loc 0, .r (.mov (.cst (.bool false))), none⟩])
 .ret)
 .skip)))
 (.reg [⟨.tmp 28, .r (.mov (.loc 5)), none⟩,
 ⟨.tmp 29, .r (.bin .add (.tmp 28) (.cst (.int .i64 1))), none⟩,
 ⟨.loc 5, .r (.mov (.tmp 29)), none⟩])))
def c_glebelaw14_VoteKnown_l1 (f0 f1 f2 f3 f4 f5 f6 f7 f8 : FuncId) : AC := (.seq (.seq (.reg [⟨.tmp 18, .r (.mov (.loc 4)), none⟩,
 ⟨.tmp 19, .r (.mov (.loc 1)), none⟩,
 ⟨.tmp 20, .r (.len (.tmp 19)), none⟩,
 ⟨.loc 21, .r (.bin .lss (.tmp 18) (.tmp 20)), none⟩])
 (.cond (.loc 21) .skip
 (.exit 2)))
 (.seq (.block 3 (.seq (.reg [⟨.loc 5, .r (.mov (.cst (.int .i64 0))), none⟩])
 (.block 4 (.loop (c_glebelaw14_VoteKnown_l0 f0 f1 f2 f3 f4 f5 f6 f7 f8)))))
 (.reg [⟨.tmp 22, .r (.mov (.loc 4)), none⟩,
 ⟨.tmp 23, .r (.bin .add (.tmp 22) (.cst (.int .i64 1))), none⟩,
 ⟨.loc 4, .r (.mov (.tmp 23)), none⟩])))
def c_glebelaw14_VoteKnown_l2 (f0 f1 f2 f3 f4 f5 f6 f7 f8 : FuncId) : AC := (.seq (.seq (.reg [⟨.tmp 12, .r (.mov (.loc 3)), none⟩,
 ⟨.tmp 13, .r (.mov (.loc 1)), none⟩,
 ⟨.tmp 14, .r (.len (.tmp 13)), none⟩,
 ⟨.loc 15, .r (.bin .lss (.tmp 12) (.tmp 14)), none⟩])
 (.cond (.loc 15) .skip
 (.exit 0)))
 (.seq (.block 1 (.seq (.seq (.reg [⟨.loc 4, .r (.mov (.cst (.int .i64 0))), none⟩])
 (.block 2 (.loop (c_glebelaw14_VoteKnown_l1 f0 f1 f2 f3 f4 f5 f6 f7 f8))))
 (.seq (.dreg ⟨[0, 0, 3, 7, 0, 0, 48, 112, 0, 0, 768, 1792, 0, 0, 0, 0, 57344, 131071, 262143, 524287, 1048575, 1048575, 4194303, 8388607, 1048575, 1048575, 67108863, 134217727, 268435455], 3, [⟨0, 0, false, .r (.mov (.loc 1)), none⟩,
 ⟨1, 0, false, .r (.mov (.loc 3)), none⟩,
 ⟨2, 0, false, .r (.idx 1 (.tmp 0) (.tmp 1)), none⟩,
 ⟨3, 0, false, .r (.load false 1 (.tmp 2)), none⟩,
 ⟨4, 0, false, .r (.mov (.loc 1)), none⟩,
 ⟨5, 0, false, .r (.mov (.loc 3)), none⟩,
 ⟨6, 0, false, .r (.idx 1 (.tmp 4) (.tmp 5)), none⟩,
 ⟨7, 0, false, .r (.load false 1 (.tmp 6)), none⟩,
 ⟨8, 0, false, .r (.mov (.loc 1)), none⟩,
 ⟨9, 0, false, .r (.mov (.loc 3)), none⟩,
 ⟨10, 0, false, .r (.idx 1 (.tmp 8) (.tmp 9)), none⟩,
 ⟨11, 0, false, .r (.load false 1 (.tmp 10)), none⟩,
 ⟨13, 0, false, .h (.bsl 1 [(.cst (.int .i64 1)), (.cst (.int .i64 2)), (.cst (.int .i64 3))]), none⟩,
 ⟨14, 1, false, .h (.bsl 1 [(.cst (.int .i64 3)), (.cst (.int .i64 5))]), none⟩,
 ⟨15, 2, false, .h (.bsl 1 [(.cst (.int .i64 7))]), none⟩,
 ⟨16, 3, false, .r (.build [.nils, .nils, .nils] [(0, 1, .tmp 13), (1, 1, .tmp 14), (2, 1, .tmp 15)]), none⟩,
 ⟨12, 0, true, .call f0 [], none⟩,
 ⟨17, 3, true, .call f5 [.tmp 3, .tmp 7, .tmp 11, .tmp 12, .tmp 16], none⟩,
 ⟨18, 3, false, .r (.not (.tmp 17)), none⟩,
 ⟨19, 3, false, .r (.mov (.tmp 18)), none⟩,
 ⟨20, 3, false, .r (.mov (.loc 1)), some (.tmp 19, false)⟩,
 ⟨21, 3, false, .r (.mov (.loc 3)), some (.tmp 19, false)⟩,
 ⟨22, 3, false, .r (.idx 1 (.tmp 20) (.tmp 21)), some (.tmp 19, false)⟩,
 ⟨23, 3, false, .r (.load false 1 (.tmp 22)), some (.tmp 19, false)⟩,
 ⟨24, 3, false, .r (.build [(.int .i64 0), (.int .i64 0), .nils] []), some (.tmp 19, false)⟩,
 ⟨25, 3, false, .r (.build [.nils, .nils, .nils] []), some (.tmp 19, false)⟩,
 ⟨26, 3, true, .call f5 [.tmp 23, (.cst (.int .i64 0)), (.cst (.int .i64 0)), .tmp 24, .tmp 25], some (.tmp 19, false)⟩,
 ⟨27, 3, false, .r (.not (.tmp 26)), some (.tmp 19, false)⟩,
 ⟨28, 3, false, .r (.pick (.tmp 19) (.cst (.bool true)) (.tmp 27)), none⟩], [(161, 28)]⟩)
 (.cond (.loc 161) (.seq (.reg [⟨.loc 0, .r (.mov (.cst (.bool false))), none⟩])
 .ret)
 .skip))))
 (.reg [⟨.tmp 16, .r (.mov (.loc 3)), none⟩,
 ⟨.tmp 17, .r (.bin .add (.tmp 16) (.cst (.int .i64 1))), none⟩,
 ⟨.loc 3, .r (.mov (.tmp 17)), none⟩])))
/-- glebe/glebelaw14.VoteKnown -/
def c_glebelaw14_VoteKnown (f0 f1 f2 f3 f4 f5 f6 f7 f8 : FuncId) : AFn := ⟨197, fun s => List.contains [0, 1, 2, 3, 4, 5, 6, 15, 21, 27, 132, 161] s, (.seq (.reg [⟨.loc 0, .r (.mov (.cst (.bool false))), none⟩])
 (.seq (.reg [⟨.tmp 7, .h (.bsl 1 [(.cst (.int .i64 (-9223372036854775808))), (.cst (.int .i64 (-1))), (.cst (.int .i64 0)), (.cst (.int .i64 1)), (.cst (.int .i64 2)), (.cst (.int .i64 3)), (.cst (.int .i64 4)), (.cst (.int .i64 5)), (.cst (.int .i64 6)), (.cst (.int .i64 7)), (.cst (.int .i64 8)), (.cst (.int .i64 9)), (.cst (.int .i64 10)), (.cst (.int .i64 9223372036854775807))]), none⟩,
 ⟨.loc 1, .r (.mov (.tmp 7)), none⟩])
 (.seq (.reg [⟨.tmp 8, .call f0 [], none⟩,
 ⟨.tmp 9, .r (.build [(.int .i64 0), (.int .i64 0), .nils] []), none⟩,
 ⟨.tmp 10, .r (.build [(.int .i64 0), (.int .i64 0), .nils] [(0, 1, (.cst (.int .i64 7))), (1, 1, (.cst (.int .i64 3)))]), none⟩,
 ⟨.tmp 11, .h (.bsl 3 [.tmp 8, .tmp 9, .tmp 10]), none⟩,
 ⟨.loc 2, .r (.mov (.tmp 11)), none⟩])
 (.seq (.seq (.reg [⟨.loc 3, .r (.mov (.cst (.int .i64 0))), none⟩])
 (.block 0 (.loop (c_glebelaw14_VoteKnown_l2 f0 f1 f2 f3 f4 f5 f6 f7 f8))))
 (.seq (.reg [⟨.tmp 162, .call f1 [(.cst (.int .i64 2)), (.cst (.int .i64 5)), (.cst (.int .i64 7)), (.cst (.int .i64 3))], none⟩,
 ⟨.loc 6, .h (.mk [(.int .i64 0), (.int .i64 0), (.int .i64 0), (.int .i64 0), (.int .i64 0), (.int .i64 0), (.int .i64 0), (.int .i64 0), (.int .i64 0), (.int .i64 0), (.int .i64 0), (.int .i64 0), (.int .i64 0), (.int .i64 0), (.bool false), .nils, .nils]), none⟩,
 ⟨.none, .h (.store 17 (.loc 6) (.tmp 162)), none⟩])
 (.seq (.reg [⟨.tmp 163, .r (.off 0 (.loc 6)), none⟩,
 ⟨.none, .h (.store 1 (.tmp 163) (.cst (.int .i64 2))), none⟩])
 (.seq (.dreg ⟨[0, 0, 3, 7, 15, 31, 63, 127, 255, 511, 1023, 2047, 4095, 8191, 16383, 32767, 65535, 131071, 262143, 524287, 1048575, 2097151, 4194303, 8388607, 16777215, 33554431, 67108863, 134217727, 268435455, 536870911, 1073741823, 2147483647, 4294967295, 8589934591], 0, [⟨1, 0, false, .r (.load true 17 (.loc 6)), none⟩,
 ⟨0, 0, true, .call f0 [], none⟩,
 ⟨2, 0, true, .call f6 [(.cst (.int .i64 5)), (.cst (.int .i64 0)), .tmp 0, .tmp 1], none⟩,
 ⟨3, 0, false, .r (.not (.tmp 2)), none⟩,
 ⟨4, 0, false, .r (.mov (.tmp 3)), none⟩,
 ⟨5, 0, true, .call f0 [], some (.tmp 4, true)⟩,
 ⟨6, 0, true, .call f1 [(.cst (.int .i64 2)), (.cst (.int .i64 5)), (.cst (.int .i64 7)), (.cst (.int .i64 3))], some (.tmp 4, true)⟩,
 ⟨7, 0, true, .call f6 [(.cst (.int .i64 5)), (.cst (.int .i64 2)), .tmp 5, .tmp 6], some (.tmp 4, true)⟩,
 ⟨8, 0, false, .r (.pick (.tmp 4) (.tmp 7) (.cst (.bool false))), none⟩,
 ⟨9, 0, false, .r (.mov (.tmp 8)), none⟩,
 ⟨10, 0, true, .call f0 [], some (.tmp 9, true)⟩,
 ⟨11, 0, true, .call f1 [(.cst (.int .i64 2)), (.cst (.int .i64 5)), (.cst (.int .i64 7)), (.cst (.int .i64 3))], some (.tmp 9, true)⟩,
 ⟨12, 0, true, .call f6 [(.cst (.int .i64 5)), (.cst (.int .i64 1)), .tmp 10, .tmp 11], some (.tmp 9, true)⟩,
 ⟨13, 0, false, .r (.not (.tmp 12)), some (.tmp 9, true)⟩,
 ⟨14, 0, false, .r (.pick (.tmp 9) (.tmp 13) (.cst (.bool false))), none⟩,
 ⟨15, 0, false, .r (.mov (.tmp 14)), none⟩,
 ⟨16, 0, true, .call f0 [], some (.tmp 15, true)⟩,
 ⟨17, 0, true, .call f1 [(.cst (.int .i64 2)), (.cst (.int .i64 5)), (.cst (.int .i64 1)), (.cst (.int .i64 4))], some (.tmp 15, true)⟩,
 ⟨18, 0, true, .call f6 [(.cst (.int .i64 5)), (.cst (.int .i64 0)), .tmp 16, .tmp 17], some (.tmp 15, true)⟩,
 ⟨19, 0, false, .r (.pick (.tmp 15) (.tmp 18) (.cst (.bool false))), none⟩,
 ⟨20, 0, false, .r (.mov (.tmp 19)), none⟩,
 ⟨21, 0, true, .call f0 [], some (.tmp 20, true)⟩,
 ⟨22, 0, true, .call f1 [(.cst (.int .i64 2)), (.cst (.int .i64 5)), (.cst (.int .i64 9)), (.cst (.int .i64 2))], some (.tmp 20, true)⟩,
 ⟨23, 0, true, .call f6 [(.cst (.int .i64 5)), (.cst (.int .i64 0)), .tmp 21, .tmp 22], some (.tmp 20, true)⟩,
 ⟨24, 0, false, .r (.not (.tmp 23)), some (.tmp 20, true)⟩,
 ⟨25, 0, false, .r (.pick (.tmp 20) (.tmp 24) (.cst (.bool false))), none⟩,
 ⟨26, 0, false, .r (.mov (.tmp 25)), none⟩,
 ⟨27, 0, true, .call f7 [(.cst (.int .i64 0)), (.cst (.int .i64 1))], some (.tmp 26, true)⟩,
 ⟨28, 0, false, .r (.bin .eql (.tmp 27) (.cst (.int .i64 0))), some (.tmp 26, true)⟩,
 ⟨29, 0, false, .r (.pick (.tmp 26) (.tmp 28) (.cst (.bool false))), none⟩,
 ⟨30, 0, false, .r (.mov (.tmp 29)), none⟩,
 ⟨31, 0, true, .call f8 [], some (.tmp 30, true)⟩,
 ⟨32, 0, false, .r (.pick (.tmp 30) (.tmp 31) (.cst (.bool false))), none⟩,
 ⟨33, 0, false, .r (.mov (.tmp 32)), none⟩], [(0, 33)]⟩)
 .ret))))))), [(.tmp (.loc 0))]⟩

/-- glebe/glebelaw14.seven -/
def c_glebelaw14_seven : AFn := ⟨5, fun s => List.contains [0] s, (.seq (.reg [⟨.loc 0, .h (.mk [(.int .i64 0), (.int .i64 0), .nils]), none⟩])
 (.seq (.reg [⟨.tmp 1, .r (.build [(.int .i64 0), (.int .i64 0), .nils] [(0, 1, (.cst (.int .i64 2)))]), none⟩,
 ⟨.tmp 2, .r (.build [(.int .i64 0), (.int .i64 0), .nils] [(0, 1, (.cst (.int .i64 3)))]), none⟩,
 ⟨.tmp 3, .h (.bsl 3 [.tmp 1, .tmp 2]), none⟩,
 ⟨.tmp 4, .r (.build [(.int .i64 0), (.int .i64 0), .nils] [(0, 1, (.cst (.int .i64 5))), (1, 1, (.cst (.int .i64 2))), (2, 1, .tmp 3)]), none⟩,
 ⟨.none, .h (.store 3 (.loc 0) (.tmp 4)), none⟩])
 .ret)), [(.cell (.loc 0) true 3)]⟩

/-- glebe/glebelaw14.VoteTells -/
def c_glebelaw14_VoteTells (f0 f1 f2 f3 f4 f5 f6 f7 : FuncId) : AFn := ⟨43, fun s => List.contains [0, 1, 2, 3, 4, 8, 9, 10, 11, 13] s, (.seq (.reg [⟨.loc 8, .h (.box (.loc 3)), none⟩,
 ⟨.loc 9, .h (.box (.loc 4)), none⟩,
 ⟨.loc 10, .r (.mov (.cst (.bool false))), none⟩])
 (.seq (.seq (.reg [⟨.tmp 12, .r (.load true 3 (.loc 8)), none⟩,
 ⟨.loc 13, .call f0 [.tmp 12], none⟩])
 (.cond (.loc 13) (.seq (.reg [⟨.tmp 14, .call f1 [], none⟩,
 ⟨.loc 10, .r (.mov (.tmp 14)), none⟩])
 .ret)
 .skip))
 (.seq (.reg [⟨.tmp 15, .r (.load true 3 (.loc 8)), none⟩,
 ⟨.tmp 16, .call f2 [.tmp 15], none⟩,
 ⟨.loc 11, .h (.mk [(.int .i64 0), (.int .i64 0), .nils]), none⟩,
 ⟨.none, .h (.store 3 (.loc 11) (.tmp 16)), none⟩])
 (.seq (.dreg ⟨[0, 1, 0, 7, 15, 31, 63, 63, 63, 63, 1023, 63, 63, 63, 63, 32767, 65535, 131071, 262143, 524287, 524287, 2097151, 4194303, 8388607, 16777215, 33554431, 67108863], 0, [⟨0, 0, false, .r (.mov (.loc 0)), none⟩,
 ⟨2, 0, false, .r (.mov (.loc 0)), none⟩,
 ⟨1, 0, true, .call f3 [.tmp 0], none⟩,
 ⟨3, 0, true, .call f4 [.tmp 2], none⟩,
 ⟨4, 0, false, .r (.bin .eql (.tmp 1) (.tmp 3)), none⟩,
 ⟨5, 0, false, .r (.mov (.tmp 4)), none⟩,
 ⟨6, 0, false, .r (.mov (.loc 1)), some (.tmp 5, true)⟩,
 ⟨7, 0, false, .r (.mov (.loc 2)), some (.tmp 5, true)⟩,
 ⟨8, 0, false, .r (.load true 3 (.loc 11)), some (.tmp 5, true)⟩,
 ⟨9, 0, false, .r (.load true 17 (.loc 9)), some (.tmp 5, true)⟩,
 ⟨11, 0, false, .r (.mov (.loc 1)), some (.tmp 5, true)⟩,
 ⟨12, 0, false, .r (.mov (.loc 2)), some (.tmp 5, true)⟩,
 ⟨13, 0, false, .r (.load true 3 (.loc 8)), some (.tmp 5, true)⟩,
 ⟨14, 0, false, .r (.load true 17 (.loc 9)), some (.tmp 5, true)⟩,
 ⟨10, 0, true, .call f5 [.tmp 6, .tmp 7, .tmp 8, .tmp 9], some (.tmp 5, true)⟩,
 ⟨15, 0, true, .call f6 [.tmp 11, .tmp 12, .tmp 13, .tmp 14], some (.tmp 5, true)⟩,
 ⟨16, 0, false, .r (.beq .eql (.tmp 10) (.tmp 15)), some (.tmp 5, true)⟩,
 ⟨17, 0, false, .r (.pick (.tmp 5) (.tmp 16) (.cst (.bool false))), none⟩,
 ⟨18, 0, false, .r (.mov (.tmp 17)), none⟩,
 ⟨19, 0, false, .r (.load true 3 (.loc 11)), some (.tmp 18, true)⟩,
 ⟨20, 0, false, .r (.load true 3 (.loc 8)), some (.tmp 18, true)⟩,
 ⟨21, 0, true, .call f7 [.tmp 19, .tmp 20], some (.tmp 18, true)⟩,
 ⟨22, 0, false, .r (.pick (.tmp 18) (.tmp 21) (.cst (.bool false))), none⟩,
 ⟨23, 0, false, .r (.mov (.tmp 22)), none⟩,
 ⟨24, 0, true, .call f1 [], some (.tmp 23, true)⟩,
 ⟨25, 0, false, .r (.pick (.tmp 23) (.tmp 24) (.cst (.bool false))), none⟩,
 ⟨26, 0, false, .r (.mov (.tmp 25)), none⟩], [(10, 26)]⟩)
 .ret)))), [(.tmp (.loc 10))]⟩

/-- glebe/glebelaw14.asked -/
def c_glebelaw14_asked : AFn := ⟨14, fun s => List.contains [0, 1, 2, 3, 8] s, (.seq (.reg [⟨.loc 8, .h (.mk [(.int .i64 0), (.int .i64 0), (.int .i64 0), (.int .i64 0), (.int .i64 0), (.int .i64 0), (.int .i64 0), (.int .i64 0), (.int .i64 0), (.int .i64 0), (.int .i64 0), (.int .i64 0), (.int .i64 0), (.int .i64 0), (.bool false), .nils, .nils]), none⟩])
 (.seq (.reg [⟨.tmp 9, .r (.mov (.loc 0)), none⟩,
 ⟨.tmp 10, .r (.mov (.loc 1)), none⟩,
 ⟨.tmp 11, .r (.mov (.loc 2)), none⟩,
 ⟨.tmp 12, .r (.mov (.loc 3)), none⟩,
 ⟨.tmp 13, .r (.build [(.int .i64 0), (.int .i64 0), (.int .i64 0), (.int .i64 0), (.int .i64 0), (.int .i64 0), (.int .i64 0), (.int .i64 0), (.int .i64 0), (.int .i64 0), (.int .i64 0), (.int .i64 0), (.int .i64 0), (.int .i64 0), (.bool false), .nils, .nils] [(0, 1, (.cst (.int .i64 1))), (1, 1, .tmp 9), (2, 1, (.cst (.int .i64 1))), (4, 1, .tmp 10), (5, 1, .tmp 11), (6, 1, .tmp 12)]), none⟩,
 ⟨.none, .h (.store 17 (.loc 8) (.tmp 13)), none⟩])
 .ret)), [(.cell (.loc 8) true 17)]⟩

/-- glebe/glebelaw14.VoteOnce -/
def c_glebelaw14_VoteOnce (f0 f1 f2 f3 : FuncId) : AFn := ⟨71, fun s => List.contains [0, 1, 2, 3, 4, 7, 8, 9, 10, 11, 13, 22, 32, 61] s, (.seq (.reg [⟨.loc 7, .h (.box (.loc 2)), none⟩,
 ⟨.loc 8, .h (.box (.loc 3)), none⟩,
 ⟨.loc 9, .h (.box (.loc 4)), none⟩,
 ⟨.loc 10, .r (.mov (.cst (.bool false))), none⟩])
 (.seq (.seq (.reg [⟨.tmp 12, .r (.load true 3 (.loc 7)), none⟩,
 ⟨.loc 13, .call f0 [.tmp 12], none⟩])
 (.cond (.loc 13) (.seq (.reg [⟨.tmp 14, .call f1 [], none⟩,
 ⟨.loc 10, .r (.mov (.tmp 14)), none⟩])
 .ret)
 .skip))
 (.seq (.reg [⟨.tmp 15, .r (.mov (.loc 0)), none⟩,
 ⟨.tmp 16, .call f2 [.tmp 15], none⟩,
 ⟨.loc 11, .r (.mov (.tmp 16)), none⟩])
 (.seq (.seq (.reg [⟨.tmp 17, .r (.mov (.loc 11)), none⟩,
 ⟨.tmp 18, .r (.bin .lss (.tmp 17) (.cst (.int .i64 10))), none⟩,
 ⟨.tmp 19, .r (.mov (.tmp 18)), none⟩,
 ⟨.tmp 20, .r (.mov (.loc 11)), some (.tmp 19, false)⟩,
 ⟨.tmp 21, .r (.bin .geq (.tmp 20) (.cst (.int .i64 20))), some (.tmp 19, false)⟩,
 ⟨.loc 22, .r (.pick (.tmp 19) (.cst (.bool true)) (.tmp 21)), none⟩])
 (.cond (.loc 22) (.seq (.reg [⟨.loc 10, .r (.mov (.cst (.bool false))), none⟩])
 .ret)
 .skip))
 (.seq (.seq (.reg [⟨.tmp 23, .r (.mov (.loc 1)), none⟩,
 ⟨.tmp 24, .r (.load true 3 (.loc 7)), none⟩,
 ⟨.tmp 25, .r (.load true 17 (.loc 8)), none⟩,
 ⟨.tmp 26, .call f3 [.tmp 23, (.cst (.int .i64 0)), .tmp 24, .tmp 25], none⟩,
 ⟨.tmp 27, .r (.not (.tmp 26)), none⟩,
 ⟨.tmp 28, .r (.mov (.tmp 27)), none⟩,
 ⟨.tmp 29, .r (.off 1 (.loc 8)), some (.tmp 28, false)⟩,
 ⟨.tmp 30, .r (.load false 1 (.tmp 29)), some (.tmp 28, false)⟩,
 ⟨.tmp 31, .r (.bin .eql (.tmp 30) (.cst (.int .i64 0))), some (.tmp 28, false)⟩,
 ⟨.loc 32, .r (.pick (.tmp 28) (.cst (.bool true)) (.tmp 31)), none⟩])
 (.cond (.loc 32) (.seq (.reg [⟨.tmp 33, .call f1 [], none⟩,
 ⟨.loc 10, .r (.mov (.tmp 33)), none⟩])
 .ret)
 .skip))
 (.seq (.seq (.reg [⟨.tmp 34, .r (.off 4 (.loc 8)), none⟩,
 ⟨.tmp 35, .r (.load false 1 (.tmp 34)), none⟩,
 ⟨.tmp 36, .r (.mov (.loc 1)), none⟩,
 ⟨.tmp 37, .r (.bin .neq (.tmp 35) (.tmp 36)), none⟩,
 ⟨.tmp 38, .r (.mov (.tmp 37)), none⟩,
 ⟨.tmp 39, .r (.mov (.loc 1)), some (.tmp 38, false)⟩,
 ⟨.tmp 40, .r (.off 1 (.loc 8)), some (.tmp 38, false)⟩,
 ⟨.tmp 41, .r (.load false 1 (.tmp 40)), some (.tmp 38, false)⟩,
 ⟨.tmp 42, .r (.load true 3 (.loc 7)), some (.tmp 38, false)⟩,
 ⟨.tmp 43, .r (.load true 17 (.loc 8)), some (.tmp 38, false)⟩,
 ⟨.tmp 44, .call f3 [.tmp 39, .tmp 41, .tmp 42, .tmp 43], some (.tmp 38, false)⟩,
 ⟨.tmp 45, .r (.not (.tmp 44)), some (.tmp 38, false)⟩,
 ⟨.tmp 46, .r (.pick (.tmp 38) (.cst (.bool true)) (.tmp 45)), none⟩,
 ⟨.tmp 47, .r (.mov (.tmp 46)), none⟩,
 ⟨.tmp 48, .r (.off 1 (.loc 9)), some (.tmp 47, false)⟩,
 ⟨.tmp 49, .r (.load false 1 (.tmp 48)), some (.tmp 47, false)⟩,
 ⟨.tmp 50, .r (.off 1 (.loc 8)), some (.tmp 47, false)⟩,
 ⟨.tmp 51, .r (.load false 1 (.tmp 50)), some (.tmp 47, false)⟩,
 ⟨.tmp 52, .r (.bin .neq (.tmp 49) (.tmp 51)), some (.tmp 47, false)⟩,
 ⟨.tmp 53, .r (.mov (.tmp 52)), some (.tmp 47, false)⟩,
 ⟨.tmp 54, .r (.mov (.loc 1)), some (.tmp 53, true)⟩,
 ⟨.tmp 55, .r (.off 1 (.loc 8)), some (.tmp 53, true)⟩,
 ⟨.tmp 56, .r (.load false 1 (.tmp 55)), some (.tmp 53, true)⟩,
 ⟨.tmp 57, .r (.load true 3 (.loc 7)), some (.tmp 53, true)⟩,
 ⟨.tmp 58, .r (.load true 17 (.loc 9)), some (.tmp 53, true)⟩,
 ⟨.tmp 59, .call f3 [.tmp 54, .tmp 56, .tmp 57, .tmp 58], some (.tmp 53, true)⟩,
 ⟨.tmp 60, .r (.pick (.tmp 53) (.tmp 59) (.cst (.bool false))), some (.tmp 47, false)⟩,
 ⟨.loc 61, .r (.pick (.tmp 47) (.cst (.bool true)) (.tmp 60)), none⟩])
 (.cond (.loc 61) (.seq (.reg [⟨.loc 10, .r (.mov (.cst (.bool false))), none⟩])
 .ret)
 .skip))
 (.seq (.reg [⟨.tmp 62, .r (.mov (.loc 1)), none⟩,
 ⟨.tmp 63, .r (.bin .xor (.tmp 62) (.cst (.int .i64 1))), none⟩,
 ⟨.tmp 64, .r (.load true 3 (.loc 7)), none⟩,
 ⟨.tmp 65, .r (.load true 17 (.loc 8)), none⟩,
 ⟨.tmp 66, .call f3 [.tmp 63, (.cst (.int .i64 0)), .tmp 64, .tmp 65], none⟩,
 ⟨.tmp 67, .r (.not (.tmp 66)), none⟩,
 ⟨.tmp 68, .r (.mov (.tmp 67)), none⟩,
 ⟨.tmp 69, .call f1 [], some (.tmp 68, true)⟩,
 ⟨.tmp 70, .r (.pick (.tmp 68) (.tmp 69) (.cst (.bool false))), none⟩,
 ⟨.loc 10, .r (.mov (.tmp 70)), none⟩])
 .ret))))))), [(.tmp (.loc 10))]⟩

/-- glebe/glebelaw14.VoteWhole -/
def c_glebelaw14_VoteWhole (f0 f1 f2 : FuncId) : AFn := ⟨100, fun s => List.contains [0, 1, 2, 3, 4, 5, 8, 9, 12, 13, 14, 15, 16, 18, 25, 34, 65] s, (.seq (.reg [⟨.loc 8, .h (.box (.loc 2)), none⟩,
 ⟨.loc 9, .h (.box (.loc 3)), none⟩,
 ⟨.loc 12, .r (.mov (.cst (.bool false))), none⟩])
 (.seq (.seq (.reg [⟨.tmp 17, .r (.load true 3 (.loc 8)), none⟩,
 ⟨.loc 18, .call f0 [.tmp 17], none⟩])
 (.cond (.loc 18) (.seq (.reg [⟨.tmp 19, .call f1 [], none⟩,
 ⟨.loc 12, .r (.mov (.tmp 19)), none⟩])
 .ret)
 .skip))
 (.seq (.seq (.reg [⟨.tmp 20, .r (.mov (.loc 0)), none⟩,
 ⟨.tmp 21, .r (.mov (.loc 1)), none⟩,
 ⟨.tmp 22, .r (.load true 3 (.loc 8)), none⟩,
 ⟨.tmp 23, .r (.load true 17 (.loc 9)), none⟩,
 ⟨.tmp 24, .call f2 [.tmp 20, .tmp 21, .tmp 22, .tmp 23], none⟩,
 ⟨.loc 25, .r (.not (.tmp 24)), none⟩])
 (.cond (.loc 25) (.seq (.reg [⟨.tmp 26, .call f1 [], none⟩,
 ⟨.loc 12, .r (.mov (.tmp 26)), none⟩])
 .ret)
 .skip))
 (.seq (.reg [⟨.tmp 27, .r (.off 1 (.loc 8)), none⟩,
 ⟨.tmp 28, .r (.load false 1 (.tmp 27)), none⟩,
 ⟨.loc 13, .r (.mov (.tmp 28)), none⟩])
 (.seq (.reg [⟨.tmp 29, .r (.off 0 (.loc 8)), none⟩,
 ⟨.tmp 30, .r (.load false 1 (.tmp 29)), none⟩,
 ⟨.loc 14, .r (.mov (.tmp 30)), none⟩])
 (.seq (.seq (.reg [⟨.tmp 31, .r (.off 2 (.loc 8)), none⟩,
 ⟨.tmp 32, .r (.load false 1 (.tmp 31)), none⟩,
 ⟨.tmp 33, .r (.len (.tmp 32)), none⟩,
 ⟨.loc 34, .r (.bin .gtr (.tmp 33) (.cst (.int .i64 0))), none⟩])
 (.cond (.loc 34) (.seq (.reg [⟨.tmp 35, .r (.off 2 (.loc 8)), none⟩,
 ⟨.tmp 36, .r (.load false 1 (.tmp 35)), none⟩,
 ⟨.tmp 37, .r (.off 2 (.loc 8)), none⟩,
 ⟨.tmp 38, .r (.load false 1 (.tmp 37)), none⟩,
 ⟨.tmp 39, .r (.len (.tmp 38)), none⟩,
 ⟨.tmp 40, .r (.bin .sub (.tmp 39) (.cst (.int .i64 1))), none⟩,
 ⟨.tmp 41, .r (.idx 3 (.tmp 36) (.tmp 40)), none⟩,
 ⟨.tmp 42, .r (.off 0 (.tmp 41)), none⟩,
 ⟨.tmp 43, .r (.load false 1 (.tmp 42)), none⟩,
 ⟨.loc 13, .r (.mov (.tmp 43)), none⟩])
 (.reg [⟨.tmp 44, .r (.off 0 (.loc 8)), none⟩,
 ⟨.tmp 45, .r (.load false 1 (.tmp 44)), none⟩,
 ⟨.tmp 46, .r (.off 2 (.loc 8)), none⟩,
 ⟨.tmp 47, .r (.load false 1 (.tmp 46)), none⟩,
 ⟨.tmp 48, .r (.len (.tmp 47)), none⟩,
 ⟨.tmp 49, .r (.bin .add (.tmp 45) (.tmp 48)), none⟩,
 ⟨.loc 14, .r (.mov (.tmp 49)), none⟩]))
 .skip))
 (.seq (.seq (.reg [⟨.tmp 50, .r (.off 6 (.loc 9)), none⟩,
 ⟨.tmp 51, .r (.load false 1 (.tmp 50)), none⟩,
 ⟨.tmp 52, .r (.mov (.loc 13)), none⟩,
 ⟨.tmp 53, .r (.bin .lss (.tmp 51) (.tmp 52)), none⟩,
 ⟨.tmp 54, .r (.mov (.tmp 53)), none⟩,
 ⟨.tmp 55, .r (.off 6 (.loc 9)), some (.tmp 54, false)⟩,
 ⟨.tmp 56, .r (.load false 1 (.tmp 55)), some (.tmp 54, false)⟩,
 ⟨.tmp 57, .r (.mov (.loc 13)), some (.tmp 54, false)⟩,
 ⟨.tmp 58, .r (.bin .eql (.tmp 56) (.tmp 57)), some (.tmp 54, false)⟩,
 ⟨.tmp 59, .r (.mov (.tmp 58)), some (.tmp 54, false)⟩,
 ⟨.tmp 60, .r (.off 5 (.loc 9)), some (.tmp 59, true)⟩,
 ⟨.tmp 61, .r (.load false 1 (.tmp 60)), some (.tmp 59, true)⟩,
 ⟨.tmp 62, .r (.mov (.loc 14)), some (.tmp 59, true)⟩,
 ⟨.tmp 63, .r (.bin .lss (.tmp 61) (.tmp 62)), some (.tmp 59, true)⟩,
 ⟨.tmp 64, .r (.pick (.tmp 59) (.tmp 63) (.cst (.bool false))), some (.tmp 54, false)⟩,
 ⟨.loc 65, .r (.pick (.tmp 54) (.cst (.bool true)) (.tmp 64)), none⟩])
 (.cond (.loc 65) (.seq (.reg [⟨.loc 12, .r (.mov (.cst (.bool false))), none⟩])
 .ret)
 .skip))
 (.seq (.reg [⟨.tmp 66, .r (.load true 17 (.loc 9)), none⟩,
 ⟨.loc 15, .h (.mk [(.int .i64 0), (.int .i64 0), (.int .i64 0), (.int .i64 0), (.int .i64 0), (.int .i64 0), (.int .i64 0), (.int .i64 0), (.int .i64 0), (.int .i64 0), (.int .i64 0), (.int .i64 0), (.int .i64 0), (.int .i64 0), (.bool false), .nils, .nils]), none⟩,
 ⟨.none, .h (.store 17 (.loc 15) (.tmp 66)), none⟩])
 (.seq (.reg [⟨.tmp 67, .r (.off 5 (.loc 9)), none⟩,
 ⟨.tmp 68, .r (.load false 1 (.tmp 67)), none⟩,
 ⟨.tmp 69, .r (.mov (.loc 4)), none⟩,
 ⟨.tmp 70, .r (.mnmx true [.tmp 68, .tmp 69]), none⟩,
 ⟨.tmp 71, .r (.off 5 (.loc 15)), none⟩,
 ⟨.none, .h (.store 1 (.tmp 71) (.tmp 70)), none⟩])
 (.seq (.reg [⟨.tmp 72, .r (.load true 17 (.loc 9)), none⟩,
 ⟨.loc 16, .h (.mk [(.int .i64 0), (.int .i64 0), (.int .i64 0), (.int .i64 0), (.int .i64 0), (.int .i64 0), (.int .i64 0), (.int .i64 0), (.int .i64 0), (.int .i64 0), (.int .i64 0), (.int .i64 0), (.int .i64 0), (.int .i64 0), (.bool false), .nils, .nils]), none⟩,
 ⟨.none, .h (.store 17 (.loc 16) (.tmp 72)), none⟩])
 (.seq (.reg [⟨.tmp 73, .r (.off 6 (.loc 9)), none⟩,
 ⟨.tmp 74, .r (.load false 1 (.tmp 73)), none⟩,
 ⟨.tmp 75, .r (.mov (.loc 5)), none⟩,
 ⟨.tmp 76, .r (.mnmx true [.tmp 74, .tmp 75]), none⟩,
 ⟨.tmp 77, .r (.off 6 (.loc 16)), none⟩,
 ⟨.none, .h (.store 1 (.tmp 77) (.tmp 76)), none⟩])
 (.seq (.reg [⟨.tmp 78, .r (.mov (.loc 0)), none⟩,
 ⟨.tmp 79, .r (.mov (.loc 1)), none⟩,
 ⟨.tmp 80, .r (.load true 3 (.loc 8)), none⟩,
 ⟨.tmp 81, .r (.load true 17 (.loc 15)), none⟩,
 ⟨.tmp 82, .call f2 [.tmp 78, .tmp 79, .tmp 80, .tmp 81], none⟩,
 ⟨.tmp 83, .r (.mov (.tmp 82)), none⟩,
 ⟨.tmp 84, .r (.off 6 (.loc 16)), some (.tmp 83, true)⟩,
 ⟨.tmp 85, .r (.load false 1 (.tmp 84)), some (.tmp 83, true)⟩,
 ⟨.tmp 86, .r (.off 6 (.loc 9)), some (.tmp 83, true)⟩,
 ⟨.tmp 87, .r (.load false 1 (.tmp 86)), some (.tmp 83, true)⟩,
 ⟨.tmp 88, .r (.bin .eql (.tmp 85) (.tmp 87)), some (.tmp 83, true)⟩,
 ⟨.tmp 89, .r (.mov (.tmp 88)), some (.tmp 83, true)⟩,
 ⟨.tmp 90, .r (.mov (.loc 0)), some (.tmp 89, false)⟩,
 ⟨.tmp 91, .r (.mov (.loc 1)), some (.tmp 89, false)⟩,
 ⟨.tmp 92, .r (.load true 3 (.loc 8)), some (.tmp 89, false)⟩,
 ⟨.tmp 93, .r (.load true 17 (.loc 16)), some (.tmp 89, false)⟩,
 ⟨.tmp 94, .call f2 [.tmp 90, .tmp 91, .tmp 92, .tmp 93], some (.tmp 89, false)⟩,
 ⟨.tmp 95, .r (.pick (.tmp 89) (.cst (.bool true)) (.tmp 94)), some (.tmp 83, true)⟩,
 ⟨.tmp 96, .r (.pick (.tmp 83) (.tmp 95) (.cst (.bool false))), none⟩,
 ⟨.tmp 97, .r (.mov (.tmp 96)), none⟩,
 ⟨.tmp 98, .call f1 [], some (.tmp 97, true)⟩,
 ⟨.tmp 99, .r (.pick (.tmp 97) (.tmp 98) (.cst (.bool false))), none⟩,
 ⟨.loc 12, .r (.mov (.tmp 99)), none⟩])
 .ret)))))))))))), [(.tmp (.loc 12))]⟩

def c_glebelaw14_VoteAsks_l0 (f0 f1 f2 f3 f4 f5 f6 f7 f8 f9 : FuncId) : AC := (.seq (.seq (.reg [⟨.tmp 50, .r (.mov (.loc 16)), none⟩,
 ⟨.tmp 51, .r (.mov (.loc 13)), none⟩,
 ⟨.tmp 52, .r (.len (.tmp 51)), none⟩,
 ⟨.loc 53, .r (.bin .lss (.tmp 50) (.tmp 52)), none⟩])
 (.cond (.loc 53) .skip
 (.exit 0)))
 (.seq (.block 1 (.reg [⟨.tmp 56, .r (.mov (.loc 13)), none⟩,
 ⟨.tmp 57, .r (.mov (.loc 16)), none⟩,
 ⟨.tmp 58, .r (.build [(.int .i64 0), (.int .i64 0), (.int .i64 0), (.int .i64 0), (.int .i64 0), (.int .i64 0), (.int .i64 0), (.int .i64 0), (.int .i64 0), (.int .i64 0), (.int .i64 0), (.int .i64 0), (.int .i64 0), (.int .i64 0), (.bool false), .nils, .nils] []), none⟩,
 ⟨.tmp 59, .r (.idx 17 (.tmp 56) (.tmp 57)), none⟩,
 ⟨.none, .h (.store 17 (.tmp 59) (.tmp 58)), none⟩]))
 (.reg [⟨.tmp 54, .r (.mov (.loc 16)), none⟩,
 ⟨.tmp 55, .r (.bin .add (.tmp 54) (.cst (.int .i64 1))), none⟩,
 ⟨.loc 16, .r (.mov (.tmp 55)), none⟩])))
/-- glebe/glebelaw14.VoteAsks -/
def c_glebelaw14_VoteAsks (f0 f1 f2 f3 f4 f5 f6 f7 f8 f9 : FuncId) : AFn := ⟨76, fun s => List.contains [0, 1, 2, 3, 4, 8, 9, 10, 11, 12, 13, 14, 15, 16, 22, 49, 53] s, (.seq (.reg [⟨.loc 8, .h (.box (.loc 3)), none⟩,
 ⟨.loc 9, .h (.box (.loc 4)), none⟩,
 ⟨.loc 10, .r (.mov (.cst (.bool false))), none⟩])
 (.seq (.seq (.reg [⟨.tmp 17, .r (.load true 3 (.loc 8)), none⟩,
 ⟨.tmp 18, .call f0 [.tmp 17], none⟩,
 ⟨.tmp 19, .r (.mov (.tmp 18)), none⟩,
 ⟨.tmp 20, .r (.load true 3 (.loc 9)), some (.tmp 19, false)⟩,
 ⟨.tmp 21, .call f1 [.tmp 20, (.cst (.int .i64 300))], some (.tmp 19, false)⟩,
 ⟨.loc 22, .r (.pick (.tmp 19) (.cst (.bool true)) (.tmp 21)), none⟩])
 (.cond (.loc 22) (.seq (.reg [⟨.tmp 23, .call f2 [], none⟩,
 ⟨.loc 10, .r (.mov (.tmp 23)), none⟩])
 .ret)
 .skip))
 (.seq (.reg [⟨.tmp 24, .r (.load true 3 (.loc 8)), none⟩,
 ⟨.tmp 25, .call f3 [.tmp 24], none⟩,
 ⟨.loc 11, .h (.mk [(.int .i64 0), (.int .i64 0), .nils]), none⟩,
 ⟨.none, .h (.store 3 (.loc 11) (.tmp 25)), none⟩])
 (.seq (.reg [⟨.tmp 26, .r (.load true 3 (.loc 9)), none⟩,
 ⟨.tmp 27, .call f4 [.tmp 26], none⟩,
 ⟨.loc 12, .h (.mk [.nils, .nils, .nils]), none⟩,
 ⟨.none, .h (.store 3 (.loc 12) (.tmp 27)), none⟩])
 (.seq (.reg [⟨.tmp 28, .r (.mov (.loc 0)), none⟩,
 ⟨.tmp 29, .r (.mov (.loc 1)), none⟩,
 ⟨.tmp 30, .r (.mov (.loc 2)), none⟩,
 ⟨.tmp 31, .r (.load true 3 (.loc 11)), none⟩,
 ⟨.tmp 32, .r (.load true 3 (.loc 12)), none⟩,
 ⟨.tmp 33, .call f5 [.tmp 28, .tmp 29, .tmp 30, .tmp 31, .tmp 32], none⟩,
 ⟨.loc 13, .r (.mov (.tmp 33)), none⟩])
 (.seq (.reg [⟨.tmp 34, .r (.mov (.loc 0)), none⟩,
 ⟨.tmp 35, .r (.mov (.loc 1)), none⟩,
 ⟨.tmp 36, .r (.mov (.loc 2)), none⟩,
 ⟨.tmp 37, .r (.load true 3 (.loc 11)), none⟩,
 ⟨.tmp 38, .r (.load true 3 (.loc 12)), none⟩,
 ⟨.tmp 39, .call f5 [.tmp 34, .tmp 35, .tmp 36, .tmp 37, .tmp 38], none⟩,
 ⟨.loc 14, .r (.mov (.tmp 39)), none⟩])
 (.seq (.reg [⟨.tmp 40, .r (.mov (.loc 0)), none⟩,
 ⟨.tmp 41, .r (.mov (.loc 1)), none⟩,
 ⟨.tmp 42, .r (.mov (.loc 2)), none⟩,
 ⟨.tmp 43, .r (.load true 3 (.loc 8)), none⟩,
 ⟨.tmp 44, .r (.load true 3 (.loc 9)), none⟩,
 ⟨.tmp 45, .call f6 [.tmp 40, .tmp 41, .tmp 42, .tmp 43, .tmp 44], none⟩,
 ⟨.loc 15, .r (.mov (.tmp 45)), none⟩])
 (.seq (.seq (.reg [⟨.tmp 46, .r (.mov (.loc 13)), none⟩,
 ⟨.tmp 47, .r (.mov (.loc 15)), none⟩,
 ⟨.tmp 48, .call f7 [.tmp 46, .tmp 47], none⟩,
 ⟨.loc 49, .r (.not (.tmp 48)), none⟩])
 (.cond (.loc 49) (.seq (.reg [⟨.loc 10, .r (.mov (.cst (.bool false))), none⟩])
 .ret)
 .skip))
 (.seq (.seq (.reg [⟨.loc 16, .r (.mov (.cst (.int .i64 0))), none⟩])
 (.block 0 (.loop (c_glebelaw14_VoteAsks_l0 f0 f1 f2 f3 f4 f5 f6 f7 f8 f9))))
 (.seq (.reg [⟨.tmp 60, .r (.mov (.loc 14)), none⟩,
 ⟨.tmp 61, .r (.mov (.loc 15)), none⟩,
 ⟨.tmp 62, .call f7 [.tmp 60, .tmp 61], none⟩,
 ⟨.tmp 63, .r (.mov (.tmp 62)), none⟩,
 ⟨.tmp 64, .r (.load true 3 (.loc 11)), some (.tmp 63, true)⟩,
 ⟨.tmp 65, .r (.load true 3 (.loc 8)), some (.tmp 63, true)⟩,
 ⟨.tmp 66, .call f8 [.tmp 64, .tmp 65], some (.tmp 63, true)⟩,
 ⟨.tmp 67, .r (.pick (.tmp 63) (.tmp 66) (.cst (.bool false))), none⟩,
 ⟨.tmp 68, .r (.mov (.tmp 67)), none⟩,
 ⟨.tmp 69, .r (.load true 3 (.loc 12)), some (.tmp 68, true)⟩,
 ⟨.tmp 70, .r (.load true 3 (.loc 9)), some (.tmp 68, true)⟩,
 ⟨.tmp 71, .call f9 [.tmp 69, .tmp 70], some (.tmp 68, true)⟩,
 ⟨.tmp 72, .r (.pick (.tmp 68) (.tmp 71) (.cst (.bool false))), none⟩,
 ⟨.tmp 73, .r (.mov (.tmp 72)), none⟩,
 ⟨.tmp 74, .call f2 [], some (.tmp 73, true)⟩,
 ⟨.tmp 75, .r (.pick (.tmp 73) (.tmp 74) (.cst (.bool false))), none⟩,
 ⟨.loc 10, .r (.mov (.tmp 75)), none⟩])
 .ret)))))))))), [(.tmp (.loc 10))]⟩

/-- glebe/vote.Grants -/
def c_vote_Grants (f0 : FuncId) : AFn := ⟨36, fun s => List.contains [0, 1, 2, 3, 6, 7, 8] s, (.seq (.reg [⟨.loc 6, .h (.box (.loc 2)), none⟩,
 ⟨.loc 7, .h (.box (.loc 3)), none⟩,
 ⟨.loc 8, .r (.mov (.cst (.bool false))), none⟩])
 (.seq (.reg [⟨.tmp 9, .r (.off 0 (.loc 7)), none⟩,
 ⟨.tmp 10, .r (.load false 1 (.tmp 9)), none⟩,
 ⟨.tmp 11, .r (.bin .eql (.tmp 10) (.cst (.int .i64 1))), none⟩,
 ⟨.tmp 12, .r (.mov (.tmp 11)), none⟩,
 ⟨.tmp 13, .r (.off 4 (.loc 7)), some (.tmp 12, true)⟩,
 ⟨.tmp 14, .r (.load false 1 (.tmp 13)), some (.tmp 12, true)⟩,
 ⟨.tmp 15, .r (.mov (.loc 0)), some (.tmp 12, true)⟩,
 ⟨.tmp 16, .r (.bin .eql (.tmp 14) (.tmp 15)), some (.tmp 12, true)⟩,
 ⟨.tmp 17, .r (.pick (.tmp 12) (.tmp 16) (.cst (.bool false))), none⟩,
 ⟨.tmp 18, .r (.mov (.tmp 17)), none⟩,
 ⟨.tmp 19, .r (.mov (.loc 1)), some (.tmp 18, true)⟩,
 ⟨.tmp 20, .r (.bin .eql (.tmp 19) (.cst (.int .i64 0))), some (.tmp 18, true)⟩,
 ⟨.tmp 21, .r (.mov (.tmp 20)), some (.tmp 18, true)⟩,
 ⟨.tmp 22, .r (.mov (.loc 1)), some (.tmp 21, false)⟩,
 ⟨.tmp 23, .r (.off 1 (.loc 7)), some (.tmp 21, false)⟩,
 ⟨.tmp 24, .r (.load false 1 (.tmp 23)), some (.tmp 21, false)⟩,
 ⟨.tmp 25, .r (.bin .eql (.tmp 22) (.tmp 24)), some (.tmp 21, false)⟩,
 ⟨.tmp 26, .r (.pick (.tmp 21) (.cst (.bool true)) (.tmp 25)), some (.tmp 18, true)⟩,
 ⟨.tmp 27, .r (.pick (.tmp 18) (.tmp 26) (.cst (.bool false))), none⟩,
 ⟨.tmp 28, .r (.mov (.tmp 27)), none⟩,
 ⟨.tmp 29, .r (.load true 3 (.loc 6)), some (.tmp 28, true)⟩,
 ⟨.tmp 30, .r (.off 5 (.loc 7)), some (.tmp 28, true)⟩,
 ⟨.tmp 31, .r (.load false 1 (.tmp 30)), some (.tmp 28, true)⟩,
 ⟨.tmp 32, .r (.off 6 (.loc 7)), some (.tmp 28, true)⟩,
 ⟨.tmp 33, .r (.load false 1 (.tmp 32)), some (.tmp 28, true)⟩,
 ⟨.tmp 34, .call f0 [.tmp 29, .tmp 31, .tmp 33], some (.tmp 28, true)⟩,
 ⟨.tmp 35, .r (.pick (.tmp 28) (.tmp 34) (.cst (.bool false))), none⟩,
 ⟨.loc 8, .r (.mov (.tmp 35)), none⟩])
 .ret)), [(.tmp (.loc 8))]⟩

/-- glebe/glebelaw14.works -/
def c_glebelaw14_works (f0 f1 f2 f3 f4 : FuncId) : AFn := ⟨26, fun s => List.contains [0] s, (.seq (.reg [⟨.loc 0, .r (.mov (.cst (.bool false))), none⟩])
 (.seq (.reg [⟨.tmp 1, .call f0 [(.cst (.int .i64 9))], none⟩,
 ⟨.tmp 2, .r (.bin .eql (.tmp 1) (.cst (.int .i64 19))), none⟩,
 ⟨.tmp 3, .r (.mov (.tmp 2)), none⟩,
 ⟨.tmp 4, .call f0 [(.cst (.int .i64 (-1)))], some (.tmp 3, true)⟩,
 ⟨.tmp 5, .r (.bin .eql (.tmp 4) (.cst (.int .i64 19))), some (.tmp 3, true)⟩,
 ⟨.tmp 6, .r (.pick (.tmp 3) (.tmp 5) (.cst (.bool false))), none⟩,
 ⟨.tmp 7, .r (.mov (.tmp 6)), none⟩,
 ⟨.tmp 8, .call f1 [], some (.tmp 7, true)⟩,
 ⟨.tmp 9, .call f2 [(.cst (.int .i64 2)), (.cst (.int .i64 5)), (.cst (.int .i64 7)), (.cst (.int .i64 3))], some (.tmp 7, true)⟩,
 ⟨.tmp 10, .call f3 [(.cst (.int .i64 5)), (.cst (.int .i64 0)), .tmp 8, .tmp 9], some (.tmp 7, true)⟩,
 ⟨.tmp 11, .r (.pick (.tmp 7) (.tmp 10) (.cst (.bool false))), none⟩,
 ⟨.tmp 12, .r (.mov (.tmp 11)), none⟩,
 ⟨.tmp 13, .call f1 [], some (.tmp 12, true)⟩,
 ⟨.tmp 14, .call f2 [(.cst (.int .i64 2)), (.cst (.int .i64 5)), (.cst (.int .i64 6)), (.cst (.int .i64 3))], some (.tmp 12, true)⟩,
 ⟨.tmp 15, .call f3 [(.cst (.int .i64 5)), (.cst (.int .i64 0)), .tmp 13, .tmp 14], some (.tmp 12, true)⟩,
 ⟨.tmp 16, .r (.not (.tmp 15)), some (.tmp 12, true)⟩,
 ⟨.tmp 17, .r (.pick (.tmp 12) (.tmp 16) (.cst (.bool false))), none⟩,
 ⟨.tmp 18, .r (.mov (.tmp 17)), none⟩,
 ⟨.tmp 19, .call f1 [], some (.tmp 18, true)⟩,
 ⟨.tmp 20, .h (.bsl 1 [(.cst (.int .i64 1)), (.cst (.int .i64 2)), (.cst (.int .i64 3))]), some (.tmp 18, true)⟩,
 ⟨.tmp 21, .r (.build [.nils, .nils, .nils] [(0, 1, .tmp 20)]), some (.tmp 18, true)⟩,
 ⟨.tmp 22, .call f4 [(.cst (.int .i64 1)), (.cst (.int .i64 0)), (.cst (.int .i64 5)), .tmp 19, .tmp 21], some (.tmp 18, true)⟩,
 ⟨.tmp 23, .r (.len (.tmp 22)), some (.tmp 18, true)⟩,
 ⟨.tmp 24, .r (.bin .eql (.tmp 23) (.cst (.int .i64 2))), some (.tmp 18, true)⟩,
 ⟨.tmp 25, .r (.pick (.tmp 18) (.tmp 24) (.cst (.bool false))), none⟩,
 ⟨.loc 0, .r (.mov (.tmp 25)), none⟩])
 .ret)), [(.tmp (.loc 0))]⟩

/-- glebe/glebelaw14.long -/
def c_glebelaw14_long (f0 : FuncId) : AFn := ⟨26, fun s => List.contains [0, 1, 2] s, (.seq (.reg [⟨.loc 1, .h (.box (.loc 0)), none⟩,
 ⟨.loc 2, .r (.mov (.cst (.bool false))), none⟩])
 (.seq (.reg [⟨.tmp 3, .r (.off 0 (.loc 1)), none⟩,
 ⟨.tmp 4, .r (.load false 1 (.tmp 3)), none⟩,
 ⟨.tmp 5, .r (.bin .lss (.tmp 4) (.cst (.int .i64 0))), none⟩,
 ⟨.tmp 6, .r (.mov (.tmp 5)), none⟩,
 ⟨.tmp 7, .r (.off 0 (.loc 1)), some (.tmp 6, false)⟩,
 ⟨.tmp 8, .r (.load false 1 (.tmp 7)), some (.tmp 6, false)⟩,
 ⟨.tmp 9, .r (.bin .gtr (.tmp 8) (.cst (.int .i64 1099511627776))), some (.tmp 6, false)⟩,
 ⟨.tmp 10, .r (.pick (.tmp 6) (.cst (.bool true)) (.tmp 9)), none⟩,
 ⟨.tmp 11, .r (.mov (.tmp 10)), none⟩,
 ⟨.tmp 12, .r (.off 1 (.loc 1)), some (.tmp 11, false)⟩,
 ⟨.tmp 13, .r (.load false 1 (.tmp 12)), some (.tmp 11, false)⟩,
 ⟨.tmp 14, .r (.bin .lss (.tmp 13) (.cst (.int .i64 0))), some (.tmp 11, false)⟩,
 ⟨.tmp 15, .r (.pick (.tmp 11) (.cst (.bool true)) (.tmp 14)), none⟩,
 ⟨.tmp 16, .r (.mov (.tmp 15)), none⟩,
 ⟨.tmp 17, .r (.off 1 (.loc 1)), some (.tmp 16, false)⟩,
 ⟨.tmp 18, .r (.load false 1 (.tmp 17)), some (.tmp 16, false)⟩,
 ⟨.tmp 19, .r (.bin .gtr (.tmp 18) (.cst (.int .i64 1099511627776))), some (.tmp 16, false)⟩,
 ⟨.tmp 20, .r (.pick (.tmp 16) (.cst (.bool true)) (.tmp 19)), none⟩,
 ⟨.tmp 21, .r (.mov (.tmp 20)), none⟩,
 ⟨.tmp 22, .r (.off 2 (.loc 1)), some (.tmp 21, false)⟩,
 ⟨.tmp 23, .r (.load false 1 (.tmp 22)), some (.tmp 21, false)⟩,
 ⟨.tmp 24, .call f0 [.tmp 23, (.cst (.int .i64 2000)), (.cst (.int .i64 65536))], some (.tmp 21, false)⟩,
 ⟨.tmp 25, .r (.pick (.tmp 21) (.cst (.bool true)) (.tmp 24)), none⟩,
 ⟨.loc 2, .r (.mov (.tmp 25)), none⟩])
 .ret)), [(.tmp (.loc 2))]⟩

/-- glebe/vote.Timeout -/
def c_vote_Timeout : AFn := ⟨12, fun s => List.contains [0, 2, 3, 7] s, (.seq (.reg [⟨.loc 2, .r (.mov (.cst (.int .i64 0))), none⟩])
 (.seq (.reg [⟨.tmp 4, .r (.mov (.loc 0)), none⟩,
 ⟨.tmp 5, .r (.bin .rem (.tmp 4) (.cst (.int .i64 10))), none⟩,
 ⟨.loc 3, .r (.mov (.tmp 5)), none⟩])
 (.seq (.seq (.reg [⟨.tmp 6, .r (.mov (.loc 3)), none⟩,
 ⟨.loc 7, .r (.bin .lss (.tmp 6) (.cst (.int .i64 0))), none⟩])
 (.cond (.loc 7) (.reg [⟨.tmp 8, .r (.mov (.loc 3)), none⟩,
 ⟨.tmp 9, .r (.bin .add (.tmp 8) (.cst (.int .i64 10))), none⟩,
 ⟨.loc 3, .r (.mov (.tmp 9)), none⟩])
 .skip))
 (.seq (.reg [⟨.tmp 10, .r (.mov (.loc 3)), none⟩,
 ⟨.tmp 11, .r (.bin .add (.cst (.int .i64 10)) (.tmp 10)), none⟩,
 ⟨.loc 2, .r (.mov (.tmp 11)), none⟩])
 .ret)))), [(.tmp (.loc 2))]⟩

/-- glebe/gleberef14.Timeout -/
def c_gleberef14_Timeout : AFn := ⟨8, fun s => List.contains [0, 2] s, (.seq (.reg [⟨.loc 2, .r (.mov (.cst (.int .i64 0))), none⟩])
 (.seq (.reg [⟨.tmp 3, .r (.mov (.loc 0)), none⟩,
 ⟨.tmp 4, .r (.bin .rem (.tmp 3) (.cst (.int .i64 10))), none⟩,
 ⟨.tmp 5, .r (.bin .add (.tmp 4) (.cst (.int .i64 10))), none⟩,
 ⟨.tmp 6, .r (.bin .rem (.tmp 5) (.cst (.int .i64 10))), none⟩,
 ⟨.tmp 7, .r (.bin .add (.cst (.int .i64 10)) (.tmp 6)), none⟩,
 ⟨.loc 2, .r (.mov (.tmp 7)), none⟩])
 .ret)), [(.tmp (.loc 2))]⟩

/-- glebe/gleberef14.Grants -/
def c_gleberef14_Grants (f0 : FuncId) : AFn := ⟨45, fun s => List.contains [0, 1, 2, 3, 6, 7, 8, 9, 10, 19, 27, 36] s, (.seq (.reg [⟨.loc 6, .h (.box (.loc 2)), none⟩,
 ⟨.loc 7, .h (.box (.loc 3)), none⟩,
 ⟨.loc 8, .r (.mov (.cst (.bool false))), none⟩])
 (.seq (.seq (.reg [⟨.tmp 11, .r (.off 0 (.loc 7)), none⟩,
 ⟨.tmp 12, .r (.load false 1 (.tmp 11)), none⟩,
 ⟨.tmp 13, .r (.bin .neq (.tmp 12) (.cst (.int .i64 1))), none⟩,
 ⟨.tmp 14, .r (.mov (.tmp 13)), none⟩,
 ⟨.tmp 15, .r (.off 4 (.loc 7)), some (.tmp 14, false)⟩,
 ⟨.tmp 16, .r (.load false 1 (.tmp 15)), some (.tmp 14, false)⟩,
 ⟨.tmp 17, .r (.mov (.loc 0)), some (.tmp 14, false)⟩,
 ⟨.tmp 18, .r (.bin .neq (.tmp 16) (.tmp 17)), some (.tmp 14, false)⟩,
 ⟨.loc 19, .r (.pick (.tmp 14) (.cst (.bool true)) (.tmp 18)), none⟩])
 (.cond (.loc 19) (.seq (.reg [⟨.loc 8, .r (.mov (.cst (.bool false))), none⟩])
 .ret)
 .skip))
 (.seq (.seq (.reg [⟨.tmp 20, .r (.mov (.loc 1)), none⟩,
 ⟨.tmp 21, .r (.bin .neq (.tmp 20) (.cst (.int .i64 0))), none⟩,
 ⟨.tmp 22, .r (.mov (.tmp 21)), none⟩,
 ⟨.tmp 23, .r (.mov (.loc 1)), some (.tmp 22, true)⟩,
 ⟨.tmp 24, .r (.off 1 (.loc 7)), some (.tmp 22, true)⟩,
 ⟨.tmp 25, .r (.load false 1 (.tmp 24)), some (.tmp 22, true)⟩,
 ⟨.tmp 26, .r (.bin .neq (.tmp 23) (.tmp 25)), some (.tmp 22, true)⟩,
 ⟨.loc 27, .r (.pick (.tmp 22) (.tmp 26) (.cst (.bool false))), none⟩])
 (.cond (.loc 27) (.seq (.reg [⟨.loc 8, .r (.mov (.cst (.bool false))), none⟩])
 .ret)
 .skip))
 (.seq (.reg [⟨.tmp 29, .r (.load true 3 (.loc 6)), none⟩,
 ⟨.tmp 30, .call f0 [.tmp 29], none⟩,
 ⟨.tmp 28, .r (.mov (.tmp 30)), none⟩,
 ⟨.tmp 31, .r (.ext (.tmp 28) 0), none⟩,
 ⟨.tmp 32, .r (.ext (.tmp 28) 1), none⟩,
 ⟨.loc 9, .r (.mov (.tmp 31)), none⟩,
 ⟨.loc 10, .r (.mov (.tmp 32)), none⟩])
 (.seq (.seq (.reg [⟨.tmp 33, .r (.off 6 (.loc 7)), none⟩,
 ⟨.tmp 34, .r (.load false 1 (.tmp 33)), none⟩,
 ⟨.tmp 35, .r (.mov (.loc 10)), none⟩,
 ⟨.loc 36, .r (.bin .eql (.tmp 34) (.tmp 35)), none⟩])
 (.cond (.loc 36) (.seq (.reg [⟨.tmp 37, .r (.off 5 (.loc 7)), none⟩,
 ⟨.tmp 38, .r (.load false 1 (.tmp 37)), none⟩,
 ⟨.tmp 39, .r (.mov (.loc 9)), none⟩,
 ⟨.tmp 40, .r (.bin .geq (.tmp 38) (.tmp 39)), none⟩,
 ⟨.loc 8, .r (.mov (.tmp 40)), none⟩])
 .ret)
 .skip))
 (.seq (.reg [⟨.tmp 41, .r (.off 6 (.loc 7)), none⟩,
 ⟨.tmp 42, .r (.load false 1 (.tmp 41)), none⟩,
 ⟨.tmp 43, .r (.mov (.loc 10)), none⟩,
 ⟨.tmp 44, .r (.bin .gtr (.tmp 42) (.tmp 43)), none⟩,
 ⟨.loc 8, .r (.mov (.tmp 44)), none⟩])
 .ret)))))), [(.tmp (.loc 8))]⟩

def c_vote_Asks_l0 (f0 f1 : FuncId) : AC := (.seq (.reg [⟨.loc 25, .r (.bin .lss (.loc 24) (.loc 23)), none⟩])
 (.seq (.cond (.loc 25) .skip
 (.exit 0))
 (.seq (.block 1 (.seq (.reg [⟨.tmp 26, .r (.idx 1 (.loc 22) (.loc 24)), none⟩,
 ⟨.tmp 27, .r (.load false 1 (.tmp 26)), none⟩,
 ⟨.loc 15, .r (.mov (.tmp 27)), none⟩])
 (.seq (.seq (.reg [⟨.tmp 28, .r (.mov (.loc 15)), none⟩,
 ⟨.tmp 29, .r (.mov (.loc 0)), none⟩,
 ⟨.loc 30, .r (.bin .eql (.tmp 28) (.tmp 29)), none⟩])
 (.cond (.loc 30) (.exit 1)
 .skip))
 (.reg [⟨.tmp 31, .r (.mov (.loc 13)), none⟩,
 ⟨.tmp 32, .r (.mov (.loc 0)), none⟩,
 ⟨.tmp 33, .r (.mov (.loc 15)), none⟩,
 ⟨.tmp 34, .r (.mov (.loc 1)), none⟩,
 ⟨.tmp 35, .r (.mov (.loc 2)), none⟩,
 ⟨.tmp 36, .r (.mov (.loc 11)), none⟩,
 ⟨.tmp 37, .r (.mov (.loc 12)), none⟩,
 ⟨.tmp 38, .r (.build [(.int .i64 0), (.int .i64 0), (.int .i64 0), (.int .i64 0), (.int .i64 0), (.int .i64 0), (.int .i64 0), (.int .i64 0), (.int .i64 0), (.int .i64 0), (.int .i64 0), (.int .i64 0), (.int .i64 0), (.int .i64 0), (.bool false), .nils, .nils] [(0, 1, (.cst (.int .i64 1))), (1, 1, .tmp 32), (2, 1, .tmp 33), (3, 1, .tmp 34), (4, 1, .tmp 35), (5, 1, .tmp 36), (6, 1, .tmp 37)]), none⟩,
 ⟨.tmp 39, .h (.bsl 17 [.tmp 38]), none⟩,
 ⟨.tmp 40, .h (.app 17 168 (.tmp 31) (.tmp 39)), none⟩,
 ⟨.loc 13, .r (.mov (.tmp 40)), none⟩]))))
 (.reg [⟨.tmp 41, .r (.bin .add (.loc 24) (.cst (.int .i64 1))), none⟩,
 ⟨.loc 24, .r (.mov (.tmp 41)), none⟩]))))
/-- glebe/vote.Asks -/
def c_vote_Asks (f0 f1 : FuncId) : AFn := ⟨43, fun s => List.contains [0, 1, 2, 3, 4, 8, 9, 10, 11, 12, 13, 15, 22, 23, 24, 25, 30] s, (.seq (.reg [⟨.loc 8, .h (.box (.loc 3)), none⟩,
 ⟨.loc 9, .h (.box (.loc 4)), none⟩,
 ⟨.loc 10, .r (.mov (.cst .nils)), none⟩])
 (.seq (.reg [⟨.tmp 17, .r (.load true 3 (.loc 8)), none⟩,
 ⟨.tmp 18, .call f0 [.tmp 17], none⟩,
 ⟨.tmp 16, .r (.mov (.tmp 18)), none⟩,
 ⟨.tmp 19, .r (.ext (.tmp 16) 0), none⟩,
 ⟨.tmp 20, .r (.ext (.tmp 16) 1), none⟩,
 ⟨.loc 11, .r (.mov (.tmp 19)), none⟩,
 ⟨.loc 12, .r (.mov (.tmp 20)), none⟩])
 (.seq (.reg [⟨.loc 13, .r (.mov (.cst .nils)), none⟩])
 (.seq .skip
 (.seq (.seq (.reg [⟨.tmp 21, .r (.load true 3 (.loc 9)), none⟩,
 ⟨.loc 22, .call f1 [.tmp 21], none⟩,
 ⟨.loc 23, .r (.len (.loc 22)), none⟩,
 ⟨.loc 24, .r (.mov (.cst (.int .i64 0))), none⟩])
 (.block 0 (.loop (c_vote_Asks_l0 f0 f1))))
 (.seq (.reg [⟨.tmp 42, .r (.mov (.loc 13)), none⟩,
 ⟨.loc 10, .r (.mov (.tmp 42)), none⟩])
 .ret)))))), [(.tmp (.loc 10))]⟩

def c_gleberef14_Asks_l0 (f0 f1 : FuncId) : AC := (.seq (.seq (.reg [⟨.tmp 23, .r (.mov (.loc 15)), none⟩,
 ⟨.tmp 24, .r (.mov (.loc 12)), none⟩,
 ⟨.tmp 25, .r (.len (.tmp 24)), none⟩,
 ⟨.loc 26, .r (.bin .lss (.tmp 23) (.tmp 25)), none⟩])
 (.cond (.loc 26) .skip
 (.exit 0)))
 (.seq (.block 1 (.seq (.reg [⟨.tmp 29, .r (.mov (.loc 12)), none⟩,
 ⟨.tmp 30, .r (.mov (.loc 15)), none⟩,
 ⟨.tmp 31, .r (.idx 1 (.tmp 29) (.tmp 30)), none⟩,
 ⟨.tmp 32, .r (.load false 1 (.tmp 31)), none⟩,
 ⟨.tmp 33, .r (.mov (.loc 0)), none⟩,
 ⟨.loc 34, .r (.bin .neq (.tmp 32) (.tmp 33)), none⟩])
 (.cond (.loc 34) (.reg [⟨.tmp 35, .r (.mov (.loc 11)), none⟩,
 ⟨.tmp 36, .r (.mov (.loc 0)), none⟩,
 ⟨.tmp 37, .r (.mov (.loc 12)), none⟩,
 ⟨.tmp 38, .r (.mov (.loc 15)), none⟩,
 ⟨.tmp 39, .r (.idx 1 (.tmp 37) (.tmp 38)), none⟩,
 ⟨.tmp 40, .r (.load false 1 (.tmp 39)), none⟩,
 ⟨.tmp 41, .r (.mov (.loc 1)), none⟩,
 ⟨.tmp 42, .r (.mov (.loc 2)), none⟩,
 ⟨.tmp 43, .r (.mov (.loc 13)), none⟩,
 ⟨.tmp 44, .r (.mov (.loc 14)), none⟩,
 ⟨.tmp 45, .r (.build [(.int .i64 0), (.int .i64 0), (.int .i64 0), (.int .i64 0), (.int .i64 0), (.int .i64 0), (.int .i64 0), (.int .i64 0), (.int .i64 0), (.int .i64 0), (.int .i64 0), (.int .i64 0), (.int .i64 0), (.int .i64 0), (.bool false), .nils, .nils] [(0, 1, (.cst (.int .i64 1))), (1, 1, .tmp 36), (2, 1, .tmp 40), (3, 1, .tmp 41), (4, 1, .tmp 42), (5, 1, .tmp 43), (6, 1, .tmp 44)]), none⟩,
 ⟨.tmp 46, .h (.bsl 17 [.tmp 45]), none⟩,
 ⟨.tmp 47, .h (.app 17 168 (.tmp 35) (.tmp 46)), none⟩,
 ⟨.loc 11, .r (.mov (.tmp 47)), none⟩])
 .skip)))
 (.reg [⟨.tmp 27, .r (.mov (.loc 15)), none⟩,
 ⟨.tmp 28, .r (.bin .add (.tmp 27) (.cst (.int .i64 1))), none⟩,
 ⟨.loc 15, .r (.mov (.tmp 28)), none⟩])))
/-- glebe/gleberef14.Asks -/
def c_gleberef14_Asks (f0 f1 : FuncId) : AFn := ⟨49, fun s => List.contains [0, 1, 2, 3, 4, 8, 9, 10, 11, 12, 13, 14, 15, 26, 34] s, (.seq (.reg [⟨.loc 8, .h (.box (.loc 3)), none⟩,
 ⟨.loc 9, .h (.box (.loc 4)), none⟩,
 ⟨.loc 10, .r (.mov (.cst .nils)), none⟩])
 (.seq (.reg [⟨.loc 11, .r (.mov (.cst .nils)), none⟩])
 (.seq (.reg [⟨.tmp 16, .r (.load true 3 (.loc 9)), none⟩,
 ⟨.tmp 17, .call f0 [.tmp 16], none⟩,
 ⟨.loc 12, .r (.mov (.tmp 17)), none⟩])
 (.seq (.reg [⟨.tmp 19, .r (.load true 3 (.loc 8)), none⟩,
 ⟨.tmp 20, .call f1 [.tmp 19], none⟩,
 ⟨.tmp 18, .r (.mov (.tmp 20)), none⟩,
 ⟨.tmp 21, .r (.ext (.tmp 18) 0), none⟩,
 ⟨.tmp 22, .r (.ext (.tmp 18) 1), none⟩,
 ⟨.loc 13, .r (.mov (.tmp 21)), none⟩,
 ⟨.loc 14, .r (.mov (.tmp 22)), none⟩])
 (.seq (.seq (.reg [⟨.loc 15, .r (.mov (.cst (.int .i64 0))), none⟩])
 (.block 0 (.loop (c_gleberef14_Asks_l0 f0 f1))))
 (.seq (.reg [⟨.tmp 48, .r (.mov (.loc 11)), none⟩,
 ⟨.loc 10, .r (.mov (.tmp 48)), none⟩])
 .ret)))))), [(.tmp (.loc 10))]⟩

/-- glebe/gleberef14.Last -/
def c_gleberef14_Last : AFn := ⟨25, fun s => List.contains [0, 1, 2, 3, 4, 9] s, (.seq (.reg [⟨.loc 1, .h (.box (.loc 0)), none⟩,
 ⟨.loc 2, .r (.mov (.cst (.int .i64 0))), none⟩,
 ⟨.loc 3, .r (.mov (.cst (.int .i64 0))), none⟩])
 (.seq (.reg [⟨.tmp 5, .r (.off 2 (.loc 1)), none⟩,
 ⟨.tmp 6, .r (.load false 1 (.tmp 5)), none⟩,
 ⟨.tmp 7, .r (.len (.tmp 6)), none⟩,
 ⟨.loc 4, .r (.mov (.tmp 7)), none⟩])
 (.seq (.seq (.reg [⟨.tmp 8, .r (.mov (.loc 4)), none⟩,
 ⟨.loc 9, .r (.bin .eql (.tmp 8) (.cst (.int .i64 0))), none⟩])
 (.cond (.loc 9) (.seq (.dreg ⟨[0, 1, 0, 4, 3, 31], 0, [⟨0, 0, false, .r (.off 0 (.loc 1)), none⟩,
 ⟨1, 0, false, .r (.load false 1 (.tmp 0)), none⟩,
 ⟨2, 0, false, .r (.off 1 (.loc 1)), none⟩,
 ⟨3, 0, false, .r (.load false 1 (.tmp 2)), none⟩,
 ⟨4, 0, false, .r (.mov (.tmp 1)), none⟩,
 ⟨5, 0, false, .r (.mov (.tmp 3)), none⟩], [(2, 4), (3, 5)]⟩)
 .ret)
 .skip))
 (.seq (.dreg ⟨[0, 1, 0, 7, 0, 16, 0, 64, 240, 496, 1008, 15, 4095], 0, [⟨0, 0, false, .r (.off 0 (.loc 1)), none⟩,
 ⟨1, 0, false, .r (.load false 1 (.tmp 0)), none⟩,
 ⟨2, 0, false, .r (.mov (.loc 4)), none⟩,
 ⟨3, 0, false, .r (.bin .add (.tmp 1) (.tmp 2)), none⟩,
 ⟨4, 0, false, .r (.off 2 (.loc 1)), none⟩,
 ⟨5, 0, false, .r (.load false 1 (.tmp 4)), none⟩,
 ⟨6, 0, false, .r (.mov (.loc 4)), none⟩,
 ⟨7, 0, false, .r (.bin .sub (.tmp 6) (.cst (.int .i64 1))), none⟩,
 ⟨8, 0, false, .r (.idx 3 (.tmp 5) (.tmp 7)), none⟩,
 ⟨9, 0, false, .r (.off 0 (.tmp 8)), none⟩,
 ⟨10, 0, false, .r (.load false 1 (.tmp 9)), none⟩,
 ⟨11, 0, false, .r (.mov (.tmp 3)), none⟩,
 ⟨12, 0, false, .r (.mov (.tmp 10)), none⟩], [(2, 11), (3, 12)]⟩)
 .ret)))), [(.tmp (.loc 2)), (.tmp (.loc 3))]⟩

end Glb
