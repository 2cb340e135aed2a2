/-
  A library of its own.
-/
import Derived.Test.YtdeiamnhnfmilaaGreatGlbShort
set_option linter.unusedSimpArgs false
set_option linter.unusedVariables false
set_option maxRecDepth 100000
namespace Glb
open Go
def I7_ (f0 f1:FuncId):AFn:=⟨9,λs=>List.contains [0,1,4] s,(.seq (.reg [Qw 4])
 (.seq (.reg [Qa 5 0,
 ⟨.tmp 6,.call f0 [.tmp 5,(.cst (.int .i64 8))],none⟩,
 Qa 7 1,
 Qo 8 f1 6 7,
 Qb 4 8])
 .ret)),[(.tmp (.loc 4))]⟩
def O0_ (f0:FuncId):AC:=(.seq (.reg [⟨.loc 10,.r (.bin .lss (.loc 9) (.loc 8)),none⟩])
 (.seq (.cond (.loc 10) .skip
 (.exit 0))
 (.seq (.block 1 (.seq (.reg [⟨.tmp 11,.r (.idx 1 (.loc 7) (.loc 9)),none⟩,
 Qd 12 1 11,
 Qb 6 12])
 (.reg [Qa 13 0,
 Qa 14 6,
 Qo 15 f0 13 14,
 Qb 0 15])))
 (.reg [⟨.tmp 16,.r (.bin .add (.loc 9) (.cst (.int .i64 1))),none⟩,
 Qb 9 16]))))
def z6_ (f0:FuncId):AFn:=⟨18,λs=>List.contains [0,1,4,6,7,8,9,10] s,(.seq (.reg [Qw 4])
 (.seq (.seq (.reg [⟨.loc 7,.r (.mov (.loc 1)),none⟩,
 ⟨.loc 8,.r (.len (.loc 7)),none⟩,
 Qh 9 0])
 (.block 0 (.loop (O0_ f0))))
 (.seq (.reg [Qa 17 0,
 Qb 4 17])
 .ret))),[(.tmp (.loc 4))]⟩
def q0_ (f0 f1:FuncId):AFn:=⟨15,λs=>List.contains [0,1,3,4] s,(.seq (.reg [Qk 3 1,
 Qw 4])
 (.seq (.dreg ⟨[0,0,2,0,8,30,63,0,128,511,1023],1,[Zc 0 0 0,
 Qz 1 0 0 3,
 Qy 2 0 1 1,
 Qz 3 0 1 3,
 Qy 4 0 1 3,
 ⟨5,0,false,.h (.bsl 1 [.tmp 2,.tmp 4]),none⟩,
 Qz 7 1 2 3,
 Qy 8 1 1 7,
 ⟨6,1,true,.call f0 [.tmp 0,.tmp 5],none⟩,
 ⟨9,1,true,.call f1 [.tmp 6,.tmp 8],none⟩,
 Zd 10 1 9],[(4,10)]⟩)
 .ret)),[(.tmp (.loc 4))]⟩
def u8_ (f0 f1 f2:FuncId):AFn:=⟨15,λs=>List.contains [0,1,3,4] s,(.seq (.reg [Qk 3 1,
 Qw 4])
 (.seq (.dreg ⟨[0,0,2,0,8,30,63,0,128,511,1023],1,[Zc 0 0 0,
 Qz 1 0 0 3,
 Qy 2 0 1 1,
 Qz 3 0 1 3,
 Qy 4 0 1 3,
 ⟨5,0,false,.h (.bsl 1 [.tmp 2,.tmp 4]),none⟩,
 Qz 7 1 2 3,
 Qy 8 1 1 7,
 ⟨6,1,true,.call f0 [.tmp 0,.tmp 5],none⟩,
 ⟨9,1,true,.call f1 [.tmp 6,.tmp 8,(.cst (.clo f2 [] []))],none⟩,
 Zd 10 1 9],[(4,10)]⟩)
 .ret)),[(.tmp (.loc 4))]⟩
def s1_ (f0:FuncId):AFn:=⟨18,λs=>List.contains [0,1,3,4] s,(.seq (.reg [Qk 3 1,
 Qw 4])
 (.seq (.reg [Qa 5 0,
 Qe 6 0 3,
 Qd 7 1 6,
 Qe 8 1 3,
 Qd 9 1 8,
 Qe 10 2 3,
 Qd 11 1 10,
 Qe 12 3 3,
 Qd 13 1 12,
 Qe 14 4 3,
 Qd 15 1 14,
 ⟨.tmp 16,.h (.bsl 1 [.tmp 7,.tmp 9,.tmp 11,.tmp 13,.tmp 15]),none⟩,
 Qo 17 f0 5 16,
 Qb 4 17])
 .ret)),[(.tmp (.loc 4))]⟩
def s3_ (f0 f1 f2 f3:FuncId):AFn:=⟨23,λs=>List.contains [0,1,3,4] s,(.seq (.reg [Qk 3 1,
 Qw 4])
 (.seq (.dreg ⟨[0,0,2,0,8,0,32,126,255,0,512,2047,0,4096,16383,0,32768,131071,262143],1,[Zc 0 0 0,
 Qz 1 0 0 3,
 Qy 2 0 1 1,
 Qz 3 0 1 3,
 Qy 4 0 1 3,
 Qz 5 0 2 3,
 Qy 6 0 1 5,
 ⟨7,0,false,.h (.bsl 1 [.tmp 2,.tmp 4,.tmp 6]),none⟩,
 Qz 9 1 3 3,
 ⟨10,1,false,.r (.load true 3 (.tmp 9)),none⟩,
 Qz 12 1 6 3,
 ⟨13,1,false,.r (.load true 3 (.tmp 12)),none⟩,
 Qz 15 1 9 3,
 Qy 16 1 1 15,
 ⟨8,1,true,.call f0 [.tmp 0,.tmp 7],none⟩,
 ⟨11,1,true,.call f1 [.tmp 8,.tmp 10],none⟩,
 ⟨14,1,true,.call f2 [.tmp 11,.tmp 13],none⟩,
 ⟨17,1,true,.call f3 [.tmp 14,.tmp 16],none⟩,
 Zd 18 1 17],[(4,18)]⟩)
 .ret)),[(.tmp (.loc 4))]⟩
def o2_ (f0 f1 f2 f3 f4:FuncId):AFn:=⟨31,λs=>List.contains [0,1,3,4] s,(.seq (.reg [Qk 3 1,
 Qw 4])
 (.seq (.dreg ⟨[0,0,2,0,8,0,32,0,128,0,512,2046,4095,0,8192,32767,65535],1,[Zc 0 0 0,
 Qz 1 0 0 3,
 Qy 2 0 1 1,
 Qz 3 0 1 3,
 Qy 4 0 1 3,
 Qz 5 0 2 3,
 Qy 6 0 1 5,
 Qz 7 0 3 3,
 Qy 8 0 1 7,
 Qz 9 0 4 3,
 Qy 10 0 1 9,
 ⟨11,0,false,.h (.bsl 1 [.tmp 2,.tmp 4,.tmp 6,.tmp 8,.tmp 10]),none⟩,
 Qz 13 1 5 3,
 ⟨14,1,false,.r (.load true 3 (.tmp 13)),none⟩,
 ⟨12,1,true,.call f0 [.tmp 0,.tmp 11],none⟩,
 ⟨15,1,true,.call f1 [.tmp 12,.tmp 14],none⟩,
 Zd 16 1 15],[(0,16)]⟩)
 (.seq (.dreg ⟨[0,0,2,7,0,16,63,0,128,511,1023],0,[Zc 0 0 0,
 Qz 1 0 8 3,
 ⟨2,0,false,.r (.load true 3 (.tmp 1)),none⟩,
 Qz 4 0 11 3,
 Qy 5 0 1 4,
 Qz 7 0 12 3,
 ⟨8,0,false,.r (.load true 5 (.tmp 7)),none⟩,
 ⟨3,0,true,.call f2 [.tmp 0,.tmp 2],none⟩,
 ⟨6,0,true,.call f3 [.tmp 3,.tmp 5],none⟩,
 ⟨9,0,true,.call f4 [.tmp 6,.tmp 8],none⟩,
 Zd 10 0 9],[(4,10)]⟩)
 .ret))),[(.tmp (.loc 4))]⟩
def E0_ (f0 f1 f2 f3:FuncId):AFn:=⟨9,λs=>List.contains [0,1,2] s,(.seq (.reg [Qk 1 0,
 Qw 2])
 (.seq (.dreg ⟨[0,1,3,0,8,31,63],0,[Qz 0 0 0 1,
 Qy 1 0 1 0,
 Qz 3 0 1 1,
 Qy 4 0 1 3,
 ⟨2,0,true,.call f0 [(.cst .nils),.tmp 1,(.cst (.clo f1 [] []))],none⟩,
 ⟨5,0,true,.call f2 [.tmp 2,.tmp 4,(.cst (.clo f3 [] []))],none⟩,
 Zd 6 0 5],[(2,6)]⟩)
 .ret)),[(.tmp (.loc 2))]⟩
def q7_ (f0:FuncId):AC:=(.seq (.reg [⟨.loc 16,.r (.bin .lss (.loc 15) (.loc 14)),none⟩])
 (.seq (.cond (.loc 16) .skip
 (.exit 0))
 (.seq (.block 1 (.seq (.reg [⟨.tmp 17,.r (.idx 3 (.loc 13) (.loc 15)),none⟩,
 ⟨.tmp 18,.r (.load true 3 (.tmp 17)),none⟩,
 ⟨.loc 8,.h (.mk [(.int .i64 0),(.int .i64 0),.nils]),none⟩,
 Ql 3 8 18])
 (.reg [Qa 19 2,
 Qa 20 0,
 Qg 21 3 8,
 ⟨(.tmp 22),(.callv (.tmp 19) [.tmp 20,.tmp 21]),none⟩,
 Qb 0 22])))
 (.reg [⟨.tmp 23,.r (.bin .add (.loc 15) (.cst (.int .i64 1))),none⟩,
 Qb 15 23]))))
def f9_ (f0:FuncId):AFn:=⟨25,λs=>List.contains [0,1,2,6,8,13,14,15,16] s,(.seq (.reg [Qw 6])
 (.seq (.reg [Qa 9 0,
 Qa 10 1,
 ⟨.tmp 11,.r (.len (.tmp 10)),none⟩,
 Qo 12 f0 9 11,
 Qb 0 12])
 (.seq (.seq (.reg [⟨.loc 13,.r (.mov (.loc 1)),none⟩,
 ⟨.loc 14,.r (.len (.loc 13)),none⟩,
 Qh 15 0])
 (.block 0 (.loop (q7_ f0))))
 (.seq (.reg [Qa 24 0,
 Qb 6 24])
 .ret)))),[(.tmp (.loc 6))]⟩
def s2_ (f0:FuncId):AC:=(.seq (.reg [⟨.loc 16,.r (.bin .lss (.loc 15) (.loc 14)),none⟩])
 (.seq (.cond (.loc 16) .skip
 (.exit 0))
 (.seq (.block 1 (.seq (.reg [⟨.tmp 17,.r (.idx 10 (.loc 13) (.loc 15)),none⟩,
 ⟨.tmp 18,.r (.load true 10 (.tmp 17)),none⟩,
 ⟨.loc 8,.h (.mk [(.int .i64 0),(.int .i64 0),(.int .i64 0),(.int .i64 0),(.int .i64 0),.nils,.nils,.nils,.nils,.nils]),none⟩,
 Ql 10 8 18])
 (.reg [Qa 19 2,
 Qa 20 0,
 Qg 21 10 8,
 ⟨(.tmp 22),(.callv (.tmp 19) [.tmp 20,.tmp 21]),none⟩,
 Qb 0 22])))
 (.reg [⟨.tmp 23,.r (.bin .add (.loc 15) (.cst (.int .i64 1))),none⟩,
 Qb 15 23]))))
def h0_ (f0:FuncId):AFn:=⟨25,λs=>List.contains [0,1,2,6,8,13,14,15,16] s,(.seq (.reg [Qw 6])
 (.seq (.reg [Qa 9 0,
 Qa 10 1,
 ⟨.tmp 11,.r (.len (.tmp 10)),none⟩,
 Qo 12 f0 9 11,
 Qb 0 12])
 (.seq (.seq (.reg [⟨.loc 13,.r (.mov (.loc 1)),none⟩,
 ⟨.loc 14,.r (.len (.loc 13)),none⟩,
 Qh 15 0])
 (.block 0 (.loop (s2_ f0))))
 (.seq (.reg [Qa 24 0,
 Qb 6 24])
 .ret)))),[(.tmp (.loc 6))]⟩
def o1_ (f0:FuncId):AC:=(.seq (.reg [⟨.loc 16,.r (.bin .lss (.loc 15) (.loc 14)),none⟩])
 (.seq (.cond (.loc 16) .skip
 (.exit 0))
 (.seq (.block 1 (.seq (.reg [⟨.tmp 17,.r (.idx 5 (.loc 13) (.loc 15)),none⟩,
 ⟨.tmp 18,.r (.load true 5 (.tmp 17)),none⟩,
 ⟨.loc 8,.h (.mk [(.int .i64 0),(.int .i64 0),(.int .i64 0),(.int .i64 0),(.int .i64 0)]),none⟩,
 Ql 5 8 18])
 (.reg [Qa 19 2,
 Qa 20 0,
 Qg 21 5 8,
 ⟨(.tmp 22),(.callv (.tmp 19) [.tmp 20,.tmp 21]),none⟩,
 Qb 0 22])))
 (.reg [⟨.tmp 23,.r (.bin .add (.loc 15) (.cst (.int .i64 1))),none⟩,
 Qb 15 23]))))
def e6_ (f0:FuncId):AFn:=⟨25,λs=>List.contains [0,1,2,6,8,13,14,15,16] s,(.seq (.reg [Qw 6])
 (.seq (.reg [Qa 9 0,
 Qa 10 1,
 ⟨.tmp 11,.r (.len (.tmp 10)),none⟩,
 Qo 12 f0 9 11,
 Qb 0 12])
 (.seq (.seq (.reg [⟨.loc 13,.r (.mov (.loc 1)),none⟩,
 ⟨.loc 14,.r (.len (.loc 13)),none⟩,
 Qh 15 0])
 (.block 0 (.loop (o1_ f0))))
 (.seq (.reg [Qa 24 0,
 Qb 6 24])
 .ret)))),[(.tmp (.loc 6))]⟩
def q8_ (f0 f1 f2:FuncId):AC:=(.seq (.reg [⟨.loc 21,.r (.bin .lss (.loc 20) (.loc 19)),none⟩])
 (.seq (.cond (.loc 21) .skip
 (.exit 0))
 (.seq (.block 1 (.seq (.reg [Qa 22 7,
 Qa 23 1,
 ⟨(.tmp 24),(.callv (.tmp 23) []),none⟩,
 ⟨.tmp 25,.h (.bsl 3 [.tmp 24]),none⟩,
 ⟨.tmp 26,.h (.app 3 40 (.tmp 22) (.tmp 25)),none⟩,
 Qb 7 26])
 (.seq (.reg [Qa 27 0,
 ⟨.loc 28,.call f2 [.tmp 27],none⟩])
 (.cond (.loc 28) (.seq (.reg [Qw 4,
 Qv 5 false])
 .ret)
 .skip))))
 (.reg [⟨.tmp 29,.r (.bin .add (.loc 20) (.cst (.int .i64 1))),none⟩,
 Qb 20 29]))))
def g0_ (f0 f1 f2:FuncId):AFn:=⟨34,λs=>List.contains [0,1,4,5,6,7,18,19,20,21,28] s,(.seq (.reg [Qw 4,
 Qv 5 false])
 (.seq (.reg [Qa 8 0,
 Qn 9 f0 8,
 Qb 6 9])
 (.seq (.seq (.reg [Qa 10 6,
 ⟨.tmp 11,.r (.bin .lss (.tmp 10) (.cst (.int .i64 0))),none⟩,
 Qc 12 11,
 Qp 13 6 12 false,
 Qp 14 0 12 false,
 ⟨.tmp 15,.call f1 [.tmp 14],some (.tmp 12,false)⟩,
 ⟨.tmp 16,.r (.bin .quo (.tmp 15) (.cst (.int .i64 8))),some (.tmp 12,false)⟩,
 ⟨.tmp 17,.r (.bin .gtr (.tmp 13) (.tmp 16)),some (.tmp 12,false)⟩,
 ⟨.loc 18,.r (.pick (.tmp 12) (.cst (.bool true)) (.tmp 17)),none⟩])
 (.cond (.loc 18) (.seq (.reg [Qw 4,
 Qv 5 false])
 .ret)
 .skip))
 (.seq (.reg [Qw 7])
 (.seq (.seq (.reg [⟨.loc 19,.r (.mov (.loc 6)),none⟩,
 Qh 20 0])
 (.block 0 (.loop (q8_ f0 f1 f2))))
 (.seq (.reg [Qa 30 7,
 Qa 31 0,
 Qn 32 f2 31,
 ⟨.tmp 33,.r (.not (.tmp 32)),none⟩,
 Qb 4 30,
 Qb 5 33])
 .ret)))))),[(.tmp (.loc 4)),(.tmp (.loc 5))]⟩
def s5_ (f0 f1 f2:FuncId):AC:=(.seq (.reg [⟨.loc 21,.r (.bin .lss (.loc 20) (.loc 19)),none⟩])
 (.seq (.cond (.loc 21) .skip
 (.exit 0))
 (.seq (.block 1 (.seq (.reg [Qa 22 7,
 Qa 23 1,
 ⟨(.tmp 24),(.callv (.tmp 23) []),none⟩,
 ⟨.tmp 25,.h (.bsl 10 [.tmp 24]),none⟩,
 ⟨.tmp 26,.h (.app 10 160 (.tmp 22) (.tmp 25)),none⟩,
 Qb 7 26])
 (.seq (.reg [Qa 27 0,
 ⟨.loc 28,.call f2 [.tmp 27],none⟩])
 (.cond (.loc 28) (.seq (.reg [Qw 4,
 Qv 5 false])
 .ret)
 .skip))))
 (.reg [⟨.tmp 29,.r (.bin .add (.loc 20) (.cst (.int .i64 1))),none⟩,
 Qb 20 29]))))
def h2_ (f0 f1 f2:FuncId):AFn:=⟨34,λs=>List.contains [0,1,4,5,6,7,18,19,20,21,28] s,(.seq (.reg [Qw 4,
 Qv 5 false])
 (.seq (.reg [Qa 8 0,
 Qn 9 f0 8,
 Qb 6 9])
 (.seq (.seq (.reg [Qa 10 6,
 ⟨.tmp 11,.r (.bin .lss (.tmp 10) (.cst (.int .i64 0))),none⟩,
 Qc 12 11,
 Qp 13 6 12 false,
 Qp 14 0 12 false,
 ⟨.tmp 15,.call f1 [.tmp 14],some (.tmp 12,false)⟩,
 ⟨.tmp 16,.r (.bin .quo (.tmp 15) (.cst (.int .i64 8))),some (.tmp 12,false)⟩,
 ⟨.tmp 17,.r (.bin .gtr (.tmp 13) (.tmp 16)),some (.tmp 12,false)⟩,
 ⟨.loc 18,.r (.pick (.tmp 12) (.cst (.bool true)) (.tmp 17)),none⟩])
 (.cond (.loc 18) (.seq (.reg [Qw 4,
 Qv 5 false])
 .ret)
 .skip))
 (.seq (.reg [Qw 7])
 (.seq (.seq (.reg [⟨.loc 19,.r (.mov (.loc 6)),none⟩,
 Qh 20 0])
 (.block 0 (.loop (s5_ f0 f1 f2))))
 (.seq (.reg [Qa 30 7,
 Qa 31 0,
 Qn 32 f2 31,
 ⟨.tmp 33,.r (.not (.tmp 32)),none⟩,
 Qb 4 30,
 Qb 5 33])
 .ret)))))),[(.tmp (.loc 4)),(.tmp (.loc 5))]⟩
def o3_ (f0 f1 f2:FuncId):AC:=(.seq (.reg [⟨.loc 21,.r (.bin .lss (.loc 20) (.loc 19)),none⟩])
 (.seq (.cond (.loc 21) .skip
 (.exit 0))
 (.seq (.block 1 (.seq (.reg [Qa 22 7,
 Qa 23 1,
 ⟨(.tmp 24),(.callv (.tmp 23) []),none⟩,
 ⟨.tmp 25,.h (.bsl 5 [.tmp 24]),none⟩,
 ⟨.tmp 26,.h (.app 5 40 (.tmp 22) (.tmp 25)),none⟩,
 Qb 7 26])
 (.seq (.reg [Qa 27 0,
 ⟨.loc 28,.call f2 [.tmp 27],none⟩])
 (.cond (.loc 28) (.seq (.reg [Qw 4,
 Qv 5 false])
 .ret)
 .skip))))
 (.reg [⟨.tmp 29,.r (.bin .add (.loc 20) (.cst (.int .i64 1))),none⟩,
 Qb 20 29]))))
def e7_ (f0 f1 f2:FuncId):AFn:=⟨34,λs=>List.contains [0,1,4,5,6,7,18,19,20,21,28] s,(.seq (.reg [Qw 4,
 Qv 5 false])
 (.seq (.reg [Qa 8 0,
 Qn 9 f0 8,
 Qb 6 9])
 (.seq (.seq (.reg [Qa 10 6,
 ⟨.tmp 11,.r (.bin .lss (.tmp 10) (.cst (.int .i64 0))),none⟩,
 Qc 12 11,
 Qp 13 6 12 false,
 Qp 14 0 12 false,
 ⟨.tmp 15,.call f1 [.tmp 14],some (.tmp 12,false)⟩,
 ⟨.tmp 16,.r (.bin .quo (.tmp 15) (.cst (.int .i64 8))),some (.tmp 12,false)⟩,
 ⟨.tmp 17,.r (.bin .gtr (.tmp 13) (.tmp 16)),some (.tmp 12,false)⟩,
 ⟨.loc 18,.r (.pick (.tmp 12) (.cst (.bool true)) (.tmp 17)),none⟩])
 (.cond (.loc 18) (.seq (.reg [Qw 4,
 Qv 5 false])
 .ret)
 .skip))
 (.seq (.reg [Qw 7])
 (.seq (.seq (.reg [⟨.loc 19,.r (.mov (.loc 6)),none⟩,
 Qh 20 0])
 (.block 0 (.loop (o3_ f0 f1 f2))))
 (.seq (.reg [Qa 30 7,
 Qa 31 0,
 Qn 32 f2 31,
 ⟨.tmp 33,.r (.not (.tmp 32)),none⟩,
 Qb 4 30,
 Qb 5 33])
 .ret)))))),[(.tmp (.loc 4)),(.tmp (.loc 5))]⟩
def h1_ (f0:FuncId):AFn:=⟨22,λs=>List.contains [0,1,4,5,6,17] s,(.seq (.reg [Qw 4])
 (.seq (.reg [Qa 8 0,
 Qj 9 8,
 Qf 10 0 9,
 Qd 11 1 10,
 Qa 12 1,
 Qo 13 f0 11 12,
 Qc 7 13,
 Qi 14 7 0,
 Qi 15 7 1,
 Qb 5 14,
 Qb 6 15])
 (.seq (.seq (.reg [Qa 16 6,
 ⟨.loc 17,.r (.not (.tmp 16)),none⟩])
 (.cond (.loc 17) (.reg [Qa 18 0,
 Qj 19 18,
 Qf 20 1 19,
 ⟨.none,.h (.store 1 (.tmp 20) (.cst (.bool true))),none⟩])
 .skip))
 (.seq (.reg [Qa 21 5,
 Qb 4 21])
 .ret)))),[(.tmp (.loc 4))]⟩
def h6_ (f0:FuncId):AFn:=⟨22,λs=>List.contains [0,1,4,5,6,17] s,(.seq (.reg [Qw 4])
 (.seq (.reg [Qa 8 0,
 Qj 9 8,
 Qf 10 0 9,
 Qd 11 1 10,
 Qa 12 1,
 Qo 13 f0 11 12,
 Qc 7 13,
 Qi 14 7 0,
 Qi 15 7 1,
 Qb 5 14,
 Qb 6 15])
 (.seq (.seq (.reg [Qa 16 6,
 ⟨.loc 17,.r (.not (.tmp 16)),none⟩])
 (.cond (.loc 17) (.reg [Qa 18 0,
 Qj 19 18,
 Qf 20 1 19,
 ⟨.none,.h (.store 1 (.tmp 20) (.cst (.bool true))),none⟩])
 .skip))
 (.seq (.reg [Qa 21 5,
 Qb 4 21])
 .ret)))),[(.tmp (.loc 4))]⟩
def e9_ (f0:FuncId):AFn:=⟨22,λs=>List.contains [0,1,4,5,6,17] s,(.seq (.reg [Qw 4])
 (.seq (.reg [Qa 8 0,
 Qj 9 8,
 Qf 10 0 9,
 Qd 11 1 10,
 Qa 12 1,
 Qo 13 f0 11 12,
 Qc 7 13,
 Qi 14 7 0,
 Qi 15 7 1,
 Qb 5 14,
 Qb 6 15])
 (.seq (.seq (.reg [Qa 16 6,
 ⟨.loc 17,.r (.not (.tmp 16)),none⟩])
 (.cond (.loc 17) (.reg [Qa 18 0,
 Qj 19 18,
 Qf 20 1 19,
 ⟨.none,.h (.store 1 (.tmp 20) (.cst (.bool true))),none⟩])
 .skip))
 (.seq (.reg [Qa 21 5,
 Qb 4 21])
 .ret)))),[(.tmp (.loc 4))]⟩
def j6_ (f0 f1:FuncId):AFn:=⟨22,λs=>List.contains [0,2,3] s,(.seq (.reg [⟨.loc 2,.h (.mk [(.int .i64 0),(.int .i64 0),.nils]),none⟩])
 (.seq (.dreg ⟨[0,1,3,7,15,0,32,96,224,511,1023,0,4095],1,[Zc 0 0 0,
 Zb 1 0 0,
 Za 2 0 0 1,
 Qy 3 0 1 2,
 Zc 5 0 0,
 Zb 6 0 5,
 Za 7 0 0 6,
 Qy 8 0 1 7,
 ⟨11,0,false,.h (.mk [(.int .i64 0),(.int .i64 0),.nils]),none⟩,
 Zg 4 0 f0 3,
 Zg 9 0 f0 8,
 ⟨10,0,false,.r (.build [(.int .i64 0),(.int .i64 0),.nils] [(0,1,.tmp 4),(1,1,.tmp 9)]),none⟩,
 Zf 12 1 3 11 10],[(3,11)]⟩)
 (.seq (.reg [Qa 15 0,
 Qj 16 15,
 Qf 17 0 16,
 Qd 18 1 17,
 Qn 19 f1 18,
 Qe 20 2 3,
 Qm 1 20 19])
 (.seq (.reg [Qg 21 3 3,
 Ql 3 2 21])
 .ret)))),[(.cell (.loc 2) true 3)]⟩
def m4_ (f0 f1 f2:FuncId):AFn:=⟨21,λs=>List.contains [0,2,3] s,(.seq (.reg [⟨.loc 2,.h (.mk [(.int .i64 0),(.int .i64 0),.nils]),none⟩])
 (.seq (.dreg ⟨[0,1,3,7,15,0,32,96,224,511,1023,0,4095],1,[Zc 0 0 0,
 Zb 1 0 0,
 Za 2 0 0 1,
 Qy 3 0 1 2,
 Zc 5 0 0,
 Zb 6 0 5,
 Za 7 0 0 6,
 Qy 8 0 1 7,
 ⟨11,0,false,.h (.mk [(.int .i64 0),(.int .i64 0),.nils]),none⟩,
 Zg 4 0 f0 3,
 Zg 9 0 f0 8,
 ⟨10,0,false,.r (.build [(.int .i64 0),(.int .i64 0),.nils] [(0,1,.tmp 4),(1,1,.tmp 9)]),none⟩,
 Zf 12 1 3 11 10],[(3,11)]⟩)
 (.seq (.reg [Qa 15 0,
 Qa 16 0,
 ⟨.tmp 17,.r (.x (.bclo f1 [.tmp 16] [])),none⟩,
 Qo 18 f2 15 17,
 Qe 19 2 3,
 Qm 1 19 18])
 (.seq (.reg [Qg 20 3 3,
 Ql 3 2 20])
 .ret)))),[(.cell (.loc 2) true 3)]⟩
def k8_ (f0:FuncId):AFn:=⟨19,λs=>List.contains [0,2] s,(.seq (.reg [⟨.loc 2,.h (.mk [.nils,.nils,.nils]),none⟩])
 (.seq (.dreg ⟨[0,1,3,7,15,0,32,96,224,511,0,1024,3072,7168,16383,32767,65535],0,[Zc 0 0 0,
 Zb 1 0 0,
 Za 2 0 0 1,
 Qy 3 0 1 2,
 Zc 5 0 0,
 Zb 6 0 5,
 Za 7 0 0 6,
 Qy 8 0 1 7,
 Zc 10 0 0,
 Zb 11 0 10,
 Za 12 0 0 11,
 Qy 13 0 1 12,
 Zg 4 0 f0 3,
 Zg 9 0 f0 8,
 Zg 14 0 f0 13,
 ⟨15,0,false,.r (.build [.nils,.nils,.nils] [(0,1,.tmp 4),(1,1,.tmp 9),(2,1,.tmp 14)]),none⟩,
 ⟨16,0,true,.h (.store 3 (.loc 2) (.tmp 15)),none⟩],[]⟩)
 .ret)),[(.cell (.loc 2) true 3)]⟩
def k6_ (f0:FuncId):AFn:=⟨29,λs=>List.contains [0,2] s,(.seq (.reg [⟨.loc 2,.h (.mk [(.int .i64 0),(.int .i64 0),(.int .i64 0),(.int .i64 0),(.int .i64 0)]),none⟩])
 (.seq (.dreg ⟨[0,1,3,7,15,0,32,96,224,511,0,1024,3072,7168,16383,0,32768,98304,229376,524287,0,1048576,3145728,7340032,16777215,33554431,67108863],0,[Zc 0 0 0,
 Zb 1 0 0,
 Za 2 0 0 1,
 Qy 3 0 1 2,
 Zc 5 0 0,
 Zb 6 0 5,
 Za 7 0 0 6,
 Qy 8 0 1 7,
 Zc 10 0 0,
 Zb 11 0 10,
 Za 12 0 0 11,
 Qy 13 0 1 12,
 Zc 15 0 0,
 Zb 16 0 15,
 Za 17 0 0 16,
 Qy 18 0 1 17,
 Zc 20 0 0,
 Zb 21 0 20,
 Za 22 0 0 21,
 Qy 23 0 1 22,
 Zg 4 0 f0 3,
 Zg 9 0 f0 8,
 Zg 14 0 f0 13,
 Zg 19 0 f0 18,
 Zg 24 0 f0 23,
 ⟨25,0,false,.r (.build [(.int .i64 0),(.int .i64 0),(.int .i64 0),(.int .i64 0),(.int .i64 0)] [(0,1,.tmp 4),(1,1,.tmp 9),(2,1,.tmp 14),(3,1,.tmp 19),(4,1,.tmp 24)]),none⟩,
 ⟨26,0,true,.h (.store 5 (.loc 2) (.tmp 25)),none⟩],[]⟩)
 .ret)),[(.cell (.loc 2) true 5)]⟩
def k7_ (f0 f1 f2 f3:FuncId):AFn:=⟨33,λs=>List.contains [0,2,3] s,(.seq (.reg [⟨.loc 2,.h (.mk [(.int .i64 0),(.int .i64 0),(.int .i64 0),(.int .i64 0),(.int .i64 0),.nils,.nils,.nils,.nils,.nils]),none⟩])
 (.seq (.dreg ⟨[0,1,3,7,15,0,32,96,224,511,0,1024,3072,7168,16383,32767,0,131071],1,[Zc 0 0 0,
 Zb 1 0 0,
 Za 2 0 0 1,
 Qy 3 0 1 2,
 Zc 5 0 0,
 Zb 6 0 5,
 Za 7 0 0 6,
 Qy 8 0 1 7,
 Zc 10 0 0,
 Zb 11 0 10,
 Za 12 0 0 11,
 Qy 13 0 1 12,
 ⟨16,0,false,.h (.mk [(.int .i64 0),(.int .i64 0),(.int .i64 0),(.int .i64 0),(.int .i64 0),.nils,.nils,.nils,.nils,.nils]),none⟩,
 Zg 4 0 f0 3,
 Zg 9 0 f0 8,
 Zg 14 0 f0 13,
 ⟨15,0,false,.r (.build [(.int .i64 0),(.int .i64 0),(.int .i64 0),(.int .i64 0),(.int .i64 0),.nils,.nils,.nils,.nils,.nils] [(0,1,.tmp 4),(1,1,.tmp 9),(2,1,.tmp 14)]),none⟩,
 Zf 17 1 10 16 15],[(3,16)]⟩)
 (.seq (.reg [Qa 20 0,
 Qn 21 f1 20,
 Qe 22 3 3,
 Qm 3 22 21])
 (.seq (.reg [Qa 23 0,
 Qn 24 f2 23,
 Qe 25 6 3,
 Qm 3 25 24])
 (.seq (.reg [Qa 26 0,
 Qj 27 26,
 Qf 28 0 27,
 Qd 29 1 28,
 Qn 30 f3 29,
 Qe 31 9 3,
 Qm 1 31 30])
 (.seq (.reg [Qg 32 10 3,
 Ql 10 2 32])
 .ret)))))),[(.cell (.loc 2) true 10)]⟩
def i8_ (f0 f1 f2 f3 f4:FuncId):AFn:=⟨46,λs=>List.contains [0,2,3] s,(.seq (.reg [⟨.loc 2,.h (.mk [(.int .i64 0),(.int .i64 0),(.int .i64 0),(.int .i64 0),(.int .i64 0),(.int .i64 0),(.int .i64 0),.nils,.nils,.nils,.nils,.nils,(.int .i64 0),(.int .i64 0),(.int .i64 0),(.int .i64 0),(.int .i64 0)]),none⟩])
 (.seq (.dreg ⟨[0,1,3,7,15,0,32,96,224,511,0,1024,3072,7168,16383,0,32768,98304,229376,524287,0,1048576,3145728,7340032,16777215,33554431,0,134217727],1,[Zc 0 0 0,
 Zb 1 0 0,
 Za 2 0 0 1,
 Qy 3 0 1 2,
 Zc 5 0 0,
 Zb 6 0 5,
 Za 7 0 0 6,
 Qy 8 0 1 7,
 Zc 10 0 0,
 Zb 11 0 10,
 Za 12 0 0 11,
 Qy 13 0 1 12,
 Zc 15 0 0,
 Zb 16 0 15,
 Za 17 0 0 16,
 Qy 18 0 1 17,
 Zc 20 0 0,
 Zb 21 0 20,
 Za 22 0 0 21,
 Qy 23 0 1 22,
 ⟨26,0,false,.h (.mk [(.int .i64 0),(.int .i64 0),(.int .i64 0),(.int .i64 0),(.int .i64 0),(.int .i64 0),(.int .i64 0),.nils,.nils,.nils,.nils,.nils,(.int .i64 0),(.int .i64 0),(.int .i64 0),(.int .i64 0),(.int .i64 0)]),none⟩,
 Zg 4 0 f0 3,
 Zg 9 0 f0 8,
 Zg 14 0 f0 13,
 Zg 19 0 f0 18,
 Zg 24 0 f0 23,
 ⟨25,0,false,.r (.build [(.int .i64 0),(.int .i64 0),(.int .i64 0),(.int .i64 0),(.int .i64 0),(.int .i64 0),(.int .i64 0),.nils,.nils,.nils,.nils,.nils,(.int .i64 0),(.int .i64 0),(.int .i64 0),(.int .i64 0),(.int .i64 0)] [(0,1,.tmp 4),(1,1,.tmp 9),(2,1,.tmp 14),(3,1,.tmp 19),(4,1,.tmp 24)]),none⟩,
 Zf 27 1 17 26 25],[(3,26)]⟩)
 (.seq (.reg [Qa 30 0,
 Qn 31 f1 30,
 Qe 32 5 3,
 Qm 3 32 31])
 (.seq (.reg [Qa 33 0,
 Qn 34 f2 33,
 Qe 35 8 3,
 Qm 3 35 34])
 (.seq (.reg [Qa 36 0,
 Qj 37 36,
 Qf 38 0 37,
 Qd 39 1 38,
 Qn 40 f3 39,
 Qe 41 11 3,
 Qm 1 41 40])
 (.seq (.reg [Qa 42 0,
 Qn 43 f4 42,
 Qe 44 12 3,
 Qm 5 44 43])
 (.seq (.reg [Qg 45 17 3,
 Ql 17 2 45])
 .ret))))))),[(.cell (.loc 2) true 17)]⟩
def j1_ (f0:FuncId):AFn:=⟨12,λs=>List.contains [0,2,6] s,(.seq (.reg [Qh 2 0])
 (.seq (.seq (.reg [Qa 3 0,
 Qj 4 3,
 Qf 5 1 4,
 ⟨.loc 6,.r (.load false 1 (.tmp 5)),none⟩])
 (.cond (.loc 6) (.seq (.reg [Qh 2 4])
 .ret)
 .skip))
 (.seq (.reg [Qa 7 0,
 Qj 8 7,
 Qf 9 0 8,
 Qd 10 1 9,
 Qn 11 f0 10,
 Qb 2 11])
 .ret))),[(.tmp (.loc 2))]⟩
def w9_:AFn:=⟨24,λs=>List.contains [0,1,2,3,4] s,(.seq (.reg [Qk 2 0,
 Qk 3 1,
 Qv 4 false])
 (.seq (.reg [Qe 5 0 2,
 Qd 6 1 5,
 Qe 7 0 3,
 Qd 8 1 7,
 ⟨.tmp 9,.r (.bin .lss (.tmp 6) (.tmp 8)),none⟩,
 Qc 10 9,
 Qr 11 0 2 10 false,
 Qq 12 1 11 10 false,
 Qr 13 0 3 10 false,
 Qq 14 1 13 10 false,
 ⟨.tmp 15,.r (.bin .eql (.tmp 12) (.tmp 14)),some (.tmp 10,false)⟩,
 ⟨.tmp 16,.r (.mov (.tmp 15)),some (.tmp 10,false)⟩,
 Qr 17 1 2 16 true,
 Qq 18 1 17 16 true,
 Qr 19 1 3 16 true,
 Qq 20 1 19 16 true,
 ⟨.tmp 21,.r (.bin .lss (.tmp 18) (.tmp 20)),some (.tmp 16,true)⟩,
 ⟨.tmp 22,.r (.pick (.tmp 16) (.tmp 21) (.cst (.bool false))),some (.tmp 10,false)⟩,
 Qt 23 10 22,
 Qb 4 23])
 .ret)),[(.tmp (.loc 4))]⟩
def s7_ (f0 f1 f2 f3:FuncId):AFn:=⟨24,λs=>List.contains [0,2,3,4,5,6,16,20] s,(.seq (.reg [⟨.loc 2,.h (.mk [.nils,.nils,.nils]),none⟩,
 Qh 3 0])
 (.seq (.reg [Qa 7 0,
 Qn 8 f0 7,
 ⟨.tmp 9,.r (.build [(.raw (.pointer none)),(.bool false)] [(0,1,.tmp 8)]),none⟩,
 ⟨.tmp 10,.h (.box (.tmp 9)),none⟩,
 Qb 4 10])
 (.seq (.reg [Qa 11 4,
 Qn 12 f1 11,
 ⟨.loc 5,.h (.mk [.nils,.nils,.nils]),none⟩,
 Ql 3 5 12])
 (.seq (.reg [Qa 13 4,
 Qn 14 f2 13,
 Qb 6 14])
 (.seq (.seq (.reg [Qa 15 6,
 ⟨.loc 16,.r (.bin .eql (.tmp 15) (.cst (.int .i64 0))),none⟩])
 (.cond (.loc 16) (.reg [Qg 17 3 5,
 Qn 18 f3 17,
 Qb 6 18])
 .skip))
 (.seq (.seq (.reg [Qa 19 6,
 ⟨.loc 20,.r (.bin .neq (.tmp 19) (.cst (.int .i64 0))),none⟩])
 (.cond (.loc 20) (.seq (.reg [⟨.tmp 21,.r (.build [.nils,.nils,.nils] []),none⟩,
 Qa 22 6,
 Ql 3 2 21,
 Qb 3 22])
 .ret)
 .skip))
 (.seq (.reg [Qg 23 3 5,
 Ql 3 2 23,
 Qh 3 0])
 .ret))))))),[(.cell (.loc 2) true 3),(.tmp (.loc 3))]⟩
def w8_ (f0 f1 f2 f3 f4 f5:FuncId):AFn:=⟨21,λs=>List.contains [0,1,2,3,4] s,(.seq (.reg [Qk 1 0,
 ⟨.loc 2,.h (.mk [.nils,.nils]),none⟩])
 (.seq (.reg [Qg 5 2 1,
 Qn 6 f0 5,
 Qn 7 f1 6,
 ⟨.tmp 8,.r (.build [(.raw (.pointer none)),(.bool false)] [(0,1,.tmp 7)]),none⟩,
 ⟨.tmp 9,.h (.box (.tmp 8)),none⟩,
 Qb 3 9])
 (.seq (.reg [Qa 10 3,
 Qa 11 3,
 ⟨.tmp 12,.r (.x (.bclo f2 [.tmp 11] [])),none⟩,
 Qo 13 f3 10 12,
 ⟨.tmp 14,.r (.build [.nils,.nils] [(0,1,.tmp 13)]),none⟩,
 ⟨.loc 4,.h (.mk [.nils,.nils]),none⟩,
 Ql 2 4 14])
 (.seq (.reg [Qa 15 3,
 Qa 16 3,
 ⟨.tmp 17,.r (.x (.bclo f4 [.tmp 16] [])),none⟩,
 Qo 18 f5 15 17,
 Qe 19 1 4,
 Qm 1 19 18])
 (.seq (.reg [Qg 20 2 4,
 Ql 2 2 20])
 .ret))))),[(.cell (.loc 2) true 2)]⟩
def k9_ (f0 f1 f2:FuncId):AFn:=⟨11,λs=>List.contains [0,1,2,3] s,(.seq (.reg [Qk 1 0,
 ⟨.loc 2,.h (.mk [(.int .i64 0),(.int .i64 0),(.int .i64 0),(.int .i64 0),(.int .i64 0),(.int .i64 0),(.int .i64 0),.nils,.nils,.nils,.nils,.nils,(.int .i64 0),(.int .i64 0),(.int .i64 0),(.int .i64 0),(.int .i64 0)]),none⟩])
 (.seq (.reg [Qg 4 17 1,
 ⟨.tmp 5,.call f0 [(.cst .nils),.tmp 4],none⟩,
 Qn 6 f1 5,
 ⟨.tmp 7,.r (.build [(.raw (.pointer none)),(.bool false)] [(0,1,.tmp 6)]),none⟩,
 ⟨.tmp 8,.h (.box (.tmp 7)),none⟩,
 Qb 3 8])
 (.seq (.reg [Qa 9 3,
 Qn 10 f2 9,
 Ql 17 2 10])
 .ret))),[(.cell (.loc 2) true 17)]⟩
def x7_ (f0:FuncId):AC:=(.seq (.seq (.dreg ⟨[0,0,2,7,15,31,31,127,255,31,1023,2047],0,[Zc 0 0 5,
 Zc 1 0 0,
 ⟨2,0,false,.r (.len (.tmp 1)),none⟩,
 ⟨3,0,false,.r (.bin .lss (.tmp 0) (.tmp 2)),none⟩,
 Zd 4 0 3,
 ⟨5,0,false,.r (.mov (.loc 0)),some (.tmp 4,true)⟩,
 ⟨6,0,false,.r (.mov (.loc 5)),some (.tmp 4,true)⟩,
 ⟨7,0,false,.r (.idx 5 (.tmp 5) (.tmp 6)),some (.tmp 4,true)⟩,
 ⟨8,0,false,.r (.load true 5 (.tmp 7)),some (.tmp 4,true)⟩,
 ⟨9,0,false,.r (.load true 5 (.loc 3)),some (.tmp 4,true)⟩,
 ⟨10,0,true,.call f0 [.tmp 8,.tmp 9],some (.tmp 4,true)⟩,
 ⟨11,0,false,.r (.pick (.tmp 4) (.tmp 10) (.cst (.bool false))),none⟩],[(17,11)]⟩)
 (.cond (.loc 17) .skip
 (.exit 0)))
 (.block 1 (.reg [Qa 18 5,
 Qx 19 18 1,
 Qb 5 19])))
def u9_ (f0:FuncId):AFn:=⟨60,λs=>List.contains [0,1,3,4,5,17,43] s,(.seq (.reg [Qk 3 1,
 Qw 4])
 (.seq (.reg [Qh 5 0])
 (.seq (.block 0 (.loop (x7_ f0)))
 (.seq (.seq (.dreg ⟨[0,0,2,7,15,31,31,127,255,511,31,1055,4095,8191,16383,32767,32767,131071,262143,524287,32767,1081343,4194303,8388607],0,[Zc 0 0 5,
 Zc 1 0 0,
 ⟨2,0,false,.r (.len (.tmp 1)),none⟩,
 ⟨3,0,false,.r (.bin .lss (.tmp 0) (.tmp 2)),none⟩,
 Zd 4 0 3,
 ⟨5,0,false,.r (.mov (.loc 0)),some (.tmp 4,true)⟩,
 ⟨6,0,false,.r (.mov (.loc 5)),some (.tmp 4,true)⟩,
 ⟨7,0,false,.r (.idx 5 (.tmp 5) (.tmp 6)),some (.tmp 4,true)⟩,
 ⟨8,0,false,.r (.off 0 (.tmp 7)),some (.tmp 4,true)⟩,
 ⟨9,0,false,.r (.load false 1 (.tmp 8)),some (.tmp 4,true)⟩,
 ⟨10,0,false,.r (.off 0 (.loc 3)),some (.tmp 4,true)⟩,
 ⟨11,0,false,.r (.load false 1 (.tmp 10)),some (.tmp 4,true)⟩,
 ⟨12,0,false,.r (.bin .eql (.tmp 9) (.tmp 11)),some (.tmp 4,true)⟩,
 ⟨13,0,false,.r (.pick (.tmp 4) (.tmp 12) (.cst (.bool false))),none⟩,
 Zd 14 0 13,
 ⟨15,0,false,.r (.mov (.loc 0)),some (.tmp 14,true)⟩,
 ⟨16,0,false,.r (.mov (.loc 5)),some (.tmp 14,true)⟩,
 ⟨17,0,false,.r (.idx 5 (.tmp 15) (.tmp 16)),some (.tmp 14,true)⟩,
 ⟨18,0,false,.r (.off 1 (.tmp 17)),some (.tmp 14,true)⟩,
 ⟨19,0,false,.r (.load false 1 (.tmp 18)),some (.tmp 14,true)⟩,
 ⟨20,0,false,.r (.off 1 (.loc 3)),some (.tmp 14,true)⟩,
 ⟨21,0,false,.r (.load false 1 (.tmp 20)),some (.tmp 14,true)⟩,
 ⟨22,0,false,.r (.bin .eql (.tmp 19) (.tmp 21)),some (.tmp 14,true)⟩,
 ⟨23,0,false,.r (.pick (.tmp 14) (.tmp 22) (.cst (.bool false))),none⟩],[(43,23)]⟩)
 (.cond (.loc 43) (.seq (.reg [Qa 44 0,
 Qa 45 5,
 Qg 46 5 3,
 ⟨.tmp 47,.r (.idx 5 (.tmp 44) (.tmp 45)),none⟩,
 Qm 5 47 46])
 (.seq (.reg [Qa 48 0,
 Qb 4 48])
 .ret))
 .skip))
 (.seq (.dreg ⟨[0,0,0,7,0,16,0,0,192,496,1023,2047],1,[Zc 0 0 0,
 Zc 1 0 5,
 Zc 2 0 5,
 ⟨3,0,false,.r (.slc 5 (.tmp 0) none (some (.tmp 1)) (some (.tmp 2))),none⟩,
 Ze 4 0 5 3,
 ⟨5,0,false,.h (.bsl 5 [.tmp 4]),none⟩,
 Zc 6 1 0,
 Zc 7 1 5,
 ⟨8,1,false,.r (.slc 5 (.tmp 6) (some (.tmp 7)) none none),none⟩,
 ⟨9,1,true,.h (.app 5 40 (.tmp 5) (.tmp 8)),none⟩,
 ⟨10,1,true,.h (.app 5 40 (.tmp 3) (.tmp 9)),none⟩,
 Zd 11 1 10],[(4,11)]⟩)
 .ret))))),[(.tmp (.loc 4))]⟩
def z5_ (f0 f1 f2:FuncId):AFn:=⟨104,λs=>List.contains [0,1,2,3,4,5,6,8,9,10,11,12,14,15,23,43,64,84] s,(.seq (.reg [Qk 2 0,
 Qk 3 1,
 ⟨.loc 4,.h (.mk [(.int .i64 0),(.int .i64 0),(.int .i64 0),(.int .i64 0),(.int .i64 0),.nils,.nils,.nils,.nils,.nils]),none⟩,
 Qh 5 0])
 (.seq (.seq (.reg [Qe 13 0 3,
 ⟨.loc 14,.r (.load false 1 (.tmp 13)),none⟩])
 (.block 0 (.seq (.reg [⟨.tmp 16,.r (.bin .eql (.loc 14) (.cst (.int .i64 1))),none⟩,
 Qb 15 16])
 (.cond (.loc 15) (.dreg ⟨[0,1,0,4,3,19,63,127],0,[Qz 0 0 2 3,
 Qy 1 0 1 0,
 Qz 2 0 3 3,
 Qy 3 0 1 2,
 Qz 4 0 1 2,
 Zf 5 0 1 4 1,
 Qz 6 0 2 2,
 Zf 7 0 1 6 3],[]⟩)
 (.seq (.reg [⟨.tmp 24,.r (.bin .eql (.loc 14) (.cst (.int .i64 2))),none⟩,
 Qb 23 24])
 (.cond (.loc 23) (.seq (.reg [Qe 26 3 2,
 ⟨.tmp 27,.r (.load true 3 (.tmp 26)),none⟩,
 Qn 28 f0 27,
 Qc 25 28,
 Qi 29 25 0,
 Qi 30 25 1,
 Qb 6 29,
 Qc 7 30])
 (.seq (.seq (.reg [Qe 31 4 3,
 Qd 32 1 31,
 Qe 33 3 2,
 Qf 34 0 33,
 Qd 35 1 34,
 ⟨.tmp 36,.r (.bin .leq (.tmp 32) (.tmp 35)),none⟩,
 Qc 37 36,
 Qr 38 4 3 37 false,
 Qq 39 1 38 37 false,
 Qp 40 6 37 false,
 ⟨.tmp 41,.r (.bin .add (.tmp 40) (.cst (.int .i64 1))),some (.tmp 37,false)⟩,
 ⟨.tmp 42,.r (.bin .gtr (.tmp 39) (.tmp 41)),some (.tmp 37,false)⟩,
 ⟨.loc 43,.r (.pick (.tmp 37) (.cst (.bool true)) (.tmp 42)),none⟩])
 (.cond (.loc 43) (.seq (.reg [Qg 44 10 2,
 Ql 10 4 44,
 Qh 5 3])
 .ret)
 .skip))
 (.seq (.reg [Qe 45 4 3,
 Qd 46 1 45,
 Qe 47 3 2,
 Qf 48 0 47,
 Qd 49 1 48,
 ⟨.tmp 50,.r (.bin .sub (.tmp 46) (.tmp 49)),none⟩,
 ⟨.tmp 51,.r (.bin .sub (.tmp 50) (.cst (.int .i64 1))),none⟩,
 Qb 8 51])
 (.dreg ⟨[0,1,3,0,0,31,0,64,192,511,1023,2047,4095],0,[Qz 0 0 3 2,
 Za 1 0 2 0,
 Qy 2 0 1 1,
 Zc 3 0 8,
 Zc 4 0 8,
 ⟨5,0,false,.r (.slc 3 (.tmp 2) none (some (.tmp 3)) (some (.tmp 4))),none⟩,
 Qz 6 0 5 3,
 Za 7 0 2 6,
 Qy 8 0 1 7,
 ⟨9,0,true,.h (.app 3 40 (.tmp 5) (.tmp 8)),none⟩,
 Qz 10 0 3 2,
 Za 11 0 2 10,
 Zf 12 0 1 11 9],[]⟩))))
 (.seq (.reg [⟨.tmp 65,.r (.bin .eql (.loc 14) (.cst (.int .i64 3))),none⟩,
 Qb 64 65])
 (.cond (.loc 64) (.seq (.dreg ⟨[0,1,3,0,8,24,7,127],0,[Qz 0 0 5 3,
 Za 1 0 0 0,
 Qy 2 0 1 1,
 Qz 3 0 5 3,
 Za 4 0 1 3,
 Qy 5 0 1 4,
 Zd 6 0 2,
 Zd 7 0 5],[(9,6),(10,7)]⟩)
 (.seq (.seq (.reg [Qe 73 3 2,
 ⟨.tmp 74,.r (.load true 3 (.tmp 73)),none⟩,
 Qa 75 9,
 Qo 76 f1 74 75,
 Qc 72 76,
 Qi 77 72 0,
 Qi 78 72 1,
 Qb 11 77,
 Qb 12 78])
 (.seq (.reg [Qa 79 12,
 Qc 80 79,
 Qp 81 11 80 true,
 Qp 82 10 80 true,
 ⟨.tmp 83,.r (.bin .eql (.tmp 81) (.tmp 82)),some (.tmp 80,true)⟩,
 ⟨.loc 84,.r (.pick (.tmp 80) (.tmp 83) (.cst (.bool false))),none⟩])
 (.cond (.loc 84) (.reg [Qe 86 3 2,
 ⟨.tmp 87,.r (.load true 3 (.tmp 86)),none⟩,
 Qa 88 9,
 Qo 89 f2 87 88,
 Qc 85 89,
 Qi 90 85 0,
 Qi 91 85 1,
 Qe 92 3 2,
 Qm 3 92 90])
 (.reg [Qa 93 9,
 Qa 94 10,
 ⟨.tmp 95,.r (.build [(.int .i64 0),(.int .i64 0),.nils] [(0,1,.tmp 93),(1,1,.tmp 94)]),none⟩,
 Qe 96 3 2,
 Qm 3 96 95]))))
 (.dreg ⟨[0,1,0,4,3,19,63,127],0,[Qz 0 0 8 3,
 ⟨1,0,false,.r (.load true 3 (.tmp 0)),none⟩,
 Qz 2 0 11 3,
 Qy 3 0 1 2,
 Qz 4 0 6 2,
 Zf 5 0 3 4 1,
 Qz 6 0 9 2,
 Zf 7 0 1 6 3],[]⟩)))
 .skip))))))))
 (.seq (.reg [Qg 103 10 2,
 Ql 10 4 103,
 Qh 5 0])
 .ret))),[(.cell (.loc 4) true 10),(.tmp (.loc 5))]⟩
def M0_ (f0 f1 f2 f3:FuncId):AC:=(.seq (.reg [⟨.loc 36,.r (.bin .lss (.loc 35) (.loc 34)),none⟩])
 (.seq (.cond (.loc 36) .skip
 (.exit 0))
 (.seq (.block 1 (.seq (.reg [Qa 37 35,
 Qb 6 37])
 (.seq (.seq (.dreg ⟨[0,1,0,7,15,31,0,64,255],0,[Qz 0 0 0 2,
 Qy 1 0 1 0,
 Zc 2 0 6,
 ⟨3,0,false,.r (.idx 10 (.tmp 1) (.tmp 2)),none⟩,
 Za 4 0 0 3,
 Qy 5 0 1 4,
 Qz 6 0 1 3,
 Qy 7 0 1 6,
 ⟨8,0,false,.r (.bin .neq (.tmp 5) (.tmp 7)),none⟩],[(46,8)]⟩)
 (.cond (.loc 46) (.exit 1)
 .skip))
 (.seq (.dreg ⟨[0,1,0,7,15,0,63,127,255,255,0,1535,4095],1,[Qz 0 0 0 2,
 Qy 1 0 1 0,
 Zc 2 0 6,
 ⟨3,0,false,.r (.idx 10 (.tmp 1) (.tmp 2)),none⟩,
 ⟨4,0,false,.r (.load true 10 (.tmp 3)),none⟩,
 Ze 5 0 17 3,
 ⟨10,0,false,.h (.mk [(.int .i64 0),(.int .i64 0),(.int .i64 0),(.int .i64 0),(.int .i64 0),.nils,.nils,.nils,.nils,.nils]),none⟩,
 ⟨6,0,true,.call f3 [.tmp 4,.tmp 5],none⟩,
 Zd 7 0 6,
 ⟨8,0,false,.r (.ext (.tmp 7) 0),none⟩,
 ⟨9,0,false,.r (.ext (.tmp 7) 1),none⟩,
 Zf 11 1 10 10 8,
 Zd 12 1 9],[(7,10),(8,12)]⟩)
 (.seq (.seq (.reg [Qa 57 8,
 ⟨.loc 58,.r (.bin .neq (.tmp 57) (.cst (.int .i64 0))),none⟩])
 (.cond (.loc 58) (.seq (.reg [⟨.tmp 59,.r (.build [.nils,.nils] []),none⟩,
 Qa 60 8,
 Ql 2 4 59,
 Qb 5 60])
 .ret)
 .skip))
 (.seq (.reg [Qe 61 0 2,
 Qd 62 1 61,
 Qa 63 6,
 Qg 64 10 7,
 ⟨.tmp 65,.r (.idx 10 (.tmp 62) (.tmp 63)),none⟩,
 Qm 10 65 64])
 (.seq (.reg [Qg 66 2 2,
 Ql 2 4 66,
 Qh 5 0])
 .ret)))))))
 (.reg [⟨.tmp 67,.r (.bin .add (.loc 35) (.cst (.int .i64 1))),none⟩,
 Qb 35 67]))))
def x0_ (f0 f1 f2 f3:FuncId):AFn:=⟨69,λs=>List.contains [0,1,2,3,4,5,6,7,8,16,24,34,35,36,46,58] s,(.seq (.reg [Qk 2 0,
 Qk 3 1,
 ⟨.loc 4,.h (.mk [.nils,.nils]),none⟩,
 Qh 5 0])
 (.seq (.seq (.reg [Qe 9 0 3,
 Qd 10 1 9,
 ⟨.tmp 11,.r (.bin .lss (.tmp 10) (.cst (.int .i64 1))),none⟩,
 Qc 12 11,
 Qr 13 0 3 12 false,
 Qq 14 1 13 12 false,
 ⟨.tmp 15,.r (.bin .gtr (.tmp 14) (.cst (.int .i64 4))),some (.tmp 12,false)⟩,
 ⟨.loc 16,.r (.pick (.tmp 12) (.cst (.bool true)) (.tmp 15)),none⟩])
 (.cond (.loc 16) (.seq (.reg [⟨.tmp 17,.r (.build [.nils,.nils] []),none⟩,
 Ql 2 4 17,
 Qh 5 13])
 .ret)
 .skip))
 (.seq (.dreg ⟨[0,1,0,7,15,31],0,[Ze 0 0 2 2,
 Ze 2 0 17 3,
 Zg 1 0 f0 0,
 Zg 3 0 f1 2,
 ⟨4,0,true,.h (.store 2 (.loc 2) (.tmp 1)),none⟩,
 ⟨5,0,true,.h (.store 17 (.loc 3) (.tmp 3)),none⟩],[]⟩)
 (.seq (.seq (.reg [Qe 22 0 3,
 Qd 23 1 22,
 ⟨.loc 24,.r (.bin .eql (.tmp 23) (.cst (.int .i64 4))),none⟩])
 (.cond (.loc 24) (.seq (.reg [Qe 25 1 2,
 Qd 26 1 25,
 Qe 27 12 3,
 ⟨.tmp 28,.r (.load true 5 (.tmp 27)),none⟩,
 Qo 29 f2 26 28,
 Qe 30 1 2,
 Qm 1 30 29])
 (.seq (.reg [Qg 31 2 2,
 Ql 2 4 31,
 Qh 5 0])
 .ret))
 .skip))
 (.seq (.seq (.reg [Qe 32 0 2,
 Qd 33 1 32,
 ⟨.loc 34,.r (.len (.tmp 33)),none⟩,
 Qh 35 0])
 (.block 0 (.loop (M0_ f0 f1 f2 f3))))
 (.seq (.reg [⟨.tmp 68,.r (.build [.nils,.nils] []),none⟩,
 Ql 2 4 68,
 Qh 5 6])
 .ret)))))),[(.cell (.loc 4) true 2),(.tmp (.loc 5))]⟩
end Glb
