/-
  A library of its own.
-/
import Derived.Test.YtdeiamnhnfmilaaGreatGlbShort
set_option linter.unusedSimpArgs false
set_option linter.unusedVariables false
set_option maxRecDepth 100000
namespace Glb
open Go
def v1_ (f0 f1 f2 f3 f4 f5 f6 f7:FuncId):AC:=(.seq (.seq (.reg [Qa 56 12,
 Qe 57 1 11,
 Qd 58 1 57,
 ⟨.tmp 59,.r (.len (.tmp 58)),none⟩,
 ⟨.loc 60,.r (.bin .lss (.tmp 56) (.tmp 59)),none⟩])
 (.cond (.loc 60) .skip
 (.exit 2)))
 (.seq (.block 3 (.seq (.dreg ⟨[0,0,2,0,14,30,63,127,255,255,0,1535,4095],1,[Ze 0 0 2 6,
 Qz 1 0 1 11,
 Qy 2 0 1 1,
 Zc 3 0 12,
 ⟨4,0,false,.r (.idx 17 (.tmp 2) (.tmp 3)),none⟩,
 ⟨5,0,false,.r (.load true 17 (.tmp 4)),none⟩,
 ⟨10,0,false,.h (.mk [.nils,.nils]),none⟩,
 ⟨6,0,true,.call f5 [.tmp 0,.tmp 5],none⟩,
 Zd 7 0 6,
 ⟨8,0,false,.r (.ext (.tmp 7) 0),none⟩,
 ⟨9,0,false,.r (.ext (.tmp 7) 1),none⟩,
 Zf 11 1 2 10 8,
 Zd 12 1 9],[(13,10),(14,12)]⟩)
 (.seq (.seq (.reg [Qa 73 14,
 ⟨.loc 74,.r (.bin .neq (.tmp 73) (.cst (.int .i64 0))),none⟩])
 (.cond (.loc 74) (.seq (.reg [Qv 4 false])
 .ret)
 .skip))
 (.reg [Qg 75 2 13,
 Ql 2 6 75]))))
 (.reg [Qa 61 12,
 Qx 62 61 1,
 Qb 12 62])))
def n1_ (f0 f1 f2 f3 f4 f5 f6 f7:FuncId):AC:=(.seq (.seq (.reg [Qa 76 15,
 Qe 77 0 11,
 Qd 78 1 77,
 ⟨.tmp 79,.r (.len (.tmp 78)),none⟩,
 ⟨.loc 80,.r (.bin .lss (.tmp 76) (.tmp 79)),none⟩])
 (.cond (.loc 80) .skip
 (.exit 4)))
 (.seq (.block 5 (.seq (.reg [Qe 83 0 11,
 Qd 84 1 83,
 Qa 85 15,
 ⟨.tmp 86,.r (.idx 17 (.tmp 84) (.tmp 85)),none⟩,
 ⟨.tmp 87,.r (.load true 17 (.tmp 86)),none⟩,
 ⟨.loc 16,.h (.mk [(.int .i64 0),(.int .i64 0),(.int .i64 0),(.int .i64 0),(.int .i64 0),(.int .i64 0),(.int .i64 0),(.int .i64 0),(.int .i64 0),(.int .i64 0),(.int .i64 0),(.int .i64 0),(.int .i64 0),(.int .i64 0),(.bool false),.nils,.nils]),none⟩,
 Ql 17 16 87])
 (.seq (.seq (.reg [Qe 88 0 16,
 Qd 89 1 88,
 ⟨.tmp 90,.r (.bin .neq (.tmp 89) (.cst (.int .i64 2))),none⟩,
 Qc 91 90,
 Qr 92 2 16 91 false,
 Qq 93 1 92 91 false,
 Qr 94 1 10 91 false,
 Qq 95 1 94 91 false,
 ⟨.tmp 96,.r (.bin .neq (.tmp 93) (.tmp 95)),some (.tmp 91,false)⟩,
 ⟨.loc 97,.r (.pick (.tmp 91) (.cst (.bool true)) (.tmp 96)),none⟩])
 (.cond (.loc 97) (.seq (.reg [Qv 4 false])
 .ret)
 .skip))
 (.seq (.seq (.reg [Qe 98 14 16,
 Qd 99 1 98,
 ⟨.loc 100,.r (.not (.tmp 99)),none⟩])
 (.cond (.loc 100) (.exit 5)
 .skip))
 (.seq (.seq (.reg [Qe 101 3 2,
 ⟨.tmp 102,.r (.load true 3 (.tmp 101)),none⟩,
 Qe 103 5 10,
 Qd 104 1 103,
 Qe 105 6 10,
 Qd 106 1 105,
 ⟨.tmp 107,.call f6 [.tmp 102,.tmp 104,.tmp 106],none⟩,
 ⟨.tmp 108,.r (.not (.tmp 107)),none⟩,
 Qc 109 108,
 Qp 110 7 109 false,
 Qp 111 8 109 false,
 Qr 112 4 16 109 false,
 Qq 113 1 112 109 false,
 Qr 114 1 10 109 false,
 Qq 115 1 114 109 false,
 ⟨.tmp 116,.call f7 [.tmp 110,.tmp 111,.tmp 113,.tmp 115],some (.tmp 109,false)⟩,
 ⟨.tmp 117,.r (.not (.tmp 116)),some (.tmp 109,false)⟩,
 ⟨.loc 118,.r (.pick (.tmp 109) (.cst (.bool true)) (.tmp 117)),none⟩])
 (.cond (.loc 118) (.seq (.reg [Qv 4 false])
 .ret)
 .skip))
 (.seq (.reg [Qa 119 7,
 Qe 120 4 16,
 Qd 121 1 120,
 ⟨.tmp 122,.h (.bsl 1 [.tmp 121]),none⟩,
 ⟨.tmp 123,.h (.app 1 8 (.tmp 119) (.tmp 122)),none⟩,
 Qb 7 123])
 (.reg [Qa 124 8,
 Qe 125 1 10,
 Qd 126 1 125,
 ⟨.tmp 127,.h (.bsl 1 [.tmp 126]),none⟩,
 ⟨.tmp 128,.h (.app 1 8 (.tmp 124) (.tmp 127)),none⟩,
 Qb 8 128])))))))
 (.reg [Qa 81 15,
 Qx 82 81 1,
 Qb 15 82])))
def v0_ (f0 f1 f2 f3 f4 f5 f6 f7:FuncId):AC:=(.seq (.seq (.reg [Qa 31 9,
 Qa 32 1,
 ⟨.tmp 33,.r (.len (.tmp 32)),none⟩,
 ⟨.loc 34,.r (.bin .lss (.tmp 31) (.tmp 33)),none⟩])
 (.cond (.loc 34) .skip
 (.exit 0)))
 (.seq (.block 1 (.seq (.reg [Qa 37 1,
 Qa 38 9,
 ⟨.tmp 39,.r (.idx 17 (.tmp 37) (.tmp 38)),none⟩,
 ⟨.tmp 40,.r (.load true 17 (.tmp 39)),none⟩,
 ⟨.loc 10,.h (.mk [(.int .i64 0),(.int .i64 0),(.int .i64 0),(.int .i64 0),(.int .i64 0),(.int .i64 0),(.int .i64 0),(.int .i64 0),(.int .i64 0),(.int .i64 0),(.int .i64 0),(.int .i64 0),(.int .i64 0),(.int .i64 0),(.bool false),.nils,.nils]),none⟩,
 Ql 17 10 40])
 (.seq (.seq (.reg [Qg 41 17 10,
 ⟨.tmp 42,.call f3 [.tmp 41,(.cst (.int .i64 10)),(.cst (.int .i64 1000))],none⟩,
 Qc 43 42,
 Qr 44 4 10 43 false,
 Qq 45 1 44 43 false,
 ⟨.tmp 46,.r (.bin .gtr (.tmp 45) (.cst (.int .i64 1099511627776))),some (.tmp 43,false)⟩,
 ⟨.loc 47,.r (.pick (.tmp 43) (.cst (.bool true)) (.tmp 46)),none⟩])
 (.cond (.loc 47) (.seq (.reg [⟨.tmp 48,.call f1 [],none⟩,
 Qb 4 48])
 .ret)
 .skip))
 (.seq (.reg [Qe 49 0 10,
 ⟨.none,.h (.store 1 (.tmp 49) (.cst (.int .i64 1))),none⟩])
 (.seq (.reg [Qe 50 0 2,
 Qd 51 1 50,
 Qe 52 3 10,
 Qm 1 52 51])
 (.seq (.reg [Qa 53 5,
 Qg 54 17 10,
 Qo 55 f4 53 54,
 ⟨.loc 11,.h (.mk [.nils,.nils,.nils,(.int .i64 0),(.bool false)]),none⟩,
 Ql 5 11 55])
 (.seq (.seq (.reg [Qh 12 0])
 (.block 2 (.loop (v1_ f0 f1 f2 f3 f4 f5 f6 f7))))
 (.seq (.seq (.reg [Qh 15 0])
 (.block 4 (.loop (n1_ f0 f1 f2 f3 f4 f5 f6 f7))))
 (.seq (.reg [Qa 129 9,
 ⟨.tmp 130,.r (.bin .rem (.tmp 129) (.cst (.int .i64 3))),none⟩,
 ⟨.loc 131,.r (.bin .eql (.tmp 130) (.cst (.int .i64 2))),none⟩])
 (.cond (.loc 131) (.reg [Qe 132 0 6,
 Qd 133 1 132,
 ⟨.tmp 134,.r (.idx 10 (.tmp 133) (.cst (.int .i64 0))),none⟩,
 ⟨.tmp 135,.r (.load true 10 (.tmp 134)),none⟩,
 Qa 136 9,
 ⟨.tmp 137,.call f2 [(.cst (.int .i64 1)),.tmp 135,.tmp 136],none⟩,
 Qb 5 137])
 .skip))))))))))
 (.reg [Qa 35 9,
 Qx 36 35 1,
 Qb 9 36])))
def i2_ (f0 f1 f2 f3 f4 f5 f6 f7:FuncId):AFn:=⟨139,λs=>List.contains [0,1,2,4,5,6,7,8,9,10,11,12,13,14,15,16,24,34,47,60,74,80,97,100,118,131] s,(.seq (.reg [Qk 2 0,
 Qv 4 false])
 (.seq (.seq (.reg [Qg 17 10 2,
 Qn 18 f0 17,
 ⟨.tmp 19,.r (.not (.tmp 18)),none⟩,
 Qc 20 19,
 Qp 21 1 20 false,
 ⟨.tmp 22,.r (.len (.tmp 21)),some (.tmp 20,false)⟩,
 ⟨.tmp 23,.r (.bin .gtr (.tmp 22) (.cst (.int .i64 200))),some (.tmp 20,false)⟩,
 ⟨.loc 24,.r (.pick (.tmp 20) (.cst (.bool true)) (.tmp 23)),none⟩])
 (.cond (.loc 24) (.seq (.reg [⟨.tmp 25,.call f1 [],none⟩,
 Qb 4 25])
 .ret)
 .skip))
 (.seq (.reg [Qg 26 10 2,
 ⟨.tmp 27,.call f2 [(.cst (.int .i64 1)),.tmp 26,(.cst (.int .i64 0))],none⟩,
 Qb 5 27])
 (.seq (.reg [Qg 28 10 2,
 ⟨.tmp 29,.h (.bsl 10 [.tmp 28]),none⟩,
 ⟨.tmp 30,.r (.build [.nils,.nils] [(0,1,.tmp 29)]),none⟩,
 ⟨.loc 6,.h (.mk [.nils,.nils]),none⟩,
 Ql 2 6 30])
 (.seq (.reg [Qw 7,
 Qw 8])
 (.seq (.seq (.reg [Qh 9 0])
 (.block 0 (.loop (v0_ f0 f1 f2 f3 f4 f5 f6 f7))))
 (.seq (.reg [⟨.tmp 138,.call f1 [],none⟩,
 Qb 4 138])
 .ret))))))),[(.tmp (.loc 4))]⟩
def m7_:AFn:=⟨4,λs=>List.contains [0] s,(.seq (.reg [⟨.loc 0,.h (.mk [(.int .i64 0),(.int .i64 0),(.int .i64 0),(.int .i64 0),(.int .i64 0),.nils,.nils,.nils,.nils,.nils]),none⟩])
 (.seq (.reg [⟨.tmp 1,.h (.bsl 1 [(.cst (.int .i64 1))]),none⟩,
 ⟨.tmp 2,.r (.build [.nils,.nils,.nils] [(0,1,.tmp 1)]),none⟩,
 ⟨.tmp 3,.r (.build [(.int .i64 0),(.int .i64 0),(.int .i64 0),(.int .i64 0),(.int .i64 0),.nils,.nils,.nils,.nils,.nils] [(0,1,(.cst (.int .i64 1))),(6,3,.tmp 2)]),none⟩,
 Ql 10 0 3])
 .ret)),[(.cell (.loc 0) true 10)]⟩
def z7_ (f0 f1 f2 f3 f4 f5:FuncId):AC:=(.seq (.seq (.reg [Qa 12 2,
 ⟨.loc 13,.r (.bin .lss (.tmp 12) (.cst (.int .i64 9))),none⟩])
 (.cond (.loc 13) .skip
 (.exit 0)))
 (.seq (.block 1 (.seq (.reg [Qa 16 1,
 ⟨.tmp 17,.call f2 [.tmp 16,(.cst (.int .i64 0))],none⟩,
 ⟨.loc 3,.h (.mk [.nils,.nils,.nils,(.int .i64 0),(.bool false)]),none⟩,
 Ql 5 3 17])
 (.seq (.reg [Qe 18 1 3,
 Qd 19 1 18,
 ⟨.tmp 20,.r (.len (.tmp 19)),none⟩,
 ⟨.tmp 21,.r (.bin .gtr (.tmp 20) (.cst (.int .i64 0))),none⟩,
 Qc 22 21,
 Qp 23 1 22 false,
 ⟨.tmp 24,.call f3 [.tmp 23],some (.tmp 22,false)⟩,
 ⟨.tmp 25,.r (.bin .neq (.tmp 24) (.cst (.int .i64 0))),some (.tmp 22,false)⟩,
 ⟨.loc 26,.r (.pick (.tmp 22) (.cst (.bool true)) (.tmp 25)),none⟩])
 (.cond (.loc 26) (.seq (.reg [Qv 0 false])
 .ret)
 .skip))))
 (.reg [Qa 14 2,
 Qx 15 14 1,
 Qb 2 15])))
def m5_ (f0 f1 f2 f3 f4 f5:FuncId):AFn:=⟨80,λs=>List.contains [0,1,2,3,4,5,6,7,11,13,26] s,(.seq (.reg [Qv 0 false])
 (.seq (.reg [⟨.tmp 8,.call f0 [],none⟩,
 ⟨.tmp 9,.call f1 [(.cst (.int .i64 1)),.tmp 8,(.cst (.int .i64 0))],none⟩,
 Qb 1 9])
 (.seq (.seq (.reg [Qa 10 1,
 ⟨.loc 11,.r (.x (.peq false (.tmp 10))),none⟩])
 (.cond (.loc 11) (.seq (.reg [Qv 0 false])
 .ret)
 .skip))
 (.seq (.seq (.reg [Qh 2 0])
 (.block 0 (.loop (z7_ f0 f1 f2 f3 f4 f5))))
 (.seq (.reg [Qa 27 1,
 ⟨.tmp 28,.call f2 [.tmp 27,(.cst (.int .i64 0))],none⟩,
 ⟨.loc 4,.h (.mk [.nils,.nils,.nils,(.int .i64 0),(.bool false)]),none⟩,
 Ql 5 4 28])
 (.seq (.reg [Qa 30 1,
 ⟨.tmp 31,.h (.bsl 1 [(.cst (.int .u8 7))]),none⟩,
 ⟨.tmp 32,.call f4 [.tmp 30,(.cst (.int .i64 1)),.tmp 31],none⟩,
 Qc 29 32,
 Qi 33 29 0,
 Qi 34 29 1,
 Qi 35 29 2,
 ⟨.loc 6,.h (.mk [.nils,.nils,.nils,(.int .i64 0),(.bool false)]),none⟩,
 Qb 5 33,
 Ql 5 6 34,
 Qb 7 35])
 (.seq (.reg [Qa 36 1,
 Qn 37 f3 36,
 ⟨.tmp 38,.r (.bin .eql (.tmp 37) (.cst (.int .i64 2))),none⟩,
 Qc 39 38,
 Qr 40 1 4 39 true,
 Qq 41 1 40 39 true,
 ⟨.tmp 42,.r (.len (.tmp 41)),some (.tmp 39,true)⟩,
 ⟨.tmp 43,.r (.bin .eql (.tmp 42) (.cst (.int .i64 2))),some (.tmp 39,true)⟩,
 Qu 44 39 43,
 Qc 45 44,
 Qr 46 3 4 45 true,
 Qq 47 1 46 45 true,
 ⟨.tmp 48,.r (.bin .eql (.tmp 47) (.cst (.int .i64 1))),some (.tmp 45,true)⟩,
 Qu 49 45 48,
 Qc 50 49,
 Qr 51 2 4 50 true,
 Qq 52 1 51 50 true,
 ⟨.tmp 53,.r (.len (.tmp 52)),some (.tmp 50,true)⟩,
 ⟨.tmp 54,.r (.bin .eql (.tmp 53) (.cst (.int .i64 1))),some (.tmp 50,true)⟩,
 Qu 55 50 54,
 Qc 56 55,
 Qp 57 7 56 true,
 ⟨.tmp 58,.r (.bin .eql (.tmp 57) (.cst (.int .i64 0))),some (.tmp 56,true)⟩,
 Qu 59 56 58,
 Qc 60 59,
 Qp 61 5 60 true,
 ⟨.tmp 62,.r (.bin .eql (.tmp 61) (.cst (.int .i64 2))),some (.tmp 60,true)⟩,
 Qu 63 60 62,
 Qc 64 63,
 Qr 65 3 6 64 true,
 Qq 66 1 65 64 true,
 ⟨.tmp 67,.r (.bin .eql (.tmp 66) (.cst (.int .i64 2))),some (.tmp 64,true)⟩,
 Qu 68 64 67,
 Qc 69 68,
 Qr 70 2 6 69 true,
 Qq 71 1 70 69 true,
 ⟨.tmp 72,.r (.len (.tmp 71)),some (.tmp 69,true)⟩,
 ⟨.tmp 73,.r (.bin .eql (.tmp 72) (.cst (.int .i64 1))),some (.tmp 69,true)⟩,
 Qu 74 69 73,
 Qc 75 74,
 Qp 76 1 75 true,
 ⟨.tmp 77,.call f5 [.tmp 76],some (.tmp 75,true)⟩,
 ⟨.tmp 78,.r (.bin .eql (.tmp 77) (.cst (.int .i64 2))),some (.tmp 75,true)⟩,
 Qu 79 75 78,
 Qb 0 79])
 .ret))))))),[(.tmp (.loc 0))]⟩
def m8_ (f0 f1:FuncId):AFn:=⟨45,λs=>List.contains [0,1,2,3] s,(.seq (.reg [Qk 1 0,
 Qv 2 false])
 (.seq (.reg [Qe 4 3 1,
 ⟨.tmp 5,.r (.load true 3 (.tmp 4)),none⟩,
 ⟨.loc 3,.h (.mk [(.int .i64 0),(.int .i64 0),.nils]),none⟩,
 Ql 3 3 5])
 (.seq (.reg [Qe 6 1 1,
 Qd 7 1 6,
 ⟨.tmp 8,.r (.bin .geq (.tmp 7) (.cst (.int .i64 0))),none⟩,
 Qc 9 8,
 Qr 10 1 1 9 true,
 Qq 11 1 10 9 true,
 ⟨.tmp 12,.r (.bin .leq (.tmp 11) (.cst (.int .i64 1099511627776))),some (.tmp 9,true)⟩,
 Qu 13 9 12,
 Qc 14 13,
 Qr 15 0 3 14 true,
 Qq 16 1 15 14 true,
 ⟨.tmp 17,.r (.bin .geq (.tmp 16) (.cst (.int .i64 0))),some (.tmp 14,true)⟩,
 Qu 18 14 17,
 Qc 19 18,
 Qr 20 0 3 19 true,
 Qq 21 1 20 19 true,
 ⟨.tmp 22,.r (.bin .leq (.tmp 21) (.cst (.int .i64 1099511627776))),some (.tmp 19,true)⟩,
 Qu 23 19 22,
 Qc 24 23,
 Qr 25 1 3 24 true,
 Qq 26 1 25 24 true,
 ⟨.tmp 27,.r (.bin .geq (.tmp 26) (.cst (.int .i64 0))),some (.tmp 24,true)⟩,
 Qu 28 24 27,
 Qc 29 28,
 Qr 30 1 3 29 true,
 Qq 31 1 30 29 true,
 ⟨.tmp 32,.r (.bin .leq (.tmp 31) (.cst (.int .i64 1099511627776))),some (.tmp 29,true)⟩,
 Qu 33 29 32,
 Qc 34 33,
 ⟨.tmp 35,.r (.load true 10 (.loc 1)),some (.tmp 34,true)⟩,
 ⟨.tmp 36,.call f0 [.tmp 35,(.cst (.int .i64 500)),(.cst (.int .i64 32768))],some (.tmp 34,true)⟩,
 ⟨.tmp 37,.r (.not (.tmp 36)),some (.tmp 34,true)⟩,
 Qu 38 34 37,
 Qc 39 38,
 Qr 40 6 1 39 true,
 ⟨.tmp 41,.r (.load true 3 (.tmp 40)),some (.tmp 39,true)⟩,
 ⟨.tmp 42,.call f1 [.tmp 41],some (.tmp 39,true)⟩,
 ⟨.tmp 43,.r (.bin .eql (.tmp 42) (.cst (.int .i64 0))),some (.tmp 39,true)⟩,
 Qu 44 39 43,
 Qb 2 44])
 .ret))),[(.tmp (.loc 2))]⟩
def z8_:AC:=(.seq (.seq (.reg [Qa 10 9,
 Qa 11 0,
 ⟨.tmp 12,.r (.len (.tmp 11)),none⟩,
 ⟨.loc 13,.r (.bin .lss (.tmp 10) (.tmp 12)),none⟩])
 (.cond (.loc 13) .skip
 (.exit 0)))
 (.seq (.block 1 (.seq (.reg [Qa 16 0,
 Qa 17 9,
 ⟨.tmp 18,.r (.idx 1 (.tmp 16) (.tmp 17)),none⟩,
 Qd 19 1 18,
 Qa 20 2,
 ⟨.tmp 21,.r (.bin .eql (.tmp 19) (.tmp 20)),none⟩,
 Qc 22 21,
 Qp 23 1 22 true,
 Qp 24 9 22 true,
 ⟨.tmp 25,.r (.idx 1 (.tmp 23) (.tmp 24)),some (.tmp 22,true)⟩,
 Qq 26 1 25 22 true,
 Qp 27 3 22 true,
 ⟨.tmp 28,.r (.bin .neq (.tmp 26) (.tmp 27)),some (.tmp 22,true)⟩,
 ⟨.loc 29,.r (.pick (.tmp 22) (.tmp 28) (.cst (.bool false))),none⟩])
 (.cond (.loc 29) (.seq (.reg [Qv 8 false])
 .ret)
 .skip)))
 (.reg [Qa 14 9,
 Qx 15 14 1,
 Qb 9 15])))
def m6_:AFn:=⟨30,λs=>List.contains [0,1,2,3,8,9,13,29] s,(.seq (.reg [Qv 8 false])
 (.seq (.seq (.reg [Qh 9 0])
 (.block 0 (.loop (z8_))))
 (.seq (.reg [Qv 8 true])
 .ret))),[(.tmp (.loc 8))]⟩
end Glb
