/-
  A library of its own.
-/
import Derived.Test.YtdeiamnhnfmilaaGreatGlbShort
set_option linter.unusedSimpArgs false
set_option linter.unusedVariables false
set_option maxRecDepth 100000
namespace Glb
open Go
def v8_:AC:=(.seq (.seq (.reg [Qa 13 8,
 Qa 14 0,
 ⟨.tmp 15,.r (.len (.tmp 14)),none⟩,
 ⟨.loc 16,.r (.bin .lss (.tmp 13) (.tmp 15)),none⟩])
 (.cond (.loc 16) .skip
 (.exit 0)))
 (.seq (.block 1 (.seq (.reg [Qa 19 7,
 Qa 20 0,
 Qa 21 8,
 ⟨.tmp 22,.r (.idx 3 (.tmp 20) (.tmp 21)),none⟩,
 Qf 23 2 22,
 Qd 24 1 23,
 ⟨.tmp 25,.r (.len (.tmp 24)),none⟩,
 Qa 26 2,
 Qx 27 26 1,
 ⟨.tmp 28,.r (.mnmx false [.tmp 25,.tmp 27]),none⟩,
 ⟨.tmp 29,.r (.bin .add (.tmp 19) (.tmp 28)),none⟩,
 Qb 7 29])
 (.seq (.reg [Qa 30 7,
 Qa 31 2,
 ⟨.loc 32,.r (.bin .gtr (.tmp 30) (.tmp 31)),none⟩])
 (.cond (.loc 32) (.seq (.reg [Qv 6 true])
 .ret)
 .skip))))
 (.reg [Qa 17 8,
 Qx 18 17 1,
 Qb 8 18])))
def i9_:AFn:=⟨33,λs=>List.contains [0,1,2,6,7,8,12,16,32] s,(.seq (.reg [Qv 6 false])
 (.seq (.seq (.reg [Qa 9 0,
 ⟨.tmp 10,.r (.len (.tmp 9)),none⟩,
 Qa 11 1,
 ⟨.loc 12,.r (.bin .gtr (.tmp 10) (.tmp 11)),none⟩])
 (.cond (.loc 12) (.seq (.reg [Qv 6 true])
 .ret)
 .skip))
 (.seq (.reg [Qh 7 0])
 (.seq (.seq (.reg [Qh 8 0])
 (.block 0 (.loop (v8_))))
 (.seq (.reg [Qv 6 false])
 .ret))))),[(.tmp (.loc 6))]⟩
def o4_ (f0:FuncId):AFn:=⟨19,λs=>List.contains [0,1,2,3,6] s,(.seq (.reg [Qk 3 0,
 Qv 6 false])
 (.seq (.reg [Qe 7 15 3,
 Qd 8 1 7,
 Qa 9 1,
 Qa 10 2,
 ⟨.tmp 11,.call f0 [.tmp 8,.tmp 9,.tmp 10],none⟩,
 Qc 12 11,
 Qr 13 16 3 12 false,
 Qq 14 1 13 12 false,
 ⟨.tmp 15,.r (.len (.tmp 14)),some (.tmp 12,false)⟩,
 Qp 16 2 12 false,
 ⟨.tmp 17,.r (.bin .gtr (.tmp 15) (.tmp 16)),some (.tmp 12,false)⟩,
 Qt 18 12 17,
 Qb 6 18])
 .ret)),[(.tmp (.loc 6))]⟩
def m9_ (f0 f1:FuncId):AFn:=⟨26,λs=>List.contains [0,1,2,3,6] s,(.seq (.reg [Qk 3 0,
 Qv 6 false])
 (.seq (.reg [Qe 7 3 3,
 Qf 8 2 7,
 Qd 9 1 8,
 Qa 10 1,
 Qa 11 2,
 ⟨.tmp 12,.call f0 [.tmp 9,.tmp 10,.tmp 11],none⟩,
 Qc 13 12,
 Qr 14 6 3 13 false,
 ⟨.tmp 15,.r (.load true 3 (.tmp 14)),some (.tmp 13,false)⟩,
 Qp 16 1 13 false,
 ⟨.tmp 17,.call f1 [.tmp 15,.tmp 16],some (.tmp 13,false)⟩,
 Qt 18 13 17,
 Qc 19 18,
 Qr 20 9 3 19 false,
 Qq 21 1 20 19 false,
 ⟨.tmp 22,.r (.len (.tmp 21)),some (.tmp 19,false)⟩,
 Qp 23 2 19 false,
 ⟨.tmp 24,.r (.bin .gtr (.tmp 22) (.tmp 23)),some (.tmp 19,false)⟩,
 Qt 25 19 24,
 Qb 6 25])
 .ret)),[(.tmp (.loc 6))]⟩
def n0_:AFn:=⟨24,λs=>List.contains [0,1,2,4] s,(.seq (.reg [Qk 2 0,
 Qv 4 false])
 (.seq (.reg [Qe 5 0 2,
 Qd 6 1 5,
 ⟨.tmp 7,.r (.len (.tmp 6)),none⟩,
 Qa 8 1,
 ⟨.tmp 9,.r (.bin .gtr (.tmp 7) (.tmp 8)),none⟩,
 Qc 10 9,
 Qr 11 1 2 10 false,
 Qq 12 1 11 10 false,
 ⟨.tmp 13,.r (.len (.tmp 12)),some (.tmp 10,false)⟩,
 Qp 14 1 10 false,
 ⟨.tmp 15,.r (.bin .gtr (.tmp 13) (.tmp 14)),some (.tmp 10,false)⟩,
 Qt 16 10 15,
 Qc 17 16,
 Qr 18 2 2 17 false,
 Qq 19 1 18 17 false,
 ⟨.tmp 20,.r (.len (.tmp 19)),some (.tmp 17,false)⟩,
 Qp 21 1 17 false,
 ⟨.tmp 22,.r (.bin .gtr (.tmp 20) (.tmp 21)),some (.tmp 17,false)⟩,
 Qt 23 17 22,
 Qb 4 23])
 .ret)),[(.tmp (.loc 4))]⟩
end Glb
