/-
  How far a member is: the program's functions and the document's answer so.
-/
import Derived.Test.YtdeiamnhnfmilaaGreatGlbKitA
import Derived.Test.YtdeiamnhnfmilaaGreatGlbCflow
set_option linter.unusedSimpArgs false
set_option linter.unusedVariables false
set_option maxRecDepth 10000
set_option maxHeartbeats 4000000
open Nat (reduceAdd reduceEqDiff reduceLeDiff)
namespace Glb
open Go
structure j2_ where
 node:Int
 next:Int
 mat:Int
 round:Int
 deriving DecidableEq
def j2_.c (f:j2_):List D:=[.int .i64 f.node,.int .i64 f.next,.int .i64 f.mat,.int .i64 f.round]
def j2_.cells (f:j2_):List AV:=[.int .i64 f.node,.int .i64 f.next,.int .i64 f.mat,.int .i64 f.round]
def j2_.heard (f:j2_)(m:Msg):j2_:=
 if m.kind=4/\m.from_=f.node then
  if m.ok=true then ⟨f.node,max f.next (max f.mat m.index+1),max f.mat m.index,max f.round m.round⟩
  else ⟨f.node,max (f.mat+1) (min (f.next-1) (m.index+1)),f.mat,f.round⟩
 else f
def j2_.placed (f:j2_):Prop:=(0<=f.node/\0<=f.next/\0<=f.mat)/\f.node<=2^42/\f.next<=2^42/\f.mat<=2^42
theorem h_8 (n:Nat)(f:j2_):(AV.agg f.cells).upto n=true:=by simp only[j2_.cells,AV.upto,AV.uptoL,Bool.and_self]
def m_6 (P:Program)(f:FuncId):Prop:=
 f2_ P f=true/\∀(F:Nat->Prop)(h:a0_)(w:j2_)(m:Msg)(a:List AV),RdL F h m.c a->w.placed->0<=m.index/\m.index<=2^40->
  a6_ P f [.agg w.cells,.agg a] h λr h'=>r=.agg (w.heard m).cells/\h'=h
theorem g_y {P:Program}{f:FuncId}(hf:Is P f z9_):m_6 P f:=by
 refine⟨hf.2,λF h w m a hm hw hi=>obs (h_8 _ _) (a4_ hf.1 (J_y rfl) ?_)⟩
 show vc P z9_.code ⟨[(0,.agg w.cells),(1,.agg a)],[],h⟩ (b2_ z9_.res _)
 obtain⟨e,d,rfl,he,hd⟩:=y_d hm
 obtain⟨⟨w1,w2,w3⟩,w5,w6,w7⟩:=hw
 have e1:IntKind.i64.wrap (max w.mat m.index+1)=max w.mat m.index+1:=a7_ (by omega)
 have e2:IntKind.i64.wrap (w.mat+1)=w.mat+1:=a7_ (by omega)
 have e3:IntKind.i64.wrap (w.next-1)=w.next-1:=a7_ (by omega)
 have e4:IntKind.i64.wrap (m.index+1)=m.index+1:=a7_ (by omega)
 simp only[z9_,Msg.cells,j2_.cells,go_sem,reduceEqDiff,reduceAdd,he.scalar,hd.scalar]
 by_cases c1:m.kind=4
 ·by_cases c2:m.from_=w.node
  ·cases c3:m.ok
   ·simp only[go_sem,reduceEqDiff,reduceAdd,reduceLeDiff,decide_eq_true c1,decide_eq_true c2,K_l,F2_,W7_,K1_,e2,e3,e4]
    exact⟨by simp[j2_.heard,c1,c2,c3],Ext.b3 _ _ _⟩
   ·simp only[go_sem,reduceEqDiff,reduceAdd,reduceLeDiff,decide_eq_true c1,decide_eq_true c2,K_l,F2_,W7_,e1]
    exact⟨by simp[j2_.heard,c1,c2,c3],Ext.b3 _ _ _⟩
  ·simp only[go_sem,reduceEqDiff,reduceAdd,reduceLeDiff,decide_eq_true c1,decide_eq_false c2,K_l]
   exact⟨by simp[j2_.heard,c1,c2],Ext.b3 _ _ _⟩
 ·simp only[go_sem,reduceEqDiff,reduceAdd,reduceLeDiff,decide_eq_false c1]
  exact⟨by simp[j2_.heard,c1],Ext.b3 _ _ _⟩
end Glb
