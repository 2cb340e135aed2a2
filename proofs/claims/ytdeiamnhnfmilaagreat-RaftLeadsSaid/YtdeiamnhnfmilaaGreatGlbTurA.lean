/-
  A library of its own.
-/
import Derived.Test.YtdeiamnhnfmilaaGreatGlbKitC
set_option linter.unusedSimpArgs false
set_option linter.unusedVariables false
set_option maxRecDepth 10000
set_option maxHeartbeats 16000000
namespace Glb
open Go
theorem lK.lo {lo e:Nat}{h:fu}{sz:Nat}{a:AV}{es:List (List AV)}(ho:lK lo h sz a es)(hl:e<=lo):lK e h sz a es:=by
 rcases ho with ho | ⟨n,off,cap,row,g,h1,h2,h3⟩;·exact .inl ho
 ·exact .inr ⟨n,off,cap,row,g,h1,Xg hl h2,h3⟩
def yd (o n:Nat)(agg:Bool):AV->Option AV
 | .aF cs=>if agg then (if o+n<=cs.length then some (.aF ((cs.drop o).take n)) else none) else cs[o]?
 | _=>none
theorem Tv (g:fN->AV)(h:fu)(o n:Nat)(agg:Bool)(x:fN):gM g h (.x (.aE o n agg x))=yd o n agg (g x):=by simp only[gM,mP,yd];cases g x<;>rfl
theorem Lq (o n:Nat)(cs:List AV):yd o n false (.aF cs)=cs[o]?:=W_ rfl rfl
theorem Lp (o n:Nat)(cs:List AV):yd o n true (.aF cs)=if o+n<=cs.length then some (.aF ((cs.drop o).take n)) else none:=W_ rfl rfl
attribute [go_sem] Tv Lq Lp
end Glb
