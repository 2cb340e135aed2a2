/-
  A library of its own.
-/
import Derived.Test.YtdeiamnhnfmilaaGreatGlbKitC
set_option linter.unusedSimpArgs false
set_option linter.unusedVariables false
set_option maxRecDepth 10000
set_option maxHeartbeats 16000000
namespace Glb
open Go
theorem kv.lo {lo e:Nat}{h:eX}{sz:Nat}{a:AV}{es:List (List AV)}(ho:kv lo h sz a es)(hl:e<=lo):kv e h sz a es:=by
 rcases ho with ho | ⟨n,off,cap,row,g,h1,h2,h3⟩;·exact .inl ho
 ·exact .inr ⟨n,off,cap,row,g,h1,Vh hl h2,h3⟩
def wK (o n:Nat)(agg:Bool):AV->Option AV
 | .aF cs=>if agg then (if o+n<=cs.length then some (.aF ((cs.drop o).take n)) else none) else cs[o]?
 | _=>none
theorem Ro (g:fE->AV)(h:eX)(o n:Nat)(agg:Bool)(x:fE):gG g h (.x (.aE o n agg x))=wK o n agg (g x):=by simp only[gG,lR,wK];cases g x<;>rfl
theorem J3 (o n:Nat)(cs:List AV):wK o n false (.aF cs)=cs[o]?:=Vc rfl rfl
theorem JZ (o n:Nat)(cs:List AV):wK o n true (.aF cs)=if o+n<=cs.length then some (.aF ((cs.drop o).take n)) else none:=Vc rfl rfl
attribute [go_sem] Ro J3 JZ
end Glb
