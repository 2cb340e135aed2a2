/-
  A library of its own.
-/
import Derived.Test.YtdeiamnhnfmilaaGreatGlbKitC
set_option linter.unusedSimpArgs false
set_option linter.unusedVariables false
set_option maxRecDepth 10000
set_option maxHeartbeats 16000000
namespace Glb
open Go
theorem kJ.lo {lo e:Nat}{h:eW}{sz:Nat}{a:AV}{es:List (List AV)}(ho:kJ lo h sz a es)(hl:e<=lo):kJ e h sz a es:=by
 rcases ho with ho | ⟨n,off,cap,row,g,h1,h2,h3⟩;·exact .inl ho
 ·exact .inr ⟨n,off,cap,row,g,h1,UH hl h2,h3⟩
def wx (o n:Nat)(agg:Bool):AV->Option AV
 | .aF cs=>if agg then (if o+n<=cs.length then some (.aF ((cs.drop o).take n)) else none) else cs[o]?
 | _=>none
theorem QM (g:fB->AV)(h:eW)(o n:Nat)(agg:Bool)(x:fB):gx g h (.x (.aE o n agg x))=wx o n agg (g x):=by simp only[gx,l_,wx];cases g x<;>rfl
theorem Jf (o n:Nat)(cs:List AV):wx o n false (.aF cs)=cs[o]?:=UE rfl rfl
theorem Je (o n:Nat)(cs:List AV):wx o n true (.aF cs)=if o+n<=cs.length then some (.aF ((cs.drop o).take n)) else none:=UE rfl rfl
attribute [go_sem] QM Jf Je
end Glb
