/-
  A library of its own.
-/
import Derived.Test.YtdeiamnhnfmilaaGreatGlbKitC
set_option linter.unusedSimpArgs false
set_option linter.unusedVariables false
set_option maxRecDepth 10000
set_option maxHeartbeats 16000000
namespace Glb
open Go
theorem f_u.lo {lo lo':Nat}{h:a0_}{sz:Nat}{a:AV}{es:List (List AV)}(ho:f_u lo h sz a es)(hl:lo'<=lo):f_u lo' h sz a es:=by
 rcases ho with ho | ⟨n,off,cap,row,g,h1,h2,h3⟩
 ·exact .inl ho
 ·exact .inr ⟨n,off,cap,row,g,h1,K_e hl h2,h3⟩
def D_x (o n:Nat)(agg:Bool):AV->Option AV
 | .agg cs=>if agg then (if o+n<=cs.length then some (.agg ((cs.drop o).take n)) else none) else cs[o]?
 | _=>none
theorem z_7 (g:Opd->AV)(h:a0_)(o n:Nat)(agg:Bool)(x:Opd):rev g h (.x (.fld o n agg x))=D_x o n agg (g x):=by
 simp only[rev,xev,D_x]
 cases g x<;>rfl
theorem x_w (o n:Nat)(cs:List AV):D_x o n false (.agg cs)=cs[o]?:=Eq.trans rfl rfl
theorem x_x (o n:Nat)(cs:List AV):D_x o n true (.agg cs)=if o+n<=cs.length then some (.agg ((cs.drop o).take n)) else none:=Eq.trans rfl rfl
attribute [go_sem] z_7 x_w x_x
end Glb
