/-
  A group's log behind entries that are laid: what stands there.
-/
import Derived.Test.YtdeiamnhnfmilaaGreatGlbLogA
set_option linter.unusedSimpArgs false
set_option linter.unusedVariables false
set_option maxRecDepth 10000
namespace Glb
open Go
theorem oX {l:fE}{i:Int}:l.aD i=true↔l.aA<=i/\i<=l.aC:=by simp[fE.aD]
theorem KA (l:fE):∀(e:List gj)(i:Int)(j:Nat)(hj:j<e.length),j<l.aJ i e->l.aD (i+j)=true/\l.aG (i+j)=e[j].aB:=by
 intro e;induction e with
 | nil=>intro i j hj;simp at hj
 | cons x r ih=>
  intro i j hj h;simp only[fE.aJ]at h;split at h;next c=>
   cases j with
   | zero=>simpa using c
   | succ j=>have:=ih (i+1) j (by simpa using hj) (by omega);rw[show i+((j+1:Nat):Int)=i+1+(j:Int) by omega];simpa using this
  ·omega
theorem CG {l:fE}{p:Int}{e:List gj}(hp:l.aD p=true)(h:l.aJ (p+1) e<e.length):
  l.aF p e=⟨l.aA,l.aB,l.es.take (p+l.aJ (p+1) e-l.aA).toNat++e.drop (l.aJ (p+1) e)⟩/\l.aI p e=p+1+l.aJ (p+1) e:=by simp[fE.aF,fE.aI,h,hp]
theorem CF (l:fE)(p:Int)(e:List gj):(l.aF p e).aA=l.aA/\(l.aF p e).aB=l.aB:=by simp only[fE.aF];split<;>exact⟨rfl,rfl⟩
theorem EL {l:fE}{p:Int}{e:List gj}(hp:l.aD p=true):p+l.aJ (p+1) e<=l.aC:=by
 by_cases h0:l.aJ (p+1) e=0
 ·have:=oX.1 hp;omega
 ·have hle:=EM l e (p+1);have:=(KA l e (p+1) (l.aJ (p+1) e-1) (by omega) (by omega)).1;have:=oX.1 this;omega
theorem Pv {l:fE}{p:Int}{e:List gj}(hp:l.aD p=true)(h:l.aJ (p+1) e<e.length):(l.aF p e).aC=p+e.length:=by have h1:=oX.1 hp;have h2:=EL (e:=e) hp;rw[(CG hp h).1];simp only[fE.aC,Vj,Vw,VA]at *;omega
end Glb
