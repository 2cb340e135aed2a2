/-
  A group's log behind entries that are laid: what stands there.
-/
import Derived.Test.YtdeiamnhnfmilaaGreatGlbLogA
set_option linter.unusedSimpArgs false
set_option linter.unusedVariables false
set_option maxRecDepth 10000
namespace Glb
open Go
theorem ky {l:fA}{i:Int}:l.aF i=true↔l.aA<=i/\i<=l.aC:=by simp[fA.aF]
theorem EL (l:fA):∀(e:List fU)(i:Int)(j:Nat)(hj:j<e.length),j<l.aG i e->l.aF (i+j)=true/\l.aH (i+j)=e[j].aA:=by
 intro e;induction e with
 | nil=>intro i j hj;simp at hj
 | cons x r ih=>
  intro i j hj h;simp only[fA.aG]at h;split at h;next c=>
   cases j with
   | zero=>simpa using c
   | succ j=>have:=ih (i+1) j (by simpa using hj) (by omega);rw[show i+((j+1:Nat):Int)=i+1+(j:Int) by omega];simpa using this
  ·omega
theorem OB {l:fA}{p:Int}{e:List fU}(h:l.aG (p+1) e=e.length):l.aE p e=l/\l.aI p e=0:=by simp[fA.aE,fA.aI,h]
theorem vh {l:fA}{p:Int}{e:List fU}(hp:l.aF p=true)(h:l.aG (p+1) e<e.length):
  l.aE p e=⟨l.aA,l.aD,l.es.take (p+l.aG (p+1) e-l.aA).toNat++e.drop (l.aG (p+1) e)⟩/\l.aI p e=p+1+l.aG (p+1) e:=by simp[fA.aE,fA.aI,h,hp]
theorem nZ (l:fA)(p:Int)(e:List fU):(l.aE p e).aA=l.aA/\(l.aE p e).aD=l.aD:=by simp only[fA.aE];split<;>exact⟨rfl,rfl⟩
theorem wL {l:fA}{p:Int}{e:List fU}(hp:l.aF p=true):p+l.aG (p+1) e<=l.aC:=by
 by_cases h0:l.aG (p+1) e=0
 ·have:=ky.1 hp;omega
 ·have hle:=wM l e (p+1);have:=(EL l e (p+1) (l.aG (p+1) e-1) (by omega) (by omega)).1;have:=ky.1 this;omega
theorem Cu {l:fA}{p:Int}{e:List fU}(hp:l.aF p=true)(h:l.aG (p+1) e<e.length):(l.aE p e).aC=p+e.length:=by have h1:=ky.1 hp;have h2:=wL (e:=e) hp;rw[(vh hp h).1];simp only[fA.aC,U1,Va,Vo]at *;omega
end Glb
