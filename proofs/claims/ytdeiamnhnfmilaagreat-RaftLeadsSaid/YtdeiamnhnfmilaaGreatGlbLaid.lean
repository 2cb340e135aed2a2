/-
  A group's log behind entries that are laid: what stands there.
-/
import Derived.Test.YtdeiamnhnfmilaaGreatGlbLogA
set_option linter.unusedSimpArgs false
set_option linter.unusedVariables false
set_option maxRecDepth 10000
namespace Glb
open Go
theorem lF {l:fG}{i:Int}:l.aF i=true↔l.aA<=i/\i<=l.aC:=by simp[fG.aF]
theorem Gf (l:fG):∀(e:List gw)(i:Int)(j:Nat)(hj:j<e.length),j<l.aG i e->l.aF (i+j)=true/\l.aJ (i+j)=e[j].aA:=by
 intro e;induction e with
 | nil=>intro i j hj;simp at hj
 | cons x r ih=>
  intro i j hj h;simp only[fG.aG]at h;split at h;next c=>
   cases j with
   | zero=>simpa using c
   | succ j=>have:=ih (i+1) j (by simpa using hj) ω;rw[show i+((j+1:Nat):Int)=i+1+(j:Int) by omega];simpa using this
  ·omega
theorem Qg {l:fG}{p:Int}{e:List gw}(h:l.aG (p+1) e=e.length):l.aE p e=l/\l.aI p e=0:=by simp[fG.aE,fG.aI,h]
theorem wJ {l:fG}{p:Int}{e:List gw}(hp:l.aF p=true)(h:l.aG (p+1) e<e.length):
  l.aE p e=⟨l.aA,l.aD,l.es.take (p+l.aG (p+1) e-l.aA).toNat++e.drop (l.aG (p+1) e)⟩/\l.aI p e=p+1+l.aG (p+1) e:=by simp[fG.aE,fG.aI,h,hp]
theorem pn (l:fG)(p:Int)(e:List gw):(l.aE p e).aA=l.aA/\(l.aE p e).aD=l.aD:=by simp only[fG.aE];split<;>exact⟨rfl,rfl⟩
theorem ye {l:fG}{p:Int}{e:List gw}(hp:l.aF p=true):p+l.aG (p+1) e<=l.aC:=by
 by_cases h0:l.aG (p+1) e=0
 ·have:=lF.1 hp;omega
 ·have hle:=yg l e (p+1);have:=(Gf l e (p+1) (l.aG (p+1) e-1) ω ω).1;have:=lF.1 this;omega
theorem DQ {l:fG}{p:Int}{e:List gw}(hp:l.aF p=true)(h:l.aG (p+1) e<e.length):(l.aE p e).aC=p+e.length:=by have h1:=lF.1 hp;have h2:=ye (e:=e) hp;rw[(wJ hp h).1];simp only[fG.aC,WT,W7,Xk]at *;omega
end Glb
