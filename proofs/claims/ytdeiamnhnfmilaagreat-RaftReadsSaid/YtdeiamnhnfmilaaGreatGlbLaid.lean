/-
  A group's log behind entries that are laid: what stands there.
-/
import Derived.Test.YtdeiamnhnfmilaaGreatGlbLogA
set_option linter.unusedSimpArgs false
set_option linter.unusedVariables false
set_option maxRecDepth 10000
namespace Glb
open Go
theorem lL {l:fu}{i:Int}:l.aF i=true↔l.aA<=i/\i<=l.aC:=by simp[fu.aF]
theorem D8 (l:fu):∀(e:List fT)(i:Int)(j:Nat)(hj:j<e.length),j<l.aG i e->l.aF (i+j)=true/\l.aJ (i+j)=e[j].aA:=by
 intro e;induction e with
 | nil=>intro i j hj;simp at hj
 | cons x r ih=>
  intro i j hj h;simp only[fu.aG]at h;split at h;next c=>
   cases j with
   | zero=>simpa using c
   | succ j=>have:=ih (i+1) j (by simpa using hj) (by omega);rw[show i+((j+1:Nat):Int)=i+1+(j:Int) by omega];simpa using this
  ·omega
theorem NO {l:fu}{p:Int}{e:List fT}(h:l.aG (p+1) e=e.length):l.aE p e=l/\l.aH p e=0:=by simp[fu.aE,fu.aH,h]
theorem uZ {l:fu}{p:Int}{e:List fT}(hp:l.aF p=true)(h:l.aG (p+1) e<e.length):
  l.aE p e=⟨l.aA,l.aD,l.es.take (p+l.aG (p+1) e-l.aA).toNat++e.drop (l.aG (p+1) e)⟩/\l.aH p e=p+1+l.aG (p+1) e:=by simp[fu.aE,fu.aH,h,hp]
theorem n7 (l:fu)(p:Int)(e:List fT):(l.aE p e).aA=l.aA/\(l.aE p e).aD=l.aD:=by simp only[fu.aE];split<;>exact⟨rfl,rfl⟩
theorem wy {l:fu}{p:Int}{e:List fT}(hp:l.aF p=true):p+l.aG (p+1) e<=l.aC:=by
 by_cases h0:l.aG (p+1) e=0
 ·have:=lL.1 hp;omega
 ·have hle:=wB l e (p+1);have:=(D8 l e (p+1) (l.aG (p+1) e-1) (by omega) (by omega)).1;have:=lL.1 this;omega
theorem BZ {l:fu}{p:Int}{e:List fT}(hp:l.aF p=true)(h:l.aG (p+1) e<e.length):(l.aE p e).aC=p+e.length:=by have h1:=lL.1 hp;have h2:=wy (e:=e) hp;rw[(uZ hp h).1];simp only[fu.aC,Ut,UD,UP]at *;omega
end Glb
