/-
  A group's log behind entries that are laid: what stands there.
-/
import Derived.Test.YtdeiamnhnfmilaaGreatGlbLogA
set_option linter.unusedSimpArgs false
set_option linter.unusedVariables false
set_option maxRecDepth 10000
namespace Glb
open Go
theorem N6_ {l:Log}{i:Int}:l.has i=true↔l.base<=i/\i<=l.last:=by simp[Log.has]
theorem u_y (l:Log):∀(e:List e0_)(i:Int)(j:Nat)(hj:j<e.length),j<l.agree i e->l.has (i+j)=true/\l.term (i+j)=e[j].term:=by
 intro e
 induction e with
 | nil=>intro i j hj;simp at hj
 | cons x r ih=>
  intro i j hj h
  simp only[Log.agree]at h
  split at h
  next c=>
   cases j with
   | zero=>simpa using c
   | succ j=>
    have:=ih (i+1) j (by simpa using hj) (by omega)
    rw[show i+((j+1:Nat):Int)=i+1+(j:Int) by omega]
    simpa using this
  ·omega
theorem g_m {l:Log}{p:Int}{e:List e0_}(hp:l.has p=true)(h:l.agree (p+1) e<e.length):
  l.laid p e=⟨l.base,l.bterm,l.es.take (p+l.agree (p+1) e-l.base).toNat++e.drop (l.agree (p+1) e)⟩/\l.laidAt p e=p+1+l.agree (p+1) e:=by simp[Log.laid,Log.laidAt,h,hp]
theorem c_8 (l:Log)(p:Int)(e:List e0_):(l.laid p e).base=l.base/\(l.laid p e).bterm=l.bterm:=by
 simp only[Log.laid];split<;>exact⟨rfl,rfl⟩
theorem n_7 {l:Log}{p:Int}{e:List e0_}(hp:l.has p=true):p+l.agree (p+1) e<=l.last:=by
 by_cases h0:l.agree (p+1) e=0
 ·have:=N6_.1 hp;omega
 ·have hle:=n_5 l e (p+1)
  have:=(u_y l e (p+1) (l.agree (p+1) e-1) (by omega) (by omega)).1
  have:=N6_.1 this
  omega
theorem t_c {l:Log}{p:Int}{e:List e0_}(hp:l.has p=true)(h:l.agree (p+1) e<e.length):(l.laid p e).last=p+e.length:=by
 have h1:=N6_.1 hp
 have h2:=n_7 (e:=e) hp
 rw[(g_m hp h).1]
 simp only[Log.last,J_z,K_i,K_o]at *
 omega
end Glb
