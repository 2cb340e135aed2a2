/-
  A library of its own.
-/
import Derived.Test.YtdeiamnhnfmilaaGreatGlbKitB
set_option linter.unusedSimpArgs false
set_option linter.unusedVariables false
namespace Glb
open Go
theorem xE {d:List D}{t:Ty}{ts:List Ty}(h:jF d (t :: ts)):∃x r,d=x :: r/\mu x t/\jF r ts:=by
 cases d with
 | nil=>simp[jF]at h
 | cons x r=>simp only[jF]at h;obtain⟨_,_,e,h1,h2⟩:=h;cases e;exact⟨x,r,rfl,h1,h2⟩
theorem Fu {d:List D} (h:jF d []):d=[]:=by
 cases d with
 | nil=>rfl
 | cons x r=>simp[jF]at h
theorem Ak {x:D}{k:IntKind}(h:mu x (.aA k)):∃n,x=.aA k n/\(Lit.int k n).wf=true:=by
 cases x with
 | aA k' n=>simp only[mu]at h;obtain⟨e,h⟩:=h;cases e;exact⟨n,rfl,h⟩
 | aE b=>simp[mu]at h
 | aF s=>simp[mu]at h
 | sl sz es=>simp[mu]at h
theorem KL {x:D}{sz:Nat}{ts:List Ty}(h:mu x (.sl sz ts)):∃es,x=.sl sz es/\tY es ts:=by
 cases x with
 | aA k' n=>simp[mu]at h
 | aE b=>simp[mu]at h
 | aF s=>simp[mu]at h
 | sl sz' es=>simp only[mu]at h;obtain⟨_,e,h⟩:=h;cases e;exact⟨es,rfl,h⟩
theorem KF {u:List (List D)}{s:Bool×List Ty}{r:List (Bool×List Ty)}(h:pI u (s :: r)):∃d q,u=d :: q/\jF d s.2/\pI q r:=by
 cases u with
 | nil=>simp[pI]at h
 | cons d q=>simp only[pI]at h;obtain⟨_,_,e,h1,h2⟩:=h;cases e;exact⟨d,q,rfl,h1,h2⟩
theorem KG {e:List (List D)} (h:pI e []):e=[]:=by
 cases e with
 | nil=>rfl
 | cons d q=>simp[pI]at h
end Glb
