/-
  A library of its own.
-/
import Derived.Test.YtdeiamnhnfmilaaGreatGlbKitB
set_option linter.unusedSimpArgs false
set_option linter.unusedVariables false
namespace Glb
open Go
theorem vT {d:List D}{t:Ty}{ts:List Ty}(h:iY d (t :: ts)):∃x r,d=x :: r/\lA x t/\iY r ts:=by
 cases d with
 | nil=>simp[iY]at h
 | cons x r=>simp only[iY]at h;obtain⟨_,_,e,h1,h2⟩:=h;cases e;exact⟨x,r,rfl,h1,h2⟩
theorem Dl {d:List D} (h:iY d []):d=[]:=by
 cases d with
 | nil=>rfl
 | cons x r=>simp[iY]at h
theorem yv {x:D}{k:IntKind}(h:lA x (.aA k)):∃n,x=.aA k n/\(Lit.int k n).wf=true:=by
 cases x with
 | aA k' n=>simp only[lA]at h;obtain⟨e,h⟩:=h;cases e;exact⟨n,rfl,h⟩
 | aE b=>simp[lA]at h
 | aF s=>simp[lA]at h
 | sl sz es=>simp[lA]at h
theorem IA {x:D}{sz:Nat}{ts:List Ty}(h:lA x (.sl sz ts)):∃es,x=.sl sz es/\sw es ts:=by
 cases x with
 | aA k' n=>simp[lA]at h
 | aE b=>simp[lA]at h
 | aF s=>simp[lA]at h
 | sl sz' es=>simp only[lA]at h;obtain⟨_,e,h⟩:=h;cases e;exact⟨es,rfl,h⟩
theorem Iv {u:List (List D)}{s:Bool×List Ty}{r:List (Bool×List Ty)}(h:oq u (s :: r)):∃d q,u=d :: q/\iY d s.2/\oq q r:=by
 cases u with
 | nil=>simp[oq]at h
 | cons d q=>simp only[oq]at h;obtain⟨_,_,e,h1,h2⟩:=h;cases e;exact⟨d,q,rfl,h1,h2⟩
theorem Iw {e:List (List D)} (h:oq e []):e=[]:=by
 cases e with
 | nil=>rfl
 | cons d q=>simp[oq]at h
end Glb
