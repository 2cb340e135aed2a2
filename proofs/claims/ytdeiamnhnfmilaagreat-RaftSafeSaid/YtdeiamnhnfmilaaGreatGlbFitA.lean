/-
  A library of its own.
-/
import Derived.Test.YtdeiamnhnfmilaaGreatGlbKitB
set_option linter.unusedSimpArgs false
set_option linter.unusedVariables false
namespace Glb
open Go
theorem uq {d:List D}{t:Ty}{ts:List Ty}(h:iZ d (t :: ts)):∃x r,d=x :: r/\kW x t/\iZ r ts:=by
 cases d with
 | nil=>simp[iZ]at h
 | cons x r=>simp only[iZ]at h;obtain⟨_,_,e,h1,h2⟩:=h;cases e;exact⟨x,r,rfl,h1,h2⟩
theorem yE {d:List D} (h:iZ d []):d=[]:=by
 cases d with
 | nil=>rfl
 | cons x r=>simp[iZ]at h
theorem vY {x:D}{k:IntKind}(h:kW x (.aA k)):∃n,x=.aA k n/\(Lit.int k n).wf=true:=by
 cases x with
 | aA k' n=>simp only[kW]at h;obtain⟨e,h⟩:=h;cases e;exact⟨n,rfl,h⟩
 | aE b=>simp[kW]at h
 | aF s=>simp[kW]at h
 | sl sz es=>simp[kW]at h
theorem Jn {x:D}{sz:Nat}{ts:List Ty}(h:kW x (.sl sz ts)):∃es,x=.sl sz es/\su es ts:=by
 cases x with
 | aA k' n=>simp[kW]at h
 | aE b=>simp[kW]at h
 | aF s=>simp[kW]at h
 | sl sz' es=>simp only[kW]at h;obtain⟨_,e,h⟩:=h;cases e;exact⟨es,rfl,h⟩
theorem DY {u:List (List D)}{s:Bool×List Ty}{r:List (Bool×List Ty)}(h:ou u (s :: r)):∃d q,u=d :: q/\iZ d s.2/\ou q r:=by
 cases u with
 | nil=>simp[ou]at h
 | cons d q=>simp only[ou]at h;obtain⟨_,_,e,h1,h2⟩:=h;cases e;exact⟨d,q,rfl,h1,h2⟩
theorem Jj {e:List (List D)} (h:ou e []):e=[]:=by
 cases e with
 | nil=>rfl
 | cons d q=>simp[ou]at h
theorem MI {d:List D} (h:iZ d [.aA .i64]):∃n,d=[.aA .i64 n]:=by obtain⟨x,r,rfl,h1,h2⟩:=uq h;obtain⟨n,rfl,_⟩:=vY h1;cases yE h2;exact⟨n,rfl⟩
end Glb
