/-
  A library of its own.
-/
import Derived.Test.YtdeiamnhnfmilaaGreatGlbKitB
set_option linter.unusedSimpArgs false
set_option linter.unusedVariables false
namespace Glb
open Go
theorem ir {d:List D}{t:Ty}{ts:List Ty}(h:iw d (t :: ts)):∃x r,d=x :: r/\jv x t/\iw r ts:=by
 cases d with
 | nil=>simp[iw]at h
 | cons x r=>simp only[iw]at h;obtain⟨_,_,e,h1,h2⟩:=h;cases e;exact⟨x,r,rfl,h1,h2⟩
theorem qh {d:List D} (h:iw d []):d=[]:=by
 cases d with
 | nil=>rfl
 | cons x r=>simp[iw]at h
theorem jg {x:D}{k:IntKind}(h:jv x (.aA k)):∃n,x=.aA k n/\(Lit.int k n).wf=true:=by
 cases x with
 | aA k' n=>simp only[jv]at h;obtain⟨e,h⟩:=h;cases e;exact⟨n,rfl,h⟩
 | aD b=>simp[jv]at h
 | aE s=>simp[jv]at h
 | sl sz es=>simp[jv]at h
theorem Jv {x:D}(h:jv x .aB):∃b,x=.aD b:=by
 cases x with
 | aA k' n=>simp[jv]at h
 | aD b=>exact⟨b,rfl⟩
 | aE s=>simp[jv]at h
 | sl sz es=>simp[jv]at h
theorem vM {x:D}{sz:Nat}{ts:List Ty}(h:jv x (.sl sz ts)):∃es,x=.sl sz es/\rB es ts:=by
 cases x with
 | aA k' n=>simp[jv]at h
 | aD b=>simp[jv]at h
 | aE s=>simp[jv]at h
 | sl sz' es=>simp only[jv]at h;obtain⟨_,e,h⟩:=h;cases e;exact⟨es,rfl,h⟩
theorem yp {b:List (List D)}{s:Bool×List Ty}{r:List (Bool×List Ty)}(h:nK b (s :: r)):∃d q,b=d :: q/\iw d s.2/\nK q r:=by
 cases b with
 | nil=>simp[nK]at h
 | cons d q=>simp only[nK]at h;obtain⟨_,_,e,h1,h2⟩:=h;cases e;exact⟨d,q,rfl,h1,h2⟩
theorem Js {b:List (List D)} (h:nK b []):b=[]:=by
 cases b with
 | nil=>rfl
 | cons d q=>simp[nK]at h
theorem Nw {d:List D} (h:iw d [.aA .i64]):∃n,d=[.aA .i64 n]:=by obtain⟨x,r,rfl,h1,h2⟩:=ir h;obtain⟨n,rfl,_⟩:=jg h1;cases qh h2;exact⟨n,rfl⟩
def uq:List Ty:=[.aA .i64,.aA .i64,.sl 1 [.aA .u8]]
end Glb
