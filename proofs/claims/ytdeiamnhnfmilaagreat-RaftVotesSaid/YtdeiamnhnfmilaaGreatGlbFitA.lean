/-
  A library of its own.
-/
import Derived.Test.YtdeiamnhnfmilaaGreatGlbKitB
set_option linter.unusedSimpArgs false
set_option linter.unusedVariables false
namespace Glb
open Go
theorem c1_ {d:List D}{t:Ty}{ts:List Ty}(h:s8_ d (t :: ts)):∃x r,d=x :: r/\b_0 x t/\s8_ r ts:=by
 cases d with
 | nil=>simp[s8_]at h
 | cons x r=>
  simp only[s8_]at h
  obtain⟨_,_,e,h1,h2⟩:=h
  cases e
  exact⟨x,r,rfl,h1,h2⟩
theorem J1_ {d:List D} (h:s8_ d []):d=[]:=by
 cases d with
 | nil=>rfl
 | cons x r=>simp[s8_]at h
theorem h7_ {x:D}{k:IntKind}(h:b_0 x (.int k)):∃n,x=.int k n/\(Lit.int k n).wf=true:=by
 cases x with
 | int k' n=>simp only[b_0]at h;obtain⟨e,h⟩:=h;cases e;exact⟨n,rfl,h⟩
 | bool b=>simp[b_0]at h
 | str s=>simp[b_0]at h
 | sl sz es=>simp[b_0]at h
theorem v_g {x:D}(h:b_0 x .bool):∃b,x=.bool b:=by
 cases x with
 | int k' n=>simp[b_0]at h
 | bool b=>exact⟨b,rfl⟩
 | str s=>simp[b_0]at h
 | sl sz es=>simp[b_0]at h
theorem h_o {x:D}{sz:Nat}{ts:List Ty}(h:b_0 x (.sl sz ts)):∃es,x=.sl sz es/\f_w es ts:=by
 cases x with
 | int k' n=>simp[b_0]at h
 | bool b=>simp[b_0]at h
 | str s=>simp[b_0]at h
 | sl sz' es=>
  simp only[b_0]at h
  obtain⟨_,e,h⟩:=h
  cases e
  exact⟨es,rfl,h⟩
theorem b_e {dss:List (List D)}{s:Bool×List Ty}{r:List (Bool×List Ty)}(h:H3_ dss (s :: r)):∃d q,dss=d :: q/\s8_ d s.2/\H3_ q r:=by
 cases dss with
 | nil=>simp[H3_]at h
 | cons d q=>
  simp only[H3_]at h
  obtain⟨_,_,e,h1,h2⟩:=h
  cases e
  exact⟨d,q,rfl,h1,h2⟩
theorem m_8 {dss:List (List D)} (h:H3_ dss []):dss=[]:=by
 cases dss with
 | nil=>rfl
 | cons d q=>simp[H3_]at h
def g_0:List Ty:=[.int .i64,.int .i64,.sl 1 [.int .u8]]
end Glb
