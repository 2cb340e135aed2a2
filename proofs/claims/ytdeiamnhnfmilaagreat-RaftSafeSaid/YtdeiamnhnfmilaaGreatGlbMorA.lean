/-
  A library of its own.
-/
import Derived.Test.YtdeiamnhnfmilaaGreatGlbLibE
set_option linter.unusedSimpArgs false
set_option linter.unusedVariables false
namespace Glb
open Go
theorem Rh (g:fE->AV)(h:eX)(f:FuncId)(fs cs:List fE):gG g h (.x (.aC f fs cs))=some (.aK f (fs.map g) (cs.map g)):=Vc rfl rfl
theorem pE (i n:Nat)(b:e_)(r:List (Nat×Nat×e_))(h:eX):ki ((i,n,b) :: r) h=ki r (h.set n none):=Vc rfl rfl
theorem mZ (i n:Nat)(b:e_)(r:List (Nat×Nat×e_))(h:eX):j9 ((i,n,b) :: r) h=(j9 r h).set n (some b):=Vc rfl rfl
theorem L6:decide False=false:=rfl
theorem Pt (n k sz i o:Nat):gN (n+1) k (.aC n sz i o)=true:=by simp[gN]
theorem Pu (n k sz i o:Nat):gN (n+1+1) k (.aC n sz i o)=true:=by simp[gN];omega
theorem Pv (n k sz i o:Nat):gN (n+1+1+1) k (.aC n sz i o)=true:=by simp[gN];omega
theorem Pw (n k sz i o:Nat):gN (n+1+1+1) k (.aC (n+1) sz i o)=true:=by simp[gN]
attribute [go_sem] Pt Pu Pv Pw true_and Rh pE mZ L6
end Glb
