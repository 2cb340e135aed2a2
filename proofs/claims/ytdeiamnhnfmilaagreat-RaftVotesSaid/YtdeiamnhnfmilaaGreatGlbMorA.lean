/-
  A library of its own.
-/
import Derived.Test.YtdeiamnhnfmilaaGreatGlbLibE
set_option linter.unusedSimpArgs false
set_option linter.unusedVariables false
namespace Glb
open Go
theorem w_n (g:Opd->AV)(h:a0_)(f:FuncId)(fs cs:List Opd):rev g h (.x (.bclo f fs cs))=some (.clo f (fs.map g) (cs.map g)):=Eq.trans rfl rfl
theorem t3_ (i n:Nat)(b:a5_)(r:List (Nat×Nat×a5_))(h:a0_):E9_ ((i,n,b) :: r) h=E9_ r (h.set n none):=Eq.trans rfl rfl
theorem k2_ (i n:Nat)(b:a5_)(r:List (Nat×Nat×a5_))(h:a0_):C5_ ((i,n,b) :: r) h=(C5_ r h).set n (some b):=Eq.trans rfl rfl
theorem g_4:decide False=false:=rfl
theorem A_r (n k sz i o:Nat):f0_ (n+1) k (.ptr n sz i o)=true:=by simp[f0_]
theorem w_0 (n k sz i o:Nat):f0_ (n+1+1) k (.ptr n sz i o)=true:=by simp[f0_];omega
theorem w_z (n k sz i o:Nat):f0_ (n+1+1+1) k (.ptr n sz i o)=true:=by simp[f0_];omega
theorem w_y (n k sz i o:Nat):f0_ (n+1+1+1) k (.ptr (n+1) sz i o)=true:=by simp[f0_]
attribute [go_sem] A_r w_0 w_z w_y true_and w_n t3_ k2_ g_4
end Glb
