/-
  A library of its own.
-/
import Derived.Test.YtdeiamnhnfmilaaGreatGlbLibE
set_option linter.unusedSimpArgs false
set_option linter.unusedVariables false
namespace Glb
open Go
theorem QF (g:fB->AV)(h:eW)(f:FuncId)(fs cs:List fB):gx g h (.x (.aC f fs cs))=some (.aL f (fs.map g) (cs.map g)):=UE rfl rfl
theorem pH (i n:Nat)(b:e_)(r:List (Nat×Nat×e_))(h:eW):kl ((i,n,b) :: r) h=kl r (h.set n none):=UE rfl rfl
theorem na (i n:Nat)(b:e_)(r:List (Nat×Nat×e_))(h:eW):j_ ((i,n,b) :: r) h=(j_ r h).set n (some b):=UE rfl rfl
theorem Lk:decide False=false:=rfl
theorem OF (n k sz i o:Nat):gW (n+1) k (.aC n sz i o)=true:=by simp[gW]
theorem OG (n k sz i o:Nat):gW (n+1+1) k (.aC n sz i o)=true:=by simp[gW];omega
theorem OH (n k sz i o:Nat):gW (n+1+1+1) k (.aC n sz i o)=true:=by simp[gW];omega
theorem OI (n k sz i o:Nat):gW (n+1+1+1) k (.aC (n+1) sz i o)=true:=by simp[gW]
attribute [go_sem] OF OG OH OI true_and QF pH na Lk
end Glb
