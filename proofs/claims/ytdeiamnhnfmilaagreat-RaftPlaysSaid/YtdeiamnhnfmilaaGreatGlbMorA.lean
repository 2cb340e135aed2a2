/-
  A library of its own.
-/
import Derived.Test.YtdeiamnhnfmilaaGreatGlbLibE
set_option linter.unusedSimpArgs false
set_option linter.unusedVariables false
namespace Glb
open Go
theorem RD (g:fJ->AV)(h:eZ)(f:FuncId)(fs cs:List fJ):gB g h (.x (.aC f fs cs))=some (.aM f (fs.map g) (cs.map g)):=Vn rfl rfl
theorem OL (i n:Nat)(b:fh)(r:List (Nat×Nat×fh))(h:eZ):jK ((i,n,b) :: r) h=jK r (h.set n none):=Vn rfl rfl
theorem Tr (i n:Nat)(b:fh)(r:List (Nat×Nat×fh))(h:eZ):jG ((i,n,b) :: r) h=(jG r h).set n (some b):=Vn rfl rfl
theorem Mj:decide False=false:=rfl
theorem P7 (n k sz i o:Nat):gN (n+1) k (.aC n sz i o)=true:=by simp[gN]
theorem P8 (n k sz i o:Nat):gN (n+1+1) k (.aC n sz i o)=true:=by simp[gN];omega
theorem P9 (n k sz i o:Nat):gN (n+1+1+1) k (.aC n sz i o)=true:=by simp[gN];omega
theorem P_ (n k sz i o:Nat):gN (n+1+1+1) k (.aC (n+1) sz i o)=true:=by simp[gN]
attribute [go_sem] P7 P8 P9 P_ true_and RD OL Tr Mj
end Glb
