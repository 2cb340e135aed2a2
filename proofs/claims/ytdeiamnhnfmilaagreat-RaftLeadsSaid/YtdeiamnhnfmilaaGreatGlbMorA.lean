/-
  A library of its own.
-/
import Derived.Test.YtdeiamnhnfmilaaGreatGlbLibE
set_option linter.unusedSimpArgs false
set_option linter.unusedVariables false
namespace Glb
open Go
theorem To (g:fN->AV)(h:fu)(f:FuncId)(fs cs:List fN):gM g h (.x (.aC f fs cs))=some (.aL f (fs.map g) (cs.map g)):=W_ rfl rfl
theorem qC (i n:Nat)(b:fC)(r:List (Nat×Nat×fC))(h:fu):kV ((i,n,b) :: r) h=kV r (h.set n none):=W_ rfl rfl
theorem nX (i n:Nat)(b:fC)(r:List (Nat×Nat×fC))(h:fu):kS ((i,n,b) :: r) h=(kS r h).set n (some b):=W_ rfl rfl
theorem NQ:decide False=false:=rfl
theorem Ra (n k sz i o:Nat):ij (n+1) k (.aA n sz i o)=true:=by simp[ij]
theorem Rb (n k sz i o:Nat):ij (n+1+1) k (.aA n sz i o)=true:=by simp[ij];omega
theorem Rc (n k sz i o:Nat):ij (n+1+1+1) k (.aA n sz i o)=true:=by simp[ij];omega
theorem Re (n k sz i o:Nat):ij (n+1+1+1) k (.aA (n+1) sz i o)=true:=by simp[ij]
attribute [go_sem] Ra Rb Rc Re true_and To qC nX NQ
end Glb
