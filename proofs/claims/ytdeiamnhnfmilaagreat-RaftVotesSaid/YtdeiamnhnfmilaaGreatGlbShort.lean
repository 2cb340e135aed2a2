/-
  Short names for what codes are made of most.
-/
import Derived.Test.YtdeiamnhnfmilaaGreatGlbLibB
import Derived.Attr
namespace Glb
open Go
def Qa (d:Nat)(s:Nat):AO:=⟨.tmp d,.r (.mov (.loc s)),none⟩
def Qb (d:Nat)(s:Nat):AO:=⟨.loc d,.r (.mov (.tmp s)),none⟩
def Qc (d:Nat)(s:Nat):AO:=⟨.tmp d,.r (.mov (.tmp s)),none⟩
def Qd (d:Nat)(n:Nat)(s:Nat):AO:=⟨.tmp d,.r (.load false n (.tmp s)),none⟩
def Qe (d:Nat)(o:Nat)(s:Nat):AO:=⟨.tmp d,.r (.off o (.loc s)),none⟩
def Qf (d:Nat)(o:Nat)(s:Nat):AO:=⟨.tmp d,.r (.off o (.tmp s)),none⟩
def Qg (d:Nat)(n:Nat)(s:Nat):AO:=⟨.tmp d,.r (.load true n (.loc s)),none⟩
def Qh (d:Nat)(i:Int):AO:=⟨.loc d,.r (.mov (.cst (.int .i64 i))),none⟩
def Qi (d:Nat)(s:Nat)(k:Nat):AO:=⟨.tmp d,.r (.ext (.tmp s) k),none⟩
def Qj (d:Nat)(s:Nat):AO:=⟨.tmp d,.r (.chk (.tmp s)),none⟩
def Qk (d:Nat)(s:Nat):AO:=⟨.loc d,.h (.box (.loc s)),none⟩
def Ql (n:Nat)(d:Nat)(s:Nat):AO:=⟨.none,.h (.store n (.loc d) (.tmp s)),none⟩
def Qm (n:Nat)(d:Nat)(s:Nat):AO:=⟨.none,.h (.store n (.tmp d) (.tmp s)),none⟩
def Qn (d:Nat)(f:FuncId)(s:Nat):AO:=⟨.tmp d,.call f [.tmp s],none⟩
def Qo (d:Nat)(f:FuncId)(s:Nat)(t:Nat):AO:=⟨.tmp d,.call f [.tmp s,.tmp t],none⟩
def Qp (d:Nat)(s:Nat)(g:Nat)(b:Bool):AO:=⟨.tmp d,.r (.mov (.loc s)),some (.tmp g,b)⟩
def Qq (d:Nat)(n:Nat)(s:Nat)(g:Nat)(b:Bool):AO:=⟨.tmp d,.r (.load false n (.tmp s)),some (.tmp g,b)⟩
def Qr (d:Nat)(o:Nat)(s:Nat)(g:Nat)(b:Bool):AO:=⟨.tmp d,.r (.off o (.loc s)),some (.tmp g,b)⟩
def Qs (d:Nat)(o:Nat)(s:Nat)(g:Nat)(b:Bool):AO:=⟨.tmp d,.r (.off o (.tmp s)),some (.tmp g,b)⟩
def Qt (d:Nat)(c:Nat)(s:Nat):AO:=⟨.tmp d,.r (.pick (.tmp c) (.cst (.bool true)) (.tmp s)),none⟩
def Qu (d:Nat)(c:Nat)(s:Nat):AO:=⟨.tmp d,.r (.pick (.tmp c) (.tmp s) (.cst (.bool false))),none⟩
def Qv (d:Nat)(b:Bool):AO:=⟨.loc d,.r (.mov (.cst (.bool b))),none⟩
def Qw (d:Nat):AO:=⟨.loc d,.r (.mov (.cst .nils)),none⟩
def Qx (d:Nat)(s:Nat)(i:Int):AO:=⟨.tmp d,.r (.bin .add (.tmp s) (.cst (.int .i64 i))),none⟩
def Qy (i:Nat)(n:Nat)(m:Nat)(s:Nat):DO:=⟨i,n,false,.r (.load false m (.tmp s)),none⟩
def Qz (i:Nat)(n:Nat)(o:Nat)(s:Nat):DO:=⟨i,n,false,.r (.off o (.loc s)),none⟩
def Za (i:Nat)(n:Nat)(o:Nat)(s:Nat):DO:=⟨i,n,false,.r (.off o (.tmp s)),none⟩
def Zb (i:Nat)(n:Nat)(s:Nat):DO:=⟨i,n,false,.r (.chk (.tmp s)),none⟩
def Zc (i:Nat)(n:Nat)(s:Nat):DO:=⟨i,n,false,.r (.mov (.loc s)),none⟩
def Zd (i:Nat)(n:Nat)(s:Nat):DO:=⟨i,n,false,.r (.mov (.tmp s)),none⟩
def Ze (i:Nat)(n:Nat)(m:Nat)(s:Nat):DO:=⟨i,n,false,.r (.load true m (.loc s)),none⟩
def Zf (i:Nat)(n:Nat)(m:Nat)(d:Nat)(s:Nat):DO:=⟨i,n,true,.h (.store m (.tmp d) (.tmp s)),none⟩
def Zg (i:Nat)(n:Nat)(f:FuncId)(s:Nat):DO:=⟨i,n,true,.call f [.tmp s],none⟩
attribute [go_sem] Qa Qb Qc Qd Qe Qf Qg Qh Qi Qj Qk Ql Qm Qn Qo Qp Qq Qr Qs Qt Qu Qv Qw Qx Qy Qz Za Zb Zc Zd Ze Zf Zg
end Glb
