/-
  The codes of the functions: what each comes to, with the functions that it calls taken for any.
-/
import Derived.KernelRfl
import Derived.Test.YtdeiamnhnfmilaaGreatChecked
import Derived.Test.YtdeiamnhnfmilaaGreatGlbDef
set_option linter.unusedSimpArgs false
set_option linter.unusedVariables false
set_option maxRecDepth 100000
set_option maxHeartbeats 8000000
namespace Glb
open Go Go.Proofs
def sj:List (Nat×FuncId)->FuncId->FuncId
 | [],f=>f
 | (a,b)::r,f=>bif Nat.beq a f then b else sj r f
def I7 (l:List (Nat×FuncId)):fE->fE
 | .aA (.aK f a b)=>.aA (.aK (sj l f) a b)
 | o=>o
def ui (l:List (Nat×FuncId)):iY->iY
 | .aC f a=>.aC (sj l f) (a.map (I7 l))
 | .r (.x (.aC f a b))=>.r (.x (.aC (sj l f) a b))
 | .r (.aC f a)=>.r (.aC (sj l f) a)
 | o=>o
def lS (l:List (Nat×FuncId)):AC->List AC->AC×List AC
 | .aG o,s=>(.aG (o.map λo=>{o with op:=ui l o.op}),s)
 | .aI r,s=>(.aI {r with aC:=r.aC.map λo=>{o with op:=ui l o.op}},s)
 | .aA a b,s=>match lS l a s with
  | (a,s)=>match lS l b s with
   | (b,s)=>(.aA a b,s)
 | .aF c a b,s=>match lS l a s with
  | (a,s)=>match lS l b s with
   | (b,s)=>(.aF c a b,s)
 | .aE i b,s=>match lS l b s with
  | (b,s)=>(.aE i b,s)
 | .aD b,[]=>(.aD (lS l b []).1,[])
 | .aD _,x::s=>(.aD x,s)
 | c,s=>(c,s)
def si:AC->List AC
 | .aA a b=>si a++si b
 | .aF _ a b=>si a++si b
 | .aE _ b=>si b
 | .aD b=>[b]
 | _=>[]
def yx:List Nat->AC->AC
 | [],c=>c
 | i::p,c=>yx p ((si c)[i]?.getD .aK)
def iw (f:Nat)(k p:List Nat)(l:List (Nat×FuncId))(s:List AC){x:AC}(_:(qc Tryz.prog (λs=>k.contains s) f).map (λa=>(lS l (yx p a.aA) s).1)=some x:=by conv=>lhs;reduce;simp only[Int.reduceOfNat]):AC:=x
attribute [go_sem] iw
def fP (f:Nat)(k:List Nat)(l:List (Nat×FuncId))(s:List AC){x:Nat×AC×List kb}(_:(qc Tryz.prog (λs=>k.contains s) f).map (λa=>(a.n,(lS l a.aA s).1,a.aC))=some x:=by conv=>lhs;reduce;simp only[Int.reduceOfNat]):fM:=⟨x.1,λs=>k.contains s,x.2.1,x.2.2⟩
attribute [go_sem] fP
theorem fQ {P:Program}{f:FuncId}{c:fM}(h:(qc P c.aD f,fK P f)=(some c,true):=by kernel_rfl):Is P f c:=⟨(Prod.mk.inj h).1,(Prod.mk.inj h).2⟩
def DL:DC->AC
 | .aD a d=>.aA a (DL d)
 | .aC _ _ _ r=>r
def DM (l:List (Nat×FuncId)):DC->List AC->DC
 | .aD a d,s=>match lS l a s with
  | (a,s)=>.aD a (DM l d s)
 | .aC o g a r,s=>.aC (o.map λo=>{o with op:=ui l o.op}) (sj l g) a (lS l r s).1
def I6 (f:Nat)(k p:List Nat)(l:List (Nat×FuncId))(s:List AC){x:AC}(_:(uN Tryz.prog (λs=>k.contains s) f).map (λa=>(lS l (yx p (DL a.aA)) s).1)=some x:=by conv=>lhs;reduce;simp only[Int.reduceOfNat]):AC:=x
attribute [go_sem] I6
def yw (f:Nat)(k:List Nat)(l:List (Nat×FuncId))(s:List AC){x:Nat×DC×List kb}(_:(uN Tryz.prog (λs=>k.contains s) f).map (λa=>(a.n,DM l a.aA s,a.aC))=some x:=by conv=>lhs;reduce;simp only[Int.reduceOfNat]):sk:=⟨x.1,λs=>k.contains s,x.2.1,x.2.2⟩
attribute [go_sem] yw
def qG (l:List (Nat×FuncId)):RC->RC
 | .aC a=>.aC (lS l a []).1
 | .aF a=>.aF (lS l a []).1
 | .aH a b=>.aH (qG l a) (qG l b)
 | .aD c a b=>.aD c (qG l a) (qG l b)
 | .aA i b=>.aA i (qG l b)
 | .aE b=>.aE (qG l b)
 | .aI p d x a q=>.aI (p.map λo=>{o with op:=ui l o.op}) d x a (q.map λo=>{o with op:=ui l o.op})
 | .aG g p a b=>.aG g p (lS l a []).1 (lS l b []).1
def yy (i:Bool)(f:Nat)(k:List Nat)(l:List (Nat×FuncId)){x:Nat×RC×List kb}(_:(sU Tryz.prog (λs=>k.contains s) i f).map (λa=>(a.n,qG l a.aA,a.aC))=some x:=by conv=>lhs;reduce;simp only[Int.reduceOfNat]):qP:=⟨x.1,λs=>k.contains s,x.2.1,x.2.2⟩
attribute [go_sem] yy
def zG (f0 f1 f2:FuncId):fM:=fP 174 [0,1,2,4,5,6,11,17] [(225,f0),(108,f1),(122,f2)] []
def zH (f0 f1 f2 f3:FuncId):fM:=fP 173 [0,1,2,4,5,6,7,12,19,23] [(225,f0),(179,f1),(122,f2),(226,f3)] []
def zI (f0 f1 f2 f3 f4 f5 f6:FuncId):fM:=fP 172 [0,1,2,3,4,5,6,7,8,31,47] [(220,f0),(68,f1),(221,f2),(222,f3),(122,f4),(223,f5),(224,f6)] []
def wV (f0:FuncId):fM:=fP 220 [0,1,3] [(108,f0)] []
def zJ (f0 f1:FuncId):fM:=fP 225 [0,1,2,4,5,9,16] [(68,f0),(221,f1)] []
def zM :fM:=fP 221 [0,1,2] [] []
def zN (f0 f1:FuncId):fM:=fP 223 [0,1,2,3] [(122,f0),(228,f1)] []
def zK (f0:FuncId):fM:=fP 224 [0,1,2] [(122,f0)] []
def qg :fM:=fP 122 [0,2,4] [] []
def sY :fM:=fP 226 [0,1,2,6,7,16] [] []
def uR (f0:FuncId):fM:=fP 222 [0,1,4] [(253,f0)] []
def FN :AC:=iw 253 [0,1,4,5,7,8,9,16] [0] [] []
def sZ :fM:=(λb0=>fP 253 [0,1,4,5,7,8,9,16] [] [b0]) (FN)
def vD (f_slices_Backward_api_Entry_api_Entry f_image_GetConf f_slices_Clone_int_int:FuncId):qP:=yy false 55 [0,1,2,3,4,5,6,7,8,12,13,14,17,25] [(121,f_slices_Backward_api_Entry_api_Entry),(51,f_image_GetConf),(122,f_slices_Clone_int_int)]
def BP (f_slices_Backward_api_Entry_api_Entry_f1:FuncId):fM:=fP 121 [0,1,2] [(186,f_slices_Backward_api_Entry_api_Entry_f1)] []
def yj :qP:=yy true 186 [0,1,3,8,18] []
def zQ (f0 f1 f2 f3:FuncId):fM:=fP 110 [0,1,2,3,4,5,7,10,11,12,19] [(175,f0),(181,f1),(54,f2),(105,f3)] []
def zO :fM:=fP 127 [0,1,2,3,4,17,26] [] []
def zP :fM:=fP 184 [0,1,4] [] []
def Aa (f0:FuncId):fM:=fP 39 [0,1,2,3,4] [(103,f0)] []
def Fe (f0:FuncId):AC:=iw 103 [0,1,4,5,10,14,26] [0] [(176,f0)] []
def z7 (f0:FuncId):fM:=(λb0=>fP 103 [0,1,4,5,10,14,26] [(176,f0)] [b0]) (Fe f0)
def zW (f0:FuncId):fM:=fP 69 [0,1,2] [(135,f0)] []
def Fa (f0:FuncId):AC:=iw 135 [0,2,3,4,8] [0] [(71,f0)] []
def zT (f0:FuncId):fM:=(λb0=>fP 135 [0,2,3,4,8] [(71,f0)] [b0]) (Fa f0)
def z8 (f0:FuncId):fM:=fP 176 [0,1,2,3,4] [(74,f0)] []
def E_ :AC:=iw 71 [0,2,3,4,8] [0] [] []
def zR :fM:=(λb0=>fP 71 [0,2,3,4,8] [] [b0]) (E_)
def Fc :AC:=iw 74 [0,1,4,5,10,14,25] [0] [] []
def wW :fM:=(λb0=>fP 74 [0,1,4,5,10,14,25] [] [b0]) (Fc)
def Fb :AC:=iw 41 [0,2,3,4,8] [0] [] []
def zV :fM:=(λb0=>fP 41 [0,2,3,4,8] [] [b0]) (Fb)
def zY :fM:=fP 22 [0,1,4,6,11] [] []
def zU (f0 f1 f2:FuncId):fM:=fP 23 [0,1,2] [(69,f0),(70,f1),(71,f2)] []
def z_ (f0 f1 f2:FuncId):fM:=fP 25 [0,1,2,3,4] [(39,f0),(73,f1),(74,f2)] []
def zX (f0 f1:FuncId):fM:=fP 79 [0,1,2] [(135,f0),(71,f1)] []
def zS (f0:FuncId):fM:=fP 70 [0,1,2] [(41,f0)] []
def Ld :AC:=iw 136 [0,1,4,5,10,14,25] [0] [] []
def Ff :fM:=(λb0=>fP 136 [0,1,4,5,10,14,25] [] [b0]) (Ld)
def zZ (f0:FuncId):fM:=fP 73 [0,1,2,3,4] [(136,f0)] []
def wX (f0 f1 f2 f3:FuncId):AC:=iw 6 [0,1,4,5,6,18,30] [0] [(22,f0),(33,f1),(34,f2),(20,f3)] []
def Ab (f0 f1 f2 f3:FuncId):fM:=(λb0=>fP 6 [0,1,4,5,6,18,30] [(22,f0),(33,f1),(34,f2),(20,f3)] [b0]) (wX f0 f1 f2 f3)
def Ac :fM:=fP 10 [0] [] []
def Fg (f0 f1 f2 f3 f4 f5:FuncId):AC:=iw 20 [0,1,2,3,4,5,6,7,11,13,26] [0] [(10,f0),(9,f1),(11,f2),(19,f3),(12,f4),(38,f5)] []
def Ag (f0 f1 f2 f3 f4 f5:FuncId):fM:=(λb0=>fP 20 [0,1,2,3,4,5,6,7,11,13,26] [(10,f0),(9,f1),(11,f2),(19,f3),(12,f4),(38,f5)] [b0]) (Fg f0 f1 f2 f3 f4 f5)
def Ae (f0 f1:FuncId):AC:=iw 33 [0,2,3,4,5,6,7,11,23] [0] [(9,f0),(23,f1)] []
def Af (f0 f1:FuncId):AC:=iw 33 [0,2,3,4,5,6,7,11,23] [1] [(9,f0),(23,f1)] []
def Ad (f0 f1:FuncId):fM:=(λb0 b1=>fP 33 [0,2,3,4,5,6,7,11,23] [(9,f0),(23,f1)] [b0,b1]) (Ae f0 f1) (Af f0 f1)
def iP (f0 f1 f2 f3 f4 f5 f6 f7 f8:FuncId):fM:=fP 34 [0,1,3,4,5,6,8,9,10,11,31,39,55,59,63,65,85,95,113,132,137,178,207,212] [(22,f0),(11,f1),(36,f2),(99,f3),(79,f4),(12,f5),(9,f6),(14,f7),(100,f8)] []
def Ao (f0 f1 f2 f3 f4 f5:FuncId):AC:=iw 36 [0,1,2,5,6,7,8,9,14,34,65,93] [0] [(30,f0),(15,f1),(25,f2),(101,f3),(19,f4),(102,f5)] []
def An (f0 f1 f2 f3 f4 f5:FuncId):fM:=(λb0=>fP 36 [0,1,2,5,6,7,8,9,14,34,65,93] [(30,f0),(15,f1),(25,f2),(101,f3),(19,f4),(102,f5)] [b0]) (Ao f0 f1 f2 f3 f4 f5)
def Ai (f0 f1:FuncId):fM:=fP 99 [0,1,4,38] [(17,f0),(36,f1)] []
def Am (f0 f1 f2 f3 f4 f5 f6 f7 f8 f9 f10 f11:FuncId):AC:=iw 100 [0,1,2,3,8,9,10,11,12,14,15,16,17,18,20,21,55,73,82,98,99,113,129] [0] [(15,f0),(55,f1),(19,f2),(38,f3),(37,f4),(91,f5),(172,f6),(173,f7),(174,f8),(175,f9),(12,f10),(36,f11)] []
def sV (f0 f1 f2 f3 f4 f5 f6 f7 f8 f9 f10 f11:FuncId):fM:=(λb0=>fP 100 [0,1,2,3,8,9,10,11,12,14,15,16,17,18,20,21,55,73,82,98,99,113,129] [(15,f0),(55,f1),(19,f2),(38,f3),(37,f4),(91,f5),(172,f6),(173,f7),(174,f8),(175,f9),(12,f10),(36,f11)] [b0]) (Am f0 f1 f2 f3 f4 f5 f6 f7 f8 f9 f10 f11)
def wY (f0:FuncId):AC:=iw 101 [0,1,2,3,7,8,9,11,46,54,70,80,118] [0] [(176,f0)] []
def Ah (f0:FuncId):fM:=(λb0=>fP 101 [0,1,2,3,7,8,9,11,46,54,70,80,118] [(176,f0)] [b0]) (wY f0)
def Ak (f0 f1:FuncId):AC:=iw 102 [0,1,2,5,6,7,8,15,27,77,114] [0] [(105,f0),(176,f1)] []
def Al (f0 f1:FuncId):AC:=iw 102 [0,1,2,5,6,7,8,15,27,77,114] [1] [(105,f0),(176,f1)] []
def Aj (f0 f1:FuncId):fM:=(λb0 b1=>fP 102 [0,1,2,5,6,7,8,15,27,77,114] [(105,f0),(176,f1)] [b0,b1]) (Ak f0 f1) (Al f0 f1)
def AQ (f0 f1:FuncId):fM:=fP 245 [0,1,4] [(231,f0),(230,f1)] []
def Fm (f0:FuncId):AC:=iw 218 [0,1,4,6,7,8,9,10] [0] [(245,f0)] []
def Ay (f0:FuncId):fM:=(λb0=>fP 218 [0,1,4,6,7,8,9,10] [(245,f0)] [b0]) (Fm f0)
def AD (f0 f1:FuncId):fM:=fP 251 [0,1,3,4] [(218,f0),(181,f1)] []
def AF (f0 f1 f2:FuncId):fM:=fP 217 [0,1,3,4] [(218,f0),(250,f1),(251,f2)] []
def AG (f0:FuncId):fM:=fP 213 [0,1,3,4] [(218,f0)] []
def AE (f0 f1 f2 f3:FuncId):fM:=fP 212 [0,1,3,4] [(218,f0),(217,f1),(219,f2),(181,f3)] []
def Az (f0 f1 f2 f3 f4:FuncId):fM:=fP 169 [0,1,3,4] [(218,f0),(217,f1),(219,f2),(181,f3),(213,f4)] []
def Ar (f0 f1 f2 f3:FuncId):fM:=fP 164 [0,1,2] [(211,f0),(212,f1),(210,f2),(213,f3)] []
def Fs (f0:FuncId):AC:=iw 250 [0,1,2,6,8,13,14,15,16] [0] [(245,f0)] []
def w_ (f0:FuncId):fM:=(λb0=>fP 250 [0,1,2,6,8,13,14,15,16] [(245,f0)] [b0]) (Fs f0)
def Li (f0:FuncId):AC:=iw 211 [0,1,2,6,8,13,14,15,16] [0] [(245,f0)] []
def Ft (f0:FuncId):fM:=(λb0=>fP 211 [0,1,2,6,8,13,14,15,16] [(245,f0)] [b0]) (Li f0)
def Lh (f0:FuncId):AC:=iw 210 [0,1,2,6,8,13,14,15,16] [0] [(245,f0)] []
def Fq (f0:FuncId):fM:=(λb0=>fP 210 [0,1,2,6,8,13,14,15,16] [(245,f0)] [b0]) (Lh f0)
def Fj (f0 f1 f2:FuncId):AC:=iw 261 [0,1,4,5,6,7,18,19,20,21,28] [0] [(188,f0),(246,f1),(247,f2)] []
def wZ (f0 f1 f2:FuncId):fM:=(λb0=>fP 261 [0,1,4,5,6,7,18,19,20,21,28] [(188,f0),(246,f1),(247,f2)] [b0]) (Fj f0 f1 f2)
def Lg (f0 f1 f2:FuncId):AC:=iw 214 [0,1,4,5,6,7,18,19,20,21,28] [0] [(188,f0),(246,f1),(247,f2)] []
def Fk (f0 f1 f2:FuncId):fM:=(λb0=>fP 214 [0,1,4,5,6,7,18,19,20,21,28] [(188,f0),(246,f1),(247,f2)] [b0]) (Lg f0 f1 f2)
def Lf (f0 f1 f2:FuncId):AC:=iw 216 [0,1,4,5,6,7,18,19,20,21,28] [0] [(188,f0),(246,f1),(247,f2)] []
def Fi (f0 f1 f2:FuncId):fM:=(λb0=>fP 216 [0,1,4,5,6,7,18,19,20,21,28] [(188,f0),(246,f1),(247,f2)] [b0]) (Lf f0 f1 f2)
def w9 (f0:FuncId):fM:=fP 248 [0,1,4,5,6,17] [(261,f0)] []
def Fp (f0:FuncId):fM:=fP 165 [0,1,4,5,6,17] [(214,f0)] []
def Fo (f0:FuncId):fM:=fP 167 [0,1,4,5,6,17] [(216,f0)] []
def AJ (f0 f1:FuncId):fM:=fP 249 [0,2,3] [(188,f0),(129,f1)] []
def AL (f0 f1 f2:FuncId):fM:=fP 215 [0,2,3] [(188,f0),(249,f1),(248,f2)] []
def AI (f0:FuncId):fM:=fP 114 [0,2] [(182,f0)] []
def AM (f0:FuncId):fM:=fP 168 [0,2] [(188,f0)] []
def AK (f0 f1 f2 f3:FuncId):fM:=fP 166 [0,2,3] [(188,f0),(215,f1),(114,f2),(129,f3)] []
def AH (f0 f1 f2 f3 f4:FuncId):fM:=fP 170 [0,2,3] [(188,f0),(215,f1),(114,f2),(129,f3),(168,f4)] []
def xa (f0:FuncId):fM:=fP 115 [0,2,6] [(130,f0)] []
def Av :fM:=fP 171 [0,1,2,3,4] [] []
def Aq (f0 f1 f2 f3:FuncId):fM:=fP 51 [0,2,3,4,5,6,16,20] [(113,f0),(114,f1),(115,f2),(68,f3)] []
def Aw (f0 f1 f2 f3 f4 f5:FuncId):fM:=fP 95 [0,1,2,3,4] [(164,f0),(113,f1),(166,f2),(165,f3),(168,f4),(167,f5)] []
def Ax (f0 f1 f2:FuncId):fM:=fP 96 [0,1,2,3] [(169,f0),(113,f1),(170,f2)] []
def Au (f0:FuncId):AC:=iw 97 [0,1,3,4,5,17,43] [0] [(171,f0)] []
def At (f0:FuncId):fM:=(λb0=>fP 97 [0,1,3,4,5,17,43] [(171,f0)] [b0]) (Au f0)
def AN (f0 f1 f2:FuncId):fM:=fP 98 [0,1,2,3,4,5,6,8,9,10,11,12,14,15,23,43,64,84] [(37,f0),(54,f1),(123,f2)] []
def Fh (f0 f1 f2 f3:FuncId):AC:=iw 30 [0,1,2,3,4,5,6,7,8,16,24,34,35,36,46,58] [0] [(95,f0),(96,f1),(97,f2),(98,f3)] []
def Ap (f0 f1 f2 f3:FuncId):fM:=(λb0=>fP 30 [0,1,2,3,4,5,6,7,8,16,24,34,35,36,46,58] [(95,f0),(96,f1),(97,f2),(98,f3)] [b0]) (Fh f0 f1 f2 f3)
def As (f0:FuncId):fM:=fP 175 [0,1,2] [(219,f0)] []
def AA (f0:FuncId):fM:=fP 219 [0,1,3,4] [(252,f0)] []
def AP (f0 f1:FuncId):fM:=fP 181 [0,1,4] [(231,f0),(230,f1)] []
def Fu (f0 f1:FuncId):AC:=iw 252 [0,1,4,5,7,17,18,19,20] [0] [(231,f0),(230,f1)] []
def AR (f0 f1:FuncId):fM:=(λb0=>fP 252 [0,1,4,5,7,17,18,19,20] [(231,f0),(230,f1)] [b0]) (Fu f0 f1)
def Fx :AC:=iw 230 [0,1,4,5,7] [0] [] []
def AZ :fM:=(λb0=>fP 230 [0,1,4,5,7] [] [b0]) (Fx)
def A8 :fM:=fP 231 [0,1,4] [] []
def Fy (f0:FuncId):AC:=iw 120 [0,1,2,3,6,7,8,10,11,12,13,21,22,23,24,29,32,33,34,35,44,52] [0,0] [(40,f0)] []
def FA (f0:FuncId):AC:=(λb0=>iw 120 [0,1,2,3,6,7,8,10,11,12,13,21,22,23,24,29,32,33,34,35,44,52] [0] [(40,f0)] [b0]) (Fy f0)
def A9 (f0:FuncId):fM:=(λb0=>fP 120 [0,1,2,3,6,7,8,10,11,12,13,21,22,23,24,29,32,33,34,35,44,52] [(40,f0)] [b0]) (FA f0)
def Bc (f0:FuncId):fM:=fP 40 [0,1,2,4] [(104,f0)] []
def A_ (f0 f1 f2:FuncId):fM:=fP 68 [0,1,2,3,33] [(132,f0),(133,f1),(134,f2)] []
def Bb (f0:FuncId):fM:=fP 109 [0,1,2] [(180,f0)] []
def Ba (f0:FuncId):fM:=fP 183 [0,1,2] [(180,f0)] []
def Be (f0 f1:FuncId):fM:=fP 104 [0,1,3,4] [(177,f0),(134,f1)] []
def xb (f0:FuncId):fM:=fP 132 [0,1,3] [(108,f0)] []
def BS (f0:FuncId):fM:=fP 108 [0,1,4] [(179,f0)] []
def FC :AC:=iw 133 [0,2,3,4,5,6,7,8,30] [0] [] []
def Bf :fM:=(λb0=>fP 133 [0,2,3,4,5,6,7,8,30] [] [b0]) (FC)
def FB :AC:=iw 134 [0,1,4,5,7,8,9,10,11,16] [0] [] []
def Bd :fM:=(λb0=>fP 134 [0,1,4,5,7,8,9,10,11,16] [] [b0]) (FB)
def Bg (f0 f1 f2:FuncId):fM:=fP 180 [0,2,3] [(227,f0),(228,f1),(229,f2)] []
def xc (f0:FuncId):fM:=fP 177 [0,1,3] [(108,f0)] []
def FO :AC:=iw 179 [0,1,4,5,7,8,9,16] [0] [] []
def BV :fM:=(λb0=>fP 179 [0,1,4,5,7,8,9,16] [] [b0]) (FO)
def FK (f0:FuncId):AC:=iw 227 [0,2,3,5,6,8,9,10,11,12,20,25,26,27,28] [0] [(254,f0)] []
def FL (f0:FuncId):AC:=iw 227 [0,2,3,5,6,8,9,10,11,12,20,25,26,27,28] [1] [(254,f0)] []
def BR (f0:FuncId):fM:=(λb0 b1=>fP 227 [0,2,3,5,6,8,9,10,11,12,20,25,26,27,28] [(254,f0)] [b0,b1]) (FK f0) (FL f0)
def FI :AC:=iw 229 [0,2,3,4,5,8,13,25,32,44] [0,0] [] []
def FJ :AC:=(λb0=>iw 229 [0,2,3,4,5,8,13,25,32,44] [0] [] [b0]) (FI)
def BQ :fM:=(λb0=>fP 229 [0,2,3,4,5,8,13,25,32,44] [] [b0]) (FJ)
def BT :fM:=fP 254 [0,1,4,6,16] [] []
def Bh (f0 f1:FuncId):fM:=fP 9 [0,1,2,4,6] [(42,f0),(43,f1)] []
def qj (f0 f1 f2 f3 f4 f5 f6:FuncId):sk:=yw 11 [0,1,4,5,13,25,69] [(44,f0),(45,f1),(47,f2),(46,f3),(48,f4),(49,f5),(50,f6)] []
def mz (f0 f1 f2 f3 f4 f5 f6 f7:FuncId):fM:=fP 12 [0,1,2,6,7,8,9,11,12,13,19,26,34,42] [(51,f0),(49,f1),(44,f2),(52,f3),(47,f4),(46,f5),(53,f6),(45,f7)] []
def Bj (f0 f1 f2 f3 f4:FuncId):fM:=fP 14 [0,1,2,6,7,8,9,10,12,14,30] [(55,f0),(54,f1),(44,f2),(56,f3),(45,f4)] []
def Bl (f0:FuncId):fM:=fP 15 [0,2] [(42,f0)] []
def jE (f0 f1 f2 f3 f4 f5 f6 f7 f8 f9 f10:FuncId):sk:=yw 17 [0,1,3,4,5,38,46,60,62,63,70,79,84,94,101,106,111] [(44,f0),(45,f1),(48,f2),(59,f3),(60,f4),(61,f5),(62,f6),(63,f7),(64,f8),(65,f9),(66,f10)] []
def Bm :fM:=fP 19 [0,2] [] []
def Bi :fM:=fP 38 [0,2] [] []
def BH (f0 f1 f2:FuncId):fM:=fP 42 [0,1,2] [(105,f0),(106,f1),(107,f2)] []
def Bn :fM:=fP 44 [0,1,4] [] []
def kO (f0 f1 f2 f3 f4:FuncId):fM:=fP 45 [0,1,2,3,38,52] [(55,f0),(109,f1),(108,f2),(60,f3),(105,f4)] []
def FD :AC:=iw 46 [0,1,5,9,10,11,12] [0] [] []
def Bo :fM:=(λb0=>fP 46 [0,1,5,9,10,11,12] [] [b0]) (FD)
def BF (f0 f1:FuncId):fM:=fP 47 [0,1,2,3] [(110,f0),(61,f1)] []
def Bt (f0 f1 f2:FuncId):fM:=fP 48 [0,1,4] [(58,f0),(109,f1),(108,f2)] []
def Bq (f0:FuncId):fM:=fP 49 [0,2,3] [(37,f0)] []
def FF (f0 f1 f2 f3 f4 f5 f6 f7:FuncId):AC:=iw 50 [0,1,2,5,55,84,85,86,87] [0] [(59,f0),(60,f1),(43,f2),(58,f3),(40,f4),(111,f5),(112,f6),(61,f7)] []
def BC (f0 f1 f2 f3 f4 f5 f6 f7:FuncId):fM:=(λb0=>fP 50 [0,1,2,5,55,84,85,86,87] [(59,f0),(60,f1),(43,f2),(58,f3),(40,f4),(111,f5),(112,f6),(61,f7)] [b0]) (FF f0 f1 f2 f3 f4 f5 f6 f7)
def Bw (f0 f1 f2 f3 f4:FuncId):fM:=fP 52 [0,1,2,3,6,7,8,55] [(49,f0),(116,f1),(105,f2),(117,f3),(118,f4)] []
def BA (f0 f1 f2 f3 f4 f5:FuncId):fM:=fP 53 [0,1,2,3,4,5,6,57] [(49,f0),(119,f1),(46,f2),(58,f3),(120,f4),(54,f5)] []
def mA (f0 f1 f2 f3 f4:FuncId):fM:=fP 56 [0,1,2,3,4,5,8,10,11,28] [(54,f0),(123,f1),(106,f2),(107,f3),(117,f4)] []
def Bs (f0:FuncId):fM:=fP 58 [0,2,3] [(55,f0)] []
def BE (f0:FuncId):fM:=fP 59 [0,1,2,3] [(117,f0)] []
def Bp :fM:=fP 60 [0,1] [] []
def Bz :fM:=fP 61 [0,1,2,3] [] []
def mS (f0 f1 f2:FuncId):fM:=fP 62 [0,1,2,3,4,25,38] [(124,f0),(59,f1),(61,f2)] []
def BG (f0 f1 f2 f3 f4:FuncId):fM:=fP 63 [0,1,2,3,32,54] [(108,f0),(48,f1),(58,f2),(40,f3),(111,f4)] []
def Bv (f0 f1 f2 f3 f4 f5:FuncId):fM:=fP 64 [0,1,2,3,4,5,22,42,55] [(126,f0),(125,f1),(127,f2),(53,f3),(49,f4),(47,f5)] []
def lW (f0 f1 f2 f3 f4 f5:FuncId):fM:=fP 65 [0,1,2,3,4,5,6,7,8,18,46,73,80] [(128,f0),(54,f1),(49,f2),(116,f3),(105,f4),(117,f5)] []
def By (f0 f1 f2 f3 f4 f5:FuncId):fM:=fP 66 [0,1,2,3,4,5,6,7,8,16,43] [(128,f0),(113,f1),(129,f2),(51,f3),(130,f4),(56,f5)] []
def Bk (f0:FuncId):fM:=fP 91 [0,2] [(163,f0)] []
def uQ (f0:FuncId):fM:=fP 106 [0,1,2] [(122,f0)] []
def Bx (f0 f1 f2 f3 f4 f5:FuncId):fM:=fP 111 [0,1] [(49,f0),(118,f1),(52,f2),(47,f3),(46,f4),(53,f5)] []
def BD :fM:=fP 117 [0,1,2,3] [] []
def FE (f0 f1 f2 f3 f4:FuncId):AC:=iw 118 [0,1,4,6,7,8,11,12,13,14,22,33] [0] [(58,f0),(183,f1),(184,f2),(185,f3),(125,f4)] []
def Br (f0 f1 f2 f3 f4:FuncId):fM:=(λb0=>fP 118 [0,1,4,6,7,8,11,12,13,14,22,33] [(58,f0),(183,f1),(184,f2),(185,f3),(125,f4)] [b0]) (FE f0 f1 f2 f3 f4)
def xg :fM:=fP 119 [0,1,2,3] [] []
def xf :fM:=fP 126 [0,1,2,3] [] []
def Bu (f0:FuncId):fM:=fP 128 [0,1,2,3,4,5] [(61,f0)] []
def xe :fM:=fP 185 [0,1,2,3] [] []
def xh :fM:=fP 163 [0,2,4] [] []
def FM :AC:=iw 125 [0,1,4,5,7,8,9,16] [0] [] []
def BU :fM:=(λb0=>fP 125 [0,1,4,5,7,8,9,16] [] [b0]) (FM)
def AS (f0:FuncId):fM:=fP 113 [0,2] [(107,f0)] []
def xi :fM:=fP 107 [0,2,4] [] []
def AY :fM:=fP 232 [0] [] []
def sX (f0:FuncId):fM:=fP 187 [0,1,4,5,6,23] [(232,f0)] []
def Fv (f0:FuncId):AC:=iw 188 [0,2,3,4,5,7,14,15,16,17,18] [0] [(187,f0)] []
def AU (f0:FuncId):fM:=(λb0=>fP 188 [0,2,3,4,5,7,14,15,16,17,18] [(187,f0)] [b0]) (Fv f0)
def AT (f0 f1:FuncId):fM:=fP 129 [0,2,3] [(188,f0),(187,f1)] []
def Fw (f0 f1:FuncId):AC:=iw 182 [0,2,3,4,5,25,31,32,33] [0] [(188,f0),(232,f1)] []
def AW (f0 f1:FuncId):fM:=(λb0=>fP 182 [0,2,3,4,5,25,31,32,33] [(188,f0),(232,f1)] [b0]) (Fw f0 f1)
def ru :fM:=fP 246 [0,2] [] []
def rq :fM:=fP 247 [0,2] [] []
def qf :fM:=fP 130 [0,2,3,8] [] []
def FG (f0 f1 f2:FuncId):AC:=iw 116 [0,1,2,3,6,7,8,10,11,12,13,14,32,35,36,37,58] [0] [(37,f0),(178,f1),(54,f2)] []
def BI (f0 f1 f2:FuncId):fM:=(λb0=>fP 116 [0,1,2,3,6,7,8,10,11,12,13,14,32,35,36,37,58] [(37,f0),(178,f1),(54,f2)] [b0]) (FG f0 f1 f2)
def BK :fM:=fP 37 [0,1,2,3,4,9] [] []
def BN (f0:FuncId):fM:=fP 54 [0,1,2,4,5,6,13,21] [(37,f0)] []
def BJ (f0 f1:FuncId):fM:=fP 123 [0,1,2,4,5,6,7,15] [(54,f0),(178,f1)] []
def BL (f0:FuncId):fM:=fP 31 [0,1,2,3,6,7,8,16] [(37,f0)] []
def BM (f0 f1:FuncId):fM:=fP 105 [0,1,2,3,6,7,9,27] [(37,f0),(178,f1)] []
def FH :AC:=iw 178 [0,2,3,5,6,7,8,9] [0] [] []
def BO :fM:=(λb0=>fP 178 [0,2,3,5,6,7,8,9] [] [b0]) (FH)
def BX (f0:FuncId):fM:=fP 124 [0,1,2,3,6,7,8] [(31,f0)] []
def BY :fM:=fP 43 [0,2,3,7] [] []
def FP (f0 f1:FuncId):AC:=iw 112 [0,1,2,3,4,8,9,10,11,12,13,15,22,23,24,25,30] [0] [(37,f0),(109,f1)] []
def BW (f0 f1:FuncId):fM:=(λb0=>fP 112 [0,1,2,3,4,8,9,10,11,12,13,15,22,23,24,25,30] [(37,f0),(109,f1)] [b0]) (FP f0 f1)
end Glb
