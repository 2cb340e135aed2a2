/-
  The codes of the functions: what each comes to, with the functions that it calls taken for any.
-/
import Derived.KernelRfl
import Derived.Test.YtdeiamnhnfmilaaGreatChecked
import Derived.Test.YtdeiamnhnfmilaaGreatGlbDef
set_option linter.unusedSimpArgs false
set_option linter.unusedVariables false
set_option maxRecDepth 100000
set_option maxHeartbeats 8000000
namespace Glb
open Go Go.Proofs
def sq:List (Nat×FuncId)->FuncId->FuncId
 | [],f=>f
 | (a,b)::r,f=>bif Nat.beq a f then b else sq r f
def Ii (l:List (Nat×FuncId)):fB->fB
 | .aA (.aL f a b)=>.aA (.aL (sq l f) a b)
 | o=>o
def t8 (l:List (Nat×FuncId)):iV->iV
 | .aC f a=>.aC (sq l f) (a.map (Ii l))
 | .r (.x (.aC f a b))=>.r (.x (.aC (sq l f) a b))
 | .r (.aC f a)=>.r (.aC (sq l f) a)
 | o=>o
def mz (l:List (Nat×FuncId)):AC->List AC->AC×List AC
 | .aI o,s=>(.aI (o.map λo=>{o with op:=t8 l o.op}),s)
 | .aJ r,s=>(.aJ {r with aC:=r.aC.map λo=>{o with op:=t8 l o.op}},s)
 | .aA a b,s=>match mz l a s with
  | (a,s)=>match mz l b s with
   | (b,s)=>(.aA a b,s)
 | .aH c a b,s=>match mz l a s with
  | (a,s)=>match mz l b s with
   | (b,s)=>(.aH c a b,s)
 | .aG i b,s=>match mz l b s with
  | (b,s)=>(.aG i b,s)
 | .aE b,[]=>(.aE (mz l b []).1,[])
 | .aE _,x::s=>(.aE x,s)
 | c,s=>(c,s)
def sk:AC->List AC
 | .aA a b=>sk a++sk b
 | .aH _ a b=>sk a++sk b
 | .aG _ b=>sk b
 | .aE b=>[b]
 | _=>[]
def Da:List Nat->AC->AC
 | [],c=>c
 | i::p,c=>Da p ((sk c)[i]?.getD .aL)
def im (f:Nat)(k p:List Nat)(l:List (Nat×FuncId))(s:List AC){x:AC}(_:(qj Tryz.prog (λs=>k.contains s) f).map (λa=>(mz l (Da p a.aA) s).1)=some x:=by conv=>lhs;reduce;simp only[Int.reduceOfNat]):AC:=x
attribute [go_sem] im
def fK (f:Nat)(k:List Nat)(l:List (Nat×FuncId))(s:List AC){x:Nat×AC×List kh}(_:(qj Tryz.prog (λs=>k.contains s) f).map (λa=>(a.n,(mz l a.aA s).1,a.aC))=some x:=by conv=>lhs;reduce;simp only[Int.reduceOfNat]):fJ:=⟨x.1,λs=>k.contains s,x.2.1,x.2.2⟩
attribute [go_sem] fK
theorem fN {P:Program}{f:FuncId}{c:fJ}(h:(qj P c.aD f,fP P f)=(some c,true):=by kernel_rfl):Is P f c:=⟨(Prod.mk.inj h).1,(Prod.mk.inj h).2⟩
def C_ (l:List (Nat×FuncId)):DC->List AC->DC
 | .aD a d,s=>match mz l a s with
  | (a,s)=>.aD a (C_ l d s)
 | .aC o g a r,s=>.aC (o.map λo=>{o with op:=t8 l o.op}) (sq l g) a (mz l r s).1
def yg (f:Nat)(k:List Nat)(l:List (Nat×FuncId))(s:List AC){x:Nat×DC×List kh}(_:(wI Tryz.prog (λs=>k.contains s) f).map (λa=>(a.n,C_ l a.aA s,a.aC))=some x:=by conv=>lhs;reduce;simp only[Int.reduceOfNat]):ss:=⟨x.1,λs=>k.contains s,x.2.1,x.2.2⟩
attribute [go_sem] yg
def qM (l:List (Nat×FuncId)):RC->RC
 | .aC a=>.aC (mz l a []).1
 | .aF a=>.aF (mz l a []).1
 | .aH a b=>.aH (qM l a) (qM l b)
 | .aD c a b=>.aD c (qM l a) (qM l b)
 | .aA i b=>.aA i (qM l b)
 | .aE b=>.aE (qM l b)
 | .aI p d x a q=>.aI (p.map λo=>{o with op:=t8 l o.op}) d x a (q.map λo=>{o with op:=t8 l o.op})
 | .aG g p a b=>.aG g p (mz l a []).1 (mz l b []).1
def yi (i:Bool)(f:Nat)(k:List Nat)(l:List (Nat×FuncId)){x:Nat×RC×List kh}(_:(sX Tryz.prog (λs=>k.contains s) i f).map (λa=>(a.n,qM l a.aA,a.aC))=some x:=by conv=>lhs;reduce;simp only[Int.reduceOfNat]):qU:=⟨x.1,λs=>k.contains s,x.2.1,x.2.2⟩
attribute [go_sem] yi
def Kh (f0 f1 f2:FuncId):fJ:=fK 174 [0,1,2,4,5,6,11,17] [(225,f0),(108,f1),(122,f2)] []
def Ki (f0 f1 f2 f3:FuncId):fJ:=fK 173 [0,1,2,4,5,6,7,12,19,23] [(225,f0),(179,f1),(122,f2),(226,f3)] []
def Kj (f0 f1 f2 f3 f4 f5 f6:FuncId):fJ:=fK 172 [0,1,2,3,4,5,6,7,8,31,47] [(220,f0),(68,f1),(221,f2),(222,f3),(122,f4),(223,f5),(224,f6)] []
def Kk (f0:FuncId):fJ:=fK 220 [0,1,3] [(108,f0)] []
def Kl (f0 f1:FuncId):fJ:=fK 225 [0,1,2,4,5,9,16] [(68,f0),(221,f1)] []
def Ko :fJ:=fK 221 [0,1,2] [] []
def Kp (f0 f1:FuncId):fJ:=fK 223 [0,1,2,3] [(122,f0),(228,f1)] []
def Km (f0:FuncId):fJ:=fK 224 [0,1,2] [(122,f0)] []
def qm :fJ:=fK 122 [0,2,4] [] []
def KC :fJ:=fK 226 [0,1,2,6,7,16] [] []
def KB (f0:FuncId):fJ:=fK 222 [0,1,4] [(253,f0)] []
def KE :AC:=im 253 [0,1,4,5,7,8,9,16] [0] [] []
def KD :fJ:=(λb0=>fK 253 [0,1,4,5,7,8,9,16] [] [b0]) (KE)
def vu (f_slices_Backward_api_Entry_api_Entry f_image_GetConf f_slices_Clone_int_int:FuncId):qU:=yi false 55 [0,1,2,3,4,5,6,7,8,12,13,14,17,25] [(121,f_slices_Backward_api_Entry_api_Entry),(51,f_image_GetConf),(122,f_slices_Clone_int_int)]
def Bs (f_slices_Backward_api_Entry_api_Entry_f1:FuncId):fJ:=fK 121 [0,1,2] [(186,f_slices_Backward_api_Entry_api_Entry_f1)] []
def xW :qU:=yi true 186 [0,1,3,8,18] []
def zm (f0 f1 f2 f3:FuncId):fJ:=fK 110 [0,1,2,3,4,5,7,10,11,12,19] [(175,f0),(181,f1),(54,f2),(105,f3)] []
def zk :fJ:=fK 127 [0,1,2,3,4,17,26] [] []
def zl :fJ:=fK 184 [0,1,4] [] []
def zH (f0:FuncId):fJ:=fK 39 [0,1,2,3,4] [(103,f0)] []
def Ev (f0:FuncId):AC:=im 103 [0,1,4,5,10,14,26] [0] [(176,f0)] []
def zE (f0:FuncId):fJ:=(λb0=>fK 103 [0,1,4,5,10,14,26] [(176,f0)] [b0]) (Ev f0)
def zy (f0:FuncId):fJ:=fK 69 [0,1,2] [(135,f0)] []
def Er (f0:FuncId):AC:=im 135 [0,2,3,4,8] [0] [(71,f0)] []
def zt (f0:FuncId):fJ:=(λb0=>fK 135 [0,2,3,4,8] [(71,f0)] [b0]) (Er f0)
def zF (f0:FuncId):fJ:=fK 176 [0,1,2,3,4] [(74,f0)] []
def Ep :AC:=im 71 [0,2,3,4,8] [0] [] []
def zp :fJ:=(λb0=>fK 71 [0,2,3,4,8] [] [b0]) (Ep)
def Eu :AC:=im 74 [0,1,4,5,10,14,25] [0] [] []
def wJ :fJ:=(λb0=>fK 74 [0,1,4,5,10,14,25] [] [b0]) (Eu)
def Et :AC:=im 41 [0,2,3,4,8] [0] [] []
def zx :fJ:=(λb0=>fK 41 [0,2,3,4,8] [] [b0]) (Et)
def zB :fJ:=fK 22 [0,1,4,6,11] [] []
def zu (f0 f1 f2:FuncId):fJ:=fK 23 [0,1,2] [(69,f0),(70,f1),(71,f2)] []
def zG (f0 f1 f2:FuncId):fJ:=fK 25 [0,1,2,3,4] [(39,f0),(73,f1),(74,f2)] []
def zA (f0 f1:FuncId):fJ:=fK 79 [0,1,2] [(135,f0),(71,f1)] []
def zq (f0:FuncId):fJ:=fK 70 [0,1,2] [(41,f0)] []
def Kq :AC:=im 136 [0,1,4,5,10,14,25] [0] [] []
def Ew :fJ:=(λb0=>fK 136 [0,1,4,5,10,14,25] [] [b0]) (Kq)
def zC (f0:FuncId):fJ:=fK 73 [0,1,2,3,4] [(136,f0)] []
def iP (f0 f1 f2 f3 f4 f5 f6 f7 f8 f9 f10:FuncId):AC:=im 8 [0,2,3,4,5,6,7,8,9,10,11,12,13,14,23,57,95,104,113,121,153] [0] [(33,f0),(22,f1),(34,f2),(13,f3),(36,f4),(15,f5),(16,f6),(19,f7),(41,f8),(40,f9),(20,f10)] []
def zI (f0 f1 f2 f3 f4 f5 f6 f7 f8 f9 f10:FuncId):fJ:=(λb0=>fK 8 [0,2,3,4,5,6,7,8,9,10,11,12,13,14,23,57,95,104,113,121,153] [(33,f0),(22,f1),(34,f2),(13,f3),(36,f4),(15,f5),(16,f6),(19,f7),(41,f8),(40,f9),(20,f10)] [b0]) (iP f0 f1 f2 f3 f4 f5 f6 f7 f8 f9 f10)
def zJ :fJ:=fK 10 [0] [] []
def Ex (f0 f1 f2 f3 f4 f5:FuncId):AC:=im 20 [0,1,2,3,4,5,6,7,11,13,26] [0] [(10,f0),(9,f1),(11,f2),(19,f3),(12,f4),(38,f5)] []
def zO (f0 f1 f2 f3 f4 f5:FuncId):fJ:=(λb0=>fK 20 [0,1,2,3,4,5,6,7,11,13,26] [(10,f0),(9,f1),(11,f2),(19,f3),(12,f4),(38,f5)] [b0]) (Ex f0 f1 f2 f3 f4 f5)
def zM (f0 f1:FuncId):AC:=im 33 [0,2,3,4,5,6,7,11,23] [0] [(9,f0),(23,f1)] []
def zN (f0 f1:FuncId):AC:=im 33 [0,2,3,4,5,6,7,11,23] [1] [(9,f0),(23,f1)] []
def zK (f0 f1:FuncId):fJ:=(λb0 b1=>fK 33 [0,2,3,4,5,6,7,11,23] [(9,f0),(23,f1)] [b0,b1]) (zM f0 f1) (zN f0 f1)
def jM (f0 f1 f2 f3 f4 f5 f6 f7 f8:FuncId):fJ:=fK 34 [0,1,3,4,5,6,8,9,10,11,31,39,55,59,63,65,85,95,113,132,137,178,207,212] [(22,f0),(11,f1),(36,f2),(99,f3),(79,f4),(12,f5),(9,f6),(14,f7),(100,f8)] []
def zV (f0 f1 f2 f3 f4 f5:FuncId):AC:=im 36 [0,1,2,5,6,7,8,9,14,34,65,93] [0] [(30,f0),(15,f1),(25,f2),(101,f3),(19,f4),(102,f5)] []
def zU (f0 f1 f2 f3 f4 f5:FuncId):fJ:=(λb0=>fK 36 [0,1,2,5,6,7,8,9,14,34,65,93] [(30,f0),(15,f1),(25,f2),(101,f3),(19,f4),(102,f5)] [b0]) (zV f0 f1 f2 f3 f4 f5)
def zQ (f0 f1:FuncId):fJ:=fK 99 [0,1,4,38] [(17,f0),(36,f1)] []
def Kt (f0 f1 f2 f3 f4 f5 f6 f7 f8 f9 f10 f11:FuncId):AC:=im 100 [0,1,2,3,8,9,10,11,12,14,15,16,17,18,20,21,55,73,82,98,99,113,129] [0] [(15,f0),(55,f1),(19,f2),(38,f3),(37,f4),(91,f5),(172,f6),(173,f7),(174,f8),(175,f9),(12,f10),(36,f11)] []
def Kr (f0 f1 f2 f3 f4 f5 f6 f7 f8 f9 f10 f11:FuncId):fJ:=(λb0=>fK 100 [0,1,2,3,8,9,10,11,12,14,15,16,17,18,20,21,55,73,82,98,99,113,129] [(15,f0),(55,f1),(19,f2),(38,f3),(37,f4),(91,f5),(172,f6),(173,f7),(174,f8),(175,f9),(12,f10),(36,f11)] [b0]) (Kt f0 f1 f2 f3 f4 f5 f6 f7 f8 f9 f10 f11)
def wK (f0:FuncId):AC:=im 101 [0,1,2,3,7,8,9,11,46,54,70,80,118] [0] [(176,f0)] []
def zP (f0:FuncId):fJ:=(λb0=>fK 101 [0,1,2,3,7,8,9,11,46,54,70,80,118] [(176,f0)] [b0]) (wK f0)
def zS (f0 f1:FuncId):AC:=im 102 [0,1,2,5,6,7,8,15,27,77,114] [0] [(105,f0),(176,f1)] []
def zT (f0 f1:FuncId):AC:=im 102 [0,1,2,5,6,7,8,15,27,77,114] [1] [(105,f0),(176,f1)] []
def zR (f0 f1:FuncId):fJ:=(λb0 b1=>fK 102 [0,1,2,5,6,7,8,15,27,77,114] [(105,f0),(176,f1)] [b0,b1]) (zS f0 f1) (zT f0 f1)
def Ar (f0 f1:FuncId):fJ:=fK 245 [0,1,4] [(231,f0),(230,f1)] []
def EC (f0:FuncId):AC:=im 218 [0,1,4,6,7,8,9,10] [0] [(245,f0)] []
def Ac (f0:FuncId):fJ:=(λb0=>fK 218 [0,1,4,6,7,8,9,10] [(245,f0)] [b0]) (EC f0)
def Af (f0 f1:FuncId):fJ:=fK 251 [0,1,3,4] [(218,f0),(181,f1)] []
def Ah (f0 f1 f2:FuncId):fJ:=fK 217 [0,1,3,4] [(218,f0),(250,f1),(251,f2)] []
def Ai (f0:FuncId):fJ:=fK 213 [0,1,3,4] [(218,f0)] []
def Ag (f0 f1 f2 f3:FuncId):fJ:=fK 212 [0,1,3,4] [(218,f0),(217,f1),(219,f2),(181,f3)] []
def Ad (f0 f1 f2 f3 f4:FuncId):fJ:=fK 169 [0,1,3,4] [(218,f0),(217,f1),(219,f2),(181,f3),(213,f4)] []
def zY (f0 f1 f2 f3:FuncId):fJ:=fK 164 [0,1,2] [(211,f0),(212,f1),(210,f2),(213,f3)] []
def EG (f0:FuncId):AC:=im 250 [0,1,2,6,8,13,14,15,16] [0] [(245,f0)] []
def wN (f0:FuncId):fJ:=(λb0=>fK 250 [0,1,2,6,8,13,14,15,16] [(245,f0)] [b0]) (EG f0)
def Kx (f0:FuncId):AC:=im 211 [0,1,2,6,8,13,14,15,16] [0] [(245,f0)] []
def EH (f0:FuncId):fJ:=(λb0=>fK 211 [0,1,2,6,8,13,14,15,16] [(245,f0)] [b0]) (Kx f0)
def Kw (f0:FuncId):AC:=im 210 [0,1,2,6,8,13,14,15,16] [0] [(245,f0)] []
def EF (f0:FuncId):fJ:=(λb0=>fK 210 [0,1,2,6,8,13,14,15,16] [(245,f0)] [b0]) (Kw f0)
def EA (f0 f1 f2:FuncId):AC:=im 261 [0,1,4,5,6,7,18,19,20,21,28] [0] [(188,f0),(246,f1),(247,f2)] []
def wL (f0 f1 f2:FuncId):fJ:=(λb0=>fK 261 [0,1,4,5,6,7,18,19,20,21,28] [(188,f0),(246,f1),(247,f2)] [b0]) (EA f0 f1 f2)
def Kv (f0 f1 f2:FuncId):AC:=im 214 [0,1,4,5,6,7,18,19,20,21,28] [0] [(188,f0),(246,f1),(247,f2)] []
def EB (f0 f1 f2:FuncId):fJ:=(λb0=>fK 214 [0,1,4,5,6,7,18,19,20,21,28] [(188,f0),(246,f1),(247,f2)] [b0]) (Kv f0 f1 f2)
def Ku (f0 f1 f2:FuncId):AC:=im 216 [0,1,4,5,6,7,18,19,20,21,28] [0] [(188,f0),(246,f1),(247,f2)] []
def Ez (f0 f1 f2:FuncId):fJ:=(λb0=>fK 216 [0,1,4,5,6,7,18,19,20,21,28] [(188,f0),(246,f1),(247,f2)] [b0]) (Ku f0 f1 f2)
def wM (f0:FuncId):fJ:=fK 248 [0,1,4,5,6,17] [(261,f0)] []
def EE (f0:FuncId):fJ:=fK 165 [0,1,4,5,6,17] [(214,f0)] []
def ED (f0:FuncId):fJ:=fK 167 [0,1,4,5,6,17] [(216,f0)] []
def Al (f0 f1:FuncId):fJ:=fK 249 [0,2,3] [(188,f0),(129,f1)] []
def An (f0 f1 f2:FuncId):fJ:=fK 215 [0,2,3] [(188,f0),(249,f1),(248,f2)] []
def Ak (f0:FuncId):fJ:=fK 114 [0,2] [(182,f0)] []
def Ao (f0:FuncId):fJ:=fK 168 [0,2] [(188,f0)] []
def Am (f0 f1 f2 f3:FuncId):fJ:=fK 166 [0,2,3] [(188,f0),(215,f1),(114,f2),(129,f3)] []
def Aj (f0 f1 f2 f3 f4:FuncId):fJ:=fK 170 [0,2,3] [(188,f0),(215,f1),(114,f2),(129,f3),(168,f4)] []
def wP (f0:FuncId):fJ:=fK 115 [0,2,6] [(130,f0)] []
def z_ :fJ:=fK 171 [0,1,2,3,4] [] []
def zX (f0 f1 f2 f3:FuncId):fJ:=fK 51 [0,2,3,4,5,6,16,20] [(113,f0),(114,f1),(115,f2),(68,f3)] []
def Aa (f0 f1 f2 f3 f4 f5:FuncId):fJ:=fK 95 [0,1,2,3,4] [(164,f0),(113,f1),(166,f2),(165,f3),(168,f4),(167,f5)] []
def Ab (f0 f1 f2:FuncId):fJ:=fK 96 [0,1,2,3] [(169,f0),(113,f1),(170,f2)] []
def z8 (f0:FuncId):AC:=im 97 [0,1,3,4,5,17,43] [0] [(171,f0)] []
def z7 (f0:FuncId):fJ:=(λb0=>fK 97 [0,1,3,4,5,17,43] [(171,f0)] [b0]) (z8 f0)
def Ap (f0 f1 f2:FuncId):fJ:=fK 98 [0,1,2,3,4,5,6,8,9,10,11,12,14,15,23,43,64,84] [(37,f0),(54,f1),(123,f2)] []
def Ey (f0 f1 f2 f3:FuncId):AC:=im 30 [0,1,2,3,4,5,6,7,8,16,24,34,35,36,46,58] [0] [(95,f0),(96,f1),(97,f2),(98,f3)] []
def zW (f0 f1 f2 f3:FuncId):fJ:=(λb0=>fK 30 [0,1,2,3,4,5,6,7,8,16,24,34,35,36,46,58] [(95,f0),(96,f1),(97,f2),(98,f3)] [b0]) (Ey f0 f1 f2 f3)
def zZ (f0:FuncId):fJ:=fK 175 [0,1,2] [(219,f0)] []
def Ae (f0:FuncId):fJ:=fK 219 [0,1,3,4] [(252,f0)] []
def Aq (f0 f1:FuncId):fJ:=fK 181 [0,1,4] [(231,f0),(230,f1)] []
def EI (f0 f1:FuncId):AC:=im 252 [0,1,4,5,7,17,18,19,20] [0] [(231,f0),(230,f1)] []
def As (f0 f1:FuncId):fJ:=(λb0=>fK 252 [0,1,4,5,7,17,18,19,20] [(231,f0),(230,f1)] [b0]) (EI f0 f1)
def EL :AC:=im 230 [0,1,4,5,7] [0] [] []
def Ay :fJ:=(λb0=>fK 230 [0,1,4,5,7] [] [b0]) (EL)
def Az :fJ:=fK 231 [0,1,4] [] []
def EM (f0:FuncId):AC:=im 120 [0,1,2,3,6,7,8,10,11,12,13,21,22,23,24,29,32,33,34,35,44,52] [0,0] [(40,f0)] []
def EN (f0:FuncId):AC:=(λb0=>im 120 [0,1,2,3,6,7,8,10,11,12,13,21,22,23,24,29,32,33,34,35,44,52] [0] [(40,f0)] [b0]) (EM f0)
def AA (f0:FuncId):fJ:=(λb0=>fK 120 [0,1,2,3,6,7,8,10,11,12,13,21,22,23,24,29,32,33,34,35,44,52] [(40,f0)] [b0]) (EN f0)
def AG (f0:FuncId):fJ:=fK 40 [0,1,2,4] [(104,f0)] []
def AD (f0 f1 f2:FuncId):fJ:=fK 68 [0,1,2,3,33] [(132,f0),(133,f1),(134,f2)] []
def AF (f0:FuncId):fJ:=fK 109 [0,1,2] [(180,f0)] []
def AE (f0:FuncId):fJ:=fK 183 [0,1,2] [(180,f0)] []
def AI (f0 f1:FuncId):fJ:=fK 104 [0,1,3,4] [(177,f0),(134,f1)] []
def wQ (f0:FuncId):fJ:=fK 132 [0,1,3] [(108,f0)] []
def Bv (f0:FuncId):fJ:=fK 108 [0,1,4] [(179,f0)] []
def EP :AC:=im 133 [0,2,3,4,5,6,7,8,30] [0] [] []
def AJ :fJ:=(λb0=>fK 133 [0,2,3,4,5,6,7,8,30] [] [b0]) (EP)
def EO :AC:=im 134 [0,1,4,5,7,8,9,10,11,16] [0] [] []
def AH :fJ:=(λb0=>fK 134 [0,1,4,5,7,8,9,10,11,16] [] [b0]) (EO)
def AK (f0 f1 f2:FuncId):fJ:=fK 180 [0,2,3] [(227,f0),(228,f1),(229,f2)] []
def wR (f0:FuncId):fJ:=fK 177 [0,1,3] [(108,f0)] []
def E7 :AC:=im 179 [0,1,4,5,7,8,9,16] [0] [] []
def By :fJ:=(λb0=>fK 179 [0,1,4,5,7,8,9,16] [] [b0]) (E7)
def EY (f0:FuncId):AC:=im 227 [0,2,3,5,6,8,9,10,11,12,20,25,26,27,28] [0] [(254,f0)] []
def EZ (f0:FuncId):AC:=im 227 [0,2,3,5,6,8,9,10,11,12,20,25,26,27,28] [1] [(254,f0)] []
def Bu (f0:FuncId):fJ:=(λb0 b1=>fK 227 [0,2,3,5,6,8,9,10,11,12,20,25,26,27,28] [(254,f0)] [b0,b1]) (EY f0) (EZ f0)
def EW :AC:=im 229 [0,2,3,4,5,8,13,25,32,44] [0,0] [] []
def EX :AC:=(λb0=>im 229 [0,2,3,4,5,8,13,25,32,44] [0] [] [b0]) (EW)
def Bt :fJ:=(λb0=>fK 229 [0,2,3,4,5,8,13,25,32,44] [] [b0]) (EX)
def Bw :fJ:=fK 254 [0,1,4,6,16] [] []
def AL (f0 f1:FuncId):fJ:=fK 9 [0,1,2,4,6] [(42,f0),(43,f1)] []
def qu (f0 f1 f2 f3 f4 f5 f6:FuncId):ss:=yg 11 [0,1,4,5,13,25,69] [(44,f0),(45,f1),(47,f2),(46,f3),(48,f4),(49,f5),(50,f6)] []
def mC (f0 f1 f2 f3 f4 f5 f6 f7:FuncId):fJ:=fK 12 [0,1,2,6,7,8,9,11,12,13,19,26,34,42] [(51,f0),(49,f1),(44,f2),(52,f3),(47,f4),(46,f5),(53,f6),(45,f7)] []
def AP (f0 f1 f2 f3:FuncId):fJ:=fK 13 [0,2,3,4,5,6,7,12,37] [(54,f0),(44,f1),(47,f2),(46,f3)] []
def Ky (f0 f1 f2 f3 f4:FuncId):fJ:=fK 14 [0,1,2,6,7,8,9,10,12,14,30] [(55,f0),(54,f1),(44,f2),(56,f3),(45,f4)] []
def AN (f0:FuncId):fJ:=fK 15 [0,2] [(42,f0)] []
def AR (f0 f1 f2 f3:FuncId):fJ:=fK 16 [0,1,3,4,5,22] [(57,f0),(46,f1),(58,f2),(40,f3)] []
def jC (f0 f1 f2 f3 f4 f5 f6 f7 f8 f9 f10:FuncId):ss:=yg 17 [0,1,3,4,5,38,46,60,62,63,70,79,84,94,101,106,111] [(44,f0),(45,f1),(48,f2),(59,f3),(60,f4),(61,f5),(62,f6),(63,f7),(64,f8),(65,f9),(66,f10)] []
def AQ :fJ:=fK 19 [0,2] [] []
def AM :fJ:=fK 38 [0,2] [] []
def Bk (f0 f1 f2:FuncId):fJ:=fK 42 [0,1,2] [(105,f0),(106,f1),(107,f2)] []
def AS :fJ:=fK 44 [0,1,4] [] []
def kU (f0 f1 f2 f3 f4:FuncId):fJ:=fK 45 [0,1,2,3,38,52] [(55,f0),(109,f1),(108,f2),(60,f3),(105,f4)] []
def ER :AC:=im 46 [0,1,5,9,10,11,12] [0] [] []
def AT :fJ:=(λb0=>fK 46 [0,1,5,9,10,11,12] [] [b0]) (ER)
def Bi (f0 f1:FuncId):fJ:=fK 47 [0,1,2,3] [(110,f0),(61,f1)] []
def A8 (f0 f1 f2:FuncId):fJ:=fK 48 [0,1,4] [(58,f0),(109,f1),(108,f2)] []
def AW (f0:FuncId):fJ:=fK 49 [0,2,3] [(37,f0)] []
def ET (f0 f1 f2 f3 f4 f5 f6 f7:FuncId):AC:=im 50 [0,1,2,5,55,84,85,86,87] [0] [(59,f0),(60,f1),(43,f2),(58,f3),(40,f4),(111,f5),(112,f6),(61,f7)] []
def Bf (f0 f1 f2 f3 f4 f5 f6 f7:FuncId):fJ:=(λb0=>fK 50 [0,1,2,5,55,84,85,86,87] [(59,f0),(60,f1),(43,f2),(58,f3),(40,f4),(111,f5),(112,f6),(61,f7)] [b0]) (ET f0 f1 f2 f3 f4 f5 f6 f7)
def Ba (f0 f1 f2 f3 f4:FuncId):fJ:=fK 52 [0,1,2,3,6,7,8,55] [(49,f0),(116,f1),(105,f2),(117,f3),(118,f4)] []
def Be (f0 f1 f2 f3 f4 f5:FuncId):fJ:=fK 53 [0,1,2,3,4,5,6,57] [(49,f0),(119,f1),(46,f2),(58,f3),(120,f4),(54,f5)] []
def mD (f0 f1 f2 f3 f4:FuncId):fJ:=fK 56 [0,1,2,3,4,5,8,10,11,28] [(54,f0),(123,f1),(106,f2),(107,f3),(117,f4)] []
def uL :fJ:=fK 57 [0,1,2,3,7] [] []
def AZ (f0:FuncId):fJ:=fK 58 [0,2,3] [(55,f0)] []
def Bh (f0:FuncId):fJ:=fK 59 [0,1,2,3] [(117,f0)] []
def AU :fJ:=fK 60 [0,1] [] []
def Bd :fJ:=fK 61 [0,1,2,3] [] []
def mW (f0 f1 f2:FuncId):fJ:=fK 62 [0,1,2,3,4,25,38] [(124,f0),(59,f1),(61,f2)] []
def Bj (f0 f1 f2 f3 f4:FuncId):fJ:=fK 63 [0,1,2,3,32,54] [(108,f0),(48,f1),(58,f2),(40,f3),(111,f4)] []
def A_ (f0 f1 f2 f3 f4 f5:FuncId):fJ:=fK 64 [0,1,2,3,4,5,22,42,55] [(126,f0),(125,f1),(127,f2),(53,f3),(49,f4),(47,f5)] []
def mh (f0 f1 f2 f3 f4 f5:FuncId):fJ:=fK 65 [0,1,2,3,4,5,6,7,8,18,46,73,80] [(128,f0),(54,f1),(49,f2),(116,f3),(105,f4),(117,f5)] []
def Bc (f0 f1 f2 f3 f4 f5:FuncId):fJ:=fK 66 [0,1,2,3,4,5,6,7,8,16,43] [(128,f0),(113,f1),(129,f2),(51,f3),(130,f4),(56,f5)] []
def Kz (f0:FuncId):fJ:=fK 91 [0,2] [(163,f0)] []
def uM (f0:FuncId):fJ:=fK 106 [0,1,2] [(122,f0)] []
def Bb (f0 f1 f2 f3 f4 f5:FuncId):fJ:=fK 111 [0,1] [(49,f0),(118,f1),(52,f2),(47,f3),(46,f4),(53,f5)] []
def Bg :fJ:=fK 117 [0,1,2,3] [] []
def ES (f0 f1 f2 f3 f4:FuncId):AC:=im 118 [0,1,4,6,7,8,11,12,13,14,22,33] [0] [(58,f0),(183,f1),(184,f2),(185,f3),(125,f4)] []
def AY (f0 f1 f2 f3 f4:FuncId):fJ:=(λb0=>fK 118 [0,1,4,6,7,8,11,12,13,14,22,33] [(58,f0),(183,f1),(184,f2),(185,f3),(125,f4)] [b0]) (ES f0 f1 f2 f3 f4)
def wU :fJ:=fK 119 [0,1,2,3] [] []
def wT :fJ:=fK 126 [0,1,2,3] [] []
def A9 (f0:FuncId):fJ:=fK 128 [0,1,2,3,4,5] [(61,f0)] []
def wS :fJ:=fK 185 [0,1,2,3] [] []
def KA :fJ:=fK 163 [0,2,4] [] []
def E4 :AC:=im 125 [0,1,4,5,7,8,9,16] [0] [] []
def Bx :fJ:=(λb0=>fK 125 [0,1,4,5,7,8,9,16] [] [b0]) (E4)
def At (f0:FuncId):fJ:=fK 113 [0,2] [(107,f0)] []
def wV :fJ:=fK 107 [0,2,4] [] []
def Ax :fJ:=fK 232 [0] [] []
def sY (f0:FuncId):fJ:=fK 187 [0,1,4,5,6,23] [(232,f0)] []
def EJ (f0:FuncId):AC:=im 188 [0,2,3,4,5,7,14,15,16,17,18] [0] [(187,f0)] []
def Av (f0:FuncId):fJ:=(λb0=>fK 188 [0,2,3,4,5,7,14,15,16,17,18] [(187,f0)] [b0]) (EJ f0)
def Au (f0 f1:FuncId):fJ:=fK 129 [0,2,3] [(188,f0),(187,f1)] []
def EK (f0 f1:FuncId):AC:=im 182 [0,2,3,4,5,25,31,32,33] [0] [(188,f0),(232,f1)] []
def Aw (f0 f1:FuncId):fJ:=(λb0=>fK 182 [0,2,3,4,5,25,31,32,33] [(188,f0),(232,f1)] [b0]) (EK f0 f1)
def rv :fJ:=fK 246 [0,2] [] []
def ru :fJ:=fK 247 [0,2] [] []
def qk :fJ:=fK 130 [0,2,3,8] [] []
def EU (f0 f1 f2:FuncId):AC:=im 116 [0,1,2,3,6,7,8,10,11,12,13,14,32,35,36,37,58] [0] [(37,f0),(178,f1),(54,f2)] []
def Bl (f0 f1 f2:FuncId):fJ:=(λb0=>fK 116 [0,1,2,3,6,7,8,10,11,12,13,14,32,35,36,37,58] [(37,f0),(178,f1),(54,f2)] [b0]) (EU f0 f1 f2)
def Bn :fJ:=fK 37 [0,1,2,3,4,9] [] []
def Bq (f0:FuncId):fJ:=fK 54 [0,1,2,4,5,6,13,21] [(37,f0)] []
def Bm (f0 f1:FuncId):fJ:=fK 123 [0,1,2,4,5,6,7,15] [(54,f0),(178,f1)] []
def Bo (f0:FuncId):fJ:=fK 31 [0,1,2,3,6,7,8,16] [(37,f0)] []
def Bp (f0 f1:FuncId):fJ:=fK 105 [0,1,2,3,6,7,9,27] [(37,f0),(178,f1)] []
def EV :AC:=im 178 [0,2,3,5,6,7,8,9] [0] [] []
def Br :fJ:=(λb0=>fK 178 [0,2,3,5,6,7,8,9] [] [b0]) (EV)
def BA (f0:FuncId):fJ:=fK 124 [0,1,2,3,6,7,8] [(31,f0)] []
def BC :fJ:=fK 43 [0,2,3,7] [] []
def E8 (f0 f1:FuncId):AC:=im 112 [0,1,2,3,4,8,9,10,11,12,13,15,22,23,24,25,30] [0] [(37,f0),(109,f1)] []
def Bz (f0 f1:FuncId):fJ:=(λb0=>fK 112 [0,1,2,3,4,8,9,10,11,12,13,15,22,23,24,25,30] [(37,f0),(109,f1)] [b0]) (E8 f0 f1)
end Glb
