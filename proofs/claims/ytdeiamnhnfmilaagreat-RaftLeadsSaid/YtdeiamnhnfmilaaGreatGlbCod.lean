/-
  The codes of the functions: what each comes to, with the functions that it calls taken for any.
-/
import Derived.KernelRfl
import Derived.Test.YtdeiamnhnfmilaaGreatChecked
import Derived.Test.YtdeiamnhnfmilaaGreatGlbDef
set_option linter.unusedSimpArgs false
set_option linter.unusedVariables false
set_option maxRecDepth 100000
set_option maxHeartbeats 8000000
namespace Glb
open Go Go.Proofs
def tV:List (Nat×FuncId)->FuncId->FuncId
 | [],f=>f
 | (a,b)::r,f=>bif Nat.beq a f then b else tV r f
def Ku (l:List (Nat×FuncId)):fN->fN
 | .aA (.aL f a b)=>.aA (.aL (tV l f) a b)
 | o=>o
def vG (l:List (Nat×FuncId)):jB->jB
 | .aC f a=>.aC (tV l f) (a.map (Ku l))
 | .r (.x (.aC f a b))=>.r (.x (.aC (tV l f) a b))
 | .r (.aC f a)=>.r (.aC (tV l f) a)
 | o=>o
def mQ (l:List (Nat×FuncId)):AC->List AC->AC×List AC
 | .aH o,s=>(.aH (o.map λo=>{o with op:=vG l o.op}),s)
 | .aI r,s=>(.aI {r with aC:=r.aC.map λo=>{o with op:=vG l o.op}},s)
 | .aA a b,s=>match mQ l a s with
  | (a,s)=>match mQ l b s with
   | (b,s)=>(.aA a b,s)
 | .aG c a b,s=>match mQ l a s with
  | (a,s)=>match mQ l b s with
   | (b,s)=>(.aG c a b,s)
 | .aF i b,s=>match mQ l b s with
  | (b,s)=>(.aF i b,s)
 | .aD b,[]=>(.aD (mQ l b []).1,[])
 | .aD _,x::s=>(.aD x,s)
 | c,s=>(c,s)
def tU:AC->List AC
 | .aA a b=>tU a++tU b
 | .aG _ a b=>tU a++tU b
 | .aF _ b=>tU b
 | .aD b=>[b]
 | _=>[]
def Ac:List Nat->AC->AC
 | [],c=>c
 | i::p,c=>Ac p ((tU c)[i]?.getD .aK)
def iE (f:Nat)(k p:List Nat)(l:List (Nat×FuncId))(s:List AC){x:AC}(_:(rF Tryz.prog (λs=>k.contains s) f).map (λa=>(mQ l (Ac p a.aA) s).1)=some x:=by conv=>lhs;reduce;simp only[Int.reduceOfNat,Int.reduceNegSucc]):AC:=x
attribute [go_sem] iE
def fV (f:Nat)(k:List Nat)(l:List (Nat×FuncId))(s:List AC){x:Nat×AC×List kU}(_:(rF Tryz.prog (λs=>k.contains s) f).map (λa=>(a.n,(mQ l a.aA s).1,a.aC))=some x:=by conv=>lhs;reduce;simp only[Int.reduceOfNat,Int.reduceNegSucc]):fT:=⟨x.1,λs=>k.contains s,x.2.1,x.2.2⟩
attribute [go_sem] fV
theorem fW {P:Program}{f:FuncId}{c:fT}(h:(rF P c.aD f,fZ P f)=(some c,true):=by kernel_rfl):Is P f c:=⟨(Prod.mk.inj h).1,(Prod.mk.inj h).2⟩
def Fh:DC->AC
 | .aD a d=>.aA a (Fh d)
 | .aC _ _ _ r=>r
def Fi (l:List (Nat×FuncId)):DC->List AC->DC
 | .aD a d,s=>match mQ l a s with
  | (a,s)=>.aD a (Fi l d s)
 | .aC o g a r,s=>.aC (o.map λo=>{o with op:=vG l o.op}) (tV l g) a (mQ l r s).1
def Kt (f:Nat)(k p:List Nat)(l:List (Nat×FuncId))(s:List AC){x:AC}(_:(wh Tryz.prog (λs=>k.contains s) f).map (λa=>(mQ l (Ac p (Fh a.aA)) s).1)=some x:=by conv=>lhs;reduce;simp only[Int.reduceOfNat,Int.reduceNegSucc]):AC:=x
attribute [go_sem] Kt
def Ab (f:Nat)(k:List Nat)(l:List (Nat×FuncId))(s:List AC){x:Nat×DC×List kU}(_:(wh Tryz.prog (λs=>k.contains s) f).map (λa=>(a.n,Fi l a.aA s,a.aC))=some x:=by conv=>lhs;reduce;simp only[Int.reduceOfNat,Int.reduceNegSucc]):tW:=⟨x.1,λs=>k.contains s,x.2.1,x.2.2⟩
attribute [go_sem] Ab
def si (l:List (Nat×FuncId)):RC->RC
 | .aC a=>.aC (mQ l a []).1
 | .aF a=>.aF (mQ l a []).1
 | .aH a b=>.aH (si l a) (si l b)
 | .aD c a b=>.aD c (si l a) (si l b)
 | .aA i b=>.aA i (si l b)
 | .aE b=>.aE (si l b)
 | .aI p d x a q=>.aI (p.map λo=>{o with op:=vG l o.op}) d x a (q.map λo=>{o with op:=vG l o.op})
 | .aG g p a b=>.aG g p (mQ l a []).1 (mQ l b []).1
def Ad (i:Bool)(f:Nat)(k:List Nat)(l:List (Nat×FuncId)){x:Nat×RC×List kU}(_:(uE Tryz.prog (λs=>k.contains s) i f).map (λa=>(a.n,si l a.aA,a.aC))=some x:=by conv=>lhs;reduce;simp only[Int.reduceOfNat,Int.reduceNegSucc]):sF:=⟨x.1,λs=>k.contains s,x.2.1,x.2.2⟩
attribute [go_sem] Ad
def MI (f0 f1 f2:FuncId):fT:=fV 174 [0,1,2,4,5,6,11,17] [(225,f0),(108,f1),(122,f2)] []
def MJ (f0 f1 f2 f3:FuncId):fT:=fV 173 [0,1,2,4,5,6,7,12,19,23] [(225,f0),(179,f1),(122,f2),(226,f3)] []
def MK (f0 f1 f2 f3 f4 f5 f6:FuncId):fT:=fV 172 [0,1,2,3,4,5,6,7,8,31,47] [(220,f0),(68,f1),(221,f2),(222,f3),(122,f4),(223,f5),(224,f6)] []
def ML (f0:FuncId):fT:=fV 220 [0,1,3] [(108,f0)] []
def MM (f0 f1:FuncId):fT:=fV 225 [0,1,2,4,5,9,16] [(68,f0),(221,f1)] []
def MO :fT:=fV 221 [0,1,2] [] []
def MP (f0 f1:FuncId):fT:=fV 223 [0,1,2,3] [(122,f0),(228,f1)] []
def MN (f0:FuncId):fT:=fV 224 [0,1,2] [(122,f0)] []
def rH :fT:=fV 122 [0,2,4] [] []
def M_ :fT:=fV 226 [0,1,2,6,7,16] [] []
def M4 (f0:FuncId):fT:=fV 222 [0,1,4] [(253,f0)] []
def Nc :AC:=iE 253 [0,1,4,5,7,8,9,16] [0] [] []
def Nb :fT:=(λb0=>fV 253 [0,1,4,5,7,8,9,16] [] [b0]) (Nc)
def wY (f_slices_Backward_api_Entry_api_Entry f_image_GetConf f_slices_Clone_int_int:FuncId):sF:=Ad false 55 [0,1,2,3,4,5,6,7,8,12,13,14,17,25] [(121,f_slices_Backward_api_Entry_api_Entry),(51,f_image_GetConf),(122,f_slices_Clone_int_int)]
def Db (f_slices_Backward_api_Entry_api_Entry_f1:FuncId):fT:=fV 121 [0,1,2] [(186,f_slices_Backward_api_Entry_api_Entry_f1)] []
def zW :sF:=Ad true 186 [0,1,3,8,18] []
def Bb (f0 f1 f2 f3:FuncId):fT:=fV 110 [0,1,2,3,4,5,7,10,11,12,19] [(175,f0),(181,f1),(54,f2),(105,f3)] []
def A_ :fT:=fV 127 [0,1,2,3,4,17,26] [] []
def Ba :fT:=fV 184 [0,1,4] [] []
def Bo (f0:FuncId):fT:=fV 39 [0,1,2,3,4] [(103,f0)] []
def GL (f0:FuncId):AC:=iE 103 [0,1,4,5,10,14,26] [0] [(176,f0)] []
def Bl (f0:FuncId):fT:=(λb0=>fV 103 [0,1,4,5,10,14,26] [(176,f0)] [b0]) (GL f0)
def Bh (f0:FuncId):fT:=fV 69 [0,1,2] [(135,f0)] []
def GI (f0:FuncId):AC:=iE 135 [0,2,3,4,8] [0] [(71,f0)] []
def Be (f0:FuncId):fT:=(λb0=>fV 135 [0,2,3,4,8] [(71,f0)] [b0]) (GI f0)
def Bm (f0:FuncId):fT:=fV 176 [0,1,2,3,4] [(74,f0)] []
def GH :AC:=iE 71 [0,2,3,4,8] [0] [] []
def Bc :fT:=(λb0=>fV 71 [0,2,3,4,8] [] [b0]) (GH)
def GK :AC:=iE 74 [0,1,4,5,10,14,25] [0] [] []
def yw :fT:=(λb0=>fV 74 [0,1,4,5,10,14,25] [] [b0]) (GK)
def GJ :AC:=iE 41 [0,2,3,4,8] [0] [] []
def Bg :fT:=(λb0=>fV 41 [0,2,3,4,8] [] [b0]) (GJ)
def Bj :fT:=fV 22 [0,1,4,6,11] [] []
def Bf (f0 f1 f2:FuncId):fT:=fV 23 [0,1,2] [(69,f0),(70,f1),(71,f2)] []
def Bn (f0 f1 f2:FuncId):fT:=fV 25 [0,1,2,3,4] [(39,f0),(73,f1),(74,f2)] []
def Bi (f0 f1:FuncId):fT:=fV 79 [0,1,2] [(135,f0),(71,f1)] []
def Bd (f0:FuncId):fT:=fV 70 [0,1,2] [(41,f0)] []
def MQ :AC:=iE 136 [0,1,4,5,10,14,25] [0] [] []
def GM :fT:=(λb0=>fV 136 [0,1,4,5,10,14,25] [] [b0]) (MQ)
def Bk (f0:FuncId):fT:=fV 73 [0,1,2,3,4] [(136,f0)] []
def yx (f0 f1 f2 f3 f4 f5 f6 f7 f8 f9 f10 f11 f12:FuncId):AC:=iE 7 [0,2,3,4,5,6,7,8,9,10,11,12,13,14,24,39,96,112,119,125,170] [0] [(33,f0),(22,f1),(34,f2),(35,f3),(18,f4),(19,f5),(12,f6),(36,f7),(15,f8),(37,f9),(38,f10),(39,f11),(20,f12)] []
def Bp (f0 f1 f2 f3 f4 f5 f6 f7 f8 f9 f10 f11 f12:FuncId):AC:=iE 7 [0,2,3,4,5,6,7,8,9,10,11,12,13,14,24,39,96,112,119,125,170] [1] [(33,f0),(22,f1),(34,f2),(35,f3),(18,f4),(19,f5),(12,f6),(36,f7),(15,f8),(37,f9),(38,f10),(39,f11),(20,f12)] []
def Bq (f0 f1 f2 f3 f4 f5 f6 f7 f8 f9 f10 f11 f12:FuncId):AC:=iE 7 [0,2,3,4,5,6,7,8,9,10,11,12,13,14,24,39,96,112,119,125,170] [2] [(33,f0),(22,f1),(34,f2),(35,f3),(18,f4),(19,f5),(12,f6),(36,f7),(15,f8),(37,f9),(38,f10),(39,f11),(20,f12)] []
def Br (f0 f1 f2 f3 f4 f5 f6 f7 f8 f9 f10 f11 f12:FuncId):AC:=iE 7 [0,2,3,4,5,6,7,8,9,10,11,12,13,14,24,39,96,112,119,125,170] [3] [(33,f0),(22,f1),(34,f2),(35,f3),(18,f4),(19,f5),(12,f6),(36,f7),(15,f8),(37,f9),(38,f10),(39,f11),(20,f12)] []
def iT (f0 f1 f2 f3 f4 f5 f6 f7 f8 f9 f10 f11 f12:FuncId):fT:=(λb0 b1 b2 b3=>fV 7 [0,2,3,4,5,6,7,8,9,10,11,12,13,14,24,39,96,112,119,125,170] [(33,f0),(22,f1),(34,f2),(35,f3),(18,f4),(19,f5),(12,f6),(36,f7),(15,f8),(37,f9),(38,f10),(39,f11),(20,f12)] [b0,b1,b2,b3]) (yx f0 f1 f2 f3 f4 f5 f6 f7 f8 f9 f10 f11 f12) (Bp f0 f1 f2 f3 f4 f5 f6 f7 f8 f9 f10 f11 f12) (Bq f0 f1 f2 f3 f4 f5 f6 f7 f8 f9 f10 f11 f12) (Br f0 f1 f2 f3 f4 f5 f6 f7 f8 f9 f10 f11 f12)
def Bs :fT:=fV 10 [0] [] []
def GO (f0 f1 f2 f3 f4 f5:FuncId):AC:=iE 20 [0,1,2,3,4,5,6,7,11,13,26] [0] [(10,f0),(9,f1),(11,f2),(19,f3),(12,f4),(38,f5)] []
def Bw (f0 f1 f2 f3 f4 f5:FuncId):fT:=(λb0=>fV 20 [0,1,2,3,4,5,6,7,11,13,26] [(10,f0),(9,f1),(11,f2),(19,f3),(12,f4),(38,f5)] [b0]) (GO f0 f1 f2 f3 f4 f5)
def Bu (f0 f1:FuncId):AC:=iE 33 [0,2,3,4,5,6,7,11,23] [0] [(9,f0),(23,f1)] []
def Bv (f0 f1:FuncId):AC:=iE 33 [0,2,3,4,5,6,7,11,23] [1] [(9,f0),(23,f1)] []
def Bt (f0 f1:FuncId):fT:=(λb0 b1=>fV 33 [0,2,3,4,5,6,7,11,23] [(9,f0),(23,f1)] [b0,b1]) (Bu f0 f1) (Bv f0 f1)
def jS (f0 f1 f2 f3 f4 f5 f6 f7 f8:FuncId):fT:=fV 34 [0,1,3,4,5,6,8,9,10,11,31,39,55,59,63,65,85,95,113,132,137,178,207,212] [(22,f0),(11,f1),(36,f2),(99,f3),(79,f4),(12,f5),(9,f6),(14,f7),(100,f8)] []
def Bz (f0 f1 f2:FuncId):AC:=iE 35 [0,2,3,4,6,24,33] [0] [(11,f0),(36,f1),(99,f2)] []
def BA (f0 f1 f2:FuncId):AC:=iE 35 [0,2,3,4,6,24,33] [1,0] [(11,f0),(36,f1),(99,f2)] []
def BC (f0 f1 f2:FuncId):AC:=(λb0=>iE 35 [0,2,3,4,6,24,33] [1] [(11,f0),(36,f1),(99,f2)] [b0]) (BA f0 f1 f2)
def By (f0 f1 f2:FuncId):fT:=(λb0 b1=>fV 35 [0,2,3,4,6,24,33] [(11,f0),(36,f1),(99,f2)] [b0,b1]) (Bz f0 f1 f2) (BC f0 f1 f2)
def BI (f0 f1 f2 f3 f4 f5:FuncId):AC:=iE 36 [0,1,2,5,6,7,8,9,14,34,65,93] [0] [(30,f0),(15,f1),(25,f2),(101,f3),(19,f4),(102,f5)] []
def BH (f0 f1 f2 f3 f4 f5:FuncId):fT:=(λb0=>fV 36 [0,1,2,5,6,7,8,9,14,34,65,93] [(30,f0),(15,f1),(25,f2),(101,f3),(19,f4),(102,f5)] [b0]) (BI f0 f1 f2 f3 f4 f5)
def BD (f0 f1:FuncId):fT:=fV 99 [0,1,4,38] [(17,f0),(36,f1)] []
def MS (f0 f1 f2 f3 f4 f5 f6 f7 f8 f9 f10 f11:FuncId):AC:=iE 100 [0,1,2,3,8,9,10,11,12,14,15,16,17,18,20,21,55,73,82,98,99,113,129] [0] [(15,f0),(55,f1),(19,f2),(38,f3),(37,f4),(91,f5),(172,f6),(173,f7),(174,f8),(175,f9),(12,f10),(36,f11)] []
def MR (f0 f1 f2 f3 f4 f5 f6 f7 f8 f9 f10 f11:FuncId):fT:=(λb0=>fV 100 [0,1,2,3,8,9,10,11,12,14,15,16,17,18,20,21,55,73,82,98,99,113,129] [(15,f0),(55,f1),(19,f2),(38,f3),(37,f4),(91,f5),(172,f6),(173,f7),(174,f8),(175,f9),(12,f10),(36,f11)] [b0]) (MS f0 f1 f2 f3 f4 f5 f6 f7 f8 f9 f10 f11)
def yy (f0:FuncId):AC:=iE 101 [0,1,2,3,7,8,9,11,46,54,70,80,118] [0] [(176,f0)] []
def Bx (f0:FuncId):fT:=(λb0=>fV 101 [0,1,2,3,7,8,9,11,46,54,70,80,118] [(176,f0)] [b0]) (yy f0)
def BF (f0 f1:FuncId):AC:=iE 102 [0,1,2,5,6,7,8,15,27,77,114] [0] [(105,f0),(176,f1)] []
def BG (f0 f1:FuncId):AC:=iE 102 [0,1,2,5,6,7,8,15,27,77,114] [1] [(105,f0),(176,f1)] []
def BE (f0 f1:FuncId):fT:=(λb0 b1=>fV 102 [0,1,2,5,6,7,8,15,27,77,114] [(105,f0),(176,f1)] [b0,b1]) (BF f0 f1) (BG f0 f1)
def Ce (f0 f1:FuncId):fT:=fV 245 [0,1,4] [(231,f0),(230,f1)] []
def GU (f0:FuncId):AC:=iE 218 [0,1,4,6,7,8,9,10] [0] [(245,f0)] []
def BS (f0:FuncId):fT:=(λb0=>fV 218 [0,1,4,6,7,8,9,10] [(245,f0)] [b0]) (GU f0)
def BV (f0 f1:FuncId):fT:=fV 251 [0,1,3,4] [(218,f0),(181,f1)] []
def BX (f0 f1 f2:FuncId):fT:=fV 217 [0,1,3,4] [(218,f0),(250,f1),(251,f2)] []
def BY (f0:FuncId):fT:=fV 213 [0,1,3,4] [(218,f0)] []
def BW (f0 f1 f2 f3:FuncId):fT:=fV 212 [0,1,3,4] [(218,f0),(217,f1),(219,f2),(181,f3)] []
def BT (f0 f1 f2 f3 f4:FuncId):fT:=fV 169 [0,1,3,4] [(218,f0),(217,f1),(219,f2),(181,f3),(213,f4)] []
def BL (f0 f1 f2 f3:FuncId):fT:=fV 164 [0,1,2] [(211,f0),(212,f1),(210,f2),(213,f3)] []
def GY (f0:FuncId):AC:=iE 250 [0,1,2,6,8,13,14,15,16] [0] [(245,f0)] []
def yB (f0:FuncId):fT:=(λb0=>fV 250 [0,1,2,6,8,13,14,15,16] [(245,f0)] [b0]) (GY f0)
def MW (f0:FuncId):AC:=iE 211 [0,1,2,6,8,13,14,15,16] [0] [(245,f0)] []
def GZ (f0:FuncId):fT:=(λb0=>fV 211 [0,1,2,6,8,13,14,15,16] [(245,f0)] [b0]) (MW f0)
def MV (f0:FuncId):AC:=iE 210 [0,1,2,6,8,13,14,15,16] [0] [(245,f0)] []
def GX (f0:FuncId):fT:=(λb0=>fV 210 [0,1,2,6,8,13,14,15,16] [(245,f0)] [b0]) (MV f0)
def GR (f0 f1 f2:FuncId):AC:=iE 261 [0,1,4,5,6,7,18,19,20,21,28] [0] [(188,f0),(246,f1),(247,f2)] []
def yz (f0 f1 f2:FuncId):fT:=(λb0=>fV 261 [0,1,4,5,6,7,18,19,20,21,28] [(188,f0),(246,f1),(247,f2)] [b0]) (GR f0 f1 f2)
def MU (f0 f1 f2:FuncId):AC:=iE 214 [0,1,4,5,6,7,18,19,20,21,28] [0] [(188,f0),(246,f1),(247,f2)] []
def GS (f0 f1 f2:FuncId):fT:=(λb0=>fV 214 [0,1,4,5,6,7,18,19,20,21,28] [(188,f0),(246,f1),(247,f2)] [b0]) (MU f0 f1 f2)
def MT (f0 f1 f2:FuncId):AC:=iE 216 [0,1,4,5,6,7,18,19,20,21,28] [0] [(188,f0),(246,f1),(247,f2)] []
def GQ (f0 f1 f2:FuncId):fT:=(λb0=>fV 216 [0,1,4,5,6,7,18,19,20,21,28] [(188,f0),(246,f1),(247,f2)] [b0]) (MT f0 f1 f2)
def yA (f0:FuncId):fT:=fV 248 [0,1,4,5,6,17] [(261,f0)] []
def GW (f0:FuncId):fT:=fV 165 [0,1,4,5,6,17] [(214,f0)] []
def GV (f0:FuncId):fT:=fV 167 [0,1,4,5,6,17] [(216,f0)] []
def B8 (f0 f1:FuncId):fT:=fV 249 [0,2,3] [(188,f0),(129,f1)] []
def Ca (f0 f1 f2:FuncId):fT:=fV 215 [0,2,3] [(188,f0),(249,f1),(248,f2)] []
def B7 (f0:FuncId):fT:=fV 114 [0,2] [(182,f0)] []
def Cb (f0:FuncId):fT:=fV 168 [0,2] [(188,f0)] []
def B_ (f0 f1 f2 f3:FuncId):fT:=fV 166 [0,2,3] [(188,f0),(215,f1),(114,f2),(129,f3)] []
def BZ (f0 f1 f2 f3 f4:FuncId):fT:=fV 170 [0,2,3] [(188,f0),(215,f1),(114,f2),(129,f3),(168,f4)] []
def yC (f0:FuncId):fT:=fV 115 [0,2,6] [(130,f0)] []
def BP :fT:=fV 171 [0,1,2,3,4] [] []
def BK (f0 f1 f2 f3:FuncId):fT:=fV 51 [0,2,3,4,5,6,16,20] [(113,f0),(114,f1),(115,f2),(68,f3)] []
def BQ (f0 f1 f2 f3 f4 f5:FuncId):fT:=fV 95 [0,1,2,3,4] [(164,f0),(113,f1),(166,f2),(165,f3),(168,f4),(167,f5)] []
def BR (f0 f1 f2:FuncId):fT:=fV 96 [0,1,2,3] [(169,f0),(113,f1),(170,f2)] []
def BO (f0:FuncId):AC:=iE 97 [0,1,3,4,5,17,43] [0] [(171,f0)] []
def BN (f0:FuncId):fT:=(λb0=>fV 97 [0,1,3,4,5,17,43] [(171,f0)] [b0]) (BO f0)
def Cc (f0 f1 f2:FuncId):fT:=fV 98 [0,1,2,3,4,5,6,8,9,10,11,12,14,15,23,43,64,84] [(37,f0),(54,f1),(123,f2)] []
def GP (f0 f1 f2 f3:FuncId):AC:=iE 30 [0,1,2,3,4,5,6,7,8,16,24,34,35,36,46,58] [0] [(95,f0),(96,f1),(97,f2),(98,f3)] []
def BJ (f0 f1 f2 f3:FuncId):fT:=(λb0=>fV 30 [0,1,2,3,4,5,6,7,8,16,24,34,35,36,46,58] [(95,f0),(96,f1),(97,f2),(98,f3)] [b0]) (GP f0 f1 f2 f3)
def BM (f0:FuncId):fT:=fV 175 [0,1,2] [(219,f0)] []
def BU (f0:FuncId):fT:=fV 219 [0,1,3,4] [(252,f0)] []
def Cd (f0 f1:FuncId):fT:=fV 181 [0,1,4] [(231,f0),(230,f1)] []
def G4 (f0 f1:FuncId):AC:=iE 252 [0,1,4,5,7,17,18,19,20] [0] [(231,f0),(230,f1)] []
def Cf (f0 f1:FuncId):fT:=(λb0=>fV 252 [0,1,4,5,7,17,18,19,20] [(231,f0),(230,f1)] [b0]) (G4 f0 f1)
def G7 :AC:=iE 230 [0,1,4,5,7] [0] [] []
def Cn :fT:=(λb0=>fV 230 [0,1,4,5,7] [] [b0]) (G7)
def Co :fT:=fV 231 [0,1,4] [] []
def G8 (f0:FuncId):AC:=iE 120 [0,1,2,3,6,7,8,10,11,12,13,21,22,23,24,29,32,33,34,35,44,52] [0,0] [(40,f0)] []
def G9 (f0:FuncId):AC:=(λb0=>iE 120 [0,1,2,3,6,7,8,10,11,12,13,21,22,23,24,29,32,33,34,35,44,52] [0] [(40,f0)] [b0]) (G8 f0)
def Cp (f0:FuncId):fT:=(λb0=>fV 120 [0,1,2,3,6,7,8,10,11,12,13,21,22,23,24,29,32,33,34,35,44,52] [(40,f0)] [b0]) (G9 f0)
def Ct (f0:FuncId):fT:=fV 40 [0,1,2,4] [(104,f0)] []
def Cq (f0 f1 f2:FuncId):fT:=fV 68 [0,1,2,3,33] [(132,f0),(133,f1),(134,f2)] []
def Cs (f0:FuncId):fT:=fV 109 [0,1,2] [(180,f0)] []
def Cr (f0:FuncId):fT:=fV 183 [0,1,2] [(180,f0)] []
def Cv (f0 f1:FuncId):fT:=fV 104 [0,1,3,4] [(177,f0),(134,f1)] []
def yD (f0:FuncId):fT:=fV 132 [0,1,3] [(108,f0)] []
def Df (f0:FuncId):fT:=fV 108 [0,1,4] [(179,f0)] []
def Ha :AC:=iE 133 [0,2,3,4,5,6,7,8,30] [0] [] []
def Cw :fT:=(λb0=>fV 133 [0,2,3,4,5,6,7,8,30] [] [b0]) (Ha)
def G_ :AC:=iE 134 [0,1,4,5,7,8,9,10,11,16] [0] [] []
def Cu :fT:=(λb0=>fV 134 [0,1,4,5,7,8,9,10,11,16] [] [b0]) (G_)
def Cx (f0 f1 f2:FuncId):fT:=fV 180 [0,2,3] [(227,f0),(228,f1),(229,f2)] []
def yE (f0:FuncId):fT:=fV 177 [0,1,3] [(108,f0)] []
def Hm :AC:=iE 179 [0,1,4,5,7,8,9,16] [0] [] []
def Dj :fT:=(λb0=>fV 179 [0,1,4,5,7,8,9,16] [] [b0]) (Hm)
def Hj (f0:FuncId):AC:=iE 227 [0,2,3,5,6,8,9,10,11,12,20,25,26,27,28] [0] [(254,f0)] []
def Hk (f0:FuncId):AC:=iE 227 [0,2,3,5,6,8,9,10,11,12,20,25,26,27,28] [1] [(254,f0)] []
def De (f0:FuncId):fT:=(λb0 b1=>fV 227 [0,2,3,5,6,8,9,10,11,12,20,25,26,27,28] [(254,f0)] [b0,b1]) (Hj f0) (Hk f0)
def Hh :AC:=iE 229 [0,2,3,4,5,8,13,25,32,44] [0,0] [] []
def Hi :AC:=(λb0=>iE 229 [0,2,3,4,5,8,13,25,32,44] [0] [] [b0]) (Hh)
def Dd :fT:=(λb0=>fV 229 [0,2,3,4,5,8,13,25,32,44] [] [b0]) (Hi)
def Dg :fT:=fV 254 [0,1,4,6,16] [] []
def Cy (f0 f1:FuncId):fT:=fV 9 [0,1,2,4,6] [(42,f0),(43,f1)] []
def rK (f0 f1 f2 f3 f4 f5 f6:FuncId):tW:=Ab 11 [0,1,4,5,13,25,69] [(44,f0),(45,f1),(47,f2),(46,f3),(48,f4),(49,f5),(50,f6)] []
def nk (f0 f1 f2 f3 f4 f5 f6 f7:FuncId):fT:=fV 12 [0,1,2,6,7,8,9,11,12,13,19,26,34,42] [(51,f0),(49,f1),(44,f2),(52,f3),(47,f4),(46,f5),(53,f6),(45,f7)] []
def MX (f0 f1 f2 f3 f4:FuncId):fT:=fV 14 [0,1,2,6,7,8,9,10,12,14,30] [(55,f0),(54,f1),(44,f2),(56,f3),(45,f4)] []
def CA (f0:FuncId):fT:=fV 15 [0,2] [(42,f0)] []
def jZ (f0 f1 f2 f3 f4 f5 f6 f7 f8 f9 f10:FuncId):tW:=Ab 17 [0,1,3,4,5,38,46,60,62,63,70,79,84,94,101,106,111] [(44,f0),(45,f1),(48,f2),(59,f3),(60,f4),(61,f5),(62,f6),(63,f7),(64,f8),(65,f9),(66,f10)] []
def CB :fT:=fV 18 [0,2] [] []
def CC :fT:=fV 19 [0,2] [] []
def Cz :fT:=fV 38 [0,2] [] []
def CX (f0 f1 f2:FuncId):fT:=fV 42 [0,1,2] [(105,f0),(106,f1),(107,f2)] []
def CD :fT:=fV 44 [0,1,4] [] []
def lY (f0 f1 f2 f3 f4:FuncId):fT:=fV 45 [0,1,2,3,38,52] [(55,f0),(109,f1),(108,f2),(60,f3),(105,f4)] []
def Hc :AC:=iE 46 [0,1,5,9,10,11,12] [0] [] []
def CE :fT:=(λb0=>fV 46 [0,1,5,9,10,11,12] [] [b0]) (Hc)
def CV (f0 f1:FuncId):fT:=fV 47 [0,1,2,3] [(110,f0),(61,f1)] []
def CK (f0 f1 f2:FuncId):fT:=fV 48 [0,1,4] [(58,f0),(109,f1),(108,f2)] []
def CG (f0:FuncId):fT:=fV 49 [0,2,3] [(37,f0)] []
def He (f0 f1 f2 f3 f4 f5 f6 f7:FuncId):AC:=iE 50 [0,1,2,5,55,84,85,86,87] [0] [(59,f0),(60,f1),(43,f2),(58,f3),(40,f4),(111,f5),(112,f6),(61,f7)] []
def CS (f0 f1 f2 f3 f4 f5 f6 f7:FuncId):fT:=(λb0=>fV 50 [0,1,2,5,55,84,85,86,87] [(59,f0),(60,f1),(43,f2),(58,f3),(40,f4),(111,f5),(112,f6),(61,f7)] [b0]) (He f0 f1 f2 f3 f4 f5 f6 f7)
def CN (f0 f1 f2 f3 f4:FuncId):fT:=fV 52 [0,1,2,3,6,7,8,55] [(49,f0),(116,f1),(105,f2),(117,f3),(118,f4)] []
def CR (f0 f1 f2 f3 f4 f5:FuncId):fT:=fV 53 [0,1,2,3,4,5,6,57] [(49,f0),(119,f1),(46,f2),(58,f3),(120,f4),(54,f5)] []
def np (f0 f1 f2 f3 f4:FuncId):fT:=fV 56 [0,1,2,3,4,5,8,10,11,28] [(54,f0),(123,f1),(106,f2),(107,f3),(117,f4)] []
def CJ (f0:FuncId):fT:=fV 58 [0,2,3] [(55,f0)] []
def CU (f0:FuncId):fT:=fV 59 [0,1,2,3] [(117,f0)] []
def CF :fT:=fV 60 [0,1] [] []
def CQ :fT:=fV 61 [0,1,2,3] [] []
def nR (f0 f1 f2:FuncId):fT:=fV 62 [0,1,2,3,4,25,38] [(124,f0),(59,f1),(61,f2)] []
def CW (f0 f1 f2 f3 f4:FuncId):fT:=fV 63 [0,1,2,3,32,54] [(108,f0),(48,f1),(58,f2),(40,f3),(111,f4)] []
def CM (f0 f1 f2 f3 f4 f5:FuncId):fT:=fV 64 [0,1,2,3,4,5,22,42,55] [(126,f0),(125,f1),(127,f2),(53,f3),(49,f4),(47,f5)] []
def mV (f0 f1 f2 f3 f4 f5:FuncId):fT:=fV 65 [0,1,2,3,4,5,6,7,8,18,46,73,80] [(128,f0),(54,f1),(49,f2),(116,f3),(105,f4),(117,f5)] []
def CP (f0 f1 f2 f3 f4 f5:FuncId):fT:=fV 66 [0,1,2,3,4,5,6,7,8,16,43] [(128,f0),(113,f1),(129,f2),(51,f3),(130,f4),(56,f5)] []
def MY (f0:FuncId):fT:=fV 91 [0,2] [(163,f0)] []
def wm (f0:FuncId):fT:=fV 106 [0,1,2] [(122,f0)] []
def CO (f0 f1 f2 f3 f4 f5:FuncId):fT:=fV 111 [0,1] [(49,f0),(118,f1),(52,f2),(47,f3),(46,f4),(53,f5)] []
def CT :fT:=fV 117 [0,1,2,3] [] []
def Hd (f0 f1 f2 f3 f4:FuncId):AC:=iE 118 [0,1,4,6,7,8,11,12,13,14,22,33] [0] [(58,f0),(183,f1),(184,f2),(185,f3),(125,f4)] []
def CI (f0 f1 f2 f3 f4:FuncId):fT:=(λb0=>fV 118 [0,1,4,6,7,8,11,12,13,14,22,33] [(58,f0),(183,f1),(184,f2),(185,f3),(125,f4)] [b0]) (Hd f0 f1 f2 f3 f4)
def yH :fT:=fV 119 [0,1,2,3] [] []
def yG :fT:=fV 126 [0,1,2,3] [] []
def CL (f0:FuncId):fT:=fV 128 [0,1,2,3,4,5] [(61,f0)] []
def yF :fT:=fV 185 [0,1,2,3] [] []
def MZ :fT:=fV 163 [0,2,4] [] []
def Hl :AC:=iE 125 [0,1,4,5,7,8,9,16] [0] [] []
def Dh :fT:=(λb0=>fV 125 [0,1,4,5,7,8,9,16] [] [b0]) (Hl)
def Cg (f0:FuncId):fT:=fV 113 [0,2] [(107,f0)] []
def yI :fT:=fV 107 [0,2,4] [] []
def Cm :fT:=fV 232 [0] [] []
def uF (f0:FuncId):fT:=fV 187 [0,1,4,5,6,23] [(232,f0)] []
def G5 (f0:FuncId):AC:=iE 188 [0,2,3,4,5,7,14,15,16,17,18] [0] [(187,f0)] []
def Ck (f0:FuncId):fT:=(λb0=>fV 188 [0,2,3,4,5,7,14,15,16,17,18] [(187,f0)] [b0]) (G5 f0)
def Ch (f0 f1:FuncId):fT:=fV 129 [0,2,3] [(188,f0),(187,f1)] []
def G6 (f0 f1:FuncId):AC:=iE 182 [0,2,3,4,5,25,31,32,33] [0] [(188,f0),(232,f1)] []
def Cl (f0 f1:FuncId):fT:=(λb0=>fV 182 [0,2,3,4,5,25,31,32,33] [(188,f0),(232,f1)] [b0]) (G6 f0 f1)
def sY :fT:=fV 246 [0,2] [] []
def sX :fT:=fV 247 [0,2] [] []
def rG :fT:=fV 130 [0,2,3,8] [] []
def Hf (f0 f1 f2:FuncId):AC:=iE 116 [0,1,2,3,6,7,8,10,11,12,13,14,32,35,36,37,58] [0] [(37,f0),(178,f1),(54,f2)] []
def CY (f0 f1 f2:FuncId):fT:=(λb0=>fV 116 [0,1,2,3,6,7,8,10,11,12,13,14,32,35,36,37,58] [(37,f0),(178,f1),(54,f2)] [b0]) (Hf f0 f1 f2)
def C7 :fT:=fV 37 [0,1,2,3,4,9] [] []
def C_ (f0:FuncId):fT:=fV 54 [0,1,2,4,5,6,13,21] [(37,f0)] []
def CZ (f0 f1:FuncId):fT:=fV 123 [0,1,2,4,5,6,7,15] [(54,f0),(178,f1)] []
def C8 (f0:FuncId):fT:=fV 31 [0,1,2,3,6,7,8,16] [(37,f0)] []
def C9 (f0 f1:FuncId):fT:=fV 105 [0,1,2,3,6,7,9,27] [(37,f0),(178,f1)] []
def Hg :AC:=iE 178 [0,2,3,5,6,7,8,9] [0] [] []
def Da :fT:=(λb0=>fV 178 [0,2,3,5,6,7,8,9] [] [b0]) (Hg)
def Dl (f0:FuncId):fT:=fV 124 [0,1,2,3,6,7,8] [(31,f0)] []
def Dm :fT:=fV 43 [0,2,3,7] [] []
def Hn (f0 f1:FuncId):AC:=iE 112 [0,1,2,3,4,8,9,10,11,12,13,15,22,23,24,25,30] [0] [(37,f0),(109,f1)] []
def Dk (f0 f1:FuncId):fT:=(λb0=>fV 112 [0,1,2,3,4,8,9,10,11,12,13,15,22,23,24,25,30] [(37,f0),(109,f1)] [b0]) (Hn f0 f1)
end Glb
