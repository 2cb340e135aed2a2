/-
  The codes of the functions: what each comes to, with the functions that it calls taken for any.
-/
import Derived.KernelRfl
import Derived.Test.YtdeiamnhnfmilaaGreatChecked
import Derived.Test.YtdeiamnhnfmilaaGreatGlbDef
set_option linter.unusedSimpArgs false
set_option linter.unusedVariables false
set_option maxRecDepth 100000
set_option maxHeartbeats 8000000
namespace Glb
open Go Go.Proofs
def ri:List (Nat×FuncId)->FuncId->FuncId
 | [],f=>f
 | (a,b)::r,f=>bif Nat.beq a f then b else ri r f
def Jc (l:List (Nat×FuncId)):fJ->fJ
 | .aC (.aM f a b)=>.aC (.aM (ri l f) a b)
 | o=>o
def tq (l:List (Nat×FuncId)):i_->i_
 | .aB f a=>.aB (ri l f) (a.map (Jc l))
 | .r (.x (.aC f a b))=>.r (.x (.aC (ri l f) a b))
 | .r (.aG f a)=>.r (.aG (ri l f) a)
 | o=>o
def kZ (l:List (Nat×FuncId)):AC->List AC->AC×List AC
 | .aC o,s=>(.aC (o.map λo=>{o with op:=tq l o.op}),s)
 | .aK r,s=>(.aK {r with aB:=r.aB.map λo=>{o with op:=tq l o.op}},s)
 | .aB a b,s=>match kZ l a s with
  | (a,s)=>match kZ l b s with
   | (b,s)=>(.aB a b,s)
 | .aE c a b,s=>match kZ l a s with
  | (a,s)=>match kZ l b s with
   | (b,s)=>(.aE c a b,s)
 | .aD i b,s=>match kZ l b s with
  | (b,s)=>(.aD i b,s)
 | .aF b,[]=>(.aF (kZ l b []).1,[])
 | .aF _,x::s=>(.aF x,s)
 | c,s=>(c,s)
def q_:AC->List AC
 | .aB a b=>q_ a++q_ b
 | .aE _ a b=>q_ a++q_ b
 | .aD _ b=>q_ b
 | .aF b=>[b]
 | _=>[]
def x_:List Nat->AC->AC
 | [],c=>c
 | i::p,c=>x_ p ((q_ c)[i]?.getD .aL)
def gG (f:Nat)(k p:List Nat)(l:List (Nat×FuncId))(s:List AC){x:AC}(_:(pJ Tryz.prog (λs=>k.contains s) f).map (λa=>(kZ l (x_ p a.aA) s).1)=some x:=by conv=>lhs;reduce;simp only[Int.reduceOfNat,Int.reduceNegSucc]):AC:=x
attribute [go_sem] gG
def fC (f:Nat)(k:List Nat)(l:List (Nat×FuncId))(s:List AC){x:Nat×AC×List jH}(_:(pJ Tryz.prog (λs=>k.contains s) f).map (λa=>(a.n,(kZ l a.aA s).1,a.aB))=some x:=by conv=>lhs;reduce;simp only[Int.reduceOfNat,Int.reduceNegSucc]):fH:=⟨x.1,λs=>k.contains s,x.2.1,x.2.2⟩
attribute [go_sem] fC
theorem fM {P:Program}{f:FuncId}{c:fH}(h:(pJ P c.aC f,fI P f)=(some c,true):=by kernel_rfl):Is P f c:=⟨(Prod.mk.inj h).1,(Prod.mk.inj h).2⟩
def DK:DC->AC
 | .aC a d=>.aB a (DK d)
 | .aB _ _ _ r=>r
def DL (l:List (Nat×FuncId)):DC->List AC->DC
 | .aC a d,s=>match kZ l a s with
  | (a,s)=>.aC a (DL l d s)
 | .aB o g a r,s=>.aB (o.map λo=>{o with op:=tq l o.op}) (ri l g) a (kZ l r s).1
def Jb (f:Nat)(k p:List Nat)(l:List (Nat×FuncId))(s:List AC){x:AC}(_:(ua Tryz.prog (λs=>k.contains s) f).map (λa=>(kZ l (x_ p (DK a.aA)) s).1)=some x:=by conv=>lhs;reduce;simp only[Int.reduceOfNat,Int.reduceNegSucc]):AC:=x
attribute [go_sem] Jb
def x9 (f:Nat)(k:List Nat)(l:List (Nat×FuncId))(s:List AC){x:Nat×DC×List jH}(_:(ua Tryz.prog (λs=>k.contains s) f).map (λa=>(a.n,DL l a.aA s,a.aB))=some x:=by conv=>lhs;reduce;simp only[Int.reduceOfNat,Int.reduceNegSucc]):rp:=⟨x.1,λs=>k.contains s,x.2.1,x.2.2⟩
attribute [go_sem] x9
def qa (l:List (Nat×FuncId)):RC->RC
 | .aB a=>.aB (kZ l a []).1
 | .aE a=>.aE (kZ l a []).1
 | .aG a b=>.aG (qa l a) (qa l b)
 | .aC c a b=>.aC c (qa l a) (qa l b)
 | .aA i b=>.aA i (qa l b)
 | .aD b=>.aD (qa l b)
 | .aI p d x a q=>.aI (p.map λo=>{o with op:=tq l o.op}) d x a (q.map λo=>{o with op:=tq l o.op})
 | .aF g p a b=>.aF g p (kZ l a []).1 (kZ l b []).1
def ya (i:Bool)(f:Nat)(k:List Nat)(l:List (Nat×FuncId)){x:Nat×RC×List jH}(_:(rV Tryz.prog (λs=>k.contains s) i f).map (λa=>(a.n,qa l a.aA,a.aB))=some x:=by conv=>lhs;reduce;simp only[Int.reduceOfNat,Int.reduceNegSucc]):qm:=⟨x.1,λs=>k.contains s,x.2.1,x.2.2⟩
attribute [go_sem] ya
def ug (f0:FuncId):fH:=fC 76 [0,1] [(137,f0)] []
def pL :fH:=fC 122 [0,2,4] [] []
def uO (f_slices_Backward_api_Entry_api_Entry f_image_GetConf f_slices_Clone_int_int:FuncId):qm:=ya false 55 [0,1,2,3,4,5,6,7,8,12,13,14,17,25] [(121,f_slices_Backward_api_Entry_api_Entry),(51,f_image_GetConf),(122,f_slices_Clone_int_int)]
def Cd (f_slices_Backward_api_Entry_api_Entry_f1:FuncId):fH:=fC 121 [0,1,2] [(186,f_slices_Backward_api_Entry_api_Entry_f1)] []
def xR :qm:=ya true 186 [0,1,3,8,18] []
def FW (f_glebekit_CopyConf f_gleberef13_GetConf:FuncId):AC:=gG 158 [0,1,2,3,4,5,6,7,8,20,30,43] [0] [(70,f_glebekit_CopyConf),(154,f_gleberef13_GetConf)] []
def AD (f_glebekit_CopyConf f_gleberef13_GetConf:FuncId):fH:=(λb0=>fC 158 [0,1,2,3,4,5,6,7,8,20,30,43] [(70,f_glebekit_CopyConf),(154,f_gleberef13_GetConf)] [b0]) (FW f_glebekit_CopyConf f_gleberef13_GetConf)
def y8 (f0 f1 f2 f3:FuncId):fH:=fC 110 [0,1,2,3,4,5,7,10,11,12,19] [(175,f0),(181,f1),(54,f2),(105,f3)] []
def y6 :fH:=fC 127 [0,1,2,3,4,17,26] [] []
def y7 :fH:=fC 184 [0,1,4] [] []
def Fb :AC:=gG 78 [0,1,2,6,7,8,12,16,32] [0] [] []
def y_ :fH:=(λb0=>fC 78 [0,1,2,6,7,8,12,16,32] [] [b0]) (Fb)
def zB (f0:FuncId):fH:=fC 39 [0,1,2,3,4] [(103,f0)] []
def Fk (f0:FuncId):AC:=gG 103 [0,1,4,5,10,14,26] [0] [(176,f0)] []
def zu (f0:FuncId):fH:=(λb0=>fC 103 [0,1,4,5,10,14,26] [(176,f0)] [b0]) (Fk f0)
def uf (f0:FuncId):fH:=fC 69 [0,1,2] [(135,f0)] []
def Fe (f0:FuncId):AC:=gG 135 [0,2,3,4,8] [0] [(71,f0)] []
def zi (f0:FuncId):fH:=(λb0=>fC 135 [0,2,3,4,8] [(71,f0)] [b0]) (Fe f0)
def Ft (f0:FuncId):AC:=gG 75 [0,2,6] [0] [(77,f0)] []
def zH (f0:FuncId):fH:=(λb0=>fC 75 [0,2,6] [(77,f0)] [b0]) (Ft f0)
def zx (f0:FuncId):fH:=fC 176 [0,1,2,3,4] [(74,f0)] []
def Fc :AC:=gG 71 [0,2,3,4,8] [0] [] []
def zd :fH:=(λb0=>fC 71 [0,2,3,4,8] [] [b0]) (Fc)
def Fq :AC:=gG 77 [0,2,6] [0] [] []
def zF :fH:=(λb0=>fC 77 [0,2,6] [] [b0]) (Fq)
def Fi :AC:=gG 74 [0,1,4,5,10,14,25] [0] [] []
def wQ :fH:=(λb0=>fC 74 [0,1,4,5,10,14,25] [] [b0]) (Fi)
def Ff :AC:=gG 41 [0,2,3,4,8] [0] [] []
def zj :fH:=(λb0=>fC 41 [0,2,3,4,8] [] [b0]) (Ff)
def zo :fH:=fC 22 [0,1,4,6,11] [] []
def qD (f0 f1 f2:FuncId):fH:=fC 23 [0,1,2] [(69,f0),(70,f1),(71,f2)] []
def zC (f0 f1:FuncId):fH:=fC 87 [0,1,2,3,4,5] [(103,f0),(74,f1)] []
def Fw (f0 f1:FuncId):AC:=gG 90 [0,2,6] [0] [(75,f0),(77,f1)] []
def zM (f0 f1:FuncId):fH:=(λb0=>fC 90 [0,2,6] [(75,f0),(77,f1)] [b0]) (Fw f0 f1)
def zA (f0 f1 f2:FuncId):fH:=fC 25 [0,1,2,3,4] [(39,f0),(73,f1),(74,f2)] []
def zc (f0:FuncId):fH:=fC 27 [0,1,2,3,6] [(78,f0)] []
def zk (f0 f1:FuncId):fH:=fC 79 [0,1,2] [(135,f0),(71,f1)] []
def zh (f0:FuncId):fH:=fC 70 [0,1,2] [(41,f0)] []
def Lp :AC:=gG 136 [0,1,4,5,10,14,25] [0] [] []
def Fo :fH:=(λb0=>fC 136 [0,1,4,5,10,14,25] [] [b0]) (Lp)
def Fv :AC:=gG 137 [0,2,6] [0] [] []
def zK :fH:=(λb0=>fC 137 [0,2,6] [] [b0]) (Fv)
def zt (f0:FuncId):fH:=fC 73 [0,1,2,3,4] [(136,f0)] []
def za (f0 f1:FuncId):fH:=fC 67 [0,1,2,3,6] [(78,f0),(131,f1)] []
def y9 :fH:=fC 131 [0,1,2,4] [] []
def Fj (f0:FuncId):AC:=gG 161 [0,1,4,5,10,14,26] [0] [(209,f0)] []
def zq (f0:FuncId):fH:=(λb0=>fC 161 [0,1,4,5,10,14,26] [(209,f0)] [b0]) (Fj f0)
def zp (f0 f1 f2:FuncId):fH:=⟨66,λs=>List.contains [0,1,2,3,4] s,(.aB (.aC [⟨.aB 2,.h (.aA (.aB 0)),none⟩,
 ⟨.aB 3,.h (.aA (.aB 1)),none⟩,
 ⟨.aB 4,.r (.aA (.aC (.aD false))),none⟩])
 (.aB (.aC [⟨.aA 5,.r (.aC 0 (.aB 2)),none⟩,
 ⟨.aA 6,.r (.aB false 1 (.aA 5)),none⟩,
 ⟨.aA 7,.r (.aC 0 (.aB 3)),none⟩,
 ⟨.aA 8,.r (.aB false 1 (.aA 7)),none⟩,
 ⟨.aA 9,.r (.aD .eql (.aA 6) (.aA 8)),none⟩,
 ⟨.aA 10,.r (.aA (.aA 9)),none⟩,
 ⟨.aA 11,.r (.aC 1 (.aB 2)),some (.aA 10,true)⟩,
 ⟨.aA 12,.r (.aB false 1 (.aA 11)),some (.aA 10,true)⟩,
 ⟨.aA 13,.r (.aC 1 (.aB 3)),some (.aA 10,true)⟩,
 ⟨.aA 14,.r (.aB false 1 (.aA 13)),some (.aA 10,true)⟩,
 ⟨.aA 15,.r (.aD .eql (.aA 12) (.aA 14)),some (.aA 10,true)⟩,
 ⟨.aA 16,.r (.aE (.aA 10) (.aA 15) (.aC (.aD false))),none⟩,
 ⟨.aA 17,.r (.aA (.aA 16)),none⟩,
 ⟨.aA 18,.r (.aC 2 (.aB 2)),some (.aA 17,true)⟩,
 ⟨.aA 19,.r (.aB false 1 (.aA 18)),some (.aA 17,true)⟩,
 ⟨.aA 20,.r (.aC 2 (.aB 3)),some (.aA 17,true)⟩,
 ⟨.aA 21,.r (.aB false 1 (.aA 20)),some (.aA 17,true)⟩,
 ⟨.aA 22,.r (.aD .eql (.aA 19) (.aA 21)),some (.aA 17,true)⟩,
 ⟨.aA 23,.r (.aE (.aA 17) (.aA 22) (.aC (.aD false))),none⟩,
 ⟨.aA 24,.r (.aA (.aA 23)),none⟩,
 ⟨.aA 25,.r (.aC 3 (.aB 2)),some (.aA 24,true)⟩,
 ⟨.aA 26,.r (.aB false 1 (.aA 25)),some (.aA 24,true)⟩,
 ⟨.aA 27,.r (.aC 3 (.aB 3)),some (.aA 24,true)⟩,
 ⟨.aA 28,.r (.aB false 1 (.aA 27)),some (.aA 24,true)⟩,
 ⟨.aA 29,.r (.aD .eql (.aA 26) (.aA 28)),some (.aA 24,true)⟩,
 ⟨.aA 30,.r (.aE (.aA 24) (.aA 29) (.aC (.aD false))),none⟩,
 ⟨.aA 31,.r (.aA (.aA 30)),none⟩,
 ⟨.aA 32,.r (.aC 4 (.aB 2)),some (.aA 31,true)⟩,
 ⟨.aA 33,.r (.aB false 1 (.aA 32)),some (.aA 31,true)⟩,
 ⟨.aA 34,.r (.aC 4 (.aB 3)),some (.aA 31,true)⟩,
 ⟨.aA 35,.r (.aB false 1 (.aA 34)),some (.aA 31,true)⟩,
 ⟨.aA 36,.r (.aD .eql (.aA 33) (.aA 35)),some (.aA 31,true)⟩,
 ⟨.aA 37,.r (.aE (.aA 31) (.aA 36) (.aC (.aD false))),none⟩,
 ⟨.aA 38,.r (.aA (.aA 37)),none⟩,
 ⟨.aA 39,.r (.aC 5 (.aB 2)),some (.aA 38,true)⟩,
 ⟨.aA 40,.r (.aB true 3 (.aA 39)),some (.aA 38,true)⟩,
 ⟨.aA 41,.r (.aC 5 (.aB 3)),some (.aA 38,true)⟩,
 ⟨.aA 42,.r (.aB true 3 (.aA 41)),some (.aA 38,true)⟩,
 ⟨.aA 43,.aB f0 [.aA 40,.aA 42],some (.aA 38,true)⟩,
 ⟨.aA 44,.r (.aE (.aA 38) (.aA 43) (.aC (.aD false))),none⟩,
 ⟨.aA 45,.r (.aA (.aA 44)),none⟩,
 ⟨.aA 46,.r (.aC 8 (.aB 2)),some (.aA 45,true)⟩,
 ⟨.aA 47,.r (.aB true 3 (.aA 46)),some (.aA 45,true)⟩,
 ⟨.aA 48,.r (.aC 8 (.aB 3)),some (.aA 45,true)⟩,
 ⟨.aA 49,.r (.aB true 3 (.aA 48)),some (.aA 45,true)⟩,
 ⟨.aA 50,.aB f1 [.aA 47,.aA 49],some (.aA 45,true)⟩,
 ⟨.aA 51,.r (.aE (.aA 45) (.aA 50) (.aC (.aD false))),none⟩,
 ⟨.aA 52,.r (.aA (.aA 51)),none⟩,
 ⟨.aA 53,.r (.aC 11 (.aB 2)),some (.aA 52,true)⟩,
 ⟨.aA 54,.r (.aB false 1 (.aA 53)),some (.aA 52,true)⟩,
 ⟨.aA 55,.r (.aC 11 (.aB 3)),some (.aA 52,true)⟩,
 ⟨.aA 56,.r (.aB false 1 (.aA 55)),some (.aA 52,true)⟩,
 ⟨.aA 57,.aB f2 [.aA 54,.aA 56],some (.aA 52,true)⟩,
 ⟨.aA 58,.r (.aE (.aA 52) (.aA 57) (.aC (.aD false))),none⟩,
 ⟨.aA 59,.r (.aA (.aA 58)),none⟩,
 ⟨.aA 60,.r (.aC 12 (.aB 2)),some (.aA 59,true)⟩,
 ⟨.aA 61,.r (.aB true 5 (.aA 60)),some (.aA 59,true)⟩,
 ⟨.aA 62,.r (.aC 12 (.aB 3)),some (.aA 59,true)⟩,
 ⟨.aA 63,.r (.aB true 5 (.aA 62)),some (.aA 59,true)⟩,
 ⟨.aA 64,.r (.x (.aB false [(0,true),(1,true),(2,true),(3,true),(4,true)] (.aA 61) (.aA 63))),some (.aA 59,true)⟩,
 ⟨.aA 65,.r (.aE (.aA 59) (.aA 64) (.aC (.aD false))),none⟩,
 ⟨.aB 4,.r (.aA (.aA 65)),none⟩])
 .aI)),[(.aA (.aB 4))]⟩
def Fp (f0:FuncId):AC:=gG 160 [0,1,4,5,10,14,26] [0] [(87,f0)] []
def zD (f0:FuncId):fH:=(λb0=>fC 160 [0,1,4,5,10,14,26] [(87,f0)] [b0]) (Fp f0)
def wR (f0 f1 f2 f3 f4 f5 f6 f7 f8 f9 f10:FuncId):AC:=gG 4 [0,1,2,4,6,7,8,9,12,38,48,110,128] [0] [(21,f0),(20,f1),(22,f2),(23,f3),(9,f4),(24,f5),(25,f6),(26,f7),(27,f8),(28,f9),(29,f10)] []
def zO (f0 f1 f2 f3 f4 f5 f6 f7 f8 f9 f10:FuncId):fH:=(λb0=>fC 4 [0,1,2,4,6,7,8,9,12,38,48,110,128] [(21,f0),(20,f1),(22,f2),(23,f3),(9,f4),(24,f5),(25,f6),(26,f7),(27,f8),(28,f9),(29,f10)] [b0]) (wR f0 f1 f2 f3 f4 f5 f6 f7 f8 f9 f10)
def zQ :fH:=fC 10 [0] [] []
def Fx (f0 f1 f2 f3 f4 f5:FuncId):AC:=gG 20 [0,1,2,3,4,5,6,7,11,13,26] [0] [(10,f0),(9,f1),(11,f2),(19,f3),(12,f4),(38,f5)] []
def zR (f0 f1 f2 f3 f4 f5:FuncId):fH:=(λb0=>fC 20 [0,1,2,3,4,5,6,7,11,13,26] [(10,f0),(9,f1),(11,f2),(19,f3),(12,f4),(38,f5)] [b0]) (Fx f0 f1 f2 f3 f4 f5)
def zP (f0 f1:FuncId):fH:=fC 21 [0,1,2,3] [(67,f0),(68,f1)] []
def kq (f0 f1 f2 f3 f4 f5 f6 f7 f8 f9 f10 f11 f12 f13 f14 f15 f16 f17 f18:FuncId):fH:=fC 28 [0,1,2,3,4,5,6,7,8,9,10,11,12,13,22,46,59,72,99] [(79,f0),(80,f1),(22,f2),(11,f3),(81,f4),(17,f5),(82,f6),(12,f7),(83,f8),(13,f9),(84,f10),(14,f11),(85,f12),(86,f13),(87,f14),(88,f15),(89,f16),(77,f17),(90,f18)] []
def zS (f0 f1 f2 f3 f4 f5 f6 f7 f8 f9 f10:FuncId):fH:=fC 29 [0,1,2,4,5,6,7] [(15,f0),(91,f1),(25,f2),(92,f3),(19,f4),(18,f5),(38,f6),(16,f7),(93,f8),(26,f9),(94,f10)] []
def FJ (f0:FuncId):AC:=gG 207 [0,1,2,3,6,7,8,9,10,20,32,43,61] [0,0] [(195,f0)] []
def FK (f0:FuncId):AC:=(λb0=>gG 207 [0,1,2,3,6,7,8,9,10,20,32,43,61] [0] [(195,f0)] [b0]) (FJ f0)
def z7 (f0:FuncId):fH:=(λb0=>fC 207 [0,1,2,3,6,7,8,9,10,20,32,43,61] [(195,f0)] [b0]) (FK f0)
def FL (f0 f1:FuncId):AC:=gG 206 [0,1,2,3,25,30,50] [0] [(243,f0),(191,f1)] []
def z_ (f0 f1:FuncId):fH:=(λb0=>fC 206 [0,1,2,3,25,30,50] [(243,f0),(191,f1)] [b0]) (FL f0 f1)
def Ae (f0:FuncId):fH:=fC 195 [0,1,2,4,15] [(236,f0)] []
def Ac (f0:FuncId):fH:=fC 192 [0,1,2] [(234,f0)] []
def Ab (f0 f1:FuncId):fH:=fC 237 [0,1,2] [(192,f0),(234,f1)] []
def FQ :AC:=gG 243 [0,2,3,7,21,35] [0] [] []
def Ah :fH:=(λb0=>fC 243 [0,2,3,7,21,35] [] [b0]) (FQ)
def FM :AC:=gG 191 [0,1,4,5,9,17] [0] [] []
def Aa :fH:=(λb0=>fC 191 [0,1,4,5,9,17] [] [b0]) (FM)
def FP (f0:FuncId):AC:=gG 236 [0,1,4,5,6,10,18] [0] [(191,f0)] []
def Ag (f0:FuncId):fH:=(λb0=>fC 236 [0,1,4,5,6,10,18] [(191,f0)] [b0]) (FP f0)
def FO (f0:FuncId):AC:=gG 234 [0,1,4,5,9] [0] [(259,f0)] []
def Af (f0:FuncId):fH:=(λb0=>fC 234 [0,1,4,5,9] [(259,f0)] [b0]) (FO f0)
def FN (f0:FuncId):AC:=gG 259 [0,1,4,5,6,7,14,26,39] [0] [(191,f0)] []
def Ad (f0:FuncId):fH:=(λb0=>fC 259 [0,1,4,5,6,7,14,26,39] [(191,f0)] [b0]) (FN f0)
def FR (f0 f1 f2 f3 f4:FuncId):AC:=gG 200 [0,1,2,3,6,7,8,10,11,12,13,14,30,35,56,72] [0,0] [(193,f0),(69,f1),(157,f2),(135,f3),(71,f4)] []
def FT (f0 f1 f2 f3 f4:FuncId):AC:=(λb0=>gG 200 [0,1,2,3,6,7,8,10,11,12,13,14,30,35,56,72] [0] [(193,f0),(69,f1),(157,f2),(135,f3),(71,f4)] [b0]) (FR f0 f1 f2 f3 f4)
def Ai (f0 f1 f2 f3 f4:FuncId):fH:=(λb0=>fC 200 [0,1,2,3,6,7,8,10,11,12,13,14,30,35,56,72] [(193,f0),(69,f1),(157,f2),(135,f3),(71,f4)] [b0]) (FT f0 f1 f2 f3 f4)
def Aj (f0 f1:FuncId):fH:=fC 260 [0,1,2,4,5,6,7,15] [(157,f0),(135,f1)] []
def Ak :fH:=fC 193 [0,1,2,3,4,9] [] []
def Am (f0:FuncId):fH:=fC 157 [0,1,2,4,5,6,21,25] [(193,f0)] []
def FU (f0 f1:FuncId):AC:=gG 190 [0,1,2,3,6,7,9,10,35] [0] [(193,f0),(135,f1)] []
def Al (f0 f1:FuncId):fH:=(λb0=>fC 190 [0,1,2,3,6,7,9,10,35] [(193,f0),(135,f1)] [b0]) (FU f0 f1)
def Ar (f0:FuncId):fH:=fC 205 [0,2,3] [(242,f0)] []
def An (f0 f1 f2 f3:FuncId):fH:=fC 154 [0,2,3,4,5,6,7,15,21] [(202,f0),(205,f1),(204,f2),(206,f3)] []
def Ap (f0 f1:FuncId):fH:=fC 244 [0,1,2,3,6,7,8,9,22] [(157,f0),(260,f1)] []
def Aq (f0 f1 f2 f3 f4:FuncId):fH:=fC 208 [0,1,2,3,4,5,6,13,30,38,58] [(23,f0),(235,f1),(193,f2),(135,f3),(244,f4)] []
def AA (f0 f1 f2 f3:FuncId):fH:=fC 233 [0,1,2,3,4,5,7,10,11,12,28] [(258,f0),(257,f1),(157,f2),(190,f3)] []
def Ay :fH:=fC 201 [0,1,2,3,4,14,17] [] []
def Az :fH:=fC 239 [0,1,4] [] []
def AE (f0 f1:FuncId):fH:=fC 24 [0,1,2,4,6] [(23,f0),(72,f1)] []
def FY (f0 f1 f2 f3 f4 f5 f6 f7 f8 f9 f10 f11:FuncId):AC:=gG 81 [0,1,4,5,7,8,13,26,72,113,147] [0] [(138,f0),(139,f1),(140,f2),(141,f3),(142,f4),(143,f5),(72,f6),(144,f7),(145,f8),(146,f9),(147,f10),(148,f11)] []
def mH (f0 f1 f2 f3 f4 f5 f6 f7 f8 f9 f10 f11:FuncId):fH:=(λb0=>fC 81 [0,1,4,5,7,8,13,26,72,113,147] [(138,f0),(139,f1),(140,f2),(141,f3),(142,f4),(143,f5),(72,f6),(144,f7),(145,f8),(146,f9),(147,f10),(148,f11)] [b0]) (FY f0 f1 f2 f3 f4 f5 f6 f7 f8 f9 f10 f11)
def lM (f0 f1 f2 f3 f4 f5 f6 f7 f8 f9:FuncId):fH:=fC 82 [0,1,3,4,34,44,58,61,74,83,84,89,94,99,104] [(140,f0),(139,f1),(142,f2),(143,f3),(148,f4),(149,f5),(150,f6),(151,f7),(152,f8),(153,f9)] []
def mG (f0 f1 f2 f3 f4 f5:FuncId):fH:=fC 83 [0,1,2,6,7,8,10,11,16,23,35,39] [(154,f0),(141,f1),(155,f2),(138,f3),(156,f4),(139,f5)] []
def qG (f0 f1:FuncId):fH:=fC 84 [0,2,3,4,5,6,7,12,37] [(157,f0),(138,f1)] []
def qF (f0 f1 f2 f3:FuncId):fH:=fC 85 [0,1,2,6,7,8,10,11,28] [(157,f0),(158,f1),(159,f2),(139,f3)] []
def FX (f0:FuncId):AC:=gG 93 [0,1,4,5,6,23,35,47] [0] [(144,f0)] []
def AF (f0:FuncId):fH:=(λb0=>fC 93 [0,1,4,5,6,23,35,47] [(144,f0)] [b0]) (FX f0)
def F9 (f0:FuncId):AC:=gG 138 [0,2,9] [0] [(189,f0)] []
def AP (f0:FuncId):fH:=(λb0=>fC 138 [0,2,9] [(189,f0)] [b0]) (F9 f0)
def mI (f0 f1 f2 f3:FuncId):fH:=fC 139 [0,2,4,5,32,51] [(146,f0),(140,f1),(143,f2),(190,f3)] []
def AY (f0 f1 f2:FuncId):fH:=fC 140 [0,1,4,5] [(146,f0),(192,f1),(191,f2)] []
def AM (f0:FuncId):fH:=fC 141 [0,2,3] [(193,f0)] []
def AT (f0:FuncId):fH:=fC 142 [0,1,2] [(194,f0)] []
def uh :fH:=fC 143 [0,1] [] []
def AZ (f0 f1:FuncId):fH:=fC 144 [0,1,4,5] [(146,f0),(195,f1)] []
def AN (f0 f1 f2 f3 f4:FuncId):fH:=fC 145 [0] [(141,f0),(196,f1),(155,f2),(138,f3),(156,f4)] []
def AK (f0:FuncId):fH:=fC 146 [0,2,3] [(158,f0)] []
def AS (f0:FuncId):fH:=fC 148 [0,1,3] [(79,f0)] []
def AW (f0 f1 f2:FuncId):fH:=fC 149 [0,1,3,4,22,30] [(198,f0),(142,f1),(148,f2)] []
def r7 (f0 f1 f2 f3:FuncId):fH:=fC 150 [0,1,3,29,46] [(140,f0),(191,f1),(144,f2),(145,f3)] []
def lC (f0 f1 f2 f3 f4 f5 f6:FuncId):fH:=fC 151 [0,1,3,4,5,6,7,8,13,29,55,88,90] [(143,f0),(199,f1),(157,f2),(141,f3),(200,f4),(190,f5),(194,f6)] []
def FZ (f0 f1 f2 f3:FuncId):AC:=gG 152 [0,1,3,4,9,16,29,46,64] [0] [(201,f0),(156,f1),(141,f2),(189,f3)] []
def AH (f0 f1 f2 f3:FuncId):fH:=(λb0=>fC 152 [0,1,3,4,9,16,29,46,64] [(201,f0),(156,f1),(141,f2),(189,f3)] [b0]) (FZ f0 f1 f2 f3)
def oU (f0 f1 f2 f3 f4 f5 f6:FuncId):fH:=fC 153 [0,1,3,4,5,6,7,8,13,27,53] [(143,f0),(199,f1),(202,f2),(203,f3),(154,f4),(204,f5),(159,f6)] []
def rX (f0 f1 f2 f3:FuncId):fH:=fC 155 [0,1,2,6,7,42] [(141,f0),(71,f1),(194,f2),(196,f3)] []
def F6 (f0 f1 f2 f3:FuncId):AC:=gG 156 [0,2,4,5,6,7,8,9,29,85] [0] [(146,f0),(141,f1),(207,f2),(157,f3)] []
def AJ (f0 f1 f2 f3:FuncId):fH:=(λb0=>fC 156 [0,2,4,5,6,7,8,9,29,85] [(146,f0),(141,f1),(207,f2),(157,f3)] [b0]) (F6 f0 f1 f2 f3)
def rZ (f0 f1:FuncId):fH:=fC 159 [0,1,3,4] [(208,f0),(194,f1)] []
def AU (f0 f1:FuncId):fH:=fC 189 [0,1,3] [(233,f0),(148,f1)] []
def AI (f0:FuncId):fH:=fC 194 [0,1,3] [(235,f0)] []
def rW (f0 f1 f2 f3:FuncId):AC:=gG 196 [0,1,2,6,8,9,10,11,25,36,47] [0] [(146,f0),(237,f1),(238,f2),(239,f3)] []
def AL (f0 f1 f2 f3:FuncId):fH:=(λb0=>fC 196 [0,1,2,6,8,9,10,11,25,36,47] [(146,f0),(237,f1),(238,f2),(239,f3)] [b0]) (rW f0 f1 f2 f3)
def AG (f0:FuncId):fH:=fC 199 [0,1,2,3,5] [(148,f0)] []
def F_ :AC:=gG 238 [0,1,4,5,6,10,19] [0] [] []
def A5 :fH:=(λb0=>fC 238 [0,1,4,5,6,10,19] [] [b0]) (F_)
def A_ (f0:FuncId):fH:=fC 114 [0,2] [(182,f0)] []
def wT (f0:FuncId):fH:=fC 115 [0,2,6] [(130,f0)] []
def A7 (f0 f1 f2 f3:FuncId):fH:=fC 51 [0,2,3,4,5,6,16,20] [(113,f0),(114,f1),(115,f2),(68,f3)] []
def ze (f0 f1 f2:FuncId):fH:=fC 235 [0,1,2] [(69,f0),(70,f1),(71,f2)] []
def zJ (f0 f1 f2:FuncId):fH:=fC 26 [0,1] [(75,f0),(76,f1),(77,f2)] []
def Fs (f0 f1 f2:FuncId):AC:=gG 162 [0,2,6] [0] [(75,f0),(76,f1),(77,f2)] []
def zG (f0 f1 f2:FuncId):fH:=(λb0=>fC 162 [0,2,6] [(75,f0),(76,f1),(77,f2)] [b0]) (Fs f0 f1 f2)
def Fh :AC:=gG 80 [0,2,3,4,12,21] [0] [] []
def zm :fH:=(λb0=>fC 80 [0,2,3,4,12,21] [] [b0]) (Fh)
def Fg (f0:FuncId):AC:=gG 88 [0,1,4,5,20,26,33] [0] [(74,f0)] []
def zl (f0:FuncId):fH:=(λb0=>fC 88 [0,1,4,5,20,26,33] [(74,f0)] [b0]) (Fg f0)
def Fm:AC:=(.aB (.aB (.aC [⟨.aA 11,.r (.aA (.aB 5)),none⟩,
 ⟨.aA 12,.r (.aA (.aB 0)),none⟩,
 ⟨.aA 13,.r (.aF (.aA 12)),none⟩,
 ⟨.aB 14,.r (.aD .lss (.aA 11) (.aA 13)),none⟩])
 (.aE (.aB 14) .aJ
 (.aM 0)))
 (.aB (.aD 1 (.aB (.aK ⟨[0,0,3,7,0,0,48,112,255],0,[⟨0,0,false,.r (.aA (.aB 0)),none⟩,
 ⟨1,0,false,.r (.aA (.aB 5)),none⟩,
 ⟨2,0,false,.r (.aI 4 (.aA 0) (.aA 1)),none⟩,
 ⟨3,0,false,.r (.aB true 4 (.aA 2)),none⟩,
 ⟨4,0,false,.r (.aA (.aB 1)),none⟩,
 ⟨5,0,false,.r (.aA (.aB 5)),none⟩,
 ⟨6,0,false,.r (.aI 4 (.aA 4) (.aA 5)),none⟩,
 ⟨7,0,false,.r (.aB true 4 (.aA 6)),none⟩,
 ⟨8,0,false,.r (.x (.aB true [(0,true),(1,true),(2,true),(3,true)] (.aA 3) (.aA 7))),none⟩],[(25,8)]⟩)
 (.aE (.aB 25) (.aB (.aC [⟨.aB 4,.r (.aA (.aC (.aD false))),none⟩])
 .aI)
 .aJ)))
 (.aC [⟨.aA 15,.r (.aA (.aB 5)),none⟩,
 ⟨.aA 16,.r (.aD .add (.aA 15) (.aC (.aA .i64 1))),none⟩,
 ⟨.aB 5,.r (.aA (.aA 16)),none⟩])))
def zy:fH:=⟨26,λs=>List.contains [0,1,4,5,10,14,25] s,(.aB (.aC [⟨.aB 4,.r (.aA (.aC (.aD false))),none⟩])
 (.aB (.aB (.aC [⟨.aA 6,.r (.aA (.aB 0)),none⟩,
 ⟨.aA 7,.r (.aF (.aA 6)),none⟩,
 ⟨.aA 8,.r (.aA (.aB 1)),none⟩,
 ⟨.aA 9,.r (.aF (.aA 8)),none⟩,
 ⟨.aB 10,.r (.aD .neq (.aA 7) (.aA 9)),none⟩])
 (.aE (.aB 10) (.aB (.aC [⟨.aB 4,.r (.aA (.aC (.aD false))),none⟩])
 .aI)
 .aJ))
 (.aB (.aB (.aC [⟨.aB 5,.r (.aA (.aC (.aA .i64 0))),none⟩])
 (.aD 0 (.aF (Fm))))
 (.aB (.aC [⟨.aB 4,.r (.aA (.aC (.aD true))),none⟩])
 .aI)))),[(.aA (.aB 4))]⟩
def zE (f0 f1 f2:FuncId):fH:=fC 86 [0,1,2,3,4] [(160,f0),(161,f1),(103,f2)] []
def Fu :AC:=gG 94 [0,2,6] [0] [] []
def zI :fH:=(λb0=>fC 94 [0,2,6] [] [b0]) (Fu)
def zN (f0 f1 f2:FuncId):fH:=fC 89 [0,1] [(90,f0),(162,f1),(75,f2)] []
def A8 (f0:FuncId):fH:=fC 175 [0,1,2] [(219,f0)] []
def A9 (f0:FuncId):fH:=fC 219 [0,1,3,4] [(252,f0)] []
def Ba (f0 f1:FuncId):fH:=fC 181 [0,1,4] [(231,f0),(230,f1)] []
def Ga (f0 f1:FuncId):AC:=gG 252 [0,1,4,5,7,17,18,19,20] [0] [(231,f0),(230,f1)] []
def Bb (f0 f1:FuncId):fH:=(λb0=>fC 252 [0,1,4,5,7,17,18,19,20] [(231,f0),(230,f1)] [b0]) (Ga f0 f1)
def Ge :AC:=gG 230 [0,1,4,5,7] [0] [] []
def Bh :fH:=(λb0=>fC 230 [0,1,4,5,7] [] [b0]) (Ge)
def Bi :fH:=fC 231 [0,1,4] [] []
def Fy (f0:FuncId):AC:=gG 257 [0,1,4,5,6,14] [0] [(273,f0)] []
def zT (f0:FuncId):fH:=(λb0=>fC 257 [0,1,4,5,6,14] [(273,f0)] [b0]) (Fy f0)
def FA :AC:=gG 273 [0,1,4,5,6,7,8,9,10,14,28,39] [0] [] []
def FB :AC:=gG 273 [0,1,4,5,6,7,8,9,10,14,28,39] [1] [] []
def FC :AC:=gG 273 [0,1,4,5,6,7,8,9,10,14,28,39] [2] [] []
def zU :fH:=(λb0 b1 b2=>fC 273 [0,1,4,5,6,7,8,9,10,14,28,39] [] [b0,b1,b2]) (FA) (FB) (FC)
def FD (f0:FuncId):AC:=gG 281 [0,1,4,5,6,7,8,16,25] [0,0] [(273,f0)] []
def FE (f0:FuncId):AC:=(λb0=>gG 281 [0,1,4,5,6,7,8,16,25] [0] [(273,f0)] [b0]) (FD f0)
def zV (f0:FuncId):fH:=(λb0=>fC 281 [0,1,4,5,6,7,8,16,25] [(273,f0)] [b0]) (FE f0)
def Ao (f0:FuncId):fH:=fC 258 [0,1,2] [(274,f0)] []
def As (f0:FuncId):fH:=fC 274 [0,1,3,4] [(281,f0)] []
def Gf (f0:FuncId):AC:=gG 120 [0,1,2,3,6,7,8,10,11,12,13,21,22,23,24,29,32,33,34,35,44,52] [0,0] [(40,f0)] []
def Gg (f0:FuncId):AC:=(λb0=>gG 120 [0,1,2,3,6,7,8,10,11,12,13,21,22,23,24,29,32,33,34,35,44,52] [0] [(40,f0)] [b0]) (Gf f0)
def Bj (f0:FuncId):fH:=(λb0=>fC 120 [0,1,2,3,6,7,8,10,11,12,13,21,22,23,24,29,32,33,34,35,44,52] [(40,f0)] [b0]) (Gg f0)
def Bn (f0:FuncId):fH:=fC 40 [0,1,2,4] [(104,f0)] []
def Bk (f0 f1 f2:FuncId):fH:=fC 68 [0,1,2,3,33] [(132,f0),(133,f1),(134,f2)] []
def Bm (f0:FuncId):fH:=fC 109 [0,1,2] [(180,f0)] []
def Bl (f0:FuncId):fH:=fC 183 [0,1,2] [(180,f0)] []
def Bp (f0 f1:FuncId):fH:=fC 104 [0,1,3,4] [(177,f0),(134,f1)] []
def wU (f0:FuncId):fH:=fC 132 [0,1,3] [(108,f0)] []
def Cg (f0:FuncId):fH:=fC 108 [0,1,4] [(179,f0)] []
def Gj :AC:=gG 133 [0,2,3,4,5,6,7,8,30] [0] [] []
def Bq :fH:=(λb0=>fC 133 [0,2,3,4,5,6,7,8,30] [] [b0]) (Gj)
def Gi :AC:=gG 134 [0,1,4,5,7,8,9,10,11,16] [0] [] []
def Bo :fH:=(λb0=>fC 134 [0,1,4,5,7,8,9,10,11,16] [] [b0]) (Gi)
def Br (f0 f1 f2:FuncId):fH:=fC 180 [0,2,3] [(227,f0),(228,f1),(229,f2)] []
def wV (f0:FuncId):fH:=fC 177 [0,1,3] [(108,f0)] []
def Gw :AC:=gG 179 [0,1,4,5,7,8,9,16] [0] [] []
def Cj :fH:=(λb0=>fC 179 [0,1,4,5,7,8,9,16] [] [b0]) (Gw)
def Gt (f0:FuncId):AC:=gG 227 [0,2,3,5,6,8,9,10,11,12,20,25,26,27,28] [0] [(254,f0)] []
def Gu (f0:FuncId):AC:=gG 227 [0,2,3,5,6,8,9,10,11,12,20,25,26,27,28] [1] [(254,f0)] []
def Cf (f0:FuncId):fH:=(λb0 b1=>fC 227 [0,2,3,5,6,8,9,10,11,12,20,25,26,27,28] [(254,f0)] [b0,b1]) (Gt f0) (Gu f0)
def Gr :AC:=gG 229 [0,2,3,4,5,8,13,25,32,44] [0,0] [] []
def Gs :AC:=(λb0=>gG 229 [0,2,3,4,5,8,13,25,32,44] [0] [] [b0]) (Gr)
def Ce :fH:=(λb0=>fC 229 [0,2,3,4,5,8,13,25,32,44] [] [b0]) (Gs)
def Ch :fH:=fC 254 [0,1,4,6,16] [] []
def Bs (f0 f1:FuncId):fH:=fC 9 [0,1,2,4,6] [(42,f0),(43,f1)] []
def pO (f0 f1 f2 f3 f4 f5 f6:FuncId):rp:=x9 11 [0,1,4,5,13,25,69] [(44,f0),(45,f1),(47,f2),(46,f3),(48,f4),(49,f5),(50,f6)] []
def lO (f0 f1 f2 f3 f4 f5 f6 f7:FuncId):fH:=fC 12 [0,1,2,6,7,8,9,11,12,13,19,26,34,42] [(51,f0),(49,f1),(44,f2),(52,f3),(47,f4),(46,f5),(53,f6),(45,f7)] []
def By (f0 f1 f2 f3:FuncId):fH:=fC 13 [0,2,3,4,5,6,7,12,37] [(54,f0),(44,f1),(47,f2),(46,f3)] []
def Bu (f0 f1 f2 f3 f4:FuncId):fH:=fC 14 [0,1,2,6,7,8,9,10,12,14,30] [(55,f0),(54,f1),(44,f2),(56,f3),(45,f4)] []
def Bw (f0:FuncId):fH:=fC 15 [0,2] [(42,f0)] []
def BA (f0 f1 f2 f3:FuncId):fH:=fC 16 [0,1,3,4,5,22] [(57,f0),(46,f1),(58,f2),(40,f3)] []
def ja (f0 f1 f2 f3 f4 f5 f6 f7 f8 f9 f10:FuncId):rp:=x9 17 [0,1,3,4,5,38,46,60,62,63,70,79,84,94,101,106,111] [(44,f0),(45,f1),(48,f2),(59,f3),(60,f4),(61,f5),(62,f6),(63,f7),(64,f8),(65,f9),(66,f10)] []
def Bx :fH:=fC 18 [0,2] [] []
def Bz :fH:=fC 19 [0,2] [] []
def Bt :fH:=fC 38 [0,2] [] []
def BX (f0 f1 f2:FuncId):fH:=fC 42 [0,1,2] [(105,f0),(106,f1),(107,f2)] []
def BC :fH:=fC 44 [0,1,4] [] []
def kr (f0 f1 f2 f3 f4:FuncId):fH:=fC 45 [0,1,2,3,38,52] [(55,f0),(109,f1),(108,f2),(60,f3),(105,f4)] []
def Gl :AC:=gG 46 [0,1,5,9,10,11,12] [0] [] []
def BD :fH:=(λb0=>fC 46 [0,1,5,9,10,11,12] [] [b0]) (Gl)
def BV (f0 f1:FuncId):fH:=fC 47 [0,1,2,3] [(110,f0),(61,f1)] []
def BI (f0 f1 f2:FuncId):fH:=fC 48 [0,1,4] [(58,f0),(109,f1),(108,f2)] []
def BF (f0:FuncId):fH:=fC 49 [0,2,3] [(37,f0)] []
def Gn (f0 f1 f2 f3 f4 f5 f6 f7:FuncId):AC:=gG 50 [0,1,2,5,55,84,85,86,87] [0] [(59,f0),(60,f1),(43,f2),(58,f3),(40,f4),(111,f5),(112,f6),(61,f7)] []
def BS (f0 f1 f2 f3 f4 f5 f6 f7:FuncId):fH:=(λb0=>fC 50 [0,1,2,5,55,84,85,86,87] [(59,f0),(60,f1),(43,f2),(58,f3),(40,f4),(111,f5),(112,f6),(61,f7)] [b0]) (Gn f0 f1 f2 f3 f4 f5 f6 f7)
def BL (f0 f1 f2 f3 f4:FuncId):fH:=fC 52 [0,1,2,3,6,7,8,55] [(49,f0),(116,f1),(105,f2),(117,f3),(118,f4)] []
def BP (f0 f1 f2 f3 f4 f5:FuncId):fH:=fC 53 [0,1,2,3,4,5,6,57] [(49,f0),(119,f1),(46,f2),(58,f3),(120,f4),(54,f5)] []
def lP (f0 f1 f2 f3 f4:FuncId):fH:=fC 56 [0,1,2,3,4,5,8,10,11,28] [(54,f0),(123,f1),(106,f2),(107,f3),(117,f4)] []
def ui :fH:=fC 57 [0,1,2,3,7] [] []
def BH (f0:FuncId):fH:=fC 58 [0,2,3] [(55,f0)] []
def BU (f0:FuncId):fH:=fC 59 [0,1,2,3] [(117,f0)] []
def BE :fH:=fC 60 [0,1] [] []
def BO :fH:=fC 61 [0,1,2,3] [] []
def mo (f0 f1 f2:FuncId):fH:=fC 62 [0,1,2,3,4,25,38] [(124,f0),(59,f1),(61,f2)] []
def BW (f0 f1 f2 f3 f4:FuncId):fH:=fC 63 [0,1,2,3,32,54] [(108,f0),(48,f1),(58,f2),(40,f3),(111,f4)] []
def BK (f0 f1 f2 f3 f4 f5:FuncId):fH:=fC 64 [0,1,2,3,4,5,22,42,55] [(126,f0),(125,f1),(127,f2),(53,f3),(49,f4),(47,f5)] []
def lD (f0 f1 f2 f3 f4 f5:FuncId):fH:=fC 65 [0,1,2,3,4,5,6,7,8,18,46,73,80] [(128,f0),(54,f1),(49,f2),(116,f3),(105,f4),(117,f5)] []
def BN (f0 f1 f2 f3 f4 f5:FuncId):fH:=fC 66 [0,1,2,3,4,5,6,7,8,16,43] [(128,f0),(113,f1),(129,f2),(51,f3),(130,f4),(56,f5)] []
def Bv (f0:FuncId):fH:=fC 91 [0,2] [(163,f0)] []
def uj (f0:FuncId):fH:=fC 106 [0,1,2] [(122,f0)] []
def BM (f0 f1 f2 f3 f4 f5:FuncId):fH:=fC 111 [0,1] [(49,f0),(118,f1),(52,f2),(47,f3),(46,f4),(53,f5)] []
def BT :fH:=fC 117 [0,1,2,3] [] []
def Gm (f0 f1 f2 f3 f4:FuncId):AC:=gG 118 [0,1,4,6,7,8,11,12,13,14,22,33] [0] [(58,f0),(183,f1),(184,f2),(185,f3),(125,f4)] []
def BG (f0 f1 f2 f3 f4:FuncId):fH:=(λb0=>fC 118 [0,1,4,6,7,8,11,12,13,14,22,33] [(58,f0),(183,f1),(184,f2),(185,f3),(125,f4)] [b0]) (Gm f0 f1 f2 f3 f4)
def wY :fH:=fC 119 [0,1,2,3] [] []
def wX :fH:=fC 126 [0,1,2,3] [] []
def BJ (f0:FuncId):fH:=fC 128 [0,1,2,3,4,5] [(61,f0)] []
def wW :fH:=fC 185 [0,1,2,3] [] []
def wZ :fH:=fC 163 [0,2,4] [] []
def Gv :AC:=gG 125 [0,1,4,5,7,8,9,16] [0] [] []
def Ci :fH:=(λb0=>fC 125 [0,1,4,5,7,8,9,16] [] [b0]) (Gv)
def Bc (f0:FuncId):fH:=fC 113 [0,2] [(107,f0)] []
def w_ :fH:=fC 107 [0,2,4] [] []
def Bg :fH:=fC 232 [0] [] []
def r9 (f0:FuncId):fH:=fC 187 [0,1,4,5,6,23] [(232,f0)] []
def Gc (f0:FuncId):AC:=gG 188 [0,2,3,4,5,7,14,15,16,17,18] [0] [(187,f0)] []
def Be (f0:FuncId):fH:=(λb0=>fC 188 [0,2,3,4,5,7,14,15,16,17,18] [(187,f0)] [b0]) (Gc f0)
def Bd (f0 f1:FuncId):fH:=fC 129 [0,2,3] [(188,f0),(187,f1)] []
def Gd (f0 f1:FuncId):AC:=gG 182 [0,2,3,4,5,25,31,32,33] [0] [(188,f0),(232,f1)] []
def Bf (f0 f1:FuncId):fH:=(λb0=>fC 182 [0,2,3,4,5,25,31,32,33] [(188,f0),(232,f1)] [b0]) (Gd f0 f1)
def pK :fH:=fC 130 [0,2,3,8] [] []
def FF :AC:=gG 202 [0,2,3,4,10] [0] [] []
def zW :fH:=(λb0=>fC 202 [0,2,3,4,10] [] [b0]) (FF)
def wS :fH:=fC 241 [0,2,6] [] []
def FH (f0:FuncId):AC:=gG 240 [0,2,3,4,7,12] [0] [(241,f0)] []
def zY (f0:FuncId):fH:=(λb0=>fC 240 [0,2,3,4,7,12] [(241,f0)] [b0]) (FH f0)
def FG (f0 f1:FuncId):AC:=gG 203 [0,2,3,4,5,21,27] [0] [(240,f0),(241,f1)] []
def zX (f0 f1:FuncId):fH:=(λb0=>fC 203 [0,2,3,4,5,21,27] [(240,f0),(241,f1)] [b0]) (FG f0 f1)
def FI (f0 f1:FuncId):AC:=gG 242 [0,2,3,4,5,22,28] [0] [(240,f0),(241,f1)] []
def zZ (f0 f1:FuncId):fH:=(λb0=>fC 242 [0,2,3,4,5,22,28] [(240,f0),(241,f1)] [b0]) (FI f0 f1)
def qE (f0:FuncId):fH:=fC 204 [0,2,6,9] [(241,f0)] []
def Gp (f0 f1 f2:FuncId):AC:=gG 116 [0,1,2,3,6,7,8,10,11,12,13,14,32,35,36,37,58] [0] [(37,f0),(178,f1),(54,f2)] []
def BY (f0 f1 f2:FuncId):fH:=(λb0=>fC 116 [0,1,2,3,6,7,8,10,11,12,13,14,32,35,36,37,58] [(37,f0),(178,f1),(54,f2)] [b0]) (Gp f0 f1 f2)
def B9 :fH:=fC 37 [0,1,2,3,4,9] [] []
def Cb (f0:FuncId):fH:=fC 54 [0,1,2,4,5,6,13,21] [(37,f0)] []
def BZ (f0 f1:FuncId):fH:=fC 123 [0,1,2,4,5,6,7,15] [(54,f0),(178,f1)] []
def B_ (f0:FuncId):fH:=fC 31 [0,1,2,3,6,7,8,16] [(37,f0)] []
def Ca (f0 f1:FuncId):fH:=fC 105 [0,1,2,3,6,7,9,27] [(37,f0),(178,f1)] []
def Gq :AC:=gG 178 [0,2,3,5,6,7,8,9] [0] [] []
def Cc :fH:=(λb0=>fC 178 [0,2,3,5,6,7,8,9] [] [b0]) (Gq)
def Cl (f0:FuncId):fH:=fC 124 [0,1,2,3,6,7,8] [(31,f0)] []
def Cm :fH:=fC 43 [0,2,3,7] [] []
def Ax :fH:=fC 72 [0,2] [] []
def Av (f0:FuncId):fH:=fC 198 [0,1,2,3,6,7,8,9,10,19,27,36] [(197,f0)] []
def Gx (f0 f1:FuncId):AC:=gG 112 [0,1,2,3,4,8,9,10,11,12,13,15,22,23,24,25,30] [0] [(37,f0),(109,f1)] []
def Ck (f0 f1:FuncId):fH:=(λb0=>fC 112 [0,1,2,3,4,8,9,10,11,12,13,15,22,23,24,25,30] [(37,f0),(109,f1)] [b0]) (Gx f0 f1)
def FV (f0 f1:FuncId):AC:=gG 147 [0,1,2,3,4,8,9,10,11,12,13,14,15,26,34] [0] [(192,f0),(197,f1)] []
def Au (f0 f1:FuncId):fH:=(λb0=>fC 147 [0,1,2,3,4,8,9,10,11,12,13,14,15,26,34] [(192,f0),(197,f1)] [b0]) (FV f0 f1)
def Aw :fH:=fC 197 [0,1,2,3,4,9] [] []
end Glb
