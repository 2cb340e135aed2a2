/-
  A library of its own.
-/
import Derived.Test.YtdeiamnhnfmilaaGreatGlbQuoA
import Derived.Test.YtdeiamnhnfmilaaGreatGlbMorA
set_option linter.unusedSimpArgs false
set_option linter.unusedVariables false
set_option maxRecDepth 10000
set_option maxHeartbeats 8000000
open Nat (reduceSub)
namespace Glb
open Go
abbrev fH:=Option (List Int)
def mG (l:List Int):Int:=l.foldl (λv x=>v*256+x) 0
def j_ (l:List Int):Int:=IntKind.i64.wrap (mG l)
def ia (n:Int):Prop:=-9223372036854775808<=n/\n<=9223372036854775807
def gF (l:List Int):Prop:=∀x∈l,0<=x/\x<256
theorem gF.aA {l:List Int}(h:gF l)(n:Nat):gF (l.take n):=λx hx=>h x (VR hx)
theorem gF.aD {l:List Int}(h:gF l)(n:Nat):gF (l.drop n):=λx hx=>h x (VC hx)
theorem DA (x:Int):IntKind.i64.wrap x=(x+9223372036854775808) % 18446744073709551616-9223372036854775808:=by simp only[IntKind.wrap,IntKind.bits,IntKind.signed];simp;split<;>omega
theorem qa (v:Int)(k:Nat)(hk:k<=7):k_ v (7-k)=(v % 18446744073709551616) / 256^k % 256:=by rw[K7 v k hk,yi]
theorem CJ (v:Int):gO v=[(v % 18446744073709551616) / 72057594037927936 % 256,(v % 18446744073709551616) / 281474976710656 % 256,(v % 18446744073709551616) / 1099511627776 % 256,(v % 18446744073709551616) / 4294967296 % 256,
  (v % 18446744073709551616) / 16777216 % 256,(v % 18446744073709551616) / 65536 % 256,(v % 18446744073709551616) / 256 % 256,(v % 18446744073709551616) % 256]:=by
 have h0:=qa v 0 (by omega);have h1:=qa v 1 (by omega);have h2:=qa v 2 (by omega);have h3:=qa v 3 (by omega);have h4:=qa v 4 (by omega);have h5:=qa v 5 (by omega);have h6:=qa v 6 (by omega);have h7:=qa v 7 (by omega);simp only[reduceSub,Int.reducePow]at h0 h1 h2 h3 h4 h5 h6 h7;simp only[gO,h0,h1,h2,h3,h4,h5,h6,h7,Int.ediv_one]
theorem vq (v:Int):gF (gO v):=by rw[CJ];intro x hx;simp only[VP,List.not_mem_nil,or_false]at hx;rcases hx with rfl | rfl | rfl | rfl | rfl | rfl | rfl | rfl<;>omega
theorem IK (a b c d e f g h:Int):mG [a,b,c,d,e,f,g,h]=a*72057594037927936+b*281474976710656+c*1099511627776+d*4294967296+e*16777216+f*65536+g*256+h:=by simp only[mG,W8,List.foldl_nil];omega
theorem Dv {v:Int}(h:ia v):j_ (gO v)=v:=by
 rw[CJ,j_,IK,DA];obtain⟨h1,h2⟩:=h;have:v % 18446744073709551616=(if v<0 then v+18446744073709551616 else v):=by split<;>omega
 generalize v % 18446744073709551616=u at *;split at this<;>omega
theorem CK {l:List Int}(h:l.length=8)(hb:gF l):gO (j_ l)=l/\ia (j_ l):=by
 match l,h with
 | [a,b,c,d,e,f,g,k],_=>
  have ha:=hb a (by simp);have hb':=hb b (by simp);have hc:=hb c (by simp);have hd:=hb d (by simp);have he:=hb e (by simp);have hf:=hb f (by simp);have hg:=hb g (by simp);have hk:=hb k (by simp);have hu:(j_ [a,b,c,d,e,f,g,k]) % 18446744073709551616=a*72057594037927936+b*281474976710656+c*1099511627776+d*4294967296+e*16777216+f*65536+g*256+k:=by rw[j_,IK,DA];omega
  refine⟨?_,by rw[j_,DA];constructor<;>omega⟩;rw[CJ,hu];simp only[Wc,and_true];refine⟨by omega,by omega,by omega,by omega,by omega,by omega,by omega,by omega⟩
structure kq (T:Type) where
 aC:T->List Int
 aA:fH->T×fH
 ok:T->Prop
 aD:(aA none).2=none
 aI:∀x,8<=(aC x).length
 aF:∀x,ok x->gF (aC x)
 aE:∀x r,ok x->aA (some (aC x++r))=(x,some r)
 aG:∀l x r,gF l->aA (some l)=(x,some r)->l=aC x++r/\ok x
 aH:∀l x r t,aA (some l)=(x,some r)->aA (some (l++t))=(x,some (r++t))
theorem gF.aC {a b:List Int}(h:gF a)(h':gF b):gF (a++b):=λx hx=>(VK.1 hx).elim (h x) (h' x)
theorem gF.aE {a b:List Int}(h:gF (a++b)):gF b:=λx hx=>h x (VK.2 (.inr hx))
def fT:fH->Int×fH
 | none=>(0,none)
 | some l=>if l.length<8 then (0,none) else (j_ (l.take 8),some (l.drop 8))
def jZ:kq Int where
 aC:=gO
 aA:=fT
 ok:=ia
 aD:=rfl
 aI _:=by simp[js]
 aF v _:=vq v
 aE v r h:=by simp only[fT,U1,js];rw[U6 (by omega),Xq (js v),List.drop_left' (js v),Dv h]
 aG l x r hb h:=by
  simp only[fT]at h;split at h;·simp at h
  ·rename_i hl;simp only[V5,U_]at h;obtain⟨rfl,rfl⟩:=h;obtain⟨h1,h2⟩:=CK (l:=l.take 8) (by simp;omega) (hb.aA 8);exact⟨by rw[h1,Wp],h2⟩
 aH l x r t h:=by
  simp only[fT]at h ⊢;split at h;·simp at h
  ·rename_i hl;simp only[V5,U_]at h;obtain⟨rfl,rfl⟩:=h;rw[U6 (by simp;omega),Vz (by omega),Wg (by omega)]
def gW (r:fH):List Int×fH:=
 match fT r with
 | (_,none)=>([],none)
 | (n,some l)=>if n<0\/(l.length:Int)<n then ([],none) else (l.take n.toNat,some (l.drop n.toNat))
theorem HH {l a r:List Int}(h:gW (some l)=(a,some r)):8<=l.length/\∃n:Nat,j_ (l.take 8)=n/\n<=l.length-8/\a=(l.drop 8).take n/\r=(l.drop 8).drop n:=by
 simp only[gW,fT]at h;split at h;·cases h
 ·rename_i n l' e;split at e;·cases e
  ·rename_i hl;simp only[V5,U_]at e;obtain⟨rfl,rfl⟩:=e;split at h;·cases h
   ·rename_i hn;simp only[V5,U_]at h;simp only[Vo]at hn;exact⟨by omega,(j_ (l.take 8)).toNat,by omega,by omega,h.1.symm,h.2.symm⟩
theorem HG {l:List Int}{n:Nat}(h8:8<=l.length)(hv:j_ (l.take 8)=n)(hn:n<=l.length-8):gW (some l)=((l.drop 8).take n,some ((l.drop 8).drop n)):=by simp only[gW,fT];rw[U6 (by omega)];simp only[hv];rw[U6 (by simp;omega)];simp
def KS (p:List Int):Prop:=p.length<=9223372036854775807/\gF p
theorem GF {n:Nat}(h:n<=9223372036854775807):ia (n:Int):=by constructor<;>omega
def ni:kq (List Int) where
 aC p:=gO p.length++p
 aA:=gW
 ok:=KS
 aD:=rfl
 aI p:=by simp[js]
 aF p h:=(vq _).aC h.2
 aE p r h:=by have e8:(gO p.length).length=8:=js _;rw[HG (n:=p.length) (by simp[e8]) (by rw[Vr,Xq e8,Dv (GF h.1)]) (by simp[e8])];rw[Vr,List.drop_left' e8,Xq rfl,List.drop_left' rfl]
 aG l x r hb h:=by
  obtain⟨h8,n,hv,hn,rfl,rfl⟩:=HH h;obtain⟨h1,h2⟩:=CK (l:=l.take 8) (by simp;omega) (hb.aA 8);have hlen:((l.drop 8).take n).length=n:=by simp;omega
  rw[hv]at h1 h2;refine⟨?_,by rw[hlen];exact (by have:=h2.2;omega),(hb.aD 8).aA n⟩;rw[hlen,h1,Vr,Wp,Wp]
 aH l x r t h:=by obtain⟨h8,n,hv,hn,rfl,rfl⟩:=HH h;rw[HG (n:=n) (by simp;omega) (by rw[Vz h8];exact hv) (by simp;omega)];rw[Wg h8,Vz (by simp;omega),Wg (by simp;omega)]
def ji {A B:Type}(a:kq A)(b:kq B):kq (A×B) where
 aC x:=a.aC x.1++b.aC x.2
 aA r:=(((a.aA r).1,(b.aA (a.aA r).2).1),(b.aA (a.aA r).2).2)
 ok x:=a.ok x.1/\b.ok x.2
 aD:=by simp only[a.aD,b.aD]
 aI x:=by have:=a.aI x.1;simp;omega
 aF x h:=(a.aF _ h.1).aC (b.aF _ h.2)
 aE x r h:=by rw[Vr,a.aE x.1 _ h.1,b.aE x.2 _ h.2]
 aG l x r hb h:=by
  obtain⟨x1,x2⟩:=x;cases hd:a.aA (some l) with
  | mk y s=>
   rw[hd]at h;cases s with
   | none=>simp only[b.aD,V5,reduceCtorEq,and_false]at h
   | some m=>obtain⟨e1,o1⟩:=a.aG l y m hb hd;simp only[V5]at h;obtain⟨⟨rfl,h2⟩,h3⟩:=h;have hbm:gF m:=gF.aE (e1▸hb);obtain⟨e2,o2⟩:=b.aG m x2 r hbm (Prod.ext h2 h3);exact⟨by rw[e1,e2,Vr],o1,o2⟩
 aH l x r t h:=by
  obtain⟨x1,x2⟩:=x;cases hd:a.aA (some l) with
  | mk y s=>
   rw[hd]at h;cases s with
   | none=>simp only[b.aD,V5,reduceCtorEq,and_false]at h
   | some m=>simp only[V5]at h;obtain⟨⟨rfl,h2⟩,h3⟩:=h;rw[a.aH l _ m t hd,b.aH m x2 r t (Prod.ext h2 h3)]
def l7 {A B:Type}(a:kq A)(f:A->B)(g:B->A)(fg:∀b,f (g b)=b)(gf:∀x,g (f x)=x):kq B where
 aC x:=a.aC (g x)
 aA r:=(f (a.aA r).1,(a.aA r).2)
 ok x:=a.ok (g x)
 aD:=a.aD
 aI x:=a.aI _
 aF x h:=a.aF _ h
 aE x r h:=by rw[a.aE _ _ h];simp only[fg]
 aG l x r hb h:=by simp only[V5]at h;obtain⟨rfl,h2⟩:=h;rw[gf];exact a.aG l _ r hb (Prod.ext rfl h2)
 aH l x r t h:=by simp only[V5]at h;obtain⟨rfl,h2⟩:=h;rw[a.aH l _ r t (Prod.ext rfl h2)]
def iD {T:Type}(f:fH->T×fH):Nat->fH->List T×fH
 | 0,r=>([],r)
 | n+1,r=>match f r with
  | (_,none)=>([],none)
  | (x,some l)=>((x :: (iD f n (some l)).1),(iD f n (some l)).2)
def oT (r:fH):Int×fH:=
 match fT r with
 | (_,none)=>(0,none)
 | (n,some l)=>if n<0\/(l.length / 8:Nat)<n then (0,none) else (n,some l)
def iK {T:Type}(f:fH->T×fH)(r:fH):List T×fH:=match oT r with
 | (_,none)=>([],none)
 | (n,some l)=>iD f n.toNat (some l)
theorem HK {l r:List Int}{n:Int}(h:oT (some l)=(n,some r)):8<=l.length/\j_ (l.take 8)=n/\0<=n/\n<=((l.length-8) / 8:Nat)/\r=l.drop 8:=by
 simp only[oT,fT]at h;split at h;·cases h
 ·rename_i n l' e;split at e;·cases e
  ·rename_i hl;simp only[V5,U_]at e;obtain⟨rfl,rfl⟩:=e;split at h;·cases h
   ·rename_i hn;simp only[V5,U_]at h;simp only[Vo]at hn;obtain⟨rfl,rfl⟩:=h;exact⟨by omega,rfl,by omega,by omega,rfl⟩
theorem HJ {l:List Int}{n:Int}(h8:8<=l.length)(hv:j_ (l.take 8)=n)(h0:0<=n) (hn:n<=((l.length-8) / 8:Nat)):oT (some l)=(n,some (l.drop 8)):=by simp only[oT,fT];rw[U6 (by omega)];simp only[hv];rw[U6 (by simp only[Vo];omega)]
theorem uW {T:Type}(c:kq T):∀xs:List T,8*xs.length<=(xs.flatMap c.aC).length
 | []=>by simp
 | x :: r=>by have h1:=uW c r;have h2:=c.aI x;simp only[Xj,U1,Vf];omega
theorem HT {T:Type}(c:kq T):∀(xs:List T)(r:List Int),(∀x∈xs,c.ok x)->iD c.aA xs.length (some (xs.flatMap c.aC++r))=(xs,some r)
 | [],r,_=>rfl
 | x :: xs,r,h=>by simp only[Vf,iD,Xj,Vr];rw[c.aE x _ (h x (by simp))];simp only[HT c xs r (λy hy=>h y (by simp[hy]))]
theorem HV {T:Type}(c:kq T):∀(n:Nat)(l:List Int)(xs:List T)(r:List Int),gF l->iD c.aA n (some l)=(xs,some r)->l=xs.flatMap c.aC++r/\xs.length=n/\∀x∈xs,c.ok x
 | 0,l,xs,r,_,h=>by simp only[iD,V5,U_]at h;obtain⟨rfl,rfl⟩:=h;simp
 | n+1,l,xs,r,hb,h=>by
  simp only[iD]at h;split at h;·cases h
  ·rename_i x m hd;simp only[V5]at h;obtain⟨rfl,h2⟩:=h;obtain⟨e1,o1⟩:=c.aG l x m hb hd;obtain⟨e2,l2,o2⟩:=HV c n m _ r (gF.aE (e1▸hb)) (Prod.ext rfl h2);refine⟨by rw[Xj,Vr,<-e2];exact e1,by simp[l2],λy hy=>?_⟩;rcases VP.1 hy with rfl | hy;·exact o1
   ·exact o2 y hy
theorem HU {T:Type}(c:kq T):∀(n:Nat)(l:List Int)(xs:List T)(r t:List Int),iD c.aA n (some l)=(xs,some r)->iD c.aA n (some (l++t))=(xs,some (r++t))
 | 0,l,xs,r,t,h=>by simp only[iD,V5,U_]at h ⊢;obtain⟨rfl,rfl⟩:=h;simp
 | n+1,l,xs,r,t,h=>by
  simp only[iD]at h ⊢;split at h;·cases h
  ·rename_i x m hd;simp only[V5]at h;obtain⟨rfl,h2⟩:=h;rw[c.aH l x m t hd];simp only[HU c n m _ r t (Prod.ext rfl h2)]
def pH {T:Type}(c:kq T):kq (List T) where
 aC xs:=gO xs.length++xs.flatMap c.aC
 aA:=iK c.aA
 ok xs:=xs.length<=9223372036854775807/\∀x∈xs,c.ok x
 aD:=rfl
 aI xs:=by simp[js]
 aF xs h:=(vq _).aC λb hb=>by obtain⟨x,h1,h2⟩:=List.mem_flatMap.1 hb;exact c.aF x (h.2 x h1) b h2
 aE xs r h:=by have e8:(gO xs.length).length=8:=js _;have fb:=uW c xs;simp only[iK];rw[HJ (n:=xs.length) (by simp[e8]) (by rw[Vr,Xq e8,Dv (GF h.1)]) (by omega) (by simp only[U1,e8];omega)];rw[Vr,List.drop_left' e8];simpa using HT c xs r h.2
 aG l xs r hb h:=by
  simp only[iK]at h;split at h;·cases h
  ·rename_i n m hm;obtain⟨h8,hv,h0,hn,rfl⟩:=HK hm;obtain⟨e1,e2,o⟩:=HV c _ _ _ _ (hb.aD 8) h;obtain⟨h1,h2⟩:=CK (l:=l.take 8) (by simp;omega) (hb.aA 8);rw[hv]at h1 h2;have en:(xs.length:Int)=n:=by omega
   refine⟨by rw[en,h1,Vr,<-e1,Wp],by have:=h2.2;omega,o⟩
 aH l xs r t h:=by
  simp only[iK]at h ⊢;split at h;·cases h
  ·rename_i n m hm;obtain⟨h8,hv,h0,hn,rfl⟩:=HK hm;rw[HJ (n:=n) (by simp;omega) (by rw[Vz h8];exact hv) h0 (by simp;omega)];simp only;rw[Wg h8];exact HU c _ _ _ _ t h
theorem Hk:∀l:List Int,iW l=l.flatMap gO
 | []=>rfl
 | x :: r=>by simp only[iW,Xj,Hk r]
structure hP where
 aA:Int
 aC:Int
 aE:Int
 aD:Int
 aF:Int
 deriving DecidableEq
structure gi where
 aC:Int
 aH:Int
 aK:Int
 aL:Int
 aE:Int
 aA:fA
 aG:fq
 aJ:List Int
 aD:hP
 deriving DecidableEq
structure jf where
 aA:List fF
 aD:List hP
 deriving DecidableEq
def hP.c (v:hP):List D:=[.aA .i64 v.aA,.aA .i64 v.aC,.aA .i64 v.aE,.aA .i64 v.aD,.aA .i64 v.aF]
def rv (l:List fF):D:=.sl 10 (l.map fF.c)
def lJ (l:List hP):D:=.sl 5 (l.map hP.c)
def gi.c (x:gi):List D:=[.aA .i64 x.aC,.aA .i64 x.aH,.aA .i64 x.aK,.aA .i64 x.aL,.aA .i64 x.aE,.aA .i64 x.aA.aA,.aA .i64 x.aA.aD,gK x.aA.es,fN x.aG.aA,fN x.aG.aC,fN x.aG.aD,gq x.aJ,
 .aA .i64 x.aD.aA,.aA .i64 x.aD.aC,.aA .i64 x.aD.aE,.aA .i64 x.aD.aD,.aA .i64 x.aD.aF]
def nS (l:List gi):D:=.sl 17 (l.map gi.c)
def jf.c (x:jf):List D:=[rv x.aA,lJ x.aD]
def kx:kq fU:=l7 (ji jZ (ji jZ ni)) (λp=>⟨p.1,p.2.1,p.2.2⟩) (λe=>(e.aA,e.aD,e.aC)) (λ_=>rfl) (λ_=>rfl)
def kj:kq fA:=l7 (ji jZ (ji jZ (pH kx))) (λp=>⟨p.1,p.2.1,p.2.2⟩) (λe=>(e.aA,e.aD,e.es)) (λ_=>rfl) (λ_=>rfl)
def tA:kq (List Int):=pH jZ
def iV:kq fq:=l7 (ji tA (ji tA tA)) (λp=>⟨p.1,p.2.1,p.2.2⟩) (λe=>(e.aA,e.aC,e.aD)) (λ_=>rfl) (λ_=>rfl)
def jI:kq hP:=l7 (ji jZ (ji jZ (ji jZ (ji jZ jZ)))) (λp=>⟨p.1,p.2.1,p.2.2.1,p.2.2.2.1,p.2.2.2.2⟩) (λe=>(e.aA,e.aC,e.aE,e.aD,e.aF)) (λ_=>rfl) (λ_=>rfl)
def jX:kq fF:=l7 (ji jZ (ji jZ (ji jZ (ji kj (ji iV ni))))) (λp=>⟨p.1,p.2.1,p.2.2.1,p.2.2.2.1,p.2.2.2.2.1,p.2.2.2.2.2⟩) (λe=>(e.aE,e.aC,e.aF,e.aA,e.aD,e.aG)) (λ_=>rfl) (λ_=>rfl)
def kE:kq gi:=l7 (ji jZ (ji jZ (ji jZ (ji jZ (ji jZ (ji kj (ji iV (ji ni jI))))))))
 (λp=>⟨p.1,p.2.1,p.2.2.1,p.2.2.2.1,p.2.2.2.2.1,p.2.2.2.2.2.1,p.2.2.2.2.2.2.1,p.2.2.2.2.2.2.2.1,p.2.2.2.2.2.2.2.2⟩) (λe=>(e.aC,e.aH,e.aK,e.aL,e.aE,e.aA,e.aG,e.aJ,e.aD)) (λ_=>rfl) (λ_=>rfl)
def kP:kq jf:=l7 (ji (pH jX) (pH jI)) (λp=>⟨p.1,p.2⟩) (λe=>(e.aA,e.aD)) (λ_=>rfl) (λ_=>rfl)
theorem Ga (e:fU):kx.aC e=gO e.aA++gO e.aD++(gO e.aC.length++e.aC):=by simp only[kx,l7,ji,jZ,ni,Vr]
theorem CA (x:fA):kj.aC x=gO x.aA++gO x.aD++(gO x.es.length++x.es.flatMap kx.aC):=by simp only[kj,l7,ji,jZ,pH,Vr]
theorem NQ (l:List Int):tA.aC l=gO l.length++iW l:=by simp only[tA,pH,Hk];rfl
theorem uT (x:fq):iV.aC x=x.aF:=by simp only[iV,l7,ji,NQ,fq.aF,Vr]
theorem Dz (v:hP):jI.aC v=iW [v.aA,v.aC,v.aE,v.aD,v.aF]:=by simp only[jI,l7,ji,jZ,iW,VY]
theorem Gu (x:fF):jX.aC x=iW [x.aE,x.aC,x.aF]++kj.aC x.aA++x.aD.aF++(gO x.aG.length++x.aG):=by simp only[<-uT,jX,l7,ji,jZ,ni,iW,VY,Vr]
theorem FT (x:gi):kE.aC x=iW [x.aC,x.aH,x.aK,x.aL,x.aE]++kj.aC x.aA++x.aG.aF++(gO x.aJ.length++x.aJ)++jI.aC x.aD:=by simp only[<-uT,kE,l7,ji,jZ,ni,iW,VY,Vr]
theorem NK (x:jf):kP.aC x=(gO x.aA.length++x.aA.flatMap jX.aC)++(gO x.aD.length++x.aD.flatMap jI.aC):=by simp only[kP,l7,ji,pH]
def kr {T:Type}(P:Program)(f:FuncId)(c:T->List D)(e:T->List Int):Prop:=
 fK P f=true/\∀(F G:Nat->Prop)(h:eX)(l:List Int)(b:AV)(x:T)(az:List AV),Rd F h (gq l) b->fu G h (c x) az->(l++e x).length<=2^33->fC P f [b,.aF az] h λr h'=>r=iS (l++e x)/\h'=h
def qK (P:Program)(f:FuncId):Prop:=
 fK P f=true/\∀(F:Nat->Prop)(h:eX)(l:List Int)(b:AV)(v:Int),Rd F h (gq l) b->l.length<=2^42->fC P f [b,.aA .i64 v] h λr h'=>r=iS (l++gO v)/\h'=h
def ud (P:Program)(f:FuncId):Prop:=
 fK P f=true/\∀(F G:Nat->Prop)(h:eX)(l p:List Int)(b a:AV),Rd F h (gq l) b->Rd G h (gq p) a->l.length<=2^41->p.length<=2^41->fC P f [b,a] h λr h'=>r=iS (l++(gO p.length++p))/\h'=h
def qW (P:Program)(f:FuncId):Prop:=
 fK P f=true/\∀(F G:Nat->Prop)(h:eX)(l vs:List Int)(b a:AV),Rd F h (gq l) b->Rd G h (fN vs) a->vs≠[]->(l++iW vs).length<=2^33->fC P f [b,a] h λr h'=>r=iS (l++iW vs)/\h'=h
theorem Rd.aL {F:Nat->Prop}{h:eX}{d:D}{a:AV}(hh:Rd F h d a):Rd (λ_=>True) h d a:=Rd.aE (λ_ _=>Vd) (gY.lt _ _) _ _ hh
theorem fu.aE {F:Nat->Prop}{h:eX}{d:List D}{a:List AV}(hh:fu F h d a):fu (λ_=>True) h d a:=fu.aA (λ_ _=>Vd) (gY.lt _ _) _ _ hh
theorem yK.p {P:Program}{f:FuncId}(hc:yK P f):qK P f:=⟨hc.1,λF h l b v hb hl=>(hc.2 F h l b v hb hl).aC λ_ _ hk=>⟨hk.2.2,_,gU.d (eY.fz (gq _) (λ_ x=>x) _ hk.1),rfl⟩⟩
theorem r7.p {P:Program}{f:FuncId}(hc:r7 P f):ud P f:=⟨hc.1,λF G h l p b a hb ha hl hp=>(hc.2 (λ_=>True) h l p b a hb.aL ha.aL hl hp).aC λ_ _ hk=>⟨hk.2.2,_,gU.d (eY.fz (gq _) (λ_ x=>x) _ hk.1),by rw[Vr];rfl⟩⟩
theorem uy.p {P:Program}{f:FuncId}(hc:uy P f):kr P f fq.c fq.aF:=⟨hc.1,λF G h l b x az hb ha hl=>by have h8:∀v:List Int,(iW v).length=8*v.length:=lL;have q:l.length<=2^33/\x.aA.length<=2^33/\x.aC.length<=2^33/\x.aD.length<=2^33\/True:=.inr Vd;exact (hc.2 (λ_=>True) h l b x az hb.aL ha.aE (by simp only[fq.aF,U1,h8]at hl;omega) (by simp only[fq.aF,U1,h8]at hl;omega) (by simp only[fq.aF,U1,h8]at hl;omega) (by simp only[fq.aF,U1,h8]at hl;omega)).aC λ_ _ hk=>⟨hk.2.2,_,gU.d (eY.fz (gq _) (λ_ x=>x) _ hk.1),rfl⟩⟩
theorem PZ {P:Program}{f r n:FuncId}(hf:Is P f (AQ r n))(hr:wG P r)(hn:wm P n):yK P f:=by refine⟨hf.2,λF h l b v hb hl=>fS hf ?_⟩;simp only[AQ,go_sem];refine fy ⟨hr.1,hr.2 F h l b 8 hb hl (by omega)⟩ ?_;rintro a h1 ⟨o1,c1,x1⟩;simp only[go_sem];refine fy ⟨hn.1,hn.2 h.length h1 l a v o1 c1 x1.1 (by omega)⟩ ?_;rintro a2 h2 ⟨o2,c2,x2⟩;simp only[go_sem];exact⟨o2,c2,x1.aJ x2 (λm hm hm'=>by omega)⟩
theorem NS {P:Program}{f g:FuncId}(hf:Is P f (Ay g))(hg:qK P g):qW P f:=by
 refine⟨hf.2,λF G h l vs b a hb ha u hl=>fS hf ?_⟩;have la:=ha.aF;have e:=lL;simp only[U1,e]at hl;simp only[Ay,go_sem,la];refine iM (λm L h'=>∃(i:Nat)(o:AV),lk 0 L=o/\lk 7 L=a/\lk 8 L=.aA .i64 vs.length/\lk 9 L=.aA .i64 i/\Rd (λ_=>True) h (gq (l++iW (vs.take i))) o/\(0<i->o=iS (l++iW (vs.take i)))/\h=h'/\i<=vs.length/\m=vs.length-i) vs.length ?_ ?_;·exact⟨0,b,by simp[fm,g_],by simp[fm],by simp[fm],by simp[fm],by simpa [iW] using hb.aL,by simp,rfl,by omega,by omega⟩
 ·rintro m L h' ⟨i,o,k0,k7,k8,k9,ho,hq,rfl,hi,rfl⟩;simp only[Fm,go_sem,k8,k9];refine ij (λci=>?_) (λci=>?_)
  ·simp at ci;obtain⟨p,hp,hv⟩:=ha.aG ci;have e1:IntKind.i64.wrap (↑i+1)=(i:Int)+1:=gj (by omega);have e2:iW (vs.take (i+1))=iW (vs.take i)++gO vs[i]:=by rw[VA ci,CL];simp[iW]
   simp only[go_sem,k0,k7,k9,hp,hv];refine fZ hg.1 (hg.2 _ h _ o vs[i] ho (by simp only[U1,e,Va];omega)) ?_;simp only[go_sem,k0,k7,k8,k9,e1];refine⟨_,by omega,i+1,_,rfl,by simp,?_,λ_=>by rw[e2,Vr],ci,rfl⟩;rw[e2,<-Vr];exact kS _ _ _
  ·simp at ci;obtain rfl:i=vs.length:=by omega
   rw[VB]at hq;simp only[go_sem,k0];exact hq (W9.2 u)
theorem fu.aC {F:Nat->Prop}{h:eX}:∀{ds:List D}{l:List AV},fu F h ds l->l.all AV.aH=true
 | [],l,hh=>by simp only[fu]at hh;subst hh;rfl
 | d :: ds,l,hh=>by simp only[fu]at hh;obtain⟨a,r,rfl,h1,h2⟩:=hh;simp[h1.aA,h2.aC]
theorem Io {z cs:List AV}(h:z.length=cs.length):jT z 0 cs=cs:=Im cs [] z h
def qO {T:Type}(P:Program)(f:FuncId)(sz:Nat)(c:T->List D)(e:T->List Int):Prop:=
 fK P f=true/\∀(put:FuncId),kr P put c e->∀(F G:Nat->Prop)(h:eX)(l:List Int)(b:AV)(xs:List T)(a:AV),Rd F h (gq l) b->Rd G h (.sl sz (xs.map c)) a->xs.length<=2^40->(l++(gO xs.length++xs.flatMap e)).length<=2^33->
  fC P f [b,a,.aK put [] []] h λr h'=>r=iS (l++(gO xs.length++xs.flatMap e))/\h'=h
def iY.sz (S B:Nat)(Z:List AV):iY->iY
 | .h (.aA _ xs)=>.h (.aA S xs)
 | .h (.aC _ _ x y)=>.h (.aC S B x y)
 | .h (.mk _)=>.h (.mk Z)
 | .h (.aE _ a x)=>.h (.aE S a x)
 | .r (.aD _ x i)=>.r (.aD S x i)
 | .r (.aA true _ x)=>.r (.aA true S x)
 | o=>o
def AC.sz (S B:Nat)(Z:List AV):AC->AC
 | .aG ops=>.aG (ops.map λo=>⟨o.aA,o.op.sz S B Z,o.aC⟩)
 | .aA a b=>.aA (a.sz S B Z) (b.sz S B Z)
 | .aF c a b=>.aF c (a.sz S B Z) (b.sz S B Z)
 | .aE i b=>.aE i (b.sz S B Z)
 | .aD b=>.aD (b.sz S B Z)
 | c=>c
def fM.sz (S B:Nat)(Z:List AV)(f:fM):fM:=⟨f.n,f.aD,f.aA.sz S B Z,f.aC⟩
theorem C7 {T:Type}{S:Nat}{Z:List AV}{c:T->List D}{P:Program}{f g:FuncId}{e:T->List Int} (hf:Is P f ((w_ g).sz S 0 Z)) (hg:qK P g) (hZ:Z.length=S) (hc:∀x:T,(c x).length=S):qO P f S c e:=by
 refine⟨hf.2,λput hp F G h l b xs a hb ha hx4 hl=>jG (qD _ _) (fS hf ?_)⟩;have la:ik a=some (.aA .i64 xs.length):=by simpa using ha.aC
 simp only[w_,fM.sz,AC.sz,iY.sz,Vv,VO,go_sem,la];refine fZ hg.1 (hg.2 _ h _ b _ hb (by simp only[U1]at hl;omega)) ?_;simp only[go_sem,la];refine iM (λm L h'=>∃(i:Nat),lk 0 L=iS (l++(gO xs.length++(xs.take i).flatMap e))/\lk 2 L=.aK put [] []/\lk 13 L=a/\lk 14 L=.aA .i64 xs.length/\lk 15 L=.aA .i64 i/\eW eZ h h'/\i<=xs.length/\m=xs.length-i) xs.length ?_ ?_;·exact⟨0,by simp[fm],by simp[fm,g_],by simp[fm],by simp[fm],by simp[fm],eW.aC _ _,by omega,by omega⟩
 ·rintro m L h2 ⟨i,k0,k2,I,E,u,hE,hi,rfl⟩;simp only[Fs,AC.sz,iY.sz,Vv,VO,go_sem,E,u];refine ij (λci=>?_) (λci=>?_)
  ·simp at ci;obtain⟨p,cs,U,O,C⟩:=(ha.up hE).aD .i64 (i:=i) (d:=c xs[i]) (by omega) (by simp[ci]);have M:cs.length=S:=by rw[uC C,hc]
   have ld:=jr O true S;rw[Dq,M,U4 (U8 _),Vs (by omega)]at ld;have sm:∀z:List AV,z.length=S->jT z 0 cs=cs:=λz hz=>Io (by omega);have tk:cs.take S=cs:=Vs (by omega);have e1:IntKind.i64.wrap (↑i+1)=(i:Int)+1:=gj (by omega);have hx:=C.aC;simp only[go_sem,k0,k2,I,u,U,ld,M,hx,hZ,sm Z hZ,tk,WR,U8];have fl:(xs.take (i+1)).flatMap e=(xs.take i).flatMap e++e xs[i]:=by rw[VA ci,List.flatMap_append,Xj,List.flatMap_nil,VY]
   have ll:(l++(gO xs.length++(xs.take i).flatMap e)++e xs[i]).length<=2^33:=by
    have e3:xs=xs.take (i+1)++xs.drop (i+1):=(Wp _ _).symm;have e4:xs.flatMap e=(xs.take (i+1)).flatMap e++(xs.drop (i+1)).flatMap e:=by rw[<-List.flatMap_append,Wp]
    rw[e4,fl]at hl;simp only[U1]at hl ⊢;omega
   refine fZ hp.1 (hp.2 eZ G _ _ _ xs[i] _ (kS _ _ _) (C.up (eW.b1 _)) ll) ?_;simp only[go_sem,k0,k2,I,E,u,e1];refine⟨_,by omega,i+1,by rw[fl];simp only[Vr],by simp,hE.tr (eW.b1 _),ci,rfl⟩
  ·simp at ci;obtain rfl:i=xs.length:=by omega
   rw[VB]at k0;simp only[go_sem,k0];exact hE
theorem Qf {P:Program}{f g:FuncId}{e:fU->List Int}(hf:Is P f (w_ g))(hg:qK P g):qO P f 3 fU.c e:=
 C7 (S:=3) (c:=fU.c) (Z:=(List.replicate 2 (AV.aA .i64 0)++[AV.aD])) hf hg rfl λ_=>rfl
theorem Qh {P:Program}{f g:FuncId}{e:fF->List Int}(hf:Is P f (Ft g))(hg:qK P g):qO P f 10 fF.c e:=
 C7 (S:=10) (c:=fF.c) (Z:=(List.replicate 5 (AV.aA .i64 0)++List.replicate 5 AV.aD)) hf hg rfl λ_=>rfl
theorem Qk {P:Program}{f g:FuncId}{e:hP->List Int}(hf:Is P f (Fq g))(hg:qK P g):qO P f 5 hP.c e:=
 C7 (S:=5) (c:=hP.c) (Z:=(List.replicate 5 (AV.aA .i64 0))) hf hg rfl λ_=>rfl
theorem HN {e:fU}{F:Nat->Prop}{h:eX}{a:List AV}(hh:fu F h e.c a):∃d,a=[.aA .i64 e.aA,.aA .i64 e.aD,d]/\Rd F h (gq e.aC) d:=by simp only[fU.c,qw]at hh;obtain⟨_,rfl,_,rfl,hh⟩:=hh;simp only[fu]at hh;obtain⟨d,_,rfl,h1,rfl⟩:=hh;exact⟨d,rfl,h1⟩
theorem QU {x:fA}{F:Nat->Prop}{h:eX}{a:List AV}(hh:fu F h x.c a):∃d,a=[.aA .i64 x.aA,.aA .i64 x.aD,d]/\Rd F h (gK x.es) d:=by simp only[fA.c,qw]at hh;obtain⟨_,rfl,_,rfl,hh⟩:=hh;simp only[fu]at hh;obtain⟨d,_,rfl,h1,rfl⟩:=hh;exact⟨d,rfl,h1⟩
theorem HR {x:hP}{F:Nat->Prop}{h:eX}{a:List AV}(hh:fu F h x.c a):a=[.aA .i64 x.aA,.aA .i64 x.aC,.aA .i64 x.aE,.aA .i64 x.aD,.aA .i64 x.aF]:=by simp only[hP.c,qw]at hh;obtain⟨_,rfl,_,rfl,_,rfl,_,rfl,_,rfl,hh⟩:=hh;simp only[fu]at hh;rw[hh]
theorem Da {x:gi}{F:Nat->Prop}{h:eX}{a:List AV}(hh:fu F h x.c a):∃e o n l s,a=[.aA .i64 x.aC,.aA .i64 x.aH,.aA .i64 x.aK,.aA .i64 x.aL,.aA .i64 x.aE,.aA .i64 x.aA.aA,.aA .i64 x.aA.aD,e,o,n,l,s,
  .aA .i64 x.aD.aA,.aA .i64 x.aD.aC,.aA .i64 x.aD.aE,.aA .i64 x.aD.aD,.aA .i64 x.aD.aF]/\Rd F h (gK x.aA.es) e/\Rd F h (fN x.aG.aA) o/\Rd F h (fN x.aG.aC) n/\Rd F h (fN x.aG.aD) l/\Rd F h (gq x.aJ) s:=by
 simp only[gi.c,qw]at hh;obtain⟨_,rfl,_,rfl,_,rfl,_,rfl,_,rfl,_,rfl,_,rfl,hh⟩:=hh;simp only[fu]at hh;obtain⟨e,_,rfl,h1,o,_,rfl,h2,n,_,rfl,h3,l,_,rfl,h4,s,_,rfl,h5,_,_,rfl,h6,_,_,rfl,h7,_,_,rfl,h8,_,_,rfl,h9,_,_,rfl,u,rfl⟩:=hh;simp only[Rd]at h6 h7 h8 h9 u;subst h6 h7 h8 h9 u;exact⟨e,o,n,l,s,rfl,h1,h2,h3,h4,h5⟩
theorem Db {x:jf}{F:Nat->Prop}{h:eX}{a:List AV}(hh:fu F h x.c a):∃d v,a=[d,v]/\Rd F h (rv x.aA) d/\Rd F h (lJ x.aD) v:=by simp only[jf.c,fu]at hh;obtain⟨d,_,rfl,h1,v,_,rfl,h2,rfl⟩:=hh;exact⟨d,v,rfl,h1,h2⟩
theorem vG {H:eX}{l:List Int}{g:Bool}{n k:Nat}(hn:n=l.length) (hb:H[k]?=some (some (.aA 1 (l.map λn=>[.aA .i64 n]) g))):Rd (λ_=>True) H (fN l) (.aG k 1 0 n (some n)):=by subst hn;simp only[fN,Rd];exact⟨_,.inr (.inr ⟨k,0,l.length,_,_,g,rfl,Vd,hb,by simp,(λc hc=>by cases hc;omega),rfl⟩),by rw[V9,Vs (by simp)];exact fG.rd (F:=λ_=>True) _ (λ_ x=>x) _ (vu .i64 _ _ l)⟩
theorem Qe {P:Program}{f g k:FuncId}(hf:Is P f (AD g k))(hg:qW P g)(hk:ud P k):kr P f fU.c kx.aC:=by refine⟨hf.2,λF G h l b x az hb ha hl=>jG (qD _ _) (fS hf ?_)⟩;obtain⟨d,rfl,hd⟩:=HN ha;have e:=lL;rw[Ga]at hl ⊢;simp only[U1,js]at hl;simp only[AD,go_sem,hd.aA];refine fZ hg.1 (hg.2 _ (λ_=>True) _ l [x.aA,x.aD] b _ (hb.up (eW.b2 _ _)) (vG rfl (iF _ _ _)) (by simp) (by simp only[U1,e,Vf,Ve];omega)) ?_;simp only[go_sem];refine fZ hk.1 (hk.2 eZ G _ _ x.aC _ d (kS _ _ _) (hd.up (eW.b2 _ _)) (by simp only[U1,e,Vf,Ve];omega) (by omega)) ?_;simp only[go_sem];exact⟨by simp only[iW,VY,Vr],eW.b2 _ _⟩
theorem Qi {P:Program}{f g k p:FuncId}(hf:Is P f (AF g k p))(hg:qW P g)(hk:qO P k 3 fU.c kx.aC)(hp:kr P p fU.c kx.aC):kr P f fA.c kj.aC:=by refine⟨hf.2,λF G h l b x az hb ha hl=>jG (qD _ _) (fS hf ?_)⟩;obtain⟨d,rfl,hd⟩:=QU ha;have e:=lL;have hfb:=uW kx x.es;rw[CA]at hl ⊢;simp only[U1,js]at hl;simp only[AF,go_sem,hd.aA];refine fZ hg.1 (hg.2 _ (λ_=>True) _ l [x.aA,x.aD] b _ (hb.up (eW.b2 _ _)) (vG rfl (iF _ _ _)) (by simp) (by simp only[U1,e,Vf,Ve];omega)) ?_;simp only[go_sem];refine fZ hk.1 (hk.2 p hp eZ G _ _ _ x.es d (kS _ _ _) (hd.up (eW.b2 _ _)) (by omega) (by simp only[U1,e,js,Vf,Ve];omega)) ?_;simp only[go_sem];exact⟨by simp only[iW,VY,Vr],eW.b2 _ _⟩
theorem Qj {P:Program}{f g:FuncId}(hf:Is P f (AG g))(hg:qW P g):kr P f hP.c jI.aC:=by refine⟨hf.2,λF G h l b x az hb ha hl=>jG (qD _ _) (fS hf ?_)⟩;obtain rfl:=HR ha;rw[Dz]at hl ⊢;simp only[AG,go_sem];refine fZ hg.1 (hg.2 _ (λ_=>True) _ l [x.aA,x.aC,x.aE,x.aD,x.aF] b _ (hb.up (eW.b2 _ _)) (vG rfl (iF _ _ _)) (by simp) hl) ?_;simp only[go_sem];exact eW.b2 _ _
theorem Qg {P:Program}{f g lo co k:FuncId}(hf:Is P f (AE g lo co k))(hg:qW P g)(C:kr P lo fA.c kj.aC)(E:kr P co fq.c fq.aF)(hk:ud P k):kr P f fF.c jX.aC:=by refine⟨hf.2,λF G h l b x az hb ha hl=>jG (qD _ _) (fS hf ?_)⟩;obtain⟨e,o,n,d,s,rfl,he,ho,hn,hd,hs⟩:=lO ha;have u:=lL;rw[Gu]at hl ⊢;simp only[U1,u,js,Vf,Ve]at hl;simp only[AE,fF.aH,go_sem,he.aA,ho.aA,hn.aA,hd.aA,hs.aA];refine fZ hg.1 (hg.2 _ (λ_=>True) _ l [x.aE,x.aC,x.aF] b _ (hb.up (eW.b2 _ _)) (vG rfl (iF _ _ _)) (by simp) (by simp only[U1,u,Vf,Ve];omega)) ?_;simp only[go_sem];refine fZ C.1 (C.2 eZ G _ _ _ x.aA _ (kS _ _ _) ((vk he).up (eW.b2 _ _)) (by simp only[U1,u,Vf,Ve];omega)) ?_;simp only[go_sem];refine fZ E.1 (E.2 eZ G _ _ _ x.aD _ (kS _ _ _) ((s_ ho hn hd).up (eW.b2 _ _)) (by simp only[U1,u,Vf,Ve];omega)) ?_;simp only[go_sem];refine fZ hk.1 (hk.2 eZ G _ _ x.aG _ s (kS _ _ _) (hs.up (eW.b2 _ _)) (by simp only[U1,u,Vf,Ve];omega) (by omega)) ?_;simp only[go_sem];exact⟨by simp only[Vr],eW.b2 _ _⟩
theorem Uw {x:hP}{F:Nat->Prop}{h:eX}:fu F h x.c [.aA .i64 x.aA,.aA .i64 x.aC,.aA .i64 x.aE,.aA .i64 x.aD,.aA .i64 x.aF]:=by simp only[hP.c,fu,Rd];exact⟨_,_,rfl,rfl,_,_,rfl,rfl,_,_,rfl,rfl,_,_,rfl,rfl,_,_,rfl,rfl,rfl⟩
theorem Qd {P:Program}{f g lo co k vo:FuncId}(hf:Is P f (Az g lo co k vo))(hg:qW P g)(C:kr P lo fA.c kj.aC)(E:kr P co fq.c fq.aF)(hk:ud P k)(hv:kr P vo hP.c jI.aC):kr P f gi.c kE.aC:=by refine⟨hf.2,λF G h l b x az hb ha hl=>jG (qD _ _) (fS hf ?_)⟩;obtain⟨e,o,n,d,s,rfl,he,ho,hn,hd,hs⟩:=Da ha;have u:=lL;rw[FT]at hl ⊢;have hve:=Dz x.aD;simp only[U1,u,js,Vf,Ve]at hl;simp only[Az,go_sem,he.aA,ho.aA,hn.aA,hd.aA,hs.aA];refine fZ hg.1 (hg.2 _ (λ_=>True) _ l [x.aC,x.aH,x.aK,x.aL,x.aE] b _ (hb.up (eW.b2 _ _)) (vG rfl (iF _ _ _)) (by simp) (by simp only[U1,u,Vf,Ve];omega)) ?_;simp only[go_sem];refine fZ C.1 (C.2 eZ G _ _ _ x.aA _ (kS _ _ _) ((vk he).up (eW.b2 _ _)) (by simp only[U1,u,Vf,Ve];omega)) ?_;simp only[go_sem];refine fZ E.1 (E.2 eZ G _ _ _ x.aG _ (kS _ _ _) ((s_ ho hn hd).up (eW.b2 _ _)) (by simp only[U1,u,Vf,Ve];omega)) ?_;simp only[go_sem];refine fZ hk.1 (hk.2 eZ G _ _ x.aJ _ s (kS _ _ _) (hs.up (eW.b2 _ _)) (by simp only[U1,u,Vf,Ve];omega) (by omega)) ?_;simp only[go_sem];refine fZ hv.1 (hv.2 eZ eZ _ _ _ x.aD _ (kS _ _ _) Uw (by simp only[U1,u,js,Vf,Ve];omega)) ?_;simp only[go_sem];exact⟨by simp only[Vr],eW.b2 _ _⟩
def yQ (P:Program)(f:FuncId):Prop:=fK P f=true/\∀(G:Nat->Prop)(h:eX)(x:jf)(az:List AV),fu G h x.c az->(kP.aC x).length<=2^33->fC P f [.aF az] h λr h'=>r=iS (kP.aC x)/\h'=h
theorem JC {P:Program}{f lh ph lv pv:FuncId}(hf:Is P f (Ar lh ph lv pv))(u:qO P lh 10 fF.c jX.aC)(E:kr P ph fF.c jX.aC)(e:qO P lv 5 hP.c jI.aC)(C:kr P pv hP.c jI.aC):yQ P f:=by refine⟨hf.2,λG h x az ha hl=>jG (qD _ _) (fS hf ?_)⟩;obtain⟨d,v,rfl,hd,hv⟩:=Db ha;have f1:=uW jX x.aA;have f2:=uW jI x.aD;rw[NK]at hl ⊢;simp only[U1,js]at hl;simp only[Ar,go_sem,hd.aA,hv.aA];refine fZ u.1 (u.2 ph E eZ G _ [] _ x.aA d (Rd.aK 1) (hd.up (eW.b1 _)) (by omega) (by simp only[Wd,U1,js];omega)) ?_;simp only[go_sem];refine fZ e.1 (e.2 pv C eZ G _ _ _ x.aD v (kS _ _ _) (hv.up (eW.b1 _)) (by omega) (by simp only[U1,js];omega)) ?_;simp only[go_sem];exact eW.b1 _
end Glb
