/-
  A library of its own.
-/
import Derived.Test.YtdeiamnhnfmilaaGreatGlbQuoA
import Derived.Test.YtdeiamnhnfmilaaGreatGlbMorA
set_option linter.unusedSimpArgs false
set_option linter.unusedVariables false
set_option maxRecDepth 10000
set_option maxHeartbeats 8000000
open Nat (reduceSub)
namespace Glb
open Go
variable {P:Program}{f g k:FuncId}
abbrev fR:=Option (List Int)
def nJ (l:List Int):Int:=l.foldl (λv x=>v*256+x) 0
def kT (l:List Int):Int:=IntKind.i64.wrap (nJ l)
def iA (n:Int):Prop:=-9223372036854775808<=n/\n<=9223372036854775807
def gT (l:List Int):Prop:=∀x∈l,0<=x/\x<256
theorem gT.aA {l:List Int}(h:gT l)(n:Nat):gT (l.take n):=λx hx=>h x (XQ hx)
theorem gT.aD {l:List Int}(h:gT l)(n:Nat):gT (l.drop n):=λx hx=>h x (Xw hx)
theorem E9 (x:Int):IntKind.i64.wrap x=(x+9223372036854775808) % 18446744073709551616-9223372036854775808:=by simp only[IntKind.wrap,IntKind.bits,IntKind.signed];simp;split<;>omega
theorem rC (v:Int)(k:Nat)(hk:k<=7):mC v (7-k)=(v % 18446744073709551616) / 256^k % 256:=by rw[MB v k hk,zV]
theorem Eb (v:Int):gW v=[(v % 18446744073709551616) / 72057594037927936 % 256,(v % 18446744073709551616) / 281474976710656 % 256,(v % 18446744073709551616) / 1099511627776 % 256,(v % 18446744073709551616) / 4294967296 % 256,
  (v % 18446744073709551616) / 16777216 % 256,(v % 18446744073709551616) / 65536 % 256,(v % 18446744073709551616) / 256 % 256,(v % 18446744073709551616) % 256]:=by
 have h0:=rC v 0 ω;have h1:=rC v 1 ω;have h2:=rC v 2 ω;have h3:=rC v 3 ω;have h4:=rC v 4 ω;have h5:=rC v 5 ω;have h6:=rC v 6 ω;have h7:=rC v 7 ω;simp only[reduceSub,Int.reducePow]at h0 h1 h2 h3 h4 h5 h6 h7;simp only[gW,h0,h1,h2,h3,h4,h5,h6,h7,Int.ediv_one]
theorem wR (v:Int):gT (gW v):=by rw[Eb];intro x hx;simp only[XC,List.not_mem_nil,or_false]at hx;rcases hx with rfl | rfl | rfl | rfl | rfl | rfl | rfl | rfl<;>omega
theorem J_ (a b c d e f g h:Int):nJ [a,b,c,d,e,f,g,h]=a*72057594037927936+b*281474976710656+c*1099511627776+d*4294967296+e*16777216+f*65536+g*256+h:=by simp only[nJ,Zm,List.foldl_nil];omega
theorem EW {v:Int}(h:iA v):kT (gW v)=v:=by
 rw[Eb,kT,J_,E9];obtain⟨h1,h2⟩:=h;have:v % 18446744073709551616=(if v<0 then v+18446744073709551616 else v):=by split<;>omega
 generalize v % 18446744073709551616=u at *;split at this<;>omega
theorem Ec {l:List Int}(h:l.length=8)(hb:gT l):gW (kT l)=l/\iA (kT l):=by
 match l,h with
 | [a,b,c,d,e,f,g,k],_=>
  have ha:=hb a ς;have hb':=hb b ς;have hc:=hb c ς;have hd:=hb d ς;have he:=hb e ς;have hf:=hb f ς;have hg:=hb g ς;have hk:=hb k ς;have hu:(kT [a,b,c,d,e,f,g,k]) % 18446744073709551616=a*72057594037927936+b*281474976710656+c*1099511627776+d*4294967296+e*16777216+f*65536+g*256+k:=by rw[kT,J_,E9];omega
  refine⟨?_,by rw[kT,E9];constructor<;>omega⟩;rw[Eb,hu];simp only[Yv,and_true];refine⟨ω,ω,ω,ω,ω,ω,ω,ω⟩
structure lj (T:Type) where
 aC:T->List Int
 aA:fR->T×fR
 ok:T->Prop
 aD:(aA none).2=none
 aI:∀x,8<=(aC x).length
 aF:∀x,ok x->gT (aC x)
 aE:∀x r,ok x->aA (some (aC x++r))=(x,some r)
 aG:∀l x r,gT l->aA (some l)=(x,some r)->l=aC x++r/\ok x
 aH:∀l x r t,aA (some l)=(x,some r)->aA (some (l++t))=(x,some (r++t))
theorem gT.aC {a b:List Int}(h:gT a)(h':gT b):gT (a++b):=λx hx=>(Xe.1 hx).elim (h x) (h' x)
theorem gT.aE {a b:List Int}(h:gT (a++b)):gT b:=λx hx=>h x (Xe.2 (.inr hx))
def gq:fR->Int×fR
 | none=>(0,none)
 | some l=>if l.length<8 then (0,none) else (kT (l.take 8),some (l.drop 8))
def kQ:lj Int where
 aC:=gW
 aA:=gq
 ok:=iA
 aD:=rfl
 aI _:=by simp[jO]
 aF v _:=wR v
 aE v r h:=by simp only[gq,WT,jO];rw[WY ω,List.take_left' (jO v),List.drop_left' (jO v),EW h]
 aG l x r hb h:=by
  simp only[gq]at h;split at h;·simp at h
  ·rename_i hl;simp only[Yf,W8]at h;obtain⟨rfl,rfl⟩:=h;obtain⟨h1,h2⟩:=Ec (l:=l.take 8) (by simp;omega) (hb.aA 8);exact⟨by rw[h1,YF],h2⟩
 aH l x r t h:=by
  simp only[gq]at h ⊢;split at h;·simp at h
  ·rename_i hl;simp only[Yf,W8]at h;obtain⟨rfl,rfl⟩:=h;rw[WY (by simp;omega),Xz ω,YJ ω]
def ie (r:fR):List Int×fR:=
 match gq r with
 | (_,none)=>([],none)
 | (n,some l)=>if n<0\/(l.length:Int)<n then ([],none) else (l.take n.toNat,some (l.drop n.toNat))
theorem Jg {l a r:List Int}(h:ie (some l)=(a,some r)):8<=l.length/\∃n:Nat,kT (l.take 8)=n/\n<=l.length-8/\a=(l.drop 8).take n/\r=(l.drop 8).drop n:=by
 simp only[ie,gq]at h;split at h;·cases h
 ·rename_i n l' e;split at e;·cases e
  ·rename_i hl;simp only[Yf,W8]at e;obtain⟨rfl,rfl⟩:=e;split at h;·cases h
   ·rename_i hn;simp only[Yf,W8]at h;simp only[Xk]at hn;exact⟨ω,(kT (l.take 8)).toNat,ω,ω,h.1.symm,h.2.symm⟩
theorem Jf {l:List Int}{n:Nat}(h8:8<=l.length)(hv:kT (l.take 8)=n)(hn:n<=l.length-8):ie (some l)=((l.drop 8).take n,some ((l.drop 8).drop n)):=by simp only[ie,gq];rw[WY ω];simp only[hv];rw[WY (by simp;omega)];simp
def Mt (p:List Int):Prop:=p.length<=9223372036854775807/\gT p
theorem H_ {n:Nat}(h:n<=9223372036854775807):iA (n:Int):=by constructor<;>omega
def oi:lj (List Int) where
 aC p:=gW p.length++p
 aA:=ie
 ok:=Mt
 aD:=rfl
 aI p:=by simp[jO]
 aF p h:=(wR _).aC h.2
 aE p r h:=by have e8:(gW p.length).length=8:=jO _;rw[Jf (n:=p.length) (by simp[e8]) (by rw[Xl,List.take_left' e8,EW (H_ h.1)]) (by simp[e8])];rw[Xl,List.drop_left' e8,List.take_left' rfl,List.drop_left' rfl]
 aG l x r hb h:=by
  obtain⟨h8,n,hv,hn,rfl,rfl⟩:=Jg h;obtain⟨h1,h2⟩:=Ec (l:=l.take 8) (by simp;omega) (hb.aA 8);have hlen:((l.drop 8).take n).length=n:=by simp;omega
  rw[hv]at h1 h2;refine⟨?_,by rw[hlen];exact (by have:=h2.2;omega),(hb.aD 8).aA n⟩;rw[hlen,h1,Xl,YF,YF]
 aH l x r t h:=by obtain⟨h8,n,hv,hn,rfl,rfl⟩:=Jg h;rw[Jf (n:=n) (by simp;omega) (by rw[Xz h8];exact hv) (by simp;omega)];rw[YJ h8,Xz (by simp;omega),YJ (by simp;omega)]
def jI {A B:Type}(a:lj A)(b:lj B):lj (A×B) where
 aC x:=a.aC x.1++b.aC x.2
 aA r:=(((a.aA r).1,(b.aA (a.aA r).2).1),(b.aA (a.aA r).2).2)
 ok x:=a.ok x.1/\b.ok x.2
 aD:=by simp only[a.aD,b.aD]
 aI x:=by have:=a.aI x.1;simp;omega
 aF x h:=(a.aF _ h.1).aC (b.aF _ h.2)
 aE x r h:=by rw[Xl,a.aE x.1 _ h.1,b.aE x.2 _ h.2]
 aG l x r hb h:=by
  obtain⟨x1,x2⟩:=x;cases hd:a.aA (some l) with
  | mk y s=>
   rw[hd]at h;cases s with
   | none=>simp only[b.aD,Yf,reduceCtorEq,and_false]at h
   | some m=>obtain⟨e1,o1⟩:=a.aG l y m hb hd;simp only[Yf]at h;obtain⟨⟨rfl,h2⟩,h3⟩:=h;have hbm:gT m:=gT.aE (e1▸hb);obtain⟨e2,o2⟩:=b.aG m x2 r hbm (Prod.ext h2 h3);exact⟨by rw[e1,e2,Xl],o1,o2⟩
 aH l x r t h:=by
  obtain⟨x1,x2⟩:=x;cases hd:a.aA (some l) with
  | mk y s=>
   rw[hd]at h;cases s with
   | none=>simp only[b.aD,Yf,reduceCtorEq,and_false]at h
   | some m=>simp only[Yf]at h;obtain⟨⟨rfl,h2⟩,h3⟩:=h;rw[a.aH l _ m t hd,b.aH m x2 r t (Prod.ext h2 h3)]
def mY {A B:Type}(a:lj A)(f:A->B)(g:B->A)(fg:∀b,f (g b)=b)(gf:∀x,g (f x)=x):lj B where
 aC x:=a.aC (g x)
 aA r:=(f (a.aA r).1,(a.aA r).2)
 ok x:=a.ok (g x)
 aD:=a.aD
 aI x:=a.aI _
 aF x h:=a.aF _ h
 aE x r h:=by rw[a.aE _ _ h];simp only[fg]
 aG l x r hb h:=by simp only[Yf]at h;obtain⟨rfl,h2⟩:=h;rw[gf];exact a.aG l _ r hb (Prod.ext rfl h2)
 aH l x r t h:=by simp only[Yf]at h;obtain⟨rfl,h2⟩:=h;rw[a.aH l _ r t (Prod.ext rfl h2)]
def iV {T:Type}(f:fR->T×fR):Nat->fR->List T×fR
 | 0,r=>([],r)
 | n+1,r=>match f r with
  | (_,none)=>([],none)
  | (x,some l)=>((x :: (iV f n (some l)).1),(iV f n (some l)).2)
def p_ (r:fR):Int×fR:=
 match gq r with
 | (_,none)=>(0,none)
 | (n,some l)=>if n<0\/(l.length / 8:Nat)<n then (0,none) else (n,some l)
def ja {T:Type}(f:fR->T×fR)(r:fR):List T×fR:=match p_ r with
 | (_,none)=>([],none)
 | (n,some l)=>iV f n.toNat (some l)
theorem Jj {l r:List Int}{n:Int}(h:p_ (some l)=(n,some r)):8<=l.length/\kT (l.take 8)=n/\0<=n/\n<=((l.length-8) / 8:Nat)/\r=l.drop 8:=by
 simp only[p_,gq]at h;split at h;·cases h
 ·rename_i n l' e;split at e;·cases e
  ·rename_i hl;simp only[Yf,W8]at e;obtain⟨rfl,rfl⟩:=e;split at h;·cases h
   ·rename_i hn;simp only[Yf,W8]at h;simp only[Xk]at hn;obtain⟨rfl,rfl⟩:=h;exact⟨ω,rfl,ω,ω,rfl⟩
theorem Ji {l:List Int}{n:Int}(h8:8<=l.length)(hv:kT (l.take 8)=n)(h0:0<=n) (hn:n<=((l.length-8) / 8:Nat)):p_ (some l)=(n,some (l.drop 8)):=by simp only[p_,gq];rw[WY ω];simp only[hv];rw[WY (by simp only[Xk];omega)]
theorem wy {T:Type}(c:lj T):∀xs:List T,8*xs.length<=(xs.flatMap c.aC).length
 | []=>by simp
 | x :: r=>by have h1:=wy c r;have h2:=c.aI x;simp only[Zx,WT,Xf];omega
theorem Jr {T:Type}(c:lj T):∀(xs:List T)(r:List Int),(∀x∈xs,c.ok x)->iV c.aA xs.length (some (xs.flatMap c.aC++r))=(xs,some r)
 | [],r,_=>rfl
 | x :: xs,r,h=>by simp only[Xf,iV,Zx,Xl];rw[c.aE x _ (h x ς)];simp only[Jr c xs r (λy hy=>h y (by simp[hy]))]
theorem Jt {T:Type}(c:lj T):∀(n:Nat)(l:List Int)(xs:List T)(r:List Int),gT l->iV c.aA n (some l)=(xs,some r)->l=xs.flatMap c.aC++r/\xs.length=n/\∀x∈xs,c.ok x
 | 0,l,xs,r,_,h=>by simp only[iV,Yf,W8]at h;obtain⟨rfl,rfl⟩:=h;simp
 | n+1,l,xs,r,hb,h=>by
  simp only[iV]at h;split at h;·cases h
  ·rename_i x m hd;simp only[Yf]at h;obtain⟨rfl,h2⟩:=h;obtain⟨e1,o1⟩:=c.aG l x m hb hd;obtain⟨e2,l2,o2⟩:=Jt c n m _ r (gT.aE (e1▸hb)) (Prod.ext rfl h2);refine⟨by rw[Zx,Xl,<-e2];exact e1,by simp[l2],λy hy=>?_⟩;rcases XC.1 hy with rfl | hy;·exact o1
   ·exact o2 y hy
theorem Js {T:Type}(c:lj T):∀(n:Nat)(l:List Int)(xs:List T)(r t:List Int),iV c.aA n (some l)=(xs,some r)->iV c.aA n (some (l++t))=(xs,some (r++t))
 | 0,l,xs,r,t,h=>by simp only[iV,Yf,W8]at h ⊢;obtain⟨rfl,rfl⟩:=h;simp
 | n+1,l,xs,r,t,h=>by
  simp only[iV]at h ⊢;split at h;·cases h
  ·rename_i x m hd;simp only[Yf]at h;obtain⟨rfl,h2⟩:=h;rw[c.aH l x m t hd];simp only[Js c n m _ r t (Prod.ext rfl h2)]
def qF {T:Type}(c:lj T):lj (List T) where
 aC xs:=gW xs.length++xs.flatMap c.aC
 aA:=ja c.aA
 ok xs:=xs.length<=9223372036854775807/\∀x∈xs,c.ok x
 aD:=rfl
 aI xs:=by simp[jO]
 aF xs h:=(wR _).aC λb hb=>by obtain⟨x,h1,h2⟩:=List.mem_flatMap.1 hb;exact c.aF x (h.2 x h1) b h2
 aE xs r h:=by have e8:(gW xs.length).length=8:=jO _;have fb:=wy c xs;simp only[ja];rw[Ji (n:=xs.length) (by simp[e8]) (by rw[Xl,List.take_left' e8,EW (H_ h.1)]) ω (by simp only[WT,e8];omega)];rw[Xl,List.drop_left' e8];simpa using Jr c xs r h.2
 aG l xs r hb h:=by
  simp only[ja]at h;split at h;·cases h
  ·rename_i n m hm;obtain⟨h8,hv,h0,hn,rfl⟩:=Jj hm;obtain⟨e1,e2,o⟩:=Jt c _ _ _ _ (hb.aD 8) h;obtain⟨h1,h2⟩:=Ec (l:=l.take 8) (by simp;omega) (hb.aA 8);rw[hv]at h1 h2;have en:(xs.length:Int)=n:=ω;refine⟨by rw[en,h1,Xl,<-e1,YF],by have:=h2.2;omega,o⟩
 aH l xs r t h:=by
  simp only[ja]at h ⊢;split at h;·cases h
  ·rename_i n m hm;obtain⟨h8,hv,h0,hn,rfl⟩:=Jj hm;rw[Ji (n:=n) (by simp;omega) (by rw[Xz h8];exact hv) h0 (by simp;omega)];simp only;rw[YJ h8];exact Js c _ _ _ _ t h
theorem IT:∀l:List Int,jA l=l.flatMap gW
 | []=>rfl
 | x :: r=>by simp only[jA,Zx,IT r]
variable {P:Program}{f g k:FuncId}
structure im where
 aA:Int
 aC:Int
 aE:Int
 aD:Int
 aF:Int
 deriving DecidableEq
structure gE where
 aC:Int
 aH:Int
 aK:Int
 aL:Int
 aE:Int
 aA:fG
 aG:fI
 aJ:List Int
 aD:im
 deriving DecidableEq
structure jH where
 aA:List fP
 aD:List im
 deriving DecidableEq
def im.c (v:im):List D:=[.aA .i64 v.aA,.aA .i64 v.aC,.aA .i64 v.aE,.aA .i64 v.aD,.aA .i64 v.aF]
def sZ (l:List fP):D:=.sl 10 (l.map fP.c)
def mJ (l:List im):D:=.sl 5 (l.map im.c)
def gE.c (x:gE):List D:=[.aA .i64 x.aC,.aA .i64 x.aH,.aA .i64 x.aK,.aA .i64 x.aL,.aA .i64 x.aE,.aA .i64 x.aA.aA,.aA .i64 x.aA.aD,gZ x.aA.es,f_ x.aG.aA,f_ x.aG.aC,f_ x.aG.aD,gG x.aJ,
 .aA .i64 x.aD.aA,.aA .i64 x.aD.aC,.aA .i64 x.aD.aE,.aA .i64 x.aD.aD,.aA .i64 x.aD.aF]
def oX (l:List gE):D:=.sl 17 (l.map gE.c)
def jH.c (x:jH):List D:=[sZ x.aA,mJ x.aD]
def lL:lj gw:=mY (jI kQ (jI kQ oi)) (λp=>⟨p.1,p.2.1,p.2.2⟩) (λe=>(e.aA,e.aC,e.aD)) (λ_=>rfl) (λ_=>rfl)
def kW:lj fG:=mY (jI kQ (jI kQ (qF lL))) (λp=>⟨p.1,p.2.1,p.2.2⟩) (λe=>(e.aA,e.aD,e.es)) (λ_=>rfl) (λ_=>rfl)
def uR:lj (List Int):=qF kQ
def jz:lj fI:=mY (jI uR (jI uR uR)) (λp=>⟨p.1,p.2.1,p.2.2⟩) (λe=>(e.aA,e.aC,e.aD)) (λ_=>rfl) (λ_=>rfl)
def j_:lj im:=mY (jI kQ (jI kQ (jI kQ (jI kQ kQ)))) (λp=>⟨p.1,p.2.1,p.2.2.1,p.2.2.2.1,p.2.2.2.2⟩) (λe=>(e.aA,e.aC,e.aE,e.aD,e.aF)) (λ_=>rfl) (λ_=>rfl)
def kO:lj fP:=mY (jI kQ (jI kQ (jI kQ (jI kW (jI jz oi))))) (λp=>⟨p.1,p.2.1,p.2.2.1,p.2.2.2.1,p.2.2.2.2.1,p.2.2.2.2.2⟩) (λe=>(e.aE,e.aC,e.aF,e.aA,e.aD,e.aG)) (λ_=>rfl) (λ_=>rfl)
def lQ:lj gE:=mY (jI kQ (jI kQ (jI kQ (jI kQ (jI kQ (jI kW (jI jz (jI oi j_))))))))
 (λp=>⟨p.1,p.2.1,p.2.2.1,p.2.2.2.1,p.2.2.2.2.1,p.2.2.2.2.2.1,p.2.2.2.2.2.2.1,p.2.2.2.2.2.2.2.1,p.2.2.2.2.2.2.2.2⟩) (λe=>(e.aC,e.aH,e.aK,e.aL,e.aE,e.aA,e.aG,e.aJ,e.aD)) (λ_=>rfl) (λ_=>rfl)
def l7:lj jH:=mY (jI (qF kO) (qF j_)) (λp=>⟨p.1,p.2⟩) (λe=>(e.aA,e.aD)) (λ_=>rfl) (λ_=>rfl)
theorem HC (e:gw):lL.aC e=gW e.aA++gW e.aC++(gW e.aD.length++e.aD):=by simp only[lL,mY,jI,kQ,oi,Xl]
theorem D6 (x:fG):kW.aC x=gW x.aA++gW x.aD++(gW x.es.length++x.es.flatMap lL.aC):=by simp only[kW,mY,jI,kQ,qF,Xl]
theorem PA (l:List Int):uR.aC l=gW l.length++jA l:=by simp only[uR,qF,IT];rfl
theorem wq (x:fI):jz.aC x=x.aG:=by simp only[jz,mY,jI,PA,fI.aG,Xl]
theorem E7 (v:im):j_.aC v=jA [v.aA,v.aC,v.aE,v.aD,v.aF]:=by simp only[j_,mY,jI,kQ,jA,Yd]
theorem HT (x:fP):kO.aC x=jA [x.aE,x.aC,x.aF]++kW.aC x.aA++x.aD.aG++(gW x.aG.length++x.aG):=by simp only[<-wq,kO,mY,jI,kQ,oi,jA,Yd,Xl]
theorem Hq (x:gE):lQ.aC x=jA [x.aC,x.aH,x.aK,x.aL,x.aE]++kW.aC x.aA++x.aG.aG++(gW x.aJ.length++x.aJ)++j_.aC x.aD:=by simp only[<-wq,lQ,mY,jI,kQ,oi,jA,Yd,Xl]
theorem Pt (x:jH):l7.aC x=(gW x.aA.length++x.aA.flatMap kO.aC)++(gW x.aD.length++x.aD.flatMap j_.aC):=by simp only[l7,mY,jI,qF]
variable {P:Program}{f g k:FuncId}
def lu {T:Type}(P:Program)(f:FuncId)(c:T->List D)(e:T->List Int):Prop:=
 fZ P f=true/\∀(F G:Nat->Prop)(h:fu)(l:List Int)(b:AV)(x:T)(az:List AV),Rd F h (gG l) b->fH G h (c x) az->(l++e x).length<=2^33->fO P f [b,.aF az] h λr h'=>r=jx (l++e x)/\h'=h
def su (P:Program)(f:FuncId):Prop:=
 fZ P f=true/\∀(F:Nat->Prop)(h:fu)(l:List Int)(b:AV)(v:Int),Rd F h (gG l) b->l.length<=2^42->fO P f [b,.aD .i64 v] h λr h'=>r=jx (l++gW v)/\h'=h
def vE (P:Program)(f:FuncId):Prop:=
 fZ P f=true/\∀(F G:Nat->Prop)(h:fu)(l p:List Int)(b a:AV),Rd F h (gG l) b->Rd G h (gG p) a->l.length<=2^41->p.length<=2^41->fO P f [b,a] h λr h'=>r=jx (l++(gW p.length++p))/\h'=h
def sO (P:Program)(f:FuncId):Prop:=
 fZ P f=true/\∀(F G:Nat->Prop)(h:fu)(l vs:List Int)(b a:AV),Rd F h (gG l) b->Rd G h (f_ vs) a->vs≠[]->(l++jA vs).length<=2^33->fO P f [b,a] h λr h'=>r=jx (l++jA vs)/\h'=h
theorem Rd.aL {F:Nat->Prop}{h:fu}{d:D}{a:AV}(hh:Rd F h d a):Rd (λ_=>True) h d a:=Rd.aE (λ_ _=>Xb) (ik.lt _ _) _ _ hh
theorem fH.aE {F:Nat->Prop}{h:fu}{d:List D}{a:List AV}(hh:fH F h d a):fH (λ_=>True) h d a:=fH.aA (λ_ _=>Xb) (ik.lt _ _) _ _ hh
theorem Aq.p (hc:Aq P f):su P f:=⟨hc.1,λF h l b v hb hl=>(hc.2 F h l b v hb hl).aC λ_ _ hk=>⟨hk.2.2,_,iu.d (fA.fz (gG _) (λ_ x=>x) _ hk.1),rfl⟩⟩
theorem tS.p (hc:tS P f):vE P f:=⟨hc.1,λF G h l p b a hb ha hl hp=>(hc.2 (λ_=>True) h l p b a hb.aL ha.aL hl hp).aC λ_ _ hk=>⟨hk.2.2,_,iu.d (fA.fz (gG _) (λ_ x=>x) _ hk.1),by rw[Xl];rfl⟩⟩
theorem vO.p (hc:vO P f):lu P f fI.c fI.aG:=⟨hc.1,λF G h l b x az hb ha hl=>by have h8:∀v:List Int,(jA v).length=8*v.length:=mK;have q:l.length<=2^33/\x.aA.length<=2^33/\x.aC.length<=2^33/\x.aD.length<=2^33\/True:=.inr Xb;exact (hc.2 (λ_=>True) h l b x az hb.aL ha.aE (by simp only[fI.aG,WT,h8]at hl;omega) (by simp only[fI.aG,WT,h8]at hl;omega) (by simp only[fI.aG,WT,h8]at hl;omega) (by simp only[fI.aG,WT,h8]at hl;omega)).aC λ_ _ hk=>⟨hk.2.2,_,iu.d (fA.fz (gG _) (λ_ x=>x) _ hk.1),rfl⟩⟩
theorem RJ {r n:FuncId}(hf:Is P f (Ce r n))(hr:xY P r)(hn:xO P n):Aq P f:=by refine⟨hf.2,λF h l b v hb hl=>gy hf ?_⟩;simp only[Ce,go_sem];refine fK ⟨hr.1,hr.2 F h l b 8 hb hl ω⟩ ?_;rintro a h1 ⟨o1,c1,x1⟩;simp only[go_sem];refine fK ⟨hn.1,hn.2 h.length h1 l a v o1 c1 x1.1 ω⟩ ?_;rintro a2 h2 ⟨o2,c2,x2⟩;simp only[go_sem];exact⟨o2,c2,x1.aJ x2 (λm hm hm'=>ω)⟩
theorem PB (hf:Is P f (BS g))(hg:su P g):sO P f:=by
 refine⟨hf.2,λF G h l vs b a hb ha u hl=>gy hf ?_⟩;have la:=ha.aF;have e:=mK;simp only[WT,e]at hl;simp only[BS,go_sem,la];refine iP (λm L h'=>∃(i:Nat)(o:AV),lk 0 L=o/\lk 7 L=a/\lk 8 L=ι vs.length/\lk 9 L=ι i/\Rd (λ_=>True) h (gG (l++jA (vs.take i))) o/\(0<i->o=jx (l++jA (vs.take i)))/\h=h'/\i<=vs.length/\m=vs.length-i) vs.length ?_ ?_;·exact⟨0,b,by simp[fE,iw],by simp[fE],by simp[fE],by simp[fE],by simpa [jA] using hb.aL,ς,rfl,ω,ω⟩
 ·rintro m L h' ⟨i,o,k0,k7,k8,k9,ho,hq,rfl,hi,rfl⟩;simp only[GU,go_sem,k8,k9];refine iQ (λci=>?_) (λci=>?_)
  ·simp at ci;obtain⟨p,hp,hv⟩:=ha.aG ci;have e1:IntKind.i64.wrap (↑i+1)=(i:Int)+1:=gF ω;have e2:jA (vs.take (i+1))=jA (vs.take i)++gW vs[i]:=by rw[XE ci,Ed];simp[jA]
   simp only[go_sem,k0,k7,k9,hp,hv];refine gH hg.1 (hg.2 _ h _ o vs[i] ho (by simp only[WT,e,W7];omega)) ?_;simp only[go_sem,k0,k7,k8,k9,e1];refine⟨_,ω,i+1,_,rfl,ς,?_,λ_=>by rw[e2,Xl],ci,rfl⟩;rw[e2,<-Xl];exact l_ _ _ _
  ·simp at ci;obtain rfl:i=vs.length:=ω;rw[XF]at hq;simp only[go_sem,k0];exact hq (Zy.2 u)
theorem fH.aC {F:Nat->Prop}{h:fu}:∀{ds:List D}{l:List AV},fH F h ds l->l.all AV.aH=true
 | [],l,hh=>by simp only[fH]at hh;subst hh;rfl
 | d :: ds,l,hh=>by simp only[fH]at hh;obtain⟨a,r,rfl,h1,h2⟩:=hh;simp[h1.aA,h2.aC]
theorem JK {z cs:List AV}(h:z.length=cs.length):kJ z 0 cs=cs:=JJ cs [] z h
def sE {T:Type}(P:Program)(f:FuncId)(sz:Nat)(c:T->List D)(e:T->List Int):Prop:=
 fZ P f=true/\∀(put:FuncId),lu P put c e->∀(F G:Nat->Prop)(h:fu)(l:List Int)(b:AV)(xs:List T)(a:AV),Rd F h (gG l) b->Rd G h (.sl sz (xs.map c)) a->xs.length<=2^40->(l++(gW xs.length++xs.flatMap e)).length<=2^33->
  fO P f [b,a,.aL put [] []] h λr h'=>r=jx (l++(gW xs.length++xs.flatMap e))/\h'=h
def jB.sz (S B:Nat)(Z:List AV):jB->jB
 | .h (.aA _ xs)=>.h (.aA S xs)
 | .h (.aC _ _ x y)=>.h (.aC S B x y)
 | .h (.mk _)=>.h (.mk Z)
 | .h (.aE _ a x)=>.h (.aE S a x)
 | .r (.aD _ x i)=>.r (.aD S x i)
 | .r (.aA true _ x)=>.r (.aA true S x)
 | o=>o
def AC.sz (S B:Nat)(Z:List AV):AC->AC
 | .aH ops=>.aH (ops.map λo=>⟨o.aA,o.op.sz S B Z,o.aC⟩)
 | .aA a b=>.aA (a.sz S B Z) (b.sz S B Z)
 | .aG c a b=>.aG c (a.sz S B Z) (b.sz S B Z)
 | .aF i b=>.aF i (b.sz S B Z)
 | .aD b=>.aD (b.sz S B Z)
 | c=>c
def fT.sz (S B:Nat)(Z:List AV)(f:fT):fT:=⟨f.n,f.aD,f.aA.sz S B Z,f.aC⟩
theorem Ew {T:Type}{S:Nat}{Z:List AV}{c:T->List D}{P:Program}{f g:FuncId}{e:T->List Int} (hf:Is P f ((yB g).sz S 0 Z)) (hg:su P g) (hZ:Z.length=S) (hc:∀x:T,(c x).length=S):sE P f S c e:=by
 refine⟨hf.2,λput hp F G h l b xs a hb ha hx4 hl=>kx (r9 _ _) (gy hf ?_)⟩;have la:iJ a=some (ι xs.length):=by simpa using ha.aC
 simp only[yB,fT.sz,AC.sz,jB.sz,XD,Yb,go_sem,la];refine gH hg.1 (hg.2 _ h _ b _ hb (by simp only[WT]at hl;omega)) ?_;simp only[go_sem,la];refine iP (λm L h'=>∃(i:Nat),lk 0 L=jx (l++(gW xs.length++(xs.take i).flatMap e))/\lk 2 L=.aL put [] []/\lk 13 L=a/\lk 14 L=ι xs.length/\lk 15 L=ι i/\fq fB h h'/\i<=xs.length/\m=xs.length-i) xs.length ?_ ?_;·exact⟨0,by simp[fE],by simp[fE,iw],by simp[fE],by simp[fE],by simp[fE],fq.aC _ _,ω,ω⟩
 ·rintro m L h2 ⟨i,k0,k2,O,I,u,hE,hi,rfl⟩;simp only[GY,AC.sz,jB.sz,XD,Yb,go_sem,I,u];refine iQ (λci=>?_) (λci=>?_)
  ·simp at ci;obtain⟨p,cs,a1,W,E⟩:=(ha.up hE).aD .i64 (i:=i) (d:=c xs[i]) ω (by simp[ci]);have U:cs.length=S:=by rw[vS E,hc]
   have ld:=jN W true S;rw[ES,U,WW (WX _),Xu ω]at ld;have sm:∀z:List AV,z.length=S->kJ z 0 cs=cs:=λz hz=>JK ω;have tk:cs.take S=cs:=Xu ω;have e1:IntKind.i64.wrap (↑i+1)=(i:Int)+1:=gF ω;have hx:=E.aC;simp only[go_sem,k0,k2,O,u,a1,ld,U,hx,hZ,sm Z hZ,tk,Y7,WX];have fl:(xs.take (i+1)).flatMap e=(xs.take i).flatMap e++e xs[i]:=by rw[XE ci,List.flatMap_append,Zx,List.flatMap_nil,Yd]
   have ll:(l++(gW xs.length++(xs.take i).flatMap e)++e xs[i]).length<=2^33:=by
    have e3:xs=xs.take (i+1)++xs.drop (i+1):=(YF _ _).symm;have e4:xs.flatMap e=(xs.take (i+1)).flatMap e++(xs.drop (i+1)).flatMap e:=by rw[<-List.flatMap_append,YF]
    rw[e4,fl]at hl;simp only[WT]at hl ⊢;omega
   refine gH hp.1 (hp.2 fB G _ _ _ xs[i] _ (l_ _ _ _) (E.up (fq.b1 _)) ll) ?_;simp only[go_sem,k0,k2,O,I,u,e1];refine⟨_,ω,i+1,by rw[fl];simp only[Xl],ς,hE.tr (fq.b1 _),ci,rfl⟩
  ·simp at ci;obtain rfl:i=xs.length:=ω;rw[XF]at k0;simp only[go_sem,k0];exact hE
theorem Sa {e:gw->List Int}(hf:Is P f (yB g))(hg:su P g):sE P f 3 gw.c e:=
 Ew (S:=3) (c:=gw.c) (Z:=(List.replicate 2 (ι 0)++[AV.aC])) hf hg rfl λ_=>rfl
theorem Sc {e:fP->List Int}(hf:Is P f (GZ g))(hg:su P g):sE P f 10 fP.c e:=
 Ew (S:=10) (c:=fP.c) (Z:=(List.replicate 5 (ι 0)++List.replicate 5 AV.aC)) hf hg rfl λ_=>rfl
theorem Sf {e:im->List Int}(hf:Is P f (GX g))(hg:su P g):sE P f 5 im.c e:=
 Ew (S:=5) (c:=im.c) (Z:=(List.replicate 5 (ι 0))) hf hg rfl λ_=>rfl
variable {P:Program}{f g k:FuncId}
theorem Jm {e:gw}{F:Nat->Prop}{h:fu}{a:List AV}(hh:fH F h e.c a):∃d,a=[ι e.aA,ι e.aC,d]/\Rd F h (gG e.aD) d:=by simp only[gw.c,rT]at hh;obtain⟨_,rfl,_,rfl,hh⟩:=hh;simp only[fH]at hh;obtain⟨d,_,rfl,h1,rfl⟩:=hh;exact⟨d,rfl,h1⟩
theorem SW {x:fG}{F:Nat->Prop}{h:fu}{a:List AV}(hh:fH F h x.c a):∃d,a=[ι x.aA,ι x.aD,d]/\Rd F h (gZ x.es) d:=by simp only[fG.c,rT]at hh;obtain⟨_,rfl,_,rfl,hh⟩:=hh;simp only[fH]at hh;obtain⟨d,_,rfl,h1,rfl⟩:=hh;exact⟨d,rfl,h1⟩
theorem Jq {x:im}{F:Nat->Prop}{h:fu}{a:List AV}(hh:fH F h x.c a):a=[ι x.aA,ι x.aC,ι x.aE,ι x.aD,ι x.aF]:=by simp only[im.c,rT]at hh;obtain⟨_,rfl,_,rfl,_,rfl,_,rfl,_,rfl,hh⟩:=hh;simp only[fH]at hh;rw[hh]
theorem Ez {x:gE}{F:Nat->Prop}{h:fu}{a:List AV}(hh:fH F h x.c a):∃e o n l s,a=[ι x.aC,ι x.aH,ι x.aK,ι x.aL,ι x.aE,ι x.aA.aA,ι x.aA.aD,e,o,n,l,s,
  ι x.aD.aA,ι x.aD.aC,ι x.aD.aE,ι x.aD.aD,ι x.aD.aF]/\Rd F h (gZ x.aA.es) e/\Rd F h (f_ x.aG.aA) o/\Rd F h (f_ x.aG.aC) n/\Rd F h (f_ x.aG.aD) l/\Rd F h (gG x.aJ) s:=by
 simp only[gE.c,rT]at hh;obtain⟨_,rfl,_,rfl,_,rfl,_,rfl,_,rfl,_,rfl,_,rfl,hh⟩:=hh;simp only[fH]at hh;obtain⟨e,_,rfl,h1,o,_,rfl,h2,n,_,rfl,h3,l,_,rfl,h4,s,_,rfl,h5,_,_,rfl,h6,_,_,rfl,h7,_,_,rfl,h8,_,_,rfl,h9,_,_,rfl,u,rfl⟩:=hh;simp only[Rd]at h6 h7 h8 h9 u;subst h6 h7 h8 h9 u;exact⟨e,o,n,l,s,rfl,h1,h2,h3,h4,h5⟩
theorem EB {x:jH}{F:Nat->Prop}{h:fu}{a:List AV}(hh:fH F h x.c a):∃d v,a=[d,v]/\Rd F h (sZ x.aA) d/\Rd F h (mJ x.aD) v:=by simp only[jH.c,fH]at hh;obtain⟨d,_,rfl,h1,v,_,rfl,h2,rfl⟩:=hh;exact⟨d,v,rfl,h1,h2⟩
theorem xc {H:fu}{l:List Int}{g:Bool}{n k:Nat}(hn:n=l.length) (hb:H[k]?=some (some (.aA 1 (l.map λn=>[ι n]) g))):Rd (λ_=>True) H (f_ l) (.aG k 1 0 n (some n)):=by subst hn;simp only[f_,Rd];exact⟨_,.inr (.inr ⟨k,0,l.length,_,_,g,rfl,Xb,hb,ς,(λc hc=>by cases hc;omega),rfl⟩),by rw[Yt,Xu ς];exact fQ.rd (F:=λ_=>True) _ (λ_ x=>x) _ (wS .i64 _ _ l)⟩
theorem R_ (hf:Is P f (BV g k))(hg:sO P g)(hk:vE P k):lu P f gw.c lL.aC:=by refine⟨hf.2,λF G h l b x az hb ha hl=>kx (r9 _ _) (gy hf ?_)⟩;obtain⟨d,rfl,hd⟩:=Jm ha;have e:=mK;rw[HC]at hl ⊢;simp only[WT,jO]at hl;simp only[BV,go_sem,hd.aA];refine gH hg.1 (hg.2 _ (λ_=>True) _ l [x.aA,x.aC] b _ (hb.up (fq.b2 _ _)) (xc rfl (jy _ _ _)) ς (by simp only[WT,e,Xf,Xi];omega)) ?_;simp only[go_sem];refine gH hk.1 (hk.2 fB G _ _ x.aD _ d (l_ _ _ _) (hd.up (fq.b2 _ _)) (by simp only[WT,e,Xf,Xi];omega) ω) ?_;simp only[go_sem];exact⟨by simp only[jA,Yd,Xl],fq.b2 _ _⟩
theorem Sd {p:FuncId}(hf:Is P f (BX g k p))(hg:sO P g)(hk:sE P k 3 gw.c lL.aC)(hp:lu P p gw.c lL.aC):lu P f fG.c kW.aC:=by refine⟨hf.2,λF G h l b x az hb ha hl=>kx (r9 _ _) (gy hf ?_)⟩;obtain⟨d,rfl,hd⟩:=SW ha;have e:=mK;have hfb:=wy lL x.es;rw[D6]at hl ⊢;simp only[WT,jO]at hl;simp only[BX,go_sem,hd.aA];refine gH hg.1 (hg.2 _ (λ_=>True) _ l [x.aA,x.aD] b _ (hb.up (fq.b2 _ _)) (xc rfl (jy _ _ _)) ς (by simp only[WT,e,Xf,Xi];omega)) ?_;simp only[go_sem];refine gH hk.1 (hk.2 p hp fB G _ _ _ x.es d (l_ _ _ _) (hd.up (fq.b2 _ _)) ω (by simp only[WT,e,jO,Xf,Xi];omega)) ?_;simp only[go_sem];exact⟨by simp only[jA,Yd,Xl],fq.b2 _ _⟩
theorem Se (hf:Is P f (BY g))(hg:sO P g):lu P f im.c j_.aC:=by refine⟨hf.2,λF G h l b x az hb ha hl=>kx (r9 _ _) (gy hf ?_)⟩;obtain rfl:=Jq ha;rw[E7]at hl ⊢;simp only[BY,go_sem];refine gH hg.1 (hg.2 _ (λ_=>True) _ l [x.aA,x.aC,x.aE,x.aD,x.aF] b _ (hb.up (fq.b2 _ _)) (xc rfl (jy _ _ _)) ς hl) ?_;simp only[go_sem];exact fq.b2 _ _
theorem Sb {lo co:FuncId}(hf:Is P f (BW g lo co k))(hg:sO P g)(E:lu P lo fG.c kW.aC)(I:lu P co fI.c fI.aG)(hk:vE P k):lu P f fP.c kO.aC:=by refine⟨hf.2,λF G h l b x az hb ha hl=>kx (r9 _ _) (gy hf ?_)⟩;obtain⟨e,o,n,d,s,rfl,he,ho,hn,hd,hs⟩:=m7 ha;have u:=mK;rw[HT]at hl ⊢;simp only[WT,u,jO,Xf,Xi]at hl;simp only[BW,fP.aH,go_sem,he.aA,ho.aA,hn.aA,hd.aA,hs.aA];refine gH hg.1 (hg.2 _ (λ_=>True) _ l [x.aE,x.aC,x.aF] b _ (hb.up (fq.b2 _ _)) (xc rfl (jy _ _ _)) ς (by simp only[WT,u,Xf,Xi];omega)) ?_;simp only[go_sem];refine gH E.1 (E.2 fB G _ _ _ x.aA _ (l_ _ _ _) ((wL he).up (fq.b2 _ _)) (by simp only[WT,u,Xf,Xi];omega)) ?_;simp only[go_sem];refine gH I.1 (I.2 fB G _ _ _ x.aD _ (l_ _ _ _) ((uH ho hn hd).up (fq.b2 _ _)) (by simp only[WT,u,Xf,Xi];omega)) ?_;simp only[go_sem];refine gH hk.1 (hk.2 fB G _ _ x.aG _ s (l_ _ _ _) (hs.up (fq.b2 _ _)) (by simp only[WT,u,Xf,Xi];omega) ω) ?_;simp only[go_sem];exact⟨by simp only[Xl],fq.b2 _ _⟩
theorem Wo {x:im}{F:Nat->Prop}{h:fu}:fH F h x.c [ι x.aA,ι x.aC,ι x.aE,ι x.aD,ι x.aF]:=by simp only[im.c,fH,Rd];exact⟨_,_,rfl,rfl,_,_,rfl,rfl,_,_,rfl,rfl,_,_,rfl,rfl,_,_,rfl,rfl,rfl⟩
theorem RZ {lo co vo:FuncId}(hf:Is P f (BT g lo co k vo))(hg:sO P g)(E:lu P lo fG.c kW.aC)(I:lu P co fI.c fI.aG)(hk:vE P k)(hv:lu P vo im.c j_.aC):lu P f gE.c lQ.aC:=by refine⟨hf.2,λF G h l b x az hb ha hl=>kx (r9 _ _) (gy hf ?_)⟩;obtain⟨e,o,n,d,s,rfl,he,ho,hn,hd,hs⟩:=Ez ha;have u:=mK;rw[Hq]at hl ⊢;have hve:=E7 x.aD;simp only[WT,u,jO,Xf,Xi]at hl;simp only[BT,go_sem,he.aA,ho.aA,hn.aA,hd.aA,hs.aA];refine gH hg.1 (hg.2 _ (λ_=>True) _ l [x.aC,x.aH,x.aK,x.aL,x.aE] b _ (hb.up (fq.b2 _ _)) (xc rfl (jy _ _ _)) ς (by simp only[WT,u,Xf,Xi];omega)) ?_;simp only[go_sem];refine gH E.1 (E.2 fB G _ _ _ x.aA _ (l_ _ _ _) ((wL he).up (fq.b2 _ _)) (by simp only[WT,u,Xf,Xi];omega)) ?_;simp only[go_sem];refine gH I.1 (I.2 fB G _ _ _ x.aG _ (l_ _ _ _) ((uH ho hn hd).up (fq.b2 _ _)) (by simp only[WT,u,Xf,Xi];omega)) ?_;simp only[go_sem];refine gH hk.1 (hk.2 fB G _ _ x.aJ _ s (l_ _ _ _) (hs.up (fq.b2 _ _)) (by simp only[WT,u,Xf,Xi];omega) ω) ?_;simp only[go_sem];refine gH hv.1 (hv.2 fB fB _ _ _ x.aD _ (l_ _ _ _) Wo (by simp only[WT,u,jO,Xf,Xi];omega)) ?_;simp only[go_sem];exact⟨by simp only[Xl],fq.b2 _ _⟩
def Ax (P:Program)(f:FuncId):Prop:=fZ P f=true/\∀(G:Nat->Prop)(h:fu)(x:jH)(az:List AV),fH G h x.c az->(l7.aC x).length<=2^33->fO P f [.aF az] h λr h'=>r=jx (l7.aC x)/\h'=h
theorem K4 {lh ph lv pv:FuncId}(hf:Is P f (BL lh ph lv pv))(u:sE P lh 10 fP.c kO.aC)(I:lu P ph fP.c kO.aC)(e:sE P lv 5 im.c j_.aC)(E:lu P pv im.c j_.aC):Ax P f:=by refine⟨hf.2,λG h x az ha hl=>kx (r9 _ _) (gy hf ?_)⟩;obtain⟨d,v,rfl,hd,hv⟩:=EB ha;have f1:=wy kO x.aA;have f2:=wy j_ x.aD;rw[Pt]at hl ⊢;simp only[WT,jO]at hl;simp only[BL,go_sem,hd.aA,hv.aA];refine gH u.1 (u.2 ph I fB G _ [] _ x.aA d (Rd.aK 1) (hd.up (fq.b1 _)) ω (by simp only[Yg,WT,jO];omega)) ?_;simp only[go_sem];refine gH e.1 (e.2 pv E fB G _ _ _ x.aD v (l_ _ _ _) (hv.up (fq.b1 _)) ω (by simp only[WT,jO];omega)) ?_;simp only[go_sem];exact fq.b1 _
variable {P:Program}{f g k:FuncId}
end Glb
