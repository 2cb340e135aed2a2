/-
  A library of its own.
-/
import Derived.Test.YtdeiamnhnfmilaaGreatGlbQuoA
import Derived.Test.YtdeiamnhnfmilaaGreatGlbMorA
set_option linter.unusedSimpArgs false
set_option linter.unusedVariables false
set_option maxRecDepth 10000
set_option maxHeartbeats 8000000
open Nat (reduceSub)
namespace Glb
open Go
abbrev fH:=Option (List Int)
def mL (l:List Int):Int:=l.foldl (λv x=>v*256+x) 0
def kb (l:List Int):Int:=IntKind.i64.wrap (mL l)
def hU (n:Int):Prop:=-9223372036854775808<=n/\n<=9223372036854775807
def gI (l:List Int):Prop:=∀x∈l,0<=x/\x<256
theorem gI.aA {l:List Int}(h:gI l)(n:Nat):gI (l.take n):=λx hx=>h x (U9 hx)
theorem gI.aD {l:List Int}(h:gI l)(n:Nat):gI (l.drop n):=λx hx=>h x (UX hx)
theorem CX (x:Int):IntKind.i64.wrap x=(x+9223372036854775808) % 18446744073709551616-9223372036854775808:=by simp only[IntKind.wrap,IntKind.bits,IntKind.signed];simp;split<;>omega
theorem qh (v:Int)(k:Nat)(hk:k<=7):lI v (7-k)=(v % 18446744073709551616) / 256^k % 256:=by rw[Ka v k hk,xV]
theorem Cg (v:Int):gJ v=[(v % 18446744073709551616) / 72057594037927936 % 256,(v % 18446744073709551616) / 281474976710656 % 256,(v % 18446744073709551616) / 1099511627776 % 256,(v % 18446744073709551616) / 4294967296 % 256,
  (v % 18446744073709551616) / 16777216 % 256,(v % 18446744073709551616) / 65536 % 256,(v % 18446744073709551616) / 256 % 256,(v % 18446744073709551616) % 256]:=by
 have h0:=qh v 0 (by omega);have h1:=qh v 1 (by omega);have h2:=qh v 2 (by omega);have h3:=qh v 3 (by omega);have h4:=qh v 4 (by omega);have h5:=qh v 5 (by omega);have h6:=qh v 6 (by omega);have h7:=qh v 7 (by omega);simp only[reduceSub,Int.reducePow]at h0 h1 h2 h3 h4 h5 h6 h7;simp only[gJ,h0,h1,h2,h3,h4,h5,h6,h7,Int.ediv_one]
theorem vg (v:Int):gI (gJ v):=by rw[Cg];intro x hx;simp only[Vg,List.not_mem_nil,or_false]at hx;rcases hx with rfl | rfl | rfl | rfl | rfl | rfl | rfl | rfl<;>omega
theorem HP (a b c d e f g h:Int):mL [a,b,c,d,e,f,g,h]=a*72057594037927936+b*281474976710656+c*1099511627776+d*4294967296+e*16777216+f*65536+g*256+h:=by simp only[mL,Wu,List.foldl_nil];omega
theorem CR {v:Int}(h:hU v):kb (gJ v)=v:=by
 rw[Cg,kb,HP,CX];obtain⟨h1,h2⟩:=h;have:v % 18446744073709551616=(if v<0 then v+18446744073709551616 else v):=by split<;>omega
 generalize v % 18446744073709551616=u at *;split at this<;>omega
theorem Ch {l:List Int}(h:l.length=8)(hb:gI l):gJ (kb l)=l/\hU (kb l):=by
 match l,h with
 | [a,b,c,d,e,f,g,k],_=>
  have ha:=hb a (by simp);have hb':=hb b (by simp);have hc:=hb c (by simp);have hd:=hb d (by simp);have he:=hb e (by simp);have hf:=hb f (by simp);have hg:=hb g (by simp);have hk:=hb k (by simp);have hu:(kb [a,b,c,d,e,f,g,k]) % 18446744073709551616=a*72057594037927936+b*281474976710656+c*1099511627776+d*4294967296+e*16777216+f*65536+g*256+k:=by rw[kb,HP,CX];omega
  refine⟨?_,by rw[kb,CX];constructor<;>omega⟩;rw[Cg,hu];simp only[VI,and_true];refine⟨by omega,by omega,by omega,by omega,by omega,by omega,by omega,by omega⟩
structure kx (T:Type) where
 aC:T->List Int
 aA:fH->T×fH
 ok:T->Prop
 aD:(aA none).2=none
 aI:∀x,8<=(aC x).length
 aF:∀x,ok x->gI (aC x)
 aE:∀x r,ok x->aA (some (aC x++r))=(x,some r)
 aG:∀l x r,gI l->aA (some l)=(x,some r)->l=aC x++r/\ok x
 aH:∀l x r t,aA (some l)=(x,some r)->aA (some (l++t))=(x,some (r++t))
theorem gI.aC {a b:List Int}(h:gI a)(h':gI b):gI (a++b):=λx hx=>(U4.1 hx).elim (h x) (h' x)
theorem gI.aE {a b:List Int}(h:gI (a++b)):gI b:=λx hx=>h x (U4.2 (.inr hx))
def fS:fH->Int×fH
 | none=>(0,none)
 | some l=>if l.length<8 then (0,none) else (kb (l.take 8),some (l.drop 8))
def jY:kx Int where
 aC:=gJ
 aA:=fS
 ok:=hU
 aD:=rfl
 aI _:=by simp[jr]
 aF v _:=vg v
 aE v r h:=by simp only[fS,Ut,jr];rw[Uw (by omega),List.take_left' (jr v),List.drop_left' (jr v),CR h]
 aG l x r hb h:=by
  simp only[fS]at h;split at h;·simp at h
  ·rename_i hl;simp only[Vq,UB]at h;obtain⟨rfl,rfl⟩:=h;obtain⟨h1,h2⟩:=Ch (l:=l.take 8) (by simp;omega) (hb.aA 8);exact⟨by rw[h1,VO],h2⟩
 aH l x r t h:=by
  simp only[fS]at h ⊢;split at h;·simp at h
  ·rename_i hl;simp only[Vq,UB]at h;obtain⟨rfl,rfl⟩:=h;rw[Uw (by simp;omega),U0 (by omega),VS (by omega)]
def gT (r:fH):List Int×fH:=
 match fS r with
 | (_,none)=>([],none)
 | (n,some l)=>if n<0\/(l.length:Int)<n then ([],none) else (l.take n.toNat,some (l.drop n.toNat))
theorem GX {l a r:List Int}(h:gT (some l)=(a,some r)):8<=l.length/\∃n:Nat,kb (l.take 8)=n/\n<=l.length-8/\a=(l.drop 8).take n/\r=(l.drop 8).drop n:=by
 simp only[gT,fS]at h;split at h;·cases h
 ·rename_i n l' e;split at e;·cases e
  ·rename_i hl;simp only[Vq,UB]at e;obtain⟨rfl,rfl⟩:=e;split at h;·cases h
   ·rename_i hn;simp only[Vq,UB]at h;simp only[UP]at hn;exact⟨by omega,(kb (l.take 8)).toNat,by omega,by omega,h.1.symm,h.2.symm⟩
theorem GW {l:List Int}{n:Nat}(h8:8<=l.length)(hv:kb (l.take 8)=n)(hn:n<=l.length-8):gT (some l)=((l.drop 8).take n,some ((l.drop 8).drop n)):=by simp only[gT,fS];rw[Uw (by omega)];simp only[hv];rw[Uw (by simp;omega)];simp
def J5 (p:List Int):Prop:=p.length<=9223372036854775807/\gI p
theorem FM {n:Nat}(h:n<=9223372036854775807):hU (n:Int):=by constructor<;>omega
def ny:kx (List Int) where
 aC p:=gJ p.length++p
 aA:=gT
 ok:=J5
 aD:=rfl
 aI p:=by simp[jr]
 aF p h:=(vg _).aC h.2
 aE p r h:=by have e8:(gJ p.length).length=8:=jr _;rw[GW (n:=p.length) (by simp[e8]) (by rw[UW,List.take_left' e8,CR (FM h.1)]) (by simp[e8])];rw[UW,List.drop_left' e8,List.take_left' rfl,List.drop_left' rfl]
 aG l x r hb h:=by
  obtain⟨h8,n,hv,hn,rfl,rfl⟩:=GX h;obtain⟨h1,h2⟩:=Ch (l:=l.take 8) (by simp;omega) (hb.aA 8);have hlen:((l.drop 8).take n).length=n:=by simp;omega
  rw[hv]at h1 h2;refine⟨?_,by rw[hlen];exact (by have:=h2.2;omega),(hb.aD 8).aA n⟩;rw[hlen,h1,UW,VO,VO]
 aH l x r t h:=by obtain⟨h8,n,hv,hn,rfl,rfl⟩:=GX h;rw[GW (n:=n) (by simp;omega) (by rw[U0 h8];exact hv) (by simp;omega)];rw[VS h8,U0 (by simp;omega),VS (by simp;omega)]
def ji {A B:Type}(a:kx A)(b:kx B):kx (A×B) where
 aC x:=a.aC x.1++b.aC x.2
 aA r:=(((a.aA r).1,(b.aA (a.aA r).2).1),(b.aA (a.aA r).2).2)
 ok x:=a.ok x.1/\b.ok x.2
 aD:=by simp only[a.aD,b.aD]
 aI x:=by have:=a.aI x.1;simp;omega
 aF x h:=(a.aF _ h.1).aC (b.aF _ h.2)
 aE x r h:=by rw[UW,a.aE x.1 _ h.1,b.aE x.2 _ h.2]
 aG l x r hb h:=by
  obtain⟨x1,x2⟩:=x;cases hd:a.aA (some l) with
  | mk y s=>
   rw[hd]at h;cases s with
   | none=>simp only[b.aD,Vq,reduceCtorEq,and_false]at h
   | some m=>obtain⟨e1,o1⟩:=a.aG l y m hb hd;simp only[Vq]at h;obtain⟨⟨rfl,h2⟩,h3⟩:=h;have hbm:gI m:=gI.aE (e1▸hb);obtain⟨e2,o2⟩:=b.aG m x2 r hbm (Prod.ext h2 h3);exact⟨by rw[e1,e2,UW],o1,o2⟩
 aH l x r t h:=by
  obtain⟨x1,x2⟩:=x;cases hd:a.aA (some l) with
  | mk y s=>
   rw[hd]at h;cases s with
   | none=>simp only[b.aD,Vq,reduceCtorEq,and_false]at h
   | some m=>simp only[Vq]at h;obtain⟨⟨rfl,h2⟩,h3⟩:=h;rw[a.aH l _ m t hd,b.aH m x2 r t (Prod.ext h2 h3)]
def mq {A B:Type}(a:kx A)(f:A->B)(g:B->A)(fg:∀b,f (g b)=b)(gf:∀x,g (f x)=x):kx B where
 aC x:=a.aC (g x)
 aA r:=(f (a.aA r).1,(a.aA r).2)
 ok x:=a.ok (g x)
 aD:=a.aD
 aI x:=a.aI _
 aF x h:=a.aF _ h
 aE x r h:=by rw[a.aE _ _ h];simp only[fg]
 aG l x r hb h:=by simp only[Vq]at h;obtain⟨rfl,h2⟩:=h;rw[gf];exact a.aG l _ r hb (Prod.ext rfl h2)
 aH l x r t h:=by simp only[Vq]at h;obtain⟨rfl,h2⟩:=h;rw[a.aH l _ r t (Prod.ext rfl h2)]
def iA {T:Type}(f:fH->T×fH):Nat->fH->List T×fH
 | 0,r=>([],r)
 | n+1,r=>match f r with
  | (_,none)=>([],none)
  | (x,some l)=>((x :: (iA f n (some l)).1),(iA f n (some l)).2)
def oU (r:fH):Int×fH:=
 match fS r with
 | (_,none)=>(0,none)
 | (n,some l)=>if n<0\/(l.length / 8:Nat)<n then (0,none) else (n,some l)
def iG {T:Type}(f:fH->T×fH)(r:fH):List T×fH:=match oU r with
 | (_,none)=>([],none)
 | (n,some l)=>iA f n.toNat (some l)
theorem G4 {l r:List Int}{n:Int}(h:oU (some l)=(n,some r)):8<=l.length/\kb (l.take 8)=n/\0<=n/\n<=((l.length-8) / 8:Nat)/\r=l.drop 8:=by
 simp only[oU,fS]at h;split at h;·cases h
 ·rename_i n l' e;split at e;·cases e
  ·rename_i hl;simp only[Vq,UB]at e;obtain⟨rfl,rfl⟩:=e;split at h;·cases h
   ·rename_i hn;simp only[Vq,UB]at h;simp only[UP]at hn;obtain⟨rfl,rfl⟩:=h;exact⟨by omega,rfl,by omega,by omega,rfl⟩
theorem GZ {l:List Int}{n:Int}(h8:8<=l.length)(hv:kb (l.take 8)=n)(h0:0<=n) (hn:n<=((l.length-8) / 8:Nat)):oU (some l)=(n,some (l.drop 8)):=by simp only[oU,fS];rw[Uw (by omega)];simp only[hv];rw[Uw (by simp only[UP];omega)]
theorem uQ {T:Type}(c:kx T):∀xs:List T,8*xs.length<=(xs.flatMap c.aC).length
 | []=>by simp
 | x :: r=>by have h1:=uQ c r;have h2:=c.aI x;simp only[WE,Ut,UG];omega
theorem Hd {T:Type}(c:kx T):∀(xs:List T)(r:List Int),(∀x∈xs,c.ok x)->iA c.aA xs.length (some (xs.flatMap c.aC++r))=(xs,some r)
 | [],r,_=>rfl
 | x :: xs,r,h=>by simp only[UG,iA,WE,UW];rw[c.aE x _ (h x (by simp))];simp only[Hd c xs r (λy hy=>h y (by simp[hy]))]
theorem Hf {T:Type}(c:kx T):∀(n:Nat)(l:List Int)(xs:List T)(r:List Int),gI l->iA c.aA n (some l)=(xs,some r)->l=xs.flatMap c.aC++r/\xs.length=n/\∀x∈xs,c.ok x
 | 0,l,xs,r,_,h=>by simp only[iA,Vq,UB]at h;obtain⟨rfl,rfl⟩:=h;simp
 | n+1,l,xs,r,hb,h=>by
  simp only[iA]at h;split at h;·cases h
  ·rename_i x m hd;simp only[Vq]at h;obtain⟨rfl,h2⟩:=h;obtain⟨e1,o1⟩:=c.aG l x m hb hd;obtain⟨e2,l2,o2⟩:=Hf c n m _ r (gI.aE (e1▸hb)) (Prod.ext rfl h2);refine⟨by rw[WE,UW,<-e2];exact e1,by simp[l2],λy hy=>?_⟩;rcases Vg.1 hy with rfl | hy;·exact o1
   ·exact o2 y hy
theorem He {T:Type}(c:kx T):∀(n:Nat)(l:List Int)(xs:List T)(r t:List Int),iA c.aA n (some l)=(xs,some r)->iA c.aA n (some (l++t))=(xs,some (r++t))
 | 0,l,xs,r,t,h=>by simp only[iA,Vq,UB]at h ⊢;obtain⟨rfl,rfl⟩:=h;simp
 | n+1,l,xs,r,t,h=>by
  simp only[iA]at h ⊢;split at h;·cases h
  ·rename_i x m hd;simp only[Vq]at h;obtain⟨rfl,h2⟩:=h;rw[c.aH l x m t hd];simp only[He c n m _ r t (Prod.ext rfl h2)]
def pK {T:Type}(c:kx T):kx (List T) where
 aC xs:=gJ xs.length++xs.flatMap c.aC
 aA:=iG c.aA
 ok xs:=xs.length<=9223372036854775807/\∀x∈xs,c.ok x
 aD:=rfl
 aI xs:=by simp[jr]
 aF xs h:=(vg _).aC λb hb=>by obtain⟨x,h1,h2⟩:=List.mem_flatMap.1 hb;exact c.aF x (h.2 x h1) b h2
 aE xs r h:=by have e8:(gJ xs.length).length=8:=jr _;have fb:=uQ c xs;simp only[iG];rw[GZ (n:=xs.length) (by simp[e8]) (by rw[UW,List.take_left' e8,CR (FM h.1)]) (by omega) (by simp only[Ut,e8];omega)];rw[UW,List.drop_left' e8];simpa using Hd c xs r h.2
 aG l xs r hb h:=by
  simp only[iG]at h;split at h;·cases h
  ·rename_i n m hm;obtain⟨h8,hv,h0,hn,rfl⟩:=G4 hm;obtain⟨e1,e2,o⟩:=Hf c _ _ _ _ (hb.aD 8) h;obtain⟨h1,h2⟩:=Ch (l:=l.take 8) (by simp;omega) (hb.aA 8);rw[hv]at h1 h2;have en:(xs.length:Int)=n:=by omega
   refine⟨by rw[en,h1,UW,<-e1,VO],by have:=h2.2;omega,o⟩
 aH l xs r t h:=by
  simp only[iG]at h ⊢;split at h;·cases h
  ·rename_i n m hm;obtain⟨h8,hv,h0,hn,rfl⟩:=G4 hm;rw[GZ (n:=n) (by simp;omega) (by rw[U0 h8];exact hv) h0 (by simp;omega)];simp only;rw[VS h8];exact He c _ _ _ _ t h
theorem Gu:∀l:List Int,iT l=l.flatMap gJ
 | []=>rfl
 | x :: r=>by simp only[iT,WE,Gu r]
structure gX where
 aA:Int
 aC:Int
 aE:Int
 aD:Int
 aF:Int
 deriving DecidableEq
structure fZ where
 aC:Int
 aH:Int
 aK:Int
 aL:Int
 aE:Int
 aA:fu
 aG:fq
 aJ:List Int
 aD:gX
 deriving DecidableEq
structure jo where
 aA:List fF
 aD:List gX
 deriving DecidableEq
def gX.c (v:gX):List D:=[.aA .i64 v.aA,.aA .i64 v.aC,.aA .i64 v.aE,.aA .i64 v.aD,.aA .i64 v.aF]
def rA (l:List fF):D:=.sl 10 (l.map fF.c)
def lT (l:List gX):D:=.sl 5 (l.map gX.c)
def fZ.c (x:fZ):List D:=[.aA .i64 x.aC,.aA .i64 x.aH,.aA .i64 x.aK,.aA .i64 x.aL,.aA .i64 x.aE,.aA .i64 x.aA.aA,.aA .i64 x.aA.aD,gN x.aA.es,fM x.aG.aA,fM x.aG.aC,fM x.aG.aD,gj x.aJ,
 .aA .i64 x.aD.aA,.aA .i64 x.aD.aC,.aA .i64 x.aD.aE,.aA .i64 x.aD.aD,.aA .i64 x.aD.aF]
def nV (l:List fZ):D:=.sl 17 (l.map fZ.c)
def jo.c (x:jo):List D:=[rA x.aA,lT x.aD]
def kK:kx fT:=mq (ji jY (ji jY ny)) (λp=>⟨p.1,p.2.1,p.2.2⟩) (λe=>(e.aA,e.aD,e.aC)) (λ_=>rfl) (λ_=>rfl)
def kq:kx fu:=mq (ji jY (ji jY (pK kK))) (λp=>⟨p.1,p.2.1,p.2.2⟩) (λe=>(e.aA,e.aD,e.es)) (λ_=>rfl) (λ_=>rfl)
def tA:kx (List Int):=pK jY
def iS:kx fq:=mq (ji tA (ji tA tA)) (λp=>⟨p.1,p.2.1,p.2.2⟩) (λe=>(e.aA,e.aC,e.aD)) (λ_=>rfl) (λ_=>rfl)
def jE:kx gX:=mq (ji jY (ji jY (ji jY (ji jY jY)))) (λp=>⟨p.1,p.2.1,p.2.2.1,p.2.2.2.1,p.2.2.2.2⟩) (λe=>(e.aA,e.aC,e.aE,e.aD,e.aF)) (λ_=>rfl) (λ_=>rfl)
def jW:kx fF:=mq (ji jY (ji jY (ji jY (ji kq (ji iS ny))))) (λp=>⟨p.1,p.2.1,p.2.2.1,p.2.2.2.1,p.2.2.2.2.1,p.2.2.2.2.2⟩) (λe=>(e.aE,e.aC,e.aF,e.aA,e.aD,e.aG)) (λ_=>rfl) (λ_=>rfl)
def kP:kx fZ:=mq (ji jY (ji jY (ji jY (ji jY (ji jY (ji kq (ji iS (ji ny jE))))))))
 (λp=>⟨p.1,p.2.1,p.2.2.1,p.2.2.2.1,p.2.2.2.2.1,p.2.2.2.2.2.1,p.2.2.2.2.2.2.1,p.2.2.2.2.2.2.2.1,p.2.2.2.2.2.2.2.2⟩) (λe=>(e.aC,e.aH,e.aK,e.aL,e.aE,e.aA,e.aG,e.aJ,e.aD)) (λ_=>rfl) (λ_=>rfl)
def kV:kx jo:=mq (ji (pK jW) (pK jE)) (λp=>⟨p.1,p.2⟩) (λe=>(e.aA,e.aD)) (λ_=>rfl) (λ_=>rfl)
theorem Fp (e:fT):kK.aC e=gJ e.aA++gJ e.aD++(gJ e.aC.length++e.aC):=by simp only[kK,mq,ji,jY,ny,UW]
theorem Cb (x:fu):kq.aC x=gJ x.aA++gJ x.aD++(gJ x.es.length++x.es.flatMap kK.aC):=by simp only[kq,mq,ji,jY,pK,UW]
theorem M_ (l:List Int):tA.aC l=gJ l.length++iT l:=by simp only[tA,pK,Gu];rfl
theorem uO (x:fq):iS.aC x=x.aG:=by simp only[iS,mq,ji,M_,fq.aG,UW]
theorem CW (v:gX):jE.aC v=iT [v.aA,v.aC,v.aE,v.aD,v.aF]:=by simp only[jE,mq,ji,jY,iT,Vo]
theorem FH (x:fF):jW.aC x=iT [x.aE,x.aC,x.aF]++kq.aC x.aA++x.aD.aG++(gJ x.aG.length++x.aG):=by simp only[<-uO,jW,mq,ji,jY,ny,iT,Vo,UW]
theorem Fa (x:fZ):kP.aC x=iT [x.aC,x.aH,x.aK,x.aL,x.aE]++kq.aC x.aA++x.aG.aG++(gJ x.aJ.length++x.aJ)++jE.aC x.aD:=by simp only[<-uO,kP,mq,ji,jY,ny,iT,Vo,UW]
theorem MU (x:jo):kV.aC x=(gJ x.aA.length++x.aA.flatMap jW.aC)++(gJ x.aD.length++x.aD.flatMap jE.aC):=by simp only[kV,mq,ji,pK]
def ky {T:Type}(P:Program)(f:FuncId)(c:T->List D)(e:T->List Int):Prop:=
 fP P f=true/\∀(F G:Nat->Prop)(h:eW)(l:List Int)(b:AV)(x:T)(az:List AV),Rd F h (gj l) b->fm G h (c x) az->(l++e x).length<=2^33->fC P f [b,.aF az] h λr h'=>r=i9 (l++e x)/\h'=h
def qP (P:Program)(f:FuncId):Prop:=
 fP P f=true/\∀(F:Nat->Prop)(h:eW)(l:List Int)(b:AV)(v:Int),Rd F h (gj l) b->l.length<=2^42->fC P f [b,.aA .i64 v] h λr h'=>r=i9 (l++gJ v)/\h'=h
def t7 (P:Program)(f:FuncId):Prop:=
 fP P f=true/\∀(F G:Nat->Prop)(h:eW)(l p:List Int)(b a:AV),Rd F h (gj l) b->Rd G h (gj p) a->l.length<=2^41->p.length<=2^41->fC P f [b,a] h λr h'=>r=i9 (l++(gJ p.length++p))/\h'=h
def qZ (P:Program)(f:FuncId):Prop:=
 fP P f=true/\∀(F G:Nat->Prop)(h:eW)(l vs:List Int)(b a:AV),Rd F h (gj l) b->Rd G h (fM vs) a->vs≠[]->(l++iT vs).length<=2^33->fC P f [b,a] h λr h'=>r=i9 (l++iT vs)/\h'=h
theorem Rd.aL {F:Nat->Prop}{h:eW}{d:D}{a:AV}(hh:Rd F h d a):Rd (λ_=>True) h d a:=Rd.aD (λ_ _=>UF) (gS.lt _ _) _ _ hh
theorem fm.aE {F:Nat->Prop}{h:eW}{d:List D}{a:List AV}(hh:fm F h d a):fm (λ_=>True) h d a:=fm.aA (λ_ _=>UF) (gS.lt _ _) _ _ hh
theorem yA.p {P:Program}{f:FuncId}(hc:yA P f):qP P f:=⟨hc.1,λF h l b v hb hl=>(hc.2 F h l b v hb hl).aC λ_ _ hk=>⟨hk.2.2,_,gY.d (eX.fz (gj _) (λ_ x=>x) _ hk.1),rfl⟩⟩
theorem si.p {P:Program}{f:FuncId}(hc:si P f):t7 P f:=⟨hc.1,λF G h l p b a hb ha hl hp=>(hc.2 (λ_=>True) h l p b a hb.aL ha.aL hl hp).aC λ_ _ hk=>⟨hk.2.2,_,gY.d (eX.fz (gj _) (λ_ x=>x) _ hk.1),by rw[UW];rfl⟩⟩
theorem uj.p {P:Program}{f:FuncId}(hc:uj P f):ky P f fq.c fq.aG:=⟨hc.1,λF G h l b x az hb ha hl=>by have h8:∀v:List Int,(iT v).length=8*v.length:=lU;have q:l.length<=2^33/\x.aA.length<=2^33/\x.aC.length<=2^33/\x.aD.length<=2^33\/True:=.inr UF;exact (hc.2 (λ_=>True) h l b x az hb.aL ha.aE (by simp only[fq.aG,Ut,h8]at hl;omega) (by simp only[fq.aG,Ut,h8]at hl;omega) (by simp only[fq.aG,Ut,h8]at hl;omega) (by simp only[fq.aG,Ut,h8]at hl;omega)).aC λ_ _ hk=>⟨hk.2.2,_,gY.d (eX.fz (gj _) (λ_ x=>x) _ hk.1),rfl⟩⟩
theorem Pb {P:Program}{f r n:FuncId}(hf:Is P f (Ar r n))(hr:wq P r)(hn:v_ P n):yA P f:=by refine⟨hf.2,λF h l b v hb hl=>fU hf ?_⟩;simp only[Ar,go_sem];refine fA ⟨hr.1,hr.2 F h l b 8 hb hl (by omega)⟩ ?_;rintro a h1 ⟨o1,c1,x1⟩;simp only[go_sem];refine fA ⟨hn.1,hn.2 h.length h1 l a v o1 c1 x1.1 (by omega)⟩ ?_;rintro a2 h2 ⟨o2,c2,x2⟩;simp only[go_sem];exact⟨o2,c2,x1.aJ x2 (λm hm hm'=>by omega)⟩
theorem Nb {P:Program}{f g:FuncId}(hf:Is P f (Ac g))(hg:qP P g):qZ P f:=by
 refine⟨hf.2,λF G h l vs b a hb ha u hl=>fU hf ?_⟩;have la:=ha.aF;have e:=lU;simp only[Ut,e]at hl;simp only[Ac,go_sem,la];refine iM (λm L h'=>∃(i:Nat)(o:AV),lk 0 L=o/\lk 7 L=a/\lk 8 L=.aA .i64 vs.length/\lk 9 L=.aA .i64 i/\Rd (λ_=>True) h (gj (l++iT (vs.take i))) o/\(0<i->o=i9 (l++iT (vs.take i)))/\h=h'/\i<=vs.length/\m=vs.length-i) vs.length ?_ ?_;·exact⟨0,b,by simp[fj,h_],by simp[fj],by simp[fj],by simp[fj],by simpa [iT] using hb.aL,by simp,rfl,by omega,by omega⟩
 ·rintro m L h' ⟨i,o,k0,k7,k8,k9,ho,hq,rfl,hi,rfl⟩;simp only[EC,go_sem,k8,k9];refine iw (λci=>?_) (λci=>?_)
  ·simp at ci;obtain⟨p,hp,hv⟩:=ha.aG ci;have e1:IntKind.i64.wrap (↑i+1)=(i:Int)+1:=gi (by omega);have e2:iT (vs.take (i+1))=iT (vs.take i)++gJ vs[i]:=by rw[U3 ci,Ci];simp[iT]
   simp only[go_sem,k0,k7,k9,hp,hv];refine gh hg.1 (hg.2 _ h _ o vs[i] ho (by simp only[Ut,e,UD];omega)) ?_;simp only[go_sem,k0,k7,k8,k9,e1];refine⟨_,by omega,i+1,_,rfl,by simp,?_,λ_=>by rw[e2,UW],ci,rfl⟩;rw[e2,<-UW];exact kZ _ _ _
  ·simp at ci;obtain rfl:i=vs.length:=by omega
   rw[U7]at hq;simp only[go_sem,k0];exact hq (WG.2 u)
theorem fm.aC {F:Nat->Prop}{h:eW}:∀{ds:List D}{l:List AV},fm F h ds l->l.all AV.aH=true
 | [],l,hh=>by simp only[fm]at hh;subst hh;rfl
 | d :: ds,l,hh=>by simp only[fm]at hh;obtain⟨a,r,rfl,h1,h2⟩:=hh;simp[h1.aA,h2.aC]
theorem Hw {z cs:List AV}(h:z.length=cs.length):jS z 0 cs=cs:=Hv cs [] z h
def qT {T:Type}(P:Program)(f:FuncId)(sz:Nat)(c:T->List D)(e:T->List Int):Prop:=
 fP P f=true/\∀(put:FuncId),ky P put c e->∀(F G:Nat->Prop)(h:eW)(l:List Int)(b:AV)(xs:List T)(a:AV),Rd F h (gj l) b->Rd G h (.sl sz (xs.map c)) a->xs.length<=2^40->(l++(gJ xs.length++xs.flatMap e)).length<=2^33->
  fC P f [b,a,.aL put [] []] h λr h'=>r=i9 (l++(gJ xs.length++xs.flatMap e))/\h'=h
def iV.sz (S B:Nat)(Z:List AV):iV->iV
 | .h (.aA _ xs)=>.h (.aA S xs)
 | .h (.aC _ _ x y)=>.h (.aC S B x y)
 | .h (.mk _)=>.h (.mk Z)
 | .h (.aE _ a x)=>.h (.aE S a x)
 | .r (.aD _ x i)=>.r (.aD S x i)
 | .r (.aA true _ x)=>.r (.aA true S x)
 | o=>o
def AC.sz (S B:Nat)(Z:List AV):AC->AC
 | .aI ops=>.aI (ops.map λo=>⟨o.aA,o.op.sz S B Z,o.aC⟩)
 | .aA a b=>.aA (a.sz S B Z) (b.sz S B Z)
 | .aH c a b=>.aH c (a.sz S B Z) (b.sz S B Z)
 | .aG i b=>.aG i (b.sz S B Z)
 | .aE b=>.aE (b.sz S B Z)
 | c=>c
def fJ.sz (S B:Nat)(Z:List AV)(f:fJ):fJ:=⟨f.n,f.aD,f.aA.sz S B Z,f.aC⟩
theorem Cx {T:Type}{S:Nat}{Z:List AV}{c:T->List D}{P:Program}{f g:FuncId}{e:T->List Int} (hf:Is P f ((wN g).sz S 0 Z)) (hg:qP P g) (hZ:Z.length=S) (hc:∀x:T,(c x).length=S):qT P f S c e:=by
 refine⟨hf.2,λput hp F G h l b xs a hb ha hx4 hl=>jN (qK _ _) (fU hf ?_)⟩;have la:ik a=some (.aA .i64 xs.length):=by simpa using ha.aC
 simp only[wN,fJ.sz,AC.sz,iV.sz,U5,Vl,go_sem,la];refine gh hg.1 (hg.2 _ h _ b _ hb (by simp only[Ut]at hl;omega)) ?_;simp only[go_sem,la];refine iM (λm L h'=>∃(i:Nat),lk 0 L=i9 (l++(gJ xs.length++(xs.take i).flatMap e))/\lk 2 L=.aL put [] []/\lk 13 L=a/\lk 14 L=.aA .i64 xs.length/\lk 15 L=.aA .i64 i/\eV eY h h'/\i<=xs.length/\m=xs.length-i) xs.length ?_ ?_;·exact⟨0,by simp[fj],by simp[fj,h_],by simp[fj],by simp[fj],by simp[fj],eV.aC _ _,by omega,by omega⟩
 ·rintro m L h2 ⟨i,k0,k2,M,I,u,hE,hi,rfl⟩;simp only[EG,AC.sz,iV.sz,U5,Vl,go_sem,I,u];refine iw (λci=>?_) (λci=>?_)
  ·simp at ci;obtain⟨p,cs,W,U,E⟩:=(ha.up hE).aE .i64 (i:=i) (d:=c xs[i]) (by omega) (by simp[ci]);have O:cs.length=S:=by rw[uz E,hc]
   have ld:=ju U true S;rw[CN,O,Uv (Uy _),UU (by omega)]at ld;have sm:∀z:List AV,z.length=S->jS z 0 cs=cs:=λz hz=>Hw (by omega);have tk:cs.take S=cs:=UU (by omega);have e1:IntKind.i64.wrap (↑i+1)=(i:Int)+1:=gi (by omega);have hx:=E.aC;simp only[go_sem,k0,k2,M,u,W,ld,O,hx,hZ,sm Z hZ,tk,Wp,Uy];have fl:(xs.take (i+1)).flatMap e=(xs.take i).flatMap e++e xs[i]:=by rw[U3 ci,List.flatMap_append,WE,List.flatMap_nil,Vo]
   have ll:(l++(gJ xs.length++(xs.take i).flatMap e)++e xs[i]).length<=2^33:=by
    have e3:xs=xs.take (i+1)++xs.drop (i+1):=(VO _ _).symm;have e4:xs.flatMap e=(xs.take (i+1)).flatMap e++(xs.drop (i+1)).flatMap e:=by rw[<-List.flatMap_append,VO]
    rw[e4,fl]at hl;simp only[Ut]at hl ⊢;omega
   refine gh hp.1 (hp.2 eY G _ _ _ xs[i] _ (kZ _ _ _) (E.up (eV.b1 _)) ll) ?_;simp only[go_sem,k0,k2,M,I,u,e1];refine⟨_,by omega,i+1,by rw[fl];simp only[UW],by simp,hE.tr (eV.b1 _),ci,rfl⟩
  ·simp at ci;obtain rfl:i=xs.length:=by omega
   rw[U7]at k0;simp only[go_sem,k0];exact hE
theorem Pq {P:Program}{f g:FuncId}{e:fT->List Int}(hf:Is P f (wN g))(hg:qP P g):qT P f 3 fT.c e:=
 Cx (S:=3) (c:=fT.c) (Z:=(List.replicate 2 (AV.aA .i64 0)++[AV.aD])) hf hg rfl λ_=>rfl
theorem Ps {P:Program}{f g:FuncId}{e:fF->List Int}(hf:Is P f (EH g))(hg:qP P g):qT P f 10 fF.c e:=
 Cx (S:=10) (c:=fF.c) (Z:=(List.replicate 5 (AV.aA .i64 0)++List.replicate 5 AV.aD)) hf hg rfl λ_=>rfl
theorem Pv {P:Program}{f g:FuncId}{e:gX->List Int}(hf:Is P f (EF g))(hg:qP P g):qT P f 5 gX.c e:=
 Cx (S:=5) (c:=gX.c) (Z:=(List.replicate 5 (AV.aA .i64 0))) hf hg rfl λ_=>rfl
theorem G7 {e:fT}{F:Nat->Prop}{h:eW}{a:List AV}(hh:fm F h e.c a):∃d,a=[.aA .i64 e.aA,.aA .i64 e.aD,d]/\Rd F h (gj e.aC) d:=by simp only[fT.c,qD]at hh;obtain⟨_,rfl,_,rfl,hh⟩:=hh;simp only[fm]at hh;obtain⟨d,_,rfl,h1,rfl⟩:=hh;exact⟨d,rfl,h1⟩
theorem P9 {x:fu}{F:Nat->Prop}{h:eW}{a:List AV}(hh:fm F h x.c a):∃d,a=[.aA .i64 x.aA,.aA .i64 x.aD,d]/\Rd F h (gN x.es) d:=by simp only[fu.c,qD]at hh;obtain⟨_,rfl,_,rfl,hh⟩:=hh;simp only[fm]at hh;obtain⟨d,_,rfl,h1,rfl⟩:=hh;exact⟨d,rfl,h1⟩
theorem Hc {x:gX}{F:Nat->Prop}{h:eW}{a:List AV}(hh:fm F h x.c a):a=[.aA .i64 x.aA,.aA .i64 x.aC,.aA .i64 x.aE,.aA .i64 x.aD,.aA .i64 x.aF]:=by simp only[gX.c,qD]at hh;obtain⟨_,rfl,_,rfl,_,rfl,_,rfl,_,rfl,hh⟩:=hh;simp only[fm]at hh;rw[hh]
theorem CA {x:fZ}{F:Nat->Prop}{h:eW}{a:List AV}(hh:fm F h x.c a):∃e o n l s,a=[.aA .i64 x.aC,.aA .i64 x.aH,.aA .i64 x.aK,.aA .i64 x.aL,.aA .i64 x.aE,.aA .i64 x.aA.aA,.aA .i64 x.aA.aD,e,o,n,l,s,
  .aA .i64 x.aD.aA,.aA .i64 x.aD.aC,.aA .i64 x.aD.aE,.aA .i64 x.aD.aD,.aA .i64 x.aD.aF]/\Rd F h (gN x.aA.es) e/\Rd F h (fM x.aG.aA) o/\Rd F h (fM x.aG.aC) n/\Rd F h (fM x.aG.aD) l/\Rd F h (gj x.aJ) s:=by
 simp only[fZ.c,qD]at hh;obtain⟨_,rfl,_,rfl,_,rfl,_,rfl,_,rfl,_,rfl,_,rfl,hh⟩:=hh;simp only[fm]at hh;obtain⟨e,_,rfl,h1,o,_,rfl,h2,n,_,rfl,h3,l,_,rfl,h4,s,_,rfl,h5,_,_,rfl,h6,_,_,rfl,h7,_,_,rfl,h8,_,_,rfl,h9,_,_,rfl,u,rfl⟩:=hh;simp only[Rd]at h6 h7 h8 h9 u;subst h6 h7 h8 h9 u;exact⟨e,o,n,l,s,rfl,h1,h2,h3,h4,h5⟩
theorem CC {x:jo}{F:Nat->Prop}{h:eW}{a:List AV}(hh:fm F h x.c a):∃d v,a=[d,v]/\Rd F h (rA x.aA) d/\Rd F h (lT x.aD) v:=by simp only[jo.c,fm]at hh;obtain⟨d,_,rfl,h1,v,_,rfl,h2,rfl⟩:=hh;exact⟨d,v,rfl,h1,h2⟩
theorem vA {H:eW}{l:List Int}{g:Bool}{n k:Nat}(hn:n=l.length) (hb:H[k]?=some (some (.aA 1 (l.map λn=>[.aA .i64 n]) g))):Rd (λ_=>True) H (fM l) (.aG k 1 0 n (some n)):=by subst hn;simp only[fM,Rd];exact⟨_,.inr (.inr ⟨k,0,l.length,_,_,g,rfl,UF,hb,by simp,(λc hc=>by cases hc;omega),rfl⟩),by rw[Vy,UU (by simp)];exact fG.rd (F:=λ_=>True) _ (λ_ x=>x) _ (vh .i64 _ _ l)⟩
theorem Pp {P:Program}{f g k:FuncId}(hf:Is P f (Af g k))(hg:qZ P g)(hk:t7 P k):ky P f fT.c kK.aC:=by refine⟨hf.2,λF G h l b x az hb ha hl=>jN (qK _ _) (fU hf ?_)⟩;obtain⟨d,rfl,hd⟩:=G7 ha;have e:=lU;rw[Fp]at hl ⊢;simp only[Ut,jr]at hl;simp only[Af,go_sem,hd.aA];refine gh hg.1 (hg.2 _ (λ_=>True) _ l [x.aA,x.aD] b _ (hb.up (eV.b2 _ _)) (vA rfl (iO _ _ _)) (by simp) (by simp only[Ut,e,UG,UJ];omega)) ?_;simp only[go_sem];refine gh hk.1 (hk.2 eY G _ _ x.aC _ d (kZ _ _ _) (hd.up (eV.b2 _ _)) (by simp only[Ut,e,UG,UJ];omega) (by omega)) ?_;simp only[go_sem];exact⟨by simp only[iT,Vo,UW],eV.b2 _ _⟩
theorem Pt {P:Program}{f g k p:FuncId}(hf:Is P f (Ah g k p))(hg:qZ P g)(hk:qT P k 3 fT.c kK.aC)(hp:ky P p fT.c kK.aC):ky P f fu.c kq.aC:=by refine⟨hf.2,λF G h l b x az hb ha hl=>jN (qK _ _) (fU hf ?_)⟩;obtain⟨d,rfl,hd⟩:=P9 ha;have e:=lU;have hfb:=uQ kK x.es;rw[Cb]at hl ⊢;simp only[Ut,jr]at hl;simp only[Ah,go_sem,hd.aA];refine gh hg.1 (hg.2 _ (λ_=>True) _ l [x.aA,x.aD] b _ (hb.up (eV.b2 _ _)) (vA rfl (iO _ _ _)) (by simp) (by simp only[Ut,e,UG,UJ];omega)) ?_;simp only[go_sem];refine gh hk.1 (hk.2 p hp eY G _ _ _ x.es d (kZ _ _ _) (hd.up (eV.b2 _ _)) (by omega) (by simp only[Ut,e,jr,UG,UJ];omega)) ?_;simp only[go_sem];exact⟨by simp only[iT,Vo,UW],eV.b2 _ _⟩
theorem Pu {P:Program}{f g:FuncId}(hf:Is P f (Ai g))(hg:qZ P g):ky P f gX.c jE.aC:=by refine⟨hf.2,λF G h l b x az hb ha hl=>jN (qK _ _) (fU hf ?_)⟩;obtain rfl:=Hc ha;rw[CW]at hl ⊢;simp only[Ai,go_sem];refine gh hg.1 (hg.2 _ (λ_=>True) _ l [x.aA,x.aC,x.aE,x.aD,x.aF] b _ (hb.up (eV.b2 _ _)) (vA rfl (iO _ _ _)) (by simp) hl) ?_;simp only[go_sem];exact eV.b2 _ _
theorem Pr {P:Program}{f g lo co k:FuncId}(hf:Is P f (Ag g lo co k))(hg:qZ P g)(E:ky P lo fu.c kq.aC)(I:ky P co fq.c fq.aG)(hk:t7 P k):ky P f fF.c jW.aC:=by refine⟨hf.2,λF G h l b x az hb ha hl=>jN (qK _ _) (fU hf ?_)⟩;obtain⟨e,o,n,d,s,rfl,he,ho,hn,hd,hs⟩:=m9 ha;have u:=lU;rw[FH]at hl ⊢;simp only[Ut,u,jr,UG,UJ]at hl;simp only[Ag,fF.aH,go_sem,he.aA,ho.aA,hn.aA,hd.aA,hs.aA];refine gh hg.1 (hg.2 _ (λ_=>True) _ l [x.aE,x.aC,x.aF] b _ (hb.up (eV.b2 _ _)) (vA rfl (iO _ _ _)) (by simp) (by simp only[Ut,u,UG,UJ];omega)) ?_;simp only[go_sem];refine gh E.1 (E.2 eY G _ _ _ x.aA _ (kZ _ _ _) ((u_ he).up (eV.b2 _ _)) (by simp only[Ut,u,UG,UJ];omega)) ?_;simp only[go_sem];refine gh I.1 (I.2 eY G _ _ _ x.aD _ (kZ _ _ _) ((s_ ho hn hd).up (eV.b2 _ _)) (by simp only[Ut,u,UG,UJ];omega)) ?_;simp only[go_sem];refine gh hk.1 (hk.2 eY G _ _ x.aG _ s (kZ _ _ _) (hs.up (eV.b2 _ _)) (by simp only[Ut,u,UG,UJ];omega) (by omega)) ?_;simp only[go_sem];exact⟨by simp only[UW],eV.b2 _ _⟩
theorem TQ {x:gX}{F:Nat->Prop}{h:eW}:fm F h x.c [.aA .i64 x.aA,.aA .i64 x.aC,.aA .i64 x.aE,.aA .i64 x.aD,.aA .i64 x.aF]:=by simp only[gX.c,fm,Rd];exact⟨_,_,rfl,rfl,_,_,rfl,rfl,_,_,rfl,rfl,_,_,rfl,rfl,_,_,rfl,rfl,rfl⟩
theorem Po {P:Program}{f g lo co k vo:FuncId}(hf:Is P f (Ad g lo co k vo))(hg:qZ P g)(E:ky P lo fu.c kq.aC)(I:ky P co fq.c fq.aG)(hk:t7 P k)(hv:ky P vo gX.c jE.aC):ky P f fZ.c kP.aC:=by refine⟨hf.2,λF G h l b x az hb ha hl=>jN (qK _ _) (fU hf ?_)⟩;obtain⟨e,o,n,d,s,rfl,he,ho,hn,hd,hs⟩:=CA ha;have u:=lU;rw[Fa]at hl ⊢;have hve:=CW x.aD;simp only[Ut,u,jr,UG,UJ]at hl;simp only[Ad,go_sem,he.aA,ho.aA,hn.aA,hd.aA,hs.aA];refine gh hg.1 (hg.2 _ (λ_=>True) _ l [x.aC,x.aH,x.aK,x.aL,x.aE] b _ (hb.up (eV.b2 _ _)) (vA rfl (iO _ _ _)) (by simp) (by simp only[Ut,u,UG,UJ];omega)) ?_;simp only[go_sem];refine gh E.1 (E.2 eY G _ _ _ x.aA _ (kZ _ _ _) ((u_ he).up (eV.b2 _ _)) (by simp only[Ut,u,UG,UJ];omega)) ?_;simp only[go_sem];refine gh I.1 (I.2 eY G _ _ _ x.aG _ (kZ _ _ _) ((s_ ho hn hd).up (eV.b2 _ _)) (by simp only[Ut,u,UG,UJ];omega)) ?_;simp only[go_sem];refine gh hk.1 (hk.2 eY G _ _ x.aJ _ s (kZ _ _ _) (hs.up (eV.b2 _ _)) (by simp only[Ut,u,UG,UJ];omega) (by omega)) ?_;simp only[go_sem];refine gh hv.1 (hv.2 eY eY _ _ _ x.aD _ (kZ _ _ _) TQ (by simp only[Ut,u,jr,UG,UJ];omega)) ?_;simp only[go_sem];exact⟨by simp only[UW],eV.b2 _ _⟩
def yG (P:Program)(f:FuncId):Prop:=fP P f=true/\∀(G:Nat->Prop)(h:eW)(x:jo)(az:List AV),fm G h x.c az->(kV.aC x).length<=2^33->fC P f [.aF az] h λr h'=>r=i9 (kV.aC x)/\h'=h
theorem IS {P:Program}{f lh ph lv pv:FuncId}(hf:Is P f (zY lh ph lv pv))(u:qT P lh 10 fF.c jW.aC)(I:ky P ph fF.c jW.aC)(e:qT P lv 5 gX.c jE.aC)(E:ky P pv gX.c jE.aC):yG P f:=by refine⟨hf.2,λG h x az ha hl=>jN (qK _ _) (fU hf ?_)⟩;obtain⟨d,v,rfl,hd,hv⟩:=CC ha;have f1:=uQ jW x.aA;have f2:=uQ jE x.aD;rw[MU]at hl ⊢;simp only[Ut,jr]at hl;simp only[zY,go_sem,hd.aA,hv.aA];refine gh u.1 (u.2 ph I eY G _ [] _ x.aA d (Rd.aK 1) (hd.up (eV.b1 _)) (by omega) (by simp only[VH,Ut,jr];omega)) ?_;simp only[go_sem];refine gh e.1 (e.2 pv E eY G _ _ _ x.aD v (kZ _ _ _) (hv.up (eV.b1 _)) (by omega) (by simp only[Ut,jr];omega)) ?_;simp only[go_sem];exact eV.b1 _
end Glb
