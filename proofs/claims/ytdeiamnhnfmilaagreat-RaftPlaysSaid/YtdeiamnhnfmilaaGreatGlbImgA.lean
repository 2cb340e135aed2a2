/-
  A library of its own.
-/
import Derived.Test.YtdeiamnhnfmilaaGreatGlbQuoA
import Derived.Test.YtdeiamnhnfmilaaGreatGlbMorA
set_option linter.unusedSimpArgs false
set_option linter.unusedVariables false
set_option maxRecDepth 10000
set_option maxHeartbeats 8000000
open Nat (reduceSub)
namespace Glb
open Go
abbrev fZ:=Option (List Int)
def jN (l:List Int):Int:=l.foldl (λv x=>v*256+x) 0
def iO (l:List Int):Int:=IntKind.i64.wrap (jN l)
def gO (n:Int):Prop:=-9223372036854775808<=n/\n<=9223372036854775807
def gK (l:List Int):Prop:=∀x∈l,0<=x/\x<256
theorem gK.aA {l:List Int}(h:gK l)(n:Nat):gK (l.take n):=λx hx=>h x (V0 hx)
theorem gK.aB {l:List Int}(h:gK l)(n:Nat):gK (l.drop n):=λx hx=>h x (VM hx)
theorem DD (x:Int):IntKind.i64.wrap x=(x+9223372036854775808) % 18446744073709551616-9223372036854775808:=by simp only[IntKind.wrap,IntKind.bits,IntKind.signed];simp;split<;>omega
theorem pH (v:Int)(k:Nat)(hk:k<=7):il v (7-k)=(v % 18446744073709551616) / 256^k % 256:=by rw[E_ v k hk,om]
theorem CS (v:Int):ij v=[(v % 18446744073709551616) / 72057594037927936 % 256,(v % 18446744073709551616) / 281474976710656 % 256,(v % 18446744073709551616) / 1099511627776 % 256,(v % 18446744073709551616) / 4294967296 % 256,
  (v % 18446744073709551616) / 16777216 % 256,(v % 18446744073709551616) / 65536 % 256,(v % 18446744073709551616) / 256 % 256,(v % 18446744073709551616) % 256]:=by
 have h0:=pH v 0 (by omega);have h1:=pH v 1 (by omega);have h2:=pH v 2 (by omega);have h3:=pH v 3 (by omega);have h4:=pH v 4 (by omega);have h5:=pH v 5 (by omega);have h6:=pH v 6 (by omega);have h7:=pH v 7 (by omega);simp only[reduceSub,Int.reducePow]at h0 h1 h2 h3 h4 h5 h6 h7;simp only[ij,h0,h1,h2,h3,h4,h5,h6,h7,Int.ediv_one]
theorem CR (v:Int):gK (ij v):=by rw[CS];intro x hx;simp only[VR,Xl,or_false]at hx;rcases hx with rfl | rfl | rfl | rfl | rfl | rfl | rfl | rfl<;>omega
theorem IP (a b c d e f g h:Int):jN [a,b,c,d,e,f,g,h]=a*72057594037927936+b*281474976710656+c*1099511627776+d*4294967296+e*16777216+f*65536+g*256+h:=by simp only[jN,W8,List.foldl_nil];omega
theorem Dw {v:Int}(h:gO v):iO (ij v)=v:=by
 rw[CS,iO,IP,DD];obtain⟨h1,h2⟩:=h;have:v % 18446744073709551616=(if v<0 then v+18446744073709551616 else v):=by split<;>omega
 generalize v % 18446744073709551616=u at *;split at this<;>omega
theorem CT {l:List Int}(h:l.length=8)(hb:gK l):ij (iO l)=l/\gO (iO l):=by
 match l,h with
 | [a,b,c,d,e,f,g,k],_=>
  have ha:=hb a (by simp);have hb':=hb b (by simp);have hc:=hb c (by simp);have hd:=hb d (by simp);have he:=hb e (by simp);have hf:=hb f (by simp);have hg:=hb g (by simp);have hk:=hb k (by simp);have hu:(iO [a,b,c,d,e,f,g,k]) % 18446744073709551616=a*72057594037927936+b*281474976710656+c*1099511627776+d*4294967296+e*16777216+f*65536+g*256+k:=by rw[iO,IP,DD];omega
  refine⟨?_,by rw[iO,DD];constructor<;>omega⟩;rw[CS,hu];simp only[Wr,and_true];refine⟨by omega,by omega,by omega,by omega,by omega,by omega,by omega,by omega⟩
structure k_ (T:Type) where
 aB:T->List Int
 aA:fZ->T×fZ
 ok:T->Prop
 aC:(aA none).2=none
 aI:∀x,8<=(aB x).length
 aF:∀x,ok x->gK (aB x)
 aE:∀x r,ok x->aA (some (aB x++r))=(x,some r)
 aD:∀l x r,gK l->aA (some l)=(x,some r)->l=aB x++r/\ok x
 aG:∀l x r t,aA (some l)=(x,some r)->aA (some (l++t))=(x,some (r++t))
theorem gK.aC {a b:List Int}(h:gK a)(h':gK b):gK (a++b):=λx hx=>(V7.1 hx).elim (h x) (h' x)
theorem gK.aD {a b:List Int}(h:gK (a++b)):gK b:=λx hx=>h x (V7.2 (.inr hx))
def gw:fZ->Int×fZ
 | none=>(0,none)
 | some l=>if l.length<8 then (0,none) else (iO (l.take 8),some (l.drop 8))
def OS:k_ Int where
 aB:=ij
 aA:=gw
 ok:=gO
 aC:=rfl
 aI _:=by simp[jy]
 aF v _:=CR v
 aE v r h:=by simp only[gw,Vj,jy];rw[Ve (by omega),List.take_left' (jy v),List.drop_left' (jy v),Dw h]
 aD l x r hb h:=by
  simp only[gw]at h;split at h;·simp at h
  ·rename_i hl;simp only[V9,Vk]at h;obtain⟨rfl,rfl⟩:=h;obtain⟨h1,h2⟩:=CT (l:=l.take 8) (by simp;omega) (hb.aA 8);exact⟨by rw[h1,Xb],h2⟩
 aG l x r t h:=by
  simp only[gw]at h ⊢;split at h;·simp at h
  ·rename_i hl;simp only[V9,Vk]at h;obtain⟨rfl,rfl⟩:=h;rw[Ve (by simp;omega),Wz (by omega),Wy (by omega)]
def gA (r:fZ):List Int×fZ:=
 match gw r with
 | (_,none)=>([],none)
 | (n,some l)=>if n<0\/(l.length:Int)<n then ([],none) else (l.take n.toNat,some (l.drop n.toNat))
theorem HU {l a r:List Int}(h:gA (some l)=(a,some r)):8<=l.length/\∃n:Nat,iO (l.take 8)=n/\n<=l.length-8/\a=(l.drop 8).take n/\r=(l.drop 8).drop n:=by
 simp only[gA,gw]at h;split at h;·cases h
 ·rename_i n l' b;split at b;·cases b
  ·rename_i hl;simp only[V9,Vk]at b;obtain⟨rfl,rfl⟩:=b;split at h;·cases h
   ·rename_i hn;simp only[V9,Vk]at h;simp only[VA]at hn;exact⟨by omega,(iO (l.take 8)).toNat,by omega,by omega,h.1.symm,h.2.symm⟩
theorem HT {l:List Int}{n:Nat}(h8:8<=l.length)(hv:iO (l.take 8)=n)(hn:n<=l.length-8):gA (some l)=((l.drop 8).take n,some ((l.drop 8).drop n)):=by simp only[gA,gw];rw[Ve (by omega)];simp only[hv];rw[Ve (by simp;omega)];simp
def Lc (p:List Int):Prop:=p.length<=9223372036854775807/\gK p
theorem G7 {n:Nat}(h:n<=9223372036854775807):gO (n:Int):=by constructor<;>omega
def EY:k_ (List Int) where
 aB p:=ij p.length++p
 aA:=gA
 ok:=Lc
 aC:=rfl
 aI p:=by simp[jy]
 aF p h:=(CR _).aC h.2
 aE p r h:=by have e8:(ij p.length).length=8:=jy _;rw[HT (n:=p.length) (by simp[e8]) (by rw[VX,List.take_left' e8,Dw (G7 h.1)]) (by simp[e8])];rw[VX,List.drop_left' e8,List.take_left' rfl,List.drop_left' rfl]
 aD l x r hb h:=by
  obtain⟨h8,n,hv,hn,rfl,rfl⟩:=HU h;obtain⟨h1,h2⟩:=CT (l:=l.take 8) (by simp;omega) (hb.aA 8);have hlen:((l.drop 8).take n).length=n:=by simp;omega
  rw[hv]at h1 h2;refine⟨?_,by rw[hlen];exact (by have:=h2.2;omega),(hb.aB 8).aA n⟩;rw[hlen,h1,VX,Xb,Xb]
 aG l x r t h:=by obtain⟨h8,n,hv,hn,rfl,rfl⟩:=HU h;rw[HT (n:=n) (by simp;omega) (by rw[Wz h8];exact hv) (by simp;omega)];rw[Wy h8,Wz (by simp;omega),Wy (by simp;omega)]
def Dc {A B:Type}(a:k_ A)(b:k_ B):k_ (A×B) where
 aB x:=a.aB x.1++b.aB x.2
 aA r:=(((a.aA r).1,(b.aA (a.aA r).2).1),(b.aA (a.aA r).2).2)
 ok x:=a.ok x.1/\b.ok x.2
 aC:=by simp only[a.aC,b.aC]
 aI x:=by have:=a.aI x.1;simp;omega
 aF x h:=(a.aF _ h.1).aC (b.aF _ h.2)
 aE x r h:=by rw[VX,a.aE x.1 _ h.1,b.aE x.2 _ h.2]
 aD l x r hb h:=by
  obtain⟨x1,x2⟩:=x;cases hd:a.aA (some l) with
  | mk y s=>
   rw[hd]at h;cases s with
   | none=>simp only[b.aC,V9,reduceCtorEq,and_false]at h
   | some m=>obtain⟨e1,o1⟩:=a.aD l y m hb hd;simp only[V9]at h;obtain⟨⟨rfl,h2⟩,h3⟩:=h;have hbm:gK m:=gK.aD (e1▸hb);obtain⟨e2,o2⟩:=b.aD m x2 r hbm (Prod.ext h2 h3);exact⟨by rw[e1,e2,VX],o1,o2⟩
 aG l x r t h:=by
  obtain⟨x1,x2⟩:=x;cases hd:a.aA (some l) with
  | mk y s=>
   rw[hd]at h;cases s with
   | none=>simp only[b.aC,V9,reduceCtorEq,and_false]at h
   | some m=>simp only[V9]at h;obtain⟨⟨rfl,h2⟩,h3⟩:=h;rw[a.aG l _ m t hd,b.aG m x2 r t (Prod.ext h2 h3)]
def G_ {A B:Type}(a:k_ A)(f:A->B)(g:B->A)(fg:∀b,f (g b)=b)(gf:∀x,g (f x)=x):k_ B where
 aB x:=a.aB (g x)
 aA r:=(f (a.aA r).1,(a.aA r).2)
 ok x:=a.ok (g x)
 aC:=a.aC
 aI x:=a.aI _
 aF x h:=a.aF _ h
 aE x r h:=by rw[a.aE _ _ h];simp only[fg]
 aD l x r hb h:=by simp only[V9]at h;obtain⟨rfl,h2⟩:=h;rw[gf];exact a.aD l _ r hb (Prod.ext rfl h2)
 aG l x r t h:=by simp only[V9]at h;obtain⟨rfl,h2⟩:=h;rw[a.aG l _ r t (Prod.ext rfl h2)]
def ji {T:Type}(f:fZ->T×fZ):Nat->fZ->List T×fZ
 | 0,r=>([],r)
 | n+1,r=>match f r with
  | (_,none)=>([],none)
  | (x,some l)=>((x :: (ji f n (some l)).1),(ji f n (some l)).2)
def mw (r:fZ):Int×fZ:=
 match gw r with
 | (_,none)=>(0,none)
 | (n,some l)=>if n<0\/(l.length / 8:Nat)<n then (0,none) else (n,some l)
def ib {T:Type}(f:fZ->T×fZ)(r:fZ):List T×fZ:=match mw r with
 | (_,none)=>([],none)
 | (n,some l)=>ji f n.toNat (some l)
theorem HX {l r:List Int}{n:Int}(h:mw (some l)=(n,some r)):8<=l.length/\iO (l.take 8)=n/\0<=n/\n<=((l.length-8) / 8:Nat)/\r=l.drop 8:=by
 simp only[mw,gw]at h;split at h;·cases h
 ·rename_i n l' b;split at b;·cases b
  ·rename_i hl;simp only[V9,Vk]at b;obtain⟨rfl,rfl⟩:=b;split at h;·cases h
   ·rename_i hn;simp only[V9,Vk]at h;simp only[VA]at hn;obtain⟨rfl,rfl⟩:=h;exact⟨by omega,rfl,by omega,by omega,rfl⟩
theorem HW {l:List Int}{n:Int}(h8:8<=l.length)(hv:iO (l.take 8)=n)(h0:0<=n) (hn:n<=((l.length-8) / 8:Nat)):mw (some l)=(n,some (l.drop 8)):=by simp only[mw,gw];rw[Ve (by omega)];simp only[hv];rw[Ve (by simp only[VA];omega)]
theorem GS {T:Type}(c:k_ T):∀xs:List T,8*xs.length<=(xs.flatMap c.aB).length
 | []=>by simp
 | x :: r=>by have h1:=GS c r;have h2:=c.aI x;simp only[List.flatMap_cons,Vj,VD];omega
theorem Ig {T:Type}(c:k_ T):∀(xs:List T)(r:List Int),(∀x∈xs,c.ok x)->ji c.aA xs.length (some (xs.flatMap c.aB++r))=(xs,some r)
 | [],r,_=>rfl
 | x :: xs,r,h=>by simp only[VD,ji,List.flatMap_cons,VX];rw[c.aE x _ (h x (by simp))];simp only[Ig c xs r (λy hy=>h y (by simp[hy]))]
theorem Ii {T:Type}(c:k_ T):∀(n:Nat)(l:List Int)(xs:List T)(r:List Int),gK l->ji c.aA n (some l)=(xs,some r)->l=xs.flatMap c.aB++r/\xs.length=n/\∀x∈xs,c.ok x
 | 0,l,xs,r,_,h=>by simp only[ji,V9,Vk]at h;obtain⟨rfl,rfl⟩:=h;simp
 | n+1,l,xs,r,hb,h=>by
  simp only[ji]at h;split at h;·cases h
  ·rename_i x m hd;simp only[V9]at h;obtain⟨rfl,h2⟩:=h;obtain⟨e1,o1⟩:=c.aD l x m hb hd;obtain⟨e2,l2,o2⟩:=Ii c n m _ r (gK.aD (e1▸hb)) (Prod.ext rfl h2);refine⟨by rw[List.flatMap_cons,VX,<-e2];exact e1,by simp[l2],λy hy=>?_⟩;rcases VR.1 hy with rfl | hy;·exact o1
   ·exact o2 y hy
theorem Ih {T:Type}(c:k_ T):∀(n:Nat)(l:List Int)(xs:List T)(r t:List Int),ji c.aA n (some l)=(xs,some r)->ji c.aA n (some (l++t))=(xs,some (r++t))
 | 0,l,xs,r,t,h=>by simp only[ji,V9,Vk]at h ⊢;obtain⟨rfl,rfl⟩:=h;simp
 | n+1,l,xs,r,t,h=>by
  simp only[ji]at h ⊢;split at h;·cases h
  ·rename_i x m hd;simp only[V9]at h;obtain⟨rfl,h2⟩:=h;rw[c.aG l x m t hd];simp only[Ih c n m _ r t (Prod.ext rfl h2)]
def Hk {T:Type}(c:k_ T):k_ (List T) where
 aB xs:=ij xs.length++xs.flatMap c.aB
 aA:=ib c.aA
 ok xs:=xs.length<=9223372036854775807/\∀x∈xs,c.ok x
 aC:=rfl
 aI xs:=by simp[jy]
 aF xs h:=(CR _).aC λb hb=>by obtain⟨x,h1,h2⟩:=List.mem_flatMap.1 hb;exact c.aF x (h.2 x h1) b h2
 aE xs r h:=by have e8:(ij xs.length).length=8:=jy _;have fb:=GS c xs;simp only[ib];rw[HW (n:=xs.length) (by simp[e8]) (by rw[VX,List.take_left' e8,Dw (G7 h.1)]) (by omega) (by simp only[Vj,e8];omega)];rw[VX,List.drop_left' e8];simpa using Ig c xs r h.2
 aD l xs r hb h:=by
  simp only[ib]at h;split at h;·cases h
  ·rename_i n m hm;obtain⟨h8,hv,h0,hn,rfl⟩:=HX hm;obtain⟨e1,e2,o⟩:=Ii c _ _ _ _ (hb.aB 8) h;obtain⟨h1,h2⟩:=CT (l:=l.take 8) (by simp;omega) (hb.aA 8);rw[hv]at h1 h2;have en:(xs.length:Int)=n:=by omega
   refine⟨by rw[en,h1,VX,<-e1,Xb],by have:=h2.2;omega,o⟩
 aG l xs r t h:=by
  simp only[ib]at h ⊢;split at h;·cases h
  ·rename_i n m hm;obtain⟨h8,hv,h0,hn,rfl⟩:=HX hm;rw[HW (n:=n) (by simp;omega) (by rw[Wz h8];exact hv) h0 (by simp;omega)];simp only;rw[Wy h8];exact Ih c _ _ _ _ t h
theorem HC:∀l:List Int,jF l=l.flatMap ij
 | []=>rfl
 | x :: r=>by simp only[jF,List.flatMap_cons,HC r]
structure na where
 aD:Int
 aB:Int
 aC:Int
 aA:Int
 aE:Int
 deriving DecidableEq
structure fU where
 aC:Int
 aI:Int
 aK:Int
 aL:Int
 aF:Int
 aA:fE
 aE:fG
 aJ:List Int
 aB:na
 deriving DecidableEq
def na.c (v:na):List D:=[.aA .i64 v.aD,.aA .i64 v.aB,.aA .i64 v.aC,.aA .i64 v.aA,.aA .i64 v.aE]
def L7 (l:List fV):D:=.sl 10 (l.map fV.c)
def L9 (l:List na):D:=.sl 5 (l.map na.c)
def fU.c (x:fU):List D:=[.aA .i64 x.aC,.aA .i64 x.aI,.aA .i64 x.aK,.aA .i64 x.aL,.aA .i64 x.aF,.aA .i64 x.aA.aA,.aA .i64 x.aA.aB,f_ x.aA.es,fK x.aE.aA,fK x.aE.aB,fK x.aE.aC,fT x.aJ,
 .aA .i64 x.aB.aD,.aA .i64 x.aB.aB,.aA .i64 x.aB.aC,.aA .i64 x.aB.aA,.aA .i64 x.aB.aE]
def jQ (l:List fU):D:=.sl 17 (l.map fU.c)
def uz:k_ (List Int):=Hk OS
def iI:k_ fG:=G_ (Dc uz (Dc uz uz)) (λp=>⟨p.1,p.2.1,p.2.2⟩) (λe=>(e.aA,e.aB,e.aC)) (λ_=>rfl) (λ_=>rfl)
theorem OT (l:List Int):uz.aB l=ij l.length++jF l:=by simp only[uz,Hk,HC];rfl
theorem LV (x:fG):iI.aB x=x.aK:=by simp only[iI,G_,Dc,OT,fG.aK,VX]
theorem Ia {e:gj}{F:Nat->Prop}{h:eZ}{a:List AV}(hh:fu F h e.c a):∃d,a=[.aA .i64 e.aB,.aA .i64 e.aC,d]/\Rd F h (fT e.aA) d:=by simp only[gj.c,sQ]at hh;obtain⟨_,rfl,_,rfl,hh⟩:=hh;simp only[fu]at hh;obtain⟨d,_,rfl,h1,rfl⟩:=hh;exact⟨d,rfl,h1⟩
theorem Df {x:fU}{F:Nat->Prop}{h:eZ}{a:List AV}(hh:fu F h x.c a):∃e o n l s,a=[.aA .i64 x.aC,.aA .i64 x.aI,.aA .i64 x.aK,.aA .i64 x.aL,.aA .i64 x.aF,.aA .i64 x.aA.aA,.aA .i64 x.aA.aB,e,o,n,l,s,
  .aA .i64 x.aB.aD,.aA .i64 x.aB.aB,.aA .i64 x.aB.aC,.aA .i64 x.aB.aA,.aA .i64 x.aB.aE]/\Rd F h (f_ x.aA.es) e/\Rd F h (fK x.aE.aA) o/\Rd F h (fK x.aE.aB) n/\Rd F h (fK x.aE.aC) l/\Rd F h (fT x.aJ) s:=by
 simp only[fU.c,sQ]at hh;obtain⟨_,rfl,_,rfl,_,rfl,_,rfl,_,rfl,_,rfl,_,rfl,hh⟩:=hh;simp only[fu]at hh;obtain⟨e,_,rfl,h1,o,_,rfl,h2,n,_,rfl,h3,l,_,rfl,h4,s,_,rfl,h5,_,_,rfl,h6,_,_,rfl,h7,_,_,rfl,h8,_,_,rfl,h9,_,_,rfl,b,rfl⟩:=hh;simp only[Rd]at h6 h7 h8 h9 b;subst h6 h7 h8 h9 b;exact⟨e,o,n,l,s,rfl,h1,h2,h3,h4,h5⟩
end Glb
