/-
  A library of its own.
-/
import Derived.Test.YtdeiamnhnfmilaaGreatGlbKitA
import Derived.Test.YtdeiamnhnfmilaaGreatGlbLibE
set_option linter.unusedSimpArgs false
set_option linter.unusedVariables false
set_option maxRecDepth 10000
set_option maxHeartbeats 4000000
open Nat (reduceAdd reduceEqDiff)
namespace Glb
open Go
variable {P:Program}{f g:FuncId}
theorem Em {sz bytes:Nat}{F:Nat->Prop}{ds es:List (List D)}{h0 h:fu}{av:AV}{ys:List (List AV)}(ho:fA (.sl sz ds) F h0 av)(hc:ic h0 av)
  (hx:fq fB h0 h) (hy:fQ es (λm=>h0.length<=m) h ys) (hF:∀m,h0.length<=m->F m) (hb:(ds.length+es.length)*bytes<=2^46):
  ∃av' h',iL h sz bytes av ys=some (av',h')/\fA (.sl sz (ds++es)) F h' av'/\ic h' av'/\fq F h h':=by
 have hyl:=pM hy;have fresh:∀(hh:fu) (dd:List (List D)) (es':List (List AV)),F hh.length->fQ dd F hh es'->
   fA (.sl sz dd) F (gY hh sz es').2 (gY hh sz es').1/\ic (gY hh sz es').2 (gY hh sz es').1:=by
  intro hh dd es' hl hd;have hlen:=pM hd;refine⟨?_,⟨es',true,by simp[gY],(λ_=>rfl),(λc hc=>by cases hc)⟩⟩;simp only[fA,gY];refine .inr (.inr ⟨hh.length,0,none,es',true,by rw[hlen],hl,ς,ω,(λc hc=>by cases hc),?_⟩);have:(es'.drop 0).take dd.length=es':=by rw[Yt,Xu ω]
  rw[this];refine fQ.aA dd (λm hm=>⟨hm.1,by have:=hm.2;omega⟩) ?_ _ (fQ.lt dd _ hd);intro m hm x hx;rw[Xy hm.2];exact hx
 simp only[fA]at ho;rcases ho with⟨rfl,rfl⟩ | ⟨t,c,rfl,rfl⟩ | ⟨n,off,cap,row,g,rfl,hn,hrow,hle,hcl,hd⟩
 · -- nothing yet
  have hy':fQ es F h ys:=fQ.aA es (λm hm=>hF _ hm) (λ_ _ _ x=>x) _ hy;obtain⟨a,b⟩:=fresh h es ys (hF _ hx.1) hy';refine⟨_,_,?_,by simpa using a,b,?_⟩;·simp only[iL];rw[WW (by rw[hyl];simpa using hb)]
  ·exact fq.aF _ _ _
 ·have hc1:c=true:=hc;subst hc1;have hy':fQ es F h ys:=fQ.aA es (λm hm=>hF _ hm) (λ_ _ _ x=>x) _ hy;simp only[iL];rw[WW ⟨Xb,by rw[hyl];simpa using hb⟩];by_cases hy0:ys.length=0;·rw[WW hy0];have hes:es=[]:=W5 ω;subst hes;refine⟨_,_,rfl,?_,rfl,fq.aC _ _⟩;simp only[fA];exact .inr (.inl ⟨t,true,rfl,rfl⟩)
  ·rw[WY hy0,WW Xb];obtain⟨a,b⟩:=fresh h es ys (hF _ hx.1) hy';exact⟨_,_,rfl,by simpa [gY] using a,b,fq.aF _ _ _⟩
 ·obtain⟨row',g',hrow',hcn,hcs⟩:=hc;rw[hrow]at hrow';obtain⟨rfl,rfl⟩:row=row'/\g=g':=by simpa using hrow'
  have hnlt:=(WR.1 hrow).1;have hrow1:h[n]?=some (some (.aA sz row g)):=hx.aA hrow;have hnlt1:=(WR.1 hrow1).1;have hd1:fQ ds (λm=>F m/\m≠n) h ((row.drop off).take ds.length):=fQ.aA ds (λm hm=>hm) (hx.aE _) _ hd;have hy1:fQ es (λm=>F m/\m≠n) h ys:=fQ.aA es (λm hm=>⟨hF _ hm,ω⟩) (λ_ _ _ x=>x) _ hy;have both:fQ (ds++es) F h ((row.drop off).take ds.length++ys):=fQ.aA _ (λm hm=>hm.1) (λ_ _ _ x=>x) _ (n9 hd1 hy1);simp only[iL,hrow1];rw[WW ⟨Xb,Xb,hle,by rw[hyl];exact hb⟩];cases cap with
  | none=>
   obtain rfl:=hcn rfl;simp only[Yc];have both':fQ (ds++es) F (h.set n none) (row.take ds.length++ys):=by have:=n9 hd1 hy1;rw[Yt]at this;exact fQ.aA _ (λm hm=>hm.1) (λm hm x hx=>by rw[WS (λe=>hm.2 e.symm)];exact hx) _ this
   obtain⟨a,b⟩:=fresh (h.set n none) (ds++es) (row.take ds.length++ys) (by rw[W4];exact hF _ hx.1) both';exact⟨_,_,rfl,a,b,(fq.aH none (λ_=>hn)).aD (fq.aF F _ _) (λ_ _ x=>x) (λ_ _ x=>x)⟩
  | some c=>
   have hc1:=hcl c rfl;have hc2:=hcs c rfl;cases c with
   | zero=>
    have h0:ds.length=0:=ω;have hds:ds=[]:=W5 h0;subst hds;simp only[Xi,Yc];by_cases hy0:ys.length=0;·rw[WW hy0];have hes:es=[]:=W5 ω;subst hes;refine⟨_,_,rfl,?_,⟨row,g,hrow1,(λe=>by cases e),(λc hc=>by cases hc;omega)⟩,fq.aC _ _⟩;simp only[fA];exact .inr (.inr ⟨n,off,some 0,row,g,rfl,hn,hrow1,by simpa using hle,(λc hc=>by cases hc;simp),by simp[fQ]⟩)
    ·rw[WY hy0];have hy2:fQ es F h ys:=fQ.aA es (λm hm=>hm.1) (λ_ _ _ x=>x) _ hy1;obtain⟨a,b⟩:=fresh h es ys (hF _ hx.1) hy2;exact⟨_,_,rfl,by simpa [gY] using a,b,fq.aF _ _ _⟩
   | succ c=>
    simp only;by_cases hcap:c+1<ds.length+ys.length;·rw[WW hcap];obtain⟨a,b⟩:=fresh h (ds++es) _ (hF _ hx.1) both;exact⟨_,_,rfl,a,b,fq.aF _ _ _⟩
    ·rw[WY hcap,WW ω];have hsl:(iq row (off+ds.length) ys).length=row.length:=by simp[iq];omega
     refine⟨_,_,rfl,?_,⟨_,g,by rw[W0 hnlt1],(λe=>by cases e),(λc' hc'=>by cases hc';rw[hsl];exact hc2)⟩,fq.aH _ (λ_=>hn)⟩;simp only[fA];refine .inr (.inr ⟨n,off,some (c+1),iq row (off+ds.length) ys,g,by rw[WT,hyl],hn,by rw[W0 hnlt1],by rw[hsl,WT];omega,
      (λc' hc'=>by cases hc';rw[WT];omega),?_⟩)
     have e:((iq row (off+ds.length) ys).drop off).take (ds++es).length=(row.drop off).take ds.length++ys:=by
      apply XT;intro i;simp only[Ye,Xv,WT,iq,Yk,W7,WT,Xk];rw[show min (off+ds.length) row.length=off+ds.length by omega,show min ds.length (row.length-off)=ds.length by omega];by_cases h1:i<ds.length;·rw[WW ω,WW ω,WW ω,WW ω,WW h1];simp[h1]
      ·by_cases h2:i<ds.length+es.length
       ·rw[WW h2,WW ω,WY ω,WY h1];congr 1;omega
       ·rw[WY h2,WY h1,XP ω]
     rw[e];refine fQ.aA _ (λm hm=>hm) ?_ _ (n9 hd1 hy1);intro m hm x hx;rw[WS (λe=>hm.2 e.symm)];exact hx
variable {P:Program}{f g:FuncId}
def mC (v:Int)(k:Nat):Int:=IntKind.u8.wrap ((IntKind.u64.wrap v).fdiv (2^(8*(7-k))))
def gW (v:Int):List Int:=[mC v 0,mC v 1,mC v 2,mC v 3,mC v 4,mC v 5,mC v 6,mC v 7]
theorem jO (v:Int):(gW v).length=8:=rfl
theorem Rh (v:Int)(j:Nat)(hj:j<8):(gW v)[j]?=some (mC v j):=by
 match j,hj with
 | 0,_=>rfl
 | 1,_=>rfl
 | 2,_=>rfl
 | 3,_=>rfl
 | 4,_=>rfl
 | 5,_=>rfl
 | 6,_=>rfl
 | 7,_=>rfl
theorem JV {α:Type}{l:List α}{j:Nat}{x:α} (h:l[j]?=some x):l.take (j+1)=l.take j++[x]:=by rw[List.take_add_one,h];rfl
def xO (P:Program)(f:FuncId):Prop:=
 fZ P f=true/\∀(lo:Nat)(h:fu)(l:List Int)(b:AV)(v:Int),fA (gG l) (λm=>lo<=m) h b->ic h b->lo<=h.length->l.length<=2^45->
  fO P f [b,.aD .i64 v] h λr h'=>fA (gG (l++gW v)) (λm=>lo<=m) h' r/\ic h' r/\fq (λm=>lo<=m) h h'
theorem U1 (a b:Int):jX .shr (.aD .u64 a) (ι b)=wG .shr .u64 a b:=W_ rfl rfl
theorem zp (hf:Is P f Cn):xO P f:=by
 refine⟨hf.2,λlo h l b v hb hc I hl=>gy hf ?_⟩;simp only[Cn,go_sem];refine iP (λm L h'=>∃(j:Nat)(o:AV),lk 0 L=o/\lk 1 L=ι v/\lk 5 L=ι (7-(j:Int))/\j<=8/\m=8-j /\
  fA (gG (l++(gW v).take j)) (λm=>lo<=m) h' o/\ic h' o/\fq (λm=>lo<=m) h h') 8 ?_ ?_
 ·exact⟨0,b,by simp[fE,iw],by simp[fE,iw],by simp[fE],ω,ω,by simpa using hb,hc,fq.aC _ _⟩
 ·rintro m L h' ⟨j,o,h0,h1,h5,hj,rfl,ho,e,he⟩;simp only[G7,go_sem,h5];refine iQ (λci=>?_) (λci=>?_)
  ·simp at ci;have e1:IntKind.i64.wrap (8*(7-(j:Int)))=((8*(7-j):Nat):Int):=by rw[gF ω];omega
   have e2:IntKind.i64.wrap (7-(j:Int)-1)=7-((j+1:Nat):Int):=by rw[gF ω];omega
   have e3:wG .shr .u64 (IntKind.u64.wrap v) ((8*(7-j):Nat):Int)=some (.aD .u64 ((IntKind.u64.wrap v).fdiv (2^(8*(7-j))))):=by simp only[wG];rw[WY ω,Yj,XW (by simp[IntKind.bits];omega)]
   have e4:IntKind.u8.wrap ((IntKind.u64.wrap v).fdiv (2^(8*(7-j))))=mC v j:=rfl;have O:(l++(gW v).take j).length=l.length+j:=by simp[jO];omega
   obtain⟨o',h2,ha,u,W,U⟩:=nW (bytes:=1) (es:=[[.aA .u8 (mC v j)]]) (h:=h'++[some (.aA 1 [[.aD .u8 (mC v j)]] false)]) ho e (fq.aF _ _ _) (ys:=[[.aD .u8 (mC v j)]])
    (by simp[fQ,fU,fA]) (Xg I he.1) (by rw[Xd,O];simp;omega)
   simp only[go_sem,reduceEqDiff,reduceAdd,h0,h1,h5,e1,e2,U1,e3,e4,Ga,iR (mH h' 1 [[.aD .u8 (mC v j)]] false (some 1) (len:=1) rfl),ha];refine⟨_,?_,j+1,o',rfl,rfl,ω,rfl,?_,W,?_⟩;·omega
   ·rw[JV (Rh v j ω),<-Xl,gG,XU];exact u
   ·exact (he.aD (fq.aF fB h' _) (λ_ _ x=>x) (λ_ _ x=>x.elim)).aD U (λ_ _ x=>x) (λm hm E=>E)
  ·simp at ci;simp only[go_sem,h0];obtain rfl:j=8:=ω;exact⟨ho,e,he⟩
def yi (h:fu)(sz bytes:Nat)(zero:List AV):AV->AV->Option (AV×fu)
 | .aD _ l,.aD _ c=>if 0<=l/\l<=c/\c*bytes<=2^46 then some (.aG h.length sz 0 l.toNat (some c.toNat),h++[some (.aA sz (List.replicate c.toNat zero) false)]) else none
 | _,_=>none
theorem HX (g:fN->AV)(h:fu)(sz bytes:Nat)(zero:List AV)(l c:fN):kP g h (.aF sz bytes zero l c)=yi h sz bytes zero (g l) (g c):=by
 simp only[kP,jT,yi];generalize g l=x;generalize g c=y;cases x<;>cases y<;>simp only;rename_i k l k' c;by_cases q:0<=l/\l<=c/\c*(bytes:Int)<=2^46;·rw[WW q,WW q]
 ·rw[WY q,WY q]
theorem Gn {h:fu}{sz bytes:Nat}{zero:List AV}{k k':IntKind}{l c:Int}(h0:0<=l)(h1:l<=c)(h2:c*bytes<=2^46):
  yi h sz bytes zero (.aD k l) (.aD k' c)=some (.aG h.length sz 0 l.toNat (some c.toNat),h++[some (.aA sz (List.replicate c.toNat zero) false)]):=by
 simp only[yi];rw[WW ⟨h0,h1,h2⟩]
theorem RA {sz:Nat}(h:fu)(c:Nat)(zero:List AV):fA (.sl sz []) (λm=>h.length<=m) (h++[some (.aA sz (List.replicate c zero) false)]) (.aG h.length sz 0 0 (some c)) /\
  ic (h++[some (.aA sz (List.replicate c zero) false)]) (.aG h.length sz 0 0 (some c)):=by
 constructor;·simp only[fA];exact .inr (.inr ⟨h.length,0,some c,List.replicate c zero,false,rfl,WX _,h_ _ _,ς,(λd hd=>by cases hd;simp),by simp[fQ]⟩)
 ·exact⟨_,false,h_ _ _,(λhc=>by cases hc),(λd hd=>by cases hd;simp)⟩
theorem wT {n:IntKind}{F G:Nat->Prop}{h h':fu}:∀{l:List Int} {ys:List (List AV)},gB F h (l.map λx=>[.aA n x]) ys->fQ (l.map λx=>[.aA n x]) G h' ys:=by
 intro l;induction l with
 | nil=>intro ys hh;simpa [gB,fQ] using hh
 | cons x l ih=>intro ys hh;simp only[XD,gB]at hh;obtain⟨e,r,rfl,h1,h2⟩:=hh;simp only[fH,Rd]at h1;obtain⟨_,_,rfl,rfl,rfl⟩:=h1;simp only[XD,fQ];exact⟨_,_,rfl,⟨_,_,rfl,by simp only[fA],rfl⟩,ih h2⟩
def xY (P:Program)(f:FuncId):Prop:=
 fZ P f=true/\∀(F:Nat->Prop)(h:fu)(l:List Int)(b:AV)(n:Int),Rd F h (gG l) b->l.length<=2^42->0<=n/\n<=2^42->
  fO P f [b,.aD .i64 n] h λr h'=>fA (gG l) (λm=>h.length<=m) h' r/\ic h' r/\fq fB h h'
theorem zG (hf:Is P f Co):xY P f:=by refine⟨hf.2,λF h l b n hb hl hn=>gy hf ?_⟩;have lb:=hb.aC;simp only[Xd]at lb;have e1:IntKind.i64.wrap ((l.length:Int)+n)=(l.length:Int)+n:=gF ω;have hm:=Gn (h:=h) (sz:=1) (bytes:=1) (zero:=[.aD .u8 0]) (k:=.i64) (k':=.i64) (l:=0) (c:=(l.length:Int)+n) (W9 0) ω ω;have oe:=RA (sz:=1) h ((l.length:Int)+n).toNat [.aD .u8 0];obtain⟨ys,u,E⟩:=(hb.up (fq.b1 (some (.aA 1 (List.replicate ((l.length:Int)+n).toNat [.aD .u8 0]) false)))).aH;obtain⟨r,h2,ha,hr,hc,he⟩:=nW (bytes:=1) oe.1 oe.2 (fq.aC fB _) (wT E) ς (by simp;omega);have e:=iR u 1 (.aG h.length 1 0 0 (some ((l.length:Int)+n).toNat));rw[ha]at e;simp only[Co,go_sem,lb,e1,HX,hm,Int.toNat_zero,e];exact⟨hr,hc,(fq.b1 _).aJ he (λm hm hm'=>ω)⟩
def tS (P:Program)(f:FuncId):Prop:=
 fZ P f=true/\∀(F:Nat->Prop)(h:fu)(l p:List Int)(b a:AV),Rd F h (gG l) b->Rd F h (gG p) a->l.length<=2^41->p.length<=2^41->
  fO P f [b,a] h λr h'=>fA (gG (l++gW p.length++p)) (λm=>h.length<=m) h' r/\ic h' r/\fq fB h h'
theorem I_ {fr fn:FuncId}(hf:Is P f (Cd fr fn))(hr:xY P fr)(hn:xO P fn):tS P f:=by refine⟨hf.2,λF h l p b a hb ha hl hp=>gy hf ?_⟩;have la:=ha.aC;simp only[Xd]at la;have e1:IntKind.i64.wrap (8+(p.length:Int))=8+(p.length:Int):=gF ω;simp only[Cd,go_sem,la,e1];refine fK ⟨hr.1,hr.2 F _ l _ _ hb ω ω⟩ ?_;rintro r h1 ⟨ro,rc,x1⟩;simp only[go_sem,la];refine fK ⟨hn.1,hn.2 h.length _ l _ _ ro rc x1.1 ω⟩ ?_;rintro s h2 ⟨so,sc,x2⟩;have e:=x1.aJ x2 (λm hm O=>ω);obtain⟨ys,E,I⟩:=(ha.up e).aH;obtain⟨t,h3,ht,to,tc,x3⟩:=nW (bytes:=1) so sc (fq.aC fB _) (wT I) e.1 (by simp[jO];omega);have u:=iR E 1 s;rw[ht]at u;simp only[go_sem,u];refine⟨?_,tc,e.aJ x3 (λm hm O=>ω)⟩;rw[gG,XU];exact to
def jA:List Int->List Int
 | []=>[]
 | x :: r=>gW x++jA r
theorem Ed:∀(a b:List Int),jA (a++b)=jA a++jA b
 | [],b=>rfl
 | x :: r,b=>by simp only[Zj,jA,Ed r b,Xl]
theorem mK:∀(a:List Int),(jA a).length=8*a.length
 | []=>rfl
 | x :: r=>by simp only[jA,WT,jO,mK r,Xf];omega
def FE (P:Program)(f:FuncId):Prop:=
 fZ P f=true/\∀(F:Nat->Prop)(h:fu)(l p:List Int)(b a:AV),Rd F h (gG l) b->Rd F h (f_ p) a->l.length<=2^38->p.length<=2^38->
  fO P f [b,a] h λr h'=>fA (gG (l++gW p.length++jA p)) (λm=>h.length<=m) h' r/\ic h' r/\fq fB h h'
theorem RK {fr fn:FuncId}(hf:Is P f (Cf fr fn))(hr:xY P fr)(hn:xO P fn):FE P f:=by
 refine⟨hf.2,λF h l p b a hb ha hl hp=>gy hf ?_⟩;have la:=ha.aC;simp only[Xd]at la;have e0:IntKind.i64.wrap (8*(p.length:Int))=8*(p.length:Int):=gF ω;have e1:IntKind.i64.wrap (8+8*(p.length:Int))=8+8*(p.length:Int):=gF ω;simp only[Cf,go_sem,la,e0,e1];refine fK ⟨hr.1,hr.2 F _ l _ _ hb ω ω⟩ ?_;rintro r h1 ⟨ro,rc,x1⟩;simp only[go_sem,la];refine fK ⟨hn.1,hn.2 h.length _ l _ _ ro rc x1.1 ω⟩ ?_;rintro s h2 ⟨so,sc,x2⟩;have U:=x1.aJ x2 (λm hm Z=>ω);simp only[go_sem,la];refine iP (λm L h'=>∃(i:Nat)(o:AV),lk 17 L=a/\lk 18 L=.aD .i64 p.length/\lk 5 L=o/\lk 19 L=.aD .i64 i/\i<=p.length/\m=p.length-i /\
  fA (gG (l++gW p.length++jA (p.take i))) (λm=>h.length<=m) h' o/\ic h' o/\fq fB h h') p.length ?_ ?_
 ·exact⟨0,s,by simp[fE],by simp[fE],by simp[fE],by simp[fE],ω,ω,by simpa [jA] using so,sc,U⟩
 ·rintro m L h' ⟨i,o,O,I,h5,e,hi,rfl,ho,hc,he⟩;simp only[G4,go_sem,I,e];refine iQ (λci=>?_) (λci=>?_)
  ·simp at ci;obtain⟨q,cs,hq,W,E⟩:=(ha.up he).aD .i64 (i:=i) (d:=[.aA .i64 p[i]]) ω (by simp[ci]);simp only[fH,Rd]at E;obtain⟨_,_,rfl,rfl,rfl⟩:=E;have e2:IntKind.i64.wrap ((i:Int)+1)=(i:Int)+1:=gF ω;simp only[go_sem,O,h5,e,hq,jN W];refine fK ⟨hn.1,hn.2 h.length _ (l++gW p.length++jA (p.take i)) _ p[i] ho hc he.1 (by simp[jO,mK];omega)⟩ ?_;rintro u h3 ⟨uo,uc,x3⟩;simp only[go_sem,O,I,h5,e,e2];refine⟨_,?_,i+1,u,rfl,rfl,ci,rfl,?_,uc,he.aJ x3 (λm hm Z=>ω)⟩;·omega
   ·rw[JV (x:=p[i]) (by simp[ci]),Ed];simpa [jA] using uo
  ·simp at ci;simp only[go_sem,h5];obtain rfl:i=p.length:=ω;rw[XF]at ho;exact⟨ho,hc,he⟩
variable {P:Program}{f g:FuncId}
theorem Ki (x:Int):IntKind.u8.wrap x=x % 256:=by simp[IntKind.wrap,IntKind.bits,IntKind.signed]
theorem zV (x:Int):IntKind.u64.wrap x=x % 18446744073709551616:=by simp[IntKind.wrap,IntKind.bits,IntKind.signed]
theorem MB (v:Int)(k:Nat)(hk:k<=7):mC v (7-k)=(IntKind.u64.wrap v / 256^k) % 256:=by rw[mC,Ki,Int.fdiv_eq_ediv_of_nonneg _ (Int.le_of_lt (Int.pow_pos δ)),show 7-(7-k)=k by omega,Int.pow_mul];rfl
def Aq (P:Program)(f:FuncId):Prop:=
 fZ P f=true/\∀(F:Nat->Prop)(h:fu)(l:List Int)(b:AV)(v:Int),Rd F h (gG l) b->l.length<=2^42->
  fO P f [b,.aD .i64 v] h λr h'=>fA (gG (l++gW v)) (λm=>h.length<=m) h' r/\ic h' r/\fq fB h h'
structure fI where
 aA:List Int
 aC:List Int
 aD:List Int
 deriving DecidableEq
def fI.c (x:fI):List D:=[f_ x.aA,f_ x.aC,f_ x.aD]
def fI.aG (x:fI):List Int:=gW x.aA.length++jA x.aA++(gW x.aC.length++jA x.aC)++(gW x.aD.length++jA x.aD)
def vO (P:Program)(f:FuncId):Prop:=
 fZ P f=true/\∀(F:Nat->Prop)(h:fu)(l:List Int)(b:AV)(x:fI)(a:List AV),Rd F h (gG l) b->fH F h x.c a->l.length<=2^33->x.aA.length<=2^33->x.aC.length<=2^33->x.aD.length<=2^33->
  fO P f [b,.aF a] h λr h'=>fA (gG (l++x.aG)) (λm=>h.length<=m) h' r/\ic h' r/\fq fB h h'
theorem Px (hf:Is P f (BU g))(hg:FE P g):vO P f:=by refine⟨hf.2,λF h l b x a hb ha hl h1 h2 h3=>gy hf ?_⟩;simp only[fI.c,fH]at ha;obtain⟨o,_,rfl,ho,n,_,rfl,hn,e,_,rfl,he,rfl⟩:=ha;simp only[BU,go_sem,ho.aA,hn.aA,he.aA];have A0:=h_ h (some (.aA 3 [[o,n,e]] false));have W:=ho.up (fq.b1 (some (.aA 3 [[o,n,e]] false)));have Z:=hn.up (fq.b1 (some (.aA 3 [[o,n,e]] false)));have a1:=he.up (fq.b1 (some (.aA 3 [[o,n,e]] false)));have a2:=hb.up (fq.b1 (some (.aA 3 [[o,n,e]] false)));refine fK ⟨hg.1,hg.2 F _ l x.aA _ _ a2 W ω ω⟩ ?_;rintro r1 g1 ⟨O,r1c,x1⟩;have A1:=x1.aA A0;simp only[go_sem,A1];refine fK ⟨hg.1,hg.2 (λ_=>True) _ _ x.aC _ _ (fA.rd _ (λ_ _=>Xb) _ O) (Rd.aE (λ_ _=>Xb) (ik.lt _ _) _ _ (Z.up x1)) (by simp[jO,mK];omega) ω⟩ ?_;rintro r2 g2 ⟨I,r2c,x2⟩;have A2:=x2.aA A1;simp only[go_sem,A2];refine fK ⟨hg.1,hg.2 (λ_=>True) _ _ x.aD _ _ (fA.rd _ (λ_ _=>Xb) _ I) (Rd.aE (λ_ _=>Xb) (ik.lt _ _) _ _ ((a1.up x1).up x2)) (by simp[jO,mK];omega) ω⟩ ?_;rintro r3 g3 ⟨u,E,x3⟩;simp only[go_sem,x3.aA A2];have xx:=(((fq.b1 _).tr x1).tr x2).tr x3;refine⟨?_,E,xx⟩;have U:=((fq.b1 _).tr x1).tr x2;have:=fA.aC (F':=λm=>h.length<=m) _ (λm hm=>Xg U.1 hm) (λ_ _ _ x=>x) _ u;simpa [fI.aG] using this
def Ae (P:Program)(f:FuncId):Prop:=
 fZ P f=true/\∀(F:Nat->Prop)(h:fu)(x:fI)(a:List AV),fH F h x.c a->x.aA.length<=2^33->x.aC.length<=2^33->x.aD.length<=2^33->
  fO P f [.aF a] h λr h'=>fA (gG x.aG) (λm=>h.length<=m) h' r/\ic h' r/\fq fB h h'
theorem Pu (hf:Is P f (BM g))(hg:vO P g):Ae P f:=by refine⟨hf.2,λF h x a ha h1 h2 h3=>gy hf ?_⟩;have u:=ha;simp only[fI.c,fH]at ha;obtain⟨o,_,rfl,ho,n,_,rfl,hn,e,_,rfl,he,rfl⟩:=ha;simp only[BM,go_sem,ho.aA,hn.aA,he.aA];refine fK ⟨hg.1,hg.2 F _ [] _ x _ (Rd.aK 1) (u.up (fq.b1 _)) ς h1 h2 h3⟩ ?_;rintro r h2 ⟨ro,rc,x1⟩;simp only[go_sem];rw[Yg]at ro;exact⟨fA.aC _ (λm hm=>by simp at hm;omega) (λ_ _ _ x=>x) _ ro,rc,(fq.b1 _).tr x1⟩
variable {P:Program}{f g:FuncId}
theorem pA {x:fI}{F:Nat->Prop}{h:fu}{a:List AV}(hh:fH F h x.c a):∃o n e,a=[o,n,e]/\Rd F h (f_ x.aA) o/\Rd F h (f_ x.aC) n/\Rd F h (f_ x.aD) e:=by simp only[fI.c,fH]at hh;obtain⟨o,_,rfl,ho,n,_,rfl,hn,e,_,rfl,he,rfl⟩:=hh;exact⟨o,n,e,rfl,ho,hn,he⟩
def vI (P:Program)(f:FuncId):Prop:=
 fZ P f=true/\∀(F:Nat->Prop)(h:fu)(x:fI)(a:List AV),fH F h x.c a->x.aA.length<=2^40->x.aC.length<=2^40->x.aD.length<=2^40->
  fO P f [.aF a] h λr h'=>∃o n e,r=.aF [o,n,e]/\fA (f_ x.aA) (λk=>h.length<=k) h' o/\fA (f_ x.aC) (λk=>h.length<=k) h' n/\fA (f_ x.aD) (λk=>h.length<=k) h' e/\fq fB h h'
theorem Kz (hf:Is P f (Bd g))(hg:pH P g .i64):vI P f:=by
 refine⟨hf.2,λF h x a ha l1 l2 l3=>gy hf ?_⟩;obtain⟨o,n,e,rfl,ho,hn,he⟩:=pA ha;simp only[Bd,go_sem,ho.aA,hn.aA,he.aA];have A0:=kr h (some (.aA 3 [[o,n,e]] false)) (some (.aA 3 [[.aC,.aC,.aC]] false));have B0:=jy h (some (.aA 3 [[o,n,e]] false)) (some (.aA 3 [[.aC,.aC,.aC]] false));have x0:=fq.b2 (h:=h) (some (.aA 3 [[o,n,e]] false)) (some (.aA 3 [[.aC,.aC,.aC]] false));have u:=ho.up x0;have E:=hn.up x0;have I:=he.up x0;refine fK ⟨hg.1,hg.2 F _ x.aA o u l1⟩ ?_;rintro o' g1 ⟨o1,_,x1⟩;have A1:=x1.aA A0;have B1:=x1.aA B0;simp only[go_sem,A1];refine fK ⟨hg.1,hg.2 F _ x.aC n (E.up x1) l2⟩ ?_;rintro n' g2 ⟨n2,_,x2⟩;have A2:=x2.aA A1;have B2:=x2.aA B1;simp only[go_sem,A2];refine fK ⟨hg.1,hg.2 F _ x.aD e ((I.up x1).up x2) l3⟩ ?_;rintro e' g3 ⟨e3,_,x3⟩;have A3:=x3.aA A2;have B3:=x3.aA B2;have lB:=(WR.1 B3).1;simp only[go_sem,A3,B3,o1.aA,n2.aA,e3.aA,gV o1.aA,gV n2.aA,gV e3.aA,lB];have q0:=x0.1;have q1:=x1.1;have q2:=x2.1;simp only[WT,Xf,Xi]at q0 q1;have st:∀{d:D}{G:Nat->Prop}{av:AV},fA d G g3 av->(∀m,G m->h.length+2<=m)->fA d (λk=>h.length<=k) (g3.set (h.length+1) (some (.aA 3 [[o',n',e']] false))) av:=λhh hG=>fA.aC _ (λm hm=>by have:=hG m hm;omega) (λm hm y hy=>by have:=hG m hm;rw[WS ω];exact hy) _ hh;refine⟨o',n',e',rfl,st ((o1.up x2).up x3) (λm hm=>?_),st (n2.up x3) (λm hm=>?_),st e3 (λm hm=>?_),(((x0.tr x1).tr x2).tr x3).aI ω _⟩;·simp only[WT,Xf,Xi]at hm;omega
 ·omega
 ·omega
structure fP where
 aE:Int
 aC:Int
 aF:Int
 aA:fG
 aD:fI
 aG:List Int
 deriving DecidableEq
def fP.c (x:fP):List D:=[.aA .i64 x.aE,.aA .i64 x.aC,.aA .i64 x.aF,.aA .i64 x.aA.aA,.aA .i64 x.aA.aD,gZ x.aA.es,f_ x.aD.aA,f_ x.aD.aC,f_ x.aD.aD,gG x.aG]
def fP.aH (x:fP)(e o n l s:AV):List AV:=[.aD .i64 x.aE,.aD .i64 x.aC,.aD .i64 x.aF,.aD .i64 x.aA.aA,.aD .i64 x.aA.aD,e,o,n,l,s]
theorem m7 {x:fP}{F:Nat->Prop}{h:fu}{a:List AV}(hh:fH F h x.c a):∃e o n l s,a=x.aH e o n l s/\Rd F h (gZ x.aA.es) e/\Rd F h (f_ x.aD.aA) o/\Rd F h (f_ x.aD.aC) n/\Rd F h (f_ x.aD.aD) l/\Rd F h (gG x.aG) s:=by simp only[fP.c,rT]at hh;obtain⟨_,rfl,_,rfl,_,rfl,_,rfl,_,rfl,hh⟩:=hh;simp only[fH]at hh;obtain⟨e,_,rfl,he,o,_,rfl,ho,n,_,rfl,hn,l,_,rfl,hl,s,_,rfl,hs,rfl⟩:=hh;exact⟨e,o,n,l,s,rfl,he,ho,hn,hl,hs⟩
theorem uH {x:fI}{F:Nat->Prop}{h:fu}{o n l:AV}(ho:Rd F h (f_ x.aA) o)(hn:Rd F h (f_ x.aC) n)(hl:Rd F h (f_ x.aD) l):fH F h x.c [o,n,l]:=by simp only[fI.c,fH];exact⟨o,_,rfl,ho,n,_,rfl,hn,l,_,rfl,hl,rfl⟩
variable {P:Program}{f g:FuncId}
mutual
theorem r9 (k:Nat):∀d:D,d.av.aJ k=true
 | .aA i n=>by simp only[D.av,AV.aJ]
 | .aE b=>by simp only[D.av,AV.aJ]
 | .aF s=>by simp only[D.av,AV.aJ]
 | .sl sz es=>by simp only[D.av,AV.aJ,J7 k es,Xm,decide_true,ZD,ZJ]
theorem EV (k:Nat):∀l:List D,AV.aP k (D.aC l)=true
 | []=>by simp only[D.aC,AV.aP]
 | d :: r=>by simp only[D.aC,AV.aP,r9 k d,EV k r,ZJ]
theorem J7 (k:Nat):∀l:List (List D),AV.aS k (D.aD l)=true
 | []=>by simp only[D.aD,AV.aS]
 | d :: r=>by simp only[D.aD,AV.aS,EV k d,J7 k r,ZJ]
end
theorem Vw (k:Nat)(l:List D):(AV.aF (D.aC l)).aJ k=true:=by simp only[AV.aJ,EV]
def jx (l:List Int):AV:=(gG l).av
def gO (l:List Int):AV:=(f_ l).av
def kE (l:List gw):AV:=(gZ l).av
theorem xf (l:List Int):(jx l).aH=true:=mI _
theorem tN (l:List Int):(gO l).aH=true:=mI _
theorem tM (l:List gw):(kE l).aH=true:=mI _
theorem Nk (l:List Int):(jx l).aK=some [jx l]:=gV (mI _)
theorem Nq (l:List Int):(gO l).aK=some [gO l]:=gV (mI _)
theorem Nn (l:List gw):(kE l).aK=some [kE l]:=gV (mI _)
theorem l_ (F:Nat->Prop)(h:fu)(l:List Int):Rd F h (gG l) (jx l):=wZ _ _ _
theorem SU (F:Nat->Prop)(h:fu)(l:List Int):Rd F h (f_ l) (gO l):=wZ _ _ _
theorem SQ (F:Nat->Prop)(h:fu)(l:List gw):Rd F h (gZ l) (kE l):=wZ _ _ _
theorem Qw (l:List Int):iJ (jx l)=some (ι l.length):=by simpa using (l_ fB [] l).aC
theorem Qy (l:List Int):iJ (gO l)=some (ι l.length):=by simpa using (SU fB [] l).aC
theorem Qx (l:List gw):iJ (kE l)=some (ι l.length):=by simpa using (SQ fB [] l).aC
attribute [go_sem] xf tN tM Nk Nq Nn Qw Qy Qx
def fG.v (l:fG):List AV:=D.aC l.c
def fI.v (x:fI):List AV:=D.aC x.c
def fP.v (x:fP):List AV:=D.aC x.c
theorem fG.aN (l:fG):l.v=[ι l.aA,ι l.aD,kE l.es]:=by simp only[fG.v,fG.c,D.aC,D.av];rfl
theorem fI.aN (x:fI):x.v=[gO x.aA,gO x.aC,gO x.aD]:=by simp only[fI.v,fI.c,D.aC];rfl
theorem fP.aL (x:fP):x.v=[ι x.aE,ι x.aC,ι x.aF,ι x.aA.aA,ι x.aA.aD,kE x.aA.es,gO x.aD.aA,gO x.aD.aC,gO x.aD.aD,jx x.aG]:=by simp only[fP.v,fP.c,D.aC,D.av];rfl
theorem EC (F:Nat->Prop)(h:fu)(l:fG):fH F h l.c l.v:=tK _ _ _
theorem w9 (F:Nat->Prop)(h:fu)(x:fI):fH F h x.c x.v:=tK _ _ _
theorem Jn (F:Nat->Prop)(h:fu)(x:fP):fH F h x.c x.v:=tK _ _ _
theorem gH {e:List AV}{r:AV}{h:fu}{K:AV->fu->Prop}(hi:fZ P f=true)(hc:fO P f e h λr' h'=>r'=r/\h'=h)(hk:K r h):m9 P f e h K:=
 fK ⟨hi,hc⟩ λ_ _ ⟨e1,e2⟩=>by subst e1;subst e2;exact hk
def oO (P:Program)(f:FuncId)(avs:List AV)(r:AV):Prop:=∀h,fO P f avs h λr' h'=>r'=r/\h'=h
theorem oO.aA {e:List AV}{r:AV}{h:fu}{K:AV->fu->Prop}(hi:fZ P f=true)(hc:oO P f e r)(hk:K r h):m9 P f e h K:=
 fK ⟨hi,hc h⟩ λ_ _ ⟨e1,e2⟩=>by subst e1;subst e2;exact hk
theorem Je {e:List AV}{d:D}(hc:∀h,fO P f e h λr h'=>fA d (λm=>h.length<=m) h' r/\fq fB h h'):oO P f e d.av:=
 λh=>(hc h).aC λ_ _ hk=>⟨hk.2,_,iu.d (fA.fz d (λ_ x=>x) _ hk.1),rfl⟩
def fI.aH (x:fI)(n:Nat):Prop:=x.aA.length<=n/\x.aC.length<=n/\x.aD.length<=n
def fP.aN (x:fP):Prop:=mS x.aA.es/\x.aD.aH (2^40)/\x.aG.length<=2^40
variable {P:Program}{f g:FuncId}
theorem fI.aW (x y:fI):decide (x=y)=(decide (x.aA=y.aA) && (decide (x.aC=y.aC) && decide (x.aD=y.aD))):=by cases x;cases y;simp[Bool.decide_and]
theorem fP.aT (x y:fP):decide (x=y)=(decide (x.aE=y.aE) && (decide (x.aC=y.aC) && (decide (x.aF=y.aF) && (decide (x.aA=y.aA) && (decide (x.aD=y.aD) && decide (x.aG=y.aG)))))):=by cases x;cases y;simp[Bool.decide_and]
def AM (P:Program)(f:FuncId):Prop:=
 fZ P f=true/\∀(F F':Nat->Prop)(h:fu)(x y:fI)(a b:List AV),fH F h x.c a->fH F' h y.c b->x.aH (2^40)->
  fO P f [.aF a,.aF b] h λr h'=>r=.aE (decide (x=y))/\h'=h
theorem K7 (hf : Is P f (Bk g)) (hg : ri P g .i64) : AM P f := by
 refine ⟨hf.2, λF F' h x y a b hx hy hl => kx rfl (gy hf ?_)⟩;obtain ⟨o, n, e, rfl, ho, hn, he⟩ := pA (fH.aA (F' := λ_ => True) (λ_ _ => Xb) (ik.lt _ _) _ _ hx);obtain ⟨o', n', e', rfl, ho', hn', he'⟩ := pA (fH.aA (F' := λ_ => True) (λ_ _ => Xb) (ik.lt _ _) _ _ hy);simp only [Bk, go_sem, ho.aA, hn.aA, he.aA, ho'.aA, hn'.aA, he'.aA];repeat' (first
  | refine vB (λ_ => ?_) (λ_ => ?_)
  | (refine fK ⟨hg.1, hg.2 (λ_ => True) _ x.aA y.aA _ _ (ho.up (fq.b2 _ _)) (ho'.up (fq.b2 _ _)) hl.1⟩ ?_; rintro _ _ ⟨rfl, rfl⟩)
  | (refine fK ⟨hg.1, hg.2 (λ_ => True) _ x.aC y.aC _ _ (hn.up (fq.b2 _ _)) (hn'.up (fq.b2 _ _)) hl.2.1⟩ ?_; rintro _ _ ⟨rfl, rfl⟩)
  | (refine fK ⟨hg.1, hg.2 (λ_ => True) _ x.aD y.aD _ _ (he.up (fq.b2 _ _)) (he'.up (fq.b2 _ _)) hl.2.2⟩ ?_; rintro _ _ ⟨rfl, rfl⟩)
  | simp only [go_sem, *])
 all_goals exact ⟨by simp [fI.aW, *], fq.b2 _ _⟩
def AN (P:Program)(f:FuncId):Prop:=
 fZ P f=true/\∀(F F':Nat->Prop)(h:fu)(x y:fP)(a b:List AV),fH F h x.c a->fH F' h y.c b->x.aN->
  fO P f [.aF a,.aF b] h λr h'=>r=.aE (decide (x=y))/\h'=h
theorem wL {x:fG}{F:Nat->Prop}{h:fu}{e:AV}(he:Rd F h (gZ x.es) e):fH F h x.c [ι x.aA,ι x.aD,e]:=by simp only[fG.c,rT];refine⟨_,rfl,_,rfl,?_⟩;simp only[fH];exact⟨e,_,rfl,he,rfl⟩
theorem K8 {k b:FuncId}(hf : Is P f (Bn g k b)) (hg : qq P g) (hk : AM P k) (hb : ri P b .u8) : AN P f := by
 refine ⟨hf.2, λF F' h x y a c hx hy hl => kx rfl (gy hf ?_)⟩;obtain ⟨e1, o1, n1, l1, s1, rfl, he1, ho1, hn1, hl1, hs1⟩ := m7 (fH.aA (F' := λ_ => True) (λ_ _ => Xb) (ik.lt _ _) _ _ hx);obtain ⟨e2, o2, n2, l2, s2, rfl, he2, ho2, hn2, hl2, hs2⟩ := m7 (fH.aA (F' := λ_ => True) (λ_ _ => Xb) (ik.lt _ _) _ _ hy);simp only [Bn, fP.aH, go_sem, he1.aA, ho1.aA, hn1.aA, hl1.aA, hs1.aA, he2.aA, ho2.aA, hn2.aA, hl2.aA, hs2.aA];repeat' (first
  | refine vB (λ_ => ?_) (λ_ => ?_)
  | (refine fK ⟨hg.1, hg.2 (λ_ => True) _ x.aA y.aA _ _ ((wL he1).up (fq.b2 _ _)) ((wL he2).up (fq.b2 _ _)) (by have := hl.1.1; omega) (λe he => by have := hl.1.2 e he; omega)⟩ ?_; rintro _ _ ⟨rfl, rfl⟩)
  | (refine fK ⟨hk.1, hk.2 (λ_ => True) (λ_ => True) _ x.aD y.aD _ _ ((uH ho1 hn1 hl1).up (fq.b2 _ _)) ((uH ho2 hn2 hl2).up (fq.b2 _ _)) hl.2.1⟩ ?_; rintro _ _ ⟨rfl, rfl⟩)
  | (refine fK ⟨hb.1, hb.2 (λ_ => True) _ x.aG y.aG _ _ (hs1.up (fq.b2 _ _)) (hs2.up (fq.b2 _ _)) hl.2.2⟩ ?_; rintro _ _ ⟨rfl, rfl⟩)
  | simp only [go_sem, *])
 all_goals exact ⟨by simp [fP.aT, *], fq.b2 _ _⟩
end Glb
