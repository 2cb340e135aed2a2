/-
  A library of its own.
-/
import Derived.Test.YtdeiamnhnfmilaaGreatGlbKitA
import Derived.Test.YtdeiamnhnfmilaaGreatGlbLibE
set_option linter.unusedSimpArgs false
set_option linter.unusedVariables false
set_option maxRecDepth 10000
set_option maxHeartbeats 4000000
open Nat (reduceAdd reduceEqDiff)
namespace Glb
open Go
theorem sP {sz bytes:Nat}{F:Nat->Prop}{ds es:List (List D)}{h0 h:eZ}{av:AV}{ys:List (List AV)}(ho:e_ (.sl sz ds) F h0 av)(hc:gq h0 av)
  (hx:eY fj h0 h) (hy:fP es (λm=>h0.length<=m) h ys) (hF:∀m,h0.length<=m->F m) (hb:(ds.length+es.length)*bytes<=2^46):
  ∃av' h',iL h sz bytes av ys=some (av',h')/\e_ (.sl sz (ds++es)) F h' av'/\gq h' av'/\eY F h h':=by
 have hyl:=py hy;have fresh:∀(hh:eZ) (dd:List (List D)) (es':List (List AV)),F hh.length->fP dd F hh es'->
   e_ (.sl sz dd) F (gR hh sz es').2 (gR hh sz es').1/\gq (gR hh sz es').2 (gR hh sz es').1:=by
  intro hh dd es' hl hd;have hlen:=py hd;refine⟨?_,⟨es',true,by simp[gR],(λ_=>rfl),(λc hc=>by cases hc)⟩⟩;simp only[e_,gR];refine .inr (.inr ⟨hh.length,0,none,es',true,by rw[hlen],hl,by simp,by omega,(λc hc=>by cases hc),?_⟩);have:(es'.drop 0).take dd.length=es':=by rw[Wf,V5 (by omega)]
  rw[this];refine fP.aA dd (λm hm=>⟨hm.1,by have:=hm.2;omega⟩) ?_ _ (fP.lt dd _ hd);intro m hm x hx;rw[VK hm.2];exact hx
 simp only[e_]at ho;rcases ho with⟨rfl,rfl⟩ | ⟨t,c,rfl,rfl⟩ | ⟨n,off,cap,row,g,rfl,hn,hrow,hle,hcl,hd⟩
 · -- nothing yet
  have hy':fP es F h ys:=fP.aA es (λm hm=>hF _ hm) (λ_ _ _ x=>x) _ hy;obtain⟨a,b⟩:=fresh h es ys (hF _ hx.1) hy';refine⟨_,_,?_,by simpa using a,b,?_⟩;·simp only[iL];rw[Vf (by rw[hyl];simpa using hb)]
  ·exact eY.aE _ _ _
 ·have hc1:c=true:=hc;subst hc1;have hy':fP es F h ys:=fP.aA es (λm hm=>hF _ hm) (λ_ _ _ x=>x) _ hy;simp only[iL];rw[Vf ⟨Vp,by rw[hyl];simpa using hb⟩];by_cases hy0:ys.length=0;·rw[Vf hy0];have hes:es=[]:=Vl (by omega);subst hes;refine⟨_,_,rfl,?_,rfl,eY.aC _ _⟩;simp only[e_];exact .inr (.inl ⟨t,true,rfl,rfl⟩)
  ·rw[Ve hy0,Vf Vp];obtain⟨a,b⟩:=fresh h es ys (hF _ hx.1) hy';exact⟨_,_,rfl,by simpa [gR] using a,b,eY.aE _ _ _⟩
 ·obtain⟨row',g',hrow',hcn,hcs⟩:=hc;rw[hrow]at hrow';obtain⟨rfl,rfl⟩:row=row'/\g=g':=by simpa using hrow'
  have hnlt:=(U_.1 hrow).1;have hrow1:h[n]?=some (some (.aA sz row g)):=hx.aA hrow;have hnlt1:=(U_.1 hrow1).1;have hd1:fP ds (λm=>F m/\m≠n) h ((row.drop off).take ds.length):=fP.aA ds (λm hm=>hm) (hx.aF _) _ hd;have hy1:fP es (λm=>F m/\m≠n) h ys:=fP.aA es (λm hm=>⟨hF _ hm,by omega⟩) (λ_ _ _ x=>x) _ hy;have both:fP (ds++es) F h ((row.drop off).take ds.length++ys):=fP.aA _ (λm hm=>hm.1) (λ_ _ _ x=>x) _ (oG hd1 hy1);simp only[iL,hrow1];rw[Vf ⟨Vp,Vp,hle,by rw[hyl];exact hb⟩];cases cap with
  | none=>
   obtain rfl:=hcn rfl;simp only[V3];have both':fP (ds++es) F (h.set n none) (row.take ds.length++ys):=by have:=oG hd1 hy1;rw[Wf]at this;exact fP.aA _ (λm hm=>hm.1) (λm hm x hx=>by rw[Vb (λe=>hm.2 e.symm)];exact hx) _ this
   obtain⟨a,b⟩:=fresh (h.set n none) (ds++es) (row.take ds.length++ys) (by rw[Vh];exact hF _ hx.1) both';exact⟨_,_,rfl,a,b,(eY.aG none (λ_=>hn)).aB (eY.aE F _ _) (λ_ _ x=>x) (λ_ _ x=>x)⟩
  | some c=>
   have hc1:=hcl c rfl;have hc2:=hcs c rfl;cases c with
   | zero=>
    have h0:ds.length=0:=by omega
    have hds:ds=[]:=Vl h0;subst hds;simp only[VN,V3];by_cases hy0:ys.length=0;·rw[Vf hy0];have hes:es=[]:=Vl (by omega);subst hes;refine⟨_,_,rfl,?_,⟨row,g,hrow1,(λe=>by cases e),(λc hc=>by cases hc;omega)⟩,eY.aC _ _⟩;simp only[e_];exact .inr (.inr ⟨n,off,some 0,row,g,rfl,hn,hrow1,by simpa using hle,(λc hc=>by cases hc;simp),by simp[fP]⟩)
    ·rw[Ve hy0];have hy2:fP es F h ys:=fP.aA es (λm hm=>hm.1) (λ_ _ _ x=>x) _ hy1;obtain⟨a,b⟩:=fresh h es ys (hF _ hx.1) hy2;exact⟨_,_,rfl,by simpa [gR] using a,b,eY.aE _ _ _⟩
   | succ c=>
    simp only;by_cases hcap:c+1<ds.length+ys.length;·rw[Vf hcap];obtain⟨a,b⟩:=fresh h (ds++es) _ (hF _ hx.1) both;exact⟨_,_,rfl,a,b,eY.aE _ _ _⟩
    ·rw[Ve hcap,Vf (by omega)];have hsl:(gY row (off+ds.length) ys).length=row.length:=by simp[gY];omega
     refine⟨_,_,rfl,?_,⟨_,g,by rw[Vd hnlt1],(λe=>by cases e),(λc' hc'=>by cases hc';rw[hsl];exact hc2)⟩,eY.aG _ (λ_=>hn)⟩;simp only[e_];refine .inr (.inr ⟨n,off,some (c+1),gY row (off+ds.length) ys,g,by rw[Vj,hyl],hn,by rw[Vd hnlt1],by rw[hsl,Vj];omega,
      (λc' hc'=>by cases hc';rw[Vj];omega),?_⟩)
     have e:((gY row (off+ds.length) ys).drop off).take (ds++es).length=(row.drop off).take ds.length++ys:=by
      apply VT;intro i;simp only[V_,Vz,Vj,gY,Wb,Vw,Vj,VA];rw[show min (off+ds.length) row.length=off+ds.length by omega,show min ds.length (row.length-off)=ds.length by omega];by_cases h1:i<ds.length;·rw[Vf (by omega),Vf (by omega),Vf (by omega),Vf (by omega),Vf h1];simp[h1]
      ·by_cases h2:i<ds.length+es.length
       ·rw[Vf h2,Vf (by omega),Ve (by omega),Ve h1];congr 1;omega
       ·rw[Ve h2,Ve h1,VJ (by omega)]
     rw[e];refine fP.aA _ (λm hm=>hm) ?_ _ (oG hd1 hy1);intro m hm x hx;rw[Vb (λe=>hm.2 e.symm)];exact hx
def il (v:Int)(k:Nat):Int:=IntKind.u8.wrap ((IntKind.u64.wrap v).fdiv (2^(8*(7-k))))
def ij (v:Int):List Int:=[il v 0,il v 1,il v 2,il v 3,il v 4,il v 5,il v 6,il v 7]
theorem jy (v:Int):(ij v).length=8:=rfl
theorem xr (v:Int)(j:Nat)(hj:j<8):(ij v)[j]?=some (il v j):=by
 match j,hj with
 | 0,_=>rfl
 | 1,_=>rfl
 | 2,_=>rfl
 | 3,_=>rfl
 | 4,_=>rfl
 | 5,_=>rfl
 | 6,_=>rfl
 | 7,_=>rfl
theorem pX {α:Type}{l:List α}{j:Nat}{x:α} (h:l[j]?=some x):l.take (j+1)=l.take j++[x]:=by rw[List.take_add_one,h];rfl
def yA (P:Program)(f:FuncId):Prop:=
 fI P f=true/\∀(lo:Nat)(h:eZ)(l:List Int)(b:AV)(v:Int),e_ (fT l) (λm=>lo<=m) h b->gq h b->lo<=h.length->l.length<=2^45->
  fy P f [b,.aA .i64 v] h λr h'=>e_ (fT (l++ij v)) (λm=>lo<=m) h' r/\gq h' r/\eY (λm=>lo<=m) h h'
theorem Tt (a b:Int):iQ .shr (.aA .u64 a) (.aA .i64 b)=uB .shr .u64 a b:=Vn rfl rfl
theorem HB {P:Program}{f:FuncId}(hf:Is P f Bh):yA P f:=by
 refine⟨hf.2,λlo h l b v hb hc E hl=>fN hf ?_⟩;simp only[Bh,go_sem];refine gJ (λm L h'=>∃(j:Nat)(o:AV),lk 0 L=o/\lk 1 L=.aA .i64 v/\lk 5 L=.aA .i64 (7-(j:Int))/\j<=8/\m=8-j /\
  e_ (fT (l++(ij v).take j)) (λm=>lo<=m) h' o/\gq h' o/\eY (λm=>lo<=m) h h') 8 ?_ ?_
 ·exact⟨0,b,by simp[fi,ga],by simp[fi,ga],by simp[fi],by omega,by omega,by simpa using hb,hc,eY.aC _ _⟩
 ·rintro m L h' ⟨j,o,h0,h1,h5,hj,rfl,ho,t,he⟩;simp only[Ge,go_sem,h5];refine gx (λci=>?_) (λci=>?_)
  ·simp at ci;have e1:IntKind.i64.wrap (8*(7-(j:Int)))=((8*(7-j):Nat):Int):=by rw[fQ (by omega)];omega
   have e2:IntKind.i64.wrap (7-(j:Int)-1)=7-((j+1:Nat):Int):=by rw[fQ (by omega)];omega
   have e3:uB .shr .u64 (IntKind.u64.wrap v) ((8*(7-j):Nat):Int)=some (.aA .u64 ((IntKind.u64.wrap v).fdiv (2^(8*(7-j))))):=by simp only[uB];rw[Ve (by omega),V6,WW (by simp[IntKind.bits];omega)]
   have e4:IntKind.u8.wrap ((IntKind.u64.wrap v).fdiv (2^(8*(7-j))))=il v j:=rfl;have I:(l++(ij v).take j).length=l.length+j:=by simp[jy];omega
   obtain⟨o',h2,ha,u,O,M⟩:=jr (bytes:=1) (es:=[[.aA .u8 (il v j)]]) (h:=h'++[some (.aA 1 [[.aA .u8 (il v j)]] false)]) ho t (eY.aE _ _ _) (ys:=[[.aA .u8 (il v j)]])
    (by simp[fP,fW,e_]) (Vr E he.1) (by rw[Vo,I];simp;omega)
   simp only[go_sem,reduceEqDiff,reduceAdd,h0,h1,h5,e1,e2,Tt,e3,e4,wE,ic (jn h' 1 [[.aA .u8 (il v j)]] false (some 1) (len:=1) rfl),ha];refine⟨_,?_,j+1,o',rfl,rfl,by omega,rfl,?_,O,?_⟩;·omega
   ·rw[pX (xr v j (by omega)),<-VX,fT,VI];exact u
   ·exact (he.aB (eY.aE fj h' _) (λ_ _ x=>x) (λ_ _ x=>x.elim)).aB M (λ_ _ x=>x) (λm hm C=>C)
  ·simp at ci;simp only[go_sem,h0];obtain rfl:j=8:=by omega
   exact⟨ho,t,he⟩
def wH (h:eZ)(sz bytes:Nat)(zero:List AV):AV->AV->Option (AV×eZ)
 | .aA _ l,.aA _ c=>if 0<=l/\l<=c/\c*bytes<=2^46 then some (.aF h.length sz 0 l.toNat (some c.toNat),h++[some (.aA sz (List.replicate c.toNat zero) false)]) else none
 | _,_=>none
theorem CD (g:fJ->AV)(h:eZ)(sz bytes:Nat)(zero:List AV)(l c:fJ):jE g h (.aC sz bytes zero l c)=wH h sz bytes zero (g l) (g c):=by
 simp only[jE,iW,wH];generalize g l=x;generalize g c=y;cases x<;>cases y<;>simp only;rename_i k l k' c;by_cases q:0<=l/\l<=c/\c*(bytes:Int)<=2^46;·rw[Vf q,Vf q]
 ·rw[Ve q,Ve q]
theorem yX {h:eZ}{sz bytes:Nat}{zero:List AV}{k k':IntKind}{l c:Int}(h0:0<=l)(h1:l<=c)(h2:c*bytes<=2^46):
  wH h sz bytes zero (.aA k l) (.aA k' c)=some (.aF h.length sz 0 l.toNat (some c.toNat),h++[some (.aA sz (List.replicate c.toNat zero) false)]):=by
 simp only[wH];rw[Vf ⟨h0,h1,h2⟩]
theorem Qu {sz:Nat}(h:eZ)(c:Nat)(zero:List AV):e_ (.sl sz []) (λm=>h.length<=m) (h++[some (.aA sz (List.replicate c zero) false)]) (.aF h.length sz 0 0 (some c)) /\
  gq (h++[some (.aA sz (List.replicate c zero) false)]) (.aF h.length sz 0 0 (some c)):=by
 constructor;·simp only[e_];exact .inr (.inr ⟨h.length,0,some c,List.replicate c zero,false,rfl,Vg _,gh _ _,by simp,(λd hd=>by cases hd;simp),by simp[fP]⟩)
 ·exact⟨_,false,gh _ _,(λhc=>by cases hc),(λd hd=>by cases hd;simp)⟩
theorem uJ {n:IntKind}{F G:Nat->Prop}{h h':eZ}:∀{l:List Int} {ys:List (List AV)},gC F h (l.map λx=>[.aA n x]) ys->fP (l.map λx=>[.aA n x]) G h' ys:=by
 intro l;induction l with
 | nil=>intro ys hh;simpa [gC,fP] using hh
 | cons x l ih=>intro ys hh;simp only[VS,gC]at hh;obtain⟨e,r,rfl,h1,h2⟩:=hh;simp only[fu,Rd]at h1;obtain⟨_,_,rfl,rfl,rfl⟩:=h1;simp only[VS,fP];exact⟨_,_,rfl,⟨_,_,rfl,by simp only[e_],rfl⟩,ih h2⟩
def yO (P:Program)(f:FuncId):Prop:=
 fI P f=true/\∀(F:Nat->Prop)(h:eZ)(l:List Int)(b:AV)(n:Int),Rd F h (fT l) b->l.length<=2^42->0<=n/\n<=2^42->
  fy P f [b,.aA .i64 n] h λr h'=>e_ (fT l) (λm=>h.length<=m) h' r/\gq h' r/\eY fj h h'
theorem It {P:Program}{f:FuncId}(hf:Is P f Bi):yO P f:=by refine⟨hf.2,λF h l b n hb hl hn=>fN hf ?_⟩;have lb:=hb.aB;simp only[Vo]at lb;have e1:IntKind.i64.wrap ((l.length:Int)+n)=(l.length:Int)+n:=fQ (by omega);have hm:=yX (h:=h) (sz:=1) (bytes:=1) (zero:=[.aA .u8 0]) (k:=.i64) (k':=.i64) (l:=0) (c:=(l.length:Int)+n) (Wm 0) (by omega) (by omega);have oe:=Qu (sz:=1) h ((l.length:Int)+n).toNat [.aA .u8 0];obtain⟨ys,u,C⟩:=(hb.up (eY.b1 (some (.aA 1 (List.replicate ((l.length:Int)+n).toNat [.aA .u8 0]) false)))).aK;obtain⟨r,h2,ha,hr,hc,he⟩:=jr (bytes:=1) oe.1 oe.2 (eY.aC fj _) (uJ C) (by simp) (by simp;omega);have t:=ic u 1 (.aF h.length 1 0 0 (some ((l.length:Int)+n).toNat));rw[ha]at t;simp only[Bi,go_sem,lb,e1,CD,hm,W_,t];exact⟨hr,hc,(eY.b1 _).aI he (λm hm hm'=>by omega)⟩
def qY (P:Program)(f:FuncId):Prop:=
 fI P f=true/\∀(F:Nat->Prop)(h:eZ)(l p:List Int)(b a:AV),Rd F h (fT l) b->Rd F h (fT p) a->l.length<=2^41->p.length<=2^41->
  fy P f [b,a] h λr h'=>e_ (fT (l++ij p.length++p)) (λm=>h.length<=m) h' r/\gq h' r/\eY fj h h'
theorem QA {P:Program}{f fr fn:FuncId}(hf:Is P f (Ba fr fn))(hr:yO P fr)(hn:yA P fn):qY P f:=by refine⟨hf.2,λF h l p b a hb ha hl hp=>fN hf ?_⟩;have la:=ha.aB;simp only[Vo]at la;have e1:IntKind.i64.wrap (8+(p.length:Int))=8+(p.length:Int):=fQ (by omega);simp only[Ba,go_sem,la,e1];refine fq ⟨hr.1,hr.2 F _ l _ _ hb (by omega) (by omega)⟩ ?_;rintro r h1 ⟨ro,rc,x1⟩;simp only[go_sem,la];refine fq ⟨hn.1,hn.2 h.length _ l _ _ ro rc x1.1 (by omega)⟩ ?_;rintro s h2 ⟨so,sc,x2⟩;have u:=x1.aI x2 (λm hm M=>by omega);obtain⟨ys,E,I⟩:=(ha.up u).aK;obtain⟨t,h3,ht,to,tc,x3⟩:=jr (bytes:=1) so sc (eY.aC fj _) (uJ I) u.1 (by simp[jy];omega);have C:=ic E 1 s;rw[ht]at C;simp only[go_sem,C];refine⟨?_,tc,u.aI x3 (λm hm M=>by omega)⟩;rw[fT,VI];exact to
def jF:List Int->List Int
 | []=>[]
 | x :: r=>ij x++jF r
theorem CU:∀(a b:List Int),jF (a++b)=jF a++jF b
 | [],b=>rfl
 | x :: r,b=>by simp only[List.cons_append,jF,CU r b,VX]
theorem ny:∀(a:List Int),(jF a).length=8*a.length
 | []=>rfl
 | x :: r=>by simp only[jF,Vj,jy,ny r,VD];omega
def vS (P:Program)(f:FuncId):Prop:=
 fI P f=true/\∀(F:Nat->Prop)(h:eZ)(l p:List Int)(b a:AV),Rd F h (fT l) b->Rd F h (fK p) a->l.length<=2^38->p.length<=2^38->
  fy P f [b,a] h λr h'=>e_ (fT (l++ij p.length++jF p)) (λm=>h.length<=m) h' r/\gq h' r/\eY fj h h'
theorem QD {P:Program}{f fr fn:FuncId}(hf:Is P f (Bb fr fn))(hr:yO P fr)(hn:yA P fn):vS P f:=by
 refine⟨hf.2,λF h l p b a hb ha hl hp=>fN hf ?_⟩;have la:=ha.aB;simp only[Vo]at la;have e0:IntKind.i64.wrap (8*(p.length:Int))=8*(p.length:Int):=fQ (by omega);have e1:IntKind.i64.wrap (8+8*(p.length:Int))=8+8*(p.length:Int):=fQ (by omega);simp only[Bb,go_sem,la,e0,e1];refine fq ⟨hr.1,hr.2 F _ l _ _ hb (by omega) (by omega)⟩ ?_;rintro r h1 ⟨ro,rc,x1⟩;simp only[go_sem,la];refine fq ⟨hn.1,hn.2 h.length _ l _ _ ro rc x1.1 (by omega)⟩ ?_;rintro s h2 ⟨so,sc,x2⟩;have M:=x1.aI x2 (λm hm U=>by omega);simp only[go_sem,la];refine gJ (λm L h'=>∃(i:Nat)(o:AV),lk 17 L=a/\lk 18 L=.aA .i64 p.length/\lk 5 L=o/\lk 19 L=.aA .i64 i/\i<=p.length/\m=p.length-i /\
  e_ (fT (l++ij p.length++jF (p.take i))) (λm=>h.length<=m) h' o/\gq h' o/\eY fj h h') p.length ?_ ?_
 ·exact⟨0,s,by simp[fi],by simp[fi],by simp[fi],by simp[fi],by omega,by omega,by simpa [jF] using so,sc,M⟩
 ·rintro m L h' ⟨i,o,I,E,h5,t,hi,rfl,ho,hc,he⟩;simp only[Ga,go_sem,E,t];refine gx (λci=>?_) (λci=>?_)
  ·simp at ci;obtain⟨q,cs,hq,O,C⟩:=(ha.up he).aD .i64 (i:=i) (d:=[.aA .i64 p[i]]) (by omega) (by simp[ci]);simp only[fu,Rd]at C;obtain⟨_,_,rfl,rfl,rfl⟩:=C;have e2:IntKind.i64.wrap ((i:Int)+1)=(i:Int)+1:=fQ (by omega);simp only[go_sem,I,h5,t,hq,hP O];refine fq ⟨hn.1,hn.2 h.length _ (l++ij p.length++jF (p.take i)) _ p[i] ho hc he.1 (by simp[jy,ny];omega)⟩ ?_;rintro u h3 ⟨uo,uc,x3⟩;simp only[go_sem,I,E,h5,t,e2];refine⟨_,?_,i+1,u,rfl,rfl,ci,rfl,?_,uc,he.aI x3 (λm hm U=>by omega)⟩;·omega
   ·rw[pX (x:=p[i]) (by simp[ci]),CU];simpa [jF] using uo
  ·simp at ci;simp only[go_sem,h5];obtain rfl:i=p.length:=by omega
   rw[VH]at ho;exact⟨ho,hc,he⟩
theorem IX (x:Int):IntKind.u8.wrap x=x % 256:=by simp[IntKind.wrap,IntKind.bits,IntKind.signed]
theorem om (x:Int):IntKind.u64.wrap x=x % 18446744073709551616:=by simp[IntKind.wrap,IntKind.bits,IntKind.signed]
theorem E_ (v:Int)(k:Nat)(hk:k<=7):il v (7-k)=(IntKind.u64.wrap v / 256^k) % 256:=by rw[il,IX,Int.fdiv_eq_ediv_of_nonneg _ (Int.le_of_lt (Int.pow_pos (by decide))),show 7-(7-k)=k by omega,Int.pow_mul];rfl
def uG (v:Int):List Int:=[il v 7,il v 6,il v 5,il v 4,il v 3,il v 2,il v 1,il v 0]
theorem Ho (v:Int)(j:Nat)(hj:j<=7):(uG v)[j]?=some (il v (7-j)):=by
 match j,hj with
 | 0,_=>rfl
 | 1,_=>rfl
 | 2,_=>rfl
 | 3,_=>rfl
 | 4,_=>rfl
 | 5,_=>rfl
 | 6,_=>rfl
 | 7,_=>rfl
theorem PK (v:Int):(uG v).length=8:=rfl
theorem Ro (a b:Int):iQ .rem (.aA .u64 a) (.aA .u64 b)=if b=0 then none else some (.aA .u64 (a.tmod b)):=Vn rfl rfl
theorem QP (a b:Int):iQ .quo (.aA .u64 a) (.aA .u64 b)=if b=0 then none else some (.aA .u64 (IntKind.u64.wrap (a.tdiv b))):=Vn rfl rfl
theorem PJ (v:Int)(k:Nat)(hk:k<=7):IntKind.u8.wrap ((IntKind.u64.wrap v / 256^k).tmod 256)=il v (7-k) /\
  IntKind.u64.wrap ((IntKind.u64.wrap v / 256^k).tdiv 256)=IntKind.u64.wrap v / 256^(k+1):=by
 have h0:0<=IntKind.u64.wrap v:=by rw[om];omega
 have h1:IntKind.u64.wrap v<18446744073709551616:=by rw[om];omega
 have hp:(0:Int)<256^k:=Int.pow_pos (by decide);generalize hu:IntKind.u64.wrap v=u at *;have h2:0<=u / 256^k:=Int.ediv_nonneg h0 (Int.le_of_lt hp);have h3:u / 256^k<=u:=Int.ediv_le_self _ h0;constructor;·rw[E_ v k hk,hu,IX,WJ h2];omega
 ·rw[Int.tdiv_eq_ediv_of_nonneg h2,om,Int.pow_succ,<-Int.ediv_ediv_of_nonneg (Int.le_of_lt hp)];omega
def vP (P:Program)(f:FuncId):Prop:=
 fI P f=true/\∀(F:Nat->Prop)(h:eZ)(l:List Int)(b:AV)(v:Int),Rd F h (fT l) b->l.length<=2^42->
  fy P f [b,.aA .i64 v] h λr h'=>e_ (fT (l++ij v)) (λm=>h.length<=m) h' r/\gq h' r/\eY fj h h'
theorem N6 {P:Program}{f:FuncId}(hf:Is P f zU):vP P f:=by
 refine⟨hf.2,λF h l b v hb hl=>fN hf ?_⟩;have lb:=hb.aB;simp only[Vo]at lb;have a1:∀{x:Option AV},(if (256:Int)=0 then none else x)=x:=fun {x}=>Ve (by decide);simp only[zU,go_sem,wE];refine gJ (λm L h'=>∃(k:Nat)(o:AV),lk 0 L=b/\lk 5 L=o/\lk 6 L=.aA .u64 (IntKind.u64.wrap v / 256^k)/\lk 7 L=.aA .i64 k/\k<=8/\m=8-k /\
  e_ (fT ((uG v).take k)) (λm=>h.length<=m) h' o/\gq h' o/\eY fj h h') 8 ?_ ?_
 ·exact⟨0,.aB,by simp[fi,ga],by simp[fi],by simp[fi],by simp[fi],by omega,by omega,e_.aC 1,Vp,eY.aC _ _⟩
 ·rintro m L h' ⟨k,o,h0,h5,h6,h7,hk,rfl,ho,hc,he⟩;simp only[FA,go_sem,h7];refine gx (λci=>?_) (λci=>?_)
  ·simp at ci;have st:=PJ v k (by omega);have e1:IntKind.i64.wrap ((k:Int)+1)=(k:Int)+1:=fQ (by omega);obtain⟨o',h2,ha,u,a0,I⟩:=jr (bytes:=1) (es:=[[.aA .u8 (il v (7-k))]]) (h:=h'++[some (.aA 1 [[.aA .u8 (il v (7-k))]] false)]) ho hc (eY.aE _ _ _) (ys:=[[.aA .u8 (il v (7-k))]])
    (by simp[fP,fW,e_]) he.1 (by rw[Vo,Vw,PK];simp;omega)
   simp only[go_sem,reduceEqDiff,reduceAdd,h0,h5,h6,h7,e1,Ro,QP,a1,st.1,st.2,wE,ic (jn h' 1 [[.aA .u8 (il v (7-k))]] false (some 1) (len:=1) rfl),ha];refine⟨_,?_,k+1,o',rfl,rfl,rfl,by omega,rfl,?_,a0,?_⟩;·omega
   ·rw[pX (Ho v k (by omega)),fT,VI];exact u
   ·exact (he.aB (eY.aE fj h' _) (λ_ _ x=>x) (λ_ _ x=>x)).aB I (λ_ _ x=>x) (λm hm O=>by omega)
  ·simp at ci;obtain rfl:k=8:=by omega
   have a4:e_ (fT (uG v)) (λm=>m<h'.length) h' o:=e_.aB _ (λm hm=>hm.2) (λ_ _ _ x=>x) _ (e_.lt _ _ ho);simp only[go_sem];refine gJ (λm L h2=>∃(i:Nat)(o2:AV),lk 0 L=b/\lk 5 L=o/\lk 8 L=o2/\lk 9 L=.aA .i64 i/\i<=l.length/\m=l.length-i /\
    e_ (fT (l.take i)) (λm=>h'.length<=m) h2 o2/\gq h2 o2/\eY fj h' h2) l.length ?_ ?_
   ·exact⟨0,.aB,by simp[fi,h0],by simp[fi,h5],by simp[fi],by simp[fi],by omega,by omega,e_.aC 1,Vp,eY.aC _ _⟩
   ·rintro m L h2 ⟨i,o2,h0,h5,h8,h9,hi,rfl,a3,a0,t⟩;simp only[FB,go_sem,h0,h9,lb];refine gx (λci=>?_) (λci=>?_)
    ·simp at ci;have e1:IntKind.i64.wrap ((i:Int)+1)=(i:Int)+1:=fQ (by omega);obtain⟨q,cs,hq,a2,M⟩:=(hb.up (he.tr t)).aD .i64 (i:=i) (d:=[.aA .u8 l[i]]) (by omega) (by simp[ci]);simp only[fu,Rd]at M;obtain⟨_,_,rfl,rfl,rfl⟩:=M;obtain⟨o',h3,ha,u,W,I⟩:=jr (bytes:=1) (es:=[[.aA .u8 l[i]]]) (h:=h2++[some (.aA 1 [[.aA .u8 l[i]]] false)]) a3 a0 (eY.aE _ _ _) (ys:=[[.aA .u8 l[i]]])
      (by simp[fP,fW,e_]) t.1 (by rw[Vo,Vw];simp;omega)
     simp only[go_sem,reduceEqDiff,reduceAdd,h0,h5,h8,h9,e1,hq,hP a2,ic (jn h2 1 [[.aA .u8 l[i]]] false (some 1) (len:=1) rfl),ha];refine⟨_,?_,i+1,o',rfl,rfl,ci,rfl,?_,W,?_⟩;·omega
     ·rw[pX (x:=l[i]) (by simp[ci]),fT,VI];exact u
     ·exact (t.aB (eY.aE fj h2 _) (λ_ _ x=>x) (λ_ _ x=>x)).aB I (λ_ _ x=>x) (λm hm O=>by omega)
    ·simp at ci;obtain rfl:i=l.length:=by omega
     rw[VH]at a3;have E:=a4.up t;simp only[go_sem];refine gJ (λm L h3=>∃(j:Nat)(o3:AV),lk 5 L=o/\lk 8 L=o3/\lk 10 L=.aA .i64 (7-(j:Int))/\j<=8/\m=8-j /\
      e_ (fT (l++(ij v).take j)) (λm=>h'.length<=m) h3 o3/\gq h3 o3/\eY (λm=>h'.length<=m) h2 h3) 8 ?_ ?_
     ·exact⟨0,o2,by simp[fi,h5],by simp[fi,h8],by simp[fi],by omega,by omega,by simpa using a3,a0,eY.aC _ _⟩
     ·rintro m L h3 ⟨j,o3,h5,h8,a6,hj,rfl,a5,W,U⟩;simp only[FC,go_sem,a6];refine gx (λci=>?_) (λci=>?_)
      ·simp at ci;have e1:IntKind.i64.wrap (7-(j:Int)-1)=7-((j+1:Nat):Int):=by rw[fQ (by omega)];omega
       have C:e_ (fT (uG v)) (λm=>m<h'.length) h3 o:=E.aB _ (λ_ x=>x) (U.aM (λm _ hm hn=>by omega));obtain⟨q,cs,hq,a2,M⟩:=(e_.rd _ (λ_ x=>x) _ C).aD .i64 (i:=7-(j:Int)) (d:=[.aA .u8 (il v j)]) (by omega)
        (by rw[VE,Ho v (7-(j:Int)).toNat (by omega),show 7-(7-(j:Int)).toNat=j by omega];rfl)
       simp only[fu,Rd]at M;obtain⟨_,_,rfl,rfl,rfl⟩:=M;obtain⟨o',h4,ha,u,a7,I⟩:=jr (bytes:=1) (es:=[[.aA .u8 (il v j)]]) (h:=h3++[some (.aA 1 [[.aA .u8 (il v j)]] false)]) a5 W (eY.aE _ _ _) (ys:=[[.aA .u8 (il v j)]])
        (by simp[fP,fW,e_]) (Vr t.1 U.1) (by rw[Vo,Vj,Vw,jy];simp;omega)
       simp only[go_sem,reduceEqDiff,reduceAdd,h5,h8,a6,e1,hq,hP a2,ic (jn h3 1 [[.aA .u8 (il v j)]] false (some 1) (len:=1) rfl),ha];refine⟨_,?_,j+1,o',rfl,rfl,by omega,rfl,?_,a7,?_⟩;·omega
       ·rw[pX (xr v j (by omega)),<-VX,fT,VI];exact u
       ·exact (U.aB (eY.aE fj h3 _) (λ_ _ x=>x) (λ_ _ x=>x.elim)).aB I (λ_ _ x=>x) (λm hm O=>O)
      ·simp at ci;obtain rfl:j=8:=by omega
       simp only[go_sem,h8];exact⟨e_.aB _ (λm hm=>Vr he.1 hm) (λ_ _ _ x=>x) _ a5,W,(he.tr t).aI U (λm hm O=>by have:=he.1;omega)⟩
theorem N5 {P:Program}{f g:FuncId}(hf:Is P f (zT g))(hg:vP P g):qY P f:=by
 refine⟨hf.2,λF h l p b a hb ha hl hp=>fN hf ?_⟩;have la:=ha.aB;simp only[Vo]at la;simp only[zT,go_sem,la];refine fq ⟨hg.1,hg.2 F _ l _ _ hb (by omega)⟩ ?_;rintro r h1 ⟨ro,rc,x1⟩;simp only[go_sem];refine gJ (λm L h'=>∃(i:Nat)(o:AV),lk 1 L=a/\lk 5 L=o/\lk 6 L=.aA .i64 i/\i<=p.length/\m=p.length-i /\
  e_ (fT (l++ij p.length++p.take i)) (λm=>h.length<=m) h' o/\gq h' o/\eY fj h h') p.length ?_ ?_
 ·exact⟨0,r,by simp[fi,ga],by simp[fi],by simp[fi],by omega,by omega,by simpa using ro,rc,x1⟩
 ·rintro m L h' ⟨i,o,h1,h5,h6,hi,rfl,ho,hc,he⟩;simp only[Fy,go_sem,h1,h6,la];refine gx (λci=>?_) (λci=>?_)
  ·simp at ci;have e1:IntKind.i64.wrap ((i:Int)+1)=(i:Int)+1:=fQ (by omega);obtain⟨q,cs,hq,u,t⟩:=(ha.up he).aD .i64 (i:=i) (d:=[.aA .u8 p[i]]) (by omega) (by simp[ci]);simp only[fu,Rd]at t;obtain⟨_,_,rfl,rfl,rfl⟩:=t;obtain⟨o',h3,M,C,I,E⟩:=jr (bytes:=1) (es:=[[.aA .u8 p[i]]]) (h:=h'++[some (.aA 1 [[.aA .u8 p[i]]] false)]) ho hc (eY.aE _ _ _) (ys:=[[.aA .u8 p[i]]])
    (by simp[fP,fW,e_]) he.1 (by simp[jy];omega)
   simp only[go_sem,reduceEqDiff,reduceAdd,h1,h5,h6,e1,hq,hP u,ic (jn h' 1 [[.aA .u8 p[i]]] false (some 1) (len:=1) rfl),M];refine⟨_,?_,i+1,o',rfl,rfl,ci,rfl,?_,I,?_⟩;·omega
   ·rw[pX (x:=p[i]) (by simp[ci]),<-VX,fT,VI];exact C
   ·exact (he.aB (eY.aE fj h' _) (λ_ _ x=>x) (λ_ _ x=>x)).aB E (λ_ _ x=>x) (λm hm hm'=>by omega)
  ·simp at ci;simp only[go_sem,h5];obtain rfl:i=p.length:=by omega
   rw[VH]at ho;exact⟨ho,hc,he⟩
theorem N8 {P:Program}{f g:FuncId}(hf:Is P f (zV g))(hg:vP P g):vS P f:=by
 refine⟨hf.2,λF h l p b a hb ha hl hp=>fN hf ?_⟩;have la:=ha.aB;simp only[Vo]at la;simp only[zV,go_sem,la];refine fq ⟨hg.1,hg.2 F _ l _ _ hb (by omega)⟩ ?_;rintro r h1 ⟨ro,rc,x1⟩;simp only[go_sem];refine gJ (λm L h'=>∃(i:Nat)(o:AV),lk 1 L=a/\lk 5 L=o/\lk 6 L=.aA .i64 i/\i<=p.length/\m=p.length-i /\
  e_ (fT (l++ij p.length++jF (p.take i))) (λm=>h.length<=m) h' o/\gq h' o/\eY fj h h') p.length ?_ ?_
 ·exact⟨0,r,by simp[fi,ga],by simp[fi],by simp[fi],by omega,by omega,by simpa [jF] using ro,rc,x1⟩
 ·rintro m L h' ⟨i,o,h1,h5,h6,hi,rfl,ho,hc,he⟩;simp only[FE,go_sem,h1,h6,la];refine gx (λci=>?_) (λci=>?_)
  ·simp at ci;have e1:IntKind.i64.wrap ((i:Int)+1)=(i:Int)+1:=fQ (by omega);obtain⟨q,cs,hq,a0,M⟩:=(ha.up he).aD .i64 (i:=i) (d:=[.aA .i64 p[i]]) (by omega) (by simp[ci]);simp only[fu,Rd]at M;obtain⟨_,_,rfl,rfl,rfl⟩:=M;simp only[go_sem,h1,h6,hq,hP a0];refine fq ⟨hg.1,hg.2 fj _ [] _ p[i] (Rd.aJ 1) (by simp)⟩ ?_;rintro s h2 ⟨so,sc,x2⟩;rw[Xd]at so;have W:e_ (fT (ij p[i])) (λm=>h'.length<=m) h2 s:=so;have a2:e_ (fT (l++ij p.length++jF (p.take i))) (λm=>h.length<=m/\m<h'.length) h2 o:=(e_.lt _ _ ho).up x2;simp only[go_sem];have U:=e_.lt _ _ W;refine gJ (λm L h4=>∃(k:Nat)(o4:AV),lk 1 L=a/\lk 6 L=.aA .i64 i/\lk 7 L=s/\lk 5 L=o4/\lk 8 L=.aA .i64 k/\k<=8/\m=8-k /\
    e_ (fT (l++ij p.length++jF (p.take i)++(ij p[i]).take k)) (λm=>(h.length<=m/\m<h'.length)\/h2.length<=m) h4 o4/\gq h4 o4/\eY (λm=>(h.length<=m/\m<h'.length)\/h2.length<=m) h2 h4) 8 ?_ ?_
   ·exact⟨0,o,by simp[fi,h1],by simp[fi,h6],by simp[fi],by simp[fi,h5],by simp[fi],by omega,by omega,
     by simpa using e_.aB _ (λm hm=>.inl hm) (λ_ _ _ x=>x) _ a2,hc.aA ho (x2.aF _),eY.aC _ _⟩
   ·rintro m L h4 ⟨k,o4,h1,h6,h7,h5,h8,hk,rfl,E,O,u⟩;simp only[FD,go_sem,h8];refine gx (λck=>?_) (λck=>?_)
    ·simp at ck;have e2:IntKind.i64.wrap ((k:Int)+1)=(k:Int)+1:=fQ (by omega);have s4:=U.aB (F':=λm=>h'.length<=m/\m<h2.length) _ (λ_ x=>x) (u.aM (λm _ hm hn=>by omega));obtain⟨q',cs',a1,C,t⟩:=(e_.rd _ (λ_ x=>x) _ s4).aD .i64 (i:=(k:Int)) (d:=[.aA .u8 (il p[i] k)]) (by omega) (by rw[VE,V6,xr p[i] k (by omega)];rfl);simp only[fu,Rd]at t;obtain⟨_,_,rfl,rfl,rfl⟩:=t;obtain⟨o',h5',a6,a3,a5,a4⟩:=sP (bytes:=1) (es:=[[.aA .u8 (il p[i] k)]]) (h:=h4++[some (.aA 1 [[.aA .u8 (il p[i] k)]] false)]) E O (eY.aE _ _ _) (ys:=[[.aA .u8 (il p[i] k)]])
      (by simp[fP,fW,e_]) (λm hm=>.inr (Vr u.1 hm)) (by simp[jy,ny];omega)
     simp only[go_sem,reduceEqDiff,reduceAdd,h1,h5,h6,h7,h8,e2,a1,hP C,ic (jn h4 1 [[.aA .u8 (il p[i] k)]] false (some 1) (len:=1) rfl),a6];refine⟨_,?_,k+1,o',rfl,rfl,by omega,rfl,?_,a5,?_⟩;·omega
     ·rw[pX (xr p[i] k (by omega)),<-VX,fT,VI];exact a3
     ·exact (u.aB (eY.aE fj h4 _) (λ_ _ x=>x) (λ_ _ x=>x.elim)).aB a4 (λ_ _ x=>x) (λm hm I=>I)
    ·simp at ck;obtain rfl:k=8:=by omega
     simp only[go_sem,h1,h5,h6,e1];refine⟨_,?_,i+1,o4,rfl,rfl,ci,rfl,?_,O,?_⟩;·omega
     ·rw[pX (x:=p[i]) (by simp[ci]),CU];have:=e_.aB (F':=λm=>h.length<=m) _ (λm hm=>by have:=he.1;have:=x2.1;omega) (λ_ _ _ x=>x) _ E;rw[show (ij p[i]).take 8=ij p[i] from rfl]at this;simpa [jF] using this
     ·exact (he.tr x2).aI u (λm hm I=>by have:=he.1;have:=x2.1;omega)
  ·simp at ci;simp only[go_sem,h5];obtain rfl:i=p.length:=by omega
   rw[VH]at ho;exact⟨ho,hc,he⟩
structure fG where
 aA:List Int
 aB:List Int
 aC:List Int
 deriving DecidableEq
def fG.c (x:fG):List D:=[fK x.aA,fK x.aB,fK x.aC]
def fG.aK (x:fG):List Int:=ij x.aA.length++jF x.aA++(ij x.aB.length++jF x.aB)++(ij x.aC.length++jF x.aC)
def rK (P:Program)(f:FuncId):Prop:=
 fI P f=true/\∀(F:Nat->Prop)(h:eZ)(l:List Int)(b:AV)(x:fG)(a:List AV),Rd F h (fT l) b->fu F h x.c a->l.length<=2^33->x.aA.length<=2^33->x.aB.length<=2^33->x.aC.length<=2^33->
  fy P f [b,.aE a] h λr h'=>e_ (fT (l++x.aK)) (λm=>h.length<=m) h' r/\gq h' r/\eY fj h h'
theorem OP {P:Program}{f g:FuncId}(hf:Is P f (A9 g))(hg:vS P g):rK P f:=by refine⟨hf.2,λF h l b x a hb ha hl h1 h2 h3=>fN hf ?_⟩;simp only[fG.c,fu]at ha;obtain⟨o,_,rfl,ho,n,_,rfl,hn,e,_,rfl,he,rfl⟩:=ha;simp only[A9,go_sem,ho.aA,hn.aA,he.aA];have A0:=gh h (some (.aA 3 [[o,n,e]] false));have M:=ho.up (eY.b1 (some (.aA 3 [[o,n,e]] false)));have O:=hn.up (eY.b1 (some (.aA 3 [[o,n,e]] false)));have U:=he.up (eY.b1 (some (.aA 3 [[o,n,e]] false)));have W:=hb.up (eY.b1 (some (.aA 3 [[o,n,e]] false)));refine fq ⟨hg.1,hg.2 F _ l x.aA _ _ W M (by omega) (by omega)⟩ ?_;rintro r1 g1 ⟨E,r1c,x1⟩;have A1:=x1.aA A0;simp only[go_sem,A1];refine fq ⟨hg.1,hg.2 (λ_=>True) _ _ x.aB _ _ (e_.rd _ (λ_ _=>Vp) _ E) (Rd.aC (λ_ _=>Vp) (gz.lt _ _) _ _ (O.up x1)) (by simp[jy,ny];omega) (by omega)⟩ ?_;rintro r2 g2 ⟨C,r2c,x2⟩;have A2:=x2.aA A1;simp only[go_sem,A2];refine fq ⟨hg.1,hg.2 (λ_=>True) _ _ x.aC _ _ (e_.rd _ (λ_ _=>Vp) _ C) (Rd.aC (λ_ _=>Vp) (gz.lt _ _) _ _ ((U.up x1).up x2)) (by simp[jy,ny];omega) (by omega)⟩ ?_;rintro r3 g3 ⟨t,u,x3⟩;simp only[go_sem,x3.aA A2];have xx:=(((eY.b1 _).tr x1).tr x2).tr x3;refine⟨?_,u,xx⟩;have I:=((eY.b1 _).tr x1).tr x2;have:=e_.aB (F':=λm=>h.length<=m) _ (λm hm=>Vr I.1 hm) (λ_ _ _ x=>x) _ t;simpa [fG.aK] using this
theorem Om {P:Program}{f g:FuncId}(hf:Is P f (As g))(hg:vS P g):rK P f:=by refine⟨hf.2,λF h l b x a hb ha hl h1 h2 h3=>fN hf ?_⟩;simp only[fG.c,fu]at ha;obtain⟨o,_,rfl,ho,n,_,rfl,hn,e,_,rfl,he,rfl⟩:=ha;simp only[As,go_sem,ho.aA,hn.aA,he.aA];have A0:=gh h (some (.aA 3 [[o,n,e]] false));have M:=ho.up (eY.b1 (some (.aA 3 [[o,n,e]] false)));have O:=hn.up (eY.b1 (some (.aA 3 [[o,n,e]] false)));have U:=he.up (eY.b1 (some (.aA 3 [[o,n,e]] false)));have W:=hb.up (eY.b1 (some (.aA 3 [[o,n,e]] false)));refine fq ⟨hg.1,hg.2 F _ l x.aA _ _ W M (by omega) (by omega)⟩ ?_;rintro r1 g1 ⟨E,r1c,x1⟩;have A1:=x1.aA A0;simp only[go_sem,A1];refine fq ⟨hg.1,hg.2 (λ_=>True) _ _ x.aB _ _ (e_.rd _ (λ_ _=>Vp) _ E) (Rd.aC (λ_ _=>Vp) (gz.lt _ _) _ _ (O.up x1)) (by simp[jy,ny];omega) (by omega)⟩ ?_;rintro r2 g2 ⟨C,r2c,x2⟩;have A2:=x2.aA A1;simp only[go_sem,A2];refine fq ⟨hg.1,hg.2 (λ_=>True) _ _ x.aC _ _ (e_.rd _ (λ_ _=>Vp) _ C) (Rd.aC (λ_ _=>Vp) (gz.lt _ _) _ _ ((U.up x1).up x2)) (by simp[jy,ny];omega) (by omega)⟩ ?_;rintro r3 g3 ⟨t,u,x3⟩;simp only[go_sem,x3.aA A2];have xx:=(((eY.b1 _).tr x1).tr x2).tr x3;refine⟨?_,u,xx⟩;have I:=((eY.b1 _).tr x1).tr x2;have:=e_.aB (F':=λm=>h.length<=m) _ (λm hm=>Vr I.1 hm) (λ_ _ _ x=>x) _ t;simpa [fG.aK] using this
def tx (P:Program)(f:FuncId):Prop:=
 fI P f=true/\∀(F:Nat->Prop)(h:eZ)(x:fG)(a:List AV),fu F h x.c a->x.aA.length<=2^33->x.aB.length<=2^33->x.aC.length<=2^33->
  fy P f [.aE a] h λr h'=>e_ (fT x.aK) (λm=>h.length<=m) h' r/\gq h' r/\eY fj h h'
theorem OO {P:Program}{f g:FuncId}(hf:Is P f (A8 g))(hg:rK P g):tx P f:=by refine⟨hf.2,λF h x a ha h1 h2 h3=>fN hf ?_⟩;have b:=ha;simp only[fG.c,fu]at ha;obtain⟨o,_,rfl,ho,n,_,rfl,hn,e,_,rfl,he,rfl⟩:=ha;simp only[A8,go_sem,ho.aA,hn.aA,he.aA];refine fq ⟨hg.1,hg.2 F _ [] _ x _ (Rd.aJ 1) (b.up (eY.b1 _)) (by simp) h1 h2 h3⟩ ?_;rintro r h2 ⟨ro,rc,x1⟩;simp only[go_sem];rw[Xd]at ro;exact⟨e_.aB _ (λm hm=>by simp at hm;omega) (λ_ _ _ x=>x) _ ro,rc,(eY.b1 _).tr x1⟩
theorem Ol {P:Program}{f g:FuncId}(hf:Is P f (Ao g))(hg:rK P g):tx P f:=by refine⟨hf.2,λF h x a ha h1 h2 h3=>fN hf ?_⟩;have b:=ha;simp only[fG.c,fu]at ha;obtain⟨o,_,rfl,ho,n,_,rfl,hn,e,_,rfl,he,rfl⟩:=ha;simp only[Ao,go_sem,ho.aA,hn.aA,he.aA];refine fq ⟨hg.1,hg.2 F _ [] _ x _ (Rd.aJ 1) (b.up (eY.b1 _)) (by simp) h1 h2 h3⟩ ?_;rintro r h2 ⟨ro,rc,x1⟩;simp only[go_sem];rw[Xd]at ro;exact⟨e_.aB _ (λm hm=>by simp at hm;omega) (λ_ _ _ x=>x) _ ro,rc,(eY.b1 _).tr x1⟩
theorem kx {x:fG}{F:Nat->Prop}{h:eZ}{a:List AV}(hh:fu F h x.c a):∃o n e,a=[o,n,e]/\Rd F h (fK x.aA) o/\Rd F h (fK x.aB) n/\Rd F h (fK x.aC) e:=by simp only[fG.c,fu]at hh;obtain⟨o,_,rfl,ho,n,_,rfl,hn,e,_,rfl,he,rfl⟩:=hh;exact⟨o,n,e,rfl,ho,hn,he⟩
def xX (P:Program)(f:FuncId):Prop:=
 fI P f=true/\∀(F:Nat->Prop)(h:eZ)(x:fG)(a:List AV)(items:Int),fu F h x.c a->
  fy P f [.aE a,.aA .i64 items] h λr h'=>∃b,r=.aD b/\h'=h/\(b=false->(x.aA.length:Int)<=items/\(x.aB.length:Int)<=items/\(x.aC.length:Int)<=items)
theorem I3 {P:Program}{f:FuncId}(hf:Is P f y9):xX P f:=by
 refine⟨hf.2,λF h x a items ha=>(fy.aC (K:=λr h'=>eY fj h h'/\∃b,r=.aD b/\(b=false->(x.aA.length:Int)<=items/\(x.aB.length:Int)<=items/\(x.aC.length:Int)<=items))
  (K':=λr=>∃b,r=.aD b/\(b=false->(x.aA.length:Int)<=items/\(x.aB.length:Int)<=items/\(x.aC.length:Int)<=items)) (fN hf ?_)
  (λr h' hk=>⟨hk.1,by obtain⟨b,rfl,_⟩:=hk.2;exact kD _ _,hk.2⟩)).aA λr h' hk=>let⟨b,h1,h2⟩:=hk.2;⟨b,h1,hk.1,h2⟩⟩
 obtain⟨o,n,e,rfl,ho,hn,he⟩:=kx ha;have lo:=ho.aB;have ln:=hn.aB;have le:=he.aB;simp only[Vo]at lo ln le;simp only[y9,go_sem,ho.aA,hn.aA,he.aA,lo];by_cases c1:items<(x.aA.length:Int);·simp only[go_sem,Vc c1];exact⟨eY.b1 _,_,rfl,λe=>by cases e⟩
 ·simp only[go_sem,Va c1,ln];by_cases c2:items<(x.aB.length:Int);·simp only[go_sem,Vc c2];exact⟨eY.b1 _,_,rfl,λe=>by cases e⟩
  ·simp only[go_sem,Va c2,le];exact⟨eY.b1 _,_,rfl,λe=>⟨by omega,by omega,by simpa using e⟩⟩
def ot (P:Program)(f:FuncId):Prop:=
 fI P f=true/\∀(F:Nat->Prop)(h:eZ)(x:fG)(a:List AV),fu F h x.c a->x.aA.length<=2^40->x.aB.length<=2^40->x.aC.length<=2^40->
  fy P f [.aE a] h λr h'=>∃o n e,r=.aE [o,n,e]/\e_ (fK x.aA) (λk=>h.length<=k) h' o/\e_ (fK x.aB) (λk=>h.length<=k) h' n/\e_ (fK x.aC) (λk=>h.length<=k) h' e/\eY fj h h'
theorem Ji {P:Program}{f g:FuncId}(hf:Is P f (zh g))(hg:lj P g .i64):ot P f:=by
 refine⟨hf.2,λF h x a ha l1 l2 l3=>fN hf ?_⟩;obtain⟨o,n,e,rfl,ho,hn,he⟩:=kx ha;simp only[zh,go_sem,ho.aA,hn.aA,he.aA];have A0:=iE h (some (.aA 3 [[o,n,e]] false)) (some (.aA 3 [[.aB,.aB,.aB]] false));have B0:=iq h (some (.aA 3 [[o,n,e]] false)) (some (.aA 3 [[.aB,.aB,.aB]] false));have x0:=eY.b2 (h:=h) (some (.aA 3 [[o,n,e]] false)) (some (.aA 3 [[.aB,.aB,.aB]] false));have b:=ho.up x0;have t:=hn.up x0;have u:=he.up x0;refine fq ⟨hg.1,hg.2 F _ x.aA o b l1⟩ ?_;rintro o' g1 ⟨o1,_,x1⟩;have A1:=x1.aA A0;have B1:=x1.aA B0;simp only[go_sem,A1];refine fq ⟨hg.1,hg.2 F _ x.aB n (t.up x1) l2⟩ ?_;rintro n' g2 ⟨n2,_,x2⟩;have A2:=x2.aA A1;have B2:=x2.aA B1;simp only[go_sem,A2];refine fq ⟨hg.1,hg.2 F _ x.aC e ((u.up x1).up x2) l3⟩ ?_;rintro e' g3 ⟨e3,_,x3⟩;have A3:=x3.aA A2;have B3:=x3.aA B2;have lB:=(U_.1 B3).1;simp only[go_sem,A3,B3,o1.aA,n2.aA,e3.aA,gH o1.aA,gH n2.aA,gH e3.aA,lB];have q0:=x0.1;have q1:=x1.1;have q2:=x2.1;simp only[Vj,VD,VN]at q0 q1;have st:∀{d:D}{G:Nat->Prop}{av:AV},e_ d G g3 av->(∀m,G m->h.length+2<=m)->e_ d (λk=>h.length<=k) (g3.set (h.length+1) (some (.aA 3 [[o',n',e']] false))) av:=λhh hG=>e_.aB _ (λm hm=>by have:=hG m hm;omega) (λm hm y hy=>by have:=hG m hm;rw[Vb (by omega)];exact hy) _ hh;refine⟨o',n',e',rfl,st ((o1.up x2).up x3) (λm hm=>?_),st (n2.up x3) (λm hm=>?_),st e3 (λm hm=>?_),(((x0.tr x1).tr x2).tr x3).aD (by omega) _⟩;·simp only[Vj,VD,VN]at hm;omega
 ·omega
 ·omega
structure fV where
 aD:Int
 aB:Int
 aE:Int
 aA:fE
 aC:fG
 aF:List Int
 deriving DecidableEq
def fV.c (x:fV):List D:=[.aA .i64 x.aD,.aA .i64 x.aB,.aA .i64 x.aE,.aA .i64 x.aA.aA,.aA .i64 x.aA.aB,f_ x.aA.es,fK x.aC.aA,fK x.aC.aB,fK x.aC.aC,fT x.aF]
def fV.aG (x:fV)(e o n l s:AV):List AV:=[.aA .i64 x.aD,.aA .i64 x.aB,.aA .i64 x.aE,.aA .i64 x.aA.aA,.aA .i64 x.aA.aB,e,o,n,l,s]
theorem kW {x:fV}{F:Nat->Prop}{h:eZ}{a:List AV}(hh:fu F h x.c a):∃e o n l s,a=x.aG e o n l s/\Rd F h (f_ x.aA.es) e/\Rd F h (fK x.aC.aA) o/\Rd F h (fK x.aC.aB) n/\Rd F h (fK x.aC.aC) l/\Rd F h (fT x.aF) s:=by simp only[fV.c,sQ]at hh;obtain⟨_,rfl,_,rfl,_,rfl,_,rfl,_,rfl,hh⟩:=hh;simp only[fu]at hh;obtain⟨e,_,rfl,he,o,_,rfl,ho,n,_,rfl,hn,l,_,rfl,hl,s,_,rfl,hs,rfl⟩:=hh;exact⟨e,o,n,l,s,rfl,he,ho,hn,hl,hs⟩
theorem nd {x:fG}{F:Nat->Prop}{h:eZ}{o n l:AV}(ho:Rd F h (fK x.aA) o)(hn:Rd F h (fK x.aB) n)(hl:Rd F h (fK x.aC) l):fu F h x.c [o,n,l]:=by simp only[fG.c,fu];exact⟨o,_,rfl,ho,n,_,rfl,hn,l,_,rfl,hl,rfl⟩
def fV.aR (x:fV)(items bytes:Int):Prop:=(x.aA.es.length<=items.toNat/\∀e∈x.aA.es,e.aA.length<=bytes.toNat)/\((x.aC.aA.length:Int)<=items/\(x.aC.aB.length:Int)<=items/\(x.aC.aC.length:Int)<=items)/\(x.aF.length:Int)<=bytes
def DH (P:Program)(f:FuncId):Prop:=
 fI P f=true/\∀(F:Nat->Prop)(h:eZ)(x:fV)(a:List AV)(items bytes:Int),fu F h x.c a->0<=items/\items<=2^40->0<=bytes/\bytes<=2^40->
  fy P f [.aE a,.aA .i64 items,.aA .i64 bytes] h λr h'=>∃b,r=.aD b/\h'=h/\(b=false->x.aR items bytes)
theorem I5 {P:Program}{f g k:FuncId}(hf:Is P f (za g k))(hg:vg P g)(hk:xX P k):DH P f:=by
 refine⟨hf.2,λF h x a items bytes ha hi hb=>(fy.aC (K:=λr h'=>eY fj h h'/\∃b,r=.aD b/\(b=false->x.aR items bytes)) (K':=λr=>∃b,r=.aD b/\(b=false->x.aR items bytes)) (fN hf ?_)
  (λr h' hk=>⟨hk.1,by obtain⟨b,rfl,_⟩:=hk.2;exact kD _ _,hk.2⟩)).aA λr h' hk=>let⟨b,h1,h2⟩:=hk.2;⟨b,h1,hk.1,h2⟩⟩
 obtain⟨e,o,n,l,s,rfl,he,ho,hn,hl,hs⟩:=kW ha;have ls:=hs.aB;simp only[Vo]at ls;simp only[za,fV.aG,go_sem,he.aA,ho.aA,hn.aA,hl.aA,hs.aA];refine fq ⟨hg.1,hg.2 F _ x.aA.es _ items bytes (he.up (eY.b1 _)) hi hb⟩ ?_;rintro _ _ ⟨b1,rfl,rfl,u⟩;cases b1
 ·simp only[go_sem];refine fq ⟨hk.1,hk.2 F _ x.aC _ items ((nd ho hn hl).up (eY.b1 _))⟩ ?_;rintro _ _ ⟨b2,rfl,rfl,t⟩;cases b2;·simp only[go_sem,ls];exact⟨eY.b1 _,_,rfl,λe=>⟨u rfl,t rfl,by simpa using e⟩⟩
  ·simp only[go_sem];exact⟨eY.b1 _,_,rfl,λe=>by cases e⟩
 ·simp only[go_sem];exact⟨eY.b1 _,_,rfl,λe=>by cases e⟩
mutual
theorem IN (k:Nat):∀d:D,d.av.aJ k=true
 | .aA i n=>by simp only[D.av,AV.aJ]
 | .aD b=>by simp only[D.av,AV.aJ]
 | .aE s=>by simp only[D.av,AV.aJ]
 | .sl sz es=>by simp only[D.av,AV.aJ,IM k es,VP,decide_true,W5,Bool.and_self]
theorem Du (k:Nat):∀l:List D,AV.aQ k (D.aB l)=true
 | []=>by simp only[D.aB,AV.aQ]
 | d :: r=>by simp only[D.aB,AV.aQ,IN k d,Du k r,Bool.and_self]
theorem IM (k:Nat):∀l:List (List D),AV.aS k (D.aC l)=true
 | []=>by simp only[D.aC,AV.aS]
 | d :: r=>by simp only[D.aC,AV.aS,Du k d,IM k r,Bool.and_self]
end
theorem Dv (k:Nat)(l:List D):(AV.aE (D.aB l)).aJ k=true:=by simp only[AV.aJ,Du]
def gV (l:List Int):AV:=(fT l).av
def fA (l:List Int):AV:=(fK l).av
def iD (l:List gj):AV:=(f_ l).av
theorem l7 (l:List Int):(gV l).aG=true:=jX _
theorem iB (l:List Int):(fA l).aG=true:=jX _
theorem n7 (l:List gj):(iD l).aG=true:=jX _
theorem Cn (l:List Int):(gV l).aK=some [gV l]:=gH (jX _)
theorem Co (l:List Int):(fA l).aK=some [fA l]:=gH (jX _)
theorem Lx (l:List gj):(iD l).aK=some [iD l]:=gH (jX _)
theorem kO (F:Nat->Prop)(h:eZ)(l:List Int):Rd F h (fT l) (gV l):=mz _ _ _
theorem uQ (F:Nat->Prop)(h:eZ)(l:List Int):Rd F h (fK l) (fA l):=mz _ _ _
theorem uP (F:Nat->Prop)(h:eZ)(l:List gj):Rd F h (f_ l) (iD l):=mz _ _ _
theorem Py (l:List Int):g_ (gV l)=some (.aA .i64 l.length):=by simpa using (kO fj [] l).aB
theorem PA (l:List Int):g_ (fA l)=some (.aA .i64 l.length):=by simpa using (uQ fj [] l).aB
theorem Pz (l:List gj):g_ (iD l)=some (.aA .i64 l.length):=by simpa using (uP fj [] l).aB
attribute [go_sem] l7 iB n7 Cn Co Lx Py PA Pz
def gj.v (e:gj):List AV:=D.aB e.c
def fE.v (l:fE):List AV:=D.aB l.c
def fG.v (x:fG):List AV:=D.aB x.c
def fV.v (x:fV):List AV:=D.aB x.c
def fB.v (m:fB):List AV:=D.aB m.c
theorem EJ (l:List gj):iD l=.aL 0 false 3 (l.map gj.v):=by simp only[iD,f_,D.av,pE,List.map_map];congr 1
theorem fE.aM (l:fE):l.v=[.aA .i64 l.aA,.aA .i64 l.aB,iD l.es]:=by simp only[fE.v,fE.c,D.aB,D.av];rfl
theorem fG.aD (x:fG):x.v=[fA x.aA,fA x.aB,fA x.aC]:=by simp only[fG.v,fG.c,D.aB];rfl
theorem fV.aM (x:fV):x.v=[.aA .i64 x.aD,.aA .i64 x.aB,.aA .i64 x.aE,.aA .i64 x.aA.aA,.aA .i64 x.aA.aB,iD x.aA.es,fA x.aC.aA,fA x.aC.aB,fA x.aC.aC,gV x.aF]:=by simp only[fV.v,fV.c,D.aB,D.av];rfl
theorem Dg (F:Nat->Prop)(h:eZ)(l:fE):fu F h l.c l.v:=my _ _ _
theorem sR (F:Nat->Prop)(h:eZ)(x:fG):fu F h x.c x.v:=my _ _ _
theorem Ic (F:Nat->Prop)(h:eZ)(x:fV):fu F h x.c x.v:=my _ _ _
theorem fR {P:Program}{f:FuncId}{b:List AV}{r:AV}{h:eZ}{K:AV->eZ->Prop}(hi:fI P f=true)(hc:fy P f b h λr' h'=>r'=r/\h'=h)(hk:K r h):nI P f b h K:=
 fq ⟨hi,hc⟩ λ_ _ ⟨e1,e2⟩=>by subst e1;subst e2;exact hk
def pz (P:Program)(f:FuncId)(avs:List AV)(r:AV):Prop:=∀h,fy P f avs h λr' h'=>r'=r/\h'=h
theorem pz.aA {P:Program}{f:FuncId}{b:List AV}{r:AV}{h:eZ}{K:AV->eZ->Prop}(hi:fI P f=true)(hc:pz P f b r)(hk:K r h):nI P f b h K:=
 fq ⟨hi,hc h⟩ λ_ _ ⟨e1,e2⟩=>by subst e1;subst e2;exact hk
theorem HR {P:Program}{f:FuncId}{b:List AV}{d:D}(hc:∀h,fy P f b h λr h'=>e_ d (λm=>h.length<=m) h' r/\eY fj h h'):pz P f b d.av:=
 λh=>(hc h).aB λ_ _ hk=>⟨hk.2,_,gM.d (e_.fz d (λ_ x=>x) _ hk.1),rfl⟩
def fG.aF (x:fG)(n:Nat):Prop:=x.aA.length<=n/\x.aB.length<=n/\x.aC.length<=n
def fV.aK (x:fV):Prop:=iK x.aA.es/\x.aC.aF (2^40)/\x.aF.length<=2^40
theorem fG.aP (x y:fG):decide (x=y)=(decide (x.aA=y.aA) && (decide (x.aB=y.aB) && decide (x.aC=y.aC))):=by cases x;cases y;simp[Xo]
theorem fV.aU (x y:fV):decide (x=y)=(decide (x.aD=y.aD) && (decide (x.aB=y.aB) && (decide (x.aE=y.aE) && (decide (x.aA=y.aA) && (decide (x.aC=y.aC) && decide (x.aF=y.aF)))))):=by cases x;cases y;simp[Xo]
theorem fB.aT (x y:fB):decide (x=y)=(decide (x.aD=y.aD) && (decide (x.aC=y.aC) && (decide (x.to=y.to) && (decide (x.aJ=y.aJ) && (decide (x.aF=y.aF) && (decide (x.aA=y.aA) && (decide (x.aI=y.aI) && (decide (x.aK=y.aK) && (decide (x.aM=y.aM) && (decide (x.aQ=y.aQ) && (decide (x.aO=y.aO) && (decide (x.aN=y.aN) && (decide (x.aR=y.aR) && (decide (x.aP=y.aP) && ((x.ok == y.ok) && (decide (x.es=y.es) && decide (x.aE=y.aE))))))))))))))))):=by cases x;cases y;simp[Xo,Bool.beq_eq_decide_eq]
def wu (P:Program)(f:FuncId):Prop:=
 fI P f=true/\∀(F F':Nat->Prop)(h:eZ)(x y:fG)(a b:List AV),fu F h x.c a->fu F' h y.c b->x.aF (2^40)->
  fy P f [.aE a,.aE b] h λr h'=>r=.aD (decide (x=y))/\h'=h
theorem JW {P : Program} {f g : FuncId} (hf : Is P f (zt g)) (hg : m_ P g .i64) : wu P f := by
 refine ⟨hf.2, λF F' h x y a b hx hy hl => iF rfl (fN hf ?_)⟩;obtain ⟨o, n, e, rfl, ho, hn, he⟩ := kx (fu.aA (F' := λ_ => True) (λ_ _ => Vp) (gz.lt _ _) _ _ hx);obtain ⟨o', n', e', rfl, ho', hn', he'⟩ := kx (fu.aA (F' := λ_ => True) (λ_ _ => Vp) (gz.lt _ _) _ _ hy);simp only [zt, go_sem, ho.aA, hn.aA, he.aA, ho'.aA, hn'.aA, he'.aA];repeat' (first
  | refine ph (λ_ => ?_) (λ_ => ?_)
  | (refine fq ⟨hg.1, hg.2 (λ_ => True) _ x.aA y.aA _ _ (ho.up (eY.b2 _ _)) (ho'.up (eY.b2 _ _)) hl.1⟩ ?_; rintro _ _ ⟨rfl, rfl⟩)
  | (refine fq ⟨hg.1, hg.2 (λ_ => True) _ x.aB y.aB _ _ (hn.up (eY.b2 _ _)) (hn'.up (eY.b2 _ _)) hl.2.1⟩ ?_; rintro _ _ ⟨rfl, rfl⟩)
  | (refine fq ⟨hg.1, hg.2 (λ_ => True) _ x.aC y.aC _ _ (he.up (eY.b2 _ _)) (he'.up (eY.b2 _ _)) hl.2.2⟩ ?_; rintro _ _ ⟨rfl, rfl⟩)
  | simp only [go_sem, *])
 all_goals exact ⟨by simp [fG.aP, *], eY.b2 _ _⟩
def wy (P:Program)(f:FuncId):Prop:=
 fI P f=true/\∀(F F':Nat->Prop)(h:eZ)(x y:fV)(a b:List AV),fu F h x.c a->fu F' h y.c b->x.aK->
  fy P f [.aE a,.aE b] h λr h'=>r=.aD (decide (x=y))/\h'=h
theorem pS {x:fE}{F:Nat->Prop}{h:eZ}{e:AV}(he:Rd F h (f_ x.es) e):fu F h x.c [.aA .i64 x.aA,.aA .i64 x.aB,e]:=by simp only[fE.c,sQ];refine⟨_,rfl,_,rfl,?_⟩;simp only[fu];exact⟨e,_,rfl,he,rfl⟩
theorem JY {P : Program} {f g k b : FuncId} (hf : Is P f (zA g k b)) (hg : wz P g) (hk : wu P k) (hb : m_ P b .u8) : wy P f := by
 refine ⟨hf.2, λF F' h x y a c hx hy hl => iF rfl (fN hf ?_)⟩;obtain ⟨e1, o1, n1, l1, s1, rfl, he1, ho1, hn1, hl1, hs1⟩ := kW (fu.aA (F' := λ_ => True) (λ_ _ => Vp) (gz.lt _ _) _ _ hx);obtain ⟨e2, o2, n2, l2, s2, rfl, he2, ho2, hn2, hl2, hs2⟩ := kW (fu.aA (F' := λ_ => True) (λ_ _ => Vp) (gz.lt _ _) _ _ hy);simp only [zA, fV.aG, go_sem, he1.aA, ho1.aA, hn1.aA, hl1.aA, hs1.aA, he2.aA, ho2.aA, hn2.aA, hl2.aA, hs2.aA];repeat' (first
  | refine ph (λ_ => ?_) (λ_ => ?_)
  | (refine fq ⟨hg.1, hg.2 (λ_ => True) _ x.aA y.aA _ _ ((pS he1).up (eY.b2 _ _)) ((pS he2).up (eY.b2 _ _)) (by have := hl.1.1; omega) (λe he => by have := hl.1.2 e he; omega)⟩ ?_; rintro _ _ ⟨rfl, rfl⟩)
  | (refine fq ⟨hk.1, hk.2 (λ_ => True) (λ_ => True) _ x.aC y.aC _ _ ((nd ho1 hn1 hl1).up (eY.b2 _ _)) ((nd ho2 hn2 hl2).up (eY.b2 _ _)) hl.2.1⟩ ?_; rintro _ _ ⟨rfl, rfl⟩)
  | (refine fq ⟨hb.1, hb.2 (λ_ => True) _ x.aF y.aF _ _ (hs1.up (eY.b2 _ _)) (hs2.up (eY.b2 _ _)) hl.2.2⟩ ?_; rintro _ _ ⟨rfl, rfl⟩)
  | simp only [go_sem, *])
 all_goals exact ⟨by simp [fV.aU, *], eY.b2 _ _⟩
def qq (P:Program)(f:FuncId):Prop:=
 fI P f=true/\∀(F F':Nat->Prop)(h:eZ)(x y:fB)(a b:List AV),fu F h x.c a->fu F' h y.c b->iK x.es->x.aE.length<=2^40->
  fy P f [.aE a,.aE b] h λr h'=>r=.aD (decide (x=y))/\h'=h
theorem Eu {P : Program} {f g b : FuncId} (hf : Is P f (zC g b)) (hg : tR P g) (hb : m_ P b .u8) : qq P f := by
 refine ⟨hf.2, λF F' h x y a c hx hy hl hd => iF rfl (fN hf ?_)⟩;obtain ⟨e1, d1, rfl, he1, hd1⟩ := sU (fu.aA (F' := λ_ => True) (λ_ _ => Vp) (gz.lt _ _) _ _ hx);obtain ⟨e2, d2, rfl, he2, hd2⟩ := sU (fu.aA (F' := λ_ => True) (λ_ _ => Vp) (gz.lt _ _) _ _ hy);simp only [zC, fB.aB, go_sem, he1.aA, hd1.aA, he2.aA, hd2.aA];repeat' (first
  | refine ph (λ_ => ?_) (λ_ => ?_)
  | (refine fq ⟨hg.1, hg.2 (λ_ => True) _ x.es y.es _ _ (he1.up (eY.b2 _ _)) (he2.up (eY.b2 _ _)) (by have := hl.1; omega) (λe he => by have := hl.2 e he; omega)⟩ ?_; rintro _ _ ⟨rfl, rfl⟩)
  | (refine fq ⟨hb.1, hb.2 (λ_ => True) _ x.aE y.aE _ _ (hd1.up (eY.b2 _ _)) (hd2.up (eY.b2 _ _)) hd⟩ ?_; rintro _ _ ⟨rfl, rfl⟩)
  | simp only [go_sem, *])
 all_goals exact ⟨by simp [fB.aT, *], eY.b2 _ _⟩
end Glb
