/-
  A library of its own.
-/
import Derived.Test.YtdeiamnhnfmilaaGreatGlbKitA
import Derived.Test.YtdeiamnhnfmilaaGreatGlbLibE
set_option linter.unusedSimpArgs false
set_option linter.unusedVariables false
set_option maxRecDepth 10000
set_option maxHeartbeats 4000000
open Nat (reduceAdd reduceEqDiff)
namespace Glb
open Go
theorem CU {sz bytes:Nat}{F:Nat->Prop}{ds es:List (List D)}{h0 h:eX}{av:AV}{ys:List (List AV)}(ho:eY (.sl sz ds) F h0 av)(hc:gV h0 av)
  (hx:eW eZ h0 h) (hy:fG es (λm=>h0.length<=m) h ys) (hF:∀m,h0.length<=m->F m) (hb:(ds.length+es.length)*bytes<=2^46):
  ∃av' h',iu h sz bytes av ys=some (av',h')/\eY (.sl sz (ds++es)) F h' av'/\gV h' av'/\eW F h h':=by
 have hyl:=oG hy;have fresh:∀(hh:eX) (dd:List (List D)) (es':List (List AV)),F hh.length->fG dd F hh es'->
   eY (.sl sz dd) F (gR hh sz es').2 (gR hh sz es').1/\gV (gR hh sz es').2 (gR hh sz es').1:=by
  intro hh dd es' hl hd;have hlen:=oG hd;refine⟨?_,⟨es',true,by simp[gR],(λ_=>rfl),(λc hc=>by cases hc)⟩⟩;simp only[eY,gR];refine .inr (.inr ⟨hh.length,0,none,es',true,by rw[hlen],hl,by simp,by omega,(λc hc=>by cases hc),?_⟩);have:(es'.drop 0).take dd.length=es':=by rw[V9,Vs (by omega)]
  rw[this];refine fG.aA dd (λm hm=>⟨hm.1,by have:=hm.2;omega⟩) ?_ _ (fG.lt dd _ hd);intro m hm x hx;rw[Vy hm.2];exact hx
 simp only[eY]at ho;rcases ho with⟨rfl,rfl⟩ | ⟨t,c,rfl,rfl⟩ | ⟨n,off,cap,row,g,rfl,hn,hrow,hle,hcl,hd⟩
 · -- nothing yet
  have hy':fG es F h ys:=fG.aA es (λm hm=>hF _ hm) (λ_ _ _ x=>x) _ hy;obtain⟨a,b⟩:=fresh h es ys (hF _ hx.1) hy';refine⟨_,_,?_,by simpa using a,b,?_⟩;·simp only[iu];rw[U4 (by rw[hyl];simpa using hb)]
  ·exact eW.aF _ _ _
 ·have hc1:c=true:=hc;subst hc1;have hy':fG es F h ys:=fG.aA es (λm hm=>hF _ hm) (λ_ _ _ x=>x) _ hy;simp only[iu];rw[U4 ⟨Vd,by rw[hyl];simpa using hb⟩];by_cases hy0:ys.length=0;·rw[U4 hy0];have hes:es=[]:=U7 (by omega);subst hes;refine⟨_,_,rfl,?_,rfl,eW.aC _ _⟩;simp only[eY];exact .inr (.inl ⟨t,true,rfl,rfl⟩)
  ·rw[U6 hy0,U4 Vd];obtain⟨a,b⟩:=fresh h es ys (hF _ hx.1) hy';exact⟨_,_,rfl,by simpa [gR] using a,b,eW.aF _ _ _⟩
 ·obtain⟨row',g',hrow',hcn,hcs⟩:=hc;rw[hrow]at hrow';obtain⟨rfl,rfl⟩:row=row'/\g=g':=by simpa using hrow'
  have hnlt:=(UY.1 hrow).1;have hrow1:h[n]?=some (some (.aA sz row g)):=hx.aA hrow;have hnlt1:=(UY.1 hrow1).1;have hd1:fG ds (λm=>F m/\m≠n) h ((row.drop off).take ds.length):=fG.aA ds (λm hm=>hm) (hx.aE _) _ hd;have hy1:fG es (λm=>F m/\m≠n) h ys:=fG.aA es (λm hm=>⟨hF _ hm,by omega⟩) (λ_ _ _ x=>x) _ hy;have both:fG (ds++es) F h ((row.drop off).take ds.length++ys):=fG.aA _ (λm hm=>hm.1) (λ_ _ _ x=>x) _ (na hd1 hy1);simp only[iu,hrow1];rw[U4 ⟨Vd,Vd,hle,by rw[hyl];exact hb⟩];cases cap with
  | none=>
   obtain rfl:=hcn rfl;simp only[VS];have both':fG (ds++es) F (h.set n none) (row.take ds.length++ys):=by have:=na hd1 hy1;rw[V9]at this;exact fG.aA _ (λm hm=>hm.1) (λm hm x hx=>by rw[UZ (λe=>hm.2 e.symm)];exact hx) _ this
   obtain⟨a,b⟩:=fresh (h.set n none) (ds++es) (row.take ds.length++ys) (by rw[U9];exact hF _ hx.1) both';exact⟨_,_,rfl,a,b,(eW.aI none (λ_=>hn)).aD (eW.aF F _ _) (λ_ _ x=>x) (λ_ _ x=>x)⟩
  | some c=>
   have hc1:=hcl c rfl;have hc2:=hcs c rfl;cases c with
   | zero=>
    have h0:ds.length=0:=by omega
    have hds:ds=[]:=U7 h0;subst hds;simp only[Ve,VS];by_cases hy0:ys.length=0;·rw[U4 hy0];have hes:es=[]:=U7 (by omega);subst hes;refine⟨_,_,rfl,?_,⟨row,g,hrow1,(λe=>by cases e),(λc hc=>by cases hc;omega)⟩,eW.aC _ _⟩;simp only[eY];exact .inr (.inr ⟨n,off,some 0,row,g,rfl,hn,hrow1,by simpa using hle,(λc hc=>by cases hc;simp),by simp[fG]⟩)
    ·rw[U6 hy0];have hy2:fG es F h ys:=fG.aA es (λm hm=>hm.1) (λ_ _ _ x=>x) _ hy1;obtain⟨a,b⟩:=fresh h es ys (hF _ hx.1) hy2;exact⟨_,_,rfl,by simpa [gR] using a,b,eW.aF _ _ _⟩
   | succ c=>
    simp only;by_cases hcap:c+1<ds.length+ys.length;·rw[U4 hcap];obtain⟨a,b⟩:=fresh h (ds++es) _ (hF _ hx.1) both;exact⟨_,_,rfl,a,b,eW.aF _ _ _⟩
    ·rw[U6 hcap,U4 (by omega)];have hsl:(gM row (off+ds.length) ys).length=row.length:=by simp[gM];omega
     refine⟨_,_,rfl,?_,⟨_,g,by rw[U5 hnlt1],(λe=>by cases e),(λc' hc'=>by cases hc';rw[hsl];exact hc2)⟩,eW.aI _ (λ_=>hn)⟩;simp only[eY];refine .inr (.inr ⟨n,off,some (c+1),gM row (off+ds.length) ys,g,by rw[U1,hyl],hn,by rw[U5 hnlt1],by rw[hsl,U1];omega,
      (λc' hc'=>by cases hc';rw[U1];omega),?_⟩)
     have e:((gM row (off+ds.length) ys).drop off).take (ds++es).length=(row.drop off).take ds.length++ys:=by
      apply VM;intro i;simp only[VZ,Vt,U1,gM,V_,Va,U1,Vo];rw[show min (off+ds.length) row.length=off+ds.length by omega,show min ds.length (row.length-off)=ds.length by omega];by_cases h1:i<ds.length;·rw[U4 (by omega),U4 (by omega),U4 (by omega),U4 (by omega),U4 h1];simp[h1]
      ·by_cases h2:i<ds.length+es.length
       ·rw[U4 h2,U4 (by omega),U6 (by omega),U6 h1];congr 1;omega
       ·rw[U6 h2,U6 h1,VH (by omega)]
     rw[e];refine fG.aA _ (λm hm=>hm) ?_ _ (na hd1 hy1);intro m hm x hx;rw[UZ (λe=>hm.2 e.symm)];exact hx
def k_ (v:Int)(k:Nat):Int:=IntKind.u8.wrap ((IntKind.u64.wrap v).fdiv (2^(8*(7-k))))
def gO (v:Int):List Int:=[k_ v 0,k_ v 1,k_ v 2,k_ v 3,k_ v 4,k_ v 5,k_ v 6,k_ v 7]
theorem js (v:Int):(gO v).length=8:=rfl
theorem Pz (v:Int)(j:Nat)(hj:j<8):(gO v)[j]?=some (k_ v j):=by
 match j,hj with
 | 0,_=>rfl
 | 1,_=>rfl
 | 2,_=>rfl
 | 3,_=>rfl
 | 4,_=>rfl
 | 5,_=>rfl
 | 6,_=>rfl
 | 7,_=>rfl
theorem Iy {α:Type}{l:List α}{j:Nat}{x:α} (h:l[j]?=some x):l.take (j+1)=l.take j++[x]:=by rw[List.take_add_one,h];rfl
def wm (P:Program)(f:FuncId):Prop:=
 fK P f=true/\∀(lo:Nat)(h:eX)(l:List Int)(b:AV)(v:Int),eY (gq l) (λm=>lo<=m) h b->gV h b->lo<=h.length->l.length<=2^45->
  fC P f [b,.aA .i64 v] h λr h'=>eY (gq (l++gO v)) (λm=>lo<=m) h' r/\gV h' r/\eW (λm=>lo<=m) h h'
theorem SX (a b:Int):jD .shr (.aA .u64 a) (.aA .i64 b)=vd .shr .u64 a b:=Vc rfl rfl
theorem xK {P:Program}{f:FuncId}(hf:Is P f AZ):wm P f:=by
 refine⟨hf.2,λlo h l b v hb hc E hl=>fS hf ?_⟩;simp only[AZ,go_sem];refine iM (λm L h'=>∃(j:Nat)(o:AV),lk 0 L=o/\lk 1 L=.aA .i64 v/\lk 5 L=.aA .i64 (7-(j:Int))/\j<=8/\m=8-j /\
  eY (gq (l++(gO v).take j)) (λm=>lo<=m) h' o/\gV h' o/\eW (λm=>lo<=m) h h') 8 ?_ ?_
 ·exact⟨0,b,by simp[fm,g_],by simp[fm,g_],by simp[fm],by omega,by omega,by simpa using hb,hc,eW.aC _ _⟩
 ·rintro m L h' ⟨j,o,h0,h1,h5,hj,rfl,ho,e,he⟩;simp only[Fx,go_sem,h5];refine ij (λci=>?_) (λci=>?_)
  ·simp at ci;have e1:IntKind.i64.wrap (8*(7-(j:Int)))=((8*(7-j):Nat):Int):=by rw[gj (by omega)];omega
   have e2:IntKind.i64.wrap (7-(j:Int)-1)=7-((j+1:Nat):Int):=by rw[gj (by omega)];omega
   have e3:vd .shr .u64 (IntKind.u64.wrap v) ((8*(7-j):Nat):Int)=some (.aA .u64 ((IntKind.u64.wrap v).fdiv (2^(8*(7-j))))):=by simp only[vd];rw[U6 (by omega),V4,VT (by simp[IntKind.bits];omega)]
   have e4:IntKind.u8.wrap ((IntKind.u64.wrap v).fdiv (2^(8*(7-j))))=k_ v j:=rfl;have I:(l++(gO v).take j).length=l.length+j:=by simp[js];omega
   obtain⟨o',h2,ha,u,O,M⟩:=l_ (bytes:=1) (es:=[[.aA .u8 (k_ v j)]]) (h:=h'++[some (.aA 1 [[.aA .u8 (k_ v j)]] false)]) ho e (eW.aF _ _ _) (ys:=[[.aA .u8 (k_ v j)]])
    (by simp[fG,fI,eY]) (Vh E he.1) (by rw[Vg,I];simp;omega)
   simp only[go_sem,reduceEqDiff,reduceAdd,h0,h1,h5,e1,e2,SX,e3,e4,EH,iv (lG h' 1 [[.aA .u8 (k_ v j)]] false (some 1) (len:=1) rfl),ha];refine⟨_,?_,j+1,o',rfl,rfl,by omega,rfl,?_,O,?_⟩;·omega
   ·rw[Iy (Pz v j (by omega)),<-Vr,gq,VJ];exact u
   ·exact (he.aD (eW.aF eZ h' _) (λ_ _ x=>x) (λ_ _ x=>x.elim)).aD M (λ_ _ x=>x) (λm hm C=>C)
  ·simp at ci;simp only[go_sem,h0];obtain rfl:j=8:=by omega
   exact⟨ho,e,he⟩
def wP (h:eX)(sz bytes:Nat)(zero:List AV):AV->AV->Option (AV×eX)
 | .aA _ l,.aA _ c=>if 0<=l/\l<=c/\c*bytes<=2^46 then some (.aG h.length sz 0 l.toNat (some c.toNat),h++[some (.aA sz (List.replicate c.toNat zero) false)]) else none
 | _,_=>none
theorem Gx (g:fE->AV)(h:eX)(sz bytes:Nat)(zero:List AV)(l c:fE):jY g h (.aF sz bytes zero l c)=wP h sz bytes zero (g l) (g c):=by
 simp only[jY,jz,wP];generalize g l=x;generalize g c=y;cases x<;>cases y<;>simp only;rename_i k l k' c;by_cases q:0<=l/\l<=c/\c*(bytes:Int)<=2^46;·rw[U4 q,U4 q]
 ·rw[U6 q,U6 q]
theorem ER {h:eX}{sz bytes:Nat}{zero:List AV}{k k':IntKind}{l c:Int}(h0:0<=l)(h1:l<=c)(h2:c*bytes<=2^46):
  wP h sz bytes zero (.aA k l) (.aA k' c)=some (.aG h.length sz 0 l.toNat (some c.toNat),h++[some (.aA sz (List.replicate c.toNat zero) false)]):=by
 simp only[wP];rw[U4 ⟨h0,h1,h2⟩]
theorem PT {sz:Nat}(h:eX)(c:Nat)(zero:List AV):eY (.sl sz []) (λm=>h.length<=m) (h++[some (.aA sz (List.replicate c zero) false)]) (.aG h.length sz 0 0 (some c)) /\
  gV (h++[some (.aA sz (List.replicate c zero) false)]) (.aG h.length sz 0 0 (some c)):=by
 constructor;·simp only[eY];exact .inr (.inr ⟨h.length,0,some c,List.replicate c zero,false,rfl,U8 _,gJ _ _,by simp,(λd hd=>by cases hd;simp),by simp[fG]⟩)
 ·exact⟨_,false,gJ _ _,(λhc=>by cases hc),(λd hd=>by cases hd;simp)⟩
theorem rP {n:IntKind}{F G:Nat->Prop}{h h':eX}:∀{l:List Int} {ys:List (List AV)},fY F h (l.map λx=>[.aA n x]) ys->fG (l.map λx=>[.aA n x]) G h' ys:=by
 intro l;induction l with
 | nil=>intro ys hh;simpa [fY,fG] using hh
 | cons x l ih=>intro ys hh;simp only[Vv,fY]at hh;obtain⟨e,r,rfl,h1,h2⟩:=hh;simp only[fu,Rd]at h1;obtain⟨_,_,rfl,rfl,rfl⟩:=h1;simp only[Vv,fG];exact⟨_,_,rfl,⟨_,_,rfl,by simp only[eY],rfl⟩,ih h2⟩
def wG (P:Program)(f:FuncId):Prop:=
 fK P f=true/\∀(F:Nat->Prop)(h:eX)(l:List Int)(b:AV)(n:Int),Rd F h (gq l) b->l.length<=2^42->0<=n/\n<=2^42->
  fC P f [b,.aA .i64 n] h λr h'=>eY (gq l) (λm=>h.length<=m) h' r/\gV h' r/\eW eZ h h'
theorem xU {P:Program}{f:FuncId}(hf:Is P f A8):wG P f:=by refine⟨hf.2,λF h l b n hb hl hn=>fS hf ?_⟩;have lb:=hb.aC;simp only[Vg]at lb;have e1:IntKind.i64.wrap ((l.length:Int)+n)=(l.length:Int)+n:=gj (by omega);have hm:=ER (h:=h) (sz:=1) (bytes:=1) (zero:=[.aA .u8 0]) (k:=.i64) (k':=.i64) (l:=0) (c:=(l.length:Int)+n) (Vi 0) (by omega) (by omega);have oe:=PT (sz:=1) h ((l.length:Int)+n).toNat [.aA .u8 0];obtain⟨ys,u,C⟩:=(hb.up (eW.b1 (some (.aA 1 (List.replicate ((l.length:Int)+n).toNat [.aA .u8 0]) false)))).aH;obtain⟨r,h2,ha,hr,hc,he⟩:=l_ (bytes:=1) oe.1 oe.2 (eW.aC eZ _) (rP C) (by simp) (by simp;omega);have e:=iv u 1 (.aG h.length 1 0 0 (some ((l.length:Int)+n).toNat));rw[ha]at e;simp only[A8,go_sem,lb,e1,Gx,hm,Int.toNat_zero,e];exact⟨hr,hc,(eW.b1 _).aJ he (λm hm hm'=>by omega)⟩
def r7 (P:Program)(f:FuncId):Prop:=
 fK P f=true/\∀(F:Nat->Prop)(h:eX)(l p:List Int)(b a:AV),Rd F h (gq l) b->Rd F h (gq p) a->l.length<=2^41->p.length<=2^41->
  fC P f [b,a] h λr h'=>eY (gq (l++gO p.length++p)) (λm=>h.length<=m) h' r/\gV h' r/\eW eZ h h'
theorem HB {P:Program}{f fr fn:FuncId}(hf:Is P f (AP fr fn))(hr:wG P fr)(hn:wm P fn):r7 P f:=by refine⟨hf.2,λF h l p b a hb ha hl hp=>fS hf ?_⟩;have la:=ha.aC;simp only[Vg]at la;have e1:IntKind.i64.wrap (8+(p.length:Int))=8+(p.length:Int):=gj (by omega);simp only[AP,go_sem,la,e1];refine fy ⟨hr.1,hr.2 F _ l _ _ hb (by omega) (by omega)⟩ ?_;rintro r h1 ⟨ro,rc,x1⟩;simp only[go_sem,la];refine fy ⟨hn.1,hn.2 h.length _ l _ _ ro rc x1.1 (by omega)⟩ ?_;rintro s h2 ⟨so,sc,x2⟩;have e:=x1.aJ x2 (λm hm I=>by omega);obtain⟨ys,C,E⟩:=(ha.up e).aH;obtain⟨t,h3,ht,to,tc,x3⟩:=l_ (bytes:=1) so sc (eW.aC eZ _) (rP E) e.1 (by simp[js];omega);have u:=iv C 1 s;rw[ht]at u;simp only[go_sem,u];refine⟨?_,tc,e.aJ x3 (λm hm I=>by omega)⟩;rw[gq,VJ];exact to
def iW:List Int->List Int
 | []=>[]
 | x :: r=>gO x++iW r
theorem CL:∀(a b:List Int),iW (a++b)=iW a++iW b
 | [],b=>rfl
 | x :: r,b=>by simp only[WM,iW,CL r b,Vr]
theorem lL:∀(a:List Int),(iW a).length=8*a.length
 | []=>rfl
 | x :: r=>by simp only[iW,U1,js,lL r,Vf];omega
def Ee (P:Program)(f:FuncId):Prop:=
 fK P f=true/\∀(F:Nat->Prop)(h:eX)(l p:List Int)(b a:AV),Rd F h (gq l) b->Rd F h (fN p) a->l.length<=2^38->p.length<=2^38->
  fC P f [b,a] h λr h'=>eY (gq (l++gO p.length++iW p)) (λm=>h.length<=m) h' r/\gV h' r/\eW eZ h h'
theorem P4 {P:Program}{f fr fn:FuncId}(hf:Is P f (AR fr fn))(hr:wG P fr)(hn:wm P fn):Ee P f:=by
 refine⟨hf.2,λF h l p b a hb ha hl hp=>fS hf ?_⟩;have la:=ha.aC;simp only[Vg]at la;have e0:IntKind.i64.wrap (8*(p.length:Int))=8*(p.length:Int):=gj (by omega);have e1:IntKind.i64.wrap (8+8*(p.length:Int))=8+8*(p.length:Int):=gj (by omega);simp only[AR,go_sem,la,e0,e1];refine fy ⟨hr.1,hr.2 F _ l _ _ hb (by omega) (by omega)⟩ ?_;rintro r h1 ⟨ro,rc,x1⟩;simp only[go_sem,la];refine fy ⟨hn.1,hn.2 h.length _ l _ _ ro rc x1.1 (by omega)⟩ ?_;rintro s h2 ⟨so,sc,x2⟩;have M:=x1.aJ x2 (λm hm U=>by omega);simp only[go_sem,la];refine iM (λm L h'=>∃(i:Nat)(o:AV),lk 17 L=a/\lk 18 L=.aA .i64 p.length/\lk 5 L=o/\lk 19 L=.aA .i64 i/\i<=p.length/\m=p.length-i /\
  eY (gq (l++gO p.length++iW (p.take i))) (λm=>h.length<=m) h' o/\gV h' o/\eW eZ h h') p.length ?_ ?_
 ·exact⟨0,s,by simp[fm],by simp[fm],by simp[fm],by simp[fm],by omega,by omega,by simpa [iW] using so,sc,M⟩
 ·rintro m L h' ⟨i,o,I,E,h5,e,hi,rfl,ho,hc,he⟩;simp only[Fu,go_sem,E,e];refine ij (λci=>?_) (λci=>?_)
  ·simp at ci;obtain⟨q,cs,hq,O,C⟩:=(ha.up he).aD .i64 (i:=i) (d:=[.aA .i64 p[i]]) (by omega) (by simp[ci]);simp only[fu,Rd]at C;obtain⟨_,_,rfl,rfl,rfl⟩:=C;have e2:IntKind.i64.wrap ((i:Int)+1)=(i:Int)+1:=gj (by omega);simp only[go_sem,I,h5,e,hq,jr O];refine fy ⟨hn.1,hn.2 h.length _ (l++gO p.length++iW (p.take i)) _ p[i] ho hc he.1 (by simp[js,lL];omega)⟩ ?_;rintro u h3 ⟨uo,uc,x3⟩;simp only[go_sem,I,E,h5,e,e2];refine⟨_,?_,i+1,u,rfl,rfl,ci,rfl,?_,uc,he.aJ x3 (λm hm U=>by omega)⟩;·omega
   ·rw[Iy (x:=p[i]) (by simp[ci]),CL];simpa [iW] using uo
  ·simp at ci;simp only[go_sem,h5];obtain rfl:i=p.length:=by omega
   rw[VB]at ho;exact⟨ho,hc,he⟩
theorem DB (x:Int):IntKind.u8.wrap x=x % 256:=by simp[IntKind.wrap,IntKind.bits,IntKind.signed]
theorem yi (x:Int):IntKind.u64.wrap x=x % 18446744073709551616:=by simp[IntKind.wrap,IntKind.bits,IntKind.signed]
theorem K7 (v:Int)(k:Nat)(hk:k<=7):k_ v (7-k)=(IntKind.u64.wrap v / 256^k) % 256:=by rw[k_,DB,Int.fdiv_eq_ediv_of_nonneg _ (Int.le_of_lt (Int.pow_pos (by decide))),show 7-(7-k)=k by omega,Int.pow_mul];rfl
def yK (P:Program)(f:FuncId):Prop:=
 fK P f=true/\∀(F:Nat->Prop)(h:eX)(l:List Int)(b:AV)(v:Int),Rd F h (gq l) b->l.length<=2^42->
  fC P f [b,.aA .i64 v] h λr h'=>eY (gq (l++gO v)) (λm=>h.length<=m) h' r/\gV h' r/\eW eZ h h'
structure fq where
 aA:List Int
 aC:List Int
 aD:List Int
 deriving DecidableEq
def fq.c (x:fq):List D:=[fN x.aA,fN x.aC,fN x.aD]
def fq.aF (x:fq):List Int:=gO x.aA.length++iW x.aA++(gO x.aC.length++iW x.aC)++(gO x.aD.length++iW x.aD)
def uy (P:Program)(f:FuncId):Prop:=
 fK P f=true/\∀(F:Nat->Prop)(h:eX)(l:List Int)(b:AV)(x:fq)(a:List AV),Rd F h (gq l) b->fu F h x.c a->l.length<=2^33->x.aA.length<=2^33->x.aC.length<=2^33->x.aD.length<=2^33->
  fC P f [b,.aF a] h λr h'=>eY (gq (l++x.aF)) (λm=>h.length<=m) h' r/\gV h' r/\eW eZ h h'
theorem NN {P:Program}{f g:FuncId}(hf:Is P f (AA g))(hg:Ee P g):uy P f:=by refine⟨hf.2,λF h l b x a hb ha hl h1 h2 h3=>fS hf ?_⟩;simp only[fq.c,fu]at ha;obtain⟨o,_,rfl,ho,n,_,rfl,hn,e,_,rfl,he,rfl⟩:=ha;simp only[AA,go_sem,ho.aA,hn.aA,he.aA];have A0:=gJ h (some (.aA 3 [[o,n,e]] false));have O:=ho.up (eW.b1 (some (.aA 3 [[o,n,e]] false)));have U:=hn.up (eW.b1 (some (.aA 3 [[o,n,e]] false)));have W:=he.up (eW.b1 (some (.aA 3 [[o,n,e]] false)));have Z:=hb.up (eW.b1 (some (.aA 3 [[o,n,e]] false)));refine fy ⟨hg.1,hg.2 F _ l x.aA _ _ Z O (by omega) (by omega)⟩ ?_;rintro r1 g1 ⟨I,r1c,x1⟩;have A1:=x1.aA A0;simp only[go_sem,A1];refine fy ⟨hg.1,hg.2 (λ_=>True) _ _ x.aC _ _ (eY.rd _ (λ_ _=>Vd) _ I) (Rd.aE (λ_ _=>Vd) (gY.lt _ _) _ _ (U.up x1)) (by simp[js,lL];omega) (by omega)⟩ ?_;rintro r2 g2 ⟨E,r2c,x2⟩;have A2:=x2.aA A1;simp only[go_sem,A2];refine fy ⟨hg.1,hg.2 (λ_=>True) _ _ x.aD _ _ (eY.rd _ (λ_ _=>Vd) _ E) (Rd.aE (λ_ _=>Vd) (gY.lt _ _) _ _ ((W.up x1).up x2)) (by simp[js,lL];omega) (by omega)⟩ ?_;rintro r3 g3 ⟨u,C,x3⟩;simp only[go_sem,x3.aA A2];have xx:=(((eW.b1 _).tr x1).tr x2).tr x3;refine⟨?_,C,xx⟩;have M:=((eW.b1 _).tr x1).tr x2;have:=eY.aC (F':=λm=>h.length<=m) _ (λm hm=>Vh M.1 hm) (λ_ _ _ x=>x) _ u;simpa [fq.aF] using this
def vU (P:Program)(f:FuncId):Prop:=
 fK P f=true/\∀(F:Nat->Prop)(h:eX)(x:fq)(a:List AV),fu F h x.c a->x.aA.length<=2^33->x.aC.length<=2^33->x.aD.length<=2^33->
  fC P f [.aF a] h λr h'=>eY (gq x.aF) (λm=>h.length<=m) h' r/\gV h' r/\eW eZ h h'
theorem GG {P:Program}{f g:FuncId}(hf:Is P f (As g))(hg:uy P g):vU P f:=by refine⟨hf.2,λF h x a ha h1 h2 h3=>fS hf ?_⟩;have u:=ha;simp only[fq.c,fu]at ha;obtain⟨o,_,rfl,ho,n,_,rfl,hn,e,_,rfl,he,rfl⟩:=ha;simp only[As,go_sem,ho.aA,hn.aA,he.aA];refine fy ⟨hg.1,hg.2 F _ [] _ x _ (Rd.aK 1) (u.up (eW.b1 _)) (by simp) h1 h2 h3⟩ ?_;rintro r h2 ⟨ro,rc,x1⟩;simp only[go_sem];rw[Wd]at ro;exact⟨eY.aC _ (λm hm=>by simp at hm;omega) (λ_ _ _ x=>x) _ ro,rc,(eW.b1 _).tr x1⟩
theorem kI {x:fq}{F:Nat->Prop}{h:eX}{a:List AV}(hh:fu F h x.c a):∃o n e,a=[o,n,e]/\Rd F h (fN x.aA) o/\Rd F h (fN x.aC) n/\Rd F h (fN x.aD) e:=by simp only[fq.c,fu]at hh;obtain⟨o,_,rfl,ho,n,_,rfl,hn,e,_,rfl,he,rfl⟩:=hh;exact⟨o,n,e,rfl,ho,hn,he⟩
def uj (P:Program)(f:FuncId):Prop:=
 fK P f=true/\∀(F:Nat->Prop)(h:eX)(x:fq)(a:List AV),fu F h x.c a->x.aA.length<=2^40->x.aC.length<=2^40->x.aD.length<=2^40->
  fC P f [.aF a] h λr h'=>∃o n e,r=.aF [o,n,e]/\eY (fN x.aA) (λk=>h.length<=k) h' o/\eY (fN x.aC) (λk=>h.length<=k) h' n/\eY (fN x.aD) (λk=>h.length<=k) h' e/\eW eZ h h'
theorem Jc {P:Program}{f g:FuncId}(hf:Is P f (zS g))(hg:ot P g .i64):uj P f:=by
 refine⟨hf.2,λF h x a ha l1 l2 l3=>fS hf ?_⟩;obtain⟨o,n,e,rfl,ho,hn,he⟩:=kI ha;simp only[zS,go_sem,ho.aA,hn.aA,he.aA];have A0:=jx h (some (.aA 3 [[o,n,e]] false)) (some (.aA 3 [[.aD,.aD,.aD]] false));have B0:=iF h (some (.aA 3 [[o,n,e]] false)) (some (.aA 3 [[.aD,.aD,.aD]] false));have x0:=eW.b2 (h:=h) (some (.aA 3 [[o,n,e]] false)) (some (.aA 3 [[.aD,.aD,.aD]] false));have u:=ho.up x0;have C:=hn.up x0;have E:=he.up x0;refine fy ⟨hg.1,hg.2 F _ x.aA o u l1⟩ ?_;rintro o' g1 ⟨o1,_,x1⟩;have A1:=x1.aA A0;have B1:=x1.aA B0;simp only[go_sem,A1];refine fy ⟨hg.1,hg.2 F _ x.aC n (C.up x1) l2⟩ ?_;rintro n' g2 ⟨n2,_,x2⟩;have A2:=x2.aA A1;have B2:=x2.aA B1;simp only[go_sem,A2];refine fy ⟨hg.1,hg.2 F _ x.aD e ((E.up x1).up x2) l3⟩ ?_;rintro e' g3 ⟨e3,_,x3⟩;have A3:=x3.aA A2;have B3:=x3.aA B2;have lB:=(UY.1 B3).1;simp only[go_sem,A3,B3,o1.aA,n2.aA,e3.aA,gz o1.aA,gz n2.aA,gz e3.aA,lB];have q0:=x0.1;have q1:=x1.1;have q2:=x2.1;simp only[U1,Vf,Ve]at q0 q1;have st:∀{d:D}{G:Nat->Prop}{av:AV},eY d G g3 av->(∀m,G m->h.length+2<=m)->eY d (λk=>h.length<=k) (g3.set (h.length+1) (some (.aA 3 [[o',n',e']] false))) av:=λhh hG=>eY.aC _ (λm hm=>by have:=hG m hm;omega) (λm hm y hy=>by have:=hG m hm;rw[UZ (by omega)];exact hy) _ hh;refine⟨o',n',e',rfl,st ((o1.up x2).up x3) (λm hm=>?_),st (n2.up x3) (λm hm=>?_),st e3 (λm hm=>?_),(((x0.tr x1).tr x2).tr x3).aG (by omega) _⟩;·simp only[U1,Vf,Ve]at hm;omega
 ·omega
 ·omega
structure fF where
 aE:Int
 aC:Int
 aF:Int
 aA:fA
 aD:fq
 aG:List Int
 deriving DecidableEq
def fF.c (x:fF):List D:=[.aA .i64 x.aE,.aA .i64 x.aC,.aA .i64 x.aF,.aA .i64 x.aA.aA,.aA .i64 x.aA.aD,gK x.aA.es,fN x.aD.aA,fN x.aD.aC,fN x.aD.aD,gq x.aG]
def fF.aH (x:fF)(e o n l s:AV):List AV:=[.aA .i64 x.aE,.aA .i64 x.aC,.aA .i64 x.aF,.aA .i64 x.aA.aA,.aA .i64 x.aA.aD,e,o,n,l,s]
theorem lO {x:fF}{F:Nat->Prop}{h:eX}{a:List AV}(hh:fu F h x.c a):∃e o n l s,a=x.aH e o n l s/\Rd F h (gK x.aA.es) e/\Rd F h (fN x.aD.aA) o/\Rd F h (fN x.aD.aC) n/\Rd F h (fN x.aD.aD) l/\Rd F h (gq x.aG) s:=by simp only[fF.c,qw]at hh;obtain⟨_,rfl,_,rfl,_,rfl,_,rfl,_,rfl,hh⟩:=hh;simp only[fu]at hh;obtain⟨e,_,rfl,he,o,_,rfl,ho,n,_,rfl,hn,l,_,rfl,hl,s,_,rfl,hs,rfl⟩:=hh;exact⟨e,o,n,l,s,rfl,he,ho,hn,hl,hs⟩
theorem s_ {x:fq}{F:Nat->Prop}{h:eX}{o n l:AV}(ho:Rd F h (fN x.aA) o)(hn:Rd F h (fN x.aC) n)(hl:Rd F h (fN x.aD) l):fu F h x.c [o,n,l]:=by simp only[fq.c,fu];exact⟨o,_,rfl,ho,n,_,rfl,hn,l,_,rfl,hl,rfl⟩
mutual
theorem qD (k:Nat):∀d:D,d.av.aJ k=true
 | .aA i n=>by simp only[D.av,AV.aJ]
 | .aE b=>by simp only[D.av,AV.aJ]
 | .aF s=>by simp only[D.av,AV.aJ]
 | .sl sz es=>by simp only[D.av,AV.aJ,IH k es,Vk,decide_true,Xo,Bool.and_self]
theorem Du (k:Nat):∀l:List D,AV.aP k (D.aC l)=true
 | []=>by simp only[D.aC,AV.aP]
 | d :: r=>by simp only[D.aC,AV.aP,qD k d,Du k r,Bool.and_self]
theorem IH (k:Nat):∀l:List (List D),AV.aS k (D.aD l)=true
 | []=>by simp only[D.aD,AV.aS]
 | d :: r=>by simp only[D.aD,AV.aS,Du k d,IH k r,Bool.and_self]
end
theorem Tz (k:Nat)(l:List D):(AV.aF (D.aC l)).aJ k=true:=by simp only[AV.aJ,Du]
def iS (l:List Int):AV:=(gq l).av
def ga (l:List Int):AV:=(fN l).av
def jv (l:List fU):AV:=(gK l).av
theorem tX (l:List Int):(iS l).aH=true:=lI _
theorem nH (l:List Int):(ga l).aH=true:=lI _
theorem qA (l:List fU):(jv l).aH=true:=lI _
theorem Lo (l:List Int):(iS l).aL=some [iS l]:=gz (lI _)
theorem Lt (l:List Int):(ga l).aL=some [ga l]:=gz (lI _)
theorem Lq (l:List fU):(jv l).aL=some [jv l]:=gz (lI _)
theorem kS (F:Nat->Prop)(h:eX)(l:List Int):Rd F h (gq l) (iS l):=rS _ _ _
theorem QS (F:Nat->Prop)(h:eX)(l:List Int):Rd F h (fN l) (ga l):=rS _ _ _
theorem QR (F:Nat->Prop)(h:eX)(l:List fU):Rd F h (gK l) (jv l):=rS _ _ _
theorem OI (l:List Int):ik (iS l)=some (.aA .i64 l.length):=by simpa using (kS eZ [] l).aC
theorem OK (l:List Int):ik (ga l)=some (.aA .i64 l.length):=by simpa using (QS eZ [] l).aC
theorem OJ (l:List fU):ik (jv l)=some (.aA .i64 l.length):=by simpa using (QR eZ [] l).aC
attribute [go_sem] tX nH qA Lo Lt Lq OI OK OJ
def fU.v (e:fU):List AV:=D.aC e.c
def fA.v (l:fA):List AV:=D.aC l.c
def fq.v (x:fq):List AV:=D.aC x.c
def fF.v (x:fF):List AV:=D.aC x.c
theorem EJ (l:List fU):jv l=.aM 0 false 3 (l.map fU.v):=by simp only[jv,gK,D.av,q_,List.map_map];congr 1
theorem fA.aM (l:fA):l.v=[.aA .i64 l.aA,.aA .i64 l.aD,jv l.es]:=by simp only[fA.v,fA.c,D.aC,D.av];rfl
theorem fq.aP (x:fq):x.v=[ga x.aA,ga x.aC,ga x.aD]:=by simp only[fq.v,fq.c,D.aC];rfl
theorem fF.aM (x:fF):x.v=[.aA .i64 x.aE,.aA .i64 x.aC,.aA .i64 x.aF,.aA .i64 x.aA.aA,.aA .i64 x.aA.aD,jv x.aA.es,ga x.aD.aA,ga x.aD.aC,ga x.aD.aD,iS x.aG]:=by simp only[fF.v,fF.c,D.aC,D.av];rfl
theorem Dd (F:Nat->Prop)(h:eX)(l:fA):fu F h l.c l.v:=nG _ _ _
theorem vE (F:Nat->Prop)(h:eX)(x:fq):fu F h x.c x.v:=nG _ _ _
theorem HO (F:Nat->Prop)(h:eX)(x:fF):fu F h x.c x.v:=nG _ _ _
theorem fZ {P:Program}{f:FuncId}{e:List AV}{r:AV}{h:eX}{K:AV->eX->Prop}(hi:fK P f=true)(hc:fC P f e h λr' h'=>r'=r/\h'=h)(hk:K r h):mI P f e h K:=
 fy ⟨hi,hc⟩ λ_ _ ⟨e1,e2⟩=>by subst e1;subst e2;exact hk
def lT (P:Program)(f:FuncId)(avs:List AV)(r:AV):Prop:=∀h,fC P f avs h λr' h'=>r'=r/\h'=h
theorem lT.aA {P:Program}{f:FuncId}{e:List AV}{r:AV}{h:eX}{K:AV->eX->Prop}(hi:fK P f=true)(hc:lT P f e r)(hk:K r h):mI P f e h K:=
 fy ⟨hi,hc h⟩ λ_ _ ⟨e1,e2⟩=>by subst e1;subst e2;exact hk
theorem HF {P:Program}{f:FuncId}{e:List AV}{d:D}(hc:∀h,fC P f e h λr h'=>eY d (λm=>h.length<=m) h' r/\eW eZ h h'):lT P f e d.av:=
 λh=>(hc h).aC λ_ _ hk=>⟨hk.2,_,gU.d (eY.fz d (λ_ x=>x) _ hk.1),rfl⟩
def fq.aG (x:fq)(n:Nat):Prop:=x.aA.length<=n/\x.aC.length<=n/\x.aD.length<=n
def fF.aP (x:fF):Prop:=lU x.aA.es/\x.aD.aG (2^40)/\x.aG.length<=2^40
theorem fq.aW (x y:fq):decide (x=y)=(decide (x.aA=y.aA) && (decide (x.aC=y.aC) && decide (x.aD=y.aD))):=by cases x;cases y;simp[Bool.decide_and]
theorem fF.aS (x y:fF):decide (x=y)=(decide (x.aE=y.aE) && (decide (x.aC=y.aC) && (decide (x.aF=y.aF) && (decide (x.aA=y.aA) && (decide (x.aD=y.aD) && decide (x.aG=y.aG)))))):=by cases x;cases y;simp[Bool.decide_and]
def zd (P:Program)(f:FuncId):Prop:=
 fK P f=true/\∀(F F':Nat->Prop)(h:eX)(x y:fq)(a b:List AV),fu F h x.c a->fu F' h y.c b->x.aG (2^40)->
  fC P f [.aF a,.aF b] h λr h'=>r=.aE (decide (x=y))/\h'=h
theorem JE {P : Program} {f g : FuncId} (hf : Is P f (zZ g)) (hg : pW P g .i64) : zd P f := by
 refine ⟨hf.2, λF F' h x y a b hx hy hl => jG rfl (fS hf ?_)⟩;obtain ⟨o, n, e, rfl, ho, hn, he⟩ := kI (fu.aA (F' := λ_ => True) (λ_ _ => Vd) (gY.lt _ _) _ _ hx);obtain ⟨o', n', e', rfl, ho', hn', he'⟩ := kI (fu.aA (F' := λ_ => True) (λ_ _ => Vd) (gY.lt _ _) _ _ hy);simp only [zZ, go_sem, ho.aA, hn.aA, he.aA, ho'.aA, hn'.aA, he'.aA];repeat' (first
  | refine t_ (λ_ => ?_) (λ_ => ?_)
  | (refine fy ⟨hg.1, hg.2 (λ_ => True) _ x.aA y.aA _ _ (ho.up (eW.b2 _ _)) (ho'.up (eW.b2 _ _)) hl.1⟩ ?_; rintro _ _ ⟨rfl, rfl⟩)
  | (refine fy ⟨hg.1, hg.2 (λ_ => True) _ x.aC y.aC _ _ (hn.up (eW.b2 _ _)) (hn'.up (eW.b2 _ _)) hl.2.1⟩ ?_; rintro _ _ ⟨rfl, rfl⟩)
  | (refine fy ⟨hg.1, hg.2 (λ_ => True) _ x.aD y.aD _ _ (he.up (eW.b2 _ _)) (he'.up (eW.b2 _ _)) hl.2.2⟩ ?_; rintro _ _ ⟨rfl, rfl⟩)
  | simp only [go_sem, *])
 all_goals exact ⟨by simp [fq.aW, *], eW.b2 _ _⟩
def zi (P:Program)(f:FuncId):Prop:=
 fK P f=true/\∀(F F':Nat->Prop)(h:eX)(x y:fF)(a b:List AV),fu F h x.c a->fu F' h y.c b->x.aP->
  fC P f [.aF a,.aF b] h λr h'=>r=.aE (decide (x=y))/\h'=h
theorem vk {x:fA}{F:Nat->Prop}{h:eX}{e:AV}(he:Rd F h (gK x.es) e):fu F h x.c [.aA .i64 x.aA,.aA .i64 x.aD,e]:=by simp only[fA.c,qw];refine⟨_,rfl,_,rfl,?_⟩;simp only[fu];exact⟨e,_,rfl,he,rfl⟩
theorem JG {P : Program} {f g k b : FuncId} (hf : Is P f (z_ g k b)) (hg : Ex P g) (hk : zd P k) (hb : pW P b .u8) : zi P f := by
 refine ⟨hf.2, λF F' h x y a c hx hy hl => jG rfl (fS hf ?_)⟩;obtain ⟨e1, o1, n1, l1, s1, rfl, he1, ho1, hn1, hl1, hs1⟩ := lO (fu.aA (F' := λ_ => True) (λ_ _ => Vd) (gY.lt _ _) _ _ hx);obtain ⟨e2, o2, n2, l2, s2, rfl, he2, ho2, hn2, hl2, hs2⟩ := lO (fu.aA (F' := λ_ => True) (λ_ _ => Vd) (gY.lt _ _) _ _ hy);simp only [z_, fF.aH, go_sem, he1.aA, ho1.aA, hn1.aA, hl1.aA, hs1.aA, he2.aA, ho2.aA, hn2.aA, hl2.aA, hs2.aA];repeat' (first
  | refine t_ (λ_ => ?_) (λ_ => ?_)
  | (refine fy ⟨hg.1, hg.2 (λ_ => True) _ x.aA y.aA _ _ ((vk he1).up (eW.b2 _ _)) ((vk he2).up (eW.b2 _ _)) (by have := hl.1.1; omega) (λe he => by have := hl.1.2 e he; omega)⟩ ?_; rintro _ _ ⟨rfl, rfl⟩)
  | (refine fy ⟨hk.1, hk.2 (λ_ => True) (λ_ => True) _ x.aD y.aD _ _ ((s_ ho1 hn1 hl1).up (eW.b2 _ _)) ((s_ ho2 hn2 hl2).up (eW.b2 _ _)) hl.2.1⟩ ?_; rintro _ _ ⟨rfl, rfl⟩)
  | (refine fy ⟨hb.1, hb.2 (λ_ => True) _ x.aG y.aG _ _ (hs1.up (eW.b2 _ _)) (hs2.up (eW.b2 _ _)) hl.2.2⟩ ?_; rintro _ _ ⟨rfl, rfl⟩)
  | simp only [go_sem, *])
 all_goals exact ⟨by simp [fF.aS, *], eW.b2 _ _⟩
end Glb
