/-
  A library of its own.
-/
import Derived.Test.YtdeiamnhnfmilaaGreatGlbKitA
import Derived.Test.YtdeiamnhnfmilaaGreatGlbLibE
set_option linter.unusedSimpArgs false
set_option linter.unusedVariables false
set_option maxRecDepth 10000
set_option maxHeartbeats 4000000
open Nat (reduceAdd reduceEqDiff)
namespace Glb
open Go
theorem vj {sz bytes:Nat}{F:Nat->Prop}{ds es:List (List D)}{h0 h:eW}{av:AV}{ys:List (List AV)}(ho:eX (.sl sz ds) F h0 av)(hc:gP h0 av)
  (hx:eV eY h0 h) (hy:fG es (λm=>h0.length<=m) h ys) (hF:∀m,h0.length<=m->F m) (hb:(ds.length+es.length)*bytes<=2^46):
  ∃av' h',ij h sz bytes av ys=some (av',h')/\eX (.sl sz (ds++es)) F h' av'/\gP h' av'/\eV F h h':=by
 have hyl:=oE hy;have fresh:∀(hh:eW) (dd:List (List D)) (es':List (List AV)),F hh.length->fG dd F hh es'->
   eX (.sl sz dd) F (gM hh sz es').2 (gM hh sz es').1/\gP (gM hh sz es').2 (gM hh sz es').1:=by
  intro hh dd es' hl hd;have hlen:=oE hd;refine⟨?_,⟨es',true,by simp[gM],(λ_=>rfl),(λc hc=>by cases hc)⟩⟩;simp only[eX,gM];refine .inr (.inr ⟨hh.length,0,none,es',true,by rw[hlen],hl,by simp,by omega,(λc hc=>by cases hc),?_⟩);have:(es'.drop 0).take dd.length=es':=by rw[Vy,UU (by omega)]
  rw[this];refine fG.aA dd (λm hm=>⟨hm.1,by have:=hm.2;omega⟩) ?_ _ (fG.lt dd _ hd);intro m hm x hx;rw[UZ hm.2];exact hx
 simp only[eX]at ho;rcases ho with⟨rfl,rfl⟩ | ⟨t,c,rfl,rfl⟩ | ⟨n,off,cap,row,g,rfl,hn,hrow,hle,hcl,hd⟩
 · -- nothing yet
  have hy':fG es F h ys:=fG.aA es (λm hm=>hF _ hm) (λ_ _ _ x=>x) _ hy;obtain⟨a,b⟩:=fresh h es ys (hF _ hx.1) hy';refine⟨_,_,?_,by simpa using a,b,?_⟩;·simp only[ij];rw[Uv (by rw[hyl];simpa using hb)]
  ·exact eV.aF _ _ _
 ·have hc1:c=true:=hc;subst hc1;have hy':fG es F h ys:=fG.aA es (λm hm=>hF _ hm) (λ_ _ _ x=>x) _ hy;simp only[ij];rw[Uv ⟨UF,by rw[hyl];simpa using hb⟩];by_cases hy0:ys.length=0;·rw[Uv hy0];have hes:es=[]:=Uz (by omega);subst hes;refine⟨_,_,rfl,?_,rfl,eV.aC _ _⟩;simp only[eX];exact .inr (.inl ⟨t,true,rfl,rfl⟩)
  ·rw[Uw hy0,Uv UF];obtain⟨a,b⟩:=fresh h es ys (hF _ hx.1) hy';exact⟨_,_,rfl,by simpa [gM] using a,b,eV.aF _ _ _⟩
 ·obtain⟨row',g',hrow',hcn,hcs⟩:=hc;rw[hrow]at hrow';obtain⟨rfl,rfl⟩:row=row'/\g=g':=by simpa using hrow'
  have hnlt:=(Up.1 hrow).1;have hrow1:h[n]?=some (some (.aA sz row g)):=hx.aA hrow;have hnlt1:=(Up.1 hrow1).1;have hd1:fG ds (λm=>F m/\m≠n) h ((row.drop off).take ds.length):=fG.aA ds (λm hm=>hm) (hx.aE _) _ hd;have hy1:fG es (λm=>F m/\m≠n) h ys:=fG.aA es (λm hm=>⟨hF _ hm,by omega⟩) (λ_ _ _ x=>x) _ hy;have both:fG (ds++es) F h ((row.drop off).take ds.length++ys):=fG.aA _ (λm hm=>hm.1) (λ_ _ _ x=>x) _ (ni hd1 hy1);simp only[ij,hrow1];rw[Uv ⟨UF,UF,hle,by rw[hyl];exact hb⟩];cases cap with
  | none=>
   obtain rfl:=hcn rfl;simp only[Vm];have both':fG (ds++es) F (h.set n none) (row.take ds.length++ys):=by have:=ni hd1 hy1;rw[Vy]at this;exact fG.aA _ (λm hm=>hm.1) (λm hm x hx=>by rw[Uq (λe=>hm.2 e.symm)];exact hx) _ this
   obtain⟨a,b⟩:=fresh (h.set n none) (ds++es) (row.take ds.length++ys) (by rw[UA];exact hF _ hx.1) both';exact⟨_,_,rfl,a,b,(eV.aI none (λ_=>hn)).aD (eV.aF F _ _) (λ_ _ x=>x) (λ_ _ x=>x)⟩
  | some c=>
   have hc1:=hcl c rfl;have hc2:=hcs c rfl;cases c with
   | zero=>
    have h0:ds.length=0:=by omega
    have hds:ds=[]:=Uz h0;subst hds;simp only[UJ,Vm];by_cases hy0:ys.length=0;·rw[Uv hy0];have hes:es=[]:=Uz (by omega);subst hes;refine⟨_,_,rfl,?_,⟨row,g,hrow1,(λe=>by cases e),(λc hc=>by cases hc;omega)⟩,eV.aC _ _⟩;simp only[eX];exact .inr (.inr ⟨n,off,some 0,row,g,rfl,hn,hrow1,by simpa using hle,(λc hc=>by cases hc;simp),by simp[fG]⟩)
    ·rw[Uw hy0];have hy2:fG es F h ys:=fG.aA es (λm hm=>hm.1) (λ_ _ _ x=>x) _ hy1;obtain⟨a,b⟩:=fresh h es ys (hF _ hx.1) hy2;exact⟨_,_,rfl,by simpa [gM] using a,b,eV.aF _ _ _⟩
   | succ c=>
    simp only;by_cases hcap:c+1<ds.length+ys.length;·rw[Uv hcap];obtain⟨a,b⟩:=fresh h (ds++es) _ (hF _ hx.1) both;exact⟨_,_,rfl,a,b,eV.aF _ _ _⟩
    ·rw[Uw hcap,Uv (by omega)];have hsl:(gZ row (off+ds.length) ys).length=row.length:=by simp[gZ];omega
     refine⟨_,_,rfl,?_,⟨_,g,by rw[Ux hnlt1],(λe=>by cases e),(λc' hc'=>by cases hc';rw[hsl];exact hc2)⟩,eV.aI _ (λ_=>hn)⟩;simp only[eX];refine .inr (.inr ⟨n,off,some (c+1),gZ row (off+ds.length) ys,g,by rw[Ut,hyl],hn,by rw[Ux hnlt1],by rw[hsl,Ut];omega,
      (λc' hc'=>by cases hc';rw[Ut];omega),?_⟩)
     have e:((gZ row (off+ds.length) ys).drop off).take (ds++es).length=(row.drop off).take ds.length++ys:=by
      apply Vf;intro i;simp only[Vp,UR,Ut,gZ,Vu,UD,Ut,UP];rw[show min (off+ds.length) row.length=off+ds.length by omega,show min ds.length (row.length-off)=ds.length by omega];by_cases h1:i<ds.length;·rw[Uv (by omega),Uv (by omega),Uv (by omega),Uv (by omega),Uv h1];simp[h1]
      ·by_cases h2:i<ds.length+es.length
       ·rw[Uv h2,Uv (by omega),Uw (by omega),Uw h1];congr 1;omega
       ·rw[Uw h2,Uw h1,U8 (by omega)]
     rw[e];refine fG.aA _ (λm hm=>hm) ?_ _ (ni hd1 hy1);intro m hm x hx;rw[Uq (λe=>hm.2 e.symm)];exact hx
def lI (v:Int)(k:Nat):Int:=IntKind.u8.wrap ((IntKind.u64.wrap v).fdiv (2^(8*(7-k))))
def gJ (v:Int):List Int:=[lI v 0,lI v 1,lI v 2,lI v 3,lI v 4,lI v 5,lI v 6,lI v 7]
theorem jr (v:Int):(gJ v).length=8:=rfl
theorem OL (v:Int)(j:Nat)(hj:j<8):(gJ v)[j]?=some (lI v j):=by
 match j,hj with
 | 0,_=>rfl
 | 1,_=>rfl
 | 2,_=>rfl
 | 3,_=>rfl
 | 4,_=>rfl
 | 5,_=>rfl
 | 6,_=>rfl
 | 7,_=>rfl
theorem HE {α:Type}{l:List α}{j:Nat}{x:α} (h:l[j]?=some x):l.take (j+1)=l.take j++[x]:=by rw[List.take_add_one,h];rfl
def v_ (P:Program)(f:FuncId):Prop:=
 fP P f=true/\∀(lo:Nat)(h:eW)(l:List Int)(b:AV)(v:Int),eX (gj l) (λm=>lo<=m) h b->gP h b->lo<=h.length->l.length<=2^45->
  fC P f [b,.aA .i64 v] h λr h'=>eX (gj (l++gJ v)) (λm=>lo<=m) h' r/\gP h' r/\eV (λm=>lo<=m) h h'
theorem Sm (a b:Int):jx .shr (.aA .u64 a) (.aA .i64 b)=uW .shr .u64 a b:=UE rfl rfl
theorem xz {P:Program}{f:FuncId}(hf:Is P f Ay):v_ P f:=by
 refine⟨hf.2,λlo h l b v hb hc I hl=>fU hf ?_⟩;simp only[Ay,go_sem];refine iM (λm L h'=>∃(j:Nat)(o:AV),lk 0 L=o/\lk 1 L=.aA .i64 v/\lk 5 L=.aA .i64 (7-(j:Int))/\j<=8/\m=8-j /\
  eX (gj (l++(gJ v).take j)) (λm=>lo<=m) h' o/\gP h' o/\eV (λm=>lo<=m) h h') 8 ?_ ?_
 ·exact⟨0,b,by simp[fj,h_],by simp[fj,h_],by simp[fj],by omega,by omega,by simpa using hb,hc,eV.aC _ _⟩
 ·rintro m L h' ⟨j,o,h0,h1,h5,hj,rfl,ho,e,he⟩;simp only[EL,go_sem,h5];refine iw (λci=>?_) (λci=>?_)
  ·simp at ci;have e1:IntKind.i64.wrap (8*(7-(j:Int)))=((8*(7-j):Nat):Int):=by rw[gi (by omega)];omega
   have e2:IntKind.i64.wrap (7-(j:Int)-1)=7-((j+1:Nat):Int):=by rw[gi (by omega)];omega
   have e3:uW .shr .u64 (IntKind.u64.wrap v) ((8*(7-j):Nat):Int)=some (.aA .u64 ((IntKind.u64.wrap v).fdiv (2^(8*(7-j))))):=by simp only[uW];rw[Uw (by omega),Vt,Vk (by simp[IntKind.bits];omega)]
   have e4:IntKind.u8.wrap ((IntKind.u64.wrap v).fdiv (2^(8*(7-j))))=lI v j:=rfl;have M:(l++(gJ v).take j).length=l.length+j:=by simp[jr];omega
   obtain⟨o',h2,ha,u,U,O⟩:=m7 (bytes:=1) (es:=[[.aA .u8 (lI v j)]]) (h:=h'++[some (.aA 1 [[.aA .u8 (lI v j)]] false)]) ho e (eV.aF _ _ _) (ys:=[[.aA .u8 (lI v j)]])
    (by simp[fG,fI,eX]) (UH I he.1) (by rw[UI,M];simp;omega)
   simp only[go_sem,reduceEqDiff,reduceAdd,h0,h1,h5,e1,e2,Sm,e3,e4,DZ,iq (lR h' 1 [[.aA .u8 (lI v j)]] false (some 1) (len:=1) rfl),ha];refine⟨_,?_,j+1,o',rfl,rfl,by omega,rfl,?_,U,?_⟩;·omega
   ·rw[HE (OL v j (by omega)),<-UW,gj,Ve];exact u
   ·exact (he.aD (eV.aF eY h' _) (λ_ _ x=>x) (λ_ _ x=>x.elim)).aD O (λ_ _ x=>x) (λm hm E=>E)
  ·simp at ci;simp only[go_sem,h0];obtain rfl:j=8:=by omega
   exact⟨ho,e,he⟩
def wC (h:eW)(sz bytes:Nat)(zero:List AV):AV->AV->Option (AV×eW)
 | .aA _ l,.aA _ c=>if 0<=l/\l<=c/\c*bytes<=2^46 then some (.aG h.length sz 0 l.toNat (some c.toNat),h++[some (.aA sz (List.replicate c.toNat zero) false)]) else none
 | _,_=>none
theorem FJ (g:fB->AV)(h:eW)(sz bytes:Nat)(zero:List AV)(l c:fB):jX g h (.aF sz bytes zero l c)=wC h sz bytes zero (g l) (g c):=by
 simp only[jX,jy,wC];generalize g l=x;generalize g c=y;cases x<;>cases y<;>simp only;rename_i k l k' c;by_cases q:0<=l/\l<=c/\c*(bytes:Int)<=2^46;·rw[Uv q,Uv q]
 ·rw[Uw q,Uw q]
theorem Ed {h:eW}{sz bytes:Nat}{zero:List AV}{k k':IntKind}{l c:Int}(h0:0<=l)(h1:l<=c)(h2:c*bytes<=2^46):
  wC h sz bytes zero (.aA k l) (.aA k' c)=some (.aG h.length sz 0 l.toNat (some c.toNat),h++[some (.aA sz (List.replicate c.toNat zero) false)]):=by
 simp only[wC];rw[Uv ⟨h0,h1,h2⟩]
theorem O5 {sz:Nat}(h:eW)(c:Nat)(zero:List AV):eX (.sl sz []) (λm=>h.length<=m) (h++[some (.aA sz (List.replicate c zero) false)]) (.aG h.length sz 0 0 (some c)) /\
  gP (h++[some (.aA sz (List.replicate c zero) false)]) (.aG h.length sz 0 0 (some c)):=by
 constructor;·simp only[eX];exact .inr (.inr ⟨h.length,0,some c,List.replicate c zero,false,rfl,Uy _,gH _ _,by simp,(λd hd=>by cases hd;simp),by simp[fG]⟩)
 ·exact⟨_,false,gH _ _,(λhc=>by cases hc),(λd hd=>by cases hd;simp)⟩
theorem vk {n:IntKind}{F G:Nat->Prop}{h h':eW}:∀{l:List Int} {ys:List (List AV)},fY F h (l.map λx=>[.aA n x]) ys->fG (l.map λx=>[.aA n x]) G h' ys:=by
 intro l;induction l with
 | nil=>intro ys hh;simpa [fY,fG] using hh
 | cons x l ih=>intro ys hh;simp only[U5,fY]at hh;obtain⟨e,r,rfl,h1,h2⟩:=hh;simp only[fm,Rd]at h1;obtain⟨_,_,rfl,rfl,rfl⟩:=h1;simp only[U5,fG];exact⟨_,_,rfl,⟨_,_,rfl,by simp only[eX],rfl⟩,ih h2⟩
def wq (P:Program)(f:FuncId):Prop:=
 fP P f=true/\∀(F:Nat->Prop)(h:eW)(l:List Int)(b:AV)(n:Int),Rd F h (gj l) b->l.length<=2^42->0<=n/\n<=2^42->
  fC P f [b,.aA .i64 n] h λr h'=>eX (gj l) (λm=>h.length<=m) h' r/\gP h' r/\eV eY h h'
theorem xI {P:Program}{f:FuncId}(hf:Is P f Az):wq P f:=by refine⟨hf.2,λF h l b n hb hl hn=>fU hf ?_⟩;have lb:=hb.aC;simp only[UI]at lb;have e1:IntKind.i64.wrap ((l.length:Int)+n)=(l.length:Int)+n:=gi (by omega);have hm:=Ed (h:=h) (sz:=1) (bytes:=1) (zero:=[.aA .u8 0]) (k:=.i64) (k':=.i64) (l:=0) (c:=(l.length:Int)+n) (UL 0) (by omega) (by omega);have oe:=O5 (sz:=1) h ((l.length:Int)+n).toNat [.aA .u8 0];obtain⟨ys,u,E⟩:=(hb.up (eV.b1 (some (.aA 1 (List.replicate ((l.length:Int)+n).toNat [.aA .u8 0]) false)))).aH;obtain⟨r,h2,ha,hr,hc,he⟩:=m7 (bytes:=1) oe.1 oe.2 (eV.aC eY _) (vk E) (by simp) (by simp;omega);have e:=iq u 1 (.aG h.length 1 0 0 (some ((l.length:Int)+n).toNat));rw[ha]at e;simp only[Az,go_sem,lb,e1,FJ,hm,Int.toNat_zero,e];exact⟨hr,hc,(eV.b1 _).aJ he (λm hm hm'=>by omega)⟩
def si (P:Program)(f:FuncId):Prop:=
 fP P f=true/\∀(F:Nat->Prop)(h:eW)(l p:List Int)(b a:AV),Rd F h (gj l) b->Rd F h (gj p) a->l.length<=2^41->p.length<=2^41->
  fC P f [b,a] h λr h'=>eX (gj (l++gJ p.length++p)) (λm=>h.length<=m) h' r/\gP h' r/\eV eY h h'
theorem GR {P:Program}{f fr fn:FuncId}(hf:Is P f (Aq fr fn))(hr:wq P fr)(hn:v_ P fn):si P f:=by refine⟨hf.2,λF h l p b a hb ha hl hp=>fU hf ?_⟩;have la:=ha.aC;simp only[UI]at la;have e1:IntKind.i64.wrap (8+(p.length:Int))=8+(p.length:Int):=gi (by omega);simp only[Aq,go_sem,la,e1];refine fA ⟨hr.1,hr.2 F _ l _ _ hb (by omega) (by omega)⟩ ?_;rintro r h1 ⟨ro,rc,x1⟩;simp only[go_sem,la];refine fA ⟨hn.1,hn.2 h.length _ l _ _ ro rc x1.1 (by omega)⟩ ?_;rintro s h2 ⟨so,sc,x2⟩;have e:=x1.aJ x2 (λm hm M=>by omega);obtain⟨ys,E,I⟩:=(ha.up e).aH;obtain⟨t,h3,ht,to,tc,x3⟩:=m7 (bytes:=1) so sc (eV.aC eY _) (vk I) e.1 (by simp[jr];omega);have u:=iq E 1 s;rw[ht]at u;simp only[go_sem,u];refine⟨?_,tc,e.aJ x3 (λm hm M=>by omega)⟩;rw[gj,Ve];exact to
def iT:List Int->List Int
 | []=>[]
 | x :: r=>gJ x++iT r
theorem Ci:∀(a b:List Int),iT (a++b)=iT a++iT b
 | [],b=>rfl
 | x :: r,b=>by simp only[Wo,iT,Ci r b,UW]
theorem lU:∀(a:List Int),(iT a).length=8*a.length
 | []=>rfl
 | x :: r=>by simp only[iT,Ut,jr,lU r,UG];omega
def Dv (P:Program)(f:FuncId):Prop:=
 fP P f=true/\∀(F:Nat->Prop)(h:eW)(l p:List Int)(b a:AV),Rd F h (gj l) b->Rd F h (fM p) a->l.length<=2^38->p.length<=2^38->
  fC P f [b,a] h λr h'=>eX (gj (l++gJ p.length++iT p)) (λm=>h.length<=m) h' r/\gP h' r/\eV eY h h'
theorem Pc {P:Program}{f fr fn:FuncId}(hf:Is P f (As fr fn))(hr:wq P fr)(hn:v_ P fn):Dv P f:=by
 refine⟨hf.2,λF h l p b a hb ha hl hp=>fU hf ?_⟩;have la:=ha.aC;simp only[UI]at la;have e0:IntKind.i64.wrap (8*(p.length:Int))=8*(p.length:Int):=gi (by omega);have e1:IntKind.i64.wrap (8+8*(p.length:Int))=8+8*(p.length:Int):=gi (by omega);simp only[As,go_sem,la,e0,e1];refine fA ⟨hr.1,hr.2 F _ l _ _ hb (by omega) (by omega)⟩ ?_;rintro r h1 ⟨ro,rc,x1⟩;simp only[go_sem,la];refine fA ⟨hn.1,hn.2 h.length _ l _ _ ro rc x1.1 (by omega)⟩ ?_;rintro s h2 ⟨so,sc,x2⟩;have O:=x1.aJ x2 (λm hm W=>by omega);simp only[go_sem,la];refine iM (λm L h'=>∃(i:Nat)(o:AV),lk 17 L=a/\lk 18 L=.aA .i64 p.length/\lk 5 L=o/\lk 19 L=.aA .i64 i/\i<=p.length/\m=p.length-i /\
  eX (gj (l++gJ p.length++iT (p.take i))) (λm=>h.length<=m) h' o/\gP h' o/\eV eY h h') p.length ?_ ?_
 ·exact⟨0,s,by simp[fj],by simp[fj],by simp[fj],by simp[fj],by omega,by omega,by simpa [iT] using so,sc,O⟩
 ·rintro m L h' ⟨i,o,M,I,h5,e,hi,rfl,ho,hc,he⟩;simp only[EI,go_sem,I,e];refine iw (λci=>?_) (λci=>?_)
  ·simp at ci;obtain⟨q,cs,hq,U,E⟩:=(ha.up he).aE .i64 (i:=i) (d:=[.aA .i64 p[i]]) (by omega) (by simp[ci]);simp only[fm,Rd]at E;obtain⟨_,_,rfl,rfl,rfl⟩:=E;have e2:IntKind.i64.wrap ((i:Int)+1)=(i:Int)+1:=gi (by omega);simp only[go_sem,M,h5,e,hq,ju U];refine fA ⟨hn.1,hn.2 h.length _ (l++gJ p.length++iT (p.take i)) _ p[i] ho hc he.1 (by simp[jr,lU];omega)⟩ ?_;rintro u h3 ⟨uo,uc,x3⟩;simp only[go_sem,M,I,h5,e,e2];refine⟨_,?_,i+1,u,rfl,rfl,ci,rfl,?_,uc,he.aJ x3 (λm hm W=>by omega)⟩;·omega
   ·rw[HE (x:=p[i]) (by simp[ci]),Ci];simpa [iT] using uo
  ·simp at ci;simp only[go_sem,h5];obtain rfl:i=p.length:=by omega
   rw[U7]at ho;exact⟨ho,hc,he⟩
theorem HY (x:Int):IntKind.u8.wrap x=x % 256:=by simp[IntKind.wrap,IntKind.bits,IntKind.signed]
theorem xV (x:Int):IntKind.u64.wrap x=x % 18446744073709551616:=by simp[IntKind.wrap,IntKind.bits,IntKind.signed]
theorem Ka (v:Int)(k:Nat)(hk:k<=7):lI v (7-k)=(IntKind.u64.wrap v / 256^k) % 256:=by rw[lI,HY,Int.fdiv_eq_ediv_of_nonneg _ (Int.le_of_lt (Int.pow_pos (by decide))),show 7-(7-k)=k by omega,Int.pow_mul];rfl
def yA (P:Program)(f:FuncId):Prop:=
 fP P f=true/\∀(F:Nat->Prop)(h:eW)(l:List Int)(b:AV)(v:Int),Rd F h (gj l) b->l.length<=2^42->
  fC P f [b,.aA .i64 v] h λr h'=>eX (gj (l++gJ v)) (λm=>h.length<=m) h' r/\gP h' r/\eV eY h h'
structure fq where
 aA:List Int
 aC:List Int
 aD:List Int
 deriving DecidableEq
def fq.c (x:fq):List D:=[fM x.aA,fM x.aC,fM x.aD]
def fq.aG (x:fq):List Int:=gJ x.aA.length++iT x.aA++(gJ x.aC.length++iT x.aC)++(gJ x.aD.length++iT x.aD)
def uj (P:Program)(f:FuncId):Prop:=
 fP P f=true/\∀(F:Nat->Prop)(h:eW)(l:List Int)(b:AV)(x:fq)(a:List AV),Rd F h (gj l) b->fm F h x.c a->l.length<=2^33->x.aA.length<=2^33->x.aC.length<=2^33->x.aD.length<=2^33->
  fC P f [b,.aF a] h λr h'=>eX (gj (l++x.aG)) (λm=>h.length<=m) h' r/\gP h' r/\eV eY h h'
theorem MY {P:Program}{f g:FuncId}(hf:Is P f (Ae g))(hg:Dv P g):uj P f:=by refine⟨hf.2,λF h l b x a hb ha hl h1 h2 h3=>fU hf ?_⟩;simp only[fq.c,fm]at ha;obtain⟨o,_,rfl,ho,n,_,rfl,hn,e,_,rfl,he,rfl⟩:=ha;simp only[Ae,go_sem,ho.aA,hn.aA,he.aA];have A0:=gH h (some (.aA 3 [[o,n,e]] false));have U:=ho.up (eV.b1 (some (.aA 3 [[o,n,e]] false)));have W:=hn.up (eV.b1 (some (.aA 3 [[o,n,e]] false)));have Z:=he.up (eV.b1 (some (.aA 3 [[o,n,e]] false)));have a1:=hb.up (eV.b1 (some (.aA 3 [[o,n,e]] false)));refine fA ⟨hg.1,hg.2 F _ l x.aA _ _ a1 U (by omega) (by omega)⟩ ?_;rintro r1 g1 ⟨M,r1c,x1⟩;have A1:=x1.aA A0;simp only[go_sem,A1];refine fA ⟨hg.1,hg.2 (λ_=>True) _ _ x.aC _ _ (eX.rd _ (λ_ _=>UF) _ M) (Rd.aD (λ_ _=>UF) (gS.lt _ _) _ _ (W.up x1)) (by simp[jr,lU];omega) (by omega)⟩ ?_;rintro r2 g2 ⟨I,r2c,x2⟩;have A2:=x2.aA A1;simp only[go_sem,A2];refine fA ⟨hg.1,hg.2 (λ_=>True) _ _ x.aD _ _ (eX.rd _ (λ_ _=>UF) _ I) (Rd.aD (λ_ _=>UF) (gS.lt _ _) _ _ ((Z.up x1).up x2)) (by simp[jr,lU];omega) (by omega)⟩ ?_;rintro r3 g3 ⟨u,E,x3⟩;simp only[go_sem,x3.aA A2];have xx:=(((eV.b1 _).tr x1).tr x2).tr x3;refine⟨?_,E,xx⟩;have O:=((eV.b1 _).tr x1).tr x2;have:=eX.aC (F':=λm=>h.length<=m) _ (λm hm=>UH O.1 hm) (λ_ _ _ x=>x) _ u;simpa [fq.aG] using this
def yj (P:Program)(f:FuncId):Prop:=
 fP P f=true/\∀(F:Nat->Prop)(h:eW)(x:fq)(a:List AV),fm F h x.c a->x.aA.length<=2^33->x.aC.length<=2^33->x.aD.length<=2^33->
  fC P f [.aF a] h λr h'=>eX (gj x.aG) (λm=>h.length<=m) h' r/\gP h' r/\eV eY h h'
theorem MV {P:Program}{f g:FuncId}(hf:Is P f (zZ g))(hg:uj P g):yj P f:=by refine⟨hf.2,λF h x a ha h1 h2 h3=>fU hf ?_⟩;have u:=ha;simp only[fq.c,fm]at ha;obtain⟨o,_,rfl,ho,n,_,rfl,hn,e,_,rfl,he,rfl⟩:=ha;simp only[zZ,go_sem,ho.aA,hn.aA,he.aA];refine fA ⟨hg.1,hg.2 F _ [] _ x _ (Rd.aK 1) (u.up (eV.b1 _)) (by simp) h1 h2 h3⟩ ?_;rintro r h2 ⟨ro,rc,x1⟩;simp only[go_sem];rw[VH]at ro;exact⟨eX.aC _ (λm hm=>by simp at hm;omega) (λ_ _ _ x=>x) _ ro,rc,(eV.b1 _).tr x1⟩
theorem n_ {x:fq}{F:Nat->Prop}{h:eW}{a:List AV}(hh:fm F h x.c a):∃o n e,a=[o,n,e]/\Rd F h (fM x.aA) o/\Rd F h (fM x.aC) n/\Rd F h (fM x.aD) e:=by simp only[fq.c,fm]at hh;obtain⟨o,_,rfl,ho,n,_,rfl,hn,e,_,rfl,he,rfl⟩:=hh;exact⟨o,n,e,rfl,ho,hn,he⟩
def t_ (P:Program)(f:FuncId):Prop:=
 fP P f=true/\∀(F:Nat->Prop)(h:eW)(x:fq)(a:List AV),fm F h x.c a->x.aA.length<=2^40->x.aC.length<=2^40->x.aD.length<=2^40->
  fC P f [.aF a] h λr h'=>∃o n e,r=.aF [o,n,e]/\eX (fM x.aA) (λk=>h.length<=k) h' o/\eX (fM x.aC) (λk=>h.length<=k) h' n/\eX (fM x.aD) (λk=>h.length<=k) h' e/\eV eY h h'
theorem Io {P:Program}{f g:FuncId}(hf:Is P f (zq g))(hg:mQ P g .i64):t_ P f:=by
 refine⟨hf.2,λF h x a ha l1 l2 l3=>fU hf ?_⟩;obtain⟨o,n,e,rfl,ho,hn,he⟩:=n_ ha;simp only[zq,go_sem,ho.aA,hn.aA,he.aA];have A0:=jJ h (some (.aA 3 [[o,n,e]] false)) (some (.aA 3 [[.aD,.aD,.aD]] false));have B0:=iO h (some (.aA 3 [[o,n,e]] false)) (some (.aA 3 [[.aD,.aD,.aD]] false));have x0:=eV.b2 (h:=h) (some (.aA 3 [[o,n,e]] false)) (some (.aA 3 [[.aD,.aD,.aD]] false));have u:=ho.up x0;have E:=hn.up x0;have I:=he.up x0;refine fA ⟨hg.1,hg.2 F _ x.aA o u l1⟩ ?_;rintro o' g1 ⟨o1,_,x1⟩;have A1:=x1.aA A0;have B1:=x1.aA B0;simp only[go_sem,A1];refine fA ⟨hg.1,hg.2 F _ x.aC n (E.up x1) l2⟩ ?_;rintro n' g2 ⟨n2,_,x2⟩;have A2:=x2.aA A1;have B2:=x2.aA B1;simp only[go_sem,A2];refine fA ⟨hg.1,hg.2 F _ x.aD e ((I.up x1).up x2) l3⟩ ?_;rintro e' g3 ⟨e3,_,x3⟩;have A3:=x3.aA A2;have B3:=x3.aA B2;have lB:=(Up.1 B3).1;simp only[go_sem,A3,B3,o1.aA,n2.aA,e3.aA,gC o1.aA,gC n2.aA,gC e3.aA,lB];have q0:=x0.1;have q1:=x1.1;have q2:=x2.1;simp only[Ut,UG,UJ]at q0 q1;have st:∀{d:D}{G:Nat->Prop}{av:AV},eX d G g3 av->(∀m,G m->h.length+2<=m)->eX d (λk=>h.length<=k) (g3.set (h.length+1) (some (.aA 3 [[o',n',e']] false))) av:=λhh hG=>eX.aC _ (λm hm=>by have:=hG m hm;omega) (λm hm y hy=>by have:=hG m hm;rw[Uq (by omega)];exact hy) _ hh;refine⟨o',n',e',rfl,st ((o1.up x2).up x3) (λm hm=>?_),st (n2.up x3) (λm hm=>?_),st e3 (λm hm=>?_),(((x0.tr x1).tr x2).tr x3).aH (by omega) _⟩;·simp only[Ut,UG,UJ]at hm;omega
 ·omega
 ·omega
structure fF where
 aE:Int
 aC:Int
 aF:Int
 aA:fu
 aD:fq
 aG:List Int
 deriving DecidableEq
def fF.c (x:fF):List D:=[.aA .i64 x.aE,.aA .i64 x.aC,.aA .i64 x.aF,.aA .i64 x.aA.aA,.aA .i64 x.aA.aD,gN x.aA.es,fM x.aD.aA,fM x.aD.aC,fM x.aD.aD,gj x.aG]
def fF.aH (x:fF)(e o n l s:AV):List AV:=[.aA .i64 x.aE,.aA .i64 x.aC,.aA .i64 x.aF,.aA .i64 x.aA.aA,.aA .i64 x.aA.aD,e,o,n,l,s]
theorem m9 {x:fF}{F:Nat->Prop}{h:eW}{a:List AV}(hh:fm F h x.c a):∃e o n l s,a=x.aH e o n l s/\Rd F h (gN x.aA.es) e/\Rd F h (fM x.aD.aA) o/\Rd F h (fM x.aD.aC) n/\Rd F h (fM x.aD.aD) l/\Rd F h (gj x.aG) s:=by simp only[fF.c,qD]at hh;obtain⟨_,rfl,_,rfl,_,rfl,_,rfl,_,rfl,hh⟩:=hh;simp only[fm]at hh;obtain⟨e,_,rfl,he,o,_,rfl,ho,n,_,rfl,hn,l,_,rfl,hl,s,_,rfl,hs,rfl⟩:=hh;exact⟨e,o,n,l,s,rfl,he,ho,hn,hl,hs⟩
theorem s_ {x:fq}{F:Nat->Prop}{h:eW}{o n l:AV}(ho:Rd F h (fM x.aA) o)(hn:Rd F h (fM x.aC) n)(hl:Rd F h (fM x.aD) l):fm F h x.c [o,n,l]:=by simp only[fq.c,fm];exact⟨o,_,rfl,ho,n,_,rfl,hn,l,_,rfl,hl,rfl⟩
mutual
theorem qK (k:Nat):∀d:D,d.av.aJ k=true
 | .aA i n=>by simp only[D.av,AV.aJ]
 | .aE b=>by simp only[D.av,AV.aJ]
 | .aF s=>by simp only[D.av,AV.aJ]
 | .sl sz es=>by simp only[D.av,AV.aJ,HM k es,UK,decide_true,WK,Bool.and_self]
theorem CQ (k:Nat):∀l:List D,AV.aP k (D.aC l)=true
 | []=>by simp only[D.aC,AV.aP]
 | d :: r=>by simp only[D.aC,AV.aP,qK k d,CQ k r,Bool.and_self]
theorem HM (k:Nat):∀l:List (List D),AV.aS k (D.aD l)=true
 | []=>by simp only[D.aD,AV.aS]
 | d :: r=>by simp only[D.aD,AV.aS,CQ k d,HM k r,Bool.and_self]
end
theorem SW (k:Nat)(l:List D):(AV.aF (D.aC l)).aJ k=true:=by simp only[AV.aJ,CQ]
def i9 (l:List Int):AV:=(gj l).av
def gG (l:List Int):AV:=(fM l).av
def ki (l:List fT):AV:=(gN l).av
theorem vC (l:List Int):(i9 l).aH=true:=lS _
theorem rW (l:List Int):(gG l).aH=true:=lS _
theorem rV (l:List fT):(ki l).aH=true:=lS _
theorem KL (l:List Int):(i9 l).aK=some [i9 l]:=gC (lS _)
theorem KQ (l:List Int):(gG l).aK=some [gG l]:=gC (lS _)
theorem KN (l:List fT):(ki l).aK=some [ki l]:=gC (lS _)
theorem kZ (F:Nat->Prop)(h:eW)(l:List Int):Rd F h (gj l) (i9 l):=vv _ _ _
theorem P7 (F:Nat->Prop)(h:eW)(l:List Int):Rd F h (fM l) (gG l):=vv _ _ _
theorem P6 (F:Nat->Prop)(h:eW)(l:List fT):Rd F h (gN l) (ki l):=vv _ _ _
theorem NX (l:List Int):ik (i9 l)=some (.aA .i64 l.length):=by simpa using (kZ eY [] l).aC
theorem NZ (l:List Int):ik (gG l)=some (.aA .i64 l.length):=by simpa using (P7 eY [] l).aC
theorem NY (l:List fT):ik (ki l)=some (.aA .i64 l.length):=by simpa using (P6 eY [] l).aC
attribute [go_sem] vC rW rV KL KQ KN NX NZ NY
def fu.v (l:fu):List AV:=D.aC l.c
def fq.v (x:fq):List AV:=D.aC x.c
def fF.v (x:fF):List AV:=D.aC x.c
theorem fu.aM (l:fu):l.v=[.aA .i64 l.aA,.aA .i64 l.aD,ki l.es]:=by simp only[fu.v,fu.c,D.aC,D.av];rfl
theorem fq.aK (x:fq):x.v=[gG x.aA,gG x.aC,gG x.aD]:=by simp only[fq.v,fq.c,D.aC];rfl
theorem fF.aL (x:fF):x.v=[.aA .i64 x.aE,.aA .i64 x.aC,.aA .i64 x.aF,.aA .i64 x.aA.aA,.aA .i64 x.aA.aD,ki x.aA.es,gG x.aD.aA,gG x.aD.aC,gG x.aD.aD,i9 x.aG]:=by simp only[fF.v,fF.c,D.aC,D.av];rfl
theorem CD (F:Nat->Prop)(h:eW)(l:fu):fm F h l.c l.v:=rQ _ _ _
theorem tO (F:Nat->Prop)(h:eW)(x:fq):fm F h x.c x.v:=rQ _ _ _
theorem G8 (F:Nat->Prop)(h:eW)(x:fF):fm F h x.c x.v:=rQ _ _ _
theorem gh {P:Program}{f:FuncId}{e:List AV}{r:AV}{h:eW}{K:AV->eW->Prop}(hi:fP P f=true)(hc:fC P f e h λr' h'=>r'=r/\h'=h)(hk:K r h):mN P f e h K:=
 fA ⟨hi,hc⟩ λ_ _ ⟨e1,e2⟩=>by subst e1;subst e2;exact hk
def nk (P:Program)(f:FuncId)(avs:List AV)(r:AV):Prop:=∀h,fC P f avs h λr' h'=>r'=r/\h'=h
theorem nk.aA {P:Program}{f:FuncId}{e:List AV}{r:AV}{h:eW}{K:AV->eW->Prop}(hi:fP P f=true)(hc:nk P f e r)(hk:K r h):mN P f e h K:=
 fA ⟨hi,hc h⟩ λ_ _ ⟨e1,e2⟩=>by subst e1;subst e2;exact hk
theorem GV {P:Program}{f:FuncId}{e:List AV}{d:D}(hc:∀h,fC P f e h λr h'=>eX d (λm=>h.length<=m) h' r/\eV eY h h'):nk P f e d.av:=
 λh=>(hc h).aC λ_ _ hk=>⟨hk.2,_,gY.d (eX.fz d (λ_ x=>x) _ hk.1),rfl⟩
def fq.aH (x:fq)(n:Nat):Prop:=x.aA.length<=n/\x.aC.length<=n/\x.aD.length<=n
def fF.aN (x:fF):Prop:=me x.aA.es/\x.aD.aH (2^40)/\x.aG.length<=2^40
theorem fq.aW (x y:fq):decide (x=y)=(decide (x.aA=y.aA) && (decide (x.aC=y.aC) && decide (x.aD=y.aD))):=by cases x;cases y;simp[Bool.decide_and]
theorem fF.aT (x y:fF):decide (x=y)=(decide (x.aE=y.aE) && (decide (x.aC=y.aC) && (decide (x.aF=y.aF) && (decide (x.aA=y.aA) && (decide (x.aD=y.aD) && decide (x.aG=y.aG)))))):=by cases x;cases y;simp[Bool.decide_and]
def yU (P:Program)(f:FuncId):Prop:=
 fP P f=true/\∀(F F':Nat->Prop)(h:eW)(x y:fq)(a b:List AV),fm F h x.c a->fm F' h y.c b->x.aH (2^40)->
  fC P f [.aF a,.aF b] h λr h'=>r=.aE (decide (x=y))/\h'=h
theorem IU {P : Program} {f g : FuncId} (hf : Is P f (zC g)) (hg : p7 P g .i64) : yU P f := by
 refine ⟨hf.2, λF F' h x y a b hx hy hl => jN rfl (fU hf ?_)⟩;obtain ⟨o, n, e, rfl, ho, hn, he⟩ := n_ (fm.aA (F' := λ_ => True) (λ_ _ => UF) (gS.lt _ _) _ _ hx);obtain ⟨o', n', e', rfl, ho', hn', he'⟩ := n_ (fm.aA (F' := λ_ => True) (λ_ _ => UF) (gS.lt _ _) _ _ hy);simp only [zC, go_sem, ho.aA, hn.aA, he.aA, ho'.aA, hn'.aA, he'.aA];repeat' (first
  | refine tY (λ_ => ?_) (λ_ => ?_)
  | (refine fA ⟨hg.1, hg.2 (λ_ => True) _ x.aA y.aA _ _ (ho.up (eV.b2 _ _)) (ho'.up (eV.b2 _ _)) hl.1⟩ ?_; rintro _ _ ⟨rfl, rfl⟩)
  | (refine fA ⟨hg.1, hg.2 (λ_ => True) _ x.aC y.aC _ _ (hn.up (eV.b2 _ _)) (hn'.up (eV.b2 _ _)) hl.2.1⟩ ?_; rintro _ _ ⟨rfl, rfl⟩)
  | (refine fA ⟨hg.1, hg.2 (λ_ => True) _ x.aD y.aD _ _ (he.up (eV.b2 _ _)) (he'.up (eV.b2 _ _)) hl.2.2⟩ ?_; rintro _ _ ⟨rfl, rfl⟩)
  | simp only [go_sem, *])
 all_goals exact ⟨by simp [fq.aW, *], eV.b2 _ _⟩
def yW (P:Program)(f:FuncId):Prop:=
 fP P f=true/\∀(F F':Nat->Prop)(h:eW)(x y:fF)(a b:List AV),fm F h x.c a->fm F' h y.c b->x.aN->
  fC P f [.aF a,.aF b] h λr h'=>r=.aE (decide (x=y))/\h'=h
theorem u_ {x:fu}{F:Nat->Prop}{h:eW}{e:AV}(he:Rd F h (gN x.es) e):fm F h x.c [.aA .i64 x.aA,.aA .i64 x.aD,e]:=by simp only[fu.c,qD];refine⟨_,rfl,_,rfl,?_⟩;simp only[fm];exact⟨e,_,rfl,he,rfl⟩
theorem IW {P : Program} {f g k b : FuncId} (hf : Is P f (zG g k b)) (hg : DL P g) (hk : yU P k) (hb : p7 P b .u8) : yW P f := by
 refine ⟨hf.2, λF F' h x y a c hx hy hl => jN rfl (fU hf ?_)⟩;obtain ⟨e1, o1, n1, l1, s1, rfl, he1, ho1, hn1, hl1, hs1⟩ := m9 (fm.aA (F' := λ_ => True) (λ_ _ => UF) (gS.lt _ _) _ _ hx);obtain ⟨e2, o2, n2, l2, s2, rfl, he2, ho2, hn2, hl2, hs2⟩ := m9 (fm.aA (F' := λ_ => True) (λ_ _ => UF) (gS.lt _ _) _ _ hy);simp only [zG, fF.aH, go_sem, he1.aA, ho1.aA, hn1.aA, hl1.aA, hs1.aA, he2.aA, ho2.aA, hn2.aA, hl2.aA, hs2.aA];repeat' (first
  | refine tY (λ_ => ?_) (λ_ => ?_)
  | (refine fA ⟨hg.1, hg.2 (λ_ => True) _ x.aA y.aA _ _ ((u_ he1).up (eV.b2 _ _)) ((u_ he2).up (eV.b2 _ _)) (by have := hl.1.1; omega) (λe he => by have := hl.1.2 e he; omega)⟩ ?_; rintro _ _ ⟨rfl, rfl⟩)
  | (refine fA ⟨hk.1, hk.2 (λ_ => True) (λ_ => True) _ x.aD y.aD _ _ ((s_ ho1 hn1 hl1).up (eV.b2 _ _)) ((s_ ho2 hn2 hl2).up (eV.b2 _ _)) hl.2.1⟩ ?_; rintro _ _ ⟨rfl, rfl⟩)
  | (refine fA ⟨hb.1, hb.2 (λ_ => True) _ x.aG y.aG _ _ (hs1.up (eV.b2 _ _)) (hs2.up (eV.b2 _ _)) hl.2.2⟩ ?_; rintro _ _ ⟨rfl, rfl⟩)
  | simp only [go_sem, *])
 all_goals exact ⟨by simp [fF.aT, *], eV.b2 _ _⟩
end Glb
