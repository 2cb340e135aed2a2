/-
  A library of its own.
-/
import Derived.Test.YtdeiamnhnfmilaaGreatGlbNetA
set_option linter.unusedSimpArgs false
set_option linter.unusedVariables false
set_option maxRecDepth 10000
set_option maxHeartbeats 8000000
namespace Glb
open Go
def RX.aB (x:RX)(g f ma ca e co cn cl sn:AV):List AV:=[.aA .i64 x.r.id,.aA .i64 x.r.aA.aD,.aA .i64 x.r.aA.aB,.aA .i64 x.r.aA.aE,.aA .i64 x.r.aA.aA.aA,.aA .i64 x.r.aA.aA.aB,e,co,cn,cl,sn,
 .aA .i64 x.r.aI,.aA .i64 x.r.aO,.aA .i64 x.r.aM,.aA .i64 x.r.aW,.aA .i64 x.r.aF,.aA .i64 x.r.aT,g,f,.aA .i64 x.r.aL,.aA .i64 x.r.aN,ma,ca,.aB,.aA .i64 0,.aD x.o.aB]
def dl (x:RX)(g f ma ca e co cn cl sn:AV):List (Nat×D×AV):=[(1,fK x.r.aG,g),(2,ig x.r.aB,f),(3,ks x.o.aD,ma),(4,jQ x.o.aC,ca),(5,f_ x.r.aA.aA.es,e),(6,fK x.r.aA.aC.aA,co),(7,fK x.r.aA.aC.aB,cn),(8,fK x.r.aA.aC.aC,cl),(9,fT x.r.aA.aF,sn)]
def oq (F:Nat->Prop)(h:eZ)(sz:Nat)(v:AV)(es:List (List AV)):Prop:=kQ F h sz v es\/∃t,v=.aL t true sz []/\es=[]
section
variable {F F':Nat->Prop} {h h' h0:eZ} {sz:Nat} {v:AV} {es:List (List AV)}
theorem oq.aA (c:oq F h sz v es)(hF:∀m,F m->m<h.length->F' m) (hk:∀m,F m->m<h.length->h'[m]?=h[m]?):oq F' h' sz v es:=c.imp (λc=>c.aC hF hk) λc=>c
theorem oq.aB (c:oq F h sz v es):v.aG=true:=by
 rcases c with c | ⟨t,rfl,-⟩;·exact c.aD
 ·rfl
theorem oq.aC {bytes:Nat}{ys:List (List AV)}(c:oq F h0 sz v es)(hx:eY fj h0 h)(hb:(es.length+ys.length)*bytes<=2^46):
  ∃v' h',iL h sz bytes v ys=some (v',h')/\oq (λm=>(F m/\m<h.length)\/h.length<=m) h' sz v' (es++ys)/\eY F h h':=by
 rcases c with c | ⟨t,rfl,rfl⟩;·obtain⟨v',h',a,b,d⟩:=c.aA (bytes:=bytes) hx hb;exact⟨v',h',a,.inl b,d⟩
 ·by_cases e:ys=[]
  ·subst e;exact⟨_,h,by simp[iL],.inr ⟨t,rfl,rfl⟩,eY.aC _ _⟩
  ·obtain⟨v',h',a,b,d⟩:=(kQ.aB (F:=F) (h:=h0) (sz:=sz)).aA (bytes:=bytes) hx hb;have l:¬ys.length=0:=λz=>e (Vl z);refine⟨v',h',?_,.inl b,d⟩;rw[<-a];simp only[VN,WT]at hb;simp[iL,hb,l]
end
def iY (L:Nat->Nat)(h:eZ)(p:Nat×D×AV):Prop:=(p.1<=5->∃sz ds rows,p.2.1=.sl sz ds/\oq (λm=>L m=p.1) h sz p.2.2 rows/\gC (Zs L h) h ds rows)/\(5<p.1->Rd (Zs L h) h p.2.1 p.2.2)
structure gT (L:Nat->Nat)(h:eZ)(r:Nat)(x:RX)(g f ma ca e co cn cl sn:AV):Prop where
 aA:h[r]?=some (some (.aA 26 [x.aB g f ma ca e co cn cl sn] false))
 aB:∀p∈dl x g f ma ca e co cn cl sn,iY L h p
 lr:L r=10
 lt:∀m,L m≠0->m<h.length
def DX (L:Nat->Nat)(h:eZ)(r:Nat)(x:RX):Prop:=∃g f ma ca e co cn cl sn,gT L h r x g f ma ca e co cn cl sn
def fX (L:Nat->Nat)(h:eZ)(r:Nat)(x:RX)(h':eZ):Prop:=∃L',DX L' h' r x/\(∀m,m<h.length->L' m=L m)/\eY (λm=>L m≠0/\L m≠11) h h'
section
variable {L L':Nat->Nat} {h h' h'':eZ} {r:Nat} {x x':RX} {g f ma ca e co cn cl sn g' f' ma' ca' e' co' cn' cl' sn':AV}
theorem kt {p:Nat×D×AV}(hp:p∈dl x g f ma ca e co cn cl sn):1<=p.1/\p.1<=9:=by simp only[dl,VR,Xl,or_false]at hp;rcases hp with rfl | rfl | rfl | rfl | rfl | rfl | rfl | rfl | rfl<;>simp
theorem GK:∀{j:Nat}{p:Nat×D×AV},(dl x g f ma ca e co cn cl sn)[j]?=some p->p.1=j+1
 | 0,_,e | 1,_,e | 2,_,e | 3,_,e | 4,_,e | 5,_,e | 6,_,e | 7,_,e | 8,_,e=>by simp only[dl,VB,VZ,Vk]at e;subst e;rfl
 | n+9,_,e=>by simp[dl]at e
theorem iY.aA {p:Nat×D×AV}(hp:1<=p.1/\p.1<=9)(a:iY L h p)(hl:h.length<=h'.length)(hL:∀m,m<h.length->L' m=L m) (hk:∀m,m<h.length->L m=0\/(L m=p.1/\p.1<=5)->h'[m]?=h[m]?):iY L' h' p:=by have zz:∀m,Zs L h m->Zs L' h' m:=λm hm=>⟨(hL m hm.2).trans hm.1,Vy hm.2 hl⟩;have kz:gz (Zs L h) h h':=λm hm y hy=>(hk m hm.2 (.inl hm.1)).trans hy;refine⟨λz=>?_,λz=>Rd.aC zz kz _ _ (a.2 z)⟩;obtain⟨sz,ds,rows,e,c,d⟩:=a.1 z;exact⟨sz,ds,rows,e,c.aA (λm hm hlt=>(hL m hlt).trans hm) (λm hm hlt=>hk m hlt (.inr ⟨hm,z⟩)),gC.aA zz kz _ _ d⟩
theorem iY.aB (L:Nat->Nat)(h:eZ)(k sz:Nat):iY L h (k,.sl sz [],.aB):=⟨λ_=>⟨sz,[],[],rfl,.inl .aB,rfl⟩,λ_=>iS _ _ _⟩
theorem iY.aD {p:Nat×D×AV}(a:iY L h p)(hd:∃sz ds,p.2.1=.sl sz ds):p.2.2.aG=true:=by
 by_cases c:p.1<=5
 ·obtain⟨_,_,_,-,c,-⟩:=a.1 c;exact c.aB
 ·obtain⟨sz,ds,e⟩:=hd;have:=a.2 (by omega);rw[e]at this;exact this.aA
theorem iY.rd {p:Nat×D×AV}(a:iY L h p):Rd (λm=>(L m=p.1\/L m=0)/\m<h.length) h p.2.1 p.2.2:=by
 by_cases c:p.1<=5
 ·obtain⟨sz,ds,rows,e,c,d⟩:=a.1 c;rw[e];simp only[Rd];refine⟨rows,?_,gC.aA (λm hm=>⟨.inr hm.1,hm.2⟩) (λ_ _ _ y=>y) _ _ d⟩;rcases c with (⟨e1,e2⟩ | ⟨n,off,cap,row,g,e1,h2,h3,h4,h5,h6,h7,h8⟩) | ⟨t,e1,e2⟩;·exact .inl ⟨e1,e2⟩
  ·exact .inr (.inr ⟨n,off,_,cap,row,g,e1,⟨.inl h2,(U_.1 h3).1⟩,h3,h4,h5,h8.symm⟩)
  ·exact .inr (.inl ⟨t,true,by rw[e1,e2]⟩)
 ·exact Rd.aC (λm hm=>⟨.inr hm.1,hm.2⟩) (λ_ _ _ y=>y) _ _ (a.2 (by omega))
theorem gT.up (a:gT L h r x g f ma ca e co cn cl sn)(hx:eY fj h h'):gT L h' r x g f ma ca e co cn cl sn:=
 ⟨hx.aA a.aA,λp hp=>(a.aB p hp).aA (kt hp) hx.1 (λ_ _=>rfl) λm hm _=>hx.2 m hm (λy=>y),a.lr,λm hm=>Vy (a.lt m hm) hx.1⟩
theorem DX.up (a:DX L h r x)(hx:eY fj h h'):DX L h' r x:=let⟨g,f,ma,ca,e,co,cn,cl,sn,b⟩:=a;⟨g,f,ma,ca,e,co,cn,cl,sn,b.up hx⟩
theorem DX.to (a:DX L h r x):fX L h r x h:=⟨L,a,λ_ _=>rfl,eY.aC _ _⟩
theorem fX.aE (l1:∀m,m<h.length->L' m=L m)(e1:eY (λm=>L m≠0/\L m≠11) h h')(b:fX L' h' r x h''):fX L h r x h'':=by obtain⟨L2,x2,l2,e2⟩:=b;have hh:=e1.1;exact⟨L2,x2,λm hm=>(l2 m (by omega)).trans (l1 m hm),e1.aB e2 (λ_ _ y=>y) λm hm y=>by rw[<-l1 m hm];exact y⟩
theorem fX.up (a:fX L h r x h')(hx:eY fj h' h''):fX L h r x h'':=let⟨L1,x1,l1,e1⟩:=a;⟨L1,x1.up hx,l1,e1.aB hx (λ_ _ y=>y) (λ_ _ y=>y.elim)⟩
theorem fX.aB (hx:eY fj h h')(a:fX L h' r x h''):fX L h r x h'':=by obtain⟨L1,x1,l1,e1⟩:=a;have hh:=hx.1;exact⟨L1,x1,λm hm=>l1 m (by omega),hx.aB e1 (λ_ _ y=>y.elim) (λ_ _ y=>y)⟩
theorem fX.aA {P:Program}{ff:FuncId}{t:List AV}(a:fX L h r x h')(hc:∀L',DX L' h' r x->fy P ff t h' λ_ h''=>fX L' h' r x' h''):fy P ff t h' λ_ h''=>fX L h r x' h'':=by obtain⟨L1,x1,l1,e1⟩:=a;exact (hc L1 x1).aA λv h'' b=>fX.aE l1 e1 b
def su (l:List (Nat×D×AV))(j:Nat):List (Nat×D×AV):=l.set j (j+1,.sl ([1,4,17,17].getD j 1) [],.aB)
theorem xb {p:Nat×D×AV}:∀{js:List Nat} {l:List (Nat×D×AV)},p∈js.foldl su l->p∈l\/∃k sz,p=(k,.sl sz [],.aB)
 | [],_,h=>.inl h
 | j :: js,l,h=>by
  rcases xb (js:=js) (l:=su l j) h with c | c
  ·rcases WK c with d | d;·exact .inl d
   ·exact .inr ⟨_,_,d⟩
  ·exact .inr c
theorem gT.aD (a:gT L h r x g f ma ca e co cn cl sn)(js:List Nat)(hp:dl x' g' f' ma' ca' e' co' cn' cl' sn'=js.foldl su (dl x g f ma ca e co cn cl sn)):
  fX L h r x' (h.set r (some (.aA 26 [x'.aB g' f' ma' ca' e' co' cn' cl' sn'] false))):=by
 have lr:=(U_.1 a.aA).1;refine⟨L,⟨g',f',ma',ca',e',co',cn',cl',sn',Vd lr,λp h1=>?_,a.lr,λm hm=>by rw[Vh];exact a.lt m hm⟩,λ_ _=>rfl,eY.aG _ λ_=>by show L r≠0/\L r≠11;rw[a.lr];decide⟩;rw[hp]at h1;rcases xb h1 with c | ⟨k,sz,rfl⟩;·have d:=kt c;exact (a.aB p c).aA d (by rw[Vh];exact Vg _) (λ_ _=>rfl) λm hm hl=>Vb (by rintro rfl;rw[a.lr]at hl;omega)
 ·exact iY.aB L _ k sz
theorem gT.aE (a:gT L h r x g f ma ca e co cn cl sn){k sz bytes:Nat}{ds es:List (List D)}{c:AV} (hj:(dl x g f ma ca e co cn cl sn)[k-1]?=some (k,.sl sz ds,c)) (W:k<=5) {h1:eZ} (hx:eY fj h h1) {ys:List (List AV)} (hy:gC (λm=>L m=0/\m<h1.length) h1 es ys) (hb:(ds.length+es.length)*bytes<=2^46):
  ∃c' h2,iL h1 sz bytes c ys=some (c',h2)/\c'.aG=true/\h2[r]?=some (some (.aA 26 [x.aB g f ma ca e co cn cl sn] false))/\r<h2.length/\eY (λm=>L m=k) h1 h2 /\
   ∀{x' g' f' ma' ca' e' co' cn' cl' sn' d'},dl x' g' f' ma' ca' e' co' cn' cl' sn'=(dl x g f ma ca e co cn cl sn).set (k-1) (k,d',c')->d'=.sl sz (ds++es)->fX L h r x' (h2.set r (some (.aA 26 [x'.aB g' f' ma' ca' e' co' cn' cl' sn'] false))):=by
 have hk:=WQ hj
 have k1:1<=k/\k<=9:=kt hk
 obtain⟨M,a1,rows,e0,o,d⟩:=(a.aB _ hk).1 W
 obtain⟨rfl,rfl⟩:sz=M/\ds=a1:=by simpa using e0
 have z:∀m,h.length<=m->L m=0:=λm hm=>Vm λy=>by have:=a.lt m y;omega
 have lr:=(U_.1 a.aA).1
 have hl1:=hx.1
 have ld:=nO d
 have le:=nO hy
 obtain⟨c',h2,s1,s2,s4⟩:=o.aC (bytes:=bytes) (ys:=ys) hx (by rw[ld,le];exact hb)
 have O:eY (λm=>L m=k) h1 h2:=s4
 have hl2:=s4.1
 have r2:h2[r]?=some (some (.aA 26 [x.aB g f ma ca e co cn cl sn] false)):=(s4.2 r (by omega) (by show ¬L r=k;rw[a.lr];omega)).trans (hx.aA a.aA)
 refine⟨c',h2,s1,s2.aB,r2,by omega,O,fun {x' g' f' ma' ca' e' co' cn' cl' sn' d'} hp hd=>?_⟩
 subst hd
 generalize hH:h2.set r (some (.aA 26 [x'.aB g' f' ma' ca' e' co' cn' cl' sn'] false))=H
 have a0:H.length=h2.length:=by rw[<-hH];simp
 have ke:∀m,m≠r->H[m]?=h2[m]?:=λm hm=>by rw[<-hH];exact Vb (λy=>hm y.symm)
 obtain⟨L',C⟩:∃L':Nat->Nat,L'=λm=>if m<h1.length then L m else if m<h2.length then k else 0:=⟨_,rfl⟩
 have lo:∀m,m<h1.length->L' m=L m:=λm hm=>by rw[C];exact Vf hm
 have ln:∀m,h1.length<=m->m<h2.length->L' m=k:=λm h1 h2=>by rw[C];show (if _ then _ else if _ then _ else _)=_;rw[Ve (by omega),Vf h2]
 have E:∀m,m<h1.length->L m≠k->m≠r->H[m]?=h1[m]?:=λm hm u hr=>(ke m hr).trans (s4.2 m hm u)
 have kh:∀m,m<h.length->L m≠k->m≠r->H[m]?=h[m]?:=λm hm u hr=>(E m (by omega) u hr).trans (hx.2 m hm (λy=>y))
 refine⟨L',⟨g',f',ma',ca',e',co',cn',cl',sn',by rw[<-hH];exact Vd (by omega),λp I=>?_,(lo r (by omega)).trans a.lr,λm hm=>?_⟩,λm hm=>lo m (by omega),⟨by omega,λm hm hn=>?_⟩⟩
 ·have nr:∀m,L m≠10->m≠r:=λm hm=>by rintro rfl;exact hm a.lr
  rw[hp]at I
  obtain⟨j,b⟩:=List.mem_iff_getElem?.1 I
  rw[WD]at b
  by_cases ej:k-1=j
  case neg=>
   rw[Ve ej]at b
   have c1:=WQ b
   have c2:=GK b
   have d:=kt c1
   exact (a.aB p c1).aA d (by omega) (λm hm=>lo m (by omega)) λm hm hl=>kh m hm (by omega) (nr m (by omega))
  case pos=>
   rw[Vf ej]at b
   obtain rfl:(k,D.sl sz (ds++es),c')=p:=by split at b<;>simp at b;exact b
   refine⟨λ_=>⟨sz,ds++es,rows++ys,rfl,s2.aA (λm hm hlt=>?_) (λm hm hlt=>ke m (nr m ?_)),Ek (gC.aA (λm hm=>?_) (λm hm y hy=>?_) _ _ d) (gC.aA (λm hm=>?_) (λm hm y hy=>?_) _ _ hy)⟩,λz=>absurd z (by show ¬5<k;omega)⟩
   ·have t:(L m=k/\m<h1.length)\/h1.length<=m:=hm
    exact t.elim (λy=>(lo m y.2).trans y.1) λy=>ln m y hlt
   ·have t:(L m=k/\m<h1.length)\/h1.length<=m:=hm
    rcases t with y | y
    ·omega
    ·have:=z m (by omega);omega
   ·exact⟨(lo m (by have:=hm.2;omega)).trans hm.1,by have:=hm.2;omega⟩
   ·have:=hm.1
    exact (kh m hm.2 (by omega) (nr m (by omega))).trans hy
   ·exact⟨(lo m hm.2).trans hm.1,by have:=hm.2;omega⟩
   ·have:=hm.1
    exact (E m hm.2 (by omega) (nr m (by omega))).trans hy
 ·rw[a0]
  refine Vm λy=>hm ?_
  rw[C];show (if _ then _ else if _ then _ else _)=_
  rw[Ve (by omega),Ve y]
 ·have U:L m=0\/L m=11:=by have hn:¬(L m≠0/\L m≠11):=hn;omega
  exact kh m hm (by omega) (by rintro rfl;rw[a.lr]at U;omega)
end
section
variable {L:Nat->Nat} {h:eZ} {r:Nat} {x:RX} {g f ma ca e co cn cl sn:AV}
theorem gT.sc (a:gT L h r x g f ma ca e co cn cl sn):g.aG=true/\f.aG=true/\ma.aG=true/\ca.aG=true/\e.aG=true/\co.aG=true/\cn.aG=true/\cl.aG=true/\sn.aG=true:=by have k:∀p∈dl x g f ma ca e co cn cl sn,(∃sz ds,p.2.1=.sl sz ds)->p.2.2.aG=true:=λp hp hd=>(a.aB p hp).aD hd;simp only[dl,List.forall_mem_cons]at k;obtain⟨k1,k2,k3,k4,k5,k6,k7,k8,k9,-⟩:=k;exact⟨k1 ⟨_,_,rfl⟩,k2 ⟨_,_,rfl⟩,k3 ⟨_,_,rfl⟩,k4 ⟨_,_,rfl⟩,k5 ⟨_,_,rfl⟩,k6 ⟨_,_,rfl⟩,k7 ⟨_,_,rfl⟩,k8 ⟨_,_,rfl⟩,k9 ⟨_,_,rfl⟩⟩
def Ds (L:Nat->Nat)(h:eZ):Nat->Prop:=λm=>L m<=9/\m<h.length
theorem gT.rd (a:gT L h r x g f ma ca e co cn cl sn){p:Nat×D×AV}(hp:p∈dl x g f ma ca e co cn cl sn):Rd (Ds L h) h p.2.1 p.2.2:=Rd.aC (λm hm=>⟨by have:=kt hp;have:=hm.1;omega,hm.2⟩) (λ_ _ _ y=>y) _ _ (a.aB p hp).rd
theorem gT.rg (a:gT L h r x g f ma ca e co cn cl sn):Rd (Ds L h) h (fK x.r.aG) g:=a.rd (p:=(1,fK x.r.aG,g)) (by simp[dl])
theorem gT.rf (a:gT L h r x g f ma ca e co cn cl sn):Rd (Ds L h) h (ig x.r.aB) f:=a.rd (p:=(2,ig x.r.aB,f)) (by simp[dl])
theorem gT.re (a:gT L h r x g f ma ca e co cn cl sn):Rd (Ds L h) h (f_ x.r.aA.aA.es) e:=a.rd (p:=(5,f_ x.r.aA.aA.es,e)) (by simp[dl])
theorem gT.ro (a:gT L h r x g f ma ca e co cn cl sn):Rd (Ds L h) h (fK x.r.aA.aC.aA) co:=a.rd (p:=(6,fK x.r.aA.aC.aA,co)) (by simp[dl])
theorem gT.rn (a:gT L h r x g f ma ca e co cn cl sn):Rd (Ds L h) h (fK x.r.aA.aC.aB) cn:=a.rd (p:=(7,fK x.r.aA.aC.aB,cn)) (by simp[dl])
theorem gT.rl (a:gT L h r x g f ma ca e co cn cl sn):Rd (Ds L h) h (fK x.r.aA.aC.aC) cl:=a.rd (p:=(8,fK x.r.aA.aC.aC,cl)) (by simp[dl])
theorem gT.rs (a:gT L h r x g f ma ca e co cn cl sn):Rd (Ds L h) h (fT x.r.aA.aF) sn:=a.rd (p:=(9,fT x.r.aA.aF,sn)) (by simp[dl])
theorem gT.aC (a:gT L h r x g f ma ca e co cn cl sn):fu (Ds L h) h x.r.aA.aA.c [.aA .i64 x.r.aA.aA.aA,.aA .i64 x.r.aA.aA.aB,e]:=by simp only[fE.c,fu];exact⟨_,_,rfl,rfl,_,_,rfl,rfl,_,_,rfl,a.re,rfl⟩
theorem gT.aF (a:gT L h r x g f ma ca e co cn cl sn):fu (Ds L h) h x.r.aA.c [.aA .i64 x.r.aA.aD,.aA .i64 x.r.aA.aB,.aA .i64 x.r.aA.aE,.aA .i64 x.r.aA.aA.aA,.aA .i64 x.r.aA.aA.aB,e,co,cn,cl,sn]:=by simp only[fV.c,fu];exact⟨_,_,rfl,rfl,_,_,rfl,rfl,_,_,rfl,rfl,_,_,rfl,rfl,_,_,rfl,rfl,_,_,rfl,a.re,_,_,rfl,a.ro,_,_,rfl,a.rn,_,_,rfl,a.rl,_,_,rfl,a.rs,rfl⟩
theorem gT.z (a:gT L h r x g f ma ca e co cn cl sn){m:Nat}(hm:h.length<=m):L m=0:=Vm λy=>by have:=a.lt m y;omega
end
def ou (P:Program)(f:FuncId):Prop:=fI P f=true/\∀(L:Nat->Nat)(h:eZ)(r:Nat)(x:RX)(k:Nat),DX L h r x->x.r.aD k->k<=2^28->fy P f [.aC r 26 0 0] h λv h'=>v=.aI [.aE x.r.aE.v,.aA .i64 x.r.aA.of.2]/\h'=h
theorem Mi {P:Program}{f f1:FuncId}(hf:Is P f (AK f1))(u1:nM P f1):ou P f:=by refine⟨hf.2,λL h r x k ⟨g,ff,ma,ca,e,co,cn,cl,sn,a⟩ hR hk=>iF (pY (Dv _ _) (nH _ _ _)) (fN hf ?_)⟩;have X:=eY.b1 (h:=h) (some (fh.aA 3 [[.aB,.aB,.aB]] false));have hd:=a.aF.up X;have row:=X.aA a.aA;obtain⟨s1,s2,s3,s4,s5,s6,s7,s8,s9⟩:=a.sc;simp only[RX.aB]at row;simp only[AK,go_sem,row];refine fR u1.1 (u1.2 _ _ x.r.aA _ hd (hR.aI hk)) ?_;simp only[go_sem,fG.aD,iB];exact⟨rfl,eY.b1 _⟩
def oz (P:Program)(f:FuncId):Prop:=fI P f=true/\∀(L:Nat->Nat)(h:eZ)(r:Nat)(x:RX)(k:Nat),DX L h r x->x.r.aD k->k<=2^28->fy P f [.aC r 26 0 0] h λv h'=>v=.aA .i64 x.r.aK/\h'=h
theorem Mv {P:Program}{f f1:FuncId}(hf:Is P f (AM f1))(u1:kj P f1):oz P f:=by refine⟨hf.2,λL h r x k ⟨g,ff,ma,ca,e,co,cn,cl,sn,a⟩ hR hk=>fN hf ?_⟩;have row:=a.aA;obtain⟨s1,s2,s3,s4,s5,s6,s7,s8,s9⟩:=a.sc;simp only[RX.aB]at row;simp only[AM,go_sem,row];refine fR u1.1 (u1.2 _ _ x.r.aA.aA _ a.aC (hR.aB hk)) ?_;simp only[go_sem];rfl
def ry (P:Program)(f:FuncId):Prop:=fI P f=true/\∀(L:Nat->Nat)(h:eZ)(r:Nat)(x:RX)(k:Nat)(n:Int),DX L h r x->x.r.aD k->k<=2^28->fy P f [.aC r 26 0 0,.aA .i64 n] h λv h'=>v=.aD (x.r.aV n)/\h'=h
theorem M_ {P:Program}{f f1 f2 f3:FuncId}(hf:Is P f (AY f1 f2 f3))(u1:ou P f1)(u2:pw P f2 fG.aE)(u3:j_ P f3):ry P f:=by
 refine⟨hf.2,λL h r x k n a hR hk=>iF (kD _ _) (fN hf ?_)⟩;simp only[AY,go_sem];refine fR u1.1 (u1.2 L h r x k a hR hk) ?_;simp only[go_sem,fG.aD,iB];have X:=eY.b1 (h:=h) (some (fh.aA 3 [[fA x.r.aE.aA,fA x.r.aE.aB,fA x.r.aE.aC]] false));generalize h++[some (fh.aA 3 [[fA x.r.aE.aA,fA x.r.aE.aB,fA x.r.aE.aC]] false)]=H at *;have rc:fu fj H x.r.aE.c [fA x.r.aE.aA,fA x.r.aE.aB,fA x.r.aE.aC]:=by have:=my fj H x.r.aE.c;rwa [show D.aB x.r.aE.c=_ from fG.aD _]at this
 refine fq ⟨u2.1,u2.2 _ _ x.r.aE _ rc (hR.aG (by omega))⟩ ?_;rintro v _ ⟨rv,rfl⟩;simp only[go_sem];have vl:x.r.aE.aE.length<=2^40:=by have:=uW hR.aM;omega
 refine fR u3.1 (u3.2 fj _ x.r.aE.aE v n (rv.rd _ _) vl) ?_;simp only[go_sem];exact⟨rfl,X⟩
def rz (P:Program)(f:FuncId):Prop:=fI P f=true/\∀(L:Nat->Nat)(h:eZ)(r:Nat)(x:RX)(k:Nat)(F:Nat->Prop)(l:List Int)(b:AV),DX L h r x->x.r.aD k->k<=2^28->Rd F h (fK l) b->l.length<=2^40->fy P f [.aC r 26 0 0,b] h λv h'=>v=.aD (x.r.aE.aG l)/\h'=h
theorem Nb {P:Program}{f f1 f2:FuncId}(hf:Is P f (AZ f1 f2))(u1:ou P f1)(u2:nQ P f2):rz P f:=by
 refine⟨hf.2,λL h r x k F l b a hR hk hb hl=>iF (kD _ _) (fN hf ?_)⟩;simp only[AZ,go_sem];refine fR u1.1 (u1.2 L h r x k a hR hk) ?_;simp only[go_sem,fG.aD,iB];have X:=eY.b1 (h:=h) (some (fh.aA 3 [[fA x.r.aE.aA,fA x.r.aE.aB,fA x.r.aE.aC]] false));generalize h++[some (fh.aA 3 [[fA x.r.aE.aA,fA x.r.aE.aB,fA x.r.aE.aC]] false)]=H at *;have rc:fu fj H x.r.aE.c [fA x.r.aE.aA,fA x.r.aE.aB,fA x.r.aE.aC]:=by have:=my fj H x.r.aE.c;rwa [show D.aB x.r.aE.c=_ from fG.aD _]at this
 refine fR u2.1 (u2.2 _ _ H x.r.aE l _ _ rc (hb.up X) (hR.aG (by omega)) hl) ?_;simp only[go_sem];exact X
def qg (P:Program)(f:FuncId):Prop:=fI P f=true/\∀(L:Nat->Nat)(h:eZ)(r:Nat)(x:RX)(l:Int),DX L h r x->fy P f [.aC r 26 0 0,.aA .i64 l] h λ_ h'=>fX L h r (x.aS l) h'
theorem Mp {P:Program}{f:FuncId}(hf:Is P f uh):qg P f:=by refine⟨hf.2,λL h r x l ⟨g,ff,ma,ca,e,co,cn,cl,sn,a⟩=>fN hf ?_⟩;have row:=a.aA;have lr:=(U_.1 row).1;simp only[RX.aB]at row;simp only[uh,go_sem,row,Vd lr,V8];exact a.aD (x':=x.aS l) [0,1] rfl
def qf (P:Program)(f:FuncId):Prop:=fI P f=true/\∀(L:Nat->Nat)(h:eZ)(r:Nat)(x:RX)(F:Nat->Prop)(c:fU)(az:List AV),DX L h r x->fu F h c.c az->c.aM->(x.o.aC.length+1)*216<=2^46->fy P f [.aC r 26 0 0,.aE az] h λ_ h'=>fX L h r (x.aU c) h'
theorem Mf {P:Program}{f f1:FuncId}(hf:Is P f (AI f1))(u1:vm P f1):qf P f:=by
 refine⟨hf.2,λL h r x F c az ⟨g,ff,ma,ca,e,co,cn,cl,sn,a⟩ hc b hb=>fN hf ?_⟩;have row:=a.aA;have lr:=(U_.1 row).1;obtain⟨s1,s2,s3,s4,s5,s6,s7,s8,s9⟩:=a.sc;obtain⟨e1,c1,c2,c3,d1,rfl,q1,q2,q3,q4,q5⟩:=Df hc;obtain⟨H,hH⟩:∃H,H=h++[some (fh.aA 17 [({c with aI:=x.r.aA.aD}:fU).aG e1 c1 c2 c3 d1] false)]:=⟨_,rfl⟩;have X1:eY fj h H:=by rw[hH];exact eY.b1 _
 have B1:H[h.length]?=some (some (fh.aA 17 [({c with aI:=x.r.aA.aD}:fU).aG e1 c1 c2 c3 d1] false)):=by rw[hH];exact gh _ _
 have l1:H.length=h.length+1:=by rw[hH];simp
 have R1:∀y,(h++[y])[r]?=_:=λy=>(eY.b1 y).aA row;have R2:∀y,(H++[y])[r]?=_:=λy=>(X1.tr (eY.b1 y)).aA row;have B2:∀y,(H++[y])[h.length]?=_:=λy=>(eY.b1 y).aA B1;have N1:∀sz i o,gN H.length 1 (.aC r sz i o)=true:=λsz i o=>iv (by omega);have N2:∀sz i o,gN H.length 1 (.aC h.length sz i o)=true:=λsz i o=>iv (by omega);simp only[RX.aB]at R1 R2;simp only[fU.aG]at hH B1 B2;have U:=q1.aA;have O:=q2.aA;have M:=q3.aA;have I:=q4.aA;have E:=q5.aA;simp only[AI,go_sem,R1,U,O,M,I,E];rw[<-hH];clear hH;simp only[go_sem,R2];rw[<-l1];simp only[go_sem,N1,N2,B2];have rc:fu F (H++[none]) ({c with aI:=x.r.aA.aD}:fU).c [.aA .i64 c.aC,.aA .i64 x.r.aA.aD,.aA .i64 c.aK,.aA .i64 c.aL,.aA .i64 c.aF,.aA .i64 c.aA.aA,.aA .i64 c.aA.aB,e1,c1,c2,c3,d1,.aA .i64 c.aB.aD,.aA .i64 c.aB.aB,.aA .i64 c.aB.aC,.aA .i64 c.aB.aA,.aA .i64 c.aB.aE]:=by have X:=X1.tr (eY.b1 none);simp only[fU.c,fu];exact⟨_,_,rfl,rfl,_,_,rfl,rfl,_,_,rfl,rfl,_,_,rfl,rfl,_,_,rfl,rfl,_,_,rfl,rfl,_,_,rfl,rfl,_,_,rfl,q1.up X,_,_,rfl,q2.up X,_,_,rfl,q3.up X,_,_,rfl,q4.up X,_,_,rfl,q5.up X,_,_,rfl,rfl,_,_,rfl,rfl,_,_,rfl,rfl,_,_,rfl,rfl,_,_,rfl,rfl,rfl⟩
 have b:({c with aI:=x.r.aA.aD}:fU).aM:=b;have et:x.aU c={x with o:={x.o with aC:=x.o.aC++[{c with aI:=x.r.aA.aD}]}}:=rfl;rw[et];generalize hq:({c with aI:=x.r.aA.aD}:fU)=q at *;have C:q.v.length=17:=wK _;have vs:q.v.all AV.aG=true:=y2 _;refine fR u1.1 (u1.2 F _ q _ rc b) ?_;obtain⟨H3,t⟩:∃H3,H3=H++[some (fh.aA 17 [q.v] false)]:=⟨_,rfl⟩;have X3:eY fj h H3:=by rw[t];exact X1.tr (eY.b1 _)
 have ae:iV H3 17 (.aF H.length 17 0 1 (some 1))=some [q.v]:=pB (g:=false) (by rw[t];exact gh _ _) (some 1) (len:=1) rfl;have u:=X3.aA row;simp only[RX.aB]at u;obtain⟨c',h2,g1,g2,g3,g4,-,go⟩:=a.aE (k:=4) (bytes:=216) (es:=[q.c]) (ys:=[q.v]) rfl (by decide) X3 (by simp only[gC];exact⟨_,_,rfl,my _ _ _,rfl⟩) (by simp only[Vo,Xc];exact hb);rw[<-ic ae]at g1;simp only[RX.aB]at g3;simp only[go_sem,iN,R2,C,vs];rw[<-t];clear t;simp only[go_sem,iN,g1,g2,g3,g4,gH g2];exact go rfl (by simp[jQ])
def ru (P:Program)(f:FuncId):Prop:=fI P f=true/\∀(L:Nat->Nat)(h:eZ)(r:Nat)(x:RX)(t v:Int),DX L h r x->(x.o.aC.length+1)*216<=2^46->fy P f [.aC r 26 0 0,.aA .i64 t,.aA .i64 v] h λ_ h'=>fX L h r (x.aL t v) h'
theorem MS {P:Program}{f f1:FuncId}(hf:Is P f (AT f1))(u1:qf P f1):ru P f:=by refine⟨hf.2,λL h r x t v ⟨g,ff,ma,ca,e,co,cn,cl,sn,a⟩ hb=>fN hf ?_⟩;have row:=a.aA;have lr:=(U_.1 row).1;have s:=a.aD (x':={x with r:={x.r with aA:={x.r.aA with aB:=t,aE:=v}}}) (g':=g) (f':=ff) (ma':=ma) (ca':=ca) (e':=e) (co':=co) (cn':=cn) (cl':=cl) (sn':=sn) [] rfl;simp only[RX.aB]at row s;simp only[AT,go_sem,row,Vd lr,Vh,V8];refine fq ⟨u1.1,s.aA λL' s'=>u1.2 L' _ r _ fj {fU.aD with aC:=1,aK:=t,aL:=v} _ s' (by simp only[fU.c,fu,fU.aD];exact⟨_,_,rfl,rfl,_,_,rfl,rfl,_,_,rfl,rfl,_,_,rfl,rfl,_,_,rfl,rfl,_,_,rfl,rfl,_,_,rfl,rfl,_,_,rfl,iS _ _ _,_,_,rfl,iS _ _ _,_,_,rfl,iS _ _ _,_,_,rfl,iS _ _ _,_,_,rfl,iS _ _ _,_,_,rfl,rfl,_,_,rfl,rfl,_,_,rfl,rfl,_,_,rfl,rfl,_,_,rfl,rfl,rfl⟩) ⟨⟨VP _,nofun⟩,⟨VP _,VP _,VP _⟩,VP _⟩ hb⟩ ?_;rintro _ h' d;simp only[go_sem];exact d
theorem rk.g {P:Program}{f:FuncId}(hc:rk P f){F:Nat->Prop}{h:eZ}{m:fB}{a:List AV}(ha:fu F h m.c a)(hs:iK m.es)(hd:m.aE.length<=2^40):fy P f [.aE a] h λr h'=>r=.aE m.v/\h'=h:=
 (hc.2 F h m a ha hs hd).aB λ_ _ ⟨e,d,e1,o1,o2,X⟩=>⟨X,_,e1▸gM.aA (ds:=m.c) (fW.fz m.c (λ_ x=>x) _ (by simp only[fW,e_,fB.c,fB.aB];exact⟨_,_,rfl,rfl,_,_,rfl,rfl,_,_,rfl,rfl,_,_,rfl,rfl,_,_,rfl,rfl,_,_,rfl,rfl,_,_,rfl,rfl,_,_,rfl,rfl,_,_,rfl,rfl,_,_,rfl,rfl,_,_,rfl,rfl,_,_,rfl,rfl,_,_,rfl,rfl,_,_,rfl,rfl,_,_,rfl,rfl,_,_,rfl,o1,_,_,rfl,o2,rfl⟩)),rfl⟩
def oA (P:Program)(f:FuncId):Prop:=fI P f=true/\∀(L:Nat->Nat)(h:eZ)(r:Nat)(x:RX)(F:Nat->Prop)(m:fB)(az:List AV),DX L h r x->fu F h m.c az->iK m.es->m.aE.length<=2^40->(x.o.aD.length+1)*168<=2^46->fy P f [.aC r 26 0 0,.aE az] h λ_ h'=>fX L h r (x.aG m) h'
theorem ML {P:Program}{f f1:FuncId}(hf:Is P f (AS f1))(u1:rk P f1):oA P f:=by
 refine⟨hf.2,λL h r x F m az ⟨g,ff,ma,ca,e,co,cn,cl,sn,a⟩ hc hs hd hb=>fN hf ?_⟩;have row:=a.aA;have lr:=(U_.1 row).1;obtain⟨-,-,s3,-,-,-,-,-,-⟩:=a.sc;obtain⟨e1,d1,rfl,q1,q2⟩:=jS hc;obtain⟨H,hH⟩:∃H,H=h++[some (fh.aA 17 [({m with aC:=x.r.id,aJ:=x.r.aA.aD,aF:=x.r.aA.aB}:fB).aB e1 d1] false)]:=⟨_,rfl⟩;have X1:eY fj h H:=by rw[hH];exact eY.b1 _
 have B1:H[h.length]?=some (some (fh.aA 17 [({m with aC:=x.r.id,aJ:=x.r.aA.aD,aF:=x.r.aA.aB}:fB).aB e1 d1] false)):=by rw[hH];exact gh _ _
 have l1:H.length=h.length+1:=by rw[hH];simp
 have R1:∀y,(h++[y])[r]?=_:=λy=>(eY.b1 y).aA row;have R2:∀y,(H++[y])[r]?=_:=λy=>(X1.tr (eY.b1 y)).aA row;have B2:∀y,(H++[y])[h.length]?=_:=λy=>(eY.b1 y).aA B1;have N1:∀sz i o,gN H.length 1 (.aC r sz i o)=true:=λsz i o=>iv (by omega);have N2:∀sz i o,gN H.length 1 (.aC h.length sz i o)=true:=λsz i o=>iv (by omega);simp only[RX.aB]at R1 R2;simp only[fB.aB]at hH B1 B2;have E:=q1.aA;have C:=q2.aA;simp only[AS,fB.aB,go_sem,R1,E,C];rw[<-hH];clear hH;simp only[go_sem,R2];rw[<-l1];simp only[go_sem,N1,N2,B2];have X:=X1.tr (eY.b1 none);have rc:fu F (H++[none]) ({m with aC:=x.r.id,aJ:=x.r.aA.aD,aF:=x.r.aA.aB}:fB).c (({m with aC:=x.r.id,aJ:=x.r.aA.aD,aF:=x.r.aA.aB}:fB).aB e1 d1):=qT (m:={m with aC:=x.r.id,aJ:=x.r.aA.aD,aF:=x.r.aA.aB}) (q1.up X) (q2.up X);simp only[fB.aB]at rc;have et:x.aG m={x with o:={x.o with aD:=x.o.aD++[{m with aC:=x.r.id,aJ:=x.r.aA.aD,aF:=x.r.aA.aB}]}}:=rfl;have hs:iK ({m with aC:=x.r.id,aJ:=x.r.aA.aD,aF:=x.r.aA.aB}:fB).es:=hs;have hd:({m with aC:=x.r.id,aJ:=x.r.aA.aD,aF:=x.r.aA.aB}:fB).aE.length<=2^40:=hd;rw[et];generalize hq:({m with aC:=x.r.id,aJ:=x.r.aA.aD,aF:=x.r.aA.aB}:fB)=q at *;have u:q.v.length=17:=wK _;have vs:q.v.all AV.aG=true:=y2 _;refine fR u1.1 (u1.g rc hs hd) ?_;obtain⟨H3,b⟩:∃H3,H3=H++[some (fh.aA 17 [q.v] false)]:=⟨_,rfl⟩;have X3:eY fj h H3:=by rw[b];exact X1.tr (eY.b1 _)
 have ae:iV H3 17 (.aF H.length 17 0 1 (some 1))=some [q.v]:=pB (g:=false) (by rw[b];exact gh _ _) (some 1) (len:=1) rfl;have t:=X3.aA row;simp only[RX.aB]at t;obtain⟨c',h2,g1,g2,g3,g4,-,go⟩:=a.aE (k:=3) (bytes:=168) (es:=[q.c]) (ys:=[q.v]) rfl (by decide) X3 (by simp only[gC];exact⟨_,_,rfl,my _ _ _,rfl⟩) (by simp only[Vo,Xc];exact hb);rw[<-ic ae]at g1;simp only[RX.aB]at g3;simp only[go_sem,iN,R2,u,vs];rw[<-b];clear b;simp only[go_sem,iN,g1,g2,g3,g4,gH g2];exact go rfl (by simp[ks])
abbrev fV.aP (x:fV)(e co cn cl sn:AV):List AV:=[.aA .i64 x.aD,.aA .i64 x.aB,.aA .i64 x.aE,.aA .i64 x.aA.aA,.aA .i64 x.aA.aB,e,co,cn,cl,sn]
def yj (P:Program)(f:FuncId):Prop:=
 fI P f=true/\∀(F:Nat->Prop)(h:eZ)(w:fO)(id:Int)(x:fV)(commit round:Int)(e co cn cl sn:AV),w.aJ->x.aN->
  Rd F h (f_ x.aA.es) e->Rd F h (fK x.aC.aA) co->Rd F h (fK x.aC.aB) cn->Rd F h (fK x.aC.aC) cl->Rd F h (fT x.aF) sn->
  fy P f [.aE w.aA,.aA .i64 id,.aE (x.aP e co cn cl sn),.aA .i64 commit,.aA .i64 round] h λr h'=>∃e d,r=.aE ((w.aG id x commit round).aB e d) /\
   e_ (f_ (w.aG id x commit round).es) (λk=>h.length<=k) h' e/\e_ (fT (w.aG id x commit round).aE) (λk=>h.length<=k) h' d/\eY fj h h'
theorem Mz {P:Program}{f p b t s:FuncId}(hf:Is P f (AA p b t s))(hp:tx P p)(hb:qY P b)(ht:jP P t)(hs:kS P s):yj P f:=by
 refine⟨hf.2,λF h w id x commit round e co cn cl sn hw hx he C E I u=>fN hf ?_⟩;have ew:IntKind.i64.wrap (w.aD-1)=w.aD-1:=fQ (by obtain⟨⟨_,h1,_⟩,_,h2,_⟩:=hw;omega);have s1:=he.aA;have s2:=C.aA;have s3:=E.aA;have s4:=I.aA;have s5:=u.aA;simp only[AA,fV.aP,fO.aA,go_sem,s1,s2,s3,s4,s5];by_cases c:w.aD<=x.aA.aA
 ·simp only[go_sem,Vc c];refine fq ⟨hp.1,hp.2 F _ x.aC _ ⟨_,_,rfl,C.up (eY.b4 _ _ _ _),_,_,rfl,E.up (eY.b4 _ _ _ _),_,_,rfl,I.up (eY.b4 _ _ _ _),rfl⟩ hx.2.1.1 hx.2.1.2.1 hx.2.1.2.2⟩ ?_;rintro r1 h1 ⟨o1,-,x1⟩;obtain⟨j1,rfl⟩:=x1.aL;simp only[go_sem];have bl:x.aC.aK.length<=2^40:=by have:=hx.2.1;rw[tZ];simp only[fG.aF]at this;omega
  refine fq ⟨hb.1,hb.2 (λm=>h.length<=m) _ [] x.aC.aK .aB r1 (Rd.aJ 1) (e_.rd _ (λm hm=>by simp at hm;omega) _ o1) (by simp) (by omega)⟩ ?_;rintro r2 h2 ⟨o2,-,x2⟩;obtain⟨j2,rfl⟩:=x2.aL;have R:∀(a b c d:Option fh)(i j:eZ),(h++[a]++[b]++[c]++[d]++i++j)[h.length+1]?=some b:=λa b c d i j=>by simp
  simp only[go_sem,R];refine fq ⟨hb.1,hb.2 (λm=>F m\/h.length<=m) _ _ x.aF r2 sn (e_.rd _ (λm hm=>.inr (by simp at hm;omega)) _ o2) (Rd.aC (λ_ x=>.inl x) ((((eY.b4 _ _ _ _).tr (eY.aE _ _ _)).tr (eY.aE _ _ _)).aF F) _ _ u) (by simp only[Xd,Vj,jy];omega) (by have:=hx.2.2;omega)⟩ ?_;rintro r3 h3 ⟨o3,-,x3⟩;obtain⟨j3,rfl⟩:=x3.aL;have R2:∀(a b c d:Option fh)(i j k:eZ),(h++[a]++[b]++[c]++[d]++i++j++k)[h.length+1+1]?=some c:=λa b c d i j k=>by simp[Ws,Wb];rfl
  have R3:∀(a b c d:Option fh)(i j k:eZ),(h++[a]++[b]++[c]++[d]++i++j++k)[h.length+1+1+1]?=some d:=λa b c d i j k=>by simp[Ws,Wb];rfl
  have Q2:∀(a b c d y:Option fh)(i j k:eZ),(h++[a]++[b]++[c]++[d]++i++j++k).set (h.length+1+1) y=h++[a]++[b]++[y]++[d]++i++j++k:=λa b c d y i j k=>by simp[Ws]
  have Q3:∀(a b c d y:Option fh)(i j k:eZ),(h++[a]++[b]++[c]++[d]++i++j++k).set (h.length+1+1+1) y=h++[a]++[b]++[c]++[y]++i++j++k:=λa b c d y i j k=>by simp[Ws]
  simp only[go_sem,R2,R3,Q2,Q3,o3.aA,gH o3.aA];have hm:w.aG id x commit round=⟨5,id,w.aB,x.aD,x.aB,x.aA.aA,x.aA.aB,0,round,0,0,0,0,0,false,[],ij x.aC.aK.length++x.aC.aK++ij x.aF.length++x.aF⟩:=Vf c;rw[hm];exact⟨.aB,r3,rfl,e_.aC 3,xw o3 (by simp) (by simp),(((eY.b4 _ _ _ _).tr (eY.aE _ _ _)).tr (eY.aE _ _ _)).tr (eY.aE _ _ _)⟩
 ·simp only[go_sem,Va c,ew];refine fq ⟨ht.1,ht.2 F _ x.aA _ _ ⟨_,_,rfl,rfl,_,_,rfl,rfl,_,_,rfl,he.up (eY.b4 _ _ _ _),rfl⟩ hx.1⟩ ?_;rintro _ h1 ⟨rfl,e1⟩;subst e1;simp only[go_sem];refine fq ⟨hs.1,hs.2 F _ x.aA _ _ _ ⟨_,_,rfl,rfl,_,_,rfl,rfl,_,_,rfl,he.up (eY.b4 _ _ _ _),rfl⟩ hx.1⟩ ?_;rintro r1 h1 ⟨o1,-,x1⟩;obtain⟨j1,rfl⟩:=x1.aL;simp only[go_sem,o1.aA,gH o1.aA];have hm:w.aG id x commit round=⟨3,id,w.aB,x.aD,x.aB,w.aD-1,x.aA.aG (w.aD-1),commit,round,0,0,0,0,0,false,x.aA.aE w.aD 8,[]⟩:=Ve c;rw[hm];exact⟨r1,.aB,rfl,xw o1 (by simp) (by simp),e_.aC 1,(eY.b4 _ _ _ _).tr (eY.aE _ _ _)⟩
theorem Hn {l:fE}{i n:Int}{e:gj}(h:e∈l.aE i n):e∈l.es:=by
 unfold fE.aE at h;split at h;·cases h
 ·exact VM (V0 h)
theorem Hm (l:fE)(i n:Int):(l.aE i n).length<=l.es.length:=by
 unfold fE.aE;split;·simp
 ·simp only[Vw,VA];omega
def vF (P:Program)(f:FuncId):Prop:=fI P f=true/\∀(L:Nat->Nat)(h:eZ)(r:Nat)(x:RX)(w:fO),DX L h r x->w.aJ->x.r.aA.aN->iK x.r.aA.aA.es->(x.o.aD.length+1)*168<=2^46->fy P f [.aC r 26 0 0,.aE w.aA] h λ_ h'=>fX L h r (x.to w) h'
theorem MV {P:Program}{f f1 f2:FuncId}(hf:Is P f (AU f1 f2))(u1:yj P f1)(u2:oA P f2):vF P f:=by
 refine⟨hf.2,λL h r x w ⟨g,ff,ma,ca,e,co,cn,cl,sn,a⟩ hw hfit hs hb=>fN hf ?_⟩;have row:=a.aA;obtain⟨s1,s2,s3,s4,s5,s6,s7,s8,s9⟩:=a.sc;have R1:∀y,(h++[y])[r]?=_:=λy=>(eY.b1 y).aA row;simp only[RX.aB]at R1;have X:=eY.b1 (h:=h) (some (fh.aA 4 [w.aA] false));have B0:=gh h (some (fh.aA 4 [w.aA] false));have au:=a.up X;have nx:=u1.2 (Ds L _) _ w x.r.id x.r.aA x.r.aI x.r.aL e co cn cl sn hw hfit au.re au.ro au.rn au.rl au.rs;simp only[fO.aA]at X B0 nx au;simp only[AU,fO.aA,go_sem,R1];refine fq ⟨u1.1,nx⟩ ?_;rintro _ H ⟨e',d',rfl,he,hd,hX⟩;have XX:=X.tr hX;have RH:=XX.aA row;have C0:=hX.aA B0;simp only[RX.aB]at RH;have ss:iK (w.aG x.r.id x.r.aA x.r.aI x.r.aL).es:=by
  unfold fO.aG;split;·exact⟨by simp,λe he=>by cases he⟩
  ·exact⟨Vr (Hm _ _ _) hs.1,λe he=>hs.2 e (Hn he)⟩
 have sd:(w.aG x.r.id x.r.aA x.r.aI x.r.aL).aE.length<=2^40:=by
  unfold fO.aG;split;·have:=hfit.2.1;have h3:=hfit.2.2;simp only[Vj,jy,tZ];simp only[fG.aF]at this;omega
  ·simp
 rw[gF];simp only[go_sem,RH,C0];refine fq ⟨u2.1,u2.2 L H r x (λ_=>True) _ _ ⟨g,ff,ma,ca,e,co,cn,cl,sn,a.up XX⟩ (qT (e_.rd _ (λ_ _=>Vp) _ he) (e_.rd _ (λ_ _=>Vp) _ hd)) ss sd hb⟩ ?_;intro _ h' T;rw[gF];simp only[go_sem];exact fX.aB XX T
def rq (P:Program)(f:FuncId):Prop:=fI P f=true/\∀(L:Nat->Nat)(h:eZ)(r:Nat)(x:RX)(k j:Nat),DX L h r x->x.r.aD k->k<=2^28->x.aA j->j<=2^20->fy P f [.aC r 26 0 0] h λ_ h'=>fX L h r x.on h'
theorem ME {P:Program}{f f1:FuncId}(hf:Is P f (AP f1))(u1:vF P f1):rq P f:=by
 refine⟨hf.2,λL h r x k j hx hR hk hj hj2=>fN hf ?_⟩;have b:=hR.aU hk;have sm:=hR.aQ hk;have hl:=hR.aD.1;have hp:=hR.aD.2;have jm:=hj.1;clear hj;simp only[AP,go_sem];obtain⟨I,hI⟩:∃I:Nat->fY->eZ->Prop,∀m Λ h',I m Λ h'↔∃i:Nat,lk 0 Λ=.aC r 26 0 0/\lk 2 Λ=.aA .i64 i/\i<=x.r.aB.length/\m=x.r.aB.length-i/\fX L h r (x.aJ (x.r.aB.take i)) h':=⟨_,λ_ _ _=>Wu⟩;refine gJ I x.r.aB.length ((hI _ _ _).2 ⟨0,by simp[fi,ga],by simp[fi],by omega,by omega,hx.to⟩) ?_;intro m Λ h' hh;obtain⟨i,k0,k2,hi,rfl,T⟩:=(hI _ _ _).1 hh;have e:=nW (x.r.aB.take i) x;have tl:=Wn i x.r.aB;have em:=e.2.2;obtain⟨L1,⟨g,ff,ma,ca,e0,co,cn,cl,sn,a⟩,l1,e1⟩:=id T;have row:=a.aA;have rf:=a.rf;rw[show (x.aJ (x.r.aB.take i)).r=x.r from e.1]at rf;have la:g_ ff=some (.aA .i64 x.r.aB.length):=by have:=rf.aB;simpa [ig] using this
 simp only[RX.aB]at row;simp only[F9,go_sem,k0,k2,row,la];refine gx (λci=>?_) (λci=>?_)
 ·simp at ci;have ew:IntKind.i64.wrap ((i:Int)+1)=((i+1:Nat):Int):=by rw[fQ (by omega)];omega
  obtain⟨q,c,i1,i2,i3⟩:=Rd.aD rf .i64 (i:=(i:Int)) (d:=x.r.aB[i].c) (by omega) (by rw[show ((i:Int)).toNat=i by omega,VE,Vi ci];rfl);obtain rfl:=mP i3;have ld:gX h' true 4 q=some (.aE x.r.aB[i].aA):=by rw[hP i2];rfl
  have ek:x.r.aB.take (i+1)=x.r.aB.take i++[x.r.aB[i]]:=Vv ci;have eJ:∀h'',fX L h r (x.aJ (x.r.aB.take (i+1))) h''↔fX L h r ((x.aJ (x.r.aB.take i)).to x.r.aB[i]) h'':=λh''=>by rw[ek,GM]
  have wp:=(hp _ (VU ci)).aA;generalize hw:x.r.aB[i]=w at *;generalize hy:x.aJ (x.r.aB.take i)=y at *;have ey:y.r.aA=x.r.aA:=by rw[e.1]
  simp only[go_sem,k0,k2,row,i1,ld];refine fq ⟨u1.1,T.aA λL' s'=>u1.2 L' _ r y w s' wp (by rw[ey];exact b) (by rw[ey];exact sm) ?_⟩ ?_
  ·have:y.o.aD.length+1<=2^21:=by omega
   exact Vr (Vx 168 this) (by decide)
  intro _ H T2;simp only[go_sem,k2,ew];exact⟨_,by omega,(hI _ _ _).2 ⟨i+1,by simp[fi,k0],by simp[fi],by omega,rfl,(eJ H).2 T2⟩⟩
 ·simp at ci;obtain rfl:i=x.r.aB.length:=by omega
  rw[VH]at T;simp only[go_sem];exact T
def qR (l:List fO)(n:Int):AV:=match l.find? λw=>decide (w.aB=n) with
 | some w=>.aI [.aE w.aA,.aD true]
 | none=>.aI [.aE (fO.mk 0 0 0 0).aA,.aD false]
def DW (P:Program)(f:FuncId):Prop:=fI P f=true/\∀(F:Nat->Prop)(h:eZ)(l:List fO)(a:AV)(n:Int),Rd F h (ig l) a->l.length<=2^40->fy P f [a,.aA .i64 n] h λv h'=>v=qR l n/\h'=h
theorem Mu {P:Program}{f:FuncId}(hf:Is P f A5):DW P f:=by
 refine⟨hf.2,λF h l a n ha hl=>?_⟩;have up:(qR l n).aJ h.length=true:=by
  unfold qR;split;·exact pY (ti _ _) (kD _ _)
  ·exact pY (ti _ _) (kD _ _)
 refine iF up (fN hf ?_);have la:g_ a=some (.aA .i64 l.length):=by have:=ha.aB;simpa [ig] using this
 have X:=eY.b1 (h:=h) (some (fh.aA 4 [[.aA .i64 0,.aA .i64 0,.aA .i64 0,.aA .i64 0]] false));have b:=ha.up X;simp only[A5,go_sem];have B0:=gh h (some (fh.aA 4 [[.aA .i64 0,.aA .i64 0,.aA .i64 0,.aA .i64 0]] false));obtain⟨H,hH⟩:∃H,H=h++[some (fh.aA 4 [[.aA .i64 0,.aA .i64 0,.aA .i64 0,.aA .i64 0]] false)]:=⟨_,rfl⟩;have ES:∀y,H.set h.length y=h++[y]:=λy=>by rw[hH];simp
 have lH:h.length<H.length:=by rw[hH];simp
 rw[<-hH]at X B0 b ⊢;clear hH;obtain⟨I,hI⟩:∃I:Nat->fY->eZ->Prop,∀m Λ h',I m Λ h'↔∃i:Nat,lk 0 Λ=a/\lk 1 Λ=.aA .i64 n/\lk 4 Λ=.aC h.length 4 0 0/\lk 5 Λ=.aD false/\lk 6 Λ=.aA .i64 i/\h'=H/\i<=l.length/\m=l.length-i/\qR (l.drop i) n=qR l n:=⟨_,λ_ _ _=>Wu⟩;refine gJ I l.length ((hI _ _ _).2 ⟨0,by simp[fi,ga],by simp[fi,ga],by simp[fi],by simp[fi],by simp[fi],rfl,by omega,by omega,by simp⟩) ?_;intro m Λ h' hh;obtain⟨i,k0,k1,k4,k5,k6,rfl,hi,rfl,hq⟩:=(hI _ _ _).1 hh;simp only[F_,go_sem,k0,k6,la];refine gx (λci=>?_) (λci=>?_)
 ·simp at ci;have ew:IntKind.i64.wrap ((i:Int)+1)=((i+1:Nat):Int):=by rw[fQ (by omega)];omega
  obtain⟨q,c,i1,i2,i3⟩:=Rd.aD b .i64 (i:=(i:Int)) (d:=l[i].c) (by omega) (by rw[show ((i:Int)).toNat=i by omega,VE,Vi ci];rfl);obtain rfl:=mP i3;have ld:gX h' true 4 q=some (.aE l[i].aA):=by rw[hP i2];rfl
  have f1:=ko i2 (o:=0);have t:gX h' false 1 (lW 0 q)=some (.aA .i64 l[i].aB):=by rw[jJ i2];rfl
  rw[VY ci]at hq;unfold qR at hq;rw[List.find?_cons]at hq;generalize l[i]=w at *;simp only[go_sem,k0,k1,k6,i1,f1,t];refine gx (λce=>?_) (λce=>?_);·simp at ce;rw[Vc ce]at hq;simp only[fO.aA]at ld;simp only[go_sem,k0,k4,k5,k6,i1,ld,B0,ES];exact⟨hq,eY.b1 _⟩
  ·simp at ce;rw[Va ce]at hq;simp only[go_sem,k6,ew];exact⟨_,by omega,(hI _ _ _).2 ⟨i+1,by simp[fi,k0],by simp[fi,k1],by simp[fi,k4],by simp[fi,k5],by simp[fi],rfl,by omega,rfl,hq⟩⟩
 ·simp at ci;obtain rfl:i=l.length:=by omega
  rw[Wq]at hq;simp only[go_sem,k4,k5,B0,ES];exact⟨hq,eY.b1 _⟩
section
variable {L L':Nat->Nat} {h h':eZ} {r:Nat} {x x':RX} {g f ma ca e co cn cl sn:AV}
theorem iY.aC {p:Nat×D×AV}(hp:1<=p.1/\p.1<=9)(a:iY L h p)(hl:h.length<=h'.length)(hL:∀m,m<h.length->L m=0\/L m=p.1->L' m=L m) (hk:∀m,m<h.length->L m=0\/(L m=p.1/\p.1<=5)->h'[m]?=h[m]?):iY L' h' p:=by have zz:∀m,Zs L h m->Zs L' h' m:=λm hm=>⟨(hL m hm.2 (.inl hm.1)).trans hm.1,Vy hm.2 hl⟩;have kz:gz (Zs L h) h h':=λm hm y hy=>(hk m hm.2 (.inl hm.1)).trans hy;refine⟨λz=>?_,λz=>Rd.aC zz kz _ _ (a.2 z)⟩;obtain⟨sz,ds,rows,e,c,d⟩:=a.1 z;exact⟨sz,ds,rows,e,c.aA (λm hm hlt=>(hL m hlt (.inr hm)).trans hm) (λm hm hlt=>hk m hlt (.inr ⟨hm,z⟩)),gC.aA zz kz _ _ d⟩
def pT (L:Nat->Nat):Nat->Nat:=λm=>if L m=2 then 11 else L m
theorem CO {L:Nat->Nat}{m:Nat}(h:L m≠2):pT L m=L m:=Ve h
theorem P6 (L:Nat->Nat)(m:Nat):pT L m≠2:=by unfold pT;split<;>omega
theorem P5 {L:Nat->Nat}{m k:Nat}(h:pT L m=k)(hk:k<=10):L m=k:=by unfold pT at h;split at h<;>omega
theorem gT.aO (a:gT L h r x g f ma ca e co cn cl sn):gT (pT L) (h.set r (some (.aA 26 [({x with r:={x.r with aB:=[]}}:RX).aB g .aB ma ca e co cn cl sn] false))) r {x with r:={x.r with aB:=[]}} g .aB ma ca e co cn cl sn:=by
 have lr:=(U_.1 a.aA).1;refine⟨Vd lr,λp hp=>?_,by rw[CO (by rw[a.lr];decide)];exact a.lr,λm hm=>by rw[Vh];exact a.lt m λz=>hm (by rw[CO (by omega)];exact z)⟩;by_cases c:p.1=2
 ·obtain rfl:p=(2,.sl 4 [],.aB):=by simp only[dl,VR,Xl,or_false]at hp;rcases hp with rfl | rfl | rfl | rfl | rfl | rfl | rfl | rfl | rfl<;>first | rfl | (simp at c)
  exact iY.aB _ _ 2 4
 ·have b:p∈dl x g f ma ca e co cn cl sn:=by simp only[dl,VR,Xl,or_false]at hp ⊢;rcases hp with rfl | rfl | rfl | rfl | rfl | rfl | rfl | rfl | rfl<;>first | exact absurd rfl c | simp
  have d:=kt b;exact (a.aB p b).aC d (by rw[Vh];exact Vg _) (λm _ z=>CO (by omega)) λm hm hl=>Vb (by rintro rfl;rw[a.lr]at hl;omega)
theorem DX.aC (hh:h.length<=h'.length)(lr:r<h.length)(a:DX L' h' r x)(hL:∀m,m<h.length->L' m=pT L m):DX (λm=>if m<h.length then L m else L' m) h' r x:=by
 obtain⟨g,f,ma,ca,e,co,cn,cl,sn,a⟩:=a;have eq:∀m k,L' m=k->k<=10->(if m<h.length then L m else L' m)=k:=λm k e hk=>by
  split;·rename_i c;exact P5 ((hL m c).symm.trans e) hk
  ·exact e
 refine⟨g,f,ma,ca,e,co,cn,cl,sn,a.aA,λp hp=>?_,eq r 10 a.lr (by omega),λm hm=>?_⟩;·have d:=kt hp;exact (a.aB p hp).aC d (Vg _) (λm _ z=>z.elim (λz=>(eq m 0 z (by omega)).trans z.symm) λz=>(eq m _ z (by omega)).trans z.symm) λ_ _ _=>rfl
 ·by_cases c:m<h.length
  ·omega
  ·simp only[c,VO]at hm;exact a.lt m hm
end
def AC.aN:AC->AC
 | .aD _ b=>b
 | _=>.aL
theorem GI {P:Program}{f1 f2 f3 f4:FuncId}{L:Nat->Nat}{h:eZ}{r:Nat}{x:RX}{g f ma ca e co cn cl sn:AV}(a:gT L h r x g f ma ca e co cn cl sn){w:fO}{Λ:fY}(k0:lk 0 Λ=.aC r 26 0 0)(k10:lk 10 Λ=.aC h.length 4 0 0)(hb:x.r.aB.length<=2^20){K:AX->St->Prop}
  (hK:∀h',(∃L',DX L' h' r {x with r:={x.r with aB:=x.r.aB++[w]}}/\∀m,m<h.length->L' m=L m)->h.length<=h'.length->(∀m,m<h.length->L m≠2->m≠r->h'[m]?=h[m]?)->K .aA ⟨Λ,[],h'⟩):
  vc P (rW f1 f2 f3 f4).tl.hd.aN.tl.tl.tl ⟨Λ,[],h++[some (.aA 4 [w.aA] false)]⟩ K:=by
 have row:=a.aA;obtain⟨s1,s2,s3,s4,s5,s6,s7,s8,s9⟩:=a.sc;have lr:=(U_.1 row).1;have X:=eY.b1 (h:=h) (some (fh.aA 4 [w.aA] false));obtain⟨H,hH⟩:∃H,H=h++[some (fh.aA 4 [w.aA] false)]:=⟨_,rfl⟩;have l1:H.length=h.length+1:=by rw[hH];simp
 have B1:H[h.length]?=some (some (fh.aA 4 [w.aA] false)):=by rw[hH];exact gh _ _
 rw[<-hH]at X ⊢;clear hH;have R2:∀y,(H++[y])[r]?=_:=λy=>(X.tr (eY.b1 y)).aA row;have B2:∀y,(H++[y])[h.length]?=_:=λy=>(eY.b1 y).aA B1;have N1:∀sz i o,gN H.length 1 (.aC r sz i o)=true:=λsz i o=>iv (by omega);have N2:∀sz i o,gN H.length 1 (.aC h.length sz i o)=true:=λsz i o=>iv (by omega);simp only[RX.aB]at R2;simp only[fO.aA]at B2;simp only[rW,AC.aA,AC.aG,AC.aN,go_sem,iN,k0,k10,R2,B2,N1,N2];obtain⟨H3,hH3⟩:∃H3,H3=H++[some (fh.aA 4 [w.aA] false)]:=⟨_,rfl⟩;have X3:eY fj h H3:=by rw[hH3];exact X.tr (eY.b1 _)
 have ae:iV H3 4 (.aF H.length 4 0 1 (some 1))=some [w.aA]:=pB (g:=false) (by rw[hH3];exact gh _ _) (some 1) (len:=1) rfl;obtain⟨c',h2,g1,g2,g3,g4,g5,go⟩:=a.aE (k:=2) (bytes:=32) (es:=[w.c]) (ys:=[w.aA]) rfl (by decide) X3 (by simp only[gC];exact⟨_,_,rfl,by simp only[fO.c,fO.aA,fu,Rd];exact⟨_,_,rfl,rfl,_,_,rfl,rfl,_,_,rfl,rfl,_,_,rfl,rfl,rfl⟩,rfl⟩) (by simp only[Vo,Xc];have:(x.r.aB.length+1)*32<=(2^20+1)*32:=Vx _ (by omega);exact Vr this (by decide));rw[<-ic ae]at g1;simp only[fO.aA]at hH3;rw[<-hH3];simp only[RX.aB]at g3;have h3l:=X3.1;have h2l:=g5.1;clear hH3;simp only[go_sem,iN,g1,g2,g3,g4,gH g2];refine hK _ ?_ ?_ ?_;·obtain⟨L2,d,l,-⟩:=go (x':={x with r:={x.r with aB:=x.r.aB++[w]}}) (g':=g) (f':=c') (ma':=ma) (ca':=ca) (e':=e) (co':=co) (cn':=cn) (cl':=cl) (sn':=sn) rfl (by simp[ig]);exact⟨L2,d,l⟩
 ·rw[Vh];omega
 ·intro m hm h1 h2;rw[Vb (λz=>h2 z.symm),g5.2 m (by omega) h1];exact X3.2 m hm (λz=>z)
def jL (x:RX)(was:List fO)(last:Int)(l:List Int):RX:={x with r:={x.r with aB:=(l.filter λn=>!decide (n=x.r.id)).map λn=>jD was n last}}
theorem PR {x:RX}{was:List fO}{last n:Int}(h:n=x.r.id)(l:List Int):jL x was last (l++[n])=jL x was last l:=by simp[jL,Wt,h]
theorem PS {x:RX}{was:List fO}{last n:Int}{w:fO}(h:¬n=x.r.id)(e:jD was n last=w)(l:List Int):
  jL x was last (l++[n])={jL x was last l with r:={(jL x was last l).r with aB:=(jL x was last l).r.aB++[w]}}:=by simp[jL,Wt,h,e]
def vv (P:Program)(f:FuncId):Prop:=fI P f=true/\∀(L:Nat->Nat)(h:eZ)(r:Nat)(x:RX)(k:Nat)(was:List fO)(wa:AV)(last:Int),DX L h r x->Rd (Ds L h) h (ig was) wa->was.length<=2^40->0<=last/\last<2^41->x.r.aD k->k<=2^28->
 fy P f [.aC r 26 0 0,wa,.aA .i64 last] h λ_ h'=>fX L h r {x with r:=x.r.bB was last} h'
theorem Mo {P:Program}{f f1 f2 f3 f4:FuncId}(hf:Is P f (AL f1 f2 f3 f4))(u1:ou P f1)(u2:pw P f2 fG.aL)(u3:DW P f3)(u4:tC P f4):vv P f:=by
 refine⟨hf.2,λL h r x k was wa last hx hw a5 u hR hk=>fN hf ?_⟩;simp only[AL,go_sem];refine fR u1.1 (u1.2 L h r x k hx hR hk) ?_;obtain⟨g,ff,ma,ca,e,co,cn,cl,sn,a⟩:=hx;simp only[go_sem,fG.aD,iB];have X:=eY.b1 (h:=h) (some (fh.aA 3 [[fA x.r.aE.aA,fA x.r.aE.aB,fA x.r.aE.aC]] false));obtain⟨H1,a4⟩:∃H1,H1=h++[some (fh.aA 3 [[fA x.r.aE.aA,fA x.r.aE.aB,fA x.r.aE.aC]] false)]:=⟨_,rfl⟩;rw[<-a4]at X ⊢;clear a4;have rc:fu fj H1 x.r.aE.c [fA x.r.aE.aA,fA x.r.aE.aB,fA x.r.aE.aC]:=by have:=my fj H1 x.r.aE.c;rwa [show D.aB x.r.aE.c=_ from fG.aD _]at this
 refine fq ⟨u2.1,u2.2 _ _ x.r.aE _ rc (hR.aG (by omega))⟩ ?_;rintro v H1 ⟨rv,rfl⟩;have a1:=a.up X;have t:=a1.aA;have lr1:=(U_.1 t).1;have a2:=a1.aO;have ml:=CM hR.aM;have em:({x with r:=x.r.bB was last}:RX)=jL x was last x.r.aE.aL:=rfl;rw[em];have wsc:=hw.aA;generalize x.r.aE.aL=ms at *;have lv:g_ v=some (.aA .i64 ms.length):=(rv.rd fj H1).aE;simp only[RX.aB]at t a2;simp only[go_sem,t];obtain⟨H2,C⟩:∃H2,H2=H1.set r (some (fh.aA 26 [({x with r:={x.r with aB:=[]}}:RX).aB g .aB ma ca e co cn cl sn] false)):=⟨_,rfl⟩;have hh1:=X.1;have l2:H2.length=H1.length:=by rw[C];simp
 have K2:∀m,m<h.length->m≠r->H2[m]?=h[m]?:=λm hm hr=>by rw[C,Vb (λz=>hr z.symm)];exact X.2 m hm (λz=>z)
 simp only[RX.aB]at C;rw[<-C]at a2 ⊢;clear C;have lr:=(U_.1 a.aA).1;have ar:=a.lr;obtain⟨I,hI⟩:∃I:Nat->fY->eZ->Prop,∀m Λ h',I m Λ h'↔∃i:Nat,lk 0 Λ=.aC r 26 0 0/\lk 1 Λ=wa/\lk 2 Λ=.aA .i64 last/\lk 8 Λ=v/\lk 9 Λ=.aA .i64 i/\i<=ms.length/\m=ms.length-i /\
  (∃L1,DX L1 h' r (jL x was last (ms.take i))/\∀m,m<h.length->L1 m=pT L m)/\h.length<=h'.length/\∀m,m<h.length->m≠r->h'[m]?=h[m]?:=⟨_,λ_ _ _=>Wu⟩
 refine gJ I ms.length ((hI _ _ _).2 ⟨0,by simp[fi,ga],by simp[fi,ga],by simp[fi,ga],by simp[fi],by simp[fi],by omega,by omega,⟨_,⟨_,_,_,_,_,_,_,_,_,a2⟩,λ_ _=>rfl⟩,by omega,K2⟩) ?_;clear a2 K2;intro m Λ h' hh;obtain⟨i,k0,k1,k2,k8,k9,hi,rfl,⟨L1,⟨g',ff',ma',ca',e',co',cn',cl',sn',b⟩,U⟩,hl,K⟩:=(hI _ _ _).1 hh;have row:=b.aA;obtain⟨s1,s2,s3,s4,s5,s6,s7,s8,s9⟩:=b.sc;simp only[RX.aB]at row;have a9:(jL x was last (ms.take i)).r.id=x.r.id:=rfl;obtain⟨E,hE⟩:∃E,E=(rW f1 f2 f3 f4).tl.hd.aN.tl.tl.tl:=⟨_,rfl⟩;have a0:=hE;simp only[rW,AC.aA,AC.aG,AC.aN,gG]at a0;simp only[rW,go_sem,k8,k9,lv];rw[<-a0];clear a0;refine gx (λci=>?_) (λci=>?_)
 ·simp at ci;have ew:IntKind.i64.wrap ((i:Int)+1)=((i+1:Nat):Int):=by rw[fQ (by omega)];omega
  obtain⟨p,hp,hv⟩:=(rv.rd fj h').aF ci;have ek:ms.take (i+1)=ms.take i++[ms[i]]:=Vv ci;simp only[go_sem,k0,k8,k9,hp,hv,row,a9];have a6:Rd (Ds L h) h' (ig was) wa:=Rd.aC (λ_ y=>y) (λm hm y hy=>(K m hm.2 (by rintro rfl;have:=hm.1;omega)).trans hy) _ _ hw;refine gx (λce=>?_) (λce=>?_)
  ·simp at ce;have eM:jL x was last (ms.take (i+1))=jL x was last (ms.take i):=by rw[ek];exact PR ce _
   simp only[go_sem,k9,ew];exact⟨_,by omega,(hI _ _ _).2 ⟨i+1,by simp[fi,k0],by simp[fi,k1],by simp[fi,k2],by simp[fi,k8],by simp[fi],by omega,rfl,⟨L1,by rw[eM];exact⟨_,_,_,_,_,_,_,_,_,b⟩,U⟩,hl,K⟩⟩
  ·simp at ce;have fin:∀(w:fO)(Λ':fY)(h'':eZ),jD was ms[i] last=w->lk 0 Λ'=.aC r 26 0 0->lk 1 Λ'=wa->lk 2 Λ'=.aA .i64 last->lk 8 Λ'=v->lk 9 Λ'=.aA .i64 i->
     (∃L',DX L' h'' r {jL x was last (ms.take i) with r:={(jL x was last (ms.take i)).r with aB:=(jL x was last (ms.take i)).r.aB++[w]}}/\∀m,m<h'.length->L' m=L1 m)->h'.length<=h''.length->(∀m,m<h'.length->L1 m≠2->m≠r->h''[m]?=h'[m]?)->
     ∃m',m'<ms.length-i/\I m' (lG 9 (.aA .i64 ((i+1:Nat):Int)) Λ') h'':=by
    intro w Λ' h'' M q0 q1 q2 q8 q9 ⟨L2,d,ab⟩ O fr;have eM:jL x was last (ms.take (i+1))={jL x was last (ms.take i) with r:={(jL x was last (ms.take i)).r with aB:=(jL x was last (ms.take i)).r.aB++[w]}}:=by rw[ek];exact PS ce M _
    exact⟨_,by omega,(hI _ _ _).2 ⟨i+1,by simp[fi,q0],by simp[fi,q1],by simp[fi,q2],by simp[fi,q8],by simp[fi],by omega,rfl,⟨L2,by rw[eM];exact d,λm hm=>(ab m (by omega)).trans (U m hm)⟩,by omega,λm hm hr=>(fr m (by omega) (by rw[U m hm];exact P6 L m) hr).trans (K m hm hr)⟩⟩
   have bl:(jL x was last (ms.take i)).r.aB.length<=2^20:=by have:=We (λn=>!decide (n=x.r.id)) (ms.take i);have:=Wn i ms;simp only[jL,Vo];omega
   simp only[go_sem,k1,k8,k9,hp,hv];refine fq ⟨u3.1,u3.2 (Ds L h) _ was wa ms[i] a6 a5⟩ ?_;rintro _ h1 ⟨rfl,rfl⟩;unfold qR;split
   ·rename_i w W;have M:jD was ms[i] last=w:=by simp[jD,W]
    simp only[fO.aA,go_sem];rw[hE];refine GI b (w:=w) ?_ ?_ bl ?_;·simp[fi,k0]
    ·simp[fi]
    intro h'' d O fr;simp only[go_sem,k9,ew];exact fin w _ h'' M (by simp[fi,k0]) (by simp[fi,k1]) (by simp[fi,k2]) (by simp[fi,k8]) (by simp[fi,k9]) d O fr
   ·rename_i W;have M:jD was ms[i] last=⟨ms[i],last+1,0,0⟩:=by simp[jD,W]
    have lH:(h1++[some (fh.aA 4 [[.aA .i64 0,.aA .i64 0,.aA .i64 0,.aA .i64 0]] false)]).length=h1.length+1:=by simp
    have a7:gX (h1++[some (fh.aA 4 [[.aA .i64 0,.aA .i64 0,.aA .i64 0,.aA .i64 0]] false)]) false 1 p=some (.aA .i64 ms[i]):=by obtain⟨p',a3,a8⟩:=(rv.rd fj (h1++[some (fh.aA 4 [[.aA .i64 0,.aA .i64 0,.aA .i64 0,.aA .i64 0]] false)])).aF ci;rw[hp]at a3;cases a3;exact a8
    simp only[fO.aA,go_sem,k2,k8,k9,hp,a7];refine fR u4.1 (u4.2 _ ms[i] last u) ?_;simp only[fO.aA,go_sem];rw[hE];refine GI b (w:=⟨ms[i],last+1,0,0⟩) ?_ ?_ bl ?_;·simp[fi,k0]
    ·simp[fi]
    intro h'' d O fr;simp only[go_sem,k9,ew];exact fin _ _ h'' M (by simp[fi,k0]) (by simp[fi,k1]) (by simp[fi,k2]) (by simp[fi,k8]) (by simp[fi,k9]) d O fr
 ·simp at ci;obtain rfl:i=ms.length:=by omega
  rw[VH]at b;simp only[go_sem];exact⟨_,DX.aC hl lr ⟨_,_,_,_,_,_,_,_,_,b⟩ U,λm hm=>Vf hm,hl,λm hm hn=>K m hm (by rintro rfl;exact hn (by show L m≠0/\L m≠11;rw[ar];decide))⟩
def vz (P:Program)(f:FuncId):Prop:=fI P f=true/\∀(F:Nat->Prop)(L:Nat->Nat)(h:eZ)(r:Nat)(x:RX)(k j:Nat)(kind:Int)(data:List Int)(d:AV),DX L h r x->x.r.aD k->k<2^28->x.aA j->j<=2^20->Rd F h (fT data) d->(gK data/\data.length<=2^16)->gO kind->
 fy P f [.aC r 26 0 0,.aA .i64 kind,d] h λ_ h'=>fX L h r (x.aC kind data) h'
theorem Mw {P:Program}{f f1 f2 f3 f4:FuncId}(hf:Is P f (rX f1 f2 f3 f4))(u1:oz P f1)(u2:lj P f2 .u8)(u3:qf P f3)(u4:vv P f4):vz P f:=by
 refine⟨hf.2,λF L h r x k j kind data d hx hfit hk hj hj2 hd hdata hkind=>fN hf ?_⟩;have sd:=hd.aA;simp only[rX,go_sem];refine fR u1.1 (u1.2 L h r x k hx hfit (by omega)) ?_;obtain⟨g,ff,ma,ca,e,co,cn,cl,sn,a⟩:=hx;have row:=a.aA;have lr:=(U_.1 row).1;obtain⟨s1,s2,s3,s4,s5,s6,s7,s8,s9⟩:=a.sc;have R1:∀y,(h++[y])[r]?=_:=λy=>(eY.b1 y).aA row;have N1:∀sz i o,gN h.length 1 (.aC r sz i o)=true:=λsz i o=>iv (by omega);simp only[RX.aB]at row R1;simp only[go_sem,iN,R1,N1];refine fR u2.1 (u2.gb (hd.up (eY.b1 none)) (by have:=hdata.2;omega)) ?_;obtain⟨H,hH⟩:∃H,H=h++[some (fh.aA 3 [[.aA .i64 x.r.aA.aB,.aA .i64 kind,gV data]] false)]:=⟨_,rfl⟩;have X1:eY fj h H:=by rw[hH];exact eY.b1 _
 have l1:H.length=h.length+1:=by rw[hH];simp
 have B1:H[h.length]?=some (some (fh.aA 3 [[.aA .i64 x.r.aA.aB,.aA .i64 kind,gV data]] false)):=by rw[hH];exact gh _ _
 have R2:∀y,(H++[y])[r]?=_:=λy=>(X1.tr (eY.b1 y)).aA row;have B2:∀y,(H++[y])[h.length]?=_:=λy=>(eY.b1 y).aA B1;have N2:∀sz i o,gN H.length 1 (.aC r sz i o)=true:=λsz i o=>iv (by omega);have N3:∀sz i o,gN H.length 1 (.aC h.length sz i o)=true:=λsz i o=>iv (by omega);obtain⟨E,hE⟩:∃E,E=(rX f1 f2 f3 f4).aA.tl.tl:=⟨_,rfl⟩;have hE':=hE;simp only[rX,AC.aA,fC]at hE';rw[<-hE'];clear hE';simp only[go_sem,iN,R1,l7,Cn];rw[<-hH];rw[hE];clear hE E hH;simp only[rX,AC.aA,go_sem,iN,R2,B2,N2,N3,l7];have bl:=hfit.aC;have ll:=hfit.aE;have hl0:0<=x.r.aK:=by unfold fm.aK fE.aC;omega
 have hl1:x.r.aK<=2^40+k:=hfit.aE;have ew:IntKind.i64.wrap (x.r.aK+1)=x.r.aK+1:=fQ (by omega);have hmore:=hfit.bz (e:=⟨x.r.aA.aB,kind,data⟩) ⟨hdata,⟨by have:=hfit.aJ;show _<=x.r.aA.aB;omega,by have:=hfit.aJ;show x.r.aA.aB<=_;omega⟩,hkind⟩;obtain⟨y,hy⟩:∃y:RX,y={x with r:={x.r with aA:={x.r.aA with aA:=⟨x.r.aA.aA.aA,x.r.aA.aA.aB,x.r.aA.aA.es++[⟨x.r.aA.aB,kind,data⟩]⟩}}}:=⟨_,rfl⟩;have elay:x.aC kind data=if kind=2 then {(y.aU {fU.aD with aC:=2,aF:=x.r.aK+1,aA:=⟨0,0,[⟨x.r.aA.aB,kind,data⟩]⟩}) with r:=(y.aU {fU.aD with aC:=2,aF:=x.r.aK+1,aA:=⟨0,0,[⟨x.r.aA.aB,kind,data⟩]⟩}).r.bB (y.aU {fU.aD with aC:=2,aF:=x.r.aK+1,aA:=⟨0,0,[⟨x.r.aA.aB,kind,data⟩]⟩}).r.aB x.r.aK} else y.aU {fU.aD with aC:=2,aF:=x.r.aK+1,aA:=⟨0,0,[⟨x.r.aA.aB,kind,data⟩]⟩}:=by
  unfold RX.aC;have sl:(⟨x.r.aA.aA.aA,x.r.aA.aA.aB,x.r.aA.aA.es++[⟨x.r.aA.aB,kind,data⟩]⟩:fE).aE (x.r.aA.aA.aC+1) 1=[⟨x.r.aA.aB,kind,data⟩]:=by rw[<-sK];exact Dm _ _
  simp only[show x.r.aK=x.r.aA.aA.aC from rfl,sK,sl,<-hy]
 have fity:y.r.aD (k+1):=by rw[hy];exact hmore
 have chy:y.o.aC.length<=j:=by rw[hy];exact hj.2
 rw[elay];have el5:x.r.aA.aA.es.length+1<=2^28:=by have:=hfit.aR;omega
 obtain⟨H3,hH3⟩:∃H3,H3=H++[some (fh.aA 3 [[.aA .i64 x.r.aA.aB,.aA .i64 kind,gV data]] false)]:=⟨_,rfl⟩;have X3:eY fj h H3:=by rw[hH3];exact X1.tr (eY.b1 _)
 have B3:H3[h.length]?=some (some (fh.aA 3 [[.aA .i64 x.r.aA.aB,.aA .i64 kind,gV data]] false)):=by rw[hH3];exact B2 _
 have ae:iV H3 3 (.aF H.length 3 0 1 (some 1))=some [[.aA .i64 x.r.aA.aB,.aA .i64 kind,gV data]]:=pB (g:=false) (by rw[hH3];exact gh _ _) (some 1) (len:=1) rfl;obtain⟨c',h2,g1,g2,g3,g4,g5,go⟩:=a.aE (k:=5) (bytes:=40) (es:=[(gj.mk x.r.aA.aB kind data).c]) (ys:=[[.aA .i64 x.r.aA.aB,.aA .i64 kind,gV data]]) rfl (by decide) X3
  (by simp only[gC,gj.c,fu];exact⟨_,_,rfl,⟨_,_,rfl,rfl,_,_,rfl,rfl,_,_,rfl,kO _ _ _,rfl⟩,rfl⟩)
  (by simp only[Vo,Xc];exact Vr (Vx 40 el5) (by decide))
 rw[<-ic ae]at g1;rw[<-hH3];simp only[RX.aB]at g3;have h3l:=X3.1;have h2l:=g5.1;have l3:H3.length=h.length+2:=by rw[hH3];simp[l1]
 clear hH3;have B4:h2[h.length]?=some (some (fh.aA 3 [[.aA .i64 x.r.aA.aB,.aA .i64 kind,gV data]] false)):=(g5.2 _ (by omega) (by show ¬L h.length=5;rw[a.z (Vg _)];decide)).trans B3;have nr:(r=h.length)=False:=Vs (by omega);have g6:=(go (x':={x with r:={x.r with aA:={x.r.aA with aA:=⟨x.r.aA.aA.aA,x.r.aA.aA.aB,x.r.aA.aA.es++[⟨x.r.aA.aB,kind,data⟩]⟩}}}) (g':=g) (f':=ff) (ma':=ma) (ca':=ca) (e':=c') (co':=co) (cn':=cn) (cl':=cl) (sn':=sn) rfl (by simp[f_]));simp only[RX.aB]at g6;simp only[go_sem,iN,g1,g2,g3,g4,gH g2,nr,B4,ew,l7];generalize h2.set r _=H4 at *;have X5:=eY.b1 (h:=H4) (some (fh.aA 3 [[.aA .i64 x.r.aA.aB,.aA .i64 kind,gV data]] false));have B5:=gh H4 (some (fh.aA 3 [[.aA .i64 x.r.aA.aB,.aA .i64 kind,gV data]] false));rw[<-hy]at g6;have cf:({fU.aD with aC:=2,aF:=x.r.aK+1,aA:=⟨0,0,[⟨x.r.aA.aB,kind,data⟩]⟩}:fU).aM:=⟨⟨by show 1<=2^30;decide,λe he=>by
  obtain rfl:e=⟨x.r.aA.aB,kind,data⟩:=by simpa using he
  have:=hdata.2;show data.length<=2^40;omega⟩,⟨by simp[fU.aD],by simp[fU.aD],by simp[fU.aD]⟩,by simp[fU.aD]⟩
 have rc:fu (λ_=>True) (H4++[some (fh.aA 3 [[.aA .i64 x.r.aA.aB,.aA .i64 kind,gV data]] false)]) ({fU.aD with aC:=2,aF:=x.r.aK+1,aA:=⟨0,0,[⟨x.r.aA.aB,kind,data⟩]⟩}:fU).c
   [.aA .i64 2,.aA .i64 0,.aA .i64 0,.aA .i64 0,.aA .i64 (x.r.aK+1),.aA .i64 0,.aA .i64 0,.aF H4.length 3 0 1 (some 1),.aB,.aB,.aB,.aB,.aA .i64 0,.aA .i64 0,.aA .i64 0,.aA .i64 0,.aA .i64 0]:=by
  simp only[fU.c,fu,fU.aD];exact⟨_,_,rfl,rfl,_,_,rfl,rfl,_,_,rfl,rfl,_,_,rfl,rfl,_,_,rfl,rfl,_,_,rfl,rfl,_,_,rfl,rfl,_,_,rfl,Ie B5 (kO (λ_=>True) _ _) (λ_ _=>Vp) Vp,_,_,rfl,iS _ _ _,_,_,rfl,iS _ _ _,_,_,rfl,iS _ _ _,_,_,rfl,iS _ _ _,_,_,rfl,rfl,_,_,rfl,rfl,_,_,rfl,rfl,_,_,rfl,rfl,_,_,rfl,rfl,rfl⟩
 have eflows:y.r.aB=(y.aU {fU.aD with aC:=2,aF:=x.r.aK+1,aA:=⟨0,0,[⟨x.r.aA.aB,kind,data⟩]⟩}).r.aB:=rfl;generalize ({fU.aD with aC:=2,aF:=x.r.aK+1,aA:=⟨0,0,[⟨x.r.aA.aB,kind,data⟩]⟩}:fU)=q at *;refine fq ⟨u3.1,(g6.up X5).aA λL' s'=>u3.2 L' _ r y _ q _ s' rc cf (by have a:y.o.aC.length+1<=2^21:=(by omega);exact Vr (Vx 216 a) (by decide))⟩ ?_;intro _ H5 T;have ez:(y.aU q).r=y.r:=rfl;by_cases c:kind=2;·rw[Vf c];obtain⟨L6,⟨g',f',ma',ca',e',co',cn',cl',sn',b⟩,l6,x6⟩:=id T;have row6:=b.aA;simp only[RX.aB]at row6;simp only[go_sem,Vc c,row6];have fl:(y.aU q).r.aB.length<=21:=fity.aD.1;refine fq ⟨u4.1,(u4.2 L6 H5 r (y.aU q) (k+1) (y.aU q).r.aB f' x.r.aK ⟨_,_,_,_,_,_,_,_,_,b⟩ b.rf (by omega) ⟨hl0,by omega⟩ fity (by omega)).aA λ_ _ t=>fX.aE l6 x6 t⟩ ?_;intro _ H7 T7;simp only[go_sem];exact T7
 ·rw[Ve c];simp only[go_sem,Va c];exact T
def mX (lo:Nat)(h:eZ)(l2 l3:List Int)(a b:AV):Prop:=∃A B:Nat->Prop,(∀m,A m->lo<=m/\¬B m)/\(∀m,B m->lo<=m)/\e_ (fK l2) A h a/\gq h a/\e_ (fK l3) B h b/\gq h b
theorem mX.aB {lo:Nat}{h:eZ}{l2 l3:List Int}{a b:AV}(p:mX lo h l2 l3 a b):mX lo h l3 l2 b a:=
 let⟨A,B,hA,hB,oa,ca,ob,cb⟩:=p
 ⟨B,A,λm hm=>⟨hB m hm,λz=>(hA m z).2 hm⟩,λm hm=>(hA m hm).1,ob,cb,oa,ca⟩
theorem mX.aA {lo:Nat}{h h1:eZ}{l2 l3:List Int}{a b:AV}(p:mX lo h l2 l3 a b)(hl:lo<=h.length)(hx:eY fj h h1)(n:Int)(hb:l2.length<=2^20):
  ∃a' h2,iL h1 1 8 a [[.aA .i64 n]]=some (a',h2)/\a'.aG=true/\mX lo h2 (l2++[n]) l3 a' b/\eY (λm=>lo<=m) h h2:=by
 obtain⟨A,B,hA,hB,oa,ca,ob,cb⟩:=p;have hl1:=hx.1;have u:e_ (fK l2) (λm=>(A m/\m<h.length)\/h1.length<=m) h1 a:=e_.aB _ (λm hm=>.inl hm) (λm hm y hy=>hx.aA hy) _ (e_.lt _ _ oa);have C:gq h1 a:=ca.aA oa (λm hm y hy=>hx.aA hy);obtain⟨a',h2,s1,s2,s3,s4⟩:=sP (bytes:=8) (es:=[[.aA .i64 n]]) (ys:=[[.aA .i64 n]]) u C (eY.aC _ _) (by simp[fP,fW,e_]) (λm hm=>.inr hm) (by simp;omega);have kk:∀m,m<h1.length->¬(A m/\m<h.length)->h2[m]?=h1[m]?:=λm hm hn=>s4.2 m hm (λz=>by rcases z with z | z;exact hn z;omega);have e4:fK (l2++[n])=.sl 1 (l2.map (λn=>[D.aA .i64 n])++[[.aA .i64 n]]):=by simp[fK]
 have l2':=s4.1;have t:gz (λm=>B m/\m<h.length) h h2:=λm hm y hy=>(kk m (by omega) (λz=>(hA m z.1).2 hm.1)).trans (hx.aA hy);refine⟨a',h2,s1,s2.aA,⟨λm=>((A m/\m<h.length)\/h1.length<=m)/\m<h2.length,λm=>B m/\m<h.length,?_,λm hm=>hB m hm.1,by rw[e4];exact e_.lt _ _ s2,s3,e_.aB _ (λ_ y=>y) t _ (e_.lt _ _ ob),cb.aA (e_.lt _ _ ob) t⟩,⟨by omega,λm hm hn=>?_⟩⟩
 ·rintro m ⟨hm,-⟩;rcases hm with hm | hm;·exact⟨(hA m hm.1).1,λz=>(hA m hm.1).2 z.1⟩
  ·exact⟨by omega,λz=>by omega⟩
 ·exact (kk m (by omega) (λz=>hn (hA m z.1).1)).trans (hx.2 m hm (λz=>z))
theorem mX.aC {lo:Nat}{h:eZ}{i j:Nat}{n q:Int} (hi:h[i]?=some (some (.aA 1 [[.aA .i64 n]] false))) (hj:h[j]?=some (some (.aA 1 [[.aA .i64 q]] false))) (hl:lo<=i) (hl2:lo<=j) (hn:i≠j):
  mX lo h [n] [q] (.aF i 1 0 1 (some 1)) (.aF j 1 0 1 (some 1)):=by
 have one:∀{k:Nat}{n:Int},h[k]?=some (some (.aA 1 [[.aA .i64 n]] false))->e_ (fK [n]) (λm=>m=k) h (.aF k 1 0 1 (some 1))/\gq h (.aF k 1 0 1 (some 1)):=fun {k n} hk=>⟨by simp only[fK,e_];exact .inr (.inr ⟨_,0,some 1,_,false,rfl,rfl,hk,by simp,(λc hc=>by cases hc;simp),by simp[fP,fW,e_]⟩),⟨_,_,hk,(λe=>by cases e),(λc hc=>by cases hc;simp)⟩⟩;exact⟨λm=>m=i,λm=>m=j,λm hm=>⟨by omega,by omega⟩,λm hm=>by omega,(one hi).1,(one hi).2,(one hj).1,(one hj).2⟩
def tA (P:Program)(f:FuncId):Prop:=fI P f=true/\∀(L:Nat->Nat)(h:eZ)(r:Nat)(x:RX)(k:Nat),DX L h r x->x.r.aD k->k<=2^28->fy P f [.aC r 26 0 0] h λ_ h'=>fX L h r x.aI h'
theorem Mg {P:Program}{f f1 f2 f3 f4:FuncId}(hf:Is P f (AJ f1 f2 f3 f4))(u1:ou P f1)(u2:oz P f2)(u3:qX P f3)(u4:jP P f4):tA P f:=by
 refine⟨hf.2,λL h r x k hx hR hk=>fN hf ?_⟩;simp only[AJ,go_sem];refine fR u1.1 (u1.2 L h r x k hx hR hk) ?_;have fl:=hR.aD;obtain⟨g,ff,ma,ca,e,co,cn,cl,sn,a⟩:=id hx;have row:=a.aA;obtain⟨s1,s2,s3,s4,s5,s6,s7,s8,s9⟩:=a.sc;have R1:∀y,(h++[y])[r]?=_:=λy=>(eY.b1 y).aA row;simp only[RX.aB]at R1;simp only[go_sem,fG.aD,iB,R1];obtain⟨H1,t⟩:∃H1,H1=h++[some (fh.aA 3 [[fA x.r.aE.aA,fA x.r.aE.aB,fA x.r.aE.aC]] false)]:=⟨_,rfl⟩;have X1:eY fj h H1:=by rw[t];exact eY.b1 _
 have B1:H1[h.length]?=some (some (fh.aA 3 [[fA x.r.aE.aA,fA x.r.aE.aB,fA x.r.aE.aC]] false)):=by rw[t];exact gh _ _
 have l1:H1.length=h.length+1:=by rw[t];simp
 have E:=(hx.up X1).up (eY.b1 (some (fh.aA 1 [[.aA .i64 x.r.id]] false)));rw[t]at E;refine fR u2.1 (u2.2 L _ r x k E hR hk) ?_;simp only[go_sem];have P0:mX (h.length+1) (H1++[some (fh.aA 1 [[.aA .i64 x.r.id]] false)]++[some (fh.aA 1 [[.aA .i64 x.r.aK]] false)]) [x.r.id] [x.r.aK] (.aF H1.length 1 0 1 (some 1)) (.aF (H1.length+1) 1 0 1 (some 1)):=
  mX.aC (iE _ _ _) (iq _ _ _) (by omega) (by omega) (by omega)
 have Q0:eY (λm=>h.length+1<=m) H1 (H1++[some (fh.aA 1 [[.aA .i64 x.r.id]] false)]++[some (fh.aA 1 [[.aA .i64 x.r.aK]] false)]):=(eY.b2 _ _).aB (eY.aC _ _) (λ_ _ z=>z.elim) (λ_ _ z=>z);rw[l1]at P0;rw[<-t];rw[t]at P0 Q0;rw[<-t]at P0 Q0;generalize hS:H1++[some (fh.aA 1 [[.aA .i64 x.r.id]] false)]++[some (fh.aA 1 [[.aA .i64 x.r.aK]] false)]=H2 at *;clear hS;obtain⟨I,hI⟩:∃I:Nat->fY->eZ->Prop,∀m Λ h',I m Λ h'↔∃(i:Nat)(a4 a5:AV),lk 0 Λ=.aC r 26 0 0/\lk 2 Λ=.aC h.length 3 0 0/\lk 4 Λ=a4/\lk 5 Λ=a5/\lk 6 Λ=.aA .i64 i/\i<=x.r.aB.length/\m=x.r.aB.length-i /\
  mX (h.length+1) h' (x.r.id :: (x.r.aB.take i).map fO.aB) (x.r.aK :: (x.r.aB.take i).map fO.aC) a4 a5/\eY (λm=>h.length+1<=m) H1 h':=⟨_,λ_ _ _=>Wu⟩
 refine gJ I x.r.aB.length ((hI _ _ _).2 ⟨0,_,_,by simp[fi,ga],by simp[fi],by simp[fi],by simp[fi],by simp[fi],by omega,by omega,P0,Q0⟩) ?_;clear P0 Q0;intro m Λ h' hh;obtain⟨i,a4,a5,k0,k2,k4,k5,k6,hi,rfl,p,Q⟩:=(hI _ _ _).1 hh;have X:eY fj h h':=X1.aB Q (λ_ _ z=>z.elim) (λm hm z=>by have z:h.length+1<=m:=z;omega);have b:=X.aA row;have rf:=a.rf.up X;have la:g_ ff=some (.aA .i64 x.r.aB.length):=by have:=rf.aB;simpa [ig] using this
 simp only[RX.aB]at b;simp only[F6,go_sem,k0,k6,b,la];refine gx (λci=>?_) (λci=>?_)
 ·simp at ci;have ew:IntKind.i64.wrap ((i:Int)+1)=((i+1:Nat):Int):=by rw[fQ (by omega)];omega
  have lh:h.length+1<=h'.length:=by have:=Q.1;omega
  have ek:x.r.aB.take (i+1)=x.r.aB.take i++[x.r.aB[i]]:=Vv ci;have ln:((x.r.aB.take i).map fO.aB).length<=21:=by have:=fl.1;simp only[Vo,Vw];omega
  have lm:((x.r.aB.take i).map fO.aC).length<=21:=by have:=fl.1;simp only[Vo,Vw];omega
  have M:∀H:eZ,eY fj h H->∃q,iH 4 ff (.aA .i64 i)=some q/\im H q=some x.r.aB[i].aA:=λH hX=>by obtain⟨q,c,i1,i2,i3⟩:=Rd.aD (a.rf.up hX) .i64 (i:=(i:Int)) (d:=x.r.aB[i].c) (by omega) (by rw[show ((i:Int)).toNat=i by omega,VE,Vi ci];rfl);obtain rfl:=mP i3;exact⟨q,i1,i2⟩
  obtain⟨q,i1,i2⟩:=M _ X;obtain⟨n,hn⟩:∃n,n=x.r.aB[i].aB:=⟨_,rfl⟩;have W:gX h' false 1 (lW 0 q)=some (.aA .i64 x.r.aB[i].aB):=by rw[jJ i2];rfl
  obtain⟨a1,h2,g1,g2,g3,g4⟩:=p.aA lh (eY.b1 (some (fh.aA 1 [[.aA .i64 x.r.aB[i].aB]] false))) x.r.aB[i].aB (by simp only[VD];omega);rw[<-ic (jn h' 1 [_] false (some 1) (len:=1) rfl)]at g1;have Q2:eY (λm=>h.length+1<=m) H1 h2:=Q.aB g4 (λ_ _ z=>z) (λ_ _ z=>z);have X2:eY fj h h2:=X1.aB Q2 (λ_ _ z=>z.elim) (λm hm z=>by have z:h.length+1<=m:=z;omega);have u:=X2.aA row;simp only[RX.aB]at u;obtain⟨q',j1,j2⟩:=M _ X2;obtain rfl:q=q':=by rw[i1]at j1;cases j1;rfl
  have U:gX h2 false 1 (lW 2 q)=some (.aA .i64 x.r.aB[i].aC):=by rw[jJ j2];rfl
  have O:h.length+1<=h2.length:=by have:=g4.1;omega
  obtain⟨a0,h3,t1,t2,t3,t4⟩:=g3.aB.aA O (eY.b1 (some (fh.aA 1 [[.aA .i64 x.r.aB[i].aC]] false))) x.r.aB[i].aC (by simp only[VD];omega);rw[<-ic (jn h2 1 [_] false (some 1) (len:=1) rfl)]at t1;have f0:=ko i2 (o:=0);have f2:=ko i2 (o:=2);simp only[go_sem,k0,k4,k5,k6,b,i1,f0,W,g1,u,f2,U,t1,ew];exact⟨_,by omega,(hI _ _ _).2 ⟨i+1,a1,a0,by simp[fi,k0],by simp[fi,k2],by simp[fi],by simp[fi],by simp[fi],by omega,rfl,by rw[ek,VI,VI];exact t3.aB,Q2.aB t4 (λ_ _ z=>z) (λ_ _ z=>z)⟩⟩
 ·simp at ci;obtain rfl:i=x.r.aB.length:=by omega
  rw[VH]at p;have B':=(Q.2 h.length (by omega) (λz=>by have z:h.length+1<=h.length:=z;omega)).trans B1;simp only[go_sem,k2,k4,k5,B'];obtain⟨A,B,-,-,oa,-,ob,-⟩:=p;have rc:fu fj h' x.r.aE.c [fA x.r.aE.aA,fA x.r.aE.aB,fA x.r.aE.aC]:=by have:=my fj h' x.r.aE.c;rwa [show D.aB x.r.aE.c=_ from fG.aD _]at this
  refine fR u3.1 (u3.2 fj A B h' x.r.aE _ _ _ a4 a5 rc (e_.rd _ (λ_ y=>y) _ oa) (e_.rd _ (λ_ y=>y) _ ob) (hR.aG (by omega)) (by simp only[VD,Vo];omega) (by simp only[VD,Vo];omega)) ?_;have en:x.r.aE.aO (x.r.id :: x.r.aB.map fO.aB) (x.r.aK :: x.r.aB.map fO.aC)=x.r.bE:=rfl;rw[en];have es:x.aI={x with r:=x.r.bz}:=rfl;rw[es];unfold fm.bz;generalize x.r.bE=n at *;simp only[go_sem,k0,b];refine fR u4.1 (u4.2 _ h' x.r.aA.aA _ n (fu.up a.aC X) (hR.aB hk)) ?_;simp only[go_sem,k0,b];have no:fX L h r x h':=fX.aB X (hx.up X).to;have lr':=(U_.1 b).1;have C:=fX.aB X ((a.up X).aD (x':={x with r:={x.r with aI:=n}}) (g':=g) (f':=ff) (ma':=ma) (ca':=ca) (e':=e) (co':=co) (cn':=cn) (cl':=cl) (sn':=sn) [] rfl);simp only[RX.aB]at C;by_cases c1:x.r.aI<n
  ·by_cases c2:x.r.aA.aA.aD n=true
   ·by_cases c3:x.r.aA.aA.aG n=x.r.aA.aB
    ·rw[Vf ⟨c1,c2,c3⟩];simp only[go_sem,Vc c1,c2,Vc c3,k0,b];exact C
    ·rw[Ve (λz=>c3 z.2.2)];simp only[go_sem,Vc c1,c2,Va c3,k0,b];exact no
   ·rw[Ve (λz=>c2 z.2.1)];have c2:x.r.aA.aA.aD n=false:=by simpa using c2
    simp only[go_sem,Vc c1,c2];exact no
  ·rw[Ve (λz=>c1 z.1)];simp only[go_sem,Va c1];exact no
def tB (P:Program)(f:FuncId):Prop:=fI P f=true/\∀(L:Nat->Nat)(h:eZ)(r:Nat)(x:RX)(k j:Nat),DX L h r x->x.r.aD k->k<2^28->x.aA j->j<2^20->fy P f [.aC r 26 0 0] h λ_ h'=>fX L h r x.aP h'
theorem Mx {P:Program}{f f1 f2 f3 f4 f5:FuncId}(hf:Is P f (AN f1 f2 f3 f4 f5))(u1:oz P f1)(u2:vv P f2)(u3:vz P f3)(u4:rq P f4)(u5:tA P f5):tB P f:=by
 refine⟨hf.2,λL h r x k j ⟨g,ff,ma,ca,e,co,cn,cl,sn,a⟩ b hk hj hj2=>fN hf ?_⟩;have row:=a.aA;have lr:=(U_.1 row).1;obtain⟨R,out⟩:=x;simp only at b;have T0:=a.aD (x':=⟨{R with aM:=2,aW:=R.id,aN:=0,aG:=[]},out⟩) (g':=.aB) (f':=ff) (ma':=ma) (ca':=ca) (e':=e) (co':=co) (cn':=cn) (cl':=cl) (sn':=sn) [0] rfl;simp only[RX.aB]at row T0;simp only[AN,go_sem,row,Vd lr,V8];generalize List.set h r _=H1 at *;have hl1:R.aK<=2^40+k:=b.aE;have u:0<=R.aK:=by have:=b.aC;unfold fm.aK fE.aC;omega
 have f0:({R with aM:=2,aW:=R.id,aN:=0,aG:=[]}:fm).aD k:=by obtain⟨g1,g2,g3,g4,g5,g6,g7,g8,g9,M,g11,I,g13,E,C⟩:=b;exact⟨g1,g2,g3,g4,g5,g6,g7,g8,g9,M,⟨Wm _,by show (0:Int)<=1;omega⟩,I,by simp,E,C⟩
 obtain⟨L1,d1,l1,x1⟩:=id T0;have el:({R with aM:=2,aW:=R.id,aN:=0,aG:=[]}:fm).aK=R.aK:=rfl;refine fR u1.1 (by have:=u1.2 L1 H1 r _ k d1 f0 (by omega);exact this) ?_;simp only[go_sem];have t:({R with aM:=2,aW:=R.id,aN:=0,aG:=[]}:fm).bB [] R.aK=R.aU:=rfl;refine fq ⟨u2.1,T0.aA λL' s'=>u2.2 L' H1 r _ k [] .aB R.aK s' (iS _ _ _) (by simp) ⟨u,by omega⟩ f0 (by omega)⟩ ?_;intro _ H2 T2;simp only[t]at T2;have f2:=b.aV (by omega);simp only[go_sem];refine fq ⟨u3.1,T2.aA λL' s'=>u3.2 fj L' H2 r ⟨R.aU,out⟩ k j 0 [] .aB s' f2 hk hj (by omega) (Rd.aJ 1) ⟨λ_ h=>by simp at h,by simp⟩ ⟨by omega,by omega⟩⟩ ?_;intro _ H3 T3;have f3:(({r:=R.aU,o:=out}:RX).aC 0 []).r.aD (k+1):=fm.aD.aP (x:={r:=R.aU,o:=out}) (kind:=0) (data:=[]) f2 (by omega) ⟨λ_ h=>by simp at h,by simp⟩ ⟨by omega,by omega⟩;have j3:(({r:=R.aU,o:=out}:RX).aC 0 []).aA (j+1):=RX.aA.aD (x:={r:=R.aU,o:=out}) hj 0 [];simp only[go_sem];refine fq ⟨u4.1,T3.aA λL' s'=>u4.2 L' H3 r _ (k+1) (j+1) s' f3 (by omega) j3 (by omega)⟩ ?_;intro _ H4 T4;simp only[go_sem];refine fq ⟨u5.1,T4.aA λL' s'=>u5.2 L' H4 r _ (k+1) s' (by rw[show (({r:=R.aU,o:=out}:RX).aC 0 []).on.r=(({r:=R.aU,o:=out}:RX).aC 0 []).r from (nW _ _).1];exact f3) (by omega)⟩ ?_;intro _ H5 T5;simp only[go_sem];exact T5
end Glb
