/-
  A library of its own.
-/
import Derived.Test.YtdeiamnhnfmilaaGreatGlbKitC
set_option linter.unusedSimpArgs false
set_option linter.unusedVariables false
set_option maxRecDepth 10000
set_option maxHeartbeats 16000000
namespace Glb
open Go
theorem iJ.lo {lo lo':Nat}{h:eZ}{sz:Nat}{a:AV}{es:List (List AV)}(ho:iJ lo h sz a es)(hl:lo'<=lo):iJ lo' h sz a es:=by
 rcases ho with ho | ⟨n,off,cap,row,g,h1,h2,h3⟩;·exact .inl ho
 ·exact .inr ⟨n,off,cap,row,g,h1,Vr hl h2,h3⟩
theorem fU.aN (x:fU):x.v=x.aG (f_ x.aA.es).av (fK x.aE.aA).av (fK x.aE.aB).av (fK x.aE.aC).av (fT x.aJ).av:=by simp only[fU.v,fU.c,D.aB,D.av,fU.aG]
def wF (o n:Nat)(agg:Bool):AV->Option AV
 | .aE cs=>if agg then (if o+n<=cs.length then some (.aE ((cs.drop o).take n)) else none) else cs[o]?
 | _=>none
theorem RL (g:fJ->AV)(h:eZ)(o n:Nat)(agg:Bool)(x:fJ):gB g h (.x (.aE o n agg x))=wF o n agg (g x):=by simp only[gB,j8,wF];cases g x<;>rfl
theorem Kw (o n:Nat)(cs:List AV):wF o n false (.aE cs)=cs[o]?:=Vn rfl rfl
theorem Kv (o n:Nat)(cs:List AV):wF o n true (.aE cs)=if o+n<=cs.length then some (.aE ((cs.drop o).take n)) else none:=Vn rfl rfl
attribute [go_sem] RL Kw Kv
def vm (P:Program)(f:FuncId):Prop:=fI P f=true/\∀(F:Nat->Prop)(h:eZ)(x:fU)(a:List AV),fu F h x.c a->x.aM->fy P f [.aE a] h λr h'=>r=.aE x.v/\h'=h
theorem Jh {P:Program}{f g k b:FuncId}(hf:Is P f (ze g k b))(hg:qb P g)(hk:ot P k)(hb:lj P b .u8):vm P f:=by refine⟨hf.2,λF h x a ha hx=>iF (Dv _ _) (fN hf ?_)⟩;obtain⟨e,o,n,d,s,rfl,he,ho,hn,hd,hs⟩:=xB ha;simp only[ze,fU.aG,go_sem,he.aA,ho.aA,hn.aA,hd.aA,hs.aA];have e1:=λH (e:eY fj h H)=>hg.g ((pS he).up e) hx.1;simp only[fE.aM]at e1;refine fR hg.1 (e1 _ (eY.b2 _ _)) ?_;simp only[go_sem];have e2:=λH (e:eY fj h H)=>hk.g ((nd ho hn hd).up e) hx.2.1;simp only[fG.aD]at e2;refine fR hk.1 (e2 _ (eY.b2 _ _)) ?_;simp only[go_sem];refine fR hb.1 (hb.gb (hs.up (eY.b2 _ _)) hx.2.2) ?_;simp only[go_sem,fU.aN,fU.aG];exact⟨rfl,eY.b2 _ _⟩
theorem vJ {k:IntKind}{a b:Int}{l l':List AV}(h:j9 l l'):j9 (.aA k a :: l) (.aA k b :: l'):=⟨_,_,rfl,.inr (.inl ⟨_,_,_,rfl,rfl⟩),h⟩
def qw (P:Program)(f:FuncId)(ts:List Ty):Prop:=
 fI P f=true/\∀(F:Nat->Prop)(h:eZ)(cs:List AV),gW ts F h cs->(∀m,F m->m<h.length)->fy P f [.aE cs] h λ_ h'=>eY F h h'/\ik h h'
theorem gn.aB {t:Ty}{F:Nat->Prop}{h:eZ}{a:AV}(ho:gn t F h a):a.aG=true:=by
 cases t with
 | aA k=>simp only[gn]at ho;obtain⟨n,rfl⟩:=ho;rfl
 | aB=>simp only[gn]at ho;obtain⟨n,rfl⟩:=ho;rfl
 | aC=>simp only[gn]at ho;obtain⟨n,rfl⟩:=ho;rfl
 | sl sz ts=>simp only[gn]at ho;rcases ho with rfl | ⟨t,c,rfl⟩ | ⟨n,off,len,cap,row,g,rfl,_⟩<;>rfl
theorem iG {t:Ty}{ts:List Ty}{F:Nat->Prop}{h:eZ}{l:List AV}(hh:gW (t :: ts) F h l):∃a r,l=a :: r/\gn t F h a/\gW ts F h r:=by simpa only[gW] using hh
theorem vX {F:Nat->Prop}{h:eZ}{l:List AV} (hh:gW [] F h l):l=[]:=by simpa only[gW] using hh
theorem gn.aA {t:Ty}{F:Nat->Prop}{h h':eZ}{a:AV}(ho:gn t F h a)(p:ik h h'):gn t F h' a:=p.1 _ _ _ ho
theorem ik.b1 (h:eZ)(z:Option fh):ik h (h++[z]):=ik.aD (eY.b1 z)
def nt:Ty:=.sl 1 [.aA .i64]
def wN:Ty:=.sl 1 [.aA .u8]
def si:List Ty:=[nt,nt,nt]
theorem J9 {P:Program}{f g:FuncId}(hf:Is P f (ug g))(hg:iU P g nt):qw P f si:=by refine⟨hf.2,λF h cs ho hF=>qM hf.1 (Wd rfl) ?_⟩;obtain⟨o,_,rfl,h1,ho⟩:=iG ho;obtain⟨n,_,rfl,h2,ho⟩:=iG ho;obtain⟨l,_,rfl,h3,ho⟩:=iG ho;cases vX ho;show vc P (ug g).aA ⟨[(0,.aE [o,n,l])],[],h⟩ (ia (ug g).aB _);simp only[ug,go_sem,h1.aB,h2.aB,h3.aB];have p0:=ik.b1 h (some (.aA 3 [[o,n,l]] false));have X0:=eY.b1 (h:=h) (some (.aA 3 [[o,n,l]] false));have B:=gh h (some (.aA 3 [[o,n,l]] false));generalize h++[some (fh.aA 3 [[o,n,l]] false)]=H at *;have lb:=(U_.1 B).1;refine fq ⟨hg.1,hg.2 F H o (h1.aA p0)⟩ ?_;rintro _ H1 ⟨X1,p1⟩;have B1:H1[h.length]?=_:=(X1.2 _ lb (λhm=>WA _ (hF _ hm))).trans B;have b:=(U_.1 B1).1;simp only[go_sem,B1];refine fq ⟨hg.1,hg.2 F H1 n ((h2.aA p0).aA p1)⟩ ?_;rintro _ H2 ⟨X2,p2⟩;have B2:H2[h.length]?=_:=(X2.2 _ b (λhm=>WA _ (hF _ hm))).trans B1;simp only[go_sem,B2];refine fq ⟨hg.1,hg.2 F H2 l (((h3.aA p0).aA p1).aA p2)⟩ ?_;rintro _ H3 ⟨X3,p3⟩;simp only[go_sem];exact⟨((X0.aB X1 (F'':=F) (λ_ _ x=>x.elim) (λ_ _ x=>x)).aB X2 (λ_ _ x=>x) (λ_ _ x=>x)).aB X3 (λ_ _ x=>x) (λ_ _ x=>x),((p0.aA p1).aA p2).aA p3⟩
theorem Oy {F:Nat->Prop}{h:eZ}{cs:List AV}(hh:gW oW F h cs):∃(x:fV)(e o n l s:AV),cs=x.aG e o n l s/\gn (.sl 3 kT) F h e/\gn nt F h o/\gn nt F h n/\gn nt F h l/\gn wN F h s:=by obtain⟨_,_,rfl,h1,hh⟩:=iG hh;obtain⟨_,_,rfl,h2,hh⟩:=iG hh;obtain⟨_,_,rfl,h3,hh⟩:=iG hh;obtain⟨_,_,rfl,h4,hh⟩:=iG hh;obtain⟨_,_,rfl,h5,hh⟩:=iG hh;obtain⟨e,_,rfl,h6,hh⟩:=iG hh;obtain⟨o,_,rfl,h7,hh⟩:=iG hh;obtain⟨n,_,rfl,h8,hh⟩:=iG hh;obtain⟨l,_,rfl,h9,hh⟩:=iG hh;obtain⟨s,_,rfl,t,hh⟩:=iG hh;cases vX hh;simp only[gn]at h1 h2 h3 h4 h5;obtain⟨a,rfl⟩:=h1;obtain⟨b,rfl⟩:=h2;obtain⟨c,rfl⟩:=h3;obtain⟨d,rfl⟩:=h4;obtain⟨g,rfl⟩:=h5;exact⟨⟨a,b,c,⟨d,g,[]⟩,⟨[],[],[]⟩,[]⟩,e,o,n,l,s,rfl,h6,h7,h8,h9,t⟩
theorem Ez {P:Program}{f g k b:FuncId}(hf:Is P f (zJ g k b))(hg:iU P g (.sl 3 kT))(hk:qw P k si)(hb:iU P b wN):qw P f oW:=by
 refine⟨hf.2,λF h cs ho hF=>fN hf ?_⟩;obtain⟨x,e,o,n,l,s,rfl,he,ho,hn,hl,hs⟩:=Oy ho;simp only[zJ,fV.aG,go_sem,he.aB,ho.aB,hn.aB,hl.aB,hs.aB];generalize hZ:(fh.aA 10 [[AV.aA IntKind.i64 x.aD,AV.aA IntKind.i64 x.aB,AV.aA IntKind.i64 x.aE,AV.aA IntKind.i64 x.aA.aA,AV.aA IntKind.i64 x.aA.aB,e,o,n,l,s]] false)=Z;have p0:=ik.b1 h (some Z);have X0:=eY.b1 (h:=h) (some Z);have B:=gh h (some Z);generalize h++[some Z]=H at *;subst hZ;have lb:=(U_.1 B).1;refine fq ⟨hg.1,hg.2 F H e (he.aA p0)⟩ ?_;rintro _ H1 ⟨X1,p1⟩;have B1:H1[h.length]?=_:=(X1.2 _ lb (λhm=>WA _ (hF _ hm))).trans B;have t:=(U_.1 B1).1;simp only[go_sem,B1];refine fq ⟨hk.1,hk.2 F H1 [o,n,l] ?_ (λm hm=>Nat.lt_trans (hF m hm) t)⟩ ?_;·simp only[si,gW];exact⟨_,_,rfl,(ho.aA p0).aA p1,_,_,rfl,(hn.aA p0).aA p1,_,_,rfl,(hl.aA p0).aA p1,rfl⟩
 rintro _ H2 ⟨X2,p2⟩;have B2:H2[h.length]?=_:=(X2.2 _ t (λhm=>WA _ (hF _ hm))).trans B1;simp only[go_sem,B2];refine fq ⟨hb.1,hb.2 F H2 s (((hs.aA p0).aA p1).aA p2)⟩ ?_;rintro _ H3 ⟨X3,p3⟩;simp only[go_sem];exact⟨((X0.aB X1 (F'':=F) (λ_ _ x=>x.elim) (λ_ _ x=>x)).aB X2 (λ_ _ x=>x) (λ_ _ x=>x)).aB X3 (λ_ _ x=>x) (λ_ _ x=>x),((p0.aA p1).aA p2).aA p3⟩
theorem LK {F:Nat->Prop}{h:eZ}{cs:List AV}(hh:gW qH F h cs):∃(x:fU)(e o n l s:AV),cs=x.aG e o n l s/\gn (.sl 3 kT) F h e/\gn nt F h o/\gn nt F h n/\gn nt F h l/\gn wN F h s:=by obtain⟨_,_,rfl,h1,hh⟩:=iG hh;obtain⟨_,_,rfl,h2,hh⟩:=iG hh;obtain⟨_,_,rfl,h3,hh⟩:=iG hh;obtain⟨_,_,rfl,h4,hh⟩:=iG hh;obtain⟨_,_,rfl,h5,hh⟩:=iG hh;obtain⟨_,_,rfl,g1,hh⟩:=iG hh;obtain⟨_,_,rfl,g2,hh⟩:=iG hh;obtain⟨e,_,rfl,h6,hh⟩:=iG hh;obtain⟨o,_,rfl,h7,hh⟩:=iG hh;obtain⟨n,_,rfl,h8,hh⟩:=iG hh;obtain⟨l,_,rfl,h9,hh⟩:=iG hh;obtain⟨s,_,rfl,t,hh⟩:=iG hh;obtain⟨_,_,rfl,v1,hh⟩:=iG hh;obtain⟨_,_,rfl,v2,hh⟩:=iG hh;obtain⟨_,_,rfl,v3,hh⟩:=iG hh;obtain⟨_,_,rfl,v4,hh⟩:=iG hh;obtain⟨_,_,rfl,v5,hh⟩:=iG hh;cases vX hh;simp only[gn]at h1 h2 h3 h4 h5 g1 g2 v1 v2 v3 v4 v5;obtain⟨a,rfl⟩:=h1;obtain⟨b,rfl⟩:=h2;obtain⟨c,rfl⟩:=h3;obtain⟨d,rfl⟩:=h4;obtain⟨g,rfl⟩:=h5;obtain⟨g1,rfl⟩:=g1;obtain⟨g2,rfl⟩:=g2;obtain⟨v1,rfl⟩:=v1;obtain⟨v2,rfl⟩:=v2;obtain⟨v3,rfl⟩:=v3;obtain⟨v4,rfl⟩:=v4;obtain⟨v5,rfl⟩:=v5;exact⟨⟨a,b,c,d,g,⟨g1,g2,[]⟩,⟨[],[],[]⟩,[],⟨v1,v2,v3,v4,v5⟩⟩,e,o,n,l,s,rfl,h6,h7,h8,h9,t⟩
theorem J7 {P:Program}{f g k b:FuncId}(hf:Is P f (zG g k b))(hg:iU P g (.sl 3 kT))(hk:qw P k si)(hb:iU P b wN):
  fI P f=true/\∀(F:Nat->Prop)(h:eZ)(av:AV),gn (.sl 17 qH) F h av->(∀m,F m->m<h.length)->fy P f [av] h λ_ h'=>eY F h h'/\ik h h':=by
 refine⟨hf.2,λF h a ho hF=>fN hf ?_⟩
 have lx:=ho.aD
 simp only[zG,go_sem]
 obtain⟨I,hI⟩:∃I:Nat->fY->eZ->Prop,∀m L h',I m L h'↔∃(i:Nat),lk 0 L=a/\lk 2 L=.aA .i64 i/\i<=jk a/\m=jk a-i/\eY F h h'/\ik h h':=⟨_,λ_ _ _=>Wu⟩
 refine gJ I (jk a) ((hI _ _ _).2 ⟨0,by simp[fi,ga],by simp[fi],by omega,by omega,eY.aC _ _,ik.aB _⟩) ?_
 intro m L h' hh
 obtain⟨i,h0,h2,hi,rfl,he,hp⟩:=(hI _ _ _).1 hh
 simp only[Fs,go_sem,lx,h0,h2]
 refine gx (λci=>?_) (λci=>?_)
 ·simp at ci
  obtain⟨n,off,row,gr,cs,h5,h6,h7,h8,h9⟩:=(hp.1 _ _ _ ho).aC ci
  obtain⟨x,ev,ov,nv,lv,sv,rfl,q1,q2,q3,q4,q5⟩:=LK h9
  have hl:=ho.aE
  have e:IntKind.i64.wrap (↑i+1)=(i:Int)+1:=fQ (by omega)
  simp only[fU.aG]at h8
  simp only[go_sem,h0,h2,h5,h7,h8]
  refine fq ⟨hg.1,hg.2 _ h' ev q1⟩ ?_
  rintro _ h3 ⟨u,t⟩
  have M:h3[n]?=some (some (.aA 17 row gr)):=by
   rw[u.2 n (U_.1 h7).1 (λx=>x.2 rfl)];exact h7
  simp only[go_sem,h0,h2,h5,M,h8]
  have w3:=he.1
  have w4:=u.1
  refine fq ⟨hk.1,hk.2 (λm=>F m/\m≠n) h3 [ov,nv,lv] ?_ (λm hm=>by have:=hF m hm.1;omega)⟩ ?_
  ·simp only[si,gW]
   exact⟨_,_,rfl,q2.aA t,_,_,rfl,q3.aA t,_,_,rfl,q4.aA t,rfl⟩
  rintro _ h4 ⟨W,O⟩
  have E:h4[n]?=some (some (.aA 17 row gr)):=by
   rw[W.2 n (U_.1 M).1 (λx=>x.2 rfl)];exact M
  simp only[go_sem,h0,h2,h5,E,h8]
  refine fq ⟨hb.1,hb.2 _ h4 sv ((q5.aA t).aA O)⟩ ?_
  rintro _ a3 ⟨U,a2⟩
  have a0:a3[n]?=some (some (.aA 17 row gr)):=by
   rw[U.2 n (U_.1 E).1 (λx=>x.2 rfl)];exact E
  have a1:=oP (x:=.aE [.aA .i64 (-77),.aA .i64 0,.aA .i64 0,.aA .i64 0,.aA .i64 0,.aA .i64 0,.aA .i64 0,.aB,.aB,.aB,.aB,.aB,.aA .i64 0,.aA .i64 0,.aA .i64 0,.aA .i64 0,.aA .i64 0]) a0 h8 rfl rfl rfl rfl
  simp only[go_sem,h0,h2,h5,e,a1]
  have C:j9 (x.aG ev ov nv lv sv) [.aA .i64 (-77),.aA .i64 0,.aA .i64 0,.aA .i64 0,.aA .i64 0,.aA .i64 0,.aA .i64 0,.aB,.aB,.aB,.aB,.aB,.aA .i64 0,.aA .i64 0,.aA .i64 0,.aA .i64 0,.aA .i64 0]:=by
   simp only[fU.aG]
   iterate 7 apply vJ
   refine⟨_,_,rfl,mT.aA q1,_,_,rfl,mT.aA q2,_,_,rfl,mT.aA q3,_,_,rfl,mT.aA q4,_,_,rfl,mT.aA q5,?_⟩
   iterate 5 apply vJ
   exact rfl
  exact⟨_,by omega,(hI _ _ _).2 ⟨i+1,by simp[fi,h0],by simp[fi],ci,rfl,((((he.aB u (λ_ _ x=>x) (λ_ _ x=>x.1)).aB W (λ_ _ x=>x) (λ_ _ x=>x.1)).aB U (λ_ _ x=>x) (λ_ _ x=>x.1))).aB (eY.aG (F:=F) _ (λ_=>h6)) (λ_ _ x=>x) (λ_ _ x=>x),(((hp.aA t).aA O).aA a2).aA (ik.aC a0 h8 C)⟩⟩
 ·simp only[go_sem]
  exact⟨he,hp⟩
theorem sF {l:List Int}(hl:l.length<=2^40):lu (fK l) nt:=by refine⟨_,rfl,by simpa using hl,rI λd hd=>?_⟩;obtain⟨n,-,rfl⟩:=Wl.1 hd;exact⟨_,_,rfl,rfl,rfl⟩
theorem G4 {x:fV}(h:x.aK):mV x.c oW:=
 ⟨_,_,rfl,rfl,_,_,rfl,rfl,_,_,rfl,rfl,_,_,rfl,rfl,_,_,rfl,rfl,_,_,rfl,um h.1,_,_,rfl,sF h.2.1.1,_,_,rfl,sF h.2.1.2.1,_,_,rfl,sF h.2.1.2.2,_,_,rfl,rU h.2.2,rfl⟩
theorem LL {x:fU}(h:x.aM):mV x.c qH:=
 ⟨_,_,rfl,rfl,_,_,rfl,rfl,_,_,rfl,rfl,_,_,rfl,rfl,_,_,rfl,rfl,_,_,rfl,rfl,_,_,rfl,rfl,_,_,rfl,um h.1,_,_,rfl,sF h.2.1.1,_,_,rfl,sF h.2.1.2.1,_,_,rfl,sF h.2.1.2.2,_,_,rfl,rU h.2.2,_,_,rfl,rfl,_,_,rfl,rfl,_,_,rfl,rfl,_,_,rfl,rfl,_,_,rfl,rfl,rfl⟩
end Glb
