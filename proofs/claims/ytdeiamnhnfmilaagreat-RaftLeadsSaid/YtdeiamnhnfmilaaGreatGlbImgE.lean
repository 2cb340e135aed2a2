/-
  A library of its own.
-/
import Derived.Test.YtdeiamnhnfmilaaGreatGlbImgD
import Derived.Test.YtdeiamnhnfmilaaGreatGlbLogA
set_option linter.unusedSimpArgs false
set_option linter.unusedVariables false
set_option maxRecDepth 10000
set_option maxHeartbeats 16000000
namespace Glb
open Go
variable {P:Program}{f:FuncId}
theorem U7 (es:List (List AV))(p:Nat):iq es p []=es:=by simp[iq]
theorem UT {h:fu}{n:Nat}{x:Option fC} (hn:h[n]?=some x):h.set n x=h:=by
 apply XT;intro i;rw[Yz];split;·rename_i e;subst e;rw[hn];simp[(WR.1 hn).1]
 ·rfl
theorem LL {h h':fu}{sz bytes:Nat}{av I:AV}{ys:List (List AV)}(u:∀n off len cap,av=.aG n sz off len cap->cap=some len)(e:iL h sz bytes av ys=some (I,h')):fq fB h h':=by
 have a1:∀es,fq fB h (gY h sz es).2:=λes=>fq.aF _ _ _;cases av with
 | aC=>
  simp only[iL]at e;split at e;·cases e;exact a1 _
  ·cases e
 | aM t clip sz' es=>
  simp only[iL]at e;split at e
  ·split at e;·cases e;exact fq.aC _ _
   ·split at e;·cases e;exact a1 _
    ·cases e
  ·cases e
 | aG n sz' off len cap=>
  simp only[iL]at e;split at e
  ·rename_i sz'' es g E;split at e
   ·rename_i hc;obtain⟨h1,h2,h3,h4⟩:=hc;subst h1;obtain rfl:=u _ _ _ _ rfl;cases len with
    | zero=>
     simp only[Yc]at e;split at e;·cases e;exact fq.aC _ _
     ·cases e;exact a1 _
    | succ c=>
     simp only at e;split at e;·cases e;exact a1 _
     ·have:ys=[]:=W5 ω;subst this;split at e;·cases e;rw[U7,UT (by rw[E,h2])];exact fq.aC _ _
      ·cases e
   ·cases e
  ·cases e
 | _=>simp[iL]at e
theorem yP {sz : Nat} {av u : AV} {k : Int} (e : iX sz av none (some k) (some k) = some u) : ∀ n off len cap, u = .aG n sz off len cap -> cap = some len := by
 intro n off len cap ha;subst ha;cases av with
 | aC=>simp[iX]at e
 | aM t clip sz' es=>simp only[iX]at e;split at e<;>cases e
 | aG m sz' off' len' cap'=>
  simp only[iX,Yo,XJ,Yc]at e;split at e;·simp only[W8,AV.aG.injEq,jW]at e;obtain⟨_,_,_,e1,e2⟩:=e;rw[<-e2,<-e1];simp
  ·cases e
 | _=>simp[iX]at e
theorem tF {sz bytes:Nat}{F G:Nat->Prop}{ds es:List (List D)}{h0 h:fu}{av:AV}{ys:List (List AV)}(ho:fA (.sl sz ds) F h0 av)(hc:ic h0 av)(e:∀n off len cap,av=.aG n sz off len cap->cap=some len)
  (hx:fq fB h0 h) (hy:fQ es G h ys) (hN:∀n off len cap,av=.aG n sz off len cap->¬G n) (hb:(ds.length+es.length)*bytes<=2^46):
  ∃u h',iL h sz bytes av ys=some (u,h')/\fA (.sl sz (ds++es)) (λm=>F m\/G m\/h.length<=m) h' u/\ic h' u/\fq fB h h':=by
 obtain⟨u,h',s1,s2,s3,s4,s5⟩:=I2 (bytes:=bytes) (F:=λm=>F m\/G m\/h.length<=m) (G:=G) (fA.aC _ (λm hm=>.inl hm) (λ_ _ _ x=>x) _ ho) hc hx hy (λm hm=>.inr (.inl hm)) hN (.inr (.inr (WX _))) hb;exact⟨u,h',s1,s2,s3,LL e s1⟩
variable {P:Program}{f:FuncId}
theorem FK {F:Nat->Prop}{h:fu}:∀{ds:List (List D)} {es:List (List AV)} (j:Nat) {d:List D} {cs:List AV},fQ ds F h es->fU d F h cs->fQ (ds.set j d) F h (es.set j cs)
 | [],es,j,d,cs,hh,hd=>by simp only[fQ]at hh;subst hh;simp[fQ]
 | e :: ds,es,0,d,cs,hh,hd=>by obtain⟨a,r,rfl,h1,h2⟩:=hh;exact⟨_,_,rfl,hd,h2⟩
 | e :: ds,es,j+1,d,cs,hh,hd=>by obtain⟨a,r,rfl,h1,h2⟩:=hh;exact⟨_,_,rfl,h1,FK j h2 hd⟩
theorem FH {F:Nat->Prop}{h:fu}:∀{ds:List (List D)} {es:List (List AV)} {j:Nat} {d:List D},fQ ds F h es->ds[j]?=some d->∃cs,es[j]?=some cs/\fU d F h cs
 | [],es,j,d,hh,hd=>by simp at hd
 | e :: ds,es,0,d,hh,hd=>by obtain⟨a,r,rfl,h1,h2⟩:=hh;simp only[Xx,W8]at hd;subst hd;exact⟨a,rfl,h1⟩
 | e :: ds,es,j+1,d,hh,hd=>by obtain⟨a,r,rfl,h1,h2⟩:=hh;simp only[Yh]at hd ⊢;exact FH h2 hd
theorem Er {sz:Nat}{ds:List (List D)}{F:Nat->Prop}{h:fu}{a:AV}{j:Nat}{d0:List D}(ho:fA (.sl sz ds) F h a) (hj:ds[j]?=some d0):
  ∃n off row g cs len cap,a=.aG n sz off len cap/\F n/\jq sz a (ι j)=some (.aA n sz (off+j) 0)/\h[n]?=some (some (.aA sz row g))/\row[off+j]?=some cs/\fU d0 (λm=>F m/\m≠n) h cs /\
   ∀(F':Nat->Prop)(h':fu)(d:List D)(cs':List AV),(∀m,F m->F' m)->ik (λm=>F m/\m≠n) h h'->h'[n]?=h[n]?->fU d (λm=>F' m/\m≠n) h' cs'->fA (.sl sz (ds.set j d)) F' (h'.set n (some (.aA sz (row.set (off+j) cs') g))) a:=by
 have E:=(WR.1 hj).1;simp only[fA]at ho;rcases ho with⟨rfl,rfl⟩ | ⟨t,c,rfl,rfl⟩ | ⟨n,off,cap,row,g,rfl,hn,u,U,a1,hd⟩;·simp at E
 ·simp at E
 obtain⟨cs,I,a2⟩:=FH hd hj;rw[Ye,WW E,Xv]at I;refine⟨n,off,row,g,cs,ds.length,cap,rfl,hn,?_,u,I,a2,λF' h' d cs' hF hk O Z=>?_⟩;·simp only[jq];rw[WW ⟨Xb,ω,ω⟩];simp
 ·have hlt:=(WR.1 (O.trans u)).1;simp only[fA];refine .inr (.inr ⟨n,off,cap,_,g,by rw[W4],hF _ hn,W0 hlt,by rw[W4,W4];exact U,by rw[W4];exact a1,?_⟩);have e:((row.set (off+j) cs').drop off).take (ds.set j d).length=((row.drop off).take ds.length).set j cs':=by
   rw[W4];apply XT;intro i;simp only[Ye,Xv,Yz,W7,Xk];by_cases e1:i<ds.length
   ·rw[WW e1];by_cases e2:j=i;·subst e2;rw[WW rfl,WW rfl,WW ω,WW ω]
    ·rw[WY ω,WY e2,WW e1]
   ·rw[WY e1,WY ω,WY e1]
  rw[e];have W:fQ ds (λm=>F' m/\m≠n) h' ((row.drop off).take ds.length):=fQ.aA _ (λm x=>⟨hF _ x.1,x.2⟩) hk _ hd;exact fQ.aA _ (λ_ x=>x) (λm hm y hy=>by rw[WS (λe=>hm.2 e.symm)];exact hy) _ (FK j W Z)
variable {P:Program}{f:FuncId}
def fP.aM (x:fP)(c:gE):fG:=if x.aA.aF c.aA.aA=true/\x.aA.aJ c.aA.aA=c.aA.aD then x.aA.aK c.aA.aA else ⟨c.aA.aA,c.aA.aD,[]⟩
def fP.aI (x:fP)(c:gE):fP×Int:=
 if c.aC=1 then ({x with aC:=c.aK,aF:=c.aL},0)
 else if c.aC=2 then (if c.aE<=x.aA.aA\/x.aA.aC+1<c.aE then (x,3) else ({x with aA:=⟨x.aA.aA,x.aA.aD,x.aA.es.take (c.aE-x.aA.aA-1).toNat++c.aA.es⟩},0))
 else if c.aC=3 then ({x with aA:=x.aM c,aD:=c.aG,aG:=c.aJ},0)
 else (x,0)
def gE.aF (x:gE)(e o n l s:AV):List AV:=[.aD .i64 x.aC,.aD .i64 x.aH,.aD .i64 x.aK,.aD .i64 x.aL,.aD .i64 x.aE,.aD .i64 x.aA.aA,.aD .i64 x.aA.aD,e,o,n,l,s,.aD .i64 x.aD.aA,.aD .i64 x.aD.aC,.aD .i64 x.aD.aE,.aD .i64 x.aD.aD,.aD .i64 x.aD.aF]
theorem Ep {x:fP}{F:Nat->Prop}{h:fu}{a:List AV}(hh:fU x.c F h a):∃e o n l s,a=x.aH e o n l s/\fA (gZ x.aA.es) F h e/\fA (f_ x.aD.aA) F h o/\fA (f_ x.aD.aC) F h n/\fA (f_ x.aD.aD) F h l/\fA (gG x.aG) F h s:=by simp only[fP.c,fU]at hh;obtain⟨_,_,rfl,h1,_,_,rfl,h2,_,_,rfl,h3,_,_,rfl,h4,_,_,rfl,h5,e,_,rfl,he,o,_,rfl,ho,n,_,rfl,hn,l,_,rfl,hl,s,_,rfl,hs,rfl⟩:=hh;simp only[fA]at h1 h2 h3 h4 h5;subst h1 h2 h3 h4 h5;exact⟨e,o,n,l,s,rfl,he,ho,hn,hl,hs⟩
theorem I4 {x:gE}{F:Nat->Prop}{h:fu}{a:List AV}(hh:fU x.c F h a):∃e o n l s,a=x.aF e o n l s/\fA (gZ x.aA.es) F h e/\fA (f_ x.aG.aA) F h o/\fA (f_ x.aG.aC) F h n/\fA (f_ x.aG.aD) F h l/\fA (gG x.aJ) F h s:=by simp only[gE.c,fU]at hh;obtain⟨_,_,rfl,h1,_,_,rfl,h2,_,_,rfl,h3,_,_,rfl,h4,_,_,rfl,h5,_,_,rfl,h6,_,_,rfl,h7,e,_,rfl,he,o,_,rfl,ho,n,_,rfl,hn,l,_,rfl,hl,s,_,rfl,hs,_,_,rfl,g1,_,_,rfl,g2,_,_,rfl,g3,_,_,rfl,g4,_,_,rfl,g5,rfl⟩:=hh;simp only[fA]at h1 h2 h3 h4 h5 h6 h7 g1 g2 g3 g4 g5;subst h1 h2 h3 h4 h5 h6 h7 g1 g2 g3 g4 g5;exact⟨e,o,n,l,s,rfl,he,ho,hn,hl,hs⟩
theorem tp {x:fP}{F:Nat->Prop}{h:fu}{e o n l s:AV}(he:fA (gZ x.aA.es) F h e)(ho:fA (f_ x.aD.aA) F h o)(hn:fA (f_ x.aD.aC) F h n)(hl:fA (f_ x.aD.aD) F h l)(hs:fA (gG x.aG) F h s):fU x.c F h (x.aH e o n l s):=
 ⟨_,_,rfl,jf _ _ _,_,_,rfl,jf _ _ _,_,_,rfl,jf _ _ _,_,_,rfl,jf _ _ _,_,_,rfl,jf _ _ _,_,_,rfl,he,_,_,rfl,ho,_,_,rfl,hn,_,_,rfl,hl,_,_,rfl,hs,rfl⟩
theorem tG {F:Nat->Prop}{sz:Nat}{ds:List (List D)}{h:fu}{a:AV}(ho:fA (.sl sz ds) F h a):∃ys,jD h sz a=some ys/\fQ ds F h ys:=by
 simp only[fA]at ho;rcases ho with⟨rfl,rfl⟩ | ⟨t,c,rfl,rfl⟩ | ⟨n,off,cap,row,g,rfl,hn,e,u,hcl,hd⟩
 ·exact⟨[],rfl,rfl⟩
 ·exact⟨[],by simp[jD],rfl⟩
 ·refine⟨(row.drop off).take ds.length,by simp only[jD,e];rw[WW ⟨Xb,Xb,u⟩],fQ.aA _ (λm hm=>hm.1) (λ_ _ _ x=>x) _ hd⟩
theorem RE {F:Nat->Prop}{sz u:Nat}{ds:List (List D)}{h:fu}{n off len:Nat}{cap:Option Nat}(ho:fA (.sl sz ds) F h (.aG n u off len cap)):F n:=by
 simp only[fA]at ho;rcases ho with⟨e,-⟩ | ⟨t,c,e,-⟩ | ⟨n',off',cap',row,g,e,hn,-⟩
 ·cases e
 ·cases e
 ·cases e;exact hn
def FY (P:Program)(f:FuncId):Prop:=fZ P f=true/\∀(F G:Nat->Prop)(h:fu)(x:fP)(c:gE)(az cs:List AV),fU x.c F h az->fU c.c G h cs->(∀m,F m->¬G m)->kh x.aA->c.aA.es.length<=2^32->
 fO P f [.aF az,.aF cs] h λr h'=>∃rs,r=.aI [.aF rs,.aD .i64 (x.aI c).2]/\fU (x.aI c).1.c (λm=>F m\/G m\/h.length<=m) h' rs/\fq fB h h'
theorem Vp {la te cu:FuncId}(hf:Is P f (Cc la te cu))(a6:mR P la)(a5:pO P te)(a8:vJ P cu):FY P f:=by
 refine⟨hf.2,λF G h x c az cs hx hc hd ab hce=>gy hf ?_⟩;obtain⟨e,o,n,l,s,rfl,he,ho,hn,hl,hs⟩:=Ep hx;obtain⟨e',o',n',l',s',rfl,a7,U,W,Z,I⟩:=I4 hc;have c10:(x.aH e o n l s).length=10:=rfl;simp only[Cc,fP.aH,gE.aF,go_sem,he.aA,ho.aA,hn.aA,hl.aA,hs.aA,a7.aA,U.aA,W.aA,Z.aA,I.aA];have X3:=fq.b3 (h:=h) (some (.aA 10 [x.aH e o n l s] false)) (some (.aA 17 [c.aF e' o' n' l' s'] false)) (some (.aA 10 [[ι 0,ι 0,ι 0,ι 0,ι 0,.aC,.aC,.aC,.aC,.aC]] false));have u:∀{H:fu}(d:D)(a:AV),fq fB h H->fA d F h a->fA d (λm=>F m\/G m\/h.length<=m) H a:=λd a ex hh=>fA.aC _ (λm hm=>.inl hm) (ex.aE F) _ hh;have O:∀{H:fu}(d:D)(a:AV),fq fB h H->fA d G h a->fA d (λm=>F m\/G m\/h.length<=m) H a:=λd a ex hh=>fA.aC _ (λm hm=>.inr (.inl hm)) (ex.aE G) _ hh;obtain⟨b0,b1,a3⟩:=ab;have hsl:=a3.1;have hlast:x.aA.aC=x.aA.aA+x.aA.es.length:=rfl;by_cases k1:c.aC=1
 ·simp only[go_sem,WZ k1,he.aA,ho.aA,hn.aA,hl.aA,hs.aA];have eg:x.aI c=({x with aC:=c.aK,aF:=c.aL},0):=by simp[fP.aI,k1]
  rw[eg];exact⟨_,rfl,tp (x:={x with aC:=c.aK,aF:=c.aL}) (u _ _ (fq.b3 _ _ _) he) (u _ _ (fq.b3 _ _ _) ho) (u _ _ (fq.b3 _ _ _) hn) (u _ _ (fq.b3 _ _ _) hl) (u _ _ (fq.b3 _ _ _) hs),fq.b3 _ _ _⟩
 by_cases k2:c.aC=2
 ·simp only[go_sem,WV k1,WZ k2];have hR:fH (λ_=>True) _ x.aA.c [ι x.aA.aA,ι x.aA.aD,e]:=⟨_,_,rfl,by simp only[Rd],_,_,rfl,by simp only[Rd],_,_,rfl,fA.rd _ (F':=λ_=>True) (λ_ _=>Xb) _ (u _ _ X3 he),rfl⟩;refine gH a6.1 (a6.2 _ _ x.aA _ hR ⟨b0,b1,a3⟩) ?_;have e1:IntKind.i64.wrap (x.aA.aC+1)=x.aA.aC+1:=gF ω;simp only[go_sem];by_cases c1:c.aE<=x.aA.aA
  ·simp only[go_sem,WZ c1,he.aA,ho.aA,hn.aA,hl.aA,hs.aA];have eg:x.aI c=(x,3):=by simp[fP.aI,k2,c1]
   rw[eg];exact⟨_,rfl,tp (x:=x) (u _ _ (fq.b3 _ _ _) he) (u _ _ (fq.b3 _ _ _) ho) (u _ _ (fq.b3 _ _ _) hn) (u _ _ (fq.b3 _ _ _) hl) (u _ _ (fq.b3 _ _ _) hs),fq.b3 _ _ _⟩
  by_cases c2:x.aA.aC+1<c.aE
  ·simp only[go_sem,WV c1,e1,WZ c2,he.aA,ho.aA,hn.aA,hl.aA,hs.aA];have eg:x.aI c=(x,3):=by simp[fP.aI,k2,c2]
   rw[eg];exact⟨_,rfl,tp (x:=x) (u _ _ (fq.b3 _ _ _) he) (u _ _ (fq.b3 _ _ _) ho) (u _ _ (fq.b3 _ _ _) hn) (u _ _ (fq.b3 _ _ _) hl) (u _ _ (fq.b3 _ _ _) hs),fq.b3 _ _ _⟩
  have e2:IntKind.i64.wrap (c.aE-x.aA.aA)=c.aE-x.aA.aA:=gF ω;have e3:IntKind.i64.wrap (c.aE-x.aA.aA-1)=c.aE-x.aA.aA-1:=gF ω;have hE:fA (.sl 3 (x.aA.es.map gw.c)) (λm=>F m/\m<h.length) _ e:=fA.aC _ (λ_ x=>x) (X3.aE _) _ (fA.lt _ _ he);have ae:fA (.sl 3 (c.aA.es.map gw.c)) (λm=>G m/\m<h.length) _ e':=fA.aC _ (λ_ x=>x) (X3.aE _) _ (fA.lt _ _ a7);obtain⟨av',s1,s2,s3⟩:=u_ (k:=c.aE-x.aA.aA-1) hE ω (by simp;omega);obtain⟨ys,a1,a2⟩:=tG ae;obtain⟨o4,H4,t1,t2,t3,t4⟩:=tF (bytes:=40) s2 s3 (yP s1) (fq.aC fB _) a2 (λn off len cap ea hg=>by subst ea;exact hd _ (RE s2).1 hg.1) (by simp only[W7,Xd];omega);rw[<-iR a1]at t1;have C0:=t4.aA (qB h (some (.aA 10 [x.aH e o n l s] false)) (some (.aA 17 [c.aF e' o' n' l' s'] false)) (some (.aA 10 [[ι 0,ι 0,ι 0,ι 0,ι 0,.aC,.aC,.aC,.aC,.aC]] false)));have C1:=t4.aA (rB h (some (.aA 10 [x.aH e o n l s] false)) (some (.aA 17 [c.aF e' o' n' l' s'] false)) (some (.aA 10 [[ι 0,ι 0,ι 0,ι 0,ι 0,.aC,.aC,.aC,.aC,.aC]] false)));have C2:=t4.aA (uD h (some (.aA 10 [x.aH e o n l s] false)) (some (.aA 17 [c.aF e' o' n' l' s'] false)) (some (.aA 10 [[ι 0,ι 0,ι 0,ι 0,ι 0,.aC,.aC,.aC,.aC,.aC]] false)));have l0:=(WR.1 C0).1;have l2:=(WR.1 C2).1;have XH:fq fB h H4:=X3.tr t4;simp only[fP.aH]at C0 C2 t1;simp only[gE.aF]at C1 t1;have a4:(h.length=h.length+1+1)=False:=Xp ω;have a9:(h.length+1+1=h.length)=False:=Xp ω;simp only[go_sem,WV c1,e1,WV c2,e2,e3,n_,s1,t1,C0,C1,C2,l0,l2,a4,W4,t2.aA,gV t2.aA,ho.aA,hn.aA,hl.aA,hs.aA];have eg:x.aI c=({x with aA:=⟨x.aA.aA,x.aA.aD,x.aA.es.take (c.aE-x.aA.aA-1).toNat++c.aA.es⟩},0):=by simp[fP.aI,k2,c1,c2]
  rw[eg];have XX:fq fB h ((H4.set h.length (some (.aA 10 [[ι x.aE,ι x.aC,ι x.aF,ι x.aA.aA,ι x.aA.aD,o4,o,n,l,s]] false))).set (h.length+1+1) (some (.aA 10 [[ι x.aE,ι x.aC,ι x.aF,ι x.aA.aA,ι x.aA.aD,o4,o,n,l,s]] false))):=(XH.aG (WX _) _).aG ω _;have l3:=X3.1;refine⟨_,rfl,tp (x:={x with aA:=⟨x.aA.aA,x.aA.aD,x.aA.es.take (c.aE-x.aA.aA-1).toNat++c.aA.es⟩}) ?_ (u _ _ XX ho) (u _ _ XX hn) (u _ _ XX hl) (u _ _ XX hs),XX⟩;simp only[gZ,XU,YX];refine fA.aC _ (λm hm=>?_) (λm hm y hy=>?_) _ t2
  ·simp only[WT,Xf,Xi]at hm;rcases hm with hm | hm | hm
   ·exact .inl hm.1
   ·exact .inr (.inl hm.1)
   ·exact .inr (.inr ω)
  ·simp only[WT,Xf,Xi]at hm;rw[WS ω,WS ω];exact hy
 by_cases k3:c.aC=3
 ·simp only[go_sem,WV k1,WV k2,WZ k3];have hR:fH (λ_=>True) _ x.aA.c [ι x.aA.aA,ι x.aA.aD,e]:=⟨_,_,rfl,by simp only[Rd],_,_,rfl,by simp only[Rd],_,_,rfl,fA.rd _ (F':=λ_=>True) (λ_ _=>Xb) _ (u _ _ X3 he),rfl⟩;refine gH a5.1 (a5.2 _ _ x.aA _ c.aA.aA hR ⟨b0,b1,a3⟩) ?_;have eg:x.aI c=({x with aA:=x.aM c,aD:=c.aG,aG:=c.aJ},0):=by simp[fP.aI,k3]
  rw[eg];have E:¬(x.aA.aF c.aA.aA=true/\x.aA.aJ c.aA.aA=c.aA.aD)->∀{H:fu},fq fB h H->fU ({x with aA:=x.aM c,aD:=c.aG,aG:=c.aJ}:fP).c (λm=>F m\/G m\/h.length<=m) H [ι x.aE,ι x.aC,ι x.aF,ι c.aA.aA,ι c.aA.aD,.aC,o',n',l',s']:=by
   intro ac H XX;have es:x.aM c=⟨c.aA.aA,c.aA.aD,[]⟩:=by simp only[fP.aM];rw[WY ac]
   rw[es];exact tp (x:={x with aA:=⟨c.aA.aA,c.aA.aD,[]⟩,aD:=c.aG,aG:=c.aJ}) (fA.aD _) (O _ _ XX U) (O _ _ XX W) (O _ _ XX Z) (O _ _ XX I)
  cases hh:x.aA.aF c.aA.aA with
  | false=>simp only[go_sem,U.aA,W.aA,Z.aA,I.aA,gV I.aA];exact⟨_,rfl,E (by simp[hh]) (fq.b3 _ _ _),fq.b3 _ _ _⟩
  | true=>
   by_cases ht:x.aA.aJ c.aA.aA=c.aA.aD
   ·simp only[go_sem,WZ ht];refine fK ⟨a8.1,a8.2 _ _ x.aA _ c.aA.aA hR ⟨b0,b1,a3⟩⟩ ?_;rintro _ H4 ⟨cs,rfl,oc,t4⟩;obtain⟨d,rfl,od⟩:=Et oc;have C0:=t4.aA (qB h (some (.aA 10 [x.aH e o n l s] false)) (some (.aA 17 [c.aF e' o' n' l' s'] false)) (some (.aA 10 [[ι 0,ι 0,ι 0,ι 0,ι 0,.aC,.aC,.aC,.aC,.aC]] false)));have C1:=t4.aA (rB h (some (.aA 10 [x.aH e o n l s] false)) (some (.aA 17 [c.aF e' o' n' l' s'] false)) (some (.aA 10 [[ι 0,ι 0,ι 0,ι 0,ι 0,.aC,.aC,.aC,.aC,.aC]] false)));have C2:=t4.aA (uD h (some (.aA 10 [x.aH e o n l s] false)) (some (.aA 17 [c.aF e' o' n' l' s'] false)) (some (.aA 10 [[ι 0,ι 0,ι 0,ι 0,ι 0,.aC,.aC,.aC,.aC,.aC]] false)));have l0:=(WR.1 C0).1;have l2:=(WR.1 C2).1;have XH:fq fB h H4:=X3.tr t4;simp only[fP.aH]at C0 C2;simp only[gE.aF]at C1;have aa:(h.length=h.length+1)=False:=Xp ω;have n10:(h.length+1=h.length)=False:=Xp ω;have a4:(h.length=h.length+1+1)=False:=Xp ω;have a9:(h.length+1+1=h.length)=False:=Xp ω;simp only[go_sem,C0,C1,C2,l0,l2,aa,a4,W4,od.aA,U.aA,W.aA,Z.aA,I.aA,gV I.aA];have es:x.aM c=x.aA.aK c.aA.aA:=by simp only[fP.aM];rw[WW ⟨hh,ht⟩]
    rw[es];have XX:=(((XH.aG (n:=h.length) (WX _) (some (.aA 10 [[ι x.aE,ι x.aC,ι x.aF,ι (x.aA.aK c.aA.aA).aA,ι (x.aA.aK c.aA.aA).aD,d,o,n,l,s]] false))).aG (n:=h.length) (WX _) (some (.aA 10 [[ι x.aE,ι x.aC,ι x.aF,ι (x.aA.aK c.aA.aA).aA,ι (x.aA.aK c.aA.aA).aD,d,o',n',l',s]] false))).aG (n:=h.length) (WX _) (some (.aA 10 [[ι x.aE,ι x.aC,ι x.aF,ι (x.aA.aK c.aA.aA).aA,ι (x.aA.aK c.aA.aA).aD,d,o',n',l',s']] false))).aG (n:=h.length+1+1) ω (some (.aA 10 [[ι x.aE,ι x.aC,ι x.aF,ι (x.aA.aK c.aA.aA).aA,ι (x.aA.aK c.aA.aA).aD,d,o',n',l',s']] false));refine⟨_,rfl,tp (x:={x with aA:=x.aA.aK c.aA.aA,aD:=c.aG,aG:=c.aJ}) ?_ (O _ _ XX U) (O _ _ XX W) (O _ _ XX Z) (O _ _ XX I),XX⟩;refine fA.aC _ (λm hm=>?_) (λm hm y hy=>?_) _ od;·simp only[WT,Xf,Xi]at hm;exact .inr (.inr ω)
    ·simp only[WT,Xf,Xi]at hm;rw[WS ω,WS ω,WS ω,WS ω];exact hy
   ·simp only[go_sem,WV ht,U.aA,W.aA,Z.aA,I.aA,gV I.aA];exact⟨_,rfl,E (λhc=>ht hc.2) (fq.b3 _ _ _),fq.b3 _ _ _⟩
 ·simp only[go_sem,WV k1,WV k2,WV k3,he.aA,ho.aA,hn.aA,hl.aA,hs.aA];have eg:x.aI c=(x,0):=by simp[fP.aI,k1,k2,k3]
  rw[eg];exact⟨_,rfl,tp (x:=x) (u _ _ (fq.b3 _ _ _) he) (u _ _ (fq.b3 _ _ _) ho) (u _ _ (fq.b3 _ _ _) hn) (u _ _ (fq.b3 _ _ _) hl) (u _ _ (fq.b3 _ _ _) hs),fq.b3 _ _ _⟩
variable {P:Program}{f:FuncId}
def rq:List im->im->List im
 | [],v=>[v]
 | a :: r,v=>if a.aG v=true then a :: rq r v else if a.aA=v.aA/\a.aC=v.aC then v :: r else v :: a :: r
theorem AR:∀(l:List im)(v:im)(i:Nat),i<=l.length->(∀(j:Nat)(hj:j<l.length),j<i->l[j].aG v=true)->(∀hi:i<l.length,l[i].aG v=false)->
  rq l v=l.take i++(match l[i]? with
   | some a=>if a.aA=v.aA/\a.aC=v.aC then v :: l.drop (i+1) else v :: l.drop i
   | none=>[v])
 | [],v,i,hi,h1,h2=>by simp[rq]
 | a :: r,v,0,hi,h1,h2=>by have:=h2 ς;simp only[YB]at this;simp[rq,this]
 | a :: r,v,i+1,hi,h1,h2=>by have ha:a.aG v=true:=h1 0 ς ω;simp only[rq];rw[WW ha,AR r v i (by simpa using hi) (λj hj hji=>h1 (j+1) (by simpa using hj) ω) (λe=>h2 (by simpa using e))];simp
def E_ (P:Program)(f:FuncId):Prop:=fZ P f=true/\∀(F:Nat->Prop)(h:fu)(l:List im)(a:AV)(v:im)(vs:List AV),fA (mJ l) F h a->vs=[.aD .i64 v.aA,.aD .i64 v.aC,.aD .i64 v.aE,.aD .i64 v.aD,.aD .i64 v.aF]->l.length<=2^32->
 fO P f [a,.aF vs] h λr h'=>fA (mJ (rq l v)) (λm=>F m\/h.length<=m) h' r/\fq F h h'
theorem Ld {g:FuncId}(hf:Is P f (BN g))(hg:zY P g):E_ P f:=by
 refine⟨hf.2,λF h l a v vs ho hv hl=>gy hf ?_⟩;subst hv;have hR:Rd (λ_=>True) h (mJ l) a:=fA.rd _ (λ_ _=>Xb) _ ho;have la:iJ a=some (ι l.length):=by simpa using hR.aC
 simp only[BN,go_sem];have X0:=fq.b1 (h:=h) (some (.aA 5 [[ι v.aA,ι v.aC,ι v.aE,ι v.aD,ι v.aF]] false));have A0:=h_ h (some (.aA 5 [[ι v.aA,ι v.aC,ι v.aE,ι v.aD,ι v.aF]] false));have ab:=hR.up X0;have E:fA (mJ l) (λm=>F m/\m<h.length) _ a:=fA.aC _ (λ_ x=>x) (X0.aE _) _ (fA.lt _ _ ho);have lH:h.length+1=(h++[some (fC.aA 5 [[ι v.aA,ι v.aC,ι v.aE,ι v.aD,ι v.aF]] false)]).length:=by simp
 generalize h++[some (fC.aA 5 [[ι v.aA,ι v.aC,ι v.aE,ι v.aD,ι v.aF]] false)]=H at *;refine iP (λm L h'=>∃i:Nat,lk 0 L=a/\lk 3 L=.aA h.length 5 0 0/\lk 5 L=ι i/\h'=H/\i<=l.length/\m=l.length-i/\∀(j:Nat)(hj:j<l.length),j<i->l[j].aG v=true) l.length ?_ ?_;·exact⟨0,by simp[fE,iw],by simp[fE],by simp[fE],rfl,ω,ω,ω⟩
 ·rintro m L h2 ⟨i,k0,k3,k5,rfl,hi,rfl,hj⟩;have out:(∀hi:i<l.length,l[i].aG v=false)->True:=λ_=>Xb;by_cases ci:(i:Int)<l.length
  ·have U:i<l.length:=ω;obtain⟨p,cs,I,O,a9⟩:=ab.aD .i64 (i:=i) (d:=l[i].c) ω (by simp[U]);have r1:=Jq a9;have t1:=jN O true 5;rw[ES,WW (by rw[r1];simp),Xu (by rw[r1];simp)]at t1;simp only[BO,go_sem,k0,k3,k5,la,WZ ci,I,t1,A0];refine gH hg.1 (hg.2 h2 l[i] v cs _ r1 rfl) ?_;have e1:IntKind.i64.wrap (↑i+1)=(i:Int)+1:=gF ω;cases cg:(l[i]).aG v with
   | true=>
    simp only[go_sem,t1,A0,k0,k3,k5,e1];refine⟨_,ω,i+1,ς,ω,rfl,λj a5 hji=>?_⟩;by_cases e:j=i;·subst e;exact cg
    ·exact hj j a5 ω
   | false=>
    have u:=AR l v i hi hj (λ_=>cg);rw[WU U]at u;simp only at u;subst r1;simp only[go_sem,t1,A0,k0,k3,k5,la,WZ ci,I,oW O,pR O];by_cases c1:l[i].aA=v.aA
    ·simp only[go_sem,WZ c1,A0,k0,k3,k5,I,oW O,pR O];by_cases c2:l[i].aC=v.aC
     ·rw[WW ⟨c1,c2⟩]at u;simp only[go_sem,WZ c2,A0,k0,k3,k5,I];obtain⟨n,off,row,gg,cs',len,cap,rfl,hn,a6,Z,a4,a7,a3⟩:=Er (j:=i) (d0:=l[i].c) E (by simp[U]);rw[a6]at I;cases I;have aa:cs'.length=5:=by rw[xQ a7];rfl
      have st:=yk (x:=.aF [ι v.aA,ι v.aC,ι v.aE,ι v.aD,ι v.aF]) Z a4 rfl (by rw[aa];rfl) rfl rfl;simp only[go_sem,k0,st];rw[u];have es:l.take i++v :: l.drop (i+1)=l.set i v:=by rw[List.set_eq_take_append_cons_drop,WW U]
      rw[es];have:=a3 _ h2 v.c _ (λ_ x=>x) (λ_ _ _ x=>x) rfl ⟨_,_,rfl,jf _ _ v.aA,_,_,rfl,jf _ _ v.aC,_,_,rfl,jf _ _ v.aE,_,_,rfl,jf _ _ v.aD,_,_,rfl,jf _ _ v.aF,rfl⟩;rw[<-Zk]at this;exact⟨fA.aC _ (λm hm=>.inl hm.1) (λ_ _ _ x=>x) _ this,X0.aD (fq.aH _ (λ_=>hn.1)) (λ_ _ x=>x.elim) (λ_ _ x=>x)⟩
     ·rw[WY (λhc=>c2 hc.2)]at u;simp only[go_sem,WV c2,k0,k5];obtain⟨W,s1,s2,s3⟩:=u_ (k:=(i:Int)) E ω (by simp;omega);obtain⟨bv,u1,u2⟩:=zu (k:=(i:Int)) E ω (by simp;omega);rw[Yj]at s2 u2;have E5:=fq.b1 (h:=h2) (some (.aA 5 [[ι v.aA,ι v.aC,ι v.aE,ι v.aD,ι v.aF]] false));have u5:=fA.aC (F':=λm=>F m/\m<h.length) _ (λ_ x=>x) (E5.aE _) _ u2;obtain⟨ys,a1,a2⟩:=tG u5;rw[<-Zq]at a2;have v1:fU v.c (λm=>m=h2.length/\m≠h2.length) (h2++[some (.aA 5 [[ι v.aA,ι v.aC,ι v.aE,ι v.aD,ι v.aF]] false)]) [ι v.aA,ι v.aC,ι v.aE,ι v.aD,ι v.aF]:=⟨_,_,rfl,jf _ _ _,_,_,rfl,jf _ _ _,_,_,rfl,jf _ _ _,_,_,rfl,jf _ _ _,_,_,rfl,jf _ _ _,rfl⟩;have o1:fA (.sl 5 [v.c]) (λm=>m=h2.length) (h2++[some (.aA 5 [[ι v.aA,ι v.aC,ι v.aE,ι v.aD,ι v.aF]] false)]) (.aG h2.length 5 0 1 (some 1)):=by simp only[fA];exact .inr (.inr ⟨h2.length,0,some 1,_,false,rfl,rfl,h_ _ _,ς,(λc hc=>by cases hc;simp),⟨_,_,rfl,v1,rfl⟩⟩)
      obtain⟨w,H6,w1,w2,-,w4⟩:=tF (bytes:=40) (G:=fB) o1 ⟨_,_,h_ _ _,(λe=>by cases e),(λc hc=>by cases hc;simp)⟩ (λn off len cap e=>by cases e;rfl) (fq.aC fB _) (rS a2) (λ_ _ _ _ _ x=>x) (by simp;omega);rw[<-iR a1]at w1;have E6:fq fB h2 H6:=E5.tr w4;obtain⟨zs,z1,z2⟩:=tG w2;have s6:=fA.aC (F':=λm=>F m/\m<h.length) _ (λ_ x=>x) (E6.aE _) _ s2;have c6:ic H6 W:=s3.aA s2 (E6.aE _);have z3:fQ ((v :: l.drop i).map im.c) fB H6 zs:=rS (l:=v :: l.drop i) z2;obtain⟨w',H7,x1,x2,-,x4⟩:=tF (bytes:=40) (G:=fB) s6 c6 (yP s1) (fq.aC fB _) z3 (λ_ _ _ _ _ x=>x) (by simp;omega);rw[<-iR z1]at x1;have A1:=λz=>(nV (h:=h2) (s:=h.length) ω z).trans A0;simp only[go_sem,k0,k3,k5,n_,s1,u1,A1,w1,x1];refine⟨iN ω,?_,X0.aD (E6.tr x4) (λ_ _ x=>x.elim) (λ_ _ x=>x.elim)⟩;rw[u];simp only[mJ,XU,YX];refine fA.aC _ (λm hm=>?_) (λ_ _ _ x=>x) _ x2;rcases hm with hm | hm | hm;·exact .inl hm.1
      ·exact hm.elim
      ·have:=E6.1;exact .inr ω
    ·rw[WY (λhc=>c1 hc.1)]at u;simp only[go_sem,WV c1,k0,k5];obtain⟨W,s1,s2,s3⟩:=u_ (k:=(i:Int)) E ω (by simp;omega);obtain⟨bv,u1,u2⟩:=zu (k:=(i:Int)) E ω (by simp;omega);rw[Yj]at s2 u2;have E5:=fq.b1 (h:=h2) (some (.aA 5 [[ι v.aA,ι v.aC,ι v.aE,ι v.aD,ι v.aF]] false));have u5:=fA.aC (F':=λm=>F m/\m<h.length) _ (λ_ x=>x) (E5.aE _) _ u2;obtain⟨ys,a1,a2⟩:=tG u5;rw[<-Zq]at a2;have v1:fU v.c (λm=>m=h2.length/\m≠h2.length) (h2++[some (.aA 5 [[ι v.aA,ι v.aC,ι v.aE,ι v.aD,ι v.aF]] false)]) [ι v.aA,ι v.aC,ι v.aE,ι v.aD,ι v.aF]:=⟨_,_,rfl,jf _ _ _,_,_,rfl,jf _ _ _,_,_,rfl,jf _ _ _,_,_,rfl,jf _ _ _,_,_,rfl,jf _ _ _,rfl⟩;have o1:fA (.sl 5 [v.c]) (λm=>m=h2.length) (h2++[some (.aA 5 [[ι v.aA,ι v.aC,ι v.aE,ι v.aD,ι v.aF]] false)]) (.aG h2.length 5 0 1 (some 1)):=by simp only[fA];exact .inr (.inr ⟨h2.length,0,some 1,_,false,rfl,rfl,h_ _ _,ς,(λc hc=>by cases hc;simp),⟨_,_,rfl,v1,rfl⟩⟩)
     obtain⟨w,H6,w1,w2,-,w4⟩:=tF (bytes:=40) (G:=fB) o1 ⟨_,_,h_ _ _,(λe=>by cases e),(λc hc=>by cases hc;simp)⟩ (λn off len cap e=>by cases e;rfl) (fq.aC fB _) (rS a2) (λ_ _ _ _ _ x=>x) (by simp;omega);rw[<-iR a1]at w1;have E6:fq fB h2 H6:=E5.tr w4;obtain⟨zs,z1,z2⟩:=tG w2;have s6:=fA.aC (F':=λm=>F m/\m<h.length) _ (λ_ x=>x) (E6.aE _) _ s2;have c6:ic H6 W:=s3.aA s2 (E6.aE _);have z3:fQ ((v :: l.drop i).map im.c) fB H6 zs:=rS (l:=v :: l.drop i) z2;obtain⟨w',H7,x1,x2,-,x4⟩:=tF (bytes:=40) (G:=fB) s6 c6 (yP s1) (fq.aC fB _) z3 (λ_ _ _ _ _ x=>x) (by simp;omega);rw[<-iR z1]at x1;have A1:=λz=>(nV (h:=h2) (s:=h.length) ω z).trans A0;simp only[go_sem,k0,k3,k5,n_,s1,u1,A1,w1,x1];refine⟨iN ω,?_,X0.aD (E6.tr x4) (λ_ _ x=>x.elim) (λ_ _ x=>x.elim)⟩;rw[u];simp only[mJ,XU,YX];refine fA.aC _ (λm hm=>?_) (λ_ _ _ x=>x) _ x2;rcases hm with hm | hm | hm;·exact .inl hm.1
     ·exact hm.elim
     ·have:=E6.1;exact .inr ω
  ·have U:i=l.length:=ω;have u:=AR l v i hi hj (λa8=>absurd a8 ω);rw[XP ω]at u;simp only at u;have ed:l.drop i=[]:=Zf ω;rw[<-ed]at u;simp only[BO,go_sem,k0,k5,la,WV ci];obtain⟨W,s1,s2,s3⟩:=u_ (k:=(i:Int)) E ω (by simp;omega);obtain⟨bv,u1,u2⟩:=zu (k:=(i:Int)) E ω (by simp;omega);rw[Yj]at s2 u2;have E5:=fq.b1 (h:=h2) (some (.aA 5 [[ι v.aA,ι v.aC,ι v.aE,ι v.aD,ι v.aF]] false));have u5:=fA.aC (F':=λm=>F m/\m<h.length) _ (λ_ x=>x) (E5.aE _) _ u2;obtain⟨ys,a1,a2⟩:=tG u5;rw[<-Zq]at a2;have v1:fU v.c (λm=>m=h2.length/\m≠h2.length) (h2++[some (.aA 5 [[ι v.aA,ι v.aC,ι v.aE,ι v.aD,ι v.aF]] false)]) [ι v.aA,ι v.aC,ι v.aE,ι v.aD,ι v.aF]:=⟨_,_,rfl,jf _ _ _,_,_,rfl,jf _ _ _,_,_,rfl,jf _ _ _,_,_,rfl,jf _ _ _,_,_,rfl,jf _ _ _,rfl⟩;have o1:fA (.sl 5 [v.c]) (λm=>m=h2.length) (h2++[some (.aA 5 [[ι v.aA,ι v.aC,ι v.aE,ι v.aD,ι v.aF]] false)]) (.aG h2.length 5 0 1 (some 1)):=by simp only[fA];exact .inr (.inr ⟨h2.length,0,some 1,_,false,rfl,rfl,h_ _ _,ς,(λc hc=>by cases hc;simp),⟨_,_,rfl,v1,rfl⟩⟩)
   obtain⟨w,H6,w1,w2,-,w4⟩:=tF (bytes:=40) (G:=fB) o1 ⟨_,_,h_ _ _,(λe=>by cases e),(λc hc=>by cases hc;simp)⟩ (λn off len cap e=>by cases e;rfl) (fq.aC fB _) (rS a2) (λ_ _ _ _ _ x=>x) (by simp;omega);rw[<-iR a1]at w1;have E6:fq fB h2 H6:=E5.tr w4;obtain⟨zs,z1,z2⟩:=tG w2;have s6:=fA.aC (F':=λm=>F m/\m<h.length) _ (λ_ x=>x) (E6.aE _) _ s2;have c6:ic H6 W:=s3.aA s2 (E6.aE _);have z3:fQ ((v :: l.drop i).map im.c) fB H6 zs:=rS (l:=v :: l.drop i) z2;obtain⟨w',H7,x1,x2,-,x4⟩:=tF (bytes:=40) (G:=fB) s6 c6 (yP s1) (fq.aC fB _) z3 (λ_ _ _ _ _ x=>x) (by simp;omega);rw[<-iR z1]at x1;have A1:=λz=>(nV (h:=h2) (s:=h.length) ω z).trans A0;simp only[go_sem,k0,k3,k5,n_,s1,u1,A1,w1,x1];refine⟨iN ω,?_,X0.aD (E6.tr x4) (λ_ _ x=>x.elim) (λ_ _ x=>x.elim)⟩;rw[u];simp only[mJ,XU,YX];refine fA.aC _ (λm hm=>?_) (λ_ _ _ x=>x) _ x2;rcases hm with hm | hm | hm;·exact .inl hm.1
   ·exact hm.elim
   ·have:=E6.1;exact .inr ω
variable {P:Program}{f:FuncId}
def r7:List fP->gE->Option (List fP×Int)
 | [],_=>none
 | a :: r,c=>if a.aE=c.aH then some ((a.aI c).1 :: r,(a.aI c).2) else (r7 r c).map λp=>(a :: p.1,p.2)
theorem JY:∀(l:List fP)(c:gE)(i:Nat)(hi:i<l.length),(∀(j:Nat)(hj:j<l.length),j<i->l[j].aE≠c.aH)->l[i].aE=c.aH->r7 l c=some (l.set i (l[i].aI c).1,(l[i].aI c).2)
 | [],c,i,hi,_,_=>by simp at hi
 | a :: r,c,0,hi,h1,h2=>by simp only[YB]at h2;simp[r7,h2]
 | a :: r,c,i+1,hi,h1,h2=>by have:=h1 0 ς ω;simp only[YB]at this;simp only[r7];rw[WY this,JY r c i (by simpa using hi) (λj hj hji=>h1 (j+1) (by simpa using hj) ω) (by simpa using h2)];simp
theorem JZ:∀(l:List fP)(c:gE),(∀(j:Nat)(hj:j<l.length),l[j].aE≠c.aH)->r7 l c=none
 | [],c,_=>rfl
 | a :: r,c,h=>by have:=h 0 ς;simp only[YB]at this;simp only[r7];rw[WY this,JZ r c (λj hj=>h (j+1) (by simpa using hj))];rfl
def jH.aC (x:jH)(c:gE):jH×Int:=
 if c.aC<1\/4<c.aC then (⟨[],[]⟩,13)
 else if c.aC=4 then (⟨x.aA,rq x.aD c.aD⟩,0)
 else match r7 x.aA c with
  | none=>(⟨[],[]⟩,6)
  | some (l,e)=>if e≠0 then (⟨[],[]⟩,e) else (⟨l,x.aD⟩,0)
def tR (P:Program)(f:FuncId):Prop:=fZ P f=true/\∀(G:Nat->Prop)(h:fu)(x:jH)(c:gE)(az cs:List AV),fH G h x.c az->fH G h c.c cs->l7.ok x->lQ.ok c->(l7.aC x).length<=2^33->(lQ.aC c).length<=2^33->
 (∀y∈x.aA,kh y.aA)->c.aA.es.length<=2^32->x.aA.length<=2^32->x.aD.length<=2^32->
 fO P f [.aF az,.aF cs] h λr h'=>∃bs,r=.aI [.aF bs,.aD .i64 (x.aC c).2]/\fU (x.aC c).1.c (λm=>h.length<=m) h' bs/\fq fB h h'
theorem SV {x:gE}{F:Nat->Prop}{h:fu}{a:List AV}(hh:fH F h x.c a):∃e o n l s,a=x.aF e o n l s/\Rd F h (gZ x.aA.es) e/\Rd F h (f_ x.aG.aA) o/\Rd F h (f_ x.aG.aC) n/\Rd F h (f_ x.aG.aD) l/\Rd F h (gG x.aJ) s:=by obtain⟨e,o,n,l,s,rfl,h'⟩:=Ez hh;exact⟨e,o,n,l,s,rfl,h'⟩
theorem Ko {fr fc ac tu:FuncId}(hf:Is P f (BJ fr fc ac tu))(ah:Fw P fr)(ai:Fv P fc)(ak:E_ P ac)(ae:FY P tu):tR P f:=by
 refine⟨hf.2,λG h x c az cs hx hc am ba xl cl a7 b8 hxh ax=>gy hf ?_⟩;obtain⟨xd,xv,rfl,b7,b0⟩:=EB hx;obtain⟨e,o,n,l,s,rfl,re,ro,rn,rl,rs⟩:=SV hc;simp only[BJ,gE.aF,go_sem,b7.aA,b0.aA,re.aA,ro.aA,rn.aA,rl.aA,rs.aA];have none':∀(e:Int)(H:fu)(k:Nat)(y:Option fC),x.aC c=(⟨[],[]⟩,e)->fq fB h H->h.length<=k->∃bs,AV.aI [.aF [.aC,.aC],ι e]=.aI [.aF bs,ι (x.aC c).2]/\fU (x.aC c).1.c (λm=>h.length<=m) (H.set k y) bs/\fq fB h (H.set k y):=by intro e H k y eg ex hk;rw[eg];exact⟨_,rfl,⟨_,_,rfl,fA.aD _,_,_,rfl,fA.aD _,rfl⟩,ex.aG hk _⟩
 by_cases c1:c.aC<1
 ·simp only[go_sem,WZ c1];have eg:x.aC c=(⟨[],[]⟩,13):=by simp only[jH.aC];rw[WW (.inl c1)]
  rw[eg];exact⟨_,rfl,⟨_,_,rfl,fA.aD _,_,_,rfl,fA.aD _,rfl⟩,fq.b3 _ _ _⟩
 by_cases c4:4<c.aC
 ·simp only[go_sem,WV c1,WZ c4];have eg:x.aC c=(⟨[],[]⟩,13):=by simp only[jH.aC];rw[WW (.inr c4)]
  rw[eg];exact⟨_,rfl,⟨_,_,rfl,fA.aD _,_,_,rfl,fA.aD _,rfl⟩,fq.b3 _ _ _⟩
 have ek:¬(c.aC<1\/4<c.aC):=ω;simp only[go_sem,WV c1,WV c4];have X0:=fq.b3 (h:=h) (some (.aA 2 [[xd,xv]] false)) (some (.aA 17 [c.aF e o n l s] false)) (some (.aA 2 [[.aC,.aC]] false));have A0:=qB h (some (.aA 2 [[xd,xv]] false)) (some (.aA 17 [c.aF e o n l s] false)) (some (.aA 2 [[.aC,.aC]] false));have A1:=rB h (some (.aA 2 [[xd,xv]] false)) (some (.aA 17 [c.aF e o n l s] false)) (some (.aA 2 [[.aC,.aC]] false));have A2:=uD h (some (.aA 2 [[xd,xv]] false)) (some (.aA 17 [c.aF e o n l s] false)) (some (.aA 2 [[.aC,.aC]] false));have lH:h.length+3=(h++[some (fC.aA 2 [[xd,xv]] false)]++[some (fC.aA 17 [c.aF e o n l s] false)]++[some (fC.aA 2 [[.aC,.aC]] false)]).length:=by simp
 simp only[gE.aF]at X0 A0 A1 A2 lH;have ay:=hx.up X0;have b9:=hc.up X0;generalize h++[some (fC.aA 2 [[xd,xv]] false)]++[some (fC.aA 17 [_] false)]++[some (fC.aA 2 [[.aC,.aC]] false)]=H0 at *;refine fK ⟨ah.1,ah.2 G H0 x _ ay am xl⟩ ?_;rintro _ H1 ⟨d,v,k,rfl,oD,oV,hk,X1⟩;have B0:=X1.aA A0;have B1:=X1.aA A1;have B2:=X1.aA A2;simp only[go_sem,B0,B1];refine fK ⟨ai.1,ai.2 G H1 c _ (b9.up X1) ba cl⟩ ?_;rintro _ H2 ⟨bs,rfl,oC,X2⟩;obtain⟨e',o',n',l',s',rfl,oe,oo,ap,ol,os⟩:=I4 oC;have B0:=X2.aA B0;have B1:=X2.aA B1;have B2:=X2.aA B2;have l1:=X1.1;have l2:=X2.1;have m0:h.length<H2.length:=ω;have m1:h.length+1<H2.length:=ω;have au:(h.length=h.length+1)=False:=Xp ω;have aq:(h.length+1=h.length)=False:=Xp ω;have ar:(h.length=h.length+1+1)=False:=Xp ω;have n12:(h.length+1=h.length+1+1)=False:=Xp ω;simp only[gE.aF,go_sem,B0,B1,m0,m1,au,aq,W4,oD.aA,oV.aA,oe.aA,oo.aA,ap.aA,ol.aA,os.aA];have E3:fq fB h ((H2.set h.length (some (.aA 2 [[d,v]] false))).set (h.length+1) (some (.aA 17 [c.aF e' o' n' l' s'] false))):=((((X0.tr X1).tr X2).aG (WX _) _)).aG ω _;have D0:((H2.set h.length (some (.aA 2 [[d,v]] false))).set (h.length+1) (some (.aA 17 [c.aF e' o' n' l' s'] false)))[h.length]?=_:=(WS ω).trans (W0 m0);have D1:((H2.set h.length (some (.aA 2 [[d,v]] false))).set (h.length+1) (some (.aA 17 [c.aF e' o' n' l' s'] false)))[h.length+1]?=_:=W0 (by rw[W4];exact m1);have D2:((H2.set h.length (some (.aA 2 [[d,v]] false))).set (h.length+1) (some (.aA 17 [c.aF e' o' n' l' s'] false)))[h.length+1+1]?=_:=((WS ω).trans (WS ω)).trans B2;have K3:∀F:Nat->Prop,(∀m,F m->h.length+3<=m)->ik F H2 ((H2.set h.length (some (.aA 2 [[d,v]] false))).set (h.length+1) (some (.aA 17 [c.aF e' o' n' l' s'] false))):=λF hF m hm y hy=>by have:=hF m hm;rw[WS ω,WS ω];exact hy
 have U:fA (sZ x.aA) (λm=>h.length+3<=m/\m<k/\m<H1.length) _ d:=fA.aC _ (λm hm=>ω) (K3 _ (λm hm=>ω)) _ (fA.aC _ (λ_ x=>x) (X2.aE _) _ (fA.lt _ _ oD));have W:fA (mJ x.aD) (λm=>k<=m/\m<H1.length) _ v:=fA.aC _ (λm hm=>ω) (K3 _ (λm hm=>ω)) _ (fA.aC _ (λ_ x=>x) (X2.aE _) _ (fA.lt _ _ oV));have aa:fU c.c (λm=>H1.length<=m) _ (c.aF e' o' n' l' s'):=fU.aA _ (λm hm=>hm) (K3 _ (λm hm=>ω)) _ oC;have l3:((H2.set h.length (some (.aA 2 [[d,v]] false))).set (h.length+1) (some (.aA 17 [c.aF e' o' n' l' s'] false))).length=H2.length:=by rw[W4,W4]
 simp only[gE.aF]at E3 D0 D1 D2 K3 U W aa l3;generalize (H2.set h.length (some (fC.aA 2 [[d,v]] false))).set (h.length+1) (some (.aA 17 [_] false))=H3 at *;have w0:h.length<H3.length:=ω;have w2:h.length+1+1<H3.length:=ω;have n20:(h.length+1+1=h.length)=False:=Xp ω;by_cases k4:c.aC=4
 ·simp only[go_sem,WZ k4,D0,D1];refine fK ⟨ak.1,ak.2 _ H3 x.aD v c.aD _ W rfl ax⟩ ?_;rintro r H4 ⟨oR,X4⟩;have l4:=X4.1;have F0:=(X4.2 _ w0 ω).trans D0;have F2:=(X4.2 _ w2 ω).trans D2;have ao:h.length<H4.length:=ω;have an:h.length+1+1<H4.length:=ω;simp only[go_sem,F0,F2,ao,an,ar,W4,U.aA,oR.aA,gV oR.aA];have eg:x.aC c=(⟨x.aA,rq x.aD c.aD⟩,0):=by simp only[jH.aC];rw[WY ek,WW k4]
  rw[eg];refine⟨_,rfl,⟨_,_,rfl,?_,_,_,rfl,?_,rfl⟩,((E3.aD X4 (λ_ _ x=>x) (λm hm b6=>ω)).aG (WX _) _).aG ω _⟩;·refine fA.aC _ (λm hm=>ω) (λm hm y hy=>?_) _ U;have b5:=(WR.1 hy).1;rw[WS ω,WS ω,X4.2 m b5 ω];exact hy
  ·refine fA.aC _ (λm hm=>ω) (λm hm y hy=>?_) _ oR;rw[WS ω,WS ω];exact hy
 have ld:iJ d=some (ι x.aA.length):=by simpa using (fA.rd _ (F':=λ_=>True) (λ_ _=>Xb) _ U).aC
 simp only[go_sem,WV k4,D0,ld];refine iP (λm L h'=>∃i:Nat,lk 2 L=.aA h.length 2 0 0/\lk 3 L=.aA (h.length+1) 17 0 0/\lk 4 L=.aA (h.length+1+1) 2 0 0/\lk 34 L=ι x.aA.length/\lk 35 L=ι i/\h'=H3/\i<=x.aA.length/\m=x.aA.length-i/\∀(j:Nat)(hj:j<x.aA.length),j<i->x.aA[j].aE≠c.aH) x.aA.length ?_ ?_;·exact⟨0,by simp[fE],by simp[fE],by simp[fE],by simp[fE],by simp[fE],rfl,ω,ω,ω⟩
 ·rintro m L h2 ⟨i,k2,k3,Z,ab,a3,rfl,hi,rfl,hj⟩;simp only[GP,go_sem,ab,a3];refine iQ (λci=>?_) (λci=>?_)
  ·simp at ci;obtain⟨n,off,row,gg,hs,len,cap,rfl,hn,a8,u,O,ag,a5⟩:=Er (j:=i) (d0:=x.aA[i].c) U (by simp[ci]);obtain⟨he,ho,a6,hl,a4,rfl,qe,qo,qn,ql,qs⟩:=Ep ag;have hpc:jV h2 (.aA n 10 (off+i) 0)=some (x.aA[i].aH he ho a6 hl a4):=by simp[jV,u,O]
   have e1:IntKind.i64.wrap (↑i+1)=(i:Int)+1:=gF ω;have E:=O;simp only[fP.aH]at E;by_cases cg:x.aA[i].aE=c.aH
   ·have aj:(x.aA[i].aE=c.aH)=True:=eq_true cg;have eg:x.aC c=(if (x.aA[i].aI c).2≠0 then (⟨[],[]⟩,(x.aA[i].aI c).2) else (⟨x.aA.set i (x.aA[i].aI c).1,x.aD⟩,0)):=by simp only[jH.aC];rw[WY ek,WY k4,JY _ _ i ci hj cg]
    rw[eg];have Z0:=λz=>(nV (h:=h2) (s:=h.length) w0 z).trans D0;have Z1:=λz=>(nV (h:=h2) (s:=h.length+1) ω z).trans D1;have Z2:=λz=>(nV (h:=h2) (s:=h.length+1+1) ω z).trans D2;have af:=(WR.1 u).1;have Zn:=λz=>(nV (h:=h2) (s:=n) af z).trans u;have NR:∀m sz i o,m<h2.length->ij h2.length 1 (.aA m sz i o)=true:=λm sz i o hm=>iN hm;simp only[go_sem,k2,k3,a3,D0,D1,a8,u,E,aj,Z0,Z1,Zn];refine⟨NR _ _ _ _ ω,NR _ _ _ _ af,NR _ _ _ _ ω,?_⟩;have E1:=fq.b1 (h:=h2) none;have tH:fU x.aA[i].c (λm=>(h.length+3<=m/\m<k/\m<H1.length)/\m≠n) (h2++[none]) (x.aA[i].aH he ho a6 hl a4):=fU.aA _ (λ_ x=>x) (E1.aE _) _ ag;have tC:fU c.c (λm=>H1.length<=m/\m<h2.length) (h2++[none]) (c.aF e' o' n' l' s'):=fU.aA _ (λ_ x=>x) (E1.aE _) _ (fU.lt _ _ aa);refine fK ⟨ae.1,ae.2 _ _ (h2++[none]) x.aA[i] c _ _ tH tC (λm hm b6=>ω) (a7 _ (Xq _)) b8⟩ ?_;rintro _ H4 ⟨rs,rfl,oR,X4⟩;obtain⟨te,to,tn,tl,ts,rfl,ve,vo,vn,vl,vs⟩:=Ep oR;have y4:=X4.1;have yl:(h2++[none]).length=h2.length+1:=by simp
    have Y0:=X4.aA (Z0 none);have Y1:=X4.aA (Z1 none);have Y2:=X4.aA (Z2 none);have Yn:=X4.aA (Zn none);have Yl:=X4.aA (h_ h2 none);have m2:h2.length<H4.length:=ω;have q0:(h2.length=h.length)=False:=Xp ω;have q1:(h2.length=h.length+1)=False:=Xp ω;have q2:(h2.length=h.length+1+1)=False:=Xp ω;have qn:(h2.length=n)=False:=Xp ω;have XH:fq fB h H4:=(E3.tr E1).tr X4;by_cases ce:(x.aA[i].aI c).2=0
    ·have a9:¬(x.aA[i].aI c).2≠0:=by simpa using ce
     rw[WY a9];have p0:(n=h.length)=False:=Xp ω;have p2:(n=h.length+1+1)=False:=Xp ω;have m0':h.length<H4.length:=ω;have a2:h.length+1+1<H4.length:=ω;have al:(H4.set h2.length (some (.aA 10 [(x.aA[i].aI c).1.aH te to tn tl ts] false)))[n]?=_:=(WS ω).trans Yn;have hc10:(x.aA[i].aH he ho a6 hl a4).length=10:=rfl;have st:=yk (x:=.aF ((x.aA[i].aI c).1.aH te to tn tl ts)) al O rfl rfl rfl (by simp only[fP.aH];simp only[go_sem,ve.aA,vo.aA,vn.aA,vl.aA,vs.aA]);simp only[fP.aH]at st;simp only[fP.aH,go_sem,Y0,Y1,Y2,Yn,Yl,q0,q1,q2,qn,p0,p2,m2,a2,E,ce,k2,Z,W4,Yi,ve.aA,vo.aA,vn.aA,vl.aA,vs.aA,a8,st,W.aA];have I:∀m,m<h2.length->m≠n->(H4.set h2.length (some (.aA 10 [(x.aA[i].aI c).1.aH te to tn tl ts] false)))[m]?=h2[m]?:=λm hm _=>by rw[WS ω,X4.2 m ω (λx=>x),nV hm]
     have aw:(H4.set h2.length (some (.aA 10 [(x.aA[i].aI c).1.aH te to tn tl ts] false))).length=H4.length:=W4;have oN:fU (x.aA[i].aI c).1.c (λm=>h.length+3<=m/\m≠n) (H4.set h2.length (some (.aA 10 [(x.aA[i].aI c).1.aH te to tn tl ts] false))) ((x.aA[i].aI c).1.aH te to tn tl ts):=by
      refine fU.aA _ (λm hm=>?_) (λm hm y hy=>?_) _ oR;·rw[yl]at hm;omega
      ·rw[yl]at hm;rw[WS ω];exact hy
     have oF:=a5 (λm=>h.length+3<=m) _ _ _ (λm hm=>hm.1) (λm hm y hy=>by rw[I m ω hm.2];exact hy) (al.trans u.symm) oN;rw[<-Zk]at oF;simp only[fP.aH]at oF I aw;refine⟨_,rfl,⟨_,_,rfl,?_,_,_,rfl,?_,rfl⟩,?_⟩;·exact fA.aC _ (λm hm=>ω) (λm hm y hy=>by rw[WS ω];exact hy) _ oF
     ·refine fA.aC _ (λm hm=>ω) (λm hm y hy=>?_) _ W;rw[WS ω,WS ω,I m ω ω];exact hy
     ·exact ((XH.aG ω _).aG ω _).aG ω _
    ·have a9:(x.aA[i].aI c).2≠0:=ce;rw[WW a9];have a2:h.length+1+1<H4.length:=ω;simp only[fP.aH,go_sem,Y0,Y1,Y2,Yn,Yl,q0,q1,q2,qn,m2,a2,E,WV ce,Z,W4,Yi,ve.aA,vo.aA,vn.aA,vl.aA,vs.aA];exact⟨_,rfl,⟨_,_,rfl,fA.aD _,_,_,rfl,fA.aD _,rfl⟩,(XH.aG ω _).aG ω _⟩
   ·have aj:(x.aA[i].aE=c.aH)=False:=Xp cg;simp only[go_sem,k2,k3,Z,ab,a3,D0,D1,a8,u,E,WV cg,e1];refine⟨_,ω,i+1,ς,ω,rfl,λj a1 hji=>?_⟩;by_cases e:j=i;·subst e;exact cg
    ·exact hj j a1 ω
  ·simp at ci;obtain rfl:i=x.aA.length:=ω;have eg:x.aC c=(⟨[],[]⟩,6):=by simp only[jH.aC];rw[WY ek,WY k4,JZ _ _ (λj a1=>hj j a1 a1)]
   simp only[go_sem,Z,D2,w2];rw[eg];exact⟨_,rfl,⟨_,_,rfl,fA.aD _,_,_,rfl,fA.aD _,rfl⟩,E3.aG ω _⟩
end Glb
