/-
  A library of its own.
-/
import Derived.Test.YtdeiamnhnfmilaaGreatGlbImgD
import Derived.Test.YtdeiamnhnfmilaaGreatGlbLogA
set_option linter.unusedSimpArgs false
set_option linter.unusedVariables false
set_option maxRecDepth 10000
set_option maxHeartbeats 16000000
namespace Glb
open Go
theorem Sr (es:List (List AV))(p:Nat):gZ es p []=es:=by simp[gZ]
theorem Sg {h:eW}{n:Nat}{x:Option e_} (hn:h[n]?=some x):h.set n x=h:=by
 apply Vf;intro i;rw[VJ];split;·rename_i e;subst e;rw[hn];simp[(Up.1 hn).1]
 ·rfl
theorem Ju {h h':eW}{sz bytes:Nat}{av I:AV}{ys:List (List AV)}(u:∀n off len cap,av=.aG n sz off len cap->cap=some len)(e:ij h sz bytes av ys=some (I,h')):eV eY h h':=by
 have a1:∀es,eV eY h (gM h sz es).2:=λes=>eV.aF _ _ _;cases av with
 | aD=>
  simp only[ij]at e;split at e;·cases e;exact a1 _
  ·cases e
 | aM t clip sz' es=>
  simp only[ij]at e;split at e
  ·split at e;·cases e;exact eV.aC _ _
   ·split at e;·cases e;exact a1 _
    ·cases e
  ·cases e
 | aG n sz' off len cap=>
  simp only[ij]at e;split at e
  ·rename_i sz'' es g E;split at e
   ·rename_i hc;obtain⟨h1,h2,h3,h4⟩:=hc;subst h1;obtain rfl:=u _ _ _ _ rfl;cases len with
    | zero=>
     simp only[Vm]at e;split at e;·cases e;exact eV.aC _ _
     ·cases e;exact a1 _
    | succ c=>
     simp only at e;split at e;·cases e;exact a1 _
     ·have:ys=[]:=Uz (by omega);subst this;split at e;·cases e;rw[Sr,Sg (by rw[E,h2])];exact eV.aC _ _
      ·cases e
   ·cases e
  ·cases e
 | _=>simp[ij]at e
theorem w9 {sz : Nat} {av u : AV} {k : Int} (e : iB sz av none (some k) (some k) = some u) : ∀ n off len cap, u = .aG n sz off len cap -> cap = some len := by
 intro n off len cap ha;subst ha;cases av with
 | aD => simp [iB] at e
 | aM t clip sz' es => simp only [iB] at e; split at e <;> cases e
 | aG m sz' off' len' cap' =>
  simp only [iB, Vv, U6, Vm] at e;split at e;·simp only [UB, AV.aG.injEq, jB] at e;obtain ⟨_, _, _, e1, e2⟩ := e;rw [<- e2, <- e1]; simp
  ·cases e
 | _ => simp [iB] at e
theorem rN {sz bytes:Nat}{F G:Nat->Prop}{ds es:List (List D)}{h0 h:eW}{av:AV}{ys:List (List AV)}(ho:eX (.sl sz ds) F h0 av)(hc:gP h0 av)(e:∀n off len cap,av=.aG n sz off len cap->cap=some len)
  (hx:eV eY h0 h) (hy:fG es G h ys) (hN:∀n off len cap,av=.aG n sz off len cap->¬G n) (hb:(ds.length+es.length)*bytes<=2^46):
  ∃u h',ij h sz bytes av ys=some (u,h')/\eX (.sl sz (ds++es)) (λm=>F m\/G m\/h.length<=m) h' u/\gP h' u/\eV eY h h':=by
 obtain⟨u,h',s1,s2,s3,s4,s5⟩:=GI (bytes:=bytes) (F:=λm=>F m\/G m\/h.length<=m) (G:=G) (eX.aC _ (λm hm=>.inl hm) (λ_ _ _ x=>x) _ ho) hc hx hy (λm hm=>.inr (.inl hm)) hN (.inr (.inr (Uy _))) hb;exact⟨u,h',s1,s2,s3,Ju e s1⟩
theorem DB {F:Nat->Prop}{h:eW}:∀{ds:List (List D)} {es:List (List AV)} (j:Nat) {d:List D} {cs:List AV},fG ds F h es->fI d F h cs->fG (ds.set j d) F h (es.set j cs)
 | [],es,j,d,cs,hh,hd=>by simp only[fG]at hh;subst hh;simp[fG]
 | e :: ds,es,0,d,cs,hh,hd=>by obtain⟨a,r,rfl,h1,h2⟩:=hh;exact⟨_,_,rfl,hd,h2⟩
 | e :: ds,es,j+1,d,cs,hh,hd=>by obtain⟨a,r,rfl,h1,h2⟩:=hh;exact⟨_,_,rfl,h1,DB j h2 hd⟩
theorem Dy {F:Nat->Prop}{h:eW}:∀{ds:List (List D)} {es:List (List AV)} {j:Nat} {d:List D},fG ds F h es->ds[j]?=some d->∃cs,es[j]?=some cs/\fI d F h cs
 | [],es,j,d,hh,hd=>by simp at hd
 | e :: ds,es,0,d,hh,hd=>by obtain⟨a,r,rfl,h1,h2⟩:=hh;simp only[UY,UB]at hd;subst hd;exact⟨a,rfl,h1⟩
 | e :: ds,es,j+1,d,hh,hd=>by obtain⟨a,r,rfl,h1,h2⟩:=hh;simp only[Vr]at hd ⊢;exact Dy h2 hd
theorem Cs {sz:Nat}{ds:List (List D)}{F:Nat->Prop}{h:eW}{a:AV}{j:Nat}{d0:List D}(ho:eX (.sl sz ds) F h a) (hj:ds[j]?=some d0):
  ∃n off row g cs len cap,a=.aG n sz off len cap/\F n/\jg sz a (.aA .i64 j)=some (.aC n sz (off+j) 0)/\h[n]?=some (some (.aA sz row g))/\row[off+j]?=some cs/\fI d0 (λm=>F m/\m≠n) h cs /\
   ∀(F':Nat->Prop)(h':eW)(d:List D)(cs':List AV),(∀m,F m->F' m)->gS (λm=>F m/\m≠n) h h'->h'[n]?=h[n]?->fI d (λm=>F' m/\m≠n) h' cs'->eX (.sl sz (ds.set j d)) F' (h'.set n (some (.aA sz (row.set (off+j) cs') g))) a:=by
 have E:=(Up.1 hj).1;simp only[eX]at ho;rcases ho with⟨rfl,rfl⟩ | ⟨t,c,rfl,rfl⟩ | ⟨n,off,cap,row,g,rfl,hn,u,O,Z,hd⟩;·simp at E
 ·simp at E
 obtain⟨cs,I,a1⟩:=Dy hd hj;rw[Vp,Uv E,UR]at I;refine⟨n,off,row,g,cs,ds.length,cap,rfl,hn,?_,u,I,a1,λF' h' d cs' hF hk M W=>?_⟩;·simp only[jg];rw[Uv ⟨UF,by omega,by omega⟩];simp
 ·have hlt:=(Up.1 (M.trans u)).1;simp only[eX];refine .inr (.inr ⟨n,off,cap,_,g,by rw[UA],hF _ hn,Ux hlt,by rw[UA,UA];exact O,by rw[UA];exact Z,?_⟩);have e:((row.set (off+j) cs').drop off).take (ds.set j d).length=((row.drop off).take ds.length).set j cs':=by
   rw[UA];apply Vf;intro i;simp only[Vp,UR,VJ,UD,UP];by_cases e1:i<ds.length
   ·rw[Uv e1];by_cases e2:j=i;·subst e2;rw[Uv rfl,Uv rfl,Uv (by omega),Uv (by omega)]
    ·rw[Uw (by omega),Uw e2,Uv e1]
   ·rw[Uw e1,Uw (by omega),Uw e1]
  rw[e];have U:fG ds (λm=>F' m/\m≠n) h' ((row.drop off).take ds.length):=fG.aA _ (λm x=>⟨hF _ x.1,x.2⟩) hk _ hd;exact fG.aA _ (λ_ x=>x) (λm hm y hy=>by rw[Uq (λe=>hm.2 e.symm)];exact hy) _ (DB j U W)
def fF.aM (x:fF)(c:fZ):fu:=if x.aA.aF c.aA.aA=true/\x.aA.aJ c.aA.aA=c.aA.aD then x.aA.aK c.aA.aA else ⟨c.aA.aA,c.aA.aD,[]⟩
def fF.aI (x:fF)(c:fZ):fF×Int:=
 if c.aC=1 then ({x with aC:=c.aK,aF:=c.aL},0)
 else if c.aC=2 then (if c.aE<=x.aA.aA\/x.aA.aC+1<c.aE then (x,3) else ({x with aA:=⟨x.aA.aA,x.aA.aD,x.aA.es.take (c.aE-x.aA.aA-1).toNat++c.aA.es⟩},0))
 else if c.aC=3 then ({x with aA:=x.aM c,aD:=c.aG,aG:=c.aJ},0)
 else (x,0)
def fZ.aF (x:fZ)(e o n l s:AV):List AV:=[.aA .i64 x.aC,.aA .i64 x.aH,.aA .i64 x.aK,.aA .i64 x.aL,.aA .i64 x.aE,.aA .i64 x.aA.aA,.aA .i64 x.aA.aD,e,o,n,l,s,.aA .i64 x.aD.aA,.aA .i64 x.aD.aC,.aA .i64 x.aD.aE,.aA .i64 x.aD.aD,.aA .i64 x.aD.aF]
theorem Cr {x:fF}{F:Nat->Prop}{h:eW}{a:List AV}(hh:fI x.c F h a):∃e o n l s,a=x.aH e o n l s/\eX (gN x.aA.es) F h e/\eX (fM x.aD.aA) F h o/\eX (fM x.aD.aC) F h n/\eX (fM x.aD.aD) F h l/\eX (gj x.aG) F h s:=by simp only[fF.c,fI]at hh;obtain⟨_,_,rfl,h1,_,_,rfl,h2,_,_,rfl,h3,_,_,rfl,h4,_,_,rfl,h5,e,_,rfl,he,o,_,rfl,ho,n,_,rfl,hn,l,_,rfl,hl,s,_,rfl,hs,rfl⟩:=hh;simp only[eX]at h1 h2 h3 h4 h5;subst h1 h2 h3 h4 h5;exact⟨e,o,n,l,s,rfl,he,ho,hn,hl,hs⟩
theorem GK {x:fZ}{F:Nat->Prop}{h:eW}{a:List AV}(hh:fI x.c F h a):∃e o n l s,a=x.aF e o n l s/\eX (gN x.aA.es) F h e/\eX (fM x.aG.aA) F h o/\eX (fM x.aG.aC) F h n/\eX (fM x.aG.aD) F h l/\eX (gj x.aJ) F h s:=by simp only[fZ.c,fI]at hh;obtain⟨_,_,rfl,h1,_,_,rfl,h2,_,_,rfl,h3,_,_,rfl,h4,_,_,rfl,h5,_,_,rfl,h6,_,_,rfl,h7,e,_,rfl,he,o,_,rfl,ho,n,_,rfl,hn,l,_,rfl,hl,s,_,rfl,hs,_,_,rfl,g1,_,_,rfl,g2,_,_,rfl,g3,_,_,rfl,g4,_,_,rfl,g5,rfl⟩:=hh;simp only[eX]at h1 h2 h3 h4 h5 h6 h7 g1 g2 g3 g4 g5;subst h1 h2 h3 h4 h5 h6 h7 g1 g2 g3 g4 g5;exact⟨e,o,n,l,s,rfl,he,ho,hn,hl,hs⟩
theorem rF {x:fF}{F:Nat->Prop}{h:eW}{e o n l s:AV}(he:eX (gN x.aA.es) F h e)(ho:eX (fM x.aD.aA) F h o)(hn:eX (fM x.aD.aC) F h n)(hl:eX (fM x.aD.aD) F h l)(hs:eX (gj x.aG) F h s):fI x.c F h (x.aH e o n l s):=
 ⟨_,_,rfl,iJ _ _ _,_,_,rfl,iJ _ _ _,_,_,rfl,iJ _ _ _,_,_,rfl,iJ _ _ _,_,_,rfl,iJ _ _ _,_,_,rfl,he,_,_,rfl,ho,_,_,rfl,hn,_,_,rfl,hl,_,_,rfl,hs,rfl⟩
theorem rO {F:Nat->Prop}{sz:Nat}{ds:List (List D)}{h:eW}{a:AV}(ho:eX (.sl sz ds) F h a):∃ys,iK h sz a=some ys/\fG ds F h ys:=by
 simp only[eX]at ho;rcases ho with⟨rfl,rfl⟩ | ⟨t,c,rfl,rfl⟩ | ⟨n,off,cap,row,g,rfl,hn,e,u,hcl,hd⟩
 ·exact⟨[],rfl,rfl⟩
 ·exact⟨[],by simp[iK],rfl⟩
 ·refine⟨(row.drop off).take ds.length,by simp only[iK,e];rw[Uv ⟨UF,UF,u⟩],fG.aA _ (λm hm=>hm.1) (λ_ _ _ x=>x) _ hd⟩
theorem O8 {F:Nat->Prop}{sz u:Nat}{ds:List (List D)}{h:eW}{n off len:Nat}{cap:Option Nat}(ho:eX (.sl sz ds) F h (.aG n u off len cap)):F n:=by
 simp only[eX]at ho;rcases ho with⟨e,-⟩ | ⟨t,c,e,-⟩ | ⟨n',off',cap',row,g,e,hn,-⟩
 ·cases e
 ·cases e
 ·cases e;exact hn
def DQ (P:Program)(f:FuncId):Prop:=fP P f=true/\∀(F G:Nat->Prop)(h:eW)(x:fF)(c:fZ)(az cs:List AV),fI x.c F h az->fI c.c G h cs->(∀m,F m->¬G m)->jH x.aA->c.aA.es.length<=2^32->
 fC P f [.aF az,.aF cs] h λr h'=>∃rs,r=.aI [.aF rs,.aA .i64 (x.aI c).2]/\fI (x.aI c).1.c (λm=>F m\/G m\/h.length<=m) h' rs/\eV eY h h'
theorem SO {P : Program} {f la te cu : FuncId} (hf : Is P f (Ap la te cu)) (a5 : o9 P la) (a4 : nU P te) (a7 : ub P cu) : DQ P f := by
 refine ⟨hf.2, λF G h x c az cs hx hc hd aa hce => fU hf ?_⟩;obtain ⟨e, o, n, l, s, rfl, he, ho, hn, hl, hs⟩ := Cr hx;obtain ⟨e', o', n', l', s', rfl, a6, O, U, W, I⟩ := GK hc;have c10 : (x.aH e o n l s).length = 10 := rfl;simp only [Ap, fF.aH, fZ.aF, go_sem, he.aA, ho.aA, hn.aA, hl.aA, hs.aA, a6.aA, O.aA, U.aA, W.aA, I.aA];have X3 := eV.b3 (h := h) (some (.aA 10 [x.aH e o n l s] false)) (some (.aA 17 [c.aF e' o' n' l' s'] false)) (some (.aA 10 [[.aA .i64 0, .aA .i64 0, .aA .i64 0, .aA .i64 0, .aA .i64 0, .aD, .aD, .aD, .aD, .aD]] false));have u : ∀ {H : eW} (d : D) (a : AV), eV eY h H -> eX d F h a -> eX d (λm => F m \/ G m \/ h.length <= m) H a := λd a ex hh => eX.aC _ (λm hm => .inl hm) (ex.aE F) _ hh;have M : ∀ {H : eW} (d : D) (a : AV), eV eY h H -> eX d G h a -> eX d (λm => F m \/ G m \/ h.length <= m) H a := λd a ex hh => eX.aC _ (λm hm => .inr (.inl hm)) (ex.aE G) _ hh;obtain ⟨b0, b1, Z⟩ := aa;have hsl := Z.1;have hlast : x.aA.aC = x.aA.aA + x.aA.es.length := rfl;by_cases k1 : c.aC = 1
 ·simp only [go_sem, Uu k1, he.aA, ho.aA, hn.aA, hl.aA, hs.aA];have eg : x.aI c = ({ x with aC := c.aK, aF := c.aL }, 0) := by simp [fF.aI, k1]
  rw [eg];exact ⟨_, rfl, rF (x := { x with aC := c.aK, aF := c.aL }) (u _ _ (eV.b3 _ _ _) he) (u _ _ (eV.b3 _ _ _) ho) (u _ _ (eV.b3 _ _ _) hn) (u _ _ (eV.b3 _ _ _) hl) (u _ _ (eV.b3 _ _ _) hs), eV.b3 _ _ _⟩
 by_cases k2 : c.aC = 2
 ·simp only [go_sem, Us k1, Uu k2];have hR : fm (λ_ => True) _ x.aA.c [.aA .i64 x.aA.aA, .aA .i64 x.aA.aD, e] := ⟨_, _, rfl, by simp only [Rd], _, _, rfl, by simp only [Rd], _, _, rfl, eX.rd _ (F' := λ_ => True) (λ_ _ => UF) _ (u _ _ X3 he), rfl⟩;refine gh a5.1 (a5.2 _ _ x.aA _ hR ⟨b0, b1, Z⟩) ?_;have e1 : IntKind.i64.wrap (x.aA.aC + 1) = x.aA.aC + 1 := gi (by omega);simp only [go_sem];by_cases c1 : c.aE <= x.aA.aA
  ·simp only [go_sem, Uu c1, he.aA, ho.aA, hn.aA, hl.aA, hs.aA];have eg : x.aI c = (x, 3) := by simp [fF.aI, k2, c1]
   rw [eg];exact ⟨_, rfl, rF (x := x) (u _ _ (eV.b3 _ _ _) he) (u _ _ (eV.b3 _ _ _) ho) (u _ _ (eV.b3 _ _ _) hn) (u _ _ (eV.b3 _ _ _) hl) (u _ _ (eV.b3 _ _ _) hs), eV.b3 _ _ _⟩
  by_cases c2 : x.aA.aC + 1 < c.aE
  ·simp only [go_sem, Us c1, e1, Uu c2, he.aA, ho.aA, hn.aA, hl.aA, hs.aA];have eg : x.aI c = (x, 3) := by simp [fF.aI, k2, c2]
   rw [eg];exact ⟨_, rfl, rF (x := x) (u _ _ (eV.b3 _ _ _) he) (u _ _ (eV.b3 _ _ _) ho) (u _ _ (eV.b3 _ _ _) hn) (u _ _ (eV.b3 _ _ _) hl) (u _ _ (eV.b3 _ _ _) hs), eV.b3 _ _ _⟩
  have e2 : IntKind.i64.wrap (c.aE - x.aA.aA) = c.aE - x.aA.aA := gi (by omega);have e3 : IntKind.i64.wrap (c.aE - x.aA.aA - 1) = c.aE - x.aA.aA - 1 := gi (by omega);have hE : eX (.sl 3 (x.aA.es.map fT.c)) (λm => F m /\ m < h.length) _ e := eX.aC _ (λ_ x => x) (X3.aE _) _ (eX.lt _ _ he);have ac : eX (.sl 3 (c.aA.es.map fT.c)) (λm => G m /\ m < h.length) _ e' := eX.aC _ (λ_ x => x) (X3.aE _) _ (eX.lt _ _ a6);obtain ⟨av', s1, s2, s3⟩ := tM (k := c.aE - x.aA.aA - 1) hE (by omega) (by simp; omega);obtain ⟨ys, a1, a2⟩ := rO ac;obtain ⟨o4, H4, t1, t2, t3, t4⟩ := rN (bytes := 40) s2 s3 (w9 s1) (eV.aC eY _) a2 (λn off len cap ea hg => by subst ea; exact hd _ (O8 s2).1 hg.1) (by simp only [UD, UI]; omega);rw [<- iq a1] at t1;have C0 := t4.aA (oJ h (some (.aA 10 [x.aH e o n l s] false)) (some (.aA 17 [c.aF e' o' n' l' s'] false)) (some (.aA 10 [[.aA .i64 0, .aA .i64 0, .aA .i64 0, .aA .i64 0, .aA .i64 0, .aD, .aD, .aD, .aD, .aD]] false)));have C1 := t4.aA (pF h (some (.aA 10 [x.aH e o n l s] false)) (some (.aA 17 [c.aF e' o' n' l' s'] false)) (some (.aA 10 [[.aA .i64 0, .aA .i64 0, .aA .i64 0, .aA .i64 0, .aA .i64 0, .aD, .aD, .aD, .aD, .aD]] false)));have C2 := t4.aA (rk h (some (.aA 10 [x.aH e o n l s] false)) (some (.aA 17 [c.aF e' o' n' l' s'] false)) (some (.aA 10 [[.aA .i64 0, .aA .i64 0, .aA .i64 0, .aA .i64 0, .aA .i64 0, .aD, .aD, .aD, .aD, .aD]] false)));have l0 := (Up.1 C0).1;have l2 := (Up.1 C2).1;have XH : eV eY h H4 := X3.tr t4;simp only [fF.aH] at C0 C2 t1;simp only [fZ.aF] at C1 t1;have a3 : (h.length = h.length + 1 + 1) = False := UO (by omega);have a8 : (h.length + 1 + 1 = h.length) = False := UO (by omega);simp only [go_sem, Us c1, e1, Us c2, e2, e3, nv, s1, t1, C0, C1, C2, l0, l2, a3, UA, t2.aA, gC t2.aA, ho.aA, hn.aA, hl.aA, hs.aA];have eg : x.aI c = ({ x with aA := ⟨x.aA.aA, x.aA.aD, x.aA.es.take (c.aE - x.aA.aA - 1).toNat ++ c.aA.es⟩ }, 0) := by simp [fF.aI, k2, c1, c2]
  rw [eg];have XX : eV eY h ((H4.set h.length (some (.aA 10 [[.aA .i64 x.aE, .aA .i64 x.aC, .aA .i64 x.aF, .aA .i64 x.aA.aA, .aA .i64 x.aA.aD, o4, o, n, l, s]] false))).set (h.length + 1 + 1) (some (.aA 10 [[.aA .i64 x.aE, .aA .i64 x.aC, .aA .i64 x.aF, .aA .i64 x.aA.aA, .aA .i64 x.aA.aD, o4, o, n, l, s]] false))) := (XH.aG (Uy _) _).aG (by omega) _;have l3 := X3.1;refine ⟨_, rfl, rF (x := { x with aA := ⟨x.aA.aA, x.aA.aD, x.aA.es.take (c.aE - x.aA.aA - 1).toNat ++ c.aA.es⟩ }) ?_ (u _ _ XX ho) (u _ _ XX hn) (u _ _ XX hl) (u _ _ XX hs), XX⟩;simp only [gN, Ve, V6];refine eX.aC _ (λm hm => ?_) (λm hm y hy => ?_) _ t2
  ·simp only [Ut, UG, UJ] at hm;rcases hm with hm | hm | hm
   ·exact .inl hm.1
   ·exact .inr (.inl hm.1)
   ·exact .inr (.inr (by omega))
  ·simp only [Ut, UG, UJ] at hm;rw [Uq (by omega), Uq (by omega)]; exact hy
 by_cases k3 : c.aC = 3
 ·simp only [go_sem, Us k1, Us k2, Uu k3];have hR : fm (λ_ => True) _ x.aA.c [.aA .i64 x.aA.aA, .aA .i64 x.aA.aD, e] := ⟨_, _, rfl, by simp only [Rd], _, _, rfl, by simp only [Rd], _, _, rfl, eX.rd _ (F' := λ_ => True) (λ_ _ => UF) _ (u _ _ X3 he), rfl⟩;refine gh a4.1 (a4.2 _ _ x.aA _ c.aA.aA hR ⟨b0, b1, Z⟩) ?_;have eg : x.aI c = ({ x with aA := x.aM c, aD := c.aG, aG := c.aJ }, 0) := by simp [fF.aI, k3]
  rw [eg];have E : ¬ (x.aA.aF c.aA.aA = true /\ x.aA.aJ c.aA.aA = c.aA.aD) -> ∀ {H : eW}, eV eY h H -> fI ({ x with aA := x.aM c, aD := c.aG, aG := c.aJ } : fF).c (λm => F m \/ G m \/ h.length <= m) H [.aA .i64 x.aE, .aA .i64 x.aC, .aA .i64 x.aF, .aA .i64 c.aA.aA, .aA .i64 c.aA.aD, .aD, o', n', l', s'] := by
   intro ab H XX;have es : x.aM c = ⟨c.aA.aA, c.aA.aD, []⟩ := by simp only [fF.aM]; rw [Uw ab]
   rw [es];exact rF (x := { x with aA := ⟨c.aA.aA, c.aA.aD, []⟩, aD := c.aG, aG := c.aJ }) (eX.aD _) (M _ _ XX O) (M _ _ XX U) (M _ _ XX W) (M _ _ XX I)
  cases hh : x.aA.aF c.aA.aA with
  | false =>simp only [go_sem, O.aA, U.aA, W.aA, I.aA, gC I.aA];exact ⟨_, rfl, E (by simp [hh]) (eV.b3 _ _ _), eV.b3 _ _ _⟩
  | true =>
   by_cases ht : x.aA.aJ c.aA.aA = c.aA.aD
   ·simp only [go_sem, Uu ht];refine fA ⟨a7.1, a7.2 _ _ x.aA _ c.aA.aA hR ⟨b0, b1, Z⟩⟩ ?_;rintro _ H4 ⟨cs, rfl, oc, t4⟩;obtain ⟨d, rfl, od⟩ := Ct oc;have C0 := t4.aA (oJ h (some (.aA 10 [x.aH e o n l s] false)) (some (.aA 17 [c.aF e' o' n' l' s'] false)) (some (.aA 10 [[.aA .i64 0, .aA .i64 0, .aA .i64 0, .aA .i64 0, .aA .i64 0, .aD, .aD, .aD, .aD, .aD]] false)));have C1 := t4.aA (pF h (some (.aA 10 [x.aH e o n l s] false)) (some (.aA 17 [c.aF e' o' n' l' s'] false)) (some (.aA 10 [[.aA .i64 0, .aA .i64 0, .aA .i64 0, .aA .i64 0, .aA .i64 0, .aD, .aD, .aD, .aD, .aD]] false)));have C2 := t4.aA (rk h (some (.aA 10 [x.aH e o n l s] false)) (some (.aA 17 [c.aF e' o' n' l' s'] false)) (some (.aA 10 [[.aA .i64 0, .aA .i64 0, .aA .i64 0, .aA .i64 0, .aA .i64 0, .aD, .aD, .aD, .aD, .aD]] false)));have l0 := (Up.1 C0).1;have l2 := (Up.1 C2).1;have XH : eV eY h H4 := X3.tr t4;simp only [fF.aH] at C0 C2;simp only [fZ.aF] at C1;have a9 : (h.length = h.length + 1) = False := UO (by omega);have n10 : (h.length + 1 = h.length) = False := UO (by omega);have a3 : (h.length = h.length + 1 + 1) = False := UO (by omega);have a8 : (h.length + 1 + 1 = h.length) = False := UO (by omega);simp only [go_sem, C0, C1, C2, l0, l2, a9, a3, UA, od.aA, O.aA, U.aA, W.aA, I.aA, gC I.aA];have es : x.aM c = x.aA.aK c.aA.aA := by simp only [fF.aM]; rw [Uv ⟨hh, ht⟩]
    rw [es];have XX := (((XH.aG (n := h.length) (Uy _) (some (.aA 10 [[.aA .i64 x.aE, .aA .i64 x.aC, .aA .i64 x.aF, .aA .i64 (x.aA.aK c.aA.aA).aA, .aA .i64 (x.aA.aK c.aA.aA).aD, d, o, n, l, s]] false))).aG (n := h.length) (Uy _) (some (.aA 10 [[.aA .i64 x.aE, .aA .i64 x.aC, .aA .i64 x.aF, .aA .i64 (x.aA.aK c.aA.aA).aA, .aA .i64 (x.aA.aK c.aA.aA).aD, d, o', n', l', s]] false))).aG (n := h.length) (Uy _) (some (.aA 10 [[.aA .i64 x.aE, .aA .i64 x.aC, .aA .i64 x.aF, .aA .i64 (x.aA.aK c.aA.aA).aA, .aA .i64 (x.aA.aK c.aA.aA).aD, d, o', n', l', s']] false))).aG (n := h.length + 1 + 1) (by omega) (some (.aA 10 [[.aA .i64 x.aE, .aA .i64 x.aC, .aA .i64 x.aF, .aA .i64 (x.aA.aK c.aA.aA).aA, .aA .i64 (x.aA.aK c.aA.aA).aD, d, o', n', l', s']] false));refine ⟨_, rfl, rF (x := { x with aA := x.aA.aK c.aA.aA, aD := c.aG, aG := c.aJ }) ?_ (M _ _ XX O) (M _ _ XX U) (M _ _ XX W) (M _ _ XX I), XX⟩;refine eX.aC _ (λm hm => ?_) (λm hm y hy => ?_) _ od;·simp only [Ut, UG, UJ] at hm;exact .inr (.inr (by omega))
    ·simp only [Ut, UG, UJ] at hm;rw [Uq (by omega), Uq (by omega), Uq (by omega), Uq (by omega)]; exact hy
   ·simp only [go_sem, Us ht, O.aA, U.aA, W.aA, I.aA, gC I.aA];exact ⟨_, rfl, E (λhc => ht hc.2) (eV.b3 _ _ _), eV.b3 _ _ _⟩
 ·simp only [go_sem, Us k1, Us k2, Us k3, he.aA, ho.aA, hn.aA, hl.aA, hs.aA];have eg : x.aI c = (x, 0) := by simp [fF.aI, k1, k2, k3]
  rw [eg];exact ⟨_, rfl, rF (x := x) (u _ _ (eV.b3 _ _ _) he) (u _ _ (eV.b3 _ _ _) ho) (u _ _ (eV.b3 _ _ _) hn) (u _ _ (eV.b3 _ _ _) hl) (u _ _ (eV.b3 _ _ _) hs), eV.b3 _ _ _⟩
def p_:List gX->gX->List gX
 | [],v=>[v]
 | a :: r,v=>if a.aG v=true then a :: p_ r v else if a.aA=v.aA/\a.aC=v.aC then v :: r else v :: a :: r
theorem yZ:∀(l:List gX)(v:gX)(i:Nat),i<=l.length->(∀(j:Nat)(hj:j<l.length),j<i->l[j].aG v=true)->(∀hi:i<l.length,l[i].aG v=false)->
  p_ l v=l.take i++(match l[i]? with
   | some a=>if a.aA=v.aA/\a.aC=v.aC then v :: l.drop (i+1) else v :: l.drop i
   | none=>[v])
 | [],v,i,hi,h1,h2=>by simp[p_]
 | a :: r,v,0,hi,h1,h2=>by have:=h2 (by simp);simp only[VV]at this;simp[p_,this]
 | a :: r,v,i+1,hi,h1,h2=>by have ha:a.aG v=true:=h1 0 (by simp) (by omega);simp only[p_];rw[Uv ha,yZ r v i (by simpa using hi) (λj hj hji=>h1 (j+1) (by simpa using hj) (by omega)) (λe=>h2 (by simpa using e))];simp
def CY (P:Program)(f:FuncId):Prop:=fP P f=true/\∀(F:Nat->Prop)(h:eW)(l:List gX)(a:AV)(v:gX)(vs:List AV),eX (lT l) F h a->vs=[.aA .i64 v.aA,.aA .i64 v.aC,.aA .i64 v.aE,.aA .i64 v.aD,.aA .i64 v.aF]->l.length<=2^32->
 fC P f [a,.aF vs] h λr h'=>eX (lT (p_ l v)) (λm=>F m\/h.length<=m) h' r/\eV F h h'
theorem I5 {P : Program} {f g : FuncId} (hf : Is P f (z7 g)) (hg : xY P g) : CY P f := by
 refine ⟨hf.2, λF h l a v vs ho hv hl => fU hf ?_⟩;subst hv;have hR : Rd (λ_ => True) h (lT l) a := eX.rd _ (λ_ _ => UF) _ ho;have la : ik a = some (.aA .i64 l.length) := by simpa using hR.aC
 simp only [z7, go_sem];have X0 := eV.b1 (h := h) (some (.aA 5 [[.aA .i64 v.aA, .aA .i64 v.aC, .aA .i64 v.aE, .aA .i64 v.aD, .aA .i64 v.aF]] false));have A0 := gH h (some (.aA 5 [[.aA .i64 v.aA, .aA .i64 v.aC, .aA .i64 v.aE, .aA .i64 v.aD, .aA .i64 v.aF]] false));have aa := hR.up X0;have E : eX (lT l) (λm => F m /\ m < h.length) _ a := eX.aC _ (λ_ x => x) (X0.aE _) _ (eX.lt _ _ ho);have lH : h.length + 1 = (h ++ [some (e_.aA 5 [[.aA .i64 v.aA, .aA .i64 v.aC, .aA .i64 v.aE, .aA .i64 v.aD, .aA .i64 v.aF]] false)]).length := by simp
 generalize h ++ [some (e_.aA 5 [[.aA .i64 v.aA, .aA .i64 v.aC, .aA .i64 v.aE, .aA .i64 v.aD, .aA .i64 v.aF]] false)] = H at *;refine iM (λm L h' => ∃ i : Nat, lk 0 L = a /\ lk 3 L = .aC h.length 5 0 0 /\ lk 5 L = .aA .i64 i /\ h' = H /\ i <= l.length /\ m = l.length - i /\ ∀ (j : Nat) (hj : j < l.length), j < i -> l[j].aG v = true) l.length ?_ ?_;·exact ⟨0, by simp [fj, h_], by simp [fj], by simp [fj], rfl, by omega, by omega, by omega⟩
 ·rintro m L h2 ⟨i, k0, k3, k5, rfl, hi, rfl, hj⟩;have out : (∀ hi : i < l.length, l[i].aG v = false) -> True := λ_ => UF;by_cases ci : (i : Int) < l.length
  ·have O : i < l.length := by omega
   obtain ⟨p, cs, I, M, a8⟩ := aa.aE .i64 (i := i) (d := l[i].c) (by omega) (by simp [O]);have r1 := Hc a8;have t1 := ju M true 5;rw [CN, Uv (by rw [r1]; simp), UU (by rw [r1]; simp)] at t1;simp only [z8, go_sem, k0, k3, k5, la, Uu ci, I, t1, A0];refine gh hg.1 (hg.2 h2 l[i] v cs _ r1 rfl) ?_;have e1 : IntKind.i64.wrap (↑i + 1) = (i : Int) + 1 := gi (by omega);cases cg : (l[i]).aG v with
   | true =>
    simp only [go_sem, t1, A0, k0, k3, k5, e1];refine ⟨_, by omega, i + 1, by simp, by omega, rfl, λj a4 hji => ?_⟩;by_cases e : j = i;·subst e; exact cg
    ·exact hj j a4 (by omega)
   | false =>
    have u := yZ l v i hi hj (λ_ => cg);rw [Ur O] at u;simp only at u;subst r1;simp only [go_sem, t1, A0, k0, k3, k5, la, Uu ci, I, py M, pB M];by_cases c1 : l[i].aA = v.aA
    ·simp only [go_sem, Uu c1, A0, k0, k3, k5, I, py M, pB M];by_cases c2 : l[i].aC = v.aC
     ·rw [Uv ⟨c1, c2⟩] at u;simp only [go_sem, Uu c2, A0, k0, k3, k5, I];obtain ⟨n, off, row, gg, cs', len, cap, rfl, hn, a5, W, a3, a6, Z⟩ := Cs (j := i) (d0 := l[i].c) E (by simp [O]);rw [a5] at I;cases I;have a9 : cs'.length = 5 := by rw [we a6]; rfl
      have st := wE (x := .aF [.aA .i64 v.aA, .aA .i64 v.aC, .aA .i64 v.aE, .aA .i64 v.aD, .aA .i64 v.aF]) W a3 rfl (by rw [a9]; rfl) rfl rfl;simp only [go_sem, k0, st];rw [u];have es : l.take i ++ v :: l.drop (i + 1) = l.set i v := by rw [List.set_eq_take_append_cons_drop, Uv O]
      rw [es];have := Z _ h2 v.c _ (λ_ x => x) (λ_ _ _ x => x) rfl ⟨_, _, rfl, iJ _ _ v.aA, _, _, rfl, iJ _ _ v.aC, _, _, rfl, iJ _ _ v.aE, _, _, rfl, iJ _ _ v.aD, _, _, rfl, iJ _ _ v.aF, rfl⟩;rw [<- List.map_set] at this;exact ⟨eX.aC _ (λm hm => .inl hm.1) (λ_ _ _ x => x) _ this, X0.aD (eV.aI _ (λ_ => hn.1)) (λ_ _ x => x.elim) (λ_ _ x => x)⟩
     ·rw [Uw (λhc => c2 hc.2)] at u;simp only [go_sem, Us c2, k0, k5];obtain ⟨U, s1, s2, s3⟩ := tM (k := (i : Int)) E (by omega) (by simp; omega);obtain ⟨bv, u1, u2⟩ := xB (k := (i : Int)) E (by omega) (by simp; omega);rw [Vt] at s2 u2;have E5 := eV.b1 (h := h2) (some (.aA 5 [[.aA .i64 v.aA, .aA .i64 v.aC, .aA .i64 v.aE, .aA .i64 v.aD, .aA .i64 v.aF]] false));have u5 := eX.aC (F' := λm => F m /\ m < h.length) _ (λ_ x => x) (E5.aE _) _ u2;obtain ⟨ys, a1, a2⟩ := rO u5;rw [<- Wy] at a2;have v1 : fI v.c (λm => m = h2.length /\ m ≠ h2.length) (h2 ++ [some (.aA 5 [[.aA .i64 v.aA, .aA .i64 v.aC, .aA .i64 v.aE, .aA .i64 v.aD, .aA .i64 v.aF]] false)]) [.aA .i64 v.aA, .aA .i64 v.aC, .aA .i64 v.aE, .aA .i64 v.aD, .aA .i64 v.aF] := ⟨_, _, rfl, iJ _ _ _, _, _, rfl, iJ _ _ _, _, _, rfl, iJ _ _ _, _, _, rfl, iJ _ _ _, _, _, rfl, iJ _ _ _, rfl⟩;have o1 : eX (.sl 5 [v.c]) (λm => m = h2.length) (h2 ++ [some (.aA 5 [[.aA .i64 v.aA, .aA .i64 v.aC, .aA .i64 v.aE, .aA .i64 v.aD, .aA .i64 v.aF]] false)]) (.aG h2.length 5 0 1 (some 1)) := by simp only [eX];exact .inr (.inr ⟨h2.length, 0, some 1, _, false, rfl, rfl, gH _ _, by simp, (λc hc => by cases hc; simp), ⟨_, _, rfl, v1, rfl⟩⟩)
      obtain ⟨w, H6, w1, w2, -, w4⟩ := rN (bytes := 40) (G := eY) o1 ⟨_, _, gH _ _, (λe => by cases e), (λc hc => by cases hc; simp)⟩ (λn off len cap e => by cases e; rfl) (eV.aC eY _) (qB a2) (λ_ _ _ _ _ x => x) (by simp; omega);rw [<- iq a1] at w1;have E6 : eV eY h2 H6 := E5.tr w4;obtain ⟨zs, z1, z2⟩ := rO w2;have s6 := eX.aC (F' := λm => F m /\ m < h.length) _ (λ_ x => x) (E6.aE _) _ s2;have c6 : gP H6 U := s3.aA s2 (E6.aE _);have z3 : fG ((v :: l.drop i).map gX.c) eY H6 zs := qB (l := v :: l.drop i) z2;obtain ⟨w', H7, x1, x2, -, x4⟩ := rN (bytes := 40) (G := eY) s6 c6 (w9 s1) (eV.aC eY _) z3 (λ_ _ _ _ _ x => x) (by simp; omega);rw [<- iq z1] at x1;have A1 := λz => (mZ (h := h2) (s := h.length) (by omega) z).trans A0;simp only [go_sem, k0, k3, k5, nv, s1, u1, A1, w1, x1];refine ⟨iu (by omega), ?_, X0.aD (E6.tr x4) (λ_ _ x => x.elim) (λ_ _ x => x.elim)⟩;rw [u];simp only [lT, Ve, V6];refine eX.aC _ (λm hm => ?_) (λ_ _ _ x => x) _ x2;rcases hm with hm | hm | hm;·exact .inl hm.1
      ·exact hm.elim
      ·have := E6.1; exact .inr (by omega)
    ·rw [Uw (λhc => c1 hc.1)] at u;simp only [go_sem, Us c1, k0, k5];obtain ⟨U, s1, s2, s3⟩ := tM (k := (i : Int)) E (by omega) (by simp; omega);obtain ⟨bv, u1, u2⟩ := xB (k := (i : Int)) E (by omega) (by simp; omega);rw [Vt] at s2 u2;have E5 := eV.b1 (h := h2) (some (.aA 5 [[.aA .i64 v.aA, .aA .i64 v.aC, .aA .i64 v.aE, .aA .i64 v.aD, .aA .i64 v.aF]] false));have u5 := eX.aC (F' := λm => F m /\ m < h.length) _ (λ_ x => x) (E5.aE _) _ u2;obtain ⟨ys, a1, a2⟩ := rO u5;rw [<- Wy] at a2;have v1 : fI v.c (λm => m = h2.length /\ m ≠ h2.length) (h2 ++ [some (.aA 5 [[.aA .i64 v.aA, .aA .i64 v.aC, .aA .i64 v.aE, .aA .i64 v.aD, .aA .i64 v.aF]] false)]) [.aA .i64 v.aA, .aA .i64 v.aC, .aA .i64 v.aE, .aA .i64 v.aD, .aA .i64 v.aF] := ⟨_, _, rfl, iJ _ _ _, _, _, rfl, iJ _ _ _, _, _, rfl, iJ _ _ _, _, _, rfl, iJ _ _ _, _, _, rfl, iJ _ _ _, rfl⟩;have o1 : eX (.sl 5 [v.c]) (λm => m = h2.length) (h2 ++ [some (.aA 5 [[.aA .i64 v.aA, .aA .i64 v.aC, .aA .i64 v.aE, .aA .i64 v.aD, .aA .i64 v.aF]] false)]) (.aG h2.length 5 0 1 (some 1)) := by simp only [eX];exact .inr (.inr ⟨h2.length, 0, some 1, _, false, rfl, rfl, gH _ _, by simp, (λc hc => by cases hc; simp), ⟨_, _, rfl, v1, rfl⟩⟩)
     obtain ⟨w, H6, w1, w2, -, w4⟩ := rN (bytes := 40) (G := eY) o1 ⟨_, _, gH _ _, (λe => by cases e), (λc hc => by cases hc; simp)⟩ (λn off len cap e => by cases e; rfl) (eV.aC eY _) (qB a2) (λ_ _ _ _ _ x => x) (by simp; omega);rw [<- iq a1] at w1;have E6 : eV eY h2 H6 := E5.tr w4;obtain ⟨zs, z1, z2⟩ := rO w2;have s6 := eX.aC (F' := λm => F m /\ m < h.length) _ (λ_ x => x) (E6.aE _) _ s2;have c6 : gP H6 U := s3.aA s2 (E6.aE _);have z3 : fG ((v :: l.drop i).map gX.c) eY H6 zs := qB (l := v :: l.drop i) z2;obtain ⟨w', H7, x1, x2, -, x4⟩ := rN (bytes := 40) (G := eY) s6 c6 (w9 s1) (eV.aC eY _) z3 (λ_ _ _ _ _ x => x) (by simp; omega);rw [<- iq z1] at x1;have A1 := λz => (mZ (h := h2) (s := h.length) (by omega) z).trans A0;simp only [go_sem, k0, k3, k5, nv, s1, u1, A1, w1, x1];refine ⟨iu (by omega), ?_, X0.aD (E6.tr x4) (λ_ _ x => x.elim) (λ_ _ x => x.elim)⟩;rw [u];simp only [lT, Ve, V6];refine eX.aC _ (λm hm => ?_) (λ_ _ _ x => x) _ x2;rcases hm with hm | hm | hm;·exact .inl hm.1
     ·exact hm.elim
     ·have := E6.1; exact .inr (by omega)
  ·have O : i = l.length := by omega
   have u := yZ l v i hi hj (λa7 => absurd a7 (by omega));rw [U8 (by omega)] at u;simp only at u;have ed : l.drop i = [] := Wh (by omega);rw [<- ed] at u;simp only [z8, go_sem, k0, k5, la, Us ci];obtain ⟨U, s1, s2, s3⟩ := tM (k := (i : Int)) E (by omega) (by simp; omega);obtain ⟨bv, u1, u2⟩ := xB (k := (i : Int)) E (by omega) (by simp; omega);rw [Vt] at s2 u2;have E5 := eV.b1 (h := h2) (some (.aA 5 [[.aA .i64 v.aA, .aA .i64 v.aC, .aA .i64 v.aE, .aA .i64 v.aD, .aA .i64 v.aF]] false));have u5 := eX.aC (F' := λm => F m /\ m < h.length) _ (λ_ x => x) (E5.aE _) _ u2;obtain ⟨ys, a1, a2⟩ := rO u5;rw [<- Wy] at a2;have v1 : fI v.c (λm => m = h2.length /\ m ≠ h2.length) (h2 ++ [some (.aA 5 [[.aA .i64 v.aA, .aA .i64 v.aC, .aA .i64 v.aE, .aA .i64 v.aD, .aA .i64 v.aF]] false)]) [.aA .i64 v.aA, .aA .i64 v.aC, .aA .i64 v.aE, .aA .i64 v.aD, .aA .i64 v.aF] := ⟨_, _, rfl, iJ _ _ _, _, _, rfl, iJ _ _ _, _, _, rfl, iJ _ _ _, _, _, rfl, iJ _ _ _, _, _, rfl, iJ _ _ _, rfl⟩;have o1 : eX (.sl 5 [v.c]) (λm => m = h2.length) (h2 ++ [some (.aA 5 [[.aA .i64 v.aA, .aA .i64 v.aC, .aA .i64 v.aE, .aA .i64 v.aD, .aA .i64 v.aF]] false)]) (.aG h2.length 5 0 1 (some 1)) := by simp only [eX];exact .inr (.inr ⟨h2.length, 0, some 1, _, false, rfl, rfl, gH _ _, by simp, (λc hc => by cases hc; simp), ⟨_, _, rfl, v1, rfl⟩⟩)
   obtain ⟨w, H6, w1, w2, -, w4⟩ := rN (bytes := 40) (G := eY) o1 ⟨_, _, gH _ _, (λe => by cases e), (λc hc => by cases hc; simp)⟩ (λn off len cap e => by cases e; rfl) (eV.aC eY _) (qB a2) (λ_ _ _ _ _ x => x) (by simp; omega);rw [<- iq a1] at w1;have E6 : eV eY h2 H6 := E5.tr w4;obtain ⟨zs, z1, z2⟩ := rO w2;have s6 := eX.aC (F' := λm => F m /\ m < h.length) _ (λ_ x => x) (E6.aE _) _ s2;have c6 : gP H6 U := s3.aA s2 (E6.aE _);have z3 : fG ((v :: l.drop i).map gX.c) eY H6 zs := qB (l := v :: l.drop i) z2;obtain ⟨w', H7, x1, x2, -, x4⟩ := rN (bytes := 40) (G := eY) s6 c6 (w9 s1) (eV.aC eY _) z3 (λ_ _ _ _ _ x => x) (by simp; omega);rw [<- iq z1] at x1;have A1 := λz => (mZ (h := h2) (s := h.length) (by omega) z).trans A0;simp only [go_sem, k0, k3, k5, nv, s1, u1, A1, w1, x1];refine ⟨iu (by omega), ?_, X0.aD (E6.tr x4) (λ_ _ x => x.elim) (λ_ _ x => x.elim)⟩;rw [u];simp only [lT, Ve, V6];refine eX.aC _ (λm hm => ?_) (λ_ _ _ x => x) _ x2;rcases hm with hm | hm | hm;·exact .inl hm.1
   ·exact hm.elim
   ·have := E6.1; exact .inr (by omega)
def qJ:List fF->fZ->Option (List fF×Int)
 | [],_=>none
 | a :: r,c=>if a.aE=c.aH then some ((a.aI c).1 :: r,(a.aI c).2) else (qJ r c).map λp=>(a :: p.1,p.2)
theorem HG:∀(l:List fF)(c:fZ)(i:Nat)(hi:i<l.length),(∀(j:Nat)(hj:j<l.length),j<i->l[j].aE≠c.aH)->l[i].aE=c.aH->qJ l c=some (l.set i (l[i].aI c).1,(l[i].aI c).2)
 | [],c,i,hi,_,_=>by simp at hi
 | a :: r,c,0,hi,h1,h2=>by simp only[VV]at h2;simp[qJ,h2]
 | a :: r,c,i+1,hi,h1,h2=>by have:=h1 0 (by simp) (by omega);simp only[VV]at this;simp only[qJ];rw[Uw this,HG r c i (by simpa using hi) (λj hj hji=>h1 (j+1) (by simpa using hj) (by omega)) (by simpa using h2)];simp
theorem HH:∀(l:List fF)(c:fZ),(∀(j:Nat)(hj:j<l.length),l[j].aE≠c.aH)->qJ l c=none
 | [],c,_=>rfl
 | a :: r,c,h=>by have:=h 0 (by simp);simp only[VV]at this;simp only[qJ];rw[Uw this,HH r c (λj hj=>h (j+1) (by simpa using hj))];rfl
def jo.aC (x:jo)(c:fZ):jo×Int:=
 if c.aC<1\/4<c.aC then (⟨[],[]⟩,13)
 else if c.aC=4 then (⟨x.aA,p_ x.aD c.aD⟩,0)
 else match qJ x.aA c with
  | none=>(⟨[],[]⟩,6)
  | some (l,e)=>if e≠0 then (⟨[],[]⟩,e) else (⟨l,x.aD⟩,0)
def r9 (P:Program)(f:FuncId):Prop:=fP P f=true/\∀(G:Nat->Prop)(h:eW)(x:jo)(c:fZ)(az cs:List AV),fm G h x.c az->fm G h c.c cs->kV.ok x->kP.ok c->(kV.aC x).length<=2^33->(kP.aC c).length<=2^33->
 (∀y∈x.aA,jH y.aA)->c.aA.es.length<=2^32->x.aA.length<=2^32->x.aD.length<=2^32->
 fC P f [.aF az,.aF cs] h λr h'=>∃bs,r=.aI [.aF bs,.aA .i64 (x.aC c).2]/\fI (x.aC c).1.c (λm=>h.length<=m) h' bs/\eV eY h h'
theorem P8 {x:fZ}{F:Nat->Prop}{h:eW}{a:List AV}(hh:fm F h x.c a):∃e o n l s,a=x.aF e o n l s/\Rd F h (gN x.aA.es) e/\Rd F h (fM x.aG.aA) o/\Rd F h (fM x.aG.aC) n/\Rd F h (fM x.aG.aD) l/\Rd F h (gj x.aJ) s:=by obtain⟨e,o,n,l,s,rfl,h'⟩:=CA hh;exact⟨e,o,n,l,s,rfl,h'⟩
theorem Ic {P:Program}{f fr fc ac tu:FuncId}(hf:Is P f (zW fr fc ac tu))(af:Dn P fr)(ag:Dm P fc)(ai:CY P ac)(ab:DQ P tu):r9 P f:=by
 refine⟨hf.2,λG h x c az cs hx hc ak b7 xl cl a6 b5 hxh ar=>fU hf ?_⟩;obtain⟨xd,xv,rfl,b0,aw⟩:=CC hx;obtain⟨e,o,n,l,s,rfl,re,ro,rn,rl,rs⟩:=P8 hc;simp only[zW,fZ.aF,go_sem,b0.aA,aw.aA,re.aA,ro.aA,rn.aA,rl.aA,rs.aA];have none':∀(e:Int)(H:eW)(k:Nat)(y:Option e_),x.aC c=(⟨[],[]⟩,e)->eV eY h H->h.length<=k->∃bs,AV.aI [.aF [.aD,.aD],.aA .i64 e]=.aI [.aF bs,.aA .i64 (x.aC c).2]/\fI (x.aC c).1.c (λm=>h.length<=m) (H.set k y) bs/\eV eY h (H.set k y):=by intro e H k y eg ex hk;rw[eg];exact⟨_,rfl,⟨_,_,rfl,eX.aD _,_,_,rfl,eX.aD _,rfl⟩,ex.aG hk _⟩
 by_cases c1:c.aC<1
 ·simp only[go_sem,Uu c1];have eg:x.aC c=(⟨[],[]⟩,13):=by simp only[jo.aC];rw[Uv (.inl c1)]
  rw[eg];exact⟨_,rfl,⟨_,_,rfl,eX.aD _,_,_,rfl,eX.aD _,rfl⟩,eV.b3 _ _ _⟩
 by_cases c4:4<c.aC
 ·simp only[go_sem,Us c1,Uu c4];have eg:x.aC c=(⟨[],[]⟩,13):=by simp only[jo.aC];rw[Uv (.inr c4)]
  rw[eg];exact⟨_,rfl,⟨_,_,rfl,eX.aD _,_,_,rfl,eX.aD _,rfl⟩,eV.b3 _ _ _⟩
 have ek:¬(c.aC<1\/4<c.aC):=by omega
 simp only[go_sem,Us c1,Us c4];have X0:=eV.b3 (h:=h) (some (.aA 2 [[xd,xv]] false)) (some (.aA 17 [c.aF e o n l s] false)) (some (.aA 2 [[.aD,.aD]] false));have A0:=oJ h (some (.aA 2 [[xd,xv]] false)) (some (.aA 17 [c.aF e o n l s] false)) (some (.aA 2 [[.aD,.aD]] false));have A1:=pF h (some (.aA 2 [[xd,xv]] false)) (some (.aA 17 [c.aF e o n l s] false)) (some (.aA 2 [[.aD,.aD]] false));have A2:=rk h (some (.aA 2 [[xd,xv]] false)) (some (.aA 17 [c.aF e o n l s] false)) (some (.aA 2 [[.aD,.aD]] false));have lH:h.length+3=(h++[some (e_.aA 2 [[xd,xv]] false)]++[some (e_.aA 17 [c.aF e o n l s] false)]++[some (e_.aA 2 [[.aD,.aD]] false)]).length:=by simp
 simp only[fZ.aF]at X0 A0 A1 A2 lH;have au:=hx.up X0;have b6:=hc.up X0;generalize h++[some (e_.aA 2 [[xd,xv]] false)]++[some (e_.aA 17 [_] false)]++[some (e_.aA 2 [[.aD,.aD]] false)]=H0 at *;refine fA ⟨af.1,af.2 G H0 x _ au ak xl⟩ ?_;rintro _ H1 ⟨d,v,k,rfl,oD,oV,hk,X1⟩;have B0:=X1.aA A0;have B1:=X1.aA A1;have B2:=X1.aA A2;simp only[go_sem,B0,B1];refine fA ⟨ag.1,ag.2 G H1 c _ (b6.up X1) b7 cl⟩ ?_;rintro _ H2 ⟨bs,rfl,oC,X2⟩;obtain⟨e',o',n',l',s',rfl,oe,oo,an,ol,os⟩:=GK oC;have B0:=X2.aA B0;have B1:=X2.aA B1;have B2:=X2.aA B2;have l1:=X1.1;have l2:=X2.1;have m0:h.length<H2.length:=by omega
 have m1:h.length+1<H2.length:=by omega
 have ap:(h.length=h.length+1)=False:=UO (by omega);have n10:(h.length+1=h.length)=False:=UO (by omega);have ao:(h.length=h.length+1+1)=False:=UO (by omega);have n12:(h.length+1=h.length+1+1)=False:=UO (by omega);simp only[fZ.aF,go_sem,B0,B1,m0,m1,ap,n10,UA,oD.aA,oV.aA,oe.aA,oo.aA,an.aA,ol.aA,os.aA];have E3:eV eY h ((H2.set h.length (some (.aA 2 [[d,v]] false))).set (h.length+1) (some (.aA 17 [c.aF e' o' n' l' s'] false))):=((((X0.tr X1).tr X2).aG (Uy _) _)).aG (by omega) _;have D0:((H2.set h.length (some (.aA 2 [[d,v]] false))).set (h.length+1) (some (.aA 17 [c.aF e' o' n' l' s'] false)))[h.length]?=_:=(Uq (by omega)).trans (Ux m0);have D1:((H2.set h.length (some (.aA 2 [[d,v]] false))).set (h.length+1) (some (.aA 17 [c.aF e' o' n' l' s'] false)))[h.length+1]?=_:=Ux (by rw[UA];exact m1);have D2:((H2.set h.length (some (.aA 2 [[d,v]] false))).set (h.length+1) (some (.aA 17 [c.aF e' o' n' l' s'] false)))[h.length+1+1]?=_:=((Uq (by omega)).trans (Uq (by omega))).trans B2;have K3:∀F:Nat->Prop,(∀m,F m->h.length+3<=m)->gS F H2 ((H2.set h.length (some (.aA 2 [[d,v]] false))).set (h.length+1) (some (.aA 17 [c.aF e' o' n' l' s'] false))):=λF hF m hm y hy=>by have:=hF m hm;rw[Uq (by omega),Uq (by omega)];exact hy
 have O:eX (rA x.aA) (λm=>h.length+3<=m/\m<k/\m<H1.length) _ d:=eX.aC _ (λm hm=>by omega) (K3 _ (λm hm=>by omega)) _ (eX.aC _ (λ_ x=>x) (X2.aE _) _ (eX.lt _ _ oD));have U:eX (lT x.aD) (λm=>k<=m/\m<H1.length) _ v:=eX.aC _ (λm hm=>by omega) (K3 _ (λm hm=>by omega)) _ (eX.aC _ (λ_ x=>x) (X2.aE _) _ (eX.lt _ _ oV));have a9:fI c.c (λm=>H1.length<=m) _ (c.aF e' o' n' l' s'):=fI.aA _ (λm hm=>hm) (K3 _ (λm hm=>by omega)) _ oC;have l3:((H2.set h.length (some (.aA 2 [[d,v]] false))).set (h.length+1) (some (.aA 17 [c.aF e' o' n' l' s'] false))).length=H2.length:=by rw[UA,UA]
 simp only[fZ.aF]at E3 D0 D1 D2 K3 O U a9 l3;generalize (H2.set h.length (some (e_.aA 2 [[d,v]] false))).set (h.length+1) (some (.aA 17 [_] false))=H3 at *;have w0:h.length<H3.length:=by omega
 have w2:h.length+1+1<H3.length:=by omega
 have n20:(h.length+1+1=h.length)=False:=UO (by omega);by_cases k4:c.aC=4
 ·simp only[go_sem,Uu k4,D0,D1];refine fA ⟨ai.1,ai.2 _ H3 x.aD v c.aD _ U rfl ar⟩ ?_;rintro r H4 ⟨oR,X4⟩;have l4:=X4.1;have F0:=(X4.2 _ w0 (by omega)).trans D0;have F2:=(X4.2 _ w2 (by omega)).trans D2;have am:h.length<H4.length:=by omega
  have al:h.length+1+1<H4.length:=by omega
  simp only[go_sem,F0,F2,am,al,ao,UA,O.aA,oR.aA,gC oR.aA];have eg:x.aC c=(⟨x.aA,p_ x.aD c.aD⟩,0):=by simp only[jo.aC];rw[Uw ek,Uv k4]
  rw[eg];refine⟨_,rfl,⟨_,_,rfl,?_,_,_,rfl,?_,rfl⟩,((E3.aD X4 (λ_ _ x=>x) (λm hm ay=>by omega)).aG (Uy _) _).aG (by omega) _⟩;·refine eX.aC _ (λm hm=>by omega) (λm hm y hy=>?_) _ O;have ax:=(Up.1 hy).1;rw[Uq (by omega),Uq (by omega),X4.2 m ax (by omega)];exact hy
  ·refine eX.aC _ (λm hm=>by omega) (λm hm y hy=>?_) _ oR;rw[Uq (by omega),Uq (by omega)];exact hy
 have ld:ik d=some (.aA .i64 x.aA.length):=by simpa using (eX.rd _ (F':=λ_=>True) (λ_ _=>UF) _ O).aC
 simp only[go_sem,Us k4,D0,ld];refine iM (λm L h'=>∃i:Nat,lk 2 L=.aC h.length 2 0 0/\lk 3 L=.aC (h.length+1) 17 0 0/\lk 4 L=.aC (h.length+1+1) 2 0 0/\lk 34 L=.aA .i64 x.aA.length/\lk 35 L=.aA .i64 i/\h'=H3/\i<=x.aA.length/\m=x.aA.length-i/\∀(j:Nat)(hj:j<x.aA.length),j<i->x.aA[j].aE≠c.aH) x.aA.length ?_ ?_;·exact⟨0,by simp[fj],by simp[fj],by simp[fj],by simp[fj],by simp[fj],rfl,by omega,by omega,by omega⟩
 ·rintro m L h2 ⟨i,k2,k3,W,aa,a2,rfl,hi,rfl,hj⟩;simp only[Ey,go_sem,aa,a2];refine iw (λci=>?_) (λci=>?_)
  ·simp at ci;obtain⟨n,off,row,gg,hs,len,cap,rfl,hn,a7,u,M,ae,a4⟩:=Cs (j:=i) (d0:=x.aA[i].c) O (by simp[ci]);obtain⟨he,ho,a5,hl,a3,rfl,qe,qo,qn,ql,qs⟩:=Cr ae;have hpc:jA h2 (.aC n 10 (off+i) 0)=some (x.aA[i].aH he ho a5 hl a3):=by simp[jA,u,M]
   have e1:IntKind.i64.wrap (↑i+1)=(i:Int)+1:=gi (by omega);have E:=M;simp only[fF.aH]at E;by_cases cg:x.aA[i].aE=c.aH
   ·have ah:(x.aA[i].aE=c.aH)=True:=eq_true cg;have eg:x.aC c=(if (x.aA[i].aI c).2≠0 then (⟨[],[]⟩,(x.aA[i].aI c).2) else (⟨x.aA.set i (x.aA[i].aI c).1,x.aD⟩,0)):=by simp only[jo.aC];rw[Uw ek,Uw k4,HG _ _ i ci hj cg]
    rw[eg];have Z0:=λz=>(mZ (h:=h2) (s:=h.length) w0 z).trans D0;have Z1:=λz=>(mZ (h:=h2) (s:=h.length+1) (by omega) z).trans D1;have Z2:=λz=>(mZ (h:=h2) (s:=h.length+1+1) (by omega) z).trans D2;have ad:=(Up.1 u).1;have Zn:=λz=>(mZ (h:=h2) (s:=n) ad z).trans u;have NR:∀m sz i o,m<h2.length->gW h2.length 1 (.aC m sz i o)=true:=λm sz i o hm=>iu hm;simp only[go_sem,k2,k3,a2,D0,D1,a7,u,E,ah,Z0,Z1,Zn];refine⟨NR _ _ _ _ (by omega),NR _ _ _ _ ad,NR _ _ _ _ (by omega),?_⟩;have E1:=eV.b1 (h:=h2) none;have tH:fI x.aA[i].c (λm=>(h.length+3<=m/\m<k/\m<H1.length)/\m≠n) (h2++[none]) (x.aA[i].aH he ho a5 hl a3):=fI.aA _ (λ_ x=>x) (E1.aE _) _ ae;have tC:fI c.c (λm=>H1.length<=m/\m<h2.length) (h2++[none]) (c.aF e' o' n' l' s'):=fI.aA _ (λ_ x=>x) (E1.aE _) _ (fI.lt _ _ a9);refine fA ⟨ab.1,ab.2 _ _ (h2++[none]) x.aA[i] c _ _ tH tC (λm hm ay=>by omega) (a6 _ (UT _)) b5⟩ ?_;rintro _ H4 ⟨rs,rfl,oR,X4⟩;obtain⟨te,to,tn,tl,ts,rfl,ve,vo,vn,vl,vs⟩:=Cr oR;have y4:=X4.1;have yl:(h2++[none]).length=h2.length+1:=by simp
    have Y0:=X4.aA (Z0 none);have Y1:=X4.aA (Z1 none);have Y2:=X4.aA (Z2 none);have Yn:=X4.aA (Zn none);have Yl:=X4.aA (gH h2 none);have m2:h2.length<H4.length:=by omega
    have q0:(h2.length=h.length)=False:=UO (by omega);have q1:(h2.length=h.length+1)=False:=UO (by omega);have q2:(h2.length=h.length+1+1)=False:=UO (by omega);have qn:(h2.length=n)=False:=UO (by omega);have XH:eV eY h H4:=(E3.tr E1).tr X4;by_cases ce:(x.aA[i].aI c).2=0
    ·have a8:¬(x.aA[i].aI c).2≠0:=by simpa using ce
     rw[Uw a8];have p0:(n=h.length)=False:=UO (by omega);have p2:(n=h.length+1+1)=False:=UO (by omega);have m0':h.length<H4.length:=by omega
     have a1:h.length+1+1<H4.length:=by omega
     have aj:(H4.set h2.length (some (.aA 10 [(x.aA[i].aI c).1.aH te to tn tl ts] false)))[n]?=_:=(Uq (by omega)).trans Yn;have hc10:(x.aA[i].aH he ho a5 hl a3).length=10:=rfl;have st:=wE (x:=.aF ((x.aA[i].aI c).1.aH te to tn tl ts)) aj M rfl rfl rfl (by simp only[fF.aH];simp only[go_sem,ve.aA,vo.aA,vn.aA,vl.aA,vs.aA]);simp only[fF.aH]at st;simp only[fF.aH,go_sem,Y0,Y1,Y2,Yn,Yl,q0,q1,q2,qn,p0,p2,m2,a1,E,ce,k2,W,UA,Vs,ve.aA,vo.aA,vn.aA,vl.aA,vs.aA,a7,st,U.aA];have I:∀m,m<h2.length->m≠n->(H4.set h2.length (some (.aA 10 [(x.aA[i].aI c).1.aH te to tn tl ts] false)))[m]?=h2[m]?:=λm hm _=>by rw[Uq (by omega),X4.2 m (by omega) (λx=>x),mZ hm]
     have aq:(H4.set h2.length (some (.aA 10 [(x.aA[i].aI c).1.aH te to tn tl ts] false))).length=H4.length:=UA;have oN:fI (x.aA[i].aI c).1.c (λm=>h.length+3<=m/\m≠n) (H4.set h2.length (some (.aA 10 [(x.aA[i].aI c).1.aH te to tn tl ts] false))) ((x.aA[i].aI c).1.aH te to tn tl ts):=by
      refine fI.aA _ (λm hm=>?_) (λm hm y hy=>?_) _ oR;·rw[yl]at hm;omega
      ·rw[yl]at hm;rw[Uq (by omega)];exact hy
     have oF:=a4 (λm=>h.length+3<=m) _ _ _ (λm hm=>hm.1) (λm hm y hy=>by rw[I m (by omega) hm.2];exact hy) (aj.trans u.symm) oN;rw[<-List.map_set]at oF;simp only[fF.aH]at oF I aq;refine⟨_,rfl,⟨_,_,rfl,?_,_,_,rfl,?_,rfl⟩,?_⟩;·exact eX.aC _ (λm hm=>by omega) (λm hm y hy=>by rw[Uq (by omega)];exact hy) _ oF
     ·refine eX.aC _ (λm hm=>by omega) (λm hm y hy=>?_) _ U;rw[Uq (by omega),Uq (by omega),I m (by omega) (by omega)];exact hy
     ·exact ((XH.aG (by omega) _).aG (by omega) _).aG (by omega) _
    ·have a8:(x.aA[i].aI c).2≠0:=ce;rw[Uv a8];have a1:h.length+1+1<H4.length:=by omega
     simp only[fF.aH,go_sem,Y0,Y1,Y2,Yn,Yl,q0,q1,q2,qn,m2,a1,E,Us ce,W,UA,Vs,ve.aA,vo.aA,vn.aA,vl.aA,vs.aA];exact⟨_,rfl,⟨_,_,rfl,eX.aD _,_,_,rfl,eX.aD _,rfl⟩,(XH.aG (by omega) _).aG (by omega) _⟩
   ·have ah:(x.aA[i].aE=c.aH)=False:=UO cg;simp only[go_sem,k2,k3,W,aa,a2,D0,D1,a7,u,E,Us cg,e1];refine⟨_,by omega,i+1,by simp,by omega,rfl,λj Z hji=>?_⟩;by_cases e:j=i;·subst e;exact cg
    ·exact hj j Z (by omega)
  ·simp at ci;obtain rfl:i=x.aA.length:=by omega
   have eg:x.aC c=(⟨[],[]⟩,6):=by simp only[jo.aC];rw[Uw ek,Uw k4,HH _ _ (λj Z=>hj j Z Z)]
   simp only[go_sem,W,D2,w2];rw[eg];exact⟨_,rfl,⟨_,_,rfl,eX.aD _,_,_,rfl,eX.aD _,rfl⟩,E3.aG (by omega) _⟩
end Glb
