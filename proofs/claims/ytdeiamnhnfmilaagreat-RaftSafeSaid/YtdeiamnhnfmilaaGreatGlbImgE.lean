/-
  A library of its own.
-/
import Derived.Test.YtdeiamnhnfmilaaGreatGlbImgD
import Derived.Test.YtdeiamnhnfmilaaGreatGlbLogA
set_option linter.unusedSimpArgs false
set_option linter.unusedVariables false
set_option maxRecDepth 10000
set_option maxHeartbeats 16000000
namespace Glb
open Go
theorem S9 (es:List (List AV))(p:Nat):gM es p []=es:=by simp[gM]
theorem SP {h:eX}{n:Nat}{x:Option e_} (hn:h[n]?=some x):h.set n x=h:=by
 apply VM;intro i;rw[Wl];split;·rename_i e;subst e;rw[hn];simp[(UY.1 hn).1]
 ·rfl
theorem Ki {h h':eX}{sz bytes:Nat}{av E:AV}{ys:List (List AV)}(u:∀n off len cap,av=.aG n sz off len cap->cap=some len)(e:iu h sz bytes av ys=some (E,h')):eW eZ h h':=by
 have a1:∀es,eW eZ h (gR h sz es).2:=λes=>eW.aF _ _ _;cases av with
 | aD=>
  simp only[iu]at e;split at e;·cases e;exact a1 _
  ·cases e
 | aM t clip sz' es=>
  simp only[iu]at e;split at e
  ·split at e;·cases e;exact eW.aC _ _
   ·split at e;·cases e;exact a1 _
    ·cases e
  ·cases e
 | aG n sz' off len cap=>
  simp only[iu]at e;split at e
  ·rename_i sz'' es g C;split at e
   ·rename_i hc;obtain⟨h1,h2,h3,h4⟩:=hc;subst h1;obtain rfl:=u _ _ _ _ rfl;cases len with
    | zero=>
     simp only[VS]at e;split at e;·cases e;exact eW.aC _ _
     ·cases e;exact a1 _
    | succ c=>
     simp only at e;split at e;·cases e;exact a1 _
     ·have:ys=[]:=U7 (by omega);subst this;split at e;·cases e;rw[S9,SP (by rw[C,h2])];exact eW.aC _ _
      ·cases e
   ·cases e
  ·cases e
 | _=>simp[iu]at e
theorem xp {sz : Nat} {av u : AV} {k : Int} (e : ie sz av none (some k) (some k) = some u) : ∀ n off len cap, u = .aG n sz off len cap -> cap = some len := by
 intro n off len cap ha;subst ha;cases av with
 | aD => simp [ie] at e
 | aM t clip sz' es => simp only [ie] at e; split at e <;> cases e
 | aG m sz' off' len' cap' =>
  simp only [ie, V0, Vu, VS] at e;split at e;·simp only [U_, AV.aG.injEq, jk] at e;obtain ⟨_, _, _, e1, e2⟩ := e;rw [<- e2, <- e1]; simp
  ·cases e
 | _ => simp [ie] at e
theorem rN {sz bytes:Nat}{F G:Nat->Prop}{ds es:List (List D)}{h0 h:eX}{av:AV}{ys:List (List AV)}(ho:eY (.sl sz ds) F h0 av)(hc:gV h0 av)(e:∀n off len cap,av=.aG n sz off len cap->cap=some len)
  (hx:eW eZ h0 h) (hy:fG es G h ys) (hN:∀n off len cap,av=.aG n sz off len cap->¬G n) (hb:(ds.length+es.length)*bytes<=2^46):
  ∃u h',iu h sz bytes av ys=some (u,h')/\eY (.sl sz (ds++es)) (λm=>F m\/G m\/h.length<=m) h' u/\gV h' u/\eW eZ h h':=by
 obtain⟨u,h',s1,s2,s3,s4,s5⟩:=Hr (bytes:=bytes) (F:=λm=>F m\/G m\/h.length<=m) (G:=G) (eY.aC _ (λm hm=>.inl hm) (λ_ _ _ x=>x) _ ho) hc hx hy (λm hm=>.inr (.inl hm)) hN (.inr (.inr (U8 _))) hb;exact⟨u,h',s1,s2,s3,Ki e s1⟩
theorem En {F:Nat->Prop}{h:eX}:∀{ds:List (List D)} {es:List (List AV)} (j:Nat) {d:List D} {cs:List AV},fG ds F h es->fI d F h cs->fG (ds.set j d) F h (es.set j cs)
 | [],es,j,d,cs,hh,hd=>by simp only[fG]at hh;subst hh;simp[fG]
 | e :: ds,es,0,d,cs,hh,hd=>by obtain⟨a,r,rfl,h1,h2⟩:=hh;exact⟨_,_,rfl,hd,h2⟩
 | e :: ds,es,j+1,d,cs,hh,hd=>by obtain⟨a,r,rfl,h1,h2⟩:=hh;exact⟨_,_,rfl,h1,En j h2 hd⟩
theorem Ek {F:Nat->Prop}{h:eX}:∀{ds:List (List D)} {es:List (List AV)} {j:Nat} {d:List D},fG ds F h es->ds[j]?=some d->∃cs,es[j]?=some cs/\fI d F h cs
 | [],es,j,d,hh,hd=>by simp at hd
 | e :: ds,es,0,d,hh,hd=>by obtain⟨a,r,rfl,h1,h2⟩:=hh;simp only[Vw,U_]at hd;subst hd;exact⟨a,rfl,h1⟩
 | e :: ds,es,j+1,d,hh,hd=>by obtain⟨a,r,rfl,h1,h2⟩:=hh;simp only[V8]at hd ⊢;exact Ek h2 hd
theorem CW {sz:Nat}{ds:List (List D)}{F:Nat->Prop}{h:eX}{a:AV}{j:Nat}{d0:List D}(ho:eY (.sl sz ds) F h a) (hj:ds[j]?=some d0):
  ∃n off row g cs len cap,a=.aG n sz off len cap/\F n/\jg sz a (.aA .i64 j)=some (.aC n sz (off+j) 0)/\h[n]?=some (some (.aA sz row g))/\row[off+j]?=some cs/\fI d0 (λm=>F m/\m≠n) h cs /\
   ∀(F':Nat->Prop)(h':eX)(d:List D)(cs':List AV),(∀m,F m->F' m)->gY (λm=>F m/\m≠n) h h'->h'[n]?=h[n]?->fI d (λm=>F' m/\m≠n) h' cs'->eY (.sl sz (ds.set j d)) F' (h'.set n (some (.aA sz (row.set (off+j) cs') g))) a:=by
 have C:=(UY.1 hj).1;simp only[eY]at ho;rcases ho with⟨rfl,rfl⟩ | ⟨t,c,rfl,rfl⟩ | ⟨n,off,cap,row,g,rfl,hn,u,M,W,hd⟩;·simp at C
 ·simp at C
 obtain⟨cs,E,Z⟩:=Ek hd hj;rw[VZ,U4 C,Vt]at E;refine⟨n,off,row,g,cs,ds.length,cap,rfl,hn,?_,u,E,Z,λF' h' d cs' hF hk I U=>?_⟩;·simp only[jg];rw[U4 ⟨Vd,by omega,by omega⟩];simp
 ·have hlt:=(UY.1 (I.trans u)).1;simp only[eY];refine .inr (.inr ⟨n,off,cap,_,g,by rw[U9],hF _ hn,U5 hlt,by rw[U9,U9];exact M,by rw[U9];exact W,?_⟩);have e:((row.set (off+j) cs').drop off).take (ds.set j d).length=((row.drop off).take ds.length).set j cs':=by
   rw[U9];apply VM;intro i;simp only[VZ,Vt,Wl,Va,Vo];by_cases e1:i<ds.length
   ·rw[U4 e1];by_cases e2:j=i;·subst e2;rw[U4 rfl,U4 rfl,U4 (by omega),U4 (by omega)]
    ·rw[U6 (by omega),U6 e2,U4 e1]
   ·rw[U6 e1,U6 (by omega),U6 e1]
  rw[e];have O:fG ds (λm=>F' m/\m≠n) h' ((row.drop off).take ds.length):=fG.aA _ (λm x=>⟨hF _ x.1,x.2⟩) hk _ hd;exact fG.aA _ (λ_ x=>x) (λm hm y hy=>by rw[UZ (λe=>hm.2 e.symm)];exact hy) _ (En j O U)
def fF.aL (x:fF)(c:gi):fA:=if x.aA.aF c.aA.aA=true/\x.aA.aH c.aA.aA=c.aA.aD then x.aA.aK c.aA.aA else ⟨c.aA.aA,c.aA.aD,[]⟩
def fF.aI (x:fF)(c:gi):fF×Int:=
 if c.aC=1 then ({x with aC:=c.aK,aF:=c.aL},0)
 else if c.aC=2 then (if c.aE<=x.aA.aA\/x.aA.aC+1<c.aE then (x,3) else ({x with aA:=⟨x.aA.aA,x.aA.aD,x.aA.es.take (c.aE-x.aA.aA-1).toNat++c.aA.es⟩},0))
 else if c.aC=3 then ({x with aA:=x.aL c,aD:=c.aG,aG:=c.aJ},0)
 else (x,0)
def gi.aF (x:gi)(e o n l s:AV):List AV:=[.aA .i64 x.aC,.aA .i64 x.aH,.aA .i64 x.aK,.aA .i64 x.aL,.aA .i64 x.aE,.aA .i64 x.aA.aA,.aA .i64 x.aA.aD,e,o,n,l,s,.aA .i64 x.aD.aA,.aA .i64 x.aD.aC,.aA .i64 x.aD.aE,.aA .i64 x.aD.aD,.aA .i64 x.aD.aF]
theorem CV {x:fF}{F:Nat->Prop}{h:eX}{a:List AV}(hh:fI x.c F h a):∃e o n l s,a=x.aH e o n l s/\eY (gK x.aA.es) F h e/\eY (fN x.aD.aA) F h o/\eY (fN x.aD.aC) F h n/\eY (fN x.aD.aD) F h l/\eY (gq x.aG) F h s:=by simp only[fF.c,fI]at hh;obtain⟨_,_,rfl,h1,_,_,rfl,h2,_,_,rfl,h3,_,_,rfl,h4,_,_,rfl,h5,e,_,rfl,he,o,_,rfl,ho,n,_,rfl,hn,l,_,rfl,hl,s,_,rfl,hs,rfl⟩:=hh;simp only[eY]at h1 h2 h3 h4 h5;subst h1 h2 h3 h4 h5;exact⟨e,o,n,l,s,rfl,he,ho,hn,hl,hs⟩
theorem Ht {x:gi}{F:Nat->Prop}{h:eX}{a:List AV}(hh:fI x.c F h a):∃e o n l s,a=x.aF e o n l s/\eY (gK x.aA.es) F h e/\eY (fN x.aG.aA) F h o/\eY (fN x.aG.aC) F h n/\eY (fN x.aG.aD) F h l/\eY (gq x.aJ) F h s:=by simp only[gi.c,fI]at hh;obtain⟨_,_,rfl,h1,_,_,rfl,h2,_,_,rfl,h3,_,_,rfl,h4,_,_,rfl,h5,_,_,rfl,h6,_,_,rfl,h7,e,_,rfl,he,o,_,rfl,ho,n,_,rfl,hn,l,_,rfl,hl,s,_,rfl,hs,_,_,rfl,g1,_,_,rfl,g2,_,_,rfl,g3,_,_,rfl,g4,_,_,rfl,g5,rfl⟩:=hh;simp only[eY]at h1 h2 h3 h4 h5 h6 h7 g1 g2 g3 g4 g5;subst h1 h2 h3 h4 h5 h6 h7 g1 g2 g3 g4 g5;exact⟨e,o,n,l,s,rfl,he,ho,hn,hl,hs⟩
theorem rF {x:fF}{F:Nat->Prop}{h:eX}{e o n l s:AV}(he:eY (gK x.aA.es) F h e)(ho:eY (fN x.aD.aA) F h o)(hn:eY (fN x.aD.aC) F h n)(hl:eY (fN x.aD.aD) F h l)(hs:eY (gq x.aG) F h s):fI x.c F h (x.aH e o n l s):=
 ⟨_,_,rfl,iO _ _ _,_,_,rfl,iO _ _ _,_,_,rfl,iO _ _ _,_,_,rfl,iO _ _ _,_,_,rfl,iO _ _ _,_,_,rfl,he,_,_,rfl,ho,_,_,rfl,hn,_,_,rfl,hl,_,_,rfl,hs,rfl⟩
theorem rO {F:Nat->Prop}{sz:Nat}{ds:List (List D)}{h:eX}{a:AV}(ho:eY (.sl sz ds) F h a):∃ys,iU h sz a=some ys/\fG ds F h ys:=by
 simp only[eY]at ho;rcases ho with⟨rfl,rfl⟩ | ⟨t,c,rfl,rfl⟩ | ⟨n,off,cap,row,g,rfl,hn,e,u,hcl,hd⟩
 ·exact⟨[],rfl,rfl⟩
 ·exact⟨[],by simp[iU],rfl⟩
 ·refine⟨(row.drop off).take ds.length,by simp only[iU,e];rw[U4 ⟨Vd,Vd,u⟩],fG.aA _ (λm hm=>hm.1) (λ_ _ _ x=>x) _ hd⟩
theorem PV {F:Nat->Prop}{sz u:Nat}{ds:List (List D)}{h:eX}{n off len:Nat}{cap:Option Nat}(ho:eY (.sl sz ds) F h (.aG n u off len cap)):F n:=by
 simp only[eY]at ho;rcases ho with⟨e,-⟩ | ⟨t,c,e,-⟩ | ⟨n',off',cap',row,g,e,hn,-⟩
 ·cases e
 ·cases e
 ·cases e;exact hn
def EA (P:Program)(f:FuncId):Prop:=fK P f=true/\∀(F G:Nat->Prop)(h:eX)(x:fF)(c:gi)(az cs:List AV),fI x.c F h az->fI c.c G h cs->(∀m,F m->¬G m)->jL x.aA->c.aA.es.length<=2^32->
 fC P f [.aF az,.aF cs] h λr h'=>∃rs,r=.aI [.aF rs,.aA .i64 (x.aI c).2]/\fI (x.aI c).1.c (λm=>F m\/G m\/h.length<=m) h' rs/\eW eZ h h'
theorem Ts {P : Program} {f la te cu : FuncId} (hf : Is P f (AN la te cu)) (a4 : oz P la) (a3 : nQ P te) (a6 : uk P cu) : EA P f := by
 refine ⟨hf.2, λF G h x c az cs hx hc hd a9 hce => fS hf ?_⟩;obtain ⟨e, o, n, l, s, rfl, he, ho, hn, hl, hs⟩ := CV hx;obtain ⟨e', o', n', l', s', rfl, a5, M, O, U, E⟩ := Ht hc;have c10 : (x.aH e o n l s).length = 10 := rfl;simp only [AN, fF.aH, gi.aF, go_sem, he.aA, ho.aA, hn.aA, hl.aA, hs.aA, a5.aA, M.aA, O.aA, U.aA, E.aA];have X3 := eW.b3 (h := h) (some (.aA 10 [x.aH e o n l s] false)) (some (.aA 17 [c.aF e' o' n' l' s'] false)) (some (.aA 10 [[.aA .i64 0, .aA .i64 0, .aA .i64 0, .aA .i64 0, .aA .i64 0, .aD, .aD, .aD, .aD, .aD]] false));have u : ∀ {H : eX} (d : D) (a : AV), eW eZ h H -> eY d F h a -> eY d (λm => F m \/ G m \/ h.length <= m) H a := λd a ex hh => eY.aC _ (λm hm => .inl hm) (ex.aE F) _ hh;have I : ∀ {H : eX} (d : D) (a : AV), eW eZ h H -> eY d G h a -> eY d (λm => F m \/ G m \/ h.length <= m) H a := λd a ex hh => eY.aC _ (λm hm => .inr (.inl hm)) (ex.aE G) _ hh;obtain ⟨b0, b1, W⟩ := a9;have hsl := W.1;have hlast : x.aA.aC = x.aA.aA + x.aA.es.length := rfl;by_cases k1 : c.aC = 1
 ·simp only [go_sem, U3 k1, he.aA, ho.aA, hn.aA, hl.aA, hs.aA];have eg : x.aI c = ({ x with aC := c.aK, aF := c.aL }, 0) := by simp [fF.aI, k1]
  rw [eg];exact ⟨_, rfl, rF (x := { x with aC := c.aK, aF := c.aL }) (u _ _ (eW.b3 _ _ _) he) (u _ _ (eW.b3 _ _ _) ho) (u _ _ (eW.b3 _ _ _) hn) (u _ _ (eW.b3 _ _ _) hl) (u _ _ (eW.b3 _ _ _) hs), eW.b3 _ _ _⟩
 by_cases k2 : c.aC = 2
 ·simp only [go_sem, U2 k1, U3 k2];have hR : fu (λ_ => True) _ x.aA.c [.aA .i64 x.aA.aA, .aA .i64 x.aA.aD, e] := ⟨_, _, rfl, by simp only [Rd], _, _, rfl, by simp only [Rd], _, _, rfl, eY.rd _ (F' := λ_ => True) (λ_ _ => Vd) _ (u _ _ X3 he), rfl⟩;refine fZ a4.1 (a4.2 _ _ x.aA _ hR ⟨b0, b1, W⟩) ?_;have e1 : IntKind.i64.wrap (x.aA.aC + 1) = x.aA.aC + 1 := gj (by omega);simp only [go_sem];by_cases c1 : c.aE <= x.aA.aA
  ·simp only [go_sem, U3 c1, he.aA, ho.aA, hn.aA, hl.aA, hs.aA];have eg : x.aI c = (x, 3) := by simp [fF.aI, k2, c1]
   rw [eg];exact ⟨_, rfl, rF (x := x) (u _ _ (eW.b3 _ _ _) he) (u _ _ (eW.b3 _ _ _) ho) (u _ _ (eW.b3 _ _ _) hn) (u _ _ (eW.b3 _ _ _) hl) (u _ _ (eW.b3 _ _ _) hs), eW.b3 _ _ _⟩
  by_cases c2 : x.aA.aC + 1 < c.aE
  ·simp only [go_sem, U2 c1, e1, U3 c2, he.aA, ho.aA, hn.aA, hl.aA, hs.aA];have eg : x.aI c = (x, 3) := by simp [fF.aI, k2, c2]
   rw [eg];exact ⟨_, rfl, rF (x := x) (u _ _ (eW.b3 _ _ _) he) (u _ _ (eW.b3 _ _ _) ho) (u _ _ (eW.b3 _ _ _) hn) (u _ _ (eW.b3 _ _ _) hl) (u _ _ (eW.b3 _ _ _) hs), eW.b3 _ _ _⟩
  have e2 : IntKind.i64.wrap (c.aE - x.aA.aA) = c.aE - x.aA.aA := gj (by omega);have e3 : IntKind.i64.wrap (c.aE - x.aA.aA - 1) = c.aE - x.aA.aA - 1 := gj (by omega);have hE : eY (.sl 3 (x.aA.es.map fU.c)) (λm => F m /\ m < h.length) _ e := eY.aC _ (λ_ x => x) (X3.aE _) _ (eY.lt _ _ he);have ab : eY (.sl 3 (c.aA.es.map fU.c)) (λm => G m /\ m < h.length) _ e' := eY.aC _ (λ_ x => x) (X3.aE _) _ (eY.lt _ _ a5);obtain ⟨av', s1, s2, s3⟩ := tN (k := c.aE - x.aA.aA - 1) hE (by omega) (by simp; omega);obtain ⟨ys, a1, a2⟩ := rO ab;obtain ⟨o4, H4, t1, t2, t3, t4⟩ := rN (bytes := 40) s2 s3 (xp s1) (eW.aC eZ _) a2 (λn off len cap ea hg => by subst ea; exact hd _ (PV s2).1 hg.1) (by simp only [Va, Vg]; omega);rw [<- iv a1] at t1;have C0 := t4.aA (pC h (some (.aA 10 [x.aH e o n l s] false)) (some (.aA 17 [c.aF e' o' n' l' s'] false)) (some (.aA 10 [[.aA .i64 0, .aA .i64 0, .aA .i64 0, .aA .i64 0, .aA .i64 0, .aD, .aD, .aD, .aD, .aD]] false)));have C1 := t4.aA (p_ h (some (.aA 10 [x.aH e o n l s] false)) (some (.aA 17 [c.aF e' o' n' l' s'] false)) (some (.aA 10 [[.aA .i64 0, .aA .i64 0, .aA .i64 0, .aA .i64 0, .aA .i64 0, .aD, .aD, .aD, .aD, .aD]] false)));have C2 := t4.aA (sS h (some (.aA 10 [x.aH e o n l s] false)) (some (.aA 17 [c.aF e' o' n' l' s'] false)) (some (.aA 10 [[.aA .i64 0, .aA .i64 0, .aA .i64 0, .aA .i64 0, .aA .i64 0, .aD, .aD, .aD, .aD, .aD]] false)));have l0 := (UY.1 C0).1;have l2 := (UY.1 C2).1;have XH : eW eZ h H4 := X3.tr t4;simp only [fF.aH] at C0 C2 t1;simp only [gi.aF] at C1 t1;have Z : (h.length = h.length + 1 + 1) = False := Vm (by omega);have a7 : (h.length + 1 + 1 = h.length) = False := Vm (by omega);simp only [go_sem, U2 c1, e1, U2 c2, e2, e3, mQ, s1, t1, C0, C1, C2, l0, l2, Z, U9, t2.aA, gz t2.aA, ho.aA, hn.aA, hl.aA, hs.aA];have eg : x.aI c = ({ x with aA := ⟨x.aA.aA, x.aA.aD, x.aA.es.take (c.aE - x.aA.aA - 1).toNat ++ c.aA.es⟩ }, 0) := by simp [fF.aI, k2, c1, c2]
  rw [eg];have XX : eW eZ h ((H4.set h.length (some (.aA 10 [[.aA .i64 x.aE, .aA .i64 x.aC, .aA .i64 x.aF, .aA .i64 x.aA.aA, .aA .i64 x.aA.aD, o4, o, n, l, s]] false))).set (h.length + 1 + 1) (some (.aA 10 [[.aA .i64 x.aE, .aA .i64 x.aC, .aA .i64 x.aF, .aA .i64 x.aA.aA, .aA .i64 x.aA.aD, o4, o, n, l, s]] false))) := (XH.aH (U8 _) _).aH (by omega) _;have l3 := X3.1;refine ⟨_, rfl, rF (x := { x with aA := ⟨x.aA.aA, x.aA.aD, x.aA.es.take (c.aE - x.aA.aA - 1).toNat ++ c.aA.es⟩ }) ?_ (u _ _ XX ho) (u _ _ XX hn) (u _ _ XX hl) (u _ _ XX hs), XX⟩;simp only [gK, VJ, Wv];refine eY.aC _ (λm hm => ?_) (λm hm y hy => ?_) _ t2
  ·simp only [U1, Vf, Ve] at hm;rcases hm with hm | hm | hm
   ·exact .inl hm.1
   ·exact .inr (.inl hm.1)
   ·exact .inr (.inr (by omega))
  ·simp only [U1, Vf, Ve] at hm;rw [UZ (by omega), UZ (by omega)]; exact hy
 by_cases k3 : c.aC = 3
 ·simp only [go_sem, U2 k1, U2 k2, U3 k3];have hR : fu (λ_ => True) _ x.aA.c [.aA .i64 x.aA.aA, .aA .i64 x.aA.aD, e] := ⟨_, _, rfl, by simp only [Rd], _, _, rfl, by simp only [Rd], _, _, rfl, eY.rd _ (F' := λ_ => True) (λ_ _ => Vd) _ (u _ _ X3 he), rfl⟩;refine fZ a3.1 (a3.2 _ _ x.aA _ c.aA.aA hR ⟨b0, b1, W⟩) ?_;have eg : x.aI c = ({ x with aA := x.aL c, aD := c.aG, aG := c.aJ }, 0) := by simp [fF.aI, k3]
  rw [eg];have C : ¬ (x.aA.aF c.aA.aA = true /\ x.aA.aH c.aA.aA = c.aA.aD) -> ∀ {H : eX}, eW eZ h H -> fI ({ x with aA := x.aL c, aD := c.aG, aG := c.aJ } : fF).c (λm => F m \/ G m \/ h.length <= m) H [.aA .i64 x.aE, .aA .i64 x.aC, .aA .i64 x.aF, .aA .i64 c.aA.aA, .aA .i64 c.aA.aD, .aD, o', n', l', s'] := by
   intro aa H XX;have es : x.aL c = ⟨c.aA.aA, c.aA.aD, []⟩ := by simp only [fF.aL]; rw [U6 aa]
   rw [es];exact rF (x := { x with aA := ⟨c.aA.aA, c.aA.aD, []⟩, aD := c.aG, aG := c.aJ }) (eY.aD _) (I _ _ XX M) (I _ _ XX O) (I _ _ XX U) (I _ _ XX E)
  cases hh : x.aA.aF c.aA.aA with
  | false =>simp only [go_sem, M.aA, O.aA, U.aA, E.aA, gz E.aA];exact ⟨_, rfl, C (by simp [hh]) (eW.b3 _ _ _), eW.b3 _ _ _⟩
  | true =>
   by_cases ht : x.aA.aH c.aA.aA = c.aA.aD
   ·simp only [go_sem, U3 ht];refine fy ⟨a6.1, a6.2 _ _ x.aA _ c.aA.aA hR ⟨b0, b1, W⟩⟩ ?_;rintro _ H4 ⟨cs, rfl, oc, t4⟩;obtain ⟨d, rfl, od⟩ := CX oc;have C0 := t4.aA (pC h (some (.aA 10 [x.aH e o n l s] false)) (some (.aA 17 [c.aF e' o' n' l' s'] false)) (some (.aA 10 [[.aA .i64 0, .aA .i64 0, .aA .i64 0, .aA .i64 0, .aA .i64 0, .aD, .aD, .aD, .aD, .aD]] false)));have C1 := t4.aA (p_ h (some (.aA 10 [x.aH e o n l s] false)) (some (.aA 17 [c.aF e' o' n' l' s'] false)) (some (.aA 10 [[.aA .i64 0, .aA .i64 0, .aA .i64 0, .aA .i64 0, .aA .i64 0, .aD, .aD, .aD, .aD, .aD]] false)));have C2 := t4.aA (sS h (some (.aA 10 [x.aH e o n l s] false)) (some (.aA 17 [c.aF e' o' n' l' s'] false)) (some (.aA 10 [[.aA .i64 0, .aA .i64 0, .aA .i64 0, .aA .i64 0, .aA .i64 0, .aD, .aD, .aD, .aD, .aD]] false)));have l0 := (UY.1 C0).1;have l2 := (UY.1 C2).1;have XH : eW eZ h H4 := X3.tr t4;simp only [fF.aH] at C0 C2;simp only [gi.aF] at C1;have a8 : (h.length = h.length + 1) = False := Vm (by omega);have n10 : (h.length + 1 = h.length) = False := Vm (by omega);have Z : (h.length = h.length + 1 + 1) = False := Vm (by omega);have a7 : (h.length + 1 + 1 = h.length) = False := Vm (by omega);simp only [go_sem, C0, C1, C2, l0, l2, a8, Z, U9, od.aA, M.aA, O.aA, U.aA, E.aA, gz E.aA];have es : x.aL c = x.aA.aK c.aA.aA := by simp only [fF.aL]; rw [U4 ⟨hh, ht⟩]
    rw [es];have XX := (((XH.aH (n := h.length) (U8 _) (some (.aA 10 [[.aA .i64 x.aE, .aA .i64 x.aC, .aA .i64 x.aF, .aA .i64 (x.aA.aK c.aA.aA).aA, .aA .i64 (x.aA.aK c.aA.aA).aD, d, o, n, l, s]] false))).aH (n := h.length) (U8 _) (some (.aA 10 [[.aA .i64 x.aE, .aA .i64 x.aC, .aA .i64 x.aF, .aA .i64 (x.aA.aK c.aA.aA).aA, .aA .i64 (x.aA.aK c.aA.aA).aD, d, o', n', l', s]] false))).aH (n := h.length) (U8 _) (some (.aA 10 [[.aA .i64 x.aE, .aA .i64 x.aC, .aA .i64 x.aF, .aA .i64 (x.aA.aK c.aA.aA).aA, .aA .i64 (x.aA.aK c.aA.aA).aD, d, o', n', l', s']] false))).aH (n := h.length + 1 + 1) (by omega) (some (.aA 10 [[.aA .i64 x.aE, .aA .i64 x.aC, .aA .i64 x.aF, .aA .i64 (x.aA.aK c.aA.aA).aA, .aA .i64 (x.aA.aK c.aA.aA).aD, d, o', n', l', s']] false));refine ⟨_, rfl, rF (x := { x with aA := x.aA.aK c.aA.aA, aD := c.aG, aG := c.aJ }) ?_ (I _ _ XX M) (I _ _ XX O) (I _ _ XX U) (I _ _ XX E), XX⟩;refine eY.aC _ (λm hm => ?_) (λm hm y hy => ?_) _ od;·simp only [U1, Vf, Ve] at hm;exact .inr (.inr (by omega))
    ·simp only [U1, Vf, Ve] at hm;rw [UZ (by omega), UZ (by omega), UZ (by omega), UZ (by omega)]; exact hy
   ·simp only [go_sem, U2 ht, M.aA, O.aA, U.aA, E.aA, gz E.aA];exact ⟨_, rfl, C (λhc => ht hc.2) (eW.b3 _ _ _), eW.b3 _ _ _⟩
 ·simp only [go_sem, U2 k1, U2 k2, U2 k3, he.aA, ho.aA, hn.aA, hl.aA, hs.aA];have eg : x.aI c = (x, 0) := by simp [fF.aI, k1, k2, k3]
  rw [eg];exact ⟨_, rfl, rF (x := x) (u _ _ (eW.b3 _ _ _) he) (u _ _ (eW.b3 _ _ _) ho) (u _ _ (eW.b3 _ _ _) hn) (u _ _ (eW.b3 _ _ _) hl) (u _ _ (eW.b3 _ _ _) hs), eW.b3 _ _ _⟩
def pY:List hP->hP->List hP
 | [],v=>[v]
 | a :: r,v=>if a.aG v=true then a :: pY r v else if a.aA=v.aA/\a.aC=v.aC then v :: r else v :: a :: r
theorem zp:∀(l:List hP)(v:hP)(i:Nat),i<=l.length->(∀(j:Nat)(hj:j<l.length),j<i->l[j].aG v=true)->(∀hi:i<l.length,l[i].aG v=false)->
  pY l v=l.take i++(match l[i]? with
   | some a=>if a.aA=v.aA/\a.aC=v.aC then v :: l.drop (i+1) else v :: l.drop i
   | none=>[v])
 | [],v,i,hi,h1,h2=>by simp[pY]
 | a :: r,v,0,hi,h1,h2=>by have:=h2 (by simp);simp only[Wy]at this;simp[pY,this]
 | a :: r,v,i+1,hi,h1,h2=>by have ha:a.aG v=true:=h1 0 (by simp) (by omega);simp only[pY];rw[U4 ha,zp r v i (by simpa using hi) (λj hj hji=>h1 (j+1) (by simpa using hj) (by omega)) (λe=>h2 (by simpa using e))];simp
def DD (P:Program)(f:FuncId):Prop:=fK P f=true/\∀(F:Nat->Prop)(h:eX)(l:List hP)(a:AV)(v:hP)(vs:List AV),eY (lJ l) F h a->vs=[.aA .i64 v.aA,.aA .i64 v.aC,.aA .i64 v.aE,.aA .i64 v.aD,.aA .i64 v.aF]->l.length<=2^32->
 fC P f [a,.aF vs] h λr h'=>eY (lJ (pY l v)) (λm=>F m\/h.length<=m) h' r/\eW F h h'
theorem JN {P : Program} {f g : FuncId} (hf : Is P f (At g)) (hg : ym P g) : DD P f := by
 refine ⟨hf.2, λF h l a v vs ho hv hl => fS hf ?_⟩;subst hv;have hR : Rd (λ_ => True) h (lJ l) a := eY.rd _ (λ_ _ => Vd) _ ho;have la : ik a = some (.aA .i64 l.length) := by simpa using hR.aC
 simp only [At, go_sem];have X0 := eW.b1 (h := h) (some (.aA 5 [[.aA .i64 v.aA, .aA .i64 v.aC, .aA .i64 v.aE, .aA .i64 v.aD, .aA .i64 v.aF]] false));have A0 := gJ h (some (.aA 5 [[.aA .i64 v.aA, .aA .i64 v.aC, .aA .i64 v.aE, .aA .i64 v.aD, .aA .i64 v.aF]] false));have a9 := hR.up X0;have C : eY (lJ l) (λm => F m /\ m < h.length) _ a := eY.aC _ (λ_ x => x) (X0.aE _) _ (eY.lt _ _ ho);have lH : h.length + 1 = (h ++ [some (e_.aA 5 [[.aA .i64 v.aA, .aA .i64 v.aC, .aA .i64 v.aE, .aA .i64 v.aD, .aA .i64 v.aF]] false)]).length := by simp
 generalize h ++ [some (e_.aA 5 [[.aA .i64 v.aA, .aA .i64 v.aC, .aA .i64 v.aE, .aA .i64 v.aD, .aA .i64 v.aF]] false)] = H at *;refine iM (λm L h' => ∃ i : Nat, lk 0 L = a /\ lk 3 L = .aC h.length 5 0 0 /\ lk 5 L = .aA .i64 i /\ h' = H /\ i <= l.length /\ m = l.length - i /\ ∀ (j : Nat) (hj : j < l.length), j < i -> l[j].aG v = true) l.length ?_ ?_;·exact ⟨0, by simp [fm, g_], by simp [fm], by simp [fm], rfl, by omega, by omega, by omega⟩
 ·rintro m L h2 ⟨i, k0, k3, k5, rfl, hi, rfl, hj⟩;have out : (∀ hi : i < l.length, l[i].aG v = false) -> True := λ_ => Vd;by_cases ci : (i : Int) < l.length
  ·have M : i < l.length := by omega
   obtain ⟨p, cs, E, I, a7⟩ := a9.aD .i64 (i := i) (d := l[i].c) (by omega) (by simp [M]);have r1 := HR a7;have t1 := jr I true 5;rw [Dq, U4 (by rw [r1]; simp), Vs (by rw [r1]; simp)] at t1;simp only [Au, go_sem, k0, k3, k5, la, U3 ci, E, t1, A0];refine fZ hg.1 (hg.2 h2 l[i] v cs _ r1 rfl) ?_;have e1 : IntKind.i64.wrap (↑i + 1) = (i : Int) + 1 := gj (by omega);cases cg : (l[i]).aG v with
   | true =>
    simp only [go_sem, t1, A0, k0, k3, k5, e1];refine ⟨_, by omega, i + 1, by simp, by omega, rfl, λj a3 hji => ?_⟩;by_cases e : j = i;·subst e; exact cg
    ·exact hj j a3 (by omega)
   | false =>
    have u := zp l v i hi hj (λ_ => cg);rw [U0 M] at u;simp only at u;subst r1;simp only [go_sem, t1, A0, k0, k3, k5, la, U3 ci, E, mN I, nh I];by_cases c1 : l[i].aA = v.aA
    ·simp only [go_sem, U3 c1, A0, k0, k3, k5, E, mN I, nh I];by_cases c2 : l[i].aC = v.aC
     ·rw [U4 ⟨c1, c2⟩] at u;simp only [go_sem, U3 c2, A0, k0, k3, k5, E];obtain ⟨n, off, row, gg, cs', len, cap, rfl, hn, a4, U, Z, a5, W⟩ := CW (j := i) (d0 := l[i].c) C (by simp [M]);rw [a4] at E;cases E;have a8 : cs'.length = 5 := by rw [wq a5]; rfl
      have st := wR (x := .aF [.aA .i64 v.aA, .aA .i64 v.aC, .aA .i64 v.aE, .aA .i64 v.aD, .aA .i64 v.aF]) U Z rfl (by rw [a8]; rfl) rfl rfl;simp only [go_sem, k0, st];rw [u];have es : l.take i ++ v :: l.drop (i + 1) = l.set i v := by rw [List.set_eq_take_append_cons_drop, U4 M]
      rw [es];have := W _ h2 v.c _ (λ_ x => x) (λ_ _ _ x => x) rfl ⟨_, _, rfl, iO _ _ v.aA, _, _, rfl, iO _ _ v.aC, _, _, rfl, iO _ _ v.aE, _, _, rfl, iO _ _ v.aD, _, _, rfl, iO _ _ v.aF, rfl⟩;rw [<- Xi] at this;exact ⟨eY.aC _ (λm hm => .inl hm.1) (λ_ _ _ x => x) _ this, X0.aD (eW.aI _ (λ_ => hn.1)) (λ_ _ x => x.elim) (λ_ _ x => x)⟩
     ·rw [U6 (λhc => c2 hc.2)] at u;simp only [go_sem, U2 c2, k0, k5];obtain ⟨O, s1, s2, s3⟩ := tN (k := (i : Int)) C (by omega) (by simp; omega);obtain ⟨bv, u1, u2⟩ := xN (k := (i : Int)) C (by omega) (by simp; omega);rw [V4] at s2 u2;have E5 := eW.b1 (h := h2) (some (.aA 5 [[.aA .i64 v.aA, .aA .i64 v.aC, .aA .i64 v.aE, .aA .i64 v.aD, .aA .i64 v.aF]] false));have u5 := eY.aC (F' := λm => F m /\ m < h.length) _ (λ_ x => x) (E5.aE _) _ u2;obtain ⟨ys, a1, a2⟩ := rO u5;rw [<- W4] at a2;have v1 : fI v.c (λm => m = h2.length /\ m ≠ h2.length) (h2 ++ [some (.aA 5 [[.aA .i64 v.aA, .aA .i64 v.aC, .aA .i64 v.aE, .aA .i64 v.aD, .aA .i64 v.aF]] false)]) [.aA .i64 v.aA, .aA .i64 v.aC, .aA .i64 v.aE, .aA .i64 v.aD, .aA .i64 v.aF] := ⟨_, _, rfl, iO _ _ _, _, _, rfl, iO _ _ _, _, _, rfl, iO _ _ _, _, _, rfl, iO _ _ _, _, _, rfl, iO _ _ _, rfl⟩;have o1 : eY (.sl 5 [v.c]) (λm => m = h2.length) (h2 ++ [some (.aA 5 [[.aA .i64 v.aA, .aA .i64 v.aC, .aA .i64 v.aE, .aA .i64 v.aD, .aA .i64 v.aF]] false)]) (.aG h2.length 5 0 1 (some 1)) := by simp only [eY];exact .inr (.inr ⟨h2.length, 0, some 1, _, false, rfl, rfl, gJ _ _, by simp, (λc hc => by cases hc; simp), ⟨_, _, rfl, v1, rfl⟩⟩)
      obtain ⟨w, H6, w1, w2, -, w4⟩ := rN (bytes := 40) (G := eZ) o1 ⟨_, _, gJ _ _, (λe => by cases e), (λc hc => by cases hc; simp)⟩ (λn off len cap e => by cases e; rfl) (eW.aC eZ _) (qt a2) (λ_ _ _ _ _ x => x) (by simp; omega);rw [<- iv a1] at w1;have E6 : eW eZ h2 H6 := E5.tr w4;obtain ⟨zs, z1, z2⟩ := rO w2;have s6 := eY.aC (F' := λm => F m /\ m < h.length) _ (λ_ x => x) (E6.aE _) _ s2;have c6 : gV H6 O := s3.aA s2 (E6.aE _);have z3 : fG ((v :: l.drop i).map hP.c) eZ H6 zs := qt (l := v :: l.drop i) z2;obtain ⟨w', H7, x1, x2, -, x4⟩ := rN (bytes := 40) (G := eZ) s6 c6 (xp s1) (eW.aC eZ _) z3 (λ_ _ _ _ _ x => x) (by simp; omega);rw [<- iv z1] at x1;have A1 := λz => (mW (h := h2) (s := h.length) (by omega) z).trans A0;simp only [go_sem, k0, k3, k5, mQ, s1, u1, A1, w1, x1];refine ⟨ig (by omega), ?_, X0.aD (E6.tr x4) (λ_ _ x => x.elim) (λ_ _ x => x.elim)⟩;rw [u];simp only [lJ, VJ, Wv];refine eY.aC _ (λm hm => ?_) (λ_ _ _ x => x) _ x2;rcases hm with hm | hm | hm;·exact .inl hm.1
      ·exact hm.elim
      ·have := E6.1; exact .inr (by omega)
    ·rw [U6 (λhc => c1 hc.1)] at u;simp only [go_sem, U2 c1, k0, k5];obtain ⟨O, s1, s2, s3⟩ := tN (k := (i : Int)) C (by omega) (by simp; omega);obtain ⟨bv, u1, u2⟩ := xN (k := (i : Int)) C (by omega) (by simp; omega);rw [V4] at s2 u2;have E5 := eW.b1 (h := h2) (some (.aA 5 [[.aA .i64 v.aA, .aA .i64 v.aC, .aA .i64 v.aE, .aA .i64 v.aD, .aA .i64 v.aF]] false));have u5 := eY.aC (F' := λm => F m /\ m < h.length) _ (λ_ x => x) (E5.aE _) _ u2;obtain ⟨ys, a1, a2⟩ := rO u5;rw [<- W4] at a2;have v1 : fI v.c (λm => m = h2.length /\ m ≠ h2.length) (h2 ++ [some (.aA 5 [[.aA .i64 v.aA, .aA .i64 v.aC, .aA .i64 v.aE, .aA .i64 v.aD, .aA .i64 v.aF]] false)]) [.aA .i64 v.aA, .aA .i64 v.aC, .aA .i64 v.aE, .aA .i64 v.aD, .aA .i64 v.aF] := ⟨_, _, rfl, iO _ _ _, _, _, rfl, iO _ _ _, _, _, rfl, iO _ _ _, _, _, rfl, iO _ _ _, _, _, rfl, iO _ _ _, rfl⟩;have o1 : eY (.sl 5 [v.c]) (λm => m = h2.length) (h2 ++ [some (.aA 5 [[.aA .i64 v.aA, .aA .i64 v.aC, .aA .i64 v.aE, .aA .i64 v.aD, .aA .i64 v.aF]] false)]) (.aG h2.length 5 0 1 (some 1)) := by simp only [eY];exact .inr (.inr ⟨h2.length, 0, some 1, _, false, rfl, rfl, gJ _ _, by simp, (λc hc => by cases hc; simp), ⟨_, _, rfl, v1, rfl⟩⟩)
     obtain ⟨w, H6, w1, w2, -, w4⟩ := rN (bytes := 40) (G := eZ) o1 ⟨_, _, gJ _ _, (λe => by cases e), (λc hc => by cases hc; simp)⟩ (λn off len cap e => by cases e; rfl) (eW.aC eZ _) (qt a2) (λ_ _ _ _ _ x => x) (by simp; omega);rw [<- iv a1] at w1;have E6 : eW eZ h2 H6 := E5.tr w4;obtain ⟨zs, z1, z2⟩ := rO w2;have s6 := eY.aC (F' := λm => F m /\ m < h.length) _ (λ_ x => x) (E6.aE _) _ s2;have c6 : gV H6 O := s3.aA s2 (E6.aE _);have z3 : fG ((v :: l.drop i).map hP.c) eZ H6 zs := qt (l := v :: l.drop i) z2;obtain ⟨w', H7, x1, x2, -, x4⟩ := rN (bytes := 40) (G := eZ) s6 c6 (xp s1) (eW.aC eZ _) z3 (λ_ _ _ _ _ x => x) (by simp; omega);rw [<- iv z1] at x1;have A1 := λz => (mW (h := h2) (s := h.length) (by omega) z).trans A0;simp only [go_sem, k0, k3, k5, mQ, s1, u1, A1, w1, x1];refine ⟨ig (by omega), ?_, X0.aD (E6.tr x4) (λ_ _ x => x.elim) (λ_ _ x => x.elim)⟩;rw [u];simp only [lJ, VJ, Wv];refine eY.aC _ (λm hm => ?_) (λ_ _ _ x => x) _ x2;rcases hm with hm | hm | hm;·exact .inl hm.1
     ·exact hm.elim
     ·have := E6.1; exact .inr (by omega)
  ·have M : i = l.length := by omega
   have u := zp l v i hi hj (λa6 => absurd a6 (by omega));rw [VH (by omega)] at u;simp only at u;have ed : l.drop i = [] := WT (by omega);rw [<- ed] at u;simp only [Au, go_sem, k0, k5, la, U2 ci];obtain ⟨O, s1, s2, s3⟩ := tN (k := (i : Int)) C (by omega) (by simp; omega);obtain ⟨bv, u1, u2⟩ := xN (k := (i : Int)) C (by omega) (by simp; omega);rw [V4] at s2 u2;have E5 := eW.b1 (h := h2) (some (.aA 5 [[.aA .i64 v.aA, .aA .i64 v.aC, .aA .i64 v.aE, .aA .i64 v.aD, .aA .i64 v.aF]] false));have u5 := eY.aC (F' := λm => F m /\ m < h.length) _ (λ_ x => x) (E5.aE _) _ u2;obtain ⟨ys, a1, a2⟩ := rO u5;rw [<- W4] at a2;have v1 : fI v.c (λm => m = h2.length /\ m ≠ h2.length) (h2 ++ [some (.aA 5 [[.aA .i64 v.aA, .aA .i64 v.aC, .aA .i64 v.aE, .aA .i64 v.aD, .aA .i64 v.aF]] false)]) [.aA .i64 v.aA, .aA .i64 v.aC, .aA .i64 v.aE, .aA .i64 v.aD, .aA .i64 v.aF] := ⟨_, _, rfl, iO _ _ _, _, _, rfl, iO _ _ _, _, _, rfl, iO _ _ _, _, _, rfl, iO _ _ _, _, _, rfl, iO _ _ _, rfl⟩;have o1 : eY (.sl 5 [v.c]) (λm => m = h2.length) (h2 ++ [some (.aA 5 [[.aA .i64 v.aA, .aA .i64 v.aC, .aA .i64 v.aE, .aA .i64 v.aD, .aA .i64 v.aF]] false)]) (.aG h2.length 5 0 1 (some 1)) := by simp only [eY];exact .inr (.inr ⟨h2.length, 0, some 1, _, false, rfl, rfl, gJ _ _, by simp, (λc hc => by cases hc; simp), ⟨_, _, rfl, v1, rfl⟩⟩)
   obtain ⟨w, H6, w1, w2, -, w4⟩ := rN (bytes := 40) (G := eZ) o1 ⟨_, _, gJ _ _, (λe => by cases e), (λc hc => by cases hc; simp)⟩ (λn off len cap e => by cases e; rfl) (eW.aC eZ _) (qt a2) (λ_ _ _ _ _ x => x) (by simp; omega);rw [<- iv a1] at w1;have E6 : eW eZ h2 H6 := E5.tr w4;obtain ⟨zs, z1, z2⟩ := rO w2;have s6 := eY.aC (F' := λm => F m /\ m < h.length) _ (λ_ x => x) (E6.aE _) _ s2;have c6 : gV H6 O := s3.aA s2 (E6.aE _);have z3 : fG ((v :: l.drop i).map hP.c) eZ H6 zs := qt (l := v :: l.drop i) z2;obtain ⟨w', H7, x1, x2, -, x4⟩ := rN (bytes := 40) (G := eZ) s6 c6 (xp s1) (eW.aC eZ _) z3 (λ_ _ _ _ _ x => x) (by simp; omega);rw [<- iv z1] at x1;have A1 := λz => (mW (h := h2) (s := h.length) (by omega) z).trans A0;simp only [go_sem, k0, k3, k5, mQ, s1, u1, A1, w1, x1];refine ⟨ig (by omega), ?_, X0.aD (E6.tr x4) (λ_ _ x => x.elim) (λ_ _ x => x.elim)⟩;rw [u];simp only [lJ, VJ, Wv];refine eY.aC _ (λm hm => ?_) (λ_ _ _ x => x) _ x2;rcases hm with hm | hm | hm;·exact .inl hm.1
   ·exact hm.elim
   ·have := E6.1; exact .inr (by omega)
def qC:List fF->gi->Option (List fF×Int)
 | [],_=>none
 | a :: r,c=>if a.aE=c.aH then some ((a.aI c).1 :: r,(a.aI c).2) else (qC r c).map λp=>(a :: p.1,p.2)
theorem IB:∀(l:List fF)(c:gi)(i:Nat)(hi:i<l.length),(∀(j:Nat)(hj:j<l.length),j<i->l[j].aE≠c.aH)->l[i].aE=c.aH->qC l c=some (l.set i (l[i].aI c).1,(l[i].aI c).2)
 | [],c,i,hi,_,_=>by simp at hi
 | a :: r,c,0,hi,h1,h2=>by simp only[Wy]at h2;simp[qC,h2]
 | a :: r,c,i+1,hi,h1,h2=>by have:=h1 0 (by simp) (by omega);simp only[Wy]at this;simp only[qC];rw[U6 this,IB r c i (by simpa using hi) (λj hj hji=>h1 (j+1) (by simpa using hj) (by omega)) (by simpa using h2)];simp
theorem IC:∀(l:List fF)(c:gi),(∀(j:Nat)(hj:j<l.length),l[j].aE≠c.aH)->qC l c=none
 | [],c,_=>rfl
 | a :: r,c,h=>by have:=h 0 (by simp);simp only[Wy]at this;simp only[qC];rw[U6 this,IC r c (λj hj=>h (j+1) (by simpa using hj))];rfl
def jf.aC (x:jf)(c:gi):jf×Int:=
 if c.aC<1\/4<c.aC then (⟨[],[]⟩,13)
 else if c.aC=4 then (⟨x.aA,pY x.aD c.aD⟩,0)
 else match qC x.aA c with
  | none=>(⟨[],[]⟩,6)
  | some (l,e)=>if e≠0 then (⟨[],[]⟩,e) else (⟨l,x.aD⟩,0)
def rX (P:Program)(f:FuncId):Prop:=fK P f=true/\∀(G:Nat->Prop)(h:eX)(x:jf)(c:gi)(az cs:List AV),fu G h x.c az->fu G h c.c cs->kP.ok x->kE.ok c->(kP.aC x).length<=2^33->(kE.aC c).length<=2^33->
 (∀y∈x.aA,jL y.aA)->c.aA.es.length<=2^32->x.aA.length<=2^32->x.aD.length<=2^32->
 fC P f [.aF az,.aF cs] h λr h'=>∃bs,r=.aI [.aF bs,.aA .i64 (x.aC c).2]/\fI (x.aC c).1.c (λm=>h.length<=m) h' bs/\eW eZ h h'
theorem QT {x:gi}{F:Nat->Prop}{h:eX}{a:List AV}(hh:fu F h x.c a):∃e o n l s,a=x.aF e o n l s/\Rd F h (gK x.aA.es) e/\Rd F h (fN x.aG.aA) o/\Rd F h (fN x.aG.aC) n/\Rd F h (fN x.aG.aD) l/\Rd F h (gq x.aJ) s:=by obtain⟨e,o,n,l,s,rfl,h'⟩:=Da hh;exact⟨e,o,n,l,s,rfl,h'⟩
theorem IZ {P:Program}{f fr fc ac tu:FuncId}(hf:Is P f (Ap fr fc ac tu))(ae:D7 P fr)(af:D6 P fc)(ah:DD P ac)(aa:EA P tu):rX P f:=by
 refine⟨hf.2,λG h x c az cs hx hc aj b7 xl cl a5 b5 hxh ar=>fS hf ?_⟩;obtain⟨xd,xv,rfl,b0,aw⟩:=Db hx;obtain⟨e,o,n,l,s,rfl,re,ro,rn,rl,rs⟩:=QT hc;simp only[Ap,gi.aF,go_sem,b0.aA,aw.aA,re.aA,ro.aA,rn.aA,rl.aA,rs.aA];have none':∀(e:Int)(H:eX)(k:Nat)(y:Option e_),x.aC c=(⟨[],[]⟩,e)->eW eZ h H->h.length<=k->∃bs,AV.aI [.aF [.aD,.aD],.aA .i64 e]=.aI [.aF bs,.aA .i64 (x.aC c).2]/\fI (x.aC c).1.c (λm=>h.length<=m) (H.set k y) bs/\eW eZ h (H.set k y):=by intro e H k y eg ex hk;rw[eg];exact⟨_,rfl,⟨_,_,rfl,eY.aD _,_,_,rfl,eY.aD _,rfl⟩,ex.aH hk _⟩
 by_cases c1:c.aC<1
 ·simp only[go_sem,U3 c1];have eg:x.aC c=(⟨[],[]⟩,13):=by simp only[jf.aC];rw[U4 (.inl c1)]
  rw[eg];exact⟨_,rfl,⟨_,_,rfl,eY.aD _,_,_,rfl,eY.aD _,rfl⟩,eW.b3 _ _ _⟩
 by_cases c4:4<c.aC
 ·simp only[go_sem,U2 c1,U3 c4];have eg:x.aC c=(⟨[],[]⟩,13):=by simp only[jf.aC];rw[U4 (.inr c4)]
  rw[eg];exact⟨_,rfl,⟨_,_,rfl,eY.aD _,_,_,rfl,eY.aD _,rfl⟩,eW.b3 _ _ _⟩
 have ek:¬(c.aC<1\/4<c.aC):=by omega
 simp only[go_sem,U2 c1,U2 c4];have X0:=eW.b3 (h:=h) (some (.aA 2 [[xd,xv]] false)) (some (.aA 17 [c.aF e o n l s] false)) (some (.aA 2 [[.aD,.aD]] false));have A0:=pC h (some (.aA 2 [[xd,xv]] false)) (some (.aA 17 [c.aF e o n l s] false)) (some (.aA 2 [[.aD,.aD]] false));have A1:=p_ h (some (.aA 2 [[xd,xv]] false)) (some (.aA 17 [c.aF e o n l s] false)) (some (.aA 2 [[.aD,.aD]] false));have A2:=sS h (some (.aA 2 [[xd,xv]] false)) (some (.aA 17 [c.aF e o n l s] false)) (some (.aA 2 [[.aD,.aD]] false));have lH:h.length+3=(h++[some (e_.aA 2 [[xd,xv]] false)]++[some (e_.aA 17 [c.aF e o n l s] false)]++[some (e_.aA 2 [[.aD,.aD]] false)]).length:=by simp
 simp only[gi.aF]at X0 A0 A1 A2 lH;have au:=hx.up X0;have b6:=hc.up X0;generalize h++[some (e_.aA 2 [[xd,xv]] false)]++[some (e_.aA 17 [_] false)]++[some (e_.aA 2 [[.aD,.aD]] false)]=H0 at *;refine fy ⟨ae.1,ae.2 G H0 x _ au aj xl⟩ ?_;rintro _ H1 ⟨d,v,k,rfl,oD,oV,hk,X1⟩;have B0:=X1.aA A0;have B1:=X1.aA A1;have B2:=X1.aA A2;simp only[go_sem,B0,B1];refine fy ⟨af.1,af.2 G H1 c _ (b6.up X1) b7 cl⟩ ?_;rintro _ H2 ⟨bs,rfl,oC,X2⟩;obtain⟨e',o',n',l',s',rfl,oe,oo,am,ol,os⟩:=Ht oC;have B0:=X2.aA B0;have B1:=X2.aA B1;have B2:=X2.aA B2;have l1:=X1.1;have l2:=X2.1;have m0:h.length<H2.length:=by omega
 have m1:h.length+1<H2.length:=by omega
 have ap:(h.length=h.length+1)=False:=Vm (by omega);have an:(h.length+1=h.length)=False:=Vm (by omega);have ao:(h.length=h.length+1+1)=False:=Vm (by omega);have n12:(h.length+1=h.length+1+1)=False:=Vm (by omega);simp only[gi.aF,go_sem,B0,B1,m0,m1,ap,an,U9,oD.aA,oV.aA,oe.aA,oo.aA,am.aA,ol.aA,os.aA];have E3:eW eZ h ((H2.set h.length (some (.aA 2 [[d,v]] false))).set (h.length+1) (some (.aA 17 [c.aF e' o' n' l' s'] false))):=((((X0.tr X1).tr X2).aH (U8 _) _)).aH (by omega) _;have D0:((H2.set h.length (some (.aA 2 [[d,v]] false))).set (h.length+1) (some (.aA 17 [c.aF e' o' n' l' s'] false)))[h.length]?=_:=(UZ (by omega)).trans (U5 m0);have D1:((H2.set h.length (some (.aA 2 [[d,v]] false))).set (h.length+1) (some (.aA 17 [c.aF e' o' n' l' s'] false)))[h.length+1]?=_:=U5 (by rw[U9];exact m1);have D2:((H2.set h.length (some (.aA 2 [[d,v]] false))).set (h.length+1) (some (.aA 17 [c.aF e' o' n' l' s'] false)))[h.length+1+1]?=_:=((UZ (by omega)).trans (UZ (by omega))).trans B2;have K3:∀F:Nat->Prop,(∀m,F m->h.length+3<=m)->gY F H2 ((H2.set h.length (some (.aA 2 [[d,v]] false))).set (h.length+1) (some (.aA 17 [c.aF e' o' n' l' s'] false))):=λF hF m hm y hy=>by have:=hF m hm;rw[UZ (by omega),UZ (by omega)];exact hy
 have M:eY (rv x.aA) (λm=>h.length+3<=m/\m<k/\m<H1.length) _ d:=eY.aC _ (λm hm=>by omega) (K3 _ (λm hm=>by omega)) _ (eY.aC _ (λ_ x=>x) (X2.aE _) _ (eY.lt _ _ oD));have O:eY (lJ x.aD) (λm=>k<=m/\m<H1.length) _ v:=eY.aC _ (λm hm=>by omega) (K3 _ (λm hm=>by omega)) _ (eY.aC _ (λ_ x=>x) (X2.aE _) _ (eY.lt _ _ oV));have a8:fI c.c (λm=>H1.length<=m) _ (c.aF e' o' n' l' s'):=fI.aA _ (λm hm=>hm) (K3 _ (λm hm=>by omega)) _ oC;have l3:((H2.set h.length (some (.aA 2 [[d,v]] false))).set (h.length+1) (some (.aA 17 [c.aF e' o' n' l' s'] false))).length=H2.length:=by rw[U9,U9]
 simp only[gi.aF]at E3 D0 D1 D2 K3 M O a8 l3;generalize (H2.set h.length (some (e_.aA 2 [[d,v]] false))).set (h.length+1) (some (.aA 17 [_] false))=H3 at *;have w0:h.length<H3.length:=by omega
 have w2:h.length+1+1<H3.length:=by omega
 have n20:(h.length+1+1=h.length)=False:=Vm (by omega);by_cases k4:c.aC=4
 ·simp only[go_sem,U3 k4,D0,D1];refine fy ⟨ah.1,ah.2 _ H3 x.aD v c.aD _ O rfl ar⟩ ?_;rintro r H4 ⟨oR,X4⟩;have l4:=X4.1;have F0:=(X4.2 _ w0 (by omega)).trans D0;have F2:=(X4.2 _ w2 (by omega)).trans D2;have al:h.length<H4.length:=by omega
  have ak:h.length+1+1<H4.length:=by omega
  simp only[go_sem,F0,F2,al,ak,ao,U9,M.aA,oR.aA,gz oR.aA];have eg:x.aC c=(⟨x.aA,pY x.aD c.aD⟩,0):=by simp only[jf.aC];rw[U6 ek,U4 k4]
  rw[eg];refine⟨_,rfl,⟨_,_,rfl,?_,_,_,rfl,?_,rfl⟩,((E3.aD X4 (λ_ _ x=>x) (λm hm ay=>by omega)).aH (U8 _) _).aH (by omega) _⟩;·refine eY.aC _ (λm hm=>by omega) (λm hm y hy=>?_) _ M;have ax:=(UY.1 hy).1;rw[UZ (by omega),UZ (by omega),X4.2 m ax (by omega)];exact hy
  ·refine eY.aC _ (λm hm=>by omega) (λm hm y hy=>?_) _ oR;rw[UZ (by omega),UZ (by omega)];exact hy
 have ld:ik d=some (.aA .i64 x.aA.length):=by simpa using (eY.rd _ (F':=λ_=>True) (λ_ _=>Vd) _ M).aC
 simp only[go_sem,U2 k4,D0,ld];refine iM (λm L h'=>∃i:Nat,lk 2 L=.aC h.length 2 0 0/\lk 3 L=.aC (h.length+1) 17 0 0/\lk 4 L=.aC (h.length+1+1) 2 0 0/\lk 34 L=.aA .i64 x.aA.length/\lk 35 L=.aA .i64 i/\h'=H3/\i<=x.aA.length/\m=x.aA.length-i/\∀(j:Nat)(hj:j<x.aA.length),j<i->x.aA[j].aE≠c.aH) x.aA.length ?_ ?_;·exact⟨0,by simp[fm],by simp[fm],by simp[fm],by simp[fm],by simp[fm],rfl,by omega,by omega,by omega⟩
 ·rintro m L h2 ⟨i,k2,k3,U,a9,a1,rfl,hi,rfl,hj⟩;simp only[Fh,go_sem,a9,a1];refine ij (λci=>?_) (λci=>?_)
  ·simp at ci;obtain⟨n,off,row,gg,hs,len,cap,rfl,hn,a6,u,I,ad,a3⟩:=CW (j:=i) (d0:=x.aA[i].c) M (by simp[ci]);obtain⟨he,ho,a4,hl,a2,rfl,qe,qo,qn,ql,qs⟩:=CV ad;have hpc:jB h2 (.aC n 10 (off+i) 0)=some (x.aA[i].aH he ho a4 hl a2):=by simp[jB,u,I]
   have e1:IntKind.i64.wrap (↑i+1)=(i:Int)+1:=gj (by omega);have C:=I;simp only[fF.aH]at C;by_cases cg:x.aA[i].aE=c.aH
   ·have ag:(x.aA[i].aE=c.aH)=True:=eq_true cg;have eg:x.aC c=(if (x.aA[i].aI c).2≠0 then (⟨[],[]⟩,(x.aA[i].aI c).2) else (⟨x.aA.set i (x.aA[i].aI c).1,x.aD⟩,0)):=by simp only[jf.aC];rw[U6 ek,U6 k4,IB _ _ i ci hj cg]
    rw[eg];have Z0:=λz=>(mW (h:=h2) (s:=h.length) w0 z).trans D0;have Z1:=λz=>(mW (h:=h2) (s:=h.length+1) (by omega) z).trans D1;have Z2:=λz=>(mW (h:=h2) (s:=h.length+1+1) (by omega) z).trans D2;have ab:=(UY.1 u).1;have Zn:=λz=>(mW (h:=h2) (s:=n) ab z).trans u;have NR:∀m sz i o,m<h2.length->gN h2.length 1 (.aC m sz i o)=true:=λm sz i o hm=>ig hm;simp only[go_sem,k2,k3,a1,D0,D1,a6,u,C,ag,Z0,Z1,Zn];refine⟨NR _ _ _ _ (by omega),NR _ _ _ _ ab,NR _ _ _ _ (by omega),?_⟩;have E1:=eW.b1 (h:=h2) none;have tH:fI x.aA[i].c (λm=>(h.length+3<=m/\m<k/\m<H1.length)/\m≠n) (h2++[none]) (x.aA[i].aH he ho a4 hl a2):=fI.aA _ (λ_ x=>x) (E1.aE _) _ ad;have tC:fI c.c (λm=>H1.length<=m/\m<h2.length) (h2++[none]) (c.aF e' o' n' l' s'):=fI.aA _ (λ_ x=>x) (E1.aE _) _ (fI.lt _ _ a8);refine fy ⟨aa.1,aa.2 _ _ (h2++[none]) x.aA[i] c _ _ tH tC (λm hm ay=>by omega) (a5 _ (Vx _)) b5⟩ ?_;rintro _ H4 ⟨rs,rfl,oR,X4⟩;obtain⟨te,to,tn,tl,ts,rfl,ve,vo,vn,vl,vs⟩:=CV oR;have y4:=X4.1;have yl:(h2++[none]).length=h2.length+1:=by simp
    have Y0:=X4.aA (Z0 none);have Y1:=X4.aA (Z1 none);have Y2:=X4.aA (Z2 none);have Yn:=X4.aA (Zn none);have Yl:=X4.aA (gJ h2 none);have m2:h2.length<H4.length:=by omega
    have q0:(h2.length=h.length)=False:=Vm (by omega);have q1:(h2.length=h.length+1)=False:=Vm (by omega);have q2:(h2.length=h.length+1+1)=False:=Vm (by omega);have qn:(h2.length=n)=False:=Vm (by omega);have XH:eW eZ h H4:=(E3.tr E1).tr X4;by_cases ce:(x.aA[i].aI c).2=0
    ·have a7:¬(x.aA[i].aI c).2≠0:=by simpa using ce
     rw[U6 a7];have p0:(n=h.length)=False:=Vm (by omega);have p2:(n=h.length+1+1)=False:=Vm (by omega);have m0':h.length<H4.length:=by omega
     have Z:h.length+1+1<H4.length:=by omega
     have ai:(H4.set h2.length (some (.aA 10 [(x.aA[i].aI c).1.aH te to tn tl ts] false)))[n]?=_:=(UZ (by omega)).trans Yn;have hc10:(x.aA[i].aH he ho a4 hl a2).length=10:=rfl;have st:=wR (x:=.aF ((x.aA[i].aI c).1.aH te to tn tl ts)) ai I rfl rfl rfl (by simp only[fF.aH];simp only[go_sem,ve.aA,vo.aA,vn.aA,vl.aA,vs.aA]);simp only[fF.aH]at st;simp only[fF.aH,go_sem,Y0,Y1,Y2,Yn,Yl,q0,q1,q2,qn,p0,p2,m2,Z,C,ce,k2,U,U9,VX,ve.aA,vo.aA,vn.aA,vl.aA,vs.aA,a6,st,O.aA];have E:∀m,m<h2.length->m≠n->(H4.set h2.length (some (.aA 10 [(x.aA[i].aI c).1.aH te to tn tl ts] false)))[m]?=h2[m]?:=λm hm _=>by rw[UZ (by omega),X4.2 m (by omega) (λx=>x),mW hm]
     have aq:(H4.set h2.length (some (.aA 10 [(x.aA[i].aI c).1.aH te to tn tl ts] false))).length=H4.length:=U9;have oN:fI (x.aA[i].aI c).1.c (λm=>h.length+3<=m/\m≠n) (H4.set h2.length (some (.aA 10 [(x.aA[i].aI c).1.aH te to tn tl ts] false))) ((x.aA[i].aI c).1.aH te to tn tl ts):=by
      refine fI.aA _ (λm hm=>?_) (λm hm y hy=>?_) _ oR;·rw[yl]at hm;omega
      ·rw[yl]at hm;rw[UZ (by omega)];exact hy
     have oF:=a3 (λm=>h.length+3<=m) _ _ _ (λm hm=>hm.1) (λm hm y hy=>by rw[E m (by omega) hm.2];exact hy) (ai.trans u.symm) oN;rw[<-Xi]at oF;simp only[fF.aH]at oF E aq;refine⟨_,rfl,⟨_,_,rfl,?_,_,_,rfl,?_,rfl⟩,?_⟩;·exact eY.aC _ (λm hm=>by omega) (λm hm y hy=>by rw[UZ (by omega)];exact hy) _ oF
     ·refine eY.aC _ (λm hm=>by omega) (λm hm y hy=>?_) _ O;rw[UZ (by omega),UZ (by omega),E m (by omega) (by omega)];exact hy
     ·exact ((XH.aH (by omega) _).aH (by omega) _).aH (by omega) _
    ·have a7:(x.aA[i].aI c).2≠0:=ce;rw[U4 a7];have Z:h.length+1+1<H4.length:=by omega
     simp only[fF.aH,go_sem,Y0,Y1,Y2,Yn,Yl,q0,q1,q2,qn,m2,Z,C,U2 ce,U,U9,VX,ve.aA,vo.aA,vn.aA,vl.aA,vs.aA];exact⟨_,rfl,⟨_,_,rfl,eY.aD _,_,_,rfl,eY.aD _,rfl⟩,(XH.aH (by omega) _).aH (by omega) _⟩
   ·have ag:(x.aA[i].aE=c.aH)=False:=Vm cg;simp only[go_sem,k2,k3,U,a9,a1,D0,D1,a6,u,C,U2 cg,e1];refine⟨_,by omega,i+1,by simp,by omega,rfl,λj W hji=>?_⟩;by_cases e:j=i;·subst e;exact cg
    ·exact hj j W (by omega)
  ·simp at ci;obtain rfl:i=x.aA.length:=by omega
   have eg:x.aC c=(⟨[],[]⟩,6):=by simp only[jf.aC];rw[U6 ek,U6 k4,IC _ _ (λj W=>hj j W W)]
   simp only[go_sem,U,D2,w2];rw[eg];exact⟨_,rfl,⟨_,_,rfl,eY.aD _,_,_,rfl,eY.aD _,rfl⟩,E3.aH (by omega) _⟩
end Glb
