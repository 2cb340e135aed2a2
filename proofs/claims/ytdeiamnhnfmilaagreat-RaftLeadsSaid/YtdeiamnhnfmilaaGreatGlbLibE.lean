/-
  A library of its own.
-/
import Derived.Test.YtdeiamnhnfmilaaGreatGlbLibD
set_option linter.unusedSimpArgs false
set_option linter.unusedVariables false
namespace Glb
open Go
def Gh.aK (G:Gh)(k:Nat):Gh:=
 {G with N:=k,aD:=λn=>G.aD n/\n<k,aF:=λn b=>G.aF n b/\n<k,S:=λb=>G.S b\/∃n,k<=n/\((G.aD n/\G.aA n=some b)\/G.aF n b)}
theorem Gh.aR (G:Gh)(k:Nat)(w:World):iB (G.aN k) w (G.aK k) w where
 N:=WX _
 aA _ _ _ h:=h
 aF _ _ h:=h
 aC t b h:=by
  cases t with
  | zero=>exact .inl h
  | succ n=>exact h
 aD _ _ _:=rfl
 aE _ _:=rfl
theorem V.aX {G w av v k}(h:V G w av v)(hb:av.aJ k=true):V (G.aK k) w av v:=(h.aV hb).aA (G.aR k w)
def iu (k:Nat)(h:fu)(r r':AV):Prop:=∀(G:Gh)(w:World)(v:Value),fY G w h->V G w r v->V (G.aK k) w r' v
theorem iu.aF {k h r}(hb:r.aJ k=true):iu k h r r:=λ_ _ _ _ hv=>hv.aX hb
theorem iu.aC {k h}(i:IntKind)(n:Int):iu k h (.aD i n) (.aD i n):=iu.aF rfl
theorem iu.aE {k h}(b:Bool):iu k h (.aE b) (.aE b):=iu.aF rfl
def KN (k:Nat)(h:fu)(es es':List (List AV)):Prop:=es'.length=es.length/\∀i j c',gI es' i j=some c'->∃c,gI es i j=some c/\iu k h c c'
structure vK (h h' h'':fu):Prop where
 aE:h.length<=h'.length
 aC:h''.length=h.length
 aA:∀m,m<h.length->(h'[m]?=h[m]?/\h''[m]?=h[m]?) \/
  ∃sz0 es0 g0 sz es es' g,h[m]?=some (some (.aA sz0 es0 g0))/\h'[m]?=some (some (.aA sz es g))/\h''[m]?=some (some (.aA sz es' g))/\jR sz es'/\KN h.length h' es es'
theorem vK.aD {h h':fu}(x:fq fB h h'):vK h h' h:=⟨x.1,rfl,λm hm=>.inl ⟨x.2 m hm (λy=>y),rfl⟩⟩
theorem fY.bG {G w h G' w' h' h''} (g : fY G w h) (g' : fY G' w' h') (s : gP G w G' w') (hx : vK h h' h'') :
    fY (G'.aK h.length) w' h'' /\ gP G w (G'.aK h.length) w' := by
  have hN : h.length = G.N := g.aA;have k : iB G w (G'.aK h.length) w' := by
    refine ⟨Nat.le_of_eq hN.symm, λn b hn hb => s.aA.aA n b hn hb, λn hn hb => s.aA.aF n hn hb, λt b hp => ?_, s.aA.aD, s.aA.aE⟩;have h1 := s.aA.aC t b hp;cases t with
    | zero => exact .inl h1
    | succ n => exact ⟨h1, by have := g.aS hp; omega⟩
  have E : ∀ n, n < h.length -> ((∃ sz es gr, h'[n]? = some (some (.aA sz es gr))) ↔ ∃ sz es gr, h''[n]? = some (some (.aA sz es gr))) := by
    intro n hn;rcases hx.aA n hn with ⟨h1, h2⟩ | ⟨_, _, _, sz, es, a3, gr, h0, h1, h2, _⟩
    · rw [h1, h2]
    · exact ⟨λ_ => ⟨_, _, _, h2⟩, λ_ => ⟨_, _, _, h1⟩⟩
  have lt : ∀ {n : Nat} {x : Option fC}, h''[n]? = some x -> n < h.length := λhn => by rw [<- hx.aC]; exact (WR.1 hn).1
  have u : ∀ {n b m : Nat}, n < h.length -> h.length <= m -> ((G'.aD m /\ G'.aA m = some b) \/ G'.aF m b) -> (G'.aD n /\ G'.aA n = some b) \/ G'.aF n b -> False := by
    intro n b m hn hm h1 h2;rcases h1 with ⟨a1, a2⟩ | a1 <;> rcases h2 with ⟨b1, b2⟩ | b1
    · have := g'.inj n m b b1 a1 b2 a2; omega
    · exact g'.aF m n b a1 a2 b1
    · exact g'.aF n m b b1 b2 a1
    · have := g'.aL n m b b1 a1; omega
  refine ⟨{ aA := hx.aC, aD := ?_, aE := ?_, inj := fun a b c h1 h2 => g'.inj a b c h1.1 h2.1, aF := fun a b c h1 hl h2 => g'.aF a b c h1.1 hl h2.1,
            aG := ?_, aL := λa b c h1 h2 => g'.aL a b c h1.1 h2.1, aM := ?_, aH := λa b h1 => g'.aH a b h1.1,
            aJ := ?_, aC := ?_, aI := ?_, aK := g'.aK }, ?_⟩
  · intro n
    constructor
    · rintro ⟨hl, hn⟩
      obtain ⟨hh, hb⟩ := (g'.aD n).1 hl;exact ⟨(E n hn).1 hh, hb⟩
    · rintro ⟨⟨a, b, c, hh⟩, hb⟩
      have hn := lt hh;exact ⟨(g'.aD n).2 ⟨(E n hn).2 ⟨a, b, c, hh⟩, hb⟩, hn⟩
  · rintro n b ⟨ht, hn⟩
    have h1 := g'.aE n b ht;rcases hx.aA n hn with ⟨h2, h3⟩ | ⟨_, _, _, sz, es, a3, gr, h0, h2, h3, _⟩
    · rw [h3, <- h2]; exact h1
    · rw [h2] at h1; cases h1
  · rintro n b ⟨hl, hn⟩ hb (hs | ⟨m, hm, h1⟩)
    · exact g'.aG n b hl hb hs
    · exact u hn hm h1 (.inl ⟨hl, hb⟩)
  · rintro n b ⟨ht, hn⟩ (hs | ⟨m, hm, h1⟩)
    · exact g'.aM n b ht hs
    · exact u hn hm h1 (.inr ht)
  · rintro b (hs | ⟨m, hm, h1⟩)
    · exact g'.aJ b hs
    · rcases h1 with ⟨a1, a2⟩ | a1
      · exact g'.aO a1 a2
      · exact g'.aH m b a1
  · intro n sz es gr b hh hb
    have hn := lt hh;rcases hx.aA n hn with ⟨h2, h3⟩ | ⟨_, _, _, a4, aa, W, a9, h0, h2, h3, Z, I, hf⟩
    · rw [h3] at hh
      obtain ⟨⟨cells, ty, hc, h1, U, O⟩, hs⟩ := g'.aC n sz es gr b (by rw [h2]; exact hh) hb;have a6 : G.aA n = some b := by rw [<- s.aF n ω]; exact hb
      obtain ⟨⟨cells0, ty0, hc0, _, _, a8⟩, _⟩ := g.aC n sz es gr b hh a6;refine ⟨⟨cells, ty, hc, h1, U, λi j c hj => ?_⟩, hs⟩;obtain ⟨v, hv, hV⟩ := O i j c hj;obtain ⟨v0, _, a7⟩ := a8 i j c hj;exact ⟨v, hv, hV.aX (by rw [hN]; exact a7.aY g)⟩
    · rw [h3] at hh
      cases hh;obtain ⟨⟨cells, ty, hc, h1, U, O⟩, hs⟩ := g'.aC n _ _ _ b h2 hb;refine ⟨⟨cells, ty, hc, by rw [I]; exact h1, λe => by rw [I]; exact U e, λi j c hj => ?_⟩, Z⟩;obtain ⟨c0, e0, f0⟩ := hf i j c hj;obtain ⟨v, hv, hV⟩ := O i j c0 e0;exact ⟨v, hv, f0 G' w' v g' hV⟩
  · intro n sz es gr hh hb
    have hn := lt hh;rcases hx.aA n hn with ⟨h2, h3⟩ | ⟨_, _, _, a4, aa, W, a9, h0, h2, h3, Z, I, hf⟩
    · exact g'.aI n sz es gr (by rw [h2, <- h3]; exact hh) hb
    · rw [h3] at hh
      cases hh;have := g'.aI n _ _ _ h2 hb;subst this;exact W5 (by simpa using I)
  · refine ⟨k, ⟨λb hb => .inl (s.S.1 b hb), ?_⟩, s.aF, s.aJ, s.aC, s.aE, λb hb => ?_, s.aH⟩
    · rintro b (hb | ⟨n, hn, h1⟩)
      · exact s.S.2 b hb
      · right
        apply W6;intro hlt;have ho : G'.aI b := h1.elim (λh => .inl ⟨n, h⟩) (λh => .inr ⟨n, h⟩);rcases (s.aG b ho).resolve_right hlt with ⟨m, a1, a2⟩ | ⟨m, a1⟩
        · obtain ⟨⟨a, c, d, hh⟩, _⟩ := (g.aD m).1 a1
          have hm := (WR.1 hh).1;have hl : G'.aA m = some b := by rw [s.aF m ω]; exact a2
          have a5 : ∃ sz es gr, h'[m]? = some (some (.aA sz es gr)) := by
            rcases hx.aA m hm with ⟨h2, h3⟩ | ⟨_, _, _, sz, es, a3, gr, h0, h2, h3, _⟩
            · exact ⟨_, _, _, h2.trans hh⟩
            · exact ⟨_, _, _, h2⟩
          exact u hm hn h1 (.inl ⟨(g'.aD m).2 ⟨a5, b, hl⟩, hl⟩)
        · have hm := g.aP (g.aE m b a1)
          exact u ω hn h1 (.inr (s.aA.aC (m + 1) b a1))
    · refine s.aG b ?_
      rcases hb with ⟨n, hn, hl⟩ | ⟨n, hn⟩
      · exact .inl ⟨n, hn.1, hl⟩
      · exact .inr ⟨n, hn.1⟩
theorem fO.aD {P:Program}{f:FuncId}{I:List AV}{h:fu}{K K':AV->fu->Prop}(hc:fO P f I h K)
  (hk:∀r h',K r h'->∃r' u,vK h h' u/\iu h.length h' r r'/\K' r' u):fO P f I h K':=by
 intro G w vs hg hv;refine (hc G w vs hg hv).mono ?_;rintro e w' ⟨v,r,h',G',rfl,hK,E,hV,hs⟩;obtain⟨r',u,hx,hr,O⟩:=hk r h' hK;obtain⟨g2,s2⟩:=hg.bG E hs hx;exact⟨v,r',u,_,rfl,O,g2,hr _ _ _ E hV,s2⟩
theorem fO.aC {P:Program}{f:FuncId}{e:List AV}{h:fu}{K:AV->fu->Prop}{K':AV->Prop}(hc:fO P f e h K)
  (hk:∀r h',K r h'->fq fB h h'/\∃r',iu h.length h' r r'/\K' r'):fO P f e h λr h'=>K' r/\h'=h:=
 hc.aD λr h' hK=>let⟨hx,r',hr,hK'⟩:=hk r h' hK;⟨r',h,vK.aD hx,hr,hK',rfl⟩
mutual
def Fz (k:Nat)(h:fu):D->AV->Prop
 | .aA i n,av=>av=.aD i n
 | .aE b,av=>av=.aE b
 | .aF s,av=>av=.aQ s
 | .sl sz ds,av=>(av=.aC/\ds=[])\/(∃t c es,av=.aM t c sz es/\(t=0\/k<t\/es=[])/\lO k h ds es) \/
   ∃n off cap row g,av=.aG n sz off ds.length cap/\k<=n/\h[n]?=some (some (.aA sz row g))/\off+ds.length<=row.length/\lO k h ds ((row.drop off).take ds.length)
def mG (k:Nat)(h:fu):List D->List AV->Prop
 | [],l=>l=[]
 | d :: ds,l=>∃a r,l=a :: r/\Fz k h d a/\mG k h ds r
def lO (k:Nat)(h:fu):List (List D)->List (List AV)->Prop
 | [],l=>l=[]
 | e :: ds,l=>∃a r,l=a :: r/\mG k h e a/\lO k h ds r
end
mutual
theorem OQ (k:Nat)(h:fu):∀d:D,Fz k h d d.av
 | .aA i n=>by simp only[Fz,D.av]
 | .aE b=>by simp only[Fz,D.av]
 | .aF s=>by simp only[Fz,D.av]
 | .sl sz es=>by simp only[Fz,D.av];exact .inr (.inl ⟨0,false,_,rfl,.inl rfl,HN k h es⟩)
theorem DG (k:Nat)(h:fu):∀l:List D,mG k h l (D.aC l)
 | []=>by simp only[mG,D.aC]
 | d :: r=>by simp only[mG,D.aC];exact⟨_,_,rfl,OQ k h d,DG k h r⟩
theorem HN (k:Nat)(h:fu):∀l:List (List D),lO k h l (D.aD l)
 | []=>by simp only[lO,D.aD]
 | d :: r=>by simp only[lO,D.aD];exact⟨_,_,rfl,DG k h d,HN k h r⟩
end
mutual
theorem fA.fz:∀(d:D){F:Nat->Prop}{k:Nat}{h:fu}(_:∀m,F m->k<=m)(av:AV),fA d F h av->Fz k h d av
 | .aA i n,F,k,h,hF,av,ho=>by simp only[fA]at ho;simp only[Fz];exact ho
 | .aE b,F,k,h,hF,av,ho=>by simp only[fA]at ho;simp only[Fz];exact ho
 | .aF s,F,k,h,hF,av,ho=>by simp only[fA]at ho;simp only[Fz];exact ho
 | .sl sz ds,F,k,h,hF,av,ho=>by
  simp only[fA]at ho;simp only[Fz];rcases ho with⟨rfl,rfl⟩ | ⟨t,c,rfl,rfl⟩ | ⟨n,off,cap,row,g,rfl,h1,h2,h3,_,h5⟩
  ·exact .inl ⟨rfl,rfl⟩
  ·exact .inr (.inl ⟨t,c,[],rfl,.inr (.inr rfl),by simp only[lO]⟩)
  ·exact .inr (.inr ⟨n,off,cap,row,g,rfl,hF n h1,h2,h3,fQ.fz ds (λm hm=>hF m hm.1) _ h5⟩)
theorem fU.fz:∀(ds:List D){F:Nat->Prop}{k:Nat}{h:fu}(_:∀m,F m->k<=m)(l:List AV),fU ds F h l->mG k h ds l
 | [],F,k,h,hF,l,ho=>by simp only[fU]at ho;simp only[mG];exact ho
 | d :: ds,F,k,h,hF,l,ho=>by simp only[fU]at ho;simp only[mG];obtain⟨a,r,rfl,h1,h2⟩:=ho;exact⟨a,r,rfl,fA.fz d hF a h1,fU.fz ds hF r h2⟩
theorem fQ.fz:∀(ds:List (List D)) {F:Nat->Prop} {k:Nat} {h:fu} (_:∀m,F m->k<=m) (l:List (List AV)),fQ ds F h l->lO k h ds l
 | [],F,k,h,hF,l,ho=>by simp only[fQ]at ho;simp only[lO];exact ho
 | d :: ds,F,k,h,hF,l,ho=>by simp only[fQ]at ho;simp only[lO];obtain⟨a,r,rfl,h1,h2⟩:=ho;exact⟨a,r,rfl,fU.fz d hF a h1,fQ.fz ds hF r h2⟩
end
theorem Fy {k h}:∀{ds:List D}{l:List AV},mG k h ds l->l.length=ds.length:=by
 intro ds;induction ds with
 | nil=>intro l hh;simp only[mG]at hh;subst hh;rfl
 | cons e ds ih=>intro l hh;simp only[mG]at hh;obtain⟨a,r,rfl,_,hh⟩:=hh;simp[ih hh]
theorem Fx {k h}:∀{ds:List (List D)} {l:List (List AV)},lO k h ds l->l.length=ds.length:=by
 intro ds;induction ds with
 | nil=>intro l hh;simp only[lO]at hh;subst hh;rfl
 | cons e ds ih=>intro l hh;simp only[lO]at hh;obtain⟨a,r,rfl,_,hh⟩:=hh;simp[ih hh]
theorem KO {k h}:∀{ds:List (List D)} {es:List (List AV)},lO k h ds es->∀(i:Nat)(e:List AV),es[i]?=some e->∃d,ds[i]?=some d/\mG k h d e:=by
 intro ds;induction ds with
 | nil=>intro es hh i e he;simp only[lO]at hh;subst hh;simp at he
 | cons d ds ih=>
  intro es hh i e he;simp only[lO]at hh;obtain⟨a,r,rfl,h1,h2⟩:=hh;cases i with
  | zero=>simp at he;subst he;exact⟨d,rfl,h1⟩
  | succ i=>exact ih h2 i e (by simpa using he)
theorem Gv (l:List D):(D.aC l).length=l.length:=by rw[sR];simp
theorem ym (l:List (List D)):(D.aD l).length=l.length:=by rw[uA];simp
theorem Me (l:List D):(D.aC l).all AV.aH=true:=by rw[sR];simp[mI]
theorem IU {sz k h}{ds:List (List D)}{es:List (List AV)}(hh:lO k h ds es)(ho:jR sz es):jR sz (D.aD ds):=by
 intro e he;rw[uA,XO]at he;obtain⟨d,hd,rfl⟩:=he;refine⟨?_,Me d⟩;obtain⟨i,hi,rfl⟩:=List.getElem_of_mem hd;have hl:=Fx hh;have u:i<es.length:=ω;obtain⟨d',E,hf⟩:=KO hh i es[i] ς;have:d'=ds[i]:=by simpa [hi] using E.symm
 subst this;rw[Gv,<-Fy hf];exact (ho _ (Xq u)).1
section
variable {k:Nat} {h:fu} {G:Gh} {w:World}
mutual
theorem HP (g:fY G w h):∀(d:D)(av:AV)(v:Value),Fz k h d av->V G w av v->V (G.aK k) w d.av v
 | .aA i n,av,v,hh,hv=>by simp only[Fz]at hh;subst hh;simp only[D.av];cases hv;exact .aC _ _
 | .aE b,av,v,hh,hv=>by simp only[Fz]at hh;subst hh;simp only[D.av];cases hv;exact .aF _
 | .aF s,av,v,hh,hv=>by simp only[Fz]at hh;subst hh;simp only[D.av];cases hv;exact .aQ _
 | .sl sz ds,av,v,hh,hv=>by
  simp only[Fz]at hh;simp only[D.av];rcases hh with⟨rfl,rfl⟩ | ⟨t,c,es,rfl,ht,hf⟩ | ⟨n,off,cap,row,gr,rfl,a3,u,a2,hf⟩
  ·cases hv;exact .aG _ _ _
  ·have hl:=Fx hf;cases hv with
   | aG=>have:ds=[]:=W5 (by simpa using hl.symm);subst this;exact .aG _ _ _
   | aE _ _ _ _ a cap f a2 hcl W hp a4 hc hV=>
    have:=V.aE (G:=G.aK k) (w:=w) 0 false sz (D.aD ds) a cap f (by rw[ym];omega) (λe=>by cases e) W (λa1=>?_) (IU hf a4)
     (λi j c hj=>?_) (λi j c hj=>?_)
    ·rw[ym,<-hl]at this;exact this
    ·have E:es≠[]:=by rintro rfl;have:ds=[]:=W5 (by simpa using hl.symm);subst this;exact a1 rfl
     have U:=hp E;rcases ht with rfl | ht | he;·exact .inl U
     ·cases t with
      | zero=>omega
      | succ t=>exact .inr ⟨t,ω,.inr U⟩
     ·exact absurd he E
    ·obtain⟨c0,h0,_⟩:=wB g ds es hf i j c hj;exact hc i j c0 h0
    ·obtain⟨c0,h0,h1⟩:=wB g ds es hf i j c hj;exact h1 _ (hV i j c0 h0)
  ·generalize hlen:ds.length=len at hv;cases hv with
   | aH=>have:ds=[]:=W5 hlen;subst this;exact .aG _ _ _
   | aD _ _ _ _ _ c ty m b hn hb hl hcap hs hm=>
    subst hlen;obtain⟨⟨cells,ty',a5,h1,h2,h3⟩,Z⟩:=g.aC n sz row gr b u hb;have O:jR sz ((row.drop off).take ds.length):=λe he=>Z e (Xw (XQ he));have key:∀(i j:Nat)(c0:AV),gI ((row.drop off).take ds.length) i j=some c0->gI row (off+i) j=some c0:=by
     intro i j c0 hj;simp only[gI]at hj ⊢;rw[Ye]at hj;split at hj;·rwa [Xv]at hj
     ·simp at hj
    have:=V.aE (G:=G.aK k) (w:=w) 0 false sz (D.aD ds) ⟨b,off*sz,none⟩ c (λi j=>cells.getD ((off+i)*sz+j) undef) (by rw[ym];exact hl) (λe=>by cases e) (λ_=>rfl)
     (λ_=>.inr ⟨n,a3,.inl ⟨g.aN u hb,hb⟩⟩) (IU hf O) (λi j c hj=>?_) (λi j c hj=>?_)
    ·rw[ym]at this;exact this
    ·obtain⟨c0,h0,_⟩:=wB g ds _ hf i j c hj;obtain⟨v0,I,_⟩:=h3 _ j c0 (key i j c0 h0);simp only[World.cell?,a5,Option.isSome_none,Xt,XS];rw[show off*sz+(i*sz+j)=(off+i)*sz+j by rw[Y4];omega,I];simp[I]
    ·obtain⟨c0,h0,a7⟩:=wB g ds _ hf i j c hj;obtain⟨v0,I,a6⟩:=h3 _ j c0 (key i j c0 h0);have:cells.getD ((off+i)*sz+j) undef=v0:=by simp[I]
     rw[this];exact a7 _ a6
theorem HO (g:fY G w h):∀(ds:List D)(l:List AV),mG k h ds l->∀(j:Nat)(c:AV),(D.aC ds)[j]?=some c->∃c0,l[j]?=some c0/\∀v,V G w c0 v->V (G.aK k) w c v
 | [],l,hh,j,c,hj=>by simp[D.aC]at hj
 | d :: ds,l,hh,j,c,hj=>by
  simp only[mG]at hh;obtain⟨a,r,rfl,h1,h2⟩:=hh;simp only[D.aC]at hj;cases j with
  | zero=>simp at hj;subst hj;exact⟨a,rfl,λv hv=>HP g d a v h1 hv⟩
  | succ j=>exact HO g ds r h2 j c (by simpa using hj)
theorem wB (g:fY G w h):∀(ds:List (List D)) (es:List (List AV)),lO k h ds es->∀(i j:Nat)(c:AV),gI (D.aD ds) i j=some c->∃c0,gI es i j=some c0/\∀v,V G w c0 v->V (G.aK k) w c v
 | [],es,hh,i,j,c,hj=>by simp[D.aD,gI]at hj
 | d :: ds,es,hh,i,j,c,hj=>by
  simp only[lO]at hh;obtain⟨a,r,rfl,h1,h2⟩:=hh;simp only[D.aD]at hj;cases i with
  | zero=>exact HO g d a h1 j c (by simpa [gI] using hj)
  | succ i=>exact wB g ds r h2 i j c (by simpa [gI] using hj)
end
end
theorem iu.d {k h r}{d:D}(hh:Fz k h d r):iu k h r d.av:=λ_ _ v g hv=>HP g d r v hh hv
theorem iu.aG {k h}{l l':List AV}(hl:l'.length=l.length) (hh:∀(j:Nat)(c':AV),l'[j]?=some c'->∃c,l[j]?=some c/\iu k h c c'):iu k h (.aF l) (.aF l'):=by
 intro G w v g hv;cases hv with
 | aJ _ vs hl' hV=>refine .aJ _ _ (hl.trans hl') λj c v hc hv=>?_;obtain⟨c0,h0,h1⟩:=hh j c hc;exact h1 G w v g (hV j c0 v h0 hv)
theorem iu.aH {k h}{l l':List AV}(hl:l'.length=l.length) (hh:∀(j:Nat)(c':AV),l'[j]?=some c'->∃c,l[j]?=some c/\iu k h c c'):iu k h (.aI l) (.aI l'):=by
 intro G w v g hv;cases hv with
 | aM _ vs hl' hV=>refine .aM _ _ (hl.trans hl') λj c v hc hv=>?_;obtain⟨c0,h0,h1⟩:=hh j c hc;exact h1 G w v g (hV j c0 v h0 hv)
theorem iu.aD {k h a a' b b'}(h1:iu k h a a')(h2:iu k h b b'):iu k h (.aI [a,b]) (.aI [a',b']):=by
 refine .aH rfl λj c hj=>?_;match j with
 | 0=>simp at hj;subst hj;exact⟨a,rfl,h1⟩
 | 1=>simp at hj;subst hj;exact⟨b,rfl,h2⟩
 | j+2=>simp at hj
theorem iu.aA {k h l}{ds:List D}(hh:mG k h ds l):iu k h (.aF l) (.aF (D.aC ds)):=by
 refine .aG (by rw[Gv,Fy hh]) λj c hj=>?_;have:∃c0,l[j]?=some c0/\∃d,ds[j]?=some d/\c=d.av/\Fz k h d c0:=by
  induction ds generalizing l j with
  | nil=>simp[D.aC]at hj
  | cons d ds ih=>
   simp only[mG]at hh;obtain⟨a,r,rfl,h1,h2⟩:=hh;simp only[D.aC]at hj;cases j with
   | zero=>simp at hj;subst hj;exact⟨a,rfl,d,rfl,rfl,h1⟩
   | succ j=>simpa using ih h2 j (by simpa using hj)
 obtain⟨c0,h0,d,_,rfl,hf⟩:=this;exact⟨c0,h0,iu.d hf⟩
theorem RV {H:Type}{enc:TypeId×Value->H}{P:Program}{f:Func}{s:ChangeSpec}{apart Z u again:Bool}{W W':World}{args:Array Value}{v:Value}{ds gs:List (DataW H)}{e pa pv:List MemPlace}
  (hW:DataW.Whole enc P f.params.toList s.vars apart W args.toList ds gs e)
  (O:∀(b:Nat)(sp:Nat->Bool)(hd:Bool),DataW.TrodAll enc P W' b sp hd f.resultTypes.toList (v.resultList f.resultTypes.size) (s.fn H (ds++gs)).results [])
  (I:∀sp:Nat->Bool,(∀p∈e,sp p.block=true)->DataW.TrodAll enc P W' 0 sp true f.params.toList args.toList (s.fn H (ds++gs)).args pa)
  (E:∀sp:Nat->Bool,(∀p∈e,sp p.block=true)->DataW.TrodVars enc P W' sp s.vars (s.fn H (ds++gs)).vars pv)
  (a1:e=pa++pv) (hk:W.keptBut W' (·∈e)) (a3:∀a,a.block<W.heap.size->W'.frozen? a=W.frozen? a)
  (a2:∀(j:Nat)(t:TypeId)(r:Value),f.resultTypes[j]?=some t->(v.resultList f.resultTypes.size)[j]?=some r->Value.okWide P W' .any 0 t r):
  s.post enc P f apart Z u again W args v W':=by
 have hlt:=λp hp=>hW.lt p hp;have U:∀p∈e,(λb=>decide (b<W.heap.size)) p.block=true:=λp hp=>by simpa using hlt p hp
 refine⟨ds,gs,e,[],pa,pv,hW,O _ _ _,I _ U,E _ U,World.keptBut_mono (λp hp=>⟨hp,?_⟩) hk,λ_=>?_⟩;·rw[a1,Xe]at hp;exact Or.inr hp
 ·obtain⟨_,_,_,_,_,hz,hn⟩:=hW;refine⟨a2,_,_,([]++pa)++pv,⟨[]++pa,pv,Go.ChangeShapes.trodAll_append (I _ (λ_ _=>rfl)) (O _ _ _),E _ (λ_ _=>rfl),rfl,?_,?_⟩,?_⟩
  ·intro b off hp;have hm:MemPlace.cell b off∈e:=by rw[a1];simpa using hp
   rw[a3 _ (hlt _ hm)];exact hz b off hm
  ·intro ha;have:=hn ha;rw[a1]at this;simpa using this
  ·intro p hp _;rw[a1];simpa using hp
theorem fq.aN {h h':fu}(x:fq fB h h'):∃j,h'=h++j:=by
 refine⟨h'.drop h.length,?_⟩;apply XT;intro m;rcases YQ m h.length with hm | hm;·rw[Xy hm];exact x.2 m hm (λy=>y)
 ·rw[XA hm,Xv];congr 1;omega
section
variable {F:Nat->Prop} {h:fu} {G:Gh} {w:World}
end
theorem OI (dep:Nat->Nat->Bool)(lo i:Nat)(l:List (Nat×Nat×fC))(h:fu):
  nv dep lo 3 i l h=((((l.any λx=>dep i x.1 && x.2.1 == lo) || nU h[lo]?) && ((l.any λx=>dep i x.1 && x.2.1 == lo+1) || nU h[lo+1]?)) && ((l.any λx=>dep i x.1 && x.2.1 == lo+1+1) || nU h[lo+1+1]?)):=by
 simp[nv,List.range_succ,Bool.and_assoc,YW]
attribute [go_sem] OI
end Glb
