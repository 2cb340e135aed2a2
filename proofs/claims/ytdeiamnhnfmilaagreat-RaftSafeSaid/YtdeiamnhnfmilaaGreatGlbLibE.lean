/-
  A library of its own.
-/
import Derived.Test.YtdeiamnhnfmilaaGreatGlbLibD
set_option linter.unusedSimpArgs false
set_option linter.unusedVariables false
namespace Glb
open Go
def Gh.aK (G:Gh)(k:Nat):Gh:=
 {G with N:=k,aD:=λn=>G.aD n/\n<k,aF:=λn b=>G.aF n b/\n<k,S:=λb=>G.S b\/∃n,k<=n/\((G.aD n/\G.aA n=some b)\/G.aF n b)}
theorem Gh.aR (G:Gh)(k:Nat)(w:World):ic (G.aN k) w (G.aK k) w where
 N:=U8 _
 aA _ _ _ h:=h
 aF _ _ h:=h
 aC t b h:=by
  cases t with
  | zero=>exact .inl h
  | succ n=>exact h
 aD _ _ _:=rfl
 aE _ _:=rfl
theorem V.aX {G w av v k}(h:V G w av v)(hb:av.aJ k=true):V (G.aK k) w av v:=(h.aV hb).aA (G.aR k w)
def gU (k:Nat)(h:eX)(r r':AV):Prop:=∀(G:Gh)(w:World)(v:Value),fO G w h->V G w r v->V (G.aK k) w r' v
theorem gU.aF {k h r}(hb:r.aJ k=true):gU k h r r:=λ_ _ _ _ hv=>hv.aX hb
theorem gU.aD {k h}(i:IntKind)(n:Int):gU k h (.aA i n) (.aA i n):=gU.aF rfl
theorem gU.aE {k h}(b:Bool):gU k h (.aE b) (.aE b):=gU.aF rfl
def Jp (k:Nat)(h:eX)(es es':List (List AV)):Prop:=es'.length=es.length/\∀i j c',gw es' i j=some c'->∃c,gw es i j=some c/\gU k h c c'
structure uu (h h' h'':eX):Prop where
 aE:h.length<=h'.length
 aC:h''.length=h.length
 aA:∀m,m<h.length->(h'[m]?=h[m]?/\h''[m]?=h[m]?) \/
  ∃sz0 es0 g0 sz es es' g,h[m]?=some (some (.aA sz0 es0 g0))/\h'[m]?=some (some (.aA sz es g))/\h''[m]?=some (some (.aA sz es' g))/\jy sz es'/\Jp h.length h' es es'
theorem uu.aD {h h':eX}(x:eW eZ h h'):uu h h' h:=⟨x.1,rfl,λm hm=>.inl ⟨x.2 m hm (λy=>y),rfl⟩⟩
theorem fO.bD {G w h G' w' h' h''} (g : fO G w h) (g' : fO G' w' h') (s : gI G w G' w') (hx : uu h h' h'') :
    fO (G'.aK h.length) w' h'' /\ gI G w (G'.aK h.length) w' := by
  have hN : h.length = G.N := g.aA;have k : ic G w (G'.aK h.length) w' := by
    refine ⟨Nat.le_of_eq hN.symm, λn b hn hb => s.aA.aA n b hn hb, λn hn hb => s.aA.aF n hn hb, λt b hp => ?_, s.aA.aD, s.aA.aE⟩;have h1 := s.aA.aC t b hp;cases t with
    | zero => exact .inl h1
    | succ n => exact ⟨h1, by have := g.aS hp; omega⟩
  have C : ∀ n, n < h.length -> ((∃ sz es gr, h'[n]? = some (some (.aA sz es gr))) ↔ ∃ sz es gr, h''[n]? = some (some (.aA sz es gr))) := by
    intro n hn;rcases hx.aA n hn with ⟨h1, h2⟩ | ⟨_, _, _, sz, es, W, gr, h0, h1, h2, _⟩
    · rw [h1, h2]
    · exact ⟨λ_ => ⟨_, _, _, h2⟩, λ_ => ⟨_, _, _, h1⟩⟩
  have lt : ∀ {n : Nat} {x : Option e_}, h''[n]? = some x -> n < h.length := λhn => by rw [<- hx.aC]; exact (UY.1 hn).1
  have u : ∀ {n b m : Nat}, n < h.length -> h.length <= m -> ((G'.aD m /\ G'.aA m = some b) \/ G'.aF m b) -> (G'.aD n /\ G'.aA n = some b) \/ G'.aF n b -> False := by
    intro n b m hn hm h1 h2;rcases h1 with ⟨a1, a2⟩ | a1 <;> rcases h2 with ⟨b1, b2⟩ | b1
    · have := g'.inj n m b b1 a1 b2 a2; omega
    · exact g'.aF m n b a1 a2 b1
    · exact g'.aF n m b b1 b2 a1
    · have := g'.aL n m b b1 a1; omega
  refine ⟨{ aA := hx.aC, aD := ?_, aE := ?_, inj := fun a b c h1 h2 => g'.inj a b c h1.1 h2.1, aF := fun a b c h1 hl h2 => g'.aF a b c h1.1 hl h2.1,
            aG := ?_, aL := λa b c h1 h2 => g'.aL a b c h1.1 h2.1, aM := ?_, aH := λa b h1 => g'.aH a b h1.1,
            aJ := ?_, aC := ?_, aI := ?_, aK := g'.aK }, ?_⟩
  · intro n
    constructor
    · rintro ⟨hl, hn⟩
      obtain ⟨hh, hb⟩ := (g'.aD n).1 hl;exact ⟨(C n hn).1 hh, hb⟩
    · rintro ⟨⟨a, b, c, hh⟩, hb⟩
      have hn := lt hh;exact ⟨(g'.aD n).2 ⟨(C n hn).2 ⟨a, b, c, hh⟩, hb⟩, hn⟩
  · rintro n b ⟨ht, hn⟩
    have h1 := g'.aE n b ht;rcases hx.aA n hn with ⟨h2, h3⟩ | ⟨_, _, _, sz, es, W, gr, h0, h2, h3, _⟩
    · rw [h3, <- h2]; exact h1
    · rw [h2] at h1; cases h1
  · rintro n b ⟨hl, hn⟩ hb (hs | ⟨m, hm, h1⟩)
    · exact g'.aG n b hl hb hs
    · exact u hn hm h1 (.inl ⟨hl, hb⟩)
  · rintro n b ⟨ht, hn⟩ (hs | ⟨m, hm, h1⟩)
    · exact g'.aM n b ht hs
    · exact u hn hm h1 (.inr ht)
  · rintro b (hs | ⟨m, hm, h1⟩)
    · exact g'.aJ b hs
    · rcases h1 with ⟨a1, a2⟩ | a1
      · exact g'.aO a1 a2
      · exact g'.aH m b a1
  · intro n sz es gr b hh hb
    have hn := lt hh;rcases hx.aA n hn with ⟨h2, h3⟩ | ⟨_, _, _, Z, a8, O, a7, h0, h2, h3, U, E, hf⟩
    · rw [h3] at hh
      obtain ⟨⟨cells, ty, hc, h1, M, I⟩, hs⟩ := g'.aC n sz es gr b (by rw [h2]; exact hh) hb;have a4 : G.aA n = some b := by rw [<- s.aF n (by omega)]; exact hb
      obtain ⟨⟨cells0, ty0, hc0, _, _, a6⟩, _⟩ := g.aC n sz es gr b hh a4;refine ⟨⟨cells, ty, hc, h1, M, λi j c hj => ?_⟩, hs⟩;obtain ⟨v, hv, hV⟩ := I i j c hj;obtain ⟨v0, _, a5⟩ := a6 i j c hj;exact ⟨v, hv, hV.aX (by rw [hN]; exact a5.aY g)⟩
    · rw [h3] at hh
      cases hh;obtain ⟨⟨cells, ty, hc, h1, M, I⟩, hs⟩ := g'.aC n _ _ _ b h2 hb;refine ⟨⟨cells, ty, hc, by rw [E]; exact h1, λe => by rw [E]; exact M e, λi j c hj => ?_⟩, U⟩;obtain ⟨c0, e0, f0⟩ := hf i j c hj;obtain ⟨v, hv, hV⟩ := I i j c0 e0;exact ⟨v, hv, f0 G' w' v g' hV⟩
  · intro n sz es gr hh hb
    have hn := lt hh;rcases hx.aA n hn with ⟨h2, h3⟩ | ⟨_, _, _, Z, a8, O, a7, h0, h2, h3, U, E, hf⟩
    · exact g'.aI n sz es gr (by rw [h2, <- h3]; exact hh) hb
    · rw [h3] at hh
      cases hh;have := g'.aI n _ _ _ h2 hb;subst this;exact U7 (by simpa using E)
  · refine ⟨k, ⟨λb hb => .inl (s.S.1 b hb), ?_⟩, s.aF, s.aJ, s.aC, s.aE, λb hb => ?_, s.aH⟩
    · rintro b (hb | ⟨n, hn, h1⟩)
      · exact s.S.2 b hb
      · right
        apply Vb;intro hlt;have ho : G'.aI b := h1.elim (λh => .inl ⟨n, h⟩) (λh => .inr ⟨n, h⟩);rcases (s.aG b ho).resolve_right hlt with ⟨m, a1, a2⟩ | ⟨m, a1⟩
        · obtain ⟨⟨a, c, d, hh⟩, _⟩ := (g.aD m).1 a1
          have hm := (UY.1 hh).1;have hl : G'.aA m = some b := by rw [s.aF m (by omega)]; exact a2
          have a3 : ∃ sz es gr, h'[m]? = some (some (.aA sz es gr)) := by
            rcases hx.aA m hm with ⟨h2, h3⟩ | ⟨_, _, _, sz, es, W, gr, h0, h2, h3, _⟩
            · exact ⟨_, _, _, h2.trans hh⟩
            · exact ⟨_, _, _, h2⟩
          exact u hm hn h1 (.inl ⟨(g'.aD m).2 ⟨a3, b, hl⟩, hl⟩)
        · have hm := g.aP (g.aE m b a1)
          exact u (by omega) hn h1 (.inr (s.aA.aC (m + 1) b a1))
    · refine s.aG b ?_
      rcases hb with ⟨n, hn, hl⟩ | ⟨n, hn⟩
      · exact .inl ⟨n, hn.1, hl⟩
      · exact .inr ⟨n, hn.1⟩
theorem fC.aD {P:Program}{f:FuncId}{E:List AV}{h:eX}{K K':AV->eX->Prop}(hc:fC P f E h K)
  (hk:∀r h',K r h'->∃r' u,uu h h' u/\gU h.length h' r r'/\K' r' u):fC P f E h K':=by
 intro G w vs hg hv;refine (hc G w vs hg hv).mono ?_;rintro e w' ⟨v,r,h',G',rfl,hK,C,hV,hs⟩;obtain⟨r',u,hx,hr,I⟩:=hk r h' hK;obtain⟨g2,s2⟩:=hg.bD C hs hx;exact⟨v,r',u,_,rfl,I,g2,hr _ _ _ C hV,s2⟩
theorem fC.aC {P:Program}{f:FuncId}{e:List AV}{h:eX}{K:AV->eX->Prop}{K':AV->Prop}(hc:fC P f e h K)
  (hk:∀r h',K r h'->eW eZ h h'/\∃r',gU h.length h' r r'/\K' r'):fC P f e h λr h'=>K' r/\h'=h:=
 hc.aD λr h' hK=>let⟨hx,r',hr,hK'⟩:=hk r h' hK;⟨r',h,uu.aD hx,hr,hK',rfl⟩
mutual
def Fz (k:Nat)(h:eX):D->AV->Prop
 | .aA i n,av=>av=.aA i n
 | .aE b,av=>av=.aE b
 | .aF s,av=>av=.aQ s
 | .sl sz ds,av=>(av=.aD/\ds=[])\/(∃t c es,av=.aM t c sz es/\(t=0\/k<t\/es=[])/\kC k h ds es) \/
   ∃n off cap row g,av=.aG n sz off ds.length cap/\k<=n/\h[n]?=some (some (.aA sz row g))/\off+ds.length<=row.length/\kC k h ds ((row.drop off).take ds.length)
def lC (k:Nat)(h:eX):List D->List AV->Prop
 | [],l=>l=[]
 | d :: ds,l=>∃a r,l=a :: r/\Fz k h d a/\lC k h ds r
def kC (k:Nat)(h:eX):List (List D)->List (List AV)->Prop
 | [],l=>l=[]
 | e :: ds,l=>∃a r,l=a :: r/\lC k h e a/\kC k h ds r
end
mutual
theorem M4 (k:Nat)(h:eX):∀d:D,Fz k h d d.av
 | .aA i n=>by simp only[Fz,D.av]
 | .aE b=>by simp only[Fz,D.av]
 | .aF s=>by simp only[Fz,D.av]
 | .sl sz es=>by simp only[Fz,D.av];exact .inr (.inl ⟨0,false,_,rfl,.inl rfl,Gn k h es⟩)
theorem Cm (k:Nat)(h:eX):∀l:List D,lC k h l (D.aC l)
 | []=>by simp only[lC,D.aC]
 | d :: r=>by simp only[lC,D.aC];exact⟨_,_,rfl,M4 k h d,Cm k h r⟩
theorem Gn (k:Nat)(h:eX):∀l:List (List D),kC k h l (D.aD l)
 | []=>by simp only[kC,D.aD]
 | d :: r=>by simp only[kC,D.aD];exact⟨_,_,rfl,Cm k h d,Gn k h r⟩
end
mutual
theorem eY.fz:∀(d:D){F:Nat->Prop}{k:Nat}{h:eX}(_:∀m,F m->k<=m)(av:AV),eY d F h av->Fz k h d av
 | .aA i n,F,k,h,hF,av,ho=>by simp only[eY]at ho;simp only[Fz];exact ho
 | .aE b,F,k,h,hF,av,ho=>by simp only[eY]at ho;simp only[Fz];exact ho
 | .aF s,F,k,h,hF,av,ho=>by simp only[eY]at ho;simp only[Fz];exact ho
 | .sl sz ds,F,k,h,hF,av,ho=>by
  simp only[eY]at ho;simp only[Fz];rcases ho with⟨rfl,rfl⟩ | ⟨t,c,rfl,rfl⟩ | ⟨n,off,cap,row,g,rfl,h1,h2,h3,_,h5⟩
  ·exact .inl ⟨rfl,rfl⟩
  ·exact .inr (.inl ⟨t,c,[],rfl,.inr (.inr rfl),by simp only[kC]⟩)
  ·exact .inr (.inr ⟨n,off,cap,row,g,rfl,hF n h1,h2,h3,fG.fz ds (λm hm=>hF m hm.1) _ h5⟩)
theorem fI.fz:∀(ds:List D){F:Nat->Prop}{k:Nat}{h:eX}(_:∀m,F m->k<=m)(l:List AV),fI ds F h l->lC k h ds l
 | [],F,k,h,hF,l,ho=>by simp only[fI]at ho;simp only[lC];exact ho
 | d :: ds,F,k,h,hF,l,ho=>by simp only[fI]at ho;simp only[lC];obtain⟨a,r,rfl,h1,h2⟩:=ho;exact⟨a,r,rfl,eY.fz d hF a h1,fI.fz ds hF r h2⟩
theorem fG.fz:∀(ds:List (List D)) {F:Nat->Prop} {k:Nat} {h:eX} (_:∀m,F m->k<=m) (l:List (List AV)),fG ds F h l->kC k h ds l
 | [],F,k,h,hF,l,ho=>by simp only[fG]at ho;simp only[kC];exact ho
 | d :: ds,F,k,h,hF,l,ho=>by simp only[fG]at ho;simp only[kC];obtain⟨a,r,rfl,h1,h2⟩:=ho;exact⟨a,r,rfl,fI.fz d hF a h1,fG.fz ds hF r h2⟩
end
theorem D_ {k h}:∀{ds:List D}{l:List AV},lC k h ds l->l.length=ds.length:=by
 intro ds;induction ds with
 | nil=>intro l hh;simp only[lC]at hh;subst hh;rfl
 | cons e ds ih=>intro l hh;simp only[lC]at hh;obtain⟨a,r,rfl,_,hh⟩:=hh;simp[ih hh]
theorem D9 {k h}:∀{ds:List (List D)} {l:List (List AV)},kC k h ds l->l.length=ds.length:=by
 intro ds;induction ds with
 | nil=>intro l hh;simp only[kC]at hh;subst hh;rfl
 | cons e ds ih=>intro l hh;simp only[kC]at hh;obtain⟨a,r,rfl,_,hh⟩:=hh;simp[ih hh]
theorem Jq {k h}:∀{ds:List (List D)} {es:List (List AV)},kC k h ds es->∀(i:Nat)(e:List AV),es[i]?=some e->∃d,ds[i]?=some d/\lC k h d e:=by
 intro ds;induction ds with
 | nil=>intro es hh i e he;simp only[kC]at hh;subst hh;simp at he
 | cons d ds ih=>
  intro es hh i e he;simp only[kC]at hh;obtain⟨a,r,rfl,h1,h2⟩:=hh;cases i with
  | zero=>simp at he;subst he;exact⟨d,rfl,h1⟩
  | succ i=>exact ih h2 i e (by simpa using he)
theorem EY (l:List D):(D.aC l).length=l.length:=by rw[ri];simp
theorem wS (l:List (List D)):(D.aD l).length=l.length:=by rw[q_];simp
theorem KE (l:List D):(D.aC l).all AV.aH=true:=by rw[ri];simp[lI]
theorem Hn {sz k h}{ds:List (List D)}{es:List (List AV)}(hh:kC k h ds es)(ho:jy sz es):jy sz (D.aD ds):=by
 intro e he;rw[q_,Wr]at he;obtain⟨d,hd,rfl⟩:=he;refine⟨?_,KE d⟩;obtain⟨i,hi,rfl⟩:=List.getElem_of_mem hd;have hl:=D9 hh;have u:i<es.length:=by omega
 obtain⟨d',C,hf⟩:=Jq hh i es[i] (by simp);have:d'=ds[i]:=by simpa [hi] using C.symm
 subst this;rw[EY,<-D_ hf];exact (ho _ (Vx u)).1
section
variable {k:Nat} {h:eX} {G:Gh} {w:World}
mutual
theorem Gq (g:fO G w h):∀(d:D)(av:AV)(v:Value),Fz k h d av->V G w av v->V (G.aK k) w d.av v
 | .aA i n,av,v,hh,hv=>by simp only[Fz]at hh;subst hh;simp only[D.av];cases hv;exact .aD _ _
 | .aE b,av,v,hh,hv=>by simp only[Fz]at hh;subst hh;simp only[D.av];cases hv;exact .aG _
 | .aF s,av,v,hh,hv=>by simp only[Fz]at hh;subst hh;simp only[D.av];cases hv;exact .aQ _
 | .sl sz ds,av,v,hh,hv=>by
  simp only[Fz]at hh;simp only[D.av];rcases hh with⟨rfl,rfl⟩ | ⟨t,c,es,rfl,ht,hf⟩ | ⟨n,off,cap,row,gr,rfl,a1,u,Z,hf⟩
  ·cases hv;exact .aF _ _ _
  ·have hl:=D9 hf;cases hv with
   | aF=>have:ds=[]:=U7 (by simpa using hl.symm);subst this;exact .aF _ _ _
   | aE _ _ _ _ a cap f Z hcl O hp a2 hc hV=>
    have:=V.aE (G:=G.aK k) (w:=w) 0 false sz (D.aD ds) a cap f (by rw[wS];omega) (λe=>by cases e) O (λW=>?_) (Hn hf a2)
     (λi j c hj=>?_) (λi j c hj=>?_)
    ·rw[wS,<-hl]at this;exact this
    ·have C:es≠[]:=by rintro rfl;have:ds=[]:=U7 (by simpa using hl.symm);subst this;exact W rfl
     have M:=hp C;rcases ht with rfl | ht | he;·exact .inl M
     ·cases t with
      | zero=>omega
      | succ t=>exact .inr ⟨t,by omega,.inr M⟩
     ·exact absurd he C
    ·obtain⟨c0,h0,_⟩:=uX g ds es hf i j c hj;exact hc i j c0 h0
    ·obtain⟨c0,h0,h1⟩:=uX g ds es hf i j c hj;exact h1 _ (hV i j c0 h0)
  ·generalize hlen:ds.length=len at hv;cases hv with
   | aH=>have:ds=[]:=U7 hlen;subst this;exact .aF _ _ _
   | aC _ _ _ _ _ c ty m b hn hb hl hcap hs hm=>
    subst hlen;obtain⟨⟨cells,ty',a3,h1,h2,h3⟩,U⟩:=g.aC n sz row gr b u hb;have I:jy sz ((row.drop off).take ds.length):=λe he=>U e (VC (VR he));have key:∀(i j:Nat)(c0:AV),gw ((row.drop off).take ds.length) i j=some c0->gw row (off+i) j=some c0:=by
     intro i j c0 hj;simp only[gw]at hj ⊢;rw[VZ]at hj;split at hj;·rwa [Vt]at hj
     ·simp at hj
    have:=V.aE (G:=G.aK k) (w:=w) 0 false sz (D.aD ds) ⟨b,off*sz,none⟩ c (λi j=>cells.getD ((off+i)*sz+j) undef) (by rw[wS];exact hl) (λe=>by cases e) (λ_=>rfl)
     (λ_=>.inr ⟨n,a1,.inl ⟨g.aN u hb,hb⟩⟩) (Hn hf I) (λi j c hj=>?_) (λi j c hj=>?_)
    ·rw[wS]at this;exact this
    ·obtain⟨c0,h0,_⟩:=uX g ds _ hf i j c hj;obtain⟨v0,E,_⟩:=h3 _ j c0 (key i j c0 h0);simp only[World.cell?,a3,Option.isSome_none,Vn,VI];rw[show off*sz+(i*sz+j)=(off+i)*sz+j by rw[WI];omega,E];simp[E]
    ·obtain⟨c0,h0,a5⟩:=uX g ds _ hf i j c hj;obtain⟨v0,E,a4⟩:=h3 _ j c0 (key i j c0 h0);have:cells.getD ((off+i)*sz+j) undef=v0:=by simp[E]
     rw[this];exact a5 _ a4
theorem Gp (g:fO G w h):∀(ds:List D)(l:List AV),lC k h ds l->∀(j:Nat)(c:AV),(D.aC ds)[j]?=some c->∃c0,l[j]?=some c0/\∀v,V G w c0 v->V (G.aK k) w c v
 | [],l,hh,j,c,hj=>by simp[D.aC]at hj
 | d :: ds,l,hh,j,c,hj=>by
  simp only[lC]at hh;obtain⟨a,r,rfl,h1,h2⟩:=hh;simp only[D.aC]at hj;cases j with
  | zero=>simp at hj;subst hj;exact⟨a,rfl,λv hv=>Gq g d a v h1 hv⟩
  | succ j=>exact Gp g ds r h2 j c (by simpa using hj)
theorem uX (g:fO G w h):∀(ds:List (List D)) (es:List (List AV)),kC k h ds es->∀(i j:Nat)(c:AV),gw (D.aD ds) i j=some c->∃c0,gw es i j=some c0/\∀v,V G w c0 v->V (G.aK k) w c v
 | [],es,hh,i,j,c,hj=>by simp[D.aD,gw]at hj
 | d :: ds,es,hh,i,j,c,hj=>by
  simp only[kC]at hh;obtain⟨a,r,rfl,h1,h2⟩:=hh;simp only[D.aD]at hj;cases i with
  | zero=>exact Gp g d a h1 j c (by simpa [gw] using hj)
  | succ i=>exact uX g ds r h2 i j c (by simpa [gw] using hj)
end
end
theorem gU.d {k h r}{d:D}(hh:Fz k h d r):gU k h r d.av:=λ_ _ v g hv=>Gq g d r v hh hv
theorem gU.aG {k h}{l l':List AV}(hl:l'.length=l.length) (hh:∀(j:Nat)(c':AV),l'[j]?=some c'->∃c,l[j]?=some c/\gU k h c c'):gU k h (.aF l) (.aF l'):=by
 intro G w v g hv;cases hv with
 | aJ _ vs hl' hV=>refine .aJ _ _ (hl.trans hl') λj c v hc hv=>?_;obtain⟨c0,h0,h1⟩:=hh j c hc;exact h1 G w v g (hV j c0 v h0 hv)
theorem gU.aH {k h}{l l':List AV}(hl:l'.length=l.length) (hh:∀(j:Nat)(c':AV),l'[j]?=some c'->∃c,l[j]?=some c/\gU k h c c'):gU k h (.aI l) (.aI l'):=by
 intro G w v g hv;cases hv with
 | aM _ vs hl' hV=>refine .aM _ _ (hl.trans hl') λj c v hc hv=>?_;obtain⟨c0,h0,h1⟩:=hh j c hc;exact h1 G w v g (hV j c0 v h0 hv)
theorem gU.aC {k h a a' b b'}(h1:gU k h a a')(h2:gU k h b b'):gU k h (.aI [a,b]) (.aI [a',b']):=by
 refine .aH rfl λj c hj=>?_;match j with
 | 0=>simp at hj;subst hj;exact⟨a,rfl,h1⟩
 | 1=>simp at hj;subst hj;exact⟨b,rfl,h2⟩
 | j+2=>simp at hj
theorem gU.aA {k h l}{ds:List D}(hh:lC k h ds l):gU k h (.aF l) (.aF (D.aC ds)):=by
 refine .aG (by rw[EY,D_ hh]) λj c hj=>?_;have:∃c0,l[j]?=some c0/\∃d,ds[j]?=some d/\c=d.av/\Fz k h d c0:=by
  induction ds generalizing l j with
  | nil=>simp[D.aC]at hj
  | cons d ds ih=>
   simp only[lC]at hh;obtain⟨a,r,rfl,h1,h2⟩:=hh;simp only[D.aC]at hj;cases j with
   | zero=>simp at hj;subst hj;exact⟨a,rfl,d,rfl,rfl,h1⟩
   | succ j=>simpa using ih h2 j (by simpa using hj)
 obtain⟨c0,h0,d,_,rfl,hf⟩:=this;exact⟨c0,h0,gU.d hf⟩
theorem Qb {H:Type}{enc:TypeId×Value->H}{P:Program}{f:Func}{s:ChangeSpec}{apart O u again:Bool}{W W':World}{args:Array Value}{v:Value}{ds gs:List (DataW H)}{e pa pv:List MemPlace}
  (hW:DataW.Whole enc P f.params.toList s.vars apart W args.toList ds gs e)
  (I:∀(b:Nat)(sp:Nat->Bool)(hd:Bool),DataW.TrodAll enc P W' b sp hd f.resultTypes.toList (v.resultList f.resultTypes.size) (s.fn H (ds++gs)).results [])
  (E:∀sp:Nat->Bool,(∀p∈e,sp p.block=true)->DataW.TrodAll enc P W' 0 sp true f.params.toList args.toList (s.fn H (ds++gs)).args pa)
  (C:∀sp:Nat->Bool,(∀p∈e,sp p.block=true)->DataW.TrodVars enc P W' sp s.vars (s.fn H (ds++gs)).vars pv)
  (U:e=pa++pv) (hk:W.keptBut W' (·∈e)) (a1:∀a,a.block<W.heap.size->W'.frozen? a=W.frozen? a)
  (Z:∀(j:Nat)(t:TypeId)(r:Value),f.resultTypes[j]?=some t->(v.resultList f.resultTypes.size)[j]?=some r->Value.okWide P W' .any 0 t r):
  s.post enc P f apart O u again W args v W':=by
 have hlt:=λp hp=>hW.lt p hp;have M:∀p∈e,(λb=>decide (b<W.heap.size)) p.block=true:=λp hp=>by simpa using hlt p hp
 refine⟨ds,gs,e,[],pa,pv,hW,I _ _ _,E _ M,C _ M,World.keptBut_mono (λp hp=>⟨hp,?_⟩) hk,λ_=>?_⟩;·rw[U,VK]at hp;exact Or.inr hp
 ·obtain⟨_,_,_,_,_,hz,hn⟩:=hW;refine⟨Z,_,_,([]++pa)++pv,⟨[]++pa,pv,Go.ChangeShapes.trodAll_append (E _ (λ_ _=>rfl)) (I _ _ _),C _ (λ_ _=>rfl),rfl,?_,?_⟩,?_⟩
  ·intro b off hp;have hm:MemPlace.cell b off∈e:=by rw[U];simpa using hp
   rw[a1 _ (hlt _ hm)];exact hz b off hm
  ·intro ha;have:=hn ha;rw[U]at this;simpa using this
  ·intro p hp _;rw[U];simpa using hp
theorem eW.aN {h h':eX}(x:eW eZ h h'):∃j,h'=h++j:=by
 refine⟨h'.drop h.length,?_⟩;apply VM;intro m;rcases WB m h.length with hm | hm;·rw[Vy hm];exact x.2 m hm (λy=>y)
 ·rw[Vp hm,Vt];congr 1;omega
section
variable {F:Nat->Prop} {h:eX} {G:Gh} {w:World}
end
theorem MT (dep:Nat->Nat->Bool)(lo i:Nat)(l:List (Nat×Nat×e_))(h:eX):
  mC dep lo 3 i l h=((((l.any λx=>dep i x.1 && x.2.1 == lo) || mV h[lo]?) && ((l.any λx=>dep i x.1 && x.2.1 == lo+1) || mV h[lo+1]?)) && ((l.any λx=>dep i x.1 && x.2.1 == lo+1+1) || mV h[lo+1+1]?)):=by
 simp[mC,List.range_succ,Bool.and_assoc,WG]
attribute [go_sem] MT
end Glb
