/-
  A library of its own.
-/
import Derived.Test.YtdeiamnhnfmilaaGreatGlbLibD
set_option linter.unusedSimpArgs false
set_option linter.unusedVariables false
namespace Glb
open Go
def Gh.aK (G:Gh)(k:Nat):Gh:=
 {G with N:=k,aD:=λn=>G.aD n/\n<k,aF:=λn b=>G.aF n b/\n<k,S:=λb=>G.S b\/∃n,k<=n/\((G.aD n/\G.aA n=some b)\/G.aF n b)}
theorem Gh.aR (G:Gh)(k:Nat)(w:World):ib (G.aN k) w (G.aK k) w where
 N:=Uy _
 aA _ _ _ h:=h
 aF _ _ h:=h
 aC t b h:=by
  cases t with
  | zero=>exact .inl h
  | succ n=>exact h
 aD _ _ _:=rfl
 aE _ _:=rfl
theorem V.aX {G w av v k}(h:V G w av v)(hb:av.aJ k=true):V (G.aK k) w av v:=(h.aV hb).aA (G.aR k w)
def gY (k:Nat)(h:eW)(r r':AV):Prop:=∀(G:Gh)(w:World)(v:Value),fO G w h->V G w r v->V (G.aK k) w r' v
theorem gY.aF {k h r}(hb:r.aJ k=true):gY k h r r:=λ_ _ _ _ hv=>hv.aX hb
theorem gY.aC {k h}(i:IntKind)(n:Int):gY k h (.aA i n) (.aA i n):=gY.aF rfl
theorem gY.aE {k h}(b:Bool):gY k h (.aE b) (.aE b):=gY.aF rfl
def IC (k:Nat)(h:eW)(es es':List (List AV)):Prop:=es'.length=es.length/\∀i j c',gn es' i j=some c'->∃c,gn es i j=some c/\gY k h c c'
structure ud (h h' h'':eW):Prop where
 aE:h.length<=h'.length
 aC:h''.length=h.length
 aA:∀m,m<h.length->(h'[m]?=h[m]?/\h''[m]?=h[m]?) \/
  ∃sz0 es0 g0 sz es es' g,h[m]?=some (some (.aA sz0 es0 g0))/\h'[m]?=some (some (.aA sz es g))/\h''[m]?=some (some (.aA sz es' g))/\jv sz es'/\IC h.length h' es es'
theorem ud.aD {h h':eW}(x:eV eY h h'):ud h h' h:=⟨x.1,rfl,λm hm=>.inl ⟨x.2 m hm (λy=>y),rfl⟩⟩
theorem fO.bE {G w h G' w' h' h''} (g : fO G w h) (g' : fO G' w' h') (s : gy G w G' w') (hx : ud h h' h'') :
    fO (G'.aK h.length) w' h'' /\ gy G w (G'.aK h.length) w' := by
  have hN : h.length = G.N := g.aA;have k : ib G w (G'.aK h.length) w' := by
    refine ⟨Nat.le_of_eq hN.symm, λn b hn hb => s.aA.aA n b hn hb, λn hn hb => s.aA.aF n hn hb, λt b hp => ?_, s.aA.aD, s.aA.aE⟩;have h1 := s.aA.aC t b hp;cases t with
    | zero => exact .inl h1
    | succ n => exact ⟨h1, by have := g.aS hp; omega⟩
  have E : ∀ n, n < h.length -> ((∃ sz es gr, h'[n]? = some (some (.aA sz es gr))) ↔ ∃ sz es gr, h''[n]? = some (some (.aA sz es gr))) := by
    intro n hn;rcases hx.aA n hn with ⟨h1, h2⟩ | ⟨_, _, _, sz, es, Z, gr, h0, h1, h2, _⟩
    · rw [h1, h2]
    · exact ⟨λ_ => ⟨_, _, _, h2⟩, λ_ => ⟨_, _, _, h1⟩⟩
  have lt : ∀ {n : Nat} {x : Option e_}, h''[n]? = some x -> n < h.length := λhn => by rw [<- hx.aC]; exact (Up.1 hn).1
  have u : ∀ {n b m : Nat}, n < h.length -> h.length <= m -> ((G'.aD m /\ G'.aA m = some b) \/ G'.aF m b) -> (G'.aD n /\ G'.aA n = some b) \/ G'.aF n b -> False := by
    intro n b m hn hm h1 h2;rcases h1 with ⟨a1, a2⟩ | a1 <;> rcases h2 with ⟨b1, b2⟩ | b1
    · have := g'.inj n m b b1 a1 b2 a2; omega
    · exact g'.aF m n b a1 a2 b1
    · exact g'.aF n m b b1 b2 a1
    · have := g'.aL n m b b1 a1; omega
  refine ⟨{ aA := hx.aC, aD := ?_, aE := ?_, inj := fun a b c h1 h2 => g'.inj a b c h1.1 h2.1, aF := fun a b c h1 hl h2 => g'.aF a b c h1.1 hl h2.1,
            aG := ?_, aL := λa b c h1 h2 => g'.aL a b c h1.1 h2.1, aM := ?_, aH := λa b h1 => g'.aH a b h1.1,
            aJ := ?_, aC := ?_, aI := ?_, aK := g'.aK }, ?_⟩
  · intro n
    constructor
    · rintro ⟨hl, hn⟩
      obtain ⟨hh, hb⟩ := (g'.aD n).1 hl;exact ⟨(E n hn).1 hh, hb⟩
    · rintro ⟨⟨a, b, c, hh⟩, hb⟩
      have hn := lt hh;exact ⟨(g'.aD n).2 ⟨(E n hn).2 ⟨a, b, c, hh⟩, hb⟩, hn⟩
  · rintro n b ⟨ht, hn⟩
    have h1 := g'.aE n b ht;rcases hx.aA n hn with ⟨h2, h3⟩ | ⟨_, _, _, sz, es, Z, gr, h0, h2, h3, _⟩
    · rw [h3, <- h2]; exact h1
    · rw [h2] at h1; cases h1
  · rintro n b ⟨hl, hn⟩ hb (hs | ⟨m, hm, h1⟩)
    · exact g'.aG n b hl hb hs
    · exact u hn hm h1 (.inl ⟨hl, hb⟩)
  · rintro n b ⟨ht, hn⟩ (hs | ⟨m, hm, h1⟩)
    · exact g'.aM n b ht hs
    · exact u hn hm h1 (.inr ht)
  · rintro b (hs | ⟨m, hm, h1⟩)
    · exact g'.aJ b hs
    · rcases h1 with ⟨a1, a2⟩ | a1
      · exact g'.aO a1 a2
      · exact g'.aH m b a1
  · intro n sz es gr b hh hb
    have hn := lt hh;rcases hx.aA n hn with ⟨h2, h3⟩ | ⟨_, _, _, a3, a9, U, a8, h0, h2, h3, W, I, hf⟩
    · rw [h3] at hh
      obtain ⟨⟨cells, ty, hc, h1, O, M⟩, hs⟩ := g'.aC n sz es gr b (by rw [h2]; exact hh) hb;have a5 : G.aA n = some b := by rw [<- s.aF n (by omega)]; exact hb
      obtain ⟨⟨cells0, ty0, hc0, _, _, a7⟩, _⟩ := g.aC n sz es gr b hh a5;refine ⟨⟨cells, ty, hc, h1, O, λi j c hj => ?_⟩, hs⟩;obtain ⟨v, hv, hV⟩ := M i j c hj;obtain ⟨v0, _, a6⟩ := a7 i j c hj;exact ⟨v, hv, hV.aX (by rw [hN]; exact a6.aY g)⟩
    · rw [h3] at hh
      cases hh;obtain ⟨⟨cells, ty, hc, h1, O, M⟩, hs⟩ := g'.aC n _ _ _ b h2 hb;refine ⟨⟨cells, ty, hc, by rw [I]; exact h1, λe => by rw [I]; exact O e, λi j c hj => ?_⟩, W⟩;obtain ⟨c0, e0, f0⟩ := hf i j c hj;obtain ⟨v, hv, hV⟩ := M i j c0 e0;exact ⟨v, hv, f0 G' w' v g' hV⟩
  · intro n sz es gr hh hb
    have hn := lt hh;rcases hx.aA n hn with ⟨h2, h3⟩ | ⟨_, _, _, a3, a9, U, a8, h0, h2, h3, W, I, hf⟩
    · exact g'.aI n sz es gr (by rw [h2, <- h3]; exact hh) hb
    · rw [h3] at hh
      cases hh;have := g'.aI n _ _ _ h2 hb;subst this;exact Uz (by simpa using I)
  · refine ⟨k, ⟨λb hb => .inl (s.S.1 b hb), ?_⟩, s.aF, s.aJ, s.aC, s.aE, λb hb => ?_, s.aH⟩
    · rintro b (hb | ⟨n, hn, h1⟩)
      · exact s.S.2 b hb
      · right
        apply UC;intro hlt;have ho : G'.aI b := h1.elim (λh => .inl ⟨n, h⟩) (λh => .inr ⟨n, h⟩);rcases (s.aG b ho).resolve_right hlt with ⟨m, a1, a2⟩ | ⟨m, a1⟩
        · obtain ⟨⟨a, c, d, hh⟩, _⟩ := (g.aD m).1 a1
          have hm := (Up.1 hh).1;have hl : G'.aA m = some b := by rw [s.aF m (by omega)]; exact a2
          have a4 : ∃ sz es gr, h'[m]? = some (some (.aA sz es gr)) := by
            rcases hx.aA m hm with ⟨h2, h3⟩ | ⟨_, _, _, sz, es, Z, gr, h0, h2, h3, _⟩
            · exact ⟨_, _, _, h2.trans hh⟩
            · exact ⟨_, _, _, h2⟩
          exact u hm hn h1 (.inl ⟨(g'.aD m).2 ⟨a4, b, hl⟩, hl⟩)
        · have hm := g.aP (g.aE m b a1)
          exact u (by omega) hn h1 (.inr (s.aA.aC (m + 1) b a1))
    · refine s.aG b ?_
      rcases hb with ⟨n, hn, hl⟩ | ⟨n, hn⟩
      · exact .inl ⟨n, hn.1, hl⟩
      · exact .inr ⟨n, hn.1⟩
theorem fC.aD {P:Program}{f:FuncId}{I:List AV}{h:eW}{K K':AV->eW->Prop}(hc:fC P f I h K)
  (hk:∀r h',K r h'->∃r' u,ud h h' u/\gY h.length h' r r'/\K' r' u):fC P f I h K':=by
 intro G w vs hg hv;refine (hc G w vs hg hv).mono ?_;rintro e w' ⟨v,r,h',G',rfl,hK,E,hV,hs⟩;obtain⟨r',u,hx,hr,M⟩:=hk r h' hK;obtain⟨g2,s2⟩:=hg.bE E hs hx;exact⟨v,r',u,_,rfl,M,g2,hr _ _ _ E hV,s2⟩
theorem fC.aC {P:Program}{f:FuncId}{e:List AV}{h:eW}{K:AV->eW->Prop}{K':AV->Prop}(hc:fC P f e h K)
  (hk:∀r h',K r h'->eV eY h h'/\∃r',gY h.length h' r r'/\K' r'):fC P f e h λr h'=>K' r/\h'=h:=
 hc.aD λr h' hK=>let⟨hx,r',hr,hK'⟩:=hk r h' hK;⟨r',h,ud.aD hx,hr,hK',rfl⟩
mutual
def Fz (k:Nat)(h:eW):D->AV->Prop
 | .aA i n,av=>av=.aA i n
 | .aE b,av=>av=.aE b
 | .aF s,av=>av=.aQ s
 | .sl sz ds,av=>(av=.aD/\ds=[])\/(∃t c es,av=.aM t c sz es/\(t=0\/k<t\/es=[])/\kM k h ds es) \/
   ∃n off cap row g,av=.aG n sz off ds.length cap/\k<=n/\h[n]?=some (some (.aA sz row g))/\off+ds.length<=row.length/\kM k h ds ((row.drop off).take ds.length)
def lO (k:Nat)(h:eW):List D->List AV->Prop
 | [],l=>l=[]
 | d :: ds,l=>∃a r,l=a :: r/\Fz k h d a/\lO k h ds r
def kM (k:Nat)(h:eW):List (List D)->List (List AV)->Prop
 | [],l=>l=[]
 | e :: ds,l=>∃a r,l=a :: r/\lO k h e a/\kM k h ds r
end
mutual
theorem Mk (k:Nat)(h:eW):∀d:D,Fz k h d d.av
 | .aA i n=>by simp only[Fz,D.av]
 | .aE b=>by simp only[Fz,D.av]
 | .aF s=>by simp only[Fz,D.av]
 | .sl sz es=>by simp only[Fz,D.av];exact .inr (.inl ⟨0,false,_,rfl,.inl rfl,FC k h es⟩)
theorem BQ (k:Nat)(h:eW):∀l:List D,lO k h l (D.aC l)
 | []=>by simp only[lO,D.aC]
 | d :: r=>by simp only[lO,D.aC];exact⟨_,_,rfl,Mk k h d,BQ k h r⟩
theorem FC (k:Nat)(h:eW):∀l:List (List D),kM k h l (D.aD l)
 | []=>by simp only[kM,D.aD]
 | d :: r=>by simp only[kM,D.aD];exact⟨_,_,rfl,BQ k h d,FC k h r⟩
end
mutual
theorem eX.fz:∀(d:D){F:Nat->Prop}{k:Nat}{h:eW}(_:∀m,F m->k<=m)(av:AV),eX d F h av->Fz k h d av
 | .aA i n,F,k,h,hF,av,ho=>by simp only[eX]at ho;simp only[Fz];exact ho
 | .aE b,F,k,h,hF,av,ho=>by simp only[eX]at ho;simp only[Fz];exact ho
 | .aF s,F,k,h,hF,av,ho=>by simp only[eX]at ho;simp only[Fz];exact ho
 | .sl sz ds,F,k,h,hF,av,ho=>by
  simp only[eX]at ho;simp only[Fz];rcases ho with⟨rfl,rfl⟩ | ⟨t,c,rfl,rfl⟩ | ⟨n,off,cap,row,g,rfl,h1,h2,h3,_,h5⟩
  ·exact .inl ⟨rfl,rfl⟩
  ·exact .inr (.inl ⟨t,c,[],rfl,.inr (.inr rfl),by simp only[kM]⟩)
  ·exact .inr (.inr ⟨n,off,cap,row,g,rfl,hF n h1,h2,h3,fG.fz ds (λm hm=>hF m hm.1) _ h5⟩)
theorem fI.fz:∀(ds:List D){F:Nat->Prop}{k:Nat}{h:eW}(_:∀m,F m->k<=m)(l:List AV),fI ds F h l->lO k h ds l
 | [],F,k,h,hF,l,ho=>by simp only[fI]at ho;simp only[lO];exact ho
 | d :: ds,F,k,h,hF,l,ho=>by simp only[fI]at ho;simp only[lO];obtain⟨a,r,rfl,h1,h2⟩:=ho;exact⟨a,r,rfl,eX.fz d hF a h1,fI.fz ds hF r h2⟩
theorem fG.fz:∀(ds:List (List D)) {F:Nat->Prop} {k:Nat} {h:eW} (_:∀m,F m->k<=m) (l:List (List AV)),fG ds F h l->kM k h ds l
 | [],F,k,h,hF,l,ho=>by simp only[fG]at ho;simp only[kM];exact ho
 | d :: ds,F,k,h,hF,l,ho=>by simp only[fG]at ho;simp only[kM];obtain⟨a,r,rfl,h1,h2⟩:=ho;exact⟨a,r,rfl,fI.fz d hF a h1,fG.fz ds hF r h2⟩
end
theorem Dq {k h}:∀{ds:List D}{l:List AV},lO k h ds l->l.length=ds.length:=by
 intro ds;induction ds with
 | nil=>intro l hh;simp only[lO]at hh;subst hh;rfl
 | cons e ds ih=>intro l hh;simp only[lO]at hh;obtain⟨a,r,rfl,_,hh⟩:=hh;simp[ih hh]
theorem Dp {k h}:∀{ds:List (List D)} {l:List (List AV)},kM k h ds l->l.length=ds.length:=by
 intro ds;induction ds with
 | nil=>intro l hh;simp only[kM]at hh;subst hh;rfl
 | cons e ds ih=>intro l hh;simp only[kM]at hh;obtain⟨a,r,rfl,_,hh⟩:=hh;simp[ih hh]
theorem IE {k h}:∀{ds:List (List D)} {es:List (List AV)},kM k h ds es->∀(i:Nat)(e:List AV),es[i]?=some e->∃d,ds[i]?=some d/\lO k h d e:=by
 intro ds;induction ds with
 | nil=>intro es hh i e he;simp only[kM]at hh;subst hh;simp at he
 | cons d ds ih=>
  intro es hh i e he;simp only[kM]at hh;obtain⟨a,r,rfl,h1,h2⟩:=hh;cases i with
  | zero=>simp at he;subst he;exact⟨d,rfl,h1⟩
  | succ i=>exact ih h2 i e (by simpa using he)
theorem Ek (l:List D):(D.aC l).length=l.length:=by rw[ri];simp
theorem wF (l:List (List D)):(D.aD l).length=l.length:=by rw[sQ];simp
theorem JO (l:List D):(D.aC l).all AV.aH=true:=by rw[ri];simp[lS]
theorem Gx {sz k h}{ds:List (List D)}{es:List (List AV)}(hh:kM k h ds es)(ho:jv sz es):jv sz (D.aD ds):=by
 intro e he;rw[sQ,Vz]at he;obtain⟨d,hd,rfl⟩:=he;refine⟨?_,JO d⟩;obtain⟨i,hi,rfl⟩:=List.getElem_of_mem hd;have hl:=Dp hh;have u:i<es.length:=by omega
 obtain⟨d',E,hf⟩:=IE hh i es[i] (by simp);have:d'=ds[i]:=by simpa [hi] using E.symm
 subst this;rw[Ek,<-Dq hf];exact (ho _ (UT u)).1
section
variable {k:Nat} {h:eW} {G:Gh} {w:World}
mutual
theorem FE (g:fO G w h):∀(d:D)(av:AV)(v:Value),Fz k h d av->V G w av v->V (G.aK k) w d.av v
 | .aA i n,av,v,hh,hv=>by simp only[Fz]at hh;subst hh;simp only[D.av];cases hv;exact .aC _ _
 | .aE b,av,v,hh,hv=>by simp only[Fz]at hh;subst hh;simp only[D.av];cases hv;exact .aF _
 | .aF s,av,v,hh,hv=>by simp only[Fz]at hh;subst hh;simp only[D.av];cases hv;exact .aQ _
 | .sl sz ds,av,v,hh,hv=>by
  simp only[Fz]at hh;simp only[D.av];rcases hh with⟨rfl,rfl⟩ | ⟨t,c,es,rfl,ht,hf⟩ | ⟨n,off,cap,row,gr,rfl,a2,u,a1,hf⟩
  ·cases hv;exact .aG _ _ _
  ·have hl:=Dp hf;cases hv with
   | aG=>have:ds=[]:=Uz (by simpa using hl.symm);subst this;exact .aG _ _ _
   | aE _ _ _ _ a cap f a1 hcl U hp a3 hc hV=>
    have:=V.aE (G:=G.aK k) (w:=w) 0 false sz (D.aD ds) a cap f (by rw[wF];omega) (λe=>by cases e) U (λZ=>?_) (Gx hf a3)
     (λi j c hj=>?_) (λi j c hj=>?_)
    ·rw[wF,<-hl]at this;exact this
    ·have E:es≠[]:=by rintro rfl;have:ds=[]:=Uz (by simpa using hl.symm);subst this;exact Z rfl
     have O:=hp E;rcases ht with rfl | ht | he;·exact .inl O
     ·cases t with
      | zero=>omega
      | succ t=>exact .inr ⟨t,by omega,.inr O⟩
     ·exact absurd he E
    ·obtain⟨c0,h0,_⟩:=uR g ds es hf i j c hj;exact hc i j c0 h0
    ·obtain⟨c0,h0,h1⟩:=uR g ds es hf i j c hj;exact h1 _ (hV i j c0 h0)
  ·generalize hlen:ds.length=len at hv;cases hv with
   | aH=>have:ds=[]:=Uz hlen;subst this;exact .aG _ _ _
   | aD _ _ _ _ _ c ty m b hn hb hl hcap hs hm=>
    subst hlen;obtain⟨⟨cells,ty',a4,h1,h2,h3⟩,W⟩:=g.aC n sz row gr b u hb;have M:jv sz ((row.drop off).take ds.length):=λe he=>W e (UX (U9 he));have key:∀(i j:Nat)(c0:AV),gn ((row.drop off).take ds.length) i j=some c0->gn row (off+i) j=some c0:=by
     intro i j c0 hj;simp only[gn]at hj ⊢;rw[Vp]at hj;split at hj;·rwa [UR]at hj
     ·simp at hj
    have:=V.aE (G:=G.aK k) (w:=w) 0 false sz (D.aD ds) ⟨b,off*sz,none⟩ c (λi j=>cells.getD ((off+i)*sz+j) undef) (by rw[wF];exact hl) (λe=>by cases e) (λ_=>rfl)
     (λ_=>.inr ⟨n,a2,.inl ⟨g.aN u hb,hb⟩⟩) (Gx hf M) (λi j c hj=>?_) (λi j c hj=>?_)
    ·rw[wF]at this;exact this
    ·obtain⟨c0,h0,_⟩:=uR g ds _ hf i j c hj;obtain⟨v0,I,_⟩:=h3 _ j c0 (key i j c0 h0);simp only[World.cell?,a4,Option.isSome_none,UQ,Vd];rw[show off*sz+(i*sz+j)=(off+i)*sz+j by rw[V8];omega,I];simp[I]
    ·obtain⟨c0,h0,a6⟩:=uR g ds _ hf i j c hj;obtain⟨v0,I,a5⟩:=h3 _ j c0 (key i j c0 h0);have:cells.getD ((off+i)*sz+j) undef=v0:=by simp[I]
     rw[this];exact a6 _ a5
theorem FD (g:fO G w h):∀(ds:List D)(l:List AV),lO k h ds l->∀(j:Nat)(c:AV),(D.aC ds)[j]?=some c->∃c0,l[j]?=some c0/\∀v,V G w c0 v->V (G.aK k) w c v
 | [],l,hh,j,c,hj=>by simp[D.aC]at hj
 | d :: ds,l,hh,j,c,hj=>by
  simp only[lO]at hh;obtain⟨a,r,rfl,h1,h2⟩:=hh;simp only[D.aC]at hj;cases j with
  | zero=>simp at hj;subst hj;exact⟨a,rfl,λv hv=>FE g d a v h1 hv⟩
  | succ j=>exact FD g ds r h2 j c (by simpa using hj)
theorem uR (g:fO G w h):∀(ds:List (List D)) (es:List (List AV)),kM k h ds es->∀(i j:Nat)(c:AV),gn (D.aD ds) i j=some c->∃c0,gn es i j=some c0/\∀v,V G w c0 v->V (G.aK k) w c v
 | [],es,hh,i,j,c,hj=>by simp[D.aD,gn]at hj
 | d :: ds,es,hh,i,j,c,hj=>by
  simp only[kM]at hh;obtain⟨a,r,rfl,h1,h2⟩:=hh;simp only[D.aD]at hj;cases i with
  | zero=>exact FD g d a h1 j c (by simpa [gn] using hj)
  | succ i=>exact uR g ds r h2 i j c (by simpa [gn] using hj)
end
end
theorem gY.d {k h r}{d:D}(hh:Fz k h d r):gY k h r d.av:=λ_ _ v g hv=>FE g d r v hh hv
theorem gY.aG {k h}{l l':List AV}(hl:l'.length=l.length) (hh:∀(j:Nat)(c':AV),l'[j]?=some c'->∃c,l[j]?=some c/\gY k h c c'):gY k h (.aF l) (.aF l'):=by
 intro G w v g hv;cases hv with
 | aJ _ vs hl' hV=>refine .aJ _ _ (hl.trans hl') λj c v hc hv=>?_;obtain⟨c0,h0,h1⟩:=hh j c hc;exact h1 G w v g (hV j c0 v h0 hv)
theorem gY.aH {k h}{l l':List AV}(hl:l'.length=l.length) (hh:∀(j:Nat)(c':AV),l'[j]?=some c'->∃c,l[j]?=some c/\gY k h c c'):gY k h (.aI l) (.aI l'):=by
 intro G w v g hv;cases hv with
 | aM _ vs hl' hV=>refine .aM _ _ (hl.trans hl') λj c v hc hv=>?_;obtain⟨c0,h0,h1⟩:=hh j c hc;exact h1 G w v g (hV j c0 v h0 hv)
theorem gY.aD {k h a a' b b'}(h1:gY k h a a')(h2:gY k h b b'):gY k h (.aI [a,b]) (.aI [a',b']):=by
 refine .aH rfl λj c hj=>?_;match j with
 | 0=>simp at hj;subst hj;exact⟨a,rfl,h1⟩
 | 1=>simp at hj;subst hj;exact⟨b,rfl,h2⟩
 | j+2=>simp at hj
theorem gY.aA {k h l}{ds:List D}(hh:lO k h ds l):gY k h (.aF l) (.aF (D.aC ds)):=by
 refine .aG (by rw[Ek,Dq hh]) λj c hj=>?_;have:∃c0,l[j]?=some c0/\∃d,ds[j]?=some d/\c=d.av/\Fz k h d c0:=by
  induction ds generalizing l j with
  | nil=>simp[D.aC]at hj
  | cons d ds ih=>
   simp only[lO]at hh;obtain⟨a,r,rfl,h1,h2⟩:=hh;simp only[D.aC]at hj;cases j with
   | zero=>simp at hj;subst hj;exact⟨a,rfl,d,rfl,rfl,h1⟩
   | succ j=>simpa using ih h2 j (by simpa using hj)
 obtain⟨c0,h0,d,_,rfl,hf⟩:=this;exact⟨c0,h0,gY.d hf⟩
theorem Pl {H:Type}{enc:TypeId×Value->H}{P:Program}{f:Func}{s:ChangeSpec}{apart U u again:Bool}{W W':World}{args:Array Value}{v:Value}{ds gs:List (DataW H)}{e pa pv:List MemPlace}
  (hW:DataW.Whole enc P f.params.toList s.vars apart W args.toList ds gs e)
  (M:∀(b:Nat)(sp:Nat->Bool)(hd:Bool),DataW.TrodAll enc P W' b sp hd f.resultTypes.toList (v.resultList f.resultTypes.size) (s.fn H (ds++gs)).results [])
  (I:∀sp:Nat->Bool,(∀p∈e,sp p.block=true)->DataW.TrodAll enc P W' 0 sp true f.params.toList args.toList (s.fn H (ds++gs)).args pa)
  (E:∀sp:Nat->Bool,(∀p∈e,sp p.block=true)->DataW.TrodVars enc P W' sp s.vars (s.fn H (ds++gs)).vars pv)
  (Z:e=pa++pv) (hk:W.keptBut W' (·∈e)) (a2:∀a,a.block<W.heap.size->W'.frozen? a=W.frozen? a)
  (a1:∀(j:Nat)(t:TypeId)(r:Value),f.resultTypes[j]?=some t->(v.resultList f.resultTypes.size)[j]?=some r->Value.okWide P W' .any 0 t r):
  s.post enc P f apart U u again W args v W':=by
 have hlt:=λp hp=>hW.lt p hp;have O:∀p∈e,(λb=>decide (b<W.heap.size)) p.block=true:=λp hp=>by simpa using hlt p hp
 refine⟨ds,gs,e,[],pa,pv,hW,M _ _ _,I _ O,E _ O,World.keptBut_mono (λp hp=>⟨hp,?_⟩) hk,λ_=>?_⟩;·rw[Z,U4]at hp;exact Or.inr hp
 ·obtain⟨_,_,_,_,_,hz,hn⟩:=hW;refine⟨a1,_,_,([]++pa)++pv,⟨[]++pa,pv,Go.ChangeShapes.trodAll_append (I _ (λ_ _=>rfl)) (M _ _ _),E _ (λ_ _=>rfl),rfl,?_,?_⟩,?_⟩
  ·intro b off hp;have hm:MemPlace.cell b off∈e:=by rw[Z];simpa using hp
   rw[a2 _ (hlt _ hm)];exact hz b off hm
  ·intro ha;have:=hn ha;rw[Z]at this;simpa using this
  ·intro p hp _;rw[Z];simpa using hp
theorem eV.aN {h h':eW}(x:eV eY h h'):∃j,h'=h++j:=by
 refine⟨h'.drop h.length,?_⟩;apply Vf;intro m;rcases VX m h.length with hm | hm;·rw[UZ hm];exact x.2 m hm (λy=>y)
 ·rw[U1 hm,UR];congr 1;omega
section
variable {F:Nat->Prop} {h:eW} {G:Gh} {w:World}
end
theorem Md (dep:Nat->Nat->Bool)(lo i:Nat)(l:List (Nat×Nat×e_))(h:eW):
  mF dep lo 3 i l h=((((l.any λx=>dep i x.1 && x.2.1 == lo) || mY h[lo]?) && ((l.any λx=>dep i x.1 && x.2.1 == lo+1) || mY h[lo+1]?)) && ((l.any λx=>dep i x.1 && x.2.1 == lo+1+1) || mY h[lo+1+1]?)):=by
 simp[mF,List.range_succ,Bool.and_assoc,V5]
attribute [go_sem] Md
end Glb
