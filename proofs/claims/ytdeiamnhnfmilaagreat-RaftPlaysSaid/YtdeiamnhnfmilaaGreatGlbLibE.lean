/-
  A library of its own.
-/
import Derived.Test.YtdeiamnhnfmilaaGreatGlbLibD
set_option linter.unusedSimpArgs false
set_option linter.unusedVariables false
namespace Glb
open Go
def Gh.aK (G:Gh)(k:Nat):Gh:=
 {G with N:=k,aC:=λn=>G.aC n/\n<k,aE:=λn b=>G.aE n b/\n<k,S:=λb=>G.S b\/∃n,k<=n/\((G.aC n/\G.aA n=some b)\/G.aE n b)}
theorem Gh.aR (G:Gh)(k:Nat)(w:World):gU (G.aN k) w (G.aK k) w where
 N:=Vg _
 aA _ _ _ h:=h
 aE _ _ h:=h
 aB t b h:=by
  cases t with
  | zero=>exact .inl h
  | succ n=>exact h
 aC _ _ _:=rfl
 aD _ _:=rfl
theorem V.aX {G w av v k}(h:V G w av v)(hb:av.aJ k=true):V (G.aK k) w av v:=(h.aV hb).aA (G.aR k w)
def gM (k:Nat)(h:eZ)(r r':AV):Prop:=∀(G:Gh)(w:World)(v:Value),fS G w h->V G w r v->V (G.aK k) w r' v
theorem gM.aE {k h r}(hb:r.aJ k=true):gM k h r r:=λ_ _ _ _ hv=>hv.aX hb
theorem gM.aB {k h}(i:IntKind)(n:Int):gM k h (.aA i n) (.aA i n):=gM.aE rfl
theorem gM.aD {k h}(b:Bool):gM k h (.aD b) (.aD b):=gM.aE rfl
def Jx (k:Nat)(h:eZ)(es es':List (List AV)):Prop:=es'.length=es.length/\∀i j c',gi es' i j=some c'->∃c,gi es i j=some c/\gM k h c c'
structure tE (h h' h'':eZ):Prop where
 aD:h.length<=h'.length
 aB:h''.length=h.length
 aA:∀m,m<h.length->(h'[m]?=h[m]?/\h''[m]?=h[m]?) \/
  ∃sz0 es0 g0 sz es es' g,h[m]?=some (some (.aA sz0 es0 g0))/\h'[m]?=some (some (.aA sz es g))/\h''[m]?=some (some (.aA sz es' g))/\iT sz es'/\Jx h.length h' es es'
theorem tE.aC {h h':eZ}(x:eY fj h h'):tE h h' h:=⟨x.1,rfl,λm hm=>.inl ⟨x.2 m hm (λy=>y),rfl⟩⟩
theorem fS.bG {G w h G' w' h' h''} (g : fS G w h) (g' : fS G' w' h') (s : gE G w G' w') (hx : tE h h' h'') :
    fS (G'.aK h.length) w' h'' /\ gE G w (G'.aK h.length) w' := by
  have hN : h.length = G.N := g.aA;have k : gU G w (G'.aK h.length) w' := by
    refine ⟨Nat.le_of_eq hN.symm, λn b hn hb => s.aA.aA n b hn hb, λn hn hb => s.aA.aE n hn hb, λt b hp => ?_, s.aA.aC, s.aA.aD⟩;have h1 := s.aA.aB t b hp;cases t with
    | zero => exact .inl h1
    | succ n => exact ⟨h1, by have := g.aS hp; omega⟩
  have C : ∀ n, n < h.length -> ((∃ sz es gr, h'[n]? = some (some (.aA sz es gr))) ↔ ∃ sz es gr, h''[n]? = some (some (.aA sz es gr))) := by
    intro n hn;rcases hx.aA n hn with ⟨h1, h2⟩ | ⟨_, _, _, sz, es, W, gr, h0, h1, h2, _⟩
    · rw [h1, h2]
    · exact ⟨λ_ => ⟨_, _, _, h2⟩, λ_ => ⟨_, _, _, h1⟩⟩
  have lt : ∀ {n : Nat} {x : Option fh}, h''[n]? = some x -> n < h.length := λhn => by rw [<- hx.aB]; exact (U_.1 hn).1
  have u : ∀ {n b m : Nat}, n < h.length -> h.length <= m -> ((G'.aC m /\ G'.aA m = some b) \/ G'.aE m b) -> (G'.aC n /\ G'.aA n = some b) \/ G'.aE n b -> False := by
    intro n b m hn hm h1 h2;rcases h1 with ⟨a1, a2⟩ | a1 <;> rcases h2 with ⟨b1, b2⟩ | b1
    · have := g'.inj n m b b1 a1 b2 a2; omega
    · exact g'.aE m n b a1 a2 b1
    · exact g'.aE n m b b1 b2 a1
    · have := g'.aL n m b b1 a1; omega
  refine ⟨{ aA := hx.aB, aC := ?_, aD := ?_, inj := fun a b c h1 h2 => g'.inj a b c h1.1 h2.1, aE := fun a b c h1 hl h2 => g'.aE a b c h1.1 hl h2.1,
            aF := ?_, aL := λa b c h1 h2 => g'.aL a b c h1.1 h2.1, aM := ?_, aG := λa b h1 => g'.aG a b h1.1,
            aJ := ?_, aB := ?_, aI := ?_, aK := g'.aK }, ?_⟩
  · intro n
    constructor
    · rintro ⟨hl, hn⟩
      obtain ⟨hh, hb⟩ := (g'.aC n).1 hl;exact ⟨(C n hn).1 hh, hb⟩
    · rintro ⟨⟨a, b, c, hh⟩, hb⟩
      have hn := lt hh;exact ⟨(g'.aC n).2 ⟨(C n hn).2 ⟨a, b, c, hh⟩, hb⟩, hn⟩
  · rintro n b ⟨ht, hn⟩
    have h1 := g'.aD n b ht;rcases hx.aA n hn with ⟨h2, h3⟩ | ⟨_, _, _, sz, es, W, gr, h0, h2, h3, _⟩
    · rw [h3, <- h2]; exact h1
    · rw [h2] at h1; cases h1
  · rintro n b ⟨hl, hn⟩ hb (hs | ⟨m, hm, h1⟩)
    · exact g'.aF n b hl hb hs
    · exact u hn hm h1 (.inl ⟨hl, hb⟩)
  · rintro n b ⟨ht, hn⟩ (hs | ⟨m, hm, h1⟩)
    · exact g'.aM n b ht hs
    · exact u hn hm h1 (.inr ht)
  · rintro b (hs | ⟨m, hm, h1⟩)
    · exact g'.aJ b hs
    · rcases h1 with ⟨a1, a2⟩ | a1
      · exact g'.aO a1 a2
      · exact g'.aG m b a1
  · intro n sz es gr b hh hb
    have hn := lt hh;rcases hx.aA n hn with ⟨h2, h3⟩ | ⟨_, _, _, a0, a8, O, a7, h0, h2, h3, U, E, hf⟩
    · rw [h3] at hh
      obtain ⟨⟨cells, ty, hc, h1, M, I⟩, hs⟩ := g'.aB n sz es gr b (by rw [h2]; exact hh) hb;have a4 : G.aA n = some b := by rw [<- s.aE n (by omega)]; exact hb
      obtain ⟨⟨cells0, ty0, hc0, _, _, a6⟩, _⟩ := g.aB n sz es gr b hh a4;refine ⟨⟨cells, ty, hc, h1, M, λi j c hj => ?_⟩, hs⟩;obtain ⟨v, hv, hV⟩ := I i j c hj;obtain ⟨v0, _, a5⟩ := a6 i j c hj;exact ⟨v, hv, hV.aX (by rw [hN]; exact a5.aY g)⟩
    · rw [h3] at hh
      cases hh;obtain ⟨⟨cells, ty, hc, h1, M, I⟩, hs⟩ := g'.aB n _ _ _ b h2 hb;refine ⟨⟨cells, ty, hc, by rw [E]; exact h1, λe => by rw [E]; exact M e, λi j c hj => ?_⟩, U⟩;obtain ⟨c0, e0, f0⟩ := hf i j c hj;obtain ⟨v, hv, hV⟩ := I i j c0 e0;exact ⟨v, hv, f0 G' w' v g' hV⟩
  · intro n sz es gr hh hb
    have hn := lt hh;rcases hx.aA n hn with ⟨h2, h3⟩ | ⟨_, _, _, a0, a8, O, a7, h0, h2, h3, U, E, hf⟩
    · exact g'.aI n sz es gr (by rw [h2, <- h3]; exact hh) hb
    · rw [h3] at hh
      cases hh;have := g'.aI n _ _ _ h2 hb;subst this;exact Vl (by simpa using E)
  · refine ⟨k, ⟨λb hb => .inl (s.S.1 b hb), ?_⟩, s.aE, s.aJ, s.aB, s.aD, λb hb => ?_, s.aG⟩
    · rintro b (hb | ⟨n, hn, h1⟩)
      · exact s.S.2 b hb
      · right
        apply Vm;intro hlt;have ho : G'.aI b := h1.elim (λh => .inl ⟨n, h⟩) (λh => .inr ⟨n, h⟩);rcases (s.aF b ho).resolve_right hlt with ⟨m, a1, a2⟩ | ⟨m, a1⟩
        · obtain ⟨⟨a, c, d, hh⟩, _⟩ := (g.aC m).1 a1
          have hm := (U_.1 hh).1;have hl : G'.aA m = some b := by rw [s.aE m (by omega)]; exact a2
          have a3 : ∃ sz es gr, h'[m]? = some (some (.aA sz es gr)) := by
            rcases hx.aA m hm with ⟨h2, h3⟩ | ⟨_, _, _, sz, es, W, gr, h0, h2, h3, _⟩
            · exact ⟨_, _, _, h2.trans hh⟩
            · exact ⟨_, _, _, h2⟩
          exact u hm hn h1 (.inl ⟨(g'.aC m).2 ⟨a3, b, hl⟩, hl⟩)
        · have hm := g.aP (g.aD m b a1)
          exact u (by omega) hn h1 (.inr (s.aA.aB (m + 1) b a1))
    · refine s.aF b ?_
      rcases hb with ⟨n, hn, hl⟩ | ⟨n, hn⟩
      · exact .inl ⟨n, hn.1, hl⟩
      · exact .inr ⟨n, hn.1⟩
theorem fy.aD {P:Program}{f:FuncId}{t:List AV}{h:eZ}{K K':AV->eZ->Prop}(hc:fy P f t h K)
  (hk:∀r h',K r h'->∃r' h'',tE h h' h''/\gM h.length h' r r'/\K' r' h''):fy P f t h K':=by
 intro G w vs hg hv;refine (hc G w vs hg hv).mono ?_;rintro e w' ⟨v,r,h',G',rfl,hK,b,hV,hs⟩;obtain⟨r',h'',hx,hr,u⟩:=hk r h' hK;obtain⟨g2,s2⟩:=hg.bG b hs hx;exact⟨v,r',h'',_,rfl,u,g2,hr _ _ _ b hV,s2⟩
theorem fy.aB {P:Program}{f:FuncId}{b:List AV}{h:eZ}{K:AV->eZ->Prop}{K':AV->Prop}(hc:fy P f b h K)
  (hk:∀r h',K r h'->eY fj h h'/\∃r',gM h.length h' r r'/\K' r'):fy P f b h λr h'=>K' r/\h'=h:=
 hc.aD λr h' hK=>let⟨hx,r',hr,hK'⟩:=hk r h' hK;⟨r',h,tE.aC hx,hr,hK',rfl⟩
mutual
def Fz (k:Nat)(h:eZ):D->AV->Prop
 | .aA i n,av=>av=.aA i n
 | .aD b,av=>av=.aD b
 | .aE s,av=>av=.aP s
 | .sl sz ds,av=>(av=.aB/\ds=[])\/(∃t c es,av=.aL t c sz es/\(t=0\/k<t\/es=[])/\jW k h ds es) \/
   ∃n off cap row g,av=.aF n sz off ds.length cap/\k<=n/\h[n]?=some (some (.aA sz row g))/\off+ds.length<=row.length/\jW k h ds ((row.drop off).take ds.length)
def kF (k:Nat)(h:eZ):List D->List AV->Prop
 | [],l=>l=[]
 | d :: ds,l=>∃a r,l=a :: r/\Fz k h d a/\kF k h ds r
def jW (k:Nat)(h:eZ):List (List D)->List (List AV)->Prop
 | [],l=>l=[]
 | e :: ds,l=>∃a r,l=a :: r/\kF k h e a/\jW k h ds r
end
mutual
theorem NP (k:Nat)(h:eZ):∀d:D,Fz k h d d.av
 | .aA i n=>by simp only[Fz,D.av]
 | .aD b=>by simp only[Fz,D.av]
 | .aE s=>by simp only[Fz,D.av]
 | .sl sz es=>by simp only[Fz,D.av];exact .inr (.inl ⟨0,false,_,rfl,.inl rfl,Cy k h es⟩)
theorem sy (k:Nat)(h:eZ):∀l:List D,kF k h l (D.aB l)
 | []=>by simp only[kF,D.aB]
 | d :: r=>by simp only[kF,D.aB];exact⟨_,_,rfl,NP k h d,sy k h r⟩
theorem Cy (k:Nat)(h:eZ):∀l:List (List D),jW k h l (D.aC l)
 | []=>by simp only[jW,D.aC]
 | d :: r=>by simp only[jW,D.aC];exact⟨_,_,rfl,sy k h d,Cy k h r⟩
end
mutual
theorem e_.fz:∀(d:D){F:Nat->Prop}{k:Nat}{h:eZ}(_:∀m,F m->k<=m)(av:AV),e_ d F h av->Fz k h d av
 | .aA i n,F,k,h,hF,av,ho=>by simp only[e_]at ho;simp only[Fz];exact ho
 | .aD b,F,k,h,hF,av,ho=>by simp only[e_]at ho;simp only[Fz];exact ho
 | .aE s,F,k,h,hF,av,ho=>by simp only[e_]at ho;simp only[Fz];exact ho
 | .sl sz ds,F,k,h,hF,av,ho=>by
  simp only[e_]at ho;simp only[Fz];rcases ho with⟨rfl,rfl⟩ | ⟨t,c,rfl,rfl⟩ | ⟨n,off,cap,row,g,rfl,h1,h2,h3,_,h5⟩
  ·exact .inl ⟨rfl,rfl⟩
  ·exact .inr (.inl ⟨t,c,[],rfl,.inr (.inr rfl),by simp only[jW]⟩)
  ·exact .inr (.inr ⟨n,off,cap,row,g,rfl,hF n h1,h2,h3,fP.fz ds (λm hm=>hF m hm.1) _ h5⟩)
theorem fW.fz:∀(ds:List D){F:Nat->Prop}{k:Nat}{h:eZ}(_:∀m,F m->k<=m)(l:List AV),fW ds F h l->kF k h ds l
 | [],F,k,h,hF,l,ho=>by simp only[fW]at ho;simp only[kF];exact ho
 | d :: ds,F,k,h,hF,l,ho=>by simp only[fW]at ho;simp only[kF];obtain⟨a,r,rfl,h1,h2⟩:=ho;exact⟨a,r,rfl,e_.fz d hF a h1,fW.fz ds hF r h2⟩
theorem fP.fz:∀(ds:List (List D)) {F:Nat->Prop} {k:Nat} {h:eZ} (_:∀m,F m->k<=m) (l:List (List AV)),fP ds F h l->jW k h ds l
 | [],F,k,h,hF,l,ho=>by simp only[fP]at ho;simp only[jW];exact ho
 | d :: ds,F,k,h,hF,l,ho=>by simp only[fP]at ho;simp only[jW];obtain⟨a,r,rfl,h1,h2⟩:=ho;exact⟨a,r,rfl,fW.fz d hF a h1,fP.fz ds hF r h2⟩
end
theorem iJ.fz {lo k h sz av}{ds:List (List D)}(ho:iJ lo h sz av (D.aC ds))(hk:k<=lo):Fz k h (.sl sz ds) av:=by
 have hl:(D.aC ds).length=ds.length:=by rw[pE];simp
 simp only[Fz];rcases ho with⟨rfl,he⟩ | ⟨n,off,cap,row,g,rfl,h1,h2,h3,_,_,_,h6⟩
 ·exact .inl ⟨rfl,Vl (by rw[<-hl,he];rfl)⟩
 ·rw[hl]at h3 h6 ⊢;exact .inr (.inr ⟨n,off,cap,row,g,rfl,Vr hk h1,h2,h3,by rw[h6];exact Cy k h ds⟩)
theorem D_ {k h}:∀{ds:List D}{l:List AV},kF k h ds l->l.length=ds.length:=by
 intro ds;induction ds with
 | nil=>intro l hh;simp only[kF]at hh;subst hh;rfl
 | cons e ds ih=>intro l hh;simp only[kF]at hh;obtain⟨a,r,rfl,_,hh⟩:=hh;simp[ih hh]
theorem D9 {k h}:∀{ds:List (List D)} {l:List (List AV)},jW k h ds l->l.length=ds.length:=by
 intro ds;induction ds with
 | nil=>intro l hh;simp only[jW]at hh;subst hh;rfl
 | cons e ds ih=>intro l hh;simp only[jW]at hh;obtain⟨a,r,rfl,_,hh⟩:=hh;simp[ih hh]
theorem Jy {k h}:∀{ds:List (List D)} {es:List (List AV)},jW k h ds es->∀(i:Nat)(e:List AV),es[i]?=some e->∃d,ds[i]?=some d/\kF k h d e:=by
 intro ds;induction ds with
 | nil=>intro es hh i e he;simp only[jW]at hh;subst hh;simp at he
 | cons d ds ih=>
  intro es hh i e he;simp only[jW]at hh;obtain⟨a,r,rfl,h1,h2⟩:=hh;cases i with
  | zero=>simp at he;subst he;exact⟨d,rfl,h1⟩
  | succ i=>exact ih h2 i e (by simpa using he)
theorem wK (l:List D):(D.aB l).length=l.length:=by rw[qA];simp
theorem wJ (l:List (List D)):(D.aC l).length=l.length:=by rw[pE];simp
theorem y2 (l:List D):(D.aB l).all AV.aG=true:=by rw[qA];simp[jX]
theorem HD {sz k h}{ds:List (List D)}{es:List (List AV)}(hh:jW k h ds es)(ho:iT sz es):iT sz (D.aC ds):=by
 intro e he;rw[pE,Wl]at he;obtain⟨d,hd,rfl⟩:=he;refine⟨?_,y2 d⟩;obtain⟨i,hi,rfl⟩:=List.getElem_of_mem hd;have hl:=D9 hh;have b:i<es.length:=by omega
 obtain⟨d',t,hf⟩:=Jy hh i es[i] (by simp);have:d'=ds[i]:=by simpa [hi] using t.symm
 subst this;rw[wK,<-D_ hf];exact (ho _ (VU b)).1
section
variable {k:Nat} {h:eZ} {G:Gh} {w:World}
mutual
theorem GX (g:fS G w h):∀(d:D)(av:AV)(v:Value),Fz k h d av->V G w av v->V (G.aK k) w d.av v
 | .aA i n,av,v,hh,hv=>by simp only[Fz]at hh;subst hh;simp only[D.av];cases hv;exact .aB _ _
 | .aD b,av,v,hh,hv=>by simp only[Fz]at hh;subst hh;simp only[D.av];cases hv;exact .aF _
 | .aE s,av,v,hh,hv=>by simp only[Fz]at hh;subst hh;simp only[D.av];cases hv;exact .aQ _
 | .sl sz ds,av,v,hh,hv=>by
  simp only[Fz]at hh;simp only[D.av];rcases hh with⟨rfl,rfl⟩ | ⟨t,c,es,rfl,ht,hf⟩ | ⟨n,off,cap,row,gr,rfl,a2,u,a1,hf⟩
  ·cases hv;exact .aE _ _ _
  ·have hl:=D9 hf;cases hv with
   | aE=>have:ds=[]:=Vl (by simpa using hl.symm);subst this;exact .aE _ _ _
   | aD _ _ _ _ a cap f a1 hcl U hp a3 hc hV=>
    have:=V.aD (G:=G.aK k) (w:=w) 0 false sz (D.aC ds) a cap f (by rw[wJ];omega) (λe=>by cases e) U (λa0=>?_) (HD hf a3)
     (λi j c hj=>?_) (λi j c hj=>?_)
    ·rw[wJ,<-hl]at this;exact this
    ·have C:es≠[]:=by rintro rfl;have:ds=[]:=Vl (by simpa using hl.symm);subst this;exact a0 rfl
     have O:=hp C;rcases ht with rfl | ht | he;·exact .inl O
     ·cases t with
      | zero=>omega
      | succ t=>exact .inr ⟨t,by omega,.inr O⟩
     ·exact absurd he C
    ·obtain⟨c0,h0,_⟩:=uu g ds es hf i j c hj;exact hc i j c0 h0
    ·obtain⟨c0,h0,h1⟩:=uu g ds es hf i j c hj;exact h1 _ (hV i j c0 h0)
  ·generalize hlen:ds.length=len at hv;cases hv with
   | aG=>have:ds=[]:=Vl hlen;subst this;exact .aE _ _ _
   | aC _ _ _ _ _ c ty m b hn hb hl hcap hs hm=>
    subst hlen;obtain⟨⟨cells,ty',a4,h1,h2,h3⟩,W⟩:=g.aB n sz row gr b u hb;have I:iT sz ((row.drop off).take ds.length):=λe he=>W e (VM (V0 he));have M:∀(i j:Nat)(c0:AV),gi ((row.drop off).take ds.length) i j=some c0->gi row (off+i) j=some c0:=by
     intro i j c0 hj;simp only[gi]at hj ⊢;rw[V_]at hj;split at hj;·rwa [Vz]at hj
     ·simp at hj
    have:=V.aD (G:=G.aK k) (w:=w) 0 false sz (D.aC ds) ⟨b,off*sz,none⟩ c (λi j=>cells.getD ((off+i)*sz+j) undef) (by rw[wJ];exact hl) (λe=>by cases e) (λ_=>rfl)
     (λ_=>.inr ⟨n,a2,.inl ⟨g.aN u hb,hb⟩⟩) (HD hf I) (λi j c hj=>?_) (λi j c hj=>?_)
    ·rw[wJ]at this;exact this
    ·obtain⟨c0,h0,_⟩:=uu g ds _ hf i j c hj;obtain⟨v0,E,_⟩:=h3 _ j c0 (M i j c0 h0);simp only[World.cell?,a4,Option.isSome_none,VC,VO];rw[show off*sz+(i*sz+j)=(off+i)*sz+j by rw[WR];omega,E];simp[E]
    ·obtain⟨c0,h0,a6⟩:=uu g ds _ hf i j c hj;obtain⟨v0,E,a5⟩:=h3 _ j c0 (M i j c0 h0);have:cells.getD ((off+i)*sz+j) undef=v0:=by simp[E]
     rw[this];exact a6 _ a5
theorem GW (g:fS G w h):∀(ds:List D)(l:List AV),kF k h ds l->∀(j:Nat)(c:AV),(D.aB ds)[j]?=some c->∃c0,l[j]?=some c0/\∀v,V G w c0 v->V (G.aK k) w c v
 | [],l,hh,j,c,hj=>by simp[D.aB]at hj
 | d :: ds,l,hh,j,c,hj=>by
  simp only[kF]at hh;obtain⟨a,r,rfl,h1,h2⟩:=hh;simp only[D.aB]at hj;cases j with
  | zero=>simp at hj;subst hj;exact⟨a,rfl,λv hv=>GX g d a v h1 hv⟩
  | succ j=>exact GW g ds r h2 j c (by simpa using hj)
theorem uu (g:fS G w h):∀(ds:List (List D)) (es:List (List AV)),jW k h ds es->∀(i j:Nat)(c:AV),gi (D.aC ds) i j=some c->∃c0,gi es i j=some c0/\∀v,V G w c0 v->V (G.aK k) w c v
 | [],es,hh,i,j,c,hj=>by simp[D.aC,gi]at hj
 | d :: ds,es,hh,i,j,c,hj=>by
  simp only[jW]at hh;obtain⟨a,r,rfl,h1,h2⟩:=hh;simp only[D.aC]at hj;cases i with
  | zero=>exact GW g d a h1 j c (by simpa [gi] using hj)
  | succ i=>exact uu g ds r h2 i j c (by simpa [gi] using hj)
end
end
theorem gM.d {k h r}{d:D}(hh:Fz k h d r):gM k h r d.av:=λ_ _ v g hv=>GX g d r v hh hv
theorem gM.aF {k h}{l l':List AV}(hl:l'.length=l.length) (hh:∀(j:Nat)(c':AV),l'[j]?=some c'->∃c,l[j]?=some c/\gM k h c c'):gM k h (.aE l) (.aE l'):=by
 intro G w v g hv;cases hv with
 | aJ _ vs hl' hV=>refine .aJ _ _ (hl.trans hl') λj c v hc hv=>?_;obtain⟨c0,h0,h1⟩:=hh j c hc;exact h1 G w v g (hV j c0 v h0 hv)
theorem gM.aG {k h}{l l':List AV}(hl:l'.length=l.length) (hh:∀(j:Nat)(c':AV),l'[j]?=some c'->∃c,l[j]?=some c/\gM k h c c'):gM k h (.aI l) (.aI l'):=by
 intro G w v g hv;cases hv with
 | aM _ vs hl' hV=>refine .aM _ _ (hl.trans hl') λj c v hc hv=>?_;obtain⟨c0,h0,h1⟩:=hh j c hc;exact h1 G w v g (hV j c0 v h0 hv)
theorem gM.aC {k h a a' b b'}(h1:gM k h a a')(h2:gM k h b b'):gM k h (.aI [a,b]) (.aI [a',b']):=by
 refine .aG rfl λj c hj=>?_;match j with
 | 0=>simp at hj;subst hj;exact⟨a,rfl,h1⟩
 | 1=>simp at hj;subst hj;exact⟨b,rfl,h2⟩
 | j+2=>simp at hj
theorem gM.aA {k h l}{ds:List D}(hh:kF k h ds l):gM k h (.aE l) (.aE (D.aB ds)):=by
 refine .aF (by rw[wK,D_ hh]) λj c hj=>?_;have:∃c0,l[j]?=some c0/\∃d,ds[j]?=some d/\c=d.av/\Fz k h d c0:=by
  induction ds generalizing l j with
  | nil=>simp[D.aB]at hj
  | cons d ds ih=>
   simp only[kF]at hh;obtain⟨a,r,rfl,h1,h2⟩:=hh;simp only[D.aB]at hj;cases j with
   | zero=>simp at hj;subst hj;exact⟨a,rfl,d,rfl,rfl,h1⟩
   | succ j=>simpa using ih h2 j (by simpa using hj)
 obtain⟨c0,h0,d,_,rfl,hf⟩:=this;exact⟨c0,h0,gM.d hf⟩
theorem QL {H:Type}{enc:TypeId×Value->H}{P:Program}{f:Func}{s:ChangeSpec}{apart U C again:Bool}{W W':World}{args:Array Value}{v:Value}{ds gs:List (DataW H)}{u pa pv:List MemPlace}
  (hW:DataW.Whole enc P f.params.toList s.vars apart W args.toList ds gs u)
  (M:∀(b:Nat)(sp:Nat->Bool)(hd:Bool),DataW.TrodAll enc P W' b sp hd f.resultTypes.toList (v.resultList f.resultTypes.size) (s.fn H (ds++gs)).results [])
  (I:∀sp:Nat->Bool,(∀p∈u,sp p.block=true)->DataW.TrodAll enc P W' 0 sp true f.params.toList args.toList (s.fn H (ds++gs)).args pa)
  (E:∀sp:Nat->Bool,(∀p∈u,sp p.block=true)->DataW.TrodVars enc P W' sp s.vars (s.fn H (ds++gs)).vars pv)
  (a0:u=pa++pv) (hk:W.keptBut W' (·∈u)) (a2:∀a,a.block<W.heap.size->W'.frozen? a=W.frozen? a)
  (a1:∀(j:Nat)(t:TypeId)(r:Value),f.resultTypes[j]?=some t->(v.resultList f.resultTypes.size)[j]?=some r->Value.okWide P W' .any 0 t r):
  s.post enc P f apart U C again W args v W':=by
 have hlt:=λp hp=>hW.lt p hp;have O:∀p∈u,(λb=>decide (b<W.heap.size)) p.block=true:=λp hp=>by simpa using hlt p hp
 refine⟨ds,gs,u,[],pa,pv,hW,M _ _ _,I _ O,E _ O,World.keptBut_mono (λp hp=>⟨hp,?_⟩) hk,λ_=>?_⟩;·rw[a0,V7]at hp;exact Or.inr hp
 ·obtain⟨_,_,_,_,_,hz,hn⟩:=hW;refine⟨a1,_,_,([]++pa)++pv,⟨[]++pa,pv,Go.ChangeShapes.trodAll_append (I _ (λ_ _=>rfl)) (M _ _ _),E _ (λ_ _=>rfl),rfl,?_,?_⟩,?_⟩
  ·intro b off hp;have hm:MemPlace.cell b off∈u:=by rw[a0];simpa using hp
   rw[a2 _ (hlt _ hm)];exact hz b off hm
  ·intro ha;have:=hn ha;rw[a0]at this;simpa using this
  ·intro p hp _;rw[a0];simpa using hp
theorem eY.aL {h h':eZ}(x:eY fj h h'):∃j,h'=h++j:=by
 refine⟨h'.drop h.length,?_⟩;apply VT;intro m;rcases Wc m h.length with hm | hm;·rw[VK hm];exact x.2 m hm (λy=>y)
 ·rw[VQ hm,Vz];congr 1;omega
section
variable {F:Nat->Prop} {h:eZ} {G:Gh} {w:World}
end
theorem NL (dep:Nat->Nat->Bool)(lo i:Nat)(l:List (Nat×Nat×fh))(h:eZ):
  lT dep lo 3 i l h=((((l.any λx=>dep i x.1 && x.2.1 == lo) || kK h[lo]?) && ((l.any λx=>dep i x.1 && x.2.1 == lo+1) || kK h[lo+1]?)) && ((l.any λx=>dep i x.1 && x.2.1 == lo+1+1) || kK h[lo+1+1]?)):=by
 simp[lT,List.range_succ,Bool.and_assoc,Ws]
attribute [go_sem] NL
end Glb
