/-
  A library of its own.
-/
import Derived.Test.YtdeiamnhnfmilaaGreatGlbLibD
set_option linter.unusedSimpArgs false
set_option linter.unusedVariables false
namespace Glb
open Go
def Gh.frozen (G:Gh)(k:Nat):Gh:=
 {G with N:=k,live:=λn=>G.live n/\n<k,tag:=λn b=>G.tag n b/\n<k,S:=λb=>G.S b\/∃n,k<=n/\((G.live n/\G.loc n=some b)\/G.tag n b)}
theorem Gh.trunc_frozen (G:Gh)(k:Nat)(w:World):h3_ (G.trunc k) w (G.frozen k) w where
 N:=J_4 _
 loc _ _ _ h:=h
 nil _ _ h:=h
 prot t b h:=by
  cases t with
  | zero=>exact .inl h
  | succ n=>exact h
 heap _ _ _:=rfl
 shape _ _:=rfl
theorem V.frz {G w av v k}(h:V G w av v)(hb:av.upto k=true):V (G.frozen k) w av v:=(h.trunc hb).keep (G.trunc_frozen k w)
def Frz (k:Nat)(h:a0_)(r r':AV):Prop:=∀(G:Gh)(w:World)(v:Value),Gam G w h->V G w r v->V (G.frozen k) w r' v
theorem Frz.upto {k h r}(hb:r.upto k=true):Frz k h r r:=λ_ _ _ _ hv=>hv.frz hb
theorem Frz.int {k h}(i:IntKind)(n:Int):Frz k h (.int i n) (.int i n):=Frz.upto rfl
theorem Frz.bool {k h}(b:Bool):Frz k h (.bool b) (.bool b):=Frz.upto rfl
def D_i (k:Nat)(h:a0_)(es es':List (List AV)):Prop:=es'.length=es.length/\∀i j c',l1_ es' i j=some c'->∃c,l1_ es i j=some c/\Frz k h c c'
structure D_j (h h' h'':a0_):Prop where
 len':h.length<=h'.length
 len:h''.length=h.length
 row:∀m,m<h.length->(h'[m]?=h[m]?/\h''[m]?=h[m]?) \/
  ∃sz0 es0 g0 sz es es' g,h[m]?=some (some (.arr sz0 es0 g0))/\h'[m]?=some (some (.arr sz es g))/\h''[m]?=some (some (.arr sz es' g))/\W5_ sz es'/\D_i h.length h' es es'
theorem D_j.same {h h':a0_}(x:Ext nof h h'):D_j h h' h:=⟨x.1,rfl,λm hm=>.inl ⟨x.2 m hm (λy=>y),rfl⟩⟩
theorem Gam.frozen {G w h G' w' h' h''}(g:Gam G w h)(g':Gam G' w' h')(s:Stp G w G' w')(hx:D_j h h' h''):
    Gam (G'.frozen h.length) w' h''/\Stp G w (G'.frozen h.length) w':=by
  have hN:h.length=G.N:=g.len
  have k:h3_ G w (G'.frozen h.length) w':=by
    refine⟨Nat.le_of_eq hN.symm,λn b hn hb=>s.keep.loc n b hn hb,λn hn hb=>s.keep.nil n hn hb,λt b hp=>?_,s.keep.heap,s.keep.shape⟩
    have h1:=s.keep.prot t b hp
    cases t with
    | zero=>exact .inl h1
    | succ n=>exact⟨h1,by have:=g.protN hp;omega⟩
  have arr':∀n,n<h.length->((∃B,h'[n]?=some (some B)/\B.real=true)↔∃B,h''[n]?=some (some B)/\B.real=true):=by
    intro n hn
    rcases hx.row n hn with⟨h1,h2⟩ | ⟨_,_,_,sz,es,es',gr,h0,h1,h2,_⟩
    · rw[h1,h2]
    · exact⟨λ_=>⟨_,h2,rfl⟩,λ_=>⟨_,h1,rfl⟩⟩
  have lt:∀{n:Nat}{x:Option a5_},h''[n]?=some x->n<h.length:=λhn=>by rw[<-hx.len];exact (J_w.1 hn).1
  have newS:∀{n b m:Nat},n<h.length->h.length<=m->((G'.live m/\G'.loc m=some b)\/G'.tag m b)->(G'.live n/\G'.loc n=some b)\/G'.tag n b->False:=by
    intro n b m hn hm h1 h2
    rcases h1 with⟨a1,a2⟩ | a1<;>rcases h2 with⟨b1,b2⟩ | b1
    · have:=g'.inj n m b b1 a1 b2 a2;omega
    · exact g'.liveTag m n b a1 a2 b1
    · exact g'.liveTag n m b b1 b2 a1
    · have:=g'.tagInj n m b b1 a1;omega
  refine⟨{len:=hx.len,live:=?_,tag:=?_,inj:=λa b c h1 h2=>g'.inj a b c h1.1 h2.1,liveTag:=λa b c h1 hl h2=>g'.liveTag a b c h1.1 hl h2.1,
            liveS:=?_,tagInj:=λa b c h1 h2=>g'.tagInj a b c h1.1 h2.1,tagS:=?_,tagLt:=λa b h1=>g'.tagLt a b h1.1,
            sLt:=?_,arr:=?_,nil:=?_,nilLoc:=g'.nilLoc,map:=?_},?_⟩
  · intro n
    constructor
    · rintro⟨hl,hn⟩
      obtain⟨hh,hb⟩:=(g'.live n).1 hl
      exact⟨(arr' n hn).1 hh,hb⟩
    · rintro⟨⟨B,hh,hr⟩,hb⟩
      have hn:=lt hh
      exact⟨(g'.live n).2 ⟨(arr' n hn).2 ⟨B,hh,hr⟩,hb⟩,hn⟩
  · rintro n b ⟨ht,hn⟩
    have h1:=g'.tag n b ht
    rcases hx.row n hn with⟨h2,h3⟩ | ⟨_,_,_,sz,es,es',gr,h0,h2,h3,_⟩
    · rw[h3,<-h2];exact h1
    · rw[h2]at h1;cases h1
  · rintro n b ⟨hl,hn⟩ hb (hs | ⟨m,hm,h1⟩)
    · exact g'.liveS n b hl hb hs
    · exact newS hn hm h1 (.inl ⟨hl,hb⟩)
  · rintro n b ⟨ht,hn⟩ (hs | ⟨m,hm,h1⟩)
    · exact g'.tagS n b ht hs
    · exact newS hn hm h1 (.inr ht)
  · rintro b (hs | ⟨m,hm,h1⟩)
    · exact g'.sLt b hs
    · rcases h1 with⟨a1,a2⟩ | a1
      · exact g'.locLt a1 a2
      · exact g'.tagLt m b a1
  · intro n sz es gr b hh hb
    have hn:=lt hh
    rcases hx.row n hn with⟨h2,h3⟩ | ⟨_,_,_,sz1,es1,es1',gr1,h0,h2,h3,hok,hl1,hf⟩
    · rw[h3]at hh
      obtain⟨⟨cells,ty,hc,h1,h2',h3'⟩,hs⟩:=g'.arr n sz es gr b (by rw[h2];exact hh) hb
      have hb0:G.loc n=some b:=by rw[<-s.locEq n (by omega)];exact hb
      obtain⟨⟨cells0,ty0,hc0,_,_,h30⟩,_⟩:=g.arr n sz es gr b hh hb0
      refine⟨⟨cells,ty,hc,h1,h2',λi j c hj=>?_⟩,hs⟩
      obtain⟨v,hv,hV⟩:=h3' i j c hj
      obtain⟨v0,_,hV0⟩:=h30 i j c hj
      exact⟨v,hv,hV.frz (by rw[hN];exact hV0.isUpto g)⟩
    · rw[h3]at hh
      cases hh
      obtain⟨⟨cells,ty,hc,h1,h2',h3'⟩,hs⟩:=g'.arr n _ _ _ b h2 hb
      refine⟨⟨cells,ty,hc,by rw[hl1];exact h1,λe=>by rw[hl1];exact h2' e,λi j c hj=>?_⟩,hok⟩
      obtain⟨c0,e0,f0⟩:=hf i j c hj
      obtain⟨v,hv,hV⟩:=h3' i j c0 e0
      exact⟨v,hv,f0 G' w' v g' hV⟩
  · intro n sz es gr hh hb
    have hn:=lt hh
    rcases hx.row n hn with⟨h2,h3⟩ | ⟨_,_,_,sz1,es1,es1',gr1,h0,h2,h3,hok,hl1,hf⟩
    · exact g'.nil n sz es gr (by rw[h2,<-h3];exact hh) hb
    · rw[h3]at hh
      cases hh
      have:=g'.nil n _ _ _ h2 hb
      subst this
      exact J_3 (by simpa using hl1)
  · intro n es b hh hb
    have hn:=lt hh
    rcases hx.row n hn with⟨h2,h3⟩ | ⟨_,_,_,sz1,es1,es1',gr1,h0,h2,h3,hok,hl1,hf⟩
    · rw[h3]at hh
      obtain⟨⟨entries,clock,hc,h1,h2',h3'⟩,hs⟩:=g'.map n es b (by rw[h2];exact hh) hb
      have hb0:G.loc n=some b:=by rw[<-s.locEq n (by omega)];exact hb
      obtain⟨⟨entries0,clock0,hc0,_,_,h30⟩,_⟩:=g.map n es b hh hb0
      refine⟨⟨entries,clock,hc,h1,h2',λi key c hj=>?_⟩,hs⟩
      obtain⟨e,he,hk,hV⟩:=h3' i key c hj
      obtain⟨e0,_,_,hV0⟩:=h30 i key c hj
      exact⟨e,he,hk,hV.frz (by rw[hN];exact hV0.isUpto g)⟩
    · rw[h3]at hh;cases hh
  · refine⟨k,⟨λb hb=>.inl (s.S.1 b hb),?_⟩,s.locEq,s.nilEq,s.size,s.frame,λb hb=>?_,s.rest⟩
    · rintro b (hb | ⟨n,hn,h1⟩)
      · exact s.S.2 b hb
      · right
        apply Classical.byContradiction
        intro hlt
        have ho:G'.owned b:=h1.elim (λh=>.inl ⟨n,h⟩) (λh=>.inr ⟨n,h⟩)
        rcases (s.own b ho).resolve_right hlt with⟨m,a1,a2⟩ | ⟨m,a1⟩
        · obtain⟨⟨B,hh,hr⟩,_⟩:=(g.live m).1 a1
          have hm:=(J_w.1 hh).1
          have hl:G'.loc m=some b:=by rw[s.locEq m (by omega)];exact a2
          have hh':∃B,h'[m]?=some (some B)/\B.real=true:=by
            rcases hx.row m hm with⟨h2,h3⟩ | ⟨_,_,_,sz,es,es',gr,h0,h2,h3,_⟩
            · exact⟨_,h2.trans hh,hr⟩
            · exact⟨_,h2,rfl⟩
          exact newS hm hn h1 (.inl ⟨(g'.live m).2 ⟨hh',b,hl⟩,hl⟩)
        · have hm:=g.ltN (g.tag m b a1)
          exact newS (by omega) hn h1 (.inr (s.keep.prot (m+1) b a1))
    · refine s.own b ?_
      rcases hb with⟨n,hn,hl⟩ | ⟨n,hn⟩
      · exact .inl ⟨n,hn.1,hl⟩
      · exact .inr ⟨n,hn.1⟩
theorem a6_.freezeH {P:Program}{f:FuncId}{avs:List AV}{h:a0_}{K K':AV->a0_->Prop}(hc:a6_ P f avs h K)
  (hk:∀r h',K r h'->∃r' h'',D_j h h' h''/\Frz h.length h' r r'/\K' r' h''):a6_ P f avs h K':=by
 intro G w vs hg hv
 refine (hc G w vs hg hv).mono ?_
 rintro e w' ⟨v,r,h',G',rfl,hK,hg',hV,hs⟩
 obtain⟨r',h'',hx,hr,hK'⟩:=hk r h' hK
 obtain⟨g2,s2⟩:=hg.frozen hg' hs hx
 exact⟨v,r',h'',_,rfl,hK',g2,hr _ _ _ hg' hV,s2⟩
theorem a6_.freeze {P:Program}{f:FuncId}{avs:List AV}{h:a0_}{K:AV->a0_->Prop}{K':AV->Prop}(hc:a6_ P f avs h K)
  (hk:∀r h',K r h'->Ext nof h h'/\∃r',Frz h.length h' r r'/\K' r'):a6_ P f avs h λr h'=>K' r/\h'=h:=
 hc.freezeH λr h' hK=>let⟨hx,r',hr,hK'⟩:=hk r h' hK;⟨r',h,D_j.same hx,hr,hK',rfl⟩
mutual
def Fz (k:Nat)(h:a0_):D->AV->Prop
 | .int i n,av=>av=.int i n
 | .bool b,av=>av=.bool b
 | .str s,av=>av=.str s
 | .sl sz ds,av=>(av=.nils/\ds=[])\/(∃t c es,av=.vals t c sz es/\(t=0\/k<t\/es=[])/\h_n k h ds es) \/
   ∃n off cap row g,av=.ref n sz off ds.length cap/\k<=n/\h[n]?=some (some (.arr sz row g))/\off+ds.length<=row.length/\h_n k h ds ((row.drop off).take ds.length)
def FzL (k:Nat)(h:a0_):List D->List AV->Prop
 | [],l=>l=[]
 | d :: ds,l=>∃a r,l=a :: r/\Fz k h d a/\FzL k h ds r
def h_n (k:Nat)(h:a0_):List (List D)->List (List AV)->Prop
 | [],l=>l=[]
 | e :: ds,l=>∃a r,l=a :: r/\FzL k h e a/\h_n k h ds r
end
mutual
theorem A_8 (k:Nat)(h:a0_):∀d:D,Fz k h d d.av
 | .int i n=>by simp only[Fz,D.av]
 | .bool b=>by simp only[Fz,D.av]
 | .str s=>by simp only[Fz,D.av]
 | .sl sz es=>by
  simp only[Fz,D.av]
  exact .inr (.inl ⟨0,false,_,rfl,.inl rfl,j_1 k h es⟩)
theorem g_x (k:Nat)(h:a0_):∀l:List D,FzL k h l (D.avL l)
 | []=>by simp only[FzL,D.avL]
 | d :: r=>by simp only[FzL,D.avL];exact⟨_,_,rfl,A_8 k h d,g_x k h r⟩
theorem j_1 (k:Nat)(h:a0_):∀l:List (List D),h_n k h l (D.avLL l)
 | []=>by simp only[h_n,D.avLL]
 | d :: r=>by simp only[h_n,D.avLL];exact⟨_,_,rfl,g_x k h d,j_1 k h r⟩
end
mutual
theorem Own.fz:∀(d:D){F:Nat->Prop}{k:Nat}{h:a0_}(_:∀m,F m->k<=m)(av:AV),Own d F h av->Fz k h d av
 | .int i n,F,k,h,hF,av,ho=>by simp only[Own]at ho;simp only[Fz];exact ho
 | .bool b,F,k,h,hF,av,ho=>by simp only[Own]at ho;simp only[Fz];exact ho
 | .str s,F,k,h,hF,av,ho=>by simp only[Own]at ho;simp only[Fz];exact ho
 | .sl sz ds,F,k,h,hF,av,ho=>by
  simp only[Own]at ho
  simp only[Fz]
  rcases ho with⟨rfl,rfl⟩ | ⟨t,c,rfl,rfl⟩ | ⟨n,off,cap,row,g,rfl,h1,h2,h3,_,h5⟩
  ·exact .inl ⟨rfl,rfl⟩
  ·exact .inr (.inl ⟨t,c,[],rfl,.inr (.inr rfl),by simp only[h_n]⟩)
  ·exact .inr (.inr ⟨n,off,cap,row,g,rfl,hF n h1,h2,h3,a8_.fz ds (λm hm=>hF m hm.1) _ h5⟩)
theorem g2_.fz:∀(ds:List D){F:Nat->Prop}{k:Nat}{h:a0_}(_:∀m,F m->k<=m)(l:List AV),g2_ ds F h l->FzL k h ds l
 | [],F,k,h,hF,l,ho=>by simp only[g2_]at ho;simp only[FzL];exact ho
 | d :: ds,F,k,h,hF,l,ho=>by
  simp only[g2_]at ho
  simp only[FzL]
  obtain⟨a,r,rfl,h1,h2⟩:=ho
  exact⟨a,r,rfl,Own.fz d hF a h1,g2_.fz ds hF r h2⟩
theorem a8_.fz:∀(ds:List (List D)) {F:Nat->Prop} {k:Nat} {h:a0_} (_:∀m,F m->k<=m) (l:List (List AV)),a8_ ds F h l->h_n k h ds l
 | [],F,k,h,hF,l,ho=>by simp only[a8_]at ho;simp only[h_n];exact ho
 | d :: ds,F,k,h,hF,l,ho=>by
  simp only[a8_]at ho
  simp only[h_n]
  obtain⟨a,r,rfl,h1,h2⟩:=ho
  exact⟨a,r,rfl,g2_.fz d hF a h1,a8_.fz ds hF r h2⟩
end
theorem f_v {k h}:∀{ds:List D}{l:List AV},FzL k h ds l->l.length=ds.length:=by
 intro ds
 induction ds with
 | nil=>intro l hh;simp only[FzL]at hh;subst hh;rfl
 | cons e ds ih=>intro l hh;simp only[FzL]at hh;obtain⟨a,r,rfl,_,hh⟩:=hh;simp[ih hh]
theorem d_8 {k h}:∀{ds:List (List D)} {l:List (List AV)},h_n k h ds l->l.length=ds.length:=by
 intro ds
 induction ds with
 | nil=>intro l hh;simp only[h_n]at hh;subst hh;rfl
 | cons e ds ih=>intro l hh;simp only[h_n]at hh;obtain⟨a,r,rfl,_,hh⟩:=hh;simp[ih hh]
theorem x_9 {k h}:∀{ds:List (List D)} {es:List (List AV)},h_n k h ds es->∀(i:Nat)(e:List AV),es[i]?=some e->∃d,ds[i]?=some d/\FzL k h d e:=by
 intro ds
 induction ds with
 | nil=>intro es hh i e he;simp only[h_n]at hh;subst hh;simp at he
 | cons d ds ih=>
  intro es hh i e he
  simp only[h_n]at hh
  obtain⟨a,r,rfl,h1,h2⟩:=hh
  cases i with
  | zero=>simp at he;subst he;exact⟨d,rfl,h1⟩
  | succ i=>exact ih h2 i e (by simpa using he)
theorem f_m (l:List D):(D.avL l).length=l.length:=by rw[U8_];simp
theorem K7_ (l:List (List D)):(D.avLL l).length=l.length:=by rw[P8_];simp
theorem m_s (l:List D):(D.avL l).all AV.scalar=true:=by rw[U8_];simp[j7_]
theorem i_9 {sz k h}{ds:List (List D)}{es:List (List AV)}(hh:h_n k h ds es)(ho:W5_ sz es):W5_ sz (D.avLL ds):=by
 intro e he
 rw[P8_,L_v]at he
 obtain⟨d,hd,rfl⟩:=he
 refine⟨?_,m_s d⟩
 obtain⟨i,hi,rfl⟩:=List.getElem_of_mem hd
 have hl:=d_8 hh
 have hi':i<es.length:=by omega
 obtain⟨d',hd',hf⟩:=x_9 hh i es[i] (by simp)
 have:d'=ds[i]:=by simpa [hi] using hd'.symm
 subst this
 rw[f_m,<-f_v hf]
 exact (ho _ (K_1 hi')).1
section
variable {k:Nat} {h:a0_} {G:Gh} {w:World}
mutual
theorem C_1 (g:Gam G w h):∀(d:D)(av:AV)(v:Value),Fz k h d av->V G w av v->V (G.frozen k) w d.av v
 | .int i n,av,v,hh,hv=>by simp only[Fz]at hh;subst hh;simp only[D.av];cases hv;exact .int _ _
 | .bool b,av,v,hh,hv=>by simp only[Fz]at hh;subst hh;simp only[D.av];cases hv;exact .bool _
 | .str s,av,v,hh,hv=>by simp only[Fz]at hh;subst hh;simp only[D.av];cases hv;exact .str _
 | .sl sz ds,av,v,hh,hv=>by
  simp only[Fz]at hh
  simp only[D.av]
  rcases hh with⟨rfl,rfl⟩ | ⟨t,c,es,rfl,ht,hf⟩ | ⟨n,off,cap,row,gr,rfl,hkn,hrow,hle,hf⟩
  ·cases hv;exact .valsNil _ _ _
  ·have hl:=d_8 hf
   cases hv with
   | valsNil=>
    have:ds=[]:=J_3 (by simpa using hl.symm)
    subst this
    exact .valsNil _ _ _
   | vals _ _ _ _ a cap f hle hcl hsp hp hes hc hV=>
    have:=V.vals (G:=G.frozen k) (w:=w) 0 false sz (D.avLL ds) a cap f (by rw[K7_];omega) (λe=>by cases e) hsp (λhne=>?_) (i_9 hf hes)
     (λi j c hj=>?_) (λi j c hj=>?_)
    ·rw[K7_,<-hl]at this;exact this
    ·have hne':es≠[]:=by
      rintro rfl
      have:ds=[]:=J_3 (by simpa using hl.symm)
      subst this;exact hne rfl
     have hp':=hp hne'
     rcases ht with rfl | ht | he
     ·exact .inl hp'
     ·cases t with
      | zero=>omega
      | succ t=>exact .inr ⟨t,by omega,.inr hp'⟩
     ·exact absurd he hne'
    ·obtain⟨c0,h0,_⟩:=d_l g ds es hf i j c hj
     exact hc i j c0 h0
    ·obtain⟨c0,h0,h1⟩:=d_l g ds es hf i j c hj
     exact h1 _ (hV i j c0 h0)
  ·generalize hlen:ds.length=len at hv
   cases hv with
   | refNil=>
    have:ds=[]:=J_3 hlen
    subst this
    exact .valsNil _ _ _
   | ref _ _ _ _ _ c ty m b hn hb hl hcap hs hm=>
    subst hlen
    obtain⟨⟨cells,ty',hcs,h1,h2,h3⟩,hok⟩:=g.arr n sz row gr b hrow hb
    have hok':W5_ sz ((row.drop off).take ds.length):=λe he=>hok e (K_z (L_g he))
    have key:∀(i j:Nat)(c0:AV),l1_ ((row.drop off).take ds.length) i j=some c0->l1_ row (off+i) j=some c0:=by
     intro i j c0 hj
     simp only[l1_]at hj ⊢
     rw[K_7]at hj
     split at hj
     ·rwa [K_m]at hj
     ·simp at hj
    have:=V.vals (G:=G.frozen k) (w:=w) 0 false sz (D.avLL ds) ⟨b,off*sz,none⟩ c (λi j=>cells.getD ((off+i)*sz+j) undef) (by rw[K7_];exact hl) (λe=>by cases e) (λ_=>rfl)
     (λ_=>.inr ⟨n,hkn,.inl ⟨g.mkLive hrow hb,hb⟩⟩) (i_9 hf hok') (λi j c hj=>?_) (λi j c hj=>?_)
    ·rw[K7_]at this;exact this
    ·obtain⟨c0,h0,_⟩:=d_l g ds _ hf i j c hj
     obtain⟨v0,hv0,_⟩:=h3 _ j c0 (key i j c0 h0)
     simp only[World.cell?,hcs,Option.isSome_none,K_b,if_false]
     rw[show off*sz+(i*sz+j)=(off+i)*sz+j by rw[L_1];omega,hv0]
     simp[hv0]
    ·obtain⟨c0,h0,h1'⟩:=d_l g ds _ hf i j c hj
     obtain⟨v0,hv0,hV0⟩:=h3 _ j c0 (key i j c0 h0)
     have:cells.getD ((off+i)*sz+j) undef=v0:=by simp[hv0]
     rw[this]
     exact h1' _ hV0
theorem y_h (g:Gam G w h):∀(ds:List D)(l:List AV),FzL k h ds l->∀(j:Nat)(c:AV),(D.avL ds)[j]?=some c->∃c0,l[j]?=some c0/\∀v,V G w c0 v->V (G.frozen k) w c v
 | [],l,hh,j,c,hj=>by simp[D.avL]at hj
 | d :: ds,l,hh,j,c,hj=>by
  simp only[FzL]at hh
  obtain⟨a,r,rfl,h1,h2⟩:=hh
  simp only[D.avL]at hj
  cases j with
  | zero=>simp at hj;subst hj;exact⟨a,rfl,λv hv=>C_1 g d a v h1 hv⟩
  | succ j=>exact y_h g ds r h2 j c (by simpa using hj)
theorem d_l (g:Gam G w h):∀(ds:List (List D)) (es:List (List AV)),h_n k h ds es->∀(i j:Nat)(c:AV),l1_ (D.avLL ds) i j=some c->∃c0,l1_ es i j=some c0/\∀v,V G w c0 v->V (G.frozen k) w c v
 | [],es,hh,i,j,c,hj=>by simp[D.avLL,l1_]at hj
 | d :: ds,es,hh,i,j,c,hj=>by
  simp only[h_n]at hh
  obtain⟨a,r,rfl,h1,h2⟩:=hh
  simp only[D.avLL]at hj
  cases i with
  | zero=>exact y_h g d a h1 j c (by simpa [l1_] using hj)
  | succ i=>exact d_l g ds r h2 i j c (by simpa [l1_] using hj)
end
end
theorem Frz.d {k h r}{d:D}(hh:Fz k h d r):Frz k h r d.av:=λ_ _ v g hv=>C_1 g d r v hh hv
theorem Frz.agg {k h}{l l':List AV}(hl:l'.length=l.length) (hh:∀(j:Nat)(c':AV),l'[j]?=some c'->∃c,l[j]?=some c/\Frz k h c c'):Frz k h (.agg l) (.agg l'):=by
 intro G w v g hv
 cases hv with
 | agg _ vs hl' hV=>
  refine .agg _ _ (hl.trans hl') λj c v hc hv=>?_
  obtain⟨c0,h0,h1⟩:=hh j c hc
  exact h1 G w v g (hV j c0 v h0 hv)
theorem Frz.tup {k h}{l l':List AV}(hl:l'.length=l.length) (hh:∀(j:Nat)(c':AV),l'[j]?=some c'->∃c,l[j]?=some c/\Frz k h c c'):Frz k h (.tup l) (.tup l'):=by
 intro G w v g hv
 cases hv with
 | tup _ vs hl' hV=>
  refine .tup _ _ (hl.trans hl') λj c v hc hv=>?_
  obtain⟨c0,h0,h1⟩:=hh j c hc
  exact h1 G w v g (hV j c0 v h0 hv)
theorem Frz.tup2 {k h a a' b b'}(h1:Frz k h a a')(h2:Frz k h b b'):Frz k h (.tup [a,b]) (.tup [a',b']):=by
 refine .tup rfl λj c hj=>?_
 match j with
 | 0=>simp at hj;subst hj;exact⟨a,rfl,h1⟩
 | 1=>simp at hj;subst hj;exact⟨b,rfl,h2⟩
 | j+2=>simp at hj
theorem Frz.aggD {k h l}{ds:List D}(hh:FzL k h ds l):Frz k h (.agg l) (.agg (D.avL ds)):=by
 refine .agg (by rw[f_m,f_v hh]) λj c hj=>?_
 have:∃c0,l[j]?=some c0/\∃d,ds[j]?=some d/\c=d.av/\Fz k h d c0:=by
  induction ds generalizing l j with
  | nil=>simp[D.avL]at hj
  | cons d ds ih=>
   simp only[FzL]at hh
   obtain⟨a,r,rfl,h1,h2⟩:=hh
   simp only[D.avL]at hj
   cases j with
   | zero=>simp at hj;subst hj;exact⟨a,rfl,d,rfl,rfl,h1⟩
   | succ j=>simpa using ih h2 j (by simpa using hj)
 obtain⟨c0,h0,d,_,rfl,hf⟩:=this
 exact⟨c0,h0,Frz.d hf⟩
theorem post_same {H:Type}{enc:TypeId×Value->H}{P:Program}{f:Func}{s:ChangeSpec}{apart fresh handsOn d_0:Bool}{W W':World}{args:Array Value}{v:Value}{ds gs:List (DataW H)}{before pa pv:List MemPlace}
  (hW:DataW.Whole enc P f.params.toList s.vars apart W args.toList ds gs before)
  (hres:∀(b:Nat)(sp:Nat->Bool)(hd:Bool),DataW.TrodAll enc P W' b sp hd f.resultTypes.toList (v.resultList f.resultTypes.size) (s.fn H (ds++gs)).results [])
  (hargs:∀sp:Nat->Bool,(∀p∈before,sp p.block=true)->DataW.TrodAll enc P W' 0 sp true f.params.toList args.toList (s.fn H (ds++gs)).args pa)
  (hvars:∀sp:Nat->Bool,(∀p∈before,sp p.block=true)->DataW.TrodVars enc P W' sp s.vars (s.fn H (ds++gs)).vars pv)
  (hps:before=pa++pv) (hk:W.keptBut W' (·∈before)) (hfz:∀a,a.block<W.heap.size->W'.frozen? a=W.frozen? a)
  (hok:∀(j:Nat)(t:TypeId)(r:Value),f.resultTypes[j]?=some t->(v.resultList f.resultTypes.size)[j]?=some r->Value.okWide P W' .any 0 t r):
  s.post enc P f apart fresh handsOn d_0 W args v W':=by
 have hlt:=λp hp=>hW.lt p hp
 have hold:∀p∈before,(λb=>decide (b<W.heap.size)) p.block=true:=λp hp=>by simpa using hlt p hp
 refine⟨ds,gs,before,[],pa,pv,hW,hres _ _ _,hargs _ hold,hvars _ hold,World.keptBut_mono (λp hp=>⟨hp,?_⟩) hk,λ_=>?_⟩
 ·rw[hps,K_6]at hp
  exact Or.inr hp
 ·obtain⟨_,_,_,_,_,hz,hn⟩:=hW
  refine⟨hok,_,_,([]++pa)++pv,⟨[]++pa,pv,Go.ChangeShapes.trodAll_append (hargs _ (λ_ _=>rfl)) (hres _ _ _),hvars _ (λ_ _=>rfl),rfl,?_,?_⟩,?_⟩
  ·intro b off hp
   have hm:MemPlace.cell b off∈before:=by rw[hps];simpa using hp
   rw[hfz _ (hlt _ hm)]
   exact hz b off hm
  ·intro ha
   have:=hn ha
   rw[hps]at this
   simpa using this
  ·intro p hp _
   rw[hps]
   simpa using hp
theorem Ext.junk {h h':a0_}(x:Ext nof h h'):∃j,h'=h++j:=by
 refine⟨h'.drop h.length,?_⟩
 apply K_0
 intro m
 rcases L_3 m h.length with hm | hm
 ·rw[J_1 hm];exact x.2 m hm (λy=>y)
 ·rw[K_a hm,K_m];congr 1;omega
theorem J_u (h j:a0_)(x0:Option a5_):(h++[x0]++j)[h.length]?=some x0:=
 (J_1 (by simp)).trans (x3_ h x0)
theorem I_h (h j:a0_)(x0 y:Option a5_):(h++[x0]++j).set (h.length) y=h++[y]++j:=
 (J_6 _ _ (by simp)).trans (congrArg (·++j) (F_w h x0 y))
theorem J_t (h j:a0_)(x0 x1:Option a5_):(h++[x0]++[x1]++j)[h.length]?=some x0:=
 (J_1 (by simp)).trans (b_z h x0 x1)
theorem I_g (h j:a0_)(x0 x1 y:Option a5_):(h++[x0]++[x1]++j).set (h.length) y=h++[y]++[x1]++j:=
 (J_6 _ _ (by simp)).trans (congrArg (·++j) (F_v h x0 x1 y))
theorem J_s (h j:a0_)(x0 x1:Option a5_):(h++[x0]++[x1]++j)[h.length+1]?=some x1:=
 (J_1 (by simp)).trans (O1_ h x0 x1)
theorem I_f (h j:a0_)(x0 x1 y:Option a5_):(h++[x0]++[x1]++j).set (h.length+1) y=h++[x0]++[y]++j:=
 (J_6 _ _ (by simp)).trans (congrArg (·++j) (F_u h x0 x1 y))
theorem J_r (h j:a0_)(x0 x1 x2:Option a5_):(h++[x0]++[x1]++[x2]++j)[h.length]?=some x0:=
 (J_1 (by simp)).trans (v_s h x0 x1 x2)
theorem I_e (h j:a0_)(x0 x1 x2 y:Option a5_):(h++[x0]++[x1]++[x2]++j).set (h.length) y=h++[y]++[x1]++[x2]++j:=
 (J_6 _ _ (by simp)).trans (congrArg (·++j) (F_t h x0 x1 x2 y))
theorem J_q (h j:a0_)(x0 x1 x2:Option a5_):(h++[x0]++[x1]++[x2]++j)[h.length+1]?=some x1:=
 (J_1 (by simp)).trans (x_q h x0 x1 x2)
theorem I_d (h j:a0_)(x0 x1 x2 y:Option a5_):(h++[x0]++[x1]++[x2]++j).set (h.length+1) y=h++[x0]++[y]++[x2]++j:=
 (J_6 _ _ (by simp)).trans (congrArg (·++j) (F_s h x0 x1 x2 y))
theorem J_p (h j:a0_)(x0 x1 x2:Option a5_):(h++[x0]++[x1]++[x2]++j)[h.length+1+1]?=some x2:=
 (J_1 (by simp)).trans (B_k h x0 x1 x2)
theorem I_c (h j:a0_)(x0 x1 x2 y:Option a5_):(h++[x0]++[x1]++[x2]++j).set (h.length+1+1) y=h++[x0]++[x1]++[y]++j:=
 (J_6 _ _ (by simp)).trans (congrArg (·++j) (F_r h x0 x1 x2 y))
theorem J_o (h j:a0_)(x0 x1 x2 x3:Option a5_):(h++[x0]++[x1]++[x2]++[x3]++j)[h.length]?=some x0:=
 (J_1 (by simp)).trans (G_0 h x0 x1 x2 x3)
theorem I_b (h j:a0_)(x0 x1 x2 x3 y:Option a5_):(h++[x0]++[x1]++[x2]++[x3]++j).set (h.length) y=h++[y]++[x1]++[x2]++[x3]++j:=
 (J_6 _ _ (by simp)).trans (congrArg (·++j) (F_q h x0 x1 x2 x3 y))
theorem J_n (h j:a0_)(x0 x1 x2 x3:Option a5_):(h++[x0]++[x1]++[x2]++[x3]++j)[h.length+1]?=some x1:=
 (J_1 (by simp)).trans (G_z h x0 x1 x2 x3)
theorem I_a (h j:a0_)(x0 x1 x2 x3 y:Option a5_):(h++[x0]++[x1]++[x2]++[x3]++j).set (h.length+1) y=h++[x0]++[y]++[x2]++[x3]++j:=
 (J_6 _ _ (by simp)).trans (congrArg (·++j) (F_p h x0 x1 x2 x3 y))
theorem J_m (h j:a0_)(x0 x1 x2 x3:Option a5_):(h++[x0]++[x1]++[x2]++[x3]++j)[h.length+1+1]?=some x2:=
 (J_1 (by simp)).trans (G_y h x0 x1 x2 x3)
theorem H_9 (h j:a0_)(x0 x1 x2 x3 y:Option a5_):(h++[x0]++[x1]++[x2]++[x3]++j).set (h.length+1+1) y=h++[x0]++[x1]++[y]++[x3]++j:=
 (J_6 _ _ (by simp)).trans (congrArg (·++j) (F_o h x0 x1 x2 x3 y))
theorem J_l (h j:a0_)(x0 x1 x2 x3:Option a5_):(h++[x0]++[x1]++[x2]++[x3]++j)[h.length+1+1+1]?=some x3:=
 (J_1 (by simp)).trans (G_x h x0 x1 x2 x3)
theorem H_8 (h j:a0_)(x0 x1 x2 x3 y:Option a5_):(h++[x0]++[x1]++[x2]++[x3]++j).set (h.length+1+1+1) y=h++[x0]++[x1]++[x2]++[y]++j:=
 (J_6 _ _ (by simp)).trans (congrArg (·++j) (F_n h x0 x1 x2 x3 y))
theorem J_k (h j:a0_)(x0 x1 x2 x3 x4:Option a5_):(h++[x0]++[x1]++[x2]++[x3]++[x4]++j)[h.length]?=some x0:=
 (J_1 (by simp)).trans (G_w h x0 x1 x2 x3 x4)
theorem H_7 (h j:a0_)(x0 x1 x2 x3 x4 y:Option a5_):(h++[x0]++[x1]++[x2]++[x3]++[x4]++j).set (h.length) y=h++[y]++[x1]++[x2]++[x3]++[x4]++j:=
 (J_6 _ _ (by simp)).trans (congrArg (·++j) (F_m h x0 x1 x2 x3 x4 y))
theorem J_j (h j:a0_)(x0 x1 x2 x3 x4:Option a5_):(h++[x0]++[x1]++[x2]++[x3]++[x4]++j)[h.length+1]?=some x1:=
 (J_1 (by simp)).trans (G_v h x0 x1 x2 x3 x4)
theorem H_6 (h j:a0_)(x0 x1 x2 x3 x4 y:Option a5_):(h++[x0]++[x1]++[x2]++[x3]++[x4]++j).set (h.length+1) y=h++[x0]++[y]++[x2]++[x3]++[x4]++j:=
 (J_6 _ _ (by simp)).trans (congrArg (·++j) (F_l h x0 x1 x2 x3 x4 y))
theorem J_i (h j:a0_)(x0 x1 x2 x3 x4:Option a5_):(h++[x0]++[x1]++[x2]++[x3]++[x4]++j)[h.length+1+1]?=some x2:=
 (J_1 (by simp)).trans (G_u h x0 x1 x2 x3 x4)
theorem H_5 (h j:a0_)(x0 x1 x2 x3 x4 y:Option a5_):(h++[x0]++[x1]++[x2]++[x3]++[x4]++j).set (h.length+1+1) y=h++[x0]++[x1]++[y]++[x3]++[x4]++j:=
 (J_6 _ _ (by simp)).trans (congrArg (·++j) (F_k h x0 x1 x2 x3 x4 y))
theorem J_h (h j:a0_)(x0 x1 x2 x3 x4:Option a5_):(h++[x0]++[x1]++[x2]++[x3]++[x4]++j)[h.length+1+1+1]?=some x3:=
 (J_1 (by simp)).trans (G_t h x0 x1 x2 x3 x4)
theorem H_4 (h j:a0_)(x0 x1 x2 x3 x4 y:Option a5_):(h++[x0]++[x1]++[x2]++[x3]++[x4]++j).set (h.length+1+1+1) y=h++[x0]++[x1]++[x2]++[y]++[x4]++j:=
 (J_6 _ _ (by simp)).trans (congrArg (·++j) (F_j h x0 x1 x2 x3 x4 y))
theorem J_g (h j:a0_)(x0 x1 x2 x3 x4:Option a5_):(h++[x0]++[x1]++[x2]++[x3]++[x4]++j)[h.length+1+1+1+1]?=some x4:=
 (J_1 (by simp)).trans (G_s h x0 x1 x2 x3 x4)
theorem H_3 (h j:a0_)(x0 x1 x2 x3 x4 y:Option a5_):(h++[x0]++[x1]++[x2]++[x3]++[x4]++j).set (h.length+1+1+1+1) y=h++[x0]++[x1]++[x2]++[x3]++[y]++j:=
 (J_6 _ _ (by simp)).trans (congrArg (·++j) (F_i h x0 x1 x2 x3 x4 y))
theorem G_r (h:a0_)(x0 x1 x2 x3 x4 x5:Option a5_):(h++[x0]++[x1]++[x2]++[x3]++[x4]++[x5])[h.length]?=some x0:=by
 simp[K_q]
theorem F_h (h:a0_)(x0 x1 x2 x3 x4 x5 y:Option a5_):(h++[x0]++[x1]++[x2]++[x3]++[x4]++[x5]).set (h.length) y=h++[y]++[x1]++[x2]++[x3]++[x4]++[x5]:=by
 simp[J_8]
theorem J_f (h j:a0_)(x0 x1 x2 x3 x4 x5:Option a5_):(h++[x0]++[x1]++[x2]++[x3]++[x4]++[x5]++j)[h.length]?=some x0:=
 (J_1 (by simp)).trans (G_r h x0 x1 x2 x3 x4 x5)
theorem H_2 (h j:a0_)(x0 x1 x2 x3 x4 x5 y:Option a5_):(h++[x0]++[x1]++[x2]++[x3]++[x4]++[x5]++j).set (h.length) y=h++[y]++[x1]++[x2]++[x3]++[x4]++[x5]++j:=
 (J_6 _ _ (by simp)).trans (congrArg (·++j) (F_h h x0 x1 x2 x3 x4 x5 y))
theorem G_q (h:a0_)(x0 x1 x2 x3 x4 x5:Option a5_):(h++[x0]++[x1]++[x2]++[x3]++[x4]++[x5])[h.length+1]?=some x1:=by
 simp[K_q]
theorem F_g (h:a0_)(x0 x1 x2 x3 x4 x5 y:Option a5_):(h++[x0]++[x1]++[x2]++[x3]++[x4]++[x5]).set (h.length+1) y=h++[x0]++[y]++[x2]++[x3]++[x4]++[x5]:=by
 simp[J_8]
theorem J_e (h j:a0_)(x0 x1 x2 x3 x4 x5:Option a5_):(h++[x0]++[x1]++[x2]++[x3]++[x4]++[x5]++j)[h.length+1]?=some x1:=
 (J_1 (by simp)).trans (G_q h x0 x1 x2 x3 x4 x5)
theorem H_1 (h j:a0_)(x0 x1 x2 x3 x4 x5 y:Option a5_):(h++[x0]++[x1]++[x2]++[x3]++[x4]++[x5]++j).set (h.length+1) y=h++[x0]++[y]++[x2]++[x3]++[x4]++[x5]++j:=
 (J_6 _ _ (by simp)).trans (congrArg (·++j) (F_g h x0 x1 x2 x3 x4 x5 y))
theorem G_p (h:a0_)(x0 x1 x2 x3 x4 x5:Option a5_):(h++[x0]++[x1]++[x2]++[x3]++[x4]++[x5])[h.length+1+1]?=some x2:=by
 simp[J_8]
theorem F_f (h:a0_)(x0 x1 x2 x3 x4 x5 y:Option a5_):(h++[x0]++[x1]++[x2]++[x3]++[x4]++[x5]).set (h.length+1+1) y=h++[x0]++[x1]++[y]++[x3]++[x4]++[x5]:=by
 simp[J_8]
theorem J_d (h j:a0_)(x0 x1 x2 x3 x4 x5:Option a5_):(h++[x0]++[x1]++[x2]++[x3]++[x4]++[x5]++j)[h.length+1+1]?=some x2:=
 (J_1 (by simp)).trans (G_p h x0 x1 x2 x3 x4 x5)
theorem H_0 (h j:a0_)(x0 x1 x2 x3 x4 x5 y:Option a5_):(h++[x0]++[x1]++[x2]++[x3]++[x4]++[x5]++j).set (h.length+1+1) y=h++[x0]++[x1]++[y]++[x3]++[x4]++[x5]++j:=
 (J_6 _ _ (by simp)).trans (congrArg (·++j) (F_f h x0 x1 x2 x3 x4 x5 y))
theorem G_o (h:a0_)(x0 x1 x2 x3 x4 x5:Option a5_):(h++[x0]++[x1]++[x2]++[x3]++[x4]++[x5])[h.length+1+1+1]?=some x3:=by
 simp[J_8]
theorem F_e (h:a0_)(x0 x1 x2 x3 x4 x5 y:Option a5_):(h++[x0]++[x1]++[x2]++[x3]++[x4]++[x5]).set (h.length+1+1+1) y=h++[x0]++[x1]++[x2]++[y]++[x4]++[x5]:=by
 simp[J_8]
theorem J_c (h j:a0_)(x0 x1 x2 x3 x4 x5:Option a5_):(h++[x0]++[x1]++[x2]++[x3]++[x4]++[x5]++j)[h.length+1+1+1]?=some x3:=
 (J_1 (by simp)).trans (G_o h x0 x1 x2 x3 x4 x5)
theorem H_z (h j:a0_)(x0 x1 x2 x3 x4 x5 y:Option a5_):(h++[x0]++[x1]++[x2]++[x3]++[x4]++[x5]++j).set (h.length+1+1+1) y=h++[x0]++[x1]++[x2]++[y]++[x4]++[x5]++j:=
 (J_6 _ _ (by simp)).trans (congrArg (·++j) (F_e h x0 x1 x2 x3 x4 x5 y))
theorem G_n (h:a0_)(x0 x1 x2 x3 x4 x5:Option a5_):(h++[x0]++[x1]++[x2]++[x3]++[x4]++[x5])[h.length+1+1+1+1]?=some x4:=by
 simp[J_8]
theorem F_d (h:a0_)(x0 x1 x2 x3 x4 x5 y:Option a5_):(h++[x0]++[x1]++[x2]++[x3]++[x4]++[x5]).set (h.length+1+1+1+1) y=h++[x0]++[x1]++[x2]++[x3]++[y]++[x5]:=by
 simp[J_8]
theorem J_b (h j:a0_)(x0 x1 x2 x3 x4 x5:Option a5_):(h++[x0]++[x1]++[x2]++[x3]++[x4]++[x5]++j)[h.length+1+1+1+1]?=some x4:=
 (J_1 (by simp)).trans (G_n h x0 x1 x2 x3 x4 x5)
theorem H_y (h j:a0_)(x0 x1 x2 x3 x4 x5 y:Option a5_):(h++[x0]++[x1]++[x2]++[x3]++[x4]++[x5]++j).set (h.length+1+1+1+1) y=h++[x0]++[x1]++[x2]++[x3]++[y]++[x5]++j:=
 (J_6 _ _ (by simp)).trans (congrArg (·++j) (F_d h x0 x1 x2 x3 x4 x5 y))
theorem G_m (h:a0_)(x0 x1 x2 x3 x4 x5:Option a5_):(h++[x0]++[x1]++[x2]++[x3]++[x4]++[x5])[h.length+1+1+1+1+1]?=some x5:=by
 simp[J_8]
theorem F_c (h:a0_)(x0 x1 x2 x3 x4 x5 y:Option a5_):(h++[x0]++[x1]++[x2]++[x3]++[x4]++[x5]).set (h.length+1+1+1+1+1) y=h++[x0]++[x1]++[x2]++[x3]++[x4]++[y]:=by
 simp[J_8]
theorem J_a (h j:a0_)(x0 x1 x2 x3 x4 x5:Option a5_):(h++[x0]++[x1]++[x2]++[x3]++[x4]++[x5]++j)[h.length+1+1+1+1+1]?=some x5:=
 (J_1 (by simp)).trans (G_m h x0 x1 x2 x3 x4 x5)
theorem H_x (h j:a0_)(x0 x1 x2 x3 x4 x5 y:Option a5_):(h++[x0]++[x1]++[x2]++[x3]++[x4]++[x5]++j).set (h.length+1+1+1+1+1) y=h++[x0]++[x1]++[x2]++[x3]++[x4]++[y]++j:=
 (J_6 _ _ (by simp)).trans (congrArg (·++j) (F_c h x0 x1 x2 x3 x4 x5 y))
theorem G_l (h:a0_)(x0 x1 x2 x3 x4 x5 x6:Option a5_):(h++[x0]++[x1]++[x2]++[x3]++[x4]++[x5]++[x6])[h.length]?=some x0:=by
 simp[K_q]
theorem F_b (h:a0_)(x0 x1 x2 x3 x4 x5 x6 y:Option a5_):(h++[x0]++[x1]++[x2]++[x3]++[x4]++[x5]++[x6]).set (h.length) y=h++[y]++[x1]++[x2]++[x3]++[x4]++[x5]++[x6]:=by
 simp[J_8]
theorem I_9 (h j:a0_)(x0 x1 x2 x3 x4 x5 x6:Option a5_):(h++[x0]++[x1]++[x2]++[x3]++[x4]++[x5]++[x6]++j)[h.length]?=some x0:=
 (J_1 (by simp)).trans (G_l h x0 x1 x2 x3 x4 x5 x6)
theorem H_w (h j:a0_)(x0 x1 x2 x3 x4 x5 x6 y:Option a5_):(h++[x0]++[x1]++[x2]++[x3]++[x4]++[x5]++[x6]++j).set (h.length) y=h++[y]++[x1]++[x2]++[x3]++[x4]++[x5]++[x6]++j:=
 (J_6 _ _ (by simp)).trans (congrArg (·++j) (F_b h x0 x1 x2 x3 x4 x5 x6 y))
theorem G_k (h:a0_)(x0 x1 x2 x3 x4 x5 x6:Option a5_):(h++[x0]++[x1]++[x2]++[x3]++[x4]++[x5]++[x6])[h.length+1]?=some x1:=by
 simp[K_q]
theorem F_a (h:a0_)(x0 x1 x2 x3 x4 x5 x6 y:Option a5_):(h++[x0]++[x1]++[x2]++[x3]++[x4]++[x5]++[x6]).set (h.length+1) y=h++[x0]++[y]++[x2]++[x3]++[x4]++[x5]++[x6]:=by
 simp[J_8]
theorem I_8 (h j:a0_)(x0 x1 x2 x3 x4 x5 x6:Option a5_):(h++[x0]++[x1]++[x2]++[x3]++[x4]++[x5]++[x6]++j)[h.length+1]?=some x1:=
 (J_1 (by simp)).trans (G_k h x0 x1 x2 x3 x4 x5 x6)
theorem H_v (h j:a0_)(x0 x1 x2 x3 x4 x5 x6 y:Option a5_):(h++[x0]++[x1]++[x2]++[x3]++[x4]++[x5]++[x6]++j).set (h.length+1) y=h++[x0]++[y]++[x2]++[x3]++[x4]++[x5]++[x6]++j:=
 (J_6 _ _ (by simp)).trans (congrArg (·++j) (F_a h x0 x1 x2 x3 x4 x5 x6 y))
theorem G_j (h:a0_)(x0 x1 x2 x3 x4 x5 x6:Option a5_):(h++[x0]++[x1]++[x2]++[x3]++[x4]++[x5]++[x6])[h.length+1+1]?=some x2:=by
 simp[J_8]
theorem E_9 (h:a0_)(x0 x1 x2 x3 x4 x5 x6 y:Option a5_):(h++[x0]++[x1]++[x2]++[x3]++[x4]++[x5]++[x6]).set (h.length+1+1) y=h++[x0]++[x1]++[y]++[x3]++[x4]++[x5]++[x6]:=by
 simp[J_8]
theorem I_7 (h j:a0_)(x0 x1 x2 x3 x4 x5 x6:Option a5_):(h++[x0]++[x1]++[x2]++[x3]++[x4]++[x5]++[x6]++j)[h.length+1+1]?=some x2:=
 (J_1 (by simp)).trans (G_j h x0 x1 x2 x3 x4 x5 x6)
theorem H_u (h j:a0_)(x0 x1 x2 x3 x4 x5 x6 y:Option a5_):(h++[x0]++[x1]++[x2]++[x3]++[x4]++[x5]++[x6]++j).set (h.length+1+1) y=h++[x0]++[x1]++[y]++[x3]++[x4]++[x5]++[x6]++j:=
 (J_6 _ _ (by simp)).trans (congrArg (·++j) (E_9 h x0 x1 x2 x3 x4 x5 x6 y))
theorem G_i (h:a0_)(x0 x1 x2 x3 x4 x5 x6:Option a5_):(h++[x0]++[x1]++[x2]++[x3]++[x4]++[x5]++[x6])[h.length+1+1+1]?=some x3:=by
 simp[J_8]
theorem E_8 (h:a0_)(x0 x1 x2 x3 x4 x5 x6 y:Option a5_):(h++[x0]++[x1]++[x2]++[x3]++[x4]++[x5]++[x6]).set (h.length+1+1+1) y=h++[x0]++[x1]++[x2]++[y]++[x4]++[x5]++[x6]:=by
 simp[J_8]
theorem I_6 (h j:a0_)(x0 x1 x2 x3 x4 x5 x6:Option a5_):(h++[x0]++[x1]++[x2]++[x3]++[x4]++[x5]++[x6]++j)[h.length+1+1+1]?=some x3:=
 (J_1 (by simp)).trans (G_i h x0 x1 x2 x3 x4 x5 x6)
theorem H_t (h j:a0_)(x0 x1 x2 x3 x4 x5 x6 y:Option a5_):(h++[x0]++[x1]++[x2]++[x3]++[x4]++[x5]++[x6]++j).set (h.length+1+1+1) y=h++[x0]++[x1]++[x2]++[y]++[x4]++[x5]++[x6]++j:=
 (J_6 _ _ (by simp)).trans (congrArg (·++j) (E_8 h x0 x1 x2 x3 x4 x5 x6 y))
theorem G_h (h:a0_)(x0 x1 x2 x3 x4 x5 x6:Option a5_):(h++[x0]++[x1]++[x2]++[x3]++[x4]++[x5]++[x6])[h.length+1+1+1+1]?=some x4:=by
 simp[J_8]
theorem E_7 (h:a0_)(x0 x1 x2 x3 x4 x5 x6 y:Option a5_):(h++[x0]++[x1]++[x2]++[x3]++[x4]++[x5]++[x6]).set (h.length+1+1+1+1) y=h++[x0]++[x1]++[x2]++[x3]++[y]++[x5]++[x6]:=by
 simp[J_8]
theorem I_5 (h j:a0_)(x0 x1 x2 x3 x4 x5 x6:Option a5_):(h++[x0]++[x1]++[x2]++[x3]++[x4]++[x5]++[x6]++j)[h.length+1+1+1+1]?=some x4:=
 (J_1 (by simp)).trans (G_h h x0 x1 x2 x3 x4 x5 x6)
theorem H_s (h j:a0_)(x0 x1 x2 x3 x4 x5 x6 y:Option a5_):(h++[x0]++[x1]++[x2]++[x3]++[x4]++[x5]++[x6]++j).set (h.length+1+1+1+1) y=h++[x0]++[x1]++[x2]++[x3]++[y]++[x5]++[x6]++j:=
 (J_6 _ _ (by simp)).trans (congrArg (·++j) (E_7 h x0 x1 x2 x3 x4 x5 x6 y))
theorem G_g (h:a0_)(x0 x1 x2 x3 x4 x5 x6:Option a5_):(h++[x0]++[x1]++[x2]++[x3]++[x4]++[x5]++[x6])[h.length+1+1+1+1+1]?=some x5:=by
 simp[J_8]
theorem E_6 (h:a0_)(x0 x1 x2 x3 x4 x5 x6 y:Option a5_):(h++[x0]++[x1]++[x2]++[x3]++[x4]++[x5]++[x6]).set (h.length+1+1+1+1+1) y=h++[x0]++[x1]++[x2]++[x3]++[x4]++[y]++[x6]:=by
 simp[J_8]
theorem I_4 (h j:a0_)(x0 x1 x2 x3 x4 x5 x6:Option a5_):(h++[x0]++[x1]++[x2]++[x3]++[x4]++[x5]++[x6]++j)[h.length+1+1+1+1+1]?=some x5:=
 (J_1 (by simp)).trans (G_g h x0 x1 x2 x3 x4 x5 x6)
theorem H_r (h j:a0_)(x0 x1 x2 x3 x4 x5 x6 y:Option a5_):(h++[x0]++[x1]++[x2]++[x3]++[x4]++[x5]++[x6]++j).set (h.length+1+1+1+1+1) y=h++[x0]++[x1]++[x2]++[x3]++[x4]++[y]++[x6]++j:=
 (J_6 _ _ (by simp)).trans (congrArg (·++j) (E_6 h x0 x1 x2 x3 x4 x5 x6 y))
theorem G_f (h:a0_)(x0 x1 x2 x3 x4 x5 x6:Option a5_):(h++[x0]++[x1]++[x2]++[x3]++[x4]++[x5]++[x6])[h.length+1+1+1+1+1+1]?=some x6:=by
 simp[J_8]
theorem E_5 (h:a0_)(x0 x1 x2 x3 x4 x5 x6 y:Option a5_):(h++[x0]++[x1]++[x2]++[x3]++[x4]++[x5]++[x6]).set (h.length+1+1+1+1+1+1) y=h++[x0]++[x1]++[x2]++[x3]++[x4]++[x5]++[y]:=by
 simp[J_8]
theorem I_3 (h j:a0_)(x0 x1 x2 x3 x4 x5 x6:Option a5_):(h++[x0]++[x1]++[x2]++[x3]++[x4]++[x5]++[x6]++j)[h.length+1+1+1+1+1+1]?=some x6:=
 (J_1 (by simp)).trans (G_f h x0 x1 x2 x3 x4 x5 x6)
theorem H_q (h j:a0_)(x0 x1 x2 x3 x4 x5 x6 y:Option a5_):(h++[x0]++[x1]++[x2]++[x3]++[x4]++[x5]++[x6]++j).set (h.length+1+1+1+1+1+1) y=h++[x0]++[x1]++[x2]++[x3]++[x4]++[x5]++[y]++j:=
 (J_6 _ _ (by simp)).trans (congrArg (·++j) (E_5 h x0 x1 x2 x3 x4 x5 x6 y))
theorem G_e (h:a0_)(x0 x1 x2 x3 x4 x5 x6 x7:Option a5_):(h++[x0]++[x1]++[x2]++[x3]++[x4]++[x5]++[x6]++[x7])[h.length]?=some x0:=by
 simp[K_q]
theorem E_4 (h:a0_)(x0 x1 x2 x3 x4 x5 x6 x7 y:Option a5_):(h++[x0]++[x1]++[x2]++[x3]++[x4]++[x5]++[x6]++[x7]).set (h.length) y=h++[y]++[x1]++[x2]++[x3]++[x4]++[x5]++[x6]++[x7]:=by
 simp[J_8]
theorem I_2 (h j:a0_)(x0 x1 x2 x3 x4 x5 x6 x7:Option a5_):(h++[x0]++[x1]++[x2]++[x3]++[x4]++[x5]++[x6]++[x7]++j)[h.length]?=some x0:=
 (J_1 (by simp)).trans (G_e h x0 x1 x2 x3 x4 x5 x6 x7)
theorem H_p (h j:a0_)(x0 x1 x2 x3 x4 x5 x6 x7 y:Option a5_):(h++[x0]++[x1]++[x2]++[x3]++[x4]++[x5]++[x6]++[x7]++j).set (h.length) y=h++[y]++[x1]++[x2]++[x3]++[x4]++[x5]++[x6]++[x7]++j:=
 (J_6 _ _ (by simp)).trans (congrArg (·++j) (E_4 h x0 x1 x2 x3 x4 x5 x6 x7 y))
theorem G_d (h:a0_)(x0 x1 x2 x3 x4 x5 x6 x7:Option a5_):(h++[x0]++[x1]++[x2]++[x3]++[x4]++[x5]++[x6]++[x7])[h.length+1]?=some x1:=by
 simp[K_q]
theorem E_3 (h:a0_)(x0 x1 x2 x3 x4 x5 x6 x7 y:Option a5_):(h++[x0]++[x1]++[x2]++[x3]++[x4]++[x5]++[x6]++[x7]).set (h.length+1) y=h++[x0]++[y]++[x2]++[x3]++[x4]++[x5]++[x6]++[x7]:=by
 simp[J_8]
theorem I_1 (h j:a0_)(x0 x1 x2 x3 x4 x5 x6 x7:Option a5_):(h++[x0]++[x1]++[x2]++[x3]++[x4]++[x5]++[x6]++[x7]++j)[h.length+1]?=some x1:=
 (J_1 (by simp)).trans (G_d h x0 x1 x2 x3 x4 x5 x6 x7)
theorem H_o (h j:a0_)(x0 x1 x2 x3 x4 x5 x6 x7 y:Option a5_):(h++[x0]++[x1]++[x2]++[x3]++[x4]++[x5]++[x6]++[x7]++j).set (h.length+1) y=h++[x0]++[y]++[x2]++[x3]++[x4]++[x5]++[x6]++[x7]++j:=
 (J_6 _ _ (by simp)).trans (congrArg (·++j) (E_3 h x0 x1 x2 x3 x4 x5 x6 x7 y))
theorem G_c (h:a0_)(x0 x1 x2 x3 x4 x5 x6 x7:Option a5_):(h++[x0]++[x1]++[x2]++[x3]++[x4]++[x5]++[x6]++[x7])[h.length+1+1]?=some x2:=by
 simp[J_8]
theorem E_2 (h:a0_)(x0 x1 x2 x3 x4 x5 x6 x7 y:Option a5_):(h++[x0]++[x1]++[x2]++[x3]++[x4]++[x5]++[x6]++[x7]).set (h.length+1+1) y=h++[x0]++[x1]++[y]++[x3]++[x4]++[x5]++[x6]++[x7]:=by
 simp[J_8]
theorem I_0 (h j:a0_)(x0 x1 x2 x3 x4 x5 x6 x7:Option a5_):(h++[x0]++[x1]++[x2]++[x3]++[x4]++[x5]++[x6]++[x7]++j)[h.length+1+1]?=some x2:=
 (J_1 (by simp)).trans (G_c h x0 x1 x2 x3 x4 x5 x6 x7)
theorem H_n (h j:a0_)(x0 x1 x2 x3 x4 x5 x6 x7 y:Option a5_):(h++[x0]++[x1]++[x2]++[x3]++[x4]++[x5]++[x6]++[x7]++j).set (h.length+1+1) y=h++[x0]++[x1]++[y]++[x3]++[x4]++[x5]++[x6]++[x7]++j:=
 (J_6 _ _ (by simp)).trans (congrArg (·++j) (E_2 h x0 x1 x2 x3 x4 x5 x6 x7 y))
theorem G_b (h:a0_)(x0 x1 x2 x3 x4 x5 x6 x7:Option a5_):(h++[x0]++[x1]++[x2]++[x3]++[x4]++[x5]++[x6]++[x7])[h.length+1+1+1]?=some x3:=by
 simp[J_8]
theorem E_1 (h:a0_)(x0 x1 x2 x3 x4 x5 x6 x7 y:Option a5_):(h++[x0]++[x1]++[x2]++[x3]++[x4]++[x5]++[x6]++[x7]).set (h.length+1+1+1) y=h++[x0]++[x1]++[x2]++[y]++[x4]++[x5]++[x6]++[x7]:=by
 simp[J_8]
theorem I_z (h j:a0_)(x0 x1 x2 x3 x4 x5 x6 x7:Option a5_):(h++[x0]++[x1]++[x2]++[x3]++[x4]++[x5]++[x6]++[x7]++j)[h.length+1+1+1]?=some x3:=
 (J_1 (by simp)).trans (G_b h x0 x1 x2 x3 x4 x5 x6 x7)
theorem H_m (h j:a0_)(x0 x1 x2 x3 x4 x5 x6 x7 y:Option a5_):(h++[x0]++[x1]++[x2]++[x3]++[x4]++[x5]++[x6]++[x7]++j).set (h.length+1+1+1) y=h++[x0]++[x1]++[x2]++[y]++[x4]++[x5]++[x6]++[x7]++j:=
 (J_6 _ _ (by simp)).trans (congrArg (·++j) (E_1 h x0 x1 x2 x3 x4 x5 x6 x7 y))
theorem G_a (h:a0_)(x0 x1 x2 x3 x4 x5 x6 x7:Option a5_):(h++[x0]++[x1]++[x2]++[x3]++[x4]++[x5]++[x6]++[x7])[h.length+1+1+1+1]?=some x4:=by
 simp[J_8]
theorem E_0 (h:a0_)(x0 x1 x2 x3 x4 x5 x6 x7 y:Option a5_):(h++[x0]++[x1]++[x2]++[x3]++[x4]++[x5]++[x6]++[x7]).set (h.length+1+1+1+1) y=h++[x0]++[x1]++[x2]++[x3]++[y]++[x5]++[x6]++[x7]:=by
 simp[J_8]
theorem I_y (h j:a0_)(x0 x1 x2 x3 x4 x5 x6 x7:Option a5_):(h++[x0]++[x1]++[x2]++[x3]++[x4]++[x5]++[x6]++[x7]++j)[h.length+1+1+1+1]?=some x4:=
 (J_1 (by simp)).trans (G_a h x0 x1 x2 x3 x4 x5 x6 x7)
theorem H_l (h j:a0_)(x0 x1 x2 x3 x4 x5 x6 x7 y:Option a5_):(h++[x0]++[x1]++[x2]++[x3]++[x4]++[x5]++[x6]++[x7]++j).set (h.length+1+1+1+1) y=h++[x0]++[x1]++[x2]++[x3]++[y]++[x5]++[x6]++[x7]++j:=
 (J_6 _ _ (by simp)).trans (congrArg (·++j) (E_0 h x0 x1 x2 x3 x4 x5 x6 x7 y))
theorem F_9 (h:a0_)(x0 x1 x2 x3 x4 x5 x6 x7:Option a5_):(h++[x0]++[x1]++[x2]++[x3]++[x4]++[x5]++[x6]++[x7])[h.length+1+1+1+1+1]?=some x5:=by
 simp[J_8]
theorem E_z (h:a0_)(x0 x1 x2 x3 x4 x5 x6 x7 y:Option a5_):(h++[x0]++[x1]++[x2]++[x3]++[x4]++[x5]++[x6]++[x7]).set (h.length+1+1+1+1+1) y=h++[x0]++[x1]++[x2]++[x3]++[x4]++[y]++[x6]++[x7]:=by
 simp[J_8]
theorem I_x (h j:a0_)(x0 x1 x2 x3 x4 x5 x6 x7:Option a5_):(h++[x0]++[x1]++[x2]++[x3]++[x4]++[x5]++[x6]++[x7]++j)[h.length+1+1+1+1+1]?=some x5:=
 (J_1 (by simp)).trans (F_9 h x0 x1 x2 x3 x4 x5 x6 x7)
theorem H_k (h j:a0_)(x0 x1 x2 x3 x4 x5 x6 x7 y:Option a5_):(h++[x0]++[x1]++[x2]++[x3]++[x4]++[x5]++[x6]++[x7]++j).set (h.length+1+1+1+1+1) y=h++[x0]++[x1]++[x2]++[x3]++[x4]++[y]++[x6]++[x7]++j:=
 (J_6 _ _ (by simp)).trans (congrArg (·++j) (E_z h x0 x1 x2 x3 x4 x5 x6 x7 y))
theorem F_8 (h:a0_)(x0 x1 x2 x3 x4 x5 x6 x7:Option a5_):(h++[x0]++[x1]++[x2]++[x3]++[x4]++[x5]++[x6]++[x7])[h.length+1+1+1+1+1+1]?=some x6:=by
 simp[J_8]
theorem E_y (h:a0_)(x0 x1 x2 x3 x4 x5 x6 x7 y:Option a5_):(h++[x0]++[x1]++[x2]++[x3]++[x4]++[x5]++[x6]++[x7]).set (h.length+1+1+1+1+1+1) y=h++[x0]++[x1]++[x2]++[x3]++[x4]++[x5]++[y]++[x7]:=by
 simp[J_8]
theorem I_w (h j:a0_)(x0 x1 x2 x3 x4 x5 x6 x7:Option a5_):(h++[x0]++[x1]++[x2]++[x3]++[x4]++[x5]++[x6]++[x7]++j)[h.length+1+1+1+1+1+1]?=some x6:=
 (J_1 (by simp)).trans (F_8 h x0 x1 x2 x3 x4 x5 x6 x7)
theorem H_j (h j:a0_)(x0 x1 x2 x3 x4 x5 x6 x7 y:Option a5_):(h++[x0]++[x1]++[x2]++[x3]++[x4]++[x5]++[x6]++[x7]++j).set (h.length+1+1+1+1+1+1) y=h++[x0]++[x1]++[x2]++[x3]++[x4]++[x5]++[y]++[x7]++j:=
 (J_6 _ _ (by simp)).trans (congrArg (·++j) (E_y h x0 x1 x2 x3 x4 x5 x6 x7 y))
theorem F_7 (h:a0_)(x0 x1 x2 x3 x4 x5 x6 x7:Option a5_):(h++[x0]++[x1]++[x2]++[x3]++[x4]++[x5]++[x6]++[x7])[h.length+1+1+1+1+1+1+1]?=some x7:=by
 simp[J_8]
theorem E_x (h:a0_)(x0 x1 x2 x3 x4 x5 x6 x7 y:Option a5_):(h++[x0]++[x1]++[x2]++[x3]++[x4]++[x5]++[x6]++[x7]).set (h.length+1+1+1+1+1+1+1) y=h++[x0]++[x1]++[x2]++[x3]++[x4]++[x5]++[x6]++[y]:=by
 simp[J_8]
theorem I_v (h j:a0_)(x0 x1 x2 x3 x4 x5 x6 x7:Option a5_):(h++[x0]++[x1]++[x2]++[x3]++[x4]++[x5]++[x6]++[x7]++j)[h.length+1+1+1+1+1+1+1]?=some x7:=
 (J_1 (by simp)).trans (F_7 h x0 x1 x2 x3 x4 x5 x6 x7)
theorem H_i (h j:a0_)(x0 x1 x2 x3 x4 x5 x6 x7 y:Option a5_):(h++[x0]++[x1]++[x2]++[x3]++[x4]++[x5]++[x6]++[x7]++j).set (h.length+1+1+1+1+1+1+1) y=h++[x0]++[x1]++[x2]++[x3]++[x4]++[x5]++[x6]++[y]++j:=
 (J_6 _ _ (by simp)).trans (congrArg (·++j) (E_x h x0 x1 x2 x3 x4 x5 x6 x7 y))
theorem F_6 (h:a0_)(x0 x1 x2 x3 x4 x5 x6 x7 x8:Option a5_):(h++[x0]++[x1]++[x2]++[x3]++[x4]++[x5]++[x6]++[x7]++[x8])[h.length]?=some x0:=by
 simp[K_q]
theorem E_w (h:a0_)(x0 x1 x2 x3 x4 x5 x6 x7 x8 y:Option a5_):(h++[x0]++[x1]++[x2]++[x3]++[x4]++[x5]++[x6]++[x7]++[x8]).set (h.length) y=h++[y]++[x1]++[x2]++[x3]++[x4]++[x5]++[x6]++[x7]++[x8]:=by
 simp[J_8]
theorem I_u (h j:a0_)(x0 x1 x2 x3 x4 x5 x6 x7 x8:Option a5_):(h++[x0]++[x1]++[x2]++[x3]++[x4]++[x5]++[x6]++[x7]++[x8]++j)[h.length]?=some x0:=
 (J_1 (by simp)).trans (F_6 h x0 x1 x2 x3 x4 x5 x6 x7 x8)
theorem H_h (h j:a0_)(x0 x1 x2 x3 x4 x5 x6 x7 x8 y:Option a5_):(h++[x0]++[x1]++[x2]++[x3]++[x4]++[x5]++[x6]++[x7]++[x8]++j).set (h.length) y=h++[y]++[x1]++[x2]++[x3]++[x4]++[x5]++[x6]++[x7]++[x8]++j:=
 (J_6 _ _ (by simp)).trans (congrArg (·++j) (E_w h x0 x1 x2 x3 x4 x5 x6 x7 x8 y))
theorem F_5 (h:a0_)(x0 x1 x2 x3 x4 x5 x6 x7 x8:Option a5_):(h++[x0]++[x1]++[x2]++[x3]++[x4]++[x5]++[x6]++[x7]++[x8])[h.length+1]?=some x1:=by
 simp[K_q]
theorem E_v (h:a0_)(x0 x1 x2 x3 x4 x5 x6 x7 x8 y:Option a5_):(h++[x0]++[x1]++[x2]++[x3]++[x4]++[x5]++[x6]++[x7]++[x8]).set (h.length+1) y=h++[x0]++[y]++[x2]++[x3]++[x4]++[x5]++[x6]++[x7]++[x8]:=by
 simp[J_8]
theorem I_t (h j:a0_)(x0 x1 x2 x3 x4 x5 x6 x7 x8:Option a5_):(h++[x0]++[x1]++[x2]++[x3]++[x4]++[x5]++[x6]++[x7]++[x8]++j)[h.length+1]?=some x1:=
 (J_1 (by simp)).trans (F_5 h x0 x1 x2 x3 x4 x5 x6 x7 x8)
theorem H_g (h j:a0_)(x0 x1 x2 x3 x4 x5 x6 x7 x8 y:Option a5_):(h++[x0]++[x1]++[x2]++[x3]++[x4]++[x5]++[x6]++[x7]++[x8]++j).set (h.length+1) y=h++[x0]++[y]++[x2]++[x3]++[x4]++[x5]++[x6]++[x7]++[x8]++j:=
 (J_6 _ _ (by simp)).trans (congrArg (·++j) (E_v h x0 x1 x2 x3 x4 x5 x6 x7 x8 y))
theorem F_4 (h:a0_)(x0 x1 x2 x3 x4 x5 x6 x7 x8:Option a5_):(h++[x0]++[x1]++[x2]++[x3]++[x4]++[x5]++[x6]++[x7]++[x8])[h.length+1+1]?=some x2:=by
 simp[J_8]
theorem E_u (h:a0_)(x0 x1 x2 x3 x4 x5 x6 x7 x8 y:Option a5_):(h++[x0]++[x1]++[x2]++[x3]++[x4]++[x5]++[x6]++[x7]++[x8]).set (h.length+1+1) y=h++[x0]++[x1]++[y]++[x3]++[x4]++[x5]++[x6]++[x7]++[x8]:=by
 simp[J_8]
theorem I_s (h j:a0_)(x0 x1 x2 x3 x4 x5 x6 x7 x8:Option a5_):(h++[x0]++[x1]++[x2]++[x3]++[x4]++[x5]++[x6]++[x7]++[x8]++j)[h.length+1+1]?=some x2:=
 (J_1 (by simp)).trans (F_4 h x0 x1 x2 x3 x4 x5 x6 x7 x8)
theorem H_f (h j:a0_)(x0 x1 x2 x3 x4 x5 x6 x7 x8 y:Option a5_):(h++[x0]++[x1]++[x2]++[x3]++[x4]++[x5]++[x6]++[x7]++[x8]++j).set (h.length+1+1) y=h++[x0]++[x1]++[y]++[x3]++[x4]++[x5]++[x6]++[x7]++[x8]++j:=
 (J_6 _ _ (by simp)).trans (congrArg (·++j) (E_u h x0 x1 x2 x3 x4 x5 x6 x7 x8 y))
theorem F_3 (h:a0_)(x0 x1 x2 x3 x4 x5 x6 x7 x8:Option a5_):(h++[x0]++[x1]++[x2]++[x3]++[x4]++[x5]++[x6]++[x7]++[x8])[h.length+1+1+1]?=some x3:=by
 simp[J_8]
theorem E_t (h:a0_)(x0 x1 x2 x3 x4 x5 x6 x7 x8 y:Option a5_):(h++[x0]++[x1]++[x2]++[x3]++[x4]++[x5]++[x6]++[x7]++[x8]).set (h.length+1+1+1) y=h++[x0]++[x1]++[x2]++[y]++[x4]++[x5]++[x6]++[x7]++[x8]:=by
 simp[J_8]
theorem I_r (h j:a0_)(x0 x1 x2 x3 x4 x5 x6 x7 x8:Option a5_):(h++[x0]++[x1]++[x2]++[x3]++[x4]++[x5]++[x6]++[x7]++[x8]++j)[h.length+1+1+1]?=some x3:=
 (J_1 (by simp)).trans (F_3 h x0 x1 x2 x3 x4 x5 x6 x7 x8)
theorem H_e (h j:a0_)(x0 x1 x2 x3 x4 x5 x6 x7 x8 y:Option a5_):(h++[x0]++[x1]++[x2]++[x3]++[x4]++[x5]++[x6]++[x7]++[x8]++j).set (h.length+1+1+1) y=h++[x0]++[x1]++[x2]++[y]++[x4]++[x5]++[x6]++[x7]++[x8]++j:=
 (J_6 _ _ (by simp)).trans (congrArg (·++j) (E_t h x0 x1 x2 x3 x4 x5 x6 x7 x8 y))
theorem F_2 (h:a0_)(x0 x1 x2 x3 x4 x5 x6 x7 x8:Option a5_):(h++[x0]++[x1]++[x2]++[x3]++[x4]++[x5]++[x6]++[x7]++[x8])[h.length+1+1+1+1]?=some x4:=by
 simp[J_8]
theorem E_s (h:a0_)(x0 x1 x2 x3 x4 x5 x6 x7 x8 y:Option a5_):(h++[x0]++[x1]++[x2]++[x3]++[x4]++[x5]++[x6]++[x7]++[x8]).set (h.length+1+1+1+1) y=h++[x0]++[x1]++[x2]++[x3]++[y]++[x5]++[x6]++[x7]++[x8]:=by
 simp[J_8]
theorem I_q (h j:a0_)(x0 x1 x2 x3 x4 x5 x6 x7 x8:Option a5_):(h++[x0]++[x1]++[x2]++[x3]++[x4]++[x5]++[x6]++[x7]++[x8]++j)[h.length+1+1+1+1]?=some x4:=
 (J_1 (by simp)).trans (F_2 h x0 x1 x2 x3 x4 x5 x6 x7 x8)
theorem H_d (h j:a0_)(x0 x1 x2 x3 x4 x5 x6 x7 x8 y:Option a5_):(h++[x0]++[x1]++[x2]++[x3]++[x4]++[x5]++[x6]++[x7]++[x8]++j).set (h.length+1+1+1+1) y=h++[x0]++[x1]++[x2]++[x3]++[y]++[x5]++[x6]++[x7]++[x8]++j:=
 (J_6 _ _ (by simp)).trans (congrArg (·++j) (E_s h x0 x1 x2 x3 x4 x5 x6 x7 x8 y))
theorem F_1 (h:a0_)(x0 x1 x2 x3 x4 x5 x6 x7 x8:Option a5_):(h++[x0]++[x1]++[x2]++[x3]++[x4]++[x5]++[x6]++[x7]++[x8])[h.length+1+1+1+1+1]?=some x5:=by
 simp[J_8]
theorem E_r (h:a0_)(x0 x1 x2 x3 x4 x5 x6 x7 x8 y:Option a5_):(h++[x0]++[x1]++[x2]++[x3]++[x4]++[x5]++[x6]++[x7]++[x8]).set (h.length+1+1+1+1+1) y=h++[x0]++[x1]++[x2]++[x3]++[x4]++[y]++[x6]++[x7]++[x8]:=by
 simp[J_8]
theorem I_p (h j:a0_)(x0 x1 x2 x3 x4 x5 x6 x7 x8:Option a5_):(h++[x0]++[x1]++[x2]++[x3]++[x4]++[x5]++[x6]++[x7]++[x8]++j)[h.length+1+1+1+1+1]?=some x5:=
 (J_1 (by simp)).trans (F_1 h x0 x1 x2 x3 x4 x5 x6 x7 x8)
theorem H_c (h j:a0_)(x0 x1 x2 x3 x4 x5 x6 x7 x8 y:Option a5_):(h++[x0]++[x1]++[x2]++[x3]++[x4]++[x5]++[x6]++[x7]++[x8]++j).set (h.length+1+1+1+1+1) y=h++[x0]++[x1]++[x2]++[x3]++[x4]++[y]++[x6]++[x7]++[x8]++j:=
 (J_6 _ _ (by simp)).trans (congrArg (·++j) (E_r h x0 x1 x2 x3 x4 x5 x6 x7 x8 y))
theorem F_0 (h:a0_)(x0 x1 x2 x3 x4 x5 x6 x7 x8:Option a5_):(h++[x0]++[x1]++[x2]++[x3]++[x4]++[x5]++[x6]++[x7]++[x8])[h.length+1+1+1+1+1+1]?=some x6:=by
 simp[J_8]
theorem E_q (h:a0_)(x0 x1 x2 x3 x4 x5 x6 x7 x8 y:Option a5_):(h++[x0]++[x1]++[x2]++[x3]++[x4]++[x5]++[x6]++[x7]++[x8]).set (h.length+1+1+1+1+1+1) y=h++[x0]++[x1]++[x2]++[x3]++[x4]++[x5]++[y]++[x7]++[x8]:=by
 simp[J_8]
theorem I_o (h j:a0_)(x0 x1 x2 x3 x4 x5 x6 x7 x8:Option a5_):(h++[x0]++[x1]++[x2]++[x3]++[x4]++[x5]++[x6]++[x7]++[x8]++j)[h.length+1+1+1+1+1+1]?=some x6:=
 (J_1 (by simp)).trans (F_0 h x0 x1 x2 x3 x4 x5 x6 x7 x8)
theorem H_b (h j:a0_)(x0 x1 x2 x3 x4 x5 x6 x7 x8 y:Option a5_):(h++[x0]++[x1]++[x2]++[x3]++[x4]++[x5]++[x6]++[x7]++[x8]++j).set (h.length+1+1+1+1+1+1) y=h++[x0]++[x1]++[x2]++[x3]++[x4]++[x5]++[y]++[x7]++[x8]++j:=
 (J_6 _ _ (by simp)).trans (congrArg (·++j) (E_q h x0 x1 x2 x3 x4 x5 x6 x7 x8 y))
theorem F_z (h:a0_)(x0 x1 x2 x3 x4 x5 x6 x7 x8:Option a5_):(h++[x0]++[x1]++[x2]++[x3]++[x4]++[x5]++[x6]++[x7]++[x8])[h.length+1+1+1+1+1+1+1]?=some x7:=by
 simp[J_8]
theorem E_p (h:a0_)(x0 x1 x2 x3 x4 x5 x6 x7 x8 y:Option a5_):(h++[x0]++[x1]++[x2]++[x3]++[x4]++[x5]++[x6]++[x7]++[x8]).set (h.length+1+1+1+1+1+1+1) y=h++[x0]++[x1]++[x2]++[x3]++[x4]++[x5]++[x6]++[y]++[x8]:=by
 simp[J_8]
theorem I_n (h j:a0_)(x0 x1 x2 x3 x4 x5 x6 x7 x8:Option a5_):(h++[x0]++[x1]++[x2]++[x3]++[x4]++[x5]++[x6]++[x7]++[x8]++j)[h.length+1+1+1+1+1+1+1]?=some x7:=
 (J_1 (by simp)).trans (F_z h x0 x1 x2 x3 x4 x5 x6 x7 x8)
theorem H_a (h j:a0_)(x0 x1 x2 x3 x4 x5 x6 x7 x8 y:Option a5_):(h++[x0]++[x1]++[x2]++[x3]++[x4]++[x5]++[x6]++[x7]++[x8]++j).set (h.length+1+1+1+1+1+1+1) y=h++[x0]++[x1]++[x2]++[x3]++[x4]++[x5]++[x6]++[y]++[x8]++j:=
 (J_6 _ _ (by simp)).trans (congrArg (·++j) (E_p h x0 x1 x2 x3 x4 x5 x6 x7 x8 y))
theorem F_y (h:a0_)(x0 x1 x2 x3 x4 x5 x6 x7 x8:Option a5_):(h++[x0]++[x1]++[x2]++[x3]++[x4]++[x5]++[x6]++[x7]++[x8])[h.length+1+1+1+1+1+1+1+1]?=some x8:=by
 simp[J_8]
theorem E_o (h:a0_)(x0 x1 x2 x3 x4 x5 x6 x7 x8 y:Option a5_):(h++[x0]++[x1]++[x2]++[x3]++[x4]++[x5]++[x6]++[x7]++[x8]).set (h.length+1+1+1+1+1+1+1+1) y=h++[x0]++[x1]++[x2]++[x3]++[x4]++[x5]++[x6]++[x7]++[y]:=by
 simp[J_8]
theorem I_m (h j:a0_)(x0 x1 x2 x3 x4 x5 x6 x7 x8:Option a5_):(h++[x0]++[x1]++[x2]++[x3]++[x4]++[x5]++[x6]++[x7]++[x8]++j)[h.length+1+1+1+1+1+1+1+1]?=some x8:=
 (J_1 (by simp)).trans (F_y h x0 x1 x2 x3 x4 x5 x6 x7 x8)
theorem G_9 (h j:a0_)(x0 x1 x2 x3 x4 x5 x6 x7 x8 y:Option a5_):(h++[x0]++[x1]++[x2]++[x3]++[x4]++[x5]++[x6]++[x7]++[x8]++j).set (h.length+1+1+1+1+1+1+1+1) y=h++[x0]++[x1]++[x2]++[x3]++[x4]++[x5]++[x6]++[x7]++[y]++j:=
 (J_6 _ _ (by simp)).trans (congrArg (·++j) (E_o h x0 x1 x2 x3 x4 x5 x6 x7 x8 y))
attribute [go_sem] J_u I_h J_t I_g J_s I_f J_r I_e J_q I_d J_p I_c J_o I_b J_n I_a J_m H_9 J_l H_8 J_k H_7 J_j H_6 J_i H_5 J_h H_4 J_g H_3 G_r F_h J_f H_2 G_q F_g J_e H_1 G_p F_f J_d H_0 G_o F_e J_c H_z G_n F_d J_b H_y G_m F_c J_a H_x G_l F_b I_9 H_w G_k F_a I_8 H_v G_j E_9 I_7 H_u G_i E_8 I_6 H_t G_h E_7 I_5 H_s G_g E_6 I_4 H_r G_f E_5 I_3 H_q G_e E_4 I_2 H_p G_d E_3 I_1 H_o G_c E_2 I_0 H_n G_b E_1 I_z H_m G_a E_0 I_y H_l F_9 E_z I_x H_k F_8 E_y I_w H_j F_7 E_x I_v H_i F_6 E_w I_u H_h F_5 E_v I_t H_g F_4 E_u I_s H_f F_3 E_t I_r H_e F_2 E_s I_q H_d F_1 E_r I_p H_c F_0 E_q I_o H_b F_z E_p I_n H_a F_y E_o I_m G_9
section
variable {F:Nat->Prop} {h:a0_} {G:Gh} {w:World}
end
theorem m_j (dep:Nat->Nat->Bool)(lo i:Nat)(l:List (Nat×Nat×a5_))(h:a0_):
  Y1_ dep lo 3 i l h=((((l.any λx=>dep i x.1 && x.2.1 == lo) || I2_ h[lo]?) && ((l.any λx=>dep i x.1 && x.2.1 == lo+1) || I2_ h[lo+1]?)) && ((l.any λx=>dep i x.1 && x.2.1 == lo+1+1) || I2_ h[lo+1+1]?)):=by
 simp[Y1_,List.range_succ,Bool.and_assoc,J_8]
attribute [go_sem] m_j
end Glb
