/-
  A library of its own.
-/
import Derived.Test.YtdeiamnhnfmilaaGreatGlbQuoB
import Derived.Test.YtdeiamnhnfmilaaGreatGlbMorA
import Derived.Test.YtdeiamnhnfmilaaGreatGlbCconf
set_option linter.unusedSimpArgs false
set_option linter.unusedVariables false
set_option maxRecDepth 10000
set_option maxHeartbeats 8000000
open Nat (reduceEqDiff)
namespace Glb
open Go
theorem Gam.stay {G:Gh}{w w':World}{h:a0_}(g:Gam G w h)(hr:Z0_ w w') (same:∀b,b<w.heap.size->w'.heap[b]?=w.heap[b]?):Gam G w' h/\Stp G w G w':=by
  have hsz:=hr.2.2.1
  have sh:∀b,(w.shape? b).isSome->w'.shape? b=w.shape? b:=λb hb=>by
    have hlt:b<w.heap.size:=by
      apply Classical.byContradiction;intro hn
      simp only[World.shape?,Array.getElem?_eq_none (Nat.le_of_not_lt hn)]at hb
      exact absurd hb (by simp)
    simp only[World.shape?,same b hlt]
  have k:h3_ G w G w':=⟨J_4 _,λ_ _ _ h=>h,λ_ _ h=>h,λ_ _ h=>h,λt b hp=>same b (g.protLt hp),sh⟩
  exact⟨{len:=g.len,live:=g.live,tag:=g.tag,inj:=g.inj,liveTag:=g.liveTag,liveS:=g.liveS,tagInj:=g.tagInj,tagS:=g.tagS,
           tagLt:=λn b hb=>K_c (g.tagLt n b hb) hsz,sLt:=λb hb=>K_c (g.sLt b hb) hsz,
           arr:=λn sz es gr b hn hb=>(g.arr n sz es gr b hn hb).keep k (same b (g.locLt (g.mkLive hn hb) hb)),nil:=g.nil,nilLoc:=g.nilLoc,
           map:=λn es b hn hb=>(g.map n es b hn hb).keep k (same b (g.locLt (g.mkLiveM hn hb) hb))},
    k,⟨λ_ h=>h,λ_ h=>.inl h⟩,λ_ _=>rfl,λ_ _=>Iff.rfl,hsz,λb hb _=>same b hb,λb hb=>.inl hb,hr⟩
structure c_c (P:Program)(f:FuncId):Prop where
 zero:∀(a:Addr)(c:Nat)(w:World),Calls P f #[.slice (some a) 0 c] w λe w'=>∃a' c',e=.returned (.slice (some a') 0 c')/\a'.spot=none/\Z0_ w w'/\∀k,k<w.heap.size->w'.heap[k]?=w.heap[k]?
def h_p (P:Program)(f:FuncId):Prop:=
 f2_ P f=true/\∀(F:Nat->Prop)(h:a0_)(l:List Int)(a:AV),Rd F h (b1_ l) a->l.length<=2^40->a6_ P f [a] h λr h'=>Own (b1_ l) (λm=>h.length<=m) h' r/\(l≠[]->d2_ h' r)/\Ext nof h h'
def Y9_ (b:Bool)(x:AV):Option AV:=if F0_ x then (e_w x).map λc=>.bool (c != b) else none
theorem W1_ (g:Opd->AV)(h:a0_)(b:Bool)(x:Opd):rev g h (.nileq b x)=Y9_ b (g x):=Eq.trans rfl rfl
theorem s_w {G w}{a:AV}{vs:Array Value} (hv:VL G w [a] vs):∃v,vs=#[v]/\V G w a v:=by
 have:=hv.1
 match vs with
 | ⟨[v]⟩=>exact⟨v,rfl,hv.2 0 a v rfl rfl⟩
 | ⟨[]⟩=>simp at this
 | ⟨_ :: _ :: _⟩=>simp at this
theorem n_s {G w}{a:AV}{v:Value}(hv:V G w a v):VL G w [a] #[v]:=⟨rfl,λj c v' hc hv'=>by
 cases j with
 | zero=>simp at hc hv';subst hc;subst hv';exact hv
 | succ j=>simp at hc⟩
theorem y_a {P:Program}{f:FuncId}(hf:Is P f d8_)(hk:c_c P f):h_p P f:=by
 refine⟨hf.2,λF h l a ha hl=>?_⟩
 by_cases h0:l=[]
 ·subst h0
  intro G w vs g hv
  obtain⟨v,rfl,hV⟩:=s_w hv
  have hz:v=.slice none 0 0\/∃p c,v=.slice (some p) 0 c:=by
   simp only[b1_,K_9,Rd,E4_]at ha
   obtain⟨es,he,rfl⟩:=ha
   rcases he with⟨rfl,_⟩ | ⟨t,c,rfl⟩ | ⟨n,off,len,cap,row,gr,rfl,_,hrow,hle,hcl,hes⟩
   ·cases hV;exact .inl rfl
   ·generalize hee:([]:List (List AV))=es at hV
    cases hV with
    | valsNil=>exact .inl rfl
    | vals=>subst hee;exact .inr ⟨_,_,rfl⟩
   ·have h1:len=0:=by
     have:=congrArg List.length hes
     simp at this;omega
    subst h1
    cases hV with
    | refNil=>exact .inl rfl
    | ref=>exact .inr ⟨_,_,rfl⟩
  rcases hz with rfl | ⟨p,c,rfl⟩
  ·have:a6_ P f [.nils] h λr h'=>Own (b1_ []) (λm=>h.length<=m) h' r/\(([]:List Int)≠[]->d2_ h' r)/\Ext nof h h':=by
    refine a4_ hf.1 (J_y rfl) ?_
    show vc P d8_.code ⟨[(0,.nils)],[],h⟩ (b2_ d8_.res _)
    have an:Y9_ false .nils=some (.bool true):=rfl
    simp only[d8_,go_sem,reduceEqDiff,W1_,an]
    exact⟨Own.nils 1,λh=>absurd rfl h,Ext.refl _ _⟩
   exact this G w _ g (n_s .nils)
  ·refine (hk.zero p c w).mono ?_
   rintro e w' ⟨a',c',rfl,hsp,hr,hs⟩
   obtain⟨g',s'⟩:=g.stay hr hs
   refine⟨_,.vals 0 false 1 [],h,G,rfl,⟨?_,λh=>absurd rfl h,Ext.refl _ _⟩,g',?_,s'⟩
   ·simp only[b1_,K_9,Own];exact .inr (.inl ⟨0,false,rfl,trivial⟩)
   ·exact V.vals (G:=G) (w:=w') 0 false 1 [] a' c' (λ_ _=>undef) (L_f _) (λe=>by cases e) (λ_=>hsp) (λhne=>absurd rfl hne) (λe he=>by simp at he) (λi j c hj=>by simp[l1_]at hj) (λi j c hj=>by simp[l1_]at hj)
 ·refine a4_ hf.1 (J_y rfl) ?_
  show vc P d8_.code ⟨[(0,a)],[],h⟩ (b2_ d8_.res _)
  have an:Y9_ false a=some (.bool false):=by
   have hpos:0<l.length:=List.length_pos_iff.2 h0
   have hl':=ha.ints_len
   simp only[b1_,Rd]at ha
   obtain⟨es,he,hes⟩:=ha
   have hlen:=x9_ hes
   rw[K_p]at hlen
   rcases he with⟨rfl,rfl⟩ | ⟨t,c,rfl⟩ | ⟨n,off,len,cap,row,gr,rfl,_,hrow,hle,hcl,rfl⟩
   ·simp at hlen;omega
   ·simp only[Y9_,F0_,e_w,if_true];rw[if_pos (by omega)];rfl
   ·simp only[K_i,K_o]at hlen
    simp only[Y9_,F0_,e_w,if_true];rw[if_pos (by omega)];rfl
  obtain⟨ys,hys,hyr⟩:=(ha.up (Ext.b1 (some (.arr 1 [] false)))).elems
  obtain⟨o,h',hap,ho',hc',he'⟩:=G6_ (lo:=h.length) (sz:=1) (bytes:=8) (ds:=[]) (h0:=h++[some (.arr 1 [] false)]) (h:=h++[some (.arr 1 [] false)]) (av:=.ref h.length 1 0 0 (some 0))
   (by simp only[Own];exact .inr (.inr ⟨_,0,some 0,[],false,rfl,J_4 _,x3_ _ _,by simp,(λc hc=>by cases hc;simp),by simp[a8_]⟩))
   ⟨[],false,x3_ _ _,(λh=>by cases h),λc hc=>by cases hc;simp⟩ (Ext.refl nof _) (N0_ hyr) (by simp) (by simp;omega)
  have ha2:=c6_ hys 8 (.ref h.length 1 0 0 (some 0))
  rw[hap]at ha2
  simp only[d8_,go_sem,reduceEqDiff,W1_,an,ha2]
  exact⟨by simpa [b1_] using ho',λ_=>hc',(Ext.b1 _).then he' (λm hm hm'=>by omega)⟩
theorem n_q {F:Nat->Prop}{h:a0_}{x:e3_}{o n e:AV}(ho:Own (b1_ x.old) F h o)(hn:Own (b1_ x.new) F h n)(he:Own (b1_ x.learners) F h e):g2_ x.c F h [o,n,e]:=by
 simp only[e3_.c,g2_];exact⟨_,_,rfl,ho,_,_,rfl,hn,_,_,rfl,he,rfl⟩
theorem l2_ {d:D}{lo n:Nat}{h:a0_}{a:AV}(ho:Own d (λm=>lo<=m) h a)(hn:n<lo)(x:Option a5_){k:Nat}(hk:k<=lo):Own d (λm=>k<=m) (h.set n x) a:=
 Own.mono _ (λm hm=>by omega) (λm hm y hy=>by rw[J_x (by omega)];exact hy) _ ho
theorem y6_:∀{l:List Int}{p:Option Int},rise p l=true->H2_ l/\(∀y,p=some y->∀m∈l,y<m)/\∀m∈l,1<=m/\m<=7
 | [],_,_=>⟨List.Pairwise.nil,by simp,by simp⟩
 | x :: r,p,h=>by
  simp only[rise,K_g,Bool.not_eq_true',L_u,decide_eq_false_iff_not]at h
  obtain⟨⟨⟨h1,h2⟩,h3⟩,h4⟩:=h
  obtain⟨g1,g2,g3⟩:=y6_ h4
  refine⟨L_0.2 ⟨g2 x rfl,g1⟩,λy hy m hm=>?_,λm hm=>?_⟩
  ·subst hy
   simp only[decide_eq_false_iff_not]at h3
   rcases List.mem_cons.1 hm with rfl | hm
   ·omega
   ·have:=g2 x rfl m hm;omega
  ·rcases List.mem_cons.1 hm with rfl | hm
   ·omega
   ·exact g3 m hm
theorem o_7 {x:e3_}(h:x.right=true):x.old.length≠0/\H2_ x.old/\H2_ x.new/\H2_ x.learners/\(∀m∈x.old,1<=m/\m<=7)/\(∀m∈x.new,1<=m/\m<=7)/\(∀m∈x.learners,1<=m/\m<=7)/\(∀m∈x.learners,m∉x.old/\m∉x.new):=by
 simp only[e3_.right_eq,Bool.not_eq_true',L_u,decide_eq_false_iff_not,Bool.not_eq_false']at h
 obtain⟨⟨⟨⟨h0,h1⟩,h2⟩,h3⟩,h4⟩:=h
 refine⟨h0,(y6_ h1).1,(y6_ h2).1,(y6_ h3).1,(y6_ h1).2.2,(y6_ h2).2.2,(y6_ h3).2.2,λm hm=>?_⟩
 have:x.votes m=false:=by
  cases hv:x.votes m
  ·rfl
  ·have:x.learners.any x.votes=true:=M_m.2 ⟨m,hm,hv⟩
   rw[h4]at this;cases this
 simp only[e3_.votes,L_u,decide_eq_false_iff_not]at this
 exact this
end Glb
