/-
  A library of its own.
-/
import Derived.Test.YtdeiamnhnfmilaaGreatGlbRafK
set_option linter.unusedSimpArgs false
set_option linter.unusedVariables false
set_option maxRecDepth 10000
set_option maxHeartbeats 16000000
open Nat (reduceAdd reduceDiv reduceEqDiff reduceLeDiff reduceMod reducePow)
namespace Glb
open Go
def i_d (g:Int)(p:Int×Int):b9_:={b9_.zero with kind:=1,group:=g,term:=p.1,voted:=p.2}
def d7_.at' (h:d7_)(p:Int×Int):d7_:={h with term:=p.1,vote:=p.2}
def d7_.by' (h:d7_)(l:List (Int×Int)):d7_:=l.foldl d7_.at' h
theorem d7_.by_same (h:d7_)(l:List (Int×Int)):(h.by' l).group=h.group/\(h.by' l).log=h.log/\(h.by' l).conf=h.conf/\(h.by' l).snap=h.snap:=by
 induction l generalizing h with
 | nil=>exact⟨rfl,rfl,rfl,rfl⟩
 | cons p l ih=>exact ih (h.at' p)
theorem d7_.by_snoc (h:d7_)(l:List (Int×Int))(p:Int×Int):h.by' (l++[p])=(h.by' l).at' p:=by unfold d7_.by';rw[List.foldl_append];rfl
theorem m_t (h:d7_)(p:Int×Int):(⟨[h],[]⟩:x1_).applied (i_d h.group p)=(⟨[h.at' p],[]⟩,0):=by
 simp[x1_.applied,i_d,a_0,d7_.turned,d7_.at']
structure u_4 (r:b4_)(m:Msg)(y:RX):Prop where
 still:y.r.role=0/\y.r.applied=y.r.commit/\y.r.commit=r.commit
 id:y.r.id=r.id
 chg:∃l:List (Int×Int),y.o.changes=l.map (i_d r.hard.group)/\y.r.hard=r.hard.by' l/\l.length<=2/\∀p∈l,(0<=p.1/\p.1<=2^40)/\e2_ p.2
 term:r.hard.term<=y.r.hard.term
 same:y.r.hard.term=r.hard.term->r.hard.vote≠0->y.r.hard.vote=r.hard.vote
 msgs:y.o.msgs=[]\/∃v,y.o.msgs=[v]/\v.kind=2/\v.to=m.from_/\v.term=y.r.hard.term/\(v.ok=true->r.hard.log.newer m.index m.prev=true/\y.r.hard.vote=m.from_/\m.from_≠0)
theorem o_s {x:e3_}(h:x.right=true){n:Int}(hn:n∈x.voters):1<=n/\n<=7:=by
 obtain⟨-,⟨-,h2⟩,⟨-,h4⟩,-⟩:=W0_.1 h
 have:=((c_i _).2 n).1 hn
 simp only[K_6]at this
 rcases this with a | a
 ·exact h2 n a
 ·exact h4 n a
theorem x6_ {x:RX}(h1:x.r.role=0)(h2:x.r.applied=x.r.commit):x.ends=x:=by
 have e:x.r.ends=x.r:=by unfold b4_.ends;rw[if_neg (by rw[h1];simp)]
 unfold RX.ends
 simp only[e]
 rw[if_pos (by omega)]
theorem r_l {r:b4_}{m:Msg}(h1:r.role=0)(h2:r.applied=r.commit)(hk:m.kind=1)(hg:m.group=r.hard.group)(hc:r.hard.conf.right=true)(ht:0<=r.hard.term)(hm:m.term<=2^40)(hf:e2_ m.from_):u_4 r m (r.step m):=by
 have z0:e2_ 0:=⟨by decide,by decide⟩
 have nr:r.now.right=true:=(d7_.of_right hc).1
 unfold b4_.step
 rw[f_0]
 by_cases c1:r.voter m.from_=false
 ·rw[if_pos (.inr (.inr (.inr ⟨hk,c1⟩))),x6_ h1 h2]
  exact⟨⟨h1,h2,rfl⟩,rfl,⟨[],rfl,rfl,(by simp),λp hp=>by cases hp⟩,L_e _,λ_ _=>rfl,.inl rfl⟩
 ·have vn:m.from_∈r.now.voters:=by unfold b4_.voter at c1;simpa using c1
  have fw:=o_s nr vn
  have e0:¬(¬m.group=r.begin.r.hard.group\/m.kind<1\/5<m.kind\/m.kind=1/\r.begin.r.voter m.from_=false):=by
   have e:r.begin.r=r:=rfl
   rw[e]
   rintro (z | z | z | ⟨-,z⟩)
   ·exact z hg
   ·omega
   ·omega
   ·exact c1 z
  rw[if_neg e0]
  have et:∀x:RX,x.taken m=x.asked m:=λx=>by unfold RX.taken;rw[if_pos hk]
  rw[et]
  by_cases c2:r.hard.term<m.term
  ·have e1:r.begin.turned m=(r.begin.term m.term 0).follow 0:=if_pos c2
   have e2:((r.begin.term m.term 0).follow 0).r.hard.term=m.term:=rfl
   rw[e1,e2,if_neg (Int.lt_irrefl _)]
   unfold RX.asked
   have e3:I3_ ((r.begin.term m.term 0).follow 0).r.hard.term ((r.begin.term m.term 0).follow 0).r.hard.vote ((r.begin.term m.term 0).follow 0).r.hard.log m=r.hard.log.newer m.index m.prev:=by
    show I3_ m.term 0 r.hard.log m=_
    unfold I3_
    simp[hk]
   simp only[e3]
   cases c3:r.hard.log.newer m.index m.prev
   ·simp only[K_b,if_false]
    rw[x6_ rfl h2]
    exact⟨⟨rfl,h2,rfl⟩,rfl,⟨[(m.term,0)],rfl,rfl,(by simp),λp hp=>by simp at hp;subst hp;exact⟨⟨by show 0<=m.term;omega,hm⟩,z0⟩⟩,Int.le_of_lt c2,λe=>absurd e (by show m.term≠_;omega),.inr ⟨_,rfl,rfl,rfl,rfl,λe=>by cases e⟩⟩
   ·simp only[if_true]
    have e4:¬({r:={(RX.follow (r.begin.term m.term 0) 0).r with elapsed:=0},o:=(RX.follow (r.begin.term m.term 0) 0).o}:RX).r.hard.vote=m.from_:=by show ¬(0:Int)=m.from_;omega
    rw[if_neg e4,x6_ rfl h2]
    exact⟨⟨rfl,h2,rfl⟩,rfl,⟨[(m.term,0),(m.term,m.from_)],rfl,rfl,(by simp),λp hp=>by simp at hp;rcases hp with rfl | rfl;exact⟨⟨by show 0<=m.term;omega,hm⟩,z0⟩;exact⟨⟨by show 0<=m.term;omega,hm⟩,hf⟩⟩,Int.le_of_lt c2,λe=>absurd e (by show m.term≠_;omega),.inr ⟨_,rfl,rfl,rfl,rfl,λ_=>⟨c3,rfl,by omega⟩⟩⟩
  ·have e1:r.begin.turned m=r.begin:=if_neg c2
   have e2:r.begin.r=r:=rfl
   rw[e1,e2]
   by_cases c4:m.term<r.hard.term
   ·rw[if_pos c4,if_pos hk,x6_ h1 h2]
    exact⟨⟨h1,h2,rfl⟩,rfl,⟨[],rfl,rfl,(by simp),λp hp=>by cases hp⟩,L_e _,λ_ _=>rfl,.inr ⟨_,rfl,rfl,rfl,rfl,λe=>by cases e⟩⟩
   ·have c5:m.term=r.hard.term:=by omega
    rw[if_neg c4]
    unfold RX.asked
    simp only[e2]
    have e3:I3_ r.hard.term r.hard.vote r.hard.log m=((decide (r.hard.vote=0) || decide (r.hard.vote=m.from_)) && r.hard.log.newer m.index m.prev):=by
     unfold I3_;simp[hk,c5]
    rw[e3]
    cases c3:((decide (r.hard.vote=0) || decide (r.hard.vote=m.from_)) && r.hard.log.newer m.index m.prev)
    ·simp only[K_b,if_false]
     rw[x6_ h1 h2]
     exact⟨⟨h1,h2,rfl⟩,rfl,⟨[],rfl,rfl,(by simp),λp hp=>by cases hp⟩,L_e _,λ_ _=>rfl,.inr ⟨_,rfl,rfl,rfl,rfl,λe=>by cases e⟩⟩
    ·simp only[K_g,L_w,decide_eq_true_eq]at c3
     obtain⟨c6,c7⟩:=c3
     simp only[if_true]
     by_cases c8:r.hard.vote=m.from_
     ·rw[if_pos c8,x6_ h1 h2]
      exact⟨⟨h1,h2,rfl⟩,rfl,⟨[],rfl,rfl,(by simp),λp hp=>by cases hp⟩,L_e _,λ_ _=>rfl,.inr ⟨_,rfl,rfl,rfl,rfl,λ_=>⟨c7,c8,by omega⟩⟩⟩
     ·rw[if_neg c8,x6_ h1 h2]
      exact⟨⟨h1,h2,rfl⟩,rfl,⟨[(r.hard.term,m.from_)],rfl,rfl,(by simp),λp hp=>by simp at hp;subst hp;exact⟨⟨ht,by show r.hard.term<=_;omega⟩,hf⟩⟩,L_e _,λ_ z=>absurd (c6.resolve_right c8) z,.inr ⟨_,rfl,rfl,rfl,rfl,λ_=>⟨c7,rfl,by omega⟩⟩⟩
structure d7_.ok17 (x:d7_):Prop where
 term:0<=x.term/\x.term<=2^40
 base:0<=x.log.base/\x.log.base<=2^40
 bterm:0<=x.log.bterm/\x.log.bterm<=2^40
 small:x.small 500 32768
 conf:x.conf.right=true
def k_q (P:Program)(f:FuncId):Prop:=f2_ P f=true/\∀(F:Nat->Prop)(h:a0_)(x:d7_)(a:List AV),RdL F h x.c a->a6_ P f [.agg a] h λr h'=>(∃b,r=.bool b/\(b=true->x.ok17))/\h'=h
theorem o_8 {P:Program}{f f1 f2:FuncId}(hf:Is P f (m8_ f1 f2))(u1:k_w P f1)(u2:h_q P f2):k_q P f:=by
 refine⟨hf.2,λF h x a ha=>a6_.freeze (K:=λv h'=>(∃b,v=.bool b/\(b=true->x.ok17))/\Ext nof h h') (a4_ hf.1 (J_y rfl) ?_) (λr _ ⟨⟨b,e,z⟩,hx⟩=>⟨hx,r,by rw[e];exact Frz.bool _,b,e,z⟩)⟩
 show vc P (m8_ f1 f2).code ⟨[(0,.agg a)],[],h⟩ (b2_ (m8_ f1 f2).res _)
 obtain⟨e,o,n,l,s,rfl,he,ho,hn,hl,hsn⟩:=R8_ ha
 obtain⟨H,hH⟩:∃H,H=h++[some (a5_.arr 10 [[.int .i64 x.group,.int .i64 x.term,.int .i64 x.vote,.int .i64 x.log.base,.int .i64 x.log.bterm,e,o,n,l,s]] false)]++[some (a5_.arr 3 [[.int .i64 x.log.base,.int .i64 x.log.bterm,e]] false)]:=⟨_,rfl⟩
 have X1:Ext nof h H:=by rw[hH];exact Ext.b2 _ _
 have C0:H[h.length]?=some (some (a5_.arr 10 [[.int .i64 x.group,.int .i64 x.term,.int .i64 x.vote,.int .i64 x.log.base,.int .i64 x.log.bterm,e,o,n,l,s]] false)):=by rw[hH];exact b_z _ _ _
 have C1:H[h.length+1]?=some (some (a5_.arr 3 [[.int .i64 x.log.base,.int .i64 x.log.bterm,e]] false)):=by rw[hH];exact O1_ _ _ _
 have ha':=ha.up X1
 simp only[d7_.cells]at ha'
 have no:(∃b,AV.bool false=.bool b/\(b=true->x.ok17))/\Ext nof h H:=⟨⟨_,rfl,λe=>by cases e⟩,X1⟩
 simp only[m8_,d7_.cells,go_sem,reduceEqDiff,reduceAdd,reduceLeDiff,he.scalar,ho.scalar,hn.scalar,hl.scalar,hsn.scalar]
 rw[<-hH]
 clear hH
 by_cases c1:0<=x.term
 ·by_cases c2:x.term<=1099511627776
  ·by_cases c3:0<=x.log.base
   ·by_cases c4:x.log.base<=1099511627776
    ·by_cases c5:0<=x.log.bterm
     ·by_cases c6:x.log.bterm<=1099511627776
      ·simp only[go_sem,reduceEqDiff,reduceAdd,reduceLeDiff,C0,C1,decide_eq_true c1,decide_eq_true c2,decide_eq_true c3,decide_eq_true c4,decide_eq_true c5,decide_eq_true c6]
       refine a1_ ⟨u1.1,u1.2 F H x _ 500 32768 ha' (by omega) (by omega)⟩ ?_
       rintro _ H2 ⟨b,rfl,e2,hb⟩
       subst e2
       cases b
       ·simp only[go_sem,reduceEqDiff,reduceAdd,reduceLeDiff,C0,K_u]
        have sm:=hb rfl
        obtain⟨-,⟨k1,k2,k3⟩,-⟩:=id sm
        have rc:RdL F H2 x.conf.c [o,n,l]:=by
         simp only[e3_.c,RdL]
         exact⟨_,_,rfl,ho.up X1,_,_,rfl,hn.up X1,_,_,rfl,hl.up X1,rfl⟩
        refine j4_ u2.1 (u2.2 F H2 x.conf _ rc ⟨by omega,by omega,by omega⟩) ?_
        simp only[go_sem,reduceEqDiff]
        refine⟨⟨_,rfl,λe=>?_⟩,X1⟩
        cases cr:x.conf.right
        ·rw[cr]at e;cases e
        ·exact⟨⟨c1,c2⟩,⟨c3,c4⟩,⟨c5,c6⟩,sm,cr⟩
       ·simp only[go_sem,reduceEqDiff,K_l]
        exact no
      ·simp only[go_sem,reduceEqDiff,reduceAdd,C0,C1,decide_eq_true c1,decide_eq_true c2,decide_eq_true c3,decide_eq_true c4,decide_eq_true c5,decide_eq_false c6]
       exact no
     ·simp only[go_sem,reduceEqDiff,reduceAdd,C0,C1,decide_eq_true c1,decide_eq_true c2,decide_eq_true c3,decide_eq_true c4,decide_eq_false c5]
      exact no
    ·simp only[go_sem,reduceEqDiff,reduceAdd,C0,C1,decide_eq_true c1,decide_eq_true c2,decide_eq_true c3,decide_eq_false c4]
     exact no
   ·simp only[go_sem,reduceEqDiff,reduceAdd,C0,C1,decide_eq_true c1,decide_eq_true c2,decide_eq_false c3]
    exact no
  ·simp only[go_sem,reduceEqDiff,reduceAdd,C0,decide_eq_true c1,decide_eq_false c2]
   exact no
 ·simp only[go_sem,reduceEqDiff,decide_eq_false c1]
  exact no
theorem d7_.ok17.fit {x:d7_}(h:x.ok17)(hd:∀e∈x.log.es,c2_ e.data/\e2_ e.term/\e2_ e.kind)(hs:c2_ x.snap)(hn:e2_ x.group/\e2_ x.vote)(draw:Int){id:Int}(hid:1<=id/\id<=7):(b4_.new id x draw).fit 500:=by
 obtain⟨t,b,bt,⟨⟨s1,s2⟩,-,s3⟩,c⟩:=h
 have l:x.log.last=x.log.base+x.log.es.length:=rfl
 refine⟨⟨b.1,by show x.log.base<=_;omega⟩,by show x.log.es.length<=500;omega,by show x.log.last<=_;omega,λe he=>⟨⟨(hd e he).1,by have:=s2 e he;omega⟩,(hd e he).2⟩,c,⟨hs,by show x.snap.length<=_;omega⟩,t,⟨hn.1,hn.2,by unfold e2_;show _<=x.log.bterm/\x.log.bterm<=_;omega⟩,⟨L_e _,L_e _,by show x.log.base<=x.log.last;omega⟩,⟨by show (0:Int)<=0;omega,by show (0:Int)<=_;omega⟩,⟨by show (0:Int)<=0;omega,by show (0:Int)<=1;omega⟩,⟨by show (0:Int)<=0;omega,by show (0:Int)<=_;omega⟩,L_f _,⟨L_f _,λw hw=>by cases hw⟩,hid⟩
theorem e_7 {F:Nat->Prop}{h:a0_}{l:List Int}{a:AV}(hh:Rd F h (b1_ l) a){i:Nat}(hi:i<l.length):∃p,q9_ 1 a (.int .i64 i)=some p/\o5_ h false 1 p=some (.int .i64 l[i]):=by
 obtain⟨p,c,i1,i2,i3⟩:=Rd.index hh .i64 (i:=(i:Int)) (d:=[.int .i64 l[i]]) (by omega) (by rw[show ((i:Int)).toNat=i by omega,K_s,J_5 hi];rfl)
 refine⟨p,i1,?_⟩
 simp only[RdL,Rd]at i3
 obtain⟨_,_,rfl,rfl,rfl⟩:=i3
 rw[n2_ i2];rfl
def m_7 (P:Program)(f:FuncId):Prop:=f2_ P f=true/\∀(F:Nat->Prop)(h:a0_)(ts vs:List Int)(a b:AV)(term node:Int),Rd F h (b1_ ts) a->Rd F h (b1_ vs) b->ts.length=vs.length->ts.length<=2^30->(∀(i:Nat)(h1:i<ts.length)(h2:i<vs.length),ts[i]=term->vs[i]=node)->
 a6_ P f [a,b,.int .i64 term,.int .i64 node] h λr h'=>r=.bool true/\h'=h
theorem x_d {P:Program}{f:FuncId}(hf:Is P f m6_):m_7 P f:=by
 refine⟨hf.2,λF h ts vs a b term node ha hb hl hn hg=>a4_ hf.1 (J_y rfl) ?_⟩
 show vc P m6_.code ⟨[(0,a),(1,b),(2,.int .i64 term),(3,.int .i64 node)],[],h⟩ (b2_ m6_.res _)
 have la:M5_ a=some (.int .i64 ts.length):=by have:=ha.len;simpa [b1_] using this
 simp only[m6_,go_sem]
 obtain⟨I,hI⟩:∃I:Nat->Env->a0_->Prop,∀m L h',I m L h'↔∃i:Nat,lk 0 L=a/\lk 1 L=b/\lk 2 L=.int .i64 term/\lk 3 L=.int .i64 node/\lk 9 L=.int .i64 i/\h'=h/\i<=ts.length/\m=ts.length-i:=⟨_,λ_ _ _=>Iff.rfl⟩
 refine e8_ I ts.length ((hI _ _ _).2 ⟨0,by simp[a3_,c9_],by simp[a3_,c9_],by simp[a3_,c9_],by simp[a3_,c9_],by simp[a3_],rfl,by omega,by omega⟩) ?_
 intro m L h2 hh
 obtain⟨i,k0,k1,k2,k3,k9,e2,hi,rfl⟩:=(hI _ _ _).1 hh
 subst e2
 simp only[z8_,go_sem,reduceEqDiff,k0,k9,la]
 refine b0_ (λci=>?_) (λci=>?_)
 ·simp at ci
  have ci:i<ts.length:=by omega
  have ew:IntKind.i64.wrap ((i:Int)+1)=((i+1:Nat):Int):=by rw[a7_ (by omega)];omega
  obtain⟨p,p1,p2⟩:=e_7 ha ci
  obtain⟨q,q1,q2⟩:=e_7 hb (i:=i) (by omega)
  have gi:=hg i ci (by omega)
  generalize ts[i]=t at p2 gi
  generalize vs[i]=v at q2 gi
  by_cases c:t=term
  ·have c':=gi c
   simp only[go_sem,reduceEqDiff,k0,k1,k2,k3,k9,p1,p2,q1,q2,decide_eq_true c,decide_eq_true c',K_l,ew]
   exact⟨_,by omega,(hI _ _ _).2 ⟨i+1,by simp[a3_,k0],by simp[a3_,k1],by simp[a3_,k2],by simp[a3_,k3],by simp[a3_],rfl,by omega,rfl⟩⟩
  ·simp only[go_sem,reduceEqDiff,k0,k2,k9,p1,p2,decide_eq_false c,ew]
   exact⟨_,by omega,(hI _ _ _).2 ⟨i+1,by simp[a3_,k0],by simp[a3_,k1],by simp[a3_,k2],by simp[a3_,k3],by simp[a3_],rfl,by omega,rfl⟩⟩
 ·simp only[go_sem,reduceEqDiff]
theorem z_0 {x:e3_}(h:x.right=true):x.R:=by
 obtain⟨-,⟨-,h2⟩,⟨-,h4⟩,⟨-,h6⟩,-⟩:=W0_.1 h
 exact⟨λn hn=>by have:=h2 n hn;constructor<;>omega,λn hn=>by have:=h4 n hn;constructor<;>omega,λn hn=>by have:=h6 n hn;constructor<;>omega⟩
structure d7_.fitk (k:Nat)(x:d7_):Prop where
 R:x.R
 len:x.log.es.length<=k
 data:∀e∈x.log.es,e.data.length<=2^16
 conf:x.conf.few 7
 snap:x.snap.length<=2^16
 base:0<=x.log.base/\x.log.base<=2^41
theorem b4_.fit.hardk {k:Nat}{x:b4_}(h:x.fit k)(hk:k<=2^40):x.hard.fitk k:=
 ⟨⟨h.nums.1,⟨by have:=h.term;omega,by have:=h.term;omega⟩,h.nums.2.1,⟨⟨by have:=h.base;omega,by have:=h.base;omega⟩,h.nums.2.2,λe he=>⟨(h.data e he).2.1,(h.data e he).2.2,(h.data e he).1.1⟩⟩,z_0 h.conf,h.snap.1⟩,h.len,λe he=>(h.data e he).1.2,r2_ h.conf,h.snap.2,by have:=h.base;omega⟩
theorem Q9_ {k:Nat}{l:List e0_}(h1:l.length<=k)(h2:∀e∈l,e.data.length<=2^16):(l.flatMap v7_.enc).length<=k*65560:=by
 have h4:=f_i v7_.enc 65560 l (λe he=>by
  have:=h2 e he
  rw[f_j];simp only[J_z,c7_];omega)
 exact K_e h4 (K_w _ h1)
theorem d7_.fitk.enc {k:Nat}{x:d7_}(h:x.fitk k):(D0_.enc x).length<=k*65560+70000:=by
 have h7:=Q9_ h.len h.data
 have hn8:=f3_
 obtain⟨h3,h4,h5⟩:=h.conf
 have h6:=h.snap
 rw[j_y,g_j]
 simp only[e3_.bytes,J_z,hn8,c7_,List.length_cons,K_d]
 omega
theorem d7_.fitk.few {k:Nat}{x:d7_}(h:x.fitk k)(hk:k<=2^20):x.few:=⟨⟨by have:=h.len;omega,λe he=>by have:=h.data e he;omega⟩,h.conf.le (by omega),by have:=h.snap;omega⟩
theorem d7_.fitk.log {k:Nat}{x:d7_}(h:x.fitk k)(hk:k<=2^20):E3_ x.log:=⟨h.base.1,by have:=h.base.2;omega,(h.few hk).1⟩
structure b9_.fitc (c:b9_):Prop where
 R:c.R
 len:c.log.es.length<=2^12/\∀e∈c.log.es,e.data.length<=2^16
 conf:c.conf.few 7
 snap:c.snap.length<=2^16
theorem b9_.fitc.enc {c:b9_}(h:c.fitc):(o9_.enc c).length<=2^33:=by
 have h7:=Q9_ h.len.1 h.len.2
 have hn8:=f3_
 obtain⟨h3,h4,h5⟩:=h.conf
 have h6:=h.snap
 rw[d_w,g_j,c_g]
 simp only[e3_.bytes,J_z,hn8,c7_,List.length_cons,K_d]
 omega
theorem b9_.fitc.few {c:b9_}(h:c.fitc):c.few:=⟨⟨by have:=h.len.1;omega,λe he=>by have:=h.len.2 e he;omega⟩,h.conf.le (by omega),by have:=h.snap;omega⟩
def A5_ (x:d7_):x1_:=⟨[x],[]⟩
theorem e_c.one {P:Program}{f:FuncId}(hc:e_c P f){G:Nat->Prop}{h:a0_}{x:d7_}{c:b9_}{xs cs:List AV}{k:Nat}(ha:RdL G h (A5_ x).c xs)(hcc:RdL G h c.c cs)(hx:x.fitk k)(hk:k<=2^16)(hcf:c.fitc):
  a6_ P f [.agg xs,.agg cs] h λr h'=>r=.tup [.agg ((A5_ x).applied c).1.v,.int .i64 ((A5_ x).applied c).2]/\h'=h:=by
 have e:(x4_.enc (A5_ x)).length<=2^33:=by
  have e1:=hx.enc
  have e2:x4_.enc (A5_ x)=num 1++(D0_.enc x++[])++num 0:=by simp[x4_,l_8,u1_,g_l,A5_]
  rw[e2]
  simp only[J_z,c7_,K_d]
  have:k*65560<=2^16*65560:=K_w _ hk
  omega
 have iok:x4_.ok (A5_ x):=t_q ⟨λy hy=>by simp[A5_]at hy;subst hy;exact hx.R,λy hy=>by simp[A5_]at hy⟩ ⟨by simp[A5_],by simp[A5_],λy hy=>by simp[A5_]at hy;subst hy;exact hx.few (by omega)⟩
 have:=hc.2 G h (A5_ x) c xs cs ha hcc iok (p_9 hcf.R hcf.few) e hcf.enc (λy hy=>by simp[A5_]at hy;subst hy;exact hx.log (by omega)) (by have:=hcf.len.1;omega) (by simp[A5_]) (by simp[A5_])
 exact this.freeze λ_ _ ⟨bs,e1,o,X⟩=>⟨X,_,e1▸Frz.tup2 (Frz.aggD (g2_.fz _ (λ_ x=>x) _ o)) (Frz.int _ _),rfl⟩
def Msg.R (m:Msg):Prop:=e2_ m.kind/\e2_ m.from_/\e2_ m.to/\e2_ m.group/\e2_ m.term/\e2_ m.index/\e2_ m.prev/\e2_ m.commit/\e2_ m.round/\e2_ m.txn/\e2_ m.part/\e2_ m.ballot/\e2_ m.value/\e2_ m.seq/\(∀e∈m.es,e.R)/\c2_ m.data
theorem t_3 {d:List D}(h:s8_ d w_1):∃m:Msg,d=m.c/\m.R:=by
 obtain⟨_,_,rfl,g1,h⟩:=c1_ h
 obtain⟨_,_,rfl,g2,h⟩:=c1_ h
 obtain⟨_,_,rfl,g3,h⟩:=c1_ h
 obtain⟨_,_,rfl,g4,h⟩:=c1_ h
 obtain⟨_,_,rfl,g5,h⟩:=c1_ h
 obtain⟨_,_,rfl,g6,h⟩:=c1_ h
 obtain⟨_,_,rfl,g7,h⟩:=c1_ h
 obtain⟨_,_,rfl,g8,h⟩:=c1_ h
 obtain⟨_,_,rfl,g9,h⟩:=c1_ h
 obtain⟨_,_,rfl,g10,h⟩:=c1_ h
 obtain⟨_,_,rfl,g11,h⟩:=c1_ h
 obtain⟨_,_,rfl,g12,h⟩:=c1_ h
 obtain⟨_,_,rfl,g13,h⟩:=c1_ h
 obtain⟨_,_,rfl,g14,h⟩:=c1_ h
 obtain⟨_,_,rfl,g15,h⟩:=c1_ h
 obtain⟨_,_,rfl,g16,h⟩:=c1_ h
 obtain⟨_,_,rfl,g17,h⟩:=c1_ h
 cases J1_ h
 obtain⟨a1,rfl,w1⟩:=h7_ g1
 obtain⟨a2,rfl,w2⟩:=h7_ g2
 obtain⟨a3,rfl,w3⟩:=h7_ g3
 obtain⟨a4,rfl,w4⟩:=h7_ g4
 obtain⟨a5,rfl,w5⟩:=h7_ g5
 obtain⟨a6,rfl,w6⟩:=h7_ g6
 obtain⟨a7,rfl,w7⟩:=h7_ g7
 obtain⟨a8,rfl,w8⟩:=h7_ g8
 obtain⟨a9,rfl,w9⟩:=h7_ g9
 obtain⟨a10,rfl,w10⟩:=h7_ g10
 obtain⟨a11,rfl,w11⟩:=h7_ g11
 obtain⟨a12,rfl,w12⟩:=h7_ g12
 obtain⟨a13,rfl,w13⟩:=h7_ g13
 obtain⟨a14,rfl,w14⟩:=h7_ g14
 obtain⟨a15,rfl⟩:=v_g g15
 obtain⟨a16,rfl,w16⟩:=Y4_ g16
 obtain⟨a17,rfl,w17⟩:=U6_ g17
 exact⟨⟨a1,a2,a3,a4,a5,a6,a7,a8,a9,a10,a11,a12,a13,a14,a15,a16,a17⟩,rfl,t4_ w1,t4_ w2,t4_ w3,t4_ w4,t4_ w5,t4_ w6,t4_ w7,t4_ w8,t4_ w9,t4_ w10,t4_ w11,t4_ w12,t4_ w13,t4_ w14,w16,w17⟩
theorem p_3 {d:D}(h:b_0 d (.sl 17 w_1)):∃l:List Msg,d=.sl 17 (l.map Msg.c)/\∀m∈l,m.R:=by
 obtain⟨es,rfl,h'⟩:=h_o h
 obtain⟨l,rfl,hl⟩:=L4_ (f:=Msg.c) (R:=Msg.R) (λd hd=>t_3 hd) h'
 exact⟨l,rfl,hl⟩
theorem m_k {d:List D} (h:s8_ d [.sl 17 w_1]):∃l:List Msg,d=[.sl 17 (l.map Msg.c)]/\∀m∈l,m.R:=by
 obtain⟨_,_,rfl,g1,h⟩:=c1_ h
 cases J1_ h
 obtain⟨l,rfl,hl⟩:=p_3 g1
 exact⟨l,rfl,hl⟩
def d7_.cl (x:d7_):List AV:=[.int .i64 x.group,.int .i64 x.term,.int .i64 x.vote,.int .i64 x.log.base,.int .i64 x.log.bterm,i5_ x.log.es,g1_ x.conf.old,g1_ x.conf.new,g1_ x.conf.learners,k0_ x.snap]
structure VSt (tp tq lo hb xb r:Nat)(h0 x:d7_)(R:b4_)(ts vs:List Int)(ta vb:AV)(L:Nat->Nat)(h:a0_):Prop where
 mem:y1_ L h r R
 hrow:h[hb]?=some (some (.arr 10 [h0.cl] false))
 lab:(∀m,L m≠0->lo<=m)/\L hb=0/\L xb=0/\hb≠xb/\lo<=hb/\lo<=xb
 top:tp<=h.length/\tq<=h.length
 ex:∃(A B G:Nat->Prop)(a b:AV),h[xb]?=some (some (.arr 2 [[a,b]] false))/\RdL G h (A5_ x).c [a,b]/\(∀m,G m->L m=0/\m<h.length/\m≠xb)/\Own (b1_ ts) A h ta/\d2_ h ta/\Own (b1_ vs) B h vb/\d2_ h vb /\
  (∀m,A m->(L m=0/\lo<=m/\m<tp)/\m≠hb/\m≠xb/\¬G m/\¬B m)/\(∀m,B m->(L m=0/\lo<=m/\m<tq)/\m≠hb/\m≠xb/\¬G m)
theorem VSt.len {tp tq lo hb xb r h0 x R ts vs ta vb L h}(v:VSt tp tq lo hb xb r h0 x R ts vs ta vb L h):hb<h.length/\xb<h.length:=by
 obtain⟨A,B,G,a,b,e,-⟩:=v.ex
 exact⟨(J_w.1 v.hrow).1,(J_w.1 e).1⟩
theorem VSt.call {tp tq lo hb xb r h0 x R R' ts vs ta vb L L' h h'}(v:VSt tp tq lo hb xb r h0 x R ts vs ta vb L h)(m:y1_ L' h' r R')(e:∀m,m<h.length->L' m=L m) (hx:Ext (λm=>wA (L m)) h h') (hlo:lo<=h.length):VSt tp tq lo hb xb r h0 x R' ts vs ta vb L' h':=by
 obtain⟨mm,hr,⟨l1,l2,l3,l4,l5,l6⟩,top,A,B,G,a,b,xr,rg,gG,oa,ca,ob,cb,hA,hB⟩:=v
 have hbl:=(J_w.1 hr).1
 have xbl:=(J_w.1 xr).1
 have x1:=hx.1
 have kk:∀n,n<h.length->L n=0->h'[n]?=h[n]?:=λn hn z=>hx.2 n hn (λw=>w z)
 have kA:v4_ A h h':=λn hn y hy=>(kk n (K_c (hA n hn).1.2.2 top.1) (hA n hn).1.1).trans hy
 have kB:v4_ B h h':=λn hn y hy=>(kk n (K_c (hB n hn).1.2.2 top.2) (hB n hn).1.1).trans hy
 have kG:v4_ G h h':=λn hn y hy=>(kk n (gG n hn).2.1 (gG n hn).1).trans hy
 refine⟨m,(kk hb hbl l2).trans hr,⟨z_o e l1 hlo,(e hb hbl).trans l2,(e xb xbl).trans l3,l4,l5,l6⟩,⟨K_e top.1 x1,K_e top.2 x1⟩,A,B,G,a,b,(kk xb xbl l3).trans xr,RdL.mono (λ_ y=>y) kG _ _ rg,λn hn=>⟨(e n (gG n hn).2.1).trans (gG n hn).1,by have:=(gG n hn).2.1;omega,(gG n hn).2.2⟩,
  Own.mono _ (λ_ y=>y) kA _ oa,ca.keep oa kA,Own.mono _ (λ_ y=>y) kB _ ob,cb.keep ob kB,λn hn=>⟨⟨(e n (K_c (hA n hn).1.2.2 top.1)).trans (hA n hn).1.1,(hA n hn).1.2⟩,(hA n hn).2⟩,λn hn=>⟨⟨(e n (K_c (hB n hn).1.2.2 top.2)).trans (hB n hn).1.1,(hB n hn).1.2⟩,(hB n hn).2⟩⟩
theorem VSt.up {tp tq lo hb xb r h0 x R ts vs ta vb L h h'}(v:VSt tp tq lo hb xb r h0 x R ts vs ta vb L h)(hx:Ext nof h h')(hlo:lo<=h.length):VSt tp tq lo hb xb r h0 x R ts vs ta vb L h':=
 v.call (v.mem.up hx) (λ_ _=>rfl) ⟨hx.1,λm hm _=>hx.2 m hm (λz=>z)⟩ hlo
theorem VSt.setX {tp tq lo hb xb r h0 x R ts vs ta vb L h}(v:VSt tp tq lo hb xb r h0 x R ts vs ta vb L h)(y:d7_){a b:AV} (hr:RdL nof h (A5_ y).c [a,b]):VSt tp tq lo hb xb r h0 y R ts vs ta vb L (h.set xb (some (.arr 2 [[a,b]] false))):=by
 obtain⟨mm,hrow,⟨l1,l2,l3,l4,l5,l6⟩,top,A,B,G,a0,b0,xr,rg,gG,oa,ca,ob,cb,hA,hB⟩:=v
 have xbl:=(J_w.1 xr).1
 have kk:∀n,n≠xb->(h.set xb (some (.arr 2 [[a,b]] false)))[n]?=h[n]?:=λn hn=>J_x (λe=>hn e.symm)
 have kA:v4_ A h (h.set xb (some (.arr 2 [[a,b]] false))):=λn hn y hy=>(kk n (hA n hn).2.2.1).trans hy
 have kB:v4_ B h (h.set xb (some (.arr 2 [[a,b]] false))):=λn hn y hy=>(kk n (hB n hn).2.2.1).trans hy
 refine⟨mm.keep (by simp) (λm hm=>kk m (λe=>hm (e▸l3))),(kk hb l4).trans hrow,⟨l1,l2,l3,l4,l5,l6⟩,by rw[J_2];exact top,A,B,nof,a,b,J_0 xbl,RdL.mono (λ_ y=>y) (λ_ y=>y.elim) _ _ hr,λ_ y=>y.elim,Own.mono _ (λ_ y=>y) kA _ oa,ca.keep oa kA,Own.mono _ (λ_ y=>y) kB _ ob,cb.keep ob kB,
  λn hn=>⟨(hA n hn).1,(hA n hn).2.1,(hA n hn).2.2.1,(λz=>z),(hA n hn).2.2.2.2⟩,λn hn=>⟨(hB n hn).1,(hB n hn).2.1,(hB n hn).2.2.1,(λz=>z)⟩⟩
theorem VSt.rise {tp tq tp' lo hb xb r h0 x R ts vs ta vb L h}(v:VSt tp tq lo hb xb r h0 x R ts vs ta vb L h)(h1:tp<=tp'/\tq<=tp')(h2:tp'<=h.length):VSt tp' tp' lo hb xb r h0 x R ts vs ta vb L h:=by
 obtain⟨mm,hrow,lab,top,A,B,G,a0,b0,xr,rg,gG,oa,ca,ob,cb,hA,hB⟩:=v
 exact⟨mm,hrow,lab,⟨h2,h2⟩,A,B,G,a0,b0,xr,rg,gG,oa,ca,ob,cb,λn hn=>⟨⟨(hA n hn).1.1,(hA n hn).1.2.1,K_c (hA n hn).1.2.2 h1.1⟩,(hA n hn).2⟩,λn hn=>⟨⟨(hB n hn).1.1,(hB n hn).1.2.1,K_c (hB n hn).1.2.2 h1.2⟩,(hB n hn).2⟩⟩
theorem VSt.addT {tp tq lo hb xb r h0 x R ts vs ta vb L h h2}(v:VSt tp tq lo hb xb r h0 x R ts vs ta vb L h)(hx:Ext nof h h2)(hlo:lo<=h.length)(hn:ts.length<=2^20)(n:Int):
  ∃ta' h',d3_ h2 1 8 ta [[.int .i64 n]]=some (ta',h')/\VSt h'.length tq lo hb xb r h0 x R (ts++[n]) vs ta' vb L h'/\ta'.scalar=true/\Ext (λm=>lo<=m/\(m<tp\/h2.length<=m)/\m≠hb/\m≠xb) h2 h':=by
 have hbl:=v.len
 have v2:=v.up hx hlo
 obtain⟨mm,hrow,⟨l1,l2,l3,l4,l5,l6⟩,top,A,B,G,a0,b0,xr,rg,gG,oa,ca,ob,cb,hA,hB⟩:=v2
 have x1:=hx.1
 have top0:=v.top
 have oa1:Own (b1_ ts) (λm=>(A m/\m<h2.length)\/h2.length<=m) h2 ta:=Own.mono _ (λm hm=>.inl hm) (λm hm y hy=>hy) _ (Own.lt _ _ oa)
 obtain⟨a',h',s1,s2,s3,s4⟩:=W4_ (bytes:=8) (es:=[[.int .i64 n]]) (ys:=[[.int .i64 n]]) oa1 ca (Ext.refl _ _) (by simp[a8_,g2_,Own]) (λm hm=>.inr hm) (by simp;omega)
 have kk:∀m,m<h2.length->¬A m->h'[m]?=h2[m]?:=λm hm hn=>s4.2 m hm (λz=>by rcases z with z | z;exact hn z.1;omega)
 have l':=s4.1
 have s2':=Own.lt _ _ s2
 have e4:b1_ (ts++[n])=.sl 1 (ts.map (λn=>[D.int .i64 n])++[[.int .i64 n]]):=by simp[b1_]
 have kB:v4_ B h2 h':=λm hm y hy=>(kk m (by have:=(hB m hm).1.2.2;omega) (λz=>(hA m z).2.2.2.2 hm)).trans hy
 have kG:v4_ G h2 h':=λm hm y hy=>(kk m (gG m hm).2.1 (λz=>(hA m z).2.2.2.1 hm)).trans hy
 have lt2:∀{m},L m≠0->m<h2.length:=fun {m} z=>(mm.lab m z).1
 refine⟨a',h',s1,⟨mm.keep l' (λm hm=>kk m (lt2 hm) (λz=>hm (hA m z).1.1)),(kk hb (by omega) (λz=>(hA hb z).2.1 rfl)).trans hrow,⟨l1,l2,l3,l4,l5,l6⟩,⟨J_4 _,by omega⟩,λm=>((A m/\m<h2.length)\/h2.length<=m)/\m<h'.length,B,G,a0,b0,(kk xb (by omega) (λz=>(hA xb z).2.2.1 rfl)).trans xr,
  RdL.mono (λ_ y=>y) kG _ _ rg,λm hm=>⟨(gG m hm).1,by have:=(gG m hm).2.1;omega,(gG m hm).2.2⟩,?_,s3,Own.mono _ (λ_ y=>y) kB _ ob,cb.keep ob kB,?_,λm hm=>hB m hm⟩,s2.scalar,?_⟩
 ·rw[e4];exact s2'
 ·rintro m ⟨hm,hlt⟩
  rcases hm with⟨z,z'⟩ | z
  ·exact⟨⟨(hA m z).1.1,(hA m z).1.2.1,hlt⟩,(hA m z).2⟩
  ·exact⟨⟨mm.ge z,by omega,hlt⟩,by omega,by omega,λy=>by have:=(gG m y).2.1;omega,λy=>by have:=(hB m y).1.2.2;omega⟩
 ·refine⟨l',λm hm hno=>kk m hm (λz=>hno ?_)⟩
  exact⟨(hA m z).1.2.1,.inl (hA m z).1.2.2,(hA m z).2.1,(hA m z).2.2.1⟩
theorem VSt.addV {tp tq lo hb xb r h0 x R ts vs ta vb L h h2}(v:VSt tp tq lo hb xb r h0 x R ts vs ta vb L h)(hx:Ext nof h h2)(hlo:lo<=h.length)(hn:vs.length<=2^20)(n:Int):
  ∃vb' h',d3_ h2 1 8 vb [[.int .i64 n]]=some (vb',h')/\VSt tp h'.length lo hb xb r h0 x R ts (vs++[n]) ta vb' L h'/\vb'.scalar=true/\Ext (λm=>lo<=m/\(m<tq\/h2.length<=m)/\m≠hb/\m≠xb) h2 h':=by
 have hbl:=v.len
 have v2:=v.up hx hlo
 obtain⟨mm,hrow,⟨l1,l2,l3,l4,l5,l6⟩,top,A,B,G,a0,b0,xr,rg,gG,oa,ca,ob,cb,hA,hB⟩:=v2
 have x1:=hx.1
 have top0:=v.top
 have ob1:Own (b1_ vs) (λm=>(B m/\m<h2.length)\/h2.length<=m) h2 vb:=Own.mono _ (λm hm=>.inl hm) (λm hm y hy=>hy) _ (Own.lt _ _ ob)
 obtain⟨a',h',s1,s2,s3,s4⟩:=W4_ (bytes:=8) (es:=[[.int .i64 n]]) (ys:=[[.int .i64 n]]) ob1 cb (Ext.refl _ _) (by simp[a8_,g2_,Own]) (λm hm=>.inr hm) (by simp;omega)
 have kk:∀m,m<h2.length->¬B m->h'[m]?=h2[m]?:=λm hm hn=>s4.2 m hm (λz=>by rcases z with z | z;exact hn z.1;omega)
 have l':=s4.1
 have s2':=Own.lt _ _ s2
 have e4:b1_ (vs++[n])=.sl 1 (vs.map (λn=>[D.int .i64 n])++[[.int .i64 n]]):=by simp[b1_]
 have kA:v4_ A h2 h':=λm hm y hy=>(kk m (by have:=(hA m hm).1.2.2;omega) (hA m hm).2.2.2.2).trans hy
 have kG:v4_ G h2 h':=λm hm y hy=>(kk m (gG m hm).2.1 (λz=>(hB m z).2.2.2 hm)).trans hy
 have lt2:∀{m},L m≠0->m<h2.length:=fun {m} z=>(mm.lab m z).1
 refine⟨a',h',s1,⟨mm.keep l' (λm hm=>kk m (lt2 hm) (λz=>hm (hB m z).1.1)),(kk hb (by omega) (λz=>(hB hb z).2.1 rfl)).trans hrow,⟨l1,l2,l3,l4,l5,l6⟩,⟨by omega,J_4 _⟩,A,λm=>((B m/\m<h2.length)\/h2.length<=m)/\m<h'.length,G,a0,b0,(kk xb (by omega) (λz=>(hB xb z).2.2.1 rfl)).trans xr,
  RdL.mono (λ_ y=>y) kG _ _ rg,λm hm=>⟨(gG m hm).1,by have:=(gG m hm).2.1;omega,(gG m hm).2.2⟩,Own.mono _ (λ_ y=>y) kA _ oa,ca.keep oa kA,?_,s3,λm hm=>⟨(hA m hm).1,(hA m hm).2.1,(hA m hm).2.2.1,(hA m hm).2.2.2.1,?_⟩,?_⟩,s2.scalar,?_⟩
 ·rw[e4];exact s2'
 ·rintro⟨z | z,hlt⟩
  ·exact (hA m hm).2.2.2.2 z.1
  ·have:=(hA m hm).1.2.2;omega
 ·rintro m ⟨hm,hlt⟩
  rcases hm with⟨z,z'⟩ | z
  ·exact⟨⟨(hB m z).1.1,(hB m z).1.2.1,hlt⟩,(hB m z).2⟩
  ·exact⟨⟨mm.ge z,by omega,hlt⟩,by omega,by omega,λy=>by have:=(gG m y).2.1;omega⟩
 ·refine⟨l',λm hm hno=>kk m hm (λz=>hno ?_)⟩
  exact⟨(hB m z).1.2.1,.inl (hB m z).1.2.2,(hB m z).2.1,(hB m z).2.2.1⟩
theorem VSt.fresh {tp tq lo hb xb r h0 x R ts vs ta vb L h h' r2}(v:VSt tp tq lo hb xb r h0 x R ts vs ta vb L h)(hx:Ext nof h h')(h2:h.length<=r2)(hlo:lo<=h.length){d:Int} (hr:h'[r2]?=some (some (.arr 21 [(b4_.new 1 x d).row .nils .nils] false))):
  VSt tp tq lo hb xb r2 h0 x (b4_.new 1 x d) ts vs ta vb (λm=>if m=r2 then 6 else 0) h':=by
 have hbl:=v.len
 have v2:=v.up hx hlo
 have top0:=v.top
 obtain⟨mm0,hrow0,lab0,top1,A0,B0,G0,a1,b1,xr0,rg0,gG0,rest0⟩:=v
 obtain⟨mm,hrow,⟨l1,l2,l3,l4,l5,l6⟩,top,-⟩:=v2
 have kk:∀m,m<h.length->(if m=r2 then 6 else 0)=0:=λm hm=>if_neg (by omega)
 obtain⟨oa,ca,ob,cb,hA,hB⟩:=rest0
 have k:∀F,v4_ F h h':=λF m hm y hy=>hx.get hy
 refine⟨l_1 hr,hrow,⟨λm hm=>?_,kk hb hbl.1,kk xb hbl.2,l4,l5,l6⟩,top,A0,B0,G0,a1,b1,hx.get xr0,RdL.mono (λ_ y=>y) (k _) _ _ rg0,λm hm=>⟨kk m (gG0 m hm).2.1,by have:=(gG0 m hm).2.1;have:=hx.1;omega,(gG0 m hm).2.2⟩,
  Own.mono _ (λ_ y=>y) (k _) _ oa,ca.keep oa (k _),Own.mono _ (λ_ y=>y) (k _) _ ob,cb.keep ob (k _),λm hm=>⟨⟨kk m (by have:=(hA m hm).1.2.2;omega),(hA m hm).1.2⟩,(hA m hm).2⟩,λm hm=>⟨⟨kk m (by have:=(hB m hm).1.2.2;omega),(hB m hm).1.2⟩,(hB m hm).2⟩⟩
 by_cases c:m=r2
 ·omega
 ·exact absurd (if_neg c) hm
theorem b4_.fit.new {k:Nat}{x:b4_}(h:x.fit k)(d:Int):(b4_.new 1 x.hard d).fit k:=by
 obtain⟨h1,h2,h3,h4,h5,h6,h7,h8,h9,h10,h11,h12,h13,h14,h15⟩:=h
 exact⟨h1,h2,h3,h4,h5,h6,h7,h8,⟨L_e _,L_e _,by show x.hard.log.base<=x.hard.log.last;unfold Log.last;omega⟩,⟨by show (0:Int)<=0;omega,by show (0:Int)<=_;omega⟩,⟨by show (0:Int)<=0;omega,by show (0:Int)<=1;omega⟩,⟨by show (0:Int)<=0;omega,by show (0:Int)<=_;omega⟩,L_f _,⟨L_f _,λw hw=>by cases hw⟩,⟨by show (1:Int)<=1;omega,by show (1:Int)<=7;omega⟩⟩
structure B_q (h0 x:d7_)(R:b4_)(ts vs:List Int):Prop where
 len:ts.length=vs.length
 hard:R.hard=x
 still:R.role=0/\R.applied=R.commit
 same:x.group=h0.group/\x.log=h0.log/\x.conf=h0.conf/\x.snap=h0.snap
 votes:∀(i:Nat)(h1:i<ts.length)(h2:i<vs.length),ts[i]<=x.term/\(ts[i]=x.term->vs[i]=x.vote/\x.vote≠0)
theorem d7_.fitk.at' {k:Nat}{x:d7_}(h:x.fitk k){p:Int×Int}(h1:e2_ p.1)(h2:e2_ p.2):(x.at' p).fitk k:=
 ⟨⟨h.R.1,h1,h2,h.R.2.2.2⟩,h.len,h.data,h.conf,h.snap,h.base⟩
theorem d7_.fitk.by' {k:Nat}{x:d7_}(h:x.fitk k):∀{l:List (Int×Int)},(∀p∈l,e2_ p.1/\e2_ p.2)->(x.by' l).fitk k:=by
 intro l
 induction l generalizing x with
 | nil=>intro _;exact h
 | cons p l ih=>intro hl;exact ih (h.at' (hl p (by simp)).1 (hl p (by simp)).2) (λq hq=>hl q (by simp[hq]))
theorem o_x {g:Int}{p:Int×Int}(hg:e2_ g)(h1:e2_ p.1)(h2:e2_ p.2):(i_d g p).fitc:=by
 have z:e2_ 0:=⟨by decide,by decide⟩
 have z1:e2_ 1:=⟨by decide,by decide⟩
 refine⟨⟨z1,hg,h1,h2,z,⟨z,z,(by intro e he;cases he)⟩,⟨(by intro e he;cases he),(by intro e he;cases he),(by intro e he;cases he)⟩,(by intro e he;cases he),⟨z,z,z,z,z⟩⟩,⟨L_f _,(by intro e he;cases he)⟩,⟨L_f _,L_f _,L_f _⟩,L_f _⟩
theorem v_v {P:Program}{f1 f2 f3 f4 f5 f6 f7 f8:FuncId}(u7:d_6 P f7)(u8:m_7 P f8){tp lo xb r mb rb s0 i:Nat}{h0 x:d7_}{R:b4_}{ts vs:List Int}{ta vb la:AV}{Lb:Nat->Nat}{hz h:a0_}{L:Env}{q:Msg}{e d ma ca aa:AV}{os:List Msg}{fst:Int}{rst:Bool}{K:AX->St->Prop}
  (g1:lk 1 L=la) (g2:lk 2 L=.ptr lo 10 0 0) (g5:lk 5 L=.ptr r 21 0 0) (g6:lk 6 L=.ptr xb 2 0 0) (g7:lk 7 L=ta) (g8:lk 8 L=vb) (g9:lk 9 L=.int .i64 i) (g10:lk 10 L=.ptr mb 17 0 0) (g11:lk 11 L=.ptr rb 5 0 0) (g15:lk 15 L=.int .i64 (0:Int))
  (v:VSt tp tp lo lo xb r h0 x R ts vs ta vb Lb h) (t:B_q h0 x R ts vs) (hy:Ext nof hz h) (hB:lo=hz.length) (hlo:E3_ h0.log) (hts:ts.length<=2^18)
  (hC:h[mb]?=some (some (.arr 17 [q.cells e d] false))) (he:e.scalar=true) (hd:d.scalar=true) (hD:h[rb]?=some (some (.arr 5 [[ma,ca,aa,.int .i64 fst,.bool rst]] false))) (hpl:tp<=mb/\mb<s0/\s0<=rb/\xb<tp)
  (dm:Rd (λn=>s0<=n/\n<rb) h (a_v os) ma) (ho:os.length<=1) (hv:∀w∈os,w.kind=2/\w.to=q.from_/\w.term=x.term/\(w.ok=true->h0.log.newer q.index q.prev=true/\x.vote=q.from_/\q.from_≠0))
  (hK:∀Lv h' ts' vs' ta' vb',(lk 1 Lv=la/\lk 2 Lv=.ptr lo 10 0 0/\lk 5 Lv=.ptr r 21 0 0/\lk 6 Lv=.ptr xb 2 0 0/\lk 7 Lv=ta'/\lk 8 Lv=vb'/\lk 9 Lv=.int .i64 i)->VSt h'.length h'.length lo lo xb r h0 x R ts' vs' ta' vb' Lb h'->B_q h0 x R ts' vs'->ts'.length<=ts.length+1->Ext nof hz h'->K (.exit 4) ⟨Lv,[],h'⟩):
  vc P (.loop (n1_ f1 f2 f3 f4 f5 f6 f7 f8)) ⟨L,[],h⟩ K:=by
 have lm:M5_ ma=some (.int .i64 os.length):=by have:=dm.len;simpa [a_v] using this
 have hmb:=(J_w.1 hC).1
 have hrb:=(J_w.1 hD).1
 have vl:=v.len
 have vtop:=v.top
 obtain⟨I,hI⟩:∃I:Nat->Env->a0_->Prop,∀n Lv h',I n Lv h'↔∃(j:Nat)(ts' vs':List Int)(ta' vb':AV)(tp':Nat),(lk 1 Lv=la/\lk 2 Lv=.ptr lo 10 0 0/\lk 5 Lv=.ptr r 21 0 0/\lk 6 Lv=.ptr xb 2 0 0/\lk 7 Lv=ta'/\lk 8 Lv=vb'/\lk 9 Lv=.int .i64 i/\lk 10 Lv=.ptr mb 17 0 0/\lk 11 Lv=.ptr rb 5 0 0/\lk 15 Lv=.int .i64 (j:Int)) /\
   VSt tp' tp' lo lo xb r h0 x R ts' vs' ta' vb' Lb h'/\B_q h0 x R ts' vs'/\Ext nof hz h'/\h'[rb]?=some (some (.arr 5 [[ma,ca,aa,.int .i64 fst,.bool rst]] false))/\j<=os.length/\n=os.length-j/\ts'.length<=ts.length+j/\(j=0->ts'=ts/\vs'=vs/\tp'=tp/\h'=h):=⟨_,λ_ _ _=>Iff.rfl⟩
 refine e8_ I os.length ((hI _ _ _).2 ⟨0,ts,vs,ta,vb,tp,⟨g1,g2,g5,g6,g7,g8,g9,g10,g11,by simpa using g15⟩,v,t,hy,hD,by omega,by omega,by omega,λ_=>⟨rfl,rfl,rfl,rfl⟩⟩) ?_
 intro n Lv h1 hh
 obtain⟨j,ts',vs',ta',vb',tp',⟨k1,k2,k5,k6,k7,k8,k9,k10,k11,k15⟩,v1,t1,y1,d1,hj,rfl,ht1,h01⟩:=(hI _ _ _).1 hh
 clear hh
 simp only[n1_,go_sem,reduceEqDiff,k11,k15,d1,lm]
 refine b0_ (λcj=>?_) (λcj=>?_)
 ·simp at cj
  have j0:j=0:=by omega
  subst j0
  obtain⟨rfl,rfl,rfl,rfl⟩:=h01 rfl
  clear h01
  obtain⟨w,hw⟩:∃w,os=[w]:=List.length_eq_one_iff.1 (by omega)
  subst hw
  obtain⟨w1,w2,w3,w4⟩:=hv w (by simp)
  obtain⟨p,c,i1,i2,i3⟩:=Rd.index dm .i64 (i:=(0:Int)) (d:=w.c) (by omega) (by simp)
  obtain⟨ew,dw,rfl,re,rd⟩:=G4_ i3
  have ld:o5_ h1 true 17 p=some (.agg (w.cells ew dw)):=by rw[n2_ i2];rfl
  simp only[Msg.cells]at ld
  have k15:lk 15 Lv=.int .i64 0:=k15
  simp only[go_sem,reduceEqDiff,reduceAdd,reduceLeDiff,k11,k15,d1,i1,ld,re.scalar,rd.scalar]
  obtain⟨H2,hH2⟩:∃H2,H2=h1++[some (a5_.arr 17 [w.cells ew dw] false)]:=⟨_,rfl⟩
  have X2:Ext nof h1 H2:=by rw[hH2];exact Ext.b1 _
  have B2:H2[h1.length]?=some (some (a5_.arr 17 [w.cells ew dw] false)):=by rw[hH2];exact x3_ _ _
  have l2:H2.length=h1.length+1:=by rw[hH2];simp
  simp only[Msg.cells]at hH2 B2
  rw[<-hH2]
  clear hH2
  have C2:=X2.get hC
  have D2:=X2.get hD
  simp only[Msg.cells]at C2
  have v2:=v1.up X2 (by omega)
  have R2:=v2.hrow
  simp only[d7_.cl]at R2
  have Y2:=hy.tr X2
  have fin:∀(Lv2:Env)(h2:a0_)(ts2 vs2:List Int)(ta2 vb2:AV),(lk 1 Lv2=la/\lk 2 Lv2=.ptr lo 10 0 0/\lk 5 Lv2=.ptr r 21 0 0/\lk 6 Lv2=.ptr xb 2 0 0/\lk 7 Lv2=ta2/\lk 8 Lv2=vb2/\lk 9 Lv2=.int .i64 i/\lk 10 Lv2=.ptr mb 17 0 0/\lk 11 Lv2=.ptr rb 5 0 0/\lk 15 Lv2=.int .i64 1)->
    VSt h2.length h2.length lo lo xb r h0 x R ts2 vs2 ta2 vb2 Lb h2->B_q h0 x R ts2 vs2->Ext nof hz h2->h2[rb]?=some (some (.arr 5 [[ma,ca,aa,.int .i64 fst,.bool rst]] false))->ts2.length<=ts'.length+1->∃m',m'<[w].length-0/\I m' Lv2 h2:=
   λLv2 h2 ts2 vs2 ta2 vb2 kk vv tt yy dd ll=>⟨0,by simp,(hI _ _ _).2 ⟨1,ts2,vs2,ta2,vb2,_,kk,vv,tt,yy,dd,by simp,by simp,by omega,λz=>by omega⟩⟩
  have ew1:IntKind.i64.wrap 1=1:=a7_ (by omega)
  simp only[go_sem,reduceEqDiff,reduceAdd,B2,C2,k10,decide_eq_true w1,decide_eq_true w2,K_l]
  cases c3:w.ok
  ·simp only[go_sem,reduceEqDiff,K_u,k15]
   refine fin _ _ ts' vs' ta' vb' ⟨by simp[a3_,k1],by simp[a3_,k2],by simp[a3_,k5],by simp[a3_,k6],by simp[a3_,k7],by simp[a3_,k8],by simp[a3_,k9],by simp[a3_,k10],by simp[a3_,k11],by simp[a3_,ew1]⟩ (v2.rise (by omega) (J_4 _)) t1 Y2 D2 (by omega)
  ·obtain⟨n1,n2,n3⟩:=w4 c3
   simp only[go_sem,reduceEqDiff,reduceAdd,reduceLeDiff,C2,K_l,k2,k10,R2]
   have rl:RdL nof H2 h0.log.c [.int .i64 h0.log.base,.int .i64 h0.log.bterm,i5_ h0.log.es]:=by rw[<-Log.v_eq];exact f_9 _ _ _
   refine a1_ ⟨u7.1,u7.2 nof H2 h0.log _ q.index q.prev rl hlo⟩ ?_
   rintro _ h3 ⟨rfl,e3⟩
   rw[e3]
   clear e3 h3
   have sT:ta'.scalar=true/\vb'.scalar=true:=by
    obtain⟨A,B,G,a,b,-,-,-,oa,-,ob,-⟩:=v2.ex
    exact⟨oa.scalar,ob.scalar⟩
   have rdT:Rd (λ_=>True) H2 (b1_ ts') ta'/\Rd (λ_=>True) H2 (b1_ vs') vb':=by
    obtain⟨A,B,G,a,b,-,-,-,oa,-,ob,-⟩:=v2.ex
    exact⟨Own.rd _ (λ_ _=>trivial) _ oa,Own.rd _ (λ_ _=>trivial) _ ob⟩
   simp only[go_sem,reduceEqDiff,reduceAdd,n1,B2,C2,k7,k8,k10,K_l]
   refine a1_ ⟨u8.1,u8.2 _ H2 ts' vs' _ _ w.term q.from_ rdT.1 rdT.2 t1.len (by omega) (λi h1 h2 e=>?_)⟩ ?_
   ·have:=(t1.votes i h1 h2).2 (by rw[e,w3])
    rw[this.1,n2]
   rintro _ h3 ⟨rfl,e3⟩
   rw[e3]
   clear e3 h3
   simp only[go_sem,reduceEqDiff,reduceAdd,B2,k7,K_l]
   obtain⟨H3,hH3⟩:∃H3,H3=H2++[some (a5_.arr 1 [[AV.int IntKind.i64 w.term]] false)]:=⟨_,rfl⟩
   have X3:Ext nof H2 H3:=by rw[hH3];exact Ext.b1 _
   have l3:H3.length=H2.length+1:=by rw[hH3];simp
   have c3':H3[H2.length]?=some (some (a5_.arr 1 [[.int .i64 w.term]] false)):=by rw[hH3];exact x3_ _ _
   have ae:q2_ H3 1 (.ref H2.length 1 0 1 (some 1))=some [[.int .i64 w.term]]:=by simp[q2_,c3',go_sem,reduceIte]
   obtain⟨ta2,H4,s1,v4,sT2,E4⟩:=v2.addT X3 (by omega) (by omega) w.term
   rw[<-c6_ ae]at s1
   rw[<-hH3,s1]
   clear hH3 s1 ae c3'
   have l4:=E4.1
   have C4:=(E4.2 mb (by omega) (by omega)).trans (X3.get C2)
   have D4:=(E4.2 rb (by omega) (by omega)).trans (X3.get D2)
   have Y4:Ext nof hz H4:=⟨by have:=Y2.1;omega,λm hm _=>(E4.2 m (by have:=Y2.1;omega) (by omega)).trans ((X3.2 m (by have:=Y2.1;omega) (λz=>z)).trans (Y2.2 m hm (λz=>z)))⟩
   simp only[go_sem,reduceEqDiff,reduceAdd,C4,k8,k10]
   obtain⟨H5,hH5⟩:∃H5,H5=H4++[some (a5_.arr 1 [[AV.int IntKind.i64 q.from_]] false)]:=⟨_,rfl⟩
   have X5:Ext nof H4 H5:=by rw[hH5];exact Ext.b1 _
   have l5:H5.length=H4.length+1:=by rw[hH5];simp
   have c5':H5[H4.length]?=some (some (a5_.arr 1 [[.int .i64 q.from_]] false)):=by rw[hH5];exact x3_ _ _
   have ae:q2_ H5 1 (.ref H4.length 1 0 1 (some 1))=some [[.int .i64 q.from_]]:=by simp[q2_,c5',go_sem,reduceIte]
   obtain⟨vb2,H6,s1,v6,sV2,E6⟩:=v4.addV X5 (by omega) (by have:=t1.len;omega) q.from_
   rw[<-c6_ ae]at s1
   rw[<-hH5,s1]
   clear hH5 s1 ae c5'
   have l6:=E6.1
   have D6:=(E6.2 rb (by omega) (by omega)).trans (X5.get D4)
   have Y6:Ext nof hz H6:=⟨by have:=Y4.1;omega,λm hm _=>(E6.2 m (by have:=Y4.1;omega) (by omega)).trans ((X5.2 m (by have:=Y4.1;omega) (λz=>z)).trans (Y4.2 m hm (λz=>z)))⟩
   simp only[go_sem,reduceEqDiff,k15]
   refine fin _ _ (ts'++[w.term]) (vs'++[q.from_]) ta2 vb2 ⟨by simp[a3_,k1],by simp[a3_,k2],by simp[a3_,k5],by simp[a3_,k6],by simp[a3_],by simp[a3_],by simp[a3_,k9],by simp[a3_,k10],by simp[a3_,k11],by simp[a3_,ew1]⟩ (v6.rise (by omega) (J_4 _)) ?_ Y6 D6 (by simp)
   refine⟨by simp[t1.len],t1.hard,t1.still,t1.same,λi h1 h2=>?_⟩
   have el:=t1.len
   by_cases ci:i<ts'.length
   ·rw[List.getElem_append_left ci,List.getElem_append_left (by omega)]
    exact t1.votes i ci (by omega)
   ·have ei:i=ts'.length:=by simp at h1;omega
    subst ei
    rw[List.getElem_append_right (J_4 _),List.getElem_append_right (by omega)]
    simp only[Nat.sub_self,el,L_5]
    exact⟨by omega,λ_=>⟨n2.symm,by omega⟩⟩
 ·simp only[go_sem]
  exact hK _ _ _ _ _ _ ⟨by simp[a3_,k1],by simp[a3_,k2],by simp[a3_,k5],by simp[a3_,k6],by simp[a3_,k7],by simp[a3_,k8],by simp[a3_,k9]⟩ (v1.rise v1.top (J_4 _)) t1 (by omega) y1
theorem i_v {P:Program}{f f1 f2 f3 f4 f5 f6 f7 f8:FuncId}(hf:Is P f (i2_ f1 f2 f3 f4 f5 f6 f7 f8))(u1:k_q P f1)(u2:h_h P f2)(u3:o_a P f3)(u4:o_i P f4)(u5:m_0 P f5)(u6:e_c P f6)(u7:d_6 P f7)(u8:m_7 P f8)
  (h0:d7_) (l:List Msg) (hR:h0.R) (lR:∀m∈l,m.R) (h:a0_):a6_ P f [.agg h0.v,(a_v l).av] h λv h'=>v=.bool true/\h'=h:=by
 refine a6_.freeze (K:=λv h'=>v=.bool true/\Ext nof h h') (a4_ hf.1 (J_y rfl) ?_) (λr _ ⟨e,hx⟩=>⟨hx,r,by rw[e];exact Frz.bool _,e⟩)
 show vc P (i2_ f1 f2 f3 f4 f5 f6 f7 f8).code ⟨[(0,.agg h0.v),(1,(a_v l).av)],[],h⟩ (b2_ (i2_ f1 f2 f3 f4 f5 f6 f7 f8).res _)
 have al:∀H,Rd nof H (a_v l) (a_v l).av:=λH=>s_i _ _ _
 have ll:M5_ (a_v l).av=some (.int .i64 l.length):=by have:=(al h).len;simpa [a_v] using this
 generalize (a_v l).av=la at *
 simp only[i2_,d7_.v_eq,go_sem,reduceEqDiff,reduceAdd,reduceLeDiff,k4_,r0_,w1_]
 obtain⟨H1,hH1⟩:∃H1,H1=h++[some (a5_.arr 10 [h0.cl] false)]:=⟨_,rfl⟩
 have X1:Ext nof h H1:=by rw[hH1];exact Ext.b1 _
 have B1:H1[h.length]?=some (some (a5_.arr 10 [h0.cl] false)):=by rw[hH1];exact x3_ _ _
 have l1:H1.length=h.length+1:=by rw[hH1];simp
 simp only[d7_.cl]at hH1 B1
 have rh:=W2_ h0 H1
 rw[<-hH1]
 clear hH1
 refine a1_ ⟨u1.1,u1.2 nof H1 h0 _ rh⟩ ?_
 rintro _ h2 ⟨⟨b,rfl,hb⟩,e2⟩
 rw[e2]
 clear e2 h2
 cases b
 ·simp only[go_sem,reduceEqDiff,K_u]
  refine j4_ u2.1 (u2.2 _) ?_
  simp only[go_sem,reduceEqDiff]
  exact X1
 ·have ok:=hb rfl
  by_cases c1:(200:Int)<l.length
  ·simp only[go_sem,reduceEqDiff,K_l,ll,decide_eq_true c1]
   refine j4_ u2.1 (u2.2 _) ?_
   simp only[go_sem,reduceEqDiff]
   exact X1
  ·simp only[go_sem,reduceEqDiff,reduceAdd,reduceLeDiff,K_l,ll,decide_eq_false c1,B1]
   have fk:(b4_.new 1 h0 0).fit 500:=ok.fit (λe he=>⟨(hR.2.2.2.1.2.2 e he).2.2,(hR.2.2.2.1.2.2 e he).1,(hR.2.2.2.1.2.2 e he).2.1⟩) hR.2.2.2.2.2 ⟨hR.1,hR.2.2.1⟩ 0 (by omega)
   have hl5:h0.log.es.length<=500:=fk.len
   have hs5:h0.snap.length<=2^16:=fk.snap.2
   have hb5:=ok.base
   refine a1_ ⟨u3.1,u3.2 nof H1 1 h0 _ 0 rh (fk.logOk (by omega)) ((r2_ ok.conf).le (by omega)) (by omega) ⟨by omega,hb5.1,by omega⟩⟩ ?_
   rintro _ H2 ⟨r,rfl,hr,row,X2⟩
   have B2:=X2.get B1
   have rl:=(J_w.1 row).1
   have x2:=X2.1
   simp only[go_sem,reduceEqDiff,reduceAdd,reduceLeDiff,B2]
   obtain⟨H4,hH4⟩:∃H4,H4=H2++[some (a5_.arr 10 [h0.cl] false)]++[some (a5_.arr 2 [[.ref H2.length 10 0 1 (some 1),.nils]] false)]:=⟨_,rfl⟩
   have X4:Ext nof H2 H4:=by rw[hH4];exact Ext.b2 _ _
   have l4:H4.length=H2.length+2:=by rw[hH4];simp
   have C0:H4[H2.length]?=some (some (a5_.arr 10 [h0.cl] false)):=by rw[hH4];exact b_z _ _ _
   have C1:H4[H2.length+1]?=some (some (a5_.arr 2 [[.ref H2.length 10 0 1 (some 1),.nils]] false)):=by rw[hH4];exact O1_ _ _ _
   have B4:H4[h.length]?=some (some (a5_.arr 10 [h0.cl] false)):=X4.get B2
   simp only[d7_.cl]at hH4
   rw[<-hH4]
   clear hH4
   have v0:VSt 0 0 h.length h.length (H2.length+1) r h0 h0 (b4_.new 1 h0 0) [] [] .nils .nils (λm=>if m=r then 6 else 0) H4:=by
    have hn:h.length≠r:=by omega
    have hm:H2.length+1≠r:=by omega
    refine⟨(l_1 row).up X4,B4,⟨λm hm=>?_,if_neg hn,if_neg hm,by omega,by omega,by omega⟩,⟨L_f _,L_f _⟩,nof,nof,(λm=>m=H2.length),_,_,C1,?_,λm hm=>?_,Own.nils 1,trivial,Own.nils 1,trivial,λ_ y=>y.elim,λ_ y=>y.elim⟩
    ·by_cases c:m=r
     ·omega
     ·exact absurd (if_neg c) hm
    ·have e1:Rd (λm=>m=H2.length) H4 (d_t [h0]) (.ref H2.length 10 0 1 (some 1)):=
      ⟨_,.inr (.inr ⟨_,_,_,_,_,_,rfl,rfl,C0,by simp,(λc hc=>by cases hc;simp),rfl⟩),by
       simp only[K_t,K_9,L_d,List.take_one,List.head?_cons,Option.toList,E4_]
       exact⟨_,_,rfl,RdL.mono (λ_ y=>y.elim) (λ_ y=>y.elim) _ _ (W2_ h0 H4),rfl⟩⟩
     simp only[x1_.c,A5_,RdL]
     exact⟨_,_,rfl,e1,_,_,rfl,⟨[],.inl ⟨rfl,rfl⟩,rfl⟩,rfl⟩
    ·subst hm
     exact⟨if_neg (by omega),by omega,by omega⟩
   have t0:B_q h0 h0 (b4_.new 1 h0 0) [] []:=⟨rfl,rfl,⟨rfl,rfl⟩,⟨rfl,rfl,rfl,rfl⟩,λi h1=>by cases h1⟩
   have Y4:Ext nof h H4:=(X1.tr X2).tr X4
   have xl4:h.length<=H4.length:=Y4.1
   clear B1 rh B2 B4 C0 C1 row rl X4 hr x2
   generalize hxb:H2.length+1=xb at *
   generalize hL0:(λm=>if m=r then 6 else 0)=L0 at *
   clear hxb l4 X2 hL0
   obtain⟨I,hI⟩:∃I:Nat->Env->a0_->Prop,∀m L h',I m L h'↔∃(i:Nat)(R:b4_)(x:d7_)(ts vs:List Int)(ta vb:AV)(r:Nat)(Lb:Nat->Nat),(lk 1 L=la/\lk 2 L=.ptr h.length 10 0 0/\lk 5 L=.ptr r 21 0 0/\lk 6 L=.ptr xb 2 0 0/\lk 7 L=ta/\lk 8 L=vb/\lk 9 L=.int .i64 i) /\
    VSt h'.length h'.length h.length h.length xb r h0 x R ts vs ta vb Lb h'/\B_q h0 x R ts vs/\R.fit (500+200*i)/\ts.length<=i/\Ext nof h h'/\i<=l.length/\m=l.length-i:=⟨_,λ_ _ _=>Iff.rfl⟩
   refine e8_ I l.length ((hI _ _ _).2 ⟨0,_,h0,[],[],.nils,.nils,r,L0,⟨by simp[a3_,c9_],by simp[a3_],by simp[a3_],by simp[a3_],by simp[a3_],by simp[a3_],by simp[a3_]⟩,v0.rise ⟨L_f _,L_f _⟩ (J_4 _),t0,fk,J_4 _,Y4,by omega,by omega⟩) ?_
   have lgo:E3_ h0.log:=fk.logOk (by omega)
   clear v0 t0 fk Y4 xl4 L0 r
   intro m L h1 hh
   obtain⟨i,R,x,ts,vs,ta,vb,r,Lb,⟨k1,k2,k5,k6,k7,k8,k9⟩,v1,t1,f1',n1,Y1,hi,rfl⟩:=(hI _ _ _).1 hh
   clear hh
   simp only[v0_,go_sem,reduceEqDiff,k1,k9,ll]
   refine b0_ (λci=>?_) (λci=>?_)
   ·simp at ci
    have ci:i<l.length:=by omega
    obtain⟨p,c,i1,i2,i3⟩:=Rd.index (al h1) .i64 (i:=(i:Int)) (d:=l[i].c) (by omega) (by rw[show ((i:Int)).toNat=i by omega,K_s,J_5 ci];rfl)
    have mR:=lR _ (K_1 ci)
    generalize l[i]=m at *
    obtain⟨e,d,rfl,re,rd⟩:=G4_ i3
    have ld:o5_ h1 true 17 p=some (.agg (m.cells e d)):=by rw[n2_ i2];rfl
    simp only[Msg.cells]at ld
    simp only[go_sem,reduceEqDiff,reduceAdd,reduceLeDiff,k1,k9,i1,ld,re.scalar,rd.scalar]
    obtain⟨H2,hH2⟩:∃H2,H2=h1++[some (a5_.arr 17 [m.cells e d] false)]:=⟨_,rfl⟩
    have X2:Ext nof h1 H2:=by rw[hH2];exact Ext.b1 _
    have B2:H2[h1.length]?=some (some (a5_.arr 17 [m.cells e d] false)):=by rw[hH2];exact x3_ _ _
    have l2:H2.length=h1.length+1:=by rw[hH2];simp
    have Y2:=Y1.tr X2
    have i3':=i3.up X2
    simp only[Msg.cells]at hH2 B2 i3'
    rw[<-hH2]
    clear hH2
    refine a1_ ⟨u4.1,u4.2 nof H2 m _ 10 1000 i3' (by omega) (by omega)⟩ ?_
    rintro _ h2 ⟨b,rfl,e2,hb⟩
    rw[e2]
    clear e2 h2
    have kn:c_e P f2 [] H2=c_e P f2 [] H2:=rfl
    cases b
    ·obtain⟨⟨s1,s2⟩,s3⟩:=hb rfl
     by_cases c2:(1099511627776:Int)<m.term
     ·simp only[go_sem,reduceEqDiff,reduceAdd,B2,decide_eq_true c2]
      refine j4_ u2.1 (u2.2 _) ?_
      simp only[go_sem,reduceEqDiff]
      exact Y2
     ·have v2:=v1.up X2 Y1.1
      have C2:=v2.hrow
      have rl2:=(J_w.1 B2).1
      have hbl:=(J_w.1 C2).1
      have y1:=Y1.1
      have ne1:(h.length=h1.length)=False:=eq_false (by have:=v1.len.1;omega)
      have ne2:(h1.length=h.length)=False:=eq_false (by have:=v1.len.1;omega)
      simp only[d7_.cl]at C2
      simp only[go_sem,reduceEqDiff,reduceAdd,reduceLeDiff,B2,C2,k2,k5,decide_eq_false c2,rl2,ne2,J_2]
      obtain⟨q,hq⟩:∃q:Msg,q={m with kind:=1,group:=h0.group}:=⟨_,rfl⟩
      obtain⟨H3,hH3⟩:∃H3,H3=(H2.set h1.length (some (.arr 17 [[.int .i64 1,.int .i64 m.from_,.int .i64 m.to,.int .i64 m.group,.int .i64 m.term,.int .i64 m.index,.int .i64 m.prev,.int .i64 m.commit,.int .i64 m.round,.int .i64 m.txn,.int .i64 m.part,.int .i64 m.ballot,.int .i64 m.value,.int .i64 m.seq,.bool m.ok,e,d]] false))).set h1.length (some (.arr 17 [[.int .i64 1,.int .i64 m.from_,.int .i64 m.to,.int .i64 h0.group,.int .i64 m.term,.int .i64 m.index,.int .i64 m.prev,.int .i64 m.commit,.int .i64 m.round,.int .i64 m.txn,.int .i64 m.part,.int .i64 m.ballot,.int .i64 m.value,.int .i64 m.seq,.bool m.ok,e,d]] false)):=⟨_,rfl⟩
      have X3:Ext nof h1 H3:=by rw[hH3];exact (X2.setNew (J_4 _) _).setNew (J_4 _) _
      have l3:H3.length=h1.length+1:=by rw[hH3];simp[l2]
      have C3:H3[h1.length]?=some (some (.arr 17 [[.int .i64 1,.int .i64 m.from_,.int .i64 m.to,.int .i64 h0.group,.int .i64 m.term,.int .i64 m.index,.int .i64 m.prev,.int .i64 m.commit,.int .i64 m.round,.int .i64 m.txn,.int .i64 m.part,.int .i64 m.ballot,.int .i64 m.value,.int .i64 m.seq,.bool m.ok,e,d]] false)):=by rw[hH3];exact J_0 (by simp;omega)
      rw[<-hH3]
      clear hH3
      have v3:=v1.up X3 y1
      have tp3:=v1.top
      have xb1:=v1.len.2
      have hb1:=v1.len.1
      have Y3:=Y1.tr X3
      have q3:O5_ Lb H3 q [.int .i64 1,.int .i64 m.from_,.int .i64 m.to,.int .i64 h0.group,.int .i64 m.term,.int .i64 m.index,.int .i64 m.prev,.int .i64 m.commit,.int .i64 m.round,.int .i64 m.txn,.int .i64 m.part,.int .i64 m.ballot,.int .i64 m.value,.int .i64 m.seq,.bool m.ok,e,d]:=by
       refine⟨nof,?_,λ_ y=>y.elim⟩
       have:=s_g (m:=q) (F:=nof) (h:=H3) (e:=e) (d:=d) (by rw[hq];exact re.up X3) (by rw[hq];exact rd.up X3)
       rw[hq]at this ⊢
       exact this
      have qf:q.fit:=by
       rw[hq]
       refine⟨⟨by show m.es.length<=200;omega,λe he=>⟨⟨(mR.2.2.2.2.2.2.2.2.2.2.2.2.2.2.1 e he).2.2,by have:=s2 e he;omega⟩,(mR.2.2.2.2.2.2.2.2.2.2.2.2.2.2.1 e he).1,(mR.2.2.2.2.2.2.2.2.2.2.2.2.2.2.1 e he).2.1⟩⟩,⟨mR.2.2.2.2.2.2.2.2.2.2.2.2.2.2.2,by show m.data.length<=_;omega⟩,by show m.term<=_;omega,⟨mR.2.1,mR.2.2.2.2.2.2.1⟩,λz=>?_⟩
       have:(3:Int)<=1:=z
       omega
      refine a1_ ⟨u5.1,u5.2 Lb H3 r R _ q _ v3.mem f1' (by omega) q3 qf⟩ ?_
      intro v H4 ro
      obtain⟨L4',m4,e4,⟨ma,ca,aa,rfl,om,oc,oe,-,-⟩,X4⟩:=ro.split v3.mem
      have dm:Rd (λn=>H3.length<=n/\n<H4.length) H4 (a_v (R.step q).o.msgs) ma:=Own.rd _ (λ_ y=>y.1) _ om
      have dc:Rd (λn=>H3.length<=n/\n<H4.length) H4 (F6_ (R.step q).o.changes) ca:=Own.rd _ (λ_ y=>y.1) _ oc
      have sa1:=om.scalar
      have sa2:=oc.scalar
      have sa3:=oe.scalar
      clear om oc oe
      obtain⟨L4,hL4⟩:∃L4,L4=W9_ L4':=⟨_,rfl⟩
      rw[<-hL4]at m4 e4
      clear hL4
      have hx:R.hard=x:=t1.hard
      have vo:u_4 R q (R.step q):=r_l t1.still.1 t1.still.2 (by rw[hq]) (by rw[hq,hx];exact t1.same.1.symm) f1'.conf f1'.term.1 (by rw[hq];show m.term<=_;omega) (by rw[hq];exact mR.2.1)
      have v4:=v3.call m4 e4 X4 Y3.1
      have Y4:=z_p Y3 X4 v3.lab.1
      have f4:(R.step q).r.fit (500+200*(i+1)):=(b4_.step_fit f1' (by omega) qf).mono (by omega)
      have z3:Lb h1.length=0:=v1.mem.ge (J_4 _)
      have C4:=(X4.2 h1.length (by omega) (by show ¬wA (Lb h1.length);rw[z3];exact wA0)).trans C3
      have z4:=(e4 h1.length (by omega)).trans z3
      clear ro
      simp only[go_sem,reduceEqDiff,reduceAdd,reduceLeDiff,sa1,sa2,sa3]
      obtain⟨H5,hH5⟩:∃H5,H5=H4++[some (a5_.arr 5 [[ma,ca,aa,.int .i64 (R.step q).o.first,.bool (R.step q).o.restore]] false)]:=⟨_,rfl⟩
      have X5:Ext nof H4 H5:=by rw[hH5];exact Ext.b1 _
      have l5:H5.length=H4.length+1:=by rw[hH5];simp
      have D5:H5[H4.length]?=some (some (a5_.arr 5 [[ma,ca,aa,.int .i64 (R.step q).o.first,.bool (R.step q).o.restore]] false)):=by rw[hH5];exact x3_ _ _
      rw[<-hH5]
      clear hH5
      have v5:=v4.up X5 Y4.1
      have Y5:=Y4.tr X5
      have C5:=X5.get C4
      have dm5:=dm.up X5
      have dc5:=dc.up X5
      have z5:=m4.ge (J_4 _)
      have x4:=X4.1
      have sre:=re.scalar
      have srd:=rd.scalar
      clear dm dc C4 v4 Y4 m4 v3 Y3 C3 q3 X3 v1 Y1 i3 i3' re rd B2 C2 X2 Y2
      obtain⟨cl,hcl,hby,hc2,hcb⟩:=vo.chg
      rw[hx]at hcl hby
      rw[hcl]at dc5
      have lc:M5_ ca=some (.int .i64 cl.length):=by have:=dc5.len;simpa [F6_] using this
      have hxk:x.fitk (500+200*i):=by rw[<-hx];exact f1'.hardk (by omega)
      obtain⟨J,hJ⟩:∃J:Nat->Env->a0_->Prop,∀n Lv h',J n Lv h'↔∃j:Nat,(lk 1 Lv=la/\lk 2 Lv=.ptr h.length 10 0 0/\lk 5 Lv=.ptr r 21 0 0/\lk 6 Lv=.ptr xb 2 0 0/\lk 7 Lv=ta/\lk 8 Lv=vb/\lk 9 Lv=.int .i64 i/\lk 10 Lv=.ptr h1.length 17 0 0/\lk 11 Lv=.ptr H4.length 5 0 0/\lk 12 Lv=.int .i64 j) /\
       VSt h1.length h1.length h.length h.length xb r h0 (x.by' (cl.take j)) (R.step q).r ts vs ta vb L4 h'/\Ext (λn=>n=xb) H5 h'/\j<=cl.length/\n=cl.length-j:=⟨_,λ_ _ _=>Iff.rfl⟩
      refine e8_ J cl.length ((hJ _ _ _).2 ⟨0,⟨by simp[a3_,k1],by simp[a3_,k2],by simp[a3_,k5],by simp[a3_,k6],by simp[a3_,k7],by simp[a3_,k8],by simp[a3_,k9],by simp[a3_],by simp[a3_],by simp[a3_]⟩,v5,Ext.refl _ _,by omega,by omega⟩) ?_
      intro n Lv h6 hh
      obtain⟨j,⟨g1,g2,g5,g6,g7,g8,g9,g10,g11,g12⟩,v6,X6,hj,rfl⟩:=(hJ _ _ _).1 hh
      clear hh
      have xbl:=v5.len.2
      have D6:=(X6.2 H4.length (by omega) (by show ¬H4.length=xb;omega)).trans D5
      simp only[v1_,go_sem,reduceEqDiff,reduceAdd,g11,g12,D6,lc]
      refine b0_ (λcj=>?_) (λcj=>?_)
      ·simp at cj
       have cj:j<cl.length:=by omega
       have dc6:Rd (λn=>H3.length<=n/\n<H4.length) h6 (F6_ (cl.map (i_d x.group))) ca:=Rd.mono (λ_ y=>y) (λn hn y hy=>by
        have hn':H3.length<=n/\n<H4.length:=hn
        exact (X6.2 n (by omega) (by show ¬n=xb;omega)).trans hy) _ _ dc5
       obtain⟨pc,cc,j1,j2,j3⟩:=Rd.index dc6 .i64 (i:=(j:Int)) (d:=(i_d x.group cl[j]).c) (by omega) (by rw[show ((j:Int)).toNat=j by omega,K_s,K_s,J_5 cj];rfl)
       have x6:=X6.1
       obtain⟨A,B,G,a,b,xr,rg,gG,rest⟩:=v6.ex
       obtain⟨ce,cO,cN,cL,cS,rfl,-⟩:=c_y j3
       have ew:IntKind.i64.wrap ((j:Int)+1)=((j+1:Nat):Int):=by rw[a7_ (by omega)];omega
       have X61:∀w,(h6++[w])[xb]?=_:=λw=>(Ext.b1 w).get xr
       have D61:∀w,(h6++[w])[H4.length]?=_:=λw=>(Ext.b1 w).get D6
       have LD:∀w,o5_ (h6++[w]) true 17 pc=some (.agg _):=λw=>n2_ (pup j2 (Ext.b1 w)) true 17
       have N1:∀sz i o,f0_ h6.length 1 (.ptr xb sz i o)=true:=λsz i o=>d6_ (by omega)
       have N2:∀sz i o,f0_ h6.length 1 (.ptr H4.length sz i o)=true:=λsz i o=>d6_ (by omega)
       simp only[go_sem,reduceEqDiff,reduceAdd,reduceLeDiff,reducePow,reduceDiv,reduceMod,i3_,g6,g11,g12,D61,X61,j1,LD,N1,N2]
       have cjb:=hcb _ (K_1 cj)
       have ej:(x.by' (cl.take j)).group=x.group:=(d7_.by_same _ _).1
       have xk:(x.by' (cl.take j)).fitk (500+200*i):=hxk.by' λp hp=>by
        have:=hcb p (L_g hp)
        exact⟨⟨by omega,by omega⟩,this.2⟩
       have cf:(i_d x.group cl[j]).fitc:=o_x hxk.R.1 ⟨by omega,by omega⟩ cjb.2
       have ra:RdL (λn=>True) (h6++[none]) (A5_ (x.by' (cl.take j))).c [a,b]:=RdL.mono (λ_ _=>trivial) ((Ext.b1 none).keep _) _ _ rg
       have rc:=RdL.mono (F':=λn=>True) (λ_ _=>trivial) ((Ext.b1 none).keep _) _ _ j3
       have ap:=u6.one ra rc xk (by omega) cf
       have ea:(A5_ (x.by' (cl.take j))).applied (i_d x.group cl[j])=(A5_ (x.by' (cl.take (j+1))),0):=by
        rw[<-ej,K_f cj,d7_.by_snoc]
        exact m_t _ _
       rw[ea]at ap
       refine⟨p_p j2 _,a1_ ⟨u6.1,ap⟩ ?_⟩
       rintro _ h7 ⟨rfl,e7⟩
       rw[e7]
       clear e7 h7
       obtain⟨ya,yb,hy,hya,hyb⟩:∃ya yb,(A5_ (x.by' (cl.take (j+1)))).v=[ya,yb]/\ya.scalar=true/\yb.scalar=true:=⟨_,_,rfl,j7_ _,j7_ _⟩
       have ry:RdL nof h6 (A5_ (x.by' (cl.take (j+1)))).c [ya,yb]:=by rw[<-hy];exact e_8 _ _ _
       have B61:∀w:Option a5_,(h6++[w])[h6.length]?=some w:=λw=>by simp
       have s61:∀w y:Option a5_,(h6++[w]).set h6.length y=h6++[y]:=λw y=>by simp
       have n61:∀w:Option a5_,h6.length<(h6++[w]).length:=λw=>by simp
       rw[hy]
       simp only[go_sem,reduceEqDiff,reduceAdd,reduceLeDiff,reducePow,reduceDiv,reduceMod,decide_true,i3_,g6,g12,D61,X61,LD,B61,s61,hya,hyb,ew]
       have v7:=(v6.up (Ext.b1 (some (a5_.arr 2 [[ya,yb]] false))) (by have:=Y5.1;omega)).setX (x.by' (cl.take (j+1))) (RdL.mono (λ_ y=>y) (λ_ y=>y.elim) _ _ ry)
       refine⟨_,by omega,(hJ _ _ _).2 ⟨j+1,⟨by simp[a3_,g1],by simp[a3_,g2],by simp[a3_,g5],by simp[a3_,g6],by simp[a3_,g7],by simp[a3_,g8],by simp[a3_,g9],by simp[a3_,g10],by simp[a3_,g11],by simp[a3_]⟩,v7,?_,by omega,rfl⟩⟩
       refine⟨by simp;omega,λn hn hne=>(J_x (λe=>hne e.symm)).trans (((Ext.b1 _).2 n (by omega) (λz=>z)).trans (X6.2 n hn hne))⟩
      ·simp at cj
       have:j=cl.length:=by omega
       subst this
       rw[K_y,<-hby]at v6
       simp only[go_sem,reduceEqDiff]
       have t2:B_q h0 (R.step q).r.hard (R.step q).r ts vs:=by
        have e1:=t1.hard
        have e2:=vo.term
        have e3:=vo.same
        rw[e1]at e2 e3
        obtain⟨b1,b2,b3,b4⟩:=d7_.by_same x cl
        refine⟨t1.len,rfl,⟨vo.still.1,vo.still.2.1⟩,by rw[hby];exact⟨b1.trans t1.same.1,b2.trans t1.same.2.1,b3.trans t1.same.2.2.1,b4.trans t1.same.2.2.2⟩,λi h1 h2=>?_⟩
        obtain⟨w1,w2⟩:=t1.votes i h1 h2
        refine⟨by omega,λe=>?_⟩
        obtain⟨w3,w4⟩:=w2 (by omega)
        have w5:=e3 (by omega) w4
        exact⟨by rw[w5];exact w3,by rw[w5];exact w4⟩
       have dm6:Rd (λn=>H3.length<=n/\n<H4.length) h6 (a_v (R.step q).o.msgs) ma:=Rd.mono (λ_ y=>y) (λn hn y hy=>by
        have hn':H3.length<=n/\n<H4.length:=hn
        exact (X6.2 n (by omega) (by show ¬n=xb;omega)).trans hy) _ _ dm5
       have C6:=(X6.2 h1.length (by omega) (by show ¬h1.length=xb;omega)).trans C5
       have Y6:Ext nof h h6:=⟨by have:=X6.1;have:=Y5.1;omega,λm hm _=>(X6.2 m (by have:=Y5.1;omega) (by show ¬m=xb;have:=v6.lab.2.2.2.2.2;omega)).trans (Y5.2 m hm (λz=>z))⟩
       have ho:(R.step q).o.msgs.length<=1/\∀w∈(R.step q).o.msgs,w.kind=2/\w.to=q.from_/\w.term=(R.step q).r.hard.term/\(w.ok=true->h0.log.newer q.index q.prev=true/\(R.step q).r.hard.vote=q.from_/\q.from_≠0):=by
        rcases vo.msgs with e | ⟨w,e,w1,w2,w3,w4⟩
        ·rw[e];exact⟨by simp,λw hw=>by cases hw⟩
        ·rw[e]
         refine⟨by simp,λw' hw=>?_⟩
         obtain rfl:w'=w:=by simpa using hw
         refine⟨w1,w2,w3,λz=>?_⟩
         have:=w4 z
         rw[t1.hard,t1.same.2.1]at this
         exact this
       refine v_v (q:=q) (e:=e) (d:=d) (la:=la) (i:=i) (mb:=h1.length) (rb:=H4.length) (r:=r) (xb:=xb) u7 u8 (by simp[a3_,g1]) (by simp[a3_,g2]) (by simp[a3_,g5]) (by simp[a3_,g6]) (by simp[a3_,g7]) (by simp[a3_,g8]) (by simp[a3_,g9]) (by simp[a3_,g10]) (by simp[a3_,g11]) (by simp[a3_]) v6 t2 Y6 rfl lgo (by omega) (by rw[C6,hq];rfl) sre srd D6 (by omega) dm6 ho.1 ho.2 ?_
       rintro Lw h7 ts' vs' ta' vb' ⟨k1,k2,k5,k6,k7,k8,k9⟩ v7 t7 n7 Y7
       have r3:∀x:Int,V2_ .rem (.int .i64 x) (.int .i64 3)=some (.int .i64 (x.tmod 3)):=λ_=>rfl
       have ewi:IntKind.i64.wrap ((i:Int)+1)=((i+1:Nat):Int):=by rw[a7_ (by omega)];omega
       by_cases c3:(i:Int).tmod 3=2
       ·obtain⟨A,B,G,a,b,xr7,rg7,-⟩:=v7.ex
        simp only[x1_.c,A5_,RdL]at rg7
        obtain⟨a',_,e1,ra,-⟩:=rg7
        injection e1 with e1 _
        subst e1
        obtain⟨ph,ch,h1',h2',h3'⟩:=Rd.index ra .i64 (i:=(0:Int)) (d:=(R.step q).r.hard.c) (by omega) rfl
        obtain⟨he,ho',hn,hl,hs,rfl,-⟩:=R8_ h3'
        have ld:o5_ h7 true 10 ph=some (.agg ((R.step q).r.hard.cells he ho' hn hl hs)):=by rw[n2_ h2'];rfl
        have f5:((R.step q).r).fit (500+200*(i+1)):=f4
        have hl5':=f5.len
        have hb5':=f5.base
        have hs5':=f5.snap.2
        simp only[go_sem,reduceEqDiff,k6,k9,r3,decide_eq_true c3,xr7,h1',ld]
        refine a1_ ⟨u3.1,u3.2 G h7 1 (R.step q).r.hard _ i h3' (f5.logOk (by omega)) ((r2_ f5.conf).le (by omega)) (by omega) ⟨by omega,hb5'.1,by omega⟩⟩ ?_
        rintro _ H8 ⟨r8,rfl,hr8,row8,X8⟩
        simp only[go_sem,reduceEqDiff,k9,ewi]
        have v8:=v7.fresh X8 hr8 Y7.1 row8
        refine⟨_,by omega,(hI _ _ _).2 ⟨i+1,_,_,ts',vs',ta',vb',r8,_,⟨by simp[a3_,k1],by simp[a3_,k2],by simp[a3_],by simp[a3_,k6],by simp[a3_,k7],by simp[a3_,k8],by simp[a3_]⟩,v8.rise ⟨X8.1,X8.1⟩ (J_4 _),⟨t7.len,rfl,⟨rfl,rfl⟩,t7.same,t7.votes⟩,f5.new i,by omega,Y7.tr X8,by omega,rfl⟩⟩
       ·simp only[go_sem,reduceEqDiff,k9,r3,decide_eq_false c3,ewi]
        refine⟨_,by omega,(hI _ _ _).2 ⟨i+1,_,_,ts',vs',ta',vb',r,L4,⟨by simp[a3_,k1],by simp[a3_,k2],by simp[a3_,k5],by simp[a3_,k6],by simp[a3_,k7],by simp[a3_,k8],by simp[a3_]⟩,v7,t7,f4,by omega,Y7,by omega,rfl⟩⟩
    ·simp only[go_sem,reduceEqDiff]
     refine j4_ u2.1 (u2.2 _) ?_
     simp only[go_sem,reduceEqDiff]
     exact Y2
   ·simp only[go_sem]
    refine j4_ u2.1 (u2.2 _) ?_
    simp only[go_sem,reduceEqDiff]
    exact Y1
end Glb
