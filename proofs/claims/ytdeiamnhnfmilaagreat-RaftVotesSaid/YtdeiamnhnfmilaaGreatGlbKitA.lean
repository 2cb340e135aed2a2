/-
  A library of its own.
-/
import Derived.Test.YtdeiamnhnfmilaaGreatGlbLibD
import Derived.Test.YtdeiamnhnfmilaaGreatGlbCglebekit
set_option linter.unusedSimpArgs false
set_option linter.unusedVariables false
set_option maxRecDepth 10000
set_option maxHeartbeats 4000000
open Nat (reduceAdd reduceEqDiff)
namespace Glb
open Go
def b3_ (l:List Int):D:=.sl 1 (l.map λn=>[.int .u8 n])
def b1_ (l:List Int):D:=.sl 1 (l.map λn=>[.int .i64 n])
structure e0_ where
 term:Int
 kind:Int
 data:List Int
 deriving DecidableEq
def e0_.c (e:e0_):List D:=[.int .i64 e.term,.int .i64 e.kind,b3_ e.data]
def b7_ (l:List e0_):D:=.sl 3 (l.map e0_.c)
structure Log where
 base:Int
 bterm:Int
 es:List e0_
 deriving DecidableEq
def Log.c (l:Log):List D:=[.int .i64 l.base,.int .i64 l.bterm,b7_ l.es]
theorem obs {P:Program}{f:FuncId}{avs:List AV}{h:a0_}{b:AV}(hb:b.upto h.length=true)(hc:a6_ P f avs h λr h'=>r=b/\Ext nof h h'):a6_ P f avs h λr h'=>r=b/\h'=h:=
 (a6_.trunc (K':=λr=>r=b) hc λr h' hk=>⟨hk.2,by rw[hk.1];exact hb,hk.1⟩).mono λ_ _ hk=>⟨hk.2,hk.1⟩
theorem b_4 (n:Nat)(k:IntKind)(x:Int):(AV.int k x).upto n=true:=by simp only[AV.upto]
theorem t9_ (n:Nat)(b:Bool):(AV.bool b).upto n=true:=by simp only[AV.upto]
theorem h_7 {n:Nat}{x y:AV}(h:x.upto n=true)(h':y.upto n=true):(AV.tup [x,y]).upto n=true:=by simp only[AV.upto,AV.uptoL,h,h',Bool.and_self]
def G2_ (P:Program)(f:FuncId):Prop:=
 f2_ P f=true/\∀(F:Nat->Prop)(h:a0_)(x:List e0_)(a:AV)(items bytes:Int),Rd F h (b7_ x) a->0<=items/\items<=2^40->0<=bytes/\bytes<=2^40->
  a6_ P f [a,.int .i64 items,.int .i64 bytes] h λr h'=>∃b,r=.bool b/\h'=h/\(b=false->x.length<=items.toNat/\∀e∈x,e.data.length<=bytes.toNat)
theorem K1_ (k:IntKind)(a b:Int):a_w false [.int k a,.int k b]=some (.int k (min a b)):=by
 simp only[a_w,a_w.aux]
 by_cases h:b<a
 ·simp[h];omega
 ·simp[h];omega
theorem W7_ (k:IntKind)(a b:Int):a_w true [.int k a,.int k b]=some (.int k (max a b)):=by
 simp only[a_w,a_w.aux]
 by_cases h:a<b
 ·simp[h];omega
 ·simp[h];omega
theorem F2_ (g:Opd->AV)(h:a0_)(m:Bool)(xs:List Opd):rev g h (.mnmx m xs)=a_w m (xs.map g):=rfl
theorem h_s {P:Program}{f:FuncId}(hf:Is P f i9_):G2_ P f:=by
 refine⟨hf.2,λF h x a items bytes hx hit hby=>a4_ hf.1 (J_y rfl) ?_⟩
 show vc P i9_.code ⟨[(0,a),(1,.int .i64 items),(2,.int .i64 bytes)],[],h⟩ (b2_ i9_.res _)
 have lx:=hx.len
 simp only[K_p]at lx
 simp only[i9_,go_sem,reduceEqDiff,lx]
 refine b0_ (λc=>?_) (λc=>?_)
 ·simp only[go_sem,reduceEqDiff]
  exact⟨true,rfl,λe=>by cases e⟩
 ·simp only[go_sem]
  simp at c
  refine e8_ (λm L h'=>∃(i:Nat)(n:Int),lk 0 L=a/\lk 2 L=.int .i64 bytes/\lk 7 L=.int .i64 n/\lk 8 L=.int .i64 i/\h'=h/\i<=x.length/\m=x.length-i/\0<=n/\n<=bytes /\
   ∀(j:Nat)(hj:j<x.length),j<i->x[j].data.length<=bytes.toNat) x.length ?_ ?_
  ·exact⟨0,0,by simp[a3_,c9_],by simp[a3_,c9_],by simp[a3_],by simp[a3_],rfl,by omega,by omega,by omega,by omega,by omega⟩
  ·rintro m L h' ⟨i,n,h0,h2,h7,h8,rfl,hi,rfl,hn,hn',hj⟩
   simp only[v8_,go_sem,reduceEqDiff,lx,h0,h8]
   refine b0_ (λci=>?_) (λci=>?_)
   ·simp at ci
    obtain⟨p,cs,hp,hpc,hcs⟩:=hx.index .i64 (i:=i) (d:=x[i].c) (by omega) (by simp[ci])
    simp only[e0_.c,RdL,Rd]at hcs
    obtain⟨_,_,rfl,rfl,_,_,rfl,rfl,d,_,rfl,hd,rfl⟩:=hcs
    have ld:=hd.len
    simp only[K_p]at ld
    have e:IntKind.i64.wrap (↑i+1)=(i:Int)+1:=a7_ (by omega)
    have e1:IntKind.i64.wrap (bytes+1)=bytes+1:=a7_ (by omega)
    have e2:IntKind.i64.wrap (n+min (↑x[i].data.length) (bytes+1))=n+min (↑x[i].data.length) (bytes+1):=a7_ (by omega)
    simp only[go_sem,reduceEqDiff,h0,h2,h7,h8,hp,K9_ hpc,E2_ hpc,ld,e1,F2_,K1_,e2]
    refine b0_ (λcb=>?_) (λcb=>?_)
    ·simp only[go_sem,reduceEqDiff]
     exact⟨true,rfl,λe=>by cases e⟩
    ·simp only[go_sem,reduceEqDiff,h0,h2,h7,h8,e]
     simp at cb
     refine⟨_,?_,i+1,_,rfl,by simp,ci,rfl,by omega,by omega,λj hj1 hj2=>?_⟩
     ·omega
     ·rcases L_3 j i with hlt | hge
      ·exact hj j hj1 hlt
      ·obtain rfl:j=i:=by omega
       omega
   ·simp at ci
    simp only[go_sem,reduceEqDiff]
    obtain rfl:i=x.length:=by omega
    refine⟨false,rfl,λ_=>⟨by omega,λe he=>?_⟩⟩
    obtain⟨j,hj',rfl⟩:=List.mem_iff_getElem.1 he
    exact hj j hj' hj'
def i0_ (l:List e0_):Prop:=l.length<=2^30/\∀e∈l,e.data.length<=2^40
def B9_ (P:Program)(f:FuncId):Prop:=
 f2_ P f=true/\∀(F:Nat->Prop)(h:a0_)(x:List e0_)(a:AV),Rd F h (b7_ x) a->i0_ x->
  a6_ P f [a] h λr h'=>Own (b7_ x) (λm=>h.length<=m) h' r/\d2_ h' r/\Ext nof h h'
structure Msg where
 kind:Int
 from_:Int
 to:Int
 group:Int
 term:Int
 index:Int
 prev:Int
 commit:Int
 round:Int
 txn:Int
 part:Int
 ballot:Int
 value:Int
 seq:Int
 ok:Bool
 es:List e0_
 data:List Int
 deriving DecidableEq
def Msg.c (m:Msg):List D:=[.int .i64 m.kind,.int .i64 m.from_,.int .i64 m.to,.int .i64 m.group,.int .i64 m.term,.int .i64 m.index,.int .i64 m.prev,.int .i64 m.commit,.int .i64 m.round,.int .i64 m.txn,.int .i64 m.part,.int .i64 m.ballot,
 .int .i64 m.value,.int .i64 m.seq,.bool m.ok,b7_ m.es,b3_ m.data]
def Msg.cells (m:Msg)(e d:AV):List AV:=[.int .i64 m.kind,.int .i64 m.from_,.int .i64 m.to,.int .i64 m.group,.int .i64 m.term,.int .i64 m.index,.int .i64 m.prev,.int .i64 m.commit,.int .i64 m.round,.int .i64 m.txn,.int .i64 m.part,.int .i64 m.ballot,
 .int .i64 m.value,.int .i64 m.seq,.bool m.ok,e,d]
theorem R9_ {F h k n ds a}:RdL F h (.int k n :: ds) a↔∃r,a=.int k n :: r/\RdL F h ds r:=by
 simp only[RdL,Rd]
 constructor
 ·rintro⟨x,r,h1,h2,h3⟩;subst h2;exact⟨r,h1,h3⟩
 ·rintro⟨r,h1,h3⟩;exact⟨_,r,h1,rfl,h3⟩
theorem w_p {F h n ds a}:RdL F h (.bool n :: ds) a↔∃r,a=.bool n :: r/\RdL F h ds r:=by
 simp only[RdL,Rd]
 constructor
 ·rintro⟨x,r,h1,h2,h3⟩;subst h2;exact⟨r,h1,h3⟩
 ·rintro⟨r,h1,h3⟩;exact⟨_,r,h1,rfl,h3⟩
theorem y_d {m:Msg}{F:Nat->Prop}{h:a0_}{a:List AV}(hh:RdL F h m.c a):∃e d,a=m.cells e d/\Rd F h (b7_ m.es) e/\Rd F h (b3_ m.data) d:=by
 simp only[Msg.c,R9_,w_p]at hh
 obtain⟨_,rfl,_,rfl,_,rfl,_,rfl,_,rfl,_,rfl,_,rfl,_,rfl,_,rfl,_,rfl,_,rfl,_,rfl,_,rfl,_,rfl,_,rfl,hh⟩:=hh
 simp only[RdL]at hh
 obtain⟨e,_,rfl,he,d,_,rfl,hd,rfl⟩:=hh
 exact⟨e,d,rfl,he,hd⟩
def o_i (P:Program)(f:FuncId):Prop:=
 f2_ P f=true/\∀(F:Nat->Prop)(h:a0_)(m:Msg)(a:List AV)(items bytes:Int),RdL F h m.c a->0<=items/\items<=2^40->0<=bytes/\bytes<=2^40->
  a6_ P f [.agg a,.int .i64 items,.int .i64 bytes] h λr h'=>∃b,r=.bool b/\h'=h/\(b=false->(m.es.length<=items.toNat/\∀e∈m.es,e.data.length<=bytes.toNat)/\m.data.length<=bytes.toNat)
theorem v_n {P:Program}{f g:FuncId}(hf:Is P f (o4_ g))(hg:G2_ P g):o_i P f:=by
 refine⟨hf.2,λF h m a items bytes hm hi hb=>(a6_.trunc (K:=λr h'=>Ext nof h h'/\∃b,r=.bool b/\(b=false->(m.es.length<=items.toNat/\∀e∈m.es,e.data.length<=bytes.toNat)/\m.data.length<=bytes.toNat))
  (K':=λr=>∃b,r=.bool b/\(b=false->(m.es.length<=items.toNat/\∀e∈m.es,e.data.length<=bytes.toNat)/\m.data.length<=bytes.toNat)) (a4_ hf.1 (J_y rfl) ?_)
  (λr h' hk=>⟨hk.1,by obtain⟨b,rfl,_⟩:=hk.2;exact t9_ _ _,hk.2⟩)).mono λr h' hk=>let⟨b,h1,h2⟩:=hk.2;⟨b,h1,hk.1,h2⟩⟩
 show vc P (o4_ g).code ⟨[(0,.agg a),(1,.int .i64 items),(2,.int .i64 bytes)],[],h⟩ (b2_ (o4_ g).res _)
 obtain⟨e,d,rfl,he,hd⟩:=y_d hm
 have ld:=hd.len
 simp only[K_p]at ld
 simp only[o4_,Msg.cells,go_sem,reduceEqDiff,reduceAdd,he.scalar,hd.scalar]
 refine a1_ ⟨hg.1,hg.2 F _ m.es _ items bytes (he.up (Ext.b1 _)) hi hb⟩ ?_
 rintro _ _ ⟨b,rfl,rfl,hbb⟩
 cases b
 ·simp only[go_sem,reduceEqDiff,reduceAdd,ld]
  refine⟨Ext.b1 _,_,rfl,λe=>⟨hbb rfl,?_⟩⟩
  simp at e
  omega
 ·simp only[go_sem,reduceEqDiff]
  exact⟨Ext.b1 _,_,rfl,λe=>by cases e⟩
end Glb
