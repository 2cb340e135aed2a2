/-
  A library of its own.
-/
import Derived.Test.YtdeiamnhnfmilaaGreatGlbKitA
set_option linter.unusedSimpArgs false
set_option linter.unusedVariables false
set_option maxRecDepth 10000
namespace Glb
open Go
def jL (l:fA):Prop:=0<=l.aA/\l.aA<=2^41/\lU l.es
def fA.aC (l:fA):Int:=l.aA+l.es.length
def fA.aL (l:fA):Int:=match l.es[l.es.length-1]? with
 | some e=>e.aA
 | none=>l.aD
def fA.aF (l:fA)(i:Int):Bool:=decide (l.aA<=i) && decide (i<=l.aC)
def fA.aH (l:fA)(i:Int):Int:=if l.aF i then (if i=l.aA then l.aD else match l.es[(i-l.aA-1).toNat]? with
 | some e=>e.aA
 | none=>0) else 0
def oz (P:Program)(f:FuncId):Prop:=
 fK P f=true/\∀(F:Nat->Prop)(h:eX)(l:fA)(a:List AV),fu F h l.c a->jL l->
  fC P f [.aF a] h λr h'=>r=.aI [.aA .i64 l.aC,.aA .i64 l.aL]/\h'=h
theorem RN {P:Program}{f:FuncId}(hf:Is P f BK):oz P f:=by
 refine⟨hf.2,λF h l a hl ok=>jG (IJ (x_ _ _ _) (x_ _ _ _)) (fS hf ?_)⟩;simp only[fA.c,fu,Rd]at hl;obtain⟨_,_,rfl,rfl,_,_,rfl,rfl,d,_,rfl,hl,rfl⟩:=hl;have ll:=hl.aC;simp only[Vg]at ll;obtain⟨o1,o2,o3,o4⟩:=ok;simp only[BK,go_sem,hl.aA,ll];refine ij (λc=>?_) (λc=>?_)
 ·simp at c;have e1:IntKind.i64.wrap (l.aA+↑l.es.length)=l.aA+↑l.es.length:=gj (by omega);have e2:IntKind.i64.wrap ((l.es.length:Int)-1)=(l.es.length:Int)-1:=gj (by omega);have hlt:l.es.length-1<l.es.length:=by first | omega | (have:=List.length_pos_iff.2 c;omega)
  have ht:((l.es.length:Int)-1).toNat=l.es.length-1:=by omega
  obtain⟨p,cs,hp,u,C⟩:=hl.aD .i64 (i:=(l.es.length:Int)-1) (d:=(l.es[l.es.length-1]).c) (by omega) (by rw[ht];simp[hlt]);simp only[fU.c,fu,Rd]at C;obtain⟨_,_,rfl,rfl,_,_,rfl,rfl,d',_,rfl,_,rfl⟩:=C;have e:=rQ u (eW.b1 (some (.aA 3 [[.aA .i64 l.aA,.aA .i64 l.aD,d]] false)));simp only[go_sem,e1,e2,hp,mN u,nh e];refine⟨?_,eW.b1 _⟩;simp[fA.aC,fA.aL,hlt]
 ·simp at c;simp only[go_sem];refine⟨?_,eW.b1 _⟩;simp[fA.aC,fA.aL,c]
def nQ (P:Program)(f:FuncId):Prop:=
 fK P f=true/\∀(F:Nat->Prop)(h:eX)(l:fA)(a:List AV)(i:Int),fu F h l.c a->jL l->
  fC P f [.aF a,.aA .i64 i] h λr h'=>r=.aI [.aA .i64 (l.aH i),.aE (l.aF i)]/\h'=h
theorem RQ {P:Program}{f g:FuncId}(hf:Is P f (BN g))(hg:oz P g):nQ P f:=by
 refine⟨hf.2,λF h l a i hl ok=>jG (IJ (x_ _ _ _) (qE _ _)) (fS hf ?_)⟩;have I:=hl;simp only[fA.c,fu,Rd]at hl;obtain⟨_,_,rfl,rfl,_,_,rfl,rfl,d,_,rfl,hl,rfl⟩:=hl;have E:=ok;obtain⟨o1,o2,o3,o4⟩:=ok;simp only[BN,go_sem,hl.aA];refine fy ⟨hg.1,hg.2 F _ l _ (I.up (eW.b1 _)) E⟩ ?_;rintro _ _ ⟨rfl,rfl⟩;have hlast:l.aC=l.aA+l.es.length:=rfl;by_cases h1:i<l.aA
 ·have c1:decide (i<l.aA)=true:=U3 h1;have hh:l.aF i=false:=by simp[fA.aF];omega
  simp only[go_sem,c1,fA.aH,hh];exact eW.b1 _
 have c1:decide (i<l.aA)=false:=U2 h1;by_cases h2:l.aC<i
 ·have c2:decide (l.aC<i)=true:=U3 h2;have hh:l.aF i=false:=by simp[fA.aF];omega
  simp only[go_sem,c1,c2,fA.aH,hh];exact eW.b1 _
 have c2:decide (l.aC<i)=false:=U2 h2;have hh:l.aF i=true:=by simp[fA.aF];omega
 by_cases h3:i=l.aA
 ·have c3:decide (i=l.aA)=true:=U3 h3;simp only[go_sem,c1,c2,c3,fA.aH,hh];refine⟨?_,eW.b1 _⟩;rw[U4 h3]
 have c3:decide (i=l.aA)=false:=U2 h3;have hlt:(i-l.aA-1).toNat<l.es.length:=by omega
 have e1:IntKind.i64.wrap (i-l.aA)=i-l.aA:=gj (by omega);have e2:IntKind.i64.wrap (i-l.aA-1)=i-l.aA-1:=gj (by omega);obtain⟨p,cs,hp,u,C⟩:=hl.aD .i64 (i:=i-l.aA-1) (d:=(l.es[(i-l.aA-1).toNat]).c) (by omega) (by rw[VE,U0 hlt];rfl);simp only[fU.c,fu,Rd]at C;obtain⟨_,_,rfl,rfl,_,_,rfl,rfl,d',_,rfl,_,rfl⟩:=C;have e:=rQ u (eW.b1 (some (.aA 3 [[.aA .i64 l.aA,.aA .i64 l.aD,d]] false)));simp only[go_sem,c1,c2,c3,e1,e2,hp,mN u,nh e,fA.aH,hh];refine⟨?_,eW.b1 _⟩;rw[U6 h3,U0 hlt]
def fA.aN (l:fA)(index term:Int):Bool:=decide (l.aL<term) || (decide (term=l.aL) && decide (l.aC<=index))
def yO (P:Program)(f:FuncId):Prop:=
 fK P f=true/\∀(F:Nat->Prop)(h:eX)(l:fA)(a:List AV)(i t:Int),fu F h l.c a->jL l->
  fC P f [.aF a,.aA .i64 i,.aA .i64 t] h λr h'=>r=.aE (l.aN i t)/\h'=h
theorem RO {P : Program} {f g : FuncId} (hf : Is P f (BL g)) (hg : oz P g) : yO P f := by
 refine ⟨hf.2, λF h l a i t hl ok => jG (qE _ _) (fS hf ?_)⟩;have e := hl;simp only [fA.c, fu, Rd] at hl;obtain ⟨_, _, rfl, rfl, _, _, rfl, rfl, d, _, rfl, hl, rfl⟩ := hl;simp only [BL, go_sem, hl.aA];refine fy ⟨hg.1, hg.2 F _ l _ (e.up (eW.b1 _)) ok⟩ ?_;rintro _ _ ⟨rfl, rfl⟩;simp only [go_sem];repeat' (first
  | refine t_ (λ_ => ?_) (λ_ => ?_)
  | refine IT (λ_ => ?_) (λ_ => ?_)
  | refine ij (λ_ => ?_) (λ_ => ?_)
  | simp only [go_sem, *])
 all_goals refine ⟨?_, eW.b1 _⟩
 all_goals simp_all [fA.aN]
theorem xS {P:Program}{f:FuncId}(hf:Is P f BO):qH P f:=by
 refine⟨hf.2,λF h x a hx hl=>fS hf ?_⟩;have lx:=hx.aC;simp only[Vg]at lx;have hl1:=hl.1;simp only[BO,go_sem,lx];refine iM (λm L h'=>∃(i:Nat)(o:AV),lk 6 L=a/\lk 7 L=.aA .i64 x.length/\lk 3 L=o/\lk 8 L=.aA .i64 i/\i<=x.length/\m=x.length-i /\
  eY (gK (x.take i)) (λm=>h.length<=m) h' o/\gV h' o/\eW eZ h h') x.length ?_ ?_
 ·exact⟨0,_,by simp[fm],by simp[fm],by simp[fm],by simp[fm],by omega,by omega,eY.aD 3,Vd,eW.aC _ _⟩
 ·rintro m L h' ⟨i,o,h6,h7,h3,h8,hi,rfl,ho,hc,he⟩;simp only[FH,go_sem,h7,h8];refine ij (λci=>?_) (λci=>?_)
  ·simp at ci;obtain⟨p,cs,hp,Z,I⟩:=(hx.up he).aD .i64 (i:=i) (d:=x[i].c) (by omega) (by simp[ci]);simp only[fU.c,fu,Rd]at I;obtain⟨_,_,rfl,rfl,_,_,rfl,rfl,d,_,rfl,hd,rfl⟩:=I;have E:Rd F h' (gq x[i].aC) d:=hd;have e:IntKind.i64.wrap (↑i+1)=(i:Int)+1:=gj (by omega);generalize hA:(some (.aA 3 [[.aA .i64 x[i].aA,.aA .i64 x[i].aD,d]] false):Option e_)=A;obtain⟨ys,O,U⟩:=(E.up (eW.b2 A (some (.aA 1 [] false)))).aH;obtain⟨r,h2,ha,hr,_,C⟩:=l_ (lo:=h'.length+1) (sz:=1) (bytes:=1) (ds:=[]) (h0:=h'++[A]++[some (.aA 1 [] false)]) (h:=h'++[A]++[some (.aA 1 [] false)]) (av:=.aG (h'.length+1) 1 0 0 (some 0))
    (by simp only[eY];exact .inr (.inr ⟨h'.length+1,0,some 0,[],false,rfl,U8 _,iF _ _ _,by simp,(λc hc=>by cases hc;simp),by simp[fG]⟩))
    ⟨[],false,iF _ _ _,(λhc=>by cases hc),(λc hc=>by cases hc;simp)⟩ (eW.aC _ _) (PU U) (by simp) (by have:=hl.2 x[i] (by simp);simp;omega)
   have a6:nR (h'++[A]++[some (.aA 1 [] false)]) 1 1 (.aG (h'.length+1) 1 0 0 (some 0)) d=some (r,h2):=by rw[iv O];exact ha
   have M:h2[h'.length]?=some A:=by rw[C.2 h'.length (by simp) (by simp)];exact jx _ _ _
   have l2:=(UY.1 M).1;subst hA;simp only[go_sem,h6,h3,h8,hp,jr Z,E.aA,a6,M,hr.aA,gz hr.aA,l2];have eB:eW eZ h' (h2.set h'.length (some (.aA 3 [[.aA .i64 x[i].aA,.aA .i64 x[i].aD,r]] false))):=
    ((eW.b2 _ _).aJ C (λm hm a2=>by omega)).aG (U8 _) _
   have W:eY (gq x[i].aC) (λm=>h'.length+1<=m) (h2.set h'.length (some (.aA 3 [[.aA .i64 x[i].aA,.aA .i64 x[i].aD,r]] false))) r:=
    eY.aC _ (λm hm=>hm) (λm hm y hy=>by rw[UZ (by omega)];exact hy) _ (by simpa [gq] using hr)
   generalize hB:h2.set h'.length (some (.aA 3 [[.aA .i64 x[i].aA,.aA .i64 x[i].aD,r]] false))=B at *;obtain⟨o',h3',a5,a1,a4,a3⟩:=l_ (bytes:=40) (es:=[x[i].c]) (h:=B++[some (.aA 3 [[.aA .i64 x[i].aA,.aA .i64 x[i].aD,r]] false)]) ho hc
    (eB.aM _) (ys:=[[.aA .i64 x[i].aA,.aA .i64 x[i].aD,r]])
    (by simp only[fG,fI,fU.c,eY];refine⟨_,_,rfl,⟨_,_,rfl,rfl,_,_,rfl,rfl,r,_,rfl,?_,rfl⟩,rfl⟩;exact eY.aC _ (λm hm=>by omega) (λm hm y hy=>(eW.b1 _).aA hy) _ W) he.1 (by simp;omega)
   have u:=iv (lG B 3 [[.aA .i64 x[i].aA,.aA .i64 x[i].aD,r]] false (some 1) (len:=1) rfl) 40 o;rw[a5]at u;simp only[go_sem,h6,h7,h3,h8,e,u];refine⟨_,?_,i+1,o',rfl,by simp,ci,rfl,?_,a4,?_⟩;·omega
   ·have:x.take (i+1)=x.take i++[x[i]]:=by simp[ci]
    rw[this,gK,VJ];exact a1
   ·exact (he.tr (eB.aM _)).aJ a3 (λm hm a2=>by omega)
  ·simp at ci;simp only[go_sem,h3];obtain rfl:i=x.length:=by omega
   rw[VB]at ho;exact⟨ho,hc,he⟩
def fA.aJ (l:fA)(from_ most:Int):List fU:=
 if from_<=l.aA\/l.aC<from_\/most<1 then [] else (l.es.drop (from_-l.aA-1).toNat).take most.toNat
def nP (P:Program)(f:FuncId):Prop:=
 fK P f=true/\∀(F:Nat->Prop)(h:eX)(l:fA)(a:List AV)(i n:Int),fu F h l.c a->jL l->
  fC P f [.aF a,.aA .i64 i,.aA .i64 n] h λr h'=>eY (gK (l.aJ i n)) (λm=>h.length<=m) h' r/\gV h' r/\eW eZ h h'
theorem lU.aA {l l':List fU}(hl:lU l)(hn:l'.length<=l.length)(hs:∀e∈l',e∈l):lU l':=⟨Vh hn hl.1,λe he=>hl.2 e (hs e he)⟩
theorem RP {P:Program}{f g k:FuncId}(hf:Is P f (BM g k))(hg:oz P g)(hk:qH P k):nP P f:=by
 refine⟨hf.2,λF h l a i n hl ok=>fS hf ?_⟩;have O:=hl;simp only[fA.c,fu,Rd]at hl;obtain⟨_,_,rfl,rfl,_,_,rfl,rfl,d,_,rfl,hl,rfl⟩:=hl;have E:=ok;obtain⟨o1,o2,o3⟩:=ok;have o4:=o3.1;simp only[BM,go_sem,hl.aA];refine fy ⟨hg.1,hg.2 F _ l _ (O.up (eW.b1 _)) E⟩ ?_;rintro _ _ ⟨rfl,rfl⟩;have hlast:l.aC=l.aA+l.es.length:=rfl;by_cases h1:i<=l.aA;·have c1:decide (i<=l.aA)=true:=U3 h1;simp only[go_sem,fA.aJ,h1];exact⟨eY.aD 3,Vd,eW.b1 _⟩
 have c1:decide (i<=l.aA)=false:=U2 h1;by_cases h2:l.aC<i;·have c2:decide (l.aC<i)=true:=U3 h2;simp only[go_sem,c1,fA.aJ,h2];exact⟨eY.aD 3,Vd,eW.b1 _⟩
 have c2:decide (l.aC<i)=false:=U2 h2;by_cases h3:n<1;·have c3:decide (n<1)=true:=U3 h3;simp only[go_sem,c1,c2,fA.aJ,h3];exact⟨eY.aD 3,Vd,eW.b1 _⟩
 have c3:decide (n<1)=false:=U2 h3;have e1:IntKind.i64.wrap (i-l.aA)=i-l.aA:=gj (by omega);have e2:IntKind.i64.wrap (i-l.aA-1)=i-l.aA-1:=gj (by omega);obtain⟨q,hq,C⟩:=hl.aI (lo:=some (i-l.aA-1)) (hi:=none) (mx:=none) (by simp;omega) (by simp;omega) (by simp) (by simp) (by simp) (by simp);simp only[Vu,V0,V4,VB]at C;have lq:=C.aC;simp only[Vo,Vg]at lq;obtain⟨q2,M,u⟩:=C.aI (lo:=none) (hi:=some (min n (↑(l.es.length-(i-l.aA-1).toNat):Int))) (mx:=none) (by simp) (by simp;omega) (by simp;omega) (by simp) (by simp;omega) (by simp);simp only[Vu,V0,Int.toNat_zero,V9]at u;simp only[go_sem,c1,c2,c3,e1,e2,HZ,hq,lq,rT,tL,M];have hs:l.aJ i n=(l.es.drop (i-l.aA-1).toNat).take (min n ↑(l.es.length-(i-l.aA-1).toNat)).toNat:=by simp only[fA.aJ];rw[U6 (by omega),List.take_eq_take_iff];simp only[Vo];omega
 have I:Rd F h (gK (l.aJ i n)) q2:=by rw[hs,gK,Wv,W4];exact u
 refine fy ⟨hk.1,hk.2 F _ (l.aJ i n) q2 (I.up (eW.b1 _)) (o3.aA (by rw[hs];simp;omega) (λe he=>by rw[hs]at he;exact VC (VR he)))⟩ ?_;rintro r h' ⟨hr,hc,he⟩;simp only[go_sem];exact⟨eY.aC _ (λm hm=>by simp at hm;omega) (λ_ _ _ x=>x) _ hr,hc,(eW.b1 _).tr he⟩
def fA.aG (l:fA):Int->List fU->Nat
 | _,[]=>0
 | at_,e :: r=>if (l.aF at_ && decide (l.aH at_=e.aA))=true then l.aG (at_+1) r+1 else 0
theorem wM (l : fA) : ∀ (e : List fU) (i : Int), l.aG i e <= e.length := by
  intro e;induction e with
  | nil => intro i; simp [fA.aG]
  | cons x r ih => intro i; simp only [fA.aG]; split
                   · have := ih (i + 1); simp; omega
                   · simp
theorem EM (l:fA):∀(e:List fU)(i:Int)(k:Nat),k<=e.length->(∀(j:Nat)(hj:j<e.length),j<k->(l.aF (i+j) && decide (l.aH (i+j)=e[j].aA))=true)->
  (∀hk:k<e.length,(l.aF (i+k) && decide (l.aH (i+k)=e[k].aA))=false)->l.aG i e=k:=by
 intro e;induction e with
 | nil=>intro i k hk _ _;simp at hk;subst hk;rfl
 | cons x r ih=>
  intro i k hk h1 h2;cases k with
  | zero=>have:=h2 (by simp);simp only[fA.aG];simp at this ⊢;exact this
  | succ k=>
   have h0:=h1 0 (by simp) (by omega);simp only[fA.aG];simp only[Xe,Int.add_zero,Wy]at h0;rw[U4 h0,ih (i+1) k (by simpa using hk)];·intro j hj hj';have:=h1 (j+1) (by simpa using hj) (by omega);simp only[List.getElem_cons_succ]at this;rw[show i+1+(j:Int)=i+((j+1:Nat):Int) by omega];exact this
   ·intro u;have:=h2 (by simpa using u);simp only[List.getElem_cons_succ]at this;rw[show i+1+(k:Int)=i+((k+1:Nat):Int) by omega];exact this
def fA.aE (l:fA)(prev:Int)(e:List fU):fA:=
 if l.aF prev=true/\l.aG (prev+1) e<e.length then ⟨l.aA,l.aD,l.es.take (prev+l.aG (prev+1) e-l.aA).toNat++e.drop (l.aG (prev+1) e)⟩ else l
def fA.aI (l:fA)(prev:Int)(e:List fU):Int:=
 if l.aF prev=true/\l.aG (prev+1) e<e.length then prev+1+l.aG (prev+1) e else 0
def vQ (P:Program)(f:FuncId):Prop:=
 fK P f=true/\∀(F:Nat->Prop)(h:eX)(l:fA)(a:List AV)(prev:Int)(e:List fU)(b:AV),fu F h l.c a->Rd F h (gK e) b->jL l->lU e->
  fC P f [.aF a,.aA .i64 prev,b] h λr h'=>∃cs,r=.aI [.aF cs,.aA .i64 (l.aI prev e)]/\fI (l.aE prev e).c (λm=>h.length<=m) h' cs/\eW eZ h h'
theorem RM {P:Program}{f g k t:FuncId}(hf:Is P f (BI g k t))(hg:oz P g)(hk:qH P k)(ht:nQ P t):vQ P f:=by
 refine⟨hf.2,λF h l a prev e b hl hb ok a7=>fS hf ?_⟩;have ap:=hl;simp only[fA.c,fu,Rd]at hl;obtain⟨_,_,rfl,rfl,_,_,rfl,rfl,d,_,rfl,hl,rfl⟩:=hl;have a8:=ok;obtain⟨o1,o2,o3⟩:=ok;have o4:=o3.1;have lb:=hb.aC;simp only[Vg]at lb;have hlast:l.aC=l.aA+l.es.length:=rfl;simp only[BI,go_sem,hl.aA];refine fy ⟨hg.1,hg.2 F _ l _ (ap.up (eW.b2 _ _)) a8⟩ ?_;rintro _ _ ⟨rfl,rfl⟩;simp only[go_sem];refine fy ⟨hk.1,hk.2 F _ l.es d (hl.up (eW.b2 _ _)) o3⟩ ?_;rintro r h2 ⟨hr,ak,he⟩;have hA:=he.aA (jx _ _ _);have hB:=he.aA (iF _ _ _);have l1:=(UY.1 hA).1;have l2:=(UY.1 hB).1;simp only[go_sem,hA,hr.aA,gz hr.aA,l1];have I:eW eZ h (h2.set h.length (some (.aA 3 [[.aA .i64 l.aA,.aA .i64 l.aD,r]] false))):=((eW.b2 _ _).tr he).aG (U8 _) _;have u:eY (gK l.es) (λm=>h.length+2<=m) (h2.set h.length (some (.aA 3 [[.aA .i64 l.aA,.aA .i64 l.aD,r]] false))) r:=
  eY.aC _ (λm hm=>by simp at hm;omega) (λm hm y hy=>by simp at hm;rw[UZ (by omega)];exact hy) _ hr
 have hc3:gV (h2.set h.length (some (.aA 3 [[.aA .i64 l.aA,.aA .i64 l.aD,r]] false))) r:=
  ak.aA hr (λm hm y hy=>by simp at hm;rw[UZ (by omega)];exact hy)
 have E:(h2.set h.length (some (.aA 3 [[.aA .i64 l.aA,.aA .i64 l.aD,r]] false)))[h.length]?=some (some (.aA 3 [[.aA .i64 l.aA,.aA .i64 l.aD,r]] false)):=U5 l1;have O:(h2.set h.length (some (.aA 3 [[.aA .i64 l.aA,.aA .i64 l.aD,r]] false)))[h.length+1]?=some (some (.aA 3 [[.aA .i64 0,.aA .i64 0,.aD]] false)):=by rw[UZ (by omega)];exact hB
 generalize h2.set h.length (some (.aA 3 [[.aA .i64 l.aA,.aA .i64 l.aD,r]] false))=h3 at *;have l13:=(UY.1 E).1;have a1:=(UY.1 O).1;have aj:fu (λm=>h.length+2<=m) h3 l.c [.aA .i64 l.aA,.aA .i64 l.aD,r]:=by simp only[fA.c,fu,Rd];exact⟨_,_,rfl,rfl,_,_,rfl,rfl,_,_,rfl,eY.rd _ (λ_ x=>x) _ u,rfl⟩
 have stay:l.aE prev e=l->eY (gK l.es) (λm=>h.length+2<=m) h3 r->fI (l.aE prev e).c (λm=>h.length<=m) (h3.set (h.length+1) (some (.aA 3 [[.aA .i64 l.aA,.aA .i64 l.aD,r]] false))) [.aA .i64 l.aA,.aA .i64 l.aD,r]:=by intro e1 e2;rw[e1];simp only[fA.c,fI,eY];exact⟨_,_,rfl,rfl,_,_,rfl,rfl,_,_,rfl,eY.aC _ (λm hm=>by omega) (λm hm y hy=>by rw[UZ (by omega)];exact hy) _ e2,rfl⟩
 by_cases h1:prev<l.aA
 ·have hh:l.aF prev=false:=by simp[fA.aF];omega
  simp only[go_sem,U3 h1,E,O,u.aA,a1];have e1:l.aE prev e=l:=by simp[fA.aE,hh]
  have e2:l.aI prev e=0:=by simp[fA.aI,hh]
  rw[e2];exact⟨_,rfl,stay e1 u,I.aG (by omega) _⟩
 by_cases h2:l.aC<prev
 ·have hh:l.aF prev=false:=by simp[fA.aF];omega
  simp only[go_sem,U2 h1,U3 h2,E,O,u.aA,a1];have e1:l.aE prev e=l:=by simp[fA.aE,hh]
  have e2:l.aI prev e=0:=by simp[fA.aI,hh]
  rw[e2];exact⟨_,rfl,stay e1 u,I.aG (by omega) _⟩
 have hh:l.aF prev=true:=by simp[fA.aF];omega
 have oe:=a7.1;simp only[go_sem,U2 h1,U2 h2,lb];refine iM (λm L h'=>∃i:Nat,lk 1 L=.aA .i64 prev/\lk 2 L=b/\lk 3 L=.aC h.length 3 0 0/\lk 6 L=.aC (h.length+1) 3 0 0/\lk 35 L=.aA .i64 e.length/\lk 36 L=.aA .i64 i/\h'=h3/\i<=e.length/\m=e.length-i /\
  ∀(j:Nat)(hj:j<e.length),j<i->(l.aF (prev+1+j) && decide (l.aH (prev+1+j)=e[j].aA))=true) e.length ?_ ?_
 ·exact⟨0,by simp[fm,g_],by simp[fm,g_],by simp[fm],by simp[fm],by simp[fm],by simp[fm],rfl,by omega,by omega,by omega⟩
 ·rintro m L h' ⟨i,k1,k2,k3,k6,a9,a2,rfl,hi,rfl,hj⟩;have ab:Rd F h' (gK e) b:=hb.up I;simp only[FG,go_sem,a9,a2];by_cases hc:i<e.length
  ·have c1:decide ((i:Int)<e.length)=true:=U3 (by omega);have e1:IntKind.i64.wrap (prev+1)=prev+1:=gj (by omega);have e2:IntKind.i64.wrap (prev+1+↑i)=prev+1+↑i:=gj (by omega);have e3:IntKind.i64.wrap (↑i+1)=(i:Int)+1:=gj (by omega);simp only[go_sem,k1,k3,a2,c1,e1,e2,E];refine fy ⟨ht.1,ht.2 _ _ l _ (prev+1+↑i) aj a8⟩ ?_;rintro _ _ ⟨rfl,rfl⟩;obtain⟨p,cs,hp,U,aa⟩:=ab.aD .i64 (i:=(i:Int)) (d:=(e[i]).c) (by omega) (by rw[V4,VE,U0 hc];rfl);simp only[fU.c,fu,Rd]at aa;obtain⟨_,_,rfl,rfl,_,_,rfl,rfl,d',_,rfl,_,rfl⟩:=aa;by_cases hm:(l.aF (prev+1+i) && decide (l.aH (prev+1+i)=e[i].aA))=true
   ·have W:=hm;rw[Vq]at W;simp only[go_sem,k1,k2,k3,k6,a9,a2,W.1,W.2,hp,mN U,nh U,e3];refine⟨_,?_,i+1,by simp,hc,rfl,λj aq hj2=>?_⟩;·omega
    ·rcases WB j i with hlt | hge;·exact hj j aq hlt
     ·obtain rfl:j=i:=by omega
      exact hm
   ·have a5:l.aG (prev+1) e=i:=EM l e (prev+1) i hi hj (λ_=>by simpa using hm);have hpi:prev+i<=l.aC:=by
     rcases Nat.eq_zero_or_pos i with h0 | h0;·omega
     ·have:=hj (i-1) (by omega) (by omega);simp only[fA.aF,Vq,VD]at this;omega
    have e4:IntKind.i64.wrap (prev+1+↑i-l.aA)=prev+1+↑i-l.aA:=gj (by omega);have e5:IntKind.i64.wrap (prev+1+↑i-l.aA-1)=prev+1+↑i-l.aA-1:=gj (by omega);obtain⟨q,hq,am,an⟩:=tN u (k:=prev+1+↑i-l.aA-1) (by omega) (by simp;omega);obtain⟨q2,ao,C⟩:=ab.aI (lo:=some (i:Int)) (hi:=none) (mx:=none) (by simp) (by simp;omega) (by simp) (by simp) (by simp) (by simp);simp only[Vu,V0,V4,VB]at C;rw[<-W4]at C;have hx:l.aF (prev+1+↑i)=false\/(l.aF (prev+1+↑i)=true/\decide (l.aH (prev+1+↑i)=e[i].aA)=false):=by
     cases ar:l.aF (prev+1+↑i);·exact .inl rfl
     ·rw[ar,Xs]at hm;exact .inr ⟨rfl,by simpa using hm⟩
    rcases hx with hx | hx;all_goals
     simp only[go_sem,k2,k3,hx,hp,mN U,nh U,E,e4,e5,hq,ao];refine fy ⟨hk.1,hk.2 F _ (e.drop i) q2 C (a7.aA (by simp) (λx hx=>VC hx))⟩ ?_;rintro r2 h4 ⟨al,_,Z⟩;obtain⟨ys,ah,ai⟩:=al.aE;obtain⟨r5,h5,au,a3,_,a4⟩:=l_ (bytes:=40) am an Z ai (by omega) (by simp;omega);have M:=iv ah 40 q;rw[au]at M;have a6:=Z.aA E;have ae:h5[h.length]?=some (some (.aA 3 [[.aA .i64 l.aA,.aA .i64 l.aD,r]] false)):=by rw[a4.2 _ (UY.1 a6).1 (by omega)];exact a6
     have ad:=Z.aA O;have ac:h5[h.length+1]?=some (some (.aA 3 [[.aA .i64 0,.aA .i64 0,.aD]] false)):=by rw[a4.2 _ (UY.1 ad).1 (by omega)];exact ad
     have ag:=(UY.1 ae).1;have af:=(UY.1 ac).1;simp only[go_sem,k3,k6,a6,M,ae,ac,a3.aA,gz a3.aA,ag,af,U9];have el:l.aE prev e=⟨l.aA,l.aD,l.es.take (prev+1+↑i-l.aA-1).toNat++e.drop i⟩:=by simp only[fA.aE,a5];rw[U4 ⟨hh,hc⟩];congr 3;omega
     have aw:l.aI prev e=prev+1+↑i:=by simp only[fA.aI,a5];rw[U4 ⟨hh,hc⟩]
     rw[aw,el];refine⟨_,rfl,?_,?_⟩;·simp only[fA.c,fI,eY];refine⟨_,_,rfl,rfl,_,_,rfl,rfl,r5,_,rfl,?_,rfl⟩;rw[gK,VJ,Wv];exact eY.aC _ (λm hm=>by omega) (λm hm y hy=>by rw[UZ (by omega),UZ (by omega)];exact hy) _ a3
     ·exact (((I.tr Z).aJ a4 (λm hm W=>by omega)).aG (by omega) _).aG (by omega) _
  ·have c1:decide ((i:Int)<e.length)=false:=U2 (by omega);simp only[go_sem,k3,k6,c1,E,O,u.aA,a1];have a5:l.aG (prev+1) e=i:=EM l e (prev+1) i hi hj (λhk=>absurd hk hc);have e1:l.aE prev e=l:=by simp only[fA.aE];rw[U6 (by omega)]
   have e2:l.aI prev e=0:=by simp only[fA.aI];rw[U6 (by omega)]
   rw[e2];exact⟨_,rfl,stay e1 u,I.aG (by omega) _⟩
def fA.aK (l:fA)(b:Int):fA:=if l.aF b then ⟨b,l.aH b,l.es.drop (b-l.aA).toNat⟩ else ⟨0,0,[]⟩
def uk (P:Program)(f:FuncId):Prop:=
 fK P f=true/\∀(F:Nat->Prop)(h:eX)(l:fA)(a:List AV)(i:Int),fu F h l.c a->jL l->
  fC P f [.aF a,.aA .i64 i] h λr h'=>∃cs,r=.aI [.aF cs,.aA .i64 (if l.aF i then 0 else 3)]/\fI (l.aK i).c (λm=>h.length<=m) h' cs/\eW eZ h h'
theorem Ie {P:Program}{f t k:FuncId}(hf:Is P f (BJ t k))(ht:nQ P t)(hk:qH P k):uk P f:=by
 refine⟨hf.2,λF h l a i hl ok=>fS hf ?_⟩;have C:=hl;simp only[fA.c,fu,Rd]at hl;obtain⟨_,_,rfl,rfl,_,_,rfl,rfl,d,_,rfl,hl,rfl⟩:=hl;have u:=ok;obtain⟨o1,o2,o3⟩:=ok;have o4:=o3.1;have hlast:l.aC=l.aA+l.es.length:=rfl;simp only[BJ,go_sem,hl.aA];refine fy ⟨ht.1,ht.2 F _ l _ i (C.up (eW.b2 _ _)) u⟩ ?_;rintro _ _ ⟨rfl,rfl⟩;cases hh:l.aF i;·simp only[go_sem];refine⟨_,rfl,?_,eW.b2 _ _⟩;simp only[fA.aK,hh,fA.c,fI,eY];exact⟨_,_,rfl,rfl,_,_,rfl,rfl,_,_,rfl,eY.aD 3,rfl⟩
 ·have hi:l.aA<=i/\i<=l.aC:=by simpa [fA.aF] using hh
  have e1:IntKind.i64.wrap (i-l.aA)=i-l.aA:=gj (by omega);obtain⟨q,hq,e⟩:=hl.aI (lo:=some (i-l.aA)) (hi:=none) (mx:=none) (by simp;omega) (by simp;omega) (by simp) (by simp) (by simp) (by simp);simp only[Vu,V0,V4,VB]at e;rw[<-W4]at e;simp only[go_sem,e1,hq];refine fy ⟨hk.1,hk.2 F _ (l.es.drop (i-l.aA).toNat) q (Rd.up e (eW.b2 _ _)) (o3.aA (by simp) (λx hx=>VC hx))⟩ ?_;rintro r h2 ⟨hr,_,he⟩;have hB:=he.aA (iF _ _ _);have l2:=(UY.1 hB).1;simp only[go_sem,hB,hr.aA,gz hr.aA,l2];refine⟨_,rfl,?_,((eW.b2 _ _).tr he).aG (by omega) _⟩;simp only[fA.aK,hh,fA.c,fI,eY];refine⟨_,_,rfl,rfl,_,_,rfl,rfl,r,_,rfl,?_,rfl⟩;exact eY.aC _ (λm hm=>by simp at hm;omega) (λm hm y hy=>by simp at hm;rw[UZ (by omega)];exact hy) _ hr
end Glb
