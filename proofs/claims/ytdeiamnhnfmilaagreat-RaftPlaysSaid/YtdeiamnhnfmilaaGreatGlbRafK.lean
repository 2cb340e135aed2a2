/-
  A library of its own.
-/
import Derived.Test.YtdeiamnhnfmilaaGreatGlbRafE
set_option linter.unusedSimpArgs false
set_option linter.unusedVariables false
set_option maxRecDepth 10000
set_option maxHeartbeats 8000000
namespace Glb
open Go
def qy:fV:=⟨1,0,0,⟨0,0,[]⟩,⟨[1],[],[]⟩,[]⟩
def jb:Nat->fm
 | 0=>fm.bA 1 qy 0
 | i+1=>((jb i).aQ 0).r
theorem Hf:(fm.bA 1 qy 0).aD 1:=by refine⟨by decide,by decide,by decide,(by intro e he;cases he),by decide,⟨(by intro e he;cases he),by decide⟩,by decide,⟨⟨by decide,by decide⟩,⟨by decide,by decide⟩,⟨by decide,by decide⟩⟩,by decide,by decide,by decide,by decide,by decide,⟨by decide,(by intro e he;cases he)⟩,by decide⟩
theorem xq:∀i,i<=20->(jb i).aD (1+2*i)
 | 0,_=>Hf
 | i+1,h=>fm.bG (xq i (by omega)) (by omega) 0
theorem Pu:∀i,i<9->((jb i).aQ 0).o.aC.length=0/\((jb i).aQ 0).r.aM=0:=by decide +kernel
theorem Ps:((jb 9).aQ 0).o.aC.length=2/\((jb 9).aQ 0).o.aA=1/\((jb 9).aQ 0).o.aF.length=1/\((jb 9).aQ 0).r.aM=2:=by decide +kernel
theorem Pt:((jb 10).aP 1 [7]).1=2/\((jb 10).aP 1 [7]).2.2=0/\((jb 10).aP 1 [7]).2.1.o.aA=2/\((jb 10).aP 1 [7]).2.1.o.aF.length=1/\((jb 10).aP 1 [7]).2.1.r.aI=2/\((jb 10).aP 1 [7]).2.1.r.aM=2:=by decide +kernel
def yC (P:Program)(f:FuncId):Prop:=fI P f=true/\∀h:eZ,fy P f [] h λv h'=>v=.aE qy.v/\h'=h
theorem Rb {P:Program}{f:FuncId}(hf:Is P f zQ):yC P f:=by
 refine⟨hf.2,λh=>fy.aB (K:=λv h'=>(∃b,v=.aE b/\fW qy.c (λm=>h.length<=m) h' b)/\eY fj h h') (fN hf ?_) (λr _ ⟨⟨b,e,o⟩,hx⟩=>⟨hx,_,e▸gM.aA (ds:=qy.c) (fW.fz _ (λ_ x=>x) _ o),rfl⟩)⟩;simp only[zQ,go_sem];refine⟨⟨_,rfl,?_⟩,eY.b2 _ _⟩;have o1:e_ (fK [1]) (λm=>h.length<=m) (h++[some (fh.aA 10 [[.aA .i64 1,.aA .i64 0,.aA .i64 0,.aA .i64 0,.aA .i64 0,.aB,.aF (h.length+1) 1 0 1 (some 1),.aB,.aB,.aB]] false)]++[some (fh.aA 1 [[.aA .i64 1]] false)]) (.aF (h.length+1) 1 0 1 (some 1)):=
  .inr (.inr ⟨_,0,some 1,_,_,rfl,by omega,iq _ _ _,by simp,(λc hc=>by cases hc;simp),by simp[fP,fW,e_]⟩)
 have z:∀{F h}(sz:Nat),e_ (.sl sz []) F h .aB:=λsz=>e_.aC sz;show fW [.aA .i64 1,.aA .i64 0,.aA .i64 0,.aA .i64 0,.aA .i64 0,f_ [],fK [1],fK [],fK [],fT []] _ _ _;simp only[fW];exact⟨_,_,rfl,rfl,_,_,rfl,rfl,_,_,rfl,rfl,_,_,rfl,rfl,_,_,rfl,rfl,_,_,rfl,e_.aC 3,_,_,rfl,o1,_,_,rfl,e_.aC 1,_,_,rfl,e_.aC 1,_,_,rfl,e_.aC 1,rfl⟩
def oE (lo:Nat)(h:eZ)(r:Nat)(x:fm):Prop:=∃L,iu L h r x/\∀m,L m≠0->lo<=m
theorem oE.aA {L:Nat->Nat}{lo:Nat}{h:eZ}{r:Nat}{x0:fm}{x:RX}{v:AV}{h':eZ}(a:iu L h r x0)(t:∀m,L m≠0->lo<=m)(hl:lo<=h.length)(b:jI L h r x v h'):oE lo h' r x.r/\(∃A B C,Em A B C h' x.o v)/\eY (λm=>lo<=m) h h':=by
 obtain⟨L',m1,e,ra,hx⟩:=b.aA a;refine⟨⟨_,m1,λm hm=>?_⟩,⟨_,_,_,ra⟩,⟨hx.1,λm hm hn=>hx.2 m hm (λz=>hn (t m z))⟩⟩;by_cases c:m<h.length;·rw[e m c]at hm;exact t m hm
 ·omega
theorem oE.up {lo h h' r x}(a:oE lo h r x)(hx:eY fj h h'):oE lo h' r x:=let⟨L,m,e⟩:=a;⟨L,m.up hx,e⟩
theorem Io (g:fJ->AV)(h:eZ)(neg:Bool)(x:fJ):gB g h (.x (.aD neg x))=(uL (g x)).map λb=>.aD (b != neg):=Vn rfl rfl
theorem HN (n sz i o:Nat):uL (.aC n sz i o)=some false:=Vn rfl rfl
def yI (P:Program)(f:FuncId):Prop:=fI P f=true/\∀h:eZ,fy P f [] h λv h'=>v=.aD true/\h'=h
theorem Se {P:Program}{f f1 f2 f3 f4 f5 f6:FuncId}(hf:Is P f (zR f1 f2 f3 f4 f5 f6))(u1:yC P f1)(u2:wh P f2)(u3:tO P f3)(u4:mW P f4 fm.aM)(u5:tM P f5)(u6:mW P f6 fm.aI):yI P f:=by
 refine⟨hf.2,λh=>fy.aB (K:=λv h'=>v=.aD true/\eY fj h h') (fN hf ?_) (λr _ ⟨e,hx⟩=>⟨hx,r,by rw[e];exact gM.aD _,e⟩)⟩;simp only[zR,go_sem];refine fR u1.1 (u1.2 h) ?_;simp only[go_sem];refine fq ⟨u2.1,u2.2 fj h 1 qy _ 0 (Ic fj h qy) (Hf.aB (by decide)) ((kP (by decide:qy.aC.aI=true)).le (by decide)) (by decide) (by decide)⟩ ?_;rintro _ h1 ⟨r,rfl,hr,row,X1⟩;have m1:oE h.length h1 r (jb 0):=by
  refine⟨_,Hw row,λm hm=>?_⟩;by_cases c:m=r;·omega
  ·exact absurd (Ve c) hm
 simp only[go_sem,Io,HN,show (false != false)=false from rfl];obtain⟨I,hI⟩:∃I:Nat->fY->eZ->Prop,∀m L h',I m L h'↔∃i:Nat,lk 1 L=.aC r 21 0 0/\lk 2 L=.aA .i64 i/\oE h.length h' r (jb i)/\eY fj h h'/\i<=9/\m=9-i:=⟨_,λ_ _ _=>Wu⟩;refine gJ I 9 ((hI _ _ _).2 ⟨0,by simp[fi],by simp[fi],m1,X1,by omega,by omega⟩) ?_;intro m L h2 hh;obtain⟨i,k1,k2,⟨L2,mm,ml⟩,X2,hi,rfl⟩:=(hI _ _ _).1 hh;have x2:=X2.1;simp only[Fx,go_sem,k2];refine gx (λci=>?_) (λci=>?_)
 ·simp at ci;have ci:i<9:=by omega
  have ew:IntKind.i64.wrap ((i:Int)+1)=((i+1:Nat):Int):=by rw[fQ (by omega)];omega
  have ft:=xq i (by omega);simp only[go_sem,k1];refine fq ⟨u3.1,u3.2 L2 h2 r (jb i) _ 0 mm ft (by omega)⟩ ?_;intro v h3 ro;obtain⟨m3,⟨A,B,C,⟨ma,ca,aa,rfl,oa,ob,oc,-,-⟩⟩,X3⟩:=oE.aA mm ml (by omega) ro;have t:eY fj h h3:=⟨by have:=X3.1;omega,λm hm _=>(X3.2 m (by omega) (by omega)).trans (X2.2 m hm (λz=>z))⟩;obtain⟨s1,s2⟩:=Pu i ci;have lc:g_ ca=some (.aA .i64 0):=by have:=(e_.rd _ (F':=B) (λ_ y=>y) _ ob).aB;simpa [jQ,s1] using this
  simp only[go_sem,k1,oa.aA,ob.aA,oc.aA,lc,show decide ((0:Int)<0)=false from rfl];have m4:=m3.up (eY.b1 (some (fh.aA 5 [[ma,ca,aa,.aA .i64 ((jb i).aQ 0).o.aA,.aD ((jb i).aQ 0).o.aB]] false)));obtain⟨L4,q4,r4⟩:=id m4;refine fR u4.1 (u4.2 _ r _ q4.aD) ?_;simp only[go_sem,k2,s2,ew];exact⟨_,by omega,(hI _ _ _).2 ⟨i+1,by simp[fi,k1],by simp[fi],m4,t.tr (eY.b1 _),by omega,rfl⟩⟩
 ·simp at ci;have:i=9:=by omega
  subst this;have ft:=xq 9 (by omega);simp only[go_sem,k1];refine fq ⟨u3.1,u3.2 L2 h2 r (jb 9) _ 0 mm ft (by omega)⟩ ?_;intro v h3 ro;obtain⟨m3,⟨A,B,C,⟨ma,ca,aa,rfl,oa,ob,oc,-,-⟩⟩,X3⟩:=oE.aA mm ml (by omega) ro;have t:eY fj h h3:=⟨by have:=X3.1;omega,λm hm _=>(X3.2 m (by omega) (by omega)).trans (X2.2 m hm (λz=>z))⟩;have x23:=t.1;obtain⟨t1,t2,t3,t4⟩:=Ps;obtain⟨p1,p2,p3,p4,p5,p6⟩:=Pt;have lc:g_ ca=some (.aA .i64 2):=by have:=(e_.rd _ (F':=B) (λ_ y=>y) _ ob).aB;simpa [jQ,t1] using this
  have la:g_ aa=some (.aA .i64 1):=by have:=(e_.rd _ (F':=C) (λ_ y=>y) _ oc).aB;simpa [f_,t3] using this
  obtain⟨H4,b⟩:∃H4,H4=h3++[some (fh.aA 5 [[ma,ca,aa,.aA .i64 ((jb 9).aQ 0).o.aA,.aD ((jb 9).aQ 0).o.aB]] false)]++[some (fh.aA 1 [[.aA .u8 7]] false)]:=⟨_,rfl⟩;have X4:eY fj h3 H4:=by rw[b];exact eY.b2 _ _
  have l4:H4.length=h3.length+2:=by rw[b];simp
  have C0:H4[h3.length]?=some (some (fh.aA 5 [[ma,ca,aa,.aA .i64 ((jb 9).aQ 0).o.aA,.aD ((jb 9).aQ 0).o.aB]] false)):=by rw[b];exact iE _ _ _
  have C1:H4[h3.length+1]?=some (some (fh.aA 1 [[.aA .u8 7]] false)):=by rw[b];exact iq _ _ _
  simp only[go_sem,k1,oa.aA,ob.aA,oc.aA];rw[<-b];clear b;obtain⟨L4,q3,r4⟩:=m3;have q4:=q3.up X4;have f10:(jb 10).aD 21:=xq 10 (by omega);have dt:vI L4 H4 (fT [7]) (.aF (h3.length+1) 1 0 1 (some 1)):=by refine⟨λm=>m=h3.length+1,?_,λm hm=>⟨by rw[hm];exact q3.ge (by omega),by omega⟩⟩;exact⟨_,.inr (.inr ⟨_,_,_,_,_,_,rfl,rfl,C1,by simp,(λc hc=>by cases hc;simp),rfl⟩),by simp[gC,fu,Rd]⟩
  refine fq ⟨u5.1,u5.2 L4 H4 r (jb 10) 21 1 [7] _ q4 f10 (by omega) dt ⟨by intro e he;simp at he;subst he;decide,by decide⟩ (by constructor<;>decide)⟩ ?_;rintro _ h5 ⟨w,rfl,E⟩;obtain⟨L5,m5,e5,⟨mb,cb,ab,rfl,O,M,u,-,-⟩,X5⟩:=E.aA q4;have D0:=(X5.2 h3.length (by omega) (by show ¬wA (L4 h3.length);rw[q3.ge (Vg _)];exact iZ)).trans C0;have x5:=X5.1;have lb:g_ ab=some (.aA .i64 1):=by have:=(e_.rd _ (F':=λm=>(H4.length<=m/\m<h5.length)/\L5 m=5) (λ_ y=>y) _ u).aB;simpa [f_,p4] using this
  rw[p1,p2,p3]at *;simp only[go_sem,k1,O.aA,M.aA,u.aA];have C6:=λa=>(eY.b1 a).aA D0;have m6:=m5.up (eY.b1 (some (fh.aA 5 [[mb,cb,ab,.aA .i64 2,.aD ((jb 10).aP 1 [7]).2.1.o.aB]] false)));refine fR u4.1 (u4.2 _ r _ m6.aD) ?_;simp only[go_sem,k1,C6,p6,t2,lc,la,lb];refine fR u6.1 (u6.2 _ r _ m6.aD) ?_;simp only[go_sem,p5];have U:eY fj h h5:=by refine⟨by omega,λm hm _=>(X5.2 m (by omega) (λz=>?_)).trans ((X4.2 m (by omega) (λy=>y)).trans (t.2 m hm (λy=>y)))⟩;have:=r4 m z;omega
  exact U.tr (eY.b1 _)
instance (l:List Int):Decidable (gK l):=by unfold gK;infer_instance
instance (n:Int):Decidable (gO n):=by unfold gO;infer_instance
instance (e:gj):Decidable e.aD:=by unfold gj.aD;infer_instance
instance (w:fO):Decidable w.aI:=by unfold fO.aI;infer_instance
end Glb
