/-
  A library of its own.
-/
import Derived.Test.YtdeiamnhnfmilaaGreatGlbKitA
set_option linter.unusedSimpArgs false
set_option linter.unusedVariables false
set_option maxRecDepth 10000
namespace Glb
open Go
def jl (l:fE):Prop:=0<=l.aA/\l.aA<=2^41/\iK l.es
def fE.aC (l:fE):Int:=l.aA+l.es.length
def fE.aL (l:fE):Int:=match l.es[l.es.length-1]? with
 | some e=>e.aB
 | none=>l.aB
def fE.aD (l:fE)(i:Int):Bool:=decide (l.aA<=i) && decide (i<=l.aC)
def fE.aG (l:fE)(i:Int):Int:=if l.aD i then (if i=l.aA then l.aB else match l.es[(i-l.aA-1).toNat]? with
 | some e=>e.aB
 | none=>0) else 0
def kj (P:Program)(f:FuncId):Prop:=
 fI P f=true/\∀(F:Nat->Prop)(h:eZ)(l:fE)(a:List AV),fu F h l.c a->jl l->
  fy P f [.aE a] h λr h'=>r=.aI [.aA .i64 l.aC,.aA .i64 l.aL]/\h'=h
theorem Sk {P:Program}{f:FuncId}(hf:Is P f B9):kj P f:=by
 refine⟨hf.2,λF h l a hl ok=>iF (pY (nH _ _ _) (nH _ _ _)) (fN hf ?_)⟩;simp only[fE.c,fu,Rd]at hl;obtain⟨_,_,rfl,rfl,_,_,rfl,rfl,d,_,rfl,hl,rfl⟩:=hl;have ll:=hl.aB;simp only[Vo]at ll;obtain⟨o1,o2,o3,o4⟩:=ok;simp only[B9,go_sem,hl.aA,ll];refine gx (λc=>?_) (λc=>?_)
 ·simp at c;have e1:IntKind.i64.wrap (l.aA+↑l.es.length)=l.aA+↑l.es.length:=fQ (by omega);have e2:IntKind.i64.wrap ((l.es.length:Int)-1)=(l.es.length:Int)-1:=fQ (by omega);have hlt:l.es.length-1<l.es.length:=by first | omega | (have:=List.length_pos_iff.2 c;omega)
  have ht:((l.es.length:Int)-1).toNat=l.es.length-1:=by omega
  obtain⟨p,cs,hp,t,u⟩:=hl.aD .i64 (i:=(l.es.length:Int)-1) (d:=(l.es[l.es.length-1]).c) (by omega) (by rw[ht];simp[hlt]);simp only[gj.c,fu,Rd]at u;obtain⟨_,_,rfl,rfl,_,_,rfl,rfl,d',_,rfl,_,rfl⟩:=u;have b:=mv t (eY.b1 (some (.aA 3 [[.aA .i64 l.aA,.aA .i64 l.aB,d]] false)));simp only[go_sem,e1,e2,hp,ko t,jJ b];refine⟨?_,eY.b1 _⟩;simp[fE.aC,fE.aL,hlt]
 ·simp at c;simp only[go_sem];refine⟨?_,eY.b1 _⟩;simp[fE.aC,fE.aL,c]
theorem Oh {P:Program}{f:FuncId}(hf:Is P f Ak):kj P f:=by
 refine⟨hf.2,λF h l a hl ok=>iF (pY (nH _ _ _) (nH _ _ _)) (fN hf ?_)⟩;simp only[fE.c,fu,Rd]at hl;obtain⟨_,_,rfl,rfl,_,_,rfl,rfl,d,_,rfl,hl,rfl⟩:=hl;have ll:=hl.aB;simp only[Vo]at ll;obtain⟨o1,o2,o3,o4⟩:=ok;simp only[Ak,go_sem,hl.aA,ll];refine gx (λc=>?_) (λc=>?_);·simp at c;simp only[go_sem];refine⟨?_,eY.b1 _⟩;simp[fE.aC,fE.aL,c]
 ·simp at c;have e1:IntKind.i64.wrap (l.aA+↑l.es.length)=l.aA+↑l.es.length:=fQ (by omega);have e2:IntKind.i64.wrap ((l.es.length:Int)-1)=(l.es.length:Int)-1:=fQ (by omega);have hlt:l.es.length-1<l.es.length:=by first | omega | (have:=Xg.2 c;omega)
  have ht:((l.es.length:Int)-1).toNat=l.es.length-1:=by omega
  obtain⟨p,cs,hp,t,u⟩:=hl.aD .i64 (i:=(l.es.length:Int)-1) (d:=(l.es[l.es.length-1]).c) (by omega) (by rw[ht];simp[hlt]);simp only[gj.c,fu,Rd]at u;obtain⟨_,_,rfl,rfl,_,_,rfl,rfl,d',_,rfl,_,rfl⟩:=u;have b:=mv t (eY.b1 (some (.aA 3 [[.aA .i64 l.aA,.aA .i64 l.aB,d]] false)));simp only[go_sem,e1,e2,hp,ko t,jJ b];refine⟨?_,eY.b1 _⟩;simp[fE.aC,fE.aL,hlt]
def jP (P:Program)(f:FuncId):Prop:=
 fI P f=true/\∀(F:Nat->Prop)(h:eZ)(l:fE)(a:List AV)(i:Int),fu F h l.c a->jl l->
  fy P f [.aE a,.aA .i64 i] h λr h'=>r=.aI [.aA .i64 (l.aG i),.aD (l.aD i)]/\h'=h
theorem Sn {P:Program}{f g:FuncId}(hf:Is P f (Cb g))(hg:kj P g):jP P f:=by
 refine⟨hf.2,λF h l a i hl ok=>iF (pY (nH _ _ _) (kD _ _)) (fN hf ?_)⟩;have E:=hl;simp only[fE.c,fu,Rd]at hl;obtain⟨_,_,rfl,rfl,_,_,rfl,rfl,d,_,rfl,hl,rfl⟩:=hl;have C:=ok;obtain⟨o1,o2,o3,o4⟩:=ok;simp only[Cb,go_sem,hl.aA];refine fq ⟨hg.1,hg.2 F _ l _ (E.up (eY.b1 _)) C⟩ ?_;rintro _ _ ⟨rfl,rfl⟩;have hlast:l.aC=l.aA+l.es.length:=rfl;by_cases h1:i<l.aA
 ·have c1:decide (i<l.aA)=true:=Vc h1;have hh:l.aD i=false:=by simp[fE.aD];omega
  simp only[go_sem,c1,fE.aG,hh];exact eY.b1 _
 have c1:decide (i<l.aA)=false:=Va h1;by_cases h2:l.aC<i
 ·have c2:decide (l.aC<i)=true:=Vc h2;have hh:l.aD i=false:=by simp[fE.aD];omega
  simp only[go_sem,c1,c2,fE.aG,hh];exact eY.b1 _
 have c2:decide (l.aC<i)=false:=Va h2;have hh:l.aD i=true:=by simp[fE.aD];omega
 by_cases h3:i=l.aA
 ·have c3:decide (i=l.aA)=true:=Vc h3;simp only[go_sem,c1,c2,c3,fE.aG,hh];refine⟨?_,eY.b1 _⟩;rw[Vf h3]
 have c3:decide (i=l.aA)=false:=Va h3;have hlt:(i-l.aA-1).toNat<l.es.length:=by omega
 have e1:IntKind.i64.wrap (i-l.aA)=i-l.aA:=fQ (by omega);have e2:IntKind.i64.wrap (i-l.aA-1)=i-l.aA-1:=fQ (by omega);obtain⟨p,cs,hp,t,u⟩:=hl.aD .i64 (i:=i-l.aA-1) (d:=(l.es[(i-l.aA-1).toNat]).c) (by omega) (by rw[VE,Vi hlt];rfl);simp only[gj.c,fu,Rd]at u;obtain⟨_,_,rfl,rfl,_,_,rfl,rfl,d',_,rfl,_,rfl⟩:=u;have b:=mv t (eY.b1 (some (.aA 3 [[.aA .i64 l.aA,.aA .i64 l.aB,d]] false)));simp only[go_sem,c1,c2,c3,e1,e2,hp,ko t,jJ b,fE.aG,hh];refine⟨?_,eY.b1 _⟩;rw[Ve h3,Vi hlt]
theorem Oj {P:Program}{f g:FuncId}(hf:Is P f (Am g))(hg:kj P g):jP P f:=by
 refine⟨hf.2,λF h l a i hl ok=>iF (pY (nH _ _ _) (kD _ _)) (fN hf ?_)⟩;have E:=hl;simp only[fE.c,fu,Rd]at hl;obtain⟨_,_,rfl,rfl,_,_,rfl,rfl,d,_,rfl,hl,rfl⟩:=hl;have C:=ok;obtain⟨o1,o2,o3,o4⟩:=ok;simp only[Am,go_sem,hl.aA];refine fq ⟨hg.1,hg.2 F _ l _ (E.up (eY.b1 _)) C⟩ ?_;rintro _ _ ⟨rfl,rfl⟩;have hlast:l.aC=l.aA+l.es.length:=rfl;by_cases h1:i<l.aA
 ·have c1:decide (i<l.aA)=true:=Vc h1;have hh:l.aD i=false:=by simp[fE.aD];omega
  simp only[go_sem,c1,fE.aG,hh];exact eY.b1 _
 have c1:decide (i<l.aA)=false:=Va h1;by_cases h2:l.aC<i
 ·have c2:decide (l.aC<i)=true:=Vc h2;have hh:l.aD i=false:=by simp[fE.aD];omega
  simp only[go_sem,c1,c2,fE.aG,hh];exact eY.b1 _
 have c2:decide (l.aC<i)=false:=Va h2;have hh:l.aD i=true:=by simp[fE.aD];omega
 by_cases h3:i=l.aA
 ·have c3:decide (i=l.aA)=true:=Vc h3;simp only[go_sem,c1,c2,c3,fE.aG,hh];refine⟨?_,eY.b1 _⟩;rw[Vf h3]
 have c3:decide (i=l.aA)=false:=Va h3;have hlt:(i-l.aA-1).toNat<l.es.length:=by omega
 have e1:IntKind.i64.wrap (i-l.aA)=i-l.aA:=fQ (by omega);have e2:IntKind.i64.wrap (i-l.aA-1)=i-l.aA-1:=fQ (by omega);obtain⟨p,cs,hp,t,u⟩:=hl.aD .i64 (i:=i-l.aA-1) (d:=(l.es[(i-l.aA-1).toNat]).c) (by omega) (by rw[VE,Vi hlt];rfl);simp only[gj.c,fu,Rd]at u;obtain⟨_,_,rfl,rfl,_,_,rfl,rfl,d',_,rfl,_,rfl⟩:=u;have b:=mv t (eY.b1 (some (.aA 3 [[.aA .i64 l.aA,.aA .i64 l.aB,d]] false)));simp only[go_sem,c1,c2,c3,e1,e2,hp,ko t,jJ b,fE.aG,hh];refine⟨?_,eY.b1 _⟩;rw[Ve h3,Vi hlt]
def fE.aN (l:fE)(index term:Int):Bool:=decide (l.aL<term) || (decide (term=l.aL) && decide (l.aC<=index))
def yy (P:Program)(f:FuncId):Prop:=
 fI P f=true/\∀(F:Nat->Prop)(h:eZ)(l:fE)(a:List AV)(i t:Int),fu F h l.c a->jl l->
  fy P f [.aE a,.aA .i64 i,.aA .i64 t] h λr h'=>r=.aD (l.aN i t)/\h'=h
theorem Sl {P : Program} {f g : FuncId} (hf : Is P f (B_ g)) (hg : kj P g) : yy P f := by
 refine ⟨hf.2, λF h l a i t hl ok => iF (kD _ _) (fN hf ?_)⟩;have b := hl;simp only [fE.c, fu, Rd] at hl;obtain ⟨_, _, rfl, rfl, _, _, rfl, rfl, d, _, rfl, hl, rfl⟩ := hl;simp only [B_, go_sem, hl.aA];refine fq ⟨hg.1, hg.2 F _ l _ (b.up (eY.b1 _)) ok⟩ ?_;rintro _ _ ⟨rfl, rfl⟩;simp only [go_sem];repeat' (first
  | refine ph (λ_ => ?_) (λ_ => ?_)
  | refine DB (λ_ => ?_) (λ_ => ?_)
  | refine gx (λ_ => ?_) (λ_ => ?_)
  | simp only [go_sem, *])
 all_goals refine ⟨?_, eY.b1 _⟩
 all_goals simp_all [fE.aN]
theorem Dj {P:Program}{f:FuncId}(hf:Is P f Cc):mC P f:=by
 refine⟨hf.2,λF h x a hx hl=>fN hf ?_⟩;have lx:=hx.aB;simp only[Vo]at lx;have hl1:=hl.1;simp only[Cc,go_sem,lx];refine gJ (λm L h'=>∃(i:Nat)(o:AV),lk 6 L=a/\lk 7 L=.aA .i64 x.length/\lk 3 L=o/\lk 8 L=.aA .i64 i/\i<=x.length/\m=x.length-i /\
  e_ (f_ (x.take i)) (λm=>h.length<=m) h' o/\gq h' o/\eY fj h h') x.length ?_ ?_
 ·exact⟨0,_,by simp[fi],by simp[fi],by simp[fi],by simp[fi],by omega,by omega,e_.aC 3,Vp,eY.aC _ _⟩
 ·rintro m L h' ⟨i,o,h6,h7,h3,h8,hi,rfl,ho,hc,he⟩;simp only[Gq,go_sem,h7,h8];refine gx (λci=>?_) (λci=>?_)
  ·simp at ci;obtain⟨p,cs,hp,U,C⟩:=(hx.up he).aD .i64 (i:=i) (d:=x[i].c) (by omega) (by simp[ci]);simp only[gj.c,fu,Rd]at C;obtain⟨_,_,rfl,rfl,_,_,rfl,rfl,d,_,rfl,hd,rfl⟩:=C;have u:Rd F h' (fT x[i].aA) d:=hd;have e:IntKind.i64.wrap (↑i+1)=(i:Int)+1:=fQ (by omega);generalize hA:(some (.aA 3 [[.aA .i64 x[i].aB,.aA .i64 x[i].aC,d]] false):Option fh)=A;obtain⟨ys,I,M⟩:=(u.up (eY.b2 A (some (.aA 1 [] false)))).aK;obtain⟨r,h2,ha,hr,_,t⟩:=jr (lo:=h'.length+1) (sz:=1) (bytes:=1) (ds:=[]) (h0:=h'++[A]++[some (.aA 1 [] false)]) (h:=h'++[A]++[some (.aA 1 [] false)]) (av:=.aF (h'.length+1) 1 0 0 (some 0))
    (by simp only[e_];exact .inr (.inr ⟨h'.length+1,0,some 0,[],false,rfl,Vg _,iq _ _ _,by simp,(λc hc=>by cases hc;simp),by simp[fP]⟩))
    ⟨[],false,iq _ _ _,(λhc=>by cases hc),(λc hc=>by cases hc;simp)⟩ (eY.aC _ _) (Qw M) (by simp) (by have:=hl.2 x[i] (by simp);simp;omega)
   have a4:mF (h'++[A]++[some (.aA 1 [] false)]) 1 1 (.aF (h'.length+1) 1 0 0 (some 0)) d=some (r,h2):=by rw[ic I];exact ha
   have E:h2[h'.length]?=some A:=by rw[t.2 h'.length (by simp) (by simp)];exact iE _ _ _
   have l2:=(U_.1 E).1;subst hA;simp only[go_sem,h6,h3,h8,hp,hP U,u.aA,a4,E,hr.aA,gH hr.aA,l2];have eB:eY fj h' (h2.set h'.length (some (.aA 3 [[.aA .i64 x[i].aB,.aA .i64 x[i].aC,r]] false))):=
    ((eY.b2 _ _).aI t (λm hm a0=>by omega)).aD (Vg _) _
   have O:e_ (fT x[i].aA) (λm=>h'.length+1<=m) (h2.set h'.length (some (.aA 3 [[.aA .i64 x[i].aB,.aA .i64 x[i].aC,r]] false))) r:=
    e_.aB _ (λm hm=>hm) (λm hm y hy=>by rw[Vb (by omega)];exact hy) _ (by simpa [fT] using hr)
   generalize hB:h2.set h'.length (some (.aA 3 [[.aA .i64 x[i].aB,.aA .i64 x[i].aC,r]] false))=B at *;obtain⟨o',h3',a3,W,a2,a1⟩:=jr (bytes:=40) (es:=[x[i].c]) (h:=B++[some (.aA 3 [[.aA .i64 x[i].aB,.aA .i64 x[i].aC,r]] false)]) ho hc
    (eB.aN _) (ys:=[[.aA .i64 x[i].aB,.aA .i64 x[i].aC,r]])
    (by simp only[fP,fW,gj.c,e_];refine⟨_,_,rfl,⟨_,_,rfl,rfl,_,_,rfl,rfl,r,_,rfl,?_,rfl⟩,rfl⟩;exact e_.aB _ (λm hm=>by omega) (λm hm y hy=>(eY.b1 _).aA hy) _ O) he.1 (by simp;omega)
   have b:=ic (jn B 3 [[.aA .i64 x[i].aB,.aA .i64 x[i].aC,r]] false (some 1) (len:=1) rfl) 40 o;rw[a3]at b;simp only[go_sem,h6,h7,h3,h8,e,b];refine⟨_,?_,i+1,o',rfl,by simp,ci,rfl,?_,a2,?_⟩;·omega
   ·have:x.take (i+1)=x.take i++[x[i]]:=by simp[ci]
    rw[this,f_,VI];exact W
   ·exact (he.tr (eB.aN _)).aI a1 (λm hm a0=>by omega)
  ·simp at ci;simp only[go_sem,h3];obtain rfl:i=x.length:=by omega
   rw[VH]at ho;exact⟨ho,hc,he⟩
def fE.aE (l:fE)(from_ most:Int):List gj:=
 if from_<=l.aA\/l.aC<from_\/most<1 then [] else (l.es.drop (from_-l.aA-1).toNat).take most.toNat
def kS (P:Program)(f:FuncId):Prop:=
 fI P f=true/\∀(F:Nat->Prop)(h:eZ)(l:fE)(a:List AV)(i n:Int),fu F h l.c a->jl l->
  fy P f [.aE a,.aA .i64 i,.aA .i64 n] h λr h'=>e_ (f_ (l.aE i n)) (λm=>h.length<=m) h' r/\gq h' r/\eY fj h h'
theorem iK.aA {l l':List gj}(hl:iK l)(hn:l'.length<=l.length)(hs:∀e∈l',e∈l):iK l':=⟨Vr hn hl.1,λe he=>hl.2 e (hs e he)⟩
theorem Sm {P:Program}{f g k:FuncId}(hf:Is P f (Ca g k))(hg:kj P g)(hk:mC P k):kS P f:=by
 refine⟨hf.2,λF h l a i n hl ok=>fN hf ?_⟩;have I:=hl;simp only[fE.c,fu,Rd]at hl;obtain⟨_,_,rfl,rfl,_,_,rfl,rfl,d,_,rfl,hl,rfl⟩:=hl;have u:=ok;obtain⟨o1,o2,o3⟩:=ok;have o4:=o3.1;simp only[Ca,go_sem,hl.aA];refine fq ⟨hg.1,hg.2 F _ l _ (I.up (eY.b1 _)) u⟩ ?_;rintro _ _ ⟨rfl,rfl⟩;have hlast:l.aC=l.aA+l.es.length:=rfl;by_cases h1:i<=l.aA;·have c1:decide (i<=l.aA)=true:=Vc h1;simp only[go_sem,fE.aE,h1];exact⟨e_.aC 3,Vp,eY.b1 _⟩
 have c1:decide (i<=l.aA)=false:=Va h1;by_cases h2:l.aC<i;·have c2:decide (l.aC<i)=true:=Vc h2;simp only[go_sem,c1,fE.aE,h2];exact⟨e_.aC 3,Vp,eY.b1 _⟩
 have c2:decide (l.aC<i)=false:=Va h2;by_cases h3:n<1;·have c3:decide (n<1)=true:=Vc h3;simp only[go_sem,c1,c2,fE.aE,h3];exact⟨e_.aC 3,Vp,eY.b1 _⟩
 have c3:decide (n<1)=false:=Va h3;have e1:IntKind.i64.wrap (i-l.aA)=i-l.aA:=fQ (by omega);have e2:IntKind.i64.wrap (i-l.aA-1)=i-l.aA-1:=fQ (by omega);obtain⟨q,hq,t⟩:=hl.aI (lo:=some (i-l.aA-1)) (hi:=none) (mx:=none) (by simp;omega) (by simp;omega) (by simp) (by simp) (by simp) (by simp);simp only[VG,Wh,V6,VH]at t;have lq:=t.aB;simp only[VA,Vo]at lq;obtain⟨q2,E,b⟩:=t.aI (lo:=none) (hi:=some (min n (↑(l.es.length-(i-l.aA-1).toNat):Int))) (mx:=none) (by simp) (by simp;omega) (by simp;omega) (by simp) (by simp;omega) (by simp);simp only[VG,Wh,W_,Wf]at b;simp only[go_sem,c1,c2,c3,e1,e2,Ip,hq,lq,lZ,nw,E];have hs:l.aE i n=(l.es.drop (i-l.aA-1).toNat).take (min n ↑(l.es.length-(i-l.aA-1).toNat)).toNat:=by simp only[fE.aE];rw[Ve (by omega),List.take_eq_take_iff];simp only[VA];omega
 have C:Rd F h (f_ (l.aE i n)) q2:=by rw[hs,f_,WL,List.map_drop];exact b
 refine fq ⟨hk.1,hk.2 F _ (l.aE i n) q2 (C.up (eY.b1 _)) (o3.aA (by rw[hs];simp;omega) (λe he=>by rw[hs]at he;exact VM (V0 he)))⟩ ?_;rintro r h' ⟨hr,hc,he⟩;simp only[go_sem];exact⟨e_.aB _ (λm hm=>by simp at hm;omega) (λ_ _ _ x=>x) _ hr,hc,(eY.b1 _).tr he⟩
theorem Oi {P:Program}{f g k:FuncId}(hf:Is P f (Al g k))(hg:kj P g)(hk:mC P k):kS P f:=by
 refine⟨hf.2,λF h l a i n hl ok=>fN hf ?_⟩;have ab:=hl;simp only[fE.c,fu,Rd]at hl;obtain⟨_,_,rfl,rfl,_,_,rfl,rfl,d,_,rfl,hl,rfl⟩:=hl;have a5:=ok;obtain⟨o1,o2,o3⟩:=ok;have o4:=o3.1;have hlast:l.aC=l.aA+l.es.length:=rfl;have e1:IntKind.i64.wrap (l.aA+1)=l.aA+1:=fQ (by omega);simp only[Al,go_sem,hl.aA];refine fq ⟨hg.1,hg.2 F _ l _ (ab.up (eY.b1 _)) a5⟩ ?_;rintro _ _ ⟨rfl,rfl⟩;generalize hA:(some (.aA 3 [[.aA .i64 l.aA,.aA .i64 l.aB,d]] false):Option fh)=A;have a4:(h++[A])[h.length]?=some A:=wM _ _;have hd:Rd F (h++[A]) (f_ l.es) d:=hl.up (eY.b1 _);have af:=Rd.lt _ _ hd;generalize hH:h++[A]=H at *;have hHl:H.length=h.length+1:=by rw[<-hH];simp
 have hE:eY fj h H:=by rw[<-hH];exact eY.b1 _
 subst hA;simp only[go_sem,a4,e1,lZ,nu];refine gJ (λm L h'=>∃(j:Nat)(o:AV) (es:List (List AV)),lk 1 L=.aA .i64 i/\lk 2 L=.aA .i64 n/\lk 3 L=.aC h.length 3 0 0/\lk 7 L=.aA .i64 l.aC/\lk 9 L=o/\lk 10 L=.aA .i64 (max i (l.aA+1)+j) /\
  j<=(l.aE i n).length/\m=(l.aE i n).length-j/\iJ H.length h' 3 o es/\gC (λm=>F m/\m<H.length) h' (((l.aE i n).take j).map gj.c) es/\eY fj H h') (l.aE i n).length ?_ ?_
 ·exact⟨0,_,[],by simp[fi,ga],by simp[fi,ga],by simp[fi],by simp[fi],by simp[fi],by simp[fi],by omega,by omega,.inl ⟨rfl,rfl⟩,rfl,eY.aC _ _⟩
 ·rintro m L h' ⟨j,o,es,k1,k2,k3,k7,k9,U,hj,rfl,ho,u,he⟩;have O:=he.aA a4;have ac:es.length=j:=by rw[nO u];simp;omega
  have W:=ho.aB.aA;simp only[FU,go_sem,k7,U];have a1:∀hc:l.aA<i/\i<=l.aC/\1<=n,(l.aE i n).length=min n.toNat (l.aC-i+1).toNat:=by intro hc;simp only[fE.aE];rw[Ve (by omega)];simp only[Vw,VA];omega
  have E:¬(l.aA<i/\i<=l.aC/\1<=n)->(l.aE i n).length=0:=by intro hc;simp only[fE.aE];rw[Vf (by omega)];rfl
  have fin:j=(l.aE i n).length->nI P k [o] h' (qP P (.aA 51) [⟨.aB 6,.r (.aA (.aA 51)),none⟩] ⟨lG 35 (.aD false) L,[(50,o)],h'⟩
    (uD (qQ P .aI (ia [.aA (.aB 6)] λr h'=>e_ (f_ (l.aE i n)) (λm=>h.length<=m) h' r/\gq h' r/\eY fj h h')))):=by
   intro b;rw[b,VH]at u;have a7:Rd (λm=>H.length<=m\/(F m/\m<H.length)) h' (f_ (l.aE i n)) o:=by simp only[f_,Rd];exact⟨es,ho.aB.aB (λm hm=>.inl hm) (λ_ _ _ x=>x),gC.aA (λm hm=>.inr hm) (λ_ _ _ x=>x) _ _ u⟩
   refine fq ⟨hk.1,hk.2 _ _ (l.aE i n) o a7 (o3.aA ?_ ?_)⟩ ?_
   ·simp only[fE.aE];split;·simp
    ·simp;omega
   ·intro e he;simp only[fE.aE]at he;split at he;·simp at he
    ·exact VM (V0 he)
   ·rintro r h2 ⟨hr,hc,ad⟩;simp only[go_sem];exact⟨e_.aB _ (λm hm=>by have:=he.1;omega) (λ_ _ _ x=>x) _ hr,hc,(hE.tr he).tr ad⟩
  by_cases hc:j<(l.aE i n).length
  ·have a3:l.aA<i/\i<=l.aC/\1<=n:=by refine Vm λhn=>?_;have:=E hn;omega
   have hc2:=a1 a3;have g1:decide (max i (l.aA+1)+↑j<=l.aC)=true:=Vc (by omega);have g2:decide (l.aA<i)=true:=Vc a3.1;have g3:decide ((es.length:Int)<n)=true:=Vc (by omega);have e2:IntKind.i64.wrap (max i (l.aA+1)+↑j-l.aA)=max i (l.aA+1)+↑j-l.aA:=fQ (by omega);have e3:IntKind.i64.wrap (max i (l.aA+1)+↑j-l.aA-1)=max i (l.aA+1)+↑j-l.aA-1:=fQ (by omega);have e4:IntKind.i64.wrap (max i (l.aA+1)+↑j+1)=max i (l.aA+1)+↑j+1:=fQ (by omega);have hlt:(max i (l.aA+1)+↑j-l.aA-1).toNat<l.es.length:=by omega
   have a6:(l.aE i n)[j]=l.es[(max i (l.aA+1)+↑j-l.aA-1).toNat]:=by
    have:(l.aE i n)[j]?=l.es[(max i (l.aA+1)+↑j-l.aA-1).toNat]?:=by simp only[fE.aE];rw[Ve (by omega),VV (by omega),Vz];congr 1;omega
    rw[Vi hc,Vi hlt]at this;simpa using this
   obtain⟨p,cs,hp,a8,C⟩:=(af.up he).aD .i64 (i:=max i (l.aA+1)+↑j-l.aA-1) (d:=((l.aE i n)[j]).c) (by omega) (by rw[VE,Vi hlt,a6];rfl);have hcl:=qp C;have M:=C;simp only[gj.c,fu,Rd]at C;obtain⟨_,_,rfl,rfl,_,_,rfl,rfl,d',_,rfl,ae,rfl⟩:=C;have I:Rd (λm=>F m/\m<H.length) h' (fT (l.aE i n)[j].aA) d':=ae;generalize hcell:[AV.aA .i64 (l.aE i n)[j].aB,AV.aA .i64 (l.aE i n)[j].aC,d']=cell at *;obtain⟨o',ah,ag,a9,a2⟩:=wD (bytes:=40) (h:=h'++[some (.aA 3 [cell] false)]) (ys:=[cell]) ho (eY.b1 _) he.1 (by rw[ac];simp;omega);have t:=ic (jn h' 3 [cell] false (some 1) (len:=1) rfl) 40 o;rw[ag]at t;subst hcell;simp only[go_sem,k1,k2,k3,k7,k9,U,O,W,g1,g2,g3,e2,e3,e4,hp,hP a8,I.aA,t];have a0:gz (λm=>F m/\m<H.length) h' ah:=λm hm x hx=>a2.aM (F':=λm=>F m/\m<H.length) (λm _ hm hle=>by omega) m hm x ((eY.b1 _).aA hx);refine⟨_,?_,j+1,o',_,rfl,Xq (AV.aA .i64) (by omega),hc,rfl,a9,?_,(he.tr (eY.b1 _)).aI a2 (λm hm hm'=>by omega)⟩;·omega
   ·have:(l.aE i n).take (j+1)=(l.aE i n).take j++[(l.aE i n)[j]]:=by simp[hc]
    rw[this,VI];exact Ek (gC.aA (λ_ x=>x) a0 _ _ u) ⟨_,_,rfl,fu.aA (λ_ x=>x) a0 _ _ M,rfl⟩
  ·have b:j=(l.aE i n).length:=by omega
   by_cases g1:max i (l.aA+1)+↑j<=l.aC
   ·by_cases g2:l.aA<i
    ·by_cases g3:(es.length:Int)<n
     ·have:=a1 ⟨g2,by omega,by omega⟩;omega
     ·simp only[go_sem,k1,k2,k3,k9,O,W,Vc g1,Vc g2,Va g3];exact fin b
    ·simp only[go_sem,k1,k3,k9,O,Vc g1,Va g2];exact fin b
   ·simp only[go_sem,k9,Va g1];exact fin b
def fE.aJ (l:fE):Int->List gj->Nat
 | _,[]=>0
 | at_,e :: r=>if (l.aD at_ && decide (l.aG at_=e.aB))=true then l.aJ (at_+1) r+1 else 0
theorem EM (l : fE) : ∀ (e : List gj) (i : Int), l.aJ i e <= e.length := by
  intro e;induction e with
  | nil => intro i; simp [fE.aJ]
  | cons x r ih => intro i; simp only [fE.aJ]; split
                   · have := ih (i + 1); simp; omega
                   · simp
theorem wG (l:fE):∀(e:List gj)(i:Int)(k:Nat),k<=e.length->(∀(j:Nat)(hj:j<e.length),j<k->(l.aD (i+j) && decide (l.aG (i+j)=e[j].aB))=true)->
  (∀hk:k<e.length,(l.aD (i+k) && decide (l.aG (i+k)=e[k].aB))=false)->l.aJ i e=k:=by
 intro e;induction e with
 | nil=>intro i k hk _ _;simp at hk;subst hk;rfl
 | cons x r ih=>
  intro i k hk h1 h2;cases k with
  | zero=>have:=h2 (by simp);simp only[fE.aJ];simp at this ⊢;exact this
  | succ k=>
   have h0:=h1 0 (by simp) (by omega);simp only[fE.aJ];simp only[Xj,Int.add_zero,List.getElem_cons_zero]at h0;rw[Vf h0,ih (i+1) k (by simpa using hk)];·intro j hj hj';have:=h1 (j+1) (by simpa using hj) (by omega);simp only[List.getElem_cons_succ]at this;rw[show i+1+(j:Int)=i+((j+1:Nat):Int) by omega];exact this
   ·intro b;have:=h2 (by simpa using b);simp only[List.getElem_cons_succ]at this;rw[show i+1+(k:Int)=i+((k+1:Nat):Int) by omega];exact this
def fE.aF (l:fE)(prev:Int)(e:List gj):fE:=
 if l.aD prev=true/\l.aJ (prev+1) e<e.length then ⟨l.aA,l.aB,l.es.take (prev+l.aJ (prev+1) e-l.aA).toNat++e.drop (l.aJ (prev+1) e)⟩ else l
def fE.aI (l:fE)(prev:Int)(e:List gj):Int:=
 if l.aD prev=true/\l.aJ (prev+1) e<e.length then prev+1+l.aJ (prev+1) e else 0
def ve (P:Program)(f:FuncId):Prop:=
 fI P f=true/\∀(F:Nat->Prop)(h:eZ)(l:fE)(a:List AV)(prev:Int)(e:List gj)(b:AV),fu F h l.c a->Rd F h (f_ e) b->jl l->iK e->
  fy P f [.aE a,.aA .i64 prev,b] h λr h'=>∃cs,r=.aI [.aE cs,.aA .i64 (l.aI prev e)]/\fW (l.aF prev e).c (λm=>h.length<=m) h' cs/\eY fj h h'
theorem Si {P:Program}{f g k t:FuncId}(hf:Is P f (BY g k t))(hg:kj P g)(hk:mC P k)(ht:jP P t):ve P f:=by
 refine⟨hf.2,λF h l a prev e b hl hb ok a7=>fN hf ?_⟩;have au:=hl;simp only[fE.c,fu,Rd]at hl;obtain⟨_,_,rfl,rfl,_,_,rfl,rfl,d,_,rfl,hl,rfl⟩:=hl;have a8:=ok;obtain⟨o1,o2,o3⟩:=ok;have o4:=o3.1;have lb:=hb.aB;simp only[Vo]at lb;have hlast:l.aC=l.aA+l.es.length:=rfl;simp only[BY,go_sem,hl.aA];refine fq ⟨hg.1,hg.2 F _ l _ (au.up (eY.b2 _ _)) a8⟩ ?_;rintro _ _ ⟨rfl,rfl⟩;simp only[go_sem];refine fq ⟨hk.1,hk.2 F _ l.es d (hl.up (eY.b2 _ _)) o3⟩ ?_;rintro r h2 ⟨hr,am,he⟩;have hA:=he.aA (iE _ _ _);have hB:=he.aA (iq _ _ _);have l1:=(U_.1 hA).1;have l2:=(U_.1 hB).1;simp only[go_sem,hA,hr.aA,gH hr.aA,l1];have I:eY fj h (h2.set h.length (some (.aA 3 [[.aA .i64 l.aA,.aA .i64 l.aB,r]] false))):=((eY.b2 _ _).tr he).aD (Vg _) _;have u:e_ (f_ l.es) (λm=>h.length+2<=m) (h2.set h.length (some (.aA 3 [[.aA .i64 l.aA,.aA .i64 l.aB,r]] false))) r:=
  e_.aB _ (λm hm=>by simp at hm;omega) (λm hm y hy=>by simp at hm;rw[Vb (by omega)];exact hy) _ hr
 have hc3:gq (h2.set h.length (some (.aA 3 [[.aA .i64 l.aA,.aA .i64 l.aB,r]] false))) r:=
  am.aA hr (λm hm y hy=>by simp at hm;rw[Vb (by omega)];exact hy)
 have E:(h2.set h.length (some (.aA 3 [[.aA .i64 l.aA,.aA .i64 l.aB,r]] false)))[h.length]?=some (some (.aA 3 [[.aA .i64 l.aA,.aA .i64 l.aB,r]] false)):=Vd l1;have O:(h2.set h.length (some (.aA 3 [[.aA .i64 l.aA,.aA .i64 l.aB,r]] false)))[h.length+1]?=some (some (.aA 3 [[.aA .i64 0,.aA .i64 0,.aB]] false)):=by rw[Vb (by omega)];exact hB
 generalize h2.set h.length (some (.aA 3 [[.aA .i64 l.aA,.aA .i64 l.aB,r]] false))=h3 at *;have l13:=(U_.1 E).1;have a1:=(U_.1 O).1;have ak:fu (λm=>h.length+2<=m) h3 l.c [.aA .i64 l.aA,.aA .i64 l.aB,r]:=by simp only[fE.c,fu,Rd];exact⟨_,_,rfl,rfl,_,_,rfl,rfl,_,_,rfl,e_.rd _ (λ_ x=>x) _ u,rfl⟩
 have stay:l.aF prev e=l->e_ (f_ l.es) (λm=>h.length+2<=m) h3 r->fW (l.aF prev e).c (λm=>h.length<=m) (h3.set (h.length+1) (some (.aA 3 [[.aA .i64 l.aA,.aA .i64 l.aB,r]] false))) [.aA .i64 l.aA,.aA .i64 l.aB,r]:=by intro e1 e2;rw[e1];simp only[fE.c,fW,e_];exact⟨_,_,rfl,rfl,_,_,rfl,rfl,_,_,rfl,e_.aB _ (λm hm=>by omega) (λm hm y hy=>by rw[Vb (by omega)];exact hy) _ e2,rfl⟩
 by_cases h1:prev<l.aA
 ·have hh:l.aD prev=false:=by simp[fE.aD];omega
  simp only[go_sem,Vc h1,E,O,u.aA,a1];have e1:l.aF prev e=l:=by simp[fE.aF,hh]
  have e2:l.aI prev e=0:=by simp[fE.aI,hh]
  rw[e2];exact⟨_,rfl,stay e1 u,I.aD (by omega) _⟩
 by_cases h2:l.aC<prev
 ·have hh:l.aD prev=false:=by simp[fE.aD];omega
  simp only[go_sem,Va h1,Vc h2,E,O,u.aA,a1];have e1:l.aF prev e=l:=by simp[fE.aF,hh]
  have e2:l.aI prev e=0:=by simp[fE.aI,hh]
  rw[e2];exact⟨_,rfl,stay e1 u,I.aD (by omega) _⟩
 have hh:l.aD prev=true:=by simp[fE.aD];omega
 have oe:=a7.1;simp only[go_sem,Va h1,Va h2,lb];refine gJ (λm L h'=>∃i:Nat,lk 1 L=.aA .i64 prev/\lk 2 L=b/\lk 3 L=.aC h.length 3 0 0/\lk 6 L=.aC (h.length+1) 3 0 0/\lk 35 L=.aA .i64 e.length/\lk 36 L=.aA .i64 i/\h'=h3/\i<=e.length/\m=e.length-i /\
  ∀(j:Nat)(hj:j<e.length),j<i->(l.aD (prev+1+j) && decide (l.aG (prev+1+j)=e[j].aB))=true) e.length ?_ ?_
 ·exact⟨0,by simp[fi,ga],by simp[fi,ga],by simp[fi],by simp[fi],by simp[fi],by simp[fi],rfl,by omega,by omega,by omega⟩
 ·rintro m L h' ⟨i,k1,k2,k3,k6,a9,a2,rfl,hi,rfl,hj⟩;have ac:Rd F h' (f_ e) b:=hb.up I;simp only[Gp,go_sem,a9,a2];by_cases hc:i<e.length
  ·have c1:decide ((i:Int)<e.length)=true:=Vc (by omega);have e1:IntKind.i64.wrap (prev+1)=prev+1:=fQ (by omega);have e2:IntKind.i64.wrap (prev+1+↑i)=prev+1+↑i:=fQ (by omega);have e3:IntKind.i64.wrap (↑i+1)=(i:Int)+1:=fQ (by omega);simp only[go_sem,k1,k3,a2,c1,e1,e2,E];refine fq ⟨ht.1,ht.2 _ _ l _ (prev+1+↑i) ak a8⟩ ?_;rintro _ _ ⟨rfl,rfl⟩;obtain⟨p,cs,hp,U,ab⟩:=ac.aD .i64 (i:=(i:Int)) (d:=(e[i]).c) (by omega) (by rw[V6,VE,Vi hc];rfl);simp only[gj.c,fu,Rd]at ab;obtain⟨_,_,rfl,rfl,_,_,rfl,rfl,d',_,rfl,_,rfl⟩:=ab;by_cases hm:(l.aD (prev+1+i) && decide (l.aG (prev+1+i)=e[i].aB))=true
   ·have W:=hm;rw[VF]at W;simp only[go_sem,k1,k2,k3,k6,a9,a2,W.1,W.2,hp,ko U,jJ U,e3];refine⟨_,?_,i+1,by simp,hc,rfl,λj aw hj2=>?_⟩;·omega
    ·rcases Wc j i with hlt | hge;·exact hj j aw hlt
     ·obtain rfl:j=i:=by omega
      exact hm
   ·have a5:l.aJ (prev+1) e=i:=wG l e (prev+1) i hi hj (λ_=>by simpa using hm);have hpi:prev+i<=l.aC:=by
     rcases Nat.eq_zero_or_pos i with h0 | h0;·omega
     ·have:=hj (i-1) (by omega) (by omega);simp only[fE.aD,VF,V4]at this;omega
    have e4:IntKind.i64.wrap (prev+1+↑i-l.aA)=prev+1+↑i-l.aA:=fQ (by omega);have e5:IntKind.i64.wrap (prev+1+↑i-l.aA-1)=prev+1+↑i-l.aA-1:=fQ (by omega);obtain⟨q,hq,ao,ap⟩:=HJ u (k:=prev+1+↑i-l.aA-1) (by omega) (by simp;omega);obtain⟨q2,aq,C⟩:=ac.aI (lo:=some (i:Int)) (hi:=none) (mx:=none) (by simp) (by simp;omega) (by simp) (by simp) (by simp) (by simp);simp only[VG,Wh,V6,VH]at C;rw[<-List.map_drop]at C;have hx:l.aD (prev+1+↑i)=false\/(l.aD (prev+1+↑i)=true/\decide (l.aG (prev+1+↑i)=e[i].aB)=false):=by
     cases ax:l.aD (prev+1+↑i);·exact .inl rfl
     ·rw[ax,Xf]at hm;exact .inr ⟨rfl,by simpa using hm⟩
    rcases hx with hx | hx;all_goals
     simp only[go_sem,k2,k3,hx,hp,ko U,jJ U,E,e4,e5,hq,aq];refine fq ⟨hk.1,hk.2 F _ (e.drop i) q2 C (a7.aA (by simp) (λx hx=>VM hx))⟩ ?_;rintro r2 h4 ⟨an,_,a0⟩;obtain⟨ys,ai,aj⟩:=an.aD;obtain⟨r5,h5,ay,a3,_,a4⟩:=jr (bytes:=40) ao ap a0 aj (by omega) (by simp;omega);have M:=ic ai 40 q;rw[ay]at M;have a6:=a0.aA E;have af:h5[h.length]?=some (some (.aA 3 [[.aA .i64 l.aA,.aA .i64 l.aB,r]] false)):=by rw[a4.2 _ (U_.1 a6).1 (by omega)];exact a6
     have ae:=a0.aA O;have ad:h5[h.length+1]?=some (some (.aA 3 [[.aA .i64 0,.aA .i64 0,.aB]] false)):=by rw[a4.2 _ (U_.1 ae).1 (by omega)];exact ae
     have ah:=(U_.1 af).1;have ag:=(U_.1 ad).1;simp only[go_sem,k3,k6,a6,M,af,ad,a3.aA,gH a3.aA,ah,ag,Vh];have el:l.aF prev e=⟨l.aA,l.aB,l.es.take (prev+1+↑i-l.aA-1).toNat++e.drop i⟩:=by simp only[fE.aF,a5];rw[Vf ⟨hh,hc⟩];congr 3;omega
     have b0:l.aI prev e=prev+1+↑i:=by simp only[fE.aI,a5];rw[Vf ⟨hh,hc⟩]
     rw[b0,el];refine⟨_,rfl,?_,?_⟩;·simp only[fE.c,fW,e_];refine⟨_,_,rfl,rfl,_,_,rfl,rfl,r5,_,rfl,?_,rfl⟩;rw[f_,VI,WL];exact e_.aB _ (λm hm=>by omega) (λm hm y hy=>by rw[Vb (by omega),Vb (by omega)];exact hy) _ a3
     ·exact (((I.tr a0).aI a4 (λm hm W=>by omega)).aD (by omega) _).aD (by omega) _
  ·have c1:decide ((i:Int)<e.length)=false:=Va (by omega);simp only[go_sem,k3,k6,c1,E,O,u.aA,a1];have a5:l.aJ (prev+1) e=i:=wG l e (prev+1) i hi hj (λhk=>absurd hk hc);have e1:l.aF prev e=l:=by simp only[fE.aF];rw[Ve (by omega)]
   have e2:l.aI prev e=0:=by simp only[fE.aI];rw[Ve (by omega)]
   rw[e2];exact⟨_,rfl,stay e1 u,I.aD (by omega) _⟩
def fE.aK (l:fE)(b:Int):fE:=if l.aD b then ⟨b,l.aG b,l.es.drop (b-l.aA).toNat⟩ else ⟨0,0,[]⟩
def vp (P:Program)(f:FuncId):Prop:=
 fI P f=true/\∀(F:Nat->Prop)(h:eZ)(l:fE)(a:List AV)(i:Int),fu F h l.c a->jl l->
  fy P f [.aE a,.aA .i64 i] h λr h'=>∃cs,r=.aI [.aE cs,.aA .i64 (if l.aD i then 0 else 3)]/\fW (l.aK i).c (λm=>h.length<=m) h' cs/\eY fj h h'
theorem Sj {P:Program}{f t k:FuncId}(hf:Is P f (BZ t k))(ht:jP P t)(hk:mC P k):vp P f:=by
 refine⟨hf.2,λF h l a i hl ok=>fN hf ?_⟩;have C:=hl;simp only[fE.c,fu,Rd]at hl;obtain⟨_,_,rfl,rfl,_,_,rfl,rfl,d,_,rfl,hl,rfl⟩:=hl;have u:=ok;obtain⟨o1,o2,o3⟩:=ok;have o4:=o3.1;have hlast:l.aC=l.aA+l.es.length:=rfl;simp only[BZ,go_sem,hl.aA];refine fq ⟨ht.1,ht.2 F _ l _ i (C.up (eY.b2 _ _)) u⟩ ?_;rintro _ _ ⟨rfl,rfl⟩;cases hh:l.aD i;·simp only[go_sem];refine⟨_,rfl,?_,eY.b2 _ _⟩;simp only[fE.aK,hh,fE.c,fW,e_];exact⟨_,_,rfl,rfl,_,_,rfl,rfl,_,_,rfl,e_.aC 3,rfl⟩
 ·have hi:l.aA<=i/\i<=l.aC:=by simpa [fE.aD] using hh
  have e1:IntKind.i64.wrap (i-l.aA)=i-l.aA:=fQ (by omega);obtain⟨q,hq,b⟩:=hl.aI (lo:=some (i-l.aA)) (hi:=none) (mx:=none) (by simp;omega) (by simp;omega) (by simp) (by simp) (by simp) (by simp);simp only[VG,Wh,V6,VH]at b;rw[<-List.map_drop]at b;simp only[go_sem,e1,hq];refine fq ⟨hk.1,hk.2 F _ (l.es.drop (i-l.aA).toNat) q (Rd.up b (eY.b2 _ _)) (o3.aA (by simp) (λx hx=>VM hx))⟩ ?_;rintro r h2 ⟨hr,_,he⟩;have hB:=he.aA (iq _ _ _);have l2:=(U_.1 hB).1;simp only[go_sem,hB,hr.aA,gH hr.aA,l2];refine⟨_,rfl,?_,((eY.b2 _ _).tr he).aD (by omega) _⟩;simp only[fE.aK,hh,fE.c,fW,e_];refine⟨_,_,rfl,rfl,_,_,rfl,rfl,r,_,rfl,?_,rfl⟩;exact e_.aB _ (λm hm=>by simp at hm;omega) (λm hm y hy=>by simp at hm;rw[Vb (by omega)];exact hy) _ hr
end Glb
