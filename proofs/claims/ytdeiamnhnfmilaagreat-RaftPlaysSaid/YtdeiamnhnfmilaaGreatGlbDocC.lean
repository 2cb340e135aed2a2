/-
  A library of its own.
-/
import Derived.Test.YtdeiamnhnfmilaaGreatGlbDocB
set_option linter.unusedSimpArgs false
set_option linter.unusedVariables false
set_option maxRecDepth 10000
set_option maxHeartbeats 8000000
namespace Glb
open Go
def vd (P:Program)(f:FuncId):Prop:=
 fI P f=true/\∀(F:Nat->Prop)(h:eZ)(l:fE)(a:List AV)(prev:Int)(e:List gj)(b:AV),fu F h l.c a->Rd F h (f_ e) b->jl l->iK e->
  fy P f [.aE a,.aA .i64 prev,b] h λr h'=>∃e',r=.aI [.aE [.aA .i64 (l.aF prev e).aA,.aA .i64 (l.aF prev e).aB,e'],.aA .i64 (l.aI prev e)]/\e_ (f_ (l.aF prev e).es) (λm=>h.length<=m) h' e'/\(0<l.aI prev e->gq h' e')/\eY fj h h'
theorem Og {P:Program}{f g cl t ce cb:FuncId}(hf:Is P f (Ai g cl t ce cb))(hg:kj P g)(hcl:qb P cl)(ht:jP P t)(hce:mC P ce)(hcb:lj P cb .u8):vd P f:=by
 refine⟨hf.2,λF h l a prev e b hl hb ok oke=>fN hf ?_⟩;have hl0:=hl;simp only[fE.c,fu,Rd]at hl;obtain⟨_,_,rfl,rfl,_,_,rfl,rfl,d,_,rfl,hl,rfl⟩:=hl;have ok':=ok;obtain⟨o1,o2,o3⟩:=ok;have o4:=o3.1;have oe:=oke.1;have lb:=hb.aB;simp only[Vo]at lb;have hlast:l.aC=l.aA+l.es.length:=rfl;simp only[Ai,go_sem,hl.aA];refine fq ⟨hg.1,hg.2 F _ l _ (hl0.up (eY.b2 _ _)) ok'⟩ ?_;rintro _ _ ⟨rfl,rfl⟩;simp only[go_sem];refine fq ⟨hcl.1,hcl.2 F _ l _ (hl0.up (eY.b2 _ _)) o3⟩ ?_;rintro _ h2 ⟨_,rfl,hr,he⟩;simp only[fE.c,fW,e_]at hr;obtain⟨_,_,rfl,rfl,_,_,rfl,rfl,r,_,rfl,hr,rfl⟩:=hr;have hr':e_ (f_ l.es) (λm=>h.length+2<=m) h2 r:=e_.aB _ (λm hm=>by simp at hm;omega) (λ_ _ _ x=>x) _ hr;have hA2:=he.aA (iE _ _ _);have hB2:=he.aA (iq _ _ _);have l1:=(U_.1 hA2).1;have l2:=(U_.1 hB2).1;simp only[go_sem,hr'.aA];generalize hX:(some (.aA 3 [[.aA .i64 l.aA,.aA .i64 l.aB,r]] false):Option fh)=X;have he3:eY fj h (h2++[X]):=((eY.b2 _ _).tr he).tr (eY.b1 _);have hA3:=(eY.b1 X).aA hA2;have hB3:=(eY.b1 X).aA hB2;have hX3:(h2++[X])[h2.length]?=some X:=wM _ _;have hr3:e_ (f_ l.es) (λm=>h.length+2<=m) (h2++[X]) r:=hr'.up (eY.b1 _);have hH:(h2++[X]).length=h2.length+1:=by simp
 generalize h2++[X]=H at *;subst hX;have stay:l.aF prev e=l->l.aI prev e=0->∃e',AV.aI [.aE [.aA .i64 l.aA,.aA .i64 l.aB,r],.aA .i64 0]=.aI [.aE [.aA .i64 (l.aF prev e).aA,.aA .i64 (l.aF prev e).aB,e'],.aA .i64 (l.aI prev e)] /\
   e_ (f_ (l.aF prev e).es) (λm=>h.length<=m) (H.set (h.length+1) (some (.aA 3 [[.aA .i64 l.aA,.aA .i64 l.aB,r]] false))) e'/\(0<l.aI prev e->gq (H.set (h.length+1) (some (.aA 3 [[.aA .i64 l.aA,.aA .i64 l.aB,r]] false))) e')/\eY fj h (H.set (h.length+1) (some (.aA 3 [[.aA .i64 l.aA,.aA .i64 l.aB,r]] false))):=by
  intro e1 e2;rw[e1,e2];exact⟨_,rfl,e_.aB _ (λm hm=>by omega) (λm hm y hy=>by rw[Vb (by omega)];exact hy) _ hr3,λz=>absurd z (by omega),he3.aD (by omega) _⟩
 have l3:h.length+1<H.length:=by omega
 by_cases h1:prev<l.aA
 ·have hh:l.aD prev=false:=by simp[fE.aD];omega
  simp only[go_sem,Vc h1,hA3,hB3,hX3,hr3.aA,l3];have e1:l.aF prev e=l:=by simp[fE.aF,hh]
  have e2:l.aI prev e=0:=by simp[fE.aI,hh]
  exact stay e1 e2
 by_cases h2':l.aC<prev
 ·have hh:l.aD prev=false:=by simp[fE.aD];omega
  simp only[go_sem,Va h1,Vc h2',hA3,hB3,hX3,hr3.aA,l3];have e1:l.aF prev e=l:=by simp[fE.aF,hh]
  have e2:l.aI prev e=0:=by simp[fE.aI,hh]
  exact stay e1 e2
 have hh:l.aD prev=true:=by simp[fE.aD];omega
 simp only[go_sem,Va h1,Va h2',hA3];refine gJ (λm L h'=>∃i:Nat,lk 1 L=.aA .i64 prev/\lk 2 L=b/\lk 3 L=.aC h.length 3 0 0/\lk 6 L=.aC (h.length+1) 3 0 0/\lk 10 L=.aC h2.length 3 0 0/\lk 11 L=.aA .i64 i/\h'=H/\i<=e.length/\m=e.length-i /\
  ∀(j:Nat)(hj:j<e.length),j<i->(l.aD (prev+1+j) && decide (l.aG (prev+1+j)=e[j].aB))=true) e.length ?_ ?_
 ·exact⟨0,by simp[fi,ga],by simp[fi,ga],by simp[fi],by simp[fi],by simp[fi],by simp[fi],rfl,by omega,by omega,by omega⟩
 ·rintro m L h' ⟨i,k1,k2,k3,k6,k10,k11,rfl,hi,rfl,hj⟩;have hb3:Rd F h' (f_ e) b:=hb.up he3;simp only[FT,go_sem,k2,k11,lb];by_cases hc:i<e.length
  ·have c1:decide ((i:Int)<e.length)=true:=Vc (by omega);have e1:IntKind.i64.wrap (prev+1)=prev+1:=fQ (by omega);have e2:IntKind.i64.wrap (prev+1+↑i)=prev+1+↑i:=fQ (by omega);have e3:IntKind.i64.wrap (↑i+1)=(i:Int)+1:=fQ (by omega);have hlH:fu F h' l.c [.aA .i64 l.aA,.aA .i64 l.aB,d]:=hl0.up he3;simp only[go_sem,k1,k3,k11,c1,e1,e2,hA3];refine fq ⟨ht.1,ht.2 _ _ l _ (prev+1+↑i) hlH ok'⟩ ?_;rintro _ _ ⟨rfl,rfl⟩;obtain⟨p,cs,hp,hpc,hcs⟩:=hb3.aD .i64 (i:=(i:Int)) (d:=(e[i]).c) (by omega) (by rw[V6,VE,Vi hc];rfl);simp only[gj.c,fu,Rd]at hcs;obtain⟨_,_,rfl,rfl,_,_,rfl,rfl,d',_,rfl,_,rfl⟩:=hcs;by_cases hm:(l.aD (prev+1+i) && decide (l.aG (prev+1+i)=e[i].aB))=true
   ·have hm':=hm;rw[VF]at hm';simp only[go_sem,k1,k2,k3,k6,k10,k11,hm'.1,hm'.2,hp,ko hpc,jJ hpc,e3];refine⟨_,?_,i+1,by simp,hc,rfl,λj hj1 hj2=>?_⟩;·omega
    ·rcases Wc j i with hlt | hge;·exact hj j hj1 hlt
     ·obtain rfl:j=i:=by omega
      exact hm
   ·have hag:l.aJ (prev+1) e=i:=wG l e (prev+1) i hi hj (λ_=>by simpa using hm);have hpi:prev+i<=l.aC:=by
     rcases Nat.eq_zero_or_pos i with h0 | h0;·omega
     ·have:=hj (i-1) (by omega) (by omega);simp only[fE.aD,VF,V4]at this;omega
    have e4:IntKind.i64.wrap (prev+↑i)=prev+↑i:=fQ (by omega);have e5:IntKind.i64.wrap (prev+↑i-l.aA)=prev+↑i-l.aA:=fQ (by omega);obtain⟨q,hq,hqr⟩:=(hl.up he3).aI (lo:=none) (hi:=some (prev+↑i-l.aA)) (mx:=none) (by simp) (by simp;omega) (by simp;omega) (by simp) (by simp;omega) (by simp);simp only[VG,Wh,W_,Wf]at hqr;rw[<-WL]at hqr;have hx:l.aD (prev+1+↑i)=false\/(l.aD (prev+1+↑i)=true/\decide (l.aG (prev+1+↑i)=e[i].aB)=false):=by
     cases hh1:l.aD (prev+1+↑i);·exact .inl rfl
     ·rw[hh1,Xf]at hm;exact .inr ⟨rfl,by simpa using hm⟩
    have el:l.aF prev e=⟨l.aA,l.aB,l.es.take (prev+↑i-l.aA).toNat++e.drop i⟩:=by simp only[fE.aF,hag];rw[Vf ⟨hh,hc⟩]
    have el2:l.aI prev e=prev+1+↑i:=by simp only[fE.aI,hag];rw[Vf ⟨hh,hc⟩]
    rw[el2,el];rcases hx with hx | hx;all_goals
     simp only[go_sem,k1,k2,k3,k11,hx,hp,ko hpc,jJ hpc,hA3,e4,e5,hq];refine fq ⟨hce.1,hce.2 F _ (l.es.take (prev+(i:Int)-l.aA).toNat) q hqr (o3.aA (by simp;omega) (λx hx=>V0 hx))⟩ ?_;rintro r4 h4 ⟨hr4,hc4,he4⟩;have hA4:=he4.aA hA3;have hB4:=he4.aA hB3;have hX4:=he4.aA hX3;have lX:=(U_.1 hX4).1;simp only[go_sem,hX4,hr4.aA,gH hr4.aA,k10,k11];refine gJ (λm L h'=>∃(j:Nat)(o:AV),lk 1 L=.aA .i64 prev/\lk 2 L=b/\lk 6 L=.aC (h.length+1) 3 0 0/\lk 10 L=.aC h2.length 3 0 0/\lk 11 L=.aA .i64 i/\lk 14 L=.aA .i64 j/\i<=j/\j<=e.length/\m=e.length-j /\
      h'[h.length+1]?=some (some (.aA 3 [[.aA .i64 0,.aA .i64 0,.aB]] false))/\h'[h2.length]?=some (some (.aA 3 [[.aA .i64 l.aA,.aA .i64 l.aB,o]] false)) /\
      e_ (f_ (l.es.take (prev+(i:Int)-l.aA).toNat++(e.drop i).take (j-i))) (λm=>h2.length+1<=m) h' o/\gq h' o/\eY fj h h') (e.length-i) ?_ ?_
     ·refine⟨i,r4,by simp[fi,k1],by simp[fi,k2],by simp[fi,k6],by simp[fi,k10],by simp[fi,k11],by simp[fi],Vg _,hi,rfl,?_,by rw[Vd lX],?_,?_,(he3.tr he4).aD (by omega) _⟩;·rw[Vb (by omega)];exact hB4
      ·rw[Nat.sub_self,List.take_zero,Wo];exact e_.aB _ (λm hm=>by omega) (λm hm y hy=>by rw[Vb (by omega)];exact hy) _ hr4
      ·exact hc4.aA hr4 (λm hm y hy=>by rw[Vb (by omega)];exact hy)
     ·rintro m L h' ⟨j,o,k1,k2,k6,k10,k11,k14,hij,hje,rfl,hB,hXo,ho,hco,hE⟩;have hbj:Rd F h' (f_ e) b:=hb.up hE;have lbX:=(U_.1 hXo).1;have lbB:=(U_.1 hB).1;simp only[FR,go_sem,k2,k14,lb];by_cases hcj:j<e.length
      ·have cj:decide ((j:Int)<e.length)=true:=Vc (by omega);have ej:IntKind.i64.wrap (↑j+1)=(j:Int)+1:=fQ (by omega);obtain⟨p,cs,hp,hpc,hcs⟩:=hbj.aD .i64 (i:=(j:Int)) (d:=(e[j]).c) (by omega) (by rw[V6,VE,Vi hcj];rfl);simp only[gj.c,fu,Rd]at hcs;obtain⟨_,_,rfl,rfl,_,_,rfl,rfl,d',_,rfl,hdd,rfl⟩:=hcs;have hpc1:=mv hpc (eY.b1 none);have hX1:=(eY.b1 none).aA hXo;simp only[go_sem,k2,k10,k14,cj,hX1,hp,ko hpc,jJ hpc1,CQ hpc];have nr:gN h'.length 1 (.aC h2.length 3 0 2)=true:=by simp[gN,lbX]
       simp only[nr,go_sem];refine fq ⟨hcb.1,hcb.2 F _ e[j].aA d' (hdd.up (eY.b1 none)) (oke.2 _ (by simp))⟩ ?_;rintro r6 h6 ⟨hr6,_,he6⟩;have hpc2:=mv hpc1 he6;have hfree:=he6.aA (wM h' none);have hlt:=(U_.1 hfree).1;have hX6:=he6.aA hX1;generalize hcell:[AV.aA .i64 e[j].aB,AV.aA .i64 e[j].aC,r6]=cell;have hs:(h6.set h'.length (some (.aA 3 [cell] false)))[h'.length]?=some (some (.aA 3 [cell] false)):=Vd hlt;have e6:eY fj h' (h6.set h'.length (some (.aA 3 [cell] false))):=((eY.b1 none).tr he6).aD (Vg _) _;have hpc3:=mv hpc e6;have hX7:=e6.aA hXo;have hB7:=e6.aA hB;obtain⟨o',h8,ha,ho',hc',he8⟩:=jr (bytes:=40) (es:=[e[j].c]) (h:=h6.set h'.length (some (.aA 3 [cell] false))) ho hco e6 (ys:=[cell])
        (by
         subst hcell;simp only[fP,fW,gj.c,e_];refine⟨_,_,rfl,⟨_,_,rfl,rfl,_,_,rfl,rfl,r6,_,rfl,?_,rfl⟩,rfl⟩;refine e_.aB _ (λm hm=>?_) (λm hm y hy=>?_) _ hr6;·simp at hm;omega
         ·rw[Vb (by simp at hm;omega)];exact hy) (by omega) (by simp;omega)
       have ha':=ic (pB hs (some 1) (len:=1) rfl) 40 o;rw[ha]at ha';have hX8:h8[h2.length]?=some (some (.aA 3 [[.aA .i64 l.aA,.aA .i64 l.aB,o]] false)):=by rw[he8.2 _ (U_.1 hX7).1 (by omega)];exact hX7
       have hB8:h8[h.length+1]?=some (some (.aA 3 [[.aA .i64 0,.aA .i64 0,.aB]] false)):=by rw[he8.2 _ (U_.1 hB7).1 (by omega)];exact hB7
       have lX8:=(U_.1 hX8).1;subst hcell;simp only[go_sem,k1,k2,k6,k10,k11,k14,ej,hX6,jJ hpc2,hr6.aA,gH hr6.aA,hfree,ha',hX8,ho'.aA,gH ho'.aA,lX8];have ht1:(e.drop i).take (j+1-i)=(e.drop i).take (j-i)++[e[j]]:=by rw[show j+1-i=(j-i)+1 by omega,List.take_add_one,Vz,show i+(j-i)=j by omega,Vi hcj];rfl
       refine⟨_,?_,j+1,o',by simp,by omega,hcj,rfl,by rw[Ve (by omega)];exact hB8,rfl,?_,?_,((hE.tr e6).aI he8 (λm hm hm'=>by omega)).aD (by omega) _⟩;·omega
       ·rw[ht1,<-VX,f_,VI];exact e_.aB _ (λm hm=>hm) (λm hm y hy=>by rw[Vb (by omega)];exact hy) _ ho'
       ·exact hc'.aA ho' (λm hm y hy=>by rw[Vb (by omega)];exact hy)
      ·have cj:decide ((j:Int)<e.length)=false:=Va (by omega);simp only[go_sem,k1,k2,k6,k10,k11,cj,hXo,hB,e1,e2,ho.aA,lbB];have ht1:(e.drop i).take (j-i)=e.drop i:=V5 (by simp;omega);rw[ht1]at ho;exact⟨_,rfl,e_.aB _ (λm hm=>by omega) (λm hm y hy=>by rw[Vb (by omega)];exact hy) _ ho,λ_=>hco.aA ho (λm hm y hy=>by rw[Vb (by omega)];exact hy),hE.aD (by omega) _⟩
  ·have c1:decide ((i:Int)<e.length)=false:=Va (by omega);simp only[go_sem,k6,k10,c1,hB3,hX3,hr3.aA,l3];have hag:l.aJ (prev+1) e=i:=wG l e (prev+1) i hi hj (λhk=>absurd hk hc);have e1:l.aF prev e=l:=by simp only[fE.aF];rw[Ve (by omega)]
   have e2:l.aI prev e=0:=by simp only[fE.aI];rw[Ve (by omega)]
   exact stay e1 e2
theorem fX.aG {L:Nat->Nat}{h h':eZ}{r:Nat}{x:RX}{F:Nat->Prop}{ds:List D}{az:List AV}(T:fX L h r x h')(hF:∀n,F n->L n=0\/L n=11)(hr:fu F h ds az):fu (λn=>F n/\n<h.length) h' ds az:=
 fu.aA (λ_ y=>y) (λn hn _ hy=>T.aC (hF n hn.1) hy) _ _ (fu.lt _ _ hr)
theorem fX.aI {L:Nat->Nat}{h h':eZ}{r n:Nat}{x:RX}(T:fX L h r x h')(hn:n<h.length)(h0:L n≠10):(r=n)=False:=Vs λe=>by obtain⟨L',⟨_,_,_,_,_,_,_,_,_,a⟩,l,-⟩:=T;have:=a.lr;rw[e,l n hn]at this;exact h0 this
theorem Ma {P:Program}{f1 f2 f3 f4 f5 f6 f7:FuncId}(u2:qc P f2){L:Nat->Nat}{h H:eZ}{r n:Nat}{x y:RX}{F:Nat->Prop}{m:fB}{e d:AV}(T:fX L h r y H)(hm:fu F h m.c (m.aB e d))(hF:∀n,F n->L n=0\/L n=11)
  (hmf:m.aL) (hi:0<=m.aA/\m.aA<=2^40) (yf:y.aA 2) (B:h[n]?=some (some (fh.aA 17 [m.aB e d] false))) (hn:L n=0) (ey:x.aE m=(({y with r:={y.r with aI:=max y.r.aI (min m.aK (m.aA+m.es.length))}}:RX).aM m true (m.aA+m.es.length)))
  {Λ:fY} (k0:lk 0 Λ=.aC r 26 0 0) (k3:lk 3 Λ=.aC n 17 0 0) {K:AV->eZ->Prop} (hK:∀v h',fX L h r (x.aE m) h'->K v h'):
  vc P (lC f1 f2 f3 f4 f5 f6 f7).aA.tl.tl.tl.tl.tl.tl.tl.tl.tl.tl ⟨Λ,[],H⟩ (ia (lC f1 f2 f3 f4 f5 f6 f7).aB K):=by
 obtain⟨e',d',e0,he,hd⟩:=jS (T.aG hF hm);obtain⟨rfl,rfl⟩:e=e'/\d=d':=by simpa [fB.aB] using e0
 have hmes:=hmf.es.1;have le:g_ e=some (.aA .i64 m.es.length):=by have:=he.aB;simpa [f_] using this
 have wn:IntKind.i64.wrap (m.aA+m.es.length)=m.aA+m.es.length:=fQ (by omega);have D1:=T.aC (.inl hn) B;have rn:=T.aI (U_.1 B).1 (by rw[hn];decide);obtain⟨g,ff,ma,ca,en,co,cn,cl,sn,r1,r2,t1,t2,t3,t4,t5,go⟩:=T.aD;have T1:=go {y with r:={y.r with aI:=max y.r.aI (min m.aK (m.aA+m.es.length))}} [] g ff ma ca en co cn cl sn rfl;have rd1:=T1.aG hF hm;simp only[RX.aB]at r1 T1 rd1;simp only[fB.aB]at D1 rd1;simp only[lC,AC.aA,go_sem,k0,k3,D1,le,wn,r1,r2,nu,nw,lZ,rn];refine fq ⟨u2.1,T1.aA λL' s'=>u2.2 _ L' _ r _ m _ true (m.aA+m.es.length) s' rd1 ?_⟩ ?_
 ·have a:y.o.aD.length+1<=3:=by have:=yf.1;omega
  exact Vr (Vx 168 a) (by decide)
 intro _ H2 T2;simp only[go_sem];exact hK _ _ (by rw[ey];exact T2)
theorem Cs {l:fE}(hl:iK l.es)(i n:Int):iK (l.aE i n):=by
 refine hl.aA ?_ ?_
 ·simp only[fE.aE];split;·simp
  ·simp;omega
 ·intro e he;simp only[fE.aE]at he;split at he;·simp at he
  ·exact VM (V0 he)
theorem Mb {P:Program}{f1 f2 f3 f4 f5 f6 f7:FuncId}(u2:qc P f2)(u5:vd P f5)(u6:kS P f6)(u7:qf P f7){L:Nat->Nat}{h:eZ}{r n k:Nat}{x:RX}{F:Nat->Prop}{m:fB}{e d:AV}(hx:DX L h r x)(hR:x.r.aD k)(hk:k+200<=2^28)(hj:x.aA 1)
  (hm:fu F h m.c (m.aB e d)) (hF:∀n,F n->L n=0\/L n=11) (hmf:m.aL) (hi:0<=m.aA/\m.aA<=2^40) (B:h[n]?=some (some (fh.aA 17 [m.aB e d] false))) (hn:L n=0)
  (c1:¬m.aA<x.r.aA.aA.aA) (c2:x.r.aA.aA.aD m.aA=true) (c3:x.r.aA.aA.aG m.aA=m.aI)
  {Λ:fY} (k0:lk 0 Λ=.aC r 26 0 0) (k3:lk 3 Λ=.aC n 17 0 0) {K:AV->eZ->Prop} (hK:∀v h',fX L h r (x.aE m) h'->K v h'):
  vc P (lC f1 f2 f3 f4 f5 f6 f7).aA.tl.tl.tl.tl.tl.tl.tl ⟨Λ,[],h⟩ (ia (lC f1 f2 f3 f4 f5 f6 f7).aB K):=by
 obtain⟨e',d',e0,he,hd⟩:=jS hm;obtain⟨rfl,rfl⟩:e=e'/\d=d':=by simpa [fB.aB] using e0
 obtain⟨g,ff,ma,ca,en,co,cn,cl,sn,a⟩:=id hx;have row:=a.aA;obtain⟨s1,s2,s3,s4,s5,s6,s7,s8,s9⟩:=a.sc;have rn:=hx.to.aI (U_.1 B).1 (by rw[hn];decide);have B':=B;simp only[RX.aB]at row;simp only[fB.aB]at B';have R1:∀y,(h++[y])[r]?=_:=λy=>(eY.b1 y).aA row;have D1:∀y,(h++[y])[n]?=_:=λy=>(eY.b1 y).aA B';have lr:=(U_.1 row).1;have lB:=(U_.1 B).1;have N1:∀sz i o,gN h.length 1 (.aC r sz i o)=true:=λsz i o=>iv lr;have N2:∀sz i o,gN h.length 1 (.aC n sz i o)=true:=λsz i o=>iv lB;obtain⟨E,hE⟩:∃E,E=(lC f1 f2 f3 f4 f5 f6 f7).aA.tl.tl.tl.tl.tl.tl.tl.tl.tl.tl:=⟨_,rfl⟩;obtain⟨rs,hrs⟩:∃rs,rs=(lC f1 f2 f3 f4 f5 f6 f7).aB:=⟨_,rfl⟩;have fin:∀{y:RX}{H:eZ},fX L h r y H->y.aA 2->x.aE m=(({y with r:={y.r with aI:=max y.r.aI (min m.aK (m.aA+m.es.length))}}:RX).aM m true (m.aA+m.es.length))->∀{Λ:fY},lk 0 Λ=.aC r 26 0 0->lk 3 Λ=.aC n 17 0 0->vc P E ⟨Λ,[],H⟩ (ia rs K):=
  fun {y H} T yf ey {Λ} q0 q3=>by rw[hE,hrs];exact Ma u2 T hm hF hmf hi yf B hn ey q0 q3 hK
 have hE':=hE;simp only[lC,AC.aA,fC]at hE' hrs;simp only[lC,AC.aA,fC];rw[<-hE',<-hrs];clear hE' hE;simp only[go_sem,iN,k0,k3,R1,D1,N1,N2];have ap:=u5.2 (λ_=>True) (h++[none]) x.r.aA.aA _ m.aA m.es e (fu.aA (λ_ _=>Vp) (λ_ _ _ y=>y) _ _ (a.aC.up (eY.b1 _))) (Rd.aC (λ_ _=>Vp) (λ_ _ _ y=>y) _ _ (he.up (eY.b1 _))) (hR.aB (by omega)) hmf.aC;refine fq ⟨u5.1,ap⟩ ?_;rintro _ H1 ⟨en',rfl,oe,ce,X1⟩;have R2:=X1.aA (R1 none);have D2:=X1.aA (D1 none);have L2:=X1.aA (gh h none);have l2:=(U_.1 L2).1;have se:=oe.aA;obtain⟨l,hl⟩:∃l,l=x.r.aA.aA.aF m.aA m.es:=⟨_,rfl⟩;obtain⟨at',hat⟩:∃at',at'=x.r.aA.aA.aI m.aA m.es:=⟨_,rfl⟩;rw[<-hl]at oe ⊢;rw[<-hat]at ce ⊢;have ea:x.aE m=(if 0<at'/\at'<=x.r.aI then x else
   let y:RX:=if 0<at' then ({x with r:={x.r with aA:={x.r.aA with aA:=l}}}:RX).aU {fU.aD with aC:=2,aF:=at',aA:=⟨0,0,l.aE at' l.es.length⟩} else x
   ({y with r:={y.r with aI:=max y.r.aI (min m.aK (m.aA+m.es.length))}}:RX).aM m true (m.aA+m.es.length)):=by
  rw[hl,hat];unfold RX.aE;rw[Ve c1,Ve (by rintro (z | z);rw[c2]at z;cases z;exact z c3)]
 simp only[kU]at oe;have X3:∀b,eY fj h (H1.set h.length b):=λb=>((eY.b1 _).tr X1).aD (Vg _) b;have kp:∀b,gz (λm=>h.length+1<=m) H1 (H1.set h.length b):=λb m hm y hy=>by have hm:h.length+1<=m:=hm;rw[Vb (by omega)];exact hy
 have oe2:=λb=>e_.aB _ (λ_ y=>y) (kp b) _ oe;have ce2:=λb z=>(ce z).aA oe (kp b);simp only[go_sem,iN,R2,D2,L2,l2,se,V8];have R3:=(X3 (some (fh.aA 3 [[.aA .i64 l.aA,.aA .i64 l.aB,en']] false))).aA row;have D3:=(X3 (some (fh.aA 3 [[.aA .i64 l.aA,.aA .i64 l.aB,en']] false))).aA B';have L3:(H1.set h.length (some (fh.aA 3 [[.aA .i64 l.aA,.aA .i64 l.aB,en']] false)))[h.length]?=_:=Vd l2;have X3:=X3 (some (fh.aA 3 [[.aA .i64 l.aA,.aA .i64 l.aB,en']] false));have oe2:=oe2 (some (fh.aA 3 [[.aA .i64 l.aA,.aA .i64 l.aB,en']] false));have ce2:=ce2 (some (fh.aA 3 [[.aA .i64 l.aA,.aA .i64 l.aB,en']] false));generalize H1.set h.length _=H3 at *;have no:fX L h r x H3:=fX.aB X3 (hx.up X3).to;by_cases c4:0<at'
 ·simp only[go_sem,k0,R3,Vc c4];by_cases c5:at'<=x.r.aI;·rw[Vf ⟨c4,c5⟩]at ea;simp only[go_sem,Vc c5,hrs];exact hK _ _ (by rw[ea];exact no)
  ·rw[Ve (λz=>c5 z.2),Vf c4]at ea;have lr3:=(U_.1 R3).1;have rl:(r=h.length)=False:=Vs (by omega);simp only[go_sem,k0,R3,L3,lr3,rl,se,Vc c4,Va c5];obtain⟨N,hN,mk⟩:=Da oe2 (ce2 c4);obtain⟨x1,hx1⟩:∃x1:RX,x1={x with r:={x.r with aA:={x.r.aA with aA:=l}}}:=⟨_,rfl⟩;have T4:=a.aI (k:=5) (d:=f_ l.es) (c:=en') (x':=x1) (g':=g) (f':=ff) (ma':=ma) (ca':=ca) (e':=en') (co':=co) (cn':=cn) (cl':=cl) (sn':=sn) X3 N (λm hm=>by have:=hN m hm;omega) (λL' h1 h2=>mk L' h1 λm h3 h4 h5=>h2 m (by omega) h4 h5) (by rw[hx1];rfl);have lf:=hR.a_ hmf hi c2 (by rw[<-hat];omega);have ok:jl l:=by have:=lf.1.aB hk;rw[<-hl]at this;exact this
   have small:iK l.es:=ok.2.2;have len:g_ en'=some (.aA .i64 l.es.length):=by have:=(e_.rd _ (F':=λ_=>True) (λ_ _=>Vp) _ oe2).aB;simpa [f_] using this
   have x1few:x1.aA 1:=by rw[hx1];exact hj
   have x1c:x1.o.aC.length<=1:=x1few.2;have r4:(H3.set r (some (fh.aA 26 [x1.aB g ff ma ca en' co cn cl sn] false)))[r]?=_:=Vd lr3;have rdl:∀b,fu (λm=>h.length+1<=m) (H3.set r b) l.c [.aA .i64 l.aA,.aA .i64 l.aB,en']:=λb=>by simp only[fE.c,fu];exact⟨_,_,rfl,rfl,_,_,rfl,rfl,_,_,rfl,Rd.aC (F:=λm=>h.length+1<=m) (λ_ y=>y) (λm hm y hy=>by have hm:h.length+1<=m:=hm;rw[Vb (by omega)];exact hy) _ _ (e_.rd _ (λ_ y=>y) _ oe2),rfl⟩
   have rdl:=rdl (some (fh.aA 26 [x1.aB g ff ma ca en' co cn cl sn] false));simp only[RX.aB]at r4 T4 rdl;rw[hx1]at r4 T4 rdl;simp only[go_sem,len];generalize H3.set r _=H4 at *;refine fq ⟨u6.1,u6.2 _ H4 l _ at' l.es.length rdl ok⟩ ?_;rintro sv H5 ⟨os,_,X5⟩;have ss:=os.aA;simp only[go_sem,gH ss];have rc:fu (λm=>H4.length<=m) H5 ({fU.aD with aC:=2,aF:=at',aA:=⟨0,0,l.aE at' l.es.length⟩}:fU).c
     [.aA .i64 2,.aA .i64 0,.aA .i64 0,.aA .i64 0,.aA .i64 at',.aA .i64 0,.aA .i64 0,sv,.aB,.aB,.aB,.aB,.aA .i64 0,.aA .i64 0,.aA .i64 0,.aA .i64 0,.aA .i64 0]:=by
    simp only[fU.c,fu,fU.aD];exact⟨_,_,rfl,rfl,_,_,rfl,rfl,_,_,rfl,rfl,_,_,rfl,rfl,_,_,rfl,rfl,_,_,rfl,rfl,_,_,rfl,rfl,_,_,rfl,e_.rd _ (λ_ y=>y) _ os,_,_,rfl,iS _ _ _,_,_,rfl,iS _ _ _,_,_,rfl,iS _ _ _,_,_,rfl,iS _ _ _,_,_,rfl,rfl,_,_,rfl,rfl,_,_,rfl,rfl,_,_,rfl,rfl,_,_,rfl,rfl,rfl⟩
   have cf:({fU.aD with aC:=2,aF:=at',aA:=⟨0,0,l.aE at' l.es.length⟩}:fU).aM:=⟨Cs small _ _,⟨by simp[fU.aD],by simp[fU.aD],by simp[fU.aD]⟩,by simp[fU.aD]⟩;refine fq ⟨u7.1,(T4.up X5).aA λL' s'=>u7.2 L' H5 r _ _ _ _ s' rc cf (Vr (Vx 216 (show _<=2 by have:=hj.2;show x.o.aC.length+1<=2;omega)) (by decide))⟩ ?_;intro _ H6 T6;simp only[go_sem];exact fin T6 (RX.aA.aC (x:=({x with r:={x.r with aA:={x.r.aA with aA:=l}}}:RX)) hj _) ea (by simp[fi,k0]) (by simp[fi,k3])
 ·rw[Ve (λz=>c4 z.1),Ve c4]at ea;simp only[go_sem,Va c4];exact fin no (hj.aA (by decide)) ea (by simp[fi,k0]) (by simp[fi,k3])
def vt (P:Program)(f:FuncId):Prop:=fI P f=true/\∀(F:Nat->Prop)(L:Nat->Nat)(h:eZ)(r:Nat)(x:RX)(m:fB)(az:List AV)(k:Nat),DX L h r x->fu F h m.c az->(∀n,F n->L n=0\/L n=11)->x.r.aD k->k+200<=2^28->x.aA 1->m.aL->0<=m.aA/\m.aA<=2^40->
 fy P f [.aC r 26 0 0,.aE az] h λ_ h'=>fX L h r (if x.r.aM=2 then x else RX.aE ⟨{x.r.aR m.aC with aF:=0},x.o⟩ m) h'
theorem Mc {P:Program}{f f1 f2 f3 f4 f5 f6 f7:FuncId}(hf:Is P f (lC f1 f2 f3 f4 f5 f6 f7))(u1:qg P f1)(u2:qc P f2)(u3:jP P f3)(u4:oz P f4)(u5:vd P f5)(u6:kS P f6)(u7:qf P f7):vt P f:=by
 refine⟨hf.2,λF L h r x m az k hx hm hF hR hk hj hmf hmi=>fN hf ?_⟩;obtain⟨e,d,rfl,he,hd⟩:=jS hm;have se:=he.aA;have sd:=hd.aA;obtain⟨g,ff,ma,ca,en,co,cn,cl,sn,a⟩:=id hx;have row:=a.aA;obtain⟨E,hE⟩:∃E,E=(lC f1 f2 f3 f4 f5 f6 f7).aA.tl.tl.tl.tl.tl.tl.tl:=⟨_,rfl⟩;obtain⟨rs,hrs⟩:∃rs,rs=(lC f1 f2 f3 f4 f5 f6 f7).aB:=⟨_,rfl⟩;have hE':=hE;have hrs':=hrs;simp only[lC,AC.aA,fC]at hE' hrs';simp only[lC,fC];rw[<-hE',<-hrs'];clear hE';simp only[fB.aB,go_sem,se,sd];obtain⟨H,hH⟩:∃H,H=h++[some (fh.aA 17 [m.aB e d] false)]:=⟨_,rfl⟩;have X:eY fj h H:=by rw[hH];exact eY.b1 _
 have B:H[h.length]?=some (some (fh.aA 17 [m.aB e d] false)):=by rw[hH];exact gh _ _
 have z0:L h.length=0:=a.z (Vg _);have B':=B;simp only[fB.aB]at hH B';rw[<-hH];clear hH;have rowH:=X.aA row;simp only[RX.aB]at rowH;by_cases c0:x.r.aM=2;·rw[Vf c0];simp only[go_sem,rowH,Vc c0,hrs'];exact fX.aB X (hx.up X).to
 ·rw[Ve c0];simp only[go_sem,rowH,B',Va c0];refine fq ⟨u1.1,u1.2 L H r x m.aC (hx.up X)⟩ ?_;intro _ H1 T1;obtain⟨z,hz⟩:∃z:RX,z=⟨{x.r.aR m.aC with aF:=0},x.o⟩:=⟨_,rfl⟩;have zf:z.r.aD k:=by rw[hz];exact (hR.aF m.aC).aO
  have zw:z.aA 1:=by rw[hz];exact hj
  obtain⟨g1,ff1,ma1,ca1,en1,co1,cn1,cl1,sn1,r1,r2,t1,t2,t3,t4,t5,go⟩:=T1.aD;have T2:=go z [] g1 ff1 ma1 ca1 en1 co1 cn1 cl1 sn1 (by rw[hz];rfl);have r2':=Vd (a:=some (fh.aA 26 [z.aB g1 ff1 ma1 ca1 en1 co1 cn1 cl1 sn1] false)) r2;have zlog:z.r.aA.aA=x.r.aA.aA/\z.r.aI=x.r.aI/\z.r.aA=x.r.aA:=by rw[hz];exact⟨rfl,rfl,rfl⟩
  have zrow:z.aB g1 ff1 ma1 ca1 en1 co1 cn1 cl1 sn1=((RX.mk {x.r.aR m.aC with aF:=0} x.o).aB g1 ff1 ma1 ca1 en1 co1 cn1 cl1 sn1):=by rw[hz]
  rw[zrow]at T2 r2';simp only[RX.aB,fm.aR,RX.aS]at r1 T2 r2';have B1:=T1.aC (.inl z0) B';have rn:=T1.aI (U_.1 B).1 (by rw[z0];decide);simp only[go_sem,B1,r1,r2,rn];generalize H1.set r _=H2 at *;have B2:=T2.aC (.inl z0) B';rw[<-hz];obtain⟨L2,d2,l2,x2⟩:=id T2;have hm2:=T2.aG hF (hm.up X);have hF2:∀n,F n/\n<H.length->L2 n=0\/L2 n=11:=λn hn=>by rw[l2 n hn.2];exact hF n hn.1
  have back:∀{h'},fX L2 H2 r (z.aE m) h'->fX L h r (z.aE m) h':=λT=>fX.aB X (fX.aE l2 x2 T);have ans:∀(ok:Bool)(i:Int),fy P f2 [.aC r 26 0 0,.aE (m.aB e d),.aD ok,.aA .i64 i] H2 λ_ h'=>fX L2 H2 r (z.aM m ok i) h':=λok i=>u2.2 _ L2 H2 r z m _ ok i d2 hm2 (Vr (Vx 168 (show _<=2 by have:=zw.1;omega)) (by decide));simp only[fB.aB]at ans;have wi:IntKind.i64.wrap (m.aA-1)=m.aA-1:=fQ (by omega);have q1:=zlog.1;have q2:=zlog.2.1;by_cases c1:m.aA<x.r.aA.aA.aA
  ·have ea:z.aE m=z.aM m true x.r.aI:=by unfold RX.aE;rw[Vf (by rw[q1];exact c1),q2]
   simp only[go_sem,B2,r2',Vc c1];refine fq ⟨u2.1,ans true x.r.aI⟩ ?_;intro _ H3 T3;rw[gF];simp only[go_sem,hrs'];exact back (by rw[ea];exact T3)
  ·simp only[go_sem,B2,r2',Va c1];obtain⟨g2,ff2,ma2,ca2,en2,co2,cn2,cl2,sn2,a2⟩:=id d2;have e5:=a2.aA.symm.trans r2';simp only[RX.aB,Vk,fh.aA.injEq,Wr,true_and,and_true]at e5;obtain⟨-,-,-,-,-,-,rfl,-⟩:=e5;have lg:=a2.aC;rw[q1]at lg;refine fR u3.1 (u3.2 _ H2 x.r.aA.aA _ m.aA lg (hR.aB (by omega))) ?_;rw[gF];have no:(x.r.aA.aA.aD m.aA=false\/¬x.r.aA.aA.aG m.aA=m.aI)->z.aE m=z.aM m false (max 0 (min z.r.aK (m.aA-1))):=λc=>by unfold RX.aE;rw[Ve (by rw[q1];exact c1),Vf (by rw[q1];exact c)]
   have noc:z.aE m=z.aM m false (max 0 (min z.r.aK (m.aA-1)))->nI P f2 [.aC r 26 0 0,.aE (m.aB e d),.aD false,.aA .i64 (max 0 (min z.r.aK (m.aA-1)))] H2 λ_ h'=>fX L h r (z.aE m) h':=λec=>by refine fq ⟨u2.1,ans false (max 0 (min z.r.aK (m.aA-1)))⟩ ?_;intro _ H3 T3;exact back (by rw[ec];exact T3)
   simp only[fB.aB]at noc;have la:=u4.2 L2 H2 r z k d2 zf (by omega);cases c2:x.r.aA.aA.aD m.aA;·simp only[go_sem,B2,r2',Vt,wi];refine fR u4.1 la ?_;rw[gF];simp only[go_sem,B2,nu,nw,lZ];refine fq (noc (no (.inl c2))) ?_;intro _ H3 T3;rw[gF];simp only[go_sem,hrs'];exact T3
   ·by_cases c3:x.r.aA.aA.aG m.aA=m.aI
    ·simp only[go_sem,B2,r2',Vq,Vc c3];rw[hE,hrs];exact Mb u2 u5 u6 u7 d2 zf hk zw hm2 hF2 hmf hmi (T2.aC (.inl z0) B) (by rw[l2 _ (U_.1 B).1];exact z0) (by rw[q1];exact c1) (by rw[q1];exact c2) (by rw[q1];exact c3) (by simp[fi,ga]) (by simp[fi]) λ_ _ T=>back T
    ·simp only[go_sem,B2,r2',Vq,Va c3,wi];refine fR u4.1 la ?_;rw[gF];simp only[go_sem,B2,nu,nw,lZ];refine fq (noc (no (.inr c3))) ?_;intro _ H3 T3;rw[gF];simp only[go_sem,hrs'];exact T3
theorem Ib {F:Nat->Prop}{h:eZ}:∀{l:List fO} {rows:List (List AV)},gC F h (l.map fO.c) rows->rows=l.map fO.aA
 | [],rows,hh=>hh
 | w :: l,rows,hh=>by simp only[VS,gC]at hh;obtain⟨a,b,rfl,h1,h2⟩:=hh;rw[mP h1,Ib h2];rfl
theorem HZ (F:Nat->Prop)(h:eZ):∀l:List fO,gC F h (l.map fO.c) (l.map fO.aA)
 | []=>rfl
 | w :: l=>by simp only[VS,gC];exact⟨_,_,rfl,by simp only[fO.c,fO.aA,fu];exact⟨_,_,rfl,rfl,_,_,rfl,rfl,_,_,rfl,rfl,_,_,rfl,rfl,rfl⟩,HZ F h l⟩
theorem Nx {l:List fO}{n:Int}{i:Nat}(hi:i<l.length)(h1:(l[i]).aB=n)(h2:∀j (hj:j<l.length),j<i->¬(l[j]).aB=n):oV l n=some i:=by unfold oV;rw[WS];exact⟨hi,by simp[h1],λj hj=>by simp[h2 j (by omega) hj]⟩
theorem Ny {l:List fO}{n:Int}(h2:∀j (hj:j<l.length),¬(l[j]).aB=n):oV l n=none:=by unfold oV;rw[List.findIdx?_eq_none_iff];intro w hw;obtain⟨j,hj,rfl⟩:=List.getElem_of_mem hw;simp[h2 j hj]
section
variable {L:Nat->Nat} {h:eZ} {r:Nat} {x:RX} {g f ma ca e co cn cl sn:AV}
theorem gT.aG (a:gT L h r x g f ma ca e co cn cl sn):g_ f=some (.aA .i64 x.r.aB.length):=by have:=(iY.rd (a.aB (2,ig x.r.aB,f) (by simp[dl]))).aB;simpa [ig] using this
theorem gT.aM (a:gT L h r x g f ma ca e co cn cl sn){i:Nat}(hi:i<x.r.aB.length):
  ∃n j row gr,iH 4 f (.aA .i64 i)=some (.aC n 4 j 0)/\L n=2/\h[n]?=some (some (.aA 4 row gr))/\row[j]?=some (x.r.aB[i]).aA /\
   ∀w:fO,gT L (h.set n (some (.aA 4 (row.set j w.aA) gr))) r {x with r:={x.r with aB:=x.r.aB.set i w}} g f ma ca e co cn cl sn:=by
 obtain⟨sz,ds,rows,e0,c,d⟩:=(a.aB (2,ig x.r.aB,f) (by simp[dl])).1 (show 2<=5 by decide);obtain⟨rfl,rfl⟩:4=sz/\x.r.aB.map fO.c=ds:=by simpa [ig] using e0
 obtain rfl:=Ib d;rcases c with c | ⟨t,-,e2⟩
 ·obtain⟨n,off,row,gr,h1,h2,h3,h4,h5⟩:=c.at (i:=i) (by simpa using hi);have ne:∀m,L m≠2->m≠n:=λm hm e=>hm (e▸h2);refine⟨n,off+i,row,gr,h1,h2,h3,by rw[h4];simp,λw=>?_⟩;have st:∀m,L m≠2->(h.set n (some (.aA 4 (row.set (off+i) w.aA) gr)))[m]?=h[m]?:=λm hm=>Vb (λe=>ne m hm e.symm);refine⟨(st r (by rw[a.lr];decide)).trans a.aA,λp hp=>?_,a.lr,λm hm=>by rw[Vh];exact a.lt m hm⟩;by_cases c2:p.1=2
  ·obtain⟨j,hj⟩:=List.mem_iff_getElem?.1 hp;have e1:=GK hj;obtain rfl:j=1:=by omega
   obtain rfl:(2,ig (x.r.aB.set i w),f)=p:=by simpa [dl] using hj
   refine⟨λ_=>⟨4,(x.r.aB.set i w).map fO.c,(x.r.aB.map fO.aA).set i w.aA,rfl,.inl (h5 w.aA),?_⟩,λz=>absurd z (by show ¬5<2;decide)⟩;rw[<-List.map_set];exact HZ _ _ _
  ·have c1:p∈dl x g f ma ca e co cn cl sn:=by
    have hp':p∈(dl x g f ma ca e co cn cl sn).set 1 (2,ig (x.r.aB.set i w),f):=hp;rcases WK hp' with c1 | rfl;·exact c1
    ·exact absurd rfl c2
   exact (a.aB p c1).aA (kt c1) (by simp) (λ_ _=>rfl) λm hm hl=>st m (by omega)
 ·simp at e2;rw[e2]at hi;simp at hi
end
def vw (P:Program)(f:FuncId):Prop:=fI P f=true/\∀(F:Nat->Prop)(L:Nat->Nat)(h:eZ)(r:Nat)(x:RX)(m:fB)(az:List AV)(k:Nat),DX L h r x->fu F h m.c az->(∀n,F n->L n=0\/L n=11)->x.r.aD k->k<=2^28->x.aA 1->0<=m.aA/\m.aA<=2^40->
 fy P f [.aC r 26 0 0,.aE az] h λ_ h'=>fX L h r (x.aK m) h'
theorem Md {P:Program}{f f1 f2 f3 f4:FuncId}(hf:Is P f (AH f1 f2 f3 f4))(u1:tH P f1)(u2:tA P f2)(u3:oz P f3)(u4:vF P f4):vw P f:=by
 refine⟨hf.2,λF L h r x m az k hx hm hF hR hk hj hmi=>fN hf ?_⟩;obtain⟨e,d,rfl,he,hd⟩:=jS hm;have se:=he.aA;have sd:=hd.aA;obtain⟨g,ff,ma,ca,en,co,cn,cl,sn,a⟩:=id hx;have row:=a.aA;simp only[AH,fB.aB,go_sem,se,sd];obtain⟨H,hH⟩:∃H,H=h++[some (fh.aA 17 [m.aB e d] false)]:=⟨_,rfl⟩;have X:eY fj h H:=by rw[hH];exact eY.b1 _
 have B:H[h.length]?=some (some (fh.aA 17 [m.aB e d] false)):=by rw[hH];exact gh _ _
 have z0:L h.length=0:=a.z (Vg _);have B':=B;simp only[fB.aB]at hH B';rw[<-hH];clear hH;have rowH:=X.aA row;simp only[RX.aB]at rowH;by_cases c0:x.r.aM=2;case neg=>
  have ea:x.aK m=x:=by unfold RX.aK;rw[Vf c0]
  rw[ea];simp only[go_sem,rowH,Va c0,Vt];exact fX.aB X (hx.up X).to
 have aH:=a.up X;have dH:=hx.up X;have hfl:=hR.aD;have fl:=aH.aG;simp only[go_sem,rowH,Vc c0,Vq];obtain⟨I,hI⟩:∃I:Nat->fY->eZ->Prop,∀q Le h',I q Le h'↔∃i:Nat,lk 0 Le=.aC r 26 0 0/\lk 3 Le=.aC h.length 17 0 0/\lk 4 Le=.aA .i64 i/\h'=H/\i<=x.r.aB.length/\(∀j (hj:j<x.r.aB.length),j<i->¬(x.r.aB[j]).aB=m.aC)/\q=x.r.aB.length-i:=⟨_,λ_ _ _=>Wu⟩;refine gJ I x.r.aB.length ((hI _ _ _).2 ⟨0,by simp[fi,ga],by simp[fi],by simp[fi],rfl,by omega,λ_ _ z=>absurd z (by omega),by omega⟩) ?_;intro q Le h' hh;obtain⟨i,k0,k3,k4,rfl,hi,hno,rfl⟩:=(hI _ _ _).1 hh;simp only[FZ,go_sem,k0,k4,rowH,fl];refine gx (λci=>?_) (λci=>?_)
 ·simp at ci;obtain⟨n,j,rw',gr,w1,w2,w3,w4,w5⟩:=aH.aM ci;have ew:IntKind.i64.wrap ((i:Int)+1)=((i+1:Nat):Int):=by rw[fQ (by omega)];omega
  have hw:=hfl.2 _ (VU ci);have pc:im h' (.aC n 4 j 0)=some (x.r.aB[i]).aA:=by simp[im,w3,w4]
  have ld:gX h' true 4 (.aC n 4 j 0)=some (.aE (x.r.aB[i]).aA):=by rw[hP pc];rfl
  have fld:gX h' false 1 (.aC n 4 j 0)=some (.aA .i64 (x.r.aB[i]).aB):=by rw[hP pc];rfl
  simp only[go_sem,k0,k3,k4,rowH,w1,fld,B'];by_cases c1:(x.r.aB[i]).aB=m.aC;case neg=>
   simp only[go_sem,k4,Va c1,Vt,ew];exact⟨_,by omega,(hI _ _ _).2 ⟨i+1,by simp[fi,k0],by simp[fi,k3],by simp[fi],rfl,by omega,λq hq hqi=>by
    rcases Wc q i with z | z;·exact hno q hq z
    ·obtain rfl:q=i:=by omega
     exact c1,rfl⟩⟩
  have fa:=Nx ci c1 hno;have ea:x.aK m=(let w:=(x.r.aB[i]).aE m
    let y:RX:={x with r:={x.r with aB:=x.r.aB.set i w}}
    let z:=if m.ok then y.aI else y
    if m.ok=false\/w.aD<=z.r.aK then z.to w else z):=by
   unfold RX.aK;rw[Ve (by simpa using c0)];simp only[fa,Vi ci,VG]
  have hr:=hm.up X;have hc:=u1.2 F h' (x.r.aB[i]) m _ hr hw.aA hmi;have ljj:=(U_.1 w4).1;have lnn:=(U_.1 w3).1;have ww:=hw.aB m hmi;have emod:(rw'.modify j λy=>(((y.set 0 (AV.aA IntKind.i64 ((x.r.aB[i]).aE m).aB)).set 1 (AV.aA IntKind.i64 ((x.r.aB[i]).aE m).aD)).set 2 (AV.aA IntKind.i64 ((x.r.aB[i]).aE m).aC)).set 3 (AV.aA IntKind.i64 ((x.r.aB[i]).aE m).aF))=rw'.set j ((x.r.aB[i]).aE m).aA:=by
   apply VT;intro q;rw[W6,WD];by_cases c:j=q
   ·subst c;have w3g:rw'[j]=(x.r.aB[i]).aA:=by have:=w4;rw[Vi ljj]at this;exact Xe this
    simp[ljj,w3g,fO.aA]
   ·simp[c]
  have w5:=w5 ((x.r.aB[i]).aE m);simp only[fB.aB,fO.aA]at hc ld;simp only[go_sem,k0,k3,k4,rowH,B',w1,ld,Vc c1,Vq];refine fR u1.1 hc ?_;rw[gF];have nh:(n=h.length)=False:=Vs (by rintro rfl;rw[z0]at w2;omega);simp only[go_sem,k3,rowH,B',w1,w3,ld,ljj,emod,nh];obtain⟨w,hw'⟩:∃w,w=(x.r.aB[i]).aE m:=⟨_,rfl⟩;rw[<-hw']at w5 ww ea ⊢;obtain⟨y,hy⟩:∃y:RX,y={x with r:={x.r with aB:=x.r.aB.set i w}}:=⟨_,rfl⟩;have T1:fX L h' r y (h'.set n (some (.aA 4 (rw'.set j w.aA) gr))):=⟨L,⟨_,_,_,_,_,_,_,_,_,by rw[hy];exact w5⟩,λ_ _=>rfl,eY.aG _ λ_=>by show L n≠0/\L n≠11;rw[w2];decide⟩;have ea:x.aK m=(let z:=if m.ok then y.aI else y
    if m.ok=false\/w.aD<=z.r.aK then z.to w else z):=by rw[ea,hy]
  have yf:y.r.aD k:=by rw[hy];exact hR.bC i ww
  have yw:y.aA 1:=by rw[hy];exact hj
  have yfl:y.r.aB=x.r.aB.set i w:=by rw[hy]
  have K2:=T1.aC (.inl z0) B';generalize h'.set n _=H2 at *;obtain⟨z,hz⟩:∃z:RX,z=if m.ok then y.aI else y:=⟨_,rfl⟩
  have ea:x.aK m=if m.ok=false\/w.aD<=z.r.aK then z.to w else z:=by rw[ea,hz]
  have zf:z.r.aD k:=by rw[hz];split;exact yf.aN;exact yf
  have zw:z.aA 1:=by rw[hz];split;exact yw;exact yw
  have zfl:z.r.aB=x.r.aB.set i w:=by rw[hz];split;(show y.r.bz.aB=_;rw[fm.bF];exact yfl);exact yfl
  refine US (λs=>∃Λ H3,s=⟨Λ,[],H3⟩/\lk 0 Λ=.aC r 26 0 0/\lk 3 Λ=.aC h.length 17 0 0/\lk 4 Λ=.aA .i64 i/\fX L h' r z H3) ?_ ?_
  ·cases c2:m.ok;·rw[c2]at hz;simp only[go_sem];exact⟨_,_,rfl,by simp[fi,k0],by simp[fi,k3],by simp[fi,k4],by rw[hz];exact T1⟩
   ·rw[c2]at hz;simp only[go_sem,k0];refine fq ⟨u2.1,T1.aA λL' s'=>u2.2 L' H2 r y k s' yf hk⟩ ?_;intro _ H3 T3;simp only[go_sem];exact⟨_,_,rfl,by simp[fi,k0],by simp[fi,k3],by simp[fi,k4],by rw[hz];exact T3⟩
  ·rintro _ ⟨Λ,H3,rfl,q0,q3,q4,T3⟩;have B3:=T3.aC (.inl z0) B';have iz:i<z.r.aB.length:=by rw[zfl,Vh];exact ci
   obtain⟨L3,⟨g3,f3',ma3,ca3,en3,co3,cn3,cl3,sn3,a3⟩,l3,x3⟩:=id T3;have row3:=a3.aA;obtain⟨n3,j3,rw3,gr3,v1,v2,v3,v4,-⟩:=a3.aM iz;have ez:z.r.aB[i]=w:=by simp[zfl]
   rw[ez]at v4;have pc3:im H3 (.aC n3 4 j3 0)=some w.aA:=by simp[im,v3,v4]
   have ld3:gX H3 true 4 (.aC n3 4 j3 0)=some (.aE w.aA):=by rw[hP pc3];rfl
   have nld:gX H3 false 1 (.aC n3 4 j3 1)=some (.aA .i64 w.aD):=by rw[show AV.aC n3 4 j3 1=lW 1 (.aC n3 4 j3 0) from rfl,jJ pc3];rfl
   have la:=u3.2 L3 H3 r z k ⟨_,_,_,_,_,_,_,_,_,a3⟩ zf hk;have tt:=u4.2;simp only[RX.aB]at row3;simp only[fO.aA]at ld3;have to':m.ok=false\/w.aD<=z.r.aK->fy P f4 [.aC r 26 0 0,.aE w.aA] H3 λ_ h''=>fX L h r (x.aK m) h'':=λc=>by rw[ea,Vf c];exact (T3.aA λL' s'=>u4.2 L' H3 r z w s' ww.aA (zf.aU hk) (zf.aQ hk) (Vr (Vx 168 (show _<=2 by have:=zw.1;omega)) (by decide))).aA λ_ _ T=>fX.aB X T
   simp only[fO.aA]at to';cases c2:m.ok;·simp only[go_sem,q0,q3,q4,B3,row3,c2,Vt];rw[v1];simp only[go_sem,ld3];refine fq ⟨u4.1,to' (.inl c2)⟩ ?_;intro _ H4 T4;simp only[go_sem];exact T4
   ·simp only[go_sem,q0,q3,q4,B3,row3,v1,nld,c2,Vq];refine fR u3.1 la ?_;rw[gF];by_cases c3:w.aD<=z.r.aK;·simp only[go_sem,q0,q4,B3,row3,v1,nld,ld3,c2,Vc c3];refine fq ⟨u4.1,to' (.inr c3)⟩ ?_;intro _ H4 T4;simp only[go_sem];exact T4
    ·simp only[go_sem,B3,row3,nld,c2,Va c3];exact fX.aB X (by rw[ea,Ve (by rintro (y | y);rw[c2]at y;cases y;exact c3 y)];exact T3)
 ·simp at ci;have fa:oV x.r.aB m.aC=none:=Ny λj hj=>hno j hj (by omega);have ea:x.aK m=x:=by unfold RX.aK;rw[Ve (by simpa using c0)];simp only[fa]
  rw[ea];simp only[go_sem];exact fX.aB X dH.to
def lK (lo:Nat)(h:eZ)(l:fE)(a:List AV):Prop:=∃e,a=[.aA .i64 l.aA,.aA .i64 l.aB,e]/\e_ (f_ l.es) (λm=>lo<=m) h e/\gq h e
def DU (P:Program)(f:FuncId):Prop:=
 fI P f=true/\∀(F:Nat->Prop)(h:eZ)(l:fE)(a:List AV)(i:Int),fu F h l.c a->jl l->
  fy P f [.aE a,.aA .i64 i] h λr h'=>∃cs,r=.aI [.aE cs,.aA .i64 (if l.aD i then 0 else 3)]/\lK h.length h' (l.aK i) cs/\eY fj h h'
theorem Jp {P:Program}{f t k:FuncId}(hf:Is P f (Aj t k))(ht:jP P t)(hk:mC P k):DU P f:=by
 refine⟨hf.2,λF h l a i hl ok=>fN hf ?_⟩;have hl0:=hl;simp only[fE.c,fu,Rd]at hl;obtain⟨_,_,rfl,rfl,_,_,rfl,rfl,d,_,rfl,hl,rfl⟩:=hl;have ok':=ok;obtain⟨o1,o2,o3⟩:=ok;have o4:=o3.1;have hlast:l.aC=l.aA+l.es.length:=rfl;simp only[Aj,go_sem,hl.aA];refine fq ⟨ht.1,ht.2 F _ l _ i (hl0.up (eY.b2 _ _)) ok'⟩ ?_;rintro _ _ ⟨rfl,rfl⟩;cases hh:l.aD i;·simp only[go_sem];refine⟨_,rfl,?_,eY.b2 _ _⟩;simp only[fE.aK,hh];exact⟨_,rfl,e_.aC 3,Vp⟩
 ·have hi:l.aA<=i/\i<=l.aC:=by simpa [fE.aD] using hh
  have e1:IntKind.i64.wrap (i-l.aA)=i-l.aA:=fQ (by omega);obtain⟨q,hq,hqr⟩:=hl.aI (lo:=some (i-l.aA)) (hi:=none) (mx:=none) (by simp;omega) (by simp;omega) (by simp) (by simp) (by simp) (by simp);simp only[VG,Wh,V6,VH]at hqr;rw[<-List.map_drop]at hqr;simp only[go_sem,e1,hq];refine fq ⟨hk.1,hk.2 F _ (l.es.drop (i-l.aA).toNat) q (Rd.up hqr (eY.b2 _ _)) (o3.aA (by simp) (λx hx=>VM hx))⟩ ?_;rintro r h2 ⟨hr,hc,he⟩;have hB:=he.aA (iq _ _ _);have l2:=(U_.1 hB).1;simp only[go_sem,hB,hr.aA,gH hr.aA,l2];refine⟨_,rfl,?_,((eY.b2 _ _).tr he).aD (by omega) _⟩;simp only[fE.aK,hh];exact⟨r,rfl,e_.aB _ (λm hm=>by simp at hm;omega) (λm hm y hy=>by simp at hm;rw[Vb (by omega)];exact hy) _ hr,hc.aA hr (λm hm y hy=>by simp at hm;rw[Vb (by omega)];exact hy)⟩
theorem lK.aA {lo n:Nat}{h:eZ}{l:fE}{a:List AV}{b:Option fh}(o:lK lo h l a)(hn:n<lo):lK lo (h.set n b) l a:=by
 obtain⟨e,rfl,oe,ce⟩:=o;have kp:gz (λm=>lo<=m) h (h.set n b):=λm hm y hy=>by have hm:lo<=m:=hm;rw[Vb (by omega)];exact hy
 exact⟨e,rfl,e_.aB _ (λ_ y=>y) kp _ oe,ce.aA oe kp⟩
theorem lK.lo {lo lo':Nat}{h:eZ}{l:fE}{a:List AV}(o:lK lo h l a)(hn:lo'<=lo):lK lo' h l a:=by obtain⟨e,rfl,oe,ce⟩:=o;exact⟨e,rfl,e_.aB _ (λm hm=>by have hm:lo<=m:=hm;show lo'<=m;omega) (λ_ _ _ y=>y) _ oe,ce⟩
theorem lK.up {lo:Nat}{h h':eZ}{l:fE}{a:List AV}(o:lK lo h l a)(hx:eY fj h h'):lK lo h' l a:=by obtain⟨e,rfl,oe,ce⟩:=o;exact⟨e,rfl,oe.up hx,ce.aA (e_.lt _ _ oe) (λm hm y hy=>(hx.2 m hm.2 (λz=>z)).trans hy)⟩
def Ev (P:Program)(f:FuncId):Prop:=fI P f=true/\∀(F:Nat->Prop)(h:eZ)(x:fV)(c:fU)(a:List AV),fu F h x.aA.c a->jl x.aA->
 fy P f [.aE a,.aA .i64 c.aA.aA,.aA .i64 c.aA.aB] h λr h'=>∃cs,r=.aE cs/\lK h.length h' (x.aJ c) cs/\eY fj h h'
theorem J5 {P:Program}{f g k:FuncId}(hf:Is P f (Ap g k))(hg:jP P g)(hk:DU P k):Ev P f:=by
 refine⟨hf.2,λF h x c a ha hx=>fN hf ?_⟩;have ha0:=λH (e:eY fj h H)=>ha.up e;simp only[fE.c,fu,Rd]at ha;obtain⟨_,_,rfl,rfl,_,_,rfl,rfl,d,_,rfl,hd,rfl⟩:=ha;simp only[Ap,go_sem,hd.aA];have B0:=iE h (some (fh.aA 3 [[AV.aA IntKind.i64 x.aA.aA,AV.aA IntKind.i64 x.aA.aB,d]] false)) (some (fh.aA 3 [[AV.aA IntKind.i64 0,AV.aA IntKind.i64 0,AV.aB]] false));have B1:=iq h (some (fh.aA 3 [[AV.aA IntKind.i64 x.aA.aA,AV.aA IntKind.i64 x.aA.aB,d]] false)) (some (fh.aA 3 [[AV.aA IntKind.i64 0,AV.aA IntKind.i64 0,AV.aB]] false));have X0:=eY.b2 (h:=h) (some (fh.aA 3 [[AV.aA IntKind.i64 x.aA.aA,AV.aA IntKind.i64 x.aA.aB,d]] false)) (some (fh.aA 3 [[AV.aA IntKind.i64 0,AV.aA IntKind.i64 0,AV.aB]] false));generalize h++[some (fh.aA 3 [[AV.aA IntKind.i64 x.aA.aA,AV.aA IntKind.i64 x.aA.aB,d]] false)]++[some (fh.aA 3 [[AV.aA IntKind.i64 0,AV.aA IntKind.i64 0,AV.aB]] false)]=H at *;refine fR hg.1 (hg.2 F H x.aA _ c.aA.aA (ha0 H X0) hx) ?_;have l0:=(U_.1 B0).1;have l1:=(U_.1 B1).1;have no:¬(x.aA.aD c.aA.aA=true/\x.aA.aG c.aA.aA=c.aA.aB)->∀H',lK h.length H' (x.aJ c) [.aA .i64 c.aA.aA,.aA .i64 c.aA.aB,.aB]:=λhn H'=>by
  have es:x.aJ c=⟨c.aA.aA,c.aA.aB,[]⟩:=by simp only[fV.aJ];rw[Ve hn]
  rw[es];exact⟨_,rfl,e_.aC 3,Vp⟩
 cases c1:x.aA.aD c.aA.aA with
 | true=>
  by_cases c2:x.aA.aG c.aA.aA=c.aA.aB
  ·simp only[go_sem,c2,B0];refine fq ⟨hk.1,hk.2 F H x.aA _ c.aA.aA (ha0 H X0) hx⟩ ?_;rintro _ H2 ⟨cs,rfl,⟨e,rfl,oe,ce⟩,X2⟩;have es:x.aJ c=x.aA.aK c.aA.aA:=by simp[fV.aJ,c1,c2]
   have sc:=oe.aA;have C1:=(X2.tr (eY.b1 (some (fh.aA 3 [[AV.aA IntKind.i64 (x.aA.aK c.aA.aA).aA,AV.aA IntKind.i64 (x.aA.aK c.aA.aA).aB,e]] false)))).aA B1;have lx:=X2.1;have n10:(H2.length=h.length+1)=False:=Vs (by omega);have l2:h.length+1<H2.length:=by omega
   have l3:h.length+1<H2.length+1:=by omega
   have oo:lK H.length H2 (x.aA.aK c.aA.aA) [.aA .i64 (x.aA.aK c.aA.aA).aA,.aA .i64 (x.aA.aK c.aA.aA).aB,e]:=⟨e,rfl,oe,ce⟩;simp only[go_sem,es,sc,c1,C1,l3];exact⟨_,rfl,((oo.up (eY.b1 _)).aA (by omega)).lo (by omega),((X0.tr X2).tr (eY.b1 _)).aD (by omega) _⟩
  ·simp only[go_sem,Va c2,B1,l1];exact⟨_,rfl,no (λhh=>c2 hh.2) _,X0.aD (by omega) _⟩
 | false=>simp only[go_sem,B1,l1];exact⟨_,rfl,no (λhh=>by rw[c1]at hh;cases hh.1) _,X0.aD (by omega) _⟩
def EB (P:Program)(f:FuncId):Prop:=fI P f=true/\∀(F F':Nat->Prop)(h:eZ)(x:fV)(c:fU)(az cs:List AV),fu F h x.c az->fu F' h c.c cs->x.aK->c.aM->jl x.aA->c.aC=3->
 fy P f [.aE az,.aE cs] h λr h'=>∃e,r=.aI [.aE (({x with aA:=x.aJ c,aC:=c.aE,aF:=c.aJ}:fV).aG e (fA c.aE.aA) (fA c.aE.aB) (fA c.aE.aC) (gV c.aJ)),.aD true]/\e_ (f_ (x.aJ c).es) (λm=>h.length<=m) h' e/\gq h' e/\eY fj h h'
theorem Ke {P:Program}{f ch cc la ce sn:FuncId}(hf:Is P f (Aq ch cc la ce sn))(hch:yc P ch)(hcc:vm P cc)(hsn:Ev P sn):EB P f:=by
 refine⟨hf.2,λF F' h x c az cs ha hc hx hcf hlog k3=>fN hf ?_⟩;have ha0:=λH (e:eY fj h H)=>ha.up e;have hc0:=λH (e:eY fj h H)=>hc.up e;obtain⟨e1,o1,n1,d1,s1,rfl,he1,ho1,hn1,hd1,hs1⟩:=kW ha;obtain⟨e2,o2,n2,d2,s2,rfl,he2,ho2,hn2,hd2,hs2⟩:=xB hc;simp only[fV.aG]at ha0;simp only[fU.aG]at hc0;simp only[Aq,fV.aG,fU.aG,go_sem,he1.aA,ho1.aA,hn1.aA,hd1.aA,hs1.aA,he2.aA,ho2.aA,hn2.aA,hd2.aA,hs2.aA];refine fR hch.1 (hch.2 F _ x _ (ha0 _ (eY.b3 _ _ _)) hx) ?_;have q1:=n7 x.aA.es;have q2:=iB x.aC.aA;have q3:=iB x.aC.aB;have q4:=iB x.aC.aC;have q5:=l7 x.aF;have r1:=jX (f_ c.aA.es);have r2:=jX (fK c.aE.aA);have r3:=jX (fK c.aE.aB);have r4:=jX (fK c.aE.aC);have r5:=jX (fT c.aJ);simp only[go_sem,fV.aM,q1,q2,q3,q4,q5];refine fR hcc.1 (hcc.2 F' _ c _ (hc0 _ (eY.b3 _ _ _)) hcf) ?_;simp only[go_sem,fU.aN,fU.aG,r1,r2,r3,r4,r5];generalize hX:fh.aA 10 [[AV.aA IntKind.i64 x.aD,AV.aA IntKind.i64 x.aB,AV.aA IntKind.i64 x.aE,AV.aA IntKind.i64 x.aA.aA,AV.aA IntKind.i64 x.aA.aB,iD x.aA.es,fA x.aC.aA,fA x.aC.aB,fA x.aC.aC,gV x.aF]] false=XB;generalize hC:fh.aA 17 [[AV.aA IntKind.i64 c.aC,AV.aA IntKind.i64 c.aI,AV.aA IntKind.i64 c.aK,AV.aA IntKind.i64 c.aL,AV.aA IntKind.i64 c.aF,AV.aA IntKind.i64 c.aA.aA,AV.aA IntKind.i64 c.aA.aB,(f_ c.aA.es).av,(fK c.aE.aA).av,(fK c.aE.aB).av,(fK c.aE.aC).av,(fT c.aJ).av,AV.aA IntKind.i64 c.aB.aD,AV.aA IntKind.i64 c.aB.aB,AV.aA IntKind.i64 c.aB.aC,AV.aA IntKind.i64 c.aB.aA,AV.aA IntKind.i64 c.aB.aE]] false=CB;generalize hZ:fh.aA 10 [[.aA .i64 0,.aA .i64 0,.aA .i64 0,.aA .i64 0,.aA .i64 0,.aB,.aB,.aB,.aB,.aB]] false=ZB;have B0:=oS h (some XB) (some CB) (some ZB);have B1:=pG h (some XB) (some CB) (some ZB);have B2:=rT h (some XB) (some CB) (some ZB);have X0:=eY.b3 (h:=h) (some XB) (some CB) (some ZB);generalize h++[some XB]++[some CB]++[some ZB]=H at *;subst hX;subst hC;subst hZ;have l0:=(U_.1 B0).1;have l1:=(U_.1 B1).1;have l2:=(U_.1 B2).1;have n02:(h.length=h.length+1+1)=False:=Vs (by omega);have n20:(h.length+1+1=h.length)=False:=Vs (by omega);have n01:(h.length=h.length+1)=False:=Vs (by omega);have n10:(h.length+1=h.length)=False:=Vs (by omega);have n12:(h.length+1=h.length+1+1)=False:=Vs (by omega);have n21:(h.length+1+1=h.length+1)=False:=Vs (by omega);have put:∀(H:eZ)(y z:Option fh),eY fj h H->eY fj h ((H.set h.length y).set (h.length+1+1) z):=λH y z e=>(e.aD (Vg _) _).aD (by omega) _;have hR:∀H,fu (λ_=>True) H x.aA.c [.aA .i64 x.aA.aA,.aA .i64 x.aA.aB,iD x.aA.es]:=λH=>⟨_,_,rfl,by simp only[Rd],_,_,rfl,by simp only[Rd],_,_,rfl,mz _ _ _,rfl⟩;obtain⟨b0,b1,hsm⟩:=hlog;have hlast:x.aA.aC=x.aA.aA+x.aA.es.length:=rfl;have hsl:=hsm.1;have k1:¬c.aC=1:=by omega
 have k2:¬c.aC=2:=by omega
 simp only[go_sem,Va k1,Va k2,B0,B1];refine fq ⟨hsn.1,hsn.2 _ H x c _ (hR H) ⟨b0,b1,hsm⟩⟩ ?_;rintro _ H2 ⟨cs,rfl,⟨e,rfl,oe,ce⟩,X2⟩;have sc:=oe.aA;have C0:=X2.aA B0;have C1:=X2.aA B1;have C2:=X2.aA B2;have l0:=(U_.1 C0).1;have l1:=(U_.1 C1).1;have l2:=(U_.1 C2).1;simp only[go_sem,sc,C0,C1,C2,l0,l2,n02,n01,r2,r3,r4,r5,gH r5,Vh,V8];have oo:lK H.length H2 (x.aJ c) [.aA .i64 (x.aJ c).aA,.aA .i64 (x.aJ c).aB,e]:=⟨e,rfl,oe,ce⟩;have lx:=X2.1;have lH0:=X0.1;have fin:∀b d:Option fh,e_ (f_ (x.aJ c).es) (λm=>h.length<=m) ((H2.set h.length b).set (h.length+1+1) d) e/\gq ((H2.set h.length b).set (h.length+1+1) d) e:=λb d=>by
  obtain⟨e',h1,oe',ce'⟩:=((oo.aA (n:=h.length) (b:=b) (by omega)).aA (n:=h.length+1+1) (b:=d) (by omega)).lo (lo':=h.length) (by omega);obtain rfl:e=e':=by simpa using h1
  exact⟨oe',ce'⟩
 exact⟨e,rfl,(fin _ _).1,(fin _ _).2,((X0.tr X2).aD (Vg _) _).aD (by omega) _⟩
def tz (P:Program)(f:FuncId):Prop:=fI P f=true/\∀(F:Nat->Prop)(L:Nat->Nat)(h:eZ)(r:Nat)(x:RX)(base term:Int)(c:fG)(snap:List Int)(az:List AV),DX L h r x->fu F h ({fU.aD with aC:=3,aA:=⟨base,term,[]⟩,aE:=c,aJ:=snap}:fU).c az->x.r.aA.aK->jl x.r.aA.aA->c.aF (2^40)->snap.length<=2^40->x.aA 20->(∀n,F n->L n=0\/L n=11)->
 fy P f [.aC r 26 0 0,.aE az] h λ_ h'=>fX L h r (x.aV base term c snap) h'
theorem MO {P:Program}{f f1 f2:FuncId}(hf:Is P f (rZ f1 f2))(u1:EB P f1)(u2:qf P f2):tz P f:=by
 refine⟨hf.2,λF L h r x base term c snap az hx hc hfew hlog hcf hsn hj hF=>fN hf ?_⟩;obtain⟨q,hq⟩:∃q:fU,q={fU.aD with aC:=3,aA:=⟨base,term,[]⟩,aE:=c,aJ:=snap}:=⟨_,rfl⟩;rw[<-hq]at hc;obtain⟨e1,c1,c2,c3,d1,rfl,q1,q2,q3,q4,q5⟩:=Df hc;have sq1:=q1.aA;have sq2:=q2.aA;have sq3:=q3.aA;have sq4:=q4.aA;have sq5:=q5.aA;obtain⟨g,ff,ma,ca,en,co,cn,cl,sn,a⟩:=id hx;have row:=a.aA;obtain⟨s1,s2,s3,s4,s5,s6,s7,s8,s9⟩:=a.sc;obtain⟨H,hH⟩:∃H,H=h++[some (fh.aA 17 [({q with aI:=x.r.aA.aD}:fU).aG e1 c1 c2 c3 d1] false)]:=⟨_,rfl⟩;have X1:eY fj h H:=by rw[hH];exact eY.b1 _
 have B1:H[h.length]?=some (some (fh.aA 17 [({q with aI:=x.r.aA.aD}:fU).aG e1 c1 c2 c3 d1] false)):=by rw[hH];exact gh _ _
 have l1:H.length=h.length+1:=by rw[hH];simp
 have lr:=(U_.1 row).1;have R1:∀y,(h++[y])[r]?=_:=λy=>(eY.b1 y).aA row;have R2:∀y,(H++[y])[r]?=_:=λy=>(X1.tr (eY.b1 y)).aA row;have B2:∀y,(H++[y])[h.length]?=_:=λy=>(eY.b1 y).aA B1;have N1:∀sz i o,gN H.length 1 (.aC r sz i o)=true:=λsz i o=>iv (by omega);have N2:∀sz i o,gN H.length 1 (.aC h.length sz i o)=true:=λsz i o=>iv (by omega);simp only[RX.aB]at R1 R2;simp only[fU.aG]at hH B1 B2;obtain⟨E,hE⟩:∃E,E=(rZ f1 f2).aA.tl.tl:=⟨_,rfl⟩;have hE':=hE;simp only[rZ,AC.aA,fC]at hE';simp only[rZ,fC];rw[<-hE'];clear hE';simp only[go_sem,R1,sq1,sq2,sq3,sq4,sq5];rw[<-hH,hE];clear hH hE;simp only[rZ,AC.aA,go_sem,R2];simp only[go_sem,iN,N1,N2,B2];have X:=X1.tr (eY.b1 none);have rc:fu F h ({q with aI:=x.r.aA.aD}:fU).c (({q with aI:=x.r.aA.aD}:fU).aG e1 c1 c2 c3 d1):=by simp only[fU.c,fu,fU.aG];exact⟨_,_,rfl,rfl,_,_,rfl,rfl,_,_,rfl,rfl,_,_,rfl,rfl,_,_,rfl,rfl,_,_,rfl,rfl,_,_,rfl,rfl,_,_,rfl,q1,_,_,rfl,q2,_,_,rfl,q3,_,_,rfl,q4,_,_,rfl,q5,_,_,rfl,rfl,_,_,rfl,rfl,_,_,rfl,rfl,_,_,rfl,rfl,_,_,rfl,rfl,rfl⟩
 have qfew:({q with aI:=x.r.aA.aD}:fU).aM:=by rw[hq];exact⟨⟨VP _,nofun⟩,hcf,hsn⟩
 have q3':({q with aI:=x.r.aA.aD}:fU).aC=3:=by rw[hq]
 have tu:=u1.2 _ F (H++[none]) x.r.aA _ _ _ (a.aF.up X) (rc.up X) hfew qfew hlog q3';have elog:x.r.aA.aJ {q with aI:=x.r.aA.aD}=x.r.aS base term:=by rw[hq];rfl
 have econf:({q with aI:=x.r.aA.aD}:fU).aE=c/\({q with aI:=x.r.aA.aD}:fU).aJ=snap:=by rw[hq];exact⟨rfl,rfl⟩
 rw[elog,econf.1,econf.2]at tu;simp only[fU.aG]at tu;refine fq ⟨u1.1,tu⟩ ?_;rintro _ H2 ⟨en',rfl,oe,ce,X2⟩;have se:=oe.aA;have R3:=X2.aA (R2 none);have B3:=X2.aA (B2 none);have L3:=X2.aA (gh H none);have l3:=(U_.1 L3).1;have sc1:=iB c.aA;have sc2:=iB c.aB;have sc3:=iB c.aC;have sc4:=l7 snap;have ll2:=X2.1;have rH:(H.length=r)=False:=Vs (by omega);have rH':(r=H.length)=False:=Vs (by omega);have hH':(H.length=h.length)=False:=Vs (by omega);have hr':(r=h.length)=False:=Vs (by omega);have lr2:r<H2.length:=by simp only[Vj]at ll2;omega
 simp only[fV.aG,go_sem,iN,R3,B3,L3,l3,se,sc1,sc2,sc3,sc4,V8,rH,hH',hr',lr2,Vh];obtain⟨x1,hx1⟩:∃x1:RX,x1={x with r:={x.r with aA:={x.r.aA with aA:=x.r.aS base term,aC:=c,aF:=snap}}}:=⟨_,rfl⟩;have kp:∀b,gz (λm=>H.length+1<=m) H2 (H2.set H.length b):=λb m hm y hy=>by have hm:H.length+1<=m:=hm;rw[Vb (by omega)];exact hy
 simp only[kU]at oe;have X3:∀b,eY fj h (H2.set H.length b):=λb=>(X.tr X2).aD (by omega) b;have mk:=λb=>Da (e_.aB _ (λ_ y=>y) (kp b) _ oe) (ce.aA oe (kp b));obtain⟨N,hN,mk⟩:=mk (some (fh.aA 10 [[.aA .i64 x.r.aA.aD,.aA .i64 x.r.aA.aB,.aA .i64 x.r.aA.aE,.aA .i64 (x.r.aS base term).aA,.aA .i64 (x.r.aS base term).aB,en',fA c.aA,fA c.aB,fA c.aC,gV snap]] false));have fr:∀{L':Nat->Nat}{H':eZ}{p:Nat×D×AV},5<p.1->p.2.2=p.2.1.av->iY L' H' p:=fun {L' H' p} hp he=>⟨λz=>absurd z (by omega),λ_=>by rw[he];exact mz _ _ _⟩;have T4:=a.aJ (k:=5) (x':=x1) (g':=g) (f':=ff) (ma':=ma) (ca':=ca) (e':=en') (co':=fA c.aA) (cn':=fA c.aB) (cl':=fA c.aC) (sn':=gV snap) (X3 _) N (λm hm=>by have:=hN m hm;simp only[Vh]at this ⊢;omega) (λp hp=>by
  rw[hx1]at hp;simp only[dl,VR,Xl,or_false]at hp;rcases hp with rfl | rfl | rfl | rfl | rfl | rfl | rfl | rfl | rfl;·exact .inl (by simp[dl])
  ·exact .inl (by simp[dl])
  ·exact .inl (by simp[dl])
  ·exact .inl (by simp[dl])
  ·exact .inr λL' h1 h2=>mk L' h1 λm h3 h4 h5=>h2 m (by omega) h4 h5
  ·exact .inr λ_ _ _=>fr (show 5<6 by decide) rfl
  ·exact .inr λ_ _ _=>fr (show 5<7 by decide) rfl
  ·exact .inr λ_ _ _=>fr (show 5<8 by decide) rfl
  ·exact .inr λ_ _ _=>fr (show 5<9 by decide) rfl)
 have rc4:=T4.aG hF rc;simp only[fU.aG]at rc4;have ex:x.aV base term c snap=x1.aU {q with aI:=x.r.aA.aD}:=by rw[hx1,hq];rfl
 rw[ex];rw[hx1]at T4 rc4 ⊢;simp only[RX.aB]at T4 rc4;refine fq ⟨u2.1,T4.aA λL' s'=>u2.2 L' _ r _ _ _ _ s' rc4 qfew (Vr (Vx 216 (show _<=21 by have:=hj.2;show x.o.aC.length+1<=21;omega)) (by decide))⟩ ?_;intro _ H6 T6;simp only[go_sem];exact T6
theorem MN {P:Program}{f1 f2 f3 f4 f5 f6 f7 e0:FuncId}(u2:qc P f2)(u3:tP P f3)(u4:vh P f4)(u5:oC P f5)(u6:Is P f6 (qE e0))(ue:oD P e0)(u7:tz P f7){L:Nat->Nat}{h:eZ}{r n k:Nat}{x:RX}{F:Nat->Prop}{m:fB}{e d:AV}(hx:DX L h r x)(hR:x.r.aD k)(hk:k<=2^28)(hj:x.aA 1)
  (hm:fu F h m.c (m.aB e d)) (hF:∀n,F n->L n=0\/L n=11) (hmf:m.aL) (hi:0<=m.aA/\m.aA<=2^40) (B:h[n]?=some (some (fh.aA 17 [m.aB e d] false))) (hn:L n=0) (c1:¬m.aA<=x.r.aI)
  {Λ:fY} (k0:lk 0 Λ=.aC r 26 0 0) (k3:lk 3 Λ=.aC n 17 0 0) {K:AV->eZ->Prop} (hK:∀v h',fX L h r (x.aN m) h'->K v h'):
  vc P (oU f1 f2 f3 f4 f5 f6 f7).aA.tl.tl.tl.tl.tl ⟨Λ,[],h⟩ (ia (oU f1 f2 f3 f4 f5 f6 f7).aB K):=by
 obtain⟨e',d',e0',he,hd⟩:=jS hm
 obtain⟨rfl,rfl⟩:e=e'/\d=d':=by simpa [fB.aB] using e0'
 have B':=B
 simp only[fB.aB]at B'
 have hdl:=hmf.aA
 simp only[oU,AC.aA,go_sem,k3,B']
 refine fq ⟨u3.1,u3.2 _ h m.aE d hd hdl.1 (by omega)⟩ ?_
 rintro _ H2 ⟨rfl,S2,X2⟩
 have lq:=S2.lt
 simp only[go_sem]
 refine fq ⟨u4.1,u4.2 _ H2 h.length _ S2 (by omega)⟩ ?_
 rintro b1 H3 ⟨o1,S3,X3⟩
 simp only[go_sem]
 refine fq ⟨u4.1,u4.2 _ H3 h.length _ S3 (by omega)⟩ ?_
 rintro b2 H4 ⟨o2,S4,X4⟩
 have l2:=X2.1
 have l3:=X3.1
 have l4:=X4.1
 have X34:eY (hU h.length) H2 H4:=X3.aB X4 (λ_ _ z=>z) (λ_ _ z=>z)
 have XH:eY fj h H4:=⟨by omega,λm hm _=>(X34.2 m (by omega) (by show m≠h.length;omega)).trans (X2.2 m hm (λz=>z))⟩
 have o1':Rd (λ_=>True) H4 (fT (gA (some m.aE)).1) b1:=e_.rd _ (λ_ _=>Vp) _ (e_.aB _ (λ_ y=>y) (λn hn y hy=>(X4.2 n (U_.1 hy).1 (by have hn:H2.length<=n:=hn;show n≠h.length;omega)).trans hy) _ o1)
 obtain⟨tb1,tb2⟩:=Dt hdl.1 hdl.2
 have et:jZ m.aE=((gA (some m.aE)).1,(gA (gA (some m.aE)).2).1,(gA (gA (some m.aE)).2).2.aB):=rfl
 rw[et]at tb1 tb2
 simp only at tb1 tb2
 simp only[go_sem]
 refine fR u5.1 (u5.2 (λ_=>True) H4 _ b1 o1' tb1.1 (by omega)) ?_
 obtain⟨cf,hcf⟩:∃cf,cf=gZ (gA (some m.aE)).1:=⟨_,rfl⟩
 rw[<-hcf]
 simp only[go_sem,fG.aD,iB]
 have S5:=S4.up (eY.b1 (some (fh.aA 3 [[fA cf.1.aA,fA cf.1.aB,fA cf.1.aC]] false)))
 have X5:=XH.tr (eY.b1 (some (fh.aA 3 [[fA cf.1.aA,fA cf.1.aB,fA cf.1.aC]] false)))
 have C5:=gh H4 (some (fh.aA 3 [[fA cf.1.aA,fA cf.1.aB,fA cf.1.aC]] false))
 have o2':Rd (λn=>H3.length<=n) (H4++[some (fh.aA 3 [[fA cf.1.aA,fA cf.1.aB,fA cf.1.aC]] false)]) (fT (gA (gA (some m.aE)).2).1) b2:=Rd.aC (λ_ y=>y) ((eY.b1 _).aF _) _ _ (e_.rd _ (λn hn=>hn) _ o2)
 have er:x.aN m=(if ¬(gA (gA (some m.aE)).2).2.aB=0\/¬cf.2=0 then x else
   let y:=x.aV m.aA m.aI cf.1 (gA (gA (some m.aE)).2).1
   (⟨{y.r with aI:=m.aA,aO:=m.aA},{y.o with aB:=true}⟩:RX).aM m true m.aA):=by
  unfold RX.aN;rw[Ve c1];simp only[et,<-hcf]
 generalize hH5:H4++_=H5 at *
 have dx5:=hx.up X5
 have B5:=X5.aA B'
 refine fR u6.2 (DZ u6 ue S5) ?_
 have right:=λc3=>kP (uv (l:=(gA (some m.aE)).1) (by rw[<-hcf];exact c3))
 rw[<-hcf]at right
 generalize (gA (gA (some m.aE)).2).2.aB=en at *
 generalize (gA (gA (some m.aE)).2).1=sn at *
 by_cases c2:en=0
 case neg=>
  rw[Vf (.inl c2)]at er
  simp only[go_sem,Va c2,Vt]
  exact hK _ _ (by rw[er];exact fX.aB X5 dx5.to)
 by_cases c3:cf.2=0
 case neg=>
  rw[Vf (.inr c3)]at er
  simp only[go_sem,Vc c2,Va c3,Vq,Vt]
  exact hK _ _ (by rw[er];exact fX.aB X5 dx5.to)
 rw[Ve (by rintro (z | z);exact z c2;exact z c3)]at er
 simp only[go_sem,k0,k3,B5,C5,Vc c2,Vc c3,Vq,gH o2'.aA]
 have rc:fu (λm=>H3.length<=m) H5 ({fU.aD with aC:=3,aA:=⟨m.aA,m.aI,[]⟩,aE:=cf.1,aJ:=sn}:fU).c
   [.aA .i64 3,.aA .i64 0,.aA .i64 0,.aA .i64 0,.aA .i64 0,.aA .i64 m.aA,.aA .i64 m.aI,.aB,fA cf.1.aA,fA cf.1.aB,fA cf.1.aC,b2,.aA .i64 0,.aA .i64 0,.aA .i64 0,.aA .i64 0,.aA .i64 0]:=by
  simp only[fU.c,fu,fU.aD]
  exact⟨_,_,rfl,rfl,_,_,rfl,rfl,_,_,rfl,rfl,_,_,rfl,rfl,_,_,rfl,rfl,_,_,rfl,rfl,_,_,rfl,rfl,_,_,rfl,iS _ _ _,_,_,rfl,mz _ _ (fK cf.1.aA),_,_,rfl,mz _ _ (fK cf.1.aB),_,_,rfl,mz _ _ (fK cf.1.aC),_,_,rfl,o2',_,_,rfl,rfl,_,_,rfl,rfl,_,_,rfl,rfl,_,_,rfl,rfl,_,_,rfl,rfl,rfl⟩
 have zn:∀m,h.length<=m->L m=0:=λm hm=>hx.z hm
 have hfew:x.r.aA.aK:=⟨(hR.aB hk).2.2,(kP hR.aL).le (by decide),by have:=hR.aX.2;omega⟩
 refine fq ⟨u7.1,u7.2 _ L H5 r x m.aA m.aI cf.1 sn _ dx5 rc hfew (hR.aB hk) ((right c3).le (by decide)) (by omega) (hj.aA (by decide)) (λn hn'=>.inl (zn n (by have hn':H3.length<=n:=hn';omega)))⟩ ?_
 intro _ H6 T6
 have B6:=T6.aC (.inl hn) B5
 have rn:=T6.aI (n:=n) (by have:=(U_.1 B5).1;exact this) (by rw[hn];decide)
 obtain⟨y,hy⟩:∃y,y=x.aV m.aA m.aI cf.1 sn:=⟨_,rfl⟩
 have yf:y.aA 2:=by rw[hy];exact RX.aA.aC (x:=({x with r:={x.r with aA:={x.r.aA with aA:=x.r.aS m.aA m.aI,aC:=cf.1,aF:=sn}}}:RX)) hj _
 rw[<-hy]at T6 er
 obtain⟨g6,ff6,ma6,ca6,en6,co6,cn6,cl6,sn6,r1,r2,t1,t2,t3,t4,t5,go⟩:=T6.aD
 have T8:=go ⟨{y.r with aI:=m.aA,aO:=m.aA},{y.o with aB:=true}⟩ [] g6 ff6 ma6 ca6 en6 co6 cn6 cl6 sn6 rfl
 have hm8:=T8.aG hF (hm.up X5)
 simp only[RX.aB]at r1 T8 hm8
 simp only[fB.aB]at hm8
 simp only[go_sem,k0,k3,B6,r1,r2,rn,V8,Vd r2]
 refine fq ⟨u2.1,T8.aA λL' s'=>u2.2 _ L' _ r _ m _ true m.aA s' hm8 (Vr (Vx 168 (show _<=3 by have:=yf.1;show y.o.aD.length+1<=3;omega)) (by decide))⟩ ?_
 intro _ H9 T9
 simp only[go_sem]
 exact hK _ _ (by rw[er];exact fX.aB X5 T9)
def vC (P:Program)(f:FuncId):Prop:=fI P f=true/\∀(F:Nat->Prop)(L:Nat->Nat)(h:eZ)(r:Nat)(x:RX)(m:fB)(az:List AV)(k:Nat),DX L h r x->fu F h m.c az->(∀n,F n->L n=0\/L n=11)->x.r.aD k->k<=2^28->x.aA 1->m.aL->0<=m.aA/\m.aA<=2^40->
 fy P f [.aC r 26 0 0,.aE az] h λ_ h'=>fX L h r (if x.r.aM=2 then x else RX.aN ⟨{x.r.aR m.aC with aF:=0},x.o⟩ m) h'
theorem MM {P:Program}{f f1 f2 f3 f4 f5 f6 f7 e0:FuncId}(hf:Is P f (oU f1 f2 f3 f4 f5 f6 f7))(u1:qg P f1)(u2:qc P f2)(u3:tP P f3)(u4:vh P f4)(u5:oC P f5)(u6:Is P f6 (qE e0))(ue:oD P e0)(u7:tz P f7):vC P f:=by
 refine⟨hf.2,λF L h r x m az k hx hm hF hR hk hj hmf hmi=>fN hf ?_⟩;obtain⟨e,d,rfl,he,hd⟩:=jS hm;have se:=he.aA;have sd:=hd.aA;obtain⟨g,ff,ma,ca,en,co,cn,cl,sn,a⟩:=id hx;have row:=a.aA;obtain⟨E,hE⟩:∃E,E=(oU f1 f2 f3 f4 f5 f6 f7).aA.tl.tl.tl.tl.tl:=⟨_,rfl⟩;obtain⟨rs,hrs⟩:∃rs,rs=(oU f1 f2 f3 f4 f5 f6 f7).aB:=⟨_,rfl⟩;have hE':=hE;have hrs':=hrs;simp only[oU,AC.aA,fC]at hE' hrs';simp only[oU,fC];rw[<-hE',<-hrs'];clear hE';simp only[fB.aB,go_sem,se,sd];obtain⟨H,hH⟩:∃H,H=h++[some (fh.aA 17 [m.aB e d] false)]:=⟨_,rfl⟩;have X:eY fj h H:=by rw[hH];exact eY.b1 _
 have B:H[h.length]?=some (some (fh.aA 17 [m.aB e d] false)):=by rw[hH];exact gh _ _
 have z0:L h.length=0:=a.z (Vg _);have B':=B;simp only[fB.aB]at hH B';rw[<-hH];clear hH;have rowH:=X.aA row;simp only[RX.aB]at rowH;by_cases c0:x.r.aM=2;·rw[Vf c0];simp only[go_sem,rowH,Vc c0,hrs'];exact fX.aB X (hx.up X).to
 ·rw[Ve c0];simp only[go_sem,rowH,B',Va c0];refine fq ⟨u1.1,u1.2 L H r x m.aC (hx.up X)⟩ ?_;intro _ H1 T1;obtain⟨z,hz⟩:∃z:RX,z=⟨{x.r.aR m.aC with aF:=0},x.o⟩:=⟨_,rfl⟩;have zf:z.r.aD k:=by rw[hz];exact (hR.aF m.aC).aO
  have zw:z.aA 1:=by rw[hz];exact hj
  obtain⟨g1,ff1,ma1,ca1,en1,co1,cn1,cl1,sn1,r1,r2,t1,t2,t3,t4,t5,go⟩:=T1.aD;have T2:=go z [] g1 ff1 ma1 ca1 en1 co1 cn1 cl1 sn1 (by rw[hz];rfl);have r2':=Vd (a:=some (fh.aA 26 [z.aB g1 ff1 ma1 ca1 en1 co1 cn1 cl1 sn1] false)) r2;have zlog:z.r.aA.aA=x.r.aA.aA/\z.r.aI=x.r.aI/\z.r.aA=x.r.aA:=by rw[hz];exact⟨rfl,rfl,rfl⟩
  have zrow:z.aB g1 ff1 ma1 ca1 en1 co1 cn1 cl1 sn1=((RX.mk {x.r.aR m.aC with aF:=0} x.o).aB g1 ff1 ma1 ca1 en1 co1 cn1 cl1 sn1):=by rw[hz]
  rw[zrow]at T2 r2';simp only[RX.aB,fm.aR,RX.aS]at r1 T2 r2';have B1:=T1.aC (.inl z0) B';have rn:=T1.aI (U_.1 B).1 (by rw[z0];decide);simp only[go_sem,B1,r1,r2,rn];generalize H1.set r _=H2 at *;have B2:=T2.aC (.inl z0) B';rw[<-hz];obtain⟨L2,d2,l2,x2⟩:=id T2;have hm2:=T2.aG hF (hm.up X);have hF2:∀n,F n/\n<H.length->L2 n=0\/L2 n=11:=λn hn=>by rw[l2 n hn.2];exact hF n hn.1
  have back:∀{h'},fX L2 H2 r (z.aN m) h'->fX L h r (z.aN m) h':=λT=>fX.aB X (fX.aE l2 x2 T);have ans:∀(ok:Bool)(i:Int),fy P f2 [.aC r 26 0 0,.aE (m.aB e d),.aD ok,.aA .i64 i] H2 λ_ h'=>fX L2 H2 r (z.aM m ok i) h':=λok i=>u2.2 _ L2 H2 r z m _ ok i d2 hm2 (Vr (Vx 168 (show _<=2 by have:=zw.1;omega)) (by decide));simp only[fB.aB]at ans;have wi:IntKind.i64.wrap (m.aA-1)=m.aA-1:=fQ (by omega);have q1:=zlog.1;have q2:=zlog.2.1;by_cases c1:m.aA<=x.r.aI
  ·have ea:z.aN m=z.aM m true x.r.aI:=by unfold RX.aN;rw[Vf (by rw[q2];exact c1),q2]
   simp only[go_sem,B2,r2',Vc c1];refine fq ⟨u2.1,ans true x.r.aI⟩ ?_;intro _ H3 T3;rw[gF];simp only[go_sem,hrs'];exact back (by rw[ea];exact T3)
  ·simp only[go_sem,Va c1];rw[hE,hrs];exact MN u2 u3 u4 u5 u6 ue u7 d2 zf hk zw hm2 hF2 hmf hmi (T2.aC (.inl z0) B) (by rw[l2 _ (U_.1 B).1];exact z0) (by rw[q2];exact c1) (by simp[fi,ga]) (by simp[fi]) λ_ _ T=>back T
def RX.Z (x:RX):Prop:=x.o.aF=[]/\x.o.aA=0
section
variable {x:RX} {m:fB}
theorem RX.Z.aB (h:x.Z):x.aP.Z:=by have:=CI x;unfold RX.Z;rw[this.1,this.2];exact h
theorem RX.Z.aE (h:x.Z):(x.aR m).Z:=by
 unfold RX.aR;simp only;split;·split<;>exact h
 ·exact h
theorem RX.Z.aI (h:x.Z):(x.aQ m).Z:=by
 unfold RX.aQ;split;·exact h
 ·simp only;split;·exact RX.Z.aB (x:={x with r:={x.r with aG:=x.r.aG++[m.aC]}}) h
  ·exact h
theorem RX.Z.aD (h:x.Z):(x.aE m).Z:=by
 unfold RX.aE;split;·exact h
 ·split;·exact h
  ·simp only;split;·exact h
   ·split<;>exact h
theorem RX.Z.aF (h:x.Z):(x.aK m).Z:=by
 unfold RX.aK;split;·exact h
 ·split;·exact h
  ·simp only;split<;>split<;>exact h
theorem RX.Z.aG (h:x.Z):(x.aN m).Z:=by
 unfold RX.aN;split;·exact h
 ·simp only;split<;>exact h
theorem RX.Z.aC (h:x.Z):(x.aX m).Z:=by
 unfold RX.aX;split;·exact h.aE
 ·split;·exact h.aI
  ·split;·exact h.aF
   ·split;·exact h
    ·simp only;split;·exact RX.Z.aD (x:={x with r:={x.r.aR m.aC with aF:=0}}) h
     ·exact RX.Z.aG (x:={x with r:={x.r.aR m.aC with aF:=0}}) h
theorem RX.Z.aA (h:x.Z):(x.aF m).Z:=by unfold RX.aF;split<;>exact h
end
theorem MP {P:Program}{f1 f2 f3 f4 f5 f6 f7 f8 f9 f10:FuncId}(u2:pn P f2)(u5:oA P f5)(u6:vG P f6)(u7:vH P f7)(u8:vt P f8)(u9:vw P f9)(u10:vC P f10)
  {L:Nat->Nat} {h H:eZ} {r n n2 k:Nat} {x:fm} {F:Nat->Prop} {m:fB} {e d:AV} (T:fX L h r (x.aC.aF m) H) (hR:x.aD k) (hk:k+200<2^28) (hm:fu F h m.c (m.aB e d)) (hF:∀n,F n->L n=0\/L n=11) (hmf:m.aL)
  (B:h[n]?=some (some (fh.aA 17 [m.aB e d] false))) (hn:L n=0) (B2:h[n2]?=some (some (fh.aA 5 [[.aB,.aB,.aB,.aA .i64 0,.aD false]] false))) (hn2:L n2=11) (hz:∀m,h.length<=m->L m=0)
  (hgo:¬(¬m.aJ=x.aC.r.aA.aD\/m.aD<1\/5<m.aD\/(m.aD=1/\x.aC.r.aV m.aC=false)))
  {Λ:fY} (k0:lk 0 Λ=.aC r 26 0 0) (k3:lk 3 Λ=.aC n 17 0 0) (k4:lk 4 Λ=.aC n2 5 0 0) {K:AV->eZ->Prop} (hK:∀v h' b,gQ L h r (x.aY m) v h'->K v (h'.set n2 b)):
  vc P (lM f1 f2 f3 f4 f5 f6 f7 f8 f9 f10).aA.tl.tl.tl ⟨Λ,[],H⟩ (ia (lM f1 f2 f3 f4 f5 f6 f7 f8 f9 f10).aB K):=by
 have stop:∀{y:RX}{H':eZ},fX L h r y H'->x.aC.aT m=y->∀{K2:AV->eZ->Prop},(∀v H5,(∃ma ca aa,v=.aE [ma,ca,aa,.aA .i64 (x.aY m).o.aA,.aD (x.aY m).o.aB]/\ma.aG=true/\ca.aG=true/\aa.aG=true)->H5[n2]?=some (some (.aA 5 [[.aB,.aB,.aB,.aA .i64 0,.aD false]] false))->n2<H5.length->(∀b,K v (H5.set n2 b))->K2 v H5)->fy P f2 [.aC r 26 0 0] H' K2:=by
  intro y H' T' ey K2 hK2;have yf:=(xK (x:=x.aC) (m:=m) hR (by omega) (iM _) hmf).1;have yz:(x.aC.aT m).Z:=by
   rw[pW];have z0:x.aC.Z:=⟨rfl,rfl⟩;split;·exact z0
   ·split
    ·split;·exact z0.aA
     ·split<;>exact z0.aA
    ·exact z0.aA.aC
  have es:x.aY m=y.aD:=by show (x.aC.aT m).aD=_;rw[ey]
  rw[ey]at yf yz;refine (T'.aF hz λL' s'=>u2.2 L' H' r y (k+200) s' yf (by omega) yz).aA λv H5 d=>?_;have kb:=d.2.aC (.inr hn2) B2;rw[<-es]at d;obtain⟨ma5,ca5,aa5,e5,q1,q2,q3⟩:=id d.1;exact hK2 v H5 ⟨ma5,ca5,aa5,e5,q1.aA,q2.aA,q3.aA⟩ kb (U_.1 kb).1 λb=>hK v H5 b d
 obtain⟨t1,t2,t3,t4,t5,t6⟩:=xM (x:=x.aC) (m:=m) hR (iM _) hmf;have est:x.aC.aT m=if m.aF<(x.aC.aF m).r.aA.aB then
   (if m.aD=1 then (x.aC.aF m).aG {fB.aG with aD:=2,to:=m.aC} else if m.aD=3\/m.aD=5 then (x.aC.aF m).aG {fB.aG with aD:=4,to:=m.aC} else x.aC.aF m)
  else (x.aC.aF m).aX m:=by rw[pW,Ve hgo]
 have k15:1<=m.aD/\m.aD<=5:=by
  constructor;·exact Vm λz=>hgo (.inr (.inl (by omega)))
  ·exact Vm λz=>hgo (.inr (.inr (.inl (by omega))))
 generalize x.aC.aF m=y at *;have D0:=T.aC (.inl hn) B;have hm1:=T.aG hF hm;obtain⟨e',d',e0',he,hd⟩:=jS hm1;obtain⟨rfl,rfl⟩:e=e'/\d=d':=by simpa [fB.aB] using e0'
 obtain⟨g,ff,ma,ca,en,co,cn,cl,sn,r1,r2,-,-,-,-,-,-⟩:=T.aD;have snd:∀(kd:Int),fy P f5 [.aC r 26 0 0,.aE (({fB.aG with aD:=kd,to:=m.aC}:fB).aB .aB .aB)] H λ_ h''=>fX L h r (y.aG {fB.aG with aD:=kd,to:=m.aC}) h'':=λkd=>T.aA λL' s'=>u5.2 L' H r y fj {fB.aG with aD:=kd,to:=m.aC} _ s' (qT (m:={fB.aG with aD:=kd,to:=m.aC}) (iS _ _ _) (iS _ _ _)) ⟨VP _,nofun⟩ (VP _) (Vr (Vx 168 (show _<=2 by have:=t2.1;omega)) (by decide));have s2:=snd 2;have s4:=snd 4;simp only[fB.aB,fB.aG]at s2 s4;simp only[RX.aB]at r1;simp only[fB.aB]at D0;obtain⟨E,hE⟩:∃E,E=(lM f1 f2 f3 f4 f5 f6 f7 f8 f9 f10).aA.tl.tl.tl.tl:=⟨_,rfl⟩;have hE':=hE;simp only[lM,AC.aA,fC]at hE';simp only[lM,AC.aA,fC];rw[<-hE'];clear hE';simp only[go_sem,k0,k3,D0,r1];by_cases c1:m.aF<y.r.aA.aB
 ·rw[Vf c1]at est;simp only[go_sem,k3,D0,Vc c1];by_cases c2:m.aD=1
  ·rw[Vf c2]at est;have n3:¬m.aD=3:=by omega
   have n5:¬m.aD=5:=by omega
   simp only[go_sem,k0,k3,D0,Vc c2];refine fq ⟨u5.1,s2⟩ ?_;intro _ H2 T2;have D2:=T2.aC (.inl hn) B;simp only[fB.aB]at D2;simp only[go_sem,k0,k3,D2,Va n3,Va n5];refine fq ⟨u2.1,stop T2 est ?_⟩ λ_ _ z=>z;rintro _ H5 ⟨ma5,ca5,aa5,rfl,sm,sc,sa⟩ B5 lB5 kk;simp only[go_sem,k4,B5,lB5,sm,sc,sa];exact kk _
  ·rw[Ve c2]at est;simp only[go_sem,k3,D0,Va c2];by_cases c3:m.aD=3;·rw[Vf (.inl c3)]at est;simp only[go_sem,k0,k3,D0,Vc c3];refine fq ⟨u5.1,s4⟩ ?_;intro _ H2 T2;simp only[go_sem,k0];refine fq ⟨u2.1,stop T2 est ?_⟩ λ_ _ z=>z;rintro _ H5 ⟨ma5,ca5,aa5,rfl,sm,sc,sa⟩ B5 lB5 kk;simp only[go_sem,k4,B5,lB5,sm,sc,sa];exact kk _
   ·simp only[go_sem,k3,D0,Va c3];by_cases c5:m.aD=5;·rw[Vf (.inr c5)]at est;simp only[go_sem,k0,k3,D0,Vc c5];refine fq ⟨u5.1,s4⟩ ?_;intro _ H2 T2;simp only[go_sem,k0];refine fq ⟨u2.1,stop T2 est ?_⟩ λ_ _ z=>z;rintro _ H5 ⟨ma5,ca5,aa5,rfl,sm,sc,sa⟩ B5 lB5 kk;simp only[go_sem,k4,B5,lB5,sm,sc,sa];exact kk _
    ·rw[Ve (by rintro (z | z);exact c3 z;exact c5 z)]at est;simp only[go_sem,k0,Va c5];refine fq ⟨u2.1,stop T est ?_⟩ λ_ _ z=>z;rintro _ H5 ⟨ma5,ca5,aa5,rfl,sm,sc,sa⟩ B5 lB5 kk;simp only[go_sem,k4,B5,lB5,sm,sc,sa];exact kk _
 ·rw[Ve c1]at est;simp only[go_sem,Va c1];rw[hE];simp only[lM,AC.aA,go_sem,k3,D0];obtain⟨L1,d1,l1,e1⟩:=id T;have hm1':fu (λn=>F n/\n<h.length) H m.c (m.aB e d):=hm1;have hF1:∀{L':Nat->Nat},(∀q,q<h.length->L' q=L q)->∀q,(F q/\q<h.length)->L' q=0\/L' q=11:=λl q hq=>by rw[l q hq.2];exact hF q hq.1
  have callT:∀{ff:FuncId}{avs:List AV}{y':RX},(∀L',(∀q,q<h.length->L' q=L q)->DX L' H r y->fy P ff avs H λ_ h''=>fX L' H r y' h'')->fy P ff avs H λ_ h''=>fX L h r y' h'':=fun {ff avs y'} hc=>(hc L1 l1 d1).aA λv h'' b=>fX.aE l1 e1 b;have q6:=callT (ff:=f6) λL' l s'=>u6.2 _ L' H r y m _ k 1 s' hm1' t1 (by omega) t2 (by decide);have q7:=callT (ff:=f7) λL' l s'=>u7.2 _ L' H r y m _ k 1 s' hm1' t1 (by omega) t2 (by decide);simp only[fB.aB]at q6 q7;have et:y.aX m=if m.aD=1 then y.aR m else if m.aD=2 then y.aQ m else if m.aD=4 then y.aK m
   else if y.r.aM=2 then y else
    let z:RX:={y with r:={y.r.aR m.aC with aF:=0}}
    if m.aD=3 then z.aE m else z.aN m:=rfl
  rw[et]at est;by_cases c2:m.aD=1;·rw[Vf c2]at est;simp only[go_sem,k0,k3,D0,Vc c2];refine fq ⟨u6.1,q6⟩ ?_;intro _ H2 T2;simp only[go_sem,k0];refine fq ⟨u2.1,stop T2 est ?_⟩ λ_ _ z=>z;rintro _ H5 ⟨ma5,ca5,aa5,rfl,sm,sc,sa⟩ B5 lB5 kk;simp only[go_sem,k4,B5,lB5,sm,sc,sa];exact kk _
  ·rw[Ve c2]at est;simp only[go_sem,Va c2];by_cases c3:m.aD=2;·rw[Vf c3]at est;simp only[go_sem,k0,k3,D0,Vc c3];refine fq ⟨u7.1,q7⟩ ?_;intro _ H2 T2;simp only[go_sem,k0];refine fq ⟨u2.1,stop T2 est ?_⟩ λ_ _ z=>z;rintro _ H5 ⟨ma5,ca5,aa5,rfl,sm,sc,sa⟩ B5 lB5 kk;simp only[go_sem,k4,B5,lB5,sm,sc,sa];exact kk _
   ·rw[Ve c3]at est;have hmi:=hmf.aB (by omega);have q8:=callT (ff:=f8) λL' l s'=>u8.2 _ L' H r y m _ k s' hm1' (hF1 l) t1 (by omega) t2 hmf hmi;have q9:=callT (ff:=f9) λL' l s'=>u9.2 _ L' H r y m _ k s' hm1' (hF1 l) t1 (by omega) t2 hmi;have q10:=callT (ff:=f10) λL' l s'=>u10.2 _ L' H r y m _ k s' hm1' (hF1 l) t1 (by omega) t2 hmf hmi;simp only[fB.aB]at q8 q9 q10;simp only[go_sem,Va c3];by_cases c4:m.aD=3
    ·have n4:¬m.aD=4:=by omega
     rw[Ve n4]at est;have est:x.aC.aT m=if y.r.aM=2 then y else RX.aE ⟨{y.r.aR m.aC with aF:=0},y.o⟩ m:=by rw[est];simp only[Vf c4]
     simp only[go_sem,k0,k3,D0,Vc c4];refine fq ⟨u8.1,q8⟩ ?_;intro _ H2 T2;simp only[go_sem,k0];refine fq ⟨u2.1,stop T2 est ?_⟩ λ_ _ z=>z;rintro _ H5 ⟨ma5,ca5,aa5,rfl,sm,sc,sa⟩ B5 lB5 kk;simp only[go_sem,k4,B5,lB5,sm,sc,sa];exact kk _
    ·simp only[go_sem,Va c4];by_cases c5:m.aD=4;·rw[Vf c5]at est;simp only[go_sem,k0,k3,D0,Vc c5];refine fq ⟨u9.1,q9⟩ ?_;intro _ H2 T2;simp only[go_sem,k0];refine fq ⟨u2.1,stop T2 est ?_⟩ λ_ _ z=>z;rintro _ H5 ⟨ma5,ca5,aa5,rfl,sm,sc,sa⟩ B5 lB5 kk;simp only[go_sem,k4,B5,lB5,sm,sc,sa];exact kk _
     ·rw[Ve c5]at est;have c6:m.aD=5:=by omega
      have est:x.aC.aT m=if y.r.aM=2 then y else RX.aN ⟨{y.r.aR m.aC with aF:=0},y.o⟩ m:=by rw[est];simp only[Ve c4]
      simp only[go_sem,k0,k3,D0,Va c5,Vc c6];refine fq ⟨u10.1,q10⟩ ?_;intro _ H2 T2;simp only[go_sem,k0];refine fq ⟨u2.1,stop T2 est ?_⟩ λ_ _ z=>z;rintro _ H5 ⟨ma5,ca5,aa5,rfl,sm,sc,sa⟩ B5 lB5 kk;simp only[go_sem,k4,B5,lB5,sm,sc,sa];exact kk _
def vD (P:Program)(f:FuncId):Prop:=fI P f=true/\∀(F:Nat->Prop)(L:Nat->Nat)(h:eZ)(r:Nat)(x:fm)(m:fB)(az:List AV)(k:Nat),DX L h r x.aC->fu F h m.c az->(∀n,F n->L n=0\/L n=11)->x.aD k->k+200<2^28->m.aL->fy P f [.aC r 26 0 0,.aE az] h λv h'=>gQ L h r (x.aY m) v h'
theorem MQ {P:Program}{f f1 f2 f3 f4 f5 f6 f7 f8 f9 f10:FuncId}(hf:Is P f (lM f1 f2 f3 f4 f5 f6 f7 f8 f9 f10))(u1:ry P f1)(u2:pn P f2)(u3:ru P f3)(u4:qg P f4)(u5:oA P f5)(u6:vG P f6)(u7:vH P f7)(u8:vt P f8)(u9:vw P f9)(u10:vC P f10):vD P f:=by
 refine⟨hf.2,λF L h r x m az k hx hm hF hR hk hmf=>fN hf ?_⟩;obtain⟨e,d,rfl,he,hd⟩:=jS hm;have se:=he.aA;have sd:=hd.aA;obtain⟨E,hE⟩:∃E,E=(lM f1 f2 f3 f4 f5 f6 f7 f8 f9 f10).aA.tl.tl:=⟨_,rfl⟩;obtain⟨E3,hE3⟩:∃E3,E3=(lM f1 f2 f3 f4 f5 f6 f7 f8 f9 f10).aA.tl.tl.tl:=⟨_,rfl⟩;obtain⟨rs,hrs⟩:∃rs,rs=(lM f1 f2 f3 f4 f5 f6 f7 f8 f9 f10).aB:=⟨_,rfl⟩;have hE':=hE;have hE3':=hE3;have hrs':=hrs;simp only[lM,AC.aA,fC]at hE' hrs' hE3';simp only[lM,fC];rw[<-hE',<-hrs'];clear hE';simp only[fB.aB,go_sem,se,sd];obtain⟨H,hH⟩:∃H,H=h++[some (fh.aA 17 [m.aB e d] false)]++[some (fh.aA 5 [[.aB,.aB,.aB,.aA .i64 0,.aD false]] false)]:=⟨_,rfl⟩;have X:eY fj h H:=by rw[hH];exact eY.b2 _ _
 have B:H[h.length]?=some (some (fh.aA 17 [m.aB e d] false)):=by rw[hH];exact iE _ _ _
 have B2:H[h.length+1]?=some (some (fh.aA 5 [[.aB,.aB,.aB,.aA .i64 0,.aD false]] false)):=by rw[hH];exact iq _ _ _
 have B':=B;simp only[fB.aB]at hH B';rw[<-hH];clear hH;have lB:=(U_.1 B2).1;have m0:=hx.aB X (show h.length<=h.length+1 by omega) lB;have l0:(λm=>if m=h.length+1 then 11 else L m) (h.length+1)=11:=Vf rfl;have l00:(λm=>if m=h.length+1 then 11 else L m) h.length=0:=(Ve (by omega)).trans (hx.z (Vg _));have hF0:∀n,(F n/\n<h.length)->(λm=>if m=h.length+1 then 11 else L m) n=0\/(λm=>if m=h.length+1 then 11 else L m) n=11:=λn hn=>by show (if n=h.length+1 then 11 else L n)=0\/(if n=h.length+1 then 11 else L n)=11;rw[Ve (by omega)];exact hF n hn.1
 have hm0:fu (λn=>F n/\n<h.length) H m.c (m.aB e d):=fu.aA (λ_ y=>y) (X.aF _) _ _ (fu.lt _ _ hm);have fill:∀{z:RX}{H3:eZ}{v:AV}(b:Option fh),gQ (λm=>if m=h.length+1 then 11 else L m) H r z v H3->gQ L h r z v (H3.set (h.length+1) b):=λb d=>gQ.aB (by omega) lB X d b;generalize (λm=>if m=h.length+1 then 11 else L m)=L0 at *;have hz0:∀m,H.length<=m->L0 m=0:=λm hm=>m0.z hm;have stopE:x.aC.aT m=x.aC->∀{K2:AV->eZ->Prop},(∀v H5,(∃ma ca aa,v=.aE [ma,ca,aa,.aA .i64 (x.aY m).o.aA,.aD (x.aY m).o.aB]/\ma.aG=true/\ca.aG=true/\aa.aG=true)->H5[h.length+1]?=some (some (.aA 5 [[.aB,.aB,.aB,.aA .i64 0,.aD false]] false))->h.length+1<H5.length->(∀b,gQ L h r (x.aY m) v (H5.set (h.length+1) b))->K2 v H5)->fy P f2 [.aC r 26 0 0] H K2:=by
  intro ey K2 hK2;have es:x.aY m=x.aC.aD:=by show (x.aC.aT m).aD=_;rw[ey]
  refine (m0.to.aF hz0 λL' s'=>u2.2 L' H r _ k s' hR (by omega) ⟨rfl,rfl⟩).aA λv H5 d=>?_;have kb:=d.2.aC (.inr l0) B2;rw[<-es]at d;obtain⟨ma5,ca5,aa5,e5,q1,q2,q3⟩:=id d.1;exact hK2 v H5 ⟨ma5,ca5,aa5,e5,q1.aA,q2.aA,q3.aA⟩ kb (U_.1 kb).1 λb=>fill b d
 have bad:(¬m.aJ=x.aC.r.aA.aD\/m.aD<1\/5<m.aD\/(m.aD=1/\x.aC.r.aV m.aC=false))->x.aC.aT m=x.aC:=λc=>by rw[pW];exact Vf c
 have e1:x.aC.r=x:=rfl;rw[e1]at bad;obtain⟨g,ff,ma,ca,en,co,cn,cl,sn,r1,r2,-,-,-,-,-,-⟩:=m0.to.aD;simp only[RX.aB,fm.aC]at r1;have go:¬(¬m.aJ=x.aA.aD\/m.aD<1\/5<m.aD\/(m.aD=1/\x.aV m.aC=false))->∀{Λ:fY},lk 0 Λ=.aC r 26 0 0->lk 3 Λ=.aC h.length 17 0 0->lk 4 Λ=.aC (h.length+1) 5 0 0->vc P E ⟨Λ,[],H⟩ (ia rs λv h'=>gQ L h r (x.aY m) v h'):=by
  intro hgo Λ k0 k3 k4;have tail:∀{Λ:fY}{H2:eZ},fX L0 H r (x.aC.aF m) H2->lk 0 Λ=.aC r 26 0 0->lk 3 Λ=.aC h.length 17 0 0->lk 4 Λ=.aC (h.length+1) 5 0 0->vc P E3 ⟨Λ,[],H2⟩ (ia rs λv h'=>gQ L h r (x.aY m) v h'):=fun {Λ H2} T q0 q3 q4=>by rw[hE3,hrs];exact MP u2 u5 u6 u7 u8 u9 u10 T hR hk hm0 hF0 hmf B l00 B2 l0 hz0 hgo q0 q3 q4 λv h' b d=>fill b d
  rw[hE];simp only[lM,AC.aA,fC];rw[<-hE3'];simp only[go_sem,k0,k3,B',r1];by_cases c1:x.aA.aB<m.aF;·have et:x.aC.aF m=(x.aC.aL m.aF 0).aS 0:=Vf c1;rw[et]at tail;simp only[go_sem,k0,k3,B',Vc c1];refine fq ⟨u3.1,m0.to.aA λL' s'=>u3.2 L' H r x.aC m.aF 0 s' (by show (0+1)*216<=2^46;decide)⟩ ?_;intro _ H2 T2;simp only[go_sem,k0];refine fq ⟨u4.1,T2.aA λL' s'=>u4.2 L' H2 r _ 0 s'⟩ ?_;intro _ H3 T3;simp only[go_sem];exact tail T3 (by simp[fi,k0]) (by simp[fi,k3]) (by simp[fi,k4])
  ·have et:x.aC.aF m=x.aC:=Ve c1;rw[et]at tail;simp only[go_sem,Va c1];exact tail m0.to (by simp[fi,k0]) (by simp[fi,k3]) (by simp[fi,k4])
 clear hE hE3 hE3';simp only[go_sem,r1];by_cases c1:m.aJ=x.aA.aD
 ·simp only[go_sem,B',Vc c1,Vq];by_cases c2:m.aD<1;·simp only[go_sem,Vc c2];refine fq ⟨u2.1,stopE (bad (.inr (.inl c2))) ?_⟩ λ_ _ z=>z;rintro _ H5 ⟨ma5,ca5,aa5,rfl,sm,sc,sa⟩ B5 lB5 kk;simp only[go_sem,B5,lB5,sm,sc,sa,hrs'];exact kk _
  ·simp only[go_sem,B',Va c2];by_cases c3:5<m.aD;·simp only[go_sem,Vc c3];refine fq ⟨u2.1,stopE (bad (.inr (.inr (.inl c3)))) ?_⟩ λ_ _ z=>z;rintro _ H5 ⟨ma5,ca5,aa5,rfl,sm,sc,sa⟩ B5 lB5 kk;simp only[go_sem,B5,lB5,sm,sc,sa,hrs'];exact kk _
   ·simp only[go_sem,B',Va c3];by_cases c4:m.aD=1
    ·simp only[go_sem,B',Vc c4];refine fR u1.1 (u1.2 L0 H r x.aC k m.aC m0 hR (by omega)) ?_;rw[gF,e1];cases c5:x.aV m.aC;·simp only[go_sem,B',r1,Vt];refine fq ⟨u2.1,stopE (bad (.inr (.inr (.inr ⟨c4,c5⟩)))) ?_⟩ λ_ _ z=>z;rintro _ H5 ⟨ma5,ca5,aa5,rfl,sm,sc,sa⟩ B5 lB5 kk;simp only[go_sem,B5,lB5,sm,sc,sa,hrs'];exact kk _
     ·simp only[go_sem,B',r1,Vq];exact go (by rintro (z | z | z | z);exact z c1;exact c2 z;exact c3 z;rw[c5]at z;cases z.2) (by simp[fi,ga]) (by simp[fi]) (by simp[fi])
    ·simp only[go_sem,Va c4];exact go (by rintro (z | z | z | z);exact z c1;exact c2 z;exact c3 z;exact c4 z.1) (by simp[fi,ga]) (by simp[fi]) (by simp[fi])
 ·simp only[go_sem,Va c1,Vt];refine fq ⟨u2.1,stopE (bad (.inl c1)) ?_⟩ λ_ _ z=>z;rintro _ H5 ⟨ma5,ca5,aa5,rfl,sm,sc,sa⟩ B5 lB5 kk;simp only[go_sem,B5,lB5,sm,sc,sa,hrs'];exact kk _
theorem gQ.aA {L:Nat->Nat}{h H:eZ}{r:Nat}{R:fm}(hx:DX L h r R.aC)(X:eY fj h H):gQ L h r R.aC (.aE [.aB,.aB,.aB,.aA .i64 0,.aD false]) H:=
 ⟨⟨_,_,_,rfl,iS _ _ _,iS _ _ _,iS _ _ _⟩,fX.aB X (hx.up X).to⟩
def vA (P:Program)(f:FuncId):Prop:=fI P f=true/\∀(F:Nat->Prop)(L:Nat->Nat)(h:eZ)(r:Nat)(x:fm)(k:Nat)(kind:Int)(data:List Int)(d:AV),DX L h r x.aC->x.aD k->k+1<2^28->Rd F h (fT data) d->gK data/\data.length<=2^16->gO kind->
 fy P f [.aC r 26 0 0,.aA .i64 kind,d] h λv h'=>∃w,v=.aI [.aA .i64 (x.aP kind data).1,w,.aA .i64 (x.aP kind data).2.2]/\gQ L h r (x.aP kind data).2.1 w h'
theorem MF {P:Program}{f f1 f2 f3 f4 f5 f6:FuncId}(hf:Is P f (mG f1 f2 f3 f4 f5 f6))(u1:oC P f1)(u2:oz P f2)(u3:vz P f3)(u4:rq P f4)(u5:tA P f5)(u6:pn P f6):vA P f:=by
 refine⟨hf.2,λF L h r x k kind data d hx hR hk hd hdata hkind=>fN hf ?_⟩;have sd:=hd.aA;simp only[mG,go_sem];obtain⟨H,hH⟩:∃H,H=h++[some (fh.aA 5 [[.aB,.aB,.aB,.aA .i64 0,.aD false]] false)]:=⟨_,rfl⟩;have X1:eY fj h H:=by rw[hH];exact eY.b1 _
 have B1:H[h.length]?=some (some (fh.aA 5 [[.aB,.aB,.aB,.aA .i64 0,.aD false]] false)):=by rw[hH];exact gh _ _
 rw[<-hH];clear hH;have lB:=(U_.1 B1).1;have m0:=hx.aB X1 (Vg _) lB;have l0:(λm=>if m=h.length then 11 else L m) h.length=11:=Vf rfl;have fill:∀{z:RX}{H3:eZ}{v:AV}(b:Option fh),gQ (λm=>if m=h.length then 11 else L m) H r z v H3->gQ L h r z v (H3.set h.length b):=λb d=>gQ.aB (Vg _) lB X1 d b;generalize (λm=>if m=h.length then 11 else L m)=L0 at *;obtain⟨g,ff,ma,ca,en,co,cn,cl,sn,r1,r2,-,-,-,-,-,-⟩:=m0.to.aD;simp only[RX.aB,fm.aC]at r1;simp only[go_sem,r1];by_cases c1:x.aM=2;case neg=>
  have e1:x.aP kind data=(0,x.aC,30):=by unfold fm.aP;rw[Vf c1]
  simp only[go_sem,Va c1,Vt,B1,lB,e1];exact⟨_,rfl,gQ.aA hx (X1.aD (Vg _) _)⟩
 simp only[go_sem,Vc c1,Vq];by_cases c2:kind=1\/kind=2;case neg=>
  have n1:¬kind=1:=λz=>c2 (.inl z);have n2:¬kind=2:=λz=>c2 (.inr z);have e1:x.aP kind data=(0,x.aC,13):=by unfold fm.aP;rw[Ve (λz=>z c1),Vf ⟨n1,n2⟩]
  simp only[go_sem,Va n1,Va n2,Vt,B1,lB,e1];exact⟨_,rfl,gQ.aA hx (X1.aD (Vg _) _)⟩
 obtain⟨E,hE⟩:∃E,E=(mG f1 f2 f3 f4 f5 f6).aA.tl.tl.tl:=⟨_,rfl⟩;have hE':=hE;simp only[mG,AC.aA,fC]at hE';rw[<-hE'];clear hE';obtain⟨rs,hrs⟩:∃rs,rs=(mG f1 f2 f3 f4 f5 f6).aB:=⟨_,rfl⟩;have hrs':=hrs;simp only[mG,fC]at hrs';have go:∀{Λ:fY},lk 0 Λ=.aC r 26 0 0->lk 1 Λ=.aA .i64 kind->lk 2 Λ=d->lk 7 Λ=.aC h.length 5 0 0->vc P E ⟨Λ,[],H⟩ (ia rs λv h'=>∃w,v=.aI [.aA .i64 (x.aP kind data).1,w,.aA .i64 (x.aP kind data).2.2]/\gQ L h r (x.aP kind data).2.1 w h'):=by
  intro Λ k0 k1 k2 k7;obtain⟨E2,hE2⟩:∃E2,E2=(mG f1 f2 f3 f4 f5 f6).aA.tl.tl.tl.tl.tl:=⟨_,rfl⟩;have hE2':=hE2;simp only[mG,AC.aA,fC]at hE2';rw[hE];simp only[mG,AC.aA,fC];rw[<-hE2'];clear hE2';simp only[go_sem,k2];refine fR u1.1 (u1.2 F H data d (hd.up X1) hdata.1 (by omega)) ?_;obtain⟨cf,hcf⟩:∃cf,cf=gZ data:=⟨_,rfl⟩;rw[<-hcf];simp only[go_sem,fG.aD,iB,k1];have X2:=eY.b1 (h:=H) (some (fh.aA 3 [[fA cf.1.aA,fA cf.1.aB,fA cf.1.aC]] false));have B2:=X2.aA B1;have X12:=X1.tr X2;have m2:=m0.up X2;have dT:fX L0 H r x.aC (H++[some (fh.aA 3 [[fA cf.1.aA,fA cf.1.aB,fA cf.1.aC]] false)]):=m0.to.up X2;have hd2:=hd.up X12;generalize H++_=H2 at *;have lB2:=(U_.1 B2).1;by_cases c3:kind=2/\¬cf.2=0
  ·have e1:x.aP kind data=(0,x.aC,4):=by unfold fm.aP;rw[Ve (λz=>z c1),Ve (by rintro⟨a,b⟩;exact b c3.1),Vf (by rw[<-hcf];exact c3)]
   simp only[go_sem,k7,Vc c3.1,Va c3.2,Vt,B2,lB2,e1,hrs'];exact⟨_,rfl,gQ.aA hx (X12.aD (Vg _) _)⟩
  have ne:¬(¬kind=1/\¬kind=2):=λz=>c2.elim z.1 z.2;have la:=u2.2 L0 H2 r x.aC k m2 hR (by omega);have e1r:x.aC.r=x:=rfl;rw[e1r]at la;have kk:gO kind:=hkind;have go2:∀{Λ:fY},lk 0 Λ=.aC r 26 0 0->lk 1 Λ=.aA .i64 kind->lk 2 Λ=d->lk 7 Λ=.aC h.length 5 0 0->vc P (mG f1 f2 f3 f4 f5 f6).aA.tl.tl.tl.tl.tl ⟨Λ,[],H2⟩ (ia rs λv h'=>∃w,v=.aI [.aA .i64 (x.aP kind data).1,w,.aA .i64 (x.aP kind data).2.2]/\gQ L h r (x.aP kind data).2.1 w h'):=by
   intro Λ k0 k1 k2 k7;simp only[mG,AC.aA,go_sem,k0];refine fR u2.1 la ?_;have eL:(2:Int)^40=1099511627776:=by decide
   by_cases c4:1099511627776<=x.aK
   ·have e1:x.aP kind data=(0,x.aC,17):=by unfold fm.aP;rw[Ve (λz=>z c1),Ve ne,Ve (by rw[<-hcf];exact c3),Vf (by rw[eL];exact c4)]
    simp only[go_sem,k7,Vc c4,B2,lB2,e1,hrs'];exact⟨_,rfl,gQ.aA hx (X12.aD (Vg _) _)⟩
   ·have e1:x.aP kind data=(x.aK+1,(((x.aC.aC kind data).on).aI).aD,0):=by unfold fm.aP;rw[Ve (λz=>z c1),Ve ne,Ve (by rw[<-hcf];exact c3),Ve (by rw[eL];exact c4)]
    have f2':=fm.aD.aP (x:=x.aC) hR (by omega) (kind:=kind) hdata hkind;have w2:=RX.aA.aD (iM x) kind data;have ll:(x.aC.aC kind data).r.aK=x.aK+1:=by rw[CH];split<;>(simp only[fm.aK,fE.aC,fm.bB,fm.aC,Vj,VD,VN];omega)
    simp only[go_sem,k0,k1,k2,Va c4];refine fq ⟨u3.1,dT.aA λL' s'=>u3.2 F L' H2 r x.aC k 0 kind data d s' hR (by omega) (iM x) (by decide) hd2 hdata hkind⟩ ?_;intro _ H3 T3;obtain⟨L3,d3,l3,x3⟩:=id T3;simp only[go_sem,k0];refine fR u2.1 (u2.2 L3 H3 r _ (k+1) d3 f2' (by omega)) ?_;rw[ll];simp only[go_sem,k0];refine fq ⟨u4.1,T3.aA λL' s'=>u4.2 L' H3 r _ (k+1) 1 s' f2' (by omega) w2 (by decide)⟩ ?_;intro _ H4 T4;have er:(x.aC.aC kind data).on.r=(x.aC.aC kind data).r:=(nW _ _).1;simp only[go_sem,k0];refine fq ⟨u5.1,T4.aA λL' s'=>u5.2 L' H4 r _ (k+1) s' (by rw[er];exact f2') (by omega)⟩ ?_;intro _ H5 T5;simp only[go_sem,k0];have fs:((x.aC.aC kind data).on.aI).r.aD (k+1):=by show (x.aC.aC kind data).on.r.bz.aD (k+1);rw[er];exact f2'.aN
    have zz:((x.aC.aC kind data).on.aI).Z:=by have:=sw (x.aC.aC kind data).r.aB (x.aC.aC kind data);show ((x.aC.aC kind data).aJ (x.aC.aC kind data).r.aB).o.aF=[]/\((x.aC.aC kind data).aJ (x.aC.aC kind data).r.aB).o.aA=0;rw[this.1,this.2,uE];exact⟨rfl,rfl⟩
    refine fq ⟨u6.1,T5.aF (λm hm=>m0.z hm) λL' s'=>u6.2 L' H5 r _ (k+1) s' fs (by omega) zz⟩ ?_;rintro v H6 d6;have B6:=d6.2.aC (.inr l0) B1;have lB6:=(U_.1 B6).1;obtain⟨ma6,ca6,aa6,rfl,q1,q2,q3⟩:=id d6.1;have sm:=q1.aA;have sc:=q2.aA;have sa:=q3.aA;simp only[go_sem,k7,B6,lB6,sm,sc,sa,hrs'];exact⟨_,by rw[e1],by rw[e1];exact fill _ d6⟩
  by_cases c5:kind=2
  ·have c6:cf.2=0:=Vm λz=>c3 ⟨c5,z⟩;simp only[go_sem,Vc c5,Vc c6,Vq];rw[hE2];exact go2 (by simp[fi,k0]) (by simp[fi,k1]) (by simp[fi,k2]) (by simp[fi,k7])
  ·simp only[go_sem,Va c5];rw[hE2];exact go2 (by simp[fi,k0]) (by simp[fi,k1]) (by simp[fi,k2]) (by simp[fi,k7])
 clear hE;by_cases c5:kind=1;·simp only[go_sem,Vc c5,Vq,<-hrs'];exact go (by simp[fi,ga]) (by simp[fi,ga]) (by simp[fi,ga]) (by simp[fi])
 ·have c6:kind=2:=c2.elim (λz=>absurd z c5) id;simp only[go_sem,Va c5,Vc c6,Vt,Vq,<-hrs'];exact go (by simp[fi,ga]) (by simp[fi,ga]) (by simp[fi,ga]) (by simp[fi])
def vB (P:Program)(f:FuncId):Prop:=fI P f=true/\∀(L:Nat->Nat)(h:eZ)(r:Nat)(x:fm)(k:Nat),DX L h r x.aC->x.aD k->k+1<2^28->
 fy P f [.aC r 26 0 0] h λv h'=>∃w,v=.aI [.aA .i64 x.aX.1,w,.aA .i64 x.aX.2.2]/\gQ L h r x.aX.2.1 w h'
theorem MJ {P:Program}{f f1 f2:FuncId}(hf:Is P f (qG f1 f2))(u1:jP P f1)(u2:rq P f2):vB P f:=by
 refine⟨hf.2,λL h r x k hx hR hk=>fN hf ?_⟩;obtain⟨E,hE⟩:∃E,E=(qG f1 f2).aA.tl.tl.tl.tl:=⟨_,rfl⟩;obtain⟨rs,hrs⟩:∃rs,rs=(qG f1 f2).aB:=⟨_,rfl⟩;have hE':=hE;have hrs':=hrs;simp only[qG,AC.aA,fC]at hE' hrs';simp only[qG,fC];rw[<-hE',<-hrs'];clear hE';simp only[go_sem];obtain⟨H,hH⟩:∃H,H=h++[some (fh.aA 5 [[.aB,.aB,.aB,.aA .i64 0,.aD false]] false)]:=⟨_,rfl⟩;have X1:eY fj h H:=by rw[hH];exact eY.b1 _
 have B1:H[h.length]?=some (some (fh.aA 5 [[.aB,.aB,.aB,.aA .i64 0,.aD false]] false)):=by rw[hH];exact gh _ _
 rw[<-hH];clear hH;have lB:=(U_.1 B1).1;have m0:=hx.aB X1 (Vg _) lB;have l0:(λm=>if m=h.length then 11 else L m) h.length=11:=Vf rfl;have fill:∀{z:RX}{H3:eZ}{v:AV}(b:Option fh),gQ (λm=>if m=h.length then 11 else L m) H r z v H3->gQ L h r z v (H3.set h.length b):=λb d=>gQ.aB (Vg _) lB X1 d b;generalize (λm=>if m=h.length then 11 else L m)=L0 at *;have hz0:∀m,H.length<=m->L0 m=0:=λm hm=>m0.z hm;obtain⟨g,ff,ma,ca,en,co,cn,cl,sn,a⟩:=id m0;have row:=a.aA;have lr:=(U_.1 row).1;have s5:=a.sc.2.2.2.2.1;have T1:=a.aD (x':=({x with aL:=x.aL+1}:fm).aC) (g':=g) (f':=ff) (ma':=ma) (ca':=ca) (e':=en) (co':=co) (cn':=cn) (cl':=cl) (sn':=sn) [] rfl;simp only[RX.aB,fm.aC]at row T1;simp only[go_sem,row];by_cases c1:x.aM=2;case neg=>
  have e1:x.aX=(0,x.aC,30):=by unfold fm.aX;rw[Vf c1]
  simp only[go_sem,Va c1,Vt,B1,lB,e1,hrs'];exact⟨_,rfl,gQ.aA hx (X1.aD (Vg _) _)⟩
 have lg:fu (Ds L0 H) H x.aA.aA.c [.aA .i64 x.aA.aA.aA,.aA .i64 x.aA.aA.aB,en]:=a.aC;simp only[go_sem,Vc c1,Vq,row];refine fR u1.1 (u1.2 _ H x.aA.aA _ x.aI lg (hR.aB (by omega))) ?_;rw[gF];have err:(x.aA.aA.aD x.aI=false\/¬x.aA.aA.aG x.aI=x.aA.aB)->x.aX=(0,x.aC,11):=λz=>by unfold fm.aX;rw[Ve (λz=>z c1),Vf z]
 cases c2:x.aA.aA.aD x.aI;·simp only[go_sem,row,Vt,B1,lB,err (.inl c2),hrs'];exact⟨_,rfl,gQ.aA hx (X1.aD (Vg _) _)⟩
 by_cases c3:x.aA.aA.aG x.aI=x.aA.aB
 case neg=>simp only[go_sem,row,Vq,Va c3,Vt,B1,lB,err (.inr c3),hrs'];exact⟨_,rfl,gQ.aA hx (X1.aD (Vg _) _)⟩
 have er:x.aX=(x.aL+1,({x with aL:=x.aL+1}:fm).aC.on,0):=by unfold fm.aX;rw[Ve (λz=>z c1),Ve (by rintro (z | z);rw[c2]at z;cases z;exact z c3)]
 simp only[go_sem,row,Vq,Vc c3];rw[hE,er];have hro:=hR.bA;have ew:IntKind.i64.wrap (x.aL+1)=x.aL+1:=fQ (by omega);simp only[qG,AC.aA,go_sem,row,ew];have f1':({x with aL:=x.aL+1}:fm).aD (k+1):=by obtain⟨g1,g2,g3,g4,g5,g6,g7,g8,g9,g10,g11,g12,g13,g14,g15⟩:=hR.aA (WB k);exact⟨g1,g2,g3,g4,g5,g6,g7,g8,g9,g10,g11,⟨by show 0<=x.aL+1;omega,by show x.aL+1<=((k+1:Nat):Int);omega⟩,g13,g14,g15⟩
 refine fq ⟨u2.1,T1.aA λL' s'=>u2.2 L' _ r _ (k+1) 0 s' f1' (by omega) (iM _) (by omega)⟩ ?_;intro _ H4 T4;have ez:=sw ({x with aL:=x.aL+1}:fm).aC.r.aB ({x with aL:=x.aL+1}:fm).aC;have er':({x with aL:=x.aL+1}:fm).aC.on.r.aL=x.aL+1:=by rw[show ({x with aL:=x.aL+1}:fm).aC.on.r=({x with aL:=x.aL+1}:fm).aC.r from (nW _ _).1];rfl
 have ez:({x with aL:=x.aL+1}:fm).aC.on.Z:=⟨ez.1,ez.2⟩;have T4:fX L0 H r ({x with aL:=x.aL+1}:fm).aC.on H4:=T4;generalize ({x with aL:=x.aL+1}:fm).aC.on=y at *;have B4:=T4.aC (.inr l0) B1;obtain⟨L4,⟨g4,ff4,ma4,ca4,en4,co4,cn4,cl4,sn4,a4⟩,l4,x4⟩:=id T4;have row4:=a4.aA;have lr4:=(U_.1 row4).1;have lB4:=(U_.1 B4).1;obtain⟨s1,s2,s3,s4,-,-,-,-,-⟩:=a4.sc;have rn:=T4.aI lB (by rw[l0];decide);have R5:∀y,(H4++[y])[r]?=_:=λy=>(eY.b1 y).aA row4;have B5:∀y,(H4++[y])[h.length]?=_:=λy=>(eY.b1 y).aA B4;simp only[RX.aB]at row4 R5;have q1:r<H4.length+1:=by omega
 have q2:(H4.length=r)=False:=Vs (by omega);have q3:(r=H4.length)=False:=Vs (by omega);have q4:(H4.length=h.length)=False:=Vs (by omega);have q5:(h.length=H4.length)=False:=Vs (by omega);have q6:h.length<H4.length+1:=by omega
 have q7:H4.length<H4.length+1:=by omega
 have q8:(h.length=r)=False:=Vs (λz=>by rw[z]at rn;simp at rn);have B6:∀y,(H4++[y])[H4.length]?=some y:=λy=>gh H4 y;simp only[go_sem,row4,s3,s4,R5,B5,B6,q1,q3,q5,q6,q8,rn,Vh,Vj,VD,VN,hrs',er'];have RM:∀p∈dl y g4 ff4 ma4 ca4 en4 co4 cn4 cl4 sn4,∀b c,Rd (λm=>L0 m≠11) ((H4++[b]).set r c) p.2.1 p.2.2:=λp hp b c=>by
  have d:=kt hp;refine Rd.aC (λm hm=>?_) (λm hm y hy=>?_) _ _ (a4.rd hp)
  ·by_cases z:m<H.length
   ·rw[<-l4 m z];have:=hm.1;omega
   ·rw[hz0 m (by omega)];decide
  ·exact (Vb (by rintro rfl;have:=hm.1;rw[a4.lr]at this;omega)).trans ((eY.b1 b).aA hy)
 refine⟨_,rfl,fill _ ⟨⟨ma4,ca4,.aB,by rw[ez.2],?_,?_,by rw[ez.1];exact iS _ _ _⟩,?_⟩⟩;·exact RM (3,ks y.o.aD,ma4) (by simp[dl]) _ _
 ·exact RM (4,jQ y.o.aC,ca4) (by simp[dl]) _ _
 ·have s:=(a4.up (eY.b1 (some (fh.aA 5 [[ma4,ca4,.aB,.aA .i64 0,.aD y.o.aB]] false)))).aD (x':=⟨y.r,hM.aE⟩) (g':=g4) (f':=ff4) (ma':=.aB) (ca':=.aB) (e':=en4) (co':=co4) (cn':=cn4) (cl':=cl4) (sn':=sn4) [2,3] rfl;simp only[RX.aB,hM.aE,er']at s;exact fX.aE l4 x4 (fX.aB (eY.b1 _) s)
def yk (P:Program)(f:FuncId):Prop:=fI P f=true/\∀(L:Nat->Nat)(h:eZ)(r:Nat)(x:fm)(k:Nat)(round:Int),DX L h r x.aC->x.aD k->k<=2^28->
 fy P f [.aC r 26 0 0,.aA .i64 round] h λv h'=>v=.aD (x.bD round)/\h'=h
theorem MK {P:Program}{f f1:FuncId}(hf:Is P f (AF f1))(u1:rz P f1):yk P f:=by
 refine⟨hf.2,λL h r x k round hx hR hk=>iF (kD _ _) (fN hf ?_)⟩;obtain⟨g,ff,ma,ca,en,co,cn,cl,sn,a⟩:=id hx;have row:=a.aA;have hfl:=hR.aD;simp only[RX.aB,fm.aC]at row;simp only[AF,go_sem,row];by_cases c1:x.aM=2;case neg=>
  have e1:x.bD round=false:=by unfold fm.bD;rw[Vf (.inl c1)]
  simp only[go_sem,Va c1,Vt,e1];exact eY.aC _ _
 by_cases c2:round<1
 ·have e1:x.bD round=false:=by unfold fm.bD;rw[Vf (.inr (.inl c2))]
  simp only[go_sem,Vc c1,Vq,Vc c2,e1];exact eY.aC _ _
 by_cases c3:x.aL<round
 ·have e1:x.bD round=false:=by unfold fm.bD;rw[Vf (.inr (.inr c3))]
  simp only[go_sem,row,Vc c1,Vq,Va c2,Vc c3,e1];exact eY.aC _ _
 have e1:x.bD round=x.aE.aG (x.id :: (x.aB.filter λf=>decide (round<=f.aF)).map fO.aB):=by unfold fm.bD;rw[Ve (by rintro (z | z | z);exact z c1;exact c2 z;exact c3 z)]
 rw[e1];simp only[go_sem,row,Vc c1,Vq,Va c2,Va c3];have fl:g_ ff=some (.aA .i64 x.aB.length):=a.aG;have rf:Rd (λm=>(L m=2\/L m=0)/\m<h.length) h (ig x.aB) ff:=iY.rd (a.aB (2,ig x.aB,ff) (by simp[dl,fm.aC]));obtain⟨Q,hQ⟩:∃Q:fO->Bool,Q=λf=>decide (round<=f.aF):=⟨_,rfl⟩;rw[<-hQ];obtain⟨I,hI⟩:∃I:Nat->fY->eZ->Prop,∀q Le h',I q Le h'↔∃(i:Nat)(o:AV),lk 0 Le=.aC r 26 0 0/\lk 1 Le=.aA .i64 round/\lk 5 Le=o/\lk 6 Le=.aA .i64 i/\e_ (fK (x.id :: ((x.aB.take i).filter Q).map fO.aB)) (λm=>h.length<=m) h' o/\gq h' o/\eY fj h h'/\i<=x.aB.length/\q=x.aB.length-i:=⟨_,λ_ _ _=>Wu⟩;refine gJ I x.aB.length ((hI _ _ _).2 ⟨0,.aF h.length 1 0 1 (some 1),by simp[fi,ga],by simp[fi,ga],by simp[fi],by simp[fi],?_,?_,eY.b1 _,by omega,by omega⟩) ?_;·exact .inr (.inr ⟨_,0,some 1,_,_,rfl,Vg _,gh _ _,by simp,(λc hc=>by cases hc;simp),by simp[fP,fW,e_]⟩)
 ·exact⟨_,_,gh _ _,(λe=>by cases e),(λc hc=>by cases hc;simp)⟩
 intro q Le h' hh;obtain⟨i,o,k0,k1,k5,k6,oo,oc,X,hi,rfl⟩:=(hI _ _ _).1 hh;have row':=X.aA row;simp only[FX,go_sem,k0,k6,row',fl];refine gx (λci=>?_) (λci=>?_)
 ·simp at ci;have ew:IntKind.i64.wrap ((i:Int)+1)=((i+1:Nat):Int):=by rw[fQ (by omega)];omega
  obtain⟨p,cs,i1,i2,i3⟩:=(rf.up X).aD .i64 (i:=(i:Int)) (d:=(x.aB[i]).c) (by omega) (by rw[V6,VE,Vi ci];rfl);obtain rfl:=mP i3;have tk:x.aB.take (i+1)=x.aB.take i++[x.aB[i]]:=Vv ci;have fn:(x.aB.take (i+1)).filter Q=(x.aB.take i).filter Q++[x.aB[i]].filter Q:=by rw[tk,Wt]
  simp only[go_sem,k0,k1,k6,row',i1,ko i2,jJ i2,fO.aA];by_cases c4:round<=(x.aB[i]).aF
  ·have q1:[x.aB[i]].filter Q=[x.aB[i]]:=by rw[hQ];simp[c4]
   rw[q1]at fn;have R2:∀y,(h'++[y])[r]?=_:=λy=>(eY.b1 y).aA row';have pc2:∀y,im (h'++[y]) p=some (x.aB[i]).aA:=λy=>mv i2 (eY.b1 y);have tl:=Wn i x.aB;have fl':=We Q (x.aB.take i);obtain⟨o',h8,ha,ho',hc',he8⟩:=jr (bytes:=8) (es:=[[D.aA .i64 (x.aB[i]).aB]]) (h:=h'++[some (fh.aA 1 [[.aA .i64 (x.aB[i]).aB]] false)]) oo oc (eY.b1 _) (ys:=[[.aA .i64 (x.aB[i]).aB]])
    (by simp[fP,fW,e_]) X.1 (by simp only[Vo,VD,VN];omega)
   have ae:iV (h'++[some (fh.aA 1 [[.aA .i64 (x.aB[i]).aB]] false)]) 1 (.aF h'.length 1 0 1 (some 1))=some [[.aA .i64 (x.aB[i]).aB]]:=pB (g:=false) (gh _ _) (some 1) (len:=1) rfl;rw[<-ic ae]at ha;simp only[go_sem,k0,k5,k6,row',i1,ko i2,jJ i2,fO.aA,Vc c4,ha,ew];refine⟨_,by omega,(hI _ _ _).2 ⟨i+1,o',by simp[fi,k0],by simp[fi,k1],by simp[fi],by simp[fi],?_,hc',(X.tr (eY.b1 _)).aI he8 (λm hm hm'=>by omega),by omega,rfl⟩⟩;rw[fn];simpa [fK] using ho'
  ·have q1:[x.aB[i]].filter Q=[]:=by rw[hQ];simp[c4]
   rw[q1,Wo]at fn;simp only[go_sem,k6,Va c4,ew];exact⟨_,by omega,(hI _ _ _).2 ⟨i+1,o,by simp[fi,k0],by simp[fi,k1],by simp[fi,k5],by simp[fi],by rw[fn];exact oo,oc,X,by omega,rfl⟩⟩
 ·simp at ci;obtain rfl:i=x.aB.length:=by omega
  rw[VH]at oo;simp only[go_sem,k0,k5];have ll:(x.id :: (x.aB.filter Q).map fO.aB).length<=2^40:=by have:=We Q x.aB;simp only[VD,Vo];omega
  refine fR u1.1 (u1.2 L h' r x.aC k _ (x.id :: (x.aB.filter Q).map fO.aB) _ (hx.up X) hR hk (e_.rd _ (λ_ y=>y) _ oo) ll) ?_;simp only[go_sem];exact⟨rfl,X⟩
def vu (P:Program)(f:FuncId):Prop:=fI P f=true/\∀(F:Nat->Prop)(L:Nat->Nat)(h:eZ)(r:Nat)(x:fm)(k:Nat)(index:Int)(snap:List Int)(s:AV),DX L h r x.aC->x.aD k->k<2^28->Rd F h (fT snap) s->(∀n,F n->L n=0\/L n=11)->gK snap/\snap.length<=2^16->
 fy P f [.aC r 26 0 0,.aA .i64 index,s] h λv h'=>∃w,v=.aI [w,.aA .i64 (x.a_ index snap).2]/\gQ L h r (x.a_ index snap).1 w h'
theorem Mh {P:Program}{f f1 f2 f3 f4:FuncId}(hf:Is P f (qF f1 f2 f3 f4))(u1:jP P f1)(u2:nM P f2)(u3:tz P f3)(u4:pn P f4):vu P f:=by
 refine⟨hf.2,λF L h r x k index snap s hx hR hk hd hF hsnap=>fN hf ?_⟩;obtain⟨E,hE⟩:∃E,E=(qF f1 f2 f3 f4).aA.tl.tl:=⟨_,rfl⟩;obtain⟨rs,hrs⟩:∃rs,rs=(qF f1 f2 f3 f4).aB:=⟨_,rfl⟩;have hE':=hE;have hrs':=hrs;simp only[qF,AC.aA,fC]at hE' hrs';simp only[qF,fC];rw[<-hE',<-hrs'];clear hE';simp only[go_sem];obtain⟨H,hH⟩:∃H,H=h++[some (fh.aA 5 [[.aB,.aB,.aB,.aA .i64 0,.aD false]] false)]:=⟨_,rfl⟩;have X1:eY fj h H:=by rw[hH];exact eY.b1 _
 have B1:H[h.length]?=some (some (fh.aA 5 [[.aB,.aB,.aB,.aA .i64 0,.aD false]] false)):=by rw[hH];exact gh _ _
 rw[<-hH];clear hH;have lB:=(U_.1 B1).1;have m0:=hx.aB X1 (Vg _) lB;have l0:(λm=>if m=h.length then 11 else L m) h.length=11:=Vf rfl;have hF0:∀n,(F n/\n<h.length)->(λm=>if m=h.length then 11 else L m) n=0\/(λm=>if m=h.length then 11 else L m) n=11:=λn hn=>by show (if n=h.length then 11 else L n)=0\/(if n=h.length then 11 else L n)=11;rw[Ve (by omega)];exact hF n hn.1
 have fill:∀{z:RX}{H3:eZ}{v:AV}(b:Option fh),gQ (λm=>if m=h.length then 11 else L m) H r z v H3->gQ L h r z v (H3.set h.length b):=λb d=>gQ.aB (Vg _) lB X1 d b;have hd0:Rd (λn=>F n/\n<h.length) H (fT snap) s:=Rd.aC (λ_ y=>y) (X1.aF _) _ _ (Rd.lt _ _ hd);generalize (λm=>if m=h.length then 11 else L m)=L0 at *;have hz0:∀m,H.length<=m->L0 m=0:=λm hm=>m0.z hm;obtain⟨g,ff,ma,ca,en,co,cn,cl,sn,a⟩:=id m0;have row:=a.aA;have lr:=(U_.1 row).1;obtain⟨s1,s2,s3,s4,s5,s6,s7,s8,s9⟩:=a.sc;simp only[RX.aB,fm.aC]at row;simp only[go_sem,row];have sd:=hd.aA;have err:(index<=x.aA.aA.aA\/x.aO<index)->x.a_ index snap=(x.aC,3):=λz=>by unfold fm.a_;rw[Vf z]
 by_cases c1:index<=x.aA.aA.aA
 ·simp only[go_sem,Vc c1,B1,lB,err (.inl c1),hrs'];exact⟨_,rfl,gQ.aA hx (X1.aD (Vg _) _)⟩
 by_cases c2:x.aO<index
 ·simp only[go_sem,row,Va c1,Vc c2,B1,lB,err (.inr c2),hrs'];exact⟨_,rfl,gQ.aA hx (X1.aD (Vg _) _)⟩
 simp only[go_sem,row,Va c1,Va c2];rw[hE];have hat:=hR.aK;have hb:=hR.aC;have hl:=hR.aE;have hl2:x.aA.aA.aC=x.aA.aA.aA+x.aA.aA.es.length:=rfl;have ewi:IntKind.i64.wrap (index-x.aA.aA.aA)=index-x.aA.aA.aA:=fQ (by omega);have lg:fu (Ds L0 H) H x.aA.aA.c [.aA .i64 x.aA.aA.aA,.aA .i64 x.aA.aA.aB,en]:=a.aC;obtain⟨up,hup⟩:∃up:fV,up={x.aA with aA:={x.aA.aA with es:=x.aA.aA.es.take (index-x.aA.aA.aA).toNat}}:=⟨_,rfl⟩;have hupc:up.aC.aI=true:=by rw[hup];exact hR.aL
 have hupR:up.aL:=by obtain⟨g1,g2,g3,g4⟩:=hR.aI (Nat.le_of_lt hk);rw[hup];exact⟨g1,by simp only[Vw];omega,λe he=>g3 e (V0 he),g4⟩
 have ep:x.a_ index snap=((x.aC.aV index (x.aA.aA.aG index) up.of.1 snap).aD,0):=by unfold fm.a_;rw[Ve (by omega)];subst hup;rfl
 simp only[qF,AC.aA,go_sem,row];refine fR u1.1 (u1.2 _ H x.aA.aA _ index lg (hR.aB (by omega))) ?_;simp only[go_sem,row,s5,s6,s7,s8,s9];have re:Rd (Ds L0 H) H (f_ x.aA.aA.es) en:=a.rd (p:=(5,f_ x.aA.aA.es,en)) (by simp[dl,fm.aC]);have rco:Rd (Ds L0 H) H (fK up.aC.aA) co:=by rw[hup];exact a.rd (p:=(6,fK x.aA.aC.aA,co)) (by simp[dl,fm.aC])
 have rcn:Rd (Ds L0 H) H (fK up.aC.aB) cn:=by rw[hup];exact a.rd (p:=(7,fK x.aA.aC.aB,cn)) (by simp[dl,fm.aC])
 have rcl:Rd (Ds L0 H) H (fK up.aC.aC) cl:=by rw[hup];exact a.rd (p:=(8,fK x.aA.aC.aC,cl)) (by simp[dl,fm.aC])
 have rsn:Rd (Ds L0 H) H (fT up.aF) sn:=by rw[hup];exact a.rd (p:=(9,fT x.aA.aF,sn)) (by simp[dl,fm.aC])
 have lene:(x.aA.aA.es.map gj.c).length=x.aA.aA.es.length:=by simp
 obtain⟨q,hq,hqr⟩:=re.aI (lo:=none) (hi:=some (index-x.aA.aA.aA)) (mx:=none) (by simp) (by simp;omega) (by simp;omega) (by simp) (by simp;omega) (by simp);simp only[VG,Wh,W_,Wf]at hqr;rw[<-WL]at hqr;have sq:=hqr.aA;have eup:up.aD=x.aA.aD/\up.aB=x.aA.aB/\up.aE=x.aA.aE/\up.aA.aA=x.aA.aA.aA/\up.aA.aB=x.aA.aA.aB/\up.aA.es=x.aA.aA.es.take (index-x.aA.aA.aA).toNat:=by rw[hup];exact⟨rfl,rfl,rfl,rfl,rfl,rfl⟩
 have hq5:fu (Ds L0 H) H up.c [.aA .i64 x.aA.aD,.aA .i64 x.aA.aB,.aA .i64 x.aA.aE,.aA .i64 x.aA.aA.aA,.aA .i64 x.aA.aA.aB,q,co,cn,cl,sn]:=by obtain⟨u1,u2,u3,u4,u5,u6⟩:=eup;rw[<-u1,<-u2,<-u3,<-u4,<-u5];simp only[fV.c,fu];exact⟨_,_,rfl,rfl,_,_,rfl,rfl,_,_,rfl,rfl,_,_,rfl,rfl,_,_,rfl,rfl,_,_,rfl,by rw[u6];exact hqr,_,_,rfl,rco,_,_,rfl,rcn,_,_,rfl,rcl,_,_,rfl,rsn,rfl⟩
 have eset:∀a b:Option fh,(H++[a]).set H.length b=H++[b]:=λa b=>by rw[WC _ _ (Vg _)];simp
 have bget:∀a:Option fh,(H++[a])[H.length]?=some a:=λa=>by simp
 have blt:H.length<H.length+1:=Nat.lt_succ_self _;simp only[go_sem,ewi,hq,bget,eset,sq,gH sq,VD,VN];obtain⟨H5,hH5⟩:∃H5,H5=H++[some (fh.aA 10 [[.aA .i64 x.aA.aD,.aA .i64 x.aA.aB,.aA .i64 x.aA.aE,.aA .i64 x.aA.aA.aA,.aA .i64 x.aA.aA.aB,q,co,cn,cl,sn]] false)]:=⟨_,rfl⟩;have X5:eY fj H H5:=by rw[hH5];exact eY.b1 _
 rw[<-hH5];clear hH5;refine fR u2.1 (u2.2 _ H5 up _ (hq5.up X5) hupR) ?_;obtain⟨cf,hcf⟩:∃cf,cf=up.of.1:=⟨_,rfl⟩;have hcfr:cf.aI=true:=by rw[hcf];exact (fV.aQ hupc).1
 rw[<-hcf]at ep ⊢;simp only[go_sem,fG.aD,iB];obtain⟨H6,hH6⟩:∃H6,H6=H5++[some (fh.aA 3 [[fA cf.aA,fA cf.aB,fA cf.aC]] false)]:=⟨_,rfl⟩;have B6:H6[H5.length]?=some (some (fh.aA 3 [[fA cf.aA,fA cf.aB,fA cf.aC]] false)):=by rw[hH6];exact gh _ _
 have X6:eY fj H H6:=by rw[hH6];exact X5.tr (eY.b1 _)
 rw[<-hH6];clear hH6;have d6:=hd0.up X6;have ssn:=sd;simp only[go_sem,gH sd];have rc:fu (λn=>F n/\n<h.length) H6 ({fU.aD with aC:=3,aA:=⟨index,x.aA.aA.aG index,[]⟩,aE:=cf,aJ:=snap}:fU).c
   [.aA .i64 3,.aA .i64 0,.aA .i64 0,.aA .i64 0,.aA .i64 0,.aA .i64 index,.aA .i64 (x.aA.aA.aG index),.aB,fA cf.aA,fA cf.aB,fA cf.aC,s,.aA .i64 0,.aA .i64 0,.aA .i64 0,.aA .i64 0,.aA .i64 0]:=by
  simp only[fU.c,fu,fU.aD];exact⟨_,_,rfl,rfl,_,_,rfl,rfl,_,_,rfl,rfl,_,_,rfl,rfl,_,_,rfl,rfl,_,_,rfl,rfl,_,_,rfl,rfl,_,_,rfl,iS _ _ _,_,_,rfl,mz _ _ (fK cf.aA),_,_,rfl,mz _ _ (fK cf.aB),_,_,rfl,mz _ _ (fK cf.aC),_,_,rfl,d6,_,_,rfl,rfl,_,_,rfl,rfl,_,_,rfl,rfl,_,_,rfl,rfl,_,_,rfl,rfl,rfl⟩
 have hfew:x.aA.aK:=⟨(hR.aB (by omega)).2.2,(kP hR.aL).le (by decide),by have:=hR.aX.2;omega⟩;have ba:=u3.2 _ L0 H6 r x.aC index (x.aA.aA.aG index) cf snap _ (m0.up X6) rc hfew (hR.aB (by omega)) ((kP hcfr).le (by decide)) (by omega) ((iM _).aA (by decide)) hF0;refine fq ⟨u3.1,ba⟩ ?_;intro _ H7 T7;have T7:=fX.aB X6 T7;simp only[go_sem];have cfit:(x.aC.aV index (x.aA.aA.aG index) cf snap).r.aD k:=Cp hR hsnap ⟨by omega,by omega⟩ hcfr;refine fq ⟨u4.1,T7.aF hz0 λL' s'=>u4.2 L' H7 r _ k s' cfit (by omega) ⟨rfl,rfl⟩⟩ ?_;rintro v H8 d8;have B8:=d8.2.aC (.inr l0) B1;have lB8:=(U_.1 B8).1;obtain⟨ma8,ca8,aa8,rfl,q1,q2,q3⟩:=id d8.1;have sm:=q1.aA;have sc:=q2.aA;have sa:=q3.aA;simp only[go_sem,B8,lB8,sm,sc,sa,hrs'];exact⟨_,by rw[ep],by rw[ep];exact fill _ d8⟩
end Glb
