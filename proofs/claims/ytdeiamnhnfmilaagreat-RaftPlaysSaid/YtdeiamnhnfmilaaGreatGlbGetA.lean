/-
  A library of its own.
-/
import Derived.Test.YtdeiamnhnfmilaaGreatGlbTurA
set_option linter.unusedSimpArgs false
set_option linter.unusedVariables false
set_option maxRecDepth 10000
set_option maxHeartbeats 16000000
namespace Glb
open Go
theorem Qz {F:Nat->Prop}{h:eZ}{sz:Nat}{ds:List (List D)}{a:AV}{k:Nat}(ho:e_ (.sl sz ds) F h a)(hF:∀m,F m->m<k):a.aJ k=true:=by
 simp only[e_]at ho;rcases ho with⟨rfl,-⟩ | ⟨t,c,rfl,-⟩ | ⟨n,off,cap,row,g,rfl,hn,-⟩
 ·rfl
 ·simp[AV.aJ,AV.aS]
 ·simp only[AV.aJ];simp[hF n hn]
theorem ie.aD {P:Program}{f:FuncId}{u:List AV}{F:Nat->Prop}{h:eZ}{q:Nat}{C st:fZ}{K:AV->eZ->Prop}{K':AV->Prop}(hr:ie F h q C)(hq:¬F q)(hF:∀m,F m->m<h.length)
  (hc:fy P f u h K) (hk:∀r h',K r h'->ie F h' q st/\eY (hU q) h h'/\∃r',gM h.length h' r r'/\K' r'):
  fy P f u h λr h'=>K' r/\ie F h' q st/\eY (hU q) h h'/\h'.length=h.length:=by
 refine fy.aD hc λr h' hK=>?_;obtain⟨hs,hx,r',E,I⟩:=hk r h' hK;obtain⟨b,p,all,h1,h2,h3,h4,h5,h6⟩:=hs;have hlt:=hr.lt;obtain⟨b0,p0,all0,g1,-⟩:=hr;refine⟨r',h.set q (some (.aA 3 [[b,.aA .i64 p,.aD st.isNone]] false)),⟨hx.1,Vh,λm hm=>?_⟩,E,I,⟨b,p,all,Vd hlt,?_,h3,h4,h5,h6⟩,eY.aG _ (λ_=>rfl),Vh⟩
 ·by_cases e:m=q
  ·subst e;refine .inr ⟨_,_,_,_,_,_,_,g1,h1,Vd hm,?_,rfl,λi j c' t=>⟨c',t,gM.aE ?_⟩⟩;·intro e he;simp only[W4]at he;subst he;exact⟨rfl,by simp only[List.all_cons,List.all_nil,h2.aA,IB,IA];rfl⟩
   ·have bu:=Qz h2 hF;cases i with
    | zero=>
     match j with
     | 0=>simp[gi]at t;subst t;exact bu
     | 1=>simp[gi]at t;subst t;rfl
     | 2=>simp[gi]at t;subst t;rfl
     | j+3=>simp[gi]at t
    | succ i=>simp[gi]at t
  ·exact .inl ⟨hx.2 m hm e,Vb (λx=>e x.symm)⟩
 ·refine e_.aB _ (λ_ x=>x) (λm hm y hy=>?_) _ h2;have e:m≠q:=λe=>hq (e▸hm);rw[Vb (λx=>e x.symm),<-hx.2 m (hF m hm) e];exact hy
def RP (P:Program)(f:FuncId)(K':fZ->AV->Prop)(nx:fZ->fZ):Prop:=fI P f=true/\∀(F:Nat->Prop)(h:eZ)(q:Nat)(st:fZ),ie F h q st->¬F q->(∀m,F m->m<h.length)->
 fy P f [.aC q 3 0 0] h λr h'=>K' st r/\ie F h' q (nx st)/\eY (hU q) h h'/\h'.length=h.length
theorem tI.p {P:Program}{f:FuncId}(hc:tI P f):RP P f (λst r=>r=fA (ib gw st).1) (λst=>(ib gw st).2):=
 ⟨hc.1,λF h q st hr hq hF=>ie.aD (K':=λr=>r=fA (ib gw st).1) hr hq hF (hc.2 F h q st hr hq) λ_ _ ⟨h1,h2,h3⟩=>⟨h2,h3,_,gM.d (e_.fz (fK _) (λ_ x=>x) _ h1),rfl⟩⟩
def yq {T:Type}(P:Program)(f:FuncId)(c:T->List D)(dec:fZ->T×fZ):Prop:=RP P f (λst r=>∃x,r=.aE (D.aB (c x))/\((dec st).2≠none->x=(dec st).1)) (λst=>(dec st).2)
theorem NQ {P:Program}{f g:FuncId}(hf:Is P f (Ar g))(hg:tI P g):yq P f fG.c iI.aA:=by
 refine⟨hf.2,λF h q st hr hq hF=>?_⟩;have gp:=hg.p;refine ie.aD (K:=λr h'=>r=.aE (iI.aA st).1.v/\ie F h' q (iI.aA st).2/\eY (hU q) h h') (K':=λr=>∃x,r=.aE (D.aB (fG.c x))/\((iI.aA st).2≠none->x=(iI.aA st).1)) hr hq hF (fN hf ?_) λr h' ⟨h1,h2,h3⟩=>⟨h2,h3,r,?_,_,h1,λ_=>rfl⟩;rotate_left;·rw[h1];exact gM.aA (sy _ _ _)
 have ed:iI.aA st=(⟨(ib gw st).1,(ib gw (ib gw st).2).1,(ib gw (ib gw (ib gw st).2).2).1⟩,(ib gw (ib gw (ib gw st).2).2).2):=rfl;rw[ed];have lq:=hr.lt;simp only[Ar,go_sem];have Z:=eY.b1 (h:=h) (some (.aA 3 [[.aB,.aB,.aB]] false));have r0:=hr.up Z;have B0:=gh h (some (.aA 3 [[.aB,.aB,.aB]] false));have hl:(h++[some (fh.aA 3 [[.aB,.aB,.aB]] false)]).length=h.length+1:=by simp
 generalize h++[some (fh.aA 3 [[.aB,.aB,.aB]] false)]=H at *;have E:∀m,F m->m<H.length:=λm hm=>by have:=hF m hm;omega
 refine fq ⟨gp.1,gp.2 F H q st r0 hq E⟩ ?_;rintro _ h1 ⟨rfl,r1,x1,l1⟩;change ie F h1 q (ib gw st).2 at r1;have C0:=(x1.2 h.length (by omega) (by simp only[hU];omega)).trans B0;have X1:eY (hU q) h h1:=Z.aB x1 (F'':=hU q) (λ_ _ x=>x.elim) (λ_ _ x=>x);generalize (ib gw st).1=a1 at *;generalize (ib gw st).2=s1 at *;simp only[go_sem,iB];have ZA:=eY.b1 (h:=h1) (some (.aA 3 [[fA a1,.aB,.aB]] false));have r1:=r1.up ZA;have C0:=ZA.aA C0;have A1:=gh h1 (some (.aA 3 [[fA a1,.aB,.aB]] false));have X1:=X1.aB ZA (F'':=hU q) (λ_ _ x=>x) (λ_ _ x=>x.elim);have hl1:(h1++[some (fh.aA 3 [[fA a1,.aB,.aB]] false)]).length=h1.length+1:=by simp
 have nn:h1.length=h.length+1:=by omega
 generalize h1++[some (fh.aA 3 [[fA a1,.aB,.aB]] false)]=H1 at *;refine fq ⟨gp.1,gp.2 F H1 q s1 r1 hq (λm hm=>by have:=hF m hm;omega)⟩ ?_;rintro _ h2 ⟨rfl,r2,x2,l2⟩;change ie F h2 q (ib gw s1).2 at r2;have C0:=(x2.2 h.length (by omega) (by simp only[hU];omega)).trans C0;have A2:=(x2.2 h1.length (by omega) (by simp only[hU];omega)).trans A1;have X1:=X1.aB x2 (λ_ _ x=>x) (λ_ _ x=>x);generalize (ib gw s1).1=a2 at *;generalize (ib gw s1).2=s2 at *;have u:=(U_.1 A2).1;simp only[go_sem,A2,iB,Co];have r2:=r2.aA (h':=h2.set h1.length (some (.aA 3 [[fA a1,fA a2,.aB]] false))) (Vb (by omega)) (λm hm y hy=>by have:=hF m hm;rw[Vb (by omega)];exact hy);have C0:=(Vb (l:=h2) (i:=h1.length) (a:=some (.aA 3 [[fA a1,fA a2,.aB]] false)) (by omega)).trans C0;have A2:=Vd (l:=h2) (a:=some (fh.aA 3 [[fA a1,fA a2,.aB]] false)) u;have X1:=X1.aK (n:=h1.length) (by omega) (some (.aA 3 [[fA a1,fA a2,.aB]] false));have hl2:(h2.set h1.length (some (fh.aA 3 [[fA a1,fA a2,.aB]] false))).length=h2.length:=Vh;generalize h2.set h1.length (some (fh.aA 3 [[fA a1,fA a2,.aB]] false))=H2 at *;refine fq ⟨gp.1,gp.2 F H2 q s2 r2 hq (λm hm=>by have:=hF m hm;omega)⟩ ?_;rintro _ h3 ⟨rfl,r3,x3,l3⟩;change ie F h3 q (ib gw s2).2 at r3;have C0:=(x3.2 h.length (by omega) (by simp only[hU];omega)).trans C0;have A3:=(x3.2 h1.length (by omega) (by simp only[hU];omega)).trans A2;have X1:=X1.aB x3 (λ_ _ x=>x) (λ_ _ x=>x);generalize (ib gw s2).1=a3 at *;generalize (ib gw s2).2=s3 at *;have t:=(U_.1 A3).1;have C:=(U_.1 C0).1;have b:(h1.length=h.length)=False:=Vs (by omega);simp only[go_sem,A3,t,b,C0,C,Vh,iB,Co];refine⟨by rw[fG.aD],?_,(X1.aK (by omega) _).aK (by omega) _⟩;exact (r3.aA (Vb (by omega)) (λm hm y hy=>by have:=hF m hm;rw[Vb (by omega)];exact hy)).aA (Vb (by omega)) (λm hm y hy=>by have:=hF m hm;rw[Vb (by omega)];exact hy)
def oC (P:Program)(f:FuncId):Prop:=fI P f=true/\∀(G:Nat->Prop)(h:eZ)(l:List Int)(b:AV),Rd G h (fT l) b->gK l->l.length<=2^37->
 fy P f [b] h λr h'=>r=.aI [.aE (gZ l).1.v,.aA .i64 (gZ l).2]/\h'=h
theorem Q_ {P:Program}{f rd co en e0 ck:FuncId}(hf:Is P f (An rd co en ck))(E:tP P rd)(cp:yq P co fG.c iI.aA)
  (I:Is P en (qE e0)) (a0:oD P e0) (hk:p9 P ck):oC P f:=by
 refine⟨hf.2,λG h l b hb M hlen=>?_⟩;refine fy.aB (K:=λr h'=>∃zs,r=.aI [.aE zs,.aA .i64 (gZ l).2]/\kF h.length h' (gZ l).1.c zs/\eY fj h h') (fN hf ?_) (λ_ _ ⟨_,e,hz,hx⟩=>⟨hx,_,e▸gM.aC (gM.aA hz) (gM.aB _ _),rfl⟩);simp only[An,go_sem];have Z:=eY.b1 (h:=h) (some (.aA 3 [[.aB,.aB,.aB]] false));have B0:=gh h (some (.aA 3 [[.aB,.aB,.aB]] false));have hb:=hb.up Z;have hl:(h++[some (fh.aA 3 [[.aB,.aB,.aB]] false)]).length=h.length+1:=by simp
 generalize h++[some (fh.aA 3 [[.aB,.aB,.aB]] false)]=H at *;refine fq ⟨E.1,E.2 G H l b hb M (by omega)⟩ ?_;rintro _ h1 ⟨rfl,r1,x1⟩;have r1:=r1.aC;have C0:=x1.aA B0;have X1:=Z.tr x1;obtain⟨q,U⟩:∃q,H.length=q:=⟨_,rfl⟩;rw[U]at r1 ⊢;have lq1:=r1.lt;obtain⟨F,u⟩:∃F:Nat->Prop,F=λm=>q+1<=m/\m<h1.length:=⟨_,rfl⟩;have hq:¬F q:=by rw[u];intro hh;have:=hh.1;omega
 rw[<-u]at r1;have hF:∀m,F m->m<h1.length:=λm hm=>by rw[u]at hm;exact hm.2
 have hF2:∀m,F m->h.length+2<=m:=λm hm=>by rw[u]at hm;have:=hm.1;omega
 clear u;simp only[go_sem];refine fq ⟨cp.1,cp.2 F h1 q (some l) r1 hq hF⟩ ?_;rintro _ h3 ⟨⟨t,rfl,d⟩,r3,x3,l3⟩;change ie F h3 q (iI.aA (some l)).2 at r3;have C0:=(x3.2 h.length (by omega) (by simp only[hU];omega)).trans C0;have X1:=X1.aB x3 (F'':=fj) (λ_ _ x=>x) (λm hm W=>by simp only[hU]at W;omega);have vq:D.aB (fG.c t)=[fA t.aA,fA t.aB,fA t.aC]:=fG.aD t;simp only[vq,go_sem,iB];have ZA:=eY.b1 (h:=h3) (some (.aA 3 [[fA t.aA,fA t.aB,fA t.aC]] false));have r3:=r3.up ZA;have C0:=ZA.aA C0;have A1:=gh h3 (some (.aA 3 [[fA t.aA,fA t.aB,fA t.aC]] false));have X1:=X1.tr ZA;have hl1:(h3++[some (fh.aA 3 [[fA t.aA,fA t.aB,fA t.aC]] false)]).length=h3.length+1:=by simp
 generalize h3++[some (fh.aA 3 [[fA t.aA,fA t.aB,fA t.aC]] false)]=H1 at *;refine fq ⟨I.2,DZ I a0 r3⟩ ?_;rintro _ h9 ⟨rfl,rfl⟩;have C:h.length<h9.length:=by omega
 have few:iI.aA (some l)=((iI.aA (some l)).1,some [])->(iI.aA (some l)).1.aF (2^38):=λhh=>by obtain⟨n1,n2,n3,-⟩:=GD M hh;exact⟨by omega,by omega,by omega⟩
 simp only[gZ,go_sem];generalize iI.aA (some l)=R at *;by_cases c:R.2.aB=0
 ·have es:=fZ.aC c;have fw:=few (by rw[<-es]);obtain rfl:=d (by rw[es];simp);have c':¬R.2.aB≠0:=by simpa using c
  rw[Ve c'];simp only[go_sem,c,A1];refine fq ⟨hk.1,hk.2 (λ_=>True) h9 R.1 _ (by rw[<-fG.aD];exact my _ _ _) fw⟩ ?_;rintro _ h9 ⟨rfl,rfl⟩;cases cr:R.1.aI with
  | true=>simp only[go_sem,A1,C0,C,iB];exact⟨_,rfl,by rw[<-fG.aD];exact sy _ _ _,X1.aK (by omega) _⟩
  | false=>have O:decide ((29:Int)=0)=false:=rfl;simp only[go_sem,O,C0,C];exact⟨_,rfl,⟨_,_,rfl,iJ.fz (.inl ⟨rfl,rfl⟩) (Vg _),_,_,rfl,iJ.fz (.inl ⟨rfl,rfl⟩) (Vg _),_,_,rfl,iJ.fz (.inl ⟨rfl,rfl⟩) (Vg _),rfl⟩,X1.aK (by omega) _⟩
 ·have c':R.2.aB≠0:=c;rw[Vf c'];simp only[go_sem,Va c,C0,C];exact⟨_,rfl,⟨_,_,rfl,iJ.fz (.inl ⟨rfl,rfl⟩) (Vg _),_,_,rfl,iJ.fz (.inl ⟨rfl,rfl⟩) (Vg _),_,_,rfl,iJ.fz (.inl ⟨rfl,rfl⟩) (Vg _),rfl⟩,X1.aK (by omega) _⟩
def jq (l:List Int):List Int:=l++List.replicate 5 165
def Ec (P:Program)(f:FuncId):Prop:=fI P f=true/\∀(l:List Int)(h:eZ),l.length<=2^40->fy P f [gV l] h λr h'=>e_ (fT (jq l)) (λm=>h.length<=m) h' r/\eY fj h h'
theorem JG {P:Program}{f:FuncId}(hf:Is P f zm):Ec P f:=by
 refine⟨hf.2,λl h hl=>fN hf ?_⟩;have e1:IntKind.i64.wrap ((l.length:Int)+5)=((l.length+5:Nat):Int):=by rw[fQ (by omega)];omega
 have hm:=yX (h:=h) (sz:=1) (bytes:=1) (zero:=[.aA .u8 0]) (k:=.i64) (k':=.i64) (l:=((l.length+5:Nat):Int)) (c:=((l.length+5:Nat):Int)) (by omega) (by omega) (by omega);simp only[V6]at hm;have t:(jq l).length=l.length+5:=by simp[jq]
 simp only[zm,go_sem,e1,CD,hm];refine gJ (λm L h'=>∃(i:Nat) (row:List (List AV)),lk 0 L=gV l/\lk 3 L=.aF h.length 1 0 (l.length+5) (some (l.length+5))/\lk 4 L=.aA .i64 i/\h'=h++[some (.aA 1 row false)]/\row.length=l.length+5 /\
  (∀j,j<l.length+5->∃v,row[j]?=some [.aA .u8 v])/\(∀j,j<i->row[j]?=(jq l)[j]?.map λn=>[.aA .u8 n])/\i<=l.length+5/\m=l.length+5-i) (l.length+5) ?_ ?_
 ·exact⟨0,_,by simp[fi,ga],by simp[fi],by simp[fi],rfl,by simp,λj hj=>⟨0,by simp[hj]⟩,λj hj=>by omega,by omega,by omega⟩
 ·rintro m L h' ⟨i,row,h0,h3,h4,rfl,hr,hv,hd,hi,rfl⟩;have O:g_ (.aF h.length 1 0 (l.length+5) (some (l.length+5)))=some (.aA .i64 ((l.length+5:Nat):Int)):=rfl;simp only[Fh,go_sem,h3,h4,O];refine gx (λci=>?_) (λci=>?_)
  ·simp at ci;have a0:i<l.length+5:=by omega
   obtain⟨v,U⟩:=hv i a0;have e2:IntKind.i64.wrap (↑i+1)=(i:Int)+1:=fQ (by omega);have M:iH 1 (.aF h.length 1 0 (l.length+5) (some (l.length+5))) (.aA .i64 i)=some (.aC h.length 1 i 0):=by simp only[iH];rw[Vf ⟨Vp,by omega,by omega⟩];simp
   have st:∀(row:List (List AV)) (u w:Int),row[i]?=some [.aA .u8 w]->nS (h++[some (.aA 1 row false)]) 1 (.aC h.length 1 i 0) (.aA .u8 u)=some (h++[some (.aA 1 (row.set i [.aA .u8 u]) false)]):=λrow u w hw=>by have:=oP (x:=.aA .u8 u) (gh h (some (.aA 1 row false))) hw rfl rfl rfl rfl;rw[this,TF]
   simp only[go_sem,h0,h3,h4,M,st row 165 v U];have C:(row.set i [.aA .u8 165])[i]?=some [.aA .u8 165]:=Vd (by omega);have I:∀(u:Int) (b:List (List AV)),(∀j,j≠i->b[j]?=row[j]?)->b[i]?=some [.aA .u8 u]->(jq l)[i]?=some u->(∀j,j<l.length+5->∃v,b[j]?=some [.aA .u8 v])/\(∀j,j<i+1->b[j]?=(jq l)[j]?.map λn=>[.aA .u8 n]):=by
    intro u b ho hn hl;refine⟨λj hj=>?_,λj hj=>?_⟩
    ·by_cases e:j=i
     ·subst e;exact⟨u,hn⟩
     ·rw[ho j e];exact hv j hj
    ·by_cases e:j=i
     ·subst e;rw[hn,hl];rfl
     ·rw[ho j e];exact hd j (by omega)
   by_cases cl:(i:Int)<l.length
   ·obtain⟨p,hp,W⟩:=(kO fj (h++[some (.aA 1 (row.set i [.aA .u8 165]) false)]) l).aL (i:=i) (by omega);simp only[go_sem,h0,h3,h4,Vc cl,M,hp,W,st _ (l[i]'(by omega)) 165 C,e2];obtain⟨q1,q2⟩:=I (l[i]'(by omega)) ((row.set i [.aA .u8 165]).set i [.aA .u8 (l[i]'(by omega))]) (λj hj=>by rw[Vb (λe=>hj e.symm),Vb (λe=>hj e.symm)])
     (Vd (by simp;omega)) (by simp only[jq];rw[VK (by omega)];simp)
    exact⟨_,by omega,i+1,_,by simp,rfl,by simpa using hr,q1,q2,by omega,rfl⟩
   ·simp only[go_sem,h0,h3,h4,Va cl,e2];obtain⟨q1,q2⟩:=I 165 (row.set i [.aA .u8 165]) (λj hj=>Vb (λe=>hj e.symm)) C (by simp only[jq];rw[VQ (by omega),WE,Vf (by omega)]);exact⟨_,by omega,i+1,_,by simp,rfl,by simpa using hr,q1,q2,by omega,rfl⟩
  ·simp at ci;obtain rfl:i=l.length+5:=by omega
   have E:row=(jq l).map λn=>[.aA .u8 n]:=by
    apply VT;intro j;rcases Wc j (l.length+5) with hj | hj;·rw[hd j hj,VE]
    ·rw[VJ (by omega),VJ (by simp[t];omega)]
   subst E;simp only[go_sem,h3];refine⟨?_,eY.b1 _⟩;simp only[fT,e_,Vo,t];exact .inr (.inr ⟨_,0,_,_,false,rfl,Vg _,gh _ _,by simp[t],(λc hc=>by cases hc;omega),by rw[Wf,V5 (by simp[t])];exact uI .u8 _ _ (jq l)⟩)
def rJ (P:Program)(f:FuncId):Prop:=
 fI P f=true/\∀(F:Nat->Prop)(h:eZ)(l:List Int)(a b:AV),Rd F h (fT (jq l)) a->Rd F h (fT l) b->l.length<=2^40->fy P f [a,b] h λr h'=>r=.aD true/\h'=h
theorem JE {P:Program}{f g:FuncId}(hf:Is P f (zl g))(hg:m_ P g .u8):rJ P f:=by
 refine⟨hf.2,λF h l a b ha hb hl=>fN hf ?_⟩;have t:(jq l).length=l.length+5:=by simp[jq]
 have la:=ha.aG;have lb:=hb.aG;rw[t]at la;have e1:IntKind.i64.wrap ((l.length:Int)+5)=((l.length+5:Nat):Int):=by rw[fQ (by omega)];omega
 obtain⟨c,hs,hc⟩:=Rd.aI ha (lo:=none) (hi:=some (l.length:Int)) (mx:=none) (by simp) (by simp) (by simp[t];omega) (by simp) (by simp[t];omega) (by simp);have u:Rd F h (fT l) c:=by
  have:(jq l).take l.length=l:=by simp[jq]
  simpa [fT,<-WL,this] using hc
 simp only[zl,go_sem,la,lb,e1,oO,hs];refine fR hg.1 (hg.2 F _ l l c b u hb hl) ?_;simp only[go_sem,lb];refine gJ (λm L h'=>∃(i:Nat),lk 0 L=a/\lk 5 L=.aA .i64 i/\h'=h/\l.length<=i/\i<=l.length+5/\m=l.length+5-i) 5 ?_ ?_;·exact⟨l.length,by simp[fi,ga],by simp[fi],rfl,by omega,by omega,by omega⟩
 ·rintro m L h' ⟨i,h0,h5,rfl,hi,hi2,rfl⟩;simp only[Fg,go_sem,h0,h5,la];refine gx (λci=>?_) (λci=>?_)
  ·simp at ci;obtain⟨p,hp,hv⟩:=ha.aL (i:=i) (by omega);have e:IntKind.i64.wrap (↑i+1)=(i:Int)+1:=fQ (by omega);have hx:(jq l)[i]'(by omega)=165:=by simp only[jq];rw[List.getElem_append_right hi];exact List.getElem_replicate _
   simp only[go_sem,h0,h5,hp,hv,hx,e];exact⟨_,by omega,i+1,by simp,by omega,by omega,rfl⟩
  ·simp only[go_sem]
end Glb
