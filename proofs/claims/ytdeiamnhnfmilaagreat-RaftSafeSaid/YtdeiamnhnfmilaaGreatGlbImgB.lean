/-
  A library of its own.
-/
import Derived.Test.YtdeiamnhnfmilaaGreatGlbImgA
import Derived.Test.YtdeiamnhnfmilaaGreatGlbConB
set_option linter.unusedSimpArgs false
set_option linter.unusedVariables false
set_option maxRecDepth 10000
set_option maxHeartbeats 4000000
namespace Glb
open Go
theorem Hr {sz bytes:Nat}{F G:Nat->Prop}{ds es:List (List D)}{h0 h:eX}{av:AV}{ys:List (List AV)}(ho:eY (.sl sz ds) F h0 av)(hc:gV h0 av)
  (hx:eW eZ h0 h) (hy:fG es G h ys) (hG:∀m,G m->F m) (hN:∀n off len cap,av=.aG n sz off len cap->¬G n) (hF:F h.length) (hb:(ds.length+es.length)*bytes<=2^46):
  ∃av' h',iu h sz bytes av ys=some (av',h')/\eY (.sl sz (ds++es)) F h' av'/\gV h' av'/\eW (λm=>(∃off len cap,av=.aG m sz off len cap)/\F m) h h' /\
   (∀n off len cap,av'=.aG n sz off len cap->(∃off' len' cap',av=.aG n sz off' len' cap')\/h.length<=n):=by
 have hyl:=oG hy;have fresh:∀(hh:eX) (dd:List (List D)) (es':List (List AV)),F hh.length->fG dd F hh es'->
   eY (.sl sz dd) F (gR hh sz es').2 (gR hh sz es').1/\gV (gR hh sz es').2 (gR hh sz es').1:=by
  intro hh dd es' hl hd;have hlen:=oG hd;refine⟨?_,⟨es',true,by simp[gR],(λ_=>rfl),(λc hc=>by cases hc)⟩⟩;simp only[eY,gR];refine .inr (.inr ⟨hh.length,0,none,es',true,by rw[hlen],hl,by simp,by omega,(λc hc=>by cases hc),?_⟩);have:(es'.drop 0).take dd.length=es':=by rw[V9,Vs (by omega)]
  rw[this];refine fG.aA dd (λm hm=>⟨hm.1,by have:=hm.2;omega⟩) ?_ _ (fG.lt dd _ hd);intro m hm x hx;rw[Vy hm.2];exact hx
 simp only[eY]at ho;rcases ho with⟨rfl,rfl⟩ | ⟨t,c,rfl,rfl⟩ | ⟨n,off,cap,row,g,rfl,hn,hrow,hle,hcl,hd⟩
 · -- nothing yet
  have hy':fG es F h ys:=fG.aA es hG (λ_ _ _ x=>x) _ hy;obtain⟨a,b⟩:=fresh h es ys hF hy';refine⟨_,_,?_,by simpa using a,b,?_⟩;·simp only[iu];rw[U4 (by rw[hyl];simpa using hb)]
  ·exact⟨eW.aF _ _ _,by intro n off len cap e;simp only[gR,AV.aG.injEq]at e;right;omega⟩
 ·have hc1:c=true:=hc;subst hc1;have hy':fG es F h ys:=fG.aA es hG (λ_ _ _ x=>x) _ hy;simp only[iu];rw[U4 ⟨Vd,by rw[hyl];simpa using hb⟩];by_cases hy0:ys.length=0;·rw[U4 hy0];have hes:es=[]:=U7 (by omega);subst hes;refine⟨_,_,rfl,?_,rfl,eW.aC _ _,by intro n off len cap e;cases e⟩;simp only[eY];exact .inr (.inl ⟨t,true,rfl,rfl⟩)
  ·rw[U6 hy0,U4 Vd];obtain⟨a,b⟩:=fresh h es ys hF hy';exact⟨_,_,rfl,by simpa [gR] using a,b,eW.aF _ _ _,by intro n off len cap e;simp only[AV.aG.injEq]at e;right;omega⟩
 ·obtain⟨row',g',hrow',hcn,hcs⟩:=hc;rw[hrow]at hrow';obtain⟨rfl,rfl⟩:row=row'/\g=g':=by simpa using hrow'
  have hnlt:=(UY.1 hrow).1;have hrow1:h[n]?=some (some (.aA sz row g)):=hx.aA hrow;have hnlt1:=(UY.1 hrow1).1;have hd1:fG ds (λm=>F m/\m≠n) h ((row.drop off).take ds.length):=fG.aA ds (λm hm=>hm) (hx.aE _) _ hd;have hy1:fG es (λm=>F m/\m≠n) h ys:=fG.aA es (λm hm=>⟨hG _ hm,by rintro rfl;exact hN _ _ _ _ rfl hm⟩) (λ_ _ _ x=>x) _ hy;have both:fG (ds++es) F h ((row.drop off).take ds.length++ys):=fG.aA _ (λm hm=>hm.1) (λ_ _ _ x=>x) _ (na hd1 hy1);simp only[iu,hrow1];rw[U4 ⟨Vd,Vd,hle,by rw[hyl];exact hb⟩];cases cap with
  | none=>
   obtain rfl:=hcn rfl;simp only[VS];have both':fG (ds++es) F (h.set n none) (row.take ds.length++ys):=by have:=na hd1 hy1;rw[V9]at this;exact fG.aA _ (λm hm=>hm.1) (λm hm x hx=>by rw[UZ (λe=>hm.2 e.symm)];exact hx) _ this
   obtain⟨a,b⟩:=fresh (h.set n none) (ds++es) (row.take ds.length++ys) (by rw[U9];exact hF) both';exact⟨_,_,rfl,a,b,(eW.aI none (λ_=>⟨⟨_,_,_,rfl⟩,hn⟩)).aD (eW.aF _ _ _) (λ_ _ x=>x) (λ_ _ x=>x),by intro n' off len cap e;simp only[AV.aG.injEq,U9]at e;right;omega⟩
  | some c=>
   have hc1:=hcl c rfl;have hc2:=hcs c rfl;cases c with
   | zero=>
    have h0:ds.length=0:=by omega
    have hds:ds=[]:=U7 h0;subst hds;simp only[Ve,VS];by_cases hy0:ys.length=0;·rw[U4 hy0];have hes:es=[]:=U7 (by omega);subst hes;refine⟨_,_,rfl,?_,⟨row,g,hrow1,(λe=>by cases e),(λc hc=>by cases hc;omega)⟩,eW.aC _ _,λn' off' len' cap' e=>.inl ⟨_,_,_,e⟩⟩;simp only[eY];exact .inr (.inr ⟨n,off,some 0,row,g,rfl,hn,hrow1,by simpa using hle,(λc hc=>by cases hc;simp),by simp[fG]⟩)
    ·rw[U6 hy0];have hy2:fG es F h ys:=fG.aA es (λm hm=>hm.1) (λ_ _ _ x=>x) _ hy1;obtain⟨a,b⟩:=fresh h es ys hF hy2;exact⟨_,_,rfl,by simpa [gR] using a,b,eW.aF _ _ _,by intro n off len cap e;simp only[AV.aG.injEq]at e;right;omega⟩
   | succ c=>
    simp only;by_cases hcap:c+1<ds.length+ys.length;·rw[U4 hcap];obtain⟨a,b⟩:=fresh h (ds++es) _ hF both;exact⟨_,_,rfl,a,b,eW.aF _ _ _,by intro n' off' len' cap' e;simp only[AV.aG.injEq]at e;right;omega⟩
    ·rw[U6 hcap,U4 (by omega)];have hsl:(gM row (off+ds.length) ys).length=row.length:=by simp[gM];omega
     refine⟨_,_,rfl,?_,⟨_,g,by rw[U5 hnlt1],(λe=>by cases e),(λc' hc'=>by cases hc';rw[hsl];exact hc2)⟩,eW.aI _ (λ_=>⟨⟨_,_,_,rfl⟩,hn⟩),by intro n' off' len' cap' e;simp only[AV.aG.injEq]at e;exact .inl ⟨_,_,_,by rw[<-e.1]⟩⟩;simp only[eY];refine .inr (.inr ⟨n,off,some (c+1),gM row (off+ds.length) ys,g,by rw[U1,hyl],hn,by rw[U5 hnlt1],by rw[hsl,U1];omega,
      (λc' hc'=>by cases hc';rw[U1];omega),?_⟩)
     have e:((gM row (off+ds.length) ys).drop off).take (ds++es).length=(row.drop off).take ds.length++ys:=by
      apply VM;intro i;simp only[VZ,Vt,U1,gM,V_,Va,U1,Vo];rw[show min (off+ds.length) row.length=off+ds.length by omega,show min ds.length (row.length-off)=ds.length by omega];by_cases h1:i<ds.length;·rw[U4 (by omega),U4 (by omega),U4 (by omega),U4 (by omega),U4 h1];simp[h1]
      ·by_cases h2:i<ds.length+es.length
       ·rw[U4 h2,U4 (by omega),U6 (by omega),U6 h1];congr 1;omega
       ·rw[U6 h2,U6 h1,VH (by omega)]
     rw[e];refine fG.aA _ (λm hm=>hm) ?_ _ (na hd1 hy1);intro m hm x hx;rw[UZ (λe=>hm.2 e.symm)];exact hx
theorem Rd.aO {F:Nat->Prop}{h:eX}{l:List Int}{a:AV}(hx:Rd F h (gq l) a){i:Nat}(hi:i<l.length):
  ∃p,jg 1 a (.aA .i64 i)=some p/\ir h false 1 p=some (.aA .u8 l[i]):=by
 obtain⟨p,cs,hp,u,e⟩:=hx.aD .i64 (i:=i) (d:=[.aA .u8 l[i]]) (by omega) (by simp[hi]);simp only[fu,Rd]at e;obtain⟨_,_,rfl,rfl,rfl⟩:=e;exact⟨p,hp,by rw[jr u];exact xZ _ _ _⟩
theorem Rd.aJ {F:Nat->Prop}{h:eX}{l:List Int}{a:AV}(hx:Rd F h (gq l) a):ik a=some (.aA .i64 l.length):=by simpa using hx.aC
theorem xN {F:Nat->Prop}{sz:Nat}{ds:List (List D)}{h:eX}{av:AV}(ho:eY (.sl sz ds) F h av){k:Int}(h0:0<=k)(hk:k<=ds.length):
  ∃C,ie sz av (some k) none none=some C/\eY (.sl sz (ds.drop k.toNat)) F h C:=by
 simp only[eY]at ho;rcases ho with⟨rfl,rfl⟩ | ⟨t,c,rfl,rfl⟩ | ⟨n,off,cap,row,g,rfl,hn,e,E,u,hd⟩
 ·have:k=0:=by simpa using (by simp at hk;omega:k=0)
  subst this;exact⟨.aD,by simp[ie],eY.aD sz⟩
 ·have:k=0:=by simpa using (by simp at hk;omega:k=0)
  subst this;refine⟨.aM t (pM none 0 0 c) sz [],by simp[ie],?_⟩;simp only[List.drop_nil,eY];exact .inr (.inl ⟨t,_,rfl,Vd⟩)
 ·have hc2:((cap.getD ds.length:Nat):Int)≥ds.length:=by
   cases cap with
   | none=>simp
   | some c=>have:=u c rfl;simp;omega
  simp only[ie,Vu,V0];rw[U4 ⟨Vd,h0,by omega,.inl (by omega),by omega,by omega⟩];by_cases e0:k=0
  ·subst e0;rw[U4 rfl];refine⟨_,rfl,?_⟩;simp only[Int.toNat_zero,V9,V4,eY];refine .inr (.inr ⟨n,off,_,row,g,rfl,hn,e,E,λc hc=>?_,hd⟩);cases cap with
   | none=>simp[jk]at hc
   | some c'=>have:=u c' rfl;simp[jk]at hc;omega
  ·rw[U6 e0];by_cases e1:k<(ds.length:Int)
   ·refine⟨_,U4 e1,?_⟩;simp only[eY,Vo];refine .inr (.inr ⟨n,off+k.toNat,jk none k.toNat cap,row,g,by rw[show ((ds.length:Int)).toNat-k.toNat=ds.length-k.toNat by omega],hn,e,by omega,λc hc=>?_,?_⟩)
    ·cases cap with
     | none=>simp[jk]at hc
     | some c'=>have:=u c' rfl;simp[jk]at hc;omega
    ·have:=Jy hd k.toNat;rw[List.drop_take,List.drop_drop]at this;exact this
   ·refine⟨_,U6 e1,?_⟩;have:ds.drop k.toNat=[]:=WT (by omega);rw[this];simp only[eY];exact .inr (.inl ⟨0,false,rfl,Vd⟩)
def kl (n:Int):fH->Option (List Int)×fH
 | none=>(none,none)
 | some l=>if n<0\/(l.length:Int)<n then (none,none) else (some (l.take n.toNat),some (l.drop n.toNat))
theorem Qy (st:fH):fT st=match kl 8 st with
  | (none,s)=>(0,s)
  | (some p,s)=>(j_ p,s):=by
 cases st with
 | none=>rfl
 | some l=>
  simp only[fT,kl];by_cases c:l.length<8;·rw[U4 c,U4 (by omega)]
  ·rw[U6 c,U6 (by omega)];rfl
theorem Qx (st:fH):gW st=(((kl (fT st).1 (fT st).2).1).getD [],(kl (fT st).1 (fT st).2).2):=by
 simp only[gW];generalize fT st=x;obtain⟨n,s⟩:=x;cases s with
 | none=>rfl
 | some l=>
  simp only[kl];by_cases c:n<0\/(l.length:Int)<n;·rw[U4 c,U4 c];rfl
  ·rw[U6 c,U6 c];rfl
def fH.aC (st:fH):List Int:=st.getD []
def iN (F:Nat->Prop)(h:eX)(q:Nat)(st:fH):Prop:=
 (∃a,h[q]?=some (some (.aA 2 [[a,.aE st.isNone]] false))/\eY (gq st.aC) F h a)/\gF st.aC/\st.aC.length<=2^40
theorem iN.aA {F:Nat->Prop}{h h':eX}{q:Nat}{st:fH}(hr:iN F h q st) (hq:h'[q]?=h[q]?) (hk:gY F h h'):iN F h' q st:=by obtain⟨⟨a,h1,h2⟩,h3,h4⟩:=hr;exact⟨⟨a,hq.trans h1,eY.aC _ (λ_ x=>x) hk _ h2⟩,h3,h4⟩
theorem iN.lt {F:Nat->Prop}{h:eX}{q:Nat}{st:fH}(hr:iN F h q st):q<h.length:=(UY.1 hr.1.choose_spec.1).1
theorem iN.up {F:Nat->Prop}{h h':eX}{q:Nat}{st:fH}(hr:iN F h q st)(e:eW eZ h h'):iN F h' q st:=hr.aA (e.2 _ hr.lt (λx=>x)) (e.aE F)
abbrev iC (q:Nat):Nat->Prop:=λm=>m=q
theorem eW.aL {h:eX}(q:Nat)(x:Option e_):eW (iC q) h (h.set q x):=eW.aI x (λ_=>rfl)
theorem CY {d:D}{F:Nat->Prop}{h:eX}{a:AV}(ho:eY d F h a){q:Nat}(hq:¬F q)(x:Option e_):eY d F (h.set q x) a:=
 eY.aC _ (λm hm=>hm) (λm hm y hy=>by rw[UZ (by rintro rfl;exact hq hm)];exact hy) _ ho
def yD (P:Program)(f:FuncId):Prop:=fK P f=true/\∀(F:Nat->Prop)(h:eX)(q:Nat)(st:fH),iN F h q st->fC P f [.aC q 2 0 0] h λ_ h'=>iN F h' q none/\eW (iC q) h h'
def wH (P:Program)(f:FuncId):Prop:=fK P f=true/\∀(F:Nat->Prop)(h:eX)(q:Nat)(st:fH)(n:Int),iN F h q st->¬F q->
 fC P f [.aC q 2 0 0,.aA .i64 n] h λr h'=>iN F h' q (kl n st).2/\eW (iC q) h h'/\∃p,r=.aI [p,.aE (kl n st).1.isSome]/\eY (gq ((kl n st).1.getD [])) F h' p
def mM (P:Program)(f:FuncId):Prop:=fK P f=true/\∀(F:Nat->Prop)(h:eX)(q:Nat)(st:fH),iN F h q st->¬F q->
 fC P f [.aC q 2 0 0] h λr h'=>r=.aA .i64 (fT st).1/\iN F h' q (fT st).2/\eW (iC q) h h'
def r9 (P:Program)(f:FuncId):Prop:=fK P f=true/\∀(F:Nat->Prop)(h:eX)(q:Nat)(st:fH),iN F h q st->¬F q->
 fC P f [.aC q 2 0 0] h λr h'=>eY (gq (gW st).1) F h' r/\iN F h' q (gW st).2/\eW (iC q) h h'
def yL (P:Program)(f:FuncId):Prop:=fK P f=true/\∀(F:Nat->Prop)(h:eX)(q:Nat)(st:fH),iN F h q st->¬F q->
 fC P f [.aC q 2 0 0] h λr h'=>eY (fN (iK fT st).1) (λm=>h.length<=m) h' r/\iN F h' q (iK fT st).2/\eW (iC q) h h'
theorem Gd {P:Program}{f:FuncId}(hf:Is P f AY):yD P f:=by refine⟨hf.2,λF h q st hr=>fS hf ?_⟩;have hlt:=hr.lt;obtain⟨⟨a,h1,h2⟩,h3,h4⟩:=hr;simp only[AY,go_sem,h1,hlt,VX];exact⟨⟨⟨.aD,U5 hlt,eY.aD 1⟩,by simp[fH.aC,gF],by simp[fH.aC]⟩,eW.aL _ _⟩
theorem Tf {P:Program}{f g:FuncId}(hf:Is P f (sX g))(hg:yD P g):wH P f:=by
 refine⟨hf.2,λF h q st n hr hq=>fS hf ?_⟩;have hlt:=hr.lt;have u:=hr;obtain⟨⟨a,h1,h2⟩,h3,h4⟩:=hr;have bad:(kl n st)=(none,none)->∀h',iN F h' q none/\eW (iC q) h h'->iN F h' q (kl n st).2/\eW (iC q) h h'/\∃p,AV.aI [.aD,.aE false]=.aI [p,.aE (kl n st).1.isSome]/\eY (gq ((kl n st).1.getD [])) F h' p:=by intro e h' hh;rw[e];exact⟨hh.1,hh.2,.aD,rfl,eY.aD 1⟩
 cases st with
 | none=>simp only[sX,go_sem,h1,Option.isNone_none];refine fy ⟨hg.1,hg.2 F h q none u⟩ ?_;rintro _ h' hh;simp only[go_sem];exact bad rfl h' hh
 | some l=>
  have ll:=(eY.rd _ (F':=λ_=>True) (λ_ _=>Vd) _ h2).aJ;simp only[fH.aC,Vu]at ll h2 h3 h4;by_cases c1:n<0;·simp only[sX,go_sem,h1,WL,U3 c1];refine fy ⟨hg.1,hg.2 F h q _ u⟩ ?_;rintro _ h' hh;simp only[go_sem];exact bad (by simp only[kl];rw[U4 (.inl c1)]) h' hh
  by_cases c2:(l.length:Int)<n
  ·simp only[sX,go_sem,h1,WL,U2 c1,ll,U3 c2];refine fy ⟨hg.1,hg.2 F h q _ u⟩ ?_;rintro _ h' hh;simp only[go_sem];exact bad (by simp only[kl];rw[U4 (.inr c2)]) h' hh
  have C:eY (.sl 1 (l.map λn=>[.aA .u8 n])) F h a:=h2;obtain⟨p,s1,s2,s3⟩:=tN C (k:=n) (by omega) (by simp;omega);obtain⟨t,s4,s5⟩:=xN C (k:=n) (by omega) (by simp;omega);have e:kl n (some l)=(some (l.take n.toNat),some (l.drop n.toNat)):=by simp only[kl];rw[U6 (by omega)]
  rw[e];simp only[sX,go_sem,h1,WL,U2 c1,ll,U2 c2,mQ,s1,s4,s5.aA,gz s5.aA];refine⟨⟨⟨t,?_,?_⟩,?_,?_⟩,eW.aL _ _,p,rfl,?_⟩;·exact U5 hlt
  ·refine CY ?_ hq _;simp only[fH.aC,Vu,gq,W4];exact s5
  ·exact h3.aD _
  ·simp only[fH.aC,Vu,Vo];omega
  ·refine CY ?_ hq _;simp only[Vu,gq,Wv];exact s2
theorem PQ (a b:Int):jD .or (.aA .u64 a) (.aA .u64 b)=some (.aA .u64 (IntKind.u64.wrap (BitVec.ofInt 64 a ||| BitVec.ofInt 64 b).toNat)):=Vc rfl rfl
theorem SV (a b:Int):jD .shl (.aA .u64 a) (.aA .u64 b)=if b<0 then none else some (.aA .u64 (IntKind.u64.wrap (a*2^(min b.toNat 64)))):=Vc rfl rfl
theorem PO {u x:Int}(hu:0<=u)(hu2:u<72057594037927936)(hx:0<=x/\x<256):IntKind.u64.wrap (BitVec.ofInt 64 (u*256) ||| BitVec.ofInt 64 x).toNat=u*256+x:=by
 obtain⟨m,rfl⟩:=Int.eq_ofNat_of_zero_le hu;obtain⟨k,rfl⟩:=Int.eq_ofNat_of_zero_le hx.1;have e1:(BitVec.ofInt 64 (((m:Nat):Int)*256)).toNat=m <<< 8:=by rw[BitVec.toNat_ofInt,Nat.shiftLeft_eq];omega
 have e2:(BitVec.ofInt 64 ((k:Nat):Int)).toNat=k:=by rw[BitVec.toNat_ofInt];omega
 rw[BitVec.toNat_or,e1,e2,<-Nat.shiftLeft_add_eq_or_of_lt (by omega) m,Nat.shiftLeft_eq,yi];omega
theorem IL {l:List Int}{i:Nat}(hi:i<l.length):mG (l.take (i+1))=mG (l.take i)*256+l[i]:=by rw[VA hi];simp only[mG,List.foldl_append,W8,List.foldl_nil]
theorem TB:∀(n:Nat)(l:List Int),l.length=n->gF l->0<=mG l/\mG l<256^n:=by
 intro n;induction n with
 | zero=>intro l h _;have:=U7 h;subst this;simp[mG]
 | succ n ih=>
  intro l h hb;have hn:n<l.length:=by omega
  have:=IL hn;rw[Vs (by omega)]at this;rw[this];obtain⟨h1,h2⟩:=ih (l.take n) (by simp;omega) (hb.aA n);have hx:=hb l[n] (Vx _);rw[Int.pow_succ];omega
theorem Qc:∀i:Nat,i<8->(256:Int)^i<=72057594037927936:=by decide
theorem PY {P:Program}{f g:FuncId}(hf:Is P f (AU g))(hg:wH P g):mM P f:=by
 refine⟨hf.2,λF h q st hr hq=>fS hf ?_⟩;rw[Qy];have hb:gF ((kl 8 st).1.getD [])/\((kl 8 st).1.isSome=true->((kl 8 st).1.getD []).length=8):=by
  have h3:=hr.2.1;cases st with
  | none=>simp[kl,gF]
  | some l=>
   simp only[kl];split;·simp[gF]
   ·exact⟨gF.aA h3 8,by simp;omega⟩
 simp only[AU,go_sem];refine fy ⟨hg.1,hg.2 F h q st 8 hr hq⟩ ?_;rintro _ h1 ⟨r1,x1,p,rfl,po⟩;generalize kl 8 st=T at *;obtain⟨o,s⟩:=T;cases o with
 | none=>simp only[go_sem,Option.isSome_none];exact⟨r1,x1⟩
 | some l=>
  simp only[Vu,Option.isSome_some,forall_const]at hb po;obtain⟨C,hb2⟩:=hb;have pr:=eY.rd _ (F':=λ_=>True) (λ_ _=>Vd) _ po;simp only[go_sem,Option.isSome_some,pr.aJ];refine iM (λm L h'=>∃i:Nat,lk 5 L=.aA .u64 (mG (l.take i))/\lk 15 L=p/\lk 16 L=.aA .i64 l.length/\lk 17 L=.aA .i64 i/\h1=h'/\i<=l.length/\m=l.length-i) l.length ?_ ?_;·exact⟨0,by simp[fm,mG],by simp[fm],by simp[fm],by simp[fm],rfl,by omega,by omega⟩
  ·rintro m L h' ⟨i,k5,I,u,e,rfl,hi,rfl⟩;simp only[Fv,go_sem,u,e];refine ij (λci=>?_) (λci=>?_)
   ·simp at ci;obtain⟨y,hy,hv⟩:=pr.aO ci;have e1:IntKind.i64.wrap (↑i+1)=(i:Int)+1:=gj (by omega);have vb:=TB i (l.take i) (by simp;omega) (C.aA i);have E:mG (l.take i)<72057594037927936:=by have:=Qc i (by omega);omega
    have hx:=C l[i] (Vx _);have e2:IntKind.u64.wrap (mG (l.take i)*2^(min (8:Int).toNat 64))=mG (l.take i)*256:=by rw[yi,show (2:Int)^(min (8:Int).toNat 64)=256 from rfl];omega
    have e3:IntKind.u64.wrap l[i]=l[i]:=by rw[yi];omega
    have n8:¬(8:Int)<0:=by omega
    simp only[go_sem,k5,I,u,e,hy,hv,SV,U6 n8,e2,e3,PQ,PO vb.1 E hx,e1];exact⟨_,by omega,i+1,by rw[IL ci],by simp,ci,rfl⟩
   ·simp at ci;obtain rfl:i=l.length:=by omega
    rw[VB]at k5;simp only[go_sem,k5];exact⟨rfl,r1,x1⟩
theorem PX {P:Program}{f g t:FuncId}(hf:Is P f (AT g t))(hg:mM P g)(ht:wH P t):r9 P f:=by refine⟨hf.2,λF h q st hr hq=>fS hf ?_⟩;rw[Qx];simp only[AT,go_sem];refine fy ⟨hg.1,hg.2 F h q st hr hq⟩ ?_;rintro _ h1 ⟨rfl,r1,x1⟩;simp only[go_sem];refine fy ⟨ht.1,ht.2 F h1 q _ _ r1 hq⟩ ?_;rintro _ h2 ⟨r2,x2,p,rfl,po⟩;simp only[go_sem];exact⟨po,r2,x1.aD x2 (λ_ _ x=>x) (λ_ _ x=>x)⟩
theorem iN.aC {F F':Nat->Prop}{h:eX}{q:Nat}{st:fH}(hr:iN F h q st)(hF:∀m,F m->F' m):iN F' h q st:=by obtain⟨⟨a,h1,h2⟩,h3,h4⟩:=hr;exact⟨⟨a,h1,eY.aC _ hF (gY.lt _ _) _ h2⟩,h3,h4⟩
theorem iN.aD {F:Nat->Prop}{h:eX}{q:Nat}{st:fH}(hr:iN F h q st):iN (λm=>F m/\m<h.length) h q st:=by obtain⟨⟨a,h1,h2⟩,h3,h4⟩:=hr;exact⟨⟨a,h1,eY.lt _ _ h2⟩,h3,h4⟩
theorem RV {i N:Nat}{xs:List Int}{v:Int}(hx:xs.length=i)(hi:i<N):
  ((xs.map λn=>[AV.aA .i64 n])++List.replicate (N-i) [AV.aA .i64 0]).set i [.aA .i64 v]=((xs++[v]).map λn=>[AV.aA .i64 n])++List.replicate (N-(i+1)) [AV.aA .i64 0]:=by
 rw[show N-i=(N-(i+1))+1 by omega,List.replicate_succ,W0 _ _ (by simp[hx])];simp[hx]
theorem Q0 {l:List Int}{n:Nat}(h:8<=l.length):iD fT (n+1) (some l)=(j_ (l.take 8) :: (iD fT n (some (l.drop 8))).1,(iD fT n (some (l.drop 8))).2):=by simp only[iD,fT];rw[U6 (by omega)]
theorem P5 {P:Program}{f g t:FuncId}(hf:Is P f (AW g t))(hg:mM P g)(ht:yD P t):yL P f:=by
 refine⟨hf.2,λF h q st hr hq=>fS hf ?_⟩;simp only[AW,go_sem];refine fy ⟨hg.1,hg.2 F h q st hr hq⟩ ?_;rintro _ h1 ⟨rfl,r1,x1⟩;have E:=r1;have hlt:=r1.lt;obtain⟨⟨a,a1,a2⟩,a3,a4⟩:=r1;have bad:iK fT st=([],none)->∀h',iN F h' q none/\eW (iC q) h1 h'->eY (fN (iK fT st).1) (λm=>h.length<=m) h' .aD/\iN F h' q (iK fT st).2/\eW (iC q) h h':=by intro e h' hh;rw[e];exact⟨eY.aD 1,hh.1,x1.aD hh.2 (λ_ _ x=>x) (λ_ _ x=>x)⟩
 cases hs:(fT st) with
 | mk n s=>
 rw[hs]at E a1 a2 a3 a4;simp only at E a1 a2 a3 a4;cases s with
 | none=>simp only[go_sem,a1,Option.isNone_none];refine fy ⟨ht.1,ht.2 F _ q none E⟩ ?_;rintro _ h' hh;simp only[go_sem];exact bad (by simp only[iK,oT,hs]) h' hh
 | some l=>
  simp only[fH.aC,Vu,WL]at a1 a2 a3 a4;have ll:=(eY.rd _ (F':=λ_=>True) (λ_ _=>Vd) _ a2).aJ;have e8:IntKind.i64.wrap ((l.length:Int).tdiv 8)=((l.length / 8:Nat):Int):=by
   have:(l.length:Int).tdiv 8=((l.length / 8:Nat):Int):=by rw[Int.tdiv_eq_ediv_of_nonneg (by omega)];omega
   rw[this,gj (by omega)]
  have n8:¬(8:Int)=0:=by omega
  by_cases c1:n<0
  ·simp only[go_sem,a1,U3 c1];refine fy ⟨ht.1,ht.2 F _ q _ E⟩ ?_;rintro _ h' hh;simp only[go_sem];exact bad (by simp only[iK,oT,hs];rw[U4 (.inl c1)]) h' hh
  by_cases c2:((l.length / 8:Nat):Int)<n
  ·simp only[go_sem,a1,U2 c1,ll,C9,U6 n8,e8,U3 c2];refine fy ⟨ht.1,ht.2 F _ q _ E⟩ ?_;rintro _ h' hh;simp only[go_sem];exact bad (by simp only[iK,oT,hs];rw[U4 (.inr c2)]) h' hh
  have em:iK fT st=iD fT n.toNat (some l):=by simp only[iK,oT,hs];rw[U6 (by omega)]
  rw[em];simp only[go_sem,a1,U2 c1,ll,C9,U6 n8,e8,U2 c2,Gx,ER (show 0<=n by omega) (Vi n) (show n*(8:Nat)<=2^46 by omega)];obtain⟨N,rfl⟩:=Int.eq_ofNat_of_zero_le (show 0<=n by omega);have la:ik (.aG h1.length 1 0 N (some N))=some (.aA .i64 N):=rfl;have q1:q<h1.length:=hlt;have U:=(iN.aD E).up (eW.b1 (some (.aA 1 (List.replicate ((N:Nat):Int).toNat [.aA .i64 0]) false)));have a6:=x1.1;simp only[go_sem,V4];simp only[go_sem,la];simp only[V4]at U;refine iM (λm L h'=>∃(i:Nat)(xs:List Int)(l':List Int),lk 0 L=.aC q 2 0 0/\lk 4 L=.aG h1.length 1 0 N (some N)/\lk 31 L=.aA .i64 N/\lk 32 L=.aA .i64 i /\
    h'[h1.length]?=some (some (.aA 1 ((xs.map λn=>[.aA .i64 n])++List.replicate (N-i) [.aA .i64 0]) false))/\iN (λm=>F m/\m<h1.length) h' q (some l')/\eW (iC q) h1 h' /\
    xs.length=i/\i<=N/\m=N-i/\8*(N-i)<=l'.length/\iD fT N (some l)=(xs++(iD fT (N-i) (some l')).1,(iD fT (N-i) (some l')).2)) N ?_ ?_
  ·exact⟨0,[],l,by simp[fm,g_],by simp[fm],by simp[fm],by simp[fm],by simp[gJ],U,eW.aF _ _ _,rfl,by omega,by omega,by omega,by simp⟩
  ·rintro m L h2 ⟨i,xs,l',k0,k4,Z,I,C,hR,hE,hx,hi,rfl,h8,M⟩;simp only[Fw,go_sem,Z,I];refine ij (λci=>?_) (λci=>?_)
   ·simp at ci;have e1:IntKind.i64.wrap (↑i+1)=(i:Int)+1:=gj (by omega);simp only[go_sem,k0,k4,I];refine fy ⟨hg.1,hg.2 _ h2 q _ hR (λhm=>hq hm.1)⟩ ?_;rintro _ h3 ⟨rfl,r3,x3⟩;have l8:¬l'.length<8:=by omega
    have ev:fT (some l')=(j_ (l'.take 8),some (l'.drop 8)):=by simp only[fT];rw[U6 l8]
    rw[ev]at r3 ⊢;have hl2:=hE.1;have W:=(UY.1 C).1;have u:h3[h1.length]?=_:=(x3.2 _ W (by simp only[iC];omega)).trans C;have O:=(UY.1 u).1;have ix:jg 1 (.aG h1.length 1 0 N (some N)) (.aA .i64 i)=some (.aC h1.length 1 (0+i) 0):=by simp only[jg];rw[U4 ⟨Vd,by omega,by omega⟩];simp
    have a5:=wR (x:=.aA .i64 (j_ (l'.take 8))) (cs':=[.aA .i64 (j_ (l'.take 8))]) (j:=0+i) u (cs:=[.aA .i64 0]) (by rw[WR,Vp (by simp[hx])];simp only[Vg,hx,Xp];rw[WC,U4 (by omega)]) rfl rfl rfl rfl;simp only[go_sem,k0,k4,Z,I,ix,a5,e1];refine⟨_,by omega,i+1,xs++[j_ (l'.take 8)],l'.drop 8,by simp,?_,?_,?_,by simp[hx],ci,rfl,by simp;omega,?_⟩;·rw[U4 O,WR,RV hx ci]
    ·exact r3.aA (UZ (by omega)) (λm hm y hy=>by rw[UZ (by have:=hm.2;omega)];exact hy)
    ·exact (hE.aD x3 (λ_ _ x=>x) (λ_ _ x=>x)).aD (eW.aL h1.length _) (λ_ _ x=>x) (λm hm hn=>by simp only[iC]at hn;omega)
    ·rw[M,show N-i=(N-(i+1))+1 by omega,Q0 (by omega)];simp
   ·simp at ci;obtain rfl:i=N:=by omega
    simp only[Xp,iD,VY]at M;rw[M];simp only[go_sem,k4];refine⟨?_,hR.aC (λ_ hm=>hm.1),x1.aD hE (λ_ _ x=>x) (λ_ _ x=>x)⟩;simp only[fN,eY,Vg];refine .inr (.inr ⟨h1.length,0,some i,_,_,by rw[hx],a6,C,by simp[hx],(λc hc=>by cases hc;omega),?_⟩);simp only[Xp,List.replicate_zero,VY,V9];rw[Vs (by simp)];exact vu .i64 _ _ _
def fH.aD:fH->Int
 | none=>4
 | some l=>if 0<l.length then 2 else 0
theorem P6 {P:Program}{f:FuncId}(hf:Is P f ru){F:Nat->Prop}{h:eX}{q:Nat}{st:fH}(hr:iN F h q st):fC P f [.aC q 2 0 0] h λr h'=>r=.aA .i64 st.aC.length/\h'=h:=by refine fS hf ?_;obtain⟨⟨a,h1,h2⟩,h3,h4⟩:=hr;have ll:=(eY.rd _ (F':=λ_=>True) (λ_ _=>Vd) _ h2).aJ;simp only[ru,go_sem,h1,ll]
theorem HA {P:Program}{f:FuncId}(hf:Is P f rq){F:Nat->Prop}{h:eX}{q:Nat}{st:fH}(hr:iN F h q st):fC P f [.aC q 2 0 0] h λr h'=>r=.aE st.isNone/\h'=h:=by refine fS hf ?_;obtain⟨⟨a,h1,h2⟩,h3,h4⟩:=hr;simp only[rq,go_sem,h1]
theorem HC {P:Program}{f:FuncId}(hf:Is P f qf){F:Nat->Prop}{h:eX}{q:Nat}{st:fH}(hr:iN F h q st):fC P f [.aC q 2 0 0] h λr h'=>r=.aA .i64 st.aD/\h'=h:=by
 refine fS hf ?_;obtain⟨⟨a,h1,h2⟩,h3,h4⟩:=hr;have ll:=(eY.rd _ (F':=λ_=>True) (λ_ _=>Vd) _ h2).aJ;cases st with
 | none=>simp only[qf,go_sem,h1,Option.isNone_none];exact rfl
 | some l=>
  simp only[fH.aC,Vu]at ll;by_cases c:(0:Int)<l.length;·simp only[qf,go_sem,h1,WL,ll,U3 c];simp only[fH.aD];rw[U4 (by omega)]
  ·simp only[qf,go_sem,h1,WL,ll,U2 c];simp only[fH.aD];rw[U6 (by omega)]
def qF (P:Program)(f:FuncId):Prop:=
 fK P f=true/\∀(F:Nat->Prop)(h:eX)(l:List Int)(a:AV),Rd F h (gq l) a->l.length<=2^40->fC P f [a] h λr h'=>eY (gq l) (λm=>h.length<=m) h' r/\eW eZ h h'
theorem DK {P:Program}{f:FuncId}(hf:Is P f xi)(hk:r_ P f):qF P f:=by
 refine⟨hf.2,λF h l a ha hl=>?_⟩;by_cases h0:l=[]
 ·subst h0;intro G w vs g hv;obtain⟨v,rfl,hV⟩:=CO hv;have hz:v=.slice none 0 0\/∃p c,v=.slice (some p) 0 c:=by
   simp only[gq,VO,Rd,fY]at ha;obtain⟨es,he,rfl⟩:=ha;rcases he with⟨rfl,_⟩ | ⟨t,c,rfl⟩ | ⟨n,off,len,cap,row,gr,rfl,_,C,a1,a3,E⟩
   ·cases hV;exact .inl rfl
   ·generalize hee:([]:List (List AV))=es at hV;cases hV with
    | aF=>exact .inl rfl
    | aE=>subst hee;exact .inr ⟨_,_,rfl⟩
   ·have h1:len=0:=by have:=W_ List.length E;simp at this;omega
    subst h1;cases hV with
    | aH=>exact .inl rfl
    | aC=>exact .inr ⟨_,_,rfl⟩
  rcases hz with rfl | ⟨p,c,rfl⟩
  ·have:fC P f [.aD] h λr h'=>eY (gq []) (λm=>h.length<=m) h' r/\eW eZ h h':=by refine fS hf ?_;have an:mP false .aD=some (.aE true):=rfl;simp only[xi,go_sem,tU,an];exact⟨eY.aD 1,eW.aC _ _⟩
   exact this G w _ g (CP .aO)
  ·refine (hk.aA p c w).mono ?_;rintro e w' ⟨a',c',rfl,U,hr,hs⟩;obtain⟨g',s'⟩:=g.aZ hr hs;refine⟨_,.aM 0 false 1 [],h,G,rfl,⟨?_,eW.aC _ _⟩,g',?_,s'⟩;·simp only[gq,VO,eY];exact .inr (.inl ⟨0,false,rfl,Vd⟩)
   ·exact V.aE (G:=G) (w:=w') 0 false 1 [] a' c' (λ_ _=>undef) (Vk _) (λe=>by cases e) (λ_=>U) (λZ=>absurd rfl Z) (λe he=>by simp at he) (λi j c hj=>by simp[gw]at hj) (λi j c hj=>by simp[gw]at hj)
 ·refine fS hf ?_;have an:mP false a=some (.aE false):=by
   have hpos:0<l.length:=W9.2 h0;have hl':=ha.aJ;simp only[gq,Rd]at ha;obtain⟨es,he,E⟩:=ha;have u:=kM E;rw[Vg]at u;rcases he with⟨rfl,rfl⟩ | ⟨t,c,rfl⟩ | ⟨n,off,len,cap,row,gr,rfl,_,C,a1,a3,rfl⟩;·simp at u;omega
   ·simp only[mP,oW,jW,VS];rw[U4 (by omega)];rfl
   ·simp only[Va,Vo]at u;simp only[mP,oW,jW,VS];rw[U4 (by omega)];rfl
  obtain⟨ys,M,O⟩:=(ha.up (eW.b1 (some (.aA 1 [] false)))).aH;obtain⟨o,h',a4,W,hc',a2⟩:=l_ (lo:=h.length) (sz:=1) (bytes:=1) (ds:=[]) (h0:=h++[some (.aA 1 [] false)]) (h:=h++[some (.aA 1 [] false)]) (av:=.aG h.length 1 0 0 (some 0))
   (by simp only[eY];exact .inr (.inr ⟨_,0,some 0,[],false,rfl,U8 _,gJ _ _,by simp,(λc hc=>by cases hc;simp),by simp[fG]⟩))
   ⟨[],false,gJ _ _,(λh=>by cases h),λc hc=>by cases hc;simp⟩ (eW.aC eZ _) (rP O) (by simp) (by simp;omega)
  have I:=iv M 1 (.aG h.length 1 0 0 (some 0));rw[a4]at I;simp only[xi,go_sem,tU,an,I];exact⟨by simpa [gq] using W,(eW.b1 _).aJ a2 (λm hm hm'=>by omega)⟩
def sH (P:Program)(f:FuncId):Prop:=fK P f=true/\∀(G:Nat->Prop)(h:eX)(l:List Int)(b:AV),Rd G h (gq l) b->gF l->l.length<=2^40->
 fC P f [b] h λr h'=>∃q,r=.aC q 2 0 0/\h.length<=q/\iN (λm=>h.length<=m/\m<q) h' q (some l)/\eW eZ h h'
theorem P7 {P:Program}{f g:FuncId}(hf:Is P f (AS g))(hg:qF P g):sH P f:=by refine⟨hf.2,λG h l b hb h1 h2=>fS hf ?_⟩;simp only[AS,go_sem];refine fy ⟨hg.1,hg.2 G h l b hb h2⟩ ?_;rintro r H ⟨ro,rx⟩;simp only[go_sem,ro.aA,gz ro.aA];refine⟨H.length,rfl,rx.1,⟨⟨r,gJ _ _,?_⟩,h1,h2⟩,rx.tr (eW.b1 _)⟩;exact eY.aC _ (λm hm=>hm) ((eW.b1 _).aE _) _ (eY.lt _ _ ro)
end Glb
