/-
  A library of its own.
-/
import Derived.Test.YtdeiamnhnfmilaaGreatGlbImgA
import Derived.Test.YtdeiamnhnfmilaaGreatGlbConB
set_option linter.unusedSimpArgs false
set_option linter.unusedVariables false
set_option maxRecDepth 10000
set_option maxHeartbeats 4000000
namespace Glb
open Go
variable {P:Program}{f g:FuncId}
theorem I2 {sz bytes:Nat}{F G:Nat->Prop}{ds es:List (List D)}{h0 h:fu}{av:AV}{ys:List (List AV)}(ho:fA (.sl sz ds) F h0 av)(hc:ic h0 av)
  (hx:fq fB h0 h) (hy:fQ es G h ys) (hG:∀m,G m->F m) (hN:∀n off len cap,av=.aG n sz off len cap->¬G n) (hF:F h.length) (hb:(ds.length+es.length)*bytes<=2^46):
  ∃av' h',iL h sz bytes av ys=some (av',h')/\fA (.sl sz (ds++es)) F h' av'/\ic h' av'/\fq (λm=>(∃off len cap,av=.aG m sz off len cap)/\F m) h h' /\
   (∀n off len cap,av'=.aG n sz off len cap->(∃off' len' cap',av=.aG n sz off' len' cap')\/h.length<=n):=by
 have hyl:=pM hy;have fresh:∀(hh:fu) (dd:List (List D)) (es':List (List AV)),F hh.length->fQ dd F hh es'->
   fA (.sl sz dd) F (gY hh sz es').2 (gY hh sz es').1/\ic (gY hh sz es').2 (gY hh sz es').1:=by
  intro hh dd es' hl hd;have hlen:=pM hd;refine⟨?_,⟨es',true,by simp[gY],(λ_=>rfl),(λc hc=>by cases hc)⟩⟩;simp only[fA,gY];refine .inr (.inr ⟨hh.length,0,none,es',true,by rw[hlen],hl,ς,ω,(λc hc=>by cases hc),?_⟩);have:(es'.drop 0).take dd.length=es':=by rw[Yt,Xu ω]
  rw[this];refine fQ.aA dd (λm hm=>⟨hm.1,by have:=hm.2;omega⟩) ?_ _ (fQ.lt dd _ hd);intro m hm x hx;rw[Xy hm.2];exact hx
 simp only[fA]at ho;rcases ho with⟨rfl,rfl⟩ | ⟨t,c,rfl,rfl⟩ | ⟨n,off,cap,row,g,rfl,hn,hrow,hle,hcl,hd⟩
 · -- nothing yet
  have hy':fQ es F h ys:=fQ.aA es hG (λ_ _ _ x=>x) _ hy;obtain⟨a,b⟩:=fresh h es ys hF hy';refine⟨_,_,?_,by simpa using a,b,?_⟩;·simp only[iL];rw[WW (by rw[hyl];simpa using hb)]
  ·exact⟨fq.aF _ _ _,by intro n off len cap e;simp only[gY,AV.aG.injEq]at e;right;omega⟩
 ·have hc1:c=true:=hc;subst hc1;have hy':fQ es F h ys:=fQ.aA es hG (λ_ _ _ x=>x) _ hy;simp only[iL];rw[WW ⟨Xb,by rw[hyl];simpa using hb⟩];by_cases hy0:ys.length=0;·rw[WW hy0];have hes:es=[]:=W5 ω;subst hes;refine⟨_,_,rfl,?_,rfl,fq.aC _ _,by intro n off len cap e;cases e⟩;simp only[fA];exact .inr (.inl ⟨t,true,rfl,rfl⟩)
  ·rw[WY hy0,WW Xb];obtain⟨a,b⟩:=fresh h es ys hF hy';exact⟨_,_,rfl,by simpa [gY] using a,b,fq.aF _ _ _,by intro n off len cap e;simp only[AV.aG.injEq]at e;right;omega⟩
 ·obtain⟨row',g',hrow',hcn,hcs⟩:=hc;rw[hrow]at hrow';obtain⟨rfl,rfl⟩:row=row'/\g=g':=by simpa using hrow'
  have hnlt:=(WR.1 hrow).1;have hrow1:h[n]?=some (some (.aA sz row g)):=hx.aA hrow;have hnlt1:=(WR.1 hrow1).1;have hd1:fQ ds (λm=>F m/\m≠n) h ((row.drop off).take ds.length):=fQ.aA ds (λm hm=>hm) (hx.aE _) _ hd;have hy1:fQ es (λm=>F m/\m≠n) h ys:=fQ.aA es (λm hm=>⟨hG _ hm,by rintro rfl;exact hN _ _ _ _ rfl hm⟩) (λ_ _ _ x=>x) _ hy;have both:fQ (ds++es) F h ((row.drop off).take ds.length++ys):=fQ.aA _ (λm hm=>hm.1) (λ_ _ _ x=>x) _ (n9 hd1 hy1);simp only[iL,hrow1];rw[WW ⟨Xb,Xb,hle,by rw[hyl];exact hb⟩];cases cap with
  | none=>
   obtain rfl:=hcn rfl;simp only[Yc];have both':fQ (ds++es) F (h.set n none) (row.take ds.length++ys):=by have:=n9 hd1 hy1;rw[Yt]at this;exact fQ.aA _ (λm hm=>hm.1) (λm hm x hx=>by rw[WS (λe=>hm.2 e.symm)];exact hx) _ this
   obtain⟨a,b⟩:=fresh (h.set n none) (ds++es) (row.take ds.length++ys) (by rw[W4];exact hF) both';exact⟨_,_,rfl,a,b,(fq.aH none (λ_=>⟨⟨_,_,_,rfl⟩,hn⟩)).aD (fq.aF _ _ _) (λ_ _ x=>x) (λ_ _ x=>x),by intro n' off len cap e;simp only[AV.aG.injEq,W4]at e;right;omega⟩
  | some c=>
   have hc1:=hcl c rfl;have hc2:=hcs c rfl;cases c with
   | zero=>
    have h0:ds.length=0:=ω;have hds:ds=[]:=W5 h0;subst hds;simp only[Xi,Yc];by_cases hy0:ys.length=0;·rw[WW hy0];have hes:es=[]:=W5 ω;subst hes;refine⟨_,_,rfl,?_,⟨row,g,hrow1,(λe=>by cases e),(λc hc=>by cases hc;omega)⟩,fq.aC _ _,λn' off' len' cap' e=>.inl ⟨_,_,_,e⟩⟩;simp only[fA];exact .inr (.inr ⟨n,off,some 0,row,g,rfl,hn,hrow1,by simpa using hle,(λc hc=>by cases hc;simp),by simp[fQ]⟩)
    ·rw[WY hy0];have hy2:fQ es F h ys:=fQ.aA es (λm hm=>hm.1) (λ_ _ _ x=>x) _ hy1;obtain⟨a,b⟩:=fresh h es ys hF hy2;exact⟨_,_,rfl,by simpa [gY] using a,b,fq.aF _ _ _,by intro n off len cap e;simp only[AV.aG.injEq]at e;right;omega⟩
   | succ c=>
    simp only;by_cases hcap:c+1<ds.length+ys.length;·rw[WW hcap];obtain⟨a,b⟩:=fresh h (ds++es) _ hF both;exact⟨_,_,rfl,a,b,fq.aF _ _ _,by intro n' off' len' cap' e;simp only[AV.aG.injEq]at e;right;omega⟩
    ·rw[WY hcap,WW ω];have hsl:(iq row (off+ds.length) ys).length=row.length:=by simp[iq];omega
     refine⟨_,_,rfl,?_,⟨_,g,by rw[W0 hnlt1],(λe=>by cases e),(λc' hc'=>by cases hc';rw[hsl];exact hc2)⟩,fq.aH _ (λ_=>⟨⟨_,_,_,rfl⟩,hn⟩),by intro n' off' len' cap' e;simp only[AV.aG.injEq]at e;exact .inl ⟨_,_,_,by rw[<-e.1]⟩⟩;simp only[fA];refine .inr (.inr ⟨n,off,some (c+1),iq row (off+ds.length) ys,g,by rw[WT,hyl],hn,by rw[W0 hnlt1],by rw[hsl,WT];omega,
      (λc' hc'=>by cases hc';rw[WT];omega),?_⟩)
     have e:((iq row (off+ds.length) ys).drop off).take (ds++es).length=(row.drop off).take ds.length++ys:=by
      apply XT;intro i;simp only[Ye,Xv,WT,iq,Yk,W7,WT,Xk];rw[show min (off+ds.length) row.length=off+ds.length by omega,show min ds.length (row.length-off)=ds.length by omega];by_cases h1:i<ds.length;·rw[WW ω,WW ω,WW ω,WW ω,WW h1];simp[h1]
      ·by_cases h2:i<ds.length+es.length
       ·rw[WW h2,WW ω,WY ω,WY h1];congr 1;omega
       ·rw[WY h2,WY h1,XP ω]
     rw[e];refine fQ.aA _ (λm hm=>hm) ?_ _ (n9 hd1 hy1);intro m hm x hx;rw[WS (λe=>hm.2 e.symm)];exact hx
variable {P:Program}{f g:FuncId}
theorem Rd.aO {F:Nat->Prop}{h:fu}{l:List Int}{a:AV}(hx:Rd F h (gG l) a){i:Nat}(hi:i<l.length):
  ∃p,jq 1 a (ι i)=some p/\iK h false 1 p=some (.aD .u8 l[i]):=by
 obtain⟨p,cs,hp,u,e⟩:=hx.aD .i64 (i:=i) (d:=[.aA .u8 l[i]]) ω (by simp[hi]);simp only[fH,Rd]at e;obtain⟨_,_,rfl,rfl,rfl⟩:=e;exact⟨p,hp,by rw[jN u];exact zN _ _ _⟩
theorem Rd.aI {F:Nat->Prop}{h:fu}{l:List Int}{a:AV}(hx:Rd F h (gG l) a):iJ a=some (ι l.length):=by simpa using hx.aC
theorem zu {F:Nat->Prop}{sz:Nat}{ds:List (List D)}{h:fu}{av:AV}(ho:fA (.sl sz ds) F h av){k:Int}(h0:0<=k)(hk:k<=ds.length):
  ∃E,iX sz av (some k) none none=some E/\fA (.sl sz (ds.drop k.toNat)) F h E:=by
 simp only[fA]at ho;rcases ho with⟨rfl,rfl⟩ | ⟨t,c,rfl,rfl⟩ | ⟨n,off,cap,row,g,rfl,hn,e,I,u,hd⟩
 ·have:k=0:=by simpa using (by simp at hk;omega:k=0)
  subst this;exact⟨.aC,by simp[iX],fA.aD sz⟩
 ·have:k=0:=by simpa using (by simp at hk;omega:k=0)
  subst this;refine⟨.aM t (rX none 0 0 c) sz [],by simp[iX],?_⟩;simp only[List.drop_nil,fA];exact .inr (.inl ⟨t,_,rfl,Xb⟩)
 ·have hc2:((cap.getD ds.length:Nat):Int)≥ds.length:=by
   cases cap with
   | none=>simp
   | some c=>have:=u c rfl;simp;omega
  simp only[iX,XJ,Yo];rw[WW ⟨Xb,h0,ω,.inl ω,ω,ω⟩];by_cases e0:k=0
  ·subst e0;rw[WW rfl];refine⟨_,rfl,?_⟩;simp only[Int.toNat_zero,Yt,Yj,fA];refine .inr (.inr ⟨n,off,_,row,g,rfl,hn,e,I,λc hc=>?_,hd⟩);cases cap with
   | none=>simp[jW]at hc
   | some c'=>have:=u c' rfl;simp[jW]at hc;omega
  ·rw[WY e0];by_cases e1:k<(ds.length:Int)
   ·refine⟨_,WW e1,?_⟩;simp only[fA,Xk];refine .inr (.inr ⟨n,off+k.toNat,jW none k.toNat cap,row,g,by rw[show ((ds.length:Int)).toNat-k.toNat=ds.length-k.toNat by omega],hn,e,ω,λc hc=>?_,?_⟩)
    ·cases cap with
     | none=>simp[jW]at hc
     | some c'=>have:=u c' rfl;simp[jW]at hc;omega
    ·have:=KW hd k.toNat;rw[List.drop_take,List.drop_drop]at this;exact this
   ·refine⟨_,WY e1,?_⟩;have:ds.drop k.toNat=[]:=Zf ω;rw[this];simp only[fA];exact .inr (.inl ⟨0,false,rfl,Xb⟩)
def kX (n:Int):fR->Option (List Int)×fR
 | none=>(none,none)
 | some l=>if n<0\/(l.length:Int)<n then (none,none) else (some (l.take n.toNat),some (l.drop n.toNat))
theorem Sv (st:fR):gq st=match kX 8 st with
  | (none,s)=>(0,s)
  | (some p,s)=>(kT p,s):=by
 cases st with
 | none=>rfl
 | some l=>
  simp only[gq,kX];by_cases c:l.length<8;·rw[WW c,WW ω]
  ·rw[WY c,WY ω];rfl
theorem Su (st:fR):ie st=(((kX (gq st).1 (gq st).2).1).getD [],(kX (gq st).1 (gq st).2).2):=by
 simp only[ie];generalize gq st=x;obtain⟨n,s⟩:=x;cases s with
 | none=>rfl
 | some l=>
  simp only[kX];by_cases c:n<0\/(l.length:Int)<n;·rw[WW c,WW c];rfl
  ·rw[WY c,WY c];rfl
def fR.aC (st:fR):List Int:=st.getD []
def je (F:Nat->Prop)(h:fu)(q:Nat)(st:fR):Prop:=
 (∃a,h[q]?=some (some (.aA 2 [[a,.aE st.isNone]] false))/\fA (gG st.aC) F h a)/\gT st.aC/\st.aC.length<=2^40
theorem je.aA {F:Nat->Prop}{h h':fu}{q:Nat}{st:fR}(hr:je F h q st) (hq:h'[q]?=h[q]?) (hk:ik F h h'):je F h' q st:=by obtain⟨⟨a,h1,h2⟩,h3,h4⟩:=hr;exact⟨⟨a,hq.trans h1,fA.aC _ (λ_ x=>x) hk _ h2⟩,h3,h4⟩
theorem je.lt {F:Nat->Prop}{h:fu}{q:Nat}{st:fR}(hr:je F h q st):q<h.length:=(WR.1 hr.1.choose_spec.1).1
theorem je.up {F:Nat->Prop}{h h':fu}{q:Nat}{st:fR}(hr:je F h q st)(e:fq fB h h'):je F h' q st:=hr.aA (e.2 _ hr.lt (λx=>x)) (e.aE F)
abbrev iO (q:Nat):Nat->Prop:=λm=>m=q
theorem fq.aL {h:fu}(q:Nat)(x:Option fC):fq (iO q) h (h.set q x):=fq.aH x (λ_=>rfl)
theorem Eu {d:D}{F:Nat->Prop}{h:fu}{a:AV}(ho:fA d F h a){q:Nat}(hq:¬F q)(x:Option fC):fA d F (h.set q x) a:=
 fA.aC _ (λm hm=>hm) (λm hm y hy=>by rw[WS (by rintro rfl;exact hq hm)];exact hy) _ ho
def Aj (P:Program)(f:FuncId):Prop:=fZ P f=true/\∀(F:Nat->Prop)(h:fu)(q:Nat)(st:fR),je F h q st->fO P f [.aA q 2 0 0] h λ_ h'=>je F h' q none/\fq (iO q) h h'
def x7 (P:Program)(f:FuncId):Prop:=fZ P f=true/\∀(F:Nat->Prop)(h:fu)(q:Nat)(st:fR)(n:Int),je F h q st->¬F q->
 fO P f [.aA q 2 0 0,.aD .i64 n] h λr h'=>je F h' q (kX n st).2/\fq (iO q) h h'/\∃p,r=.aI [p,.aE (kX n st).1.isSome]/\fA (gG ((kX n st).1.getD [])) F h' p
def nN (P:Program)(f:FuncId):Prop:=fZ P f=true/\∀(F:Nat->Prop)(h:fu)(q:Nat)(st:fR),je F h q st->¬F q->
 fO P f [.aA q 2 0 0] h λr h'=>r=.aD .i64 (gq st).1/\je F h' q (gq st).2/\fq (iO q) h h'
def tT (P:Program)(f:FuncId):Prop:=fZ P f=true/\∀(F:Nat->Prop)(h:fu)(q:Nat)(st:fR),je F h q st->¬F q->
 fO P f [.aA q 2 0 0] h λr h'=>fA (gG (ie st).1) F h' r/\je F h' q (ie st).2/\fq (iO q) h h'
def Ar (P:Program)(f:FuncId):Prop:=fZ P f=true/\∀(F:Nat->Prop)(h:fu)(q:Nat)(st:fR),je F h q st->¬F q->
 fO P f [.aA q 2 0 0] h λr h'=>fA (f_ (ja gq st).1) (λm=>h.length<=m) h' r/\je F h' q (ja gq st).2/\fq (iO q) h h'
theorem HE (hf:Is P f Cm):Aj P f:=by refine⟨hf.2,λF h q st hr=>gy hf ?_⟩;have hlt:=hr.lt;obtain⟨⟨a,h1,h2⟩,h3,h4⟩:=hr;simp only[Cm,go_sem,h1,hlt,Yi];exact⟨⟨⟨.aC,W0 hlt,fA.aD 1⟩,by simp[fR.aC,gT],by simp[fR.aC]⟩,fq.aL _ _⟩
theorem Vd (hf:Is P f (uF g))(hg:Aj P g):x7 P f:=by
 refine⟨hf.2,λF h q st n hr hq=>gy hf ?_⟩;have hlt:=hr.lt;have u:=hr;obtain⟨⟨a,h1,h2⟩,h3,h4⟩:=hr;have bad:(kX n st)=(none,none)->∀h',je F h' q none/\fq (iO q) h h'->je F h' q (kX n st).2/\fq (iO q) h h'/\∃p,AV.aI [.aC,.aE false]=.aI [p,.aE (kX n st).1.isSome]/\fA (gG ((kX n st).1.getD [])) F h' p:=by intro e h' hh;rw[e];exact⟨hh.1,hh.2,.aC,rfl,fA.aD 1⟩
 cases st with
 | none=>simp only[uF,go_sem,h1,Option.isNone_none];refine fK ⟨hg.1,hg.2 F h q none u⟩ ?_;rintro _ h' hh;simp only[go_sem];exact bad rfl h' hh
 | some l=>
  have ll:=(fA.rd _ (F':=λ_=>True) (λ_ _=>Xb) _ h2).aI;simp only[fR.aC,XJ]at ll h2 h3 h4;by_cases c1:n<0;·simp only[uF,go_sem,h1,Za,WZ c1];refine fK ⟨hg.1,hg.2 F h q _ u⟩ ?_;rintro _ h' hh;simp only[go_sem];exact bad (by simp only[kX];rw[WW (.inl c1)]) h' hh
  by_cases c2:(l.length:Int)<n
  ·simp only[uF,go_sem,h1,Za,WV c1,ll,WZ c2];refine fK ⟨hg.1,hg.2 F h q _ u⟩ ?_;rintro _ h' hh;simp only[go_sem];exact bad (by simp only[kX];rw[WW (.inr c2)]) h' hh
  have E:fA (.sl 1 (l.map λn=>[.aA .u8 n])) F h a:=h2;obtain⟨p,s1,s2,s3⟩:=u_ E (k:=n) ω (by simp;omega);obtain⟨t,s4,s5⟩:=zu E (k:=n) ω (by simp;omega);have e:kX n (some l)=(some (l.take n.toNat),some (l.drop n.toNat)):=by simp only[kX];rw[WY ω]
  rw[e];simp only[uF,go_sem,h1,Za,WV c1,ll,WV c2,n_,s1,s4,s5.aA,gV s5.aA];refine⟨⟨⟨t,?_,?_⟩,?_,?_⟩,fq.aL _ _,p,rfl,?_⟩;·exact W0 hlt
  ·refine Eu ?_ hq _;simp only[fR.aC,XJ,gG,Zq];exact s5
  ·exact h3.aD _
  ·simp only[fR.aC,XJ,Xk];omega
  ·refine Eu ?_ hq _;simp only[XJ,gG,YX];exact s2
theorem Ry (a b:Int):jX .or (.aD .u64 a) (.aD .u64 b)=some (.aD .u64 (IntKind.u64.wrap (BitVec.ofInt 64 a ||| BitVec.ofInt 64 b).toNat)):=W_ rfl rfl
theorem UZ (a b:Int):jX .shl (.aD .u64 a) (.aD .u64 b)=if b<0 then none else some (.aD .u64 (IntKind.u64.wrap (a*2^(min b.toNat 64)))):=W_ rfl rfl
theorem Rx {u x:Int}(hu:0<=u)(hu2:u<72057594037927936)(hx:0<=x/\x<256):IntKind.u64.wrap (BitVec.ofInt 64 (u*256) ||| BitVec.ofInt 64 x).toNat=u*256+x:=by
 obtain⟨m,rfl⟩:=Int.eq_ofNat_of_zero_le hu;obtain⟨k,rfl⟩:=Int.eq_ofNat_of_zero_le hx.1;have e1:(BitVec.ofInt 64 (((m:Nat):Int)*256)).toNat=m <<< 8:=by rw[BitVec.toNat_ofInt,Nat.shiftLeft_eq];omega
 have e2:(BitVec.ofInt 64 ((k:Nat):Int)).toNat=k:=by rw[BitVec.toNat_ofInt];omega
 rw[BitVec.toNat_or,e1,e2,<-Nat.shiftLeft_add_eq_or_of_lt ω m,Nat.shiftLeft_eq,zV];omega
theorem Ka {l:List Int}{i:Nat}(hi:i<l.length):nJ (l.take (i+1))=nJ (l.take i)*256+l[i]:=by rw[XE hi];simp only[nJ,List.foldl_append,Zm,List.foldl_nil]
theorem Vy:∀(n:Nat)(l:List Int),l.length=n->gT l->0<=nJ l/\nJ l<256^n:=by
 intro n;induction n with
 | zero=>intro l h _;have:=W5 h;subst this;simp[nJ]
 | succ n ih=>intro l h hb;have hn:n<l.length:=ω;have:=Ka hn;rw[Xu ω]at this;rw[this];obtain⟨h1,h2⟩:=ih (l.take n) (by simp;omega) (hb.aA n);have hx:=hb l[n] (Xq _);rw[Int.pow_succ];omega
theorem RW:∀i:Nat,i<8->(256:Int)^i<=72057594037927936:=by decide
theorem RI (hf:Is P f (Ck g))(hg:x7 P g):nN P f:=by
 refine⟨hf.2,λF h q st hr hq=>gy hf ?_⟩;rw[Sv];have hb:gT ((kX 8 st).1.getD [])/\((kX 8 st).1.isSome=true->((kX 8 st).1.getD []).length=8):=by
  have h3:=hr.2.1;cases st with
  | none=>simp[kX,gT]
  | some l=>
   simp only[kX];split;·simp[gT]
   ·exact⟨gT.aA h3 8,by simp;omega⟩
 simp only[Ck,go_sem];refine fK ⟨hg.1,hg.2 F h q st 8 hr hq⟩ ?_;rintro _ h1 ⟨r1,x1,p,rfl,po⟩;generalize kX 8 st=T at *;obtain⟨o,s⟩:=T;cases o with
 | none=>simp only[go_sem,Option.isSome_none];exact⟨r1,x1⟩
 | some l=>
  simp only[XJ,Option.isSome_some,forall_const]at hb po;obtain⟨E,hb2⟩:=hb;have pr:=fA.rd _ (F':=λ_=>True) (λ_ _=>Xb) _ po;simp only[go_sem,Option.isSome_some,pr.aI];refine iP (λm L h'=>∃i:Nat,lk 5 L=.aD .u64 (nJ (l.take i))/\lk 15 L=p/\lk 16 L=ι l.length/\lk 17 L=ι i/\h1=h'/\i<=l.length/\m=l.length-i) l.length ?_ ?_;·exact⟨0,by simp[fE,nJ],by simp[fE],by simp[fE],by simp[fE],rfl,ω,ω⟩
  ·rintro m L h' ⟨i,k5,O,u,e,rfl,hi,rfl⟩;simp only[G5,go_sem,u,e];refine iQ (λci=>?_) (λci=>?_)
   ·simp at ci;obtain⟨y,hy,hv⟩:=pr.aO ci;have e1:IntKind.i64.wrap (↑i+1)=(i:Int)+1:=gF ω;have vb:=Vy i (l.take i) (by simp;omega) (E.aA i);have I:nJ (l.take i)<72057594037927936:=by have:=RW i ω;omega
    have hx:=E l[i] (Xq _);have e2:IntKind.u64.wrap (nJ (l.take i)*2^(min (8:Int).toNat 64))=nJ (l.take i)*256:=by rw[zV,show (2:Int)^(min (8:Int).toNat 64)=256 from rfl];omega
    have e3:IntKind.u64.wrap l[i]=l[i]:=by rw[zV];omega
    have n8:¬(8:Int)<0:=ω;simp only[go_sem,k5,O,u,e,hy,hv,UZ,WY n8,e2,e3,Ry,Rx vb.1 I hx,e1];exact⟨_,ω,i+1,by rw[Ka ci],ς,ci,rfl⟩
   ·simp at ci;obtain rfl:i=l.length:=ω;rw[XF]at k5;simp only[go_sem,k5];exact⟨rfl,r1,x1⟩
variable {P:Program}{f g:FuncId}
theorem RG {t:FuncId}(hf:Is P f (Ch g t))(hg:nN P g)(ht:x7 P t):tT P f:=by refine⟨hf.2,λF h q st hr hq=>gy hf ?_⟩;rw[Su];simp only[Ch,go_sem];refine fK ⟨hg.1,hg.2 F h q st hr hq⟩ ?_;rintro _ h1 ⟨rfl,r1,x1⟩;simp only[go_sem];refine fK ⟨ht.1,ht.2 F h1 q _ _ r1 hq⟩ ?_;rintro _ h2 ⟨r2,x2,p,rfl,po⟩;simp only[go_sem];exact⟨po,r2,x1.aD x2 (λ_ _ x=>x) (λ_ _ x=>x)⟩
theorem je.aC {F F':Nat->Prop}{h:fu}{q:Nat}{st:fR}(hr:je F h q st)(hF:∀m,F m->F' m):je F' h q st:=by obtain⟨⟨a,h1,h2⟩,h3,h4⟩:=hr;exact⟨⟨a,h1,fA.aC _ hF (ik.lt _ _) _ h2⟩,h3,h4⟩
theorem je.aD {F:Nat->Prop}{h:fu}{q:Nat}{st:fR}(hr:je F h q st):je (λm=>F m/\m<h.length) h q st:=by obtain⟨⟨a,h1,h2⟩,h3,h4⟩:=hr;exact⟨⟨a,h1,fA.lt _ _ h2⟩,h3,h4⟩
theorem Ua {i N:Nat}{xs:List Int}{v:Int}(hx:xs.length=i)(hi:i<N):
  ((xs.map λn=>[ι n])++List.replicate (N-i) [ι 0]).set i [ι v]=((xs++[v]).map λn=>[ι n])++List.replicate (N-(i+1)) [ι 0]:=by
 rw[show N-i=(N-(i+1))+1 by omega,List.replicate_succ,Zv _ _ (by simp[hx])];simp[hx]
theorem S8 {l:List Int}{n:Nat}(h:8<=l.length):iV gq (n+1) (some l)=(kT (l.take 8) :: (iV gq n (some (l.drop 8))).1,(iV gq n (some (l.drop 8))).2):=by simp only[iV,gq];rw[WY ω]
theorem RL {t:FuncId}(hf:Is P f (Cl g t))(hg:nN P g)(ht:Aj P t):Ar P f:=by
 refine⟨hf.2,λF h q st hr hq=>gy hf ?_⟩;simp only[Cl,go_sem];refine fK ⟨hg.1,hg.2 F h q st hr hq⟩ ?_;rintro _ h1 ⟨rfl,r1,x1⟩;have I:=r1;have hlt:=r1.lt;obtain⟨⟨a,a1,a2⟩,a3,a4⟩:=r1;have bad:ja gq st=([],none)->∀h',je F h' q none/\fq (iO q) h1 h'->fA (f_ (ja gq st).1) (λm=>h.length<=m) h' .aC/\je F h' q (ja gq st).2/\fq (iO q) h h':=by intro e h' hh;rw[e];exact⟨fA.aD 1,hh.1,x1.aD hh.2 (λ_ _ x=>x) (λ_ _ x=>x)⟩
 cases hs:(gq st) with
 | mk n s=>
 rw[hs]at I a1 a2 a3 a4;simp only at I a1 a2 a3 a4;cases s with
 | none=>simp only[go_sem,a1,Option.isNone_none];refine fK ⟨ht.1,ht.2 F _ q none I⟩ ?_;rintro _ h' hh;simp only[go_sem];exact bad (by simp only[ja,p_,hs]) h' hh
 | some l=>
  simp only[fR.aC,XJ,Za]at a1 a2 a3 a4;have ll:=(fA.rd _ (F':=λ_=>True) (λ_ _=>Xb) _ a2).aI;have e8:IntKind.i64.wrap ((l.length:Int).tdiv 8)=((l.length / 8:Nat):Int):=by
   have:(l.length:Int).tdiv 8=((l.length / 8:Nat):Int):=by rw[Int.tdiv_eq_ediv_of_nonneg ω];omega
   rw[this,gF ω]
  have n8:¬(8:Int)=0:=ω;by_cases c1:n<0;·simp only[go_sem,a1,WZ c1];refine fK ⟨ht.1,ht.2 F _ q _ I⟩ ?_;rintro _ h' hh;simp only[go_sem];exact bad (by simp only[ja,p_,hs];rw[WW (.inl c1)]) h' hh
  by_cases c2:((l.length / 8:Nat):Int)<n
  ·simp only[go_sem,a1,WV c1,ll,Ex,WY n8,e8,WZ c2];refine fK ⟨ht.1,ht.2 F _ q _ I⟩ ?_;rintro _ h' hh;simp only[go_sem];exact bad (by simp only[ja,p_,hs];rw[WW (.inr c2)]) h' hh
  have em:ja gq st=iV gq n.toNat (some l):=by simp only[ja,p_,hs];rw[WY ω]
  rw[em];simp only[go_sem,a1,WV c1,ll,Ex,WY n8,e8,WV c2,HX,Gn (show 0<=n by omega) (W9 n) (show n*(8:Nat)<=2^46 by omega)];obtain⟨N,rfl⟩:=Int.eq_ofNat_of_zero_le (show 0<=n by omega);have la:iJ (.aG h1.length 1 0 N (some N))=some (ι N):=rfl;have q1:q<h1.length:=hlt;have U:=(je.aD I).up (fq.b1 (some (.aA 1 (List.replicate ((N:Nat):Int).toNat [ι 0]) false)));have a8:=x1.1;simp only[go_sem,Yj];simp only[go_sem,la];simp only[Yj]at U;refine iP (λm L h'=>∃(i:Nat)(xs:List Int)(l':List Int),lk 0 L=.aA q 2 0 0/\lk 4 L=.aG h1.length 1 0 N (some N)/\lk 31 L=ι N/\lk 32 L=ι i /\
    h'[h1.length]?=ar 1 ((xs.map λn=>[ι n])++List.replicate (N-i) [ι 0])/\je (λm=>F m/\m<h1.length) h' q (some l')/\fq (iO q) h1 h' /\
    xs.length=i/\i<=N/\m=N-i/\8*(N-i)<=l'.length/\iV gq N (some l)=(xs++(iV gq (N-i) (some l')).1,(iV gq (N-i) (some l')).2)) N ?_ ?_
  ·exact⟨0,[],l,by simp[fE,iw],by simp[fE],by simp[fE],by simp[fE],by simp[h_],U,fq.aF _ _ _,rfl,ω,ω,ω,ς⟩
  ·rintro m L h2 ⟨i,xs,l',k0,k4,a6,O,E,hR,hE,hx,hi,rfl,h8,W⟩;simp only[G6,go_sem,a6,O];refine iQ (λci=>?_) (λci=>?_)
   ·simp at ci;have e1:IntKind.i64.wrap (↑i+1)=(i:Int)+1:=gF ω;simp only[go_sem,k0,k4,O];refine fK ⟨hg.1,hg.2 _ h2 q _ hR (λhm=>hq hm.1)⟩ ?_;rintro _ h3 ⟨rfl,r3,x3⟩;have l8:¬l'.length<8:=ω;have ev:gq (some l')=(kT (l'.take 8),some (l'.drop 8)):=by simp only[gq];rw[WY l8]
    rw[ev]at r3 ⊢;have hl2:=hE.1;have a5:=(WR.1 E).1;have u:h3[h1.length]?=_:=(x3.2 _ a5 (by simp only[iO];omega)).trans E;have Z:=(WR.1 u).1;have ix:jq 1 (.aG h1.length 1 0 N (some N)) (ι i)=some (.aA h1.length 1 (0+i) 0):=by simp only[jq];rw[WW ⟨Xb,ω,ω⟩];simp
    have a7:=yk (x:=ι (kT (l'.take 8))) (cs':=[ι (kT (l'.take 8))]) (j:=0+i) u (cs:=[ι 0]) (by rw[Y7,XA (by simp[hx])];simp only[Xd,hx,ZF];rw[YR,WW ω]) rfl rfl rfl rfl;simp only[go_sem,k0,k4,a6,O,ix,a7,e1];refine⟨_,ω,i+1,xs++[kT (l'.take 8)],l'.drop 8,ς,?_,?_,?_,by simp[hx],ci,rfl,by simp;omega,?_⟩;·rw[WW Z,Y7,Ua hx ci]
    ·exact r3.aA (WS ω) (λm hm y hy=>by rw[WS (by have:=hm.2;omega)];exact hy)
    ·exact (hE.aD x3 (λ_ _ x=>x) (λ_ _ x=>x)).aD (fq.aL h1.length _) (λ_ _ x=>x) (λm hm hn=>by simp only[iO]at hn;omega)
    ·rw[W,show N-i=(N-(i+1))+1 by omega,S8 ω];simp
   ·simp at ci;obtain rfl:i=N:=ω;simp only[ZF,iV,Yd]at W;rw[W];simp only[go_sem,k4];refine⟨?_,hR.aC (λ_ hm=>hm.1),x1.aD hE (λ_ _ x=>x) (λ_ _ x=>x)⟩;simp only[f_,fA,Xd];refine .inr (.inr ⟨h1.length,0,some i,_,_,by rw[hx],a8,E,by simp[hx],(λc hc=>by cases hc;omega),?_⟩);simp only[ZF,List.replicate_zero,Yd,Yt];rw[Xu ς];exact wS .i64 _ _ _
variable {P:Program}{f g:FuncId}
def fR.aD:fR->Int
 | none=>4
 | some l=>if 0<l.length then 2 else 0
theorem RM (hf:Is P f sY){F:Nat->Prop}{h:fu}{q:Nat}{st:fR}(hr:je F h q st):fO P f [.aA q 2 0 0] h λr h'=>r=ι st.aC.length/\h'=h:=by refine gy hf ?_;obtain⟨⟨a,h1,h2⟩,h3,h4⟩:=hr;have ll:=(fA.rd _ (F':=λ_=>True) (λ_ _=>Xb) _ h2).aI;simp only[sY,go_sem,h1,ll]
theorem I9 (hf:Is P f sX){F:Nat->Prop}{h:fu}{q:Nat}{st:fR}(hr:je F h q st):fO P f [.aA q 2 0 0] h λr h'=>r=.aE st.isNone/\h'=h:=by refine gy hf ?_;obtain⟨⟨a,h1,h2⟩,h3,h4⟩:=hr;simp only[sX,go_sem,h1]
theorem Ja (hf:Is P f rG){F:Nat->Prop}{h:fu}{q:Nat}{st:fR}(hr:je F h q st):fO P f [.aA q 2 0 0] h λr h'=>r=ι st.aD/\h'=h:=by
 refine gy hf ?_;obtain⟨⟨a,h1,h2⟩,h3,h4⟩:=hr;have ll:=(fA.rd _ (F':=λ_=>True) (λ_ _=>Xb) _ h2).aI;cases st with
 | none=>simp only[rG,go_sem,h1,Option.isNone_none];exact rfl
 | some l=>
  simp only[fR.aC,XJ]at ll;by_cases c:(0:Int)<l.length;·simp only[rG,go_sem,h1,Za,ll,WZ c];simp only[fR.aD];rw[WW ω]
  ·simp only[rG,go_sem,h1,Za,ll,WV c];simp only[fR.aD];rw[WY ω]
variable {P:Program}{f g:FuncId}
variable {P:Program}{f g:FuncId}
def r_ (P:Program)(f:FuncId):Prop:=
 fZ P f=true/\∀(F:Nat->Prop)(h:fu)(l:List Int)(a:AV),Rd F h (gG l) a->l.length<=2^40->fO P f [a] h λr h'=>fA (gG l) (λm=>h.length<=m) h' r/\fq fB h h'
theorem Fg (hf:Is P f yI)(hk:xw P f):r_ P f:=by
 refine⟨hf.2,λF h l a ha hl=>?_⟩;by_cases h0:l=[]
 ·subst h0;intro G w vs g hv;obtain⟨v,rfl,hV⟩:=IX hv;have hz:v=.slice none 0 0\/∃p c,v=.slice (some p) 0 c:=by
   simp only[gG,Yb,Rd,gB]at ha;obtain⟨es,he,rfl⟩:=ha;rcases he with⟨rfl,_⟩ | ⟨t,c,rfl⟩ | ⟨n,off,len,cap,row,gr,rfl,_,E,a3,a5,I⟩
   ·cases hV;exact .inl rfl
   ·generalize hee:([]:List (List AV))=es at hV;cases hV with
    | aG=>exact .inl rfl
    | aE=>subst hee;exact .inr ⟨_,_,rfl⟩
   ·have h1:len=0:=by have:=Y5 List.length I;simp at this;omega
    subst h1;cases hV with
    | aH=>exact .inl rfl
    | aD=>exact .inr ⟨_,_,rfl⟩
  rcases hz with rfl | ⟨p,c,rfl⟩
  ·have:fO P f [.aC] h λr h'=>fA (gG []) (λm=>h.length<=m) h' r/\fq fB h h':=by refine gy hf ?_;have an:qx false .aC=some (.aE true):=rfl;simp only[yI,go_sem,zC,an];exact⟨fA.aD 1,fq.aC _ _⟩
   exact this G w _ g (IY .aO)
  ·refine (hk.aA p c w).mono ?_;rintro e w' ⟨a',c',rfl,Z,hr,hs⟩;obtain⟨g',s'⟩:=g.bC hr hs;refine⟨_,.aM 0 false 1 [],h,G,rfl,⟨?_,fq.aC _ _⟩,g',?_,s'⟩;·simp only[gG,Yb,fA];exact .inr (.inl ⟨0,false,rfl,Xb⟩)
   ·exact V.aE (G:=G) (w:=w') 0 false 1 [] a' c' (λ_ _=>undef) (Xm _) (λe=>by cases e) (λ_=>Z) (λa2=>absurd rfl a2) (λe he=>by simp at he) (λi j c hj=>by simp[gI]at hj) (λi j c hj=>by simp[gI]at hj)
 ·refine gy hf ?_;have an:qx false a=some (.aE false):=by
   have hpos:0<l.length:=Zy.2 h0;have hl':=ha.aI;simp only[gG,Rd]at ha;obtain⟨es,he,I⟩:=ha;have u:=mz I;rw[Xd]at u;rcases he with⟨rfl,rfl⟩ | ⟨t,c,rfl⟩ | ⟨n,off,len,cap,row,gr,rfl,_,E,a3,a5,rfl⟩;·simp at u;omega
   ·simp only[qx,rZ,lC,Yc];rw[WW ω];rfl
   ·simp only[W7,Xk]at u;simp only[qx,rZ,lC,Yc];rw[WW ω];rfl
  obtain⟨ys,U,W⟩:=(ha.up (fq.b1 (some (.aA 1 [] false)))).aH;obtain⟨o,h',a6,a1,hc',a4⟩:=nW (lo:=h.length) (sz:=1) (bytes:=1) (ds:=[]) (h0:=h++[some (.aA 1 [] false)]) (h:=h++[some (.aA 1 [] false)]) (av:=.aG h.length 1 0 0 (some 0))
   (by simp only[fA];exact .inr (.inr ⟨_,0,some 0,[],false,rfl,WX _,h_ _ _,ς,(λc hc=>by cases hc;simp),by simp[fQ]⟩))
   ⟨[],false,h_ _ _,(λh=>by cases h),λc hc=>by cases hc;simp⟩ (fq.aC fB _) (wT W) ς (by simp;omega)
  have O:=iR U 1 (.aG h.length 1 0 0 (some 0));rw[a6]at O;simp only[yI,go_sem,zC,an,O];exact⟨by simpa [gG] using a1,(fq.b1 _).aJ a4 (λm hm hm'=>ω)⟩
def ui (P:Program)(f:FuncId):Prop:=fZ P f=true/\∀(G:Nat->Prop)(h:fu)(l:List Int)(b:AV),Rd G h (gG l) b->gT l->l.length<=2^40->
 fO P f [b] h λr h'=>∃q,r=.aA q 2 0 0/\h.length<=q/\je (λm=>h.length<=m/\m<q) h' q (some l)/\fq fB h h'
theorem RN (hf:Is P f (Cg g))(hg:r_ P g):ui P f:=by refine⟨hf.2,λG h l b hb h1 h2=>gy hf ?_⟩;simp only[Cg,go_sem];refine fK ⟨hg.1,hg.2 G h l b hb h2⟩ ?_;rintro r H ⟨ro,rx⟩;simp only[go_sem,ro.aA,gV ro.aA];refine⟨H.length,rfl,rx.1,⟨⟨r,h_ _ _,?_⟩,h1,h2⟩,rx.tr (fq.b1 _)⟩;exact fA.aC _ (λm hm=>hm) ((fq.b1 _).aE _) _ (fA.lt _ _ ro)
end Glb
