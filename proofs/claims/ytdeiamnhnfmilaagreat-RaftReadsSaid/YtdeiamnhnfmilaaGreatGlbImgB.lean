/-
  A library of its own.
-/
import Derived.Test.YtdeiamnhnfmilaaGreatGlbImgA
import Derived.Test.YtdeiamnhnfmilaaGreatGlbConB
set_option linter.unusedSimpArgs false
set_option linter.unusedVariables false
set_option maxRecDepth 10000
set_option maxHeartbeats 4000000
namespace Glb
open Go
theorem GI {sz bytes:Nat}{F G:Nat->Prop}{ds es:List (List D)}{h0 h:eW}{av:AV}{ys:List (List AV)}(ho:eX (.sl sz ds) F h0 av)(hc:gP h0 av)
  (hx:eV eY h0 h) (hy:fG es G h ys) (hG:∀m,G m->F m) (hN:∀n off len cap,av=.aG n sz off len cap->¬G n) (hF:F h.length) (hb:(ds.length+es.length)*bytes<=2^46):
  ∃av' h',ij h sz bytes av ys=some (av',h')/\eX (.sl sz (ds++es)) F h' av'/\gP h' av'/\eV (λm=>(∃off len cap,av=.aG m sz off len cap)/\F m) h h' /\
   (∀n off len cap,av'=.aG n sz off len cap->(∃off' len' cap',av=.aG n sz off' len' cap')\/h.length<=n):=by
 have hyl:=oE hy;have fresh:∀(hh:eW) (dd:List (List D)) (es':List (List AV)),F hh.length->fG dd F hh es'->
   eX (.sl sz dd) F (gM hh sz es').2 (gM hh sz es').1/\gP (gM hh sz es').2 (gM hh sz es').1:=by
  intro hh dd es' hl hd;have hlen:=oE hd;refine⟨?_,⟨es',true,by simp[gM],(λ_=>rfl),(λc hc=>by cases hc)⟩⟩;simp only[eX,gM];refine .inr (.inr ⟨hh.length,0,none,es',true,by rw[hlen],hl,by simp,by omega,(λc hc=>by cases hc),?_⟩);have:(es'.drop 0).take dd.length=es':=by rw[Vy,UU (by omega)]
  rw[this];refine fG.aA dd (λm hm=>⟨hm.1,by have:=hm.2;omega⟩) ?_ _ (fG.lt dd _ hd);intro m hm x hx;rw[UZ hm.2];exact hx
 simp only[eX]at ho;rcases ho with⟨rfl,rfl⟩ | ⟨t,c,rfl,rfl⟩ | ⟨n,off,cap,row,g,rfl,hn,hrow,hle,hcl,hd⟩
 · -- nothing yet
  have hy':fG es F h ys:=fG.aA es hG (λ_ _ _ x=>x) _ hy;obtain⟨a,b⟩:=fresh h es ys hF hy';refine⟨_,_,?_,by simpa using a,b,?_⟩;·simp only[ij];rw[Uv (by rw[hyl];simpa using hb)]
  ·exact⟨eV.aF _ _ _,by intro n off len cap e;simp only[gM,AV.aG.injEq]at e;right;omega⟩
 ·have hc1:c=true:=hc;subst hc1;have hy':fG es F h ys:=fG.aA es hG (λ_ _ _ x=>x) _ hy;simp only[ij];rw[Uv ⟨UF,by rw[hyl];simpa using hb⟩];by_cases hy0:ys.length=0;·rw[Uv hy0];have hes:es=[]:=Uz (by omega);subst hes;refine⟨_,_,rfl,?_,rfl,eV.aC _ _,by intro n off len cap e;cases e⟩;simp only[eX];exact .inr (.inl ⟨t,true,rfl,rfl⟩)
  ·rw[Uw hy0,Uv UF];obtain⟨a,b⟩:=fresh h es ys hF hy';exact⟨_,_,rfl,by simpa [gM] using a,b,eV.aF _ _ _,by intro n off len cap e;simp only[AV.aG.injEq]at e;right;omega⟩
 ·obtain⟨row',g',hrow',hcn,hcs⟩:=hc;rw[hrow]at hrow';obtain⟨rfl,rfl⟩:row=row'/\g=g':=by simpa using hrow'
  have hnlt:=(Up.1 hrow).1;have hrow1:h[n]?=some (some (.aA sz row g)):=hx.aA hrow;have hnlt1:=(Up.1 hrow1).1;have hd1:fG ds (λm=>F m/\m≠n) h ((row.drop off).take ds.length):=fG.aA ds (λm hm=>hm) (hx.aE _) _ hd;have hy1:fG es (λm=>F m/\m≠n) h ys:=fG.aA es (λm hm=>⟨hG _ hm,by rintro rfl;exact hN _ _ _ _ rfl hm⟩) (λ_ _ _ x=>x) _ hy;have both:fG (ds++es) F h ((row.drop off).take ds.length++ys):=fG.aA _ (λm hm=>hm.1) (λ_ _ _ x=>x) _ (ni hd1 hy1);simp only[ij,hrow1];rw[Uv ⟨UF,UF,hle,by rw[hyl];exact hb⟩];cases cap with
  | none=>
   obtain rfl:=hcn rfl;simp only[Vm];have both':fG (ds++es) F (h.set n none) (row.take ds.length++ys):=by have:=ni hd1 hy1;rw[Vy]at this;exact fG.aA _ (λm hm=>hm.1) (λm hm x hx=>by rw[Uq (λe=>hm.2 e.symm)];exact hx) _ this
   obtain⟨a,b⟩:=fresh (h.set n none) (ds++es) (row.take ds.length++ys) (by rw[UA];exact hF) both';exact⟨_,_,rfl,a,b,(eV.aI none (λ_=>⟨⟨_,_,_,rfl⟩,hn⟩)).aD (eV.aF _ _ _) (λ_ _ x=>x) (λ_ _ x=>x),by intro n' off len cap e;simp only[AV.aG.injEq,UA]at e;right;omega⟩
  | some c=>
   have hc1:=hcl c rfl;have hc2:=hcs c rfl;cases c with
   | zero=>
    have h0:ds.length=0:=by omega
    have hds:ds=[]:=Uz h0;subst hds;simp only[UJ,Vm];by_cases hy0:ys.length=0;·rw[Uv hy0];have hes:es=[]:=Uz (by omega);subst hes;refine⟨_,_,rfl,?_,⟨row,g,hrow1,(λe=>by cases e),(λc hc=>by cases hc;omega)⟩,eV.aC _ _,λn' off' len' cap' e=>.inl ⟨_,_,_,e⟩⟩;simp only[eX];exact .inr (.inr ⟨n,off,some 0,row,g,rfl,hn,hrow1,by simpa using hle,(λc hc=>by cases hc;simp),by simp[fG]⟩)
    ·rw[Uw hy0];have hy2:fG es F h ys:=fG.aA es (λm hm=>hm.1) (λ_ _ _ x=>x) _ hy1;obtain⟨a,b⟩:=fresh h es ys hF hy2;exact⟨_,_,rfl,by simpa [gM] using a,b,eV.aF _ _ _,by intro n off len cap e;simp only[AV.aG.injEq]at e;right;omega⟩
   | succ c=>
    simp only;by_cases hcap:c+1<ds.length+ys.length;·rw[Uv hcap];obtain⟨a,b⟩:=fresh h (ds++es) _ hF both;exact⟨_,_,rfl,a,b,eV.aF _ _ _,by intro n' off' len' cap' e;simp only[AV.aG.injEq]at e;right;omega⟩
    ·rw[Uw hcap,Uv (by omega)];have hsl:(gZ row (off+ds.length) ys).length=row.length:=by simp[gZ];omega
     refine⟨_,_,rfl,?_,⟨_,g,by rw[Ux hnlt1],(λe=>by cases e),(λc' hc'=>by cases hc';rw[hsl];exact hc2)⟩,eV.aI _ (λ_=>⟨⟨_,_,_,rfl⟩,hn⟩),by intro n' off' len' cap' e;simp only[AV.aG.injEq]at e;exact .inl ⟨_,_,_,by rw[<-e.1]⟩⟩;simp only[eX];refine .inr (.inr ⟨n,off,some (c+1),gZ row (off+ds.length) ys,g,by rw[Ut,hyl],hn,by rw[Ux hnlt1],by rw[hsl,Ut];omega,
      (λc' hc'=>by cases hc';rw[Ut];omega),?_⟩)
     have e:((gZ row (off+ds.length) ys).drop off).take (ds++es).length=(row.drop off).take ds.length++ys:=by
      apply Vf;intro i;simp only[Vp,UR,Ut,gZ,Vu,UD,Ut,UP];rw[show min (off+ds.length) row.length=off+ds.length by omega,show min ds.length (row.length-off)=ds.length by omega];by_cases h1:i<ds.length;·rw[Uv (by omega),Uv (by omega),Uv (by omega),Uv (by omega),Uv h1];simp[h1]
      ·by_cases h2:i<ds.length+es.length
       ·rw[Uv h2,Uv (by omega),Uw (by omega),Uw h1];congr 1;omega
       ·rw[Uw h2,Uw h1,U8 (by omega)]
     rw[e];refine fG.aA _ (λm hm=>hm) ?_ _ (ni hd1 hy1);intro m hm x hx;rw[Uq (λe=>hm.2 e.symm)];exact hx
theorem Rd.aO {F:Nat->Prop}{h:eW}{l:List Int}{a:AV}(hx:Rd F h (gj l) a){i:Nat}(hi:i<l.length):
  ∃p,jg 1 a (.aA .i64 i)=some p/\ir h false 1 p=some (.aA .u8 l[i]):=by
 obtain⟨p,cs,hp,u,e⟩:=hx.aE .i64 (i:=i) (d:=[.aA .u8 l[i]]) (by omega) (by simp[hi]);simp only[fm,Rd]at e;obtain⟨_,_,rfl,rfl,rfl⟩:=e;exact⟨p,hp,by rw[ju u];exact xN _ _ _⟩
theorem Rd.aI {F:Nat->Prop}{h:eW}{l:List Int}{a:AV}(hx:Rd F h (gj l) a):ik a=some (.aA .i64 l.length):=by simpa using hx.aC
theorem xB {F:Nat->Prop}{sz:Nat}{ds:List (List D)}{h:eW}{av:AV}(ho:eX (.sl sz ds) F h av){k:Int}(h0:0<=k)(hk:k<=ds.length):
  ∃E,iB sz av (some k) none none=some E/\eX (.sl sz (ds.drop k.toNat)) F h E:=by
 simp only[eX]at ho;rcases ho with⟨rfl,rfl⟩ | ⟨t,c,rfl,rfl⟩ | ⟨n,off,cap,row,g,rfl,hn,e,I,u,hd⟩
 ·have:k=0:=by simpa using (by simp at hk;omega:k=0)
  subst this;exact⟨.aD,by simp[iB],eX.aD sz⟩
 ·have:k=0:=by simpa using (by simp at hk;omega:k=0)
  subst this;refine⟨.aM t (qH none 0 0 c) sz [],by simp[iB],?_⟩;simp only[List.drop_nil,eX];exact .inr (.inl ⟨t,_,rfl,UF⟩)
 ·have hc2:((cap.getD ds.length:Nat):Int)≥ds.length:=by
   cases cap with
   | none=>simp
   | some c=>have:=u c rfl;simp;omega
  simp only[iB,U6,Vv];rw[Uv ⟨UF,h0,by omega,.inl (by omega),by omega,by omega⟩];by_cases e0:k=0
  ·subst e0;rw[Uv rfl];refine⟨_,rfl,?_⟩;simp only[Int.toNat_zero,Vy,Vt,eX];refine .inr (.inr ⟨n,off,_,row,g,rfl,hn,e,I,λc hc=>?_,hd⟩);cases cap with
   | none=>simp[jB]at hc
   | some c'=>have:=u c' rfl;simp[jB]at hc;omega
  ·rw[Uw e0];by_cases e1:k<(ds.length:Int)
   ·refine⟨_,Uv e1,?_⟩;simp only[eX,UP];refine .inr (.inr ⟨n,off+k.toNat,jB none k.toNat cap,row,g,by rw[show ((ds.length:Int)).toNat-k.toNat=ds.length-k.toNat by omega],hn,e,by omega,λc hc=>?_,?_⟩)
    ·cases cap with
     | none=>simp[jB]at hc
     | some c'=>have:=u c' rfl;simp[jB]at hc;omega
    ·have:=IM hd k.toNat;rw[List.drop_take,List.drop_drop]at this;exact this
   ·refine⟨_,Uw e1,?_⟩;have:ds.drop k.toNat=[]:=Wh (by omega);rw[this];simp only[eX];exact .inr (.inl ⟨0,false,rfl,UF⟩)
def ku (n:Int):fH->Option (List Int)×fH
 | none=>(none,none)
 | some l=>if n<0\/(l.length:Int)<n then (none,none) else (some (l.take n.toNat),some (l.drop n.toNat))
theorem PJ (st:fH):fS st=match ku 8 st with
  | (none,s)=>(0,s)
  | (some p,s)=>(kb p,s):=by
 cases st with
 | none=>rfl
 | some l=>
  simp only[fS,ku];by_cases c:l.length<8;·rw[Uv c,Uv (by omega)]
  ·rw[Uw c,Uw (by omega)];rfl
theorem PI (st:fH):gT st=(((ku (fS st).1 (fS st).2).1).getD [],(ku (fS st).1 (fS st).2).2):=by
 simp only[gT];generalize fS st=x;obtain⟨n,s⟩:=x;cases s with
 | none=>rfl
 | some l=>
  simp only[ku];by_cases c:n<0\/(l.length:Int)<n;·rw[Uv c,Uv c];rfl
  ·rw[Uw c,Uw c];rfl
def fH.aC (st:fH):List Int:=st.getD []
def iI (F:Nat->Prop)(h:eW)(q:Nat)(st:fH):Prop:=
 (∃a,h[q]?=some (some (.aA 2 [[a,.aE st.isNone]] false))/\eX (gj st.aC) F h a)/\gI st.aC/\st.aC.length<=2^40
theorem iI.aA {F:Nat->Prop}{h h':eW}{q:Nat}{st:fH}(hr:iI F h q st) (hq:h'[q]?=h[q]?) (hk:gS F h h'):iI F h' q st:=by obtain⟨⟨a,h1,h2⟩,h3,h4⟩:=hr;exact⟨⟨a,hq.trans h1,eX.aC _ (λ_ x=>x) hk _ h2⟩,h3,h4⟩
theorem iI.lt {F:Nat->Prop}{h:eW}{q:Nat}{st:fH}(hr:iI F h q st):q<h.length:=(Up.1 hr.1.choose_spec.1).1
theorem iI.up {F:Nat->Prop}{h h':eW}{q:Nat}{st:fH}(hr:iI F h q st)(e:eV eY h h'):iI F h' q st:=hr.aA (e.2 _ hr.lt (λx=>x)) (e.aE F)
abbrev iv (q:Nat):Nat->Prop:=λm=>m=q
theorem eV.aL {h:eW}(q:Nat)(x:Option e_):eV (iv q) h (h.set q x):=eV.aI x (λ_=>rfl)
theorem Cu {d:D}{F:Nat->Prop}{h:eW}{a:AV}(ho:eX d F h a){q:Nat}(hq:¬F q)(x:Option e_):eX d F (h.set q x) a:=
 eX.aC _ (λm hm=>hm) (λm hm y hy=>by rw[Uq (by rintro rfl;exact hq hm)];exact hy) _ ho
def yu (P:Program)(f:FuncId):Prop:=fP P f=true/\∀(F:Nat->Prop)(h:eW)(q:Nat)(st:fH),iI F h q st->fC P f [.aC q 2 0 0] h λ_ h'=>iI F h' q none/\eV (iv q) h h'
def wt (P:Program)(f:FuncId):Prop:=fP P f=true/\∀(F:Nat->Prop)(h:eW)(q:Nat)(st:fH)(n:Int),iI F h q st->¬F q->
 fC P f [.aC q 2 0 0,.aA .i64 n] h λr h'=>iI F h' q (ku n st).2/\eV (iv q) h h'/\∃p,r=.aI [p,.aE (ku n st).1.isSome]/\eX (gj ((ku n st).1.getD [])) F h' p
def mT (P:Program)(f:FuncId):Prop:=fP P f=true/\∀(F:Nat->Prop)(h:eW)(q:Nat)(st:fH),iI F h q st->¬F q->
 fC P f [.aC q 2 0 0] h λr h'=>r=.aA .i64 (fS st).1/\iI F h' q (fS st).2/\eV (iv q) h h'
def sj (P:Program)(f:FuncId):Prop:=fP P f=true/\∀(F:Nat->Prop)(h:eW)(q:Nat)(st:fH),iI F h q st->¬F q->
 fC P f [.aC q 2 0 0] h λr h'=>eX (gj (gT st).1) F h' r/\iI F h' q (gT st).2/\eV (iv q) h h'
def yB (P:Program)(f:FuncId):Prop:=fP P f=true/\∀(F:Nat->Prop)(h:eW)(q:Nat)(st:fH),iI F h q st->¬F q->
 fC P f [.aC q 2 0 0] h λr h'=>eX (fM (iG fS st).1) (λm=>h.length<=m) h' r/\iI F h' q (iG fS st).2/\eV (iv q) h h'
theorem Fs {P:Program}{f:FuncId}(hf:Is P f Ax):yu P f:=by refine⟨hf.2,λF h q st hr=>fU hf ?_⟩;have hlt:=hr.lt;obtain⟨⟨a,h1,h2⟩,h3,h4⟩:=hr;simp only[Ax,go_sem,h1,hlt,Vs];exact⟨⟨⟨.aD,Ux hlt,eX.aD 1⟩,by simp[fH.aC,gI],by simp[fH.aC]⟩,eV.aL _ _⟩
theorem Sy {P:Program}{f g:FuncId}(hf:Is P f (sY g))(hg:yu P g):wt P f:=by
 refine⟨hf.2,λF h q st n hr hq=>fU hf ?_⟩;have hlt:=hr.lt;have u:=hr;obtain⟨⟨a,h1,h2⟩,h3,h4⟩:=hr;have bad:(ku n st)=(none,none)->∀h',iI F h' q none/\eV (iv q) h h'->iI F h' q (ku n st).2/\eV (iv q) h h'/\∃p,AV.aI [.aD,.aE false]=.aI [p,.aE (ku n st).1.isSome]/\eX (gj ((ku n st).1.getD [])) F h' p:=by intro e h' hh;rw[e];exact⟨hh.1,hh.2,.aD,rfl,eX.aD 1⟩
 cases st with
 | none=>simp only[sY,go_sem,h1,Option.isNone_none];refine fA ⟨hg.1,hg.2 F h q none u⟩ ?_;rintro _ h' hh;simp only[go_sem];exact bad rfl h' hh
 | some l=>
  have ll:=(eX.rd _ (F':=λ_=>True) (λ_ _=>UF) _ h2).aI;simp only[fH.aC,U6]at ll h2 h3 h4;by_cases c1:n<0;·simp only[sY,go_sem,h1,Wd,Uu c1];refine fA ⟨hg.1,hg.2 F h q _ u⟩ ?_;rintro _ h' hh;simp only[go_sem];exact bad (by simp only[ku];rw[Uv (.inl c1)]) h' hh
  by_cases c2:(l.length:Int)<n
  ·simp only[sY,go_sem,h1,Wd,Us c1,ll,Uu c2];refine fA ⟨hg.1,hg.2 F h q _ u⟩ ?_;rintro _ h' hh;simp only[go_sem];exact bad (by simp only[ku];rw[Uv (.inr c2)]) h' hh
  have E:eX (.sl 1 (l.map λn=>[.aA .u8 n])) F h a:=h2;obtain⟨p,s1,s2,s3⟩:=tM E (k:=n) (by omega) (by simp;omega);obtain⟨t,s4,s5⟩:=xB E (k:=n) (by omega) (by simp;omega);have e:ku n (some l)=(some (l.take n.toNat),some (l.drop n.toNat)):=by simp only[ku];rw[Uw (by omega)]
  rw[e];simp only[sY,go_sem,h1,Wd,Us c1,ll,Us c2,nv,s1,s4,s5.aA,gC s5.aA];refine⟨⟨⟨t,?_,?_⟩,?_,?_⟩,eV.aL _ _,p,rfl,?_⟩;·exact Ux hlt
  ·refine Cu ?_ hq _;simp only[fH.aC,U6,gj,Wy];exact s5
  ·exact h3.aD _
  ·simp only[fH.aC,U6,UP];omega
  ·refine Cu ?_ hq _;simp only[U6,gj,V6];exact s2
theorem O1 (a b:Int):jx .or (.aA .u64 a) (.aA .u64 b)=some (.aA .u64 (IntKind.u64.wrap (BitVec.ofInt 64 a ||| BitVec.ofInt 64 b).toNat)):=UE rfl rfl
theorem Sk (a b:Int):jx .shl (.aA .u64 a) (.aA .u64 b)=if b<0 then none else some (.aA .u64 (IntKind.u64.wrap (a*2^(min b.toNat 64)))):=UE rfl rfl
theorem O0 {u x:Int}(hu:0<=u)(hu2:u<72057594037927936)(hx:0<=x/\x<256):IntKind.u64.wrap (BitVec.ofInt 64 (u*256) ||| BitVec.ofInt 64 x).toNat=u*256+x:=by
 obtain⟨m,rfl⟩:=Int.eq_ofNat_of_zero_le hu;obtain⟨k,rfl⟩:=Int.eq_ofNat_of_zero_le hx.1;have e1:(BitVec.ofInt 64 (((m:Nat):Int)*256)).toNat=m <<< 8:=by rw[BitVec.toNat_ofInt,Nat.shiftLeft_eq];omega
 have e2:(BitVec.ofInt 64 ((k:Nat):Int)).toNat=k:=by rw[BitVec.toNat_ofInt];omega
 rw[BitVec.toNat_or,e1,e2,<-Nat.shiftLeft_add_eq_or_of_lt (by omega) m,Nat.shiftLeft_eq,xV];omega
theorem HQ {l:List Int}{i:Nat}(hi:i<l.length):mL (l.take (i+1))=mL (l.take i)*256+l[i]:=by rw[U3 hi];simp only[mL,List.foldl_append,Wu,List.foldl_nil]
theorem SY:∀(n:Nat)(l:List Int),l.length=n->gI l->0<=mL l/\mL l<256^n:=by
 intro n;induction n with
 | zero=>intro l h _;have:=Uz h;subst this;simp[mL]
 | succ n ih=>
  intro l h hb;have hn:n<l.length:=by omega
  have:=HQ hn;rw[UU (by omega)]at this;rw[this];obtain⟨h1,h2⟩:=ih (l.take n) (by simp;omega) (hb.aA n);have hx:=hb l[n] (UT _);rw[Int.pow_succ];omega
theorem Pm:∀i:Nat,i<8->(256:Int)^i<=72057594037927936:=by decide
theorem Pa {P:Program}{f g:FuncId}(hf:Is P f (Av g))(hg:wt P g):mT P f:=by
 refine⟨hf.2,λF h q st hr hq=>fU hf ?_⟩;rw[PJ];have hb:gI ((ku 8 st).1.getD [])/\((ku 8 st).1.isSome=true->((ku 8 st).1.getD []).length=8):=by
  have h3:=hr.2.1;cases st with
  | none=>simp[ku,gI]
  | some l=>
   simp only[ku];split;·simp[gI]
   ·exact⟨gI.aA h3 8,by simp;omega⟩
 simp only[Av,go_sem];refine fA ⟨hg.1,hg.2 F h q st 8 hr hq⟩ ?_;rintro _ h1 ⟨r1,x1,p,rfl,po⟩;generalize ku 8 st=T at *;obtain⟨o,s⟩:=T;cases o with
 | none=>simp only[go_sem,Option.isSome_none];exact⟨r1,x1⟩
 | some l=>
  simp only[U6,Option.isSome_some,forall_const]at hb po;obtain⟨E,hb2⟩:=hb;have pr:=eX.rd _ (F':=λ_=>True) (λ_ _=>UF) _ po;simp only[go_sem,Option.isSome_some,pr.aI];refine iM (λm L h'=>∃i:Nat,lk 5 L=.aA .u64 (mL (l.take i))/\lk 15 L=p/\lk 16 L=.aA .i64 l.length/\lk 17 L=.aA .i64 i/\h1=h'/\i<=l.length/\m=l.length-i) l.length ?_ ?_;·exact⟨0,by simp[fj,mL],by simp[fj],by simp[fj],by simp[fj],rfl,by omega,by omega⟩
  ·rintro m L h' ⟨i,k5,M,u,e,rfl,hi,rfl⟩;simp only[EJ,go_sem,u,e];refine iw (λci=>?_) (λci=>?_)
   ·simp at ci;obtain⟨y,hy,hv⟩:=pr.aO ci;have e1:IntKind.i64.wrap (↑i+1)=(i:Int)+1:=gi (by omega);have vb:=SY i (l.take i) (by simp;omega) (E.aA i);have I:mL (l.take i)<72057594037927936:=by have:=Pm i (by omega);omega
    have hx:=E l[i] (UT _);have e2:IntKind.u64.wrap (mL (l.take i)*2^(min (8:Int).toNat 64))=mL (l.take i)*256:=by rw[xV,show (2:Int)^(min (8:Int).toNat 64)=256 from rfl];omega
    have e3:IntKind.u64.wrap l[i]=l[i]:=by rw[xV];omega
    have n8:¬(8:Int)<0:=by omega
    simp only[go_sem,k5,M,u,e,hy,hv,Sk,Uw n8,e2,e3,O1,O0 vb.1 I hx,e1];exact⟨_,by omega,i+1,by rw[HQ ci],by simp,ci,rfl⟩
   ·simp at ci;obtain rfl:i=l.length:=by omega
    rw[U7]at k5;simp only[go_sem,k5];exact⟨rfl,r1,x1⟩
theorem O_ {P:Program}{f g t:FuncId}(hf:Is P f (Au g t))(hg:mT P g)(ht:wt P t):sj P f:=by refine⟨hf.2,λF h q st hr hq=>fU hf ?_⟩;rw[PI];simp only[Au,go_sem];refine fA ⟨hg.1,hg.2 F h q st hr hq⟩ ?_;rintro _ h1 ⟨rfl,r1,x1⟩;simp only[go_sem];refine fA ⟨ht.1,ht.2 F h1 q _ _ r1 hq⟩ ?_;rintro _ h2 ⟨r2,x2,p,rfl,po⟩;simp only[go_sem];exact⟨po,r2,x1.aD x2 (λ_ _ x=>x) (λ_ _ x=>x)⟩
theorem iI.aC {F F':Nat->Prop}{h:eW}{q:Nat}{st:fH}(hr:iI F h q st)(hF:∀m,F m->F' m):iI F' h q st:=by obtain⟨⟨a,h1,h2⟩,h3,h4⟩:=hr;exact⟨⟨a,h1,eX.aC _ hF (gS.lt _ _) _ h2⟩,h3,h4⟩
theorem iI.aD {F:Nat->Prop}{h:eW}{q:Nat}{st:fH}(hr:iI F h q st):iI (λm=>F m/\m<h.length) h q st:=by obtain⟨⟨a,h1,h2⟩,h3,h4⟩:=hr;exact⟨⟨a,h1,eX.lt _ _ h2⟩,h3,h4⟩
theorem Rh {i N:Nat}{xs:List Int}{v:Int}(hx:xs.length=i)(hi:i<N):
  ((xs.map λn=>[AV.aA .i64 n])++List.replicate (N-i) [AV.aA .i64 0]).set i [.aA .i64 v]=((xs++[v]).map λn=>[AV.aA .i64 n])++List.replicate (N-(i+1)) [AV.aA .i64 0]:=by
 rw[show N-i=(N-(i+1))+1 by omega,List.replicate_succ,WC _ _ (by simp[hx])];simp[hx]
theorem Qe {l:List Int}{n:Nat}(h:8<=l.length):iA fS (n+1) (some l)=(kb (l.take 8) :: (iA fS n (some (l.drop 8))).1,(iA fS n (some (l.drop 8))).2):=by simp only[iA,fS];rw[Uw (by omega)]
theorem Pd {P:Program}{f g t:FuncId}(hf:Is P f (Aw g t))(hg:mT P g)(ht:yu P t):yB P f:=by
 refine⟨hf.2,λF h q st hr hq=>fU hf ?_⟩;simp only[Aw,go_sem];refine fA ⟨hg.1,hg.2 F h q st hr hq⟩ ?_;rintro _ h1 ⟨rfl,r1,x1⟩;have I:=r1;have hlt:=r1.lt;obtain⟨⟨a,a1,a2⟩,a3,a4⟩:=r1;have bad:iG fS st=([],none)->∀h',iI F h' q none/\eV (iv q) h1 h'->eX (fM (iG fS st).1) (λm=>h.length<=m) h' .aD/\iI F h' q (iG fS st).2/\eV (iv q) h h':=by intro e h' hh;rw[e];exact⟨eX.aD 1,hh.1,x1.aD hh.2 (λ_ _ x=>x) (λ_ _ x=>x)⟩
 cases hs:(fS st) with
 | mk n s=>
 rw[hs]at I a1 a2 a3 a4;simp only at I a1 a2 a3 a4;cases s with
 | none=>simp only[go_sem,a1,Option.isNone_none];refine fA ⟨ht.1,ht.2 F _ q none I⟩ ?_;rintro _ h' hh;simp only[go_sem];exact bad (by simp only[iG,oU,hs]) h' hh
 | some l=>
  simp only[fH.aC,U6,Wd]at a1 a2 a3 a4;have ll:=(eX.rd _ (F':=λ_=>True) (λ_ _=>UF) _ a2).aI;have e8:IntKind.i64.wrap ((l.length:Int).tdiv 8)=((l.length / 8:Nat):Int):=by
   have:(l.length:Int).tdiv 8=((l.length / 8:Nat):Int):=by rw[Int.tdiv_eq_ediv_of_nonneg (by omega)];omega
   rw[this,gi (by omega)]
  have n8:¬(8:Int)=0:=by omega
  by_cases c1:n<0
  ·simp only[go_sem,a1,Uu c1];refine fA ⟨ht.1,ht.2 F _ q _ I⟩ ?_;rintro _ h' hh;simp only[go_sem];exact bad (by simp only[iG,oU,hs];rw[Uv (.inl c1)]) h' hh
  by_cases c2:((l.length / 8:Nat):Int)<n
  ·simp only[go_sem,a1,Us c1,ll,Cy,Uw n8,e8,Uu c2];refine fA ⟨ht.1,ht.2 F _ q _ I⟩ ?_;rintro _ h' hh;simp only[go_sem];exact bad (by simp only[iG,oU,hs];rw[Uv (.inr c2)]) h' hh
  have em:iG fS st=iA fS n.toNat (some l):=by simp only[iG,oU,hs];rw[Uw (by omega)]
  rw[em];simp only[go_sem,a1,Us c1,ll,Cy,Uw n8,e8,Us c2,FJ,Ed (show 0<=n by omega) (UL n) (show n*(8:Nat)<=2^46 by omega)];obtain⟨N,rfl⟩:=Int.eq_ofNat_of_zero_le (show 0<=n by omega);have la:ik (.aG h1.length 1 0 N (some N))=some (.aA .i64 N):=rfl;have q1:q<h1.length:=hlt;have U:=(iI.aD I).up (eV.b1 (some (.aA 1 (List.replicate ((N:Nat):Int).toNat [.aA .i64 0]) false)));have a7:=x1.1;simp only[go_sem,Vt];simp only[go_sem,la];simp only[Vt]at U;refine iM (λm L h'=>∃(i:Nat)(xs:List Int)(l':List Int),lk 0 L=.aC q 2 0 0/\lk 4 L=.aG h1.length 1 0 N (some N)/\lk 31 L=.aA .i64 N/\lk 32 L=.aA .i64 i /\
    h'[h1.length]?=some (some (.aA 1 ((xs.map λn=>[.aA .i64 n])++List.replicate (N-i) [.aA .i64 0]) false))/\iI (λm=>F m/\m<h1.length) h' q (some l')/\eV (iv q) h1 h' /\
    xs.length=i/\i<=N/\m=N-i/\8*(N-i)<=l'.length/\iA fS N (some l)=(xs++(iA fS (N-i) (some l')).1,(iA fS (N-i) (some l')).2)) N ?_ ?_
  ·exact⟨0,[],l,by simp[fj,h_],by simp[fj],by simp[fj],by simp[fj],by simp[gH],U,eV.aF _ _ _,rfl,by omega,by omega,by omega,by simp⟩
  ·rintro m L h2 ⟨i,xs,l',k0,k4,a5,M,E,hR,hE,hx,hi,rfl,h8,O⟩;simp only[EK,go_sem,a5,M];refine iw (λci=>?_) (λci=>?_)
   ·simp at ci;have e1:IntKind.i64.wrap (↑i+1)=(i:Int)+1:=gi (by omega);simp only[go_sem,k0,k4,M];refine fA ⟨hg.1,hg.2 _ h2 q _ hR (λhm=>hq hm.1)⟩ ?_;rintro _ h3 ⟨rfl,r3,x3⟩;have l8:¬l'.length<8:=by omega
    have ev:fS (some l')=(kb (l'.take 8),some (l'.drop 8)):=by simp only[fS];rw[Uw l8]
    rw[ev]at r3 ⊢;have hl2:=hE.1;have Z:=(Up.1 E).1;have u:h3[h1.length]?=_:=(x3.2 _ Z (by simp only[iv];omega)).trans E;have W:=(Up.1 u).1;have ix:jg 1 (.aG h1.length 1 0 N (some N)) (.aA .i64 i)=some (.aC h1.length 1 (0+i) 0):=by simp only[jg];rw[Uv ⟨UF,by omega,by omega⟩];simp
    have a6:=wE (x:=.aA .i64 (kb (l'.take 8))) (cs':=[.aA .i64 (kb (l'.take 8))]) (j:=0+i) u (cs:=[.aA .i64 0]) (by rw[Wp,U1 (by simp[hx])];simp only[UI,hx,WL];rw[VY,Uv (by omega)]) rfl rfl rfl rfl;simp only[go_sem,k0,k4,a5,M,ix,a6,e1];refine⟨_,by omega,i+1,xs++[kb (l'.take 8)],l'.drop 8,by simp,?_,?_,?_,by simp[hx],ci,rfl,by simp;omega,?_⟩;·rw[Uv W,Wp,Rh hx ci]
    ·exact r3.aA (Uq (by omega)) (λm hm y hy=>by rw[Uq (by have:=hm.2;omega)];exact hy)
    ·exact (hE.aD x3 (λ_ _ x=>x) (λ_ _ x=>x)).aD (eV.aL h1.length _) (λ_ _ x=>x) (λm hm hn=>by simp only[iv]at hn;omega)
    ·rw[O,show N-i=(N-(i+1))+1 by omega,Qe (by omega)];simp
   ·simp at ci;obtain rfl:i=N:=by omega
    simp only[WL,iA,Vo]at O;rw[O];simp only[go_sem,k4];refine⟨?_,hR.aC (λ_ hm=>hm.1),x1.aD hE (λ_ _ x=>x) (λ_ _ x=>x)⟩;simp only[fM,eX,UI];refine .inr (.inr ⟨h1.length,0,some i,_,_,by rw[hx],a7,E,by simp[hx],(λc hc=>by cases hc;omega),?_⟩);simp only[WL,List.replicate_zero,Vo,Vy];rw[UU (by simp)];exact vh .i64 _ _ _
def fH.aD:fH->Int
 | none=>4
 | some l=>if 0<l.length then 2 else 0
theorem Pe {P:Program}{f:FuncId}(hf:Is P f rv){F:Nat->Prop}{h:eW}{q:Nat}{st:fH}(hr:iI F h q st):fC P f [.aC q 2 0 0] h λr h'=>r=.aA .i64 st.aC.length/\h'=h:=by refine fU hf ?_;obtain⟨⟨a,h1,h2⟩,h3,h4⟩:=hr;have ll:=(eX.rd _ (F':=λ_=>True) (λ_ _=>UF) _ h2).aI;simp only[rv,go_sem,h1,ll]
theorem GQ {P:Program}{f:FuncId}(hf:Is P f ru){F:Nat->Prop}{h:eW}{q:Nat}{st:fH}(hr:iI F h q st):fC P f [.aC q 2 0 0] h λr h'=>r=.aE st.isNone/\h'=h:=by refine fU hf ?_;obtain⟨⟨a,h1,h2⟩,h3,h4⟩:=hr;simp only[ru,go_sem,h1]
theorem GS {P:Program}{f:FuncId}(hf:Is P f qk){F:Nat->Prop}{h:eW}{q:Nat}{st:fH}(hr:iI F h q st):fC P f [.aC q 2 0 0] h λr h'=>r=.aA .i64 st.aD/\h'=h:=by
 refine fU hf ?_;obtain⟨⟨a,h1,h2⟩,h3,h4⟩:=hr;have ll:=(eX.rd _ (F':=λ_=>True) (λ_ _=>UF) _ h2).aI;cases st with
 | none=>simp only[qk,go_sem,h1,Option.isNone_none];exact rfl
 | some l=>
  simp only[fH.aC,U6]at ll;by_cases c:(0:Int)<l.length;·simp only[qk,go_sem,h1,Wd,ll,Uu c];simp only[fH.aD];rw[Uv (by omega)]
  ·simp only[qk,go_sem,h1,Wd,ll,Us c];simp only[fH.aD];rw[Uw (by omega)]
def qL (P:Program)(f:FuncId):Prop:=
 fP P f=true/\∀(F:Nat->Prop)(h:eW)(l:List Int)(a:AV),Rd F h (gj l) a->l.length<=2^40->fC P f [a] h λr h'=>eX (gj l) (λm=>h.length<=m) h' r/\eV eY h h'
theorem C9 {P:Program}{f:FuncId}(hf:Is P f wV)(hk:vN P f):qL P f:=by
 refine⟨hf.2,λF h l a ha hl=>?_⟩;by_cases h0:l=[]
 ·subst h0;intro G w vs g hv;obtain⟨v,rfl,hV⟩:=GF hv;have hz:v=.slice none 0 0\/∃p c,v=.slice (some p) 0 c:=by
   simp only[gj,Vl,Rd,fY]at ha;obtain⟨es,he,rfl⟩:=ha;rcases he with⟨rfl,_⟩ | ⟨t,c,rfl⟩ | ⟨n,off,len,cap,row,gr,rfl,_,E,a2,a4,I⟩
   ·cases hV;exact .inl rfl
   ·generalize hee:([]:List (List AV))=es at hV;cases hV with
    | aG=>exact .inl rfl
    | aE=>subst hee;exact .inr ⟨_,_,rfl⟩
   ·have h1:len=0:=by have:=WQ List.length I;simp at this;omega
    subst h1;cases hV with
    | aH=>exact .inl rfl
    | aD=>exact .inr ⟨_,_,rfl⟩
  rcases hz with rfl | ⟨p,c,rfl⟩
  ·have:fC P f [.aD] h λr h'=>eX (gj []) (λm=>h.length<=m) h' r/\eV eY h h':=by refine fU hf ?_;have an:pC false .aD=some (.aE true):=rfl;simp only[wV,go_sem,xF,an];exact⟨eX.aD 1,eV.aC _ _⟩
   exact this G w _ g (GG .aO)
  ·refine (hk.aA p c w).mono ?_;rintro e w' ⟨a',c',rfl,W,hr,hs⟩;obtain⟨g',s'⟩:=g.bA hr hs;refine⟨_,.aM 0 false 1 [],h,G,rfl,⟨?_,eV.aC _ _⟩,g',?_,s'⟩;·simp only[gj,Vl,eX];exact .inr (.inl ⟨0,false,rfl,UF⟩)
   ·exact V.aE (G:=G) (w:=w') 0 false 1 [] a' c' (λ_ _=>undef) (UK _) (λe=>by cases e) (λ_=>W) (λa1=>absurd rfl a1) (λe he=>by simp at he) (λi j c hj=>by simp[gn]at hj) (λi j c hj=>by simp[gn]at hj)
 ·refine fU hf ?_;have an:pC false a=some (.aE false):=by
   have hpos:0<l.length:=WG.2 h0;have hl':=ha.aI;simp only[gj,Rd]at ha;obtain⟨es,he,I⟩:=ha;have u:=lF I;rw[UI]at u;rcases he with⟨rfl,rfl⟩ | ⟨t,c,rfl⟩ | ⟨n,off,len,cap,row,gr,rfl,_,E,a2,a4,rfl⟩;·simp at u;omega
   ·simp only[pC,qI,kE,Vm];rw[Uv (by omega)];rfl
   ·simp only[UD,UP]at u;simp only[pC,qI,kE,Vm];rw[Uv (by omega)];rfl
  obtain⟨ys,O,U⟩:=(ha.up (eV.b1 (some (.aA 1 [] false)))).aH;obtain⟨o,h',a5,Z,hc',a3⟩:=m7 (lo:=h.length) (sz:=1) (bytes:=1) (ds:=[]) (h0:=h++[some (.aA 1 [] false)]) (h:=h++[some (.aA 1 [] false)]) (av:=.aG h.length 1 0 0 (some 0))
   (by simp only[eX];exact .inr (.inr ⟨_,0,some 0,[],false,rfl,Uy _,gH _ _,by simp,(λc hc=>by cases hc;simp),by simp[fG]⟩))
   ⟨[],false,gH _ _,(λh=>by cases h),λc hc=>by cases hc;simp⟩ (eV.aC eY _) (vk U) (by simp) (by simp;omega)
  have M:=iq O 1 (.aG h.length 1 0 0 (some 0));rw[a5]at M;simp only[wV,go_sem,xF,an,M];exact⟨by simpa [gj] using Z,(eV.b1 _).aJ a3 (λm hm hm'=>by omega)⟩
def sI (P:Program)(f:FuncId):Prop:=fP P f=true/\∀(G:Nat->Prop)(h:eW)(l:List Int)(b:AV),Rd G h (gj l) b->gI l->l.length<=2^40->
 fC P f [b] h λr h'=>∃q,r=.aC q 2 0 0/\h.length<=q/\iI (λm=>h.length<=m/\m<q) h' q (some l)/\eV eY h h'
theorem Pf {P:Program}{f g:FuncId}(hf:Is P f (At g))(hg:qL P g):sI P f:=by refine⟨hf.2,λG h l b hb h1 h2=>fU hf ?_⟩;simp only[At,go_sem];refine fA ⟨hg.1,hg.2 G h l b hb h2⟩ ?_;rintro r H ⟨ro,rx⟩;simp only[go_sem,ro.aA,gC ro.aA];refine⟨H.length,rfl,rx.1,⟨⟨r,gH _ _,?_⟩,h1,h2⟩,rx.tr (eV.b1 _)⟩;exact eX.aC _ (λm hm=>hm) ((eV.b1 _).aE _) _ (eX.lt _ _ ro)
end Glb
