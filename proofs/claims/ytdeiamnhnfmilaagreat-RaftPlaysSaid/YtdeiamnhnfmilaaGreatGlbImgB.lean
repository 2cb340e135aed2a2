/-
  A library of its own.
-/
import Derived.Test.YtdeiamnhnfmilaaGreatGlbImgA
import Derived.Test.YtdeiamnhnfmilaaGreatGlbConB
set_option linter.unusedSimpArgs false
set_option linter.unusedVariables false
set_option maxRecDepth 10000
set_option maxHeartbeats 4000000
namespace Glb
open Go
theorem Rd.aL {F:Nat->Prop}{h:eZ}{l:List Int}{a:AV}(hx:Rd F h (fT l) a){i:Nat}(hi:i<l.length):
  ∃p,iH 1 a (.aA .i64 i)=some p/\gX h false 1 p=some (.aA .u8 l[i]):=by
 obtain⟨p,cs,hp,t,b⟩:=hx.aD .i64 (i:=i) (d:=[.aA .u8 l[i]]) (by omega) (by simp[hi]);simp only[fu,Rd]at b;obtain⟨_,_,rfl,rfl,rfl⟩:=b;exact⟨p,hp,by rw[hP t];exact te _ _ _⟩
theorem Rd.aG {F:Nat->Prop}{h:eZ}{l:List Int}{a:AV}(hx:Rd F h (fT l) a):g_ a=some (.aA .i64 l.length):=by simpa using hx.aB
theorem Qv {F:Nat->Prop}{sz:Nat}{ds:List (List D)}{h:eZ}{av:AV}(ho:e_ (.sl sz ds) F h av){k:Int}(h0:0<=k)(hk:k<=ds.length):
  ∃C,iR sz av (some k) none none=some C/\e_ (.sl sz (ds.drop k.toNat)) F h C:=by
 simp only[e_]at ho;rcases ho with⟨rfl,rfl⟩ | ⟨t,c,rfl,rfl⟩ | ⟨n,off,cap,row,g,rfl,hn,b,E,u,hd⟩
 ·have:k=0:=by simpa using (by simp at hk;omega:k=0)
  subst this;exact⟨.aB,by simp[iR],e_.aC sz⟩
 ·have:k=0:=by simpa using (by simp at hk;omega:k=0)
  subst this;refine⟨.aL t (pf none 0 0 c) sz [],by simp[iR],?_⟩;simp only[List.drop_nil,e_];exact .inr (.inl ⟨t,_,rfl,Vp⟩)
 ·have hc2:((cap.getD ds.length:Nat):Int)≥ds.length:=by
   cases cap with
   | none=>simp
   | some c=>have:=u c rfl;simp;omega
  simp only[iR,VG,Wh];rw[Vf ⟨Vp,h0,by omega,.inl (by omega),by omega,by omega⟩];by_cases e0:k=0
  ·subst e0;rw[Vf rfl];refine⟨_,rfl,?_⟩;simp only[W_,Wf,V6,e_];refine .inr (.inr ⟨n,off,_,row,g,rfl,hn,b,E,λc hc=>?_,hd⟩);cases cap with
   | none=>simp[jz]at hc
   | some c'=>have:=u c' rfl;simp[jz]at hc;omega
  ·rw[Ve e0];by_cases e1:k<(ds.length:Int)
   ·refine⟨_,Vf e1,?_⟩;simp only[e_,VA];refine .inr (.inr ⟨n,off+k.toNat,jz none k.toNat cap,row,g,by rw[show ((ds.length:Int)).toNat-k.toNat=ds.length-k.toNat by omega],hn,b,by omega,λc hc=>?_,?_⟩)
    ·cases cap with
     | none=>simp[jz]at hc
     | some c'=>have:=u c' rfl;simp[jz]at hc;omega
    ·have:=JJ hd k.toNat;rw[List.drop_take,List.drop_drop]at this;exact this
   ·refine⟨_,Ve e1,?_⟩;have:ds.drop k.toNat=[]:=List.drop_eq_nil_of_le (by omega);rw[this];simp only[e_];exact .inr (.inl ⟨0,false,rfl,Vp⟩)
def jM (n:Int):fZ->Option (List Int)×fZ
 | none=>(none,none)
 | some l=>if n<0\/(l.length:Int)<n then (none,none) else (some (l.take n.toNat),some (l.drop n.toNat))
theorem QZ (st:fZ):gw st=match jM 8 st with
  | (none,s)=>(0,s)
  | (some p,s)=>(iO p,s):=by
 cases st with
 | none=>rfl
 | some l=>
  simp only[gw,jM];by_cases c:l.length<8;·rw[Vf c,Vf (by omega)]
  ·rw[Ve c,Ve (by omega)];rfl
theorem QY (st:fZ):gA st=(((jM (gw st).1 (gw st).2).1).getD [],(jM (gw st).1 (gw st).2).2):=by
 simp only[gA];generalize gw st=x;obtain⟨n,s⟩:=x;cases s with
 | none=>rfl
 | some l=>
  simp only[jM];by_cases c:n<0\/(l.length:Int)<n;·rw[Vf c,Vf c];rfl
  ·rw[Ve c,Ve c];rfl
def fZ.aA (st:fZ):List Int:=st.getD []
def iC (F:Nat->Prop)(h:eZ)(q:Nat)(st:fZ):Prop:=
 (∃a,h[q]?=some (some (.aA 2 [[a,.aD st.isNone]] false))/\e_ (fT st.aA) F h a)/\gK st.aA/\st.aA.length<=2^40
theorem iC.aA {F:Nat->Prop}{h h':eZ}{q:Nat}{st:fZ}(hr:iC F h q st) (hq:h'[q]?=h[q]?) (hk:gz F h h'):iC F h' q st:=by obtain⟨⟨a,h1,h2⟩,h3,h4⟩:=hr;exact⟨⟨a,hq.trans h1,e_.aB _ (λ_ x=>x) hk _ h2⟩,h3,h4⟩
theorem iC.lt {F:Nat->Prop}{h:eZ}{q:Nat}{st:fZ}(hr:iC F h q st):q<h.length:=(U_.1 hr.1.choose_spec.1).1
theorem iC.up {F:Nat->Prop}{h h':eZ}{q:Nat}{st:fZ}(hr:iC F h q st)(e:eY fj h h'):iC F h' q st:=hr.aA (e.2 _ hr.lt (λx=>x)) (e.aF F)
abbrev hU (q:Nat):Nat->Prop:=λm=>m=q
theorem eY.aJ {h:eZ}(q:Nat)(x:Option fh):eY (hU q) h (h.set q x):=eY.aG x (λ_=>rfl)
theorem pb {d:D}{F:Nat->Prop}{h:eZ}{a:AV}(ho:e_ d F h a){q:Nat}(hq:¬F q)(x:Option fh):e_ d F (h.set q x) a:=
 e_.aB _ (λm hm=>hm) (λm hm y hy=>by rw[Vb (by rintro rfl;exact hq hm)];exact hy) _ ho
def yn (P:Program)(f:FuncId):Prop:=fI P f=true/\∀(F:Nat->Prop)(h:eZ)(q:Nat)(st:fZ),iC F h q st->fy P f [.aC q 2 0 0] h λ_ h'=>iC F h' q none/\eY (hU q) h h'
def wB (P:Program)(f:FuncId):Prop:=fI P f=true/\∀(F:Nat->Prop)(h:eZ)(q:Nat)(st:fZ)(n:Int),iC F h q st->¬F q->
 fy P f [.aC q 2 0 0,.aA .i64 n] h λr h'=>iC F h' q (jM n st).2/\eY (hU q) h h'/\∃p,r=.aI [p,.aD (jM n st).1.isSome]/\e_ (fT ((jM n st).1.getD [])) F h' p
def vQ (P:Program)(f:FuncId):Prop:=fI P f=true/\∀(F:Nat->Prop)(h:eZ)(q:Nat)(st:fZ),iC F h q st->¬F q->
 fy P f [.aC q 2 0 0] h λr h'=>r=.aA .i64 (gw st).1/\iC F h' q (gw st).2/\eY (hU q) h h'
def xY (P:Program)(f:FuncId):Prop:=fI P f=true/\∀(F:Nat->Prop)(h:eZ)(q:Nat)(st:fZ),iC F h q st->¬F q->
 fy P f [.aC q 2 0 0] h λr h'=>e_ (fT (gA st).1) F h' r/\iC F h' q (gA st).2/\eY (hU q) h h'
def yu (P:Program)(f:FuncId):Prop:=fI P f=true/\∀(F:Nat->Prop)(h:eZ)(q:Nat)(st:fZ),iC F h q st->¬F q->
 fy P f [.aC q 2 0 0] h λr h'=>e_ (fK (ib gw st).1) (λm=>h.length<=m) h' r/\iC F h' q (ib gw st).2/\eY (hU q) h h'
theorem GP {P:Program}{f:FuncId}(hf:Is P f Bg):yn P f:=by refine⟨hf.2,λF h q st hr=>fN hf ?_⟩;have hlt:=hr.lt;obtain⟨⟨a,h1,h2⟩,h3,h4⟩:=hr;simp only[Bg,go_sem,h1,hlt,V8];exact⟨⟨⟨.aB,Vd hlt,e_.aC 1⟩,by simp[fZ.aA,gK],by simp[fZ.aA]⟩,eY.aJ _ _⟩
theorem TH {P:Program}{f g:FuncId}(hf:Is P f (r9 g))(hg:yn P g):wB P f:=by
 refine⟨hf.2,λF h q st n hr hq=>fN hf ?_⟩;have hlt:=hr.lt;have b:=hr;obtain⟨⟨a,h1,h2⟩,h3,h4⟩:=hr;have bad:(jM n st)=(none,none)->∀h',iC F h' q none/\eY (hU q) h h'->iC F h' q (jM n st).2/\eY (hU q) h h'/\∃p,AV.aI [.aB,.aD false]=.aI [p,.aD (jM n st).1.isSome]/\e_ (fT ((jM n st).1.getD [])) F h' p:=by intro e h' hh;rw[e];exact⟨hh.1,hh.2,.aB,rfl,e_.aC 1⟩
 cases st with
 | none=>simp only[r9,go_sem,h1,WO];refine fq ⟨hg.1,hg.2 F h q none b⟩ ?_;rintro _ h' hh;simp only[go_sem];exact bad rfl h' hh
 | some l=>
  have ll:=(e_.rd _ (F':=λ_=>True) (λ_ _=>Vp) _ h2).aG;simp only[fZ.aA,VG]at ll h2 h3 h4;by_cases c1:n<0;·simp only[r9,go_sem,h1,Wa,Vc c1];refine fq ⟨hg.1,hg.2 F h q _ b⟩ ?_;rintro _ h' hh;simp only[go_sem];exact bad (by simp only[jM];rw[Vf (.inl c1)]) h' hh
  by_cases c2:(l.length:Int)<n
  ·simp only[r9,go_sem,h1,Wa,Va c1,ll,Vc c2];refine fq ⟨hg.1,hg.2 F h q _ b⟩ ?_;rintro _ h' hh;simp only[go_sem];exact bad (by simp only[jM];rw[Vf (.inr c2)]) h' hh
  have u:e_ (.sl 1 (l.map λn=>[.aA .u8 n])) F h a:=h2;obtain⟨p,s1,s2,s3⟩:=HJ u (k:=n) (by omega) (by simp;omega);obtain⟨t,s4,s5⟩:=Qv u (k:=n) (by omega) (by simp;omega);have e:jM n (some l)=(some (l.take n.toNat),some (l.drop n.toNat)):=by simp only[jM];rw[Ve (by omega)]
  rw[e];simp only[r9,go_sem,h1,Wa,Va c1,ll,Va c2,oO,s1,s4,s5.aA,gH s5.aA];refine⟨⟨⟨t,?_,?_⟩,?_,?_⟩,eY.aJ _ _,p,rfl,?_⟩;·exact Vd hlt
  ·refine pb ?_ hq _;simp only[fZ.aA,VG,fT,List.map_drop];exact s5
  ·exact h3.aB _
  ·simp only[fZ.aA,VG,VA];omega
  ·refine pb ?_ hq _;simp only[VG,fT,WL];exact s2
theorem Qr (a b:Int):iQ .or (.aA .u64 a) (.aA .u64 b)=some (.aA .u64 (IntKind.u64.wrap (BitVec.ofInt 64 a ||| BitVec.ofInt 64 b).toNat)):=Vn rfl rfl
theorem Tq (a b:Int):iQ .shl (.aA .u64 a) (.aA .u64 b)=if b<0 then none else some (.aA .u64 (IntKind.u64.wrap (a*2^(min b.toNat 64)))):=Vn rfl rfl
theorem Qq {u x:Int}(hu:0<=u)(hu2:u<72057594037927936)(hx:0<=x/\x<256):IntKind.u64.wrap (BitVec.ofInt 64 (u*256) ||| BitVec.ofInt 64 x).toNat=u*256+x:=by
 obtain⟨m,rfl⟩:=W7 hu;obtain⟨k,rfl⟩:=W7 hx.1;have e1:(BitVec.ofInt 64 (((m:Nat):Int)*256)).toNat=m <<< 8:=by rw[BitVec.toNat_ofInt,Nat.shiftLeft_eq];omega
 have e2:(BitVec.ofInt 64 ((k:Nat):Int)).toNat=k:=by rw[BitVec.toNat_ofInt];omega
 rw[BitVec.toNat_or,e1,e2,<-Nat.shiftLeft_add_eq_or_of_lt (by omega) m,Nat.shiftLeft_eq,om];omega
theorem Dx {l:List Int}{i:Nat}(hi:i<l.length):jN (l.take (i+1))=jN (l.take i)*256+l[i]:=by rw[Vv hi];simp only[jN,List.foldl_append,W8,List.foldl_nil]
theorem IQ:∀(n:Nat)(l:List Int),l.length=n->gK l->0<=jN l/\jN l<256^n:=by
 intro n;induction n with
 | zero=>intro l h _;have:=Vl h;subst this;simp[jN]
 | succ n ih=>
  intro l h hb;have hn:n<l.length:=by omega
  have:=Dx hn;rw[V5 (by omega)]at this;rw[this];obtain⟨h1,h2⟩:=ih (l.take n) (by simp;omega) (hb.aA n);have hx:=hb l[n] (VU _);rw[Int.pow_succ];omega
theorem HP:∀i:Nat,i<8->(256:Int)^i<=72057594037927936:=by decide
theorem QC {P:Program}{f g:FuncId}(hf:Is P f (Be g))(hg:wB P g):vQ P f:=by
 refine⟨hf.2,λF h q st hr hq=>fN hf ?_⟩;rw[QZ];have hb:gK ((jM 8 st).1.getD [])/\((jM 8 st).1.isSome=true->((jM 8 st).1.getD []).length=8):=by
  have h3:=hr.2.1;cases st with
  | none=>simp[jM,gK]
  | some l=>
   simp only[jM];split;·simp[gK]
   ·exact⟨gK.aA h3 8,by simp;omega⟩
 simp only[Be,go_sem];refine fq ⟨hg.1,hg.2 F h q st 8 hr hq⟩ ?_;rintro _ h1 ⟨r1,x1,p,rfl,po⟩;generalize jM 8 st=T at *;obtain⟨o,s⟩:=T;cases o with
 | none=>simp only[go_sem,Option.isSome_none];exact⟨r1,x1⟩
 | some l=>
  simp only[VG,Option.isSome_some,forall_const]at hb po;obtain⟨u,hb2⟩:=hb;have pr:=e_.rd _ (F':=λ_=>True) (λ_ _=>Vp) _ po;simp only[go_sem,Option.isSome_some,pr.aG];refine gJ (λm L h'=>∃i:Nat,lk 5 L=.aA .u64 (jN (l.take i))/\lk 15 L=p/\lk 16 L=.aA .i64 l.length/\lk 17 L=.aA .i64 i/\h1=h'/\i<=l.length/\m=l.length-i) l.length ?_ ?_;·exact⟨0,by simp[fi,jN],by simp[fi],by simp[fi],by simp[fi],rfl,by omega,by omega⟩
  ·rintro m L h' ⟨i,k5,E,t,b,rfl,hi,rfl⟩;simp only[Gc,go_sem,t,b];refine gx (λci=>?_) (λci=>?_)
   ·simp at ci;obtain⟨y,hy,hv⟩:=pr.aL ci;have e1:IntKind.i64.wrap (↑i+1)=(i:Int)+1:=fQ (by omega);have vb:=IQ i (l.take i) (by simp;omega) (u.aA i);have C:jN (l.take i)<72057594037927936:=by have:=HP i (by omega);omega
    have hx:=u l[i] (VU _);have e2:IntKind.u64.wrap (jN (l.take i)*2^(min (8:Int).toNat 64))=jN (l.take i)*256:=by rw[om,show (2:Int)^(min (8:Int).toNat 64)=256 from rfl];omega
    have e3:IntKind.u64.wrap l[i]=l[i]:=by rw[om];omega
    have n8:¬(8:Int)<0:=by omega
    simp only[go_sem,k5,E,t,b,hy,hv,Tq,Ve n8,e2,e3,Qr,Qq vb.1 C hx,e1];exact⟨_,by omega,i+1,by rw[Dx ci],by simp,ci,rfl⟩
   ·simp at ci;obtain rfl:i=l.length:=by omega
    rw[VH]at k5;simp only[go_sem,k5];exact⟨rfl,r1,x1⟩
theorem QB {P:Program}{f g t:FuncId}(hf:Is P f (Bd g t))(hg:vQ P g)(ht:wB P t):xY P f:=by refine⟨hf.2,λF h q st hr hq=>fN hf ?_⟩;rw[QY];simp only[Bd,go_sem];refine fq ⟨hg.1,hg.2 F h q st hr hq⟩ ?_;rintro _ h1 ⟨rfl,r1,x1⟩;simp only[go_sem];refine fq ⟨ht.1,ht.2 F h1 q _ _ r1 hq⟩ ?_;rintro _ h2 ⟨r2,x2,p,rfl,po⟩;simp only[go_sem];exact⟨po,r2,x1.aB x2 (λ_ _ x=>x) (λ_ _ x=>x)⟩
theorem iC.aB {F F':Nat->Prop}{h:eZ}{q:Nat}{st:fZ}(hr:iC F h q st)(hF:∀m,F m->F' m):iC F' h q st:=by obtain⟨⟨a,h1,h2⟩,h3,h4⟩:=hr;exact⟨⟨a,h1,e_.aB _ hF (gz.lt _ _) _ h2⟩,h3,h4⟩
theorem iC.aC {F:Nat->Prop}{h:eZ}{q:Nat}{st:fZ}(hr:iC F h q st):iC (λm=>F m/\m<h.length) h q st:=by obtain⟨⟨a,h1,h2⟩,h3,h4⟩:=hr;exact⟨⟨a,h1,e_.lt _ _ h2⟩,h3,h4⟩
theorem Su {i N:Nat}{xs:List Int}{v:Int}(hx:xs.length=i)(hi:i<N):
  ((xs.map λn=>[AV.aA .i64 n])++List.replicate (N-i) [AV.aA .i64 0]).set i [.aA .i64 v]=((xs++[v]).map λn=>[AV.aA .i64 n])++List.replicate (N-(i+1)) [AV.aA .i64 0]:=by
 rw[show N-i=(N-(i+1))+1 by omega,List.replicate_succ,WC _ _ (by simp[hx])];simp[hx]
theorem Ij {l:List Int}{n:Nat}(h:8<=l.length):ji gw (n+1) (some l)=(iO (l.take 8) :: (ji gw n (some (l.drop 8))).1,(ji gw n (some (l.drop 8))).2):=by simp only[ji,gw];rw[Ve (by omega)]
theorem QE {P:Program}{f g t:FuncId}(hf:Is P f (Bf g t))(hg:vQ P g)(ht:yn P t):yu P f:=by
 refine⟨hf.2,λF h q st hr hq=>fN hf ?_⟩;simp only[Bf,go_sem];refine fq ⟨hg.1,hg.2 F h q st hr hq⟩ ?_;rintro _ h1 ⟨rfl,r1,x1⟩;have C:=r1;have hlt:=r1.lt;obtain⟨⟨a,a1,a2⟩,a3,a4⟩:=r1;have bad:ib gw st=([],none)->∀h',iC F h' q none/\eY (hU q) h1 h'->e_ (fK (ib gw st).1) (λm=>h.length<=m) h' .aB/\iC F h' q (ib gw st).2/\eY (hU q) h h':=by intro e h' hh;rw[e];exact⟨e_.aC 1,hh.1,x1.aB hh.2 (λ_ _ x=>x) (λ_ _ x=>x)⟩
 cases hs:(gw st) with
 | mk n s=>
 rw[hs]at C a1 a2 a3 a4;simp only at C a1 a2 a3 a4;cases s with
 | none=>simp only[go_sem,a1,WO];refine fq ⟨ht.1,ht.2 F _ q none C⟩ ?_;rintro _ h' hh;simp only[go_sem];exact bad (by simp only[ib,mw,hs]) h' hh
 | some l=>
  simp only[fZ.aA,VG,Wa]at a1 a2 a3 a4;have ll:=(e_.rd _ (F':=λ_=>True) (λ_ _=>Vp) _ a2).aG;have e8:IntKind.i64.wrap ((l.length:Int).tdiv 8)=((l.length / 8:Nat):Int):=by
   have:(l.length:Int).tdiv 8=((l.length / 8:Nat):Int):=by rw[Int.tdiv_eq_ediv_of_nonneg (by omega)];omega
   rw[this,fQ (by omega)]
  have n8:¬(8:Int)=0:=by omega
  by_cases c1:n<0
  ·simp only[go_sem,a1,Vc c1];refine fq ⟨ht.1,ht.2 F _ q _ C⟩ ?_;rintro _ h' hh;simp only[go_sem];exact bad (by simp only[ib,mw,hs];rw[Vf (.inl c1)]) h' hh
  by_cases c2:((l.length / 8:Nat):Int)<n
  ·simp only[go_sem,a1,Va c1,ll,uM,Ve n8,e8,Vc c2];refine fq ⟨ht.1,ht.2 F _ q _ C⟩ ?_;rintro _ h' hh;simp only[go_sem];exact bad (by simp only[ib,mw,hs];rw[Vf (.inr c2)]) h' hh
  have em:ib gw st=ji gw n.toNat (some l):=by simp only[ib,mw,hs];rw[Ve (by omega)]
  rw[em];simp only[go_sem,a1,Va c1,ll,uM,Ve n8,e8,Va c2,CD,yX (show 0<=n by omega) (Wm n) (show n*(8:Nat)<=2^46 by omega)];obtain⟨N,rfl⟩:=W7 (show 0<=n by omega);have la:g_ (.aF h1.length 1 0 N (some N))=some (.aA .i64 N):=rfl;have q1:q<h1.length:=hlt;have U:=(iC.aC C).up (eY.b1 (some (.aA 1 (List.replicate ((N:Nat):Int).toNat [.aA .i64 0]) false)));have a5:=x1.1;simp only[go_sem,V6];simp only[go_sem,la];simp only[V6]at U;refine gJ (λm L h'=>∃(i:Nat)(xs:List Int)(l':List Int),lk 0 L=.aC q 2 0 0/\lk 4 L=.aF h1.length 1 0 N (some N)/\lk 31 L=.aA .i64 N/\lk 32 L=.aA .i64 i /\
    h'[h1.length]?=some (some (.aA 1 ((xs.map λn=>[.aA .i64 n])++List.replicate (N-i) [.aA .i64 0]) false))/\iC (λm=>F m/\m<h1.length) h' q (some l')/\eY (hU q) h1 h' /\
    xs.length=i/\i<=N/\m=N-i/\8*(N-i)<=l'.length/\ji gw N (some l)=(xs++(ji gw (N-i) (some l')).1,(ji gw (N-i) (some l')).2)) N ?_ ?_
  ·exact⟨0,[],l,by simp[fi,ga],by simp[fi],by simp[fi],by simp[fi],by simp[gh],U,eY.aE _ _ _,rfl,by omega,by omega,by omega,by simp⟩
  ·rintro m L h2 ⟨i,xs,l',k0,k4,W,E,u,hR,hE,hx,hi,rfl,h8,I⟩;simp only[Gd,go_sem,W,E];refine gx (λci=>?_) (λci=>?_)
   ·simp at ci;have e1:IntKind.i64.wrap (↑i+1)=(i:Int)+1:=fQ (by omega);simp only[go_sem,k0,k4,E];refine fq ⟨hg.1,hg.2 _ h2 q _ hR (λhm=>hq hm.1)⟩ ?_;rintro _ h3 ⟨rfl,r3,x3⟩;have l8:¬l'.length<8:=by omega
    have ev:gw (some l')=(iO (l'.take 8),some (l'.drop 8)):=by simp only[gw];rw[Ve l8]
    rw[ev]at r3 ⊢;have hl2:=hE.1;have O:=(U_.1 u).1;have b:h3[h1.length]?=_:=(x3.2 _ O (by simp only[hU];omega)).trans u;have M:=(U_.1 b).1;have ix:iH 1 (.aF h1.length 1 0 N (some N)) (.aA .i64 i)=some (.aC h1.length 1 (0+i) 0):=by simp only[iH];rw[Vf ⟨Vp,by omega,by omega⟩];simp
    have a0:=oP (x:=.aA .i64 (iO (l'.take 8))) (cs':=[.aA .i64 (iO (l'.take 8))]) (j:=0+i) b (cs:=[.aA .i64 0]) (by rw[WT,VQ (by simp[hx])];simp only[Vo,hx,Nat.sub_self];rw[WE,Vf (by omega)]) rfl rfl rfl rfl;simp only[go_sem,k0,k4,W,E,ix,a0,e1];refine⟨_,by omega,i+1,xs++[iO (l'.take 8)],l'.drop 8,by simp,?_,?_,?_,by simp[hx],ci,rfl,by simp;omega,?_⟩;·rw[Vf M,WT,Su hx ci]
    ·exact r3.aA (Vb (by omega)) (λm hm y hy=>by rw[Vb (by have:=hm.2;omega)];exact hy)
    ·exact (hE.aB x3 (λ_ _ x=>x) (λ_ _ x=>x)).aB (eY.aJ h1.length _) (λ_ _ x=>x) (λm hm hn=>by simp only[hU]at hn;omega)
    ·rw[I,show N-i=(N-(i+1))+1 by omega,Ij (by omega)];simp
   ·simp at ci;obtain rfl:i=N:=by omega
    simp only[Nat.sub_self,ji,Wo]at I;rw[I];simp only[go_sem,k4];refine⟨?_,hR.aB (λ_ hm=>hm.1),x1.aB hE (λ_ _ x=>x) (λ_ _ x=>x)⟩;simp only[fK,e_,Vo];refine .inr (.inr ⟨h1.length,0,some i,_,_,by rw[hx],a5,u,by simp[hx],(λc hc=>by cases hc;omega),?_⟩);simp only[Nat.sub_self,List.replicate_zero,Wo,Wf];rw[V5 (by simp)];exact uI .i64 _ _ _
def fZ.aB:fZ->Int
 | none=>4
 | some l=>if 0<l.length then 2 else 0
theorem HM {P:Program}{f:FuncId}(hf:Is P f pK){F:Nat->Prop}{h:eZ}{q:Nat}{st:fZ}(hr:iC F h q st):fy P f [.aC q 2 0 0] h λr h'=>r=.aA .i64 st.aB/\h'=h:=by
 refine fN hf ?_;obtain⟨⟨a,h1,h2⟩,h3,h4⟩:=hr;have ll:=(e_.rd _ (F':=λ_=>True) (λ_ _=>Vp) _ h2).aG;cases st with
 | none=>simp only[pK,go_sem,h1,WO];exact rfl
 | some l=>
  simp only[fZ.aA,VG]at ll;by_cases c:(0:Int)<l.length;·simp only[pK,go_sem,h1,Wa,ll,Vc c];simp only[fZ.aB];rw[Vf (by omega)]
  ·simp only[pK,go_sem,h1,Wa,ll,Va c];simp only[fZ.aB];rw[Ve (by omega)]
def ie (F:Nat->Prop)(h:eZ)(q:Nat)(st:fZ):Prop:=
 ∃(b:AV)(p:Nat)(all:List Int),h[q]?=some (some (.aA 3 [[b,.aA .i64 p,.aD st.isNone]] false))/\e_ (fT all) F h b/\p<=all.length/\(st=none\/st=some (all.drop p))/\gK all/\all.length<=2^40
theorem ie.aA {F:Nat->Prop}{h h':eZ}{q:Nat}{st:fZ}(hr:ie F h q st) (hq:h'[q]?=h[q]?) (hk:gz F h h'):ie F h' q st:=by obtain⟨b,p,all,h1,h2,h3⟩:=hr;exact⟨b,p,all,hq.trans h1,e_.aB _ (λ_ x=>x) hk _ h2,h3⟩
theorem ie.lt {F:Nat->Prop}{h:eZ}{q:Nat}{st:fZ}(hr:ie F h q st):q<h.length:=by obtain⟨b,p,all,h1,_⟩:=hr;exact (U_.1 h1).1
theorem ie.up {F:Nat->Prop}{h h':eZ}{q:Nat}{st:fZ}(hr:ie F h q st)(e:eY fj h h'):ie F h' q st:=hr.aA (e.2 _ hr.lt (λx=>x)) (e.aF F)
theorem ie.aE {F F':Nat->Prop}{h:eZ}{q:Nat}{st:fZ}(hr:ie F h q st)(hF:∀m,F m->F' m):ie F' h q st:=by obtain⟨b,p,all,h1,h2,h3⟩:=hr;exact⟨b,p,all,h1,e_.aB _ hF (gz.lt _ _) _ h2,h3⟩
theorem ie.aC {F:Nat->Prop}{h:eZ}{q:Nat}{st:fZ}(hr:ie F h q st):ie (λm=>F m/\m<h.length) h q st:=by obtain⟨b,p,all,h1,h2,h3⟩:=hr;exact⟨b,p,all,h1,e_.lt _ _ h2,h3⟩
theorem ie.aB {F:Nat->Prop}{h:eZ}{q:Nat}{st:fZ}(hr:ie F h q st):st.aA.length<=2^40/\gK st.aA:=by
 obtain⟨b,p,all,_,_,_,hs,hb,hl⟩:=hr;rcases hs with rfl | rfl;·simp[fZ.aA,gK]
 ·exact⟨by simp[fZ.aA];omega,hb.aB _⟩
def oD (P:Program)(f:FuncId):Prop:=fI P f=true/\∀(F:Nat->Prop)(h:eZ)(q:Nat)(st:fZ),ie F h q st->fy P f [.aC q 3 0 0] h λr h'=>r=.aA .i64 st.aA.length/\h'=h
def vR (P:Program)(f:FuncId):Prop:=fI P f=true/\∀(F:Nat->Prop)(h:eZ)(q:Nat)(st:fZ),ie F h q st->¬F q->
 fy P f [.aC q 3 0 0] h λr h'=>r=.aA .i64 (gw st).1/\ie F h' q (gw st).2/\eY (hU q) h h'
def vh (P:Program)(f:FuncId):Prop:=fI P f=true/\∀(F:Nat->Prop)(h:eZ)(q:Nat)(st:fZ),ie F h q st->¬F q->
 fy P f [.aC q 3 0 0] h λr h'=>e_ (fT (gA st).1) (λm=>h.length<=m) h' r/\ie F h' q (gA st).2/\eY (hU q) h h'
def tI (P:Program)(f:FuncId):Prop:=fI P f=true/\∀(F:Nat->Prop)(h:eZ)(q:Nat)(st:fZ),ie F h q st->¬F q->
 fy P f [.aC q 3 0 0] h λr h'=>e_ (fK (ib gw st).1) (λm=>h.length<=m) h' r/\ie F h' q (ib gw st).2/\eY (hU q) h h'
theorem JF {P:Program}{f:FuncId}(hf:Is P f wS):oD P f:=by
 refine⟨hf.2,λF h q st hr=>fN hf ?_⟩;obtain⟨b,p,all,h1,h2,h3,hs,h4,h5⟩:=hr;have ll:=(e_.rd _ (F':=λ_=>True) (λ_ _=>Vp) _ h2).aG;rcases hs with rfl | rfl;·simp only[wS,go_sem,h1,WO];exact rfl
 ·have e1:IntKind.i64.wrap ((all.length:Int)-p)=((all.length-p:Nat):Int):=by rw[fQ (by omega)];omega
  simp only[wS,go_sem,h1,Wa,ll,e1];simp[fZ.aA]
theorem DZ {P:Program}{f g:FuncId}(hf:Is P f (qE g))(hg:oD P g){F:Nat->Prop}{h:eZ}{q:Nat}{st:fZ}(hr:ie F h q st):fy P f [.aC q 3 0 0] h λr h'=>r=.aA .i64 st.aB/\h'=h:=by
 refine fN hf ?_;have t:=hr;obtain⟨b,p,all,h1,h2,h3,hs,h4,h5⟩:=hr;rcases hs with rfl | rfl;·simp only[qE,go_sem,h1,WO];exact rfl
 ·simp only[qE,go_sem,h1,Wa];refine fR hg.1 (hg.2 F h q _ t) ?_;by_cases c:(0:Int)<(all.drop p).length;·have c':(0:Int)<(fZ.aA (some (all.drop p))).length:=c;simp only[go_sem,Vc c'];simp only[fZ.aB];rw[Vf (by omega)]
  ·have c':¬(0:Int)<(fZ.aA (some (all.drop p))).length:=c;simp only[go_sem,Va c'];simp only[fZ.aB];rw[Ve (by omega)]
theorem JC {P:Program}{f g:FuncId}(hf:Is P f (zY g))(hg:oD P g):vR P f:=by
 refine⟨hf.2,λF h q st hr hq=>fN hf ?_⟩;have u:=hr;have hlt:=hr.lt;have t:=hr.aB;obtain⟨b,p,all,h1,h2,h3,hs,h4,h5⟩:=hr;simp only[zY,go_sem];refine fR hg.1 (hg.2 F h q _ u) ?_;by_cases c:(st.aA.length:Int)<8
 ·have e:gw st=(0,none):=by
   rcases hs with rfl | rfl;·rfl
   ·simp only[fZ.aA,VG]at c;simp only[gw];rw[Vf (by omega)]
  rw[e];simp only[go_sem,Vc c,h1];refine⟨⟨b,p,all,Vd hlt,pb h2 hq _,h3,.inl rfl,h4,h5⟩,eY.aJ _ _⟩
 ·rcases hs with rfl | rfl;·simp[fZ.aA]at c
  have c2:=c;simp only[fZ.aA,VG]at c t;have lp:(all.drop p).length=all.length-p:=VA;have e:gw (some (all.drop p))=(iO ((all.drop p).take 8),some (all.drop (p+8))):=by simp only[gw];rw[Ve (by omega),List.drop_drop]
  rw[e];simp only[go_sem,Va c2];refine gJ (λm L h'=>∃i:Nat,lk 0 L=.aC q 3 0 0/\lk 3 L=.aA .u64 (jN ((all.drop p).take i))/\lk 4 L=.aA .i64 i/\h=h'/\i<=8/\m=8-i) 8 ?_ ?_;·exact⟨0,by simp[fi,ga],by simp[fi,jN],by simp[fi],rfl,by omega,by omega⟩
  ·rintro m L h' ⟨i,k0,k3,k4,rfl,hi,rfl⟩;simp only[FH,go_sem,k4];refine gx (λci=>?_) (λci=>?_)
   ·simp at ci;have C:p+i<all.length:=by omega
    have E:i<(all.drop p).length:=by omega
    obtain⟨y,hy,hv⟩:=(e_.rd _ (F':=λ_=>True) (λ_ _=>Vp) _ h2).aL C;rw[show ((p+i:Nat):Int)=(p:Int)+i by omega]at hy;have e1:IntKind.i64.wrap (↑i+1)=(i:Int)+1:=fQ (by omega);have e0:IntKind.i64.wrap (↑p+↑i)=(p:Int)+i:=fQ (by omega);have vb:=IQ i ((all.drop p).take i) (by simp;omega) (t.2.aA i);have vb2:=HP i (by omega);have hx:=h4 all[p+i] (VU _);have e2:IntKind.u64.wrap (jN ((all.drop p).take i)*256)=jN ((all.drop p).take i)*256:=by rw[om];omega
    have e3:IntKind.u64.wrap all[p+i]=all[p+i]:=by rw[om];omega
    have e4:IntKind.u64.wrap (jN ((all.drop p).take i)*256+all[p+i])=jN ((all.drop p).take i)*256+all[p+i]:=by rw[om];omega
    have e5:jN ((all.drop p).take (i+1))=jN ((all.drop p).take i)*256+all[p+i]:=by rw[Dx E];simp
    have mu:∀a b:Int,iQ .mul (.aA .u64 a) (.aA .u64 b)=some (.aA .u64 (IntKind.u64.wrap (a*b))):=λ_ _=>rfl;have au:∀a b:Int,iQ .add (.aA .u64 a) (.aA .u64 b)=some (.aA .u64 (IntKind.u64.wrap (a+b))):=λ_ _=>rfl;simp only[go_sem,k0,k3,k4,h1,e0,hy,hv,mu,au,e2,e3,e4,e1];exact⟨_,by omega,i+1,by rw[e5],by simp,by omega,rfl⟩
   ·simp at ci;obtain rfl:i=8:=by omega
    have e8:IntKind.i64.wrap (↑p+8)=((p+8:Nat):Int):=by rw[fQ (by omega)];omega
    simp only[go_sem,k0,k3,h1,e8];refine⟨rfl,⟨b,p+8,all,Vd hlt,pb h2 hq _,by omega,.inr rfl,h4,h5⟩,eY.aJ _ _⟩
theorem Rd.aM {F:Nat->Prop}{h:eZ}{l:List Int}{a:AV}(hx:Rd F h (fT l) a){i:Nat}(hi:i<l.length):
  ∃p,iH 1 a (.aA .i64 i)=some p/\gX h false 1 p=some (.aA .u8 l[i])/\(∀k,gN h.length k p=true)/\∀z,gX (h++[z]) false 1 p=some (.aA .u8 l[i]):=by
 obtain⟨p,cs,hp,b,t⟩:=hx.aD .i64 (i:=i) (d:=[.aA .u8 l[i]]) (by omega) (by simp[hi]);simp only[fu,Rd]at t;obtain⟨_,_,rfl,rfl,rfl⟩:=t;exact⟨p,hp,by rw[hP b];exact te _ _ _,λk=>Qa b k,λz=>by rw[hP (mv b (eY.b1 z))];exact te _ _ _⟩
theorem I7 {P:Program}{f g t:FuncId}(hf:Is P f (zX g t))(hg:vR P g)(ht:oD P t):vh P f:=by
 refine⟨hf.2,λF h q st hr hq=>fN hf ?_⟩;simp only[zX,go_sem];refine fq ⟨hg.1,hg.2 F h q st hr hq⟩ ?_;rintro _ h1 ⟨rfl,r1,x1⟩;cases hs:(gw st) with
 | mk n s=>
 rw[hs]at r1;simp only at r1;have r1':=r1;have hlt:=r1.lt;have hsm:=r1.aB;have hl1:=x1.1;obtain⟨b,p,all,a1,a2,a3,ah,a4,a5⟩:=r1;have tw:∀{h'},eY (hU q) h1 h'->eY (hU q) h h':=λe=>x1.aB e (λ_ _ x=>x) (λ_ _ x=>x);have bad:ie F (h1.set q (some (.aA 3 [[b,.aA .i64 p,.aD true]] false))) q none:=⟨b,p,all,Vd hlt,pb a2 hq _,a3,.inl rfl,a4,a5⟩;cases s with
 | none=>
  have e:gA st=([],none):=by simp only[gA,hs]
  rw[e];simp only[go_sem,a1,WO];exact⟨e_.aC 1,bad,tw (eY.aJ _ _)⟩
 | some l=>
  obtain rfl:l=all.drop p:=by rcases ah with h | h<;>simp_all
  have lp:(all.drop p).length=all.length-p:=VA;simp only[fZ.aA,VG]at hsm;by_cases c1:n<0
  ·have e:gA st=([],none):=by simp only[gA,hs];rw[Vf (.inl c1)]
   rw[e];simp only[go_sem,a1,Wa,Vc c1];exact⟨e_.aC 1,bad,tw (eY.aJ _ _)⟩
  simp only[go_sem,a1,Wa,Va c1];refine fR ht.1 (ht.2 F h1 q _ r1') ?_;by_cases c2:((all.drop p).length:Int)<n
  ·have e:gA st=([],none):=by simp only[gA,hs];rw[Vf (.inr c2)]
   rw[e];have c2':(fZ.aA (some (all.drop p)) |>.length:Int)<n:=c2;simp only[go_sem,Vc c2',a1,Wa];exact⟨e_.aC 1,bad,tw (eY.aJ _ _)⟩
  have e:gA st=((all.drop p).take n.toNat,some ((all.drop p).drop n.toNat)):=by simp only[gA,hs];rw[Ve (by omega)]
  rw[e];have c2':¬(fZ.aA (some (all.drop p)) |>.length:Int)<n:=c2;obtain⟨N,rfl⟩:=W7 (show 0<=n by omega);simp only[go_sem,Va c2',V6];have U:=ie.aC r1';have nq:=HA;refine gJ (λm L h'=>∃(i:Nat)(o:AV),lk 0 L=.aC q 3 0 0/\lk 3 L=.aA .i64 N/\lk 4 L=o/\lk 5 L=.aA .i64 i/\e_ (fT ((all.drop p).take i)) (λm=>h1.length<=m) h' o/\gq h' o/\eY fj h1 h'/\i<=N/\m=N-i) N ?_ ?_;·exact⟨0,.aB,by simp[fi,ga],by simp[fi],by simp[fi],by simp[fi],e_.aC 1,Vp,eY.aC _ _,by omega,by omega⟩
  ·rintro m L h2 ⟨i,o,k0,k3,k4,k5,hO,hA,hE,hi,rfl⟩;simp only[FG,go_sem,k3,k5];refine gx (λci=>?_) (λci=>?_)
   ·simp at ci;have hpi:p+i<all.length:=by omega
    have hdi:i<(all.drop p).length:=by omega
    have B1:=hE.aA a1;obtain⟨y,hy,hv,hn,hw⟩:=((e_.rd _ (F':=λ_=>True) (λ_ _=>Vp) _ a2).up hE).aM hpi;rw[show ((p+i:Nat):Int)=(p:Int)+i by omega]at hy;have e1:IntKind.i64.wrap (↑i+1)=(i:Int)+1:=fQ (by omega);have e0:IntKind.i64.wrap (↑p+↑i)=(p:Int)+i:=fQ (by omega);have hl2:=hE.1;have nq:∀o,gN h2.length 1 (.aC q 3 0 o)=true:=λo=>by simp[gN];omega
    have B2:∀z,(h2++[z])[q]?=_:=λz=>(eY.b1 z).aA B1;have tk:(all.drop p).take (i+1)=(all.drop p).take i++[all[p+i]]:=by rw[Vv hdi];simp
    have app:∃o' h3,mF (h2++[some (.aA 1 [[.aA .u8 all[p+i]]] false)]) 1 1 o (.aF h2.length 1 0 1 (some 1))=some (o',h3)/\e_ (fT ((all.drop p).take (i+1))) (λm=>h1.length<=m) h3 o'/\gq h3 o'/\eY fj h1 h3:=by
     obtain⟨o2,h5,s1,s2,s3,s4⟩:=jr (bytes:=1) (es:=[[.aA .u8 all[p+i]]]) (h:=h2++[some (.aA 1 [[.aA .u8 all[p+i]]] false)]) hO hA (eY.aE _ _ _) (ys:=[[.aA .u8 all[p+i]]])
      (by simp[fP,fW,e_]) hE.1 (by simp;omega)
     refine⟨o2,h5,by rw[ic (jn h2 1 [[.aA .u8 all[p+i]]] false (some 1) (len:=1) rfl)];exact s1,?_,s3,(hE.tr (eY.b1 _)).aI s4 (λm hm hm'=>by omega)⟩;rw[tk,fT,VI];exact s2
    obtain⟨o2,h3,s1,s2,s3,s4⟩:=app;simp only[go_sem,k0,k3,k4,k5,B2,nq,hn,true_and,e0,hy,hw,s1,e1];exact⟨_,by omega,i+1,o2,rfl,by simp,s2,s3,s4,by omega,rfl⟩
   ·simp at ci;obtain rfl:i=N:=by omega
    have B1:=hE.aA a1;have hl2:=hE.1;have hlt2:=(U_.1 B1).1;have e8:IntKind.i64.wrap (↑p+↑i)=((p+i:Nat):Int):=by rw[fQ (by omega)];omega
    simp only[go_sem,k0,k3,k4,B1,e8];refine⟨?_,⟨b,p+i,all,Vd hlt2,pb (a2.up hE) hq _,by omega,.inr (by rw[List.drop_drop]),a4,a5⟩,tw ((hE.aB (eY.aJ _ _) (λ_ _ x=>x.elim) (λ_ _ x=>x)))⟩;exact e_.aB (F:=λm=>h1.length<=m) _ (λm hm=>by omega) (gz.lt _ _) _ (pb hO (by omega) _)
theorem JD {P:Program}{f g t:FuncId}(hf:Is P f (zZ g t))(hg:vR P g)(ht:oD P t):tI P f:=by
 refine⟨hf.2,λF h q st hr hq=>fN hf ?_⟩;simp only[zZ,go_sem];refine fq ⟨hg.1,hg.2 F h q st hr hq⟩ ?_;rintro _ h1 ⟨rfl,r1,x1⟩;cases hs:(gw st) with
 | mk n s=>
 rw[hs]at r1;simp only at r1;have C:=r1;have hlt:=r1.lt;have E:=r1.aB;have hl1:=x1.1;obtain⟨b,p,all,a1,a2,a3,ah,a4,a5⟩:=r1;have tw:∀{h'},eY (hU q) h1 h'->eY (hU q) h h':=λe=>x1.aB e (λ_ _ x=>x) (λ_ _ x=>x);have bad:ie F (h1.set q (some (.aA 3 [[b,.aA .i64 p,.aD true]] false))) q none:=⟨b,p,all,Vd hlt,pb a2 hq _,a3,.inl rfl,a4,a5⟩;cases s with
 | none=>
  have e:ib gw st=([],none):=by simp only[ib,mw,hs]
  rw[e];simp only[go_sem,a1,WO];exact⟨e_.aC 1,bad,tw (eY.aJ _ _)⟩
 | some l=>
  simp only[fZ.aA,VG]at E;by_cases c1:n<0
  ·have e:ib gw st=([],none):=by simp only[ib,mw,hs];rw[Vf (.inl c1)]
   rw[e];simp only[go_sem,a1,Wa,Vc c1];exact⟨e_.aC 1,bad,tw (eY.aJ _ _)⟩
  simp only[go_sem,a1,Wa,Va c1];refine fR ht.1 (ht.2 F h1 q _ C) ?_;have e8:IntKind.i64.wrap ((fZ.aA (some l) |>.length:Int).tdiv 8)=((l.length / 8:Nat):Int):=by
   simp only[fZ.aA,VG];have:(l.length:Int).tdiv 8=((l.length / 8:Nat):Int):=by rw[Int.tdiv_eq_ediv_of_nonneg (by omega)];omega
   rw[this,fQ (by omega)]
  have n8:¬(8:Int)=0:=by omega
  by_cases c2:((l.length / 8:Nat):Int)<n
  ·have e:ib gw st=([],none):=by simp only[ib,mw,hs];rw[Vf (.inr c2)]
   rw[e];simp only[go_sem,uM,Ve n8,e8,Vc c2,a1,Wa];exact⟨e_.aC 1,bad,tw (eY.aJ _ _)⟩
  have em:ib gw st=ji gw n.toNat (some l):=by simp only[ib,mw,hs];rw[Ve (by omega)]
  rw[em];obtain⟨N,rfl⟩:=W7 (show 0<=n by omega);simp only[go_sem,uM,Ve n8,e8,Va c2,V6];have U:=ie.aC C;refine gJ (λm L h'=>∃(i:Nat)(o:AV)(xs l':List Int),lk 0 L=.aC q 3 0 0/\lk 3 L=.aA .i64 N/\lk 4 L=o/\lk 5 L=.aA .i64 i/\e_ (fK xs) (λm=>h1.length<=m) h' o/\gq h' o /\
    ie (λm=>F m/\m<h1.length) h' q (some l')/\eY (hU q) h1 h'/\xs.length=i/\i<=N/\m=N-i/\8*(N-i)<=l'.length/\ji gw N (some l)=(xs++(ji gw (N-i) (some l')).1,(ji gw (N-i) (some l')).2)) N ?_ ?_
  ·exact⟨0,.aB,[],l,by simp[fi,ga],by simp[fi],by simp[fi],by simp[fi],e_.aC 1,Vp,U,eY.aC _ _,rfl,by omega,by omega,by omega,by simp⟩
  ·rintro m L h2 ⟨i,o,xs,l',k0,k3,k4,k5,hO,hA,hR,hE,hx,hi,rfl,h8,u⟩;simp only[FI,go_sem,k3,k5];refine gx (λci=>?_) (λci=>?_)
   ·simp at ci;have e1:IntKind.i64.wrap (↑i+1)=(i:Int)+1:=fQ (by omega);simp only[go_sem,k0,k4];refine fq ⟨hg.1,hg.2 _ h2 q _ hR (λhm=>hq hm.1)⟩ ?_;rintro _ h3 ⟨rfl,r3,x3⟩;have ev:gw (some l')=(iO (l'.take 8),some (l'.drop 8)):=by simp only[gw];rw[Ve (by omega)]
    rw[ev]at r3 ⊢;have hl2:=hE.1;have hl3:=x3.1;have kp:gz (λm=>h1.length<=m) h2 h3:=x3.aM (λm hm h1 h2=>by simp only[hU]at h2;omega);have I:=e_.aB (F':=λm=>h1.length<=m) _ (λ_ x=>x) kp _ hO;have M:=hA.aA hO kp;have app:∃o' h4,mF (h3++[some (.aA 1 [[.aA .i64 (iO (l'.take 8))]] false)]) 1 8 o (.aF h3.length 1 0 1 (some 1))=some (o',h4)/\e_ (fK (xs++[iO (l'.take 8)])) (λm=>h1.length<=m) h4 o'/\gq h4 o'/\eY (λm=>h1.length<=m) h3 h4:=by
     obtain⟨o2,h5,s1,s2,s3,s4⟩:=jr (bytes:=8) (es:=[[.aA .i64 (iO (l'.take 8))]]) (h:=h3++[some (.aA 1 [[.aA .i64 (iO (l'.take 8))]] false)]) I M (eY.aE _ _ _) (ys:=[[.aA .i64 (iO (l'.take 8))]])
      (by simp[fP,fW,e_]) (by omega) (by simp;omega)
     refine⟨o2,h5,by rw[ic (jn h3 1 [[.aA .i64 (iO (l'.take 8))]] false (some 1) (len:=1) rfl)];exact s1,?_,s3,(eY.b1 _).aB s4 (λ_ _ x=>x.elim) (λ_ _ x=>x)⟩;rw[fK,VI];exact s2
    obtain⟨o2,h4,s1,s2,s3,s4⟩:=app;simp only[go_sem,k0,k3,k4,k5,s1,e1];refine⟨_,by omega,i+1,o2,xs++[iO (l'.take 8)],l'.drop 8,rfl,by simp,s2,s3,?_,?_,by simp[hx],ci,rfl,by simp;omega,?_⟩;·exact r3.aA (s4.2 q (by omega) (by omega)) (s4.aM (λm hm h1 h2=>by have:=h1.2;omega))
    ·exact (hE.aB x3 (λ_ _ x=>x) (λ_ _ x=>x)).aB s4 (λ_ _ x=>x) (λm hm hn=>by omega)
    ·rw[u,show N-i=(N-(i+1))+1 by omega,Ij (by omega)];simp
   ·simp at ci;obtain rfl:i=N:=by omega
    simp only[Nat.sub_self,ji,Wo]at u;rw[u];simp only[go_sem,k4];exact⟨e_.aB (F:=λm=>h1.length<=m) _ (λm hm=>by omega) (gz.lt _ _) _ hO,hR.aE (λ_ hm=>hm.1),tw hE⟩
def p_ (P:Program)(f:FuncId):Prop:=
 fI P f=true/\∀(F:Nat->Prop)(h:eZ)(l:List Int)(a:AV),Rd F h (fT l) a->l.length<=2^40->fy P f [a] h λr h'=>e_ (fT l) (λm=>h.length<=m) h' r/\eY fj h h'
theorem DJ {P:Program}{f:FuncId}(hf:Is P f w_)(hk:qZ P f):p_ P f:=by
 refine⟨hf.2,λF h l a ha hl=>?_⟩;by_cases h0:l=[]
 ·subst h0;intro G w vs g hv;obtain⟨v,rfl,hV⟩:=CW hv;have hz:v=.slice none 0 0\/∃p c,v=.slice (some p) 0 c:=by
   simp only[fT,Wg,Rd,gC]at ha;obtain⟨es,he,rfl⟩:=ha;rcases he with⟨rfl,_⟩ | ⟨t,c,rfl⟩ | ⟨n,off,len,cap,row,gr,rfl,_,u,a0,a2,C⟩
   ·cases hV;exact .inl rfl
   ·generalize hee:([]:List (List AV))=es at hV;cases hV with
    | aE=>exact .inl rfl
    | aD=>subst hee;exact .inr ⟨_,_,rfl⟩
   ·have h1:len=0:=by have:=Xq List.length C;simp at this;omega
    subst h1;cases hV with
    | aG=>exact .inl rfl
    | aC=>exact .inr ⟨_,_,rfl⟩
  rcases hz with rfl | ⟨p,c,rfl⟩
  ·have:fy P f [.aB] h λr h'=>e_ (fT []) (λm=>h.length<=m) h' r/\eY fj h h':=by refine fN hf ?_;have an:mj false .aB=some (.aD true):=rfl;simp only[w_,go_sem,s_,an];exact⟨e_.aC 1,eY.aC _ _⟩
   exact this G w _ g (CX .aO)
  ·refine (hk.aA p c w).mono ?_;rintro e w' ⟨a',c',rfl,O,hr,hs⟩;obtain⟨g',s'⟩:=g.aZ hr hs;refine⟨_,.aL 0 false 1 [],h,G,rfl,⟨?_,eY.aC _ _⟩,g',?_,s'⟩;·simp only[fT,Wg,e_];exact .inr (.inl ⟨0,false,rfl,Vp⟩)
   ·exact V.aD (G:=G) (w:=w') 0 false 1 [] a' c' (λ_ _=>undef) (VP _) (λe=>by cases e) (λ_=>O) (λW=>absurd rfl W) (λe he=>by simp at he) (λi j c hj=>by simp[gi]at hj) (λi j c hj=>by simp[gi]at hj)
 ·refine fN hf ?_;have an:mj false a=some (.aD false):=by
   have hpos:0<l.length:=Xg.2 h0;have hl':=ha.aG;simp only[fT,Rd]at ha;obtain⟨es,he,C⟩:=ha;have b:=nO C;rw[Vo]at b;rcases he with⟨rfl,rfl⟩ | ⟨t,c,rfl⟩ | ⟨n,off,len,cap,row,gr,rfl,_,u,a0,a2,rfl⟩;·simp at b;omega
   ·simp only[mj,n_,jC,V3];rw[Vf (by omega)];rfl
   ·simp only[Vw,VA]at b;simp only[mj,n_,jC,V3];rw[Vf (by omega)];rfl
  obtain⟨ys,I,M⟩:=(ha.up (eY.b1 (some (.aA 1 [] false)))).aK;obtain⟨o,h',a3,U,hc',a1⟩:=jr (lo:=h.length) (sz:=1) (bytes:=1) (ds:=[]) (h0:=h++[some (.aA 1 [] false)]) (h:=h++[some (.aA 1 [] false)]) (av:=.aF h.length 1 0 0 (some 0))
   (by simp only[e_];exact .inr (.inr ⟨_,0,some 0,[],false,rfl,Vg _,gh _ _,by simp,(λc hc=>by cases hc;simp),by simp[fP]⟩))
   ⟨[],false,gh _ _,(λh=>by cases h),λc hc=>by cases hc;simp⟩ (eY.aC fj _) (uJ M) (by simp) (by simp;omega)
  have E:=ic I 1 (.aF h.length 1 0 0 (some 0));rw[a3]at E;simp only[w_,go_sem,s_,an,E];exact⟨by simpa [fT] using U,(eY.b1 _).aI a1 (λm hm hm'=>by omega)⟩
def wm (P:Program)(f:FuncId):Prop:=fI P f=true/\∀(G:Nat->Prop)(h:eZ)(l:List Int)(b:AV),Rd G h (fT l) b->gK l->l.length<=2^40->
 fy P f [b] h λr h'=>∃q,r=.aC q 2 0 0/\h.length<=q/\iC (λm=>h.length<=m/\m<q) h' q (some l)/\eY fj h h'
def tP (P:Program)(f:FuncId):Prop:=fI P f=true/\∀(G:Nat->Prop)(h:eZ)(l:List Int)(b:AV),Rd G h (fT l) b->gK l->l.length<=2^40->
 fy P f [b] h λr h'=>r=.aC h.length 3 0 0/\ie (λm=>h.length+1<=m) h' h.length (some l)/\eY fj h h'
theorem QF {P:Program}{f g:FuncId}(hf:Is P f (Bc g))(hg:p_ P g):wm P f:=by refine⟨hf.2,λG h l b hb h1 h2=>fN hf ?_⟩;simp only[Bc,go_sem];refine fq ⟨hg.1,hg.2 G h l b hb h2⟩ ?_;rintro r H ⟨ro,rx⟩;simp only[go_sem,ro.aA,gH ro.aA];refine⟨H.length,rfl,rx.1,⟨⟨r,gh _ _,?_⟩,h1,h2⟩,rx.tr (eY.b1 _)⟩;exact e_.aB _ (λm hm=>hm) ((eY.b1 _).aF _) _ (e_.lt _ _ ro)
theorem JS {P:Program}{f:FuncId}(hf:Is P f zW):tP P f:=by
 refine⟨hf.2,λG h l b hb h1 h2=>fN hf ?_⟩;have lb:=hb.aG;simp only[zW,go_sem];refine gJ (λm L h'=>∃(i:Nat)(o:AV),lk 0 L=b/\lk 3 L=.aC h.length 3 0 0/\lk 4 L=.aA .i64 i/\h'[h.length]?=some (some (.aA 3 [[o,.aA .i64 0,.aD false]] false)) /\
   e_ (fT (l.take i)) (λm=>h.length+1<=m) h' o/\gq h' o/\eY fj h h'/\i<=l.length/\m=l.length-i) l.length ?_ ?_
 ·exact⟨0,.aB,by simp[fi,ga],by simp[fi],by simp[fi],gh _ _,e_.aC 1,Vp,eY.b1 _,by omega,by omega⟩
 ·rintro m L h2 ⟨i,o,k0,k3,k4,hB,hO,hA,hE,hi,rfl⟩;simp only[FF,go_sem,k0,k4,lb];refine gx (λci=>?_) (λci=>?_)
  ·simp at ci;obtain⟨y,hy,hv,hn,hw⟩:=(hb.up hE).aM ci;have e1:IntKind.i64.wrap (↑i+1)=(i:Int)+1:=fQ (by omega);have hl2:=hE.1;have hltB:=(U_.1 hB).1;have nq:∀o,gN h2.length 1 (.aC h.length 3 0 o)=true:=λo=>by simp[gN];omega
   have B2:∀z,(h2++[z])[h.length]?=_:=λz=>(eY.b1 z).aA hB;have app:∃o' h3,mF (h2++[some (.aA 1 [[.aA .u8 l[i]]] false)]) 1 1 o (.aF h2.length 1 0 1 (some 1))=some (o',h3)/\e_ (fT (l.take (i+1))) (λm=>h.length+1<=m) h3 o'/\gq h3 o'/\eY (λm=>h.length+1<=m) (h2++[some (.aA 1 [[.aA .u8 l[i]]] false)]) h3:=by
    obtain⟨o2,h5,s1,s2,s3,s4⟩:=jr (bytes:=1) (es:=[[.aA .u8 l[i]]]) (h:=h2++[some (.aA 1 [[.aA .u8 l[i]]] false)]) hO hA (eY.aE _ _ _) (ys:=[[.aA .u8 l[i]]])
     (by simp[fP,fW,e_]) (by omega) (by simp;omega)
    refine⟨o2,h5,by rw[ic (jn h2 1 [[.aA .u8 l[i]]] false (some 1) (len:=1) rfl)];exact s1,?_,s3,s4⟩;rw[Vv ci,fT,VI];exact s2
   obtain⟨o2,h3,s1,s2,s3,s4⟩:=app;have u:=s4.1;simp only[kU]at u;have t:h.length<h3.length:=by omega
   have B3:h3[h.length]?=_:=(s4.2 h.length (by simp;omega) (by omega)).trans (B2 _);simp only[go_sem,k0,k3,k4,B2,nq,hn,true_and,hy,hw,s1,B3,s2.aA,gH s2.aA,e1];refine⟨_,by omega,i+1,o2,by simp,by rw[Vf t],pb s2 (by omega) _,?_,?_,ci,rfl⟩;·exact s3.aA s2 (F:=λm=>h.length+1<=m) (λm hm y hy=>by rw[Vb (by omega)];exact hy)
   ·exact ((hE.tr (eY.b1 _)).aI s4 (λm hm hm'=>by omega)).aD (by omega) _
  ·simp at ci;obtain rfl:i=l.length:=by omega
   rw[VH]at hO;simp only[go_sem,k3];exact⟨⟨o,0,l,hB,hO,by omega,.inr rfl,h1,by assumption⟩,hE⟩
end Glb
