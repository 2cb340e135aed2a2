/-
  A library of its own.
-/
import Derived.Test.YtdeiamnhnfmilaaGreatGlbQuoB
import Derived.Test.YtdeiamnhnfmilaaGreatGlbMorA
set_option linter.unusedSimpArgs false
set_option linter.unusedVariables false
set_option maxRecDepth 10000
set_option maxHeartbeats 8000000
namespace Glb
open Go
theorem fO.aZ {G : Gh} {w w' : World} {h : eX} (g : fO G w h) (hr : jV w w') (same : ∀ b, b < w.heap.size -> w'.heap[b]? = w.heap[b]?) : fO G w' h /\ gI G w G w' := by
  have e := hr.2.2.1
  have sh : ∀ b, (w.shape? b).isSome -> w'.shape? b = w.shape? b := λb hb => by
    have hlt : b < w.heap.size := by
      apply Vb; intro hn
      simp only [World.shape?, Array.getElem?_eq_none (Nat.le_of_not_lt hn)] at hb
      exact absurd hb (by simp)
    simp only [World.shape?, same b hlt]
  have k : ic G w G w' := ⟨U8 _, λ_ _ _ h => h, λ_ _ h => h, λ_ _ h => h, λt b hp => same b (g.aQ hp), sh⟩
  exact ⟨{ aA := g.aA, aD := g.aD, aE := g.aE, inj := g.inj, aF := g.aF, aG := g.aG, aL := g.aL, aM := g.aM,
           aH := λn b hb => Vj (g.aH n b hb) e, aJ := λb hb => Vj (g.aJ b hb) e,
           aC := λn sz es gr b hn hb => (g.aC n sz es gr b hn hb).aA k (same b (g.aO (g.aN hn hb) hb)), aI := g.aI, aK := g.aK },
    k, ⟨λ_ h => h, λ_ h => .inl h⟩, λ_ _ => rfl, λ_ _ => WA, e, λb hb _ => same b hb, λb hb => .inl hb, hr⟩
structure r_ (P:Program)(f:FuncId):Prop where
 aA:∀(a:Addr)(c:Nat)(w:World),Calls P f #[.slice (some a) 0 c] w λe w'=>∃a' c',e=.returned (.slice (some a') 0 c')/\a'.spot=none/\jV w w'/\∀k,k<w.heap.size->w'.heap[k]?=w.heap[k]?
def o8 (P:Program)(f:FuncId):Prop:=
 fK P f=true/\∀(F:Nat->Prop)(h:eX)(l:List Int)(a:AV),Rd F h (fN l) a->l.length<=2^40->fC P f [a] h λr h'=>eY (fN l) (λm=>h.length<=m) h' r/\(l≠[]->gV h' r)/\eW eZ h h'
def mP (b:Bool)(x:AV):Option AV:=if oW x then (jW x).map λc=>.aE (c != b) else none
theorem tU (g:fE->AV)(h:eX)(b:Bool)(x:fE):gG g h (.aG b x)=mP b (g x):=Vc rfl rfl
theorem CO {G w}{a:AV}{vs:Array Value} (hv:VL G w [a] vs):∃v,vs=#[v]/\V G w a v:=by
 have:=hv.1;match vs with
 | ⟨[v]⟩=>exact⟨v,rfl,hv.2 0 a v rfl rfl⟩
 | ⟨[]⟩=>simp at this
 | ⟨_ :: _ :: _⟩=>simp at this
theorem CP {G w}{a:AV}{v:Value}(hv:V G w a v):VL G w [a] #[v]:=⟨rfl,λj c v' hc e=>by
 cases j with
 | zero=>simp at hc e;subst hc;subst e;exact hv
 | succ j=>simp at hc⟩
theorem I5 {P:Program}{f:FuncId}(hf:Is P f qg)(hk:r_ P f):o8 P f:=by
 refine⟨hf.2,λF h l a ha hl=>?_⟩;by_cases h0:l=[]
 ·subst h0;intro G w vs g hv;obtain⟨v,rfl,hV⟩:=CO hv;have hz:v=.slice none 0 0\/∃p c,v=.slice (some p) 0 c:=by
   simp only[fN,VO,Rd,fY]at ha;obtain⟨es,he,rfl⟩:=ha;rcases he with⟨rfl,_⟩ | ⟨t,c,rfl⟩ | ⟨n,off,len,cap,row,gr,rfl,_,hrow,hle,hcl,hes⟩
   ·cases hV;exact .inl rfl
   ·generalize hee:([]:List (List AV))=es at hV;cases hV with
    | aF=>exact .inl rfl
    | aE=>subst hee;exact .inr ⟨_,_,rfl⟩
   ·have h1:len=0:=by have:=W_ List.length hes;simp at this;omega
    subst h1;cases hV with
    | aH=>exact .inl rfl
    | aC=>exact .inr ⟨_,_,rfl⟩
  rcases hz with rfl | ⟨p,c,rfl⟩
  ·have:fC P f [.aD] h λr h'=>eY (fN []) (λm=>h.length<=m) h' r/\(([]:List Int)≠[]->gV h' r)/\eW eZ h h':=by refine pD hf.1 (V3 rfl) ?_;show vc P qg.aA ⟨[(0,.aD)],[],h⟩ (iE qg.aC _);have an:mP false .aD=some (.aE true):=rfl;simp only[qg,go_sem,tU,an];exact⟨eY.aD 1,λh=>absurd rfl h,eW.aC _ _⟩
   exact this G w _ g (CP .aO)
  ·refine (hk.aA p c w).mono ?_;rintro e w' ⟨a',c',rfl,hsp,hr,hs⟩;obtain⟨g',s'⟩:=g.aZ hr hs;refine⟨_,.aM 0 false 1 [],h,G,rfl,⟨?_,λh=>absurd rfl h,eW.aC _ _⟩,g',?_,s'⟩;·simp only[fN,VO,eY];exact .inr (.inl ⟨0,false,rfl,Vd⟩)
   ·exact V.aE (G:=G) (w:=w') 0 false 1 [] a' c' (λ_ _=>undef) (Vk _) (λe=>by cases e) (λ_=>hsp) (λhne=>absurd rfl hne) (λe he=>by simp at he) (λi j c hj=>by simp[gw]at hj) (λi j c hj=>by simp[gw]at hj)
 ·refine pD hf.1 (V3 rfl) ?_;show vc P qg.aA ⟨[(0,a)],[],h⟩ (iE qg.aC _);have an:mP false a=some (.aE false):=by
   have hpos:0<l.length:=W9.2 h0;have hl':=ha.aF;simp only[fN,Rd]at ha;obtain⟨es,he,hes⟩:=ha;have hlen:=kM hes;rw[Vg]at hlen;rcases he with⟨rfl,rfl⟩ | ⟨t,c,rfl⟩ | ⟨n,off,len,cap,row,gr,rfl,_,hrow,hle,hcl,rfl⟩;·simp at hlen;omega
   ·simp only[mP,oW,jW,VS];rw[U4 (by omega)];rfl
   ·simp only[Va,Vo]at hlen;simp only[mP,oW,jW,VS];rw[U4 (by omega)];rfl
  obtain⟨ys,hys,hyr⟩:=(ha.up (eW.b1 (some (.aA 1 [] false)))).aH;obtain⟨o,h',hap,ho',hc',he'⟩:=l_ (lo:=h.length) (sz:=1) (bytes:=8) (ds:=[]) (h0:=h++[some (.aA 1 [] false)]) (h:=h++[some (.aA 1 [] false)]) (av:=.aG h.length 1 0 0 (some 0))
   (by simp only[eY];exact .inr (.inr ⟨_,0,some 0,[],false,rfl,U8 _,gJ _ _,by simp,(λc hc=>by cases hc;simp),by simp[fG]⟩))
   ⟨[],false,gJ _ _,(λh=>by cases h),λc hc=>by cases hc;simp⟩ (eW.aC eZ _) (rP hyr) (by simp) (by simp;omega)
  have ha2:=iv hys 8 (.aG h.length 1 0 0 (some 0));rw[hap]at ha2;simp only[qg,go_sem,tU,an,ha2];exact⟨by simpa [fN] using ho',λ_=>hc',(eW.b1 _).aJ he' (λm hm hm'=>by omega)⟩
theorem fC.aF {P:Program}{f:FuncId}{n sz off len:Nat}{r:List AV}{h:eX}{K:AV->eX->Prop}(hlen:0<len) (hc:∀c,len<=c->fC P f (.aG n sz off len (some c) :: r) h K):fC P f (.aG n sz off len none :: r) h K:=by
 intro G w vs g hv;have C:=hv.1;simp only[Vf]at C;have h0:0<vs.size:=by omega
 obtain⟨v,e⟩:∃v,vs[0]?=some v:=⟨vs[0],by simp[h0]⟩;have hV:=hv.2 0 _ v rfl e;cases hV with
 | aH=>omega
 | aC _ _ _ _ _ c ty m b hn hb hlc hcapc hs hm=>
  refine hc c hlc G w vs g ⟨by simpa using hv.1,λj x u hx hu=>?_⟩;cases j with
  | zero=>simp at hx;subst hx;rw[e]at hu;cases hu;exact .aC _ _ _ _ _ c ty m b hn hb hlc (λk hk=>by cases hk;rfl) hs hm
  | succ j=>exact hv.2 (j+1) x u (by simpa using hx) hu
def DV (P:Program)(f:FuncId):Prop:=
 fK P f=true/\∀(F:Nat->Prop)(h:eX)(l:List Int)(a:AV)(i:Nat),eY (fN l) F h a->l.length<=2^40->i<l.length->fC P f [a,.aA .i64 i,.aA .i64 ((i:Int)+1)] h λr h'=>eY (fN (l.take i++l.drop (i+1))) F h' r/\eW F h h'
theorem DW {P:Program}{f:FuncId}(hf:Is P f sY){F:Nat->Prop}{h:eX}{l:List Int}{n off c:Nat}{i:Nat}(hI:m_ n off (some c) l F h)(hl:l.length<=2^40)(hi:i<l.length):
  fC P f [.aG n 1 off l.length (some c),.aA .i64 i,.aA .i64 ((i:Int)+1)] h λr h'=>eY (fN (l.take i++l.drop (i+1))) F h' r/\eW F h h':=by
 refine pD hf.1 (V3 rfl) ?_;show vc P sY.aA ⟨[(0,.aG n 1 off l.length (some c)),(1,.aA .i64 i),(2,.aA .i64 ((i:Int)+1))],[],h⟩ (iE sY.aC _);have hO:=hI.aC (U8 l.length);rw[VB]at hO;obtain⟨hF,row,g,hrow,hle,hcap,hes⟩:=hI;have hcl:=hcap c rfl;obtain⟨c',rfl⟩:∃c',c=c'+1:=⟨c-1,by omega⟩;have la:ik (.aG n 1 off l.length (some (c'+1)))=some (.aA .i64 l.length):=rfl;have hb:ie 1 (.aG n 1 off l.length (some (c'+1))) (some (i:Int)) (some ((i:Int)+1)) (some (l.length:Int))=some (.aG n 1 (off+i) 1 (some (l.length-i)))\/i=0:=by
  rcases Nat.eq_zero_or_pos i with h0 | h0;·exact .inr h0
  left;simp only[ie,Vu];rw[U4 ⟨Vd,by omega,by omega,by omega,by omega,by omega⟩,U6 (by omega),U4 (by omega)];simp[jk]
 have hb0:∃z,ie 1 (.aG n 1 off l.length (some (c'+1))) (some (i:Int)) (some ((i:Int)+1)) (some (l.length:Int))=some z:=by
  rcases hb with h | h;·exact⟨_,h⟩
  subst h;simp only[ie,Vu];rw[U4 ⟨Vd,by omega,by omega,by omega,by omega,by omega⟩,U4 (by omega)];exact⟨_,rfl⟩
 obtain⟨z,hz⟩:=hb0;have hne:¬(i:Int)=(i:Int)+1:=by omega
 have s1:ie 1 (.aG n 1 off l.length (some (c'+1))) none (some (i:Int)) none=some (.aG n 1 off i (some (c'+1))):=by simp only[ie,Vu,V0];rw[U4 ⟨Vd,by omega,by omega,by omega,by omega,by omega⟩,U4 Vd];simp[jk]
 obtain⟨q,s2,s3⟩:=(eY.rd _ (F':=λ_=>True) (λ_ _=>Vd) _ hO).aI (lo:=some ((i:Int)+1)) (hi:=none) (mx:=none) (by simp;omega) (by simp;omega) (by simp) (by simp) (by simp) (by simp);obtain⟨ys,y1,y2⟩:=s3.aH;simp only[Vu,V0,Vg,V4,Vs (Nat.le_of_eq (show (l.map (λn=>[D.aA .i64 n])).length=l.length from Vg _))]at y2;rw[show ((i:Int)+1).toNat=i+1 by omega,<-W4]at y2;have y3:ys=(l.drop (i+1)).map λn=>[AV.aA .i64 n]:=xM (F:=F) (h:=h) (rP y2);subst y3;have hlt:=(UY.1 hrow).1;generalize hY:((l.drop (i+1)).map λn=>[AV.aA .i64 n])=Y at y1;have hYl:Y.length=l.length-(i+1):=by rw[<-hY];simp
 have ap:nR h 1 8 (.aG n 1 off i (some (c'+1))) q=some (.aG n 1 off (l.length-1) (some (c'+1)),h.set n (some (.aA 1 (gM row (off+i) Y) g))):=by rw[iv y1];simp only[iu,hrow];rw[U4 ⟨Vd,Vd,by omega,by omega⟩,U6 (by omega),U4 (by omega)];rw[show i+Y.length=l.length-1 by omega]
 have lr:ik (.aG n 1 off (l.length-1) (some (c'+1)))=some (.aA .i64 ((l.length-1:Nat):Int)):=rfl;obtain⟨cc,s5⟩:∃cc,ie 1 (.aG n 1 off (l.length-1) (some (c'+1))) (some ((l.length-1:Nat):Int)) (some (l.length:Int)) none=some (.aG n 1 (off+(l.length-1)) 1 cc):=by
  simp only[ie,Vu,V0];rw[U4 ⟨Vd,by omega,by omega,.inr rfl,by omega,by omega⟩];by_cases h1:((l.length-1:Nat):Int)=0;·rw[U4 h1];refine⟨jk none ((l.length-1:Nat):Int).toNat (some (c'+1)),?_⟩;rw[show off+(l.length-1)=off by omega,show ((l.length:Int)).toNat=1 by omega]
  ·rw[U6 h1,U4 (by omega)];refine⟨jk none ((l.length-1:Nat):Int).toNat (some (c'+1)),?_⟩;rw[show ((l.length:Int)).toNat-(((l.length-1:Nat):Int)).toNat=1 by omega,V4]
 have sl1:(gM row (off+i) Y).length=row.length:=by simp[gM];omega
 have cl:pZ (h.set n (some (.aA 1 (gM row (off+i) Y) g))) 1 [.aA .i64 0] (.aG n 1 (off+(l.length-1)) 1 cc)=some (h.set n (some (.aA 1 (gM (gM row (off+i) Y) (off+(l.length-1)) [[.aA .i64 0]]) g))):=by simp only[pZ];rw[U6 (by omega),U5 hlt];simp only[];rw[U4 ⟨Vd,Vd,by rw[sl1];omega⟩,VX];rfl
 simp only[sY,go_sem,la,mQ,hz,U2 hne,s1,s2,ap,lr,s5,cl,Gw];refine⟨?_,eW.aI _ (λ_=>hF)⟩;have hl':(l.take i++l.drop (i+1)).length=l.length-1:=by simp;omega
 have fin:m_ n off (some (c'+1)) (l.take i++l.drop (i+1)) F (h.set n (some (.aA 1 (gM (gM row (off+i) Y) (off+(l.length-1)) [[.aA .i64 0]]) g))):=by
  refine⟨hF,_,g,U5 hlt,?_,λc hc=>by cases hc;rw[hl'];omega,?_⟩;·rw[hl'];simp only[gM,U1,Va,Vo,Vf,Ve];omega
  ·rw[hl',VJ,hY];have e1:(gM row (off+i) Y).take (off+(l.length-1))=row.take (off+i)++Y:=by rw[gM];exact Xq (by simp;omega)
   rw[gM,e1];rw[Vr,Vr,Wg (by simp;omega),List.drop_take,show off+i-off=i by omega];rw[<-Vr];have e2:(row.drop off).take i=(l.take i).map λn=>[AV.aA .i64 n]:=by have:=W_ (List.take i) hes;rw[VG,VT (by omega),<-Wv]at this;exact this
   rw[e2];exact Xq (by simp;omega)
 have:=fin.aC (U8 _);rw[VB,hl']at this;exact this
theorem Jh {P:Program}{f:FuncId}(hf:Is P f sY):DV P f:=by
 refine⟨hf.2,λF h l a i ho hl hi=>?_⟩;obtain⟨n,off,cap,rfl,hI⟩:=Hy ho (by rintro rfl;simp at hi);cases cap with
 | some c=>exact DW hf hI hl hi
 | none=>refine fC.aF (by omega) λc hc=>?_;obtain⟨hF,row,g,e,u,hcap,C⟩:=hI;exact DW hf ⟨hF,row,g,e,u,λk hk=>by cases hk;exact hc,C⟩ hl hi
def DG (P:Program)(f:FuncId):Prop:=
 fK P f=true/\∀(F:Nat->Prop)(h:eX)(l:List Int)(a:AV)(g:FuncId)(fs cs:List AV)(p:Int->Bool),Rd F h (fN l) a->l.length<=2^40->fK P g=true->
  (∀n,fC P g (fs++[.aA .i64 n]++cs) h λr h'=>r=.aE (p n)/\h'=h)->fC P f [a,.aK g fs cs] h λr h'=>r=.aE (l.any p)/\h'=h
def qm (p:Int->Bool):List Int->Nat->Int
 | [],_=>-1
 | x :: r,k=>if p x then k else qm p r (k+1)
theorem MH (p:Int->Bool):∀(l:List Int)(k:Nat),decide (0<=qm p l k)=l.any p:=by
 intro l;induction l with
 | nil=>intro k;simp[qm]
 | cons x r ih=>
  intro k;simp only[qm,List.any_cons];by_cases hp:p x=true;·simp[hp]
  ·simpa [hp] using ih (k+1)
theorem MF (n:Int):∀(l:List Int)(k:Nat),nW n l k=-1/\n∉l\/∃i,i<l.length/\nW n l k=((k+i:Nat):Int)/\l[i]?=some n:=by
 intro l;induction l with
 | nil=>intro k;exact .inl ⟨rfl,by simp⟩
 | cons x r ih=>
  intro k;simp only[nW];split;·rename_i e;subst e;exact .inr ⟨0,by simp,by simp,by simp⟩
  ·rename_i e;rcases ih (k+1) with⟨h1,h2⟩ | ⟨i,h1,h2,h3⟩;·exact .inl ⟨h1,by simp[e,h2]⟩
   ·exact .inr ⟨i+1,by simp;omega,by rw[h2];congr 1;omega,by simpa using h3⟩
theorem Ju {P:Program}{f:FuncId}(hf:Is P f sZ){F:Nat->Prop}{h:eX}{l:List Int}{a:AV}{g:FuncId}{fs cs:List AV}{p:Int->Bool}(ha:Rd F h (fN l) a)(hl:l.length<=2^40)(hi:fK P g=true)
  (hg:∀n,fC P g (fs++[.aA .i64 n]++cs) h λr h'=>r=.aE (p n)/\h'=h):fC P f [a,.aK g fs cs] h λr h'=>r=.aA .i64 (qm p l 0)/\h'=h:=by
 refine pD hf.1 (V3 rfl) ?_;show vc P sZ.aA ⟨[(0,a),(1,.aK g fs cs)],[],h⟩ (iE sZ.aC _);have la:=ha.aF;simp only[sZ,go_sem,la];refine iM (λm L h'=>∃i:Nat,lk 0 L=a/\lk 1 L=.aK g fs cs/\lk 7 L=.aA .i64 l.length/\lk 8 L=.aA .i64 i/\h=h'/\i<=l.length/\m=l.length-i/\qm p (l.drop i) i=qm p l 0) l.length ?_ ?_;·exact⟨0,by simp[fm,g_],by simp[fm,g_],by simp[fm],by simp[fm],rfl,by omega,by omega,rfl⟩
 ·rintro m L h' ⟨i,k0,k1,k7,k8,rfl,hi2,rfl,hq⟩;simp only[FN,go_sem,k7,k8];refine ij (λci=>?_) (λci=>?_)
  ·simp at ci;obtain⟨q,hp,hv⟩:=ha.aG ci;have e:IntKind.i64.wrap (↑i+1)=(i:Int)+1:=gj (by omega);rw[Wh ci]at hq;simp only[qm]at hq;simp only[go_sem,k0,k1,k8,hp,hv];refine fZ hi (hg _) ?_;cases u:p l[i];·rw[u]at hq;simp only[go_sem,k0,k1,k7,k8,e];exact⟨_,by omega,i+1,by simp,ci,rfl,by simpa using hq⟩
   ·rw[u]at hq;simp only[go_sem];rw[<-hq];rfl
  ·simp at ci;obtain rfl:i=l.length:=by omega
   rw[Xd]at hq;simp only[go_sem];rw[<-hq];rfl
theorem I_ {P:Program}{f k:FuncId}(hf:Is P f (uR k))(hk:Is P k sZ):DG P f:=by refine⟨hf.2,λF h l a g fs cs p ha hl hi hg=>pD hf.1 (V3 rfl) ?_⟩;show vc P (uR k).aA ⟨[(0,a),(1,.aK g fs cs)],[],h⟩ (iE (uR k).aC _);simp only[uR,go_sem];refine fZ hk.2 (Ju hk ha hl hi hg) ?_;simp only[go_sem,MH]
def fq.aN (x:fq):Bool:=decide (0<x.aC.length+x.aD.length)
def fq.aL (x:fq)(n:Int):Int:=if x.aE=false then 29 else if n<1\/7<n then 28 else if x.aN=true then 11 else 0
def fq.no:fq:=⟨[],[],[]⟩
def fq.aM (x:fq)(n:Int):fq×Int:=if x.aL n≠0 then (.no,x.aL n) else if n∈x.aA then (.no,7) else (⟨x.aA,[],[n]⟩,0)
def fq.aI (x:fq)(n:Int):fq×Int:=if x.aL n≠0 then (.no,x.aL n) else if n∉x.aA then (.no,6) else if x.aA.length=1 then (.no,29) else (⟨x.aA,x.aA.filter (λm=>!decide (m=n)),[]⟩,0)
def fq.aV (x:fq)(far:List Int):Bool:=!x.aE || !x.aN || (decide (x.aC.length=0) && x.aD.any λn=>!decide (n∈far))
def fq.aJ (x:fq)(far:List Int):fq×Bool:=if x.aV far=true then (x,false) else if 0<x.aC.length then (⟨x.aC,[],[]⟩,true) else (⟨x.aA,jo (x.aA++x.aD),[]⟩,true)
def yu (P:Program)(f:FuncId):Prop:=fK P f=true/\∀(F:Nat->Prop)(h:eX)(x:fq)(a:List AV),fu F h x.c a->x.aG (2^38)->fC P f [.aF a] h λr h'=>r=.aE x.aN/\h'=h
theorem E7 {P:Program}{f:FuncId}(hf:Is P f zM):yu P f:=by
 refine⟨hf.2,λF h x a ha hx=>jG (qE _ _) (fS hf ?_)⟩;obtain⟨o,n,e,rfl,ho,hn,he⟩:=kI ha;obtain⟨h1,h2,h3⟩:=hx;have e1:IntKind.i64.wrap ((x.aC.length:Int)+x.aD.length)=((x.aC.length+x.aD.length:Nat):Int):=by rw[gj (by omega)];omega
 simp only[zM,go_sem,ho.aA,hn.aA,he.aA,hn.aF,he.aF,e1];exact⟨by simp only[fq.aN];congr 1;simp only[decide_eq_decide];omega,eW.b1 _⟩
def wh (P:Program)(f:FuncId):Prop:=fK P f=true/\∀(F:Nat->Prop)(h:eX)(x:fq)(a:List AV)(n:Int),fu F h x.c a->x.aG (2^38)->fC P f [.aF a,.aA .i64 n] h λr h'=>r=.aA .i64 (x.aL n)/\h'=h
theorem UW:(!decide ((0:Int)=0))=false:=rfl
theorem Hl:(!decide ((29:Int)=0))=true:=rfl
theorem LZ {P:Program}{f g b:FuncId}(hf:Is P f (zJ g b))(hg:ug P g)(hb:yu P b):wh P f:=by
 refine⟨hf.2,λF h x a n ha hx=>jG rfl (fS hf ?_)⟩;have u:=ha;obtain⟨o,k,e,rfl,ho,hn,he⟩:=kI ha;simp only[zJ,go_sem,ho.aA,hn.aA,he.aA];refine fZ hg.1 (hg.2 F _ x _ (u.up (eW.b1 _)) hx) ?_;cases hr:x.aE;·simp only[go_sem,Vn,VI,Hl];exact⟨by simp[fq.aL,hr],eW.b1 _⟩
 simp only[go_sem,VS];by_cases c1:n<1;·simp only[go_sem,U3 c1];exact⟨by simp[fq.aL,hr,c1],eW.b1 _⟩
 by_cases c2:7<n
 ·simp only[go_sem,U2 c1,U3 c2];exact⟨by simp[fq.aL,hr,c2],eW.b1 _⟩
 simp only[go_sem,U2 c1,U2 c2];refine fZ hb.1 (hb.2 F _ x _ (u.up (eW.b1 _)) hx) ?_;cases hy:x.aN;·simp only[go_sem];exact⟨by simp[fq.aL,hr,c1,c2,hy],eW.b1 _⟩
 ·simp only[go_sem];exact⟨by simp[fq.aL,hr,c1,c2,hy],eW.b1 _⟩
def sJ (P:Program)(f:FuncId)(t:fq->Int->fq×Int):Prop:=
 fK P f=true/\∀(F:Nat->Prop)(h:eX)(x:fq)(a:List AV)(n:Int),fu F h x.c a->x.aG (2^38)->fC P f [.aF a,.aA .i64 n] h λr h'=>∃cs,r=.aI [.aF cs,.aA .i64 (t x n).2]/\fI (t x n).1.c (λm=>h.length<=m) h' cs/\eW eZ h h'
theorem n_ {F:Nat->Prop}{h:eX}{x:fq}{o n e:AV}(ho:eY (fN x.aA) F h o)(hn:eY (fN x.aC) F h n)(he:eY (fN x.aD) F h e):fI x.c F h [o,n,e]:=by simp only[fq.c,fI];exact⟨_,_,rfl,ho,_,_,rfl,hn,_,_,rfl,he,rfl⟩
theorem vw {F:Nat->Prop}{h:eX}:fI fq.no.c F h [.aD,.aD,.aD]:=n_ (eY.aD 1) (eY.aD 1) (eY.aD 1)
theorem jH {d:D}{lo n:Nat}{h:eX}{a:AV}(ho:eY d (λm=>lo<=m) h a)(hn:n<lo)(x:Option e_){k:Nat}(hk:k<=lo):eY d (λm=>k<=m) (h.set n x) a:=
 eY.aC _ (λm hm=>by omega) (λm hm y hy=>by rw[UZ (by omega)];exact hy) _ ho
theorem PS {d:D}{lo:Nat}{h:eX}{a:AV}(ho:eY d (λm=>lo<=m) h a)(x:Option e_):eY d (λm=>lo<=m) (h++[x]) a:=
 eY.aC _ (λm hm=>hm) (λm hm y hy=>(eW.b1 x).aA hy) _ ho
theorem LV {P:Program}{f m s k:FuncId}(hf:Is P f (zG m s k))(hm:wh P m)(hs:mo P s)(hk:o8 P k):sJ P f fq.aM:=by
 refine⟨hf.2,λF h x a n ha hx=>fS hf ?_⟩;have C:=ha;obtain⟨o,u,e,rfl,ho,hn,he⟩:=kI ha;obtain⟨h1,h2,h3⟩:=id hx;simp only[zG,go_sem,ho.aA,hn.aA,he.aA];refine fZ hm.1 (hm.2 F _ x _ n (C.up (eW.b2 _ _)) hx) ?_;by_cases c0:x.aL n=0
 ·simp only[go_sem,c0];refine fZ hs.1 (hs.2 F _ x.aA o n (ho.up (eW.b2 _ _)) (by omega)) ?_;by_cases c1:n∈x.aA
  ·simp only[go_sem,U3 c1];have ee:x.aM n=(.no,7):=by simp[fq.aM,c0,c1]
   rw[ee];exact⟨_,rfl,vw,eW.b2 _ _⟩
  ·simp only[go_sem,U2 c1];have ee:x.aM n=(⟨x.aA,[],[n]⟩,0):=by simp[fq.aM,c0,c1]
   rw[ee];refine fy ⟨hk.1,hk.2 F _ x.aA o (ho.up (eW.b2 _ _)) (by omega)⟩ ?_;rintro r H ⟨ro,_,rx⟩;have B:=(rx.tr (eW.b1 (some (.aA 1 [[.aA .i64 n]] false)))).aA (iF _ _ _);have hl:=rx.1;simp only[nD]at hl;have l1:h.length+1<H.length+1:=by omega
   have l2:h.length+1<H.length:=by omega
   simp only[go_sem,B,ro.aA,gz ro.aA,l1];refine⟨_,rfl,n_ ?_ (eY.aD 1) ?_,?_⟩;·simp only[nD]at ro;exact jH (PS ro _) (by omega) _ (by omega)
   ·simp only[fN,Vv,VO,eY];refine .inr (.inr ⟨H.length,0,some 1,[[.aA .i64 n]],false,rfl,by omega,?_,by simp,(λc hc=>by cases hc;simp),by simp[fG,fI,eY]⟩);rw[UZ (by omega)];exact gJ _ _
   ·exact (((eW.b2 _ _).tr rx).tr (eW.b1 _)).aG (by omega) _
 ·have nz:(!decide (x.aL n=0))=true:=by simp[c0]
  simp only[go_sem,nz];have ee:x.aM n=(.no,x.aL n):=by simp[fq.aM,c0]
  rw[ee];exact⟨_,rfl,vw,eW.b2 _ _⟩
theorem qy:∀{l:List Int}{p:Option Int},ku p l=true->jC l/\(∀y,p=some y->∀m∈l,y<m)/\∀m∈l,1<=m/\m<=7
 | [],_,_=>⟨List.Pairwise.nil,by simp,by simp⟩
 | x :: r,p,h=>by
  simp only[ku,Vq,Xg,Wj,V7]at h;obtain⟨⟨⟨h1,h2⟩,h3⟩,h4⟩:=h;obtain⟨g1,g2,g3⟩:=qy h4;refine⟨Wx.2 ⟨g2 x rfl,g1⟩,λy hy m hm=>?_,λm hm=>?_⟩
  ·subst hy;simp only[V7]at h3;rcases VP.1 hm with rfl | hm;·omega
   ·have:=g2 x rfl m hm;omega
  ·rcases VP.1 hm with rfl | hm;·omega
   ·exact g3 m hm
theorem Df {x:fq}(h:x.aE=true):x.aA.length≠0/\jC x.aA/\jC x.aC/\jC x.aD/\(∀m∈x.aA,1<=m/\m<=7)/\(∀m∈x.aC,1<=m/\m<=7)/\(∀m∈x.aD,1<=m/\m<=7)/\(∀m∈x.aD,m∉x.aA/\m∉x.aC):=by
 simp only[fq.aU,Xg,Wj,V7,Bool.not_eq_false']at h;obtain⟨⟨⟨⟨h0,h1⟩,h2⟩,h3⟩,h4⟩:=h;refine⟨h0,(qy h1).1,(qy h2).1,(qy h3).1,(qy h1).2.2,(qy h2).2.2,(qy h3).2.2,λm hm=>?_⟩;have:x.aO m=false:=by
  cases hv:x.aO m;·rfl
  ·have:x.aD.any x.aO=true:=Xc.2 ⟨m,hm,hv⟩;rw[h4]at this;cases this
 simp only[fq.aO,Wj,V7]at this;exact this
theorem F6 {n:Int}:∀{l:List Int}{i:Nat},jC l->l[i]?=some n->l.take i++l.drop (i+1)=l.filter λm=>!decide (m=n)
 | [],i,_,h=>by simp at h
 | x :: r,0,hr,h=>by simp at h;subst h;have e:=Wx.1 hr;simp only[List.take_zero,Wd,List.drop_succ_cons,V9,Xl,decide_true,VF,Vn,VI];rw[List.filter_eq_self.2];intro m hm;have:=e.1 m hm;simp;omega
 | x :: r,i+1,hr,h=>by
  have e:=Wx.1 hr;simp at h;have hm:n∈r:=WN h;have hlt:=e.1 n hm;have u:¬x=n:=by omega
  simp only[WU,List.drop_succ_cons,WM,Xl,U2 u,VN,VS];rw[F6 e.2 h]
theorem CB {x:fq}{n:Int}(h:x.aL n=0):x.aE=true/\1<=n/\n<=7/\x.aC=[]/\x.aD=[]:=by
 simp only[fq.aL]at h;split at h;·cases h
 ·rename_i h1;split at h;·cases h
  ·rename_i h2;split at h;·cases h
   ·rename_i h3;simp only[fq.aN,VD]at h3;refine⟨by simpa using h1,by omega,by omega,U7 (by omega),U7 (by omega)⟩
theorem LW {P:Program}{f m s k d:FuncId}(hf:Is P f (zH m s k d))(hm:wh P m)(hs:yJ P s)(hk:o8 P k)(hd:DV P d):sJ P f fq.aI:=by
 refine⟨hf.2,λF h x a n ha hx=>fS hf ?_⟩;have U:=ha;obtain⟨o,u,e,rfl,ho,hn,he⟩:=kI ha;obtain⟨h1,h2,h3⟩:=id hx;simp only[zH,go_sem,ho.aA,hn.aA,he.aA];refine fZ hm.1 (hm.2 F _ x _ n (U.up (eW.b2 _ _)) hx) ?_;by_cases c0:x.aL n=0;rotate_left
 ·have nz:(!decide (x.aL n=0))=true:=by simp[c0]
  simp only[go_sem,nz];have ee:x.aI n=(.no,x.aL n):=by simp[fq.aI,c0]
  rw[ee];exact⟨_,rfl,vw,eW.b2 _ _⟩
 simp only[go_sem,c0];refine fZ hs.1 (hs.2 F _ x.aA o n (ho.up (eW.b2 _ _)) (by omega)) ?_;rcases MF n x.aA 0 with⟨C,O⟩ | ⟨i,hi,C,M⟩
 ·simp only[go_sem,C,show decide ((-1:Int)<0)=true from rfl];have ee:x.aI n=(.no,6):=by simp[fq.aI,c0,O]
  rw[ee];exact⟨_,rfl,vw,eW.b2 _ _⟩
 simp only[WR]at C;have I:n∈x.aA:=WN M;have cn:¬(i:Int)<0:=by omega
 have e1:IntKind.i64.wrap (↑i+1)=(i:Int)+1:=gj (by omega);have lo:=ho.aF;simp only[go_sem,C,U2 cn,lo];by_cases c1:(x.aA.length:Int)=1
 ·simp only[go_sem,U3 c1];have E:x.aA.length=1:=by omega
  have ee:x.aI n=(.no,29):=by simp[fq.aI,c0,I,E]
  rw[ee];exact⟨_,rfl,vw,eW.b2 _ _⟩
 simp only[go_sem,U2 c1,e1];have E:¬x.aA.length=1:=by omega
 have ee:x.aI n=(⟨x.aA,x.aA.filter (λm=>!decide (m=n)),[]⟩,0):=by simp[fq.aI,c0,I,E]
 rw[ee];refine fy ⟨hk.1,hk.2 F _ x.aA o (ho.up (eW.b2 _ _)) (by omega)⟩ ?_;rintro r H ⟨ro,_,rx⟩;have A:=rx.aA (jx _ _ _);have B:=rx.aA (iF _ _ _);simp only[go_sem,A];refine fy ⟨hk.1,hk.2 F _ x.aA o ((ho.up (eW.b2 _ _)).up rx) (by omega)⟩ ?_;rintro q H2 ⟨qo,_,qx⟩;simp only[go_sem,qx.aA A];refine fy ⟨hd.1,hd.2 _ _ x.aA q i qo (by omega) hi⟩ ?_;rintro v H3 ⟨vo,vx⟩;rw[F6 (Df (CB c0).1).2.1 M]at vo;have X3:=qx.aJ vx (λm hm hm'=>by omega);have B3:=X3.aA B;have hl:=rx.1;have hl2:=qx.1;have hl3:=vx.1;simp only[nD]at hl;have l2:h.length+1<H3.length:=by omega
 simp only[go_sem,X3.aA A,B3,ro.aA,gz ro.aA,vo.aA,gz vo.aA,l2];refine⟨_,rfl,n_ ?_ ?_ (eY.aD 1),?_⟩;·simp only[nD]at ro;exact jH (eY.aC (F':=λm=>h.length+1+1<=m) _ (λm hm=>hm.1) (X3.aE _) _ (eY.lt _ _ ro)) (by omega) _ (by omega)
 ·exact jH vo (by omega) _ (by omega)
 ·exact ((eW.b2 _ _).tr rx).tr X3 |>.aG (by omega) _
end Glb
