/-
  A library of its own.
-/
import Derived.Test.YtdeiamnhnfmilaaGreatGlbKitA
set_option linter.unusedSimpArgs false
set_option linter.unusedVariables false
set_option maxRecDepth 10000
namespace Glb
open Go
def jH (l:fu):Prop:=0<=l.aA/\l.aA<=2^41/\me l.es
def fu.aC (l:fu):Int:=l.aA+l.es.length
def fu.aL (l:fu):Int:=match l.es[l.es.length-1]? with
 | some e=>e.aA
 | none=>l.aD
def fu.aF (l:fu)(i:Int):Bool:=decide (l.aA<=i) && decide (i<=l.aC)
def fu.aJ (l:fu)(i:Int):Int:=if l.aF i then (if i=l.aA then l.aD else match l.es[(i-l.aA-1).toNat]? with
 | some e=>e.aA
 | none=>0) else 0
def o9 (P:Program)(f:FuncId):Prop:=
 fP P f=true/\∀(F:Nat->Prop)(h:eW)(l:fu)(a:List AV),fm F h l.c a->jH l->
  fC P f [.aF a] h λr h'=>r=.aI [.aA .i64 l.aC,.aA .i64 l.aL]/\h'=h
theorem Q9 {P:Program}{f:FuncId}(hf:Is P f Bn):o9 P f:=by
 refine⟨hf.2,λF h l a hl ok=>jN (HO (xP _ _ _) (xP _ _ _)) (fU hf ?_)⟩;simp only[fu.c,fm,Rd]at hl;obtain⟨_,_,rfl,rfl,_,_,rfl,rfl,d,_,rfl,hl,rfl⟩:=hl;have ll:=hl.aC;simp only[UI]at ll;obtain⟨o1,o2,o3,o4⟩:=ok;simp only[Bn,go_sem,hl.aA,ll];refine iw (λc=>?_) (λc=>?_)
 ·simp at c;have e1:IntKind.i64.wrap (l.aA+↑l.es.length)=l.aA+↑l.es.length:=gi (by omega);have e2:IntKind.i64.wrap ((l.es.length:Int)-1)=(l.es.length:Int)-1:=gi (by omega);have hlt:l.es.length-1<l.es.length:=by first | omega | (have:=List.length_pos_iff.2 c;omega)
  have ht:((l.es.length:Int)-1).toNat=l.es.length-1:=by omega
  obtain⟨p,cs,hp,u,E⟩:=hl.aE .i64 (i:=(l.es.length:Int)-1) (d:=(l.es[l.es.length-1]).c) (by omega) (by rw[ht];simp[hlt]);simp only[fT.c,fm,Rd]at E;obtain⟨_,_,rfl,rfl,_,_,rfl,rfl,d',_,rfl,_,rfl⟩:=E;have e:=rP u (eV.b1 (some (.aA 3 [[.aA .i64 l.aA,.aA .i64 l.aD,d]] false)));simp only[go_sem,e1,e2,hp,py u,pB e];refine⟨?_,eV.b1 _⟩;simp[fu.aC,fu.aL,hlt]
 ·simp at c;simp only[go_sem];refine⟨?_,eV.b1 _⟩;simp[fu.aC,fu.aL,c]
def nU (P:Program)(f:FuncId):Prop:=
 fP P f=true/\∀(F:Nat->Prop)(h:eW)(l:fu)(a:List AV)(i:Int),fm F h l.c a->jH l->
  fC P f [.aF a,.aA .i64 i] h λr h'=>r=.aI [.aA .i64 (l.aJ i),.aE (l.aF i)]/\h'=h
theorem Rc {P:Program}{f g:FuncId}(hf:Is P f (Bq g))(hg:o9 P g):nU P f:=by
 refine⟨hf.2,λF h l a i hl ok=>jN (HO (xP _ _ _) (rX _ _)) (fU hf ?_)⟩;have M:=hl;simp only[fu.c,fm,Rd]at hl;obtain⟨_,_,rfl,rfl,_,_,rfl,rfl,d,_,rfl,hl,rfl⟩:=hl;have I:=ok;obtain⟨o1,o2,o3,o4⟩:=ok;simp only[Bq,go_sem,hl.aA];refine fA ⟨hg.1,hg.2 F _ l _ (M.up (eV.b1 _)) I⟩ ?_;rintro _ _ ⟨rfl,rfl⟩;have hlast:l.aC=l.aA+l.es.length:=rfl;by_cases h1:i<l.aA
 ·have c1:decide (i<l.aA)=true:=Uu h1;have hh:l.aF i=false:=by simp[fu.aF];omega
  simp only[go_sem,c1,fu.aJ,hh];exact eV.b1 _
 have c1:decide (i<l.aA)=false:=Us h1;by_cases h2:l.aC<i
 ·have c2:decide (l.aC<i)=true:=Uu h2;have hh:l.aF i=false:=by simp[fu.aF];omega
  simp only[go_sem,c1,c2,fu.aJ,hh];exact eV.b1 _
 have c2:decide (l.aC<i)=false:=Us h2;have hh:l.aF i=true:=by simp[fu.aF];omega
 by_cases h3:i=l.aA
 ·have c3:decide (i=l.aA)=true:=Uu h3;simp only[go_sem,c1,c2,c3,fu.aJ,hh];refine⟨?_,eV.b1 _⟩;rw[Uv h3]
 have c3:decide (i=l.aA)=false:=Us h3;have hlt:(i-l.aA-1).toNat<l.es.length:=by omega
 have e1:IntKind.i64.wrap (i-l.aA)=i-l.aA:=gi (by omega);have e2:IntKind.i64.wrap (i-l.aA-1)=i-l.aA-1:=gi (by omega);obtain⟨p,cs,hp,u,E⟩:=hl.aE .i64 (i:=i-l.aA-1) (d:=(l.es[(i-l.aA-1).toNat]).c) (by omega) (by rw[U_,Ur hlt];rfl);simp only[fT.c,fm,Rd]at E;obtain⟨_,_,rfl,rfl,_,_,rfl,rfl,d',_,rfl,_,rfl⟩:=E;have e:=rP u (eV.b1 (some (.aA 3 [[.aA .i64 l.aA,.aA .i64 l.aD,d]] false)));simp only[go_sem,c1,c2,c3,e1,e2,hp,py u,pB e,fu.aJ,hh];refine⟨?_,eV.b1 _⟩;rw[Uw h3,Ur hlt]
def fu.aN (l:fu)(index term:Int):Bool:=decide (l.aL<term) || (decide (term=l.aL) && decide (l.aC<=index))
def yE (P:Program)(f:FuncId):Prop:=
 fP P f=true/\∀(F:Nat->Prop)(h:eW)(l:fu)(a:List AV)(i t:Int),fm F h l.c a->jH l->
  fC P f [.aF a,.aA .i64 i,.aA .i64 t] h λr h'=>r=.aE (l.aN i t)/\h'=h
theorem Q_ {P : Program} {f g : FuncId} (hf : Is P f (Bo g)) (hg : o9 P g) : yE P f := by
 refine ⟨hf.2, λF h l a i t hl ok => jN (rX _ _) (fU hf ?_)⟩;have e := hl;simp only [fu.c, fm, Rd] at hl;obtain ⟨_, _, rfl, rfl, _, _, rfl, rfl, d, _, rfl, hl, rfl⟩ := hl;simp only [Bo, go_sem, hl.aA];refine fA ⟨hg.1, hg.2 F _ l _ (e.up (eV.b1 _)) ok⟩ ?_;rintro _ _ ⟨rfl, rfl⟩;simp only [go_sem];repeat' (first
  | refine tY (λ_ => ?_) (λ_ => ?_)
  | refine HW (λ_ => ?_) (λ_ => ?_)
  | refine iw (λ_ => ?_) (λ_ => ?_)
  | simp only [go_sem, *])
 all_goals refine ⟨?_, eV.b1 _⟩
 all_goals simp_all [fu.aN]
theorem xH {P:Program}{f:FuncId}(hf:Is P f Br):qN P f:=by
 refine⟨hf.2,λF h x a hx hl=>fU hf ?_⟩;have lx:=hx.aC;simp only[UI]at lx;have hl1:=hl.1;simp only[Br,go_sem,lx];refine iM (λm L h'=>∃(i:Nat)(o:AV),lk 6 L=a/\lk 7 L=.aA .i64 x.length/\lk 3 L=o/\lk 8 L=.aA .i64 i/\i<=x.length/\m=x.length-i /\
  eX (gN (x.take i)) (λm=>h.length<=m) h' o/\gP h' o/\eV eY h h') x.length ?_ ?_
 ·exact⟨0,_,by simp[fj],by simp[fj],by simp[fj],by simp[fj],by omega,by omega,eX.aD 3,UF,eV.aC _ _⟩
 ·rintro m L h' ⟨i,o,h6,h7,h3,h8,hi,rfl,ho,hc,he⟩;simp only[EV,go_sem,h7,h8];refine iw (λci=>?_) (λci=>?_)
  ·simp at ci;obtain⟨p,cs,hp,a1,M⟩:=(hx.up he).aE .i64 (i:=i) (d:=x[i].c) (by omega) (by simp[ci]);simp only[fT.c,fm,Rd]at M;obtain⟨_,_,rfl,rfl,_,_,rfl,rfl,d,_,rfl,hd,rfl⟩:=M;have I:Rd F h' (gj x[i].aC) d:=hd;have e:IntKind.i64.wrap (↑i+1)=(i:Int)+1:=gi (by omega);generalize hA:(some (.aA 3 [[.aA .i64 x[i].aA,.aA .i64 x[i].aD,d]] false):Option e_)=A;obtain⟨ys,U,W⟩:=(I.up (eV.b2 A (some (.aA 1 [] false)))).aH;obtain⟨r,h2,ha,hr,_,E⟩:=m7 (lo:=h'.length+1) (sz:=1) (bytes:=1) (ds:=[]) (h0:=h'++[A]++[some (.aA 1 [] false)]) (h:=h'++[A]++[some (.aA 1 [] false)]) (av:=.aG (h'.length+1) 1 0 0 (some 0))
    (by simp only[eX];exact .inr (.inr ⟨h'.length+1,0,some 0,[],false,rfl,Uy _,iO _ _ _,by simp,(λc hc=>by cases hc;simp),by simp[fG]⟩))
    ⟨[],false,iO _ _ _,(λhc=>by cases hc),(λc hc=>by cases hc;simp)⟩ (eV.aC _ _) (O6 W) (by simp) (by have:=hl.2 x[i] (by simp);simp;omega)
   have a7:oG (h'++[A]++[some (.aA 1 [] false)]) 1 1 (.aG (h'.length+1) 1 0 0 (some 0)) d=some (r,h2):=by rw[iq U];exact ha
   have O:h2[h'.length]?=some A:=by rw[E.2 h'.length (by simp) (by simp)];exact jJ _ _ _
   have l2:=(Up.1 O).1;subst hA;simp only[go_sem,h6,h3,h8,hp,ju a1,I.aA,a7,O,hr.aA,gC hr.aA,l2];have eB:eV eY h' (h2.set h'.length (some (.aA 3 [[.aA .i64 x[i].aA,.aA .i64 x[i].aD,r]] false))):=
    ((eV.b2 _ _).aJ E (λm hm a3=>by omega)).aH (Uy _) _
   have Z:eX (gj x[i].aC) (λm=>h'.length+1<=m) (h2.set h'.length (some (.aA 3 [[.aA .i64 x[i].aA,.aA .i64 x[i].aD,r]] false))) r:=
    eX.aC _ (λm hm=>hm) (λm hm y hy=>by rw[Uq (by omega)];exact hy) _ (by simpa [gj] using hr)
   generalize hB:h2.set h'.length (some (.aA 3 [[.aA .i64 x[i].aA,.aA .i64 x[i].aD,r]] false))=B at *;obtain⟨o',h3',a6,a2,a5,a4⟩:=m7 (bytes:=40) (es:=[x[i].c]) (h:=B++[some (.aA 3 [[.aA .i64 x[i].aA,.aA .i64 x[i].aD,r]] false)]) ho hc
    (eB.aM _) (ys:=[[.aA .i64 x[i].aA,.aA .i64 x[i].aD,r]])
    (by simp only[fG,fI,fT.c,eX];refine⟨_,_,rfl,⟨_,_,rfl,rfl,_,_,rfl,rfl,r,_,rfl,?_,rfl⟩,rfl⟩;exact eX.aC _ (λm hm=>by omega) (λm hm y hy=>(eV.b1 _).aA hy) _ Z) he.1 (by simp;omega)
   have u:=iq (lR B 3 [[.aA .i64 x[i].aA,.aA .i64 x[i].aD,r]] false (some 1) (len:=1) rfl) 40 o;rw[a6]at u;simp only[go_sem,h6,h7,h3,h8,e,u];refine⟨_,?_,i+1,o',rfl,by simp,ci,rfl,?_,a5,?_⟩;·omega
   ·have:x.take (i+1)=x.take i++[x[i]]:=by simp[ci]
    rw[this,gN,Ve];exact a2
   ·exact (he.tr (eB.aM _)).aJ a4 (λm hm a3=>by omega)
  ·simp at ci;simp only[go_sem,h3];obtain rfl:i=x.length:=by omega
   rw[U7]at ho;exact⟨ho,hc,he⟩
def fu.aI (l:fu)(from_ most:Int):List fT:=
 if from_<=l.aA\/l.aC<from_\/most<1 then [] else (l.es.drop (from_-l.aA-1).toNat).take most.toNat
def nT (P:Program)(f:FuncId):Prop:=
 fP P f=true/\∀(F:Nat->Prop)(h:eW)(l:fu)(a:List AV)(i n:Int),fm F h l.c a->jH l->
  fC P f [.aF a,.aA .i64 i,.aA .i64 n] h λr h'=>eX (gN (l.aI i n)) (λm=>h.length<=m) h' r/\gP h' r/\eV eY h h'
theorem me.aA {l l':List fT}(hl:me l)(hn:l'.length<=l.length)(hs:∀e∈l',e∈l):me l':=⟨UH hn hl.1,λe he=>hl.2 e (hs e he)⟩
theorem Rb {P:Program}{f g k:FuncId}(hf:Is P f (Bp g k))(hg:o9 P g)(hk:qN P k):nT P f:=by
 refine⟨hf.2,λF h l a i n hl ok=>fU hf ?_⟩;have U:=hl;simp only[fu.c,fm,Rd]at hl;obtain⟨_,_,rfl,rfl,_,_,rfl,rfl,d,_,rfl,hl,rfl⟩:=hl;have I:=ok;obtain⟨o1,o2,o3⟩:=ok;have o4:=o3.1;simp only[Bp,go_sem,hl.aA];refine fA ⟨hg.1,hg.2 F _ l _ (U.up (eV.b1 _)) I⟩ ?_;rintro _ _ ⟨rfl,rfl⟩;have hlast:l.aC=l.aA+l.es.length:=rfl;by_cases h1:i<=l.aA;·have c1:decide (i<=l.aA)=true:=Uu h1;simp only[go_sem,fu.aI,h1];exact⟨eX.aD 3,UF,eV.b1 _⟩
 have c1:decide (i<=l.aA)=false:=Us h1;by_cases h2:l.aC<i;·have c2:decide (l.aC<i)=true:=Uu h2;simp only[go_sem,c1,fu.aI,h2];exact⟨eX.aD 3,UF,eV.b1 _⟩
 have c2:decide (l.aC<i)=false:=Us h2;by_cases h3:n<1;·have c3:decide (n<1)=true:=Uu h3;simp only[go_sem,c1,c2,fu.aI,h3];exact⟨eX.aD 3,UF,eV.b1 _⟩
 have c3:decide (n<1)=false:=Us h3;have e1:IntKind.i64.wrap (i-l.aA)=i-l.aA:=gi (by omega);have e2:IntKind.i64.wrap (i-l.aA-1)=i-l.aA-1:=gi (by omega);obtain⟨q,hq,E⟩:=hl.aJ (lo:=some (i-l.aA-1)) (hi:=none) (mx:=none) (by simp;omega) (by simp;omega) (by simp) (by simp) (by simp) (by simp);simp only[U6,Vv,Vt,U7]at E;have lq:=E.aC;simp only[UP,UI]at lq;obtain⟨q2,O,u⟩:=E.aJ (lo:=none) (hi:=some (min n (↑(l.es.length-(i-l.aA-1).toNat):Int))) (mx:=none) (by simp) (by simp;omega) (by simp;omega) (by simp) (by simp;omega) (by simp);simp only[U6,Vv,Int.toNat_zero,Vy]at u;simp only[go_sem,c1,c2,c3,e1,e2,Hj,hq,lq,rU,tK,O];have hs:l.aI i n=(l.es.drop (i-l.aA-1).toNat).take (min n ↑(l.es.length-(i-l.aA-1).toNat)).toNat:=by simp only[fu.aI];rw[Uw (by omega),List.take_eq_take_iff];simp only[UP];omega
 have M:Rd F h (gN (l.aI i n)) q2:=by rw[hs,gN,V6,Wy];exact u
 refine fA ⟨hk.1,hk.2 F _ (l.aI i n) q2 (M.up (eV.b1 _)) (o3.aA (by rw[hs];simp;omega) (λe he=>by rw[hs]at he;exact UX (U9 he)))⟩ ?_;rintro r h' ⟨hr,hc,he⟩;simp only[go_sem];exact⟨eX.aC _ (λm hm=>by simp at hm;omega) (λ_ _ _ x=>x) _ hr,hc,(eV.b1 _).tr he⟩
def fu.aG (l:fu):Int->List fT->Nat
 | _,[]=>0
 | at_,e :: r=>if (l.aF at_ && decide (l.aJ at_=e.aA))=true then l.aG (at_+1) r+1 else 0
theorem wB (l : fu) : ∀ (e : List fT) (i : Int), l.aG i e <= e.length := by
  intro e;induction e with
  | nil => intro i; simp [fu.aG]
  | cons x r ih => intro i; simp only [fu.aG]; split
                   · have := ih (i + 1); simp; omega
                   · simp
theorem D9 (l:fu):∀(e:List fT)(i:Int)(k:Nat),k<=e.length->(∀(j:Nat)(hj:j<e.length),j<k->(l.aF (i+j) && decide (l.aJ (i+j)=e[j].aA))=true)->
  (∀hk:k<e.length,(l.aF (i+k) && decide (l.aJ (i+k)=e[k].aA))=false)->l.aG i e=k:=by
 intro e;induction e with
 | nil=>intro i k hk _ _;simp at hk;subst hk;rfl
 | cons x r ih=>
  intro i k hk h1 h2;cases k with
  | zero=>have:=h2 (by simp);simp only[fu.aG];simp at this ⊢;exact this
  | succ k=>
   have h0:=h1 0 (by simp) (by omega);simp only[fu.aG];simp only[Wz,Int.add_zero,VV]at h0;rw[Uv h0,ih (i+1) k (by simpa using hk)];·intro j hj hj';have:=h1 (j+1) (by simpa using hj) (by omega);simp only[List.getElem_cons_succ]at this;rw[show i+1+(j:Int)=i+((j+1:Nat):Int) by omega];exact this
   ·intro u;have:=h2 (by simpa using u);simp only[List.getElem_cons_succ]at this;rw[show i+1+(k:Int)=i+((k+1:Nat):Int) by omega];exact this
def fu.aE (l:fu)(prev:Int)(e:List fT):fu:=
 if l.aF prev=true/\l.aG (prev+1) e<e.length then ⟨l.aA,l.aD,l.es.take (prev+l.aG (prev+1) e-l.aA).toNat++e.drop (l.aG (prev+1) e)⟩ else l
def fu.aH (l:fu)(prev:Int)(e:List fT):Int:=
 if l.aF prev=true/\l.aG (prev+1) e<e.length then prev+1+l.aG (prev+1) e else 0
def vL (P:Program)(f:FuncId):Prop:=
 fP P f=true/\∀(F:Nat->Prop)(h:eW)(l:fu)(a:List AV)(prev:Int)(e:List fT)(b:AV),fm F h l.c a->Rd F h (gN e) b->jH l->me e->
  fC P f [.aF a,.aA .i64 prev,b] h λr h'=>∃cs,r=.aI [.aF cs,.aA .i64 (l.aH prev e)]/\fI (l.aE prev e).c (λm=>h.length<=m) h' cs/\eV eY h h'
theorem Q8 {P:Program}{f g k t:FuncId}(hf:Is P f (Bl g k t))(hg:o9 P g)(hk:qN P k)(ht:nU P t):vL P f:=by
 refine⟨hf.2,λF h l a prev e b hl hb ok a8=>fU hf ?_⟩;have aq:=hl;simp only[fu.c,fm,Rd]at hl;obtain⟨_,_,rfl,rfl,_,_,rfl,rfl,d,_,rfl,hl,rfl⟩:=hl;have a9:=ok;obtain⟨o1,o2,o3⟩:=ok;have o4:=o3.1;have lb:=hb.aC;simp only[UI]at lb;have hlast:l.aC=l.aA+l.es.length:=rfl;simp only[Bl,go_sem,hl.aA];refine fA ⟨hg.1,hg.2 F _ l _ (aq.up (eV.b2 _ _)) a9⟩ ?_;rintro _ _ ⟨rfl,rfl⟩;simp only[go_sem];refine fA ⟨hk.1,hk.2 F _ l.es d (hl.up (eV.b2 _ _)) o3⟩ ?_;rintro r h2 ⟨hr,al,he⟩;have hA:=he.aA (jJ _ _ _);have hB:=he.aA (iO _ _ _);have l1:=(Up.1 hA).1;have l2:=(Up.1 hB).1;simp only[go_sem,hA,hr.aA,gC hr.aA,l1];have M:eV eY h (h2.set h.length (some (.aA 3 [[.aA .i64 l.aA,.aA .i64 l.aD,r]] false))):=((eV.b2 _ _).tr he).aH (Uy _) _;have u:eX (gN l.es) (λm=>h.length+2<=m) (h2.set h.length (some (.aA 3 [[.aA .i64 l.aA,.aA .i64 l.aD,r]] false))) r:=
  eX.aC _ (λm hm=>by simp at hm;omega) (λm hm y hy=>by simp at hm;rw[Uq (by omega)];exact hy) _ hr
 have hc3:gP (h2.set h.length (some (.aA 3 [[.aA .i64 l.aA,.aA .i64 l.aD,r]] false))) r:=
  al.aA hr (λm hm y hy=>by simp at hm;rw[Uq (by omega)];exact hy)
 have I:(h2.set h.length (some (.aA 3 [[.aA .i64 l.aA,.aA .i64 l.aD,r]] false)))[h.length]?=some (some (.aA 3 [[.aA .i64 l.aA,.aA .i64 l.aD,r]] false)):=Ux l1;have U:(h2.set h.length (some (.aA 3 [[.aA .i64 l.aA,.aA .i64 l.aD,r]] false)))[h.length+1]?=some (some (.aA 3 [[.aA .i64 0,.aA .i64 0,.aD]] false)):=by rw[Uq (by omega)];exact hB
 generalize h2.set h.length (some (.aA 3 [[.aA .i64 l.aA,.aA .i64 l.aD,r]] false))=h3 at *;have l13:=(Up.1 I).1;have a2:=(Up.1 U).1;have ak:fm (λm=>h.length+2<=m) h3 l.c [.aA .i64 l.aA,.aA .i64 l.aD,r]:=by simp only[fu.c,fm,Rd];exact⟨_,_,rfl,rfl,_,_,rfl,rfl,_,_,rfl,eX.rd _ (λ_ x=>x) _ u,rfl⟩
 have stay:l.aE prev e=l->eX (gN l.es) (λm=>h.length+2<=m) h3 r->fI (l.aE prev e).c (λm=>h.length<=m) (h3.set (h.length+1) (some (.aA 3 [[.aA .i64 l.aA,.aA .i64 l.aD,r]] false))) [.aA .i64 l.aA,.aA .i64 l.aD,r]:=by intro e1 e2;rw[e1];simp only[fu.c,fI,eX];exact⟨_,_,rfl,rfl,_,_,rfl,rfl,_,_,rfl,eX.aC _ (λm hm=>by omega) (λm hm y hy=>by rw[Uq (by omega)];exact hy) _ e2,rfl⟩
 by_cases h1:prev<l.aA
 ·have hh:l.aF prev=false:=by simp[fu.aF];omega
  simp only[go_sem,Uu h1,I,U,u.aA,a2];have e1:l.aE prev e=l:=by simp[fu.aE,hh]
  have e2:l.aH prev e=0:=by simp[fu.aH,hh]
  rw[e2];exact⟨_,rfl,stay e1 u,M.aH (by omega) _⟩
 by_cases h2:l.aC<prev
 ·have hh:l.aF prev=false:=by simp[fu.aF];omega
  simp only[go_sem,Us h1,Uu h2,I,U,u.aA,a2];have e1:l.aE prev e=l:=by simp[fu.aE,hh]
  have e2:l.aH prev e=0:=by simp[fu.aH,hh]
  rw[e2];exact⟨_,rfl,stay e1 u,M.aH (by omega) _⟩
 have hh:l.aF prev=true:=by simp[fu.aF];omega
 have oe:=a8.1;simp only[go_sem,Us h1,Us h2,lb];refine iM (λm L h'=>∃i:Nat,lk 1 L=.aA .i64 prev/\lk 2 L=b/\lk 3 L=.aC h.length 3 0 0/\lk 6 L=.aC (h.length+1) 3 0 0/\lk 35 L=.aA .i64 e.length/\lk 36 L=.aA .i64 i/\h'=h3/\i<=e.length/\m=e.length-i /\
  ∀(j:Nat)(hj:j<e.length),j<i->(l.aF (prev+1+j) && decide (l.aJ (prev+1+j)=e[j].aA))=true) e.length ?_ ?_
 ·exact⟨0,by simp[fj,h_],by simp[fj,h_],by simp[fj],by simp[fj],by simp[fj],by simp[fj],rfl,by omega,by omega,by omega⟩
 ·rintro m L h' ⟨i,k1,k2,k3,k6,aa,a3,rfl,hi,rfl,hj⟩;have ac:Rd F h' (gN e) b:=hb.up M;simp only[EU,go_sem,aa,a3];by_cases hc:i<e.length
  ·have c1:decide ((i:Int)<e.length)=true:=Uu (by omega);have e1:IntKind.i64.wrap (prev+1)=prev+1:=gi (by omega);have e2:IntKind.i64.wrap (prev+1+↑i)=prev+1+↑i:=gi (by omega);have e3:IntKind.i64.wrap (↑i+1)=(i:Int)+1:=gi (by omega);simp only[go_sem,k1,k3,a3,c1,e1,e2,I];refine fA ⟨ht.1,ht.2 _ _ l _ (prev+1+↑i) ak a9⟩ ?_;rintro _ _ ⟨rfl,rfl⟩;obtain⟨p,cs,hp,W,ab⟩:=ac.aE .i64 (i:=(i:Int)) (d:=(e[i]).c) (by omega) (by rw[Vt,U_,Ur hc];rfl);simp only[fT.c,fm,Rd]at ab;obtain⟨_,_,rfl,rfl,_,_,rfl,rfl,d',_,rfl,_,rfl⟩:=ab;by_cases hm:(l.aF (prev+1+i) && decide (l.aJ (prev+1+i)=e[i].aA))=true
   ·have Z:=hm;rw[US]at Z;simp only[go_sem,k1,k2,k3,k6,aa,a3,Z.1,Z.2,hp,py W,pB W,e3];refine⟨_,?_,i+1,by simp,hc,rfl,λj ar hj2=>?_⟩;·omega
    ·rcases VX j i with hlt | hge;·exact hj j ar hlt
     ·obtain rfl:j=i:=by omega
      exact hm
   ·have a6:l.aG (prev+1) e=i:=D9 l e (prev+1) i hi hj (λ_=>by simpa using hm);have hpi:prev+i<=l.aC:=by
     rcases Nat.eq_zero_or_pos i with h0 | h0;·omega
     ·have:=hj (i-1) (by omega) (by omega);simp only[fu.aF,US,Vb]at this;omega
    have e4:IntKind.i64.wrap (prev+1+↑i-l.aA)=prev+1+↑i-l.aA:=gi (by omega);have e5:IntKind.i64.wrap (prev+1+↑i-l.aA-1)=prev+1+↑i-l.aA-1:=gi (by omega);obtain⟨q,hq,an,ao⟩:=tM u (k:=prev+1+↑i-l.aA-1) (by omega) (by simp;omega);obtain⟨q2,ap,E⟩:=ac.aJ (lo:=some (i:Int)) (hi:=none) (mx:=none) (by simp) (by simp;omega) (by simp) (by simp) (by simp) (by simp);simp only[U6,Vv,Vt,U7]at E;rw[<-Wy]at E;have hx:l.aF (prev+1+↑i)=false\/(l.aF (prev+1+↑i)=true/\decide (l.aJ (prev+1+↑i)=e[i].aA)=false):=by
     cases au:l.aF (prev+1+↑i);·exact .inl rfl
     ·rw[au,WO]at hm;exact .inr ⟨rfl,by simpa using hm⟩
    rcases hx with hx | hx;all_goals
     simp only[go_sem,k2,k3,hx,hp,py W,pB W,I,e4,e5,hq,ap];refine fA ⟨hk.1,hk.2 F _ (e.drop i) q2 E (a8.aA (by simp) (λx hx=>UX hx))⟩ ?_;rintro r2 h4 ⟨am,_,a1⟩;obtain⟨ys,ai,aj⟩:=am.aE;obtain⟨r5,h5,aw,a4,_,a5⟩:=m7 (bytes:=40) an ao a1 aj (by omega) (by simp;omega);have O:=iq ai 40 q;rw[aw]at O;have a7:=a1.aA I;have af:h5[h.length]?=some (some (.aA 3 [[.aA .i64 l.aA,.aA .i64 l.aD,r]] false)):=by rw[a5.2 _ (Up.1 a7).1 (by omega)];exact a7
     have ae:=a1.aA U;have ad:h5[h.length+1]?=some (some (.aA 3 [[.aA .i64 0,.aA .i64 0,.aD]] false)):=by rw[a5.2 _ (Up.1 ae).1 (by omega)];exact ae
     have ah:=(Up.1 af).1;have ag:=(Up.1 ad).1;simp only[go_sem,k3,k6,a7,O,af,ad,a4.aA,gC a4.aA,ah,ag,UA];have el:l.aE prev e=⟨l.aA,l.aD,l.es.take (prev+1+↑i-l.aA-1).toNat++e.drop i⟩:=by simp only[fu.aE,a6];rw[Uv ⟨hh,hc⟩];congr 3;omega
     have ax:l.aH prev e=prev+1+↑i:=by simp only[fu.aH,a6];rw[Uv ⟨hh,hc⟩]
     rw[ax,el];refine⟨_,rfl,?_,?_⟩;·simp only[fu.c,fI,eX];refine⟨_,_,rfl,rfl,_,_,rfl,rfl,r5,_,rfl,?_,rfl⟩;rw[gN,Ve,V6];exact eX.aC _ (λm hm=>by omega) (λm hm y hy=>by rw[Uq (by omega),Uq (by omega)];exact hy) _ a4
     ·exact (((M.tr a1).aJ a5 (λm hm Z=>by omega)).aH (by omega) _).aH (by omega) _
  ·have c1:decide ((i:Int)<e.length)=false:=Us (by omega);simp only[go_sem,k3,k6,c1,I,U,u.aA,a2];have a6:l.aG (prev+1) e=i:=D9 l e (prev+1) i hi hj (λhk=>absurd hk hc);have e1:l.aE prev e=l:=by simp only[fu.aE];rw[Uw (by omega)]
   have e2:l.aH prev e=0:=by simp only[fu.aH];rw[Uw (by omega)]
   rw[e2];exact⟨_,rfl,stay e1 u,M.aH (by omega) _⟩
def fu.aK (l:fu)(b:Int):fu:=if l.aF b then ⟨b,l.aJ b,l.es.drop (b-l.aA).toNat⟩ else ⟨0,0,[]⟩
def ub (P:Program)(f:FuncId):Prop:=
 fP P f=true/\∀(F:Nat->Prop)(h:eW)(l:fu)(a:List AV)(i:Int),fm F h l.c a->jH l->
  fC P f [.aF a,.aA .i64 i] h λr h'=>∃cs,r=.aI [.aF cs,.aA .i64 (if l.aF i then 0 else 3)]/\fI (l.aK i).c (λm=>h.length<=m) h' cs/\eV eY h h'
theorem Ho {P:Program}{f t k:FuncId}(hf:Is P f (Bm t k))(ht:nU P t)(hk:qN P k):ub P f:=by
 refine⟨hf.2,λF h l a i hl ok=>fU hf ?_⟩;have E:=hl;simp only[fu.c,fm,Rd]at hl;obtain⟨_,_,rfl,rfl,_,_,rfl,rfl,d,_,rfl,hl,rfl⟩:=hl;have u:=ok;obtain⟨o1,o2,o3⟩:=ok;have o4:=o3.1;have hlast:l.aC=l.aA+l.es.length:=rfl;simp only[Bm,go_sem,hl.aA];refine fA ⟨ht.1,ht.2 F _ l _ i (E.up (eV.b2 _ _)) u⟩ ?_;rintro _ _ ⟨rfl,rfl⟩;cases hh:l.aF i;·simp only[go_sem];refine⟨_,rfl,?_,eV.b2 _ _⟩;simp only[fu.aK,hh,fu.c,fI,eX];exact⟨_,_,rfl,rfl,_,_,rfl,rfl,_,_,rfl,eX.aD 3,rfl⟩
 ·have hi:l.aA<=i/\i<=l.aC:=by simpa [fu.aF] using hh
  have e1:IntKind.i64.wrap (i-l.aA)=i-l.aA:=gi (by omega);obtain⟨q,hq,e⟩:=hl.aJ (lo:=some (i-l.aA)) (hi:=none) (mx:=none) (by simp;omega) (by simp;omega) (by simp) (by simp) (by simp) (by simp);simp only[U6,Vv,Vt,U7]at e;rw[<-Wy]at e;simp only[go_sem,e1,hq];refine fA ⟨hk.1,hk.2 F _ (l.es.drop (i-l.aA).toNat) q (Rd.up e (eV.b2 _ _)) (o3.aA (by simp) (λx hx=>UX hx))⟩ ?_;rintro r h2 ⟨hr,_,he⟩;have hB:=he.aA (iO _ _ _);have l2:=(Up.1 hB).1;simp only[go_sem,hB,hr.aA,gC hr.aA,l2];refine⟨_,rfl,?_,((eV.b2 _ _).tr he).aH (by omega) _⟩;simp only[fu.aK,hh,fu.c,fI,eX];refine⟨_,_,rfl,rfl,_,_,rfl,rfl,r,_,rfl,?_,rfl⟩;exact eX.aC _ (λm hm=>by simp at hm;omega) (λm hm y hy=>by simp at hm;rw[Uq (by omega)];exact hy) _ hr
end Glb
