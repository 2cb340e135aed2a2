/-
  A library of its own.
-/
import Derived.Test.YtdeiamnhnfmilaaGreatGlbKitB
set_option linter.unusedSimpArgs false
set_option linter.unusedVariables false
set_option maxRecDepth 10000
set_option maxHeartbeats 4000000
open Nat (reduceAdd reduceEqDiff)
namespace Glb
open Go
theorem Rd.aG {F:Nat->Prop}{h:eX}{l:List Int}{a:AV}(hx:Rd F h (fN l) a){i:Nat}(hi:i<l.length):
  ∃p,jg 1 a (.aA .i64 i)=some p/\ir h false 1 p=some (.aA .i64 l[i]):=by
 obtain⟨p,cs,hp,u,e⟩:=hx.aD .i64 (i:=i) (d:=[.aA .i64 l[i]]) (by omega) (by simp[hi]);simp only[fu,Rd]at e;obtain⟨_,_,rfl,rfl,rfl⟩:=e;exact⟨p,hp,by rw[jr u];exact xZ _ _ _⟩
theorem Rd.aF {F:Nat->Prop}{h:eX}{l:List Int}{a:AV}(hx:Rd F h (fN l) a):ik a=some (.aA .i64 l.length):=by simpa using hx.aC
def nW (n:Int):List Int->Nat->Int
 | [],_=>-1
 | x :: r,k=>if n=x then k else nW n r (k+1)
theorem MG (n:Int):∀(l:List Int)(k:Nat),decide (0<=nW n l k)=decide (n∈l):=by
 intro l;induction l with
 | nil=>intro k;simp[nW]
 | cons x r ih=>
  intro k;simp only[nW];split;·rename_i e;subst e;simp
  ·rename_i e;rw[ih];simp[e]
def yJ (P:Program)(f:FuncId):Prop:=
 fK P f=true/\∀(F:Nat->Prop)(h:eX)(l:List Int)(a:AV)(n:Int),Rd F h (fN l) a->l.length<=2^40->fC P f [a,.aA .i64 n] h λr h'=>r=.aA .i64 (nW n l 0)/\h'=h
theorem Ed {P:Program}{f:FuncId}(hf:Is P f BV):yJ P f:=by
 refine⟨hf.2,λF h l a n ha hl=>fS hf ?_⟩;have la:=ha.aF;simp only[BV,go_sem,la];refine iM (λm L h'=>∃i:Nat,lk 0 L=a/\lk 1 L=.aA .i64 n/\lk 7 L=.aA .i64 l.length/\lk 8 L=.aA .i64 i/\h'=h/\i<=l.length/\m=l.length-i/\nW n (l.drop i) i=nW n l 0) l.length ?_ ?_;·exact⟨0,by simp[fm,g_],by simp[fm,g_],by simp[fm],by simp[fm],rfl,by omega,by omega,rfl⟩
 ·rintro m L h' ⟨i,h0,h1,h7,h8,rfl,hi,rfl,hq⟩;simp only[FO,go_sem,h7,h8];refine ij (λci=>?_) (λci=>?_)
  ·simp at ci;obtain⟨p,hp,hv⟩:=ha.aG ci;have e:IntKind.i64.wrap (↑i+1)=(i:Int)+1:=gj (by omega);simp only[go_sem,h0,h1,h8,hp,hv];rw[Wh ci]at hq;simp only[nW]at hq;by_cases c:n=l[i];·simp only[go_sem,U3 c];rw[U4 c]at hq;rw[<-hq]
   ·simp only[go_sem,U2 c,h0,h1,h7,h8,e];rw[U6 c]at hq;exact⟨_,by omega,i+1,by simp,ci,rfl,hq⟩
  ·simp at ci;simp only[go_sem];obtain rfl:i=l.length:=by omega
   rw[Xd]at hq;rw[<-hq];rfl
def mo (P:Program)(f:FuncId):Prop:=
 fK P f=true/\∀(F:Nat->Prop)(h:eX)(l:List Int)(a:AV)(n:Int),Rd F h (fN l) a->l.length<=2^40->fC P f [a,.aA .i64 n] h λr h'=>r=.aE (decide (n∈l))/\h'=h
theorem Ja {P:Program}{f g:FuncId}(hf:Is P f (BS g))(hg:yJ P g):mo P f:=by refine⟨hf.2,λF h l a n ha hl=>fS hf ?_⟩;simp only[BS,go_sem];refine fy ⟨hg.1,hg.2 F _ l a n ha hl⟩ ?_;rintro _ _ ⟨rfl,rfl⟩;simp only[go_sem,MG]
def yA (P:Program)(f:FuncId):Prop:=
 fK P f=true/\∀(F:Nat->Prop)(h:eX)(l:List Int)(a:AV)(g:FuncId)(fs cs:List AV)(p:Int->Bool),Rd F h (fN l) a->l.length<=2^40->fK P g=true->
  (∀n,fC P g (fs++[.aA .i64 n]++cs) h λr h'=>r=.aE (p n)/\h'=h)->fC P f [a,.aK g fs cs] h λr h'=>r=.aA .i64 (l.countP p)/\h'=h
theorem FZ {P:Program}{f:FuncId}(hf:Is P f Bd):yA P f:=by
 refine⟨hf.2,λF h l a g fs cs p ha hl hi hg=>fS hf ?_⟩;have la:=ha.aF;simp only[Bd,go_sem,la];refine iM (λm L h'=>∃i c:Nat,lk 1 L=.aK g fs cs/\lk 5 L=.aA .i64 c/\lk 8 L=a/\lk 9 L=.aA .i64 l.length/\lk 10 L=.aA .i64 i/\h'=h/\i<=l.length/\c<=i/\m=l.length-i/\c+(l.drop i).countP p=l.countP p) l.length ?_ ?_;·exact⟨0,0,by simp[fm,g_],by simp[fm],by simp[fm],by simp[fm],by simp[fm],rfl,by omega,by omega,by omega,by simp⟩
 ·rintro m L h' ⟨i,c,h1,h5,h8,h9,u,rfl,hi2,hci,rfl,hq⟩;simp only[FB,go_sem,h9,u];refine ij (λci=>?_) (λci=>?_)
  ·simp at ci;obtain⟨q,hp,hv⟩:=ha.aG ci;have e:IntKind.i64.wrap (↑i+1)=(i:Int)+1:=gj (by omega);have e2:IntKind.i64.wrap (↑c+1)=((c+1:Nat):Int):=by rw[gj (by omega)];omega
   simp only[go_sem,h1,h8,u,hp,hv];rw[Wh ci,List.countP_cons]at hq;refine fy ⟨hi,hg _⟩ ?_;rintro _ _ ⟨rfl,rfl⟩;cases C:p l[i];·simp only[go_sem,h1,h5,h8,h9,u,e];exact⟨_,by omega,i+1,c,by simp,by simp,ci,by omega,rfl,by simpa [C] using hq⟩
   ·simp only[go_sem,h1,h5,h8,h9,u,e,e2];exact⟨_,by omega,i+1,c+1,by simp,by simp,ci,by omega,rfl,by simp only[C,VS]at hq;omega⟩
  ·simp at ci;simp only[go_sem,h5];obtain rfl:i=l.length:=by omega
   rw[Xd]at hq;simp at hq;rw[hq]
theorem C9 (a b:Int):jD .quo (.aA .i64 a) (.aA .i64 b)=if b=0 then none else some (.aA .i64 (IntKind.i64.wrap (a.tdiv b))):=Vc rfl rfl
theorem HW (a b:Int):jD .rem (.aA .i64 a) (.aA .i64 b)=if b=0 then none else some (.aA .i64 (a.tmod b)):=Vc rfl rfl
def lK (l yes:List Int):Bool:=decide (l.length / 2<l.countP λn=>decide (n∈yes))
def fq.aH (x:fq)(yes:List Int):Bool:=lK x.aA yes && (decide (x.aC.length=0) || lK x.aC yes)
def DX (P:Program)(f:FuncId):Prop:=
 fK P f=true/\∀(F F':Nat->Prop)(h:eX)(l yes:List Int)(a b:AV),Rd F h (fN l) a->Rd F' h (fN yes) b->l.length<=2^40->yes.length<=2^40->fC P f [a,b] h λr h'=>r=.aE (lK l yes)/\h'=h
theorem Mu {P:Program}{f g:FuncId}(hf:Is P f (xc g))(hg:mo P g){F:Nat->Prop}{h:eX}{e:List Int}{b q:AV}(hb:Rd F h (fN e) b)(hy:e.length<=2^40)(hq:ir h false 1 q=some b)(n:Int):
  fC P f [.aA .i64 n,q] h λr h'=>r=.aE (decide (n∈e))/\h'=h:=by
 refine fS hf ?_;simp only[xc,go_sem,hq];refine fy ⟨hg.1,hg.2 F _ e b n hb hy⟩ ?_;rintro _ _ ⟨rfl,rfl⟩;simp only[go_sem]
theorem Mv {P:Program}{f k g c:FuncId}(hf:Is P f (Be k g))(hk:Is P k (xc c))(hc:mo P c)(hg:yA P g):DX P f:=by
 refine⟨hf.2,λF F' h l u a b ha hb hl hy=>jG (qE _ _) (fS hf ?_)⟩;have la:=ha.aF;simp only[Be,go_sem,hb.aA,gz hb.aA];refine fy ⟨hg.1,hg.2 F _ l a k [] [.aC h.length 1 0 0] (λn=>decide (n∈u)) (ha.up (eW.b1 _)) hl hk.2 (λn=>Mu hk hc (hb.up (eW.b1 _)) hy (by simp only[go_sem]) n)⟩ ?_;rintro _ _ ⟨rfl,rfl⟩;have e:IntKind.i64.wrap ((l.length:Int).tdiv 2)=((l.length / 2:Nat):Int):=by rw[Int.tdiv_eq_ediv_of_nonneg (by omega),gj (by omega)];omega
 have z2:∀{x:Option AV},(if (2:Int)=0 then none else x)=x:=fun {x}=>U6 (by decide);simp only[go_sem,la,C9,z2,e];exact⟨by simp only[lK];congr 1;simp only[decide_eq_decide];omega,eW.b1 _⟩
def uH (P:Program)(f:FuncId):Prop:=
 fK P f=true/\∀(F F':Nat->Prop)(h:eX)(x:fq)(yes:List Int)(a:List AV)(b:AV),fu F h x.c a->Rd F' h (fN yes) b->x.aG (2^40)->yes.length<=2^40->fC P f [.aF a,b] h λr h'=>r=.aE (x.aH yes)/\h'=h
theorem Hc (n:Nat):decide ((n:Int)=0)=decide (n=0):=by simp
theorem Qt {P:Program}{f g:FuncId}(hf:Is P f (Bc g))(hg:DX P g):uH P f:=by
 refine⟨hf.2,λF F' h x u a b ha hb hl hy=>jG (qE _ _) (fS hf ?_)⟩;obtain⟨o,n,e,rfl,ho,hn,he⟩:=kI ha;have ln:=hn.aF;simp only[Bc,go_sem,ho.aA,hn.aA,he.aA];refine fy ⟨hg.1,hg.2 F F' _ x.aA u _ _ (ho.up (eW.b1 _)) (hb.up (eW.b1 _)) hl.1 hy⟩ ?_;rintro _ _ ⟨rfl,rfl⟩;cases c1:lK x.aA u;·simp only[go_sem];exact⟨by simp[fq.aH,c1],eW.b1 _⟩
 ·simp only[go_sem,ln,Hc];by_cases c2:x.aC.length=0;·simp only[go_sem,U3 c2];exact⟨by simp only[fq.aH,c1,U3 c2,Bool.true_or,Bool.and_true],eW.b1 _⟩
  ·simp only[go_sem,U2 c2];refine fy ⟨hg.1,hg.2 F F' _ x.aC u _ _ (hn.up (eW.b1 _)) (hb.up (eW.b1 _)) hl.2.1 hy⟩ ?_;rintro _ _ ⟨rfl,rfl⟩;simp only[go_sem];exact⟨by simp only[fq.aH,c1,U2 c2,Bool.false_or,Xs],eW.b1 _⟩
def mJ (v:Int)(ps:List (Int×Int)):List Int:=(ps.filter λp=>decide (v<=p.2)).map (·.1)
def fq.aR (x:fq)(all:List (Int×Int)):List (Int×Int)->Int->Int
 | [],b=>b
 | p :: r,b=>x.aR all r (if b<p.2/\x.aH (mJ p.2 all)=true then p.2 else b)
def fq.aT (x:fq)(nodes reached:List Int):Int:=x.aR (nodes.zip reached) (nodes.zip reached) 0
theorem IX (v:Int)(ps:List (Int×Int)):(mJ v ps).length<=ps.length:=by simp only[mJ,Vg];exact Wz _ _
theorem UU {v:Int}{ps:List (Int×Int)}{i:Nat}(hi:i<ps.length):mJ v (ps.take (i+1))=mJ v (ps.take i)++(if v<=ps[i].2 then [ps[i].1] else []):=by
 rw[VA hi];simp only[mJ,List.filter_append,VJ,Xl,List.filter_nil];congr 1;by_cases c:v<=ps[i].2;·simp[c]
 ·simp[c]
def yk (P:Program)(f:FuncId):Prop:=
 fK P f=true/\∀(F F' F'':Nat->Prop)(h:eX)(x:fq)(nodes reached:List Int)(a:List AV)(b c:AV),fu F h x.c a->Rd F' h (fN nodes) b->Rd F'' h (fN reached) c->x.aG (2^40)->nodes.length<=2^40->reached.length<=2^40->
  fC P f [.aF a,b,c] h λr h'=>r=.aA .i64 (x.aT nodes reached)/\h'=h
theorem Qp {P:Program}{f g:FuncId}(hf:Is P f (A9 g))(hg:uH P g):yk P f:=by
 refine⟨hf.2,λF F' F'' h x C u a b c ha hb hc hx hn hr=>jG (x_ _ _ _) (fS hf ?_)⟩;obtain⟨o,n,e,rfl,ho,aa,he⟩:=kI ha;have lb:=hb.aF;have lc:=hc.aF;have mn:min (C.length:Int) (u.length:Int)=((min C.length u.length:Nat):Int):=by omega
 generalize hall:C.zip u=all;have an:all.length=min C.length u.length:=by rw[<-hall];exact List.length_zip
 have ao:x.aT C u=x.aR all all 0:=by simp only[fq.aT,hall]
 obtain⟨c',hs,al⟩:=Rd.aI hc (lo:=none) (hi:=some (all.length:Int)) (mx:=none) (by simp) (by simp) (by simp;omega) (by simp) (by simp;omega) (by simp);obtain⟨b',ag,am⟩:=Rd.aI hb (lo:=none) (hi:=some (all.length:Int)) (mx:=none) (by simp) (by simp) (by simp;omega) (by simp) (by simp;omega) (by simp);have ab:Rd F'' h (fN (u.take all.length)) c':=by simpa [fN,Wv] using al
 have ac:Rd F' h (fN (C.take all.length)) b':=by simpa [fN,Wv] using am
 have a6:=ab.aF;have a7:=ac.aF;rw[Va,VT (by omega)]at a6 a7;have hz:∀i (hi:i<all.length),all[i]=(C[i]'(by omega),u[i]'(by omega)):=λi hi=>by subst hall;simp
 have a5:=gJ h (some (.aA 3 [[o,n,e]] false));simp only[A9,go_sem,ho.aA,aa.aA,he.aA,lb,lc,rT,tL,mn,<-an,mQ,hs,a6];have x0:=eW.b1 (h:=h) (some (.aA 3 [[o,n,e]] false));refine iM (λm L h'=>∃(i:Nat)(best:Int),lk 1 L=b/\lk 2 L=c/\lk 3 L=.aC h.length 3 0 0/\lk 7 L=.aA .i64 all.length/\lk 8 L=.aA .i64 best/\lk 21 L=c'/\lk 22 L=.aA .i64 all.length/\lk 23 L=.aA .i64 i /\
  eW eZ (h++[some (.aA 3 [[o,n,e]] false)]) h'/\i<=all.length/\m=all.length-i/\x.aR all (all.drop i) best=x.aR all all 0) all.length ?_ ?_
 ·exact⟨0,0,by simp[fm,g_],by simp[fm,g_],by simp[fm],by simp[fm],by simp[fm],by simp[fm],by simp[fm],by simp[fm],eW.aC _ _,by omega,by omega,rfl⟩
 ·rintro m L h1 ⟨i,best,k1,k2,k3,k7,k8,U,O,I,hE,hi,rfl,hq⟩;simp only[FA,go_sem,O,I];refine ij (λci=>?_) (λci=>?_)
  ·simp at ci;have e1:IntKind.i64.wrap (↑i+1)=(i:Int)+1:=gj (by omega);obtain⟨p,hp,hv⟩:=((ab.up x0).up hE).aG (i:=i) (by rw[Va];omega);have ae:(u.take all.length)[i]'(by rw[Va];omega)=u[i]'(by omega):=Wm;rw[ae]at hv;rw[Wh ci]at hq;simp only[fq.aR,hz i ci]at hq;simp only[go_sem,k8,U,I,hp,hv];generalize u[i]'(by omega)=v at *;by_cases cb:v<=best;·simp only[go_sem,k1,k2,k3,k7,k8,U,O,I,U3 cb,e1];rw[U6 (λh=>by omega)]at hq;exact⟨_,by omega,i+1,best,by simp,by simp,hE,ci,rfl,hq⟩
   ·simp only[go_sem,k1,k7,U2 cb,ag,a7];refine iM (λm L h'=>∃(j:Nat)(o':AV),lk 1 L=b/\lk 2 L=c/\lk 3 L=.aC h.length 3 0 0/\lk 7 L=.aA .i64 all.length/\lk 8 L=.aA .i64 best/\lk 10 L=.aA .i64 v/\lk 11 L=o'/\lk 21 L=c'/\lk 22 L=.aA .i64 all.length/\lk 23 L=.aA .i64 i /\
     lk 32 L=b'/\lk 33 L=.aA .i64 all.length/\lk 34 L=.aA .i64 j/\eY (fN (mJ v (all.take j))) (λm=>h1.length<=m) h' o'/\gV h' o'/\eW eZ h1 h'/\j<=all.length/\m=all.length-j) all.length ?_ ?_
    ·exact⟨0,.aD,by simp[fm,k1],by simp[fm,k2],by simp[fm,k3],by simp[fm,k7],by simp[fm,k8],by simp[fm],by simp[fm],by simp[fm,U],by simp[fm,O],by simp[fm,I],
      by simp[fm],by simp[fm],by simp[fm],by simpa [mJ,fN] using eY.aD 1,Vd,eW.aC _ _,by omega,by omega⟩
    ·rintro m L h2 ⟨j,o',k1,k2,k3,k7,k8,Z,a3,U,O,I,a2,a1,W,hO,hA,M,hj,rfl⟩;simp only[Fy,go_sem,a1,W];refine ij (λcj=>?_) (λcj=>?_)
     ·simp at cj;have e2:IntKind.i64.wrap (↑j+1)=(j:Int)+1:=gj (by omega);obtain⟨q,ai,a9⟩:=(((ac.up x0).up hE).up M).aG (i:=j) (by rw[Va];omega);obtain⟨q2,ah,af⟩:=(((hc.up x0).up hE).up M).aG (i:=j) (by omega);have ad:(C.take all.length)[j]'(by rw[Va];omega)=C[j]'(by omega):=Wm;rw[ad]at a9;have E:=UU (v:=v) cj;rw[hz j cj]at E;simp only at E;simp only[go_sem,k2,Z,a2,W,ai,a9,ah,af];generalize C[j]'(by omega)=nj at *;generalize u[j]'(by omega)=rj at *;by_cases cv:v<=rj
      ·rw[U4 cv]at E;have a8:=IX v (all.take j);rw[Va]at a8;obtain⟨o2,h3,ha,aj,a4,ak⟩:=l_ (bytes:=8) (es:=[[.aA .i64 nj]]) (h:=h2++[some (.aA 1 [[.aA .i64 nj]] false)]) hO hA (eW.aF _ _ _) (ys:=[[.aA .i64 nj]])
        (by simp[fG,fI,eY]) M.1 (by simp;omega)
       simp only[go_sem,reduceEqDiff,reduceAdd,k1,k2,k3,k7,k8,Z,a3,U,O,I,a2,a1,W,U3 cv,iv (lG h2 1 [[.aA .i64 nj]] false (some 1) (len:=1) rfl),ha,e2];refine⟨_,by omega,j+1,o2,rfl,by simp,?_,a4,?_,cj,rfl⟩;·rw[E,fN,VJ];exact aj
       ·exact (M.tr (eW.b1 _)).aJ ak (λm hm hm'=>by have:=M.1;omega)
      ·rw[U6 cv,VY]at E;simp only[go_sem,k1,k2,k3,k7,k8,Z,a3,U,O,I,a2,a1,W,U2 cv,e2];exact⟨_,by omega,j+1,o',rfl,by simp,by rw[E];exact hO,hA,M,cj,rfl⟩
     ·simp at cj;obtain rfl:j=all.length:=by omega
      rw[VB]at hO;have B:=M.aA (hE.aA a5);simp only[go_sem,k1,k2,k3,k7,k8,a3,U,O,I,B];have a8:=IX v all;refine fy ⟨hg.1,hg.2 F (λ_=>True) _ x (mJ v all) _ o' ((((s_ ho aa he).up x0).up hE).up M) (eY.rd _ (λ_ _=>Vd) _ hO) hx (by omega)⟩ ?_;rintro _ _ ⟨rfl,rfl⟩;cases hw:x.aH (mJ v all);·simp only[go_sem,k1,k2,k3,k7,k8,U,O,I,e1];rw[U6 (λh=>by rw[hw]at h;exact absurd h.2 (by decide))]at hq;exact⟨_,by omega,i+1,best,by simp,by simp,hE.tr M,ci,rfl,hq⟩
      ·simp only[go_sem,k1,k2,k3,k7,k8,Z,U,O,I,e1];rw[U4 ⟨by omega,hw⟩]at hq;exact⟨_,by omega,i+1,v,by simp,by simp,hE.tr M,ci,rfl,hq⟩
  ·simp at ci;obtain rfl:i=all.length:=by omega
   rw[Xd]at hq;simp only[fq.aR]at hq;simp only[go_sem,k8,hq,ao];exact x0.tr hE
def jb (k n:Int):Int:=if n<1 then 0 else k % n
theorem qu {k n:Int}(h:0<n):0<=jb k n/\jb k n<n:=by simp only[jb];rw[U6 (by omega)];exact⟨Int.emod_nonneg _ (by omega),Int.emod_lt_of_pos _ h⟩
def pV (P:Program)(f:FuncId):Prop:=fK P f=true/\∀(k n:Int),n<=2^40->lT P f [.aA .i64 k,.aA .i64 n] (.aA .i64 (jb k n))
theorem JA {P:Program}{f:FuncId}(hf:Is P f zY):pV P f:=by
 refine⟨hf.2,λk n hn h=>fS hf ?_⟩;simp only[zY,go_sem];by_cases c:n<1;·simp only[go_sem,U3 c,jb,U4 c]
 ·have z:∀{x:Option AV},(if n=0 then none else x)=x:=fun {x}=>U6 (by omega);simp only[go_sem,U2 c,HW,z,jb,U6 c];have h1:k.tmod n=if 0<=k then k % n else -((-k) % n):=by
   split;·rename_i h;exact Int.tmod_eq_emod_of_nonneg h
   ·rename_i h;have:k.tmod n=-((-k).tmod n):=by rw[Int.neg_tmod];omega
    rw[this,Int.tmod_eq_emod_of_nonneg (by omega)]
  have h2:=Int.emod_nonneg k (show n≠0 by omega);have h3:=Int.emod_lt_of_pos k (show 0<n by omega);have h4:=Int.emod_nonneg (-k) (show n≠0 by omega);have h5:=Int.emod_lt_of_pos (-k) (show 0<n by omega);by_cases ck:k.tmod n<0
  ·have e:IntKind.i64.wrap (k.tmod n+n)=k % n:=by
    have hk:¬0<=k:=by intro hk;rw[U4 hk]at h1;omega
    rw[U6 hk]at h1;rw[gj (by omega),h1];have h6:(-k) % n≠0:=by omega
    have:k % n=(n-(-k) % n) % n:=by
     have:n-(-k) % n=k+n*(1+(-k) / n):=by have:=Int.mul_ediv_add_emod (-k) n;rw[Int.mul_add];omega
     rw[this,Int.add_mul_emod_self_left]
    rw[this,Int.emod_eq_of_lt (a:=n - -k % n) (b:=n) (by omega) (by omega)];omega
   simp only[go_sem,U3 ck,e]
  ·have e:k.tmod n=k % n:=by
    by_cases hk:0<=k
    ·rw[U4 hk]at h1;exact h1
    ·rw[U6 hk]at h1;have h7:(-k) % n=0:=by omega
     have:k % n=0:=by have:=Int.dvd_of_emod_eq_zero h7;exact Int.emod_eq_zero_of_dvd ((Int.dvd_neg).1 this)
     omega
   rw[e]at ck;simp only[go_sem,e,U2 ck]
theorem vu (k:IntKind)(F:Nat->Prop)(h:eX):∀l:List Int,fG (l.map λn=>[.aA k n]) F h (l.map λn=>[AV.aA k n])
 | []=>by simp only[VO,fG]
 | n :: l=>by simp only[Vv,fG,fI,eY];exact⟨_,_,rfl,⟨_,_,rfl,rfl,rfl⟩,vu k F h l⟩
theorem xM {k:IntKind}{F:Nat->Prop}{h:eX}:∀{l:List Int} {r:List (List AV)},fG (l.map λn=>[.aA k n]) F h r->r=l.map λn=>[AV.aA k n]
 | [],r,hh=>by simp only[VO,fG]at hh;simpa using hh
 | n :: l,r,hh=>by simp only[Vv,fG,fI,eY]at hh;obtain⟨a,q,rfl,⟨_,_,rfl,rfl,rfl⟩,h2⟩:=hh;rw[xM h2];rfl
theorem zA (x:fq)(all:List (Int×Int)):∀(r:List (Int×Int)) (b:Int),x.aR all r b=b\/∃p∈r,x.aR all r b=p.2/\b<p.2/\x.aH (mJ p.2 all)=true
 | [],b=>.inl rfl
 | q :: r,b=>by
  simp only[fq.aR];split
  ·rename_i h;rcases zA x all r q.2 with e | ⟨p,hp,e,h1,h2⟩;·exact .inr ⟨q,by simp,e,h.1,h.2⟩
   ·exact .inr ⟨p,by simp[hp],e,by omega,h2⟩
  ·rcases zA x all r b with e | ⟨p,hp,e,h1,h2⟩;·exact .inl e
   ·exact .inr ⟨p,by simp[hp],e,h1,h2⟩
theorem J9 {x:fq}{n r:List Int}(h:0<x.aT n r):x.aH (mJ (x.aT n r) (n.zip r))=true:=by
 rcases zA x (n.zip r) (n.zip r) 0 with e | ⟨p,hp,e,h1,h2⟩;·simp only[fq.aT]at h;omega
 ·simp only[fq.aT];rw[e];exact h2
end Glb
