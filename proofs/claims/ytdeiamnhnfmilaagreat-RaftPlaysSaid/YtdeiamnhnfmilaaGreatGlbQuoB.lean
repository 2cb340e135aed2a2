/-
  A library of its own.
-/
import Derived.Test.YtdeiamnhnfmilaaGreatGlbQuoA
import Derived.Sort.Grow
set_option linter.unusedSimpArgs false
set_option linter.unusedVariables false
set_option maxRecDepth 10000
set_option maxHeartbeats 4000000
namespace Glb
open Go
structure Ew (P:Program)(f:FuncId):Prop where
 is:fI P f=true
 aB:∀(blk off cap:Nat)(zs:List Int)(w:World),Go.Sort.Holds (Value.int .i64) w blk off zs.toArray->blk<w.heap.size->zs.length<4611686018427387904->
  Calls P f #[.slice (some ⟨blk,off,none⟩) zs.length cap] w λe w'=>e=.returned (.tuple #[])/\∃n os,w'=Go.Sort.grow (Go.Sort.putRow (Value.int .i64) (Go.Sort.ahead w n) blk off (zs.mergeSort λx y=>decide (x<=y)).toArray) os
 aA:∀(p:Option Addr)(cap:Nat)(w:World),Calls P f #[.slice p 0 cap] w λe w'=>e=.returned (.tuple #[])/\w'=w
def jU (l:List Int):List Int:=l.mergeSort λx y=>decide (x<=y)
theorem IG (l:List Int):(jU l).length=l.length:=List.length_mergeSort _
def Ey (P:Program)(f:FuncId):Prop:=
 fI P f=true/\∀(F:Nat->Prop)(h:eZ)(l:List Int)(a:AV),e_ (fK l) F h a->l.length<=2^40->fy P f [a] h λ_ h'=>e_ (fK (jU l)) F h' a/\eY F h h'
theorem Tw {P:Program}{f:FuncId}(hk:Ew P f):Ey P f:=by
 refine⟨hk.is,λF h l a ho hl G w vs g hv=>?_⟩;obtain⟨v,rfl⟩:∃v,vs=#[v]:=by
  have:=hv.1;match vs with
  | ⟨[v]⟩=>exact⟨v,rfl⟩
  | ⟨[]⟩=>simp at this
  | ⟨_ :: _ :: _⟩=>simp at this
 have hV:V G w a v:=hv.2 0 a v rfl rfl;have nil:∀p cap,v=.slice p 0 cap->l=[]->Calls P f #[v] w λe w'=>∃v r h' G',e=.returned v/\(e_ (fK (jU l)) F h' a/\eY F h h')/\fS G' w' h'/\V G' w' r v/\gE G w G' w':=by rintro p cap rfl rfl;refine (hk.aA p cap w).mono ?_;rintro e w' ⟨rfl,rfl⟩;exact⟨_,.aR,h,G,rfl,⟨by simpa [jU] using ho,eY.aC _ _⟩,g,.aI _,gE.aC G w'⟩
 have ho':=ho;simp only[fK,e_]at ho;rcases ho with⟨rfl,e⟩ | ⟨t,c,rfl,e⟩ | ⟨n,off,cap,row,gr,rfl,hF,I,af,a1,ai⟩
 ·have:l=[]:=by simpa using e
  cases hV;exact nil _ _ rfl this
 ·have:l=[]:=by simpa using e
  cases hV with
  | aE=>exact nil _ _ rfl this
  | aD=>exact nil _ _ rfl this
 ·rw[Vo]at ai af a1 hV;have hr:=Db ai;generalize hlen:l.length=len at hV;cases hV with
  | aG=>exact nil _ _ rfl (Vl hlen)
  | aC _ _ _ _ _ c ty m b hn hb hlc hcapc hs hm=>
   subst hlen;have u:=g.aN I hb;have a3:=g.aO u hb;obtain⟨⟨cells,ad,a0,h1,h2,h3⟩,ae⟩:=g.aB n 1 row gr b I hb;have aj:∀i (hi:i<l.length),cells[off+i]?=some (.int .i64 l[i]):=by
    intro i hi;have:gi row (off+i) 0=some (.aA .i64 l[i]):=by
     have h0:((row.drop off).take l.length)[i]?=some [.aA .i64 l[i]]:=by rw[hr];simp[hi]
     rw[VV hi,Vz]at h0;simp[gi,h0]
    obtain⟨v,hv,hV⟩:=h3 _ _ _ this;cases hV;simpa using hv
   have hH:Go.Sort.Holds (Value.int .i64) w b off l.toArray:=by
    intro j hj;have ag:j<l.length:=by simpa using hj
    refine⟨?_,by simp[World.frozen?,a0]⟩;have a9 : l.toArray[j]! = l[j] := by simp [ag]
    rw[a9];simp only[World.cell?,a0,Option.isSome_none,VC,VO];exact aj j ag
   have a2:=hk.aB b off c l w hH a3 (by omega);rw[Nat.mul_one];refine a2.mono ?_;rintro e w' ⟨rfl,n0,os,rfl⟩;have W:(jU l).length=l.length:=IG l;simp only[Vo];have am:(l.mergeSort λx y=>decide (x<=y))=jU l:=rfl;rw[am];generalize hw':Go.Sort.grow (Go.Sort.putRow (Value.int .i64) (Go.Sort.ahead w n0) b off (jU l).toArray) os=w';have E:∀k,k<w.heap.size->k≠b->w'.heap[k]?=w.heap[k]?:=by intro k hk a7;subst hw';rw[Go.Sort.heap_grow_old _ _ (by simpa [Go.Sort.putRow,Go.Sort.mapBlock,Go.Sort.ahead] using hk)];simp[Go.Sort.putRow,Go.Sort.mapBlock,Go.Sort.ahead,WY];intro e;exact absurd e.symm a7
   have U:w'.heap[b]?=some (.cells (Go.Sort.putCells (Value.int .i64) off (jU l).toArray cells) ad (0,0)):=by subst hw';rw[Go.Sort.heap_grow_old _ _ (by simpa [Go.Sort.putRow,Go.Sort.mapBlock,Go.Sort.ahead] using a3)];simp[Go.Sort.putRow,Go.Sort.mapBlock,Go.Sort.ahead,WY,a0,Go.Sort.onCells]
   have C:w.heap.size<=w'.heap.size:=by subst hw';simp[Go.Sort.putRow,Go.Sort.mapBlock,Go.Sort.ahead]
   have a6:(Go.Sort.putCells (Value.int .i64) off (jU l).toArray cells).size=cells.size:=by simp[Go.Sort.putCells]
   have k:gU G w G w':=by
    refine⟨Vg _,λ_ _ _ h=>h,λ_ _ h=>h,λ_ _ h=>h,λt b' hp=>E b' (g.aQ hp) ?_,λb' M=>?_⟩
    ·rintro rfl;cases t with
     | zero=>exact g.aF n _ u hb hp
     | succ m=>exact g.aE n m _ u hb hp
    ·by_cases e:b'=b
     ·subst e;simp only[World.shape?,U,a0,a6]
     ·have hlt:b'<w.heap.size:=by apply Vm;intro hn;simp only[World.shape?,Array.getElem?_eq_none (Nat.le_of_not_lt hn)]at M;exact absurd M (by simp)
      simp only[World.shape?,E b' hlt e]
   let ys:List (List AV):=(jU l).map λn=>[.aA .i64 n]
   have a4:ys.length=l.length:=by simp[ys,W]
   have O:(gY row off ys).length=row.length:=by simp only[gY,Vj,Vw,VA,a4];omega
   have ac:ki G w' b 1 (gY row off ys) gr:=by
    refine⟨⟨_,ad,U,by rw[a6,O];exact h1,λe=>by rw[a6,O];exact h2 e,λi j c hj=>?_⟩,HE ae (λe he=>?_) off⟩
    ·have a5:∀i,(Go.Sort.putCells (Value.int .i64) off (jU l).toArray cells)[i]?=(cells[i]?).map λx=>if off<=i/\i<off+(jU l).toArray.size then Value.int .i64 (jU l).toArray[i-off]! else x:=by intro i;simp only[Go.Sort.putCells,Array.getElem?_mapIdx]
     rcases GZ (by omega) hj with⟨hlt,hc⟩ | ⟨ab,hlt,hc⟩ | ⟨ab,hc⟩
     ·obtain⟨v,hv,hV⟩:=h3 i j c hc;have a8:j=0:=by have:=(ae _ (VU (show i<row.length by omega))).1;simp only[gi]at hc;rw[Vi (by omega:i<row.length)]at hc;simp only[Wp]at hc;have:=(U_.1 hc).1;omega
      subst a8;refine⟨v,?_,hV.aA k⟩;rw[a5,hv];simp only[Nat.mul_one,WU,Wi];rw[Ve (by omega)]
     ·rw[a4]at hlt;have ah:i-off<(jU l).length:=by omega
      simp only[gi,ys,VE,Vi ah,Wi,Wp]at hc;have a8:j=0:=by have:=(U_.1 hc).1;simpa using this
      subst a8;simp at hc;subst hc;have ao:(cells[i]?).isSome:=by have:=aj (i-off) (by omega);rw[show off+(i-off)=i by omega]at this;simp[this]
      obtain⟨v0,ak⟩:=Option.isSome_iff_exists.1 ao;refine⟨_,?_,.aB .i64 _⟩;rw[a5,Nat.mul_one,WU,ak];simp only[Wi];rw[Vf ⟨ab,by simp;omega⟩];simp[ah]
     ·rw[a4]at ab;obtain⟨v,hv,hV⟩:=h3 i j c hc;refine⟨v,?_,hV.aA k⟩;rw[a5,hv];simp only[Wi];rw[Ve (by simp[W];omega)]
    ·obtain⟨x,_,rfl⟩:=Wl.1 he;exact⟨rfl,rfl⟩
   refine⟨_,.aR,h.set n (some (.aA 1 (gY row off ys) gr)),G,rfl,⟨?_,eY.aG _ (λ_=>hF)⟩,g.aV I hb k C (λm b' hm M a7=>?_) ac,.aI _,?_⟩
   ·have hlt:=(U_.1 I).1;simp only[fK,e_];refine .inr (.inr ⟨n,off,cap,_,gr,by simp[W],hF,Vd hlt,by rw[O];simpa [W] using af,by simpa [W] using a1,?_⟩);have:((gY row off ys).drop off).take ((jU l).map λn=>([.aA .i64 n]:List D)).length=ys:=by
     simp only[gY,Vo,W];have h1':(row.take off).length=off:=by simp;omega
     rw[VX,Wy (by omega),List.drop_of_length_le (by omega),Xd,Wz (by omega),V5 (by omega)]
    rw[this];exact uI .i64 _ _ _
   ·refine E b' (g.aO hm M) ?_;rintro rfl;exact a7 (g.inj m n _ hm u M hb)
   ·refine⟨k,⟨λ_ h=>h,λ_ h=>.inl h⟩,λ_ _=>rfl,λ_ _=>Wu,C,λb' M an=>E b' M ?_,λb' M=>.inl M,?_,?_,C,λx hx=>?_⟩;·rintro rfl;exact an (.inl ⟨n,u,hb⟩)
    ·subst hw';rfl
    ·subst hw';rfl
    ·by_cases e:x.block=b
     ·simp only[World.frozen?,e,U,a0]
     ·simp only[World.frozen?,E _ hx e]
def jO (l:List Int):Prop:=l.Pairwise (·<·)
theorem Ir:∀{a b:List Int},jO a->jO b->(∀n,n∈a↔n∈b)->a=b
 | [],[],_,_,_=>rfl
 | [],y :: b,_,_,h=>absurd ((h y).2 (by simp)) (by simp)
 | x :: a,[],_,_,h=>absurd ((h x).1 (by simp)) (by simp)
 | x :: a,y :: b,ha,hb,h=>by
  have u:=WN.1 ha;have t:=WN.1 hb;have C:x=y:=by
   rcases VR.1 ((h x).1 (by simp)) with e | e;·exact e
   ·rcases VR.1 ((h y).2 (by simp)) with e' | e';·exact e'.symm
    ·have:=t.1 x e;have:=u.1 y e';omega
  subst C;congr 1;refine Ir u.2 t.2 λn=>?_;have:=h n;simp only[VR]at this;constructor
  ·intro hn;rcases this.1 (.inr hn) with e | e;·have:=u.1 n hn;omega
   ·exact e
  ·intro hn;rcases this.2 (.inr hn) with e | e;·have:=t.1 n hn;omega
   ·exact e
def ku (n:Int):Bool->List Int->List Int
 | laid,[]=>if laid then [] else [n]
 | laid,x :: r=>if !laid && decide (n<x) then n :: x :: ku n true r else x :: ku n laid r
theorem uF (n:Int):∀l,ku n true l=l
 | []=>rfl
 | x :: r=>by simp only[ku,Vq,Bool.false_and,VC,VO,uF n r]
def mB (l:List Int)(n:Int):List Int:=ku n (decide (n∈l)) l
theorem Hh {n:Int}:∀{l:List Int},jO l->n∉l->jO (ku n false l)/\∀m,m∈ku n false l↔m=n\/m∈l
 | [],_,_=>by simp[ku,jO]
 | x :: r,h,hn=>by
  have h':=WN.1 h;simp only[ku,Vt,Xf,V4];split
  ·rename_i hlt;rw[uF];refine⟨WN.2 ⟨λy hy=>?_,h⟩,λm=>by simp⟩;rcases VR.1 hy with rfl | hy;·exact hlt
   ·have:=h'.1 y hy;omega
  ·rename_i hlt;obtain⟨h1,h2⟩:=Hh (n:=n) h'.2 (λe=>hn (by simp[e]));have hne:n≠x:=λe=>hn (by simp[e]);refine⟨WN.2 ⟨λy hy=>?_,h1⟩,λm=>?_⟩
   ·rcases (h2 y).1 hy with rfl | hy;·omega
    ·exact h'.1 y hy
   ·simp only[VR,h2];constructor;·rintro (e | e | e)<;>simp[e]
    ·rintro (e | e | e)<;>simp[e]
theorem U5 {l:List Int}{n:Int}(h:jO l):jO (mB l n)/\∀m,m∈mB l n↔m=n\/m∈l:=by
 by_cases hn:n∈l
 ·simp only[mB,Vc hn,uF];exact⟨h,λm=>⟨.inr,λe=>e.elim (λe=>e▸hn) id⟩⟩
 ·simp only[mB,Va hn];exact Hh h hn
def mh (l more:List Int):List Int:=more.foldl mB l
theorem EN:∀{more l:List Int},jO l->jO (mh l more)/\∀m,m∈mh l more↔m∈l\/m∈more
 | [],l,h=>⟨h,λm=>by simp[mh]⟩
 | n :: r,l,h=>by
  obtain⟨h1,h2⟩:=U5 (n:=n) h;obtain⟨h3,h4⟩:=EN (more:=r) h1;refine⟨h3,λm=>?_⟩;have:=h4 m;simp only[mh,W8]at this ⊢;rw[this,h2];simp only[VR];constructor;·rintro ((e | e) | e)<;>simp[e]
  ·rintro (e | e | e)<;>simp[e]
def mR (l:List Int):List Int:=mh [] l
theorem IK (a b:List Int):mR (a++b)=mh (mR a) b:=by simp only[mR,mh,List.foldl_append]
theorem IL (l:List Int):jO (mR l)/\∀m,m∈mR l↔m∈l:=by have:=EN (more:=l) (l:=[]) List.Pairwise.nil;exact⟨this.1,λm=>by rw[mR,this.2];simp⟩
theorem IW (l:List Int)(n:Int):(mB l n).length<=l.length+1:=by
 have:∀(l:List Int)(b:Bool),(ku n b l).length<=l.length+1:=by
  intro l;induction l with
  | nil=>intro b;cases b<;>simp[ku]
  | cons x r ih=>
   intro b;simp only[ku];split;·rw[uF];simp
   ·simp only[VD];have:=ih b;omega
 exact this _ _
theorem yW:∀(more l:List Int),(mh l more).length<=l.length+more.length
 | [],l=>by simp[mh]
 | n :: r,l=>by have:=yW r (mB l n);have h1:=IW l n;simp only[mh,W8,VD]at this ⊢;omega
theorem th (l:List Int):(mR l).length<=l.length:=by have:=yW l [];simpa [mR] using this
def fG.aE (x:fG):List Int:=mR (x.aA++x.aB)
def fG.aL (x:fG):List Int:=mR (x.aA++x.aB++x.aC)
def dn (l:List Int):Nat->List Int
 | 0=>[]
 | n+1=>dn l n++(if n≠0/\l[n]?=l[n-1]? then [] else l[n]?.toList)
def uk (l:List Int):List Int:=dn l l.length
theorem GL {l:List Int}(hs:l.Pairwise (·<=·)):∀n,n<=l.length->jO (dn l n)/\(∀m,m∈dn l n↔m∈l.take n)
 | 0,_=>by simp[dn,jO]
 | n+1,hn=>by
  obtain⟨h1,h2⟩:=GL hs n (by omega);have hlt:n<l.length:=by omega
  have E:∀m∈l.take n,m<=l[n]:=by intro m hm;obtain⟨i,hi,rfl⟩:=List.getElem_of_mem hm;simp only[Vw]at hi;rw[List.getElem_take];exact List.pairwise_iff_getElem.1 hs i n (by omega) hlt (by omega)
  have t:∀m,m∈l.take (n+1)↔m∈l.take n\/m=l[n]:=by intro m;rw[Vv hlt];simp only[V7,W4]
  simp only[dn];split;·rename_i hc;rw[Wo];refine⟨h1,λm=>?_⟩;rw[h2,t];refine⟨.inl,λe=>e.elim id (λe=>?_)⟩;subst e;have e2:l[n-1]?=some l[n-1]:=Vi (by omega);rw[Vi hlt,e2]at hc;have e3:l[n]=l[n-1]:=Xe hc.2;rw[e3];exact List.mem_take_iff_getElem.2 ⟨n-1,by omega,rfl⟩
  ·rename_i hc;rw[Vi hlt];refine⟨List.pairwise_append.2 ⟨h1,by simp,λa ha b hb=>?_⟩,λm=>by rw[V7,h2,t];simp⟩;simp at hb;subst hb;have u:=(h2 a).1 ha;have hle1:=E a u;apply Vm;intro hnl;have hae:a=l[n]:=by omega
   obtain⟨i,hi,I⟩:=List.getElem_of_mem u;simp only[Vw]at hi;rw[List.getElem_take]at I;have C:n≠0:=by omega
   have e2:l[n-1]?=some l[n-1]:=Vi (by omega);have h3:l[n-1]<=l[n]:=List.pairwise_iff_getElem.1 hs (n-1) n (by omega) hlt (by omega);have h4:l[i]<=l[n-1]:=by
    rcases Wc i (n-1) with h | h;·exact List.pairwise_iff_getElem.1 hs i (n-1) (by omega) (by omega) h
    ·have:i=n-1:=by omega
     subst this;exact Wm _
   exact hc ⟨C,by rw[Vi hlt,e2];congr 1;omega⟩
theorem Mk (l:List Int):uk (jU l)=mR l:=by
 have hs:(jU l).Pairwise (·<=·):=by have:=List.pairwise_mergeSort (le:=λx y:Int=>decide (x<=y)) (λa b c h1 h2=>by simp at *;omega) (λa b=>by simp;omega) l;exact this.imp λh=>by simpa using h
 obtain⟨h1,h2⟩:=GL hs (jU l).length (Vg _);obtain⟨h3,h4⟩:=IL l;refine Ir h1 h3 λm=>?_;rw[h4,show uk (jU l)=dn (jU l) (jU l).length from rfl,h2,VH];exact List.mem_mergeSort
def qI (ls:List (List Int)):D:=.sl 1 (ls.map λl=>[fK l])
theorem Rd.aN {F:Nat->Prop}{h:eZ}{ls:List (List Int)}{a:AV}(hx:Rd F h (qI ls) a){i:Nat}(hi:i<ls.length):
  ∃p v,iH 1 a (.aA .i64 i)=some p/\gX h false 1 p=some v/\Rd F h (fK ls[i]) v:=by
 obtain⟨p,cs,hp,t,b⟩:=hx.aD .i64 (i:=i) (d:=[fK ls[i]]) (by omega) (by simp[hi]);simp only[fu]at b;obtain⟨v,_,rfl,hv,rfl⟩:=b;exact⟨p,v,hp,by rw[hP t];exact te _ _ _,hv⟩
theorem xi {ls:List (List Int)}{i:Nat}(hi:i<ls.length):(ls.take (i+1)).flatten=(ls.take i).flatten++ls[i]:=by rw[Vv hi,List.flatten_append];simp only[List.flatten_cons,List.flatten_nil,Wo]
theorem GU (ls:List (List Int))(i:Nat):(ls.take i).flatten.length<=ls.flatten.length:=by
 have:ls.flatten=(ls.take i).flatten++(ls.drop i).flatten:=by rw[<-List.flatten_append,Xb]
 rw[this];simp
def Ea (P:Program)(f:FuncId):Prop:=
 fI P f=true/\∀(h:eZ)(n:Nat),n<=2^40->fy P f [.aB,.aA .i64 n] h λr h'=>e_ (fK []) (λm=>h.length<=m) h' r/\gq h' r/\eY fj h h'
theorem xD (g:fJ->AV)(h:eZ)(x:rO):gB g h (.x x)=j8 g x:=Vn rfl rfl
theorem OF (g:fJ->AV)(h:eZ)(sz bytes:Nat)(z:List AV)(x y:fJ):jE g h (.aE sz bytes z x y)=rP h sz bytes z (g x) (g y):=Vn rfl rfl
theorem OI (g:fJ->AV)(h:eZ)(sz:Nat)(z:List AV)(x:fJ):jE g h (.aF sz z x)=(rQ h sz z (g x)).map λh'=>(.aI [],h'):=Vn rfl rfl
theorem JA {P:Program}{f:FuncId}(hf:Is P f Ch):Ea P f:=by
 refine⟨hf.2,λh n hn=>fN hf ?_⟩;have c0:¬(n:Int)<0:=by omega
 have b:g_ .aB=some (.aA .i64 0):=rfl;have e0:IntKind.i64.wrap (0-0)=0:=rfl;have e1:IntKind.i64.wrap ((n:Int)-0)=n:=by rw[Int.sub_zero,fQ (by omega)]
 have t:iR 1 .aB none (some 0) none=some .aB:=rfl;simp only[Ch,go_sem,Va c0,xD,j8,b,e0,e1];by_cases c1:0<(n:Int)
 ·have hz:rP h 1 8 [.aA .i64 0] .aB (.aA .i64 n)=some (.aF h.length 1 0 n none,h++[some (.aA 1 (List.replicate n [.aA .i64 0]) true)]):=by simp only[rP];rw[Vf ⟨by omega,by omega⟩];simp only[iL];rw[Vf (by simp;omega)];simp[gR]
  have hs:iR 1 (.aF h.length 1 0 n none) none (some 0) none=some (.aF h.length 1 0 0 none):=by simp only[iR,Wh,VG];rw[Vf ⟨Vp,by omega,by omega,by omega,by omega,by omega⟩];rfl
  simp only[go_sem,Vc c1,oO,t,OF,xD,j8,b,hz,hs];refine⟨?_,⟨_,_,gh _ _,λ_=>rfl,λc hc=>by cases hc⟩,eY.b1 _⟩;simp only[fK,Wg,e_];exact .inr (.inr ⟨_,0,none,_,true,rfl,Vg _,gh _ _,by simp,(λc hc=>by cases hc),by simp[fP]⟩)
 ·simp only[go_sem,Va c1];exact⟨e_.aC 1,Vp,eY.aC _ _⟩
def DN (P:Program)(f:FuncId):Prop:=
 fI P f=true/\∀(F:Nat->Prop)(h:eZ) (ls:List (List Int)) (a:AV),Rd F h (qI ls) a->ls.length<=2^40->ls.flatten.length<=2^40->fy P f [a] h λr h'=>e_ (fK ls.flatten) (λm=>h.length<=m) h' r/\eY fj h h'
theorem Je {P:Program}{f g:FuncId}(hf:Is P f (Cf g))(hg:Ea P g):DN P f:=by
 refine⟨hf.2,λF h ls a ha hl ht=>fN hf ?_⟩;have la:g_ a=some (.aA .i64 ls.length):=by simpa using ha.aB
 simp only[Cf,go_sem,la];refine gJ (λm L h'=>∃i:Nat,lk 0 L=a/\lk 9 L=a/\lk 10 L=.aA .i64 ls.length/\lk 11 L=.aA .i64 i/\lk 3 L=.aA .i64 (ls.take i).flatten.length/\h=h'/\i<=ls.length/\m=ls.length-i) ls.length ?_ ?_;·exact⟨0,by simp[fi,ga],by simp[fi],by simp[fi],by simp[fi],by simp[fi],rfl,by omega,by omega⟩
 ·rintro m L h' ⟨i,k0,k9,E,C,k3,rfl,hi,rfl⟩;simp only[Gt,go_sem,E,C];refine gx (λci=>?_) (λci=>?_)
  ·simp at ci;obtain⟨p,v,hp,hv,hr⟩:=ha.aN ci;have e:IntKind.i64.wrap (↑i+1)=(i:Int)+1:=fQ (by omega);have b:=GU ls (i+1);rw[xi ci,Vj]at b;have e2:IntKind.i64.wrap ((ls.take i).flatten.length+ls[i].length)=(((ls.take i).flatten.length+ls[i].length:Nat):Int):=by rw[fQ (by omega)];omega
   have cn:¬(((ls.take i).flatten.length+ls[i].length:Nat):Int)<0:=by omega
   simp only[go_sem,k0,k9,E,C,k3,hp,hv,hr.aE,e2,Va cn,e];exact⟨_,by omega,i+1,by simp,by rw[xi ci,Vj],ci,rfl⟩
  ·simp at ci;obtain rfl:i=ls.length:=by omega
   rw[VH]at k3;simp only[go_sem,k3];refine fq ⟨hg.1,hg.2 _ ls.flatten.length ht⟩ ?_;rintro r h2 ⟨ro,rc,rx⟩;simp only[go_sem,k0,la];refine gJ (λm L h'=>∃(i:Nat)(o:AV),lk 25 L=a/\lk 26 L=.aA .i64 ls.length/\lk 27 L=.aA .i64 i/\lk 6 L=o/\e_ (fK (ls.take i).flatten) (λm=>h.length<=m) h' o/\gq h' o/\eY fj h h'/\i<=ls.length/\m=ls.length-i) ls.length ?_ ?_;·exact⟨0,r,by simp[fi],by simp[fi],by simp[fi],by simp[fi],ro,rc,rx,by omega,by omega⟩
   ·rintro m L h3 ⟨i,o,M,u,t,k6,hO,hA,hE,hi,rfl⟩;simp only[Gu,go_sem,u,t];refine gx (λci=>?_) (λci=>?_);·simp at ci;obtain⟨p,v,hp,hv,hr⟩:=(ha.up hE).aN ci;have e:IntKind.i64.wrap (↑i+1)=(i:Int)+1:=fQ (by omega);have b:=GU ls (i+1);rw[xi ci,Vj]at b;obtain⟨ys,O,U⟩:=hr.aK;obtain⟨o2,h4,a2,W,a1,a0⟩:=jr (bytes:=8) hO hA (eY.aC fj _) (uJ U) hE.1 (by simp only[Vo];omega);have I:=ic O 8 o;rw[a2]at I;simp only[go_sem,M,u,t,k6,hp,hv,I,e];exact⟨_,by omega,i+1,o2,by simp,rfl,by rw[xi ci,fK,VI];exact W,a1,hE.aI a0 (λm hm hm'=>by omega),ci,rfl⟩
    ·simp at ci;obtain rfl:i=ls.length:=by omega
     rw[VH]at hO;simp only[go_sem,k6];exact⟨hO,hE⟩
def nN (n off:Nat)(cap:Option Nat)(l:List Int)(F:Nat->Prop)(h:eZ):Prop:=
 F n/\∃row g,h[n]?=some (some (.aA 1 row g))/\off+l.length<=row.length/\r_ cap l.length/\(row.drop off).take l.length=l.map λn=>[.aA .i64 n]
theorem Qy {F:Nat->Prop}{h:eZ}{l:List Int}{a:AV}(ho:e_ (fK l) F h a) (hl:l≠[]):∃n off cap,a=.aF n 1 off l.length cap/\nN n off cap l F h:=by
 simp only[fK,e_]at ho;rcases ho with⟨_,e⟩ | ⟨_,_,_,e⟩ | ⟨n,off,cap,row,g,rfl,hF,t,u,b,C⟩
 ·simp at e;exact absurd e hl
 ·simp at e;exact absurd e hl
 ·rw[Vo]at C u b ⊢;exact⟨n,off,cap,rfl,hF,row,g,t,u,b,Db C⟩
theorem nN.aB {n off:Nat}{cap:Option Nat}{l:List Int}{F:Nat->Prop}{h:eZ}(ho:nN n off cap l F h){k:Nat}(hk:k<=l.length):e_ (fK (l.take k)) F h (.aF n 1 off k cap):=by
 obtain⟨hF,row,g,b,hle,t,u⟩:=ho;have hl:(l.take k).length=k:=by simp;omega
 simp only[fK,e_,Vo,hl];refine .inr (.inr ⟨n,off,cap,row,g,rfl,hF,b,by omega,λc hc=>by have:=t c hc;omega,?_⟩);have:(row.drop off).take k=(l.take k).map λn=>[.aA .i64 n]:=by have:=Xq (List.take k) u;rw[Xk,WW hk,<-WL]at this;exact this
 rw[this];exact uI .i64 _ _ _
theorem nN.aA {n off:Nat}{cap:Option Nat}{l:List Int}{F:Nat->Prop}{h:eZ}(ho:nN n off cap l F h){k:Nat}(hk:k<l.length):gX h false 1 (.aC n 1 (off+k) 0)=some (.aA .i64 l[k]):=by
 obtain⟨hF,row,g,b,hle,hcap,t⟩:=ho;have:((row.drop off).take l.length)[k]?=some [.aA .i64 l[k]]:=by rw[t];simp[hk]
 rw[VV hk,Vz]at this;rw[EP,b,Iv,this];rfl
theorem nN.aC {n off:Nat}{cap:Option Nat}{l:List Int}{F:Nat->Prop}{h:eZ}(ho:nN n off cap l F h){k:Nat}(hk:k<l.length)(v:Int):
  ∃h',nS h 1 (.aC n 1 (off+k) 0) (.aA .i64 v)=some h'/\nN n off cap (l.set k v) F h'/\eY F h h':=by
 obtain⟨hF,row,g,b,C,t,u⟩:=ho;have h1:((row.drop off).take l.length)[k]?=some [.aA .i64 l[k]]:=by rw[u];simp[hk]
 rw[VV hk,Vz]at h1;have hlt:=(U_.1 b).1;refine⟨_,oP (x:=.aA .i64 v) b h1 rfl rfl rfl rfl,⟨hF,_,g,Vd hlt,by simpa using C,by simpa using t,?_⟩,eY.aG _ (λ_=>hF)⟩;rw[List.drop_set,Ve (by omega),Vh,List.take_set,u,List.map_set,show off+k-off=k by omega]
def DM (P:Program)(f:FuncId):Prop:=
 fI P f=true/\∀(F:Nat->Prop)(h:eZ)(l:List Int)(a:AV),e_ (fK l) F h a->l.length<=2^40->fy P f [a] h λr h'=>e_ (fK (uk l)) F h' r/\eY F h h'
theorem Jd {P:Program}{f:FuncId}(hf:Is P f Ce):DM P f:=by
 refine⟨hf.2,λF h l a ho hl=>fN hf ?_⟩;have la:=(e_.rd (F':=λ_=>True) _ (λ_ _=>Vp) _ ho).aE;simp only[Ce,go_sem,la];by_cases c2:(l.length:Int)<2
 ·simp only[go_sem,Vc c2];refine⟨?_,eY.aC _ _⟩;have:uk l=l:=by
   match l,c2 with
   | [],_=>rfl
   | [x],_=>rfl
   | x :: y :: r,h=>simp at h;omega
  rw[this];exact ho
 ·have a8:l≠[]:=by rintro rfl;simp at c2
  obtain⟨n,off,cap,rfl,hI⟩:=Qy ho a8;have M:∀(i:Int)(k:Nat),i=k->k<l.length->iH 1 (.aF n 1 off l.length cap) (.aA .i64 i)=some (.aC n 1 (off+k) 0):=λi k e hk=>by subst e;simp only[iH];rw[Vf ⟨Vp,by omega,by omega⟩];simp
  simp only[go_sem,Va c2];refine gJ (λm L h'=>∃i:Nat,lk 0 L=.aF n 1 off l.length cap/\lk 3 L=.aA .i64 i/\h=h'/\1<=i/\i<=l.length/\m=l.length-i/\dn l i=l.take i) (l.length-1) ?_ ?_
  ·refine⟨1,by simp[fi,ga],by simp[fi],rfl,by omega,by omega,by omega,?_⟩;match l,a8 with
   | x :: r,_=>simp[dn]
  ·rintro m L h' ⟨i,k0,k3,rfl,hi1,hi,rfl,hd⟩;simp only[Gs,go_sem,k0,k3,la];refine gx (λci=>?_) (λci=>?_)
   ·simp at ci;have e1:IntKind.i64.wrap (↑i+1)=(i:Int)+1:=fQ (by omega);have e2:IntKind.i64.wrap (↑i-1)=((i-1:Nat):Int):=by rw[fQ (by omega)];omega
    simp only[go_sem,k0,k3,e2,M _ i rfl ci,M _ (i-1) rfl (by omega),hI.aA ci,hI.aA (show i-1<l.length by omega)];have W:dn l (i+1)=l.take i++(if l[i]=l[i-1] then [] else [l[i]]):=by
     simp only[dn,hd];rw[Vi ci,Vi (show i-1<l.length by omega)];congr 1;by_cases e:l[i]=l[i-1];·rw[Vf ⟨by omega,by rw[e]⟩,Vf e]
     ·rw[Ve (λh=>e (Xe h.2)),Ve e];rfl
    by_cases ce:l[i]=l[i-1]
    ·rw[Vf ce,Wo]at W;have hs:iR 1 (.aF n 1 off l.length cap) (some (i:Int)) none none=some (.aF n 1 (off+i) (l.length-i) (jz none i cap)):=by obtain⟨_,row,g,C,a6,b,U⟩:=hI;simp only[iR,VG,Wh];rw[Vf ⟨Vp,by omega,by omega,by omega,by omega,by cases cap with | none=>simp | some c=>have:=b c rfl;simp;omega⟩,Ve (by omega),Vf (by omega)];simp
     simp only[go_sem,Vc ce,k0,k3,oO,hs];have E:∀(j:Int)(k:Nat),j=k->i+k<l.length->iH 1 (.aF n 1 (off+i) (l.length-i) (jz none i cap)) (.aA .i64 j)=some (.aC n 1 (off+(i+k)) 0):=λj k e hk=>by subst e;simp only[iH];rw[Vf ⟨Vp,by omega,by omega⟩];simp;omega
     refine gJ (λm L h'=>∃(k q:Nat)(u:List Int),lk 0 L=.aF n 1 off l.length cap/\lk 4 L=.aF n 1 (off+i) (l.length-i) (jz none i cap)/\lk 3 L=.aA .i64 q/\lk 5 L=.aA .i64 k/\nN n off cap u F h'/\eY F h h'/\u.length=l.length /\
      1<=k/\i+k<=l.length/\q<=i+k-1/\i<=q/\u.take q=dn l (i+k)/\(∀j,q<=j->u[j]?=l[j]?)/\m=l.length-i-k) (l.length-i-1) ?_ ?_
     ·exact⟨1,i,l,by simp[fi,k0],by simp[fi],by simp[fi,k3],by simp[fi],hI,eY.aC _ _,rfl,by omega,by omega,by omega,by omega,W.symm,λj hj=>rfl,by omega⟩
     ·rintro m L h2 ⟨k,q,u,k0,k4,k3,k5,hC,hE,a0,hk1,hk,hq,ad,a4,t,rfl⟩;have l4:g_ (.aF n 1 (off+i) (l.length-i) (jz none i cap))=some (.aA .i64 ((l.length-i:Nat):Int)):=rfl;simp only[Gr,go_sem,k4,k5,l4];refine gx (λck=>?_) (λck=>?_)
      ·simp at ck;have a3:i+k<l.length:=by omega
       have e3:IntKind.i64.wrap (↑k+1)=(k:Int)+1:=fQ (by omega);have e4:IntKind.i64.wrap (↑k-1)=((k-1:Nat):Int):=by rw[fQ (by omega)];omega
       have e5:IntKind.i64.wrap (↑q+1)=(q:Int)+1:=fQ (by omega);have a1:=hC.aA (show i+k<u.length by omega);have a2:=hC.aA (show i+(k-1)<u.length by omega);have g1:u[i+k]'(by omega)=l[i+k]:=by have:=t (i+k) (by omega);rw[Vi (by omega),Vi a3]at this;exact Xe this
       have g2:u[i+(k-1)]'(by omega)=l[i+k-1]'(by omega):=by have:=t (i+(k-1)) (by omega);rw[Vi (by omega),Vi (by omega)]at this;have e:=Xe this;rw[e];congr 1;omega
       rw[g1]at a1;rw[g2]at a2;have I:dn l (i+(k+1))=dn l (i+k)++(if l[i+k]=l[i+k-1] then [] else [l[i+k]]):=by
        rw[<-Ws];simp only[dn];rw[Vi a3,Vi (show i+k-1<l.length by omega)];congr 1;by_cases e:l[i+k]=l[i+k-1];·rw[Vf ⟨by omega,by rw[e]⟩,Vf e]
        ·rw[Ve (λh=>e (Xe h.2)),Ve e];rfl
       simp only[go_sem,k4,k5,e4,E _ k rfl a3,E _ (k-1) rfl (by omega),a1,a2];by_cases cq:l[i+k]=l[i+k-1];·rw[Vf cq,Wo]at I;simp only[go_sem,Vc cq,k0,k4,k3,k5,e3];exact⟨_,by omega,k+1,q,u,by simp,by simp,hC,hE,a0,by omega,by omega,by omega,ad,by rw[I];exact a4,t,rfl⟩
       ·rw[Ve cq]at I;obtain⟨h3,s1,s2,s3⟩:=hC.aC (show q<u.length by omega) l[i+k];simp only[go_sem,Va cq,k0,k4,k3,k5,M _ q rfl (by omega),E _ k rfl a3,a1,s1,e3,e5];refine⟨_,by omega,k+1,q+1,u.set q l[i+k],by simp,by simp,s2,hE.aB s3 (λ_ _ x=>x) (λ_ _ x=>x),by simpa using a0,by omega,by omega,by omega,by omega,?_,λj hj=>?_,rfl⟩;·rw[I,<-a4,Vv (by simp;omega),List.getElem_set_self,List.take_set_of_le (Vg _)]
        ·rw[Vb (by omega)];exact t j (by omega)
      ·simp at ck;have ae:i+k=l.length:=by omega
       have hql:q<l.length:=by omega
       have ab:iR 1 (.aF n 1 off l.length cap) (some (q:Int)) none none=some (.aF n 1 (off+q) (l.length-q) (jz none q cap)):=by obtain⟨_,row,g,C,a6,b,U⟩:=hC;rw[a0]at b;simp only[iR,VG,Wh];rw[Vf ⟨Vp,by omega,by omega,by omega,by omega,by cases cap with | none=>simp | some c=>have:=b c rfl;simp;omega⟩,Ve (by omega),Vf (by omega)];simp
       have a9:iR 1 (.aF n 1 off l.length cap) none (some (q:Int)) none=some (.aF n 1 off q cap):=by obtain⟨_,row,g,C,a6,b,U⟩:=hC;rw[a0]at b;simp only[iR,VG,Wh];rw[Vf ⟨Vp,by omega,by omega,by omega,by omega,by cases cap with | none=>simp;omega | some c=>have:=b c rfl;simp;omega⟩];simp[jz]
       obtain⟨hF,row,g,C,a6,b,U⟩:=hC;have a7:rQ h2 1 [.aA .i64 0] (.aF n 1 (off+q) (l.length-q) (jz none q cap))=some (h2.set n (some (.aA 1 (gY row (off+q) (List.replicate (l.length-q) [.aA .i64 0])) g))):=by simp only[rQ];rw[Ve (by omega),C];simp only;rw[Vf ⟨Vp,Vp,by omega⟩]
       simp only[go_sem,k0,k3,oO,ab,OI,a7,a9];have hlt:=(U_.1 C).1;have a5:(gY row (off+q) (List.replicate (l.length-q) [AV.aA .i64 0])).length=row.length:=by simp only[gY,Vj,Vw,VA,WZ];omega
       have af:nN n off cap (u.take q) F (h2.set n (some (.aA 1 (gY row (off+q) (List.replicate (l.length-q) [.aA .i64 0])) g))):=by
        refine⟨hF,_,g,Vd hlt,by rw[a5];simp;omega,λc hc=>by have:=b c hc;simp;omega,?_⟩;have h1:(row.take (off+q)).length=off+q:=by simp;omega
        have ac:(u.take q).length=q:=by simp;omega
        rw[ac];have h3:((gY row (off+q) (List.replicate (l.length-q) [AV.aA .i64 0])).drop off).take q=(row.drop off).take q:=by simp only[gY];rw[VX,Wy (by omega),Wz (by simp;omega),List.drop_take,Xk];congr 1;omega
        rw[h3];have:=Xq (List.take q) U;rw[Xk,WW (by omega),<-WL]at this;exact this
       have O:=af.aB (k:=q) (by simp;omega);rw[Xk,Nat.min_self,a4,ae]at O;exact⟨O,hE.aB (eY.aG _ (λ_=>hF)) (λ_ _ x=>x) (λ_ _ x=>x)⟩
    ·rw[Ve ce]at W;simp only[go_sem,Va ce,k0,k3,e1];exact⟨_,by omega,i+1,by simp,by omega,ci,rfl,by rw[W,Vv ci]⟩
   ·simp at ci;obtain rfl:i=l.length:=by omega
    rw[VH]at hd;simp only[go_sem,k0];exact⟨by rw[uk,hd];exact ho,eY.aC _ _⟩
def wC (P:Program)(f:FuncId):Prop:=
 fI P f=true/\∀(F:Nat->Prop)(h:eZ) (ls:List (List Int)) (a:AV),Rd F h (qI ls) a->ls.length<=2^40->ls.flatten.length<=2^40->fy P f [a] h λr h'=>e_ (fK (mR ls.flatten)) (λm=>h.length<=m) h' r/\eY fj h h'
theorem TR {P:Program}{f c s k:FuncId}(hf:Is P f (Br c s k))(hc:DN P c)(hs:Ey P s)(hk:DM P k):wC P f:=by refine⟨hf.2,λF h ls a ha hl ht=>fN hf ?_⟩;simp only[Br,go_sem];refine fq ⟨hc.1,hc.2 F _ ls a ha hl ht⟩ ?_;rintro r h1 ⟨ro,rx⟩;simp only[go_sem];refine fq ⟨hs.1,hs.2 _ _ _ r ro ht⟩ ?_;rintro _ h2 ⟨so,sx⟩;simp only[go_sem];refine fq ⟨hk.1,hk.2 _ _ _ r so (by rw[IG];exact ht)⟩ ?_;rintro u h3 ⟨uo,ux⟩;simp only[go_sem];rw[Mk]at uo;exact⟨uo,(rx.aI sx (λm hm b=>by omega)).aI ux (λm hm b=>by omega)⟩
def nL (P:Program)(f:FuncId)(t:fG->List Int):Prop:=
 fI P f=true/\∀(F:Nat->Prop)(h:eZ)(x:fG)(a:List AV),fu F h x.c a->x.aF (2^38)->fy P f [.aE a] h λr h'=>e_ (fK (t x)) (λm=>h.length<=m) h' r/\eY fj h h'
theorem Rk {F:Nat->Prop}{H:eZ}{o n:AV}{x y:List Int}(ho:Rd F H (fK x) o)(hn:Rd F H (fK y) n):Rd (λ_=>True) (H++[some (.aA 1 [[o],[n]] false)]) (qI [x,y]) (.aF H.length 1 0 2 (some 2)):=by have x0:=eY.b1 (h:=H) (some (.aA 1 [[o],[n]] false));simp only[qI,VS,Wg,Rd];refine⟨[[o],[n]],.inr (.inr ⟨H.length,0,2,some 2,[[o],[n]],false,rfl,Vp,gh _ _,by simp,λc hc=>by cases hc;omega,rfl⟩),?_⟩;simp only[gC,fu];exact⟨_,_,rfl,⟨o,_,rfl,Rd.aC (λ_ _=>Vp) (gz.lt _ _) _ _ (ho.up x0),rfl⟩,_,_,rfl,⟨n,_,rfl,Rd.aC (λ_ _=>Vp) (gz.lt _ _) _ _ (hn.up x0),rfl⟩,rfl⟩
theorem Rl {F:Nat->Prop}{H:eZ}{o n e:AV}{x y z:List Int}(ho:Rd F H (fK x) o)(hn:Rd F H (fK y) n)(he:Rd F H (fK z) e):Rd (λ_=>True) (H++[some (.aA 1 [[o],[n],[e]] false)]) (qI [x,y,z]) (.aF H.length 1 0 3 (some 3)):=by have x0:=eY.b1 (h:=H) (some (.aA 1 [[o],[n],[e]] false));simp only[qI,VS,Wg,Rd];refine⟨[[o],[n],[e]],.inr (.inr ⟨H.length,0,3,some 3,[[o],[n],[e]],false,rfl,Vp,gh _ _,by simp,λc hc=>by cases hc;omega,rfl⟩),?_⟩;simp only[gC,fu];exact⟨_,_,rfl,⟨o,_,rfl,Rd.aC (λ_ _=>Vp) (gz.lt _ _) _ _ (ho.up x0),rfl⟩,_,_,rfl,⟨n,_,rfl,Rd.aC (λ_ _=>Vp) (gz.lt _ _) _ _ (hn.up x0),rfl⟩,_,_,rfl,⟨e,_,rfl,Rd.aC (λ_ _=>Vp) (gz.lt _ _) _ _ (he.up x0),rfl⟩,rfl⟩
theorem QT {P:Program}{f g:FuncId}(hf:Is P f (Bm g))(hg:wC P g):nL P f fG.aE:=by
 refine⟨hf.2,λF h x a ha hx=>fN hf ?_⟩;obtain⟨o,n,e,rfl,ho,hn,he⟩:=kx ha;simp only[Bm,go_sem,ho.aA,hn.aA,he.aA,gH ho.aA,gH hn.aA];have b:=Rk (ho.up (eY.b1 (some (.aA 3 [[o,n,e]] false)))) (hn.up (eY.b1 (some (.aA 3 [[o,n,e]] false))));simp only[kU]at b;obtain⟨h1,h2,h3⟩:=hx;refine fq ⟨hg.1,hg.2 _ _ [x.aA,x.aB] _ b (by simp) (by simp;omega)⟩ ?_;rintro r h2 ⟨ro,rx⟩;simp only[go_sem];refine⟨?_,(eY.b2 _ _).tr rx⟩;have:[x.aA,x.aB].flatten=x.aA++x.aB:=by simp
 rw[this]at ro;exact e_.aB _ (λm hm=>by simp at hm;omega) (λ_ _ _ x=>x) _ ro
theorem QS {P:Program}{f g:FuncId}(hf:Is P f (Bl g))(hg:wC P g):nL P f fG.aL:=by
 refine⟨hf.2,λF h x a ha hx=>fN hf ?_⟩;obtain⟨o,n,e,rfl,ho,hn,he⟩:=kx ha;simp only[Bl,go_sem,ho.aA,hn.aA,he.aA,gH ho.aA,gH hn.aA,gH he.aA];have b:=Rl (ho.up (eY.b1 (some (.aA 3 [[o,n,e]] false)))) (hn.up (eY.b1 (some (.aA 3 [[o,n,e]] false)))) (he.up (eY.b1 (some (.aA 3 [[o,n,e]] false))));simp only[kU]at b;obtain⟨h1,h2,h3⟩:=hx;refine fq ⟨hg.1,hg.2 _ _ [x.aA,x.aB,x.aC] _ b (by simp) (by simp;omega)⟩ ?_;rintro r h2 ⟨ro,rx⟩;simp only[go_sem];refine⟨?_,(eY.b2 _ _).tr rx⟩;have:[x.aA,x.aB,x.aC].flatten=x.aA++x.aB++x.aC:=by simp
 rw[this]at ro;exact e_.aB _ (λm hm=>by simp at hm;omega) (λ_ _ _ x=>x) _ ro
def yQ (P:Program)(f:FuncId):Prop:=
 fI P f=true/\∀(F:Nat->Prop)(h:eZ)(l:List Int)(a:AV)(n:Int),Rd F h (fK l) a->l.length<=2^40->fy P f [a,.aA .i64 n] h λr h'=>e_ (fK (mB l n)) (λm=>h.length<=m) h' r/\eY fj h h'
theorem Hg (n:Int)(laid:Bool):∀l:List Int,(ku n laid l).length<=l.length+1:=by
 intro l;induction l generalizing laid with
 | nil=>cases laid<;>simp[ku]
 | cons x r ih=>
  simp only[ku];split;·rw[uF];simp
  ·simp only[VD];have:=ih laid;omega
theorem ED {P:Program}{f g:FuncId}(hf:Is P f (Ad g))(hg:j_ P g):yQ P f:=by
 refine⟨hf.2,λF h l a n ha hl=>fN hf ?_⟩;have la:=ha.aE;simp only[Ad,go_sem];refine fR hg.1 (hg.2 F _ l a n ha hl) ?_;simp only[go_sem];refine gJ (λm L h'=>∃(i:Nat)(laid:Bool)(o:AV)(out:List Int),lk 0 L=a/\lk 1 L=.aA .i64 n/\lk 5 L=o/\lk 6 L=.aD laid/\lk 7 L=.aA .i64 i/\e_ (fK out) (λm=>h.length<=m) h' o/\gq h' o/\eY fj h h'/\i<=l.length/\m=l.length-i /\
  out++ku n laid (l.drop i)=mB l n) l.length ?_ ?_
 ·exact⟨0,_,.aB,[],by simp[fi,ga],by simp[fi,ga],by simp[fi],by simp[fi],by simp[fi],e_.aC 1,Vp,eY.aC _ _,by omega,by omega,rfl⟩
 ·rintro m L h1 ⟨i,laid,o,out,k0,k1,k5,k6,k7,hO,hA,hE,hi,rfl,hq⟩;have b:out.length<=l.length+1:=by have:=Xq List.length hq;have:=Hg n (decide (n∈l)) l;simp only[mB,Vj]at *;omega
  have app:∀{o:AV}{h1:eZ}{out:List Int}(v:Int),e_ (fK out) (λm=>h.length<=m) h1 o->gq h1 o->eY fj h h1->out.length<=l.length+1->
    ∃o' h2,mF (h1++[some (.aA 1 [[.aA .i64 v]] false)]) 1 8 o (.aF h1.length 1 0 1 (some 1))=some (o',h2)/\e_ (fK (out++[v])) (λm=>h.length<=m) h2 o'/\gq h2 o'/\eY fj h h2:=by
   intro o h1 out v hO hA hE hl1;obtain⟨o2,h3,ha,E,t,M⟩:=jr (bytes:=8) (es:=[[.aA .i64 v]]) (h:=h1++[some (.aA 1 [[.aA .i64 v]] false)]) hO hA (eY.aE _ _ _) (ys:=[[.aA .i64 v]])
    (by simp[fP,fW,e_]) hE.1 (by simp;omega)
   refine⟨o2,h3,by rw[ic (jn h1 1 [[.aA .i64 v]] false (some 1) (len:=1) rfl)];exact ha,?_,t,(hE.tr (eY.b1 _)).aI M (λm hm hm'=>by have:=hE.1;omega)⟩;rw[fK,VI];exact E
  simp only[FN,go_sem,k0,k7,la];refine gx (λci=>?_) (λci=>?_)
  ·simp at ci;obtain⟨p,hp,hv⟩:=(ha.up hE).aF ci;have e1:IntKind.i64.wrap (↑i+1)=(i:Int)+1:=fQ (by omega);rw[VY ci]at hq;simp only[ku]at hq;cases laid
   ·simp only[go_sem,k0,k1,k6,k7,hp,hv];by_cases cl:n<l[i]
    ·rw[Vf (by simp[cl])]at hq;obtain⟨o2,h2,s1,s2,s3,s4⟩:=app n hO hA hE b;simp only[go_sem,Vc cl,k0,k1,k5,k7,s1];obtain⟨p2,C,u⟩:=(ha.up s4).aF ci;have I:(out++[n]).length<=l.length+1:=by have:=Xq List.length hq;have:=Hg n (decide (n∈l)) l;simp only[mB,Vj,VD,VN]at *;omega
     obtain⟨o3,h3,t1,t2,t3,t4⟩:=app l[i] s2 s3 s4 I;simp only[go_sem,k0,k1,k5,k6,k7,C,u,t1,e1];exact⟨_,by omega,i+1,true,o3,out++[n]++[l[i]],rfl,rfl,by simp,t2,t3,t4,ci,rfl,by rw[<-hq];simp⟩
    ·rw[Ve (by simp[cl])]at hq;obtain⟨o2,h2,s1,s2,s3,s4⟩:=app l[i] hO hA hE b;simp only[go_sem,Va cl,k0,k1,k5,k6,k7,hp,hv,s1,e1];exact⟨_,by omega,i+1,false,o2,out++[l[i]],rfl,rfl,by simp,s2,s3,s4,ci,rfl,by rw[<-hq];simp⟩
   ·rw[Ve (by simp)]at hq;obtain⟨o2,h2,s1,s2,s3,s4⟩:=app l[i] hO hA hE b;simp only[go_sem,k0,k1,k5,k6,k7,hp,hv,s1,e1];exact⟨_,by omega,i+1,true,o2,out++[l[i]],rfl,rfl,by simp,s2,s3,s4,ci,rfl,by rw[<-hq];simp⟩
  ·simp at ci;obtain rfl:i=l.length:=by omega
   rw[Wq]at hq;cases laid;·obtain⟨o2,h2,s1,s2,s3,s4⟩:=app n hO hA hE b;simp only[go_sem,k1,k5,k6,s1];rw[<-hq];exact⟨s2,s4⟩
   ·simp only[go_sem,k5,k6];rw[<-hq];exact⟨by simpa [ku] using hO,hE⟩
theorem Kf {P:Program}{f:FuncId}(hc:yQ P f):fI P f=true/\∀(F:Nat->Prop)(h:eZ)(l:List Int)(a:AV)(n:Int),Rd F h (fK l) a->l.length<=2^40->fy P f [a,.aA .i64 n] h λr h'=>r=fA (mB l n)/\h'=h:=
 ⟨hc.1,λF h l a n ha hl=>(hc.2 F h l a n ha hl).aB λ_ _ hk=>⟨hk.2,_,gM.d (e_.fz _ (λ_ x=>x) _ hk.1),rfl⟩⟩
def kl (l:List Int)(a:AV):Prop:=(a=.aB/\l=[])\/a=fA l
theorem kl.aB:kl [] .aB:=.inl ⟨rfl,rfl⟩
theorem kl.a (l:List Int):kl l (fA l):=.inr rfl
theorem kl.rd {l:List Int}{a:AV}(h:kl l a)(F:Nat->Prop)(H:eZ):Rd F H (fK l) a:=by
 rcases h with⟨rfl,rfl⟩ | rfl;·exact Rd.aJ 1
 ·exact uQ _ _ _
theorem kl.aA {l:List Int}{a:AV}(h:kl l a)(k:Nat):a.aJ k=true:=by
 rcases h with⟨rfl,_⟩ | rfl;·rfl
 ·exact IN _ _
def uZ (P:Program)(f:FuncId):Prop:=
 fI P f=true/\∀(F:Nat->Prop)(h:eZ)(l more:List Int)(a b:AV),kl l a->Rd F h (fK more) b->l.length+more.length<=2^40->fy P f [a,b] h λr h'=>kl (mh l more) r/\h=h'
theorem EO {P:Program}{f g:FuncId}(hf:Is P f (Af g))(hg:yQ P g):uZ P f:=by
 refine⟨hf.2,λF h l more a b ha hb hl=>fN hf ?_⟩;have lb:=hb.aE;have u:=Kf hg;simp only[Af,go_sem];refine gJ (λm L h'=>∃(i:Nat)(o:AV)(t:List Int),lk 0 L=o/\lk 1 L=b/\lk 5 L=.aA .i64 i/\h=h'/\kl t o/\t.length<=l.length+i/\i<=more.length/\m=more.length-i/\mh t (more.drop i)=mh l more) more.length ?_ ?_;·exact⟨0,a,l,by simp[fi,ga],by simp[fi,ga],by simp[fi],rfl,ha,by omega,by omega,by omega,rfl⟩
 ·rintro m L h1 ⟨i,o,t,k0,k1,k5,rfl,hr,hcl,hi,rfl,hq⟩;simp only[FO,go_sem,k1,k5,lb];refine gx (λci=>?_) (λci=>?_);·simp at ci;obtain⟨p,hp,hv⟩:=hb.aF ci;have e1:IntKind.i64.wrap (↑i+1)=(i:Int)+1:=fQ (by omega);simp only[go_sem,k0,k1,k5,hp,hv];refine fR u.1 (u.2 F _ t o more[i] (hr.rd _ _) (by omega)) ?_;simp only[go_sem,k1,k5,e1];rw[VY ci]at hq;have:=IW t more[i];exact⟨_,by omega,i+1,_,mB t more[i],rfl,by simp,kl.a _,by omega,ci,rfl,hq⟩
  ·simp at ci;obtain rfl:i=more.length:=by omega
   rw[Wq]at hq;simp only[go_sem,k0];rw[<-hq];exact hr
def pw (P:Program)(f:FuncId)(t:fG->List Int):Prop:=
 fI P f=true/\∀(F:Nat->Prop)(h:eZ)(x:fG)(a:List AV),fu F h x.c a->x.aF (2^38)->fy P f [.aE a] h λr h'=>kl (t x) r/\h'=h
theorem Oc {P:Program}{f g:FuncId}(hf:Is P f (Ac g))(hg:uZ P g):pw P f fG.aE:=by refine⟨hf.2,λF h x a ha hx=>(fy.aC (K:=λr h'=>eY fj h h'/\kl x.aE r) (K':=λr=>kl x.aE r) (fN hf ?_) (λr h' hk=>⟨hk.1,hk.2.aA _,hk.2⟩)).aA λr h' hk=>⟨hk.2,hk.1⟩⟩;obtain⟨o,n,e,rfl,ho,hn,he⟩:=kx ha;obtain⟨h1,h2,h3⟩:=hx;simp only[Ac,go_sem,ho.aA,hn.aA,he.aA];refine fq ⟨hg.1,hg.2 F _ [] x.aA _ _ kl.aB (ho.up (eY.b1 _)) (by simp;omega)⟩ ?_;rintro r _ ⟨hr,rfl⟩;simp only[go_sem];have hl:=yW x.aA [];simp only[VN,WT]at hl;refine fq ⟨hg.1,hg.2 F _ _ x.aB _ _ hr (hn.up (eY.b1 _)) (by omega)⟩ ?_;rintro r2 _ ⟨b,rfl⟩;simp only[go_sem];exact⟨eY.b1 _,by rw[fG.aE,IK];exact b⟩
theorem Ob {P:Program}{f v g:FuncId}(hf:Is P f (Ab v g))(hv:pw P v fG.aE)(hg:uZ P g):pw P f fG.aL:=by refine⟨hf.2,λF h x a ha hx=>(fy.aC (K:=λr h'=>eY fj h h'/\kl x.aL r) (K':=λr=>kl x.aL r) (fN hf ?_) (λr h' hk=>⟨hk.1,hk.2.aA _,hk.2⟩)).aA λr h' hk=>⟨hk.2,hk.1⟩⟩;have b:=hx;obtain⟨o,n,e,rfl,ho,hn,he⟩:=kx ha;obtain⟨h1,h2,h3⟩:=hx;simp only[Ab,go_sem,ho.aA,hn.aA,he.aA];refine fq ⟨hv.1,hv.2 F _ x _ (ha.up (eY.b1 _)) b⟩ ?_;rintro r _ ⟨hr,rfl⟩;simp only[go_sem];have hl:=th (x.aA++x.aB);simp only[Vj]at hl;refine fq ⟨hg.1,hg.2 F _ _ x.aC _ _ hr (he.up (eY.b1 _)) (by simp only[fG.aE];omega)⟩ ?_;rintro r2 _ ⟨t,rfl⟩;simp only[go_sem];exact⟨eY.b1 _,by rw[fG.aL,IK];exact t⟩
def je:Option Int->List Int->Bool
 | _,[]=>true
 | p,x :: r=>!(decide (x<1) || decide (7<x) || (match p with | none=>false | some y=>decide (x<=y))) && je (some x) r
def mO (l:List Int):Nat->Option Int
 | 0=>none
 | i+1=>l[i]?
def fG.aI (x:fG):Bool:=!(decide (x.aA.length=0) || !je none x.aA || !je none x.aB || !je none x.aC || x.aC.any λn=>decide (n∈x.aA) || decide (n∈x.aB))
def wq (P:Program)(f:FuncId):Prop:=
 fI P f=true/\∀(F:Nat->Prop)(h:eZ)(l:List Int)(a:AV),Rd F h (fK l) a->l.length<=2^40->fy P f [a] h λr h'=>r=.aD (je none l)/\h'=h
theorem Sc {P:Program}{f:FuncId}(hf:Is P f Bq):wq P f:=by
 refine⟨hf.2,λF h l a ha hl=>fN hf ?_⟩;have la:=ha.aE;simp only[Bq,go_sem,la];refine gJ (λm L h'=>∃i:Nat,lk 0 L=a/\lk 5 L=a/\lk 6 L=.aA .i64 l.length/\lk 7 L=.aA .i64 i/\h=h'/\i<=l.length/\m=l.length-i/\je (mO l i) (l.drop i)=je none l) l.length ?_ ?_;·exact⟨0,by simp[fi,ga],by simp[fi],by simp[fi],by simp[fi],rfl,by omega,by omega,rfl⟩
 ·rintro m L h1 ⟨i,k0,k5,k6,k7,rfl,hi,rfl,hq⟩;simp only[Gj,go_sem,k6,k7];refine gx (λci=>?_) (λci=>?_)
  ·simp at ci;obtain⟨p,hp,hv⟩:=ha.aF ci;have e1:IntKind.i64.wrap (↑i+1)=(i:Int)+1:=fQ (by omega);rw[VY ci]at hq;simp only[je]at hq;have b:mO l (i+1)=some l[i]:=by simp[mO,ci]
   simp only[go_sem,k5,k7,hp,hv];by_cases c1:l[i]<1;·simp only[go_sem,Vc c1];rw[<-hq];simp[c1]
   by_cases c2:7<l[i]
   ·simp only[go_sem,Va c1,Vc c2];rw[<-hq];simp[c2]
   by_cases c3:0<(i:Int)
   ·obtain⟨j,rfl⟩:∃j,i=j+1:=⟨i-1,by omega⟩;obtain⟨p2,C,t⟩:=ha.aF (i:=j) (by omega);have e2:IntKind.i64.wrap (((j+1:Nat):Int)-1)=(j:Int):=by rw[fQ (by omega)];omega
    have u:mO l (j+1)=some (l[j]'(by omega)):=by simp only[mO];exact Vi (by omega)
    rw[u]at hq;simp only[go_sem,Va c1,Va c2,Vc c3,k0,e2,C,t];by_cases c4:l[j+1]<=l[j]'(by omega);·simp only[go_sem,Vc c4];rw[<-hq];simp[c4]
    ·simp only[go_sem,Va c4,k0,k5,k6,k7,e1];refine⟨_,by omega,j+1+1,by simp,by omega,rfl,?_⟩;rw[b,<-hq];simp[c1,c2,c4]
   ·obtain rfl:i=0:=by omega
    simp only[go_sem,Va c1,Va c2,Va c3,k0,k5,k6,k7,e1];refine⟨_,by omega,1,by simp,by omega,rfl,?_⟩;rw[b,<-hq];simp[c1,c2,mO]
  ·simp at ci;obtain rfl:i=l.length:=by omega
   rw[Wq]at hq;simp only[go_sem];rw[<-hq];rfl
theorem Of {P:Program}{f:FuncId}(hf:Is P f Ah):wq P f:=by
 refine⟨hf.2,λF h l a ha hl=>fN hf ?_⟩;have la:=ha.aE;simp only[Ah,go_sem];refine gJ (λm L h'=>∃i:Nat,lk 0 L=a/\lk 3 L=.aA .i64 i/\h=h'/\i<=l.length/\m=l.length-i/\je (mO l i) (l.drop i)=je none l) l.length ?_ ?_;·exact⟨0,by simp[fi,ga],by simp[fi],rfl,by omega,by omega,rfl⟩
 ·rintro m L h1 ⟨i,k0,k3,rfl,hi,rfl,hq⟩;simp only[FQ,go_sem,k0,k3,la];refine gx (λci=>?_) (λci=>?_)
  ·simp at ci;obtain⟨p,hp,hv⟩:=ha.aF ci;have e1:IntKind.i64.wrap (↑i+1)=(i:Int)+1:=fQ (by omega);rw[VY ci]at hq;simp only[je]at hq;have b:mO l (i+1)=some l[i]:=by simp[mO,ci]
   simp only[go_sem,k0,k3,hp,hv];by_cases c1:l[i]<1;·simp only[go_sem,Vc c1];rw[<-hq];simp[c1]
   by_cases c2:7<l[i]
   ·simp only[go_sem,Va c1,Vc c2,k0,k3,hp,hv];rw[<-hq];simp[c2]
   by_cases c3:0<(i:Int)
   ·obtain⟨j,rfl⟩:∃j,i=j+1:=⟨i-1,by omega⟩;obtain⟨p2,C,t⟩:=ha.aF (i:=j) (by omega);have e2:IntKind.i64.wrap (((j+1:Nat):Int)-1)=(j:Int):=by rw[fQ (by omega)];omega
    have u:mO l (j+1)=some (l[j]'(by omega)):=by simp only[mO];exact Vi (by omega)
    rw[u]at hq;simp only[go_sem,Va c1,Va c2,Vc c3,k0,k3,e2,hp,hv,C,t];by_cases c4:l[j+1]<=l[j]'(by omega);·simp only[go_sem,Vc c4];rw[<-hq];simp[c4]
    ·simp only[go_sem,Va c4,k0,k3,e1];refine⟨_,by omega,j+1+1,by simp,by omega,rfl,?_⟩;rw[b,<-hq];simp[c1,c2,c4]
   ·obtain rfl:i=0:=by omega
    simp only[go_sem,Va c1,Va c2,Va c3,k0,k3,hp,hv,e1];refine⟨_,by omega,1,by simp,by omega,rfl,?_⟩;rw[b,<-hq];simp[c1,c2,mO]
  ·simp at ci;obtain rfl:i=l.length:=by omega
   rw[Wq]at hq;simp only[go_sem];rw[<-hq];rfl
def fG.aJ (x:fG)(n:Int):Bool:=decide (n∈x.aA) || decide (n∈x.aB)
theorem fG.aM (x:fG):x.aI=!(decide (x.aA.length=0) || !je none x.aA || !je none x.aB || !je none x.aC || x.aC.any x.aJ):=rfl
theorem I8 {P:Program}{f g:FuncId}(hf:Is P f (wU g))(hg:j_ P g){F:Nat->Prop}{h:eZ}{x:fG}{o n e:AV}{m:Nat}(ho:Rd F h (fK x.aA) o)(hn:Rd F h (fK x.aB) n)(hx:x.aF (2^38))
  (hq:h[m]?=some (some (.aA 3 [[o,n,e]] false))) (k:Int):fy P f [.aA .i64 k,.aC m 3 0 0] h λr h'=>r=.aD (x.aJ k)/\h'=h:=by
 refine fN hf ?_;obtain⟨h1,h2,h3⟩:=hx;simp only[wU,go_sem,hq];refine fR hg.1 (hg.2 F _ x.aA o k ho (by omega)) ?_;by_cases c:k∈x.aA;·simp only[go_sem,Vc c];simp[fG.aJ,c]
 ·simp only[go_sem,Va c,hq];refine fR hg.1 (hg.2 F _ x.aB n k hn (by omega)) ?_;simp only[go_sem];simp[fG.aJ,c]
def p9 (P:Program)(f:FuncId):Prop:=
 fI P f=true/\∀(F:Nat->Prop)(h:eZ)(x:fG)(a:List AV),fu F h x.c a->x.aF (2^38)->fy P f [.aE a] h λr h'=>r=.aA .i64 (if x.aI then 0 else 29)/\h'=h
theorem Im (g:fJ->AV)(h:eZ)(f:FuncId)(cs:List fJ):gB g h (.aG f cs)=some (.aM f [] (cs.map g)):=Vn rfl rfl
theorem QR {P:Program}{f k g c s:FuncId}(hf:Is P f (Bk k g c))(hk:Is P k (wU s))(hs:j_ P s)(hg:wq P g)(hc:ye P c):p9 P f:=by
 refine⟨hf.2,λF h x a ha hx=>iF rfl (fN hf ?_)⟩;obtain⟨o,n,e,rfl,ho,hn,he⟩:=kx ha;have b:=hx;obtain⟨h1,h2,h3⟩:=hx;have lo:=ho.aE;simp only[Bk,go_sem,Im,VS,Wg,ho.aA,hn.aA,he.aA,lo,CN];by_cases c0:x.aA.length=0;·simp only[go_sem,Vc c0];exact⟨by simp[fG.aM,c0],eY.b1 _⟩
 simp only[go_sem,Va c0];refine fR hg.1 (hg.2 F _ x.aA o (ho.up (eY.b1 _)) (by omega)) ?_;cases c1:je none x.aA;·simp only[go_sem];exact⟨by simp[fG.aM,c1],eY.b1 _⟩
 simp only[go_sem];refine fR hg.1 (hg.2 F _ x.aB n (hn.up (eY.b1 _)) (by omega)) ?_;cases c2:je none x.aB;·simp only[go_sem];exact⟨by simp[fG.aM,c2],eY.b1 _⟩
 simp only[go_sem];refine fR hg.1 (hg.2 F _ x.aC e (he.up (eY.b1 _)) (by omega)) ?_;cases c3:je none x.aC;·simp only[go_sem];exact⟨by simp[fG.aM,c3],eY.b1 _⟩
 simp only[go_sem];refine fR hc.1 (hc.2 F _ x.aC e k [] [.aC h.length 3 0 0] x.aJ (he.up (eY.b1 _)) (by omega) hk.2 (λm=>I8 hk hs (ho.up (eY.b1 _)) (hn.up (eY.b1 _)) b (gh _ _) m)) ?_;by_cases c4:0<x.aC.countP x.aJ
 ·have c5:(0:Int)<x.aC.countP x.aJ:=by omega
  have:x.aC.any x.aJ=true:=by rw[Xh];exact List.countP_pos_iff.1 c4
  simp only[go_sem,Vc c5];exact⟨by simp only[fG.aM,this,W5];rfl,eY.b1 _⟩
 ·have c5:¬(0:Int)<x.aC.countP x.aJ:=by omega
  have:x.aC.any x.aJ=false:=by rw[<-Bool.not_eq_true,Xh];exact λh=>c4 (List.countP_pos_iff.2 h)
  simp only[go_sem,Va c5];exact⟨by simp only[fG.aM,this,c1,c2,c3,Va c0];rfl,eY.b1 _⟩
theorem N_ {P:Program}{f g s:FuncId}(hf:Is P f (z_ g s))(hg:wq P g)(hs:j_ P s):p9 P f:=by
 refine⟨hf.2,λF h x a ha hx=>iF rfl (fN hf ?_)⟩;obtain⟨o,n,e,rfl,ho,hn,he⟩:=kx ha;obtain⟨h1,h2,h3⟩:=hx;have lo:=ho.aE;have le:=he.aE;simp only[z_,go_sem,ho.aA,hn.aA,he.aA,lo,CN];by_cases c0:x.aA.length=0;·simp only[go_sem,Vc c0];exact⟨by simp[fG.aM,c0],eY.b1 _⟩
 simp only[go_sem,Va c0];refine fR hg.1 (hg.2 F _ x.aA o (ho.up (eY.b1 _)) (by omega)) ?_;cases c1:je none x.aA;·simp only[go_sem];exact⟨by simp[fG.aM,c1],eY.b1 _⟩
 simp only[go_sem];refine fR hg.1 (hg.2 F _ x.aB n (hn.up (eY.b1 _)) (by omega)) ?_;cases c2:je none x.aB;·simp only[go_sem];exact⟨by simp[fG.aM,c2],eY.b1 _⟩
 simp only[go_sem];refine fR hg.1 (hg.2 F _ x.aC e (he.up (eY.b1 _)) (by omega)) ?_;cases c3:je none x.aC;·simp only[go_sem];exact⟨by simp[fG.aM,c3],eY.b1 _⟩
 simp only[go_sem];have B:=gh h (some (.aA 3 [[o,n,e]] false));refine gJ (λm L h'=>∃i:Nat,lk 1 L=.aC h.length 3 0 0/\lk 3 L=.aA .i64 i/\h++[some (.aA 3 [[o,n,e]] false)]=h'/\i<=x.aC.length/\m=x.aC.length-i/\(x.aC.drop i).any x.aJ=x.aC.any x.aJ) x.aC.length ?_ ?_;·exact⟨0,by simp[fi],by simp[fi],rfl,by omega,by omega,rfl⟩
 ·rintro m L h1 ⟨i,k1,k3,rfl,hi,rfl,hq⟩;simp only[FL,go_sem,k1,k3,B,le];refine gx (λci=>?_) (λci=>?_)
  ·simp at ci;obtain⟨p,hp,hv⟩:=(he.up (eY.b1 (some (.aA 3 [[o,n,e]] false)))).aF ci;have e1:IntKind.i64.wrap (↑i+1)=(i:Int)+1:=fQ (by omega);rw[VY ci,List.any_cons]at hq;simp only[go_sem,k1,k3,B,hp,hv];refine fR hs.1 (hs.2 F _ x.aA o _ (ho.up (eY.b1 _)) (by omega)) ?_;by_cases c4:x.aC[i]∈x.aA
   ·have b:x.aJ x.aC[i]=true:=by simp[fG.aJ,c4]
    rw[b,W9]at hq;simp only[go_sem,Vc c4];exact⟨by simp only[fG.aM,<-hq,W5];rfl,eY.b1 _⟩
   simp only[go_sem,Va c4,k1,k3,B,hp,hv];refine fR hs.1 (hs.2 F _ x.aB n _ (hn.up (eY.b1 _)) (by omega)) ?_;by_cases c5:x.aC[i]∈x.aB
   ·have b:x.aJ x.aC[i]=true:=by simp[fG.aJ,c5]
    rw[b,W9]at hq;simp only[go_sem,Vc c5];exact⟨by simp only[fG.aM,<-hq,W5];rfl,eY.b1 _⟩
   ·have b:x.aJ x.aC[i]=false:=by simp[fG.aJ,c4,c5]
    rw[b,Bool.false_or]at hq;simp only[go_sem,Va c5,k1,k3,e1];exact⟨_,by omega,i+1,by simp,ci,rfl,hq⟩
  ·simp at ci;obtain rfl:i=x.aC.length:=by omega
   rw[Wq]at hq;simp only[go_sem];exact⟨by simp only[fG.aM,<-hq,c1,c2,c3,Va c0,List.any_nil];rfl,eY.b1 _⟩
end Glb
