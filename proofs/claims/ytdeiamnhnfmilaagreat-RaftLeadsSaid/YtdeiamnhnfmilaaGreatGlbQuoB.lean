/-
  A library of its own.
-/
import Derived.Test.YtdeiamnhnfmilaaGreatGlbQuoA
import Derived.Sort.Grow
set_option linter.unusedSimpArgs false
set_option linter.unusedVariables false
set_option maxRecDepth 10000
set_option maxHeartbeats 4000000
namespace Glb
open Go
variable {P:Program}{f g:FuncId}
structure FV (P:Program)(f:FuncId):Prop where
 is:fZ P f=true
 aC:∀(blk off cap:Nat)(zs:List Int)(w:World),Go.Sort.Holds (Value.int .i64) w blk off zs.toArray->blk<w.heap.size->zs.length<4611686018427387904->
  Calls P f #[.slice (some ⟨blk,off,none⟩) zs.length cap] w λe w'=>e=.returned (.tuple #[])/\∃n os,w'=Go.Sort.grow (Go.Sort.putRow (Value.int .i64) (Go.Sort.ahead w n) blk off (zs.mergeSort λx y=>decide (x<=y)).toArray) os
 aA:∀(p:Option Addr)(cap:Nat)(w:World),Calls P f #[.slice p 0 cap] w λe w'=>e=.returned (.tuple #[])/\w'=w
def kZ (l:List Int):List Int:=l.mergeSort λx y=>decide (x<=y)
theorem JP (l:List Int):(kZ l).length=l.length:=List.length_mergeSort _
def FW (P:Program)(f:FuncId):Prop:=
 fZ P f=true/\∀(F:Nat->Prop)(h:fu)(l:List Int)(a:AV),fA (f_ l) F h a->l.length<=2^40->fO P f [a] h λ_ h'=>fA (f_ (kZ l)) F h' a/\fq F h h'
theorem U6 (hk:FV P f):FW P f:=by
 refine⟨hk.is,λF h l a ho hl G w vs g hv=>?_⟩;obtain⟨v,rfl⟩:∃v,vs=#[v]:=by
  have:=hv.1;match vs with
  | ⟨[v]⟩=>exact⟨v,rfl⟩
  | ⟨[]⟩=>simp at this
  | ⟨_ :: _ :: _⟩=>simp at this
 have hV:V G w a v:=hv.2 0 a v rfl rfl;have nil:∀p cap,v=.slice p 0 cap->l=[]->Calls P f #[v] w λe w'=>∃v r h' G',e=.returned v/\(fA (f_ (kZ l)) F h' a/\fq F h h')/\fY G' w' h'/\V G' w' r v/\gP G w G' w':=by rintro p cap rfl rfl;refine (hk.aA p cap w).mono ?_;rintro e w' ⟨rfl,rfl⟩;exact⟨_,.aR,h,G,rfl,⟨by simpa [kZ] using ho,fq.aC _ _⟩,g,.aI _,gP.aD G w'⟩
 have ho':=ho;simp only[f_,fA]at ho;rcases ho with⟨rfl,e⟩ | ⟨t,c,rfl,e⟩ | ⟨n,off,cap,row,gr,rfl,hF,O,ah,a3,ak⟩
 ·have:l=[]:=by simpa using e
  cases hV;exact nil _ _ rfl this
 ·have:l=[]:=by simpa using e
  cases hV with
  | aG=>exact nil _ _ rfl this
  | aE=>exact nil _ _ rfl this
 ·rw[Xd]at ak ah a3 hV;have hr:=El ak;generalize hlen:l.length=len at hV;cases hV with
  | aH=>exact nil _ _ rfl (W5 hlen)
  | aD _ _ _ _ _ c ty m b hn hb hlc hcapc hs hm=>
   subst hlen;have u:=g.aN O hb;have a5:=g.aO u hb;obtain⟨⟨cells,af,a2,h1,h2,h3⟩,ag⟩:=g.aC n 1 row gr b O hb;have al:∀i (hi:i<l.length),cells[off+i]?=some (.int .i64 l[i]):=by
    intro i hi;have:gI row (off+i) 0=some (.aD .i64 l[i]):=by
     have h0:((row.drop off).take l.length)[i]?=some [.aD .i64 l[i]]:=by rw[hr];simp[hi]
     rw[XV hi,Xv]at h0;simp[gI,h0]
    obtain⟨v,hv,hV⟩:=h3 _ _ _ this;cases hV;simpa using hv
   have hH:Go.Sort.Holds (Value.int .i64) w b off l.toArray:=by
    intro j hj;have ai:j<l.length:=by simpa using hj
    refine⟨?_,by simp[World.frozen?,a2]⟩;have ab : l.toArray[j]! = l[j] := by simp [ai]
    rw[ab];simp only[World.cell?,a2,Option.isSome_none,Xt,XS];exact al j ai
   have a4:=hk.aC b off c l w hH a5 ω;rw[Nat.mul_one];refine a4.mono ?_;rintro e w' ⟨rfl,n0,os,rfl⟩;have a1:(kZ l).length=l.length:=JP l;simp only[Xd];have an:(l.mergeSort λx y=>decide (x<=y))=kZ l:=rfl;rw[an];generalize hw':Go.Sort.grow (Go.Sort.putRow (Value.int .i64) (Go.Sort.ahead w n0) b off (kZ l).toArray) os=w';have I:∀k,k<w.heap.size->k≠b->w'.heap[k]?=w.heap[k]?:=by intro k hk a9;subst hw';rw[Go.Sort.heap_grow_old _ _ (by simpa [Go.Sort.putRow,Go.Sort.mapBlock,Go.Sort.ahead] using hk)];simp[Go.Sort.putRow,Go.Sort.mapBlock,Go.Sort.ahead,Zi];intro e;exact absurd e.symm a9
   have Z:w'.heap[b]?=some (.cells (Go.Sort.putCells (Value.int .i64) off (kZ l).toArray cells) af (0,0)):=by subst hw';rw[Go.Sort.heap_grow_old _ _ (by simpa [Go.Sort.putRow,Go.Sort.mapBlock,Go.Sort.ahead] using a5)];simp[Go.Sort.putRow,Go.Sort.mapBlock,Go.Sort.ahead,Zi,a2,Go.Sort.onCells]
   have E:w.heap.size<=w'.heap.size:=by subst hw';simp[Go.Sort.putRow,Go.Sort.mapBlock,Go.Sort.ahead]
   have a8:(Go.Sort.putCells (Value.int .i64) off (kZ l).toArray cells).size=cells.size:=by simp[Go.Sort.putCells]
   have k:iB G w G w':=by
    refine⟨WX _,λ_ _ _ h=>h,λ_ _ h=>h,λ_ _ h=>h,λt b' hp=>I b' (g.aQ hp) ?_,λb' U=>?_⟩
    ·rintro rfl;cases t with
     | zero=>exact g.aG n _ u hb hp
     | succ m=>exact g.aF n m _ u hb hp
    ·by_cases e:b'=b
     ·subst e;simp only[World.shape?,Z,a2,a8]
     ·have hlt:b'<w.heap.size:=by apply W6;intro hn;simp only[World.shape?,Array.getElem?_eq_none (Nat.le_of_not_lt hn)]at U;exact absurd U ς
      simp only[World.shape?,I b' hlt e]
   let ys:List (List AV):=(kZ l).map λn=>[.aD .i64 n]
   have a6:ys.length=l.length:=by simp[ys,a1]
   have W:(iq row off ys).length=row.length:=by simp only[iq,WT,W7,Xk,a6];omega
   have ae:lT G w' b 1 (iq row off ys) gr:=by
    refine⟨⟨_,af,Z,by rw[a8,W];exact h1,λe=>by rw[a8,W];exact h2 e,λi j c hj=>?_⟩,IV ag (λe he=>?_) off⟩
    ·have a7:∀i,(Go.Sort.putCells (Value.int .i64) off (kZ l).toArray cells)[i]?=(cells[i]?).map λx=>if off<=i/\i<off+(kZ l).toArray.size then Value.int .i64 (kZ l).toArray[i-off]! else x:=by intro i;simp only[Go.Sort.putCells,Array.getElem?_mapIdx]
     rcases HR ω hj with⟨hlt,hc⟩ | ⟨ac,hlt,hc⟩ | ⟨ac,hc⟩
     ·obtain⟨v,hv,hV⟩:=h3 i j c hc;have aa:j=0:=by have:=(ag _ (Xq (show i<row.length by omega))).1;simp only[gI]at hc;rw[WU (by omega:i<row.length)]at hc;simp only[Yx]at hc;have:=(WR.1 hc).1;omega
      subst aa;refine⟨v,?_,hV.aA k⟩;rw[a7,hv];simp only[Nat.mul_one,Y8,YG];rw[WY ω]
     ·rw[a6]at hlt;have aj:i-off<(kZ l).length:=ω;simp only[gI,ys,XR,WU aj,YG,Yx]at hc;have aa:j=0:=by have:=(WR.1 hc).1;simpa using this
      subst aa;simp at hc;subst hc;have ap:(cells[i]?).isSome:=by have:=al (i-off) ω;rw[show off+(i-off)=i by omega]at this;simp[this]
      obtain⟨v0,am⟩:=Y6.1 ap;refine⟨_,?_,.aC .i64 _⟩;rw[a7,Nat.mul_one,Y8,am];simp only[YG];rw[WW ⟨ac,by simp;omega⟩];simp[aj]
     ·rw[a6]at ac;obtain⟨v,hv,hV⟩:=h3 i j c hc;refine⟨v,?_,hV.aA k⟩;rw[a7,hv];simp only[YG];rw[WY (by simp[a1];omega)]
    ·obtain⟨x,_,rfl⟩:=XO.1 he;exact⟨rfl,rfl⟩
   refine⟨_,.aR,h.set n (some (.aA 1 (iq row off ys) gr)),G,rfl,⟨?_,fq.aH _ (λ_=>hF)⟩,g.aV O hb k E (λm b' hm U a9=>?_) ae,.aI _,?_⟩
   ·have hlt:=(WR.1 O).1;simp only[f_,fA];refine .inr (.inr ⟨n,off,cap,_,gr,by simp[a1],hF,W0 hlt,by rw[W];simpa [a1] using ah,by simpa [a1] using a3,?_⟩);have:((iq row off ys).drop off).take ((kZ l).map λn=>([.aA .i64 n]:List D)).length=ys:=by
     simp only[iq,Xd,a1];have h1':(row.take off).length=off:=by simp;omega
     rw[Xl,YJ ω,List.drop_of_length_le ω,Yg,Xz ω,Xu ω]
    rw[this];exact wS .i64 _ _ _
   ·refine I b' (g.aO hm U) ?_;rintro rfl;exact a9 (g.inj m n _ hm u U hb)
   ·refine⟨k,⟨λ_ h=>h,λ_ h=>.inl h⟩,λ_ _=>rfl,λ_ _=>YD,E,λb' U ao=>I b' U ?_,λb' U=>.inl U,?_,?_,E,λx hx=>?_⟩;·rintro rfl;exact ao (.inl ⟨n,u,hb⟩)
    ·subst hw';rfl
    ·subst hw';rfl
    ·by_cases e:x.block=b
     ·simp only[World.frozen?,e,Z,a2]
     ·simp only[World.frozen?,I _ hx e]
variable {P:Program}{f g:FuncId}
def kM (l:List Int):Prop:=l.Pairwise (·<·)
theorem JA:∀{a b:List Int},kM a->kM b->(∀n,n∈a↔n∈b)->a=b
 | [],[],_,_,_=>rfl
 | [],y :: b,_,_,h=>absurd ((h y).2 ς) ς
 | x :: a,[],_,_,h=>absurd ((h x).1 ς) ς
 | x :: a,y :: b,ha,hb,h=>by
  have E:=Y_.1 ha;have u:=Y_.1 hb;have I:x=y:=by
   rcases XC.1 ((h x).1 ς) with e | e;·exact e
   ·rcases XC.1 ((h y).2 ς) with e' | e';·exact e'.symm
    ·have:=u.1 x e;have:=E.1 y e';omega
  subst I;congr 1;refine JA E.2 u.2 λn=>?_;have:=h n;simp only[XC]at this;constructor
  ·intro hn;rcases this.1 (.inr hn) with e | e;·have:=E.1 n hn;omega
   ·exact e
  ·intro hn;rcases this.2 (.inr hn) with e | e;·have:=u.1 n hn;omega
   ·exact e
def oz (n:Int):Bool->List Int->List Int
 | laid,[]=>if laid then [] else [n]
 | laid,x :: r=>if !laid && decide (n<x) then n :: x :: oz n true r else x :: oz n laid r
theorem zd (n:Int):∀l,oz n true l=l
 | []=>rfl
 | x :: r=>by simp only[oz,XL,Bool.false_and,Xt,XS,zd n r]
def tQ (l:List Int)(n:Int):List Int:=oz n (decide (n∈l)) l
theorem Iv {n:Int}:∀{l:List Int},kM l->n∉l->kM (oz n false l)/\∀m,m∈oz n false l↔m=n\/m∈l
 | [],_,_=>by simp[oz,kM]
 | x :: r,h,hn=>by
  have h':=Y_.1 h;simp only[oz,X_,ZI,XK];split
  ·rename_i hlt;rw[zd];refine⟨Y_.2 ⟨λy hy=>?_,h⟩,λm=>by simp⟩;rcases XC.1 hy with rfl | hy;·exact hlt
   ·have:=h'.1 y hy;omega
  ·rename_i hlt;obtain⟨h1,h2⟩:=Iv (n:=n) h'.2 (λe=>hn (by simp[e]));have hne:n≠x:=λe=>hn (by simp[e]);refine⟨Y_.2 ⟨λy hy=>?_,h1⟩,λm=>?_⟩
   ·rcases (h2 y).1 hy with rfl | hy;·omega
    ·exact h'.1 y hy
   ·simp only[XC,h2];constructor;·rintro (e | e | e)<;>simp[e]
    ·rintro (e | e | e)<;>simp[e]
theorem WG {l:List Int}{n:Int}(h:kM l):kM (tQ l n)/\∀m,m∈tQ l n↔m=n\/m∈l:=by
 by_cases hn:n∈l
 ·simp only[tQ,WZ hn,zd];exact⟨h,λm=>⟨.inr,λe=>e.elim (λe=>e▸hn) id⟩⟩
 ·simp only[tQ,WV hn];exact Iv h hn
def rv (l more:List Int):List Int:=more.foldl tQ l
theorem Gj:∀{more l:List Int},kM l->kM (rv l more)/\∀m,m∈rv l more↔m∈l\/m∈more
 | [],l,h=>⟨h,λm=>by simp[rv]⟩
 | n :: r,l,h=>by
  obtain⟨h1,h2⟩:=WG (n:=n) h;obtain⟨h3,h4⟩:=Gj (more:=r) h1;refine⟨h3,λm=>?_⟩;have:=h4 m;simp only[rv,Zm]at this ⊢;rw[this,h2];simp only[XC];constructor;·rintro ((e | e) | e)<;>simp[e]
  ·rintro (e | e | e)<;>simp[e]
def qO (l:List Int):List Int:=rv [] l
theorem J6 (l:List Int):kM (qO l)/\∀m,m∈qO l↔m∈l:=by have:=Gj (more:=l) (l:=[]) List.Pairwise.nil;exact⟨this.1,λm=>by rw[qO,this.2];simp⟩
theorem WE (l:List Int)(n:Int):(tQ l n).length<=l.length+1:=by
 have:∀(l:List Int)(b:Bool),(oz n b l).length<=l.length+1:=by
  intro l;induction l with
  | nil=>intro b;cases b<;>simp[oz]
  | cons x r ih=>
   intro b;simp only[oz];split;·rw[zd];simp
   ·simp only[Xf];have:=ih b;omega
 exact this _ _
theorem Gi:∀(more l:List Int),(rv l more).length<=l.length+more.length
 | [],l=>by simp[rv]
 | n :: r,l=>by have:=Gi r (tQ l n);have h1:=WE l n;simp only[rv,Zm,Xf]at this ⊢;omega
theorem zO (l:List Int):(qO l).length<=l.length:=by have:=Gi l [];simpa [qO] using this
def fI.aI (x:fI):List Int:=qO (x.aA++x.aC)
def fI.aM (x:fI):List Int:=qO (x.aA++x.aC++x.aD)
def dn (l:List Int):Nat->List Int
 | 0=>[]
 | n+1=>dn l n++(if n≠0/\l[n]?=l[n-1]? then [] else l[n]?.toList)
def wu (l:List Int):List Int:=dn l l.length
theorem Hz {l:List Int}(hs:l.Pairwise (·<=·)):∀n,n<=l.length->kM (dn l n)/\(∀m,m∈dn l n↔m∈l.take n)
 | 0,_=>by simp[dn,kM]
 | n+1,hn=>by
  obtain⟨h1,h2⟩:=Hz hs n ω;have hlt:n<l.length:=ω;have O:∀m∈l.take n,m<=l[n]:=by intro m hm;obtain⟨i,hi,rfl⟩:=List.getElem_of_mem hm;simp only[W7]at hi;rw[YA];exact YK.1 hs i n ω hlt ω
  have u:∀m,m∈l.take (n+1)↔m∈l.take n\/m=l[n]:=by intro m;rw[XE hlt];simp only[Xe,XN]
  simp only[dn];split;·rename_i hc;rw[Yd];refine⟨h1,λm=>?_⟩;rw[h2,u];refine⟨.inl,λe=>e.elim id (λe=>?_)⟩;subst e;have e2:l[n-1]?=some l[n-1]:=WU ω;rw[WU hlt,e2]at hc;have e3:l[n]=l[n-1]:=ZH hc.2;rw[e3];exact List.mem_take_iff_getElem.2 ⟨n-1,ω,rfl⟩
  ·rename_i hc;rw[WU hlt];refine⟨List.pairwise_append.2 ⟨h1,ς,λa ha b hb=>?_⟩,λm=>by rw[Xe,h2,u];simp⟩;simp at hb;subst hb;have E:=(h2 a).1 ha;have hle1:=O a E;apply W6;intro hnl;have hae:a=l[n]:=ω;obtain⟨i,hi,U⟩:=List.getElem_of_mem E;simp only[W7]at hi;rw[YA]at U;have I:n≠0:=ω;have e2:l[n-1]?=some l[n-1]:=WU ω;have h3:l[n-1]<=l[n]:=YK.1 hs (n-1) n ω hlt ω;have h4:l[i]<=l[n-1]:=by
    rcases YQ i (n-1) with h | h;·exact YK.1 hs i (n-1) ω ω h
    ·have:i=n-1:=ω;subst this;exact W9 _
   exact hc ⟨I,by rw[WU hlt,e2];congr 1;omega⟩
theorem NS (l:List Int):wu (kZ l)=qO l:=by
 have hs:(kZ l).Pairwise (·<=·):=by have:=List.pairwise_mergeSort (le:=λx y:Int=>decide (x<=y)) (λa b c h1 h2=>by simp at *;omega) (λa b=>by simp;omega) l;exact this.imp λh=>by simpa using h
 obtain⟨h1,h2⟩:=Hz hs (kZ l).length (WX _);obtain⟨h3,h4⟩:=J6 l;refine JA h1 h3 λm=>?_;rw[h4,show wu (kZ l)=dn (kZ l) (kZ l).length from rfl,h2,XF];exact List.mem_mergeSort
variable {P:Program}{f g:FuncId}
def s9 (ls:List (List Int)):D:=.sl 1 (ls.map λl=>[f_ l])
theorem Rd.aM {F:Nat->Prop}{h:fu}{ls:List (List Int)}{a:AV}(hx:Rd F h (s9 ls) a){i:Nat}(hi:i<ls.length):
  ∃p v,jq 1 a (ι i)=some p/\iK h false 1 p=some v/\Rd F h (f_ ls[i]) v:=by
 obtain⟨p,cs,hp,u,e⟩:=hx.aD .i64 (i:=i) (d:=[f_ ls[i]]) ω (by simp[hi]);simp only[fH]at e;obtain⟨v,_,rfl,hv,rfl⟩:=e;exact⟨p,v,hp,by rw[jN u];exact zN _ _ _,hv⟩
theorem yV {ls:List (List Int)}{i:Nat}(hi:i<ls.length):(ls.take (i+1)).flatten=(ls.take i).flatten++ls[i]:=by rw[XE hi,List.flatten_append];simp only[List.flatten_cons,List.flatten_nil,Yd]
theorem HK (ls:List (List Int))(i:Nat):(ls.take i).flatten.length<=ls.flatten.length:=by
 have:ls.flatten=(ls.take i).flatten++(ls.drop i).flatten:=by rw[<-List.flatten_append,YF]
 rw[this];simp
def FA (P:Program)(f:FuncId):Prop:=
 fZ P f=true/\∀(h:fu)(n:Nat),n<=2^40->fO P f [.aC,.aD .i64 n] h λr h'=>fA (f_ []) (λm=>h.length<=m) h' r/\ic h' r/\fq fB h h'
theorem Jy (g:fN->AV)(h:fu)(x:uq):gM g h (.x x)=mP g x:=W_ rfl rfl
theorem Pg (g:fN->AV)(h:fu)(sz bytes:Nat)(z:List AV)(x y:fN):kP g h (.aG sz bytes z x y)=uu h sz bytes z (g x) (g y):=W_ rfl rfl
theorem Pk (g:fN->AV)(h:fu)(sz:Nat)(z:List AV)(x:fN):kP g h (.aH sz z x)=(uv h sz z (g x)).map λh'=>(.aI [],h'):=W_ rfl rfl
theorem KQ (hf:Is P f Dg):FA P f:=by
 refine⟨hf.2,λh n hn=>gy hf ?_⟩;have c0:¬(n:Int)<0:=ω;have e:iJ .aC=some (ι 0):=rfl;have e0:IntKind.i64.wrap (0-0)=0:=rfl;have e1:IntKind.i64.wrap ((n:Int)-0)=n:=by rw[Int.sub_zero,gF ω]
 have u:iX 1 .aC none (some 0) none=some .aC:=rfl;simp only[Dg,go_sem,WV c0,Jy,mP,e,e0,e1];by_cases c1:0<(n:Int)
 ·have hz:uu h 1 8 [ι 0] .aC (ι n)=some (.aG h.length 1 0 n none,h++[some (.aA 1 (List.replicate n [ι 0]) true)]):=by simp only[uu];rw[WW ⟨ω,ω⟩];simp only[iL];rw[WW (by simp;omega)];simp[gY]
  have hs:iX 1 (.aG h.length 1 0 n none) none (some 0) none=some (.aG h.length 1 0 0 none):=by simp only[iX,Yo,XJ];rw[WW ⟨Xb,ω,ω,ω,ω,ω⟩];rfl
  simp only[go_sem,WZ c1,n_,u,Pg,Jy,mP,e,hz,hs];refine⟨?_,⟨_,_,h_ _ _,λ_=>rfl,λc hc=>by cases hc⟩,fq.b1 _⟩;simp only[f_,Yb,fA];exact .inr (.inr ⟨_,0,none,_,true,rfl,WX _,h_ _ _,ς,(λc hc=>by cases hc),by simp[fQ]⟩)
 ·simp only[go_sem,WV c1];exact⟨fA.aD 1,Xb,fq.aC _ _⟩
def Fk (P:Program)(f:FuncId):Prop:=
 fZ P f=true/\∀(F:Nat->Prop)(h:fu) (ls:List (List Int)) (a:AV),Rd F h (s9 ls) a->ls.length<=2^40->ls.flatten.length<=2^40->fO P f [a] h λr h'=>fA (f_ ls.flatten) (λm=>h.length<=m) h' r/\fq fB h h'
theorem Kw (hf:Is P f (De g))(hg:FA P g):Fk P f:=by
 refine⟨hf.2,λF h ls a ha hl ht=>gy hf ?_⟩;have la:iJ a=some (ι ls.length):=by simpa using ha.aC
 simp only[De,go_sem,la];refine iP (λm L h'=>∃i:Nat,lk 0 L=a/\lk 9 L=a/\lk 10 L=ι ls.length/\lk 11 L=ι i/\lk 3 L=ι (ls.take i).flatten.length/\h=h'/\i<=ls.length/\m=ls.length-i) ls.length ?_ ?_;·exact⟨0,by simp[fE,iw],by simp[fE],by simp[fE],by simp[fE],by simp[fE],rfl,ω,ω⟩
 ·rintro m L h' ⟨i,k0,k9,U,O,k3,rfl,hi,rfl⟩;simp only[Hj,go_sem,U,O];refine iQ (λci=>?_) (λci=>?_)
  ·simp at ci;obtain⟨p,v,hp,hv,hr⟩:=ha.aM ci;have e:IntKind.i64.wrap (↑i+1)=(i:Int)+1:=gF ω;have u:=HK ls (i+1);rw[yV ci,WT]at u;have e2:IntKind.i64.wrap ((ls.take i).flatten.length+ls[i].length)=(((ls.take i).flatten.length+ls[i].length:Nat):Int):=by rw[gF ω];omega
   have cn:¬(((ls.take i).flatten.length+ls[i].length:Nat):Int)<0:=ω;simp only[go_sem,k0,k9,U,O,k3,hp,hv,hr.aF,e2,WV cn,e];exact⟨_,ω,i+1,ς,by rw[yV ci,WT],ci,rfl⟩
  ·simp at ci;obtain rfl:i=ls.length:=ω;rw[XF]at k3;simp only[go_sem,k3];refine fK ⟨hg.1,hg.2 _ ls.flatten.length ht⟩ ?_;rintro r h2 ⟨ro,rc,rx⟩;simp only[go_sem,k0,la];refine iP (λm L h'=>∃(i:Nat)(o:AV),lk 25 L=a/\lk 26 L=ι ls.length/\lk 27 L=ι i/\lk 6 L=o/\fA (f_ (ls.take i).flatten) (λm=>h.length<=m) h' o/\ic h' o/\fq fB h h'/\i<=ls.length/\m=ls.length-i) ls.length ?_ ?_;·exact⟨0,r,by simp[fE],by simp[fE],by simp[fE],by simp[fE],ro,rc,rx,ω,ω⟩
   ·rintro m L h3 ⟨i,o,Z,I,E,k6,hO,hA,hE,hi,rfl⟩;simp only[Hk,go_sem,I,E];refine iQ (λci=>?_) (λci=>?_);·simp at ci;obtain⟨p,v,hp,hv,hr⟩:=(ha.up hE).aM ci;have e:IntKind.i64.wrap (↑i+1)=(i:Int)+1:=gF ω;have u:=HK ls (i+1);rw[yV ci,WT]at u;obtain⟨ys,a1,a2⟩:=hr.aH;obtain⟨o2,h4,a6,a3,a5,a4⟩:=nW (bytes:=8) hO hA (fq.aC fB _) (wT a2) hE.1 (by simp only[Xd];omega);have W:=iR a1 8 o;rw[a6]at W;simp only[go_sem,Z,I,E,k6,hp,hv,W,e];exact⟨_,ω,i+1,o2,ς,rfl,by rw[yV ci,f_,XU];exact a3,a5,hE.aJ a4 (λm hm hm'=>ω),ci,rfl⟩
    ·simp at ci;obtain rfl:i=ls.length:=ω;rw[XF]at hO;simp only[go_sem,k6];exact⟨hO,hE⟩
variable {P:Program}{f g:FuncId}
def pL (n off:Nat)(cap:Option Nat)(l:List Int)(F:Nat->Prop)(h:fu):Prop:=
 F n/\∃row g,h[n]?=some (some (.aA 1 row g))/\off+l.length<=row.length/\uG cap l.length/\(row.drop off).take l.length=l.map λn=>[.aD .i64 n]
theorem RD {F:Nat->Prop}{h:fu}{l:List Int}{a:AV}(ho:fA (f_ l) F h a) (hl:l≠[]):∃n off cap,a=.aG n 1 off l.length cap/\pL n off cap l F h:=by
 simp only[f_,fA]at ho;rcases ho with⟨_,e⟩ | ⟨_,_,_,e⟩ | ⟨n,off,cap,row,g,rfl,hF,E,I,u,O⟩
 ·simp at e;exact absurd e hl
 ·simp at e;exact absurd e hl
 ·rw[Xd]at O I u ⊢;exact⟨n,off,cap,rfl,hF,row,g,E,I,u,El O⟩
theorem pL.aC {n off:Nat}{cap:Option Nat}{l:List Int}{F:Nat->Prop}{h:fu}(ho:pL n off cap l F h){k:Nat}(hk:k<=l.length):fA (f_ (l.take k)) F h (.aG n 1 off k cap):=by
 obtain⟨hF,row,g,e,hle,u,E⟩:=ho;have hl:(l.take k).length=k:=by simp;omega
 simp only[f_,fA,Xd,hl];refine .inr (.inr ⟨n,off,cap,row,g,rfl,hF,e,ω,λc hc=>by have:=u c hc;omega,?_⟩);have:(row.drop off).take k=(l.take k).map λn=>[ι n]:=by have:=Y5 (List.take k) E;rw[XM,XW hk,<-YX]at this;exact this
 rw[this];exact wS .i64 _ _ _
theorem pL.aA {n off:Nat}{cap:Option Nat}{l:List Int}{F:Nat->Prop}{h:fu}(ho:pL n off cap l F h){k:Nat}(hk:k<l.length):iK h false 1 (.aA n 1 (off+k) 0)=some (ι l[k]):=by
 obtain⟨hF,row,g,e,hle,hcap,u⟩:=ho;have:((row.drop off).take l.length)[k]?=some [ι l[k]]:=by rw[u];simp[hk]
 rw[XV hk,Xv]at this;rw[Gl,e,JD,this];rfl
theorem pL.aD {n off:Nat}{cap:Option Nat}{l:List Int}{F:Nat->Prop}{h:fu}(ho:pL n off cap l F h){k:Nat}(hk:k<l.length)(v:Int):
  ∃h',qy h 1 (.aA n 1 (off+k) 0) (ι v)=some h'/\pL n off cap (l.set k v) F h'/\fq F h h':=by
 obtain⟨hF,row,g,e,I,u,E⟩:=ho;have h1:((row.drop off).take l.length)[k]?=some [ι l[k]]:=by rw[E];simp[hk]
 rw[XV hk,Xv]at h1;have hlt:=(WR.1 e).1;refine⟨_,yk (x:=ι v) e h1 rfl rfl rfl rfl,⟨hF,_,g,W0 hlt,by simpa using I,by simpa using u,?_⟩,fq.aH _ (λ_=>hF)⟩;rw[List.drop_set,WY ω,W4,List.take_set,E,Zk,show off+k-off=k by omega]
def Fj (P:Program)(f:FuncId):Prop:=
 fZ P f=true/\∀(F:Nat->Prop)(h:fu)(l:List Int)(a:AV),fA (f_ l) F h a->l.length<=2^40->fO P f [a] h λr h'=>fA (f_ (wu l)) F h' r/\fq F h h'
theorem Kv (hf:Is P f Dd):Fj P f:=by
 refine⟨hf.2,λF h l a ho hl=>gy hf ?_⟩;have la:=(fA.rd (F':=λ_=>True) _ (λ_ _=>Xb) _ ho).aF;simp only[Dd,go_sem,la];by_cases c2:(l.length:Int)<2
 ·simp only[go_sem,WZ c2];refine⟨?_,fq.aC _ _⟩;have:wu l=l:=by
   match l,c2 with
   | [],_=>rfl
   | [x],_=>rfl
   | x :: y :: r,h=>simp at h;omega
  rw[this];exact ho
 ·have ac:l≠[]:=by rintro rfl;simp at c2
  obtain⟨n,off,cap,rfl,hI⟩:=RD ho ac;have Z:∀(i:Int)(k:Nat),i=k->k<l.length->jq 1 (.aG n 1 off l.length cap) (ι i)=some (.aA n 1 (off+k) 0):=λi k e hk=>by subst e;simp only[jq];rw[WW ⟨Xb,ω,ω⟩];simp
  simp only[go_sem,WV c2];refine iP (λm L h'=>∃i:Nat,lk 0 L=.aG n 1 off l.length cap/\lk 3 L=ι i/\h=h'/\1<=i/\i<=l.length/\m=l.length-i/\dn l i=l.take i) (l.length-1) ?_ ?_
  ·refine⟨1,by simp[fE,iw],by simp[fE],rfl,ω,ω,ω,?_⟩;match l,ac with
   | x :: r,_=>simp[dn]
  ·rintro m L h' ⟨i,k0,k3,rfl,hi1,hi,rfl,hd⟩;simp only[Hi,go_sem,k0,k3,la];refine iQ (λci=>?_) (λci=>?_)
   ·simp at ci;have e1:IntKind.i64.wrap (↑i+1)=(i:Int)+1:=gF ω;have e2:IntKind.i64.wrap (↑i-1)=((i-1:Nat):Int):=by rw[gF ω];omega
    simp only[go_sem,k0,k3,e2,Z _ i rfl ci,Z _ (i-1) rfl ω,hI.aA ci,hI.aA (show i-1<l.length by omega)];have a5:dn l (i+1)=l.take i++(if l[i]=l[i-1] then [] else [l[i]]):=by
     simp only[dn,hd];rw[WU ci,WU (show i-1<l.length by omega)];congr 1;by_cases e:l[i]=l[i-1];·rw[WW ⟨ω,by rw[e]⟩,WW e]
     ·rw[WY (λh=>e (ZH h.2)),WY e];rfl
    by_cases ce:l[i]=l[i-1]
    ·rw[WW ce,Yd]at a5;have hs:iX 1 (.aG n 1 off l.length cap) (some (i:Int)) none none=some (.aG n 1 (off+i) (l.length-i) (jW none i cap)):=by obtain⟨_,row,g,O,aa,u,a4⟩:=hI;simp only[iX,XJ,Yo];rw[WW ⟨Xb,ω,ω,ω,ω,by cases cap with | none=>simp | some c=>have:=u c rfl;simp;omega⟩,WY ω,WW ω];simp
     simp only[go_sem,WZ ce,k0,k3,n_,hs];have U:∀(j:Int)(k:Nat),j=k->i+k<l.length->jq 1 (.aG n 1 (off+i) (l.length-i) (jW none i cap)) (ι j)=some (.aA n 1 (off+(i+k)) 0):=λj k e hk=>by subst e;simp only[jq];rw[WW ⟨Xb,ω,ω⟩];simp;omega
     refine iP (λm L h'=>∃(k q:Nat)(I:List Int),lk 0 L=.aG n 1 off l.length cap/\lk 4 L=.aG n 1 (off+i) (l.length-i) (jW none i cap)/\lk 3 L=ι q/\lk 5 L=ι k/\pL n off cap I F h'/\fq F h h'/\I.length=l.length /\
      1<=k/\i+k<=l.length/\q<=i+k-1/\i<=q/\I.take q=dn l (i+k)/\(∀j,q<=j->I[j]?=l[j]?)/\m=l.length-i-k) (l.length-i-1) ?_ ?_
     ·exact⟨1,i,l,by simp[fE,k0],by simp[fE],by simp[fE,k3],by simp[fE],hI,fq.aC _ _,rfl,ω,ω,ω,ω,a5.symm,λj hj=>rfl,ω⟩
     ·rintro m L h2 ⟨k,q,I,k0,k4,k3,k5,hC,hE,a6,hk1,hk,hq,ah,a8,E,rfl⟩;have l4:iJ (.aG n 1 (off+i) (l.length-i) (jW none i cap))=some (ι ((l.length-i:Nat):Int)):=rfl;simp only[Hh,go_sem,k4,k5,l4];refine iQ (λck=>?_) (λck=>?_)
      ·simp at ck;have a7:i+k<l.length:=ω;have e3:IntKind.i64.wrap (↑k+1)=(k:Int)+1:=gF ω;have e4:IntKind.i64.wrap (↑k-1)=((k-1:Nat):Int):=by rw[gF ω];omega
       have e5:IntKind.i64.wrap (↑q+1)=(q:Int)+1:=gF ω;have a1:=hC.aA (show i+k<I.length by omega);have a2:=hC.aA (show i+(k-1)<I.length by omega);have g1:I[i+k]' ω=l[i+k]:=by have:=E (i+k) ω;rw[WU ω,WU a7]at this;exact ZH this
       have g2:I[i+(k-1)]' ω=l[i+k-1]' ω:=by have:=E (i+(k-1)) ω;rw[WU ω,WU ω]at this;have e:=ZH this;rw[e];congr 1;omega
       rw[g1]at a1;rw[g2]at a2;have W:dn l (i+(k+1))=dn l (i+k)++(if l[i+k]=l[i+k-1] then [] else [l[i+k]]):=by
        rw[<-YW];simp only[dn];rw[WU a7,WU (show i+k-1<l.length by omega)];congr 1;by_cases e:l[i+k]=l[i+k-1];·rw[WW ⟨ω,by rw[e]⟩,WW e]
        ·rw[WY (λh=>e (ZH h.2)),WY e];rfl
       simp only[go_sem,k4,k5,e4,U _ k rfl a7,U _ (k-1) rfl ω,a1,a2];by_cases cq:l[i+k]=l[i+k-1];·rw[WW cq,Yd]at W;simp only[go_sem,WZ cq,k0,k4,k3,k5,e3];exact⟨_,ω,k+1,q,I,ς,ς,hC,hE,a6,ω,ω,ω,ah,by rw[W];exact a8,E,rfl⟩
       ·rw[WY cq]at W;obtain⟨h3,s1,s2,s3⟩:=hC.aD (show q<I.length by omega) l[i+k];simp only[go_sem,WV cq,k0,k4,k3,k5,Z _ q rfl ω,U _ k rfl a7,a1,s1,e3,e5];refine⟨_,ω,k+1,q+1,I.set q l[i+k],ς,ς,s2,hE.aD s3 (λ_ _ x=>x) (λ_ _ x=>x),by simpa using a6,ω,ω,ω,ω,?_,λj hj=>?_,rfl⟩;·rw[W,<-a8,XE (by simp;omega),Yr,List.take_set_of_le (WX _)]
        ·rw[WS ω];exact E j ω
      ·simp at ck;have ai:i+k=l.length:=ω;have hql:q<l.length:=ω;have af:iX 1 (.aG n 1 off l.length cap) (some (q:Int)) none none=some (.aG n 1 (off+q) (l.length-q) (jW none q cap)):=by obtain⟨_,row,g,O,aa,u,a4⟩:=hC;rw[a6]at u;simp only[iX,XJ,Yo];rw[WW ⟨Xb,ω,ω,ω,ω,by cases cap with | none=>simp | some c=>have:=u c rfl;simp;omega⟩,WY ω,WW ω];simp
       have ae:iX 1 (.aG n 1 off l.length cap) none (some (q:Int)) none=some (.aG n 1 off q cap):=by obtain⟨_,row,g,O,aa,u,a4⟩:=hC;rw[a6]at u;simp only[iX,XJ,Yo];rw[WW ⟨Xb,ω,ω,ω,ω,by cases cap with | none=>simp;omega | some c=>have:=u c rfl;simp;omega⟩];simp[jW]
       obtain⟨hF,row,g,O,aa,u,a4⟩:=hC;have ab:uv h2 1 [ι 0] (.aG n 1 (off+q) (l.length-q) (jW none q cap))=some (h2.set n (some (.aA 1 (iq row (off+q) (List.replicate (l.length-q) [ι 0])) g))):=by simp only[uv];rw[WY ω,O];simp only;rw[WW ⟨Xb,Xb,ω⟩]
       simp only[go_sem,k0,k3,n_,af,Pk,ab,ae];have hlt:=(WR.1 O).1;have a9:(iq row (off+q) (List.replicate (l.length-q) [ι 0])).length=row.length:=by simp only[iq,WT,W7,Xk,YE];omega
       have aj:pL n off cap (I.take q) F (h2.set n (some (.aA 1 (iq row (off+q) (List.replicate (l.length-q) [ι 0])) g))):=by
        refine⟨hF,_,g,W0 hlt,by rw[a9];simp;omega,λc hc=>by have:=u c hc;simp;omega,?_⟩;have h1:(row.take (off+q)).length=off+q:=by simp;omega
        have ag:(I.take q).length=q:=by simp;omega
        rw[ag];have h3:((iq row (off+q) (List.replicate (l.length-q) [ι 0])).drop off).take q=(row.drop off).take q:=by simp only[iq];rw[Xl,YJ ω,Xz (by simp;omega),List.drop_take,XM];congr 1;omega
        rw[h3];have:=Y5 (List.take q) a4;rw[XM,XW ω,<-YX]at this;exact this
       have a3:=aj.aC (k:=q) (by simp;omega);rw[XM,Zl,a8,ai]at a3;exact⟨a3,hE.aD (fq.aH _ (λ_=>hF)) (λ_ _ x=>x) (λ_ _ x=>x)⟩
    ·rw[WY ce]at a5;simp only[go_sem,WV ce,k0,k3,e1];exact⟨_,ω,i+1,ς,ω,ci,rfl,by rw[a5,XE ci]⟩
   ·simp at ci;obtain rfl:i=l.length:=ω;rw[XF]at hd;simp only[go_sem,k0];exact⟨by rw[wu,hd];exact ho,fq.aC _ _⟩
variable {P:Program}{f g:FuncId}
def x_ (P:Program)(f:FuncId):Prop:=
 fZ P f=true/\∀(F:Nat->Prop)(h:fu) (ls:List (List Int)) (a:AV),Rd F h (s9 ls) a->ls.length<=2^40->ls.flatten.length<=2^40->fO P f [a] h λr h'=>fA (f_ (qO ls.flatten)) (λm=>h.length<=m) h' r/\fq fB h h'
theorem Vv {c s k:FuncId}(hf:Is P f (Cx c s k))(hc:Fk P c)(hs:FW P s)(hk:Fj P k):x_ P f:=by refine⟨hf.2,λF h ls a ha hl ht=>gy hf ?_⟩;simp only[Cx,go_sem];refine fK ⟨hc.1,hc.2 F _ ls a ha hl ht⟩ ?_;rintro r h1 ⟨ro,rx⟩;simp only[go_sem];refine fK ⟨hs.1,hs.2 _ _ _ r ro ht⟩ ?_;rintro _ h2 ⟨so,sx⟩;simp only[go_sem];refine fK ⟨hk.1,hk.2 _ _ _ r so (by rw[JP];exact ht)⟩ ?_;rintro u h3 ⟨uo,ux⟩;simp only[go_sem];rw[NS]at uo;exact⟨uo,(rx.aJ sx (λm hm e=>ω)).aJ ux (λm hm e=>ω)⟩
def pJ (P:Program)(f:FuncId)(t:fI->List Int):Prop:=
 fZ P f=true/\∀(F:Nat->Prop)(h:fu)(x:fI)(a:List AV),fH F h x.c a->x.aH (2^38)->fO P f [.aF a] h λr h'=>fA (f_ (t x)) (λm=>h.length<=m) h' r/\fq fB h h'
theorem SZ {F:Nat->Prop}{H:fu}{o n:AV}{x y:List Int}(ho:Rd F H (f_ x) o)(hn:Rd F H (f_ y) n):Rd (λ_=>True) (H++[some (.aA 1 [[o],[n]] false)]) (s9 [x,y]) (.aG H.length 1 0 2 (some 2)):=by have x0:=fq.b1 (h:=H) (some (.aA 1 [[o],[n]] false));simp only[s9,XD,Yb,Rd];refine⟨[[o],[n]],.inr (.inr ⟨H.length,0,2,some 2,[[o],[n]],false,rfl,Xb,h_ _ _,ς,λc hc=>by cases hc;omega,rfl⟩),?_⟩;simp only[gB,fH];exact⟨_,_,rfl,⟨o,_,rfl,Rd.aE (λ_ _=>Xb) (ik.lt _ _) _ _ (ho.up x0),rfl⟩,_,_,rfl,⟨n,_,rfl,Rd.aE (λ_ _=>Xb) (ik.lt _ _) _ _ (hn.up x0),rfl⟩,rfl⟩
theorem S6 {F:Nat->Prop}{H:fu}{o n e:AV}{x y z:List Int}(ho:Rd F H (f_ x) o)(hn:Rd F H (f_ y) n)(he:Rd F H (f_ z) e):Rd (λ_=>True) (H++[some (.aA 1 [[o],[n],[e]] false)]) (s9 [x,y,z]) (.aG H.length 1 0 3 (some 3)):=by have x0:=fq.b1 (h:=H) (some (.aA 1 [[o],[n],[e]] false));simp only[s9,XD,Yb,Rd];refine⟨[[o],[n],[e]],.inr (.inr ⟨H.length,0,3,some 3,[[o],[n],[e]],false,rfl,Xb,h_ _ _,ς,λc hc=>by cases hc;omega,rfl⟩),?_⟩;simp only[gB,fH];exact⟨_,_,rfl,⟨o,_,rfl,Rd.aE (λ_ _=>Xb) (ik.lt _ _) _ _ (ho.up x0),rfl⟩,_,_,rfl,⟨n,_,rfl,Rd.aE (λ_ _=>Xb) (ik.lt _ _) _ _ (hn.up x0),rfl⟩,_,_,rfl,⟨e,_,rfl,Rd.aE (λ_ _=>Xb) (ik.lt _ _) _ _ (he.up x0),rfl⟩,rfl⟩
theorem Sn (hf:Is P f (Cs g))(hg:x_ P g):pJ P f fI.aI:=by
 refine⟨hf.2,λF h x a ha hx=>gy hf ?_⟩;obtain⟨o,n,e,rfl,ho,hn,he⟩:=pA ha;simp only[Cs,go_sem,ho.aA,hn.aA,he.aA,gV ho.aA,gV hn.aA];have u:=SZ (ho.up (fq.b1 (some (.aA 3 [[o,n,e]] false)))) (hn.up (fq.b1 (some (.aA 3 [[o,n,e]] false))));simp only[zk]at u;obtain⟨h1,h2,h3⟩:=hx;refine fK ⟨hg.1,hg.2 _ _ [x.aA,x.aC] _ u ς (by simp;omega)⟩ ?_;rintro r h2 ⟨ro,rx⟩;simp only[go_sem];refine⟨?_,(fq.b2 _ _).tr rx⟩;have:[x.aA,x.aC].flatten=x.aA++x.aC:=by simp
 rw[this]at ro;exact fA.aC _ (λm hm=>by simp at hm;omega) (λ_ _ _ x=>x) _ ro
theorem Sm (hf:Is P f (Cr g))(hg:x_ P g):pJ P f fI.aM:=by
 refine⟨hf.2,λF h x a ha hx=>gy hf ?_⟩;obtain⟨o,n,e,rfl,ho,hn,he⟩:=pA ha;simp only[Cr,go_sem,ho.aA,hn.aA,he.aA,gV ho.aA,gV hn.aA,gV he.aA];have u:=S6 (ho.up (fq.b1 (some (.aA 3 [[o,n,e]] false)))) (hn.up (fq.b1 (some (.aA 3 [[o,n,e]] false)))) (he.up (fq.b1 (some (.aA 3 [[o,n,e]] false))));simp only[zk]at u;obtain⟨h1,h2,h3⟩:=hx;refine fK ⟨hg.1,hg.2 _ _ [x.aA,x.aC,x.aD] _ u ς (by simp;omega)⟩ ?_;rintro r h2 ⟨ro,rx⟩;simp only[go_sem];refine⟨?_,(fq.b2 _ _).tr rx⟩;have:[x.aA,x.aC,x.aD].flatten=x.aA++x.aC++x.aD:=by simp
 rw[this]at ro;exact fA.aC _ (λm hm=>by simp at hm;omega) (λ_ _ _ x=>x) _ ro
def lI:Option Int->List Int->Bool
 | _,[]=>true
 | p,x :: r=>!(decide (x<1) || decide (7<x) || (match p with | none=>false | some y=>decide (x<=y))) && lI (some x) r
def vh (l:List Int):Nat->Option Int
 | 0=>none
 | i+1=>l[i]?
def fI.aF (x:fI):Bool:=!(decide (x.aA.length=0) || !lI none x.aA || !lI none x.aC || !lI none x.aD || x.aD.any λn=>decide (n∈x.aA) || decide (n∈x.aC))
def FQ (P:Program)(f:FuncId):Prop:=
 fZ P f=true/\∀(F:Nat->Prop)(h:fu)(l:List Int)(a:AV),Rd F h (f_ l) a->l.length<=2^40->fO P f [a] h λr h'=>r=.aE (lI none l)/\h'=h
theorem TM (hf:Is P f Cw):FQ P f:=by
 refine⟨hf.2,λF h l a ha hl=>gy hf ?_⟩;have la:=ha.aF;simp only[Cw,go_sem,la];refine iP (λm L h'=>∃i:Nat,lk 0 L=a/\lk 5 L=a/\lk 6 L=ι l.length/\lk 7 L=ι i/\h=h'/\i<=l.length/\m=l.length-i/\lI (vh l i) (l.drop i)=lI none l) l.length ?_ ?_;·exact⟨0,by simp[fE,iw],by simp[fE],by simp[fE],by simp[fE],rfl,ω,ω,rfl⟩
 ·rintro m L h1 ⟨i,k0,k5,k6,k7,rfl,hi,rfl,hq⟩;simp only[Ha,go_sem,k6,k7];refine iQ (λci=>?_) (λci=>?_)
  ·simp at ci;obtain⟨p,hp,hv⟩:=ha.aG ci;have e1:IntKind.i64.wrap (↑i+1)=(i:Int)+1:=gF ω;rw[YL ci]at hq;simp only[lI]at hq;have e:vh l (i+1)=some l[i]:=by simp[vh,ci]
   simp only[go_sem,k5,k7,hp,hv];by_cases c1:l[i]<1;·simp only[go_sem,WZ c1];rw[<-hq];simp[c1]
   by_cases c2:7<l[i]
   ·simp only[go_sem,WV c1,WZ c2];rw[<-hq];simp[c2]
   by_cases c3:0<(i:Int)
   ·obtain⟨j,rfl⟩:∃j,i=j+1:=⟨i-1,ω⟩;obtain⟨p2,I,u⟩:=ha.aG (i:=j) ω;have e2:IntKind.i64.wrap (((j+1:Nat):Int)-1)=(j:Int):=by rw[gF ω];omega
    have E:vh l (j+1)=some (l[j]' ω):=by simp only[vh];exact WU ω
    rw[E]at hq;simp only[go_sem,WV c1,WV c2,WZ c3,k0,e2,I,u];by_cases c4:l[j+1]<=l[j]' ω;·simp only[go_sem,WZ c4];rw[<-hq];simp[c4]
    ·simp only[go_sem,WV c4,k0,k5,k6,k7,e1];refine⟨_,ω,j+1+1,ς,ω,rfl,?_⟩;rw[e,<-hq];simp[c1,c2,c4]
   ·obtain rfl:i=0:=ω;simp only[go_sem,WV c1,WV c2,WV c3,k0,k5,k6,k7,e1];refine⟨_,ω,1,ς,ω,rfl,?_⟩;rw[e,<-hq];simp[c1,c2,vh]
  ·simp at ci;obtain rfl:i=l.length:=ω;rw[ZB]at hq;simp only[go_sem];rw[<-hq];rfl
variable {P:Program}{f g:FuncId}
def fI.aK (x:fI)(n:Int):Bool:=decide (n∈x.aA) || decide (n∈x.aC)
theorem fI.aQ (x:fI):x.aF=!(decide (x.aA.length=0) || !lI none x.aA || !lI none x.aC || !lI none x.aD || x.aD.any x.aK):=rfl
theorem Kp (hf:Is P f (yD g))(hg:oM P g){F:Nat->Prop}{h:fu}{x:fI}{o n e:AV}{m:Nat}(ho:Rd F h (f_ x.aA) o)(hn:Rd F h (f_ x.aC) n)(hx:x.aH (2^38))
  (hq:h[m]?=ar 3 [[o,n,e]]) (k:Int):fO P f [ι k,.aA m 3 0 0] h λr h'=>r=.aE (x.aK k)/\h'=h:=by
 refine gy hf ?_;obtain⟨h1,h2,h3⟩:=hx;simp only[yD,go_sem,hq];refine gH hg.1 (hg.2 F _ x.aA o k ho ω) ?_;by_cases c:k∈x.aA;·simp only[go_sem,WZ c];simp[fI.aK,c]
 ·simp only[go_sem,WV c,hq];refine gH hg.1 (hg.2 F _ x.aC n k hn ω) ?_;simp only[go_sem];simp[fI.aK,c]
def Aa (P:Program)(f:FuncId):Prop:=
 fZ P f=true/\∀(F:Nat->Prop)(h:fu)(x:fI)(a:List AV),fH F h x.c a->x.aH (2^38)->fO P f [.aF a] h λr h'=>r=.aD .i64 (if x.aF then 0 else 29)/\h'=h
theorem Jw (g:fN->AV)(h:fu)(f:FuncId)(cs:List fN):gM g h (.aC f cs)=some (.aL f [] (cs.map g)):=W_ rfl rfl
theorem Sl {k c s:FuncId}(hf:Is P f (Cq k g c))(hk:Is P k (yD s))(hs:oM P s)(hg:FQ P g)(hc:Ag P c):Aa P f:=by
 refine⟨hf.2,λF h x a ha hx=>kx rfl (gy hf ?_)⟩;obtain⟨o,n,e,rfl,ho,hn,he⟩:=pA ha;have u:=hx;obtain⟨h1,h2,h3⟩:=hx;have lo:=ho.aF;simp only[Cq,go_sem,Jw,XD,Yb,ho.aA,hn.aA,he.aA,lo,IJ];by_cases c0:x.aA.length=0;·simp only[go_sem,WZ c0];exact⟨by simp[fI.aQ,c0],fq.b1 _⟩
 simp only[go_sem,WV c0];refine gH hg.1 (hg.2 F _ x.aA o (ho.up (fq.b1 _)) ω) ?_;cases c1:lI none x.aA;·simp only[go_sem];exact⟨by simp[fI.aQ,c1],fq.b1 _⟩
 simp only[go_sem];refine gH hg.1 (hg.2 F _ x.aC n (hn.up (fq.b1 _)) ω) ?_;cases c2:lI none x.aC;·simp only[go_sem];exact⟨by simp[fI.aQ,c2],fq.b1 _⟩
 simp only[go_sem];refine gH hg.1 (hg.2 F _ x.aD e (he.up (fq.b1 _)) ω) ?_;cases c3:lI none x.aD;·simp only[go_sem];exact⟨by simp[fI.aQ,c3],fq.b1 _⟩
 simp only[go_sem];refine gH hc.1 (hc.2 F _ x.aD e k [] [.aA h.length 3 0 0] x.aK (he.up (fq.b1 _)) ω hk.2 (λm=>Kp hk hs (ho.up (fq.b1 _)) (hn.up (fq.b1 _)) u (h_ _ _) m)) ?_;by_cases c4:0<x.aD.countP x.aK
 ·have c5:(0:Int)<x.aD.countP x.aK:=ω;have:x.aD.any x.aK=true:=by rw[Zr];exact List.countP_pos_iff.1 c4
  simp only[go_sem,WZ c5];exact⟨by simp only[fI.aQ,this,ZD];rfl,fq.b1 _⟩
 ·have c5:¬(0:Int)<x.aD.countP x.aK:=ω;have:x.aD.any x.aK=false:=by rw[<-Bool.not_eq_true,Zr];exact λh=>c4 (List.countP_pos_iff.2 h)
  simp only[go_sem,WV c5];exact⟨by simp only[fI.aQ,this,c1,c2,c3,WV c0];rfl,fq.b1 _⟩
end Glb
