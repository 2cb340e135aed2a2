/-
  A library of its own.
-/
import Derived.Test.YtdeiamnhnfmilaaGreatGlbQuoA
import Derived.Sort.Grow
set_option linter.unusedSimpArgs false
set_option linter.unusedVariables false
set_option maxRecDepth 10000
set_option maxHeartbeats 4000000
namespace Glb
open Go
structure Ey (P:Program)(f:FuncId):Prop where
 is:fK P f=true
 aC:∀(blk off cap:Nat)(zs:List Int)(w:World),Go.Sort.Holds (Value.int .i64) w blk off zs.toArray->blk<w.heap.size->zs.length<4611686018427387904->
  Calls P f #[.slice (some ⟨blk,off,none⟩) zs.length cap] w λe w'=>e=.returned (.tuple #[])/\∃n os,w'=Go.Sort.grow (Go.Sort.putRow (Value.int .i64) (Go.Sort.ahead w n) blk off (zs.mergeSort λx y=>decide (x<=y)).toArray) os
 aA:∀(p:Option Addr)(cap:Nat)(w:World),Calls P f #[.slice p 0 cap] w λe w'=>e=.returned (.tuple #[])/\w'=w
def jo (l:List Int):List Int:=l.mergeSort λx y=>decide (x<=y)
theorem Iu (l:List Int):(jo l).length=l.length:=List.length_mergeSort _
def zj (P:Program)(f:FuncId):Prop:=
 fK P f=true/\∀(F:Nat->Prop)(h:eX)(l:List Int)(a:AV),eY (fN l) F h a->l.length<=2^40->fC P f [a] h λ_ h'=>eY (fN (jo l)) F h' a/\eW F h h'
theorem It {P : Program} {f : FuncId} (hk : Ey P f) : zj P f := by
 refine ⟨hk.is, λF h l a ho hl G w vs g hv => ?_⟩;obtain ⟨v, rfl⟩ : ∃ v, vs = #[v] := by
  have := hv.1;match vs with
  | ⟨[v]⟩ => exact ⟨v, rfl⟩
  | ⟨[]⟩ => simp at this
  | ⟨_ :: _ :: _⟩ => simp at this
 have hV : V G w a v := hv.2 0 a v rfl rfl;have nil : ∀ p cap, v = .slice p 0 cap -> l = [] -> Calls P f #[v] w λe w' => ∃ v r h' G', e = .returned v /\ (eY (fN (jo l)) F h' a /\ eW F h h') /\ fO G' w' h' /\ V G' w' r v /\ gI G w G' w' := by rintro p cap rfl rfl;refine (hk.aA p cap w).mono ?_;rintro e w' ⟨rfl, rfl⟩;exact ⟨_, .aR, h, G, rfl, ⟨by simpa [jo] using ho, eW.aC _ _⟩, g, .aI _, gI.aD G w'⟩
 have ho' := ho;simp only [fN, eY] at ho;rcases ho with ⟨rfl, e⟩ | ⟨t, c, rfl, e⟩ | ⟨n, off, cap, row, gr, rfl, hF, I, ae, a1, ah⟩
 ·have : l = [] := by simpa using e
  cases hV; exact nil _ _ rfl this
 ·have : l = [] := by simpa using e
  cases hV with
  | aF => exact nil _ _ rfl this
  | aE => exact nil _ _ rfl this
 ·rw [Vg] at ah ae a1 hV;have hr := xM ah;generalize hlen : l.length = len at hV;cases hV with
  | aH => exact nil _ _ rfl (U7 hlen)
  | aC _ _ _ _ _ c ty m b hn hb hlc hcapc hs hm =>
   subst hlen;have u := g.aN I hb;have a3 := g.aO u hb;obtain ⟨⟨cells, ac, Z, h1, h2, h3⟩, ad⟩ := g.aC n 1 row gr b I hb;have ai : ∀ i (hi : i < l.length), cells[off + i]? = some (.int .i64 l[i]) := by
    intro i hi;have : gw row (off + i) 0 = some (.aA .i64 l[i]) := by
     have h0 : ((row.drop off).take l.length)[i]? = some [.aA .i64 l[i]] := by rw [hr]; simp [hi]
     rw [VQ hi, Vt] at h0;simp [gw, h0]
    obtain ⟨v, hv, hV⟩ := h3 _ _ _ this;cases hV;simpa using hv
   have hH : Go.Sort.Holds (Value.int .i64) w b off l.toArray := by
    intro j hj;have af : j < l.length := by simpa using hj
    refine ⟨?_, by simp [World.frozen?, Z]⟩;have a9 : l.toArray[j]! = l[j] := by simp [af]
    rw [a9];simp only [World.cell?, Z, Option.isSome_none, Vn, VI];exact ai j af
   have a2 := hk.aC b off c l w hH a3 (by omega);rw [Nat.mul_one];refine a2.mono ?_;rintro e w' ⟨rfl, n0, os, rfl⟩;have W : (jo l).length = l.length := Iu l;simp only [Vg];have ak : (l.mergeSort λx y => decide (x <= y)) = jo l := rfl;rw [ak];generalize hw' : Go.Sort.grow (Go.Sort.putRow (Value.int .i64) (Go.Sort.ahead w n0) b off (jo l).toArray) os = w';have E : ∀ k, k < w.heap.size -> k ≠ b -> w'.heap[k]? = w.heap[k]? := by intro k hk a7;subst hw';rw [Go.Sort.heap_grow_old _ _ (by simpa [Go.Sort.putRow, Go.Sort.mapBlock, Go.Sort.ahead] using hk)];simp [Go.Sort.putRow, Go.Sort.mapBlock, Go.Sort.ahead, WY];intro e; exact absurd e.symm a7
   have U : w'.heap[b]? = some (.cells (Go.Sort.putCells (Value.int .i64) off (jo l).toArray cells) ac (0, 0)) := by subst hw';rw [Go.Sort.heap_grow_old _ _ (by simpa [Go.Sort.putRow, Go.Sort.mapBlock, Go.Sort.ahead] using a3)];simp [Go.Sort.putRow, Go.Sort.mapBlock, Go.Sort.ahead, WY, Z, Go.Sort.onCells]
   have C : w.heap.size <= w'.heap.size := by subst hw'; simp [Go.Sort.putRow, Go.Sort.mapBlock, Go.Sort.ahead]
   have a6 : (Go.Sort.putCells (Value.int .i64) off (jo l).toArray cells).size = cells.size := by simp [Go.Sort.putCells]
   have k : ic G w G w' := by
    refine ⟨U8 _, λ_ _ _ h => h, λ_ _ h => h, λ_ _ h => h, λt b' hp => E b' (g.aQ hp) ?_, λb' M => ?_⟩
    ·rintro rfl;cases t with
     | zero => exact g.aG n _ u hb hp
     | succ m => exact g.aF n m _ u hb hp
    ·by_cases e : b' = b
     ·subst e;simp only [World.shape?, U, Z, a6]
     ·have hlt : b' < w.heap.size := by apply Vb; intro hn;simp only [World.shape?, Array.getElem?_eq_none (Nat.le_of_not_lt hn)] at M;exact absurd M (by simp)
      simp only [World.shape?, E b' hlt e]
   let ys : List (List AV) := (jo l).map λn => [.aA .i64 n]
   have a4 : ys.length = l.length := by simp [ys, W]
   have O : (gM row off ys).length = row.length := by simp only [gM, U1, Va, Vo, a4]; omega
   have ab : kL G w' b 1 (gM row off ys) gr := by
    refine ⟨⟨_, ac, U, by rw [a6, O]; exact h1, λe => by rw [a6, O]; exact h2 e, λi j c hj => ?_⟩, Ho ad (λe he => ?_) off⟩
    ·have a5 : ∀ i, (Go.Sort.putCells (Value.int .i64) off (jo l).toArray cells)[i]? = (cells[i]?).map λx => if off <= i /\ i < off + (jo l).toArray.size then Value.int .i64 (jo l).toArray[i - off]! else x := by intro i; simp only [Go.Sort.putCells, Array.getElem?_mapIdx]
     rcases Gt (by omega) hj with ⟨hlt, hc⟩ | ⟨aa, hlt, hc⟩ | ⟨aa, hc⟩
     ·obtain ⟨v, hv, hV⟩ := h3 i j c hc;have a8 : j = 0 := by have := (ad _ (Vx (show i < row.length by omega))).1;simp only [gw] at hc;rw [U0 (by omega : i < row.length)] at hc;simp only [Wi] at hc;have := (UY.1 hc).1;omega
      subst a8;refine ⟨v, ?_, hV.aA k⟩;rw [a5, hv]; simp only [Nat.mul_one, WK, Ws];rw [U6 (by omega)]
     ·rw [a4] at hlt;have ag : i - off < (jo l).length := by omega
      simp only [gw, ys, VE, U0 ag, Ws, Wi] at hc;have a8 : j = 0 := by have := (UY.1 hc).1; simpa using this
      subst a8;simp at hc;subst hc;have am : (cells[i]?).isSome := by have := ai (i - off) (by omega); rw [show off + (i - off) = i by omega] at this; simp [this]
      obtain ⟨v0, aj⟩ := W5.1 am;refine ⟨_, ?_, .aD .i64 _⟩;rw [a5, Nat.mul_one, WK, aj];simp only [Ws];rw [U4 ⟨aa, by simp; omega⟩];simp [ag]
     ·rw [a4] at aa;obtain ⟨v, hv, hV⟩ := h3 i j c hc;refine ⟨v, ?_, hV.aA k⟩;rw [a5, hv]; simp only [Ws];rw [U6 (by simp [W]; omega)]
    ·obtain ⟨x, _, rfl⟩ := Wr.1 he;exact ⟨rfl, rfl⟩
   refine ⟨_, .aR, h.set n (some (.aA 1 (gM row off ys) gr)), G, rfl, ⟨?_, eW.aI _ (λ_ => hF)⟩, g.aV I hb k C (λm b' hm M a7 => ?_) ab, .aI _, ?_⟩
   ·have hlt := (UY.1 I).1;simp only [fN, eY];refine .inr (.inr ⟨n, off, cap, _, gr, by simp [W], hF, U5 hlt, by rw [O]; simpa [W] using ae, by simpa [W] using a1, ?_⟩);have : ((gM row off ys).drop off).take ((jo l).map λn => ([.aA .i64 n] : List D)).length = ys := by
     simp only [gM, Vg, W];have h1' : (row.take off).length = off := by simp; omega
     rw [Vr, Wg (by omega), List.drop_of_length_le (by omega), Wd, Vz (by omega), Vs (by omega)]
    rw [this];exact vu .i64 _ _ _
   ·refine E b' (g.aO hm M) ?_;rintro rfl;exact a7 (g.inj m n _ hm u M hb)
   ·refine ⟨k, ⟨λ_ h => h, λ_ h => .inl h⟩, λ_ _ => rfl, λ_ _ => WA, C, λb' M al => E b' M ?_, λb' M => .inl M, ?_, ?_, C, λx hx => ?_⟩;·rintro rfl; exact al (.inl ⟨n, u, hb⟩)
    ·subst hw'; rfl
    ·subst hw'; rfl
    ·by_cases e : x.block = b
     ·simp only [World.frozen?, e, U, Z]
     ·simp only [World.frozen?, E _ hx e]
def jC (l:List Int):Prop:=l.Pairwise (·<·)
theorem Ib:∀{a b:List Int},jC a->jC b->(∀n,n∈a↔n∈b)->a=b
 | [],[],_,_,_=>rfl
 | [],y :: b,_,_,h=>absurd ((h y).2 (by simp)) (by simp)
 | x :: a,[],_,_,h=>absurd ((h x).1 (by simp)) (by simp)
 | x :: a,y :: b,ha,hb,h=>by
  have C:=Wx.1 ha;have u:=Wx.1 hb;have E:x=y:=by
   rcases VP.1 ((h x).1 (by simp)) with e | e;·exact e
   ·rcases VP.1 ((h y).2 (by simp)) with e' | e';·exact e'.symm
    ·have:=u.1 x e;have:=C.1 y e';omega
  subst E;congr 1;refine Ib C.2 u.2 λn=>?_;have:=h n;simp only[VP]at this;constructor
  ·intro hn;rcases this.1 (.inr hn) with e | e;·have:=C.1 n hn;omega
   ·exact e
  ·intro hn;rcases this.2 (.inr hn) with e | e;·have:=u.1 n hn;omega
   ·exact e
def ny (n:Int):Bool->List Int->List Int
 | laid,[]=>if laid then [] else [n]
 | laid,x :: r=>if !laid && decide (n<x) then n :: x :: ny n true r else x :: ny n laid r
theorem xG (n:Int):∀l,ny n true l=l
 | []=>rfl
 | x :: r=>by simp only[ny,VF,Bool.false_and,Vn,VI,xG n r]
def rV (l:List Int)(n:Int):List Int:=ny n (decide (n∈l)) l
theorem GX {n:Int}:∀{l:List Int},jC l->n∉l->jC (ny n false l)/\∀m,m∈ny n false l↔m=n\/m∈l
 | [],_,_=>by simp[ny,jC]
 | x :: r,h,hn=>by
  have h':=Wx.1 h;simp only[ny,VN,Xs,VD];split
  ·rename_i hlt;rw[xG];refine⟨Wx.2 ⟨λy hy=>?_,h⟩,λm=>by simp⟩;rcases VP.1 hy with rfl | hy;·exact hlt
   ·have:=h'.1 y hy;omega
  ·rename_i hlt;obtain⟨h1,h2⟩:=GX (n:=n) h'.2 (λe=>hn (by simp[e]));have hne:n≠x:=λe=>hn (by simp[e]);refine⟨Wx.2 ⟨λy hy=>?_,h1⟩,λm=>?_⟩
   ·rcases (h2 y).1 hy with rfl | hy;·omega
    ·exact h'.1 y hy
   ·simp only[VP,h2];constructor;·rintro (e | e | e)<;>simp[e]
    ·rintro (e | e | e)<;>simp[e]
theorem UN {l:List Int}{n:Int}(h:jC l):jC (rV l n)/\∀m,m∈rV l n↔m=n\/m∈l:=by
 by_cases hn:n∈l
 ·simp only[rV,U3 hn,xG];exact⟨h,λm=>⟨.inr,λe=>e.elim (λe=>e▸hn) id⟩⟩
 ·simp only[rV,U2 hn];exact GX h hn
def p7 (l more:List Int):List Int:=more.foldl rV l
theorem EO:∀{more l:List Int},jC l->jC (p7 l more)/\∀m,m∈p7 l more↔m∈l\/m∈more
 | [],l,h=>⟨h,λm=>by simp[p7]⟩
 | n :: r,l,h=>by
  obtain⟨h1,h2⟩:=UN (n:=n) h;obtain⟨h3,h4⟩:=EO (more:=r) h1;refine⟨h3,λm=>?_⟩;have:=h4 m;simp only[p7,W8]at this ⊢;rw[this,h2];simp only[VP];constructor;·rintro ((e | e) | e)<;>simp[e]
  ·rintro (e | e | e)<;>simp[e]
def pP (l:List Int):List Int:=p7 [] l
theorem Dt (l:List Int):jC (pP l)/\∀m,m∈pP l↔m∈l:=by have:=EO (more:=l) (l:=[]) List.Pairwise.nil;exact⟨this.1,λm=>by rw[pP,this.2];simp⟩
theorem UM (l:List Int)(n:Int):(rV l n).length<=l.length+1:=by
 have:∀(l:List Int)(b:Bool),(ny n b l).length<=l.length+1:=by
  intro l;induction l with
  | nil=>intro b;cases b<;>simp[ny]
  | cons x r ih=>
   intro b;simp only[ny];split;·rw[xG];simp
   ·simp only[Vf];have:=ih b;omega
 exact this _ _
theorem EN:∀(more l:List Int),(p7 l more).length<=l.length+more.length
 | [],l=>by simp[p7]
 | n :: r,l=>by have:=EN r (rV l n);have h1:=UM l n;simp only[p7,W8,Vf]at this ⊢;omega
theorem x9 (l:List Int):(pP l).length<=l.length:=by have:=EN l [];simpa [pP] using this
def fq.aK (x:fq):List Int:=pP (x.aA++x.aC)
def fq.aQ (x:fq):List Int:=pP (x.aA++x.aC++x.aD)
def dn (l:List Int):Nat->List Int
 | 0=>[]
 | n+1=>dn l n++(if n≠0/\l[n]?=l[n-1]? then [] else l[n]?.toList)
def uU (l:List Int):List Int:=dn l l.length
theorem F9 {l:List Int}(hs:l.Pairwise (·<=·)):∀n,n<=l.length->jC (dn l n)/\(∀m,m∈dn l n↔m∈l.take n)
 | 0,_=>by simp[dn,jC]
 | n+1,hn=>by
  obtain⟨h1,h2⟩:=F9 hs n (by omega);have hlt:n<l.length:=by omega
  have I:∀m∈l.take n,m<=l[n]:=by intro m hm;obtain⟨i,hi,rfl⟩:=List.getElem_of_mem hm;simp only[Va]at hi;rw[Wm];exact WW.1 hs i n (by omega) hlt (by omega)
  have u:∀m,m∈l.take (n+1)↔m∈l.take n\/m=l[n]:=by intro m;rw[VA hlt];simp only[VK,List.mem_singleton]
  simp only[dn];split;·rename_i hc;rw[VY];refine⟨h1,λm=>?_⟩;rw[h2,u];refine⟨.inl,λe=>e.elim id (λe=>?_)⟩;subst e;have e2:l[n-1]?=some l[n-1]:=U0 (by omega);rw[U0 hlt,e2]at hc;have e3:l[n]=l[n-1]:=Xr hc.2;rw[e3];exact List.mem_take_iff_getElem.2 ⟨n-1,by omega,rfl⟩
  ·rename_i hc;rw[U0 hlt];refine⟨List.pairwise_append.2 ⟨h1,by simp,λa ha b hb=>?_⟩,λm=>by rw[VK,h2,u];simp⟩;simp at hb;subst hb;have C:=(h2 a).1 ha;have hle1:=I a C;apply Vb;intro hnl;have hae:a=l[n]:=by omega
   obtain⟨i,hi,M⟩:=List.getElem_of_mem C;simp only[Va]at hi;rw[Wm]at M;have E:n≠0:=by omega
   have e2:l[n-1]?=some l[n-1]:=U0 (by omega);have h3:l[n-1]<=l[n]:=WW.1 hs (n-1) n (by omega) hlt (by omega);have h4:l[i]<=l[n-1]:=by
    rcases WB i (n-1) with h | h;·exact WW.1 hs i (n-1) (by omega) (by omega) h
    ·have:i=n-1:=by omega
     subst this;exact Vi _
   exact hc ⟨E,by rw[U0 hlt,e2];congr 1;omega⟩
theorem L7 (l:List Int):uU (jo l)=pP l:=by
 have hs:(jo l).Pairwise (·<=·):=by have:=List.pairwise_mergeSort (le:=λx y:Int=>decide (x<=y)) (λa b c h1 h2=>by simp at *;omega) (λa b=>by simp;omega) l;exact this.imp λh=>by simpa using h
 obtain⟨h1,h2⟩:=F9 hs (jo l).length (U8 _);obtain⟨h3,h4⟩:=Dt l;refine Ib h1 h3 λm=>?_;rw[h4,show uU (jo l)=dn (jo l) (jo l).length from rfl,h2,VB];exact List.mem_mergeSort
def rA (ls:List (List Int)):D:=.sl 1 (ls.map λl=>[fN l])
theorem Rd.aM {F:Nat->Prop}{h:eX}{ls:List (List Int)}{a:AV}(hx:Rd F h (rA ls) a){i:Nat}(hi:i<ls.length):
  ∃p v,jg 1 a (.aA .i64 i)=some p/\ir h false 1 p=some v/\Rd F h (fN ls[i]) v:=by
 obtain⟨p,cs,hp,u,e⟩:=hx.aD .i64 (i:=i) (d:=[fN ls[i]]) (by omega) (by simp[hi]);simp only[fu]at e;obtain⟨v,_,rfl,hv,rfl⟩:=e;exact⟨p,v,hp,by rw[jr u];exact xZ _ _ _,hv⟩
theorem xz {ls:List (List Int)}{i:Nat}(hi:i<ls.length):(ls.take (i+1)).flatten=(ls.take i).flatten++ls[i]:=by rw[VA hi,List.flatten_append];simp only[List.flatten_cons,List.flatten_nil,VY]
theorem Gl (ls:List (List Int))(i:Nat):(ls.take i).flatten.length<=ls.flatten.length:=by
 have:ls.flatten=(ls.take i).flatten++(ls.drop i).flatten:=by rw[<-List.flatten_append,Wp]
 rw[this];simp
def Ea (P:Program)(f:FuncId):Prop:=
 fK P f=true/\∀(h:eX)(n:Nat),n<=2^40->fC P f [.aD,.aA .i64 n] h λr h'=>eY (fN []) (λm=>h.length<=m) h' r/\gV h' r/\eW eZ h h'
theorem H_ (g:fE->AV)(h:eX)(x:sM):gG g h (.x x)=lR g x:=Vc rfl rfl
theorem Nx (g:fE->AV)(h:eX)(sz bytes:Nat)(z:List AV)(x y:fE):jY g h (.aG sz bytes z x y)=sN h sz bytes z (g x) (g y):=Vc rfl rfl
theorem Gw (g:fE->AV)(h:eX)(sz:Nat)(z:List AV)(x:fE):jY g h (.aH sz z x)=(pZ h sz z (g x)).map λh'=>(.aI [],h'):=Vc rfl rfl
theorem Js {P:Program}{f:FuncId}(hf:Is P f BT):Ea P f:=by
 refine⟨hf.2,λh n hn=>fS hf ?_⟩;have c0:¬(n:Int)<0:=by omega
 have e:ik .aD=some (.aA .i64 0):=rfl;have e0:IntKind.i64.wrap (0-0)=0:=rfl;have e1:IntKind.i64.wrap ((n:Int)-0)=n:=by rw[Int.sub_zero,gj (by omega)]
 have u:ie 1 .aD none (some 0) none=some .aD:=rfl;simp only[BT,go_sem,U2 c0,H_,lR,e,e0,e1];by_cases c1:0<(n:Int)
 ·have hz:sN h 1 8 [.aA .i64 0] .aD (.aA .i64 n)=some (.aG h.length 1 0 n none,h++[some (.aA 1 (List.replicate n [.aA .i64 0]) true)]):=by simp only[sN];rw[U4 ⟨by omega,by omega⟩];simp only[iu];rw[U4 (by simp;omega)];simp[gR]
  have hs:ie 1 (.aG h.length 1 0 n none) none (some 0) none=some (.aG h.length 1 0 0 none):=by simp only[ie,V0,Vu];rw[U4 ⟨Vd,by omega,by omega,by omega,by omega,by omega⟩];rfl
  simp only[go_sem,U3 c1,mQ,u,Nx,H_,lR,e,hz,hs];refine⟨?_,⟨_,_,gJ _ _,λ_=>rfl,λc hc=>by cases hc⟩,eW.b1 _⟩;simp only[fN,VO,eY];exact .inr (.inr ⟨_,0,none,_,true,rfl,U8 _,gJ _ _,by simp,(λc hc=>by cases hc),by simp[fG]⟩)
 ·simp only[go_sem,U2 c1];exact⟨eY.aD 1,Vd,eW.aC _ _⟩
def DP (P:Program)(f:FuncId):Prop:=
 fK P f=true/\∀(F:Nat->Prop)(h:eX) (ls:List (List Int)) (a:AV),Rd F h (rA ls) a->ls.length<=2^40->ls.flatten.length<=2^40->fC P f [a] h λr h'=>eY (fN ls.flatten) (λm=>h.length<=m) h' r/\eW eZ h h'
theorem I9 {P:Program}{f g:FuncId}(hf:Is P f (BR g))(hg:Ea P g):DP P f:=by
 refine⟨hf.2,λF h ls a ha hl ht=>fS hf ?_⟩;have la:ik a=some (.aA .i64 ls.length):=by simpa using ha.aC
 simp only[BR,go_sem,la];refine iM (λm L h'=>∃i:Nat,lk 0 L=a/\lk 9 L=a/\lk 10 L=.aA .i64 ls.length/\lk 11 L=.aA .i64 i/\lk 3 L=.aA .i64 (ls.take i).flatten.length/\h=h'/\i<=ls.length/\m=ls.length-i) ls.length ?_ ?_;·exact⟨0,by simp[fm,g_],by simp[fm],by simp[fm],by simp[fm],by simp[fm],rfl,by omega,by omega⟩
 ·rintro m L h' ⟨i,k0,k9,M,I,k3,rfl,hi,rfl⟩;simp only[FK,go_sem,M,I];refine ij (λci=>?_) (λci=>?_)
  ·simp at ci;obtain⟨p,v,hp,hv,hr⟩:=ha.aM ci;have e:IntKind.i64.wrap (↑i+1)=(i:Int)+1:=gj (by omega);have u:=Gl ls (i+1);rw[xz ci,U1]at u;have e2:IntKind.i64.wrap ((ls.take i).flatten.length+ls[i].length)=(((ls.take i).flatten.length+ls[i].length:Nat):Int):=by rw[gj (by omega)];omega
   have cn:¬(((ls.take i).flatten.length+ls[i].length:Nat):Int)<0:=by omega
   simp only[go_sem,k0,k9,M,I,k3,hp,hv,hr.aF,e2,U2 cn,e];exact⟨_,by omega,i+1,by simp,by rw[xz ci,U1],ci,rfl⟩
  ·simp at ci;obtain rfl:i=ls.length:=by omega
   rw[VB]at k3;simp only[go_sem,k3];refine fy ⟨hg.1,hg.2 _ ls.flatten.length ht⟩ ?_;rintro r h2 ⟨ro,rc,rx⟩;simp only[go_sem,k0,la];refine iM (λm L h'=>∃(i:Nat)(o:AV),lk 25 L=a/\lk 26 L=.aA .i64 ls.length/\lk 27 L=.aA .i64 i/\lk 6 L=o/\eY (fN (ls.take i).flatten) (λm=>h.length<=m) h' o/\gV h' o/\eW eZ h h'/\i<=ls.length/\m=ls.length-i) ls.length ?_ ?_;·exact⟨0,r,by simp[fm],by simp[fm],by simp[fm],by simp[fm],ro,rc,rx,by omega,by omega⟩
   ·rintro m L h3 ⟨i,o,U,E,C,k6,hO,hA,hE,hi,rfl⟩;simp only[FL,go_sem,E,C];refine ij (λci=>?_) (λci=>?_);·simp at ci;obtain⟨p,v,hp,hv,hr⟩:=(ha.up hE).aM ci;have e:IntKind.i64.wrap (↑i+1)=(i:Int)+1:=gj (by omega);have u:=Gl ls (i+1);rw[xz ci,U1]at u;obtain⟨ys,W,Z⟩:=hr.aH;obtain⟨o2,h4,a4,a1,a3,a2⟩:=l_ (bytes:=8) hO hA (eW.aC eZ _) (rP Z) hE.1 (by simp only[Vg];omega);have O:=iv W 8 o;rw[a4]at O;simp only[go_sem,U,E,C,k6,hp,hv,O,e];exact⟨_,by omega,i+1,o2,by simp,rfl,by rw[xz ci,fN,VJ];exact a1,a3,hE.aJ a2 (λm hm hm'=>by omega),ci,rfl⟩
    ·simp at ci;obtain rfl:i=ls.length:=by omega
     rw[VB]at hO;simp only[go_sem,k6];exact⟨hO,hE⟩
def m_ (n off:Nat)(cap:Option Nat)(l:List Int)(F:Nat->Prop)(h:eX):Prop:=
 F n/\∃row g,h[n]?=some (some (.aA 1 row g))/\off+l.length<=row.length/\s9 cap l.length/\(row.drop off).take l.length=l.map λn=>[.aA .i64 n]
theorem Hy {F:Nat->Prop}{h:eX}{l:List Int}{a:AV}(ho:eY (fN l) F h a) (hl:l≠[]):∃n off cap,a=.aG n 1 off l.length cap/\m_ n off cap l F h:=by
 simp only[fN,eY]at ho;rcases ho with⟨_,e⟩ | ⟨_,_,_,e⟩ | ⟨n,off,cap,row,g,rfl,hF,C,E,u,I⟩
 ·simp at e;exact absurd e hl
 ·simp at e;exact absurd e hl
 ·rw[Vg]at I E u ⊢;exact⟨n,off,cap,rfl,hF,row,g,C,E,u,xM I⟩
theorem m_.aC {n off:Nat}{cap:Option Nat}{l:List Int}{F:Nat->Prop}{h:eX}(ho:m_ n off cap l F h){k:Nat}(hk:k<=l.length):eY (fN (l.take k)) F h (.aG n 1 off k cap):=by
 obtain⟨hF,row,g,e,hle,u,C⟩:=ho;have hl:(l.take k).length=k:=by simp;omega
 simp only[fN,eY,Vg,hl];refine .inr (.inr ⟨n,off,cap,row,g,rfl,hF,e,by omega,λc hc=>by have:=u c hc;omega,?_⟩);have:(row.drop off).take k=(l.take k).map λn=>[.aA .i64 n]:=by have:=W_ (List.take k) C;rw[VG,VT hk,<-Wv]at this;exact this
 rw[this];exact vu .i64 _ _ _
theorem m_.aA {n off:Nat}{cap:Option Nat}{l:List Int}{F:Nat->Prop}{h:eX}(ho:m_ n off cap l F h){k:Nat}(hk:k<l.length):ir h false 1 (.aC n 1 (off+k) 0)=some (.aA .i64 l[k]):=by
 obtain⟨hF,row,g,e,hle,hcap,u⟩:=ho;have:((row.drop off).take l.length)[k]?=some [.aA .i64 l[k]]:=by rw[u];simp[hk]
 rw[VQ hk,Vt]at this;rw[wN,e,Ih,this];rfl
theorem m_.aD {n off:Nat}{cap:Option Nat}{l:List Int}{F:Nat->Prop}{h:eX}(ho:m_ n off cap l F h){k:Nat}(hk:k<l.length)(v:Int):
  ∃h',pA h 1 (.aC n 1 (off+k) 0) (.aA .i64 v)=some h'/\m_ n off cap (l.set k v) F h'/\eW F h h':=by
 obtain⟨hF,row,g,e,E,u,C⟩:=ho;have h1:((row.drop off).take l.length)[k]?=some [.aA .i64 l[k]]:=by rw[C];simp[hk]
 rw[VQ hk,Vt]at h1;have hlt:=(UY.1 e).1;refine⟨_,wR (x:=.aA .i64 v) e h1 rfl rfl rfl rfl,⟨hF,_,g,U5 hlt,by simpa using E,by simpa using u,?_⟩,eW.aI _ (λ_=>hF)⟩;rw[List.drop_set,U6 (by omega),U9,List.take_set,C,Xi,show off+k-off=k by omega]
def DN (P:Program)(f:FuncId):Prop:=
 fK P f=true/\∀(F:Nat->Prop)(h:eX)(l:List Int)(a:AV),eY (fN l) F h a->l.length<=2^40->fC P f [a] h λr h'=>eY (fN (uU l)) F h' r/\eW F h h'
theorem I8 {P:Program}{f:FuncId}(hf:Is P f BQ):DN P f:=by
 refine⟨hf.2,λF h l a ho hl=>fS hf ?_⟩;have la:=(eY.rd (F':=λ_=>True) _ (λ_ _=>Vd) _ ho).aF;simp only[BQ,go_sem,la];by_cases c2:(l.length:Int)<2
 ·simp only[go_sem,U3 c2];refine⟨?_,eW.aC _ _⟩;have:uU l=l:=by
   match l,c2 with
   | [],_=>rfl
   | [x],_=>rfl
   | x :: y :: r,h=>simp at h;omega
  rw[this];exact ho
 ·have aa:l≠[]:=by rintro rfl;simp at c2
  obtain⟨n,off,cap,rfl,hI⟩:=Hy ho aa;have U:∀(i:Int)(k:Nat),i=k->k<l.length->jg 1 (.aG n 1 off l.length cap) (.aA .i64 i)=some (.aC n 1 (off+k) 0):=λi k e hk=>by subst e;simp only[jg];rw[U4 ⟨Vd,by omega,by omega⟩];simp
  simp only[go_sem,U2 c2];refine iM (λm L h'=>∃i:Nat,lk 0 L=.aG n 1 off l.length cap/\lk 3 L=.aA .i64 i/\h=h'/\1<=i/\i<=l.length/\m=l.length-i/\dn l i=l.take i) (l.length-1) ?_ ?_
  ·refine⟨1,by simp[fm,g_],by simp[fm],rfl,by omega,by omega,by omega,?_⟩;match l,aa with
   | x :: r,_=>simp[dn]
  ·rintro m L h' ⟨i,k0,k3,rfl,hi1,hi,rfl,hd⟩;simp only[FJ,go_sem,k0,k3,la];refine ij (λci=>?_) (λci=>?_)
   ·simp at ci;have e1:IntKind.i64.wrap (↑i+1)=(i:Int)+1:=gj (by omega);have e2:IntKind.i64.wrap (↑i-1)=((i-1:Nat):Int):=by rw[gj (by omega)];omega
    simp only[go_sem,k0,k3,e2,U _ i rfl ci,U _ (i-1) rfl (by omega),hI.aA ci,hI.aA (show i-1<l.length by omega)];have a3:dn l (i+1)=l.take i++(if l[i]=l[i-1] then [] else [l[i]]):=by
     simp only[dn,hd];rw[U0 ci,U0 (show i-1<l.length by omega)];congr 1;by_cases e:l[i]=l[i-1];·rw[U4 ⟨by omega,by rw[e]⟩,U4 e]
     ·rw[U6 (λh=>e (Xr h.2)),U6 e];rfl
    by_cases ce:l[i]=l[i-1]
    ·rw[U4 ce,VY]at a3;have hs:ie 1 (.aG n 1 off l.length cap) (some (i:Int)) none none=some (.aG n 1 (off+i) (l.length-i) (jk none i cap)):=by obtain⟨_,row,g,I,a8,u,Z⟩:=hI;simp only[ie,Vu,V0];rw[U4 ⟨Vd,by omega,by omega,by omega,by omega,by cases cap with | none=>simp | some c=>have:=u c rfl;simp;omega⟩,U6 (by omega),U4 (by omega)];simp
     simp only[go_sem,U3 ce,k0,k3,mQ,hs];have M:∀(j:Int)(k:Nat),j=k->i+k<l.length->jg 1 (.aG n 1 (off+i) (l.length-i) (jk none i cap)) (.aA .i64 j)=some (.aC n 1 (off+(i+k)) 0):=λj k e hk=>by subst e;simp only[jg];rw[U4 ⟨Vd,by omega,by omega⟩];simp;omega
     refine iM (λm L h'=>∃(k q:Nat)(E:List Int),lk 0 L=.aG n 1 off l.length cap/\lk 4 L=.aG n 1 (off+i) (l.length-i) (jk none i cap)/\lk 3 L=.aA .i64 q/\lk 5 L=.aA .i64 k/\m_ n off cap E F h'/\eW F h h'/\E.length=l.length /\
      1<=k/\i+k<=l.length/\q<=i+k-1/\i<=q/\E.take q=dn l (i+k)/\(∀j,q<=j->E[j]?=l[j]?)/\m=l.length-i-k) (l.length-i-1) ?_ ?_
     ·exact⟨1,i,l,by simp[fm,k0],by simp[fm],by simp[fm,k3],by simp[fm],hI,eW.aC _ _,rfl,by omega,by omega,by omega,by omega,a3.symm,λj hj=>rfl,by omega⟩
     ·rintro m L h2 ⟨k,q,E,k0,k4,k3,k5,hC,hE,a4,hk1,hk,hq,ae,a6,C,rfl⟩;have l4:ik (.aG n 1 (off+i) (l.length-i) (jk none i cap))=some (.aA .i64 ((l.length-i:Nat):Int)):=rfl;simp only[FI,go_sem,k4,k5,l4];refine ij (λck=>?_) (λck=>?_)
      ·simp at ck;have a5:i+k<l.length:=by omega
       have e3:IntKind.i64.wrap (↑k+1)=(k:Int)+1:=gj (by omega);have e4:IntKind.i64.wrap (↑k-1)=((k-1:Nat):Int):=by rw[gj (by omega)];omega
       have e5:IntKind.i64.wrap (↑q+1)=(q:Int)+1:=gj (by omega);have a1:=hC.aA (show i+k<E.length by omega);have a2:=hC.aA (show i+(k-1)<E.length by omega);have g1:E[i+k]'(by omega)=l[i+k]:=by have:=C (i+k) (by omega);rw[U0 (by omega),U0 a5]at this;exact Xr this
       have g2:E[i+(k-1)]'(by omega)=l[i+k-1]'(by omega):=by have:=C (i+(k-1)) (by omega);rw[U0 (by omega),U0 (by omega)]at this;have e:=Xr this;rw[e];congr 1;omega
       rw[g1]at a1;rw[g2]at a2;have O:dn l (i+(k+1))=dn l (i+k)++(if l[i+k]=l[i+k-1] then [] else [l[i+k]]):=by
        rw[<-WG];simp only[dn];rw[U0 a5,U0 (show i+k-1<l.length by omega)];congr 1;by_cases e:l[i+k]=l[i+k-1];·rw[U4 ⟨by omega,by rw[e]⟩,U4 e]
        ·rw[U6 (λh=>e (Xr h.2)),U6 e];rfl
       simp only[go_sem,k4,k5,e4,M _ k rfl a5,M _ (k-1) rfl (by omega),a1,a2];by_cases cq:l[i+k]=l[i+k-1];·rw[U4 cq,VY]at O;simp only[go_sem,U3 cq,k0,k4,k3,k5,e3];exact⟨_,by omega,k+1,q,E,by simp,by simp,hC,hE,a4,by omega,by omega,by omega,ae,by rw[O];exact a6,C,rfl⟩
       ·rw[U6 cq]at O;obtain⟨h3,s1,s2,s3⟩:=hC.aD (show q<E.length by omega) l[i+k];simp only[go_sem,U2 cq,k0,k4,k3,k5,U _ q rfl (by omega),M _ k rfl a5,a1,s1,e3,e5];refine⟨_,by omega,k+1,q+1,E.set q l[i+k],by simp,by simp,s2,hE.aD s3 (λ_ _ x=>x) (λ_ _ x=>x),by simpa using a4,by omega,by omega,by omega,by omega,?_,λj hj=>?_,rfl⟩;·rw[O,<-a6,VA (by simp;omega),WJ,List.take_set_of_le (U8 _)]
        ·rw[UZ (by omega)];exact C j (by omega)
      ·simp at ck;have af:i+k=l.length:=by omega
       have hql:q<l.length:=by omega
       have ac:ie 1 (.aG n 1 off l.length cap) (some (q:Int)) none none=some (.aG n 1 (off+q) (l.length-q) (jk none q cap)):=by obtain⟨_,row,g,I,a8,u,Z⟩:=hC;rw[a4]at u;simp only[ie,Vu,V0];rw[U4 ⟨Vd,by omega,by omega,by omega,by omega,by cases cap with | none=>simp | some c=>have:=u c rfl;simp;omega⟩,U6 (by omega),U4 (by omega)];simp
       have ab:ie 1 (.aG n 1 off l.length cap) none (some (q:Int)) none=some (.aG n 1 off q cap):=by obtain⟨_,row,g,I,a8,u,Z⟩:=hC;rw[a4]at u;simp only[ie,Vu,V0];rw[U4 ⟨Vd,by omega,by omega,by omega,by omega,by cases cap with | none=>simp;omega | some c=>have:=u c rfl;simp;omega⟩];simp[jk]
       obtain⟨hF,row,g,I,a8,u,Z⟩:=hC;have a9:pZ h2 1 [.aA .i64 0] (.aG n 1 (off+q) (l.length-q) (jk none q cap))=some (h2.set n (some (.aA 1 (gM row (off+q) (List.replicate (l.length-q) [.aA .i64 0])) g))):=by simp only[pZ];rw[U6 (by omega),I];simp only;rw[U4 ⟨Vd,Vd,by omega⟩]
       simp only[go_sem,k0,k3,mQ,ac,Gw,a9,ab];have hlt:=(UY.1 I).1;have a7:(gM row (off+q) (List.replicate (l.length-q) [AV.aA .i64 0])).length=row.length:=by simp only[gM,U1,Va,Vo,Wo];omega
       have ag:m_ n off cap (E.take q) F (h2.set n (some (.aA 1 (gM row (off+q) (List.replicate (l.length-q) [.aA .i64 0])) g))):=by
        refine⟨hF,_,g,U5 hlt,by rw[a7];simp;omega,λc hc=>by have:=u c hc;simp;omega,?_⟩;have h1:(row.take (off+q)).length=off+q:=by simp;omega
        have ad:(E.take q).length=q:=by simp;omega
        rw[ad];have h3:((gM row (off+q) (List.replicate (l.length-q) [AV.aA .i64 0])).drop off).take q=(row.drop off).take q:=by simp only[gM];rw[Vr,Wg (by omega),Vz (by simp;omega),List.drop_take,VG];congr 1;omega
        rw[h3];have:=W_ (List.take q) Z;rw[VG,VT (by omega),<-Wv]at this;exact this
       have W:=ag.aC (k:=q) (by simp;omega);rw[VG,W6,a6,af]at W;exact⟨W,hE.aD (eW.aI _ (λ_=>hF)) (λ_ _ x=>x) (λ_ _ x=>x)⟩
    ·rw[U6 ce]at a3;simp only[go_sem,U2 ce,k0,k3,e1];exact⟨_,by omega,i+1,by simp,by omega,ci,rfl,by rw[a3,VA ci]⟩
   ·simp at ci;obtain rfl:i=l.length:=by omega
    rw[VB]at hd;simp only[go_sem,k0];exact⟨by rw[uU,hd];exact ho,eW.aC _ _⟩
def wJ (P:Program)(f:FuncId):Prop:=
 fK P f=true/\∀(F:Nat->Prop)(h:eX) (ls:List (List Int)) (a:AV),Rd F h (rA ls) a->ls.length<=2^40->ls.flatten.length<=2^40->fC P f [a] h λr h'=>eY (fN (pP ls.flatten)) (λm=>h.length<=m) h' r/\eW eZ h h'
theorem Tx {P:Program}{f c s k:FuncId}(hf:Is P f (Bg c s k))(hc:DP P c)(hs:zj P s)(hk:DN P k):wJ P f:=by refine⟨hf.2,λF h ls a ha hl ht=>fS hf ?_⟩;simp only[Bg,go_sem];refine fy ⟨hc.1,hc.2 F _ ls a ha hl ht⟩ ?_;rintro r h1 ⟨ro,rx⟩;simp only[go_sem];refine fy ⟨hs.1,hs.2 _ _ _ r ro ht⟩ ?_;rintro _ h2 ⟨so,sx⟩;simp only[go_sem];refine fy ⟨hk.1,hk.2 _ _ _ r so (by rw[Iu];exact ht)⟩ ?_;rintro u h3 ⟨uo,ux⟩;simp only[go_sem];rw[L7]at uo;exact⟨uo,(rx.aJ sx (λm hm e=>by omega)).aJ ux (λm hm e=>by omega)⟩
def oB (P:Program)(f:FuncId)(t:fq->List Int):Prop:=
 fK P f=true/\∀(F:Nat->Prop)(h:eX)(x:fq)(a:List AV),fu F h x.c a->x.aG (2^38)->fC P f [.aF a] h λr h'=>eY (fN (t x)) (λm=>h.length<=m) h' r/\eW eZ h h'
theorem QX {F:Nat->Prop}{H:eX}{o n:AV}{x y:List Int}(ho:Rd F H (fN x) o)(hn:Rd F H (fN y) n):Rd (λ_=>True) (H++[some (.aA 1 [[o],[n]] false)]) (rA [x,y]) (.aG H.length 1 0 2 (some 2)):=by have x0:=eW.b1 (h:=H) (some (.aA 1 [[o],[n]] false));simp only[rA,Vv,VO,Rd];refine⟨[[o],[n]],.inr (.inr ⟨H.length,0,2,some 2,[[o],[n]],false,rfl,Vd,gJ _ _,by simp,λc hc=>by cases hc;omega,rfl⟩),?_⟩;simp only[fY,fu];exact⟨_,_,rfl,⟨o,_,rfl,Rd.aE (λ_ _=>Vd) (gY.lt _ _) _ _ (ho.up x0),rfl⟩,_,_,rfl,⟨n,_,rfl,Rd.aE (λ_ _=>Vd) (gY.lt _ _) _ _ (hn.up x0),rfl⟩,rfl⟩
theorem QY {F:Nat->Prop}{H:eX}{o n e:AV}{x y z:List Int}(ho:Rd F H (fN x) o)(hn:Rd F H (fN y) n)(he:Rd F H (fN z) e):Rd (λ_=>True) (H++[some (.aA 1 [[o],[n],[e]] false)]) (rA [x,y,z]) (.aG H.length 1 0 3 (some 3)):=by have x0:=eW.b1 (h:=H) (some (.aA 1 [[o],[n],[e]] false));simp only[rA,Vv,VO,Rd];refine⟨[[o],[n],[e]],.inr (.inr ⟨H.length,0,3,some 3,[[o],[n],[e]],false,rfl,Vd,gJ _ _,by simp,λc hc=>by cases hc;omega,rfl⟩),?_⟩;simp only[fY,fu];exact⟨_,_,rfl,⟨o,_,rfl,Rd.aE (λ_ _=>Vd) (gY.lt _ _) _ _ (ho.up x0),rfl⟩,_,_,rfl,⟨n,_,rfl,Rd.aE (λ_ _=>Vd) (gY.lt _ _) _ _ (hn.up x0),rfl⟩,_,_,rfl,⟨e,_,rfl,Rd.aE (λ_ _=>Vd) (gY.lt _ _) _ _ (he.up x0),rfl⟩,rfl⟩
theorem Qs {P:Program}{f g:FuncId}(hf:Is P f (Bb g))(hg:wJ P g):oB P f fq.aK:=by
 refine⟨hf.2,λF h x a ha hx=>fS hf ?_⟩;obtain⟨o,n,e,rfl,ho,hn,he⟩:=kI ha;simp only[Bb,go_sem,ho.aA,hn.aA,he.aA,gz ho.aA,gz hn.aA];have u:=QX (ho.up (eW.b1 (some (.aA 3 [[o,n,e]] false)))) (hn.up (eW.b1 (some (.aA 3 [[o,n,e]] false))));simp only[nD]at u;obtain⟨h1,h2,h3⟩:=hx;refine fy ⟨hg.1,hg.2 _ _ [x.aA,x.aC] _ u (by simp) (by simp;omega)⟩ ?_;rintro r h2 ⟨ro,rx⟩;simp only[go_sem];refine⟨?_,(eW.b2 _ _).tr rx⟩;have:[x.aA,x.aC].flatten=x.aA++x.aC:=by simp
 rw[this]at ro;exact eY.aC _ (λm hm=>by simp at hm;omega) (λ_ _ _ x=>x) _ ro
theorem Qr {P:Program}{f g:FuncId}(hf:Is P f (Ba g))(hg:wJ P g):oB P f fq.aQ:=by
 refine⟨hf.2,λF h x a ha hx=>fS hf ?_⟩;obtain⟨o,n,e,rfl,ho,hn,he⟩:=kI ha;simp only[Ba,go_sem,ho.aA,hn.aA,he.aA,gz ho.aA,gz hn.aA,gz he.aA];have u:=QY (ho.up (eW.b1 (some (.aA 3 [[o,n,e]] false)))) (hn.up (eW.b1 (some (.aA 3 [[o,n,e]] false)))) (he.up (eW.b1 (some (.aA 3 [[o,n,e]] false))));simp only[nD]at u;obtain⟨h1,h2,h3⟩:=hx;refine fy ⟨hg.1,hg.2 _ _ [x.aA,x.aC,x.aD] _ u (by simp) (by simp;omega)⟩ ?_;rintro r h2 ⟨ro,rx⟩;simp only[go_sem];refine⟨?_,(eW.b2 _ _).tr rx⟩;have:[x.aA,x.aC,x.aD].flatten=x.aA++x.aC++x.aD:=by simp
 rw[this]at ro;exact eY.aC _ (λm hm=>by simp at hm;omega) (λ_ _ _ x=>x) _ ro
def ku:Option Int->List Int->Bool
 | _,[]=>true
 | p,x :: r=>!(decide (x<1) || decide (7<x) || (match p with | none=>false | some y=>decide (x<=y))) && ku (some x) r
def tO (l:List Int):Nat->Option Int
 | 0=>none
 | i+1=>l[i]?
def fq.aE (x:fq):Bool:=!(decide (x.aA.length=0) || !ku none x.aA || !ku none x.aC || !ku none x.aD || x.aD.any λn=>decide (n∈x.aA) || decide (n∈x.aC))
def Ev (P:Program)(f:FuncId):Prop:=
 fK P f=true/\∀(F:Nat->Prop)(h:eX)(l:List Int)(a:AV),Rd F h (fN l) a->l.length<=2^40->fC P f [a] h λr h'=>r=.aE (ku none l)/\h'=h
theorem RF {P:Program}{f:FuncId}(hf:Is P f Bf):Ev P f:=by
 refine⟨hf.2,λF h l a ha hl=>fS hf ?_⟩;have la:=ha.aF;simp only[Bf,go_sem,la];refine iM (λm L h'=>∃i:Nat,lk 0 L=a/\lk 5 L=a/\lk 6 L=.aA .i64 l.length/\lk 7 L=.aA .i64 i/\h=h'/\i<=l.length/\m=l.length-i/\ku (tO l i) (l.drop i)=ku none l) l.length ?_ ?_;·exact⟨0,by simp[fm,g_],by simp[fm],by simp[fm],by simp[fm],rfl,by omega,by omega,rfl⟩
 ·rintro m L h1 ⟨i,k0,k5,k6,k7,rfl,hi,rfl,hq⟩;simp only[FC,go_sem,k6,k7];refine ij (λci=>?_) (λci=>?_)
  ·simp at ci;obtain⟨p,hp,hv⟩:=ha.aG ci;have e1:IntKind.i64.wrap (↑i+1)=(i:Int)+1:=gj (by omega);rw[Wh ci]at hq;simp only[ku]at hq;have e:tO l (i+1)=some l[i]:=by simp[tO,ci]
   simp only[go_sem,k5,k7,hp,hv];by_cases c1:l[i]<1;·simp only[go_sem,U3 c1];rw[<-hq];simp[c1]
   by_cases c2:7<l[i]
   ·simp only[go_sem,U2 c1,U3 c2];rw[<-hq];simp[c2]
   by_cases c3:0<(i:Int)
   ·obtain⟨j,rfl⟩:∃j,i=j+1:=⟨i-1,by omega⟩;obtain⟨p2,E,u⟩:=ha.aG (i:=j) (by omega);have e2:IntKind.i64.wrap (((j+1:Nat):Int)-1)=(j:Int):=by rw[gj (by omega)];omega
    have C:tO l (j+1)=some (l[j]'(by omega)):=by simp only[tO];exact U0 (by omega)
    rw[C]at hq;simp only[go_sem,U2 c1,U2 c2,U3 c3,k0,e2,E,u];by_cases c4:l[j+1]<=l[j]'(by omega);·simp only[go_sem,U3 c4];rw[<-hq];simp[c4]
    ·simp only[go_sem,U2 c4,k0,k5,k6,k7,e1];refine⟨_,by omega,j+1+1,by simp,by omega,rfl,?_⟩;rw[e,<-hq];simp[c1,c2,c4]
   ·obtain rfl:i=0:=by omega
    simp only[go_sem,U2 c1,U2 c2,U2 c3,k0,k5,k6,k7,e1];refine⟨_,by omega,1,by simp,by omega,rfl,?_⟩;rw[e,<-hq];simp[c1,c2,tO]
  ·simp at ci;obtain rfl:i=l.length:=by omega
   rw[Xd]at hq;simp only[go_sem];rw[<-hq];rfl
def fq.aO (x:fq)(n:Int):Bool:=decide (n∈x.aA) || decide (n∈x.aC)
theorem fq.aU (x:fq):x.aE=!(decide (x.aA.length=0) || !ku none x.aA || !ku none x.aC || !ku none x.aD || x.aD.any x.aO):=rfl
theorem I2 {P:Program}{f g:FuncId}(hf:Is P f (xb g))(hg:mo P g){F:Nat->Prop}{h:eX}{x:fq}{o n e:AV}{m:Nat}(ho:Rd F h (fN x.aA) o)(hn:Rd F h (fN x.aC) n)(hx:x.aG (2^38))
  (hq:h[m]?=some (some (.aA 3 [[o,n,e]] false))) (k:Int):fC P f [.aA .i64 k,.aC m 3 0 0] h λr h'=>r=.aE (x.aO k)/\h'=h:=by
 refine fS hf ?_;obtain⟨h1,h2,h3⟩:=hx;simp only[xb,go_sem,hq];refine fZ hg.1 (hg.2 F _ x.aA o k ho (by omega)) ?_;by_cases c:k∈x.aA;·simp only[go_sem,U3 c];simp[fq.aO,c]
 ·simp only[go_sem,U2 c,hq];refine fZ hg.1 (hg.2 F _ x.aC n k hn (by omega)) ?_;simp only[go_sem];simp[fq.aO,c]
def ug (P:Program)(f:FuncId):Prop:=
 fK P f=true/\∀(F:Nat->Prop)(h:eX)(x:fq)(a:List AV),fu F h x.c a->x.aG (2^38)->fC P f [.aF a] h λr h'=>r=.aA .i64 (if x.aE then 0 else 29)/\h'=h
theorem HY (g:fE->AV)(h:eX)(f:FuncId)(cs:List fE):gG g h (.aC f cs)=some (.aK f [] (cs.map g)):=Vc rfl rfl
theorem Qq {P:Program}{f k g c s:FuncId}(hf:Is P f (A_ k g c))(hk:Is P k (xb s))(hs:mo P s)(hg:Ev P g)(hc:yA P c):ug P f:=by
 refine⟨hf.2,λF h x a ha hx=>jG rfl (fS hf ?_)⟩;obtain⟨o,n,e,rfl,ho,hn,he⟩:=kI ha;have u:=hx;obtain⟨h1,h2,h3⟩:=hx;have lo:=ho.aF;simp only[A_,go_sem,HY,Vv,VO,ho.aA,hn.aA,he.aA,lo,Hc];by_cases c0:x.aA.length=0;·simp only[go_sem,U3 c0];exact⟨by simp[fq.aU,c0],eW.b1 _⟩
 simp only[go_sem,U2 c0];refine fZ hg.1 (hg.2 F _ x.aA o (ho.up (eW.b1 _)) (by omega)) ?_;cases c1:ku none x.aA;·simp only[go_sem];exact⟨by simp[fq.aU,c1],eW.b1 _⟩
 simp only[go_sem];refine fZ hg.1 (hg.2 F _ x.aC n (hn.up (eW.b1 _)) (by omega)) ?_;cases c2:ku none x.aC;·simp only[go_sem];exact⟨by simp[fq.aU,c2],eW.b1 _⟩
 simp only[go_sem];refine fZ hg.1 (hg.2 F _ x.aD e (he.up (eW.b1 _)) (by omega)) ?_;cases c3:ku none x.aD;·simp only[go_sem];exact⟨by simp[fq.aU,c3],eW.b1 _⟩
 simp only[go_sem];refine fZ hc.1 (hc.2 F _ x.aD e k [] [.aC h.length 3 0 0] x.aO (he.up (eW.b1 _)) (by omega) hk.2 (λm=>I2 hk hs (ho.up (eW.b1 _)) (hn.up (eW.b1 _)) u (gJ _ _) m)) ?_;by_cases c4:0<x.aD.countP x.aO
 ·have c5:(0:Int)<x.aD.countP x.aO:=by omega
  have:x.aD.any x.aO=true:=by rw[Xc];exact List.countP_pos_iff.1 c4
  simp only[go_sem,U3 c5];exact⟨by simp only[fq.aU,this,Xo];rfl,eW.b1 _⟩
 ·have c5:¬(0:Int)<x.aD.countP x.aO:=by omega
  have:x.aD.any x.aO=false:=by rw[<-Xn,Xc];exact λh=>c4 (List.countP_pos_iff.2 h)
  simp only[go_sem,U2 c5];exact⟨by simp only[fq.aU,this,c1,c2,c3,U2 c0];rfl,eW.b1 _⟩
end Glb
