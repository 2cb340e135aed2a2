/-
  A library of its own.
-/
import Derived.Test.YtdeiamnhnfmilaaGreatGlbQuoA
import Derived.Sort.Grow
set_option linter.unusedSimpArgs false
set_option linter.unusedVariables false
set_option maxRecDepth 10000
set_option maxHeartbeats 4000000
namespace Glb
open Go
structure DM (P:Program)(f:FuncId):Prop where
 is:fP P f=true
 aC:∀(blk off cap:Nat)(zs:List Int)(w:World),Go.Sort.Holds (Value.int .i64) w blk off zs.toArray->blk<w.heap.size->zs.length<4611686018427387904->
  Calls P f #[.slice (some ⟨blk,off,none⟩) zs.length cap] w λe w'=>e=.returned (.tuple #[])/\∃n os,w'=Go.Sort.grow (Go.Sort.putRow (Value.int .i64) (Go.Sort.ahead w n) blk off (zs.mergeSort λx y=>decide (x<=y)).toArray) os
 aA:∀(p:Option Addr)(cap:Nat)(w:World),Calls P f #[.slice p 0 cap] w λe w'=>e=.returned (.tuple #[])/\w'=w
def kv (l:List Int):List Int:=l.mergeSort λx y=>decide (x<=y)
theorem HB (l:List Int):(kv l).length=l.length:=List.length_mergeSort _
def DN (P:Program)(f:FuncId):Prop:=
 fP P f=true/\∀(F:Nat->Prop)(h:eW)(l:List Int)(a:AV),eX (fM l) F h a->l.length<=2^40->fC P f [a] h λ_ h'=>eX (fM (kv l)) F h' a/\eV F h h'
theorem Sq {P : Program} {f : FuncId} (hk : DM P f) : DN P f := by
 refine ⟨hk.is, λF h l a ho hl G w vs g hv => ?_⟩;obtain ⟨v, rfl⟩ : ∃ v, vs = #[v] := by
  have := hv.1;match vs with
  | ⟨[v]⟩ => exact ⟨v, rfl⟩
  | ⟨[]⟩ => simp at this
  | ⟨_ :: _ :: _⟩ => simp at this
 have hV : V G w a v := hv.2 0 a v rfl rfl;have nil : ∀ p cap, v = .slice p 0 cap -> l = [] -> Calls P f #[v] w λe w' => ∃ v r h' G', e = .returned v /\ (eX (fM (kv l)) F h' a /\ eV F h h') /\ fO G' w' h' /\ V G' w' r v /\ gy G w G' w' := by rintro p cap rfl rfl;refine (hk.aA p cap w).mono ?_;rintro e w' ⟨rfl, rfl⟩;exact ⟨_, .aR, h, G, rfl, ⟨by simpa [kv] using ho, eV.aC _ _⟩, g, .aI _, gy.aD G w'⟩
 have ho' := ho;simp only [fM, eX] at ho;rcases ho with ⟨rfl, e⟩ | ⟨t, c, rfl, e⟩ | ⟨n, off, cap, row, gr, rfl, hF, M, af, a2, ai⟩
 ·have : l = [] := by simpa using e
  cases hV; exact nil _ _ rfl this
 ·have : l = [] := by simpa using e
  cases hV with
  | aG => exact nil _ _ rfl this
  | aE => exact nil _ _ rfl this
 ·rw [UI] at ai af a2 hV;have hr := Co ai;generalize hlen : l.length = len at hV;cases hV with
  | aH => exact nil _ _ rfl (Uz hlen)
  | aD _ _ _ _ _ c ty m b hn hb hlc hcapc hs hm =>
   subst hlen;have u := g.aN M hb;have a4 := g.aO u hb;obtain ⟨⟨cells, ad, a1, h1, h2, h3⟩, ae⟩ := g.aC n 1 row gr b M hb;have aj : ∀ i (hi : i < l.length), cells[off + i]? = some (.int .i64 l[i]) := by
    intro i hi;have : gn row (off + i) 0 = some (.aA .i64 l[i]) := by
     have h0 : ((row.drop off).take l.length)[i]? = some [.aA .i64 l[i]] := by rw [hr]; simp [hi]
     rw [Vh hi, UR] at h0;simp [gn, h0]
    obtain ⟨v, hv, hV⟩ := h3 _ _ _ this;cases hV;simpa using hv
   have hH : Go.Sort.Holds (Value.int .i64) w b off l.toArray := by
    intro j hj;have ag : j < l.length := by simpa using hj
    refine ⟨?_, by simp [World.frozen?, a1]⟩;have aa : l.toArray[j]! = l[j] := by simp [ag]
    rw [aa];simp only [World.cell?, a1, Option.isSome_none, UQ, Vd];exact aj j ag
   have a3 := hk.aC b off c l w hH a4 (by omega);rw [Nat.mul_one];refine a3.mono ?_;rintro e w' ⟨rfl, n0, os, rfl⟩;have Z : (kv l).length = l.length := HB l;simp only [UI];have al : (l.mergeSort λx y => decide (x <= y)) = kv l := rfl;rw [al];generalize hw' : Go.Sort.grow (Go.Sort.putRow (Value.int .i64) (Go.Sort.ahead w n0) b off (kv l).toArray) os = w';have I : ∀ k, k < w.heap.size -> k ≠ b -> w'.heap[k]? = w.heap[k]? := by intro k hk a8;subst hw';rw [Go.Sort.heap_grow_old _ _ (by simpa [Go.Sort.putRow, Go.Sort.mapBlock, Go.Sort.ahead] using hk)];simp [Go.Sort.putRow, Go.Sort.mapBlock, Go.Sort.ahead, Wn];intro e; exact absurd e.symm a8
   have W : w'.heap[b]? = some (.cells (Go.Sort.putCells (Value.int .i64) off (kv l).toArray cells) ad (0, 0)) := by subst hw';rw [Go.Sort.heap_grow_old _ _ (by simpa [Go.Sort.putRow, Go.Sort.mapBlock, Go.Sort.ahead] using a4)];simp [Go.Sort.putRow, Go.Sort.mapBlock, Go.Sort.ahead, Wn, a1, Go.Sort.onCells]
   have E : w.heap.size <= w'.heap.size := by subst hw'; simp [Go.Sort.putRow, Go.Sort.mapBlock, Go.Sort.ahead]
   have a7 : (Go.Sort.putCells (Value.int .i64) off (kv l).toArray cells).size = cells.size := by simp [Go.Sort.putCells]
   have k : ib G w G w' := by
    refine ⟨Uy _, λ_ _ _ h => h, λ_ _ h => h, λ_ _ h => h, λt b' hp => I b' (g.aQ hp) ?_, λb' O => ?_⟩
    ·rintro rfl;cases t with
     | zero => exact g.aG n _ u hb hp
     | succ m => exact g.aF n m _ u hb hp
    ·by_cases e : b' = b
     ·subst e;simp only [World.shape?, W, a1, a7]
     ·have hlt : b' < w.heap.size := by apply UC; intro hn;simp only [World.shape?, Array.getElem?_eq_none (Nat.le_of_not_lt hn)] at O;exact absurd O (by simp)
      simp only [World.shape?, I b' hlt e]
   let ys : List (List AV) := (kv l).map λn => [.aA .i64 n]
   have a5 : ys.length = l.length := by simp [ys, Z]
   have U : (gZ row off ys).length = row.length := by simp only [gZ, Ut, UD, UP, a5]; omega
   have ac : kS G w' b 1 (gZ row off ys) gr := by
    refine ⟨⟨_, ad, W, by rw [a7, U]; exact h1, λe => by rw [a7, U]; exact h2 e, λi j c hj => ?_⟩, Gy ae (λe he => ?_) off⟩
    ·have a6 : ∀ i, (Go.Sort.putCells (Value.int .i64) off (kv l).toArray cells)[i]? = (cells[i]?).map λx => if off <= i /\ i < off + (kv l).toArray.size then Value.int .i64 (kv l).toArray[i - off]! else x := by intro i; simp only [Go.Sort.putCells, Array.getElem?_mapIdx]
     rcases FG (by omega) hj with ⟨hlt, hc⟩ | ⟨ab, hlt, hc⟩ | ⟨ab, hc⟩
     ·obtain ⟨v, hv, hV⟩ := h3 i j c hc;have a9 : j = 0 := by have := (ae _ (UT (show i < row.length by omega))).1;simp only [gn] at hc;rw [Ur (by omega : i < row.length)] at hc;simp only [VE] at hc;have := (Up.1 hc).1;omega
      subst a9;refine ⟨v, ?_, hV.aA k⟩;rw [a6, hv]; simp only [Nat.mul_one, V_, VP];rw [Uw (by omega)]
     ·rw [a5] at hlt;have ah : i - off < (kv l).length := by omega
      simp only [gn, ys, U_, Ur ah, VP, VE] at hc;have a9 : j = 0 := by have := (Up.1 hc).1; simpa using this
      subst a9;simp at hc;subst hc;have an : (cells[i]?).isSome := by have := aj (i - off) (by omega); rw [show off + (i - off) = i by omega] at this; simp [this]
      obtain ⟨v0, ak⟩ := Wq.1 an;refine ⟨_, ?_, .aC .i64 _⟩;rw [a6, Nat.mul_one, V_, ak];simp only [VP];rw [Uv ⟨ab, by simp; omega⟩];simp [ah]
     ·rw [a5] at ab;obtain ⟨v, hv, hV⟩ := h3 i j c hc;refine ⟨v, ?_, hV.aA k⟩;rw [a6, hv]; simp only [VP];rw [Uw (by simp [Z]; omega)]
    ·obtain ⟨x, _, rfl⟩ := Vz.1 he;exact ⟨rfl, rfl⟩
   refine ⟨_, .aR, h.set n (some (.aA 1 (gZ row off ys) gr)), G, rfl, ⟨?_, eV.aI _ (λ_ => hF)⟩, g.aV M hb k E (λm b' hm O a8 => ?_) ac, .aI _, ?_⟩
   ·have hlt := (Up.1 M).1;simp only [fM, eX];refine .inr (.inr ⟨n, off, cap, _, gr, by simp [Z], hF, Ux hlt, by rw [U]; simpa [Z] using af, by simpa [Z] using a2, ?_⟩);have : ((gZ row off ys).drop off).take ((kv l).map λn => ([.aA .i64 n] : List D)).length = ys := by
     simp only [gZ, UI, Z];have h1' : (row.take off).length = off := by simp; omega
     rw [UW, VS (by omega), List.drop_of_length_le (by omega), VH, U0 (by omega), UU (by omega)]
    rw [this];exact vh .i64 _ _ _
   ·refine I b' (g.aO hm O) ?_;rintro rfl;exact a8 (g.inj m n _ hm u O hb)
   ·refine ⟨k, ⟨λ_ h => h, λ_ h => .inl h⟩, λ_ _ => rfl, λ_ _ => VW, E, λb' O am => I b' O ?_, λb' O => .inl O, ?_, ?_, E, λx hx => ?_⟩;·rintro rfl; exact am (.inl ⟨n, u, hb⟩)
    ·subst hw'; rfl
    ·subst hw'; rfl
    ·by_cases e : x.block = b
     ·simp only [World.frozen?, e, W, a1]
     ·simp only [World.frozen?, I _ hx e]
def jV (l:List Int):Prop:=l.Pairwise (·<·)
theorem Hm:∀{a b:List Int},jV a->jV b->(∀n,n∈a↔n∈b)->a=b
 | [],[],_,_,_=>rfl
 | [],y :: b,_,_,h=>absurd ((h y).2 (by simp)) (by simp)
 | x :: a,[],_,_,h=>absurd ((h x).1 (by simp)) (by simp)
 | x :: a,y :: b,ha,hb,h=>by
  have E:=Wb.1 ha;have u:=Wb.1 hb;have I:x=y:=by
   rcases Vg.1 ((h x).1 (by simp)) with e | e;·exact e
   ·rcases Vg.1 ((h y).2 (by simp)) with e' | e';·exact e'.symm
    ·have:=u.1 x e;have:=E.1 y e';omega
  subst I;congr 1;refine Hm E.2 u.2 λn=>?_;have:=h n;simp only[Vg]at this;constructor
  ·intro hn;rcases this.1 (.inr hn) with e | e;·have:=E.1 n hn;omega
   ·exact e
  ·intro hn;rcases this.2 (.inr hn) with e | e;·have:=u.1 n hn;omega
   ·exact e
def nH (n:Int):Bool->List Int->List Int
 | laid,[]=>if laid then [] else [n]
 | laid,x :: r=>if !laid && decide (n<x) then n :: x :: nH n true r else x :: nH n laid r
theorem xq (n:Int):∀l,nH n true l=l
 | []=>rfl
 | x :: r=>by simp only[nH,U2,Bool.false_and,UQ,Vd,xq n r]
def r7 (l:List Int)(n:Int):List Int:=nH n (decide (n∈l)) l
theorem F6 {n:Int}:∀{l:List Int},jV l->n∉l->jV (nH n false l)/\∀m,m∈nH n false l↔m=n\/m∈l
 | [],_,_=>by simp[nH,jV]
 | x :: r,h,hn=>by
  have h':=Wb.1 h;simp only[nH,Vc,WO,Vb];split
  ·rename_i hlt;rw[xq];refine⟨Wb.2 ⟨λy hy=>?_,h⟩,λm=>by simp⟩;rcases Vg.1 hy with rfl | hy;·exact hlt
   ·have:=h'.1 y hy;omega
  ·rename_i hlt;obtain⟨h1,h2⟩:=F6 (n:=n) h'.2 (λe=>hn (by simp[e]));have hne:n≠x:=λe=>hn (by simp[e]);refine⟨Wb.2 ⟨λy hy=>?_,h1⟩,λm=>?_⟩
   ·rcases (h2 y).1 hy with rfl | hy;·omega
    ·exact h'.1 y hy
   ·simp only[Vg,h2];constructor;·rintro (e | e | e)<;>simp[e]
    ·rintro (e | e | e)<;>simp[e]
theorem Ug {l:List Int}{n:Int}(h:jV l):jV (r7 l n)/\∀m,m∈r7 l n↔m=n\/m∈l:=by
 by_cases hn:n∈l
 ·simp only[r7,Uu hn,xq];exact⟨h,λm=>⟨.inr,λe=>e.elim (λe=>e▸hn) id⟩⟩
 ·simp only[r7,Us hn];exact F6 h hn
def qf (l more:List Int):List Int:=more.foldl r7 l
theorem Ea:∀{more l:List Int},jV l->jV (qf l more)/\∀m,m∈qf l more↔m∈l\/m∈more
 | [],l,h=>⟨h,λm=>by simp[qf]⟩
 | n :: r,l,h=>by
  obtain⟨h1,h2⟩:=Ug (n:=n) h;obtain⟨h3,h4⟩:=Ea (more:=r) h1;refine⟨h3,λm=>?_⟩;have:=h4 m;simp only[qf,Wu]at this ⊢;rw[this,h2];simp only[Vg];constructor;·rintro ((e | e) | e)<;>simp[e]
  ·rintro (e | e | e)<;>simp[e]
def pS (l:List Int):List Int:=qf [] l
theorem HL (l:List Int):jV (pS l)/\∀m,m∈pS l↔m∈l:=by have:=Ea (more:=l) (l:=[]) List.Pairwise.nil;exact⟨this.1,λm=>by rw[pS,this.2];simp⟩
theorem Uf (l:List Int)(n:Int):(r7 l n).length<=l.length+1:=by
 have:∀(l:List Int)(b:Bool),(nH n b l).length<=l.length+1:=by
  intro l;induction l with
  | nil=>intro b;cases b<;>simp[nH]
  | cons x r ih=>
   intro b;simp only[nH];split;·rw[xq];simp
   ·simp only[UG];have:=ih b;omega
 exact this _ _
theorem D_:∀(more l:List Int),(qf l more).length<=l.length+more.length
 | [],l=>by simp[qf]
 | n :: r,l=>by have:=D_ r (r7 l n);have h1:=Uf l n;simp only[qf,Wu,UG]at this ⊢;omega
theorem xO (l:List Int):(pS l).length<=l.length:=by have:=D_ l [];simpa [pS] using this
def fq.aI (x:fq):List Int:=pS (x.aA++x.aC)
def fq.aL (x:fq):List Int:=pS (x.aA++x.aC++x.aD)
def dn (l:List Int):Nat->List Int
 | 0=>[]
 | n+1=>dn l n++(if n≠0/\l[n]?=l[n-1]? then [] else l[n]?.toList)
def uP (l:List Int):List Int:=dn l l.length
theorem Fk {l:List Int}(hs:l.Pairwise (·<=·)):∀n,n<=l.length->jV (dn l n)/\(∀m,m∈dn l n↔m∈l.take n)
 | 0,_=>by simp[dn,jV]
 | n+1,hn=>by
  obtain⟨h1,h2⟩:=Fk hs n (by omega);have hlt:n<l.length:=by omega
  have M:∀m∈l.take n,m<=l[n]:=by intro m hm;obtain⟨i,hi,rfl⟩:=List.getElem_of_mem hm;simp only[UD]at hi;rw[VK];exact Wl.1 hs i n (by omega) hlt (by omega)
  have u:∀m,m∈l.take (n+1)↔m∈l.take n\/m=l[n]:=by intro m;rw[U3 hlt];simp only[U4,Wc]
  simp only[dn];split;·rename_i hc;rw[Vo];refine⟨h1,λm=>?_⟩;rw[h2,u];refine⟨.inl,λe=>e.elim id (λe=>?_)⟩;subst e;have e2:l[n-1]?=some l[n-1]:=Ur (by omega);rw[Ur hlt,e2]at hc;have e3:l[n]=l[n-1]:=WN hc.2;rw[e3];exact List.mem_take_iff_getElem.2 ⟨n-1,by omega,rfl⟩
  ·rename_i hc;rw[Ur hlt];refine⟨List.pairwise_append.2 ⟨h1,by simp,λa ha b hb=>?_⟩,λm=>by rw[U4,h2,u];simp⟩;simp at hb;subst hb;have E:=(h2 a).1 ha;have hle1:=M a E;apply UC;intro hnl;have hae:a=l[n]:=by omega
   obtain⟨i,hi,O⟩:=List.getElem_of_mem E;simp only[UD]at hi;rw[VK]at O;have I:n≠0:=by omega
   have e2:l[n-1]?=some l[n-1]:=Ur (by omega);have h3:l[n-1]<=l[n]:=Wl.1 hs (n-1) n (by omega) hlt (by omega);have h4:l[i]<=l[n-1]:=by
    rcases VX i (n-1) with h | h;·exact Wl.1 hs i (n-1) (by omega) (by omega) h
    ·have:i=n-1:=by omega
     subst this;exact UL _
   exact hc ⟨I,by rw[Ur hlt,e2];congr 1;omega⟩
theorem Ll (l:List Int):uP (kv l)=pS l:=by
 have hs:(kv l).Pairwise (·<=·):=by have:=List.pairwise_mergeSort (le:=λx y:Int=>decide (x<=y)) (λa b c h1 h2=>by simp at *;omega) (λa b=>by simp;omega) l;exact this.imp λh=>by simpa using h
 obtain⟨h1,h2⟩:=Fk hs (kv l).length (Uy _);obtain⟨h3,h4⟩:=HL l;refine Hm h1 h3 λm=>?_;rw[h4,show uP (kv l)=dn (kv l) (kv l).length from rfl,h2,U7];exact List.mem_mergeSort
def rB (ls:List (List Int)):D:=.sl 1 (ls.map λl=>[fM l])
theorem Rd.aM {F:Nat->Prop}{h:eW}{ls:List (List Int)}{a:AV}(hx:Rd F h (rB ls) a){i:Nat}(hi:i<ls.length):
  ∃p v,jg 1 a (.aA .i64 i)=some p/\ir h false 1 p=some v/\Rd F h (fM ls[i]) v:=by
 obtain⟨p,cs,hp,u,e⟩:=hx.aE .i64 (i:=i) (d:=[fM ls[i]]) (by omega) (by simp[hi]);simp only[fm]at e;obtain⟨v,_,rfl,hv,rfl⟩:=e;exact⟨p,v,hp,by rw[ju u];exact xN _ _ _,hv⟩
theorem xh {ls:List (List Int)}{i:Nat}(hi:i<ls.length):(ls.take (i+1)).flatten=(ls.take i).flatten++ls[i]:=by rw[U3 hi,List.flatten_append];simp only[List.flatten_cons,List.flatten_nil,Vo]
theorem Fy (ls:List (List Int))(i:Nat):(ls.take i).flatten.length<=ls.flatten.length:=by
 have:ls.flatten=(ls.take i).flatten++(ls.drop i).flatten:=by rw[<-List.flatten_append,VO]
 rw[this];simp
def Dr (P:Program)(f:FuncId):Prop:=
 fP P f=true/\∀(h:eW)(n:Nat),n<=2^40->fC P f [.aD,.aA .i64 n] h λr h'=>eX (fM []) (λm=>h.length<=m) h' r/\gP h' r/\eV eY h h'
theorem Hk (g:fB->AV)(h:eW)(x:sM):gx g h (.x x)=l_ g x:=UE rfl rfl
theorem MI (g:fB->AV)(h:eW)(sz bytes:Nat)(z:List AV)(x y:fB):jX g h (.aG sz bytes z x y)=sN h sz bytes z (g x) (g y):=UE rfl rfl
theorem ML (g:fB->AV)(h:eW)(sz:Nat)(z:List AV)(x:fB):jX g h (.aH sz z x)=(sO h sz z (g x)).map λh'=>(.aI [],h'):=UE rfl rfl
theorem IG {P:Program}{f:FuncId}(hf:Is P f Bw):Dr P f:=by
 refine⟨hf.2,λh n hn=>fU hf ?_⟩;have c0:¬(n:Int)<0:=by omega
 have e:ik .aD=some (.aA .i64 0):=rfl;have e0:IntKind.i64.wrap (0-0)=0:=rfl;have e1:IntKind.i64.wrap ((n:Int)-0)=n:=by rw[Int.sub_zero,gi (by omega)]
 have u:iB 1 .aD none (some 0) none=some .aD:=rfl;simp only[Bw,go_sem,Us c0,Hk,l_,e,e0,e1];by_cases c1:0<(n:Int)
 ·have hz:sN h 1 8 [.aA .i64 0] .aD (.aA .i64 n)=some (.aG h.length 1 0 n none,h++[some (.aA 1 (List.replicate n [.aA .i64 0]) true)]):=by simp only[sN];rw[Uv ⟨by omega,by omega⟩];simp only[ij];rw[Uv (by simp;omega)];simp[gM]
  have hs:iB 1 (.aG h.length 1 0 n none) none (some 0) none=some (.aG h.length 1 0 0 none):=by simp only[iB,Vv,U6];rw[Uv ⟨UF,by omega,by omega,by omega,by omega,by omega⟩];rfl
  simp only[go_sem,Uu c1,nv,u,MI,Hk,l_,e,hz,hs];refine⟨?_,⟨_,_,gH _ _,λ_=>rfl,λc hc=>by cases hc⟩,eV.b1 _⟩;simp only[fM,Vl,eX];exact .inr (.inr ⟨_,0,none,_,true,rfl,Uy _,gH _ _,by simp,(λc hc=>by cases hc),by simp[fG]⟩)
 ·simp only[go_sem,Us c1];exact⟨eX.aD 1,UF,eV.aC _ _⟩
def Dd (P:Program)(f:FuncId):Prop:=
 fP P f=true/\∀(F:Nat->Prop)(h:eW) (ls:List (List Int)) (a:AV),Rd F h (rB ls) a->ls.length<=2^40->ls.flatten.length<=2^40->fC P f [a] h λr h'=>eX (fM ls.flatten) (λm=>h.length<=m) h' r/\eV eY h h'
theorem Ik {P:Program}{f g:FuncId}(hf:Is P f (Bu g))(hg:Dr P g):Dd P f:=by
 refine⟨hf.2,λF h ls a ha hl ht=>fU hf ?_⟩;have la:ik a=some (.aA .i64 ls.length):=by simpa using ha.aC
 simp only[Bu,go_sem,la];refine iM (λm L h'=>∃i:Nat,lk 0 L=a/\lk 9 L=a/\lk 10 L=.aA .i64 ls.length/\lk 11 L=.aA .i64 i/\lk 3 L=.aA .i64 (ls.take i).flatten.length/\h=h'/\i<=ls.length/\m=ls.length-i) ls.length ?_ ?_;·exact⟨0,by simp[fj,h_],by simp[fj],by simp[fj],by simp[fj],by simp[fj],rfl,by omega,by omega⟩
 ·rintro m L h' ⟨i,k0,k9,O,M,k3,rfl,hi,rfl⟩;simp only[EY,go_sem,O,M];refine iw (λci=>?_) (λci=>?_)
  ·simp at ci;obtain⟨p,v,hp,hv,hr⟩:=ha.aM ci;have e:IntKind.i64.wrap (↑i+1)=(i:Int)+1:=gi (by omega);have u:=Fy ls (i+1);rw[xh ci,Ut]at u;have e2:IntKind.i64.wrap ((ls.take i).flatten.length+ls[i].length)=(((ls.take i).flatten.length+ls[i].length:Nat):Int):=by rw[gi (by omega)];omega
   have cn:¬(((ls.take i).flatten.length+ls[i].length:Nat):Int)<0:=by omega
   simp only[go_sem,k0,k9,O,M,k3,hp,hv,hr.aF,e2,Us cn,e];exact⟨_,by omega,i+1,by simp,by rw[xh ci,Ut],ci,rfl⟩
  ·simp at ci;obtain rfl:i=ls.length:=by omega
   rw[U7]at k3;simp only[go_sem,k3];refine fA ⟨hg.1,hg.2 _ ls.flatten.length ht⟩ ?_;rintro r h2 ⟨ro,rc,rx⟩;simp only[go_sem,k0,la];refine iM (λm L h'=>∃(i:Nat)(o:AV),lk 25 L=a/\lk 26 L=.aA .i64 ls.length/\lk 27 L=.aA .i64 i/\lk 6 L=o/\eX (fM (ls.take i).flatten) (λm=>h.length<=m) h' o/\gP h' o/\eV eY h h'/\i<=ls.length/\m=ls.length-i) ls.length ?_ ?_;·exact⟨0,r,by simp[fj],by simp[fj],by simp[fj],by simp[fj],ro,rc,rx,by omega,by omega⟩
   ·rintro m L h3 ⟨i,o,W,I,E,k6,hO,hA,hE,hi,rfl⟩;simp only[EZ,go_sem,I,E];refine iw (λci=>?_) (λci=>?_);·simp at ci;obtain⟨p,v,hp,hv,hr⟩:=(ha.up hE).aM ci;have e:IntKind.i64.wrap (↑i+1)=(i:Int)+1:=gi (by omega);have u:=Fy ls (i+1);rw[xh ci,Ut]at u;obtain⟨ys,Z,a1⟩:=hr.aH;obtain⟨o2,h4,a5,a2,a4,a3⟩:=m7 (bytes:=8) hO hA (eV.aC eY _) (vk a1) hE.1 (by simp only[UI];omega);have U:=iq Z 8 o;rw[a5]at U;simp only[go_sem,W,I,E,k6,hp,hv,U,e];exact⟨_,by omega,i+1,o2,by simp,rfl,by rw[xh ci,fM,Ve];exact a2,a4,hE.aJ a3 (λm hm hm'=>by omega),ci,rfl⟩
    ·simp at ci;obtain rfl:i=ls.length:=by omega
     rw[U7]at hO;simp only[go_sem,k6];exact⟨hO,hE⟩
def oB (n off:Nat)(cap:Option Nat)(l:List Int)(F:Nat->Prop)(h:eW):Prop:=
 F n/\∃row g,h[n]?=some (some (.aA 1 row g))/\off+l.length<=row.length/\sZ cap l.length/\(row.drop off).take l.length=l.map λn=>[.aA .i64 n]
theorem O7 {F:Nat->Prop}{h:eW}{l:List Int}{a:AV}(ho:eX (fM l) F h a) (hl:l≠[]):∃n off cap,a=.aG n 1 off l.length cap/\oB n off cap l F h:=by
 simp only[fM,eX]at ho;rcases ho with⟨_,e⟩ | ⟨_,_,_,e⟩ | ⟨n,off,cap,row,g,rfl,hF,E,I,u,M⟩
 ·simp at e;exact absurd e hl
 ·simp at e;exact absurd e hl
 ·rw[UI]at M I u ⊢;exact⟨n,off,cap,rfl,hF,row,g,E,I,u,Co M⟩
theorem oB.aC {n off:Nat}{cap:Option Nat}{l:List Int}{F:Nat->Prop}{h:eW}(ho:oB n off cap l F h){k:Nat}(hk:k<=l.length):eX (fM (l.take k)) F h (.aG n 1 off k cap):=by
 obtain⟨hF,row,g,e,hle,u,E⟩:=ho;have hl:(l.take k).length=k:=by simp;omega
 simp only[fM,eX,UI,hl];refine .inr (.inr ⟨n,off,cap,row,g,rfl,hF,e,by omega,λc hc=>by have:=u c hc;omega,?_⟩);have:(row.drop off).take k=(l.take k).map λn=>[.aA .i64 n]:=by have:=WQ (List.take k) E;rw[Va,Vk hk,<-V6]at this;exact this
 rw[this];exact vh .i64 _ _ _
theorem oB.aA {n off:Nat}{cap:Option Nat}{l:List Int}{F:Nat->Prop}{h:eW}(ho:oB n off cap l F h){k:Nat}(hk:k<l.length):ir h false 1 (.aC n 1 (off+k) 0)=some (.aA .i64 l[k]):=by
 obtain⟨hF,row,g,e,hle,hcap,u⟩:=ho;have:((row.drop off).take l.length)[k]?=some [.aA .i64 l[k]]:=by rw[u];simp[hk]
 rw[Vh hk,UR]at this;rw[Eb,e,Hq,this];rfl
theorem oB.aD {n off:Nat}{cap:Option Nat}{l:List Int}{F:Nat->Prop}{h:eW}(ho:oB n off cap l F h){k:Nat}(hk:k<l.length)(v:Int):
  ∃h',pD h 1 (.aC n 1 (off+k) 0) (.aA .i64 v)=some h'/\oB n off cap (l.set k v) F h'/\eV F h h':=by
 obtain⟨hF,row,g,e,I,u,E⟩:=ho;have h1:((row.drop off).take l.length)[k]?=some [.aA .i64 l[k]]:=by rw[E];simp[hk]
 rw[Vh hk,UR]at h1;have hlt:=(Up.1 e).1;refine⟨_,wE (x:=.aA .i64 v) e h1 rfl rfl rfl rfl,⟨hF,_,g,Ux hlt,by simpa using I,by simpa using u,?_⟩,eV.aI _ (λ_=>hF)⟩;rw[List.drop_set,Uw (by omega),UA,List.take_set,E,List.map_set,show off+k-off=k by omega]
def Db (P:Program)(f:FuncId):Prop:=
 fP P f=true/\∀(F:Nat->Prop)(h:eW)(l:List Int)(a:AV),eX (fM l) F h a->l.length<=2^40->fC P f [a] h λr h'=>eX (fM (uP l)) F h' r/\eV F h h'
theorem Ij {P:Program}{f:FuncId}(hf:Is P f Bt):Db P f:=by
 refine⟨hf.2,λF h l a ho hl=>fU hf ?_⟩;have la:=(eX.rd (F':=λ_=>True) _ (λ_ _=>UF) _ ho).aF;simp only[Bt,go_sem,la];by_cases c2:(l.length:Int)<2
 ·simp only[go_sem,Uu c2];refine⟨?_,eV.aC _ _⟩;have:uP l=l:=by
   match l,c2 with
   | [],_=>rfl
   | [x],_=>rfl
   | x :: y :: r,h=>simp at h;omega
  rw[this];exact ho
 ·have ab:l≠[]:=by rintro rfl;simp at c2
  obtain⟨n,off,cap,rfl,hI⟩:=O7 ho ab;have W:∀(i:Int)(k:Nat),i=k->k<l.length->jg 1 (.aG n 1 off l.length cap) (.aA .i64 i)=some (.aC n 1 (off+k) 0):=λi k e hk=>by subst e;simp only[jg];rw[Uv ⟨UF,by omega,by omega⟩];simp
  simp only[go_sem,Us c2];refine iM (λm L h'=>∃i:Nat,lk 0 L=.aG n 1 off l.length cap/\lk 3 L=.aA .i64 i/\h=h'/\1<=i/\i<=l.length/\m=l.length-i/\dn l i=l.take i) (l.length-1) ?_ ?_
  ·refine⟨1,by simp[fj,h_],by simp[fj],rfl,by omega,by omega,by omega,?_⟩;match l,ab with
   | x :: r,_=>simp[dn]
  ·rintro m L h' ⟨i,k0,k3,rfl,hi1,hi,rfl,hd⟩;simp only[EX,go_sem,k0,k3,la];refine iw (λci=>?_) (λci=>?_)
   ·simp at ci;have e1:IntKind.i64.wrap (↑i+1)=(i:Int)+1:=gi (by omega);have e2:IntKind.i64.wrap (↑i-1)=((i-1:Nat):Int):=by rw[gi (by omega)];omega
    simp only[go_sem,k0,k3,e2,W _ i rfl ci,W _ (i-1) rfl (by omega),hI.aA ci,hI.aA (show i-1<l.length by omega)];have a4:dn l (i+1)=l.take i++(if l[i]=l[i-1] then [] else [l[i]]):=by
     simp only[dn,hd];rw[Ur ci,Ur (show i-1<l.length by omega)];congr 1;by_cases e:l[i]=l[i-1];·rw[Uv ⟨by omega,by rw[e]⟩,Uv e]
     ·rw[Uw (λh=>e (WN h.2)),Uw e];rfl
    by_cases ce:l[i]=l[i-1]
    ·rw[Uv ce,Vo]at a4;have hs:iB 1 (.aG n 1 off l.length cap) (some (i:Int)) none none=some (.aG n 1 (off+i) (l.length-i) (jB none i cap)):=by obtain⟨_,row,g,M,a9,u,a3⟩:=hI;simp only[iB,U6,Vv];rw[Uv ⟨UF,by omega,by omega,by omega,by omega,by cases cap with | none=>simp | some c=>have:=u c rfl;simp;omega⟩,Uw (by omega),Uv (by omega)];simp
     simp only[go_sem,Uu ce,k0,k3,nv,hs];have O:∀(j:Int)(k:Nat),j=k->i+k<l.length->jg 1 (.aG n 1 (off+i) (l.length-i) (jB none i cap)) (.aA .i64 j)=some (.aC n 1 (off+(i+k)) 0):=λj k e hk=>by subst e;simp only[jg];rw[Uv ⟨UF,by omega,by omega⟩];simp;omega
     refine iM (λm L h'=>∃(k q:Nat)(I:List Int),lk 0 L=.aG n 1 off l.length cap/\lk 4 L=.aG n 1 (off+i) (l.length-i) (jB none i cap)/\lk 3 L=.aA .i64 q/\lk 5 L=.aA .i64 k/\oB n off cap I F h'/\eV F h h'/\I.length=l.length /\
      1<=k/\i+k<=l.length/\q<=i+k-1/\i<=q/\I.take q=dn l (i+k)/\(∀j,q<=j->I[j]?=l[j]?)/\m=l.length-i-k) (l.length-i-1) ?_ ?_
     ·exact⟨1,i,l,by simp[fj,k0],by simp[fj],by simp[fj,k3],by simp[fj],hI,eV.aC _ _,rfl,by omega,by omega,by omega,by omega,a4.symm,λj hj=>rfl,by omega⟩
     ·rintro m L h2 ⟨k,q,I,k0,k4,k3,k5,hC,hE,a5,hk1,hk,hq,af,a7,E,rfl⟩;have l4:ik (.aG n 1 (off+i) (l.length-i) (jB none i cap))=some (.aA .i64 ((l.length-i:Nat):Int)):=rfl;simp only[EW,go_sem,k4,k5,l4];refine iw (λck=>?_) (λck=>?_)
      ·simp at ck;have a6:i+k<l.length:=by omega
       have e3:IntKind.i64.wrap (↑k+1)=(k:Int)+1:=gi (by omega);have e4:IntKind.i64.wrap (↑k-1)=((k-1:Nat):Int):=by rw[gi (by omega)];omega
       have e5:IntKind.i64.wrap (↑q+1)=(q:Int)+1:=gi (by omega);have a1:=hC.aA (show i+k<I.length by omega);have a2:=hC.aA (show i+(k-1)<I.length by omega);have g1:I[i+k]'(by omega)=l[i+k]:=by have:=E (i+k) (by omega);rw[Ur (by omega),Ur a6]at this;exact WN this
       have g2:I[i+(k-1)]'(by omega)=l[i+k-1]'(by omega):=by have:=E (i+(k-1)) (by omega);rw[Ur (by omega),Ur (by omega)]at this;have e:=WN this;rw[e];congr 1;omega
       rw[g1]at a1;rw[g2]at a2;have U:dn l (i+(k+1))=dn l (i+k)++(if l[i+k]=l[i+k-1] then [] else [l[i+k]]):=by
        rw[<-V5];simp only[dn];rw[Ur a6,Ur (show i+k-1<l.length by omega)];congr 1;by_cases e:l[i+k]=l[i+k-1];·rw[Uv ⟨by omega,by rw[e]⟩,Uv e]
        ·rw[Uw (λh=>e (WN h.2)),Uw e];rfl
       simp only[go_sem,k4,k5,e4,O _ k rfl a6,O _ (k-1) rfl (by omega),a1,a2];by_cases cq:l[i+k]=l[i+k-1];·rw[Uv cq,Vo]at U;simp only[go_sem,Uu cq,k0,k4,k3,k5,e3];exact⟨_,by omega,k+1,q,I,by simp,by simp,hC,hE,a5,by omega,by omega,by omega,af,by rw[U];exact a7,E,rfl⟩
       ·rw[Uw cq]at U;obtain⟨h3,s1,s2,s3⟩:=hC.aD (show q<I.length by omega) l[i+k];simp only[go_sem,Us cq,k0,k4,k3,k5,W _ q rfl (by omega),O _ k rfl a6,a1,s1,e3,e5];refine⟨_,by omega,k+1,q+1,I.set q l[i+k],by simp,by simp,s2,hE.aD s3 (λ_ _ x=>x) (λ_ _ x=>x),by simpa using a5,by omega,by omega,by omega,by omega,?_,λj hj=>?_,rfl⟩;·rw[U,<-a7,U3 (by simp;omega),VC,List.take_set_of_le (Uy _)]
        ·rw[Uq (by omega)];exact E j (by omega)
      ·simp at ck;have ag:i+k=l.length:=by omega
       have hql:q<l.length:=by omega
       have ad:iB 1 (.aG n 1 off l.length cap) (some (q:Int)) none none=some (.aG n 1 (off+q) (l.length-q) (jB none q cap)):=by obtain⟨_,row,g,M,a9,u,a3⟩:=hC;rw[a5]at u;simp only[iB,U6,Vv];rw[Uv ⟨UF,by omega,by omega,by omega,by omega,by cases cap with | none=>simp | some c=>have:=u c rfl;simp;omega⟩,Uw (by omega),Uv (by omega)];simp
       have ac:iB 1 (.aG n 1 off l.length cap) none (some (q:Int)) none=some (.aG n 1 off q cap):=by obtain⟨_,row,g,M,a9,u,a3⟩:=hC;rw[a5]at u;simp only[iB,U6,Vv];rw[Uv ⟨UF,by omega,by omega,by omega,by omega,by cases cap with | none=>simp;omega | some c=>have:=u c rfl;simp;omega⟩];simp[jB]
       obtain⟨hF,row,g,M,a9,u,a3⟩:=hC;have aa:sO h2 1 [.aA .i64 0] (.aG n 1 (off+q) (l.length-q) (jB none q cap))=some (h2.set n (some (.aA 1 (gZ row (off+q) (List.replicate (l.length-q) [.aA .i64 0])) g))):=by simp only[sO];rw[Uw (by omega),M];simp only;rw[Uv ⟨UF,UF,by omega⟩]
       simp only[go_sem,k0,k3,nv,ad,ML,aa,ac];have hlt:=(Up.1 M).1;have a8:(gZ row (off+q) (List.replicate (l.length-q) [AV.aA .i64 0])).length=row.length:=by simp only[gZ,Ut,UD,UP,VN];omega
       have ah:oB n off cap (I.take q) F (h2.set n (some (.aA 1 (gZ row (off+q) (List.replicate (l.length-q) [.aA .i64 0])) g))):=by
        refine⟨hF,_,g,Ux hlt,by rw[a8];simp;omega,λc hc=>by have:=u c hc;simp;omega,?_⟩;have h1:(row.take (off+q)).length=off+q:=by simp;omega
        have ae:(I.take q).length=q:=by simp;omega
        rw[ae];have h3:((gZ row (off+q) (List.replicate (l.length-q) [AV.aA .i64 0])).drop off).take q=(row.drop off).take q:=by simp only[gZ];rw[UW,VS (by omega),U0 (by simp;omega),List.drop_take,Va];congr 1;omega
        rw[h3];have:=WQ (List.take q) a3;rw[Va,Vk (by omega),<-V6]at this;exact this
       have Z:=ah.aC (k:=q) (by simp;omega);rw[Va,Wr,a7,ag]at Z;exact⟨Z,hE.aD (eV.aI _ (λ_=>hF)) (λ_ _ x=>x) (λ_ _ x=>x)⟩
    ·rw[Uw ce]at a4;simp only[go_sem,Us ce,k0,k3,e1];exact⟨_,by omega,i+1,by simp,by omega,ci,rfl,by rw[a4,U3 ci]⟩
   ·simp at ci;obtain rfl:i=l.length:=by omega
    rw[U7]at hd;simp only[go_sem,k0];exact⟨by rw[uP,hd];exact ho,eV.aC _ _⟩
def wv (P:Program)(f:FuncId):Prop:=
 fP P f=true/\∀(F:Nat->Prop)(h:eW) (ls:List (List Int)) (a:AV),Rd F h (rB ls) a->ls.length<=2^40->ls.flatten.length<=2^40->fC P f [a] h λr h'=>eX (fM (pS ls.flatten)) (λm=>h.length<=m) h' r/\eV eY h h'
theorem SV {P:Program}{f c s k:FuncId}(hf:Is P f (AK c s k))(hc:Dd P c)(hs:DN P s)(hk:Db P k):wv P f:=by refine⟨hf.2,λF h ls a ha hl ht=>fU hf ?_⟩;simp only[AK,go_sem];refine fA ⟨hc.1,hc.2 F _ ls a ha hl ht⟩ ?_;rintro r h1 ⟨ro,rx⟩;simp only[go_sem];refine fA ⟨hs.1,hs.2 _ _ _ r ro ht⟩ ?_;rintro _ h2 ⟨so,sx⟩;simp only[go_sem];refine fA ⟨hk.1,hk.2 _ _ _ r so (by rw[HB];exact ht)⟩ ?_;rintro u h3 ⟨uo,ux⟩;simp only[go_sem];rw[Ll]at uo;exact⟨uo,(rx.aJ sx (λm hm e=>by omega)).aJ ux (λm hm e=>by omega)⟩
def ot (P:Program)(f:FuncId)(t:fq->List Int):Prop:=
 fP P f=true/\∀(F:Nat->Prop)(h:eW)(x:fq)(a:List AV),fm F h x.c a->x.aH (2^38)->fC P f [.aF a] h λr h'=>eX (fM (t x)) (λm=>h.length<=m) h' r/\eV eY h h'
theorem Qb {F:Nat->Prop}{H:eW}{o n:AV}{x y:List Int}(ho:Rd F H (fM x) o)(hn:Rd F H (fM y) n):Rd (λ_=>True) (H++[some (.aA 1 [[o],[n]] false)]) (rB [x,y]) (.aG H.length 1 0 2 (some 2)):=by have x0:=eV.b1 (h:=H) (some (.aA 1 [[o],[n]] false));simp only[rB,U5,Vl,Rd];refine⟨[[o],[n]],.inr (.inr ⟨H.length,0,2,some 2,[[o],[n]],false,rfl,UF,gH _ _,by simp,λc hc=>by cases hc;omega,rfl⟩),?_⟩;simp only[fY,fm];exact⟨_,_,rfl,⟨o,_,rfl,Rd.aD (λ_ _=>UF) (gS.lt _ _) _ _ (ho.up x0),rfl⟩,_,_,rfl,⟨n,_,rfl,Rd.aD (λ_ _=>UF) (gS.lt _ _) _ _ (hn.up x0),rfl⟩,rfl⟩
theorem Qc {F:Nat->Prop}{H:eW}{o n e:AV}{x y z:List Int}(ho:Rd F H (fM x) o)(hn:Rd F H (fM y) n)(he:Rd F H (fM z) e):Rd (λ_=>True) (H++[some (.aA 1 [[o],[n],[e]] false)]) (rB [x,y,z]) (.aG H.length 1 0 3 (some 3)):=by have x0:=eV.b1 (h:=H) (some (.aA 1 [[o],[n],[e]] false));simp only[rB,U5,Vl,Rd];refine⟨[[o],[n],[e]],.inr (.inr ⟨H.length,0,3,some 3,[[o],[n],[e]],false,rfl,UF,gH _ _,by simp,λc hc=>by cases hc;omega,rfl⟩),?_⟩;simp only[fY,fm];exact⟨_,_,rfl,⟨o,_,rfl,Rd.aD (λ_ _=>UF) (gS.lt _ _) _ _ (ho.up x0),rfl⟩,_,_,rfl,⟨n,_,rfl,Rd.aD (λ_ _=>UF) (gS.lt _ _) _ _ (hn.up x0),rfl⟩,_,_,rfl,⟨e,_,rfl,Rd.aD (λ_ _=>UF) (gS.lt _ _) _ _ (he.up x0),rfl⟩,rfl⟩
theorem PD {P:Program}{f g:FuncId}(hf:Is P f (AF g))(hg:wv P g):ot P f fq.aI:=by
 refine⟨hf.2,λF h x a ha hx=>fU hf ?_⟩;obtain⟨o,n,e,rfl,ho,hn,he⟩:=n_ ha;simp only[AF,go_sem,ho.aA,hn.aA,he.aA,gC ho.aA,gC hn.aA];have u:=Qb (ho.up (eV.b1 (some (.aA 3 [[o,n,e]] false)))) (hn.up (eV.b1 (some (.aA 3 [[o,n,e]] false))));simp only[xw]at u;obtain⟨h1,h2,h3⟩:=hx;refine fA ⟨hg.1,hg.2 _ _ [x.aA,x.aC] _ u (by simp) (by simp;omega)⟩ ?_;rintro r h2 ⟨ro,rx⟩;simp only[go_sem];refine⟨?_,(eV.b2 _ _).tr rx⟩;have:[x.aA,x.aC].flatten=x.aA++x.aC:=by simp
 rw[this]at ro;exact eX.aC _ (λm hm=>by simp at hm;omega) (λ_ _ _ x=>x) _ ro
theorem PC {P:Program}{f g:FuncId}(hf:Is P f (AE g))(hg:wv P g):ot P f fq.aL:=by
 refine⟨hf.2,λF h x a ha hx=>fU hf ?_⟩;obtain⟨o,n,e,rfl,ho,hn,he⟩:=n_ ha;simp only[AE,go_sem,ho.aA,hn.aA,he.aA,gC ho.aA,gC hn.aA,gC he.aA];have u:=Qc (ho.up (eV.b1 (some (.aA 3 [[o,n,e]] false)))) (hn.up (eV.b1 (some (.aA 3 [[o,n,e]] false)))) (he.up (eV.b1 (some (.aA 3 [[o,n,e]] false))));simp only[xw]at u;obtain⟨h1,h2,h3⟩:=hx;refine fA ⟨hg.1,hg.2 _ _ [x.aA,x.aC,x.aD] _ u (by simp) (by simp;omega)⟩ ?_;rintro r h2 ⟨ro,rx⟩;simp only[go_sem];refine⟨?_,(eV.b2 _ _).tr rx⟩;have:[x.aA,x.aC,x.aD].flatten=x.aA++x.aC++x.aD:=by simp
 rw[this]at ro;exact eX.aC _ (λm hm=>by simp at hm;omega) (λ_ _ _ x=>x) _ ro
def kI:Option Int->List Int->Bool
 | _,[]=>true
 | p,x :: r=>!(decide (x<1) || decide (7<x) || (match p with | none=>false | some y=>decide (x<=y))) && kI (some x) r
def tN (l:List Int):Nat->Option Int
 | 0=>none
 | i+1=>l[i]?
def fq.aE (x:fq):Bool:=!(decide (x.aA.length=0) || !kI none x.aA || !kI none x.aC || !kI none x.aD || x.aD.any λn=>decide (n∈x.aA) || decide (n∈x.aC))
def DJ (P:Program)(f:FuncId):Prop:=
 fP P f=true/\∀(F:Nat->Prop)(h:eW)(l:List Int)(a:AV),Rd F h (fM l) a->l.length<=2^40->fC P f [a] h λr h'=>r=.aE (kI none l)/\h'=h
theorem Q2 {P:Program}{f:FuncId}(hf:Is P f AJ):DJ P f:=by
 refine⟨hf.2,λF h l a ha hl=>fU hf ?_⟩;have la:=ha.aF;simp only[AJ,go_sem,la];refine iM (λm L h'=>∃i:Nat,lk 0 L=a/\lk 5 L=a/\lk 6 L=.aA .i64 l.length/\lk 7 L=.aA .i64 i/\h=h'/\i<=l.length/\m=l.length-i/\kI (tN l i) (l.drop i)=kI none l) l.length ?_ ?_;·exact⟨0,by simp[fj,h_],by simp[fj],by simp[fj],by simp[fj],rfl,by omega,by omega,rfl⟩
 ·rintro m L h1 ⟨i,k0,k5,k6,k7,rfl,hi,rfl,hq⟩;simp only[EP,go_sem,k6,k7];refine iw (λci=>?_) (λci=>?_)
  ·simp at ci;obtain⟨p,hp,hv⟩:=ha.aG ci;have e1:IntKind.i64.wrap (↑i+1)=(i:Int)+1:=gi (by omega);rw[VT ci]at hq;simp only[kI]at hq;have e:tN l (i+1)=some l[i]:=by simp[tN,ci]
   simp only[go_sem,k5,k7,hp,hv];by_cases c1:l[i]<1;·simp only[go_sem,Uu c1];rw[<-hq];simp[c1]
   by_cases c2:7<l[i]
   ·simp only[go_sem,Us c1,Uu c2];rw[<-hq];simp[c2]
   by_cases c3:0<(i:Int)
   ·obtain⟨j,rfl⟩:∃j,i=j+1:=⟨i-1,by omega⟩;obtain⟨p2,I,u⟩:=ha.aG (i:=j) (by omega);have e2:IntKind.i64.wrap (((j+1:Nat):Int)-1)=(j:Int):=by rw[gi (by omega)];omega
    have E:tN l (j+1)=some (l[j]'(by omega)):=by simp only[tN];exact Ur (by omega)
    rw[E]at hq;simp only[go_sem,Us c1,Us c2,Uu c3,k0,e2,I,u];by_cases c4:l[j+1]<=l[j]'(by omega);·simp only[go_sem,Uu c4];rw[<-hq];simp[c4]
    ·simp only[go_sem,Us c4,k0,k5,k6,k7,e1];refine⟨_,by omega,j+1+1,by simp,by omega,rfl,?_⟩;rw[e,<-hq];simp[c1,c2,c4]
   ·obtain rfl:i=0:=by omega
    simp only[go_sem,Us c1,Us c2,Us c3,k0,k5,k6,k7,e1];refine⟨_,by omega,1,by simp,by omega,rfl,?_⟩;rw[e,<-hq];simp[c1,c2,tN]
  ·simp at ci;obtain rfl:i=l.length:=by omega
   rw[WJ]at hq;simp only[go_sem];rw[<-hq];rfl
def fq.aJ (x:fq)(n:Int):Bool:=decide (n∈x.aA) || decide (n∈x.aC)
theorem fq.aQ (x:fq):x.aE=!(decide (x.aA.length=0) || !kI none x.aA || !kI none x.aC || !kI none x.aD || x.aD.any x.aJ):=rfl
theorem Ie {P:Program}{f g:FuncId}(hf:Is P f (wQ g))(hg:nO P g){F:Nat->Prop}{h:eW}{x:fq}{o n e:AV}{m:Nat}(ho:Rd F h (fM x.aA) o)(hn:Rd F h (fM x.aC) n)(hx:x.aH (2^38))
  (hq:h[m]?=some (some (.aA 3 [[o,n,e]] false))) (k:Int):fC P f [.aA .i64 k,.aC m 3 0 0] h λr h'=>r=.aE (x.aJ k)/\h'=h:=by
 refine fU hf ?_;obtain⟨h1,h2,h3⟩:=hx;simp only[wQ,go_sem,hq];refine gh hg.1 (hg.2 F _ x.aA o k ho (by omega)) ?_;by_cases c:k∈x.aA;·simp only[go_sem,Uu c];simp[fq.aJ,c]
 ·simp only[go_sem,Us c,hq];refine gh hg.1 (hg.2 F _ x.aC n k hn (by omega)) ?_;simp only[go_sem];simp[fq.aJ,c]
def yd (P:Program)(f:FuncId):Prop:=
 fP P f=true/\∀(F:Nat->Prop)(h:eW)(x:fq)(a:List AV),fm F h x.c a->x.aH (2^38)->fC P f [.aF a] h λr h'=>r=.aA .i64 (if x.aE then 0 else 29)/\h'=h
theorem Hi (g:fB->AV)(h:eW)(f:FuncId)(cs:List fB):gx g h (.aC f cs)=some (.aL f [] (cs.map g)):=UE rfl rfl
theorem PB {P:Program}{f k g c s:FuncId}(hf:Is P f (AD k g c))(hk:Is P k (wQ s))(hs:nO P s)(hg:DJ P g)(hc:ym P c):yd P f:=by
 refine⟨hf.2,λF h x a ha hx=>jN rfl (fU hf ?_)⟩;obtain⟨o,n,e,rfl,ho,hn,he⟩:=n_ ha;have u:=hx;obtain⟨h1,h2,h3⟩:=hx;have lo:=ho.aF;simp only[AD,go_sem,Hi,U5,Vl,ho.aA,hn.aA,he.aA,lo,Gj];by_cases c0:x.aA.length=0;·simp only[go_sem,Uu c0];exact⟨by simp[fq.aQ,c0],eV.b1 _⟩
 simp only[go_sem,Us c0];refine gh hg.1 (hg.2 F _ x.aA o (ho.up (eV.b1 _)) (by omega)) ?_;cases c1:kI none x.aA;·simp only[go_sem];exact⟨by simp[fq.aQ,c1],eV.b1 _⟩
 simp only[go_sem];refine gh hg.1 (hg.2 F _ x.aC n (hn.up (eV.b1 _)) (by omega)) ?_;cases c2:kI none x.aC;·simp only[go_sem];exact⟨by simp[fq.aQ,c2],eV.b1 _⟩
 simp only[go_sem];refine gh hg.1 (hg.2 F _ x.aD e (he.up (eV.b1 _)) (by omega)) ?_;cases c3:kI none x.aD;·simp only[go_sem];exact⟨by simp[fq.aQ,c3],eV.b1 _⟩
 simp only[go_sem];refine gh hc.1 (hc.2 F _ x.aD e k [] [.aC h.length 3 0 0] x.aJ (he.up (eV.b1 _)) (by omega) hk.2 (λm=>Ie hk hs (ho.up (eV.b1 _)) (hn.up (eV.b1 _)) u (gH _ _) m)) ?_;by_cases c4:0<x.aD.countP x.aJ
 ·have c5:(0:Int)<x.aD.countP x.aJ:=by omega
  have:x.aD.any x.aJ=true:=by rw[WH];exact List.countP_pos_iff.1 c4
  simp only[go_sem,Uu c5];exact⟨by simp only[fq.aQ,this,WK];rfl,eV.b1 _⟩
 ·have c5:¬(0:Int)<x.aD.countP x.aJ:=by omega
  have:x.aD.any x.aJ=false:=by rw[<-Bool.not_eq_true,WH];exact λh=>c4 (List.countP_pos_iff.2 h)
  simp only[go_sem,Us c5];exact⟨by simp only[fq.aQ,this,c1,c2,c3,Us c0];rfl,eV.b1 _⟩
end Glb
