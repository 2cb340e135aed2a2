/-
  A library of its own.
-/
import Derived.Test.YtdeiamnhnfmilaaGreatGlbQuoA
import Derived.Sort.Grow
set_option linter.unusedSimpArgs false
set_option linter.unusedVariables false
set_option maxRecDepth 10000
set_option maxHeartbeats 4000000
open Nat (reduceAdd reduceEqDiff)
namespace Glb
open Go
structure u_5 (P:Program)(f:FuncId):Prop where
 is:f2_ P f=true
 some_:∀(blk off cap:Nat)(zs:List Int)(w:World),Go.Sort.Holds (Value.int .i64) w blk off zs.toArray->blk<w.heap.size->zs.length<4611686018427387904->
  Calls P f #[.slice (some ⟨blk,off,none⟩) zs.length cap] w λe w'=>e=.returned (.tuple #[])/\∃n os,w'=Go.Sort.grow (Go.Sort.putRow (Value.int .i64) (Go.Sort.ahead w n) blk off (zs.mergeSort λx y=>decide (x<=y)).toArray) os
 none_:∀(p:Option Addr)(cap:Nat)(w:World),Calls P f #[.slice p 0 cap] w λe w'=>e=.returned (.tuple #[])/\w'=w
def u0_ (l:List Int):List Int:=l.mergeSort λx y=>decide (x<=y)
theorem V6_ (l:List Int):(u0_ l).length=l.length:=List.length_mergeSort _
def y_l (P:Program)(f:FuncId):Prop:=
 f2_ P f=true/\∀(F:Nat->Prop)(h:a0_)(l:List Int)(a:AV),Own (b1_ l) F h a->l.length<=2^40->a6_ P f [a] h λ_ h'=>Own (b1_ (u0_ l)) F h' a/\Ext F h h'
theorem z_r {P : Program} {f : FuncId} (hk : u_5 P f) : y_l P f := by
 refine ⟨hk.is, λF h l a ho hl G w vs g hv => ?_⟩
 obtain ⟨v, rfl⟩ : ∃ v, vs = #[v] := by
  have := hv.1
  match vs with
  | ⟨[v]⟩ => exact ⟨v, rfl⟩
  | ⟨[]⟩ => simp at this
  | ⟨_ :: _ :: _⟩ => simp at this
 have hV : V G w a v := hv.2 0 a v rfl rfl
 have nil : ∀ p cap, v = .slice p 0 cap -> l = [] -> Calls P f #[v] w λe w' => ∃ v r h' G', e = .returned v /\ (Own (b1_ (u0_ l)) F h' a /\ Ext F h h') /\ Gam G' w' h' /\ V G' w' r v /\ Stp G w G' w' := by
  rintro p cap rfl rfl
  refine (hk.none_ p cap w).mono ?_
  rintro e w' ⟨rfl, rfl⟩
  exact ⟨_, .top, h, G, rfl, ⟨by simpa [u0_] using ho, Ext.refl _ _⟩, g, .top _, Stp.refl G w'⟩
 have ho' := ho
 simp only [b1_, Own] at ho
 rcases ho with ⟨rfl, e⟩ | ⟨t, c, rfl, e⟩ | ⟨n, off, cap, row, gr, rfl, hF, hrow, hle, hcap, hes⟩
 ·have : l = [] := by simpa using e
  cases hV; exact nil _ _ rfl this
 ·have : l = [] := by simpa using e
  cases hV with
  | valsNil => exact nil _ _ rfl this
  | vals => exact nil _ _ rfl this
 ·rw [K_p] at hes hle hcap hV
  have hr := J9_ hes
  generalize hlen : l.length = len at hV
  cases hV with
  | refNil => exact nil _ _ rfl (J_3 hlen)
  | ref _ _ _ _ _ c ty m b hn hb hlc hcapc hs hm =>
   subst hlen
   have hlive := g.mkLive hrow hb
   have hblt := g.locLt hlive hb
   obtain ⟨⟨cells, ty', hcs, h1, h2, h3⟩, hok⟩ := g.arr n 1 row gr b hrow hb
   have hat : ∀ i (hi : i < l.length), cells[off + i]? = some (.int .i64 l[i]) := by
    intro i hi
    have : l1_ row (off + i) 0 = some (.int .i64 l[i]) := by
     have h0 : ((row.drop off).take l.length)[i]? = some [.int .i64 l[i]] := by rw [hr]; simp [hi]
     rw [L_c hi, K_m] at h0
     simp [l1_, h0]
    obtain ⟨v, hv, hV⟩ := h3 _ _ _ this
    cases hV
    simpa using hv
   have hH : Go.Sort.Holds (Value.int .i64) w b off l.toArray := by
    intro j hj
    have hj' : j < l.length := by simpa using hj
    refine ⟨?_, by simp [World.frozen?, hcs]⟩
    have hget : l.toArray[j]! = l[j] := by simp [hj']
    rw [hget]
    simp only [World.cell?, hcs, Option.isSome_none, K_b, if_false]
    exact hat j hj'
   have hcall := hk.some_ b off c l w hH hblt (by omega)
   rw [Nat.mul_one]
   refine hcall.mono ?_
   rintro e w' ⟨rfl, n0, os, rfl⟩
   have hsl : (u0_ l).length = l.length := V6_ l
   simp only [K_p]
   have hsd : (l.mergeSort λx y => decide (x <= y)) = u0_ l := rfl
   rw [hsd]
   generalize hw' : Go.Sort.grow (Go.Sort.putRow (Value.int .i64) (Go.Sort.ahead w n0) b off (u0_ l).toArray) os = w'
   have hold : ∀ k, k < w.heap.size -> k ≠ b -> w'.heap[k]? = w.heap[k]? := by
    intro k hk hne
    subst hw'
    rw [Go.Sort.heap_grow_old _ _ (by simpa [Go.Sort.putRow, Go.Sort.mapBlock, Go.Sort.ahead] using hk)]
    simp [Go.Sort.putRow, Go.Sort.mapBlock, Go.Sort.ahead, L_q]
    intro e; exact absurd e.symm hne
   have hnew : w'.heap[b]? = some (.cells (Go.Sort.putCells (Value.int .i64) off (u0_ l).toArray cells) ty' (0, 0)) := by
    subst hw'
    rw [Go.Sort.heap_grow_old _ _ (by simpa [Go.Sort.putRow, Go.Sort.mapBlock, Go.Sort.ahead] using hblt)]
    simp [Go.Sort.putRow, Go.Sort.mapBlock, Go.Sort.ahead, L_q, hcs, Go.Sort.onCells]
   have hsize : w.heap.size <= w'.heap.size := by subst hw'; simp [Go.Sort.putRow, Go.Sort.mapBlock, Go.Sort.ahead]
   have hpc : (Go.Sort.putCells (Value.int .i64) off (u0_ l).toArray cells).size = cells.size := by simp [Go.Sort.putCells]
   have k : h3_ G w G w' := by
    refine ⟨J_4 _, λ_ _ _ h => h, λ_ _ h => h, λ_ _ h => h, λt b' hp => hold b' (g.protLt hp) ?_, λb' hb' => ?_⟩
    ·rintro rfl
     cases t with
     | zero => exact g.liveS n _ hlive hb hp
     | succ m => exact g.liveTag n m _ hlive hb hp
    ·by_cases e : b' = b
     ·subst e
      simp only [World.shape?, hnew, hcs, hpc]
     ·have hlt : b' < w.heap.size := by
       apply Classical.byContradiction; intro hn
       simp only [World.shape?, Array.getElem?_eq_none (Nat.le_of_not_lt hn)] at hb'
       exact absurd hb' (by simp)
      simp only [World.shape?, hold b' hlt e]
   let ys : List (List AV) := (u0_ l).map λn => [.int .i64 n]
   have hys : ys.length = l.length := by simp [ys, hsl]
   have hspl : (e1_ row off ys).length = row.length := by simp only [e1_, J_z, K_i, K_o, hys]; omega
   have hHol : Holds G w' b 1 (e1_ row off ys) gr := by
    refine ⟨⟨_, ty', hnew, by rw [hpc, hspl]; exact h1, λe => by rw [hpc, hspl]; exact h2 e, λi j c hj => ?_⟩, c_3 hok (λe he => ?_) off⟩
    ·have hpi : ∀ i, (Go.Sort.putCells (Value.int .i64) off (u0_ l).toArray cells)[i]? = (cells[i]?).map λx => if off <= i /\ i < off + (u0_ l).toArray.size then Value.int .i64 (u0_ l).toArray[i - off]! else x := by
      intro i; simp only [Go.Sort.putCells, Array.getElem?_mapIdx]
     rcases d_k (by omega) hj with ⟨hlt, hc⟩ | ⟨hge, hlt, hc⟩ | ⟨hge, hc⟩
     ·obtain ⟨v, hv, hV⟩ := h3 i j c hc
      have hj0 : j = 0 := by
       have := (hok _ (K_1 (show i < row.length by omega))).1
       simp only [l1_] at hc
       rw [J_5 (by omega : i < row.length)] at hc
       simp only [L_i] at hc
       have := (J_w.1 hc).1
       omega
      subst hj0
      refine ⟨v, ?_, hV.keep k⟩
      rw [hpi, hv]; simp only [Nat.mul_one, M_a, L_m]
      rw [if_neg (by omega)]
     ·rw [hys] at hlt
      have hii : i - off < (u0_ l).length := by omega
      simp only [l1_, ys, K_s, J_5 hii, L_m, L_i] at hc
      have hj0 : j = 0 := by have := (J_w.1 hc).1; simpa using this
      subst hj0
      simp at hc
      subst hc
      have hci : (cells[i]?).isSome := by have := hat (i - off) (by omega); rw [show off + (i - off) = i by omega] at this; simp [this]
      obtain ⟨v0, hv0⟩ := Option.isSome_iff_exists.1 hci
      refine ⟨_, ?_, .int .i64 _⟩
      rw [hpi, Nat.mul_one, M_a, hv0]
      simp only [L_m]
      rw [if_pos ⟨hge, by simp; omega⟩]
      simp [hii]
     ·rw [hys] at hge
      obtain ⟨v, hv, hV⟩ := h3 i j c hc
      refine ⟨v, ?_, hV.keep k⟩
      rw [hpi, hv]; simp only [L_m]
      rw [if_neg (by simp [hsl]; omega)]
    ·obtain ⟨x, _, rfl⟩ := L_v.1 he
     exact ⟨rfl, rfl⟩
   refine ⟨_, .top, h.set n (some (.arr 1 (e1_ row off ys) gr)), G, rfl, ⟨?_, Ext.set _ (λ_ => hF)⟩, g.update hrow hb k hsize (λm b' hm hb' hne => ?_) hHol, .top _, ?_⟩
   ·have hlt := (J_w.1 hrow).1
    simp only [b1_, Own]
    refine .inr (.inr ⟨n, off, cap, _, gr, by simp [hsl], hF, J_0 hlt, by rw [hspl]; simpa [hsl] using hle, by simpa [hsl] using hcap, ?_⟩)
    have : ((e1_ row off ys).drop off).take ((u0_ l).map λn => ([.int .i64 n] : List D)).length = ys := by
     simp only [e1_, K_p, hsl]
     have h1' : (row.take off).length = off := by simp; omega
     rw [K_h, L_n (by omega), List.drop_of_length_le (by omega), List.nil_append, L_o (by omega), K_r (by omega)]
    rw [this]
    exact H7_ .i64 _ _ _
   ·refine hold b' (g.locLt hm hb') ?_
    rintro rfl
    exact hne (g.inj m n _ hm hlive hb' hb)
   ·refine ⟨k, ⟨λ_ h => h, λ_ h => .inl h⟩, λ_ _ => rfl, λ_ _ => Iff.rfl, hsize, λb' hb' hno => hold b' hb' ?_, λb' hb' => .inl hb', ?_, ?_, hsize, λx hx => ?_⟩
    ·rintro rfl; exact hno (.inl ⟨n, hlive, hb⟩)
    ·subst hw'; rfl
    ·subst hw'; rfl
    ·by_cases e : x.block = b
     ·simp only [World.frozen?, e, hnew, hcs]
     ·simp only [World.frozen?, hold _ hx e]
def H2_ (l:List Int):Prop:=l.Pairwise (·<·)
theorem i_r:∀{a b:List Int},H2_ a->H2_ b->(∀n,n∈a↔n∈b)->a=b
 | [],[],_,_,_=>rfl
 | [],y :: b,_,_,h=>absurd ((h y).2 (by simp)) (by simp)
 | x :: a,[],_,_,h=>absurd ((h x).1 (by simp)) (by simp)
 | x :: a,y :: b,ha,hb,h=>by
  have ha':=L_0.1 ha
  have hb':=L_0.1 hb
  have hxy:x=y:=by
   rcases List.mem_cons.1 ((h x).1 (by simp)) with e | e
   ·exact e
   ·rcases List.mem_cons.1 ((h y).2 (by simp)) with e' | e'
    ·exact e'.symm
    ·have:=hb'.1 x e;have:=ha'.1 y e';omega
  subst hxy
  congr 1
  refine i_r ha'.2 hb'.2 λn=>?_
  have:=h n
  simp only[List.mem_cons]at this
  constructor
  ·intro hn
   rcases this.1 (.inr hn) with e | e
   ·have:=ha'.1 n hn;omega
   ·exact e
  ·intro hn
   rcases this.2 (.inr hn) with e | e
   ·have:=hb'.1 n hn;omega
   ·exact e
def lay (n:Int):Bool->List Int->List Int
 | laid,[]=>if laid then [] else [n]
 | laid,x :: r=>if !laid && decide (n<x) then n :: x :: lay n true r else x :: lay n laid r
theorem b_8 (n:Int):∀l,lay n true l=l
 | []=>rfl
 | x :: r=>by simp only[lay,K_l,Bool.false_and,K_b,if_false,b_8 n r]
def k_0 (l:List Int)(n:Int):List Int:=lay n (decide (n∈l)) l
theorem j_j {n:Int}:∀{l:List Int},H2_ l->n∉l->H2_ (lay n false l)/\∀m,m∈lay n false l↔m=n\/m∈l
 | [],_,_=>by simp[lay,H2_]
 | x :: r,h,hn=>by
  have h':=L_0.1 h
  simp only[lay,K_u,M_q,decide_eq_true_eq]
  split
  ·rename_i hlt
   rw[b_8]
   refine⟨L_0.2 ⟨λy hy=>?_,h⟩,λm=>by simp⟩
   rcases List.mem_cons.1 hy with rfl | hy
   ·exact hlt
   ·have:=h'.1 y hy;omega
  ·rename_i hlt
   obtain⟨h1,h2⟩:=j_j (n:=n) h'.2 (λe=>hn (by simp[e]))
   have hne:n≠x:=λe=>hn (by simp[e])
   refine⟨L_0.2 ⟨λy hy=>?_,h1⟩,λm=>?_⟩
   ·rcases (h2 y).1 hy with rfl | hy
    ·omega
    ·exact h'.1 y hy
   ·simp only[List.mem_cons,h2]
    constructor
    ·rintro (e | e | e)<;>simp[e]
    ·rintro (e | e | e)<;>simp[e]
theorem k_z {l:List Int}{n:Int}(h:H2_ l):H2_ (k_0 l n)/\∀m,m∈k_0 l n↔m=n\/m∈l:=by
 by_cases hn:n∈l
 ·simp only[k_0,decide_eq_true hn,b_8]
  exact⟨h,λm=>⟨.inr,λe=>e.elim (λe=>e▸hn) id⟩⟩
 ·simp only[k_0,decide_eq_false hn]
  exact j_j h hn
def y_j (l more:List Int):List Int:=more.foldl k_0 l
theorem f_p:∀{more l:List Int},H2_ l->H2_ (y_j l more)/\∀m,m∈y_j l more↔m∈l\/m∈more
 | [],l,h=>⟨h,λm=>by simp[y_j]⟩
 | n :: r,l,h=>by
  obtain⟨h1,h2⟩:=k_z (n:=n) h
  obtain⟨h3,h4⟩:=f_p (more:=r) h1
  refine⟨h3,λm=>?_⟩
  have:=h4 m
  simp only[y_j,M_g]at this ⊢
  rw[this,h2]
  simp only[List.mem_cons]
  constructor
  ·rintro ((e | e) | e)<;>simp[e]
  ·rintro (e | e | e)<;>simp[e]
def uni (l:List Int):List Int:=y_j [] l
theorem c_i (l:List Int):H2_ (uni l)/\∀m,m∈uni l↔m∈l:=by
 have:=f_p (more:=l) (l:=[]) List.Pairwise.nil
 exact⟨this.1,λm=>by rw[uni,this.2];simp⟩
theorem h_y (l:List Int)(n:Int):(k_0 l n).length<=l.length+1:=by
 have:∀(l:List Int)(b:Bool),(lay n b l).length<=l.length+1:=by
  intro l
  induction l with
  | nil=>intro b;cases b<;>simp[lay]
  | cons x r ih=>
   intro b
   simp only[lay]
   split
   ·rw[b_8];simp
   ·simp only[List.length_cons];have:=ih b;omega
 exact this _ _
theorem d_z:∀(more l:List Int),(y_j l more).length<=l.length+more.length
 | [],l=>by simp[y_j]
 | n :: r,l=>by
  have:=d_z r (k_0 l n)
  have h1:=h_y l n
  simp only[y_j,M_g,List.length_cons]at this ⊢
  omega
theorem P1_ (l:List Int):(uni l).length<=l.length:=by have:=d_z l [];simpa [uni] using this
def e3_.voters (x:e3_):List Int:=uni (x.old++x.new)
def e3_.members (x:e3_):List Int:=uni (x.old++x.new++x.learners)
def dn (l:List Int):Nat->List Int
 | 0=>[]
 | n+1=>dn l n++(if n≠0/\l[n]?=l[n-1]? then [] else l[n]?.toList)
def ded (l:List Int):List Int:=dn l l.length
theorem n_x {l:List Int}(hs:l.Pairwise (·<=·)):∀n,n<=l.length->H2_ (dn l n)/\(∀m,m∈dn l n↔m∈l.take n)
 | 0,_=>by simp[dn,H2_]
 | n+1,hn=>by
  obtain⟨h1,h2⟩:=n_x hs n (by omega)
  have hlt:n<l.length:=by omega
  have hle:∀m∈l.take n,m<=l[n]:=by
   intro m hm
   obtain⟨i,hi,rfl⟩:=List.getElem_of_mem hm
   simp only[K_i]at hi
   rw[List.getElem_take]
   exact List.pairwise_iff_getElem.1 hs i n (by omega) hlt (by omega)
  have hmem:∀m,m∈l.take (n+1)↔m∈l.take n\/m=l[n]:=by
   intro m;rw[K_f hlt];simp only[K_6,List.mem_singleton]
  simp only[dn]
  split
  ·rename_i hc
   rw[K_2]
   refine⟨h1,λm=>?_⟩
   rw[h2,hmem]
   refine⟨.inl,λe=>e.elim id (λe=>?_)⟩
   subst e
   have e2:l[n-1]?=some l[n-1]:=J_5 (by omega)
   rw[J_5 hlt,e2]at hc
   have e3:l[n]=l[n-1]:=Option.some.inj hc.2
   rw[e3]
   exact List.mem_take_iff_getElem.2 ⟨n-1,by omega,rfl⟩
  ·rename_i hc
   rw[J_5 hlt]
   refine⟨List.pairwise_append.2 ⟨h1,by simp,λa ha b hb=>?_⟩,λm=>by rw[K_6,h2,hmem];simp⟩
   simp at hb
   subst hb
   have ha':=(h2 a).1 ha
   have hle1:=hle a ha'
   apply Classical.byContradiction
   intro hnl
   have hae:a=l[n]:=by omega
   obtain⟨i,hi,hai⟩:=List.getElem_of_mem ha'
   simp only[K_i]at hi
   rw[List.getElem_take]at hai
   have hn0:n≠0:=by omega
   have e2:l[n-1]?=some l[n-1]:=J_5 (by omega)
   have h3:l[n-1]<=l[n]:=List.pairwise_iff_getElem.1 hs (n-1) n (by omega) hlt (by omega)
   have h4:l[i]<=l[n-1]:=by
    rcases L_3 i (n-1) with h | h
    ·exact List.pairwise_iff_getElem.1 hs i (n-1) (by omega) (by omega) h
    ·have:i=n-1:=by omega
     subst this;exact L_e _
   exact hc ⟨hn0,by rw[J_5 hlt,e2];congr 1;omega⟩
theorem p_7 (l:List Int):ded (u0_ l)=uni l:=by
 have hs:(u0_ l).Pairwise (·<=·):=by
  have:=List.pairwise_mergeSort (le:=λx y:Int=>decide (x<=y)) (λa b c h1 h2=>by simp at *;omega) (λa b=>by simp;omega) l
  exact this.imp λh=>by simpa using h
 obtain⟨h1,h2⟩:=n_x hs (u0_ l).length (J_4 _)
 obtain⟨h3,h4⟩:=c_i l
 refine i_r h1 h3 λm=>?_
 rw[h4,show ded (u0_ l)=dn (u0_ l) (u0_ l).length from rfl,h2,K_y]
 exact List.mem_mergeSort
def d_s (ls:List (List Int)):D:=.sl 1 (ls.map λl=>[b1_ l])
theorem Rd.ints_at {F:Nat->Prop}{h:a0_}{ls:List (List Int)}{a:AV}(hx:Rd F h (d_s ls) a){i:Nat}(hi:i<ls.length):
  ∃p v,q9_ 1 a (.int .i64 i)=some p/\o5_ h false 1 p=some v/\Rd F h (b1_ ls[i]) v:=by
 obtain⟨p,cs,hp,hpc,hcs⟩:=hx.index .i64 (i:=i) (d:=[b1_ ls[i]]) (by omega) (by simp[hi])
 simp only[RdL]at hcs
 obtain⟨v,_,rfl,hv,rfl⟩:=hcs
 exact⟨p,v,hp,by rw[n2_ hpc];exact take_one _ _ _,hv⟩
theorem Y2_ {ls:List (List Int)}{i:Nat}(hi:i<ls.length):(ls.take (i+1)).flatten=(ls.take i).flatten++ls[i]:=by
 rw[K_f hi,List.flatten_append];simp only[List.flatten_cons,List.flatten_nil,K_2]
theorem t_2 (ls:List (List Int))(i:Nat):(ls.take i).flatten.length<=ls.flatten.length:=by
 have:ls.flatten=(ls.take i).flatten++(ls.drop i).flatten:=by rw[<-List.flatten_append,L_a]
 rw[this];simp
def y_q (P:Program)(f:FuncId):Prop:=
 f2_ P f=true/\∀(h:a0_)(n:Nat),n<=2^40->a6_ P f [.nils,.int .i64 n] h λr h'=>Own (b1_ []) (λm=>h.length<=m) h' r/\d2_ h' r/\Ext nof h h'
theorem y_c (g:Opd->AV)(h:a0_)(x:XOp):rev g h (.x x)=xev g x:=Eq.trans rfl rfl
theorem x_b (g:Opd->AV)(h:a0_)(sz bytes:Nat)(z:List AV)(x y:Opd):hev g h (.appz sz bytes z x y)=P9_ h sz bytes z (g x) (g y):=Eq.trans rfl rfl
theorem A_0 (g:Opd->AV)(h:a0_)(sz:Nat)(z:List AV)(x:Opd):hev g h (.clr sz z x)=(f_r h sz z (g x)).map λh'=>(.tup [],h'):=Eq.trans rfl rfl
theorem B_v {P:Program}{f:FuncId}(hf:Is P f i7_):y_q P f:=by
 refine⟨hf.2,λh n hn=>a4_ hf.1 (J_y rfl) ?_⟩
 show vc P i7_.code ⟨[(0,.nils),(1,.int .i64 n)],[],h⟩ (b2_ i7_.res _)
 have c0:¬(n:Int)<0:=by omega
 have hlen:M5_ .nils=some (.int .i64 0):=rfl
 have e0:IntKind.i64.wrap (0-0)=0:=rfl
 have e1:IntKind.i64.wrap ((n:Int)-0)=n:=by rw[Int.sub_zero,a7_ (by omega)]
 have hs0:j9_ 1 .nils none (some 0) none=some .nils:=rfl
 simp only[i7_,go_sem,reduceEqDiff,decide_eq_false c0,y_c,xev,hlen,e0,e1]
 by_cases c1:0<(n:Int)
 ·have hz:P9_ h 1 8 [.int .i64 0] .nils (.int .i64 n)=some (.ref h.length 1 0 n none,h++[some (.arr 1 (List.replicate n [.int .i64 0]) true)]):=by
   simp only[P9_];rw[if_pos ⟨by omega,by omega⟩];simp only[d3_];rw[if_pos (by simp;omega)];simp[c0_]
  have hs:j9_ 1 (.ref h.length 1 0 n none) none (some 0) none=some (.ref h.length 1 0 0 none):=by
   simp only[j9_,L_r,K_v];rw[if_pos ⟨trivial,by omega,by omega,by omega,by omega,by omega⟩];rfl
  simp only[go_sem,reduceEqDiff,decide_eq_true c1,r_b,hs0,x_b,y_c,xev,hlen,hz,hs]
  refine⟨?_,⟨_,_,x3_ _ _,λ_=>rfl,λc hc=>by cases hc⟩,Ext.b1 _⟩
  simp only[b1_,K_9,Own]
  exact .inr (.inr ⟨_,0,none,_,true,rfl,J_4 _,x3_ _ _,by simp,(λc hc=>by cases hc),by simp[a8_]⟩)
 ·simp only[go_sem,reduceEqDiff,decide_eq_false c1]
  exact⟨Own.nils 1,trivial,Ext.refl _ _⟩
def o_h (P:Program)(f:FuncId):Prop:=
 f2_ P f=true/\∀(F:Nat->Prop)(h:a0_) (ls:List (List Int)) (a:AV),Rd F h (d_s ls) a->ls.length<=2^40->ls.flatten.length<=2^40->a6_ P f [a] h λr h'=>Own (b1_ ls.flatten) (λm=>h.length<=m) h' r/\Ext nof h h'
theorem v_l {P:Program}{f g:FuncId}(hf:Is P f (h5_ g))(hg:y_q P g):o_h P f:=by
 refine⟨hf.2,λF h ls a ha hl ht=>a4_ hf.1 (J_y rfl) ?_⟩
 show vc P (h5_ g).code ⟨[(0,a)],[],h⟩ (b2_ (h5_ g).res _)
 have la:M5_ a=some (.int .i64 ls.length):=by simpa using ha.len
 simp only[h5_,go_sem,reduceEqDiff,la]
 refine e8_ (λm L h'=>∃i:Nat,lk 0 L=a/\lk 9 L=a/\lk 10 L=.int .i64 ls.length/\lk 11 L=.int .i64 i/\lk 3 L=.int .i64 (ls.take i).flatten.length/\h=h'/\i<=ls.length/\m=ls.length-i) ls.length ?_ ?_
 ·exact⟨0,by simp[a3_,c9_],by simp[a3_],by simp[a3_],by simp[a3_],by simp[a3_],rfl,by omega,by omega⟩
 ·rintro m L h' ⟨i,k0,k9,k10,k11,k3,rfl,hi,rfl⟩
  simp only[t6_,go_sem,k10,k11]
  refine b0_ (λci=>?_) (λci=>?_)
  ·simp at ci
   obtain⟨p,v,hp,hv,hr⟩:=ha.ints_at ci
   have e:IntKind.i64.wrap (↑i+1)=(i:Int)+1:=a7_ (by omega)
   have hle:=t_2 ls (i+1)
   rw[Y2_ ci,J_z]at hle
   have e2:IntKind.i64.wrap ((ls.take i).flatten.length+ls[i].length)=(((ls.take i).flatten.length+ls[i].length:Nat):Int):=by rw[a7_ (by omega)];omega
   have cn:¬(((ls.take i).flatten.length+ls[i].length:Nat):Int)<0:=by omega
   simp only[go_sem,reduceEqDiff,k0,k9,k10,k11,k3,hp,hv,hr.ints_len,e2,decide_eq_false cn,e]
   exact⟨_,by omega,i+1,by simp,by rw[Y2_ ci,J_z],ci,rfl⟩
  ·simp at ci
   obtain rfl:i=ls.length:=by omega
   rw[K_y]at k3
   simp only[go_sem,reduceEqDiff,k3]
   refine a1_ ⟨hg.1,hg.2 _ ls.flatten.length ht⟩ ?_
   rintro r h2 ⟨ro,rc,rx⟩
   simp only[go_sem,reduceEqDiff,k0,la]
   refine e8_ (λm L h'=>∃(i:Nat)(o:AV),lk 25 L=a/\lk 26 L=.int .i64 ls.length/\lk 27 L=.int .i64 i/\lk 6 L=o/\Own (b1_ (ls.take i).flatten) (λm=>h.length<=m) h' o/\d2_ h' o/\Ext nof h h'/\i<=ls.length/\m=ls.length-i) ls.length ?_ ?_
   ·exact⟨0,r,by simp[a3_],by simp[a3_],by simp[a3_],by simp[a3_],ro,rc,rx,by omega,by omega⟩
   ·rintro m L h3 ⟨i,o,k25,k26,k27,k6,hO,hA,hE,hi,rfl⟩
    simp only[t5_,go_sem,k26,k27]
    refine b0_ (λci=>?_) (λci=>?_)
    ·simp at ci
     obtain⟨p,v,hp,hv,hr⟩:=(ha.up hE).ints_at ci
     have e:IntKind.i64.wrap (↑i+1)=(i:Int)+1:=a7_ (by omega)
     have hle:=t_2 ls (i+1)
     rw[Y2_ ci,J_z]at hle
     obtain⟨ys,hys,hyr⟩:=hr.elems
     obtain⟨o2,h4,ha',ho',hc',he'⟩:=G6_ (bytes:=8) hO hA (Ext.refl nof _) (N0_ hyr) hE.1 (by simp only[K_p];omega)
     have ha2:=c6_ hys 8 o
     rw[ha']at ha2
     simp only[go_sem,reduceEqDiff,k25,k26,k27,k6,hp,hv,ha2,e]
     exact⟨_,by omega,i+1,o2,by simp,rfl,by rw[Y2_ ci,b1_,K_8];exact ho',hc',hE.then he' (λm hm hm'=>by omega),ci,rfl⟩
    ·simp at ci
     obtain rfl:i=ls.length:=by omega
     rw[K_y]at hO
     simp only[go_sem,reduceEqDiff,k6]
     exact⟨hO,hE⟩
def v_t (n off:Nat)(cap:Option Nat)(l:List Int)(F:Nat->Prop)(h:a0_):Prop:=
 F n/\∃row g,h[n]?=some (some (.arr 1 row g))/\off+l.length<=row.length/\u_k cap l.length/\(row.drop off).take l.length=l.map λn=>[.int .i64 n]
theorem A_l {F:Nat->Prop}{h:a0_}{l:List Int}{a:AV}(ho:Own (b1_ l) F h a) (hl:l≠[]):∃n off cap,a=.ref n 1 off l.length cap/\v_t n off cap l F h:=by
 simp only[b1_,Own]at ho
 rcases ho with⟨_,e⟩ | ⟨_,_,_,e⟩ | ⟨n,off,cap,row,g,rfl,hF,hrow,hle,hcap,hes⟩
 ·simp at e;exact absurd e hl
 ·simp at e;exact absurd e hl
 ·rw[K_p]at hes hle hcap ⊢
  exact⟨n,off,cap,rfl,hF,row,g,hrow,hle,hcap,J9_ hes⟩
theorem v_t.own {n off:Nat}{cap:Option Nat}{l:List Int}{F:Nat->Prop}{h:a0_}(ho:v_t n off cap l F h){k:Nat}(hk:k<=l.length):Own (b1_ (l.take k)) F h (.ref n 1 off k cap):=by
 obtain⟨hF,row,g,hrow,hle,hcap,hes⟩:=ho
 have hl:(l.take k).length=k:=by simp;omega
 simp only[b1_,Own,K_p,hl]
 refine .inr (.inr ⟨n,off,cap,row,g,rfl,hF,hrow,by omega,λc hc=>by have:=hcap c hc;omega,?_⟩)
 have:(row.drop off).take k=(l.take k).map λn=>[.int .i64 n]:=by
  have:=congrArg (List.take k) hes
  rw[M_o,M_b hk,<-L_7]at this
  exact this
 rw[this]
 exact H7_ .i64 _ _ _
theorem v_t.at_ {n off:Nat}{cap:Option Nat}{l:List Int}{F:Nat->Prop}{h:a0_}(ho:v_t n off cap l F h){k:Nat}(hk:k<l.length):o5_ h false 1 (.ptr n 1 (off+k) 0)=some (.int .i64 l[k]):=by
 obtain⟨hF,row,g,hrow,hle,hcap,hes⟩:=ho
 have:((row.drop off).take l.length)[k]?=some [.int .i64 l[k]]:=by rw[hes];simp[hk]
 rw[L_c hk,K_m]at this
 rw[k_l,hrow,e_4,this];rfl
theorem v_t.put {n off:Nat}{cap:Option Nat}{l:List Int}{F:Nat->Prop}{h:a0_}(ho:v_t n off cap l F h){k:Nat}(hk:k<l.length)(v:Int):
  ∃h',Y8_ h 1 (.ptr n 1 (off+k) 0) (.int .i64 v)=some h'/\v_t n off cap (l.set k v) F h'/\Ext F h h':=by
 obtain⟨hF,row,g,hrow,hle,hcap,hes⟩:=ho
 have h1:((row.drop off).take l.length)[k]?=some [.int .i64 l[k]]:=by rw[hes];simp[hk]
 rw[L_c hk,K_m]at h1
 have hlt:=(J_w.1 hrow).1
 refine⟨_,K8_ (x:=.int .i64 v) hrow h1 rfl rfl rfl rfl,⟨hF,_,g,J_0 hlt,by simpa using hle,by simpa using hcap,?_⟩,Ext.set _ (λ_=>hF)⟩
 rw[List.drop_set,if_neg (by omega),J_2,List.take_set,hes,List.map_set,show off+k-off=k by omega]
def k_u (P:Program)(f:FuncId):Prop:=
 f2_ P f=true/\∀(F:Nat->Prop)(h:a0_)(l:List Int)(a:AV),Own (b1_ l) F h a->l.length<=2^40->a6_ P f [a] h λr h'=>Own (b1_ (ded l)) F h' r/\Ext F h h'
theorem q_3 {P:Program}{f:FuncId}(hf:Is P f g7_):k_u P f:=by
 refine⟨hf.2,λF h l a ho hl=>a4_ hf.1 (J_y rfl) ?_⟩
 show vc P g7_.code ⟨[(0,a)],[],h⟩ (b2_ g7_.res _)
 have la:=(Own.rd (F':=λ_=>True) _ (λ_ _=>trivial) _ ho).ints_len
 simp only[g7_,go_sem,reduceEqDiff,la]
 by_cases c2:(l.length:Int)<2
 ·simp only[go_sem,reduceEqDiff,decide_eq_true c2]
  refine⟨?_,Ext.refl _ _⟩
  have:ded l=l:=by
   match l,c2 with
   | [],_=>rfl
   | [x],_=>rfl
   | x :: y :: r,h=>simp at h;omega
  rw[this];exact ho
 ·have hne:l≠[]:=by rintro rfl;simp at c2
  obtain⟨n,off,cap,rfl,hI⟩:=A_l ho hne
  have hidx:∀(i:Int)(k:Nat),i=k->k<l.length->q9_ 1 (.ref n 1 off l.length cap) (.int .i64 i)=some (.ptr n 1 (off+k) 0):=λi k e hk=>by
   subst e;simp only[q9_];rw[if_pos ⟨trivial,by omega,by omega⟩];simp
  simp only[go_sem,decide_eq_false c2]
  refine e8_ (λm L h'=>∃i:Nat,lk 0 L=.ref n 1 off l.length cap/\lk 3 L=.int .i64 i/\h=h'/\1<=i/\i<=l.length/\m=l.length-i/\dn l i=l.take i) (l.length-1) ?_ ?_
  ·refine⟨1,by simp[a3_,c9_],by simp[a3_],rfl,by omega,by omega,by omega,?_⟩
   match l,hne with
   | x :: r,_=>simp[dn]
  ·rintro m L h' ⟨i,k0,k3,rfl,hi1,hi,rfl,hd⟩
   simp only[r3_,go_sem,reduceEqDiff,k0,k3,la]
   refine b0_ (λci=>?_) (λci=>?_)
   ·simp at ci
    have e1:IntKind.i64.wrap (↑i+1)=(i:Int)+1:=a7_ (by omega)
    have e2:IntKind.i64.wrap (↑i-1)=((i-1:Nat):Int):=by rw[a7_ (by omega)];omega
    simp only[go_sem,reduceEqDiff,k0,k3,e2,hidx _ i rfl ci,hidx _ (i-1) rfl (by omega),hI.at_ ci,hI.at_ (show i-1<l.length by omega)]
    have hdn:dn l (i+1)=l.take i++(if l[i]=l[i-1] then [] else [l[i]]):=by
     simp only[dn,hd]
     rw[J_5 ci,J_5 (show i-1<l.length by omega)]
     congr 1
     by_cases e:l[i]=l[i-1]
     ·rw[if_pos ⟨by omega,by rw[e]⟩,if_pos e]
     ·rw[if_neg (λh=>e (Option.some.inj h.2)),if_neg e];rfl
    by_cases ce:l[i]=l[i-1]
    ·rw[if_pos ce,K_2]at hdn
     have hs:j9_ 1 (.ref n 1 off l.length cap) (some (i:Int)) none none=some (.ref n 1 (off+i) (l.length-i) (g3_ none i cap)):=by
      obtain⟨_,row,g,hrow,hle,hcap,hes⟩:=hI
      simp only[j9_,K_v,L_r]
      rw[if_pos ⟨trivial,by omega,by omega,by omega,by omega,by cases cap with | none=>simp | some c=>have:=hcap c rfl;simp;omega⟩,if_neg (by omega),if_pos (by omega)]
      simp
     simp only[go_sem,reduceEqDiff,decide_eq_true ce,k0,k3,r_b,hs]
     have hidx2:∀(j:Int)(k:Nat),j=k->i+k<l.length->q9_ 1 (.ref n 1 (off+i) (l.length-i) (g3_ none i cap)) (.int .i64 j)=some (.ptr n 1 (off+(i+k)) 0):=λj k e hk=>by
      subst e;simp only[q9_];rw[if_pos ⟨trivial,by omega,by omega⟩];simp;omega
     refine e8_ (λm L h'=>∃(k q:Nat)(cur:List Int),lk 0 L=.ref n 1 off l.length cap/\lk 4 L=.ref n 1 (off+i) (l.length-i) (g3_ none i cap)/\lk 3 L=.int .i64 q/\lk 5 L=.int .i64 k/\v_t n off cap cur F h'/\Ext F h h'/\cur.length=l.length /\
      1<=k/\i+k<=l.length/\q<=i+k-1/\i<=q/\cur.take q=dn l (i+k)/\(∀j,q<=j->cur[j]?=l[j]?)/\m=l.length-i-k) (l.length-i-1) ?_ ?_
     ·exact⟨1,i,l,by simp[a3_,k0],by simp[a3_],by simp[a3_,k3],by simp[a3_],hI,Ext.refl _ _,rfl,by omega,by omega,by omega,by omega,hdn.symm,λj hj=>rfl,by omega⟩
     ·rintro m L h2 ⟨k,q,cur,k0,k4,k3,k5,hC,hE,hcl,hk1,hk,hq,hiq,htk,hrest,rfl⟩
      have l4:M5_ (.ref n 1 (off+i) (l.length-i) (g3_ none i cap))=some (.int .i64 ((l.length-i:Nat):Int)):=rfl
      simp only[r4_,go_sem,reduceEqDiff,k4,k5,l4]
      refine b0_ (λck=>?_) (λck=>?_)
      ·simp at ck
       have ck':i+k<l.length:=by omega
       have e3:IntKind.i64.wrap (↑k+1)=(k:Int)+1:=a7_ (by omega)
       have e4:IntKind.i64.wrap (↑k-1)=((k-1:Nat):Int):=by rw[a7_ (by omega)];omega
       have e5:IntKind.i64.wrap (↑q+1)=(q:Int)+1:=a7_ (by omega)
       have a1:=hC.at_ (show i+k<cur.length by omega)
       have a2:=hC.at_ (show i+(k-1)<cur.length by omega)
       have g1:cur[i+k]'(by omega)=l[i+k]:=by
        have:=hrest (i+k) (by omega)
        rw[J_5 (by omega),J_5 ck']at this
        exact Option.some.inj this
       have g2:cur[i+(k-1)]'(by omega)=l[i+k-1]'(by omega):=by
        have:=hrest (i+(k-1)) (by omega)
        rw[J_5 (by omega),J_5 (by omega)]at this
        have e:=Option.some.inj this
        rw[e];congr 1;omega
       rw[g1]at a1
       rw[g2]at a2
       have hdn2:dn l (i+(k+1))=dn l (i+k)++(if l[i+k]=l[i+k-1] then [] else [l[i+k]]):=by
        rw[<-J_8]
        simp only[dn]
        rw[J_5 ck',J_5 (show i+k-1<l.length by omega)]
        congr 1
        by_cases e:l[i+k]=l[i+k-1]
        ·rw[if_pos ⟨by omega,by rw[e]⟩,if_pos e]
        ·rw[if_neg (λh=>e (Option.some.inj h.2)),if_neg e];rfl
       simp only[go_sem,reduceEqDiff,k4,k5,e4,hidx2 _ k rfl ck',hidx2 _ (k-1) rfl (by omega),a1,a2]
       by_cases cq:l[i+k]=l[i+k-1]
       ·rw[if_pos cq,K_2]at hdn2
        simp only[go_sem,reduceEqDiff,decide_eq_true cq,k0,k4,k3,k5,e3]
        exact⟨_,by omega,k+1,q,cur,by simp,by simp,hC,hE,hcl,by omega,by omega,by omega,hiq,by rw[hdn2];exact htk,hrest,rfl⟩
       ·rw[if_neg cq]at hdn2
        obtain⟨h3,s1,s2,s3⟩:=hC.put (show q<cur.length by omega) l[i+k]
        simp only[go_sem,reduceEqDiff,decide_eq_false cq,k0,k4,k3,k5,hidx _ q rfl (by omega),hidx2 _ k rfl ck',a1,s1,e3,e5]
        refine⟨_,by omega,k+1,q+1,cur.set q l[i+k],by simp,by simp,s2,hE.trans s3 (λ_ _ x=>x) (λ_ _ x=>x),by simpa using hcl,by omega,by omega,by omega,by omega,?_,λj hj=>?_,rfl⟩
        ·rw[hdn2,<-htk,K_f (by simp;omega),List.getElem_set_self,List.take_set_of_le (J_4 _)]
        ·rw[J_x (by omega)];exact hrest j (by omega)
      ·simp at ck
       have hik:i+k=l.length:=by omega
       have hql:q<l.length:=by omega
       have hs2:j9_ 1 (.ref n 1 off l.length cap) (some (q:Int)) none none=some (.ref n 1 (off+q) (l.length-q) (g3_ none q cap)):=by
        obtain⟨_,row,g,hrow,hle,hcap,hes⟩:=hC
        rw[hcl]at hcap
        simp only[j9_,K_v,L_r]
        rw[if_pos ⟨trivial,by omega,by omega,by omega,by omega,by cases cap with | none=>simp | some c=>have:=hcap c rfl;simp;omega⟩,if_neg (by omega),if_pos (by omega)]
        simp
       have hs3:j9_ 1 (.ref n 1 off l.length cap) none (some (q:Int)) none=some (.ref n 1 off q cap):=by
        obtain⟨_,row,g,hrow,hle,hcap,hes⟩:=hC
        rw[hcl]at hcap
        simp only[j9_,K_v,L_r]
        rw[if_pos ⟨trivial,by omega,by omega,by omega,by omega,by cases cap with | none=>simp;omega | some c=>have:=hcap c rfl;simp;omega⟩]
        simp[g3_]
       obtain⟨hF,row,g,hrow,hle,hcap,hes⟩:=hC
       have hcl2:f_r h2 1 [.int .i64 0] (.ref n 1 (off+q) (l.length-q) (g3_ none q cap))=some (h2.set n (some (.arr 1 (e1_ row (off+q) (List.replicate (l.length-q) [.int .i64 0])) g))):=by
        simp only[f_r];rw[if_neg (by omega),hrow];simp only;rw[if_pos ⟨trivial,trivial,by omega⟩]
       simp only[go_sem,reduceEqDiff,k0,k3,r_b,hs2,A_0,hcl2,hs3]
       have hlt:=(J_w.1 hrow).1
       have hlen:(e1_ row (off+q) (List.replicate (l.length-q) [AV.int .i64 0])).length=row.length:=by simp only[e1_,J_z,K_i,K_o,M_c];omega
       have hI2:v_t n off cap (cur.take q) F (h2.set n (some (.arr 1 (e1_ row (off+q) (List.replicate (l.length-q) [.int .i64 0])) g))):=by
        refine⟨hF,_,g,J_0 hlt,by rw[hlen];simp;omega,λc hc=>by have:=hcap c hc;simp;omega,?_⟩
        have h1:(row.take (off+q)).length=off+q:=by simp;omega
        have hq2:(cur.take q).length=q:=by simp;omega
        rw[hq2]
        have h3:((e1_ row (off+q) (List.replicate (l.length-q) [AV.int .i64 0])).drop off).take q=(row.drop off).take q:=by
         simp only[e1_]
         rw[K_h,L_n (by omega),L_o (by simp;omega),List.drop_take,M_o]
         congr 1;omega
        rw[h3]
        have:=congrArg (List.take q) hes
        rw[M_o,M_b (by omega),<-L_7]at this
        exact this
       have hfin:=hI2.own (k:=q) (by simp;omega)
       rw[M_o,Nat.min_self,htk,hik]at hfin
       exact⟨hfin,hE.trans (Ext.set _ (λ_=>hF)) (λ_ _ x=>x) (λ_ _ x=>x)⟩
    ·rw[if_neg ce]at hdn
     simp only[go_sem,reduceEqDiff,decide_eq_false ce,k0,k3,e1]
     exact⟨_,by omega,i+1,by simp,by omega,ci,rfl,by rw[hdn,K_f ci]⟩
   ·simp at ci
    obtain rfl:i=l.length:=by omega
    rw[K_y]at hd
    simp only[go_sem,reduceEqDiff,k0]
    exact⟨by rw[ded,hd];exact ho,Ext.refl _ _⟩
def b_9 (P:Program)(f:FuncId):Prop:=
 f2_ P f=true/\∀(F:Nat->Prop)(h:a0_) (ls:List (List Int)) (a:AV),Rd F h (d_s ls) a->ls.length<=2^40->ls.flatten.length<=2^40->a6_ P f [a] h λr h'=>Own (b1_ (uni ls.flatten)) (λm=>h.length<=m) h' r/\Ext nof h h'
theorem r_u {P:Program}{f c s k:FuncId}(hf:Is P f (r7_ c s k))(hc:o_h P c)(hs:y_l P s)(hk:k_u P k):b_9 P f:=by
 refine⟨hf.2,λF h ls a ha hl ht=>a4_ hf.1 (J_y rfl) ?_⟩
 show vc P (r7_ c s k).code ⟨[(0,a)],[],h⟩ (b2_ (r7_ c s k).res _)
 simp only[r7_,go_sem,reduceEqDiff]
 refine a1_ ⟨hc.1,hc.2 F _ ls a ha hl ht⟩ ?_
 rintro r h1 ⟨ro,rx⟩
 simp only[go_sem,reduceEqDiff]
 refine a1_ ⟨hs.1,hs.2 _ _ _ r ro ht⟩ ?_
 rintro _ h2 ⟨so,sx⟩
 simp only[go_sem,reduceEqDiff]
 refine a1_ ⟨hk.1,hk.2 _ _ _ r so (by rw[V6_];exact ht)⟩ ?_
 rintro u h3 ⟨uo,ux⟩
 simp only[go_sem,reduceEqDiff]
 rw[p_7]at uo
 exact⟨uo,(rx.then sx (λm hm hm'=>by omega)).then ux (λm hm hm'=>by omega)⟩
def R5_ (P:Program)(f:FuncId)(t:e3_->List Int):Prop:=
 f2_ P f=true/\∀(F:Nat->Prop)(h:a0_)(x:e3_)(a:List AV),RdL F h x.c a->x.few (2^38)->a6_ P f [.agg a] h λr h'=>Own (b1_ (t x)) (λm=>h.length<=m) h' r/\Ext nof h h'
theorem A_f {F:Nat->Prop}{H:a0_}{o n:AV}{x y:List Int}(ho:Rd F H (b1_ x) o)(hn:Rd F H (b1_ y) n):Rd (λ_=>True) (H++[some (.arr 1 [[o],[n]] false)]) (d_s [x,y]) (.ref H.length 1 0 2 (some 2)):=by
 have x0:=Ext.b1 (h:=H) (some (.arr 1 [[o],[n]] false))
 simp only[d_s,K_t,K_9,Rd]
 refine⟨[[o],[n]],.inr (.inr ⟨H.length,0,2,some 2,[[o],[n]],false,rfl,trivial,x3_ _ _,by simp,λc hc=>by cases hc;omega,rfl⟩),?_⟩
 simp only[E4_,RdL]
 exact⟨_,_,rfl,⟨o,_,rfl,Rd.mono (λ_ _=>trivial) (v4_.lt _ _) _ _ (ho.up x0),rfl⟩,_,_,rfl,⟨n,_,rfl,Rd.mono (λ_ _=>trivial) (v4_.lt _ _) _ _ (hn.up x0),rfl⟩,rfl⟩
theorem A_e {F:Nat->Prop}{H:a0_}{o n e:AV}{x y z:List Int}(ho:Rd F H (b1_ x) o)(hn:Rd F H (b1_ y) n)(he:Rd F H (b1_ z) e):Rd (λ_=>True) (H++[some (.arr 1 [[o],[n],[e]] false)]) (d_s [x,y,z]) (.ref H.length 1 0 3 (some 3)):=by
 have x0:=Ext.b1 (h:=H) (some (.arr 1 [[o],[n],[e]] false))
 simp only[d_s,K_t,K_9,Rd]
 refine⟨[[o],[n],[e]],.inr (.inr ⟨H.length,0,3,some 3,[[o],[n],[e]],false,rfl,trivial,x3_ _ _,by simp,λc hc=>by cases hc;omega,rfl⟩),?_⟩
 simp only[E4_,RdL]
 exact⟨_,_,rfl,⟨o,_,rfl,Rd.mono (λ_ _=>trivial) (v4_.lt _ _) _ _ (ho.up x0),rfl⟩,_,_,rfl,⟨n,_,rfl,Rd.mono (λ_ _=>trivial) (v4_.lt _ _) _ _ (hn.up x0),rfl⟩,_,_,rfl,⟨e,_,rfl,Rd.mono (λ_ _=>trivial) (v4_.lt _ _) _ _ (he.up x0),rfl⟩,rfl⟩
theorem b_k {P:Program}{f g:FuncId}(hf:Is P f (r9_ g))(hg:b_9 P g):R5_ P f e3_.voters:=by
 refine⟨hf.2,λF h x a ha hx=>a4_ hf.1 (J_y rfl) ?_⟩
 show vc P (r9_ g).code ⟨[(0,.agg a)],[],h⟩ (b2_ (r9_ g).res _)
 obtain⟨o,n,e,rfl,ho,hn,he⟩:=J7_ ha
 simp only[r9_,go_sem,reduceEqDiff,reduceAdd,ho.scalar,hn.scalar,he.scalar,b5_ ho.scalar,b5_ hn.scalar]
 have hrow:=A_f (ho.up (Ext.b1 (some (.arr 3 [[o,n,e]] false)))) (hn.up (Ext.b1 (some (.arr 3 [[o,n,e]] false))))
 simp only[b_7]at hrow
 obtain⟨h1,h2,h3⟩:=hx
 refine a1_ ⟨hg.1,hg.2 _ _ [x.old,x.new] _ hrow (by simp) (by simp;omega)⟩ ?_
 rintro r h2 ⟨ro,rx⟩
 simp only[go_sem,reduceEqDiff]
 refine⟨?_,(Ext.b2 _ _).tr rx⟩
 have:[x.old,x.new].flatten=x.old++x.new:=by simp
 rw[this]at ro
 exact Own.mono _ (λm hm=>by simp at hm;omega) (λ_ _ _ x=>x) _ ro
theorem a_c {P:Program}{f g:FuncId}(hf:Is P f (p9_ g))(hg:b_9 P g):R5_ P f e3_.members:=by
 refine⟨hf.2,λF h x a ha hx=>a4_ hf.1 (J_y rfl) ?_⟩
 show vc P (p9_ g).code ⟨[(0,.agg a)],[],h⟩ (b2_ (p9_ g).res _)
 obtain⟨o,n,e,rfl,ho,hn,he⟩:=J7_ ha
 simp only[p9_,go_sem,reduceEqDiff,reduceAdd,ho.scalar,hn.scalar,he.scalar,b5_ ho.scalar,b5_ hn.scalar,b5_ he.scalar]
 have hrow:=A_e (ho.up (Ext.b1 (some (.arr 3 [[o,n,e]] false)))) (hn.up (Ext.b1 (some (.arr 3 [[o,n,e]] false)))) (he.up (Ext.b1 (some (.arr 3 [[o,n,e]] false))))
 simp only[b_7]at hrow
 obtain⟨h1,h2,h3⟩:=hx
 refine a1_ ⟨hg.1,hg.2 _ _ [x.old,x.new,x.learners] _ hrow (by simp) (by simp;omega)⟩ ?_
 rintro r h2 ⟨ro,rx⟩
 simp only[go_sem,reduceEqDiff]
 refine⟨?_,(Ext.b2 _ _).tr rx⟩
 have:[x.old,x.new,x.learners].flatten=x.old++x.new++x.learners:=by simp
 rw[this]at ro
 exact Own.mono _ (λm hm=>by simp at hm;omega) (λ_ _ _ x=>x) _ ro
def rise:Option Int->List Int->Bool
 | _,[]=>true
 | p,x :: r=>!(decide (x<1) || decide (7<x) || (match p with | none=>false | some y=>decide (x<=y))) && rise (some x) r
def prev (l:List Int):Nat->Option Int
 | 0=>none
 | i+1=>l[i]?
def e3_.right (x:e3_):Bool:=!(decide (x.old.length=0) || !rise none x.old || !rise none x.new || !rise none x.learners || x.learners.any λn=>decide (n∈x.old) || decide (n∈x.new))
def u_7 (P:Program)(f:FuncId):Prop:=
 f2_ P f=true/\∀(F:Nat->Prop)(h:a0_)(l:List Int)(a:AV),Rd F h (b1_ l) a->l.length<=2^40->a6_ P f [a] h λr h'=>r=.bool (rise none l)/\h'=h
theorem w_i {P:Program}{f:FuncId}(hf:Is P f u6_):u_7 P f:=by
 refine⟨hf.2,λF h l a ha hl=>a4_ hf.1 (J_y rfl) ?_⟩
 show vc P u6_.code ⟨[(0,a)],[],h⟩ (b2_ u6_.res _)
 have la:=ha.ints_len
 simp only[u6_,go_sem,reduceEqDiff,la]
 refine e8_ (λm L h'=>∃i:Nat,lk 0 L=a/\lk 5 L=a/\lk 6 L=.int .i64 l.length/\lk 7 L=.int .i64 i/\h=h'/\i<=l.length/\m=l.length-i/\rise (prev l i) (l.drop i)=rise none l) l.length ?_ ?_
 ·exact⟨0,by simp[a3_,c9_],by simp[a3_],by simp[a3_],by simp[a3_],rfl,by omega,by omega,rfl⟩
 ·rintro m L h1 ⟨i,k0,k5,k6,k7,rfl,hi,rfl,hq⟩
  simp only[I6_,go_sem,k6,k7]
  refine b0_ (λci=>?_) (λci=>?_)
  ·simp at ci
   obtain⟨p,hp,hv⟩:=ha.int_at ci
   have e1:IntKind.i64.wrap (↑i+1)=(i:Int)+1:=a7_ (by omega)
   rw[L_8 ci]at hq
   simp only[rise]at hq
   have hp1:prev l (i+1)=some l[i]:=by simp[prev,ci]
   simp only[go_sem,reduceEqDiff,k5,k7,hp,hv]
   by_cases c1:l[i]<1
   ·simp only[go_sem,reduceEqDiff,decide_eq_true c1]
    rw[<-hq];simp[c1]
   by_cases c2:7<l[i]
   ·simp only[go_sem,reduceEqDiff,decide_eq_false c1,decide_eq_true c2]
    rw[<-hq];simp[c2]
   by_cases c3:0<(i:Int)
   ·obtain⟨j,rfl⟩:∃j,i=j+1:=⟨i-1,by omega⟩
    obtain⟨p2,hp2,hv2⟩:=ha.int_at (i:=j) (by omega)
    have e2:IntKind.i64.wrap (((j+1:Nat):Int)-1)=(j:Int):=by rw[a7_ (by omega)];omega
    have hpj:prev l (j+1)=some (l[j]'(by omega)):=by simp only[prev];exact J_5 (by omega)
    rw[hpj]at hq
    simp only[go_sem,reduceEqDiff,decide_eq_false c1,decide_eq_false c2,decide_eq_true c3,k0,e2,hp2,hv2]
    by_cases c4:l[j+1]<=l[j]'(by omega)
    ·simp only[go_sem,reduceEqDiff,decide_eq_true c4]
     rw[<-hq];simp[c4]
    ·simp only[go_sem,reduceEqDiff,decide_eq_false c4,k0,k5,k6,k7,e1]
     refine⟨_,by omega,j+1+1,by simp,by omega,rfl,?_⟩
     rw[hp1,<-hq];simp[c1,c2,c4]
   ·obtain rfl:i=0:=by omega
    simp only[go_sem,reduceEqDiff,decide_eq_false c1,decide_eq_false c2,decide_eq_false c3,k0,k5,k6,k7,e1]
    refine⟨_,by omega,1,by simp,by omega,rfl,?_⟩
    rw[hp1,<-hq];simp[c1,c2,prev]
  ·simp at ci
   obtain rfl:i=l.length:=by omega
   rw[List.drop_length]at hq
   simp only[go_sem,reduceEqDiff]
   rw[<-hq];rfl
def e3_.votes (x:e3_)(n:Int):Bool:=decide (n∈x.old) || decide (n∈x.new)
theorem e3_.right_eq (x:e3_):x.right=!(decide (x.old.length=0) || !rise none x.old || !rise none x.new || !rise none x.learners || x.learners.any x.votes):=rfl
theorem n_c {P:Program}{f g:FuncId}(hf:Is P f (k3_ g))(hg:d_7 P g){F:Nat->Prop}{h:a0_}{x:e3_}{o n e:AV}{m:Nat}(ho:Rd F h (b1_ x.old) o)(hn:Rd F h (b1_ x.new) n)(hx:x.few (2^38))
  (hq:h[m]?=some (some (.arr 3 [[o,n,e]] false))) (k:Int):a6_ P f [.int .i64 k,.ptr m 3 0 0] h λr h'=>r=.bool (x.votes k)/\h'=h:=by
 refine a4_ hf.1 (J_y rfl) ?_
 show vc P (k3_ g).code ⟨[(0,.int .i64 k),(1,.ptr m 3 0 0)],[],h⟩ (b2_ (k3_ g).res _)
 obtain⟨h1,h2,h3⟩:=hx
 simp only[k3_,go_sem,reduceEqDiff,hq]
 refine j4_ hg.1 (hg.2 F _ x.old o k ho (by omega)) ?_
 by_cases c:k∈x.old
 ·simp only[go_sem,reduceEqDiff,decide_eq_true c]
  simp[e3_.votes,c]
 ·simp only[go_sem,reduceEqDiff,reduceAdd,decide_eq_false c,hq]
  refine j4_ hg.1 (hg.2 F _ x.new n k hn (by omega)) ?_
  simp only[go_sem,reduceEqDiff]
  simp[e3_.votes,c]
def h_q (P:Program)(f:FuncId):Prop:=
 f2_ P f=true/\∀(F:Nat->Prop)(h:a0_)(x:e3_)(a:List AV),RdL F h x.c a->x.few (2^38)->a6_ P f [.agg a] h λr h'=>r=.int .i64 (if x.right then 0 else 29)/\h'=h
theorem s_b (g:Opd->AV)(h:a0_)(f:FuncId)(cs:List Opd):rev g h (.clo f cs)=some (.clo f [] (cs.map g)):=Eq.trans rfl rfl
theorem c_z {P:Program}{f k g c s:FuncId}(hf:Is P f (u7_ k g c))(hk:Is P k (k3_ s))(hs:d_7 P s)(hg:u_7 P g)(hc:n_a P c):h_q P f:=by
 refine⟨hf.2,λF h x a ha hx=>obs rfl (a4_ hf.1 (J_y rfl) ?_)⟩
 show vc P (u7_ k g c).code ⟨[(0,.agg a)],[],h⟩ (b2_ (u7_ k g c).res _)
 obtain⟨o,n,e,rfl,ho,hn,he⟩:=J7_ ha
 have hx':=hx
 obtain⟨h1,h2,h3⟩:=hx
 have lo:=ho.ints_len
 simp only[u7_,go_sem,reduceEqDiff,reduceAdd,s_b,K_t,K_9,ho.scalar,hn.scalar,he.scalar,lo,N3_]
 by_cases c0:x.old.length=0
 ·simp only[go_sem,reduceEqDiff,decide_eq_true c0]
  exact⟨by simp[e3_.right_eq,c0],Ext.b1 _⟩
 simp only[go_sem,reduceEqDiff,decide_eq_false c0]
 refine j4_ hg.1 (hg.2 F _ x.old o (ho.up (Ext.b1 _)) (by omega)) ?_
 cases c1:rise none x.old
 ·simp only[go_sem,reduceEqDiff]
  exact⟨by simp[e3_.right_eq,c1],Ext.b1 _⟩
 simp only[go_sem,reduceEqDiff,reduceAdd]
 refine j4_ hg.1 (hg.2 F _ x.new n (hn.up (Ext.b1 _)) (by omega)) ?_
 cases c2:rise none x.new
 ·simp only[go_sem,reduceEqDiff]
  exact⟨by simp[e3_.right_eq,c2],Ext.b1 _⟩
 simp only[go_sem,reduceEqDiff,reduceAdd]
 refine j4_ hg.1 (hg.2 F _ x.learners e (he.up (Ext.b1 _)) (by omega)) ?_
 cases c3:rise none x.learners
 ·simp only[go_sem,reduceEqDiff]
  exact⟨by simp[e3_.right_eq,c3],Ext.b1 _⟩
 simp only[go_sem,reduceEqDiff,reduceAdd]
 refine j4_ hc.1 (hc.2 F _ x.learners e k [] [.ptr h.length 3 0 0] x.votes (he.up (Ext.b1 _)) (by omega) hk.2 (λm=>n_c hk hs (ho.up (Ext.b1 _)) (hn.up (Ext.b1 _)) hx' (x3_ _ _) m)) ?_
 by_cases c4:0<x.learners.countP x.votes
 ·have c5:(0:Int)<x.learners.countP x.votes:=by omega
  have:x.learners.any x.votes=true:=by rw[M_m];exact List.countP_pos_iff.1 c4
  simp only[go_sem,reduceEqDiff,decide_eq_true c5]
  exact⟨by simp only[e3_.right_eq,this,Bool.or_true];rfl,Ext.b1 _⟩
 ·have c5:¬(0:Int)<x.learners.countP x.votes:=by omega
  have:x.learners.any x.votes=false:=by rw[<-Bool.not_eq_true,M_m];exact λh=>c4 (List.countP_pos_iff.2 h)
  simp only[go_sem,reduceEqDiff,decide_eq_false c5]
  exact⟨by simp only[e3_.right_eq,this,c1,c2,c3,decide_eq_false c0];rfl,Ext.b1 _⟩
end Glb
