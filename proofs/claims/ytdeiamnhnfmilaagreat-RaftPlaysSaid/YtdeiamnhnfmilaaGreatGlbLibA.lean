/-
  A library of its own.
-/
import Derived.Calls
import Derived.RowKit3
import Derived.Laws.World
import Derived.Laws.Sem
import Derived.Laws.StructEq
import Derived.Laws.Pointers
import Derived.Laws.Entries
import Derived.Laws.Cells
import Derived.Laws.Small
import Derived.ChangeKeysEq
import Derived.Laws.CopyRow
import Derived.WalkSpells
import Derived.Tactics
import Derived.Orders
set_option linter.unusedSimpArgs false
set_option linter.unusedVariables false
/-
 A library of its own,for whatever program: what an abstract value says of a value in memory,and that it stays said.
-/
namespace Glb
open Go
theorem U_:type_of% @List.getElem?_eq_some_iff:=@List.getElem?_eq_some_iff
theorem Va:type_of% @decide_eq_false:=@decide_eq_false
theorem Vb:type_of% @List.getElem?_set_ne:=@List.getElem?_set_ne
theorem Vc:type_of% @decide_eq_true:=@decide_eq_true
theorem Vd:type_of% @List.getElem?_set_self:=@List.getElem?_set_self
theorem Ve:type_of% @if_neg:=@if_neg
theorem Vf:type_of% @if_pos:=@if_pos
theorem Vg:type_of% @Nat.le_refl:=@Nat.le_refl
theorem Vh:type_of% @List.length_set:=@List.length_set
theorem Vi:type_of% @List.getElem?_eq_getElem:=@List.getElem?_eq_getElem
theorem Vj:type_of% @List.length_append:=@List.length_append
theorem Vk:type_of% @Option.some.injEq:=@Option.some.injEq
theorem Vl:type_of% @List.eq_nil_of_length_eq_zero:=@List.eq_nil_of_length_eq_zero
theorem Vm:type_of% @Classical.byContradiction:=@Classical.byContradiction
theorem Vn:type_of% @Eq.trans:=@Eq.trans
theorem Vo:type_of% @List.length_map:=@List.length_map
theorem Vp:type_of% @trivial:=@trivial
theorem Vq:type_of% @Bool.not_true:=@Bool.not_true
theorem Vr:type_of% @Nat.le_trans:=@Nat.le_trans
theorem Vs:type_of% @eq_false:=@eq_false
theorem Vt:type_of% @Bool.not_false:=@Bool.not_false
theorem Vu:type_of% @Option.map_eq_some_iff:=@Option.map_eq_some_iff
theorem Vv:type_of% @List.take_succ_eq_append_getElem:=@List.take_succ_eq_append_getElem
theorem Vw:type_of% @List.length_take:=@List.length_take
theorem Vx:type_of% @Nat.mul_le_mul_right:=@Nat.mul_le_mul_right
theorem Vy:type_of% @Nat.lt_of_lt_of_le:=@Nat.lt_of_lt_of_le
theorem Vz:type_of% @List.getElem?_drop:=@List.getElem?_drop
theorem VA:type_of% @List.length_drop:=@List.length_drop
theorem VB:type_of% @List.getElem?_cons_zero:=@List.getElem?_cons_zero
theorem VC:type_of% @Bool.false_eq_true:=@Bool.false_eq_true
theorem VD:type_of% @List.length_cons:=@List.length_cons
theorem VE:type_of% @List.getElem?_map:=@List.getElem?_map
theorem VF:type_of% @Bool.and_eq_true:=@Bool.and_eq_true
theorem VG:type_of% @Option.getD_some:=@Option.getD_some
theorem VH:type_of% @List.take_length:=@List.take_length
theorem VI:type_of% @List.map_append:=@List.map_append
theorem VJ:type_of% @List.getElem?_eq_none:=@List.getElem?_eq_none
theorem VK:type_of% @List.getElem?_append_left:=@List.getElem?_append_left
theorem VM:type_of% @List.mem_of_mem_drop:=@List.mem_of_mem_drop
theorem VN:type_of% @List.length_nil:=@List.length_nil
theorem VO:type_of% @if_false:=@if_false
theorem VP:type_of% @Nat.zero_le:=@Nat.zero_le
theorem VQ:type_of% @List.getElem?_append_right:=@List.getElem?_append_right
theorem VR:type_of% @List.mem_cons:=@List.mem_cons
theorem VS:type_of% @List.map_cons:=@List.map_cons
theorem VT:type_of% @List.ext_getElem?:=@List.ext_getElem?
theorem VU:type_of% @List.getElem_mem:=@List.getElem_mem
theorem VV:type_of% @List.getElem?_take_of_lt:=@List.getElem?_take_of_lt
theorem VW:type_of% @List.getElem?_toArray:=@List.getElem?_toArray
theorem VX:type_of% @List.append_assoc:=@List.append_assoc
theorem VY:type_of% @List.drop_eq_getElem_cons:=@List.drop_eq_getElem_cons
theorem VZ:type_of% @List.getElem?_cons_succ:=@List.getElem?_cons_succ
theorem V0:type_of% @List.mem_of_mem_take:=@List.mem_of_mem_take
theorem V3:type_of% @if_true:=@if_true
theorem V4:type_of% @decide_eq_true_eq:=@decide_eq_true_eq
theorem V5:type_of% @List.take_of_length_le:=@List.take_of_length_le
theorem V6:type_of% @Int.toNat_natCast:=@Int.toNat_natCast
theorem V7:type_of% @List.mem_append:=@List.mem_append
theorem V8:type_of% @List.set_set:=@List.set_set
theorem V9:type_of% @Prod.mk.injEq:=@Prod.mk.injEq
theorem V_:type_of% @List.getElem?_take:=@List.getElem?_take
theorem Wa:type_of% @Option.isNone_some:=@Option.isNone_some
theorem Wb:type_of% @List.getElem?_append:=@List.getElem?_append
theorem Wc:type_of% @Nat.lt_or_ge:=@Nat.lt_or_ge
theorem Wd:type_of% @Nat.le_of_ble_eq_true:=@Nat.le_of_ble_eq_true
theorem We:type_of% @List.length_filter_le:=@List.length_filter_le
theorem Wf:type_of% @List.drop_zero:=@List.drop_zero
theorem Wg:type_of% @List.map_nil:=@List.map_nil
theorem Wh:type_of% @Option.getD_none:=@Option.getD_none
theorem Wi:type_of% @Option.map_some:=@Option.map_some
theorem Wj:type_of% @Array.getElem?_eq_some_iff:=@Array.getElem?_eq_some_iff
theorem Wl:type_of% @List.mem_map:=@List.mem_map
theorem Wm:type_of% @Int.le_refl:=@Int.le_refl
theorem Wn:type_of% @List.length_take_le:=@List.length_take_le
theorem Wo:type_of% @List.append_nil:=@List.append_nil
theorem Wp:type_of% @Option.bind_some:=@Option.bind_some
theorem Wq:type_of% @List.drop_length:=@List.drop_length
theorem Wr:type_of% @List.cons.injEq:=@List.cons.injEq
theorem Ws:type_of% @Nat.add_assoc:=@Nat.add_assoc
theorem Wt:type_of% @List.filter_append:=@List.filter_append
theorem Wu:type_of% @Iff.rfl:=@Iff.rfl
theorem Wv:type_of% @decide_eq_false_iff_not:=@decide_eq_false_iff_not
theorem Ww:type_of% @List.all_eq_true:=@List.all_eq_true
theorem Wx:type_of% @Array.eq_empty_of_size_eq_zero:=@Array.eq_empty_of_size_eq_zero
theorem Wy:type_of% @List.drop_append_of_le_length:=@List.drop_append_of_le_length
theorem Wz:type_of% @List.take_append_of_le_length:=@List.take_append_of_le_length
theorem WA:type_of% @Nat.lt_irrefl:=@Nat.lt_irrefl
theorem WB:type_of% @Nat.le_succ:=@Nat.le_succ
theorem WC:type_of% @List.set_append_right:=@List.set_append_right
theorem WD:type_of% @List.getElem?_set:=@List.getElem?_set
theorem WE:type_of% @List.getElem?_replicate:=@List.getElem?_replicate
theorem WG:type_of% @Nat.add_sub_cancel_left:=@Nat.add_sub_cancel_left
theorem WH:type_of% @Array.getElem?_setIfInBounds_ne:=@Array.getElem?_setIfInBounds_ne
theorem WI:type_of% @Bool.or_eq_false_iff:=@Bool.or_eq_false_iff
theorem WJ:type_of% @Int.tmod_eq_emod_of_nonneg:=@Int.tmod_eq_emod_of_nonneg
theorem WK:type_of% @List.mem_or_eq_of_mem_set:=@List.mem_or_eq_of_mem_set
theorem WL:type_of% @List.map_take:=@List.map_take
theorem WM:type_of% @Bool.or_eq_true:=@Bool.or_eq_true
theorem WN:type_of% @List.pairwise_cons:=@List.pairwise_cons
theorem WO:type_of% @Option.isNone_none:=@Option.isNone_none
theorem WQ:type_of% @List.mem_of_getElem?:=@List.mem_of_getElem?
theorem WR:type_of% @Nat.add_mul:=@Nat.add_mul
theorem WS:type_of% @List.findIdx?_eq_some_iff_getElem:=@List.findIdx?_eq_some_iff_getElem
theorem WT:type_of% @Nat.zero_add:=@Nat.zero_add
theorem WU:type_of% @Nat.add_zero:=@Nat.add_zero
theorem WV:type_of% @Nat.ne_of_lt:=@Nat.ne_of_lt
theorem WW:type_of% @Nat.min_eq_left:=@Nat.min_eq_left
theorem WX:type_of% @Array.getElem?_append:=@Array.getElem?_append
theorem WY:type_of% @Array.getElem?_modify:=@Array.getElem?_modify
theorem WZ:type_of% @List.length_replicate:=@List.length_replicate
theorem W0:type_of% @Nat.le_add_right:=@Nat.le_add_right
theorem W4:type_of% @List.mem_singleton:=@List.mem_singleton
theorem W5:type_of% @Bool.or_true:=@Bool.or_true
theorem W6:type_of% @List.getElem?_modify:=@List.getElem?_modify
theorem W7:type_of% @Int.eq_ofNat_of_zero_le:=@Int.eq_ofNat_of_zero_le
theorem W8:type_of% @List.foldl_cons:=@List.foldl_cons
theorem W9:type_of% @Bool.true_or:=@Bool.true_or
theorem W_:type_of% @Int.toNat_zero:=@Int.toNat_zero
theorem Xb:type_of% @List.take_append_drop:=@List.take_append_drop
theorem Xc:type_of% @List.length_singleton:=@List.length_singleton
theorem Xd:type_of% @List.nil_append:=@List.nil_append
theorem Xe:type_of% @Option.some.inj:=@Option.some.inj
theorem Xf:type_of% @Bool.true_and:=@Bool.true_and
theorem Xg:type_of% @List.length_pos_iff:=@List.length_pos_iff
theorem Xh:type_of% @List.any_eq_true:=@List.any_eq_true
theorem Xi:type_of% @List.map_toArray:=@List.map_toArray
theorem Xj:type_of% @Int.natCast_zero:=@Int.natCast_zero
theorem Xk:type_of% @List.take_take:=@List.take_take
theorem Xl:type_of% @List.not_mem_nil:=@List.not_mem_nil
theorem Xm:type_of% @List.mem_filter:=@List.mem_filter
theorem Xn:type_of% @List.nodup_cons:=@List.nodup_cons
theorem Xo:type_of% @Bool.decide_and:=@Bool.decide_and
theorem Xp:type_of% @Bool.and_true:=@Bool.and_true
theorem Xq:type_of% @congrArg:=@congrArg
theorem ω{p:Prop}(h:p:=by omega):p:=h
theorem ς{p:Prop}(h:p:=by simp):p:=h
theorem δ{p:Prop}[Decidable p](h:p:=by decide):p:=h
inductive AV where
 | aR
 | aD (b:Bool)
 | aA (k:IntKind) (n:Int)
 | aP (s:ByteArray)
 | aO (v:Value)
 | aB
 | aC (n sz i o:Nat)
 | aN (t:Nat) (cs:List AV)
 | aF (n sz off len:Nat) (cap:Option Nat)
 | aL (t:Nat) (clip:Bool) (sz:Nat) (es:List (List AV))
 | aE (cs:List AV)
 | aI (cs:List AV)
 | aM (f:FuncId) (fs cs:List AV)
 | aT (t:TypeId) (v:AV)
 deriving Inhabited
def AV.aG:AV -> Bool
 | .aR | .aE _ | .aI _=>false
 | .aO v=>v.oneCell'
 | _=>true
def iT (sz:Nat)(es:List (List AV)):Prop:=∀e∈es,e.length=sz /\ e.all AV.aG=true
inductive fh where
 | aA (sz:Nat) (es:List (List AV)) (grow:Bool)
 | aB
 deriving Inhabited
abbrev eZ:=List (Option fh)
structure Gh where
 N:Nat
 aA:Nat -> Option Nat
 aD:Nat -> Prop
 aC:Nat -> Prop
 aE:Nat -> Nat -> Prop
 S:Nat -> Prop
def Gh.aL (G:Gh):Nat -> Nat -> Prop
 | 0,b=>G.S b
 | n+1,b=>G.aE n b
def Gh.aI (G:Gh)(b:Nat):Prop:=(∃n,G.aC n /\ G.aA n=some b) \/ ∃n,G.aE n b
def gi (es:List (List AV))(i j:Nat):Option AV:=es[i]?.bind (·[j]?)
inductive V (G:Gh) (w:World):AV -> Value -> Prop
 | aI (v):V G w .aR v
 | aF (b):V G w (.aD b) (.bool b)
 | aB (k n):V G w (.aA k n) (.int k n)
 | aQ (s):V G w (.aP s) (.string s)
 | aP (v):V G w (.aO v) v
 | aO:V G w .aB (.slice none 0 0)
 | aL (n sz i o b:Nat):n<G.N -> G.aA n=some b -> V G w (.aC n sz i o) (.pointer (some ⟨b,i*sz+o,none⟩))
 | aN (t:Nat) (cs:List AV) (b off:Nat) (f:Nat -> Value):G.aL t b -> (∀(j:Nat)(c:AV),cs[j]?=some c -> w.cell? ⟨b,off+j,none⟩=some (f j)) ->
  (∀(j:Nat)(c:AV),cs[j]?=some c -> V G w c (f j)) -> V G w (.aN t cs) (.pointer (some ⟨b,off,none⟩))
 | aC (n sz off len:Nat) (cap:Option Nat) (c:Nat) (ty:TypeId) (m b:Nat):n<G.N -> G.aA n=some b -> len <= c -> (∀k,cap=some k -> c=k) ->
  w.shape? b=some (ty,m) -> (off+c)*sz <= m -> V G w (.aF n sz off len cap) (.slice (some ⟨b,off*sz,none⟩) len c)
 | aG (n sz:Nat) (cap:Option Nat):n<G.N -> G.aD n -> (∀k,cap=some k -> k=0) -> V G w (.aF n sz 0 0 cap) (.slice none 0 0)
 | aD (t:Nat) (clip:Bool) (sz:Nat) (es:List (List AV)) (a:Addr) (cap:Nat) (f:Nat -> Nat -> Value):es.length <= cap -> (clip=true -> cap=es.length) -> (cap≠0 -> a.spot=none) ->
  (es≠[] -> G.aL t a.block) -> iT sz es ->
  (∀i j c,gi es i j=some c -> w.cell? ⟨a.block,a.off+(i*sz+j),none⟩=some (f i j)) ->
  (∀i j c,gi es i j=some c -> V G w c (f i j)) -> V G w (.aL t clip sz es) (.slice (some a) es.length cap)
 | aE (t clip sz):V G w (.aL t clip sz []) (.slice none 0 0)
 | aJ (cs:List AV) (vs:Array Value):cs.length=vs.size -> (∀(j:Nat)(c:AV)(v:Value),cs[j]?=some c -> vs[j]?=some v -> V G w c v) -> V G w (.aE cs) (.agg vs)
 | aM (cs:List AV) (vs:Array Value):cs.length=vs.size -> (∀(j:Nat)(c:AV)(v:Value),cs[j]?=some c -> vs[j]?=some v -> V G w c v) -> V G w (.aI cs) (.tuple vs)
 | aK (f:FuncId) (fs:List AV) (us:Array Value) (cs:List AV) (vs:Array Value):fs.length=us.size -> (∀(j:Nat)(c:AV)(v:Value),fs[j]?=some c -> us[j]?=some v -> V G w c v) ->
  cs.length=vs.size -> (∀(j:Nat)(c:AV)(v:Value),cs[j]?=some c -> vs[j]?=some v -> V G w c v) -> V G w (.aM f fs cs) (.func (.func f) us vs)
 | aR (t c v):V G w c v -> V G w (.aT t c) (.iface t v)
structure gU (G:Gh)(w:World)(G':Gh)(w':World):Prop where
 N:G.N <= G'.N
 aA:∀n b,n<G.N -> G.aA n=some b -> G'.aA n=some b
 aE:∀n,n<G.N -> G.aD n -> G'.aD n
 aB:∀t b,G.aL t b -> G'.aL t b
 aC:∀t b,G.aL t b -> w'.heap[b]?=w.heap[b]?
 aD:∀b,(w.shape? b).isSome -> w'.shape? b=w.shape? b
theorem Gy {w w':World}{a:Addr} (h:w'.heap[a.block]?=w.heap[a.block]?):w'.cell? a=w.cell? a:=by simp only[World.cell?,h]
theorem V.aA {G w G' w' av v}(k:gU G w G' w')(h:V G w av v):V G' w' av v:=by
 induction h with
 | aI v=>exact .aI v
 | aF b=>exact .aF b
 | aB k n=>exact .aB k n
 | aQ s=>exact .aQ s
 | aP v=>exact .aP v
 | aO=>exact .aO
 | aL n sz i o b hn hb=>exact .aL n sz i o b (Vy hn k.N) (k.aA n b hn hb)
 | aN t cs b off f hp hc _ ih=>
 exact .aN t cs b off f (k.aB _ _ hp) (λj c hj=>by rw[Gy (a:=⟨b,off+j,none⟩) (k.aC _ _ hp)];exact hc j c hj) ih
 | aC n sz off len cap c ty m b hn hb hl hcap hs hm=>
 exact .aC n sz off len cap c ty m b (Vy hn k.N) (k.aA n b hn hb) hl hcap (by rw[k.aD _ (by simp[hs]),hs]) hm
 | aG n sz cap hn hb hc=>exact .aG n sz cap (Vy hn k.N) (k.aE n hn hb) hc
 | aD t clip sz es a cap f hl hcl hsp hp hes hc _ ih=>
 refine .aD t clip sz es a cap f hl hcl hsp (λh=>k.aB _ _ (hp h)) hes (λi j c hj=>?_) ih;have u:es≠[]:=by rintro rfl;simp[gi]at hj
 rw[Gy (a:=⟨a.block,a.off+(i*sz+j),none⟩) (k.aC _ _ (hp u))];exact hc i j c hj
 | aE t clip sz=>exact .aE t clip sz
 | aJ cs vs hl _ ih=>exact .aJ cs vs hl ih
 | aM cs vs hl _ ih=>exact .aM cs vs hl ih
 | aK f fs us cs vs hl _ hl' _ ih ih'=>exact .aK f fs us cs vs hl ih hl' ih'
 | aR t c v _ ih=>exact .aR t c v ih
structure ki (G:Gh)(w:World)(b:Nat)(sz:Nat)(es:List (List AV))(grow:Bool):Prop where
 ex:∃cells ty,w.heap[b]?=some (.cells cells ty (0,0)) /\ es.length*sz <= cells.size /\ (grow=false -> cells.size=es.length*sz) /\
 ∀i j c,gi es i j=some c -> ∃v,cells[i*sz+j]?=some v /\ V G w c v
 sz:iT sz es
structure fS (G:Gh)(w:World)(h:eZ):Prop where
 aA:h.length=G.N
 aC:∀n,G.aC n↔(∃sz es g,h[n]?=some (some (.aA sz es g))) /\ ∃b,G.aA n=some b
 aD:∀n b,G.aE n b -> h[n]?=some (some .aB)
 inj:∀n m b,G.aC n -> G.aC m -> G.aA n=some b -> G.aA m=some b -> n=m
 aE:∀n m b,G.aC n -> G.aA n=some b -> ¬G.aE m b
 aF:∀n b,G.aC n -> G.aA n=some b -> ¬G.S b
 aL:∀n m b,G.aE n b -> G.aE m b -> n=m
 aM:∀n b,G.aE n b -> ¬G.S b
 aG:∀n b,G.aE n b -> b<w.heap.size
 aJ:∀b,G.S b -> b<w.heap.size
 aB:∀n sz es g b,h[n]?=some (some (.aA sz es g)) -> G.aA n=some b -> ki G w b sz es g
 aI:∀n sz es g,h[n]?=some (some (.aA sz es g)) -> G.aA n=none -> es=[]
 aK:∀n,G.aD n -> G.aA n=none
theorem fS.aP {G w h}(g:fS G w h){n x} (hn:h[n]?=some x):n<G.N:=by rw[<- g.aA];exact (U_.1 hn).1
theorem fS.aN {G w h}(g:fS G w h){n sz es gr b} (hn:h[n]?=some (some (.aA sz es gr))) (hb:G.aA n=some b):G.aC n:=
 (g.aC n).2 ⟨⟨_,_,_,hn⟩,b,hb⟩
theorem fS.aO {G w h}(g:fS G w h){n b}(hn:G.aC n)(hb:G.aA n=some b):b<w.heap.size:=by obtain⟨⟨sz,es,gr,hh⟩,_⟩:=(g.aC n).1 hn;obtain⟨cells,ty,hc,_⟩:=(g.aB n sz es gr b hh hb).ex;exact (Wj.1 hc).1
theorem fS.bM {G w h}(g:fS G w h){b}(hb:G.aI b):b<w.heap.size:=by
 rcases hb with⟨n,hn,hl⟩ | ⟨n,hn⟩;·exact g.aO hn hl
 ·exact g.aG n b hn
def jB (w w':World):Prop:=w'.os=w.os /\ w'.output=w.output /\ w.heap.size <= w'.heap.size /\ ∀a,a.block<w.heap.size -> w'.frozen? a=w.frozen? a
theorem jB.aA (w):jB w w:=⟨rfl,rfl,Vg _,λ_ _=>rfl⟩
theorem jB.aB {w w1 w2}(a:jB w w1)(b:jB w1 w2):jB w w2:=⟨b.1.trans a.1,b.2.1.trans a.2.1,Vr a.2.2.1 b.2.2.1,λx hx=>(b.2.2.2 x (Vy hx a.2.2.1)).trans (a.2.2.2 x hx)⟩
theorem jB.aC (w:World)(c:Array Value)(t:TypeId):jB w (w.alloc (.cells c t)):=⟨rfl,rfl,by simp,λa _=>Go.RowKit.frozen?_alloc_cells w c t a⟩
theorem jB.aD (w:World)(a:Addr)(v:Value):jB w (w.setCell a v):=⟨rfl,rfl,by simp,λ_ _=>World.frozen?_setCell _ _ _ _⟩
structure gE (G:Gh)(w:World)(G':Gh)(w':World):Prop where
 aA:gU G w G' w'
 S:(∀b,G.S b -> G'.S b) /\ ∀b,G'.S b -> G.S b \/ w.heap.size <= b
 aE:∀n,n<G.N -> G'.aA n=G.aA n
 aJ:∀n,n<G.N -> (G'.aD n↔G.aD n)
 aB:w.heap.size <= w'.heap.size
 aD:∀b,b<w.heap.size -> ¬G.aI b -> w'.heap[b]?=w.heap[b]?
 aF:∀b,G'.aI b -> G.aI b \/ w.heap.size <= b
 aG:jB w w'
theorem gU.aI (G w):gU G w G w:=⟨Vg _,λ_ _ _ h=>h,λ_ _ h=>h,λ_ _ h=>h,λ_ _ _=>rfl,λ_ _=>rfl⟩
theorem gU.aF {G w G1 w1 G2 w2}(a:gU G w G1 w1)(b:gU G1 w1 G2 w2):gU G w G2 w2 where
 N:=Vr a.N b.N
 aA n x h e:=b.aA n x (Vy h a.N) (a.aA n x h e)
 aE n h e:=b.aE n (Vy h a.N) (a.aE n h e)
 aB t x h:=b.aB t x (a.aB t x h)
 aC t x h:=by rw[b.aC t x (a.aB t x h),a.aC t x h]
 aD x h:=by rw[b.aD x (by rw[a.aD x h];exact h),a.aD x h]
theorem gE.aC (G w):gE G w G w:=⟨gU.aI G w,⟨λ_ h=>h,λ_ h=>.inl h⟩,λ_ _=>rfl,λ_ _=>Wu,Vg _,λ_ _ _=>rfl,λ_ h=>.inl h,jB.aA w⟩
theorem gE.aI {G w G1 w1 G2 w2}(a:gE G w G1 w1)(b:gE G1 w1 G2 w2):gE G w G2 w2 where
 aA:=a.aA.aF b.aA
 S:=⟨λx h=>b.S.1 x (a.S.1 x h),λx h=>(b.S.2 x h).elim (a.S.2 x) (λh=>.inr (Vr a.aB h))⟩
 aE n h:=by rw[b.aE n (Vy h a.aA.N),a.aE n h]
 aJ n h:=(b.aJ n (Vy h a.aA.N)).trans (a.aJ n h)
 aB:=Vr a.aB b.aB
 aD x hx hn:=by
  rw[b.aD x (Vy hx a.aB) ?_,a.aD x hx hn];intro ho;rcases a.aF x ho with h | h;·exact hn h
  ·omega
 aF x hx:=by
  rcases b.aF x hx with h | h;·exact a.aF x h
  ·exact .inr (Vr a.aB h)
 aG:=a.aG.aB b.aG
theorem gE.aK (G w)(n:Nat):gE G w G {w with drawn:=n}:=
 ⟨⟨Vg _,λ_ _ _ h=>h,λ_ _ h=>h,λ_ _ h=>h,λ_ _ _=>rfl,λ_ _=>rfl⟩,⟨λ_ h=>h,λ_ h=>.inl h⟩,λ_ _=>rfl,λ_ _=>Wu,Vg _,λ_ _ _=>rfl,λ_ h=>.inl h,rfl,rfl,Vg _,λ_ _=>rfl⟩
theorem ki.aA {G w G' w' b sz es gr}(k:gU G w G' w') (hb:w'.heap[b]?=w.heap[b]?) (h:ki G w b sz es gr):ki G' w' b sz es gr:=by obtain⟨⟨cells,ty,hc,h1,h2,h3⟩,hs⟩:=h;exact⟨⟨cells,ty,hb▸hc,h1,h2,λi j c hj=>let⟨v,hv,hV⟩:=h3 i j c hj;⟨v,hv,hV.aA k⟩⟩,hs⟩
theorem fS.aT {G w h w'} (g : fS G w h) (hh : w'.heap = w.heap) : fS G w' h := by
  have k : gU G w G w' := ⟨Vg _, λ_ _ _ h => h, λ_ _ h => h, λ_ _ h => h, λ_ _ _ => by rw [hh], λ_ _ => by simp only [World.shape?, hh]⟩
  exact { aA := g.aA, aC := g.aC, aD := g.aD, inj := g.inj, aE := g.aE, aF := g.aF, aL := g.aL, aM := g.aM,
          aG := λn b hb => by rw [hh]; exact g.aG n b hb, aJ := λb hb => by rw [hh]; exact g.aJ b hb,
          aB := λn sz es gr b hn hb => (g.aB n sz es gr b hn hb).aA k (by rw [hh]), aI := g.aI, aK := g.aK }
def Gh.aB (G:Gh)(ob:Option Nat):Gh:=
 {G with N:=G.N+1,aA:=λn=>if n=G.N then ob else G.aA n,aD:=λn=>if n=G.N then ob=none else G.aD n,aC:=λn=>G.aC n \/ (n=G.N /\ ob.isSome)}
theorem Dl {w:World}{o:Obj}{b:Nat}(h:(w.shape? b).isSome):(w.alloc o).shape? b=w.shape? b:=by
 have hb:b<w.heap.size:=by apply Vm;intro hn;simp only[World.shape?,Array.getElem?_eq_none (Nat.le_of_not_lt hn)]at h;exact absurd h (by simp)
 simp only[World.shape?,World.alloc,Array.getElem?_push,WV hb,VO]
theorem nk {w:World}{o:Obj}{b:Nat}(hb:b<w.heap.size):(w.alloc o).heap[b]?=w.heap[b]?:=by simp only[World.alloc,Array.getElem?_push,WV hb,VO]
theorem uw {w:World}{o:Obj}:(w.alloc o).heap[w.heap.size]?=some o:=by show (w.heap.push o)[w.heap.size]?=some o;simp
theorem fS.bK {G w h}(g:fS G w h):¬G.aC G.N:=by intro hl;obtain⟨⟨sz,es,gr,hh⟩,_⟩:=(g.aC _).1 hl;exact WA _ (g.aP hh)
theorem fS.bL {G w h}(g:fS G w h)(b):¬G.aE G.N b:=by intro ht;have:=(U_.1 (g.aD _ _ ht)).1;rw[g.aA]at this;exact WA _ this
theorem fS.aQ {G w h}(g:fS G w h){t b}(hp:G.aL t b):b<w.heap.size:=by
 cases t with
 | zero=>exact g.aJ b hp
 | succ n=>exact g.aG n b hp
theorem fS.bz {G w h}(g:fS G w h)(ob:Option Nat):gU G w (G.aB ob) w where
 N:=WB _
 aA n b hn hb:=by simp only[Gh.aB,WV hn,VO];exact hb
 aE n hn hb:=by simp only[Gh.aB,WV hn,VO];exact hb
 aB t b hp:=by cases t<;>exact hp
 aC t b hp:=rfl
 aD b hb:=rfl
theorem fS.aX {G w h}(g:fS G w h)(o:Obj):gU G w (G.aB (some w.heap.size)) (w.alloc o) where
 N:=WB _
 aA n b hn hb:=by simp only[Gh.aB,WV hn,VO];exact hb
 aE n hn hb:=by simp only[Gh.aB,WV hn,VO];exact hb
 aB t b hp:=by cases t<;>exact hp
 aC t b hp:=nk (g.aQ hp)
 aD b hb:=Dl hb
theorem fS.bD {G w h}(g:fS G w h)(c:Array Value)(t:TypeId):gE G w (G.aB (some w.heap.size)) (w.alloc (.cells c t)) where
 aG:=jB.aC w c t
 aA:=g.aX _
 S:=⟨λ_ h=>h,λ_ h=>.inl h⟩
 aE n hn:=by simp only[Gh.aB,WV hn,VO]
 aJ n hn:=by simp only[Gh.aB,WV hn,VO]
 aB:=by simp
 aD b hb _:=nk hb
 aF b hb:=by
  rcases hb with⟨n,hn,he⟩ | ⟨n,hn⟩
  ·by_cases h:n=G.N
   ·simp only[Gh.aB,h,V3,Vk]at he;exact .inr (by omega)
   ·simp only[Gh.aB,h,VO]at he;exact .inl (.inl ⟨n,hn.resolve_right (λx=>h x.1),he⟩)
  ·exact .inl (.inr ⟨n,hn⟩)
theorem KN {G w h}(g:fS G w h)(y:Option fh){n}{x:Option fh}(hn:n≠G.N):(h++[y])[n]?=some x↔h[n]?=some x:=by
 rw[<- g.aA]at hn;rcases Wc n h.length with hl | hl;·rw[VK hl]
 ·have:h.length<n:=by omega
  rw[VJ (by simp;omega),VJ hl]
theorem KM {G w h}(g:fS G w h)(y:Option fh):(h++[y])[G.N]?=some y:=by rw[<- g.aA];simp
theorem fS.aW {G w h} (g : fS G w h) {ob : Option Nat} {w' : World} {sz : Nat} {es : List (List AV)} {gr : Bool}
    (k : gU G w (G.aB ob) w') (hsize : w.heap.size <= w'.heap.size) (hother : ∀ n b, G.aC n -> G.aA n = some b -> w'.heap[b]? = w.heap[b]?)
    (hfree : ∀ b, ob = some b -> (∀ n, G.aC n -> G.aA n ≠ some b) /\ (∀ n, ¬ G.aE n b) /\ ¬ G.S b)
    (hH : ∀ b, ob = some b -> ki (G.aB ob) w' b sz es gr) (hnil : ob = none -> es = []) :
    fS (G.aB ob) w' (h ++ [some (.aA sz es gr)]) := by
  have new := KM g (some (fh.aA sz es gr))
  have old := λn x (hn : n ≠ G.N) => KN g (some (fh.aA sz es gr)) (n := n) (x := x) hn
  have locN : (G.aB ob).aA G.N = ob := by simp [Gh.aB]
  have locO : ∀ n, n ≠ G.N -> (G.aB ob).aA n = G.aA n := λn hn => by simp [Gh.aB, hn]
  have liveO : ∀ n, n ≠ G.N -> ((G.aB ob).aC n ↔ G.aC n) := λn hn => ⟨λh => h.resolve_right (λx => hn x.1), .inl⟩
  refine { aA := by simp [Gh.aB, g.aA], aC := ?_, aD := ?_, inj := ?_, aE := ?_, aF := ?_, aL := g.aL, aM := g.aM,
           aG := ?_, aJ := ?_, aB := ?_, aI := ?_, aK := ?_ }
  · intro n
    by_cases hn : n = G.N
    · subst hn
      rw [locN]
      constructor
      · rintro (hl | ⟨_, ho⟩)
        · exact absurd hl g.bK
        · exact ⟨⟨_, _, _, new⟩, Option.isSome_iff_exists.1 ho⟩
      · rintro ⟨_, b, hb⟩; exact .inr ⟨rfl, by simp [hb]⟩
    · rw [liveO n hn, locO n hn, g.aC n]
      constructor <;> rintro ⟨⟨a, b, c, hh⟩, hb⟩
      · exact ⟨⟨a, b, c, (old n _ hn).2 hh⟩, hb⟩
      · exact ⟨⟨a, b, c, (old n _ hn).1 hh⟩, hb⟩
  · intro n b hb
    have : n ≠ G.N := by rintro rfl; exact g.bL b hb
    exact (old n _ this).2 (g.aD n b hb)
  · intro n m b hn hm hbn hbm
    by_cases h1 : n = G.N <;> by_cases h2 : m = G.N
    · rw [h1, h2]
    · subst h1; rw [locN] at hbn; rw [locO m h2] at hbm
      exact absurd hbm ((hfree b hbn).1 m ((liveO m h2).1 hm))
    · subst h2; rw [locN] at hbm; rw [locO n h1] at hbn
      exact absurd hbn ((hfree b hbm).1 n ((liveO n h1).1 hn))
    · rw [locO n h1] at hbn; rw [locO m h2] at hbm
      exact g.inj n m b ((liveO n h1).1 hn) ((liveO m h2).1 hm) hbn hbm
  · intro n m b hn hb ht
    by_cases h1 : n = G.N
    · subst h1; rw [locN] at hb; exact (hfree b hb).2.1 m ht
    · rw [locO n h1] at hb; exact g.aE n m b ((liveO n h1).1 hn) hb ht
  · intro n b hn hb hs
    by_cases h1 : n = G.N
    · subst h1; rw [locN] at hb; exact (hfree b hb).2.2 hs
    · rw [locO n h1] at hb; exact g.aF n b ((liveO n h1).1 hn) hb hs
  · intro n b hb; exact Vy (g.aG n b hb) hsize
  · intro b hb; exact Vy (g.aJ b hb) hsize
  · intro n sz' es' gr' b hn hb
    by_cases h1 : n = G.N
    · subst h1
      rw [new] at hn
      obtain ⟨rfl, rfl, rfl⟩ : sz = sz' /\ es = es' /\ gr = gr' := by simpa using hn
      rw [locN] at hb
      exact hH b hb
    · have hn' := (old n _ h1).1 hn
      rw [locO n h1] at hb
      exact (g.aB n sz' es' gr' b hn' hb).aA k (hother n b (g.aN hn' hb) hb)
  · intro n sz' es' gr' hn hb
    by_cases h1 : n = G.N
    · subst h1
      rw [new] at hn
      obtain ⟨rfl, rfl, rfl⟩ : sz = sz' /\ es = es' /\ gr = gr' := by simpa using hn
      rw [locN] at hb
      exact hnil hb
    · rw [locO n h1] at hb
      exact g.aI n sz' es' gr' ((old n _ h1).1 hn) hb
  · intro n hn
    by_cases h1 : n = G.N
    · subst h1
      rw [locN]
      simpa [Gh.aB] using hn
    · rw [locO n h1]
      exact g.aK n (by simpa [Gh.aB, h1] using hn)
theorem fS.a_ {G w h}(g:fS G w h){cells:Array Value}{ty:TypeId}{sz:Nat}{es:List (List AV)}{gr:Bool}
  (t:iT sz es) (u:es.length*sz <= cells.size) (C:gr=false -> cells.size=es.length*sz)
  (hV:∀i j c,gi es i j=some c -> ∃v,cells[i*sz+j]?=some v /\ V G w c v):
  fS (G.aB (some w.heap.size)) (w.alloc (.cells cells ty)) (h++[some (.aA sz es gr)]):=by
 have k:=g.aX (.cells cells ty);refine g.aW k (by simp) (λn b hn hb=>nk (g.aO hn hb)) ?_ ?_ (by simp);·rintro b ⟨⟩;refine⟨λn hn hb=>WA _ (g.aO hn hb),λn ht=>WA _ (g.aG n _ ht),λhs=>WA _ (g.aJ _ hs)⟩
 ·rintro b ⟨⟩;exact⟨⟨cells,ty,uw,u,C,λi j c hj=>let⟨v,hv,hV⟩:=hV i j c hj;⟨v,hv,hV.aA k⟩⟩,t⟩
theorem To {w:World}{a:Addr}{v:Value}{b:Nat}:(w.setCell a v).shape? b=w.shape? b:=by
 simp only[World.shape?,World.setCell,WY];by_cases h:a.block=b
 ·subst h;simp only[V3];cases w.heap[a.block]? with
  | none=>rfl
  | some o=>cases o<;>simp;split<;>simp
 ·simp only[h,VO]
theorem CC {w:World}{a:Addr}{v:Value}{b:Nat}(h:a.block≠b):(w.setCell a v).heap[b]?=w.heap[b]?:=by simp only[World.setCell,WY,h,VO]
theorem Oz {w:World}{b o:Nat}{v:Value}{cells:Array Value}{ty:TypeId}{fr:Nat×Nat} (h:w.heap[b]?=some (.cells cells ty fr)):
 (w.setCell ⟨b,o,none⟩ v).heap[b]?=some (.cells (cells.setIfInBounds o v) ty fr):=by
 simp[World.setCell,WY,h]
theorem fS.bA {G w h}(g:fS G w h){n b}(hn:G.aC n)(hb:G.aA n=some b)(o:Nat)(v:Value):gU G w G (w.setCell ⟨b,o,none⟩ v) where
 N:=Vg _
 aA _ _ _ h:=h
 aE _ _ h:=h
 aB _ _ h:=h
 aC t b' hp:=CC (by
 rintro rfl;cases t with
 | zero=>exact g.aF n _ hn hb hp
 | succ m=>exact g.aE n m _ hn hb hp)
 aD b _:=To
theorem fS.bO {G w h}(g:fS G w h){n b}(hn:G.aC n)(hb:G.aA n=some b)(o:Nat)(v:Value):gE G w G (w.setCell ⟨b,o,none⟩ v) where
 aG:=jB.aD w _ v
 aA:=g.bA hn hb o v
 S:=⟨λ_ h=>h,λ_ h=>.inl h⟩
 aE _ _:=rfl
 aJ _ _:=Wu
 aB:=by simp
 aD b' _ hb':=CC (by rintro rfl;exact hb' (.inl ⟨n,hn,hb⟩))
 aF b hb:=.inl hb
def nC (es:List (List AV))(i j:Nat)(c:AV):List (List AV):=es.modify i (·.set j c)
theorem NZ {es:List (List AV)}{i j i' j':Nat}{c:AV}:
  gi (nC es i j c) i' j'=if i'=i /\ j'=j /\ (gi es i j).isSome then some c else gi es i' j':=by
 simp only[gi,nC,W6];by_cases hi:i'=i
 ·subst hi;simp only[V3,true_and];cases h:es[i']? with
  | none=>simp
  | some e=>
   simp only[Wp];by_cases hj:j'=j
   ·subst hj;by_cases hl:j'<e.length;·simp[hl]
    ·simp[hl]
   ·have:¬(j=j'):=λh=>hj h.symm;simp[hj,this]
 ·have:¬(i=i'):=λh=>hi h.symm;simp[hi,this]
theorem CJ {es:List (List AV)}{i j:Nat}{c:AV}:(nC es i j c).length=es.length:=by simp[nC]
theorem P4 {sz i j i' j':Nat}(hj:j<sz)(b:j'<sz)(h:i*sz+j=i'*sz+j'):i=i' /\ j=j':=by
 have hs:0<sz:=by omega
 have hi:i=i':=by
  have e1:(i*sz+j) / sz=i:=by rw[Nat.mul_comm,Nat.mul_add_div hs,Nat.div_eq_of_lt hj,WU]
  have e2:(i'*sz+j') / sz=i':=by rw[Nat.mul_comm,Nat.mul_add_div hs,Nat.div_eq_of_lt b,WU]
  rw[<- e1,<- e2,h]
 subst hi;exact⟨rfl,by omega⟩
theorem nZ {es:List (List AV)}{i j sz:Nat}{c:AV}(hs:iT sz es)(h:gi es i j=some c):i<es.length /\ j<sz:=by
 simp only[gi]at h;cases he:es[i]? with
 | none=>simp[he]at h
 | some e=>
 simp[he]at h;obtain⟨hi,rfl⟩:=U_.1 he;have:=(hs _ (VU hi)).1;have:=(U_.1 h).1;exact⟨hi,by omega⟩
theorem pM {n sz i j:Nat}(hi:i<n)(hj:j<sz):i*sz+j<n*sz:=by have:=Vx sz (Nat.succ_le_of_lt hi);rw[Nat.succ_mul]at this;omega
theorem ki.aC {G w b sz es gr i j c}(h:ki G w b sz es gr)(hc:gi es i j=some c):
 ∃v,w.cell? ⟨b,i*sz+j,none⟩=some v /\ w.frozen? ⟨b,i*sz+j,none⟩=false /\ V G w c v:=by
 obtain⟨⟨cells,ty,hh,_,_,h3⟩,_⟩:=h;obtain⟨v,hv,hV⟩:=h3 i j c hc;exact⟨v,by simp[World.cell?,hh,hv],by simp[World.frozen?,hh],hV⟩
theorem fS.bI {G w h} (g : fS G w h) {n b sz es gr i j c0 c} {v : Value} (hn : h[n]? = some (some (.aA sz es gr))) (hb : G.aA n = some b)
    (hc : gi es i j = some c0) (hV : V G w c v) (hsc : c.aG = true) :
    fS G (w.setCell ⟨b, i * sz + j, none⟩ v) (h.set n (some (.aA sz (nC es i j c) gr))) := by
  have hl : G.aC n := g.aN hn hb
  have k := g.bA hl hb (i * sz + j) v
  have hlt : n < h.length := (U_.1 hn).1
  refine { aA := by simp [g.aA], aC := ?_, aD := ?_, inj := g.inj, aE := g.aE, aF := g.aF, aL := g.aL, aM := g.aM,
           aG := λm b hb => by simpa using g.aG m b hb, aJ := λb hb => by simpa using g.aJ b hb, aB := ?_, aI := ?_, aK := g.aK }
  · intro m
    rw [g.aC m]
    by_cases hm : n = m
    · subst hm
      exact ⟨λh => ⟨⟨sz, nC es i j c, gr, by simp [hlt]⟩, h.2⟩, λh => ⟨⟨_, _, _, hn⟩, h.2⟩⟩
    · rw [Vb hm]
  · intro m b hb
    have hm : n ≠ m := by rintro rfl; rw [g.aD _ _ hb] at hn; simp at hn
    rw [Vb hm]; exact g.aD m b hb
  · intro m sz' es' gr' b' hm hb'
    by_cases h1 : n = m
    · subst h1
      rw [hb] at hb'; cases hb'
      rw [Vd hlt] at hm
      obtain ⟨rfl, rfl, rfl⟩ : sz = sz' /\ nC es i j c = es' /\ gr = gr' := by simpa using hm
      obtain ⟨⟨cells, ty, hh, h1, h2, h3⟩, hs⟩ := g.aB n sz es gr b hn hb
      obtain ⟨hi, hj⟩ := nZ hs hc
      refine ⟨⟨cells.setIfInBounds (i * sz + j) v, ty, Oz hh, by simpa [CJ] using h1, by simpa [CJ] using h2, ?_⟩, ?_⟩
      · intro i' j' c' hc'
        rw [NZ] at hc'
        have hlt' := pM hi hj
        by_cases he : i' = i /\ j' = j
        · obtain ⟨rfl, rfl⟩ := he
          simp only [hc, Option.isSome_some, and_self, V3, Vk] at hc'
          subst hc'
          exact ⟨v, by rw [Array.getElem?_setIfInBounds_self_of_lt (by omega)], hV.aA k⟩
        · have : ¬ (i' = i /\ j' = j /\ (gi es i j).isSome = true) := λh => he ⟨h.1, h.2.1⟩
          rw [Ve this] at hc'
          obtain ⟨v', hv', hV'⟩ := h3 i' j' c' hc'
          refine ⟨v', ?_, hV'.aA k⟩
          obtain ⟨hi', hj'⟩ := nZ hs hc'
          rw [WH (λe => he (by have := P4 hj hj' e; exact ⟨this.1.symm, this.2.symm⟩))]
          exact hv'
      · intro e he
        simp only [nC] at he
        obtain ⟨idx, hidx, rfl⟩ := List.mem_iff_getElem.1 he
        have hs' := λk hk => hs (es[k]'hk) (VU hk)
        rw [List.getElem_modify]
        split
        · refine ⟨by simp [hs'], ?_⟩
          rw [Ww]
          intro x hx
          rcases WK hx with h | h
          · exact Ww.1 (hs' idx (by simpa using hidx)).2 x h
          · rw [h]; exact hsc
        · exact hs' idx (by simpa using hidx)
    · rw [Vb h1] at hm
      have hlm : G.aC m := g.aN hm hb'
      exact (g.aB m sz' es' gr' b' hm hb').aA k (CC (λe => h1 (g.inj n m b hl hlm hb (by rw [hb']; exact Xq some e.symm))))
  · intro m sz' es' gr' hm hb'
    by_cases h1 : n = m
    · subst h1; rw [hb] at hb'; cases hb'
    · rw [Vb h1] at hm
      exact g.aI m sz' es' gr' hm hb'
def Gh.aG (G:Gh)(n:Nat):Gh:={G with aC:=λm=>G.aC m /\ m≠n}
theorem Gh.aO (G:Gh)(w:World)(n:Nat):gU G w (G.aG n) w:=
 ⟨Vg _,λ_ _ _ h=>h,λ_ _ h=>h,λt b h=>by cases t<;>exact h,λ_ _ _=>rfl,λ_ _=>rfl⟩
theorem Gh.aQ (G:Gh)(w:World)(n:Nat):gE G w (G.aG n) w where
 aG:=jB.aA w
 aA:=G.aO w n
 S:=⟨λ_ h=>h,λ_ h=>.inl h⟩
 aE _ _:=rfl
 aJ _ _:=Wu
 aB:=Vg _
 aD _ _ _:=rfl
 aF b hb:=by
  rcases hb with⟨m,hm,h⟩ | ⟨m,h⟩;·exact .inl (.inl ⟨m,hm.1,h⟩)
  ·exact .inl (.inr ⟨m,h⟩)
theorem fS.aR {G w h} (g : fS G w h) {n sz es gr} (hn : h[n]? = some (some (.aA sz es gr))) : fS (G.aG n) w (h.set n none) := by
  have hlt : n < h.length := (U_.1 hn).1
  have k := G.aO w n
  refine { aA := by simp [Gh.aG, g.aA], aC := ?_, aD := ?_, inj := fun a b c h1 h2 => g.inj a b c h1.1 h2.1, aE := fun a b c h1 => g.aE a b c h1.1,
           aF := λa b h1 => g.aF a b h1.1, aL := g.aL, aM := g.aM, aG := g.aG, aJ := g.aJ, aB := ?_, aI := ?_, aK := g.aK }
  · intro m
    by_cases h1 : n = m
    · subst h1
      exact ⟨λh => absurd rfl h.2, fun ⟨⟨a, b, c, hh⟩, _⟩ => by simp [hlt] at hh⟩
    · rw [Vb h1]
      exact ⟨λh => (g.aC m).1 h.1, λh => ⟨(g.aC m).2 h, λe => h1 e.symm⟩⟩
  · intro m b hb
    have hm : n ≠ m := by rintro rfl; rw [g.aD _ _ hb] at hn; simp at hn
    rw [Vb hm]; exact g.aD m b hb
  · intro m t C u b hm hb
    by_cases h1 : n = m
    · subst h1; simp [hlt] at hm
    · rw [Vb h1] at hm
      exact (g.aB m t C u b hm hb).aA k rfl
  · intro m t C u hm hb
    by_cases h1 : n = m
    · subst h1; simp [hlt] at hm
    · rw [Vb h1] at hm
      exact g.aI m t C u hm hb
end Glb
/-
 A library of its own,for whatever program: the single operations,on abstract values and on values in memory.
-/
namespace Glb
open Go
def VL (G:Gh)(w:World)(cs:List AV)(vs:Array Value):Prop:=
 cs.length=vs.size /\ ∀(j:Nat)(c:AV)(v:Value),cs[j]?=some c -> vs[j]?=some v -> V G w c v
theorem VL.aD {G w cs vs cs' vs'}(h:VL G w cs vs)(h':VL G w cs' vs'):VL G w (cs++cs') (vs++vs'):=by
 refine⟨by simp[h.1,h'.1],λj c v hc hv=>?_⟩;rw[Wb]at hc;rw[WX,<- h.1]at hv;split at hc;·rename_i hlt;rw[Vf hlt]at hv;exact h.2 j c v hc hv
 ·rename_i hlt;rw[Ve hlt]at hv;exact h'.2 _ c v hc hv
theorem VL.aB {G w cs vs}{j:Nat}{c:AV}(h:VL G w cs vs) (hj:cs[j]?=some c):∃v,vs[j]?=some v /\ V G w c v:=by
 have hlt:=(U_.1 hj).1;have:vs[j]?=some (vs[j]'(by rw[<- h.1];exact hlt)):=by simp[<- h.1,hlt]
 exact⟨_,this,h.2 j c _ hj this⟩
theorem VL.aF (G w):VL G w [] #[]:=⟨rfl,λj c v h=>by simp at h⟩
theorem VL.aI {G w}{cs:List AV}{vs:List Value}(hl:cs.length=vs.length)
 (h:∀(j:Nat)(c:AV)(v:Value),cs[j]?=some c -> vs[j]?=some v -> V G w c v):VL G w cs vs.toArray:=
 ⟨by simpa using hl,λj c v a b=>h j c v a (by simpa using b)⟩
theorem VL.aE {G w c v}{cs:List AV}{vs:List Value}(h:V G w c v)(r:VL G w cs vs.toArray):VL G w (c :: cs) (v :: vs).toArray:=by
 refine VL.aI (by have:=r.1;simp at this;simp[this]) ?_;intro j c' v' hc hv;cases j with
 | zero=>simp at hc hv;subst hc;subst hv;exact h
 | succ j=>simp at hc hv;exact r.2 j c' v' hc (by simpa using hv)
def iP:Value -> AV
 | .bool b=>.aD b
 | .int k n=>.aA k n
 | .string s=>.aP s
 | .slice none 0 0=>.aB
 | v=>.aO v
def xt:Value -> AV
 | .agg cs=>.aE (cs.toList.map iP)
 | .tuple cs=>.aI (cs.toList.map iP)
 | v=>iP v
theorem V.aT (G w)(v:Value):V G w (iP v) v:=by
 unfold Glb.iP;split;·exact .aF _
 ·exact .aB _ _
 ·exact .aQ _
 ·exact .aO
 ·exact .aP _
theorem VL.aC (G w)(vs:Array Value):VL G w (vs.toList.map Glb.iP) vs:=by refine⟨by simp,λj c v hc hv=>?_⟩;simp only[VE,Array.getElem?_toList,hv,Wi,Vk]at hc;subst hc;exact V.aT G w v
theorem V.aZ (G w)(v:Value):V G w (xt v) v:=by
 unfold Glb.xt;split;·rename_i cs;exact .aJ _ cs (VL.aC G w cs).1 (VL.aC G w cs).2
 ·rename_i cs;exact .aM _ cs (VL.aC G w cs).1 (VL.aC G w cs).2
 ·exact V.aT G w _
theorem V.aU {G w c v}(h:V G w c v)(hs:c.aG=true):v.oneCell'=true:=by cases h<;>simp_all[AV.aG,Value.oneCell']
theorem V.a_ {G w c v}(h:V G w c v)(hs:c.aG=true):v.cells=#[v]:=by have:=h.aU hs;cases v<;>simp_all[Value.cells,Value.oneCell']
def AV.aK:AV -> Option (List AV)
 | .aE cs=>some cs
 | c=>if c.aG then some [c] else none
theorem V.aS {G w c v cs}(h:V G w c v)(hc:c.aK=some cs):VL G w cs v.cells:=by
 unfold AV.aK at hc;split at hc
 ·cases h with
  | aJ _ vs hl hv=>cases hc;exact⟨hl,hv⟩
 ·rename_i hne;split at hc;·rename_i hs;cases hc;rw[h.a_ hs];exact VL.aE (vs:=[]) h (VL.aF G w)
  ·cases hc
def nD (agg:Bool)(n:Nat)(cs:List AV):Option AV:=
 if agg then (if n <= cs.length then some (.aE (cs.take n)) else none) else cs.head?
def gX (h:eZ)(agg:Bool)(n:Nat):AV -> Option AV
 | .aC m sz i o=>
  match h[m]? with
  | some (some (.aA sz' es _))=>if sz=sz' then (es[i]?).bind λe=>nD agg n (e.drop o) else none
  | _=>none
 | .aN _ cs=>nD agg n cs
 | _=>none
theorem oM (b o n:Nat):(⟨b,o,none⟩:Addr).add n=⟨b,o+n,none⟩:=by unfold Addr.add;split<;>simp_all
theorem tW {a:Addr}(h:a.spot=none)(n:Nat):a.add n=⟨a.block,a.off+n,none⟩:=by cases a;simp at h;subst h;exact oM _ _ _
def vj (G:Gh)(w:World)(b o:Nat)(cs:List AV):Prop:=
 ∃f:Nat -> Value,(∀(j:Nat)(c:AV),cs[j]?=some c -> w.cell? ⟨b,o+j,none⟩=some (f j)) /\ ∀(j:Nat)(c:AV),cs[j]?=some c -> V G w c (f j)
theorem vj.aA {P:Program}{G w b o cs}(h:vj G w b o cs){agg:Bool}{n:Nat}{r:AV}(hr:nD agg n cs=some r)
 {t:TypeId} (ha:(isAgg t).run P w=.ok agg w) (hs:(Go.sizeOf t).run P w=.ok n w):
 ∃v,(loadVar t ⟨b,o,none⟩).run P w=.ok v w /\ V G w r v:=by
 obtain⟨f,hf,hV⟩:=h;unfold nD at hr;cases agg with
 | true=>
 simp only[V3]at hr;split at hr
 ·rename_i hle;cases hr;have hl:=run_loadCells (P:=P) (w:=w) ⟨b,o,none⟩ n f (λj hj=>by
  rw[oM];have:cs[j]?=some cs[j]:=by simp
  exact hf j _ this)
  refine⟨.agg ((List.range n).map f).toArray,by simp[loadVar,ha,hs,hl],?_⟩;refine .aJ _ _ (by simp;omega) (λj c v hc hv=>?_);have hj:j<n:=by have:=(U_.1 hc).1;simp at this;omega
  rw[VV hj]at hc;simp[hj]at hv;subst hv;exact hV j c hc
 ·cases hr
 | false=>
 simp only[VC,VO]at hr;have h0:cs[0]?=some r:=by rw[<- List.head?_eq_getElem?];exact hr
 have hc:=hf 0 r h0;simp only[WU]at hc;exact⟨f 0,by simp[loadVar,ha,hc],hV 0 r h0⟩
theorem ki.aD {G w b sz es gr i e}(h:ki G w b sz es gr) (he:es[i]?=some e) (o:Nat):vj G w b (i*sz+o) (e.drop o):=by
 obtain⟨⟨cells,ty,hh,_,_,h3⟩,_⟩:=h;refine⟨λj=>(cells[i*sz+(o+j)]?).getD undef,λj c hc=>?_,λj c hc=>?_⟩ <;>
 ·rw[Vz]at hc;obtain⟨v,hv,hV⟩:=h3 i (o+j) c (by simp[gi,he,hc]);simp[World.cell?,hh,Ws,hv,hV]
theorem ER {P:Program}{G w h agg n x r v}(g:fS G w h)(hx:V G w x v)(hr:gX h agg n x=some r)
  {t:TypeId} (ha:(isAgg t).run P w=.ok agg w) (hs:(Go.sizeOf t).run P w=.ok n w):
  ∃u,(Instr.loadAt t v).run P w=.ok u w /\ V G w r u:=by
 unfold gX at hr;split at hr
 ·rename_i m sz i o;cases hx with
  | aL _ _ _ _ b hn hb=>
  split at hr
  ·rename_i sz' es gr hm;split at hr
   ·rename_i C;subst C;cases he:es[i]? with
    | none=>simp[he]at hr
    | some e=>simp only[he,Wp]at hr;obtain⟨u,hu,hV⟩:=((g.aB m sz es gr b hm hb).aD he o).aA (P:=P) hr ha hs;exact⟨u,by simp[Instr.loadAt,Instr.sureAddr,hu],hV⟩
   ·cases hr
  ·cases hr
 ·rename_i t' cs;cases hx with
  | aN _ _ b off f hp hc hV=>obtain⟨u,hu,hV⟩:=vj.aA (P:=P) (G:=G) (w:=w) (b:=b) (o:=off) ⟨f,hc,hV⟩ hr ha hs;exact⟨u,by simp[Instr.loadAt,Instr.sureAddr,hu],hV⟩
 ·cases hr
def pC (o:Nat):AV -> Option AV
 | .aC m sz i o'=>some (.aC m sz i (o'+o))
 | .aN t cs=>some (.aN t (cs.drop o))
 | _=>none
theorem Kq {P:Program}{G w o x r v}(hx:V G w x v)(hr:pC o x=some r)
  {s:TypeId} {k:Nat} {fs:Array Field} {f:Field} (hu:P.underlying s=some (.struct fs)) (hf:fs[k]?=some f) (ho:f.offset=o)
  {m:Nat} (hs:(Go.sizeOf f.type).run P w=.ok m w) (hm:m≠0):
  ∃u,(Instr.fieldAt s v k).run P w=.ok u w /\ V G w r u:=by
 unfold pC at hr;split at hr
 ·rename_i n sz i o';cases hx with
  | aL _ _ _ _ b hn hb=>cases hr;refine⟨_,by simp[Instr.fieldAt,run_underlying hu,hf,Instr.sureAddr,fieldPlace,hs,hm,ho,oM];rfl,?_⟩;rw[Ws];exact .aL _ _ _ _ _ hn hb
 ·rename_i t' cs;cases hx with
  | aN _ _ b off f' hp hc hV=>
   cases hr;refine⟨_,by simp[Instr.fieldAt,run_underlying hu,hf,Instr.sureAddr,fieldPlace,hs,hm,ho,oM];rfl,?_⟩;refine .aN _ _ _ _ (λj=>f' (o+j)) hp (λj c hj=>?_) (λj c hj=>?_);·rw[Vz]at hj;rw[Ws];exact hc _ _ hj
   ·rw[Vz]at hj;exact hV _ _ hj
 ·cases hr
def iH (sz:Nat):AV -> AV -> Option AV
 | .aF m sz' off len _,.aA _ i=>if sz=sz' /\ 0 <= i /\ i<(len:Int) then some (.aC m sz (off+i.toNat) 0) else none
 | .aL t _ sz' es,.aA _ i=>if sz=sz' /\ 0 <= i then (es[i.toNat]?).map (.aN t) else none
 | _,_=>none
theorem KB {P:Program}{G w sz x i r v vi}(hx:V G w x v)(hi:V G w i vi)(hr:iH sz x i=some r)
  {t e:TypeId} (hu:P.underlying t=some (.slice e)) (hs:(Go.sizeOf e).run P w=.ok sz w):
  ∃u,(Instr.indexAt t v vi).run P w=.ok u w /\ V G w r u:=by
 unfold iH at hr;split at hr
 ·rename_i m C off len cap k i;cases hi;cases hx with
  | aG _ _ _ _ _ _=>simp at hr;omega
  | aC _ _ _ _ _ c ty mm b hn hb hl hcap hsh hm=>
   split at hr
   ·rename_i hh;obtain⟨rfl,h0,h1⟩:=hh;cases hr;refine⟨_,by simp[Instr.indexAt,asIntOf,run_underlying hu,hs,h0,h1,oM];rfl,?_⟩;have:off*sz+i.toNat*sz=(off+i.toNat)*sz+0:=by rw[WR];rfl
    rw[this];exact .aL _ _ _ _ _ hn hb
   ·cases hr
 ·rename_i t' cl C es k i;cases hi;split at hr
  ·rename_i hh;obtain⟨rfl,h0⟩:=hh;cases he:es[i.toNat]? with
   | none=>simp[he]at hr
   | some e'=>
    simp only[he,Wi,Vk]at hr;subst hr;have hlt:=(U_.1 he).1;cases hx with
    | aE=>simp at hlt
    | aD _ _ _ _ a cap f hl hcl hsp hp hes hc hV=>
     have h1:i<(es.length:Int):=by omega
     refine⟨_,by simp[Instr.indexAt,asIntOf,run_underlying hu,hs,h0,h1,tW (hsp (by omega))];rfl,?_⟩;refine .aN _ _ _ _ (λj=>f i.toNat j) (hp (by rintro rfl;simp at hlt)) (λj c hj=>?_) (λj c hj=>?_);·rw[Ws];exact hc _ _ c (by simp[gi,he,hj])
     ·exact hV i.toNat j c (by simp[gi,he,hj])
  ·cases hr
 ·cases hr
def oY (op:BinOp)(k:IntKind)(a b:Int):Option AV:=
 match op with
 | .add=>some (.aA k (k.wrap (a+b)))
 | .sub=>some (.aA k (k.wrap (a-b)))
 | .mul=>some (.aA k (k.wrap (a*b)))
 | .quo=>if b=0 then none else some (.aA k (k.wrap (a.tdiv b)))
 | .rem=>if b=0 then none else some (.aA k (a.tmod b))
 | .and=>some (.aA k (k.wrap (BitVec.ofInt k.bits a &&& BitVec.ofInt k.bits b).toNat))
 | .or=>some (.aA k (k.wrap (BitVec.ofInt k.bits a ||| BitVec.ofInt k.bits b).toNat))
 | .xor=>some (.aA k (k.wrap (BitVec.ofInt k.bits a ^^^ BitVec.ofInt k.bits b).toNat))
 | .andNot=>some (.aA k (k.wrap (BitVec.ofInt k.bits a &&& ~~~ BitVec.ofInt k.bits b).toNat))
 | .eql=>some (.aD (a == b))
 | .neq=>some (.aD (a != b))
 | .lss=>some (.aD (decide (a<b)))
 | .leq=>some (.aD (decide (a <= b)))
 | .gtr=>some (.aD (decide (a>b)))
 | .geq=>some (.aD (decide (a≥b)))
 | .shl | .shr=>none
def uB (op:BinOp)(k:IntKind)(a b:Int):Option AV:=
 match op with
 | .shl=>if b<0 then none else some (.aA k (k.wrap (a*2^(min b.toNat k.bits))))
 | .shr=>if b<0 then none else some (.aA k (a.fdiv (2^(min b.toNat k.bits))))
 | _=>none
def wL (op:BinOp)(a b:Bool):Option AV:=
 match op with
 | .eql=>some (.aD (a == b))
 | .neq=>some (.aD (!(a == b)))
 | _=>none
def Iz (op:BinOp)(a b:ByteArray):Option AV:=
 match op with
 | .eql=>some (.aD (a.toList == b.toList))
 | .neq=>some (.aD (!(a.toList == b.toList)))
 | _=>none
def jC:AV -> Option Bool
 | .aB=>some true
 | .aF _ _ _ len _=>if 0<len then some false else none
 | .aL _ _ _ es=>if 0<es.length then some false else none
 | .aC ..=>some false
 | .aN ..=>some false
 | .aO (.pointer none)=>some true
 | .aO .nilIface=>some true
 | .aT ..=>some false
 | _=>none
def iQ (op:BinOp):AV -> AV -> Option AV
 | .aA k a,.aA k' b=>if op=.shl \/ op=.shr then uB op k a b else if k=k' then oY op k a b else none
 | .aP a,.aP b=>Iz op a b
 | _,_=>none
theorem SM {P:Program}{w:World}(op:BinOp)(t:TypeId)(x y:Operand)(k k':IntKind)(a b:Int):
 (eqGuard op t x y (.int k a) (.int k' b)).run P w=.ok () w:=by
 cases op<;>rfl
theorem SL {P:Program}{w:World}(op:BinOp)(t:TypeId)(x y:Operand)(a b:Bool):
 (eqGuard op t x y (.bool a) (.bool b)).run P w=.ok () w:=by
 cases op<;>rfl
theorem SN {P:Program}{w:World}(op:BinOp)(t:TypeId)(x y:Operand)(a b:ByteArray):
 (eqGuard op t x y (.string a) (.string b)).run P w=.ok () w:=by
 cases op<;>rfl
theorem EF {P:Program}{G w op x y r vx vy}(hx:V G w x vx)(hy:V G w y vy)(hr:iQ op x y=some r)(t:TypeId)(ox oy:Operand):
  ∃u,(do eqGuard op t ox oy vx vy;binOp op t vx vy:Sem Value).run P w=.ok u w /\ V G w r u:=by
 unfold iQ at hr
 split at hr
 ·rename_i k a k' b
  cases hx;cases hy
  simp only[Sem.run_bind,SM,Result.andThen_ok]
  split at hr
  ·rename_i C
   rcases C with rfl | rfl<;>simp only[uB]at hr<;>split at hr<;>simp only[Vk,reduceCtorEq]at hr<;>subst hr <;>
    rename_i hlt<;>simp[binOp,Op.shift,hlt]<;>exact .aB _ _
  ·rename_i C
   split at hr
   ·rename_i hk
    subst hk
    cases op<;>simp only[oY,reduceCtorEq]at hr
    case quo=>split at hr<;>simp only[Vk,reduceCtorEq]at hr;subst hr;rename_i hz;simp[binOp,Op.intDiv,hz];exact .aB _ _
    case rem=>split at hr<;>simp only[Vk,reduceCtorEq]at hr;subst hr;rename_i hz;simp[binOp,Op.intDiv,hz];exact .aB _ _
    all_goals simp only[Vk]at hr;subst hr
    all_goals first
     | (refine⟨_,?_,.aF _⟩;simp only[binOp,Op.intCmp,ne_eq,not_true_eq_false,VO,Sem.run_pure];done)
     | (refine⟨_,?_,.aB _ _⟩;simp only[binOp,Op.intArith,Op.intBits,ne_eq,not_true_eq_false,VO,Sem.run_pure];done)
   ·cases hr
 ·rename_i a b
  cases hx;cases hy
  simp only[Sem.run_bind,SN,Result.andThen_ok]
  cases op<;>simp only[Iz,reduceCtorEq,Vk]at hr<;>subst hr
  ·exact⟨_,rfl,.aF _⟩
  ·exact⟨_,rfl,.aF _⟩
 ·cases hr
theorem K8 {P:Program}{G w op a b r}(hr:wL op a b=some r)(t:TypeId)(ox oy:Operand)(hu:P.underlying t=some .bool):
 ∃u,(do eqGuard op t ox oy (.bool a) (.bool b);binOp op t (.bool a) (.bool b):Sem Value).run P w=.ok u w /\ V G w r u:=by
 simp only[Sem.run_bind,SL,Result.andThen_ok];cases op<;>simp only[wL,reduceCtorEq,Vk]at hr<;>subst hr;·exact⟨_,run_eql_bool w t a b hu,.aF _⟩
 ·exact⟨_,run_neq_bool w t a b hu,.aF _⟩
def pf:Option Int -> Int -> Nat -> Bool -> Bool
 | some m,h,_,_=>decide (m=h)
 | none,h,n,cl=>cl && decide (h=(n:Int))
def jz:Option Int -> Nat -> Option Nat -> Option Nat
 | some m,l,_=>some (m.toNat-l)
 | none,l,cap=>cap.map (·-l)
def iR (sz:Nat)(x:AV)(lo hi mx:Option Int):Option AV:=
 let l:=lo.getD 0
 match x with
 | .aB=>if l=0 /\ hi.getD 0=0 /\ mx.getD 0=0 then some .aB else none
 | .aF m sz' off len cap=>
 let h:=hi.getD len
 if sz=sz' /\ 0 <= l /\ l <= h /\ (h <= (len:Int) \/ cap.isSome=true) /\ h <= mx.getD h /\ mx.getD h <= ((cap.getD len:Nat):Int) then
  let c:Option Nat:=jz mx l.toNat cap
  if l=0 then some (.aF m sz off h.toNat c)
  else if l<h then some (.aF m sz (off+l.toNat) (h.toNat-l.toNat) c)
  else some (.aL 0 false sz [])
 else none
 | .aL t clip sz' es=>
 let h:=hi.getD es.length
 if sz=sz' /\ 0 <= l /\ l <= h /\ h <= (es.length:Int) /\ h <= mx.getD h /\ mx.getD h <= (es.length:Int) then
  some (.aL t (pf mx h es.length clip) sz ((es.take h.toNat).drop l.toNat))
 else none
 | _=>none
theorem tb {P:Program}{w:World}(k:IntKind)(i:Int)(y:Nat)(code:BoundsCode)(h0:0 <= i)(h1:i <= (y:Int)):
 (Instr.sliceBound (.int k i) y code).run P w=.ok i.toNat w:=by
 simp[Instr.sliceBound,asIntOf,h0,h1]
theorem uR {P:Program}{w:World}(b:Bool)(len cap:Nat)(lo hi mx:Option Int)(u C t:IntKind)
  (h0:0 <= lo.getD 0) (h1:lo.getD 0 <= hi.getD len) (h2:hi.getD len <= mx.getD cap) (h3:mx.getD cap <= (cap:Int)) (hm:mx.isSome -> hi.isSome):
  (Instr.sliceBounds b len cap (lo.map (.int u)) (hi.map (.int C)) (mx.map (.int t))).run P w =
   .ok ((lo.getD 0).toNat,(hi.getD len).toNat,(mx.getD cap).toNat) w:=by
 unfold Instr.sliceBounds;cases mx with
 | none=>
  cases hi with
  | none=>
   cases lo with
   | none=>simp
   | some l=>simp at h0 h1 h2 h3 ⊢;rw[tb _ _ _ _ h0 (by omega)];simp
  | some h=>
   simp at h0 h1 h2 h3 ⊢;rw[tb _ _ _ _ (by omega) (by omega)];cases lo with
   | none=>simp
   | some l=>simp at h0 h1 ⊢;rw[tb _ _ _ _ h0 (by omega)];simp
 | some m=>
  cases hi with
  | none=>simp at hm
  | some h=>
   simp at h0 h1 h2 h3 ⊢;rw[tb _ _ _ _ (by omega) (by omega)];simp;rw[tb _ _ _ _ (by omega) (by omega)];cases lo with
   | none=>simp
   | some l=>simp at h0 h1 ⊢;rw[tb _ _ _ _ h0 (by omega)];simp
theorem V.aW {G w}(t:Nat)(sz:Nat)(a:Addr)(cap:Nat)(ha:cap≠0 -> a.spot=none)(b:Bool)(hc:b=true -> cap=0):
 V G w (.aL t b sz []) (.slice (some a) 0 cap):=
 V.aD t b sz [] a cap (λ_ _=>undef) (VP _) hc ha (λh=>absurd rfl h) (λe he=>by simp at he) (λi j c h=>by simp[gi]at h) (λi j c h=>by simp[gi]at h)
theorem KS {P:Program}{G w sz x lo hi mx r v}(hx:V G w x v)(hr:iR sz x lo hi mx=some r)(klo khi kmx:IntKind)
  (hm:mx.isSome -> hi.isSome) {t e:TypeId} (hu:P.underlying t=some (.slice e)) (hs:(Go.sizeOf e).run P w=.ok sz w):
  ∃u,(Instr.sliceAt t v (lo.map (.int klo)) (hi.map (.int khi)) (mx.map (.int kmx))).run P w=.ok u w /\ V G w r u:=by
 unfold iR at hr;simp only at hr;split at hr
 ·cases hx;split at hr;·rename_i hh;obtain⟨e0,e1,e2⟩:=hh;cases hr;refine⟨.slice none 0 0,?_,.aO⟩;have:=uR (P:=P) (w:=w) true 0 0 lo hi mx klo khi kmx (by omega) (by simp only[Xj]at *;omega) (by simp only[Xj]at *;omega) (by simp only[Xj]at *;omega) hm;simp[Instr.sliceAt,Instr.slice,run_underlying hu,this,hs,e0,e1,e2]
  ·cases hr
 ·rename_i m sz' off len cap;cases hx with
  | aG _ _ _ hn hb hc=>
   split at hr
   ·rename_i hh;obtain⟨rfl,e0,e1,e2,e3,e4⟩:=hh;have hc0:cap.getD 0=0:=by cases cap with | none=>rfl | some k=>exact hc k rfl
    rw[hc0]at e4;have hb':=uR (P:=P) (w:=w) true 0 0 lo hi mx klo khi kmx e0 e1
     (by cases mx with | none=>simp at e4 ⊢;omega | some m=>simpa using e3) (by cases mx with | none=>simp | some m=>simpa using e4) hm
    have hl0:lo.getD 0=0:=by omega
    have hh0:hi.getD ((0:Nat):Int)=0:=by omega
    have hm0:(mx.getD ((0:Nat):Int)).toNat=0:=by cases mx with | none=>rfl | some m=>simp at e4 ⊢;omega
    rw[Vf hl0]at hr;cases hr;refine⟨.slice none 0 0,by simp only[Xj]at *;simp[Instr.sliceAt,Instr.slice,run_underlying hu,hb',hs,hl0,hh0,hm0],?_⟩;rw[hh0];refine .aG _ _ _ hn hb (λk hk=>?_);cases mx with
    | some m=>simp[jz,hl0]at hk e4;omega
    | none=>cases cap with
     | none=>simp[jz]at hk
     | some q=>have:=hc q rfl;simp[jz]at hk;omega
   ·cases hr
  | aC _ _ _ _ _ c ty mm b hn hb0 hl hcap hsh hmm=>
   split at hr
   ·rename_i hh;obtain⟨rfl,e0,e1,e2,e3,e4⟩:=hh;have hcle:((cap.getD len:Nat):Int) <= (c:Int):=by
     cases cap with
     | none=>simpa using hl
     | some k=>have:=hcap k rfl;simp;omega
    have e5:hi.getD len <= mx.getD c:=by cases mx with | none=>simp at e3 e4 ⊢;omega | some m=>simpa using e3
    have e6:mx.getD c <= (c:Int):=by cases mx with | none=>simp | some m=>simp at e4 ⊢;omega
    have hb:=uR (P:=P) (w:=w) true len c lo hi mx klo khi kmx e0 e1 e5 e6 hm;generalize hL:lo.getD 0=l at *;generalize hH:hi.getD len=h at *;have hmax:(mx.getD c).toNat <= c:=by omega
    have hhm:h.toNat <= (mx.getD c).toNat:=by omega
    have hrun:(Instr.sliceAt t (.slice (some ⟨b,off*sz,none⟩) len c) (lo.map (.int klo)) (hi.map (.int khi)) (mx.map (.int kmx))).run P w =
      .ok (.slice (if (mx.getD c).toNat=l.toNat then some ⟨b,off*sz,none⟩ else some ⟨b,off*sz+l.toNat*sz,none⟩) (h.toNat-l.toNat) ((mx.getD c).toNat-l.toNat)) w:=by
     simp[Instr.sliceAt,Instr.slice,run_underlying hu,hb,hs,oM]
    have hcap':∀k,jz mx l.toNat cap=some k -> (mx.getD c).toNat-l.toNat=k:=by
     intro k hk;cases mx with
     | some m=>simpa [jz] using hk
     | none=>
      cases cap with
      | none=>simp[jz]at hk
      | some q=>have:=hcap q rfl;simp[jz]at hk ⊢;omega
    split at hr;·rename_i hl0;subst hl0;cases hr;refine⟨_,hrun,?_⟩;simp only[W_,Nat.zero_mul,WU,ite_self,Nat.sub_zero]at hcap' ⊢;refine .aC _ _ _ _ _ _ ty mm b hn hb0 hhm hcap' hsh (Vr (Vx _ (by omega)) hmm)
    ·split at hr;·rename_i hl0 hlh;cases hr;refine⟨_,hrun,?_⟩;rw[Ve (by omega),<- WR];refine .aC _ _ _ _ _ _ ty mm b hn hb0 (by omega) hcap' hsh (Vr (Vx _ (by omega)) hmm)
     ·rename_i hl0 hlh;cases hr;refine⟨_,hrun,?_⟩;have:h.toNat-l.toNat=0:=by omega
      rw[this];split<;>exact V.aW _ _ _ _ (λ_=>rfl) false (by simp)
   ·cases hr
 ·rename_i t' cl sz' es;split at hr
  ·rename_i hh;obtain⟨rfl,e0,e1,e2,e3,e4⟩:=hh;generalize hL:lo.getD 0=l at *;generalize hH:hi.getD es.length=h at *;cases hr;cases hx with
   | aE=>
    simp at e2 e4 hH;have hb:=uR (P:=P) (w:=w) true 0 0 lo hi mx klo khi kmx (by omega) (by simp;omega)
     (by cases mx with | none=>simp;omega | some m=>simp at e3 e4 ⊢;omega) (by cases mx with | none=>simp | some m=>simp at e3 e4 ⊢;omega) hm
    refine⟨.slice none 0 0,?_,by simpa using V.aE _ _ _⟩;simp[Instr.sliceAt,Instr.slice,run_underlying hu,hb,hs];cases mx with | none=>simp;omega | some m=>simp at e3 e4 ⊢;omega
   | aD _ _ _ _ a cap f hl hcl hsp hp hes hc hV=>
    have e5:hi.getD es.length <= mx.getD cap:=by rw[hH];cases mx with | none=>simp at e3 ⊢;omega | some m=>simpa using e3
    have e6:mx.getD cap <= (cap:Int):=by cases mx with | none=>simp | some m=>simp at e4 ⊢;omega
    have hb:=uR (P:=P) (w:=w) true es.length cap lo hi mx klo khi kmx (by omega) (by rw[hL,hH];exact e1) e5 e6 hm;rw[hL,hH]at hb;have hhm:h.toNat <= (mx.getD cap).toNat:=by rw[hH]at e5;omega
    have hlen:((es.take h.toNat).drop l.toNat).length=h.toNat-l.toNat:=by simp;omega
    have hclip:pf mx h es.length cl=true -> (mx.getD cap).toNat-l.toNat=h.toNat-l.toNat:=by
     intro hq;cases mx with
     | some m=>simp[pf]at hq;subst hq;rfl
     | none=>simp[pf]at hq ⊢;have:=hcl hq.1;omega
    have hrun:(Instr.sliceAt t (.slice (some a) es.length cap) (lo.map (.int klo)) (hi.map (.int khi)) (mx.map (.int kmx))).run P w =
      .ok (.slice (if (mx.getD cap).toNat=l.toNat then some a else some ⟨a.block,a.off+l.toNat*sz,none⟩) (h.toNat-l.toNat) ((mx.getD cap).toNat-l.toNat)) w:=by
     by_cases hcz:cap=0
     ·have e1:(mx.getD cap).toNat=l.toNat:=by omega
      simp[Instr.sliceAt,Instr.slice,run_underlying hu,hb,hs,e1]
     ·simp[Instr.sliceAt,Instr.slice,run_underlying hu,hb,hs,tW (hsp hcz)]
    refine⟨_,hrun,?_⟩;by_cases hz:(mx.getD cap).toNat=l.toNat
    ·rw[Vf hz];have h0:h.toNat-l.toNat=0:=by omega
     have he:(es.take h.toNat).drop l.toNat=[]:=Vl (by omega);rw[he,h0];exact V.aW _ _ _ _ (λh=>hsp (by omega)) _ (λhq=>by have:=hclip hq;omega)
    ·rw[Ve hz];have hg:∀i j c,gi ((es.take h.toNat).drop l.toNat) i j=some c -> gi es (l.toNat+i) j=some c:=by
      intro i j c hj;simp only[gi,Vz]at hj ⊢;rw[V_]at hj;split at hj;·exact hj
      ·simp at hj
     have:=V.aD (G:=G) (w:=w) t' (pf mx h es.length cl) sz ((es.take h.toNat).drop l.toNat)
      ⟨a.block,a.off+l.toNat*sz,none⟩ ((mx.getD cap).toNat-l.toNat) (λi j=>f (l.toNat+i) j) (by omega) (by rw[hlen];exact hclip) (λ_=>rfl)
      (λ_=>hp (by rintro rfl;simp_all)) (λe he=>hes e (V0 (VM he))) (λi j c hj=>by have:=hc _ _ _ (hg i j c hj);rw[WR]at this;simpa [Ws] using this) (λi j c hj=>hV _ _ _ (hg i j c hj))
     rw[hlen]at this;exact this
  ·cases hr
 ·cases hr
end Glb
/-
 A library of its own,for whatever program: the operations that make or change memory.
-/
namespace Glb
open Go
def mg (P:Program)(s:Sem Value)(G:Gh)(w:World)(r:AV)(h':eZ):Prop:=
 ∃v w' G',s.run P w=.ok v w' /\ fS G' w' h' /\ V G' w' r v /\ gE G w G' w'
theorem mg.aA {P s G w h r v}(g:fS G w h)(hr:s.run P w=.ok v w)(hV:V G w r v):mg P s G w r h:=
 ⟨v,w,G,hr,g,hV,gE.aC G w⟩
theorem VL.aG {G w cs vs}(hv:VL G w cs vs):∀i j c,gi [cs] i j=some c -> ∃v,vs[i*cs.length+j]?=some v /\ V G w c v:=by
 intro i j c hc;cases i with
 | zero=>
 simp[gi]at hc;simpa using hv.aB hc
 | succ i=>simp[gi]at hc
def LD (P:Program)(s:Sem Value)(G:Gh)(w:World)(mkv:Nat -> AV)(sz:Nat)(es:List (List AV))(gr:Bool):Prop:=
 ∃(cells:Array Value)(ty:TypeId)(v:Value),s.run P w=.ok v (w.alloc (.cells cells ty)) /\ iT sz es /\ es.length*sz <= cells.size /\ (gr=false -> cells.size=es.length*sz) /\
 (∀i j c,gi es i j=some c -> ∃v,cells[i*sz+j]?=some v /\ V G w c v) /\
 ∀(G':Gh)(nm:Nat),nm<G'.N -> G'.aA nm=some w.heap.size -> V G' (w.alloc (.cells cells ty)) (mkv nm) v
theorem LD.aA {P s G w mkv sz es gr h}(g:fS G w h)(l:LD P s G w mkv sz es gr):mg P s G w (mkv h.length) (h++[some (.aA sz es gr)]):=by obtain⟨cells,ty,v,h1,h2,h3,h4,h5,h6⟩:=l;exact⟨v,_,G.aB (some w.heap.size),h1,g.a_ h2 h3 h4 h5,h6 _ _ (by rw[g.aA];exact Nat.lt_succ_self _) (by rw[g.aA];simp[Gh.aB]),g.bD _ _⟩
theorem Hv {P:Program}{G w cs v}(hv:VL G w cs v.cells)(b:cs.all AV.aG=true)(t:TypeId):
 LD P (do pure (.pointer (some (<- Go.newVar t v)))) G w (λnm=>.aC nm cs.length 0 0) cs.length [cs] false:=by
 refine⟨v.cells,t,.pointer (some ⟨w.heap.size,0,none⟩),by simp[Go.newVar,newRow],λe he=>by simp at he;subst he;exact⟨rfl,b⟩,by simp[hv.1],λ_=>by simp[hv.1],hv.aG,?_⟩;intro G' nm hn hl;have:=V.aL (G:=G') (w:=w.alloc (.cells v.cells t)) nm cs.length 0 0 w.heap.size hn hl;simpa using this
theorem Hu {P:Program}{G w}{cells:Array Value}{sz:Nat}{es:List (List AV)}{gr:Bool}(t:TypeId)
 (C:iT sz es) (E:es.length*sz <= cells.size) (I:gr=false -> cells.size=es.length*sz)
 (hV:∀i j c,gi es i j=some c -> ∃v,cells[i*sz+j]?=some v /\ V G w c v) (len cap:Nat) (b:Option Nat)
 (hl:len <= cap) (hc:∀k,b=some k -> cap=k) (hm:cap*sz <= cells.size):
 LD P (do pure (.slice (some (<- newRow t cells)) len cap)) G w (λnm=>.aF nm sz 0 len b) sz es gr:=by
 refine⟨cells,t,.slice (some ⟨w.heap.size,0,none⟩) len cap,by simp[newRow],C,E,I,hV,?_⟩;intro G' nm hn u;have:=V.aC (G:=G') (w:=w.alloc (.cells cells t)) nm sz 0 len b cap t cells.size w.heap.size hn u hl hc (by simp only[World.shape?,uw]) (by simpa using hm);simpa using this
def jT (cs:List AV)(o:Nat):List AV -> List AV
 | []=>cs
 | c :: r=>jT (cs.set o c) (o+1) r
def nR:List AV -> List (Nat×Nat×AV) -> Option (List AV)
 | cs,[]=>some cs
 | cs,(o,n,x) :: r=>
 match x.aK with
 | some l=>if l.length=n /\ o+n <= cs.length then nR (jT cs o l) r else none
 | none=>none
theorem VL.aK {G w cs vs c v}(h:VL G w cs vs)(o:Nat)(hV:V G w c v):VL G w (cs.set o c) (vs.setIfInBounds o v):=by
 refine⟨by simp[h.1],λj c' v' hc hv=>?_⟩;by_cases hj:o=j
 ·subst hj;have hlt:o<cs.length:=by have:=(U_.1 hc).1;simpa using this
  rw[Vd hlt]at hc;rw[Array.getElem?_setIfInBounds_self_of_lt (by rw[<- h.1];exact hlt)]at hv;cases hc;cases hv;exact hV
 ·rw[Vb hj]at hc;rw[WH hj]at hv;exact h.2 j c' v' hc hv
theorem VL.aL {G w}:∀{l:List AV}{vl:List Value}{cs:List AV}{vs:Array Value}(o k:Nat),VL G w cs vs ->
  l.length=vl.length -> (∀(j:Nat)(c:AV)(v:Value),l[j]?=some c -> vl[j]?=some v -> V G w c v) ->
  VL G w (jT cs (o+k) l) ((vl.zipIdx k).foldl (λcs (c,j)=>cs.setIfInBounds (o+j) c) vs):=by
 intro l;induction l with
 | nil=>intro vl cs vs o k h hl _;have:vl=[]:=Vl (by simpa using hl.symm);subst this;exact h
 | cons c r ih=>
  intro vl cs vs o k h hl hV;cases vl with
  | nil=>simp at hl
  | cons v vr=>
   simp only[List.zipIdx_cons,W8,Glb.jT];have:=ih (vl:=vr) (cs:=cs.set (o+k) c) (vs:=vs.setIfInBounds (o+k) v) o (k+1) (h.aK _ (hV 0 c v rfl rfl)) (by simpa using hl)
    (λj c' v' hc hv=>hV (j+1) c' v' (by simpa using hc) (by simpa using hv))
   exact this
theorem Ku {G w}(place:Nat -> Option (Nat×Nat)):∀(ps:List (Nat×Value)) (az:List (Nat×Nat×AV)) (cs:List AV) (vs:Array Value) (r:List AV),
  VL G w cs vs -> az.length=ps.length -> (∀(j i:Nat)(v:Value)(o n:Nat)(x:AV),ps[j]?=some (i,v) -> az[j]?=some (o,n,x) -> place i=some (o,n) /\ V G w x v) ->
  nR cs az=some r -> ∃us,Instr.fill place vs ps=some us /\ VL G w r us:=by
 intro ps;induction ps with
 | nil=>intro az cs vs r h hl _ hr;have:az=[]:=Vl (by simpa using hl);subst this;simp only[nR,Vk]at hr;subst hr;exact⟨vs,rfl,h⟩
 | cons p ps ih=>
  intro az cs vs r h hl hp hr;obtain⟨i,v⟩:=p;cases az with
  | nil=>simp at hl
  | cons q az=>
   obtain⟨o,n,x⟩:=q;obtain⟨hpl,hV⟩:=hp 0 i v o n x rfl rfl;simp only[nR]at hr;split at hr
   ·rename_i l hl';split at hr
    ·rename_i hh;have hc:=hV.aS hl';have hsz:v.cells.size=n:=by rw[<- hc.1];exact hh.1
     have hlen:vs.size=cs.length:=h.1.symm;have hset:=VL.aL (l:=l) (vl:=v.cells.toList) o 0 h (by simpa using hc.1) (λj c u a b=>hc.2 j c u a (by simpa using b));simp only[WU]at hset;obtain⟨us,hus,hVL⟩:=ih az (jT cs o l) _ r hset (by simpa using hl) (λj i v o n x a b=>hp (j+1) i v o n x (by simpa using a) (by simpa using b)) hr;refine⟨us,?_,hVL⟩;have hno:¬(v.cells.size≠n \/ o+v.cells.size>vs.size):=by have:=hh.2;rw[hsz,hlen];omega
     simp only[Instr.fill,hpl,WM,V4];rw[Ve hno];rw[<- hus];congr 1;rw[<- Array.foldl_toList];simp
    ·cases hr
   ·cases hr
def nS (h:eZ)(n:Nat)(a x:AV):Option eZ:=
 match a with
 | .aC m sz i o=>
  match h[m]?,x.aK with
  | some (some (.aA sz' es g)),some cs=>if sz=sz' /\ cs.length=n /\ o+n <= sz /\ i<es.length /\ cs.all AV.aG=true then some (h.set m (some (.aA sz (es.modify i (jT · o cs)) g))) else none
  | _,_=>none
 | _=>none
theorem PW (es:List (List AV))(i o:Nat)(c:AV)(r:List AV):
 es.modify i (jT · o (c :: r))=(nC es i o c).modify i (jT · (o+1) r):=by
 simp only[nC,jT];apply VT;intro k;simp only[W6];by_cases h:i=k;·subst h;cases es[i]?<;>simp
 ·simp[h]
theorem PU (es:List (List AV))(i o:Nat):es.modify i (jT · o [])=es:=by have:(λe:List AV=>jT e o [])=id:=rfl;rw[this];apply VT;intro k;simp only[W6];cases es[k]?<;>simp
theorem TD {P:Program}:∀(cs:List AV)(vs:List Value)(k:Nat){G:Gh}{w:World}{h:eZ}{m b sz i o:Nat} {es:List (List AV)} {gr:Bool},
  fS G w h -> h[m]?=some (some (.aA sz es gr)) -> G.aA m=some b -> cs.length=vs.length ->
  (∀(j:Nat)(c:AV)(v:Value),cs[j]?=some c -> vs[j]?=some v -> V G w c v) -> cs.all AV.aG=true -> i<es.length -> o+k+cs.length <= sz ->
  ∃w',(storeCells ⟨b,i*sz+o,none⟩ vs k).run P w=.ok () w' /\ fS G w' (h.set m (some (.aA sz (es.modify i (jT · (o+k) cs)) gr))) /\ gE G w G w':=by
 intro cs;induction cs with
 | nil=>
  intro vs k G w h m b sz i o es gr g hm _ hl _ _ _ _;have:vs=[]:=Vl (by simpa using hl.symm);subst this;refine⟨w,rfl,?_,gE.aC G w⟩;rw[PU];have:h.set m (some (.aA sz es gr))=h:=by
   apply VT;intro j;by_cases hj:m=j;·subst hj;rw[Vd (U_.1 hm).1,hm]
   ·rw[Vb hj]
  rw[this];exact g
 | cons c r ih=>
  intro vs k G w h m b sz i o es gr g hm hb hl hV hs hi ho;cases vs with
  | nil=>simp at hl
  | cons v vr=>
   simp only[List.all_cons,VF]at hs;have hgr:=g.aB m sz es gr b hm hb;have hlen:es[i].length=sz:=(hgr.sz _ (VU hi)).1;have hc0:∃c0,gi es i (o+k)=some c0:=by
    have:o+k<es[i].length:=by simp at ho;omega
    exact⟨es[i][o+k],by simp[gi,hi,this]⟩
   obtain⟨c0,hc0⟩:=hc0;obtain⟨v0,hcell,hfz,_⟩:=hgr.aC hc0;have hV0:=hV 0 c v rfl rfl;have gset:=g.bI hm hb hc0 hV0 hs.1;have hlive:=g.aN hm hb;have st:=g.bO hlive hb (i*sz+(o+k)) v;have hlt:m<h.length:=(U_.1 hm).1;obtain⟨w',hrun,hg',hst⟩:=ih vr (k+1) (m:=m) (b:=b) (sz:=sz) (i:=i) (o:=o) (es:=nC es i (o+k) c) (gr:=gr) gset (Vd hlt) hb (by simpa using hl)
    (λj c' v' a b=>(hV (j+1) c' v' (by simpa using a) (by simpa using b)).aA st.aA) hs.2 (by rw[CJ];exact hi) (by simp at ho;omega)
   refine⟨w',?_,?_,st.aI hst⟩;·simp only[storeCells,Sem.run_bind,oM];rw[run_store P w _ v _ (hV0.aU hs.1)];rw[Ws,hcell];simp only[hfz,VC,VO,Result.andThen_ok];exact hrun
   ·rw[PW];rw[V8]at hg';exact hg'
theorem KU {P:Program}{G w h n a x h' va vx}(g:fS G w h)(ha:V G w a va)(hx:V G w x vx)(hr:nS h n a x=some h')
  {t:TypeId} (hs:(Go.sizeOf t).run P w=.ok n w):
  ∃w',(Instr.storeAt t va vx).run P w=.ok () w' /\ fS G w' h' /\ gE G w G w':=by
 unfold nS at hr;split at hr
 ·rename_i m sz i o;cases ha with
  | aL _ _ _ _ b hn hb=>
  split at hr
  ·rename_i sz' es gr cs hm hcs;split at hr
   ·rename_i hh;obtain⟨rfl,hl,ho,hi,hsc⟩:=hh;cases hr;have hv:=hx.aS hcs;obtain⟨w',hrun,hg,hst⟩:=TD (P:=P) cs vx.cells.toList 0 g hm hb (by simpa using hv.1) (λj c v a b=>hv.2 j c v a (by simpa using b)) hsc hi (o:=o) (by omega);refine⟨w',?_,by simpa using hg,hst⟩;have hno:vx.cells.size=n:=by rw[<- hv.1,hl]
    simp[Instr.storeAt,Instr.sureAddr,storeVar,hs,hno,hrun]
   ·cases hr
  ·cases hr
 ·cases hr
structure tQ (G:Gh)(w:World)(b o sz:Nat)(es:List (List AV)):Prop where
 ok:iT sz es
 ex:∃f:Nat -> Nat -> Value,(∀i j c,gi es i j=some c -> w.cell? ⟨b,o+(i*sz+j),none⟩=some (f i j)) /\ ∀i j c,gi es i j=some c -> V G w c (f i j)
structure jf (G:Gh)(w:World)(sz:Nat)(es:List (List AV))(cells:Array Value):Prop where
 ok:iT sz es
 aA:cells.size=es.length*sz
 aC:∀i j c,gi es i j=some c -> ∃v,cells[i*sz+j]?=some v /\ V G w c v
theorem jf.aB {G w G' w' sz es cells}(k:gU G w G' w')(h:jf G w sz es cells):jf G' w' sz es cells:=
 ⟨h.ok,h.aA,λi j c hc=>let⟨v,hv,hV⟩:=h.aC i j c hc;⟨v,hv,hV.aA k⟩⟩
theorem GY {es:List (List AV)}{sz i j:Nat}(h:iT sz es)(hi:i<es.length)(hj:j<sz):∃c,gi es i j=some c:=by have:=(h _ (VU hi)).1;exact⟨es[i][j]'(by omega),by simp[gi,hi,this,hj]⟩
theorem NY {es:List (List AV)}{sz i j:Nat}{c:AV}(h:iT sz es)(hc:gi es i j=some c):c.aG=true:=by
 simp only[gi]at hc;cases he:es[i]? with
 | none=>simp[he]at hc
 | some e=>
 simp[he]at hc;obtain⟨hi,rfl⟩:=U_.1 he;exact Ww.1 (h _ (VU hi)).2 c (WQ hc)
theorem IH {n sz k:Nat}(h:k<n*sz):k / sz<n /\ k % sz<sz /\ k / sz*sz+k % sz=k:=by have hs:0<sz:=Nat.pos_of_ne_zero (by rintro rfl;simp at h);refine⟨(Nat.div_lt_iff_lt_mul hs).2 h,Nat.mod_lt _ hs,?_⟩;rw[Nat.mul_comm];exact Nat.div_add_mod k sz
theorem jf.aF {G w sz es cells}(h:jf G w sz es cells):∀v∈cells.toList,v.oneCell'=true:=by
 intro v hv;obtain⟨k,hk,rfl⟩:=List.mem_iff_getElem.1 hv;have b:k<es.length*sz:=by rw[<- h.aA];simpa using hk
 obtain⟨h1,h2,h3⟩:=IH b;obtain⟨c,hc⟩:=GY h.ok h1 h2;obtain⟨v,hv,hV⟩:=h.aC _ _ _ hc;rw[h3]at hv;have:cells.toList[k]=v:=by have:=(Wj.1 hv).2;simpa using this
 rw[this];exact hV.aU (NY h.ok hc)
theorem tQ.aA {P:Program}{G w b o sz es}(h:tQ G w b o sz es):
  ∃cells,(loadCells ⟨b,o,none⟩ (es.length*sz)).run P w=.ok cells w /\ jf G w sz es cells:=by
 obtain⟨hs,f,hc,hV⟩:=h;refine⟨((List.range (es.length*sz)).map λk=>f (k / sz) (k % sz)).toArray,run_loadCells (P:=P) (w:=w) ⟨b,o,none⟩ _ _ (λk hk=>?_),hs,by simp,?_⟩;·obtain⟨h1,h2,h3⟩:=IH hk;obtain⟨c,t⟩:=GY hs h1 h2;have:=hc _ _ _ t;rw[h3]at this;rw[oM];exact this
 ·intro i j c t;obtain⟨hi,hj⟩:=nZ hs t;have hk:=pM hi hj;have u:0<sz:=by omega
  have e1:(i*sz+j) / sz=i:=by rw[Nat.mul_comm,Nat.mul_add_div u,Nat.div_eq_of_lt hj,WU]
  have e2:(i*sz+j) % sz=j:=by rw[Nat.mul_comm,Nat.mul_add_mod,Nat.mod_eq_of_lt hj]
  exact⟨f i j,by simp[hk,e1,e2],hV i j c t⟩
theorem NX {es:List (List AV)}{off len i j:Nat}{c:AV} (h:gi ((es.drop off).take len) i j=some c):gi es (off+i) j=some c:=by
 simp only[gi,V_]at h ⊢;split at h;·simpa [Vz] using h
 ·simp at h
theorem Qi {sz:Nat}{es:List (List AV)}(h:iT sz es)(off len:Nat):iT sz ((es.drop off).take len):=
 λe he=>h e (VM (V0 he))
theorem ki.aB {G w b sz es gr}(h:ki G w b sz es gr)(off len:Nat):tQ G w b (off*sz) sz ((es.drop off).take len):=by
 obtain⟨⟨cells,ty,hh,_,_,h3⟩,hs⟩:=h;refine⟨Qi hs off len,λi j=>(cells[(off+i)*sz+j]?).getD undef,λi j c hc=>?_,λi j c hc=>?_⟩ <;>
 ·obtain⟨v,hv,hV⟩:=h3 _ _ _ (NX hc);have e:off*sz+(i*sz+j)=(off+i)*sz+j:=by rw[WR];omega
  simp[World.cell?,hh,e,hv,hV]
def iV (h:eZ)(sz:Nat):AV -> Option (List (List AV))
 | .aB=>some []
 | .aL _ _ sz' es=>if sz=sz' then some es else none
 | .aF m sz' off len _=>
  match h[m]? with
  | some (some (.aA sz'' es _))=>if sz=sz' /\ sz=sz'' /\ off+len <= es.length then some ((es.drop off).take len) else none
  | _=>none
 | _=>none
theorem EI {P:Program}{G w h sz y ys vy}(g:fS G w h)(hy:V G w y vy)(hr:iV h sz y=some ys):
  (Builtin.lenOf vy).run P w=.ok ys.length w /\ iT sz ys /\ ∃cells,(Builtin.firstCells sz ys.length vy).run P w=.ok cells w /\ jf G w sz ys cells:=by
 unfold iV at hr;split at hr;·cases hy;cases hr;exact⟨rfl,λe he=>by simp at he,#[],rfl,λe he=>by simp at he,by simp,λi j c hc=>by simp[gi]at hc⟩
 ·rename_i t cl O es;split at hr
  ·rename_i hh;subst hh;cases hr;cases hy with
   | aE=>exact⟨rfl,λe he=>by simp at he,#[],rfl,λe he=>by simp at he,by simp,λi j c hc=>by simp[gi]at hc⟩
   | aD _ _ _ _ a cap f hl hcl hsp hp M hc hV=>
    obtain⟨cells,C,u⟩:=tQ.aA (P:=P) (G:=G) (w:=w) (b:=a.block) (o:=a.off) (sz:=sz) (es:=ys) ⟨M,f,hc,hV⟩;refine⟨rfl,M,cells,?_,u⟩;by_cases hcz:cap=0
    ·have I:ys.length=0:=by omega
     have:cells=#[]:=by have:=u.aA;rw[I,Nat.zero_mul]at this;exact Wx this
     subst this;rw[I];simp[Builtin.firstCells,loadCells,loadCellsFrom]
    ·have ha:a=⟨a.block,a.off,none⟩:=by have:=hsp hcz;cases a;simp at this;simp[this]
     rw[ha];exact C
  ·cases hr
 ·rename_i m O off len cap;split at hr
  ·rename_i sz'' es gr hm;split at hr
   ·rename_i hh;obtain⟨rfl,rfl,hle⟩:=hh;cases hr;have E:((es.drop off).take len).length=len:=by simp;omega
    cases hy with
    | aG _ _ _ _ hb _=>have:=g.aI m sz es gr hm (g.aK m hb);subst this;exact⟨rfl,λe he=>by simp at he,#[],rfl,λe he=>by simp at he,by simp,λi j c hc=>by simp[gi]at hc⟩
    | aC _ _ _ _ _ c ty mm b hn hb hl hcap hsh hmm=>have u:=(g.aB m sz es gr b hm hb).aB off len;obtain⟨cells,C,U⟩:=u.aA (P:=P);refine⟨by rw[E];rfl,u.ok,cells,?_,U⟩;exact C
   ·cases hr
  ·cases hr
 ·cases hr
theorem OA {w:World}{g:Nat}{c b:Array Value}{t:TypeId}{fr:Nat×Nat} (h:w.heap[g]?=some (.cells b t fr)):
 (w.setRow g c).heap[g]?=some (.cells c t fr):=setRow_heap w g b c t fr h
theorem OB {w:World}{g b:Nat}{c:Array Value}(h:g≠b):(w.setRow g c).heap[b]?=w.heap[b]?:=by simp[World.setRow,WY,h]
end Glb
/-
 A library of its own,for whatever program: append.
-/
namespace Glb
open Go
theorem fS.aV {G w h w'} (g : fS G w h) {n sz es gr b U O} (hn : h[n]? = some (some (.aA sz es gr))) (hb : G.aA n = some b)
    (k : gU G w G w') (u : w.heap.size <= w'.heap.size) (C : ∀ m b', G.aC m -> G.aA m = some b' -> m ≠ n -> w'.heap[b']? = w.heap[b']?)
    (hH : ki G w' b sz U O) : fS G w' (h.set n (some (.aA sz U O))) := by
  have hlt : n < h.length := (U_.1 hn).1
  refine { aA := by simp [g.aA], aC := ?_, aD := ?_, inj := g.inj, aE := g.aE, aF := g.aF, aL := g.aL, aM := g.aM,
           aG := λm b hb => Vy (g.aG m b hb) u, aJ := λb hb => Vy (g.aJ b hb) u, aB := ?_, aI := ?_, aK := g.aK }
  · intro m
    rw [g.aC m]
    by_cases hm : n = m
    · subst hm
      exact ⟨λh => ⟨⟨_, _, _, Vd hlt⟩, h.2⟩, λh => ⟨⟨_, _, _, hn⟩, h.2⟩⟩
    · rw [Vb hm]
  · intro m b hb
    have hm : n ≠ m := by rintro rfl; rw [g.aD _ _ hb] at hn; simp at hn
    rw [Vb hm]; exact g.aD m b hb
  · intro m E M I b' hm t
    by_cases h1 : n = m
    · subst h1
      rw [hb] at t; cases t
      rw [Vd hlt] at hm
      obtain ⟨rfl, rfl, rfl⟩ : sz = E /\ U = M /\ O = I := by simpa using hm
      exact hH
    · rw [Vb h1] at hm
      exact (g.aB m E M I b' hm t).aA k (C m b' (g.aN hm t) t (λe => h1 e.symm))
  · intro m E M I hm t
    by_cases h1 : n = m
    · subst h1; rw [hb] at t; cases t
    · rw [Vb h1] at hm
      exact g.aI m E M I hm t
def gY (es:List (List AV))(p:Nat)(ys:List (List AV)):List (List AV):=es.take p++ys++es.drop (p+ys.length)
theorem GZ {es ys:List (List AV)}{p i j:Nat}{c:AV}(hp:p <= es.length)(h:gi (gY es p ys) i j=some c):
  (i<p /\ gi es i j=some c) \/ (p <= i /\ i<p+ys.length /\ gi ys (i-p) j=some c) \/ (p+ys.length <= i /\ gi es i j=some c):=by
 simp only[gi,gY,Wb,Vj,Vw,WW hp]at h;rcases Wc i p with h1 | h1
 ·left;rw[Vf (by omega),Vf h1,VV h1]at h;exact⟨h1,h⟩
 ·rcases Wc i (p+ys.length) with h2 | h2;·right;left;rw[Vf h2,Ve (by omega)]at h;exact⟨h1,h2,h⟩
  ·right;right;rw[Ve (by omega),Vz]at h;refine⟨h2,?_⟩;rw[show p+ys.length+(i-(p+ys.length))=i by omega]at h;exact h
theorem HE {sz:Nat}{es ys:List (List AV)}(h:iT sz es)(h':iT sz ys)(p:Nat):iT sz (gY es p ys):=by
 intro e he;simp only[gY,V7]at he;rcases he with (he | he) | he;·exact h e (V0 he)
 ·exact h' e he
 ·exact h e (VM he)
theorem IY {P:Program}{G w h}(g:fS G w h){n sz es gr b p ys vs cur ty} (hn:h[n]?=some (some (.aA sz es gr))) (hb:G.aA n=some b)
  (hcur:w.heap[b]?=some (.cells cur ty (0,0))) (hrow:jf G w sz ys vs) (hp:p <= es.length) (hfit:(p+ys.length)*sz <= cur.size):
  ∃w',(storeCells ⟨b,p*sz,none⟩ vs.toList).run P w=.ok () w' /\ gE G w G w' /\ (∀b',b'≠b -> w'.heap[b']?=w.heap[b']?) /\
   (∀r,w'.shape? r=w.shape? r) /\ ∀gr',(gr'=false -> cur.size=(gY es p ys).length*sz) -> ki G w' b sz (gY es p ys) gr':=by
 have hl:=g.aN hn hb;obtain⟨⟨cells,ty',hh,h1,h2,h3⟩,hs⟩:=g.aB n sz es gr b hn hb;rw[hcur]at hh;obtain⟨rfl,rfl⟩:cur=cells /\ ty=ty':=by simpa using hh
 have hvl:vs.toList.length=ys.length*sz:=by simpa using hrow.aA
 have hmul:(p+ys.length)*sz=p*sz+ys.length*sz:=WR _ _ _;have hrun:=run_storeCells_at P b (p*sz) ty vs.toList 0 cur w hcur (by rw[hvl];omega) hrow.aF;simp only[WU]at hrun;generalize hnew:(cur.toList.take (p*sz)++vs.toList++cur.toList.drop (p*sz+vs.toList.length)).toArray=new at hrun;have hsize:new.size=cur.size:=by rw[<- hnew];simp only[List.size_toArray,Vj,Vw,VA,Array.length_toList]at *;omega
 have hheap:=OA (c:=new) hcur;have hother:∀b',b'≠b -> (w.setRow b new).heap[b']?=w.heap[b']?:=λb' hb'=>OB (λe=>hb' e.symm);have hshape:∀r,(w.setRow b new).shape? r=w.shape? r:=by
  intro r;by_cases hr:r=b;·subst hr;simp only[World.shape?,hheap,hcur,hsize]
  ·simp only[World.shape?,hother r hr]
 have hrest:jB w (w.setRow b new):=⟨rfl,rfl,by simp[World.setRow],λx _=>by
  by_cases hr:x.block=b
  ·simp only[World.frozen?,hr,hheap,hcur]
  ·simp only[World.frozen?,hother _ hr]⟩
 have k:gU G w G (w.setRow b new):=by
  refine⟨Vg _,λ_ _ _ h=>h,λ_ _ h=>h,λ_ _ h=>h,λt b' hp=>hother b' ?_,λb _=>hshape b⟩;rintro rfl;cases t with
  | zero=>exact g.aF n _ hl hb hp
  | succ m=>exact g.aE n m _ hl hb hp
 refine⟨_,hrun,⟨k,⟨λ_ h=>h,λ_ h=>.inl h⟩,λ_ _=>rfl,λ_ _=>Wu,by simp[World.setRow],λb' _ hb'=>hother b' (by rintro rfl;exact hb' (.inl ⟨n,hl,hb⟩)),λb hb=>.inl hb,hrest⟩,hother,hshape,λgr' hgr'=>?_⟩;refine⟨⟨new,ty,hheap,?_,by rw[hsize];exact hgr',?_⟩,HE hs hrow.ok p⟩
 ·rw[hsize];simp only[gY,Vj,Vw,VA,WW hp];rcases Nat.le_total (p+ys.length) es.length with hc | hc;·rw[show p+ys.length+(es.length-(p+ys.length))=es.length by omega];exact h1
  ·rw[show p+ys.length+(es.length-(p+ys.length))=p+ys.length by omega];exact hfit
 ·intro i j c hc;have hcell:∀k,new[k]?=if k<p*sz then cur[k]? else if k<p*sz+ys.length*sz then vs[k-p*sz]? else cur[k]?:=by
   intro k;rw[<- hnew];simp only[VW,Wb,Vj,Vw,Array.length_toList,hrow.aA];have e1:min (p*sz) cur.size=p*sz:=by omega
   rw[e1];rcases Wc k (p*sz) with a | a;·rw[Vf (by omega),Vf a,Vf a,VV a];simp
   ·rcases Wc k (p*sz+ys.length*sz) with c | c;·rw[Vf c,Ve (by omega),Ve (by omega),Vf c];simp
    ·rw[Ve (by omega),Ve (by omega),Ve (by omega),Vz];rw[show p*sz+ys.length*sz+(k-(p*sz+ys.length*sz))=k by omega];simp
  rcases GZ hp hc with⟨a,hc'⟩ | ⟨a,b',hc'⟩ | ⟨a,hc'⟩;·obtain⟨v,hv,hV⟩:=h3 i j c hc';have hj:=(nZ hs hc').2;refine⟨v,?_,hV.aA k⟩;rw[hcell,Vf (pM a hj)];exact hv
  ·obtain⟨v,hv,hV⟩:=hrow.aC _ _ _ hc';have hj:=(nZ hrow.ok hc').2;have e:i*sz+j=p*sz+((i-p)*sz+j):=by rw[show i*sz=(p+(i-p))*sz by rw[Nat.add_sub_cancel' a],WR,Ws]
   have hlt:=pM (n:=ys.length) (i:=i-p) (by omega) hj;refine⟨v,?_,hV.aA k⟩;rw[hcell,Ve (by omega),Vf (by omega),show i*sz+j-p*sz=(i-p)*sz+j by omega];exact hv
  ·obtain⟨v,hv,hV⟩:=h3 i j c hc';have hj:=(nZ hs hc').2;have:p*sz+ys.length*sz <= i*sz:=by rw[<- WR];exact Vx _ a
   refine⟨v,?_,hV.aA k⟩;rw[hcell,Ve (by omega),Ve (by omega)];exact hv
theorem Ow (b:Nat):∀(r c:Nat),256 <= c -> c<2*b -> Builtin.growBy b r c <= 2*b:=by
 intro r;induction r with
 | zero=>intro c _ h;simp only[Builtin.growBy];omega
 | succ r ih=>
  intro c h1 h2;simp only[Builtin.growBy];split;·omega
  ·rename_i h3;by_cases h4:c+(c+768) / 4<2*b;·exact ih _ (by omega) h4
   ·have:c+(c+768) / 4 <= 2*b:=by omega
    have:c+(c+768) / 4=2*b:=by omega
    rw[this];cases r with
    | zero=>simp[Builtin.growBy]
    | succ r=>simp only[Builtin.growBy];rw[Vf (by omega)];omega
theorem Hx {need cap:Nat}(h:cap<need):Builtin.nextslicecap need cap <= 2*need:=by
 unfold Builtin.nextslicecap;split;·omega
 ·split;·omega
  ·exact Ow need 4 cap (by omega) (by omega)
structure u0 (P:Program)(sT xT elem:TypeId)(cs bs:Nat)(inf:TypeInfo)(zv:Value):Prop where
 s:P.underlying sT=some (.slice elem)
 x:∃e,P.underlying xT=some (.slice e)
 aA:P.info? elem=some inf
 sz:inf.size=cs
 aB:inf.bytes=bs
 aD:inf.zero=some zv
 aC:0<bs
 aE:zv.cells.size=cs
theorem SK {P:Program}{sT xT elem sz bytes info zero}(T:u0 P sT xT elem sz bytes info zero)(ty:TypeId)(w:World)
 {base:Option Addr} {len cap k:Nat} {x:Value} {cells:Array Value} (b:(Builtin.lenOf x).run P w=.ok k w)
 (hf:(Builtin.firstCells sz k x).run P w=.ok cells w) (hr:len+k <= cap):
 (Builtin.append_ #[sT,xT] ty #[.slice base len cap,x]).run P w =
  match base with
  | some a=>((storeCells (a.add (len*sz)) cells.toList).run P w).andThen λ_ w'=>.ok (.slice base (len+k) cap) w'
  | none=>.ok (.slice base (len+k) cap) w:=by
 obtain⟨d,hd⟩:=T.x;cases base with
 | none=>
 simp only[Builtin.append_,Sem.run_bind,Sem.run_pure,Result.andThen_ok,run_underlying T.s,run_underlying hd,Go.sizeOf,run_typeInfo w T.aA,T.sz,VW,VB,
   VZ,VC,VO,b,Sem.run_ite,Vf hr,Vt,V3,hf]
 | some a=>
 simp only[Builtin.append_,Sem.run_bind,Sem.run_pure,Result.andThen_ok,run_underlying T.s,run_underlying hd,Go.sizeOf,run_typeInfo w T.aA,T.sz,VW,VB,
   VZ,VC,VO,b,Sem.run_ite,Vf hr,Vt,V3,hf]
theorem SJ {P:Program}{sT xT elem sz bytes info zero}(T:u0 P sT xT elem sz bytes info zero)(ty:TypeId)(w:World)
  {s x:Value} {base:Option Addr} {len cap k:Nat} {old cells:Array Value} (hs:s=.slice base len cap) (u:(Builtin.lenOf x).run P w=.ok k w)
  (e1:(Builtin.firstCells sz len s).run P w.drew=.ok old w.drew) (e2:(Builtin.firstCells sz k x).run P w.drew=.ok cells w.drew)
  (hr:¬len+k <= cap) (hb:(len+k)*bytes <= 2^46):
  ∃b rest,len+k <= b /\ rest.size=(b-(len+k))*sz /\ (Builtin.append_ #[sT,xT] ty #[s,x]).run P w =
   .ok (.slice (some ⟨w.heap.size,0,none⟩) (len+k) b) (w.drew.alloc (.cells (old++cells++rest) elem)):=by
 subst hs;obtain⟨d,hd⟩:=T.x;have hcap:Builtin.nextslicecap (len+k) cap*bytes <= 2^48:=by have h1:=Hx (need:=len+k) (cap:=cap) (by omega);have h2:=Vx bytes h1;rw[Nat.mul_assoc]at h2;omega
 have hq:(Question.appendCap (len+k) cap elem).forced=false:=rfl;refine⟨(Question.appendCap (len+k) cap elem).cut (w.tape w.drawn (.appendCap (len+k) cap elem)),
  Builtin.zeroCells zero.cells ((Question.appendCap (len+k) cap elem).cut (w.tape w.drawn (.appendCap (len+k) cap elem))-(len+k)),?_,?_,?_⟩
 ·simp only[Question.cut];omega
 ·simp[Builtin.zeroCells,T.aE]
 ·have C:¬bytes=0:=Nat.ne_of_gt T.aC;have t:¬(2^48<Builtin.nextslicecap (len+k) cap*bytes):=by omega
  have I:{w with drawn:=w.drawn+1}=w.drew:=rfl;have hn1:¬(((len+k:Nat):Int)>IntKind.i64.max /\ (false=true \/ bytes=0)):=by
   rintro⟨_,h | h⟩;·cases h
   ·exact C h
  have E:¬(Builtin.nextslicecap (len+k) cap*bytes>2^48):=t;simp only[Builtin.append_,Sem.run_bind,Sem.run_pure,Result.andThen_ok,run_underlying T.s,run_underlying hd,Go.sizeOf,run_typeInfo _ T.aA,T.sz,VW,VB,
     VZ,VC,VO,u,Sem.run_ite,Ve hr,T.aB,E,false_or,C,and_false,run_choose,hq,I,run_askRoom,e1,e2,Vt,V3,
     zeroValue,T.aD,newRow,run_newObj]
  rfl
def gR (h:eZ)(sz:Nat)(es:List (List AV)):AV×eZ:=(.aF h.length sz 0 es.length none,h++[some (.aA sz es true)])
def iL (h:eZ)(sz bytes:Nat)(x:AV)(ys:List (List AV)):Option (AV×eZ):=
 match x with
 | .aB=>if ys.length*bytes <= 2^46 then some (gR h sz ys) else none
 | .aF n sz' off len cap=>
  match h[n]? with
  | some (some (.aA sz'' es g))=>
   if sz=sz' /\ sz=sz'' /\ off+len <= es.length /\ (len+ys.length)*bytes <= 2^46 then
    match cap with
    | some (c+1)=>
     if c+1<len+ys.length then some (gR h sz ((es.drop off).take len++ys))
     else if off+len+ys.length <= es.length then some (.aF n sz off (len+ys.length) (some (c+1)),h.set n (some (.aA sz (gY es (off+len) ys) g)))
     else none
    | some 0=>if len=0 then (if ys.length=0 then some (x,h) else some (gR h sz ys)) else none
    | none=>if off=0 then some (gR (h.set n none) sz (es.take len++ys)) else none
   else none
  | _=>none
 | .aL _ clip sz' es=>
  if sz=sz' /\ (es.length+ys.length)*bytes <= 2^46 then
   if ys.length=0 then some (x,h) else if clip=true then some (gR h sz (es++ys)) else none
  else none
 | _=>none
def mF (h:eZ)(sz bytes:Nat)(x y:AV):Option (AV×eZ):=
 match iV h sz y with
 | none=>none
 | some ys=>iL h sz bytes x ys
theorem jf.aE {G w sz es ys c1 c2}(h1:jf G w sz es c1)(h2:jf G w sz ys c2):jf G w sz (es++ys) (c1++c2):=by
 refine⟨λe he=>?_,by simp[h1.aA,h2.aA,WR],λi j c hc=>?_⟩
 ·rcases V7.1 he with h | h;·exact h1.ok e h
  ·exact h2.ok e h
 ·simp only[gi,Wb]at hc;split at hc;·rename_i hi;have b:gi es i j=some c:=hc;obtain⟨v,hv,hV⟩:=h1.aC i j c b;have:=pM hi (nZ h1.ok b).2;exact⟨v,by rw[WX,Vf (by rw[h1.aA];exact this)];exact hv,hV⟩
  ·rename_i hi;have b:gi ys (i-es.length) j=some c:=hc;obtain⟨v,hv,hV⟩:=h2.aC _ j c b;have e:i*sz+j=es.length*sz+((i-es.length)*sz+j):=by rw[show i*sz=(es.length+(i-es.length))*sz by rw[Nat.add_sub_cancel' (by omega)],WR,Ws]
   refine⟨v,?_,hV⟩;rw[WX,Ve (by rw[h1.aA];omega),h1.aA,show i*sz+j-es.length*sz=(i-es.length)*sz+j by omega];exact hv
theorem Cz {P:Program}{G w h}(g:fS G w h){sz es cells rest}(t:jf G w sz es cells)(u:TypeId){b:Nat}(M:es.length <= b)(E:rest.size=(b-es.length)*sz)
  {s:Sem Value} (I:s.run P w=.ok (.slice (some ⟨w.heap.size,0,none⟩) es.length b) (w.drew.alloc (.cells (cells++rest) u))):
  mg P s G w (gR h sz es).1 (gR h sz es).2:=by
 have gd:fS G w.drew h:=g.aT rfl;have st:gE G w G w.drew:=gE.aK G w _;have C:(cells++rest).size=b*sz:=by rw[Array.size_append,t.aA,E,<- WR,Nat.add_sub_cancel' M]
 have k:=gd.aX (.cells (cells++rest) u);refine⟨_,_,G.aB (some w.heap.size),I,?_,?_,st.aI (gd.bD _ _)⟩;·refine gd.a_ t.ok (by rw[C];exact Vx _ M) (by simp) (λi j c hc=>?_);obtain⟨v,hv,hV⟩:=t.aC i j c hc;have:=nZ t.ok hc;have hlt:=pM this.1 this.2;exact⟨v,by rw[WX,Vf (by rw[t.aA];exact hlt)];exact hv,hV.aA st.aA⟩
 ·have:=V.aC (G:=G.aB (some w.heap.size)) (w:=w.drew.alloc (.cells (cells++rest) u)) h.length sz 0 es.length none b u (b*sz) w.heap.size
   (by rw[g.aA];exact Nat.lt_succ_self _) (by rw[g.aA];simp[Gh.aB]) M (by simp) (by rw[<- C];simp only[World.shape?];rw[show w.heap.size=w.drew.heap.size from rfl,uw]) (by simp)
  simpa [gR] using this
theorem jf.aD (G w sz):jf G w sz [] #[]:=⟨λe he=>by simp at he,by simp,λi j c hc=>by simp[gi]at hc⟩
theorem Hy {G w h}(g:fS G w h)(sz:Nat)(gr:Bool)(cap:Option Nat)(hc:∀k,cap=some k -> k=0):
  fS (G.aB none) w (h++[some (.aA sz [] gr)]) /\ V (G.aB none) w (.aF h.length sz 0 0 cap) (.slice none 0 0) /\ gE G w (G.aB none) w:=by
 have k:=g.bz none;refine⟨g.aW k (Vg _) (λ_ _ _ _=>rfl) (by simp) (by simp) (λ_=>rfl),?_,⟨k,⟨λ_ h=>h,λ_ h=>.inl h⟩,λn hn=>by simp only[Gh.aB,WV hn,VO],λn hn=>by simp only[Gh.aB,WV hn,VO],Vg _,λ_ _ _=>rfl,λb hb=>?_,jB.aA w⟩⟩;·rw[g.aA];exact .aG _ _ _ (Nat.lt_succ_self _) (by simp[Gh.aB]) hc
 ·rcases hb with⟨n,hn,he⟩ | ⟨n,hn⟩
  ·by_cases h:n=G.N
   ·simp[Gh.aB,h]at he
   ·simp only[Gh.aB,h,VO]at he;exact .inl (.inl ⟨n,hn.resolve_right (λx=>h x.1),he⟩)
  ·exact .inl (.inr ⟨n,hn⟩)
theorem Rp {G w h}(g:fS G w h){n sz es gr b} (hn:h[n]?=some (some (.aA sz es gr))) (hb:G.aA n=some b) (u:Bool) (C:u=false -> gr=false):
  fS ((G.aG n).aB (some b)) w (h.set n none++[some (.aA sz es u)]) /\ gE G w ((G.aG n).aB (some b)) w:=by
 have gk:=g.aR hn;have k:=gk.bz (some b);have hl:=g.aN hn hb;have hH:=g.aB n sz es gr b hn hb;refine⟨gk.aW k (Vg _) (λ_ _ _ _=>rfl) ?_ ?_ (by simp),⟨(G.aO w n).aF k,⟨λ_ h=>h,λ_ h=>.inl h⟩,λm hm=>by simp only[Gh.aB,Gh.aG,WV hm,VO],λm hm=>by simp only[Gh.aB,Gh.aG,WV hm,VO],Vg _,λ_ _ _=>rfl,λx hx=>?_,jB.aA w⟩⟩;·rintro b' ⟨⟩;exact⟨λm hm he=>hm.2 (g.inj m n _ hm.1 hl he hb),λm ht=>g.aE n m _ hl hb ht,g.aF n _ hl hb⟩
 ·rintro b' ⟨⟩;have:=(hH.aA (G.aO w n) rfl).aA k rfl;exact⟨this.ex.elim λc hc=>hc.elim λt ht=>⟨c,t,ht.1,ht.2.1,λe=>ht.2.2.1 (C e),ht.2.2.2⟩,this.sz⟩
 ·rcases hx with⟨m,hm,he⟩ | ⟨m,hm⟩
  ·by_cases h:m=(G.aG n).N
   ·simp[Gh.aB,h]at he;subst he;exact .inl (.inl ⟨n,hl,hb⟩)
   ·simp only[Gh.aB,h,VO]at he;exact .inl (.inl ⟨m,(hm.resolve_right (λx=>h x.1)).1,he⟩)
  ·exact .inl (.inr ⟨m,hm⟩)
theorem gU.aG {G w w'}(h:w'.heap=w.heap):gU G w G w':=
 ⟨Vg _,λ_ _ _ h=>h,λ_ _ h=>h,λ_ _ h=>h,λ_ _ _=>by rw[h],λ_ _=>by simp only[World.shape?,h]⟩
theorem ki.aE {G w b sz es gr}(hh:ki G w b sz es gr)(u:List (List AV))(hp:u<+:es):ki G w b sz u true:=by
 obtain⟨⟨cells,ty,h1,h2,h3,h4⟩,hs⟩:=hh;obtain⟨t,rfl⟩:=hp;refine⟨⟨cells,ty,h1,?_,by simp,λi j c hc=>h4 i j c ?_⟩,λe he=>hs e (List.mem_append_left _ he)⟩;·refine Vr (Vx _ ?_) h2;simp
 ·unfold gi at hc ⊢;cases hq:u[i]? with
  | none=>rw[hq]at hc;cases hc
  | some e=>rw[VK (U_.1 hq).1,hq];rw[hq]at hc;exact hc
theorem EE {P:Program}{G w h sz bytes x r h' vx}(g:fS G w h)(hx:V G w x vx){ys:List (List AV)}{cells cellsG:Array Value}(hrow:jf G w sz ys cells)(hrowG:jf G w sz ys cellsG)
  (hr:iL h sz bytes x ys=some (r,h')) (elem:TypeId) {S:Value -> Sem Value}
  (room:∀{base:Option Addr}{len cap:Nat},len+ys.length <= cap -> (S (.slice base len cap)).run P w =
   match base with
   | some a=>((storeCells (a.add (len*sz)) cells.toList).run P w).andThen λ_ w'=>.ok (.slice base (len+ys.length) cap) w'
   | none=>.ok (.slice base (len+ys.length) cap) w)
  (growr:∀{s:Value}{base:Option Addr}{len cap:Nat}{old:Array Value},s=.slice base len cap -> (Builtin.firstCells sz len s).run P w.drew=.ok old w.drew ->
   ¬len+ys.length <= cap -> (len+ys.length)*bytes <= 2^46 ->
   ∃newCap rest,len+ys.length <= newCap /\ rest.size=(newCap-(len+ys.length))*sz /\ (S s).run P w =
    .ok (.slice (some ⟨w.heap.size,0,none⟩) (len+ys.length) newCap) (w.drew.alloc (.cells (old++cellsG++rest) elem))):
  mg P (S vx) G w r h':=by
 unfold iL at hr;have kd:gU G w G w.drew:=gU.aG rfl;have gd:fS G w.drew h:=g.aT rfl;have grow:∀{base:Option Addr}{len cap:Nat} {es:List (List AV)} {old:Array Value},vx=.slice base len cap -> es.length=len ->
   (Builtin.firstCells sz len vx).run P w.drew=.ok old w.drew -> jf G w sz es old -> ¬len+ys.length <= cap -> (len+ys.length)*bytes <= 2^46 ->
   mg P (S vx) G w (gR h sz (es++ys)).1 (gR h sz (es++ys)).2:=by
  intro base len cap es old hv hl ho hro hno hb;obtain⟨nc,rest,h1,h2,h3⟩:=growr hv ho hno hb;have hlen':(es++ys).length=len+ys.length:=by simp[hl]
  refine Cz g (hro.aE hrowG) elem (by rw[hlen'];exact h1) (by rw[hlen'];exact h2) ?_;rw[h3,hlen']
 split at hr
 · -- nil
  cases hx;split at hr
  ·rename_i hb;cases hr;by_cases h0:ys.length=0;·have hys0:ys=[]:=Vl h0;subst hys0;obtain⟨a,b,c⟩:=Hy g sz true none (by simp);refine⟨.slice none 0 0,w,G.aB none,?_,a,b,c⟩;rw[room (by simp)];rfl
   ·have:=grow (base:=none) (len:=0) (cap:=0) (es:=[]) (old:=#[]) rfl rfl rfl (jf.aD _ _ _) (by omega) (by simpa using hb);simpa [gR] using this
  ·cases hr
 ·rename_i n sz' off len cap;split at hr
  ·rename_i sz'' es gr hn;split at hr
   ·rename_i hh;obtain⟨rfl,rfl,hle,hb⟩:=hh;cases hx with
    | aG _ _ _ hnN hnl hcap=>
     have hes0:=g.aI n _ _ _ hn (g.aK n hnl);subst hes0;split at hr;·rename_i c;exact absurd (hcap _ rfl) (by omega)
     ·rw[Vf rfl]at hr;split at hr;·rename_i h0;cases hr;have hys0:ys=[]:=Vl h0;subst hys0;exact mg.aA g (by rw[room (by simp)];rfl) (.aG _ _ _ hnN hnl hcap)
      ·rename_i h0;cases hr;have:=grow (base:=none) (len:=0) (cap:=0) (es:=[]) (old:=#[]) rfl rfl rfl (jf.aD _ _ _) (by omega) (by simpa using hb);simpa [gR] using this
     ·rw[Vf rfl]at hr;cases hr;have gk:=g.aR hn;have stk:=G.aQ w n;by_cases h0:ys.length=0;·have hys0:ys=[]:=Vl h0;subst hys0;obtain⟨a,b,c⟩:=Hy gk sz true none (by simp);refine⟨.slice none 0 0,w,_,?_,a,b,stk.aI c⟩;rw[room (by simp)];rfl
      ·obtain⟨nc,rest,h1,h2,h3⟩:=growr (s:=.slice none 0 0) (old:=#[]) rfl rfl (by omega) (by simpa using hb);simp only[WT]at h1 h2 h3;obtain⟨v,w',G',a,b,c,d⟩:=Cz (P:=P) gk (hrowG.aB stk.aA) elem h1 h2 (by rw[h3];simp);exact⟨v,w',G',a,by simpa [gR] using b,by simpa [gR] using c,stk.aI d⟩
    | aC _ _ _ _ _ c tyb m b hnN hnb hl hcap hsh hm=>
     obtain⟨cur,tyc,hcur,hcl,hcg,_⟩:=(g.aB n sz es gr b hn hnb).ex;have hmcur:m=cur.size:=by simp[World.shape?,hcur]at hsh;exact hsh.2.symm
     have hmid:((es.drop off).take len).length=len:=by simp;omega
     have hlive:=g.aN hn hnb;have place:len+ys.length <= c -> off+len <= es.length ->
       ∃w',(S (.slice (some ⟨b,off*sz,none⟩) len c)).run P w=.ok (.slice (some ⟨b,off*sz,none⟩) (len+ys.length) c) w' /\ gE G w G w' /\
        (∀b',b'≠b -> w'.heap[b']?=w.heap[b']?) /\ (∀r,w'.shape? r=w.shape? r) /\
        ∀gr',(gr'=false -> cur.size=(gY es (off+len) ys).length*sz) -> ki G w' b sz (gY es (off+len) ys) gr':=by
      intro hroom hp;have hfit:(off+len+ys.length)*sz <= cur.size:=by refine Vr (Vx sz ?_) (hmcur▸hm);omega
      obtain⟨w',hst,stp,hoth,hshp,hH⟩:=IY (P:=P) g hn hnb hcur hrow hp hfit;refine⟨w',?_,stp,hoth,hshp,hH⟩;rw[room hroom];simp only[oM,<- WR,hst,Result.andThen_ok]
     have growing:¬len+ys.length <= c -> mg P (S (.slice (some ⟨b,off*sz,none⟩) len c)) G w (gR h sz ((es.drop off).take len++ys)).1 (gR h sz ((es.drop off).take len++ys)).2:=by intro hno;obtain⟨old,hrun,hro⟩:=(((g.aB n sz es gr b hn hnb).aA kd rfl).aB off len).aA (P:=P);rw[hmid]at hrun;exact grow (base:=some ⟨b,off*sz,none⟩) (len:=len) (cap:=c) rfl hmid hrun (hro.aB (gU.aG (G:=G) (w:=w.drew) (w':=w) rfl)) hno hb
     split at hr
     ·rename_i c';have hc:=hcap _ rfl;subst hc;split at hr;·rename_i hgrow;cases hr;exact growing (by omega)
      ·split at hr
       ·rename_i hng hin;cases hr;obtain⟨w',hrun,stp,hoth,hshp,hH⟩:=place (by omega) (by omega);have hspl:(gY es (off+len) ys).length=es.length:=by simp[gY];omega
        refine⟨_,w',G,hrun,?_,?_,stp⟩;·exact g.aV hn hnb stp.aA stp.aB (λm b' hm hb' hne=>hoth b' (by rintro rfl;exact hne (g.inj m n _ hm hlive hb' hnb))) (hH gr (λe=>by rw[hspl];exact hcg e))
        ·exact .aC _ _ _ _ _ _ tyb m b hnN hnb (by omega) (by simp) (by rw[hshp];exact hsh) hm
       ·cases hr
     ·have hc:=hcap _ rfl;subst hc;split at hr
      ·rename_i hl0;subst hl0;split at hr
       ·rename_i h0;cases hr;have hcells:cells=#[]:=by have:=hrow.aA;rw[h0,Nat.zero_mul]at this;exact Wx this
        subst hcells;refine mg.aA g ?_ (.aC _ _ _ _ _ _ tyb m b hnN hnb hl hcap hsh hm);rw[room (by omega)];simp[h0,storeCells]
       ·rename_i h0;cases hr;have:=growing (by omega);simpa [gR] using this
      ·cases hr
     ·split at hr
      ·rename_i hwhole;subst hwhole;cases hr;have hlel:len <= es.length:=by omega
       have htl:(es.take len).length=len:=by simp;omega
       by_cases hroom:len+ys.length <= c
       ·obtain⟨w',hrun,stp,hoth,hshp,hH⟩:=place hroom (by omega);have hH':=(hH true (by simp)).aE (es.take len++ys) (by simp[gY]);have gu:=g.aV hn hnb stp.aA stp.aB (λm b' hm hb' hne=>hoth b' (by rintro rfl;exact hne (g.inj m n _ hm hlive hb' hnb))) hH';have hlt:n<h.length:=(U_.1 hn).1;obtain⟨a,st2⟩:=Rp gu (Vd hlt) hnb true (by simp);rw[V8]at a;refine⟨_,w',_,hrun,a,?_,stp.aI st2⟩;have:=V.aC (G:=(G.aG n).aB (some b)) (w:=w') (h.set n none).length sz 0 (es.take len++ys).length none c tyb m b
         (by simp[g.aA,Gh.aB,Gh.aG]) (by simp[g.aA,Gh.aB,Gh.aG]) (by rw[Vj,htl];exact hroom) (by simp) (by rw[hshp];exact hsh) (by simpa using hm)
        simpa [gR,WW hlel] using this
       ·have gk:=g.aR hn;have stk:=G.aQ w n;obtain⟨old,hrun,hro⟩:=(((g.aB n sz es gr b hn hnb).aA kd rfl).aB 0 len).aA (P:=P);have hmid':(es.drop 0).take len=es.take len:=by simp
        rw[hmid',htl]at hrun;rw[hmid']at hro;obtain⟨nc,rest,h1,h2,h3⟩:=growr (s:=.slice (some ⟨b,0*sz,none⟩) len c) (old:=old) rfl hrun hroom hb;have hlen':(es.take len++ys).length=len+ys.length:=by rw[Vj,htl]
        have hro':jf G w sz (es.take len) old:=hro.aB (gU.aG (G:=G) (w:=w.drew) (w':=w) rfl);obtain⟨v,w',G',a,b',c',d⟩:=Cz (P:=P) gk ((hro'.aE hrowG).aB stk.aA) elem (by rw[hlen'];exact h1) (by rw[hlen'];exact h2) (by rw[h3,hlen']);exact⟨v,w',G',a,b',c',stk.aI d⟩
      ·cases hr
   ·cases hr
  ·cases hr
 ·rename_i t clip sz' es;split at hr
  ·rename_i hh;obtain⟨rfl,hb⟩:=hh;split at hr
   ·rename_i h0;cases hr;refine mg.aA g ?_ hx;cases hx with
    | aE=>rw[room (by omega)];simp[h0]
    | aD _ _ _ _ a cap f hl hcl hsp hp hes hc hV=>
     rw[room (by omega)];have:cells=#[]:=by have:=hrow.aA;rw[h0,Nat.zero_mul]at this;exact Wx this
     subst this;simp[h0,storeCells]
   ·rename_i h0;split at hr
    ·rename_i hclip;cases hr;cases hx with
     | aE=>have:=grow (base:=none) (len:=0) (cap:=0) (es:=[]) (old:=#[]) rfl rfl rfl (jf.aD _ _ _) (by omega) (by simpa using hb);simpa [gR] using this
     | aD _ _ _ _ a cap f hl hcl hsp hp hes hc hV=>
      have hcap:=hcl hclip;obtain⟨old,hrun,hro⟩:=tQ.aA (P:=P) (G:=G) (w:=w.drew) (b:=a.block) (o:=a.off) (sz:=sz) (es:=es) ⟨hes,f,hc,λi j c hc=>(hV i j c hc).aA kd⟩;have hfc:(Builtin.firstCells sz es.length (.slice (some a) es.length cap)).run P w.drew=.ok old w.drew:=by
       by_cases hcz:cap=0
       ·have hl0:es.length=0:=by omega
        have:old=#[]:=by have:=hro.aA;rw[hl0,Nat.zero_mul]at this;exact Wx this
        subst this;rw[hl0];simp[Builtin.firstCells,loadCells,loadCellsFrom]
       ·have ha:a=⟨a.block,a.off,none⟩:=by have:=hsp hcz;cases a;simp at this;simp[this]
        rw[ha];exact hrun
      refine grow (base:=some a) (len:=es.length) (cap:=cap) (es:=es) (old:=old) rfl rfl ?_ (hro.aB (gU.aG (G:=G) (w:=w.drew) (w':=w) rfl)) (by omega) hb;exact hfc
    ·cases hr
  ·cases hr
 ·cases hr
theorem Kh {P:Program}{G w h sz bytes x y r h' vx vy}(g:fS G w h)(hx:V G w x vx)(hy:V G w y vy)(hr:mF h sz bytes x y=some (r,h'))
  {sT xT elem info zero} (T:u0 P sT xT elem sz bytes info zero) (ty:TypeId):
  mg P (Builtin.append_ #[sT,xT] ty #[vx,vy]) G w r h':=by
 unfold mF at hr;cases E:iV h sz y with
 | none=>simp[E]at hr
 | some ys=>
 simp only[E]at hr;have kd:gU G w G w.drew:=gU.aG rfl;have gd:fS G w.drew h:=g.aT rfl;obtain⟨C,hok,cells,hf,I⟩:=EI (P:=P) g hy E;obtain⟨_,_,t,O,b⟩:=EI (P:=P) gd (hy.aA kd) E;have u:jf G w sz ys t:=b.aB (gU.aG (G:=G) (w:=w.drew) (w':=w) rfl);exact EE g hx I u hr elem (S:=λs=>Builtin.append_ #[sT,xT] ty #[s,vy]) (λhl=>SK T ty w C hf hl)
  (λhv ho M hb=>SJ T ty w hv C ho O M hb)
theorem xQ {c:Int}(h0:0 <= c)(h1:c <= 2^46):IntKind.i64.wrap c=c:=by
 have e:(2:Int)^64=18446744073709551616:=by decide
 have e':(2:Int)^63=9223372036854775808:=by decide
 have e2:(2:Int)^46=70368744177664:=by decide
 rw[e2]at h1;simp only[IntKind.wrap,IntKind.bits,IntKind.signed,Xf,e,V4];rw[show (64-1:Nat)=63 from rfl,e'];rw[Int.emod_eq_of_lt h0 (by omega),Ve (by omega)]
theorem I2 {G w}{z:Array Value}{sz:Nat}(hz:z.size=sz)(C:(z.toList.map iP).all AV.aG=true)(n:Nat):
  jf G w sz (List.replicate n (z.toList.map iP)) (Builtin.zeroCells z n):=by
 have b:iT sz (List.replicate n (z.toList.map iP)):=by intro e he;rw[List.mem_replicate]at he;rw[he.2];exact⟨by simp[hz],C⟩
 refine⟨b,by simp[Builtin.zeroCells,hz],λi j c hc=>?_⟩;obtain⟨hi,hj⟩:=nZ b hc;rw[WZ]at hi;have hlt:=pM (n:=n) hi hj;have t:j<z.size:=by omega
 simp only[gi,WE,hi,V3,Wp,VE]at hc;have u:z.toList[j]?=some z[j]:=by simp[t]
 rw[u]at hc;simp only[Wi,Vk]at hc;subst hc;refine⟨z[j],?_,V.aT G w _⟩;simp only[Builtin.zeroCells,Array.getElem?_map,hz];rw[Array.getElem?_range,Vf hlt];simp only[Wi,Nat.mul_add_mod',Nat.mod_eq_of_lt hj];rw[getElem!_pos z j t]
structure u_ (P:Program)(sT xT elem:TypeId)(cs bs:Nat)(inf:TypeInfo)(zv:Value):Prop where
 s:P.underlying sT=some (.slice elem)
 x:∃k,P.underlying xT=some (.int k)
 aB:P.info? elem=some inf
 sz:inf.size=cs
 aA:inf.bytes=bs
 aD:inf.zero=some zv
 aC:0<bs
 aE:zv.cells.size=cs
theorem SI {P:Program}{sT xT elem sz bytes info zero}(T:u_ P sT xT elem sz bytes info zero)(ty:TypeId)(w:World)
  {base:Option Addr} {len cap:Nat} {k:IntKind} {n:Int} (h0:0 <= n) (hb:n*bytes <= 2^46) (hr:len+n.toNat <= cap):
  (Builtin.append_ #[sT,xT] ty #[.slice base len cap,.int k n]).run P w =
   match base with
   | some a=>((storeCells (a.add (len*sz)) (Builtin.zeroCells zero.cells n.toNat).toList).run P w).andThen λ_ w'=>.ok (.slice base (len+n.toNat) cap) w'
   | none=>.ok (.slice base (len+n.toNat) cap) w:=by
 obtain⟨d,hd⟩:=T.x;have u:n <= 2^46:=by have h1:n*1 <= n*bytes:=Int.mul_le_mul_of_nonneg_left (by have:=T.aC;omega) h0;omega
 have hw:=xQ h0 u;have e2:(2:Int)^46=70368744177664:=by decide
 have e3:(2:Int)^48=281474976710656:=by decide
 have b:¬(n*(bytes:Int)>2^48):=by omega
 have t:¬n<0:=by omega
 have hz:n.toNat*sz=0 -> Builtin.zeroCells zero.cells n.toNat=#[]:=by intro h;simp[Builtin.zeroCells,T.aE,h]
 cases base with
 | none=>
  simp only[Builtin.append_,Sem.run_bind,Sem.run_pure,Result.andThen_ok,run_underlying T.s,run_underlying hd,Go.sizeOf,run_typeInfo w T.aB,T.sz,T.aA,VW,VB,
     VZ,V3,asInt,asIntOf,hw,t,b,VO,Sem.run_ite,Vf hr,Vq,VC,zeroValue,T.aD]
  split<;>simp
 | some a=>
  by_cases h:n.toNat*sz=0
  ·simp only[Builtin.append_,Sem.run_bind,Sem.run_pure,Result.andThen_ok,run_underlying T.s,run_underlying hd,Go.sizeOf,run_typeInfo w T.aB,T.sz,T.aA,VW,VB,
     VZ,V3,asInt,asIntOf,hw,t,b,VO,Sem.run_ite,Vf hr,Vq,VC,zeroValue,h,hz h]
  ·simp only[Builtin.append_,Sem.run_bind,Sem.run_pure,Result.andThen_ok,run_underlying T.s,run_underlying hd,Go.sizeOf,run_typeInfo w T.aB,T.sz,T.aA,VW,VB,
     VZ,V3,asInt,asIntOf,hw,t,b,VO,Sem.run_ite,Vf hr,Vq,VC,zeroValue,T.aD,Ve h]
theorem SH {P:Program}{sT xT elem sz bytes info zero}(T:u_ P sT xT elem sz bytes info zero)(ty:TypeId)(w:World)
  {s:Value} {base:Option Addr} {len cap:Nat} {old:Array Value} {k:IntKind} {n:Int} (h0:0 <= n) (hs:s=.slice base len cap)
  (e1:(Builtin.firstCells sz len s).run P w.drew=.ok old w.drew)
  (hr:¬len+n.toNat <= cap) (hb:(len+n.toNat)*bytes <= 2^46):
  ∃b rest,len+n.toNat <= b /\ rest.size=(b-(len+n.toNat))*sz /\ (Builtin.append_ #[sT,xT] ty #[s,.int k n]).run P w =
   .ok (.slice (some ⟨w.heap.size,0,none⟩) (len+n.toNat) b) (w.drew.alloc (.cells (old++Builtin.zeroCells zero.cells n.toNat++rest) elem)):=by
 subst hs;obtain⟨d,hd⟩:=T.x;have hcap:Builtin.nextslicecap (len+n.toNat) cap*bytes <= 2^48:=by have h1:=Hx (need:=len+n.toNat) (cap:=cap) (by omega);have h2:=Vx bytes h1;rw[Nat.mul_assoc]at h2;omega
 have hq:(Question.appendCap (len+n.toNat) cap elem).forced=false:=rfl;have U:n.toNat*bytes <= 2^46:=Vr (Vx _ (Nat.le_add_left _ _)) hb;have hnbz:n*(bytes:Int) <= 2^46:=by
  have:((n.toNat*bytes:Nat):Int)=n*(bytes:Int):=by rw[Int.natCast_mul,Int.toNat_of_nonneg h0]
  rw[<- this];have e2:(2:Int)^46=((2^46:Nat):Int):=by decide
  rw[e2];exact Int.ofNat_le.2 U
 have E:n <= 2^46:=by have h1:n*1 <= n*bytes:=Int.mul_le_mul_of_nonneg_left (by have:=T.aC;omega) h0;omega
 have hlen46:len+n.toNat <= 2^46:=by have h1:(len+n.toNat)*1 <= (len+n.toNat)*bytes:=Nat.mul_le_mul_left _ T.aC;omega
 have hw:=xQ h0 E;have e2:(2:Int)^46=70368744177664:=by decide
 have e3:(2:Int)^48=281474976710656:=by decide
 have C:¬(n*(bytes:Int)>2^48):=by omega
 have I:¬n<0:=by omega
 have hz:n.toNat*sz=0 -> Builtin.zeroCells zero.cells n.toNat=#[]:=by intro h;simp[Builtin.zeroCells,T.aE,h]
 refine⟨(Question.appendCap (len+n.toNat) cap elem).cut (w.tape w.drawn (.appendCap (len+n.toNat) cap elem)),
  Builtin.zeroCells zero.cells ((Question.appendCap (len+n.toNat) cap elem).cut (w.tape w.drawn (.appendCap (len+n.toNat) cap elem))-(len+n.toNat)),?_,?_,?_⟩
 ·simp only[Question.cut];omega
 ·simp[Builtin.zeroCells,T.aE]
 ·have hb0:¬bytes=0:=Nat.ne_of_gt T.aC;have u:¬(2^48<Builtin.nextslicecap (len+n.toNat) cap*bytes):=by omega
  have O:{w with drawn:=w.drawn+1}=w.drew:=rfl;have t:¬(((len+n.toNat:Nat):Int)>IntKind.i64.max):=by
   have:IntKind.i64.max=9223372036854775807:=by decide
   rw[this];omega
  have M:¬(Builtin.nextslicecap (len+n.toNat) cap*bytes>2^48):=u;by_cases h:n.toNat*sz=0
  ·simp only[Builtin.append_,Sem.run_bind,Sem.run_pure,Result.andThen_ok,run_underlying T.s,run_underlying hd,Go.sizeOf,run_typeInfo _ T.aB,T.sz,VW,VB,
     VZ,VC,VO,Sem.run_ite,Ve hr,T.aA,M,t,false_and,run_choose,hq,O,run_askRoom,e1,Vq,V3,
     zeroValue,T.aD,newRow,run_newObj,asInt,asIntOf,hw,I,C,h,hz h]
   rfl
  ·simp only[Builtin.append_,Sem.run_bind,Sem.run_pure,Result.andThen_ok,run_underlying T.s,run_underlying hd,Go.sizeOf,run_typeInfo _ T.aB,T.sz,VW,VB,
     VZ,VC,VO,Sem.run_ite,Ve hr,T.aA,M,t,false_and,run_choose,hq,O,run_askRoom,e1,Vq,V3,
     zeroValue,T.aD,newRow,run_newObj,asInt,asIntOf,hw,I,C,Ve h]
   rfl
def rP (h:eZ)(sz bytes:Nat)(zero:List AV)(x y:AV):Option (AV×eZ):=
 match y with
 | .aA _ n=>if 0 <= n /\ n*bytes <= 2^46 then iL h sz bytes x (List.replicate n.toNat zero) else none
 | _=>none
theorem Kg {P:Program}{G w h sz bytes x y r h' vx vy}(g:fS G w h)(hx:V G w x vx)(hy:V G w y vy)
  {sT xT elem info zero} (T:u_ P sT xT elem sz bytes info zero) (hsc:(zero.cells.toList.map iP).all AV.aG=true)
  (hr:rP h sz bytes (zero.cells.toList.map iP) x y=some (r,h')) (ty:TypeId):
  mg P (Builtin.append_ #[sT,xT] ty #[vx,vy]) G w r h':=by
 unfold rP at hr;split at hr
 ·rename_i k n;cases hy;split at hr
  ·rename_i hh;have hrow:jf G w sz (List.replicate n.toNat (zero.cells.toList.map iP)) (Builtin.zeroCells zero.cells n.toNat):=I2 T.aE hsc _;refine EE g hx hrow hrow hr elem (S:=λs=>Builtin.append_ #[sT,xT] ty #[s,.int k n]) ?_ ?_;·intro base len cap hl;rw[WZ]at hl ⊢;exact SI T ty w hh.1 hh.2 hl
   ·intro s base len cap old hv ho hno hb;rw[WZ]at hno hb ⊢;exact SH T ty w hh.1 hv ho hno hb
  ·cases hr
 ·cases hr
def rQ (h:eZ)(sz:Nat)(zero:List AV)(x:AV):Option eZ:=
 match x with
 | .aB=>some h
 | .aF n sz' off len _=>
  if len=0 then some h else
  match h[n]? with
  | some (some (.aA sz'' es g))=>if sz=sz' /\ sz=sz'' /\ off+len <= es.length then some (h.set n (some (.aA sz (gY es off (List.replicate len zero)) g))) else none
  | _=>none
 | _=>none
theorem Kl {P:Program}{G w h sz x h' vx}(g:fS G w h)(hx:V G w x vx){t elem info zero}(hu:P.underlying t=some (.slice elem))(hi:P.info? elem=some info)
  (C:info.zero=some zero) (hz:zero.cells.size=sz) (a2:(zero.cells.toList.map iP).all AV.aG=true)
  (hr:rQ h sz (zero.cells.toList.map iP) x=some h') (ty:TypeId):
  ∃w',(Builtin.clear_ #[t] ty #[vx]).run P w=.ok (.tuple #[]) w' /\ fS G w' h' /\ gE G w G w':=by
 unfold rQ at hr;split at hr;·cases hr;cases hx;exact⟨w,by simp only[Builtin.clear_,VW,VB,Sem.run_bind,run_underlying hu,Result.andThen_ok,Sem.run_pure],g,gE.aC G w⟩
 ·rename_i n sz' off len cap;split at hr
  ·rename_i hl;subst hl;cases hr;cases hx with
   | aC _ _ _ _ _ c tyb m b hnN u hl hcap U hm=>exact⟨w,by simp only[Builtin.clear_,VW,VB,Sem.run_bind,run_underlying hu,Result.andThen_ok,Sem.run_pure],g,gE.aC G w⟩
   | aG _ _ _ hnN hnl hcap=>exact⟨w,by simp only[Builtin.clear_,VW,VB,Sem.run_bind,run_underlying hu,Result.andThen_ok,Sem.run_pure],g,gE.aC G w⟩
  ·rename_i hl;split at hr
   ·rename_i sz'' es gr hn;split at hr
    ·rename_i hh;obtain⟨rfl,rfl,hle⟩:=hh;cases hr;cases hx with
     | aG=>exact absurd rfl hl
     | aC _ _ _ _ _ c tyb m b hnN u hlc hcap U hm=>
      obtain⟨a6,tyc,M,hcl,a4,_⟩:=(g.aB n sz es gr b hn u).ex;have E:m=a6.size:=by simp[World.shape?,M]at U;exact U.2.symm
      have W:jf G w sz (List.replicate len (zero.cells.toList.map iP)) (Builtin.zeroCells zero.cells len):=I2 hz a2 _;have I:=g.aN hn u;obtain⟨w',a1,stp,a0,hshp,hH⟩:=IY (P:=P) g hn u M W (p:=off) (by omega) (by rw[WZ];exact Vr (Vx sz (by omega)) (E▸hm));have O:(gY es off (List.replicate len (zero.cells.toList.map iP))).length=es.length:=by simp[gY];omega
      refine⟨w',?_,?_,stp⟩;·obtain⟨l',rfl⟩:∃l',len=l'+1:=⟨len-1,by omega⟩;simp only[Builtin.clear_,VW,VB,Sem.run_bind,run_underlying hu,Result.andThen_ok,Sem.run_pure,zeroValue,run_typeInfo w hi,C,a1]
      ·exact g.aV hn u stp.aA stp.aB (λm b' hm a5 a3=>a0 b' (by rintro rfl;exact a3 (g.inj m n _ hm I a5 u))) (hH gr (λe=>by rw[O];exact a4 e))
    ·cases hr
   ·cases hr
 ·cases hr
end Glb
/-
 A library of its own,for whatever program: what an operation is made into,and that it does what it says.
-/
namespace Glb
open Go
inductive fJ where
 | aB (s:Nat)
 | aA (s:Nat)
 | aC (v:AV)
inductive rO where
 | aD (neg:Bool) (x:fJ)
 | aB (neg:Bool) (plan:List (Nat×Bool)) (x y:fJ)
 | aE (o n:Nat) (agg:Bool) (x:fJ)
 | aG (x i:fJ)
 | aF (x:fJ)
 | aC (f:FuncId) (fs cs:List fJ)
 | aA
inductive mZ where
 | aA (x:fJ)
 | aE (c a b:fJ)
 | aM (zero:List AV) (ps:List (Nat×Nat×fJ))
 | aB (agg:Bool) (n:Nat) (x:fJ)
 | aN (x:fJ)
 | aD (op:BinOp) (x y:fJ)
 | aL (op:BinOp) (x y:fJ)
 | aK (neg:Bool) (x:fJ)
 | aR (x:fJ)
 | aQ (x:fJ)
 | aO (k:IntKind) (x:fJ)
 | aS (sz:Nat) (x:fJ) (lo hi mx:Option fJ)
 | aC (o:Nat) (x:fJ)
 | aI (sz:Nat) (x i:fJ)
 | aP (x:fJ) (i:Nat)
 | aF (x:fJ)
 | aT (x:fJ)
 | aJ (isMax:Bool) (xs:List fJ)
 | aG (f:FuncId) (cs:List fJ)
 | x (o:rO)
inductive mU where
 | mk (cs:List AV)
 | aA (x:fJ)
 | aB (sz:Nat) (xs:List fJ)
 | aC (sz bytes:Nat) (zero:List AV) (l c:fJ)
 | aG (n:Nat) (a x:fJ)
 | aD (sz bytes:Nat) (x y:fJ)
 | aE (sz bytes:Nat) (zero:List AV) (x y:fJ)
 | aF (sz:Nat) (zero:List AV) (x:fJ)
inductive i_ where
 | r (o:mZ)
 | h (o:mU)
 | aB (f:FuncId) (args:List fJ)
 | aC (x:fJ) (args:List fJ)
def kV (g:fJ -> AV):Option fJ -> Option (Option Int)
 | none=>some none
 | some x=>match g x with
 | .aA _ n=>some (some n)
 | _=>none
def g_:AV -> Option AV
 | .aB=>some (.aA .i64 0)
 | .aF _ _ _ len _=>some (.aA .i64 len)
 | .aL _ _ _ es=>some (.aA .i64 es.length)
 | _=>none
def mi (isMax:Bool):List AV -> Option AV
 | .aA k n :: r=>aA k n r
 | _=>none
where
 aA (k:IntKind) (n:Int):List AV -> Option AV
 | []=>some (.aA k n)
 | .aA _ m :: r=>aA k (if isMax then (if m>n then m else n) else (if m<n then m else n)) r
 | _=>none
def n_:AV -> Bool
 | .aB | .aF .. | .aL ..=>true
 | _=>false
def uL:AV -> Option Bool
 | .aO (.pointer none)=>some true
 | .aC _ _ _ _=>some false
 | .aN _ _=>some false
 | _=>none
def mE:List (Nat×Bool) -> List AV -> List AV -> Option Bool
 | [],_,_=>some true
 | (o,true) :: r,xs,ys=>match xs[o]?,ys[o]? with
  | some (.aA k a),some (.aA k' b)=>if k=k' then (if a=b then mE r xs ys else some false) else none
  | _,_=>none
 | (o,false) :: r,xs,ys=>match xs[o]?,ys[o]? with
  | some (.aD a),some (.aD b)=>if a=b then mE r xs ys else some false
  | _,_=>none
def j8 (g:fJ -> AV):rO -> Option AV
 | .aD neg x=>(uL (g x)).map λb=>.aD (b != neg)
 | .aB neg plan x y=>match g x,g y with
  | .aE xs,.aE ys=>(mE plan xs ys).map λb=>.aD (b != neg)
  | _,_=>none
 | .aE o n agg x=>match g x with
  | .aE cs=>if agg then (if o+n <= cs.length then some (.aE ((cs.drop o).take n)) else none) else cs[o]?
  | _=>none
 | .aG x i=>match g x,g i with
  | .aP s,.aA _ i=>if 0 <= i then s[i.toNat]?.map λb=>.aA .u8 b.toNat else none
  | _,_=>none
 | .aC f fs cs=>some (.aM f (fs.map g) (cs.map g))
 | .aF x=>match g x with
  | .aB=>some (.aA .i64 0)
  | .aF _ _ _ _ (some c)=>some (.aA .i64 c)
  | .aL _ true _ es=>some (.aA .i64 es.length)
  | _=>none
 | .aA=>none
def gB (g:fJ -> AV)(h:eZ):mZ -> Option AV
 | .aA x=>some (g x)
 | .aE c a b=>match g c with
  | .aD t=>some (if t then g a else g b)
  | _=>none
 | .aM zero ps=>(nR zero (ps.map λp=>(p.1,p.2.1,g p.2.2))).map .aE
 | .aB agg n x=>gX h agg n (g x)
 | .aN x=>match g x with
  | .aC n sz i o=>some (.aC n sz i o)
  | .aN t cs=>some (.aN t cs)
  | .aT t v=>some (.aT t v)
  | .aM f fs cs=>some (.aM f fs cs)
  | _=>none
 | .aD op x y=>iQ op (g x) (g y)
 | .aL op x y=>match g x,g y with
  | .aD a,.aD b=>wL op a b
  | _,_=>none
 | .aK neg x=>if n_ (g x) then (jC (g x)).map λb=>.aD (b != neg) else none
 | .aR x=>match g x with
  | .aD b=>some (.aD !b)
  | _=>none
 | .aQ x=>match g x with
  | .aA k n=>some (.aA k (k.wrap (0-n)))
  | _=>none
 | .aO k x=>match g x with
  | .aA _ n=>some (.aA k (k.wrap n))
  | _=>none
 | .aS sz x lo hi mx=>match kV g lo,kV g hi,kV g mx with
  | some lo,some hi,some mx=>iR sz (g x) lo hi mx
  | _,_,_=>none
 | .aC o x=>pC o (g x)
 | .aI sz x i=>iH sz (g x) (g i)
 | .aP x i=>match g x with
  | .aI cs=>cs[i]?
  | _=>none
 | .aF x=>g_ (g x)
 | .aT x=>match g x with
  | .aP s=>some (.aA .i64 s.size)
  | _=>none
 | .aJ m xs=>mi m (xs.map g)
 | .aG f cs=>some (.aM f [] (cs.map g))
 | .x o=>j8 g o
def lS (sz:Nat):List AV -> Option (List (List AV))
 | []=>some []
 | x :: r=>match x.aK,lS sz r with
 | some cs,some es=>if cs.length=sz /\ cs.all AV.aG=true then some (cs :: es) else none
 | _,_=>none
def iW (g:fJ -> AV)(nm:Nat):mU -> Option (AV×fh)
 | .mk cs=>some (.aC nm cs.length 0 0,.aA cs.length [cs] false)
 | .aA x=>match (g x).aK with
  | some cs=>if cs.all AV.aG then some (.aC nm cs.length 0 0,.aA cs.length [cs] false) else none
  | none=>none
 | .aB sz xs=>
  match lS sz (xs.map g) with
  | some es=>some (.aF nm sz 0 xs.length (some xs.length),.aA sz es false)
  | none=>none
 | .aC sz bytes zero l c=>match g l,g c with
  | .aA _ l,.aA _ c=>if 0 <= l /\ l <= c /\ c*bytes <= 2^46 then some (.aF nm sz 0 l.toNat (some c.toNat),.aA sz (List.replicate c.toNat zero) false) else none
  | _,_=>none
 | _=>none
def jE (g:fJ -> AV)(h:eZ):mU -> Option (AV×eZ)
 | .aG n a x=>(nS h n (g a) (g x)).map λh'=>(.aR,h')
 | .aD sz bytes x y=>mF h sz bytes (g x) (g y)
 | .aE sz bytes zero x y=>rP h sz bytes zero (g x) (g y)
 | .aF sz zero x=>(rQ h sz zero (g x)).map λh'=>(.aI [],h')
 | ho=>match iW g h.length ho with
 | some (v,b)=>some (v,h++[some b])
 | none=>none
def cd (keep:Nat -> Bool):Operand -> fJ
 | .tmp s=>if keep s then .aB s else .aA s
 | .const v=>.aC (xt v)
 | .global g=>.aC (.aO (.pointer (some ⟨g,0,none⟩)))
 | .func f=>.aC (.aM f [] [])
def mQ (P:Program)(t:TypeId):Option (Nat×Nat×Value):=
 match P.info? t with
 | some i=>i.zero.map λz=>(i.size,i.bytes,z)
 | none=>none
def uA (P:Program)(t:TypeId):Option Bool:=
 match P.underlying t with
 | some (.struct _) | some (.array _ _)=>some true
 | some _=>some false
 | none=>none
def nX (P:Program)(t:TypeId):Option TypeId:=
 match P.underlying t with
 | some (.slice e)=>some e
 | _=>none
def uK (P:Program)(fs:Array Field)(tr:Operand -> fJ):List (Nat×Operand) -> Option (List (Nat×Nat×fJ))
 | []=>some []
 | (i,x) :: r=>match fs[i]?,uK P fs tr r with
 | some f,some l=>some ((f.offset,P.cellsOf f.type,tr x) :: l)
 | _,_=>none
def sE:Nat -> List (Nat×Operand) -> Bool
 | _,[]=>true
 | k,(i,_) :: r=>i == k && sE (k+1) r
def y5 (P:Program)(tr:Operand -> fJ)(o:Oper):Option mZ:=
 match o.op with
 | .move x=>some (.aA (tr x))
 | .assign x=>some (.aA (tr x))
 | .pick c a b=>some (.aE (tr c) (tr a) (tr b))
 | .build t ps=>
  match P.underlying t,mQ P t with
  | some (.struct fs),some (_,_,z)=>if fs.toList.all (λf=>(P.info? f.type).isSome) then (uK P fs tr ps.toList).map (.aM (z.cells.toList.map iP)) else none
  | _,_=>none
 | .load t x=>match uA P t,P.info? t with
  | some a,some i=>some (.aB a i.size (tr x))
  | _,_=>none
 | .nilCheck x=>some (.aN (tr x))
 | .binOp op t x y _=>
  match y with
  | .const (.slice none 0 0)=>match P.underlying t,op with
   | some (.slice _),.eql=>some (.aK false (tr x))
   | some (.slice _),.neq=>some (.aK true (tr x))
   | _,_=>none
  | _=>
   match P.underlying t with
   | some (.int _) | some .string=>some (.aD op (tr x) (tr y))
   | some .bool=>some (.aL op (tr x) (tr y))
   | _=>none
 | .unOp .not _ x=>some (.aR (tr x))
 | .unOp .neg _ x=>some (.aQ (tr x))
 | .convert s d x=>match P.underlying s,P.underlying d with
  | some (.int _),some (.int k)=>some (.aO k (tr x))
  | _,_=>none
 | .slice t x lo hi mx=>
  match nX P t with
  | some e=>match P.info? e with
   | some i=>if mx.isSome && !hi.isSome then none else some (.aS i.size (tr x) (lo.map (tr)) (hi.map (tr)) (mx.map (tr)))
   | none=>none
  | none=>none
 | .fieldAddr t x k=>
  match P.underlying t with
  | some (.struct fs)=>match fs[k]? with
   | some f=>match P.info? f.type with
    | some i=>if i.size=0 then none else some (.aC f.offset (tr x))
    | none=>none
   | none=>none
  | _=>none
 | .indexAddr t x i=>
  match nX P t with
  | some e=>match P.info? e with
   | some inf=>some (.aI inf.size (tr x) (tr i))
   | none=>none
  | none=>none
 | .extract x i=>some (.aP (tr x) i)
 | .call {callee:=.builtin .len,args,argTypes}=>
  match args.toList,argTypes.toList with
  | [x],[t]=>match P.underlying t with
   | some (.slice _)=>some (.aF (tr x))
   | some .string=>some (.aT (tr x))
   | _=>none
  | _,_=>none
 | .call {callee:=.builtin .min,args,..}=>some (.aJ false (args.toList.map (tr)))
 | .call {callee:=.builtin .max,args,..}=>some (.aJ true (args.toList.map (tr)))
 | .makeFunc (.func f) first caps=>if first.size=0 then some (.aG f (caps.toList.map (tr))) else none
 | _=>none
def cH (P:Program)(tr:Operand -> fJ)(o:Oper):Option mU:=
 match o.op with
 | .alloc t=>match mQ P t with
  | some (_,_,z)=>if (z.cells.toList.map iP).all AV.aG then some (.mk (z.cells.toList.map iP)) else none
  | none=>none
 | .box _ x=>some (.aA (tr x))
 | .buildSlice t len ps=>
  match nX P t with
  | some e=>match mQ P e with
   | some (sz,_,z)=>if sE 0 ps.toList && ps.size == len && decide (z.cells.size=sz) && decide (len*sz <= 2^24) then some (.aB sz (ps.toList.map λp=>tr p.2)) else none
   | none=>none
  | none=>none
 | .makeSlice t l c=>
  match nX P t with
  | some e=>match mQ P e with
   | some (sz,bytes,z)=>if z.cells.size=sz /\ 0<bytes /\ (z.cells.toList.map iP).all AV.aG then some (.aC sz bytes (z.cells.toList.map iP) (tr l) (tr c)) else none
   | none=>none
  | none=>none
 | .store t a x=>match P.info? t with
  | some i=>some (.aG i.size (tr a) (tr x))
  | none=>none
 | .call {callee:=.builtin .append,args,argTypes}=>
  match args.toList,argTypes.toList with
  | [x,y],[s,t]=>match nX P s with
   | some e=>match mQ P e with
    | some (sz,bytes,z)=>if z.cells.size=sz /\ 0<bytes then (match P.underlying t with
     | some (.slice _)=>some (.aD sz bytes (tr x) (tr y))
     | some (.int _)=>if (z.cells.toList.map iP).all AV.aG then some (.aE sz bytes (z.cells.toList.map iP) (tr x) (tr y)) else none
     | _=>none) else none
    | none=>none
   | none=>none
  | _,_=>none
 | .call {callee:=.builtin .clear,args,argTypes}=>
  match args.toList,argTypes.toList with
  | [x],[s]=>match nX P s with
   | some e=>match mQ P e with
    | some (sz,_,z)=>if z.cells.size=sz /\ (z.cells.toList.map iP).all AV.aG then some (.aF sz (z.cells.toList.map iP) (tr x)) else none
    | none=>none
   | none=>none
  | _,_=>none
 | _=>none
def qK (P : Program) : List Field → Option (List (Nat × Bool))
 | [] => some []
 | f :: fs => if f.name ≠ "_" then (match P.underlying f.type, qK P fs with
  | some (.int _), some r => some ((f.offset, true) :: r)
  | some .bool, some r => some ((f.offset, false) :: r)
  | _, _ => none) else qK P fs
def cX (P:Program)(tr:Operand -> fJ)(o:Oper):Option rO:=
 match o.op with
 | .binOp op t x y _=>
  match P.underlying t with
  | some (.pointer _)=>match y with
   | .const (.pointer none)=>match op with
    | .eql=>some (.aD false (tr x))
    | .neq=>some (.aD true (tr x))
    | _=>some .aA
   | _=>some .aA
  | some (.struct fs)=>if P.stoodInHeld t=false /\ P.eqGuardType P.depth t=false then (match op,qK P fs.toList with
    | .eql,some l=>some (.aB false l (tr x) (tr y))
    | .neq,some l=>some (.aB true l (tr x) (tr y))
    | _,_=>some .aA) else some .aA
  | _=>some .aA
 | .field t x k=>
  match P.underlying t with
  | some (.struct fs)=>match fs[k]? with
   | some f=>match P.info? f.type,uA P f.type with
    | some i,some b=>some (.aE f.offset i.size b (tr x))
    | _,_=>some .aA
   | none=>some .aA
  | _=>some .aA
 | .index t x i=>match P.underlying t with
  | some .string=>some (.aG (tr x) (tr i))
  | _=>some .aA
 | .makeFunc (.func f) first caps=>some (.aC f (first.toList.map tr) (caps.toList.map tr))
 | .call {callee:=.builtin .cap,args,argTypes}=>
  match args.toList,argTypes.toList with
  | [x],[t]=>match P.underlying t with
   | some (.slice _)=>some (.aF (tr x))
   | _=>some .aA
  | _,_=>some .aA
 | .call {callee:=.value _,..}=>none
 | _=>if (cH P tr o).isSome then none else some .aA
def cR (P:Program)(tr:Operand -> fJ)(o:Oper):Option mZ:=
 match y5 P tr o with
 | some r=>some r
 | none=>(cX P tr o).map .x
def kJ (P:Program)(tr:Operand -> fJ)(o:Oper):Option i_:=
 match cR P tr o with
 | some r=>some (.r r)
 | none=>match cH P tr o with
 | some h=>some (.h h)
 | none=>match o.op with
  | .call {callee:=.value (.func f),args,..}=>some (.aB f (args.toList.map (tr)))
  | .call {callee:=.value x,args,..}=>some (.aC (tr x) (args.toList.map (tr)))
  | _=>none
section
variable {P:Program} {G:Gh} {w:World} {h:eZ} {tr:Operand -> fJ} {g:fJ -> AV} {a:Act}
def lL (G:Gh)(w:World)(tr:Operand -> fJ)(g:fJ -> AV)(a:Act):Prop:=∀x,V G w (g (tr x)) (a.eval x)
theorem xH {t:TypeId}{sz bytes:Nat}{z:Value}(ht:mQ P t=some (sz,bytes,z)):(zeroValue t).run P w=.ok z w:=by
 unfold mQ at ht;split at ht
 ·rename_i i hi;cases hz:i.zero with
  | none=>simp[hz]at ht
  | some z'=>simp[hz]at ht;simp[zeroValue,run_typeInfo w hi,hz,ht.2.2]
 ·cases ht
theorem xj {t:TypeId}{sz bytes:Nat}{z:Value}(ht:mQ P t=some (sz,bytes,z)):∃i,P.info? t=some i /\ i.size=sz /\ i.bytes=bytes /\ i.zero=some z:=by
 unfold mQ at ht;split at ht
 ·rename_i i hi;cases hz:i.zero with
  | none=>simp[hz]at ht
  | some z'=>simp[hz]at ht;exact⟨i,hi,ht.1,ht.2.1,by rw[hz,ht.2.2]⟩
 ·cases ht
theorem nz {t:TypeId}{i:TypeInfo}(hi:P.info? t=some i):(Go.sizeOf t).run P w=.ok i.size w:=by simp[Go.sizeOf,run_typeInfo w hi]
theorem xG {t:TypeId}{b:Bool}(hb:uA P t=some b):(isAgg t).run P w=.ok b w:=by
 unfold uA at hb;split at hb;·rename_i h;cases hb;simp[isAgg,run_underlying h]
 ·rename_i h;cases hb;simp[isAgg,run_underlying h]
 ·rename_i d h1 h2 h;cases hb;simp only[isAgg,Sem.run_bind,run_underlying h,Result.andThen_ok];rfl
 ·cases hb
theorem pg {t e:TypeId}(he:nX P t=some e):P.underlying t=some (.slice e):=by
 unfold nX at he;split at he;·rename_i h;cases he;exact h
 ·cases he
theorem Hs (isMax:Bool):∀(xs:List AV)(vs:List Value)(r:AV),mi isMax xs=some r -> xs.length=vs.length ->
  (∀(j:Nat)(c:AV)(v:Value),xs[j]?=some c -> vs[j]?=some v -> V G w c v) ->
  ∃u,((if isMax then Builtin.max_ #[] 0 vs.toArray else Builtin.min_ #[] 0 vs.toArray)).run P w=.ok u w /\ V G w r u:=by
 intro xs vs r hr hl hV;unfold mi at hr;split at hr
 ·rename_i k n rest;cases vs with
  | nil=>simp at hl
  | cons v vr=>
   have h0:=hV 0 _ v rfl rfl;cases h0;have key:∀(l:List AV)(vl:List Value)(n:Int),mi.aA isMax k n l=some r -> l.length=vl.length ->
     (∀(j:Nat)(c:AV)(v:Value),l[j]?=some c -> vl[j]?=some v -> V G w c v) ->
     ∃u,(vl.foldlM (if isMax then Builtin.max2 else Builtin.min2) (.int k n):Sem Value).run P w=.ok u w /\ V G w r u:=by
    intro l;induction l with
    | nil=>intro vl n h hl _;have:vl=[]:=Vl (by simpa using hl.symm);subst this;simp only[mi.aA,Vk]at h;subst h;exact⟨_,rfl,.aB _ _⟩
    | cons c l ih=>
     intro vl n h hl hV;cases vl with
     | nil=>simp at hl
     | cons v vl=>have h1:=hV 0 c v rfl rfl;cases c<;>simp only[mi.aA,reduceCtorEq]at h;cases h1;obtain⟨u,hu,hVu⟩:=ih vl _ h (by simpa using hl) (λj c v a b=>hV (j+1) c v (by simpa using a) (by simpa using b));refine⟨u,?_,hVu⟩;rw[<- hu];cases isMax<;>simp[List.foldlM_cons,Builtin.max2,Builtin.min2]
   obtain⟨u,hu,hVu⟩:=key rest vr n hr (by simpa using hl) (λj c v a b=>hV (j+1) c v (by simpa using a) (by simpa using b));refine⟨u,?_,hVu⟩;rw[<- hu];cases isMax<;>simp[Builtin.max_,Builtin.min_]
 ·cases hr
theorem VL.aA (hs:lL G w tr g a)(xs:List Operand):
 ∀(j:Nat)(c:AV)(v:Value),((xs.map (tr)).map g)[j]?=some c -> (xs.map a.eval)[j]?=some v -> V G w c v:=by
 intro j c v hc hv;simp only[VE,Vu]at hc hv;obtain⟨_,⟨x,hx,rfl⟩,rfl⟩:=hc;obtain⟨y,hy,rfl⟩:=hv;rw[hx]at hy;cases hy;exact hs x
theorem C9 (hs:lL G w tr g a){x:Option Operand}{r:Option Int} (h:kV g (x.map (tr))=some r):
 ∃k,x.map a.eval=r.map (.int k):=by
 cases x with
 | none=>simp only[Option.map_none,kV,Vk]at h;subst h;exact⟨.i64,rfl⟩
 | some x=>
 simp only[Wi,kV]at h;split at h;·rename_i k n hx;cases h;have:=hs x;rw[hx]at this;generalize hv:a.eval x=v at this;cases this;exact⟨k,by simp[hv]⟩
 ·cases h
theorem KF {x:AV}{b:Bool}{v:Value}{t e:TypeId}(hx:V G w x v)(hn:jC x=some b)(hu:P.underlying t=some (.slice e))(ox oy:Operand):
  ((do eqGuard .eql t ox oy v (.slice none 0 0);binOp .eql t v (.slice none 0 0):Sem Value).run P w=.ok (.bool b) w /\
  (do eqGuard .neq t ox oy v (.slice none 0 0);binOp .neq t v (.slice none 0 0):Sem Value).run P w=.ok (.bool !b) w) \/
  ∀a l c,v≠.slice a l c:=by
 have u:∀(a:Option Addr)(l c:Nat),v=.slice a l c -> a.isNone=b ->
   ((do eqGuard .eql t ox oy v (.slice none 0 0);binOp .eql t v (.slice none 0 0):Sem Value).run P w=.ok (.bool b) w /\
   (do eqGuard .neq t ox oy v (.slice none 0 0);binOp .neq t v (.slice none 0 0):Sem Value).run P w=.ok (.bool !b) w):=by
  rintro a l c rfl rfl;have e:(Op.equal t (.slice a l c) (.slice none 0 0)).run P w=.ok a.isNone w:=by
   have:∀d,(Op.equalIn (d+1) t (.slice a l c) (.slice none 0 0)).run P w=.ok a.isNone w:=by intro d;simp only[Op.equalIn,Sem.run_bind,run_underlying hu,Result.andThen_ok];cases a<;>rfl
   exact this 9999
  constructor;·have:(eqGuard .eql t ox oy (.slice a l c) (.slice none 0 0)).run P w=.ok () w:=rfl;simp only[Sem.run_bind,this,Result.andThen_ok,binOp,e,Sem.run_pure]
  ·have:(eqGuard .neq t ox oy (.slice a l c) (.slice none 0 0)).run P w=.ok () w:=rfl;simp only[Sem.run_bind,this,Result.andThen_ok,binOp,e,Sem.run_pure]
 cases hx with
 | aO=>simp only[jC,Vk]at hn;exact .inl (u _ _ _ rfl hn)
 | aC _ _ _ _ _ c ty m b'=>
  simp only[jC]at hn;split at hn;·cases hn;exact .inl (u _ _ _ rfl rfl)
  ·cases hn
 | aG=>simp[jC]at hn
 | aD _ _ _ es a cap=>
  simp only[jC]at hn;split at hn;·cases hn;exact .inl (u _ _ _ rfl rfl)
  ·cases hn
 | aE=>simp[jC]at hn
 | aL=>exact .inr (λ_ _ _ h=>by cases h)
 | aN=>exact .inr (λ_ _ _ h=>by cases h)
 | aR=>exact .inr (λ_ _ _ h=>by cases h)
 | aP v=>refine .inr (λa l c h=>?_);subst h;simp[jC]at hn
 | aI=>simp[jC]at hn
 | aF=>simp[jC]at hn
 | aB=>simp[jC]at hn
 | aQ=>simp[jC]at hn
 | aJ=>simp[jC]at hn
 | aM=>simp[jC]at hn
 | aK=>simp[jC]at hn
theorem pV (ρ:Operand -> Value)(dst:Option Tmp)(b:Builtin)(args:Array Operand)(t:Array TypeId)(ty:TypeId)(pos:String)(after:Array Edge)(guard:Option (Nat×Bool)):
 (execOp ρ {dst,op:=.call {callee:=.builtin b,args,argTypes:=t},type:=ty,pos,after,guard}).run P w =
  (builtin b t ty (args.map fun | .const _=>true | _=>false) (args.map ρ)).run P w:=by
 simp only[execOp,resolve,invoke,Sem.run_bind,Sem.run_pure,Result.andThen_ok];rfl
theorem QJ {fs:Array Field}(hs:lL G w tr g a):∀(ps:List (Nat×Operand)) (l:List (Nat×Nat×fJ)),uK P fs tr ps=some l ->
 l.length=ps.length /\ ∀(j i:Nat)(v:Value)(o n:Nat)(x:AV),(ps.map fun (i,x)=>(i,a.eval x))[j]?=some (i,v) -> (l.map λp=>(p.1,p.2.1,g p.2.2))[j]?=some (o,n,x) ->
  (fs.map λf=>(f.offset,P.cellsOf f.type))[i]?=some (o,n) /\ V G w x v:=by
 intro ps;induction ps with
 | nil=>intro l hl;simp only[uK,Vk]at hl;subst hl;exact⟨rfl,λj i v o n x h=>by simp at h⟩
 | cons p ps ih=>
 intro l hl;obtain⟨i0,x0⟩:=p;simp only[uK]at hl;split at hl
 ·rename_i f l' hf b;cases hl;obtain⟨h1,h2⟩:=ih l' b;refine⟨by simp[h1],λj i v o n x hp hq=>?_⟩;cases j with
  | zero=>
  simp at hp hq;obtain⟨rfl,rfl⟩:=hp;obtain⟨rfl,rfl,rfl⟩:=hq;exact⟨by simp[hf],hs x0⟩
  | succ j=>exact h2 j i v o n x (by simpa using hp) (by simpa using hq)
 ·cases hl
theorem SO (fs:List Field)(hf:∀f∈fs,(P.info? f.type).isSome):
 (fs.mapM λf=>do pure (f.offset,<- Go.sizeOf f.type):Sem (List (Nat×Nat))).run P w=.ok (fs.map λf=>(f.offset,P.cellsOf f.type)) w:=by
 induction fs with
 | nil=>rfl
 | cons f fs ih=>
 obtain⟨i,hi⟩:=Option.isSome_iff_exists.1 (hf f (by simp));simp only[List.mapM_cons,Sem.run_bind,run_sizeOf w hi,Result.andThen_ok,Sem.run_pure,ih (λf h=>hf f (by simp[h])),VS]
theorem KC {q r:AV}{v:Value}{t e:TypeId}(hq:V G w q v)(hr:g_ q=some r)(hu:P.underlying t=some (.slice e))(ty:TypeId):
  ∃u,(Builtin.len_ #[t] ty #[v]).run P w=.ok u w /\ V G w r u:=by
 have b:∀(a:Option Addr)(l c:Nat),(Builtin.len_ #[t] ty #[.slice a l c]).run P w=.ok (.int .i64 l) w:=by intro a l c;simp only[Builtin.len_,VW,VB,Sem.run_bind,run_underlying hu,Result.andThen_ok,Sem.run_pure,goInt]
 cases hq<;>simp only[g_,Vk,reduceCtorEq]at hr<;>subst hr<;>exact⟨_,b _ _ _,.aB _ _⟩
theorem Ss (gm:fS G w h)(hs:lL G w tr g a){o:Oper}{ro:mZ}(hc:y5 P tr o=some ro){r:AV}(hr:gB g h ro=some r):
  ∃v,(execOp a.eval o).run P w=.ok (.value v) w /\ V G w r v:=by
 obtain⟨dst,op,type,pos,after,guard⟩:=o;have up:∀{s:Sem Value},(∃v,s.run P w=.ok v w /\ V G w r v) -> ∃v,((do pure (.value (<- s)):Sem Next)).run P w=.ok (.value v) w /\ V G w r v:=by rintro s ⟨v,hv,hV⟩;exact⟨v,by simp[hv],hV⟩
 unfold y5 at hc;simp only at hc;split at hc;·rename_i x;cases hc;simp only[gB,Vk]at hr;subst hr;exact⟨_,rfl,hs x⟩
 ·rename_i x;cases hc;simp only[gB,Vk]at hr;subst hr;exact⟨_,rfl,hs x⟩
 · -- pick
  rename_i c x y;cases hc;simp only[gB]at hr;split at hr
  ·rename_i t ht;cases hr;have h0:=hs c;rw[ht]at h0;generalize hv:a.eval c=v at h0;cases h0;refine⟨if t then a.eval x else a.eval y,?_,?_⟩;·simp only[execOp,hv,asBool];cases t<;>rfl
   ·cases t;·exact hs y
    ·exact hs x
  ·cases hr
 · -- build
  rename_i t ps;split at hc<;>(try cases hc);rename_i fs sz0 b0 z hu hz;split at hc<;>(try cases hc);rename_i hall;simp only[Vu]at hc;obtain⟨l,hl,rfl⟩:=hc;simp only[gB,Vu]at hr;obtain⟨cells,hcells,rfl⟩:=hr;obtain⟨hlen,hpl⟩:=QJ (P:=P) hs ps.toList l hl;have hz0:VL G w (z.cells.toList.map iP) z.cells:=VL.aC G w z.cells;obtain⟨us,hus,hVL⟩:=Ku (G:=G) (w:=w) (λi=>(fs.map λf=>(f.offset,P.cellsOf f.type))[i]?) (ps.toList.map fun (i,x)=>(i,a.eval x)) (l.map λp=>(p.1,p.2.1,g p.2.2)) _ z.cells cells hz0
   (by simp[hlen]) hpl hcells
  refine up ⟨.agg us,?_,.aJ _ _ hVL.1 hVL.2⟩;have hm:(fs.mapM λf=>do pure (f.offset,<- Go.sizeOf f.type):Sem (Array (Nat×Nat))).run P w=.ok (fs.map λf=>(f.offset,P.cellsOf f.type)) w:=by have:=SO (P:=P) (w:=w) fs.toList (λf h=>Ww.1 hall f h);rw[Array.mapM_eq_mapM_toList];have e:∀(x:Sem (List (Nat×Nat))),(Functor.map List.toArray x:Sem (Array (Nat×Nat))).run P w=(x.run P w).andThen λa w'=>.ok a.toArray w':=λx=>Sem.run_bind' P x _ w;rw[e,this,Result.andThen_ok];congr 1;apply Array.ext';simp
  have hpz:((ps.map fun (i,x)=>(i,a.eval x)).toList)=ps.toList.map fun (i,x)=>(i,a.eval x):=by simp
  simp only[Instr.build,Sem.run_bind,xH hz,Result.andThen_ok,run_underlying hu,hm,hpz,hus,Sem.run_pure]
 · -- load
  rename_i t x;split at hc;·rename_i b i hb hi;cases hc;simp only[gB]at hr;exact up (ER gm (hs x) hr (xG hb) (nz hi))
  ·cases hc
 · -- nilCheck
  rename_i x;cases hc;simp only[gB]at hr;have h0:=hs x;split at hr<;>rename_i hx<;>(try cases hr)<;>rw[hx]at h0<;>generalize hv:a.eval x=v at h0;·cases h0 with | aL _ _ _ _ b hn hb=>exact⟨_,by simp only[execOp,hv];rfl,.aL _ _ _ _ b hn hb⟩
  ·cases h0 with | aN _ _ b off f h1 h2 h3=>exact⟨_,by simp only[execOp,hv];rfl,.aN _ _ b off f h1 h2 h3⟩
  ·cases h0 with | aR _ _ v' h1=>exact⟨_,by simp only[execOp,hv];rfl,.aR _ _ _ h1⟩
  ·cases h0 with | aK _ _ us _ vs h1 h2 h3 h4=>exact⟨_,by simp only[execOp,hv];rfl,.aK _ _ us _ vs h1 h2 h3 h4⟩
 · -- binOp
  rename_i bop t x y yt;have sl:∀{b},n_ (g (tr x))=true -> jC (g (tr x))=some b -> ∀e,P.underlying t=some (.slice e) -> ∀oy,
    ((do eqGuard .eql t x oy (a.eval x) (.slice none 0 0);binOp .eql t (a.eval x) (.slice none 0 0):Sem Value).run P w=.ok (.bool b) w /\
    (do eqGuard .neq t x oy (a.eval x) (.slice none 0 0);binOp .neq t (a.eval x) (.slice none 0 0):Sem Value).run P w=.ok (.bool !b) w):=by
   intro b h1 h2 e hu oy;refine (KF (P:=P) (hs x) h2 hu x oy).resolve_right (λhne=>?_);have h0:=hs x;generalize hv:a.eval x=v at *;generalize g (tr x)=q at *;cases h0<;>simp[n_]at h1;·exact hne _ _ _ rfl
   ·exact hne _ _ _ rfl
   ·exact hne _ _ _ rfl
   ·exact hne _ _ _ rfl
   ·exact hne _ _ _ rfl
  split at hc
  ·split at hc
   ·cases hc;simp only[gB]at hr;rename_i e hu;split at hr;·rename_i hsl;simp only[Vu]at hr;obtain⟨b,hb,rfl⟩:=hr;refine up ⟨_,(sl hsl hb e hu _).1,?_⟩;cases b<;>exact .aF _
    ·cases hr
   ·cases hc;simp only[gB]at hr;rename_i e hu;split at hr;·rename_i hsl;simp only[Vu]at hr;obtain⟨b,hb,rfl⟩:=hr;refine up ⟨_,(sl hsl hb e hu _).2,?_⟩;cases b<;>exact .aF _
    ·cases hr
   ·cases hc
  ·split at hc<;>(try cases hc)<;>simp only[gB]at hr;·exact up (EF (hs x) (hs y) hr t x y)
   ·exact up (EF (hs x) (hs y) hr t x y)
   ·rename_i hu;split at hr;·rename_i p q hp hq;have h1:=hs x;have h2:=hs y;rw[hp]at h1;rw[hq]at h2;generalize hv1:a.eval x=v1 at h1;generalize hv2:a.eval y=v2 at h2;cases h1;cases h2;have:=up (K8 (P:=P) (G:=G) (w:=w) hr t x y hu);simp only[execOp,hv1,hv2];exact this
    ·cases hr
 · -- not
  rename_i t x;cases hc;simp only[gB]at hr;split at hr;·rename_i b hb;cases hr;have h1:=hs x;rw[hb]at h1;generalize hv1:a.eval x=v1 at h1;cases h1;exact⟨_,by simp only[execOp,hv1,Op.unary,Sem.run_bind,Sem.run_pure,Result.andThen_ok],.aF _⟩
  ·cases hr
 · -- neg
  rename_i t x;cases hc;simp only[gB]at hr;split at hr;·rename_i k n hb;cases hr;have h1:=hs x;rw[hb]at h1;generalize hv1:a.eval x=v1 at h1;cases h1;exact⟨_,by simp only[execOp,hv1,Op.unary,Op.intArith,Sem.run_bind,Sem.run_pure,Result.andThen_ok],.aB _ _⟩
  ·cases hr
 · -- convert
  rename_i s d x;split at hc<;>(try cases hc);rename_i k' k hu hd;simp only[gB]at hr;split at hr;·rename_i k0 n hb;cases hr;have h1:=hs x;rw[hb]at h1;generalize hv1:a.eval x=v1 at h1;cases h1;exact⟨_,by simp only[execOp,hv1,convert,run_underlying hu,run_underlying hd,Conv.intToInt,Sem.run_bind,Sem.run_pure,Result.andThen_ok],.aB _ _⟩
  ·cases hr
 · -- slice
  rename_i t x lo hi mx;split at hc<;>(try cases hc);rename_i e he;split at hc<;>(try cases hc);rename_i i hinf;split at hc<;>(try cases hc);rename_i hmx;simp only[gB]at hr;split at hr
  ·rename_i lo' hi' mx' h1 h2 h3;obtain⟨k1,e1⟩:=C9 hs h1;obtain⟨k2,e2⟩:=C9 hs h2;obtain⟨k3,e3⟩:=C9 hs h3;have:=KS (P:=P) (hs x) hr k1 k2 k3 (by
    intro hm;cases mx with
    | none=>simp[kV]at h3;subst h3;simp at hm
    | some _=>cases hi with
     | none=>simp at hmx
     | some _=>cases hi' with
      | none=>simp at e2
      | some _=>rfl) (pg he) (nz hinf)
   have:=up this;simp only[execOp,e1,e2,e3];exact this
  ·cases hr
 · -- fieldAddr
  rename_i t x k;split at hc<;>(try cases hc);rename_i fs hu;split at hc<;>(try cases hc);rename_i f hf;split at hc<;>(try cases hc);rename_i i hi;split at hc<;>(try cases hc);rename_i h0;simp only[gB]at hr;exact up (Kq (hs x) hr hu hf rfl (nz hi) h0)
 · -- indexAddr
  rename_i t x i;split at hc<;>(try cases hc);rename_i e he;split at hc<;>(try cases hc);rename_i inf hi;simp only[gB]at hr;exact up (KB (hs x) (hs i) hr (pg he) (nz hi))
 · -- extract
  rename_i x i;cases hc;simp only[gB]at hr;split at hr
  ·rename_i cs hx;have h1:=hs x;rw[hx]at h1;generalize hv1:a.eval x=v1 at h1;cases h1 with
   | aM _ vs hl hV=>
    have hlt:=(U_.1 hr).1;have hv:vs[i]?=some (vs[i]'(by rw[<- hl];exact hlt)):=by simp[<- hl,hlt]
    exact⟨_,by simp only[execOp,hv1,Instr.extract,hv,Sem.run_bind,Sem.run_pure,Result.andThen_ok],hV i r _ hr hv⟩
  ·cases hr
 · -- len
  rename_i args argTypes;split at hc<;>(try cases hc);rename_i x t hargs htys;obtain⟨rfl⟩:args=#[x]:=by cases args;simp at hargs;simp[hargs]
  obtain⟨rfl⟩:argTypes=#[t]:=by cases argTypes;simp at htys;simp[htys]
  have h1:=hs x;split at hc<;>(try cases hc)<;>rename_i hu<;>simp only[gB]at hr;·obtain⟨u,hu',hV⟩:=KC (P:=P) h1 hr hu type;refine⟨u,?_,hV⟩;rw[pV];simp only[builtin,Xi,VS,Wg,Sem.run_bind,hu',Result.andThen_ok,Sem.run_pure]
  ·split at hr;·rename_i s hq;cases hr;rw[hq]at h1;generalize hv1:a.eval x=v1 at h1;cases h1;refine⟨.int .i64 s.size,?_,.aB _ _⟩;rw[pV];simp only[builtin,Xi,VS,Wg,hv1,Builtin.len_,VW,VB,Sem.run_bind,run_underlying hu,Result.andThen_ok,Sem.run_pure,goInt]
   ·cases hr
 · -- min
  rename_i args ty;cases hc;simp only[gB]at hr;obtain⟨u,hu,hV⟩:=Hs (P:=P) (G:=G) (w:=w) false _ (args.toList.map a.eval) r hr (by simp) (VL.aA hs args.toList);refine⟨u,?_,hV⟩;rw[pV];simp only[builtin,Sem.run_bind];have:Builtin.min_ ty type (args.map a.eval)=Builtin.min_ #[] 0 (args.toList.map a.eval).toArray:=by simp[Builtin.min_]
  rw[this];simp only[VC,VO]at hu;simp[hu]
 · -- max
  rename_i args ty;cases hc;simp only[gB]at hr;obtain⟨u,hu,hV⟩:=Hs (P:=P) (G:=G) (w:=w) true _ (args.toList.map a.eval) r hr (by simp) (VL.aA hs args.toList);refine⟨u,?_,hV⟩;rw[pV];simp only[builtin,Sem.run_bind];have:Builtin.max_ ty type (args.map a.eval)=Builtin.max_ #[] 0 (args.toList.map a.eval).toArray:=by simp[Builtin.max_]
  rw[this];simp only[V3]at hu;simp[hu]
 · -- makeFunc
  rename_i f first caps;split at hc<;>(try cases hc);rename_i h0;simp only[gB,Vk]at hr;subst hr;have hf:first=#[]:=Wx h0;subst hf;refine⟨_,by simp only[execOp,Instr.makeFunc,Sem.run_bind,Sem.run_pure,Result.andThen_ok];rfl,?_⟩;have:((#[]:Array Operand).map a.eval)=#[]:=by simp
  rw[this];refine .aK _ _ _ _ _ rfl (λj c v h=>by simp at h) (by simp) (λj c v hc hv=>?_);exact VL.aA hs caps.toList j c v (by simpa using hc) (by simpa using hv)
 ·cases hc
theorem Nk {d:Nat}:∀(fs:List Field) (t:List (Nat×Bool)) (cs ds:List AV) (xs ys:Array Value) (r:Bool),qK P fs=some t -> VL G w cs xs -> VL G w ds ys ->
  mE t cs ds=some r -> (Op.eqFields (d+1) xs ys fs).run P w=.ok r w:=by
 intro fs;induction fs with
 | nil=>intro t cs ds xs ys r hp hx hy hr;simp only[qK,Vk]at hp;subst hp;simp only[mE,Vk]at hr;subst hr;rfl
 | cons f fs ih=>
  intro t cs ds xs ys r hp hx hy hr;simp only[qK]at hp;simp only[Op.eqFields];split at hp
  ·rename_i hn;rw[Vf hn];split at hp<;>(try cases hp)
   ·rename_i k rest hu u;simp only[mE]at hr;split at hr
    ·rename_i k1 a k2 b ha hb;obtain⟨v1,I,O⟩:=hx.aB ha;obtain⟨v2,E,M⟩:=hy.aB hb;cases O;cases M;split at hr
     ·rename_i hk;subst hk;have p1:(part f.type xs f.offset).run P w=.ok (.int k1 a) w:=by simp[part,isAgg,run_underlying hu,I]
      have p2:(part f.type ys f.offset).run P w=.ok (.int k1 b) w:=by simp[part,isAgg,run_underlying hu,E]
      simp only[Sem.run_bind,p1,p2,Result.andThen_ok,run_equalIn_int w d f.type k1 k a b hu];split at hr;·rename_i C;subst C;simp only[BEq.rfl,Vq,VC,VO];exact ih rest cs ds xs ys r u hx hy hr
      ·rename_i C;cases hr;simp only[beq_eq_false_iff_ne.2 C,Vt,V3,Sem.run_pure]
     ·cases hr
    ·cases hr
   ·rename_i rest hu u;simp only[mE]at hr;split at hr
    ·rename_i a b ha hb;obtain⟨v1,I,O⟩:=hx.aB ha;obtain⟨v2,E,M⟩:=hy.aB hb;cases O;cases M;have p1:(part f.type xs f.offset).run P w=.ok (.bool a) w:=by simp[part,isAgg,run_underlying hu,I]
     have p2:(part f.type ys f.offset).run P w=.ok (.bool b) w:=by simp[part,isAgg,run_underlying hu,E]
     simp only[Sem.run_bind,p1,p2,Result.andThen_ok,run_equalIn_bool w d f.type a b hu];split at hr;·rename_i C;subst C;simp only[BEq.rfl,Vq,VC,VO];exact ih rest cs ds xs ys r u hx hy hr
     ·rename_i C;cases hr;simp only[beq_eq_false_iff_ne.2 C,Vt,V3,Sem.run_pure]
    ·cases hr
  ·rename_i hn;rw[Ve hn];exact ih t cs ds xs ys r hp hx hy hr
theorem VL.aJ {cs:List AV}{vs:Array Value}(h:VL G w cs vs)(o n:Nat)(hn:o+n <= cs.length):VL G w ((cs.drop o).take n) (vs.extract o (o+n)):=by
 have:=h.1;refine⟨by simp;omega,λj c v hc hv=>?_⟩;rw[V_]at hc;split at hc
 ·rename_i hj;rw[Vz]at hc;rw[Array.getElem?_extract]at hv;split at hv;·exact h.2 _ c v hc hv
  ·cases hv
 ·cases hc
theorem U8 (hs:lL G w tr g a){o:Oper}{xo:rO}(hc:cX P tr o=some xo){r:AV}(hr:j8 g xo=some r):
  ∃v,(execOp a.eval o).run P w=.ok (.value v) w /\ V G w r v:=by
 obtain⟨dst,op,type,pos,after,guard⟩:=o;have up:∀{s:Sem Value},(∃v,s.run P w=.ok v w /\ V G w r v) -> ∃v,((do pure (.value (<- s)):Sem Next)).run P w=.ok (.value v) w /\ V G w r v:=by rintro s ⟨v,hv,hV⟩;exact⟨v,by simp[hv],hV⟩
 have bd:∀{q:Prop},j8 g .aA=some r -> q:=λh=>by simp[j8]at h
 unfold cX at hc;simp only at hc;split at hc
 ·rename_i bop t x y yt;split at hc
  ·rename_i e hu;have ptr:∀b,uL (g (tr x))=some b -> ∃p:Option Addr,a.eval x=.pointer p /\ p.isNone=b:=by
    intro b hb;have h0:=hs x;unfold uL at hb;split at hb<;>cases hb<;>rename_i hq<;>rw[hq]at h0<;>generalize a.eval x=v at h0<;>cases h0;·exact⟨none,rfl,rfl⟩
    ·exact⟨_,rfl,rfl⟩
    ·exact⟨_,rfl,rfl⟩
   have hc0:a.eval (.const (.pointer none))=.pointer none:=rfl;have hu':P.underlying t=some (.pointer (P.pointee t)):=by simp[Program.pointee,hu]
   split at hc
   ·split at hc<;>cases hc;·simp only[j8,Vu]at hr;obtain⟨b,hb,rfl⟩:=hr;obtain⟨p,hp,rfl⟩:=ptr b hb;refine up ⟨_,?_,.aF _⟩;simp only[hp,hc0,eqGuard_at_pointer,Sem.run_bind,Sem.run_pure,Result.andThen_ok,run_eql_pointer_nil w t p hu'];cases p<;>rfl
    ·simp only[j8,Vu]at hr;obtain⟨b,hb,rfl⟩:=hr;obtain⟨p,hp,rfl⟩:=ptr b hb;refine up ⟨_,?_,.aF _⟩;simp only[hp,hc0,eqGuard_at_pointer,Sem.run_bind,Sem.run_pure,Result.andThen_ok,run_neq_pointer_nil w t p hu'];cases p<;>rfl
    ·exact bd hr
   ·cases hc;exact bd hr
  ·rename_i fs hu;split at hc
   ·rename_i hh;have hu':P.underlying t=some (.struct (P.fieldsOf t)):=by simp[Program.fieldsOf,hu]
    have hfs:P.fieldsOf t=fs:=by simp[Program.fieldsOf,hu]
    have go:∀{l cs ds b},qK P fs.toList=some l -> g (tr x)=.aE cs -> g (tr y)=.aE ds -> mE l cs ds=some b ->
      ∃xs ys,a.eval x=.agg xs /\ a.eval y=.agg ys /\ (Op.equalIn 10000 t (.agg xs) (.agg ys)).run P w=.ok b w:=by
     intro l cs ds b hl hx hy hb;have h1:=hs x;have h2:=hs y;rw[hx]at h1;rw[hy]at h2;generalize a.eval x=v1 at *;generalize a.eval y=v2 at *;cases h1 with | aJ _ xs l1 V1=>cases h2 with | aJ _ ys l2 V2=>
     refine⟨xs,ys,rfl,rfl,?_⟩;rw[run_equalIn_struct w 9999 t xs ys hu' hh.1,hfs];exact Nk fs.toList l cs ds xs ys b hl ⟨l1,V1⟩ ⟨l2,V2⟩ hb
    split at hc<;>cases hc
    ·rename_i l hl;simp only[j8]at hr;split at hr;·rename_i cs ds hx hy;simp only[Vu]at hr;obtain⟨b,hb,rfl⟩:=hr;obtain⟨xs,ys,e1,e2,e3⟩:=go hl hx hy hb;refine up ⟨_,?_,.aF _⟩;simp only[e1,e2,Sem.run_bind,run_eqGuard_agg w _ t x y xs ys hh.2,Result.andThen_ok,run_eql_struct,e3];cases b<;>rfl
     ·cases hr
    ·rename_i l hl;simp only[j8]at hr;split at hr;·rename_i cs ds hx hy;simp only[Vu]at hr;obtain⟨b,hb,rfl⟩:=hr;obtain⟨xs,ys,e1,e2,e3⟩:=go hl hx hy hb;refine up ⟨_,?_,.aF _⟩;simp only[e1,e2,Sem.run_bind,run_eqGuard_agg w _ t x y xs ys hh.2,Result.andThen_ok,run_neq_struct,e3];cases b<;>rfl
     ·cases hr
    ·exact bd hr
   ·cases hc;exact bd hr
  ·cases hc;exact bd hr
 ·rename_i t x k;split at hc
  ·rename_i fs hu;split at hc
   ·rename_i f hf;split at hc
    ·rename_i i b hi hb;cases hc;simp only[j8]at hr;split at hr
     ·rename_i cs hx;have h1:=hs x;rw[hx]at h1;generalize hv1:a.eval x=v1 at h1;cases h1 with | aJ _ vs hl hV=>
      refine up ?_;split at hr
      ·rename_i hb';subst hb';split at hr;·rename_i hle;cases hr;have:=VL.aJ (G:=G) (w:=w) ⟨hl,hV⟩ f.offset i.size hle;refine⟨.agg (vs.extract f.offset (f.offset+i.size)),?_,.aJ _ _ this.1 this.2⟩;simp only[hv1,Instr.field,Sem.run_bind,run_underlying hu,Result.andThen_ok,hf,asAgg,Sem.run_pure,part,xG hb,V3,nz hi]
       ·cases hr
      ·rename_i hb';have hb'':b=false:=by simpa using hb'
       subst hb'';obtain⟨v,hv,hV'⟩:=VL.aB (G:=G) (w:=w) ⟨hl,hV⟩ hr;refine⟨v,?_,hV'⟩;simp only[hv1,Instr.field,Sem.run_bind,run_underlying hu,Result.andThen_ok,hf,asAgg,Sem.run_pure,part,xG hb,VC,VO,hv]
     ·cases hr
    ·cases hc;exact bd hr
   ·cases hc;exact bd hr
  ·cases hc;exact bd hr
 ·rename_i t x i;split at hc
  ·rename_i hu;cases hc;simp only[j8]at hr;split at hr
   ·rename_i s k n hx hi;have h1:=hs x;have h2:=hs i;rw[hx]at h1;rw[hi]at h2;generalize hv1:a.eval x=v1 at h1;generalize hv2:a.eval i=v2 at h2;cases h1;cases h2;split at hr;·rename_i h0;simp only[Vu]at hr;obtain⟨b,hb,rfl⟩:=hr;refine up ⟨_,?_,.aB _ _⟩;simp only[hv1,hv2,Instr.index,asIntOf,Sem.run_bind,Sem.run_pure,Result.andThen_ok,run_underlying hu,h0,V3,hb]
    ·cases hr
   ·cases hr
  ·cases hc;exact bd hr
 ·rename_i f first caps;cases hc;simp only[j8,Vk]at hr;subst hr;refine⟨_,by simp only[execOp,Instr.makeFunc,Sem.run_bind,Sem.run_pure,Result.andThen_ok];rfl,?_⟩;have h1:=VL.aA hs first.toList;have h2:=VL.aA hs caps.toList;exact .aK _ _ _ _ _ (by simp) (λj c v hc hv=>h1 j c v (by simpa using hc) (by simpa using hv)) (by simp) (λj c v hc hv=>h2 j c v (by simpa using hc) (by simpa using hv))
 ·rename_i args argTypes;split at hc
  ·rename_i x t hargs htys;obtain⟨rfl⟩:args=#[x]:=by cases args;simp at hargs;simp[hargs]
   obtain⟨rfl⟩:argTypes=#[t]:=by cases argTypes;simp at htys;simp[htys]
   split at hc
   ·rename_i e hu;cases hc;have key:∀(q:Option Addr)(l c:Nat),a.eval x=.slice q l c -> (execOp a.eval {dst,op:=.call {callee:=.builtin .cap,args:=#[x],argTypes:=#[t]},type,pos,after,guard}).run P w=.ok (.value (.int .i64 c)) w:=by intro q l c hq;rw[pV];simp only[builtin,Xi,VS,Wg,hq,Builtin.cap_,VW,VB,Sem.run_bind,run_underlying hu,Result.andThen_ok,Sem.run_pure,goInt]
    have h0:=hs x;simp only[j8]at hr;split at hr<;>(try cases hr)<;>rename_i hx<;>rw[hx]at h0<;>generalize hq:a.eval x=v at h0;·cases h0;exact⟨_,key _ _ _ hq,.aB _ _⟩
    ·cases h0 with
     | aC _ _ _ _ _ c ty m b h1 h2 h3 h4=>have:=h4 _ rfl;subst this;exact⟨_,key _ _ _ hq,.aB _ _⟩
     | aG _ _ _ h1 h2 h3=>have:=h3 _ rfl;subst this;exact⟨_,key _ _ _ hq,.aB _ _⟩
    ·cases h0 with
     | aD _ _ _ _ ad cap f h1 h2=>have:=h2 rfl;subst this;exact⟨_,key _ _ _ hq,.aB _ _⟩
     | aE=>exact⟨_,key _ _ _ hq,.aB _ _⟩
   ·cases hc;exact bd hr
  ·cases hc;exact bd hr
 ·cases hc
 ·split at hc;·cases hc
  ·cases hc;exact bd hr
theorem Iu (gm:fS G w h)(hs:lL G w tr g a){o:Oper}{ro:mZ}(hc:cR P tr o=some ro){r:AV}(hr:gB g h ro=some r):
  ∃v,(execOp a.eval o).run P w=.ok (.value v) w /\ V G w r v:=by
 unfold cR at hc;split at hc;·rename_i r' h';cases hc;exact Ss gm hs h' hr
 ·simp only[Vu]at hc;obtain⟨xo,hx,rfl⟩:=hc;exact U8 hs hx (by simpa [gB] using hr)
theorem OQ:∀(ps:List (Nat×Operand)) (k:Nat),sE k ps=true -> ∀(j i:Nat)(x:Operand),ps[j]?=some (i,x) -> i=k+j:=by
 intro ps;induction ps with
 | nil=>intro k _ j i x h;simp at h
 | cons p ps ih=>
 intro k hk j i x h;obtain⟨i0,x0⟩:=p;simp only[sE,VF,beq_iff_eq]at hk;cases j with
 | zero=>simp at h;omega
 | succ j=>have:=ih (k+1) hk.2 j i x (by simpa using h);omega
theorem Lv {sz:Nat}:∀(xs:List AV) (es:List (List AV)),lS sz xs=some es ->
  es.length=xs.length /\ iT sz es /\ ∀(j:Nat)(e:List AV)(x:AV),es[j]?=some e -> xs[j]?=some x -> x.aK=some e:=by
 intro xs;induction xs with
 | nil=>intro es h;simp only[lS,Vk]at h;subst h;exact⟨rfl,λe he=>by simp at he,λj e x h=>by simp at h⟩
 | cons x xs ih=>
  intro es h;simp only[lS]at h;split at h
  ·rename_i cs u t b;split at h
   ·rename_i hh;cases h;obtain⟨h1,h2,h3⟩:=ih u b;refine⟨by simp[h1],λe he=>?_,λj e y he hy=>?_⟩
    ·rcases VR.1 he with rfl | he;·exact hh
     ·exact h2 e he
    ·cases j with
     | zero=>simp at he hy;subst he;subst hy;exact t
     | succ j=>exact h3 j e y (by simpa using he) (by simpa using hy)
   ·cases h
  ·cases h
theorem Nn {sz:Nat}:∀(vs:List (Nat×Value)) (k:Nat) (es:List (List AV)) (cells:Array Value),vs.length=es.length ->
  (∀(j i:Nat)(v:Value),vs[j]?=some (i,v) -> i=k+j) -> (k+vs.length)*sz <= cells.size ->
  (∀(j i:Nat)(v:Value)(e:List AV),vs[j]?=some (i,v) -> es[j]?=some e -> VL G w e v.cells /\ e.length=sz) ->
  ∃us,Instr.fill (λi=>some (i*sz,sz)) cells vs=some us /\ us.size=cells.size /\ (∀p,p<k*sz -> us[p]?=cells[p]?) /\
   ∀i j c,gi es i j=some c -> ∃v,us[(k+i)*sz+j]?=some v /\ V G w c v:=by
 intro vs;induction vs with
 | nil=>intro k es cells hl _ _ _;have:es=[]:=Vl (by simpa using hl.symm);subst this;exact⟨cells,rfl,rfl,λ_ _=>rfl,λi j c h=>by simp[gi]at h⟩
 | cons p vs ih=>
  intro k es cells hl hk hsz hV;obtain⟨i0,v0⟩:=p;cases es with
  | nil=>simp at hl
  | cons e es=>
   have hi0:i0=k:=by have:=hk 0 i0 v0 rfl;omega
   subst hi0;obtain⟨hv0,he0⟩:=hV 0 i0 v0 e rfl rfl;have hvsz:v0.cells.size=sz:=by rw[<- hv0.1,he0]
   generalize hnew:(v0.cells.zipIdx.foldl (λcs (c,j)=>cs.setIfInBounds (i0*sz+j) c) cells)=new;have row:∀(l:List Value)(q:Nat)(cs:Array Value),i0*sz+q+l.length <= cs.size ->
     ((l.zipIdx q).foldl (λcs (c,j)=>cs.setIfInBounds (i0*sz+j) c) cs).size=cs.size /\
     ∀p,((l.zipIdx q).foldl (λcs (c,j)=>cs.setIfInBounds (i0*sz+j) c) cs)[p]?=if i0*sz+q <= p /\ p<i0*sz+q+l.length then l[p-(i0*sz+q)]? else cs[p]?:=by
    intro l;induction l with
    | nil=>intro q cs _;exact⟨rfl,λp=>by simp;omega⟩
    | cons c l ihl=>
     intro q cs hq;simp only[List.zipIdx_cons,W8,VD]at hq ⊢;obtain⟨a1,a2⟩:=ihl (q+1) (cs.setIfInBounds (i0*sz+q) c) (by simp;omega);refine⟨by simpa using a1,λp=>?_⟩;rw[a2];by_cases hp:p=i0*sz+q;·subst hp;rw[Ve (by omega),Vf (by omega),Array.getElem?_setIfInBounds_self_of_lt (by omega)];simp
     ·rw[WH (λe=>hp e.symm)];by_cases hp2:i0*sz+(q+1) <= p /\ p<i0*sz+(q+1)+l.length;·rw[Vf hp2,Vf (by omega),show p-(i0*sz+q)=(p-(i0*sz+(q+1)))+1 by omega,VZ]
      ·rw[Ve hp2,Ve (by omega)]
   have hmul:(i0+(vs.length+1))*sz=i0*sz+sz+vs.length*sz:=by rw[WR,Nat.succ_mul];omega
   simp only[VD]at hsz;obtain⟨n1,n2⟩:=row v0.cells.toList 0 cells (by simp[hvsz];omega);have hnew':((v0.cells.toList.zipIdx 0).foldl (λcs (c,j)=>cs.setIfInBounds (i0*sz+j) c) cells)=new:=by rw[<- hnew,<- Array.foldl_toList];simp
   rw[hnew']at n1 n2;obtain⟨us,h1,h2,h3,h4⟩:=ih (i0+1) es new (by simpa using hl) (λj i v h=>by have:=hk (j+1) i v (by simpa using h);omega) (by rw[n1,show i0+1+vs.length=i0+(vs.length+1) by omega];exact hsz)
    (λj i v e a b=>hV (j+1) i v e (by simpa using a) (by simpa using b))
   refine⟨us,?_,by rw[h2,n1],λp hp=>?_,λi j c hc=>?_⟩;·simp only[Instr.fill,hvsz,hnew];rw[Ve (by simp;omega)];exact h1
   ·rw[h3 p (by rw[WR];omega),n2,Ve (by omega)]
   ·cases i with
    | zero=>
     simp only[gi,VB,Wp]at hc;have hj:=(U_.1 hc).1;obtain⟨v,hv,hVc⟩:=hv0.aB hc;refine⟨v,?_,hVc⟩;have hjs:j<sz:=by omega
     rw[h3 _ (by rw[WU,Nat.succ_mul];omega),n2,Vf (by simp[hvsz];omega)];simp only[WU,Array.getElem?_toList];rw[show i0*sz+j-i0*sz=j by omega];exact hv
    | succ i=>obtain⟨v,hv,hVc⟩:=h4 i j c (by simpa [gi] using hc);exact⟨v,by rw[show i0+(i+1)=i0+1+i by omega];exact hv,hVc⟩
def rA (P:Program)(s:Sem Next)(G:Gh)(w:World)(r:AV)(h':eZ):Prop:=
 ∃n v w' G',s.run P w=.ok n w' /\ (n=.value v \/ (n=.skip /\ v=undef)) /\ fS G' w' h' /\ V G' w' r v /\ gE G w G' w'
theorem rA.of {s:Sem Value}{r:AV}{h':eZ}(hd:mg P s G w r h'):rA P (do pure (.value (<- s)):Sem Next) G w r h':=by obtain⟨v,w',G',h1,h2,h3,h4⟩:=hd;exact⟨.value v,v,w',G',by simp[h1],.inl rfl,h2,h3,h4⟩
def pP (a:Act)(ps:List (Nat×Operand)):List (Nat×Value):=ps.map λp=>(p.1,a.eval p.2)
def xg (a:Act)(ps:Array (Nat×Operand)):Array (Nat×Value):=ps.map λp=>(p.1,a.eval p.2)
theorem EZ (hs:lL G w tr g a){ps:List (Nat×Operand)}{len sz:Nat}{es:List (List AV)}(hord:sE 0 ps=true)(hlen:ps.length=len)(hel:es.length=len)(hok:iT sz es)
  (hce:∀(j:Nat)(e:List AV)(x:AV),es[j]?=some e -> ((ps.map λp=>tr p.2).map g)[j]?=some x -> x.aK=some e) (Z:Array Value) (hZ:Z.size=len*sz):
  ∃us,Instr.fill (λi=>some (i*sz,sz)) Z (pP a ps)=some us /\ us.size=len*sz /\ ∀i j c,gi es i j=some c -> ∃v,us[i*sz+j]?=some v /\ V G w c v:=by
 obtain⟨us,hus,husz,_,hV⟩:=Nn (G:=G) (w:=w) (sz:=sz) (pP a ps) 0 es Z (by simp[pP,hel,hlen])
  (λj i v hj=>by simp only[pP,VE,Vu]at hj;obtain⟨⟨i',x⟩,hj,hq⟩:=hj;obtain⟨rfl,rfl⟩:=Prod.mk.inj hq;exact OQ _ _ hord j i' x hj)
  (by simp[pP,hlen,hZ])
  (λj i v e hj he=>by simp only[pP,VE,Vu]at hj;obtain⟨⟨i',x⟩,hj,hq⟩:=hj;obtain⟨rfl,rfl⟩:=Prod.mk.inj hq;have hce':=hce j e (g (tr x)) he (by simp[hj]);exact⟨(hs x).aS hce',(hok e (WQ he)).1⟩)
 exact⟨us,hus,by rw[husz,hZ],λi j c hc=>by have:=hV i j c hc;rwa [WT]at this⟩
theorem Lh (hs:lL G w tr g a){ps:Array (Nat×Operand)}{t e:TypeId}{len sz b:Nat}{z:Value}{es:List (List AV)}(he:nX P t=some e)(hz:mQ P e=some (sz,b,z))
  (hzsz:z.cells.size=sz) (hbig:len*sz <= 2^24) (hord:sE 0 ps.toList=true) (hlen:ps.size=len) (hel:es.length=len) (hok:iT sz es)
  (hce:∀(j:Nat)(e:List AV)(x:AV),es[j]?=some e -> ((ps.toList.map λp=>tr p.2).map g)[j]?=some x -> x.aK=some e):
  LD P (Instr.buildSlice t len (xg a ps)) G w (λnm=>.aF nm sz 0 len (some len)) sz es false:=by
 obtain⟨i,hi,hisz,_,_⟩:=xj hz;have hno:¬(len*sz>2^24):=Nat.not_lt.2 hbig;have hpz:(xg a ps).toList=pP a ps.toList:=by simp[xg,pP]
 have mk:∀us:Array Value,us.size=len*sz -> (∀i j c,gi es i j=some c -> ∃v,us[i*sz+j]?=some v /\ V G w c v) ->
   LD P (do pure (.slice (some (<- newRow e us)) len len)) G w (λnm=>.aF nm sz 0 len (some len)) sz es false:=by
  intro us husz hV;exact Hu (P:=P) (cells:=us) (sz:=sz) (es:=es) (gr:=false) e hok (by rw[husz,hel];exact Vg _) (λ_=>by rw[husz,hel])
    hV len len (some len) (Vg _) (λk hk=>by cases hk;rfl) (by rw[husz];exact Vg _)
 by_cases h0:len*sz=0
 ·obtain⟨us,hus,husz,hV⟩:=EZ hs hord (by simpa using hlen) hel hok hce ((Array.range (len*sz)).map λk=>(#[]:Array Value)[k % (#[]:Array Value).size]!) (by simp);obtain⟨cells,ty,v,h1,h2⟩:=mk us husz hV;refine⟨cells,ty,v,?_,h2⟩;rw[<- h1];simp only[Instr.buildSlice,Sem.run_bind,run_underlying (pg he),Result.andThen_ok,nz hi,hisz,Sem.run_ite,Ve hno,hpz,Vf h0,Sem.run_pure,hus]
 ·obtain⟨us,hus,husz,hV⟩:=EZ hs hord (by simpa using hlen) hel hok hce ((Array.range (len*sz)).map λk=>z.cells[k % z.cells.size]!) (by simp);obtain⟨cells,ty,v,h1,h2⟩:=mk us husz hV;refine⟨cells,ty,v,?_,h2⟩;rw[<- h1];simp only[Instr.buildSlice,Sem.run_bind,run_underlying (pg he),Result.andThen_ok,nz hi,hisz,Sem.run_ite,Ve hno,hpz,Ve h0,Sem.run_pure,xH hz,hus]
theorem PT {t e:TypeId}{sz b:Nat}{z:Value}(he:nX P t=some e)(hz:mQ P e=some (sz,b,z))(u:z.cells.size=sz)(hb:0<b)
  (a2:(z.cells.toList.map iP).all AV.aG=true) {k1 k2:IntKind} {l c:Int} (h0:0 <= l) (hlc:l <= c) (hbig:c*b <= 2^46):
  LD P (Instr.makeSlice t (.int k1 l) (.int k2 c)) G w (λnm=>.aF nm sz 0 l.toNat (some c.toNat)) sz (List.replicate c.toNat (z.cells.toList.map iP)) false:=by
 obtain⟨i,hi,C,a3,_⟩:=xj hz;have I:c <= 2^46:=by have:c*1 <= c*b:=Int.mul_le_mul_of_nonneg_left (by omega) (by omega);omega
 have M:=xQ h0 (by omega);have O:=xQ (c:=c) (by omega) I;have hbig':¬((i.bytes:Int)*c>2^48):=by
  have e2:(2:Int)^46=70368744177664:=by decide
  have e3:(2:Int)^48=281474976710656:=by decide
  rw[a3,Int.mul_comm];omega
 have U:iT sz (List.replicate c.toNat (z.cells.toList.map iP)):=by intro e he;rw[List.mem_replicate]at he;rw[he.2];exact⟨by simp[u],a2⟩
 have mk:∀us:Array Value,us.size=c.toNat*sz -> (∀k,k<c.toNat*sz -> us[k]?=z.cells[k % sz]?) ->
   LD P (do pure (.slice (some (<- newRow e us)) l.toNat c.toNat)) G w (λnm=>.aF nm sz 0 l.toNat (some c.toNat)) sz (List.replicate c.toNat (z.cells.toList.map iP)) false:=by
  intro us E hk;refine Hu (P:=P) (cells:=us) (sz:=sz) (gr:=false) e U (by simp[E]) (λ_=>by simp[E]) (λi j cc hc=>?_) l.toNat c.toNat (some c.toNat) (by omega) (λk hk=>by cases hk;rfl) (by rw[E];exact Vg _);obtain⟨hi,hj⟩:=nZ U hc;rw[WZ]at hi;have hlt:=pM (n:=c.toNat) hi hj;have W:j<z.cells.size:=by omega
  simp only[gi,WE,hi,V3,Wp,VE]at hc;have a0:z.cells.toList[j]?=some z.cells[j]:=by simp[W]
  rw[a0]at hc;simp only[Wi,Vk]at hc;subst hc;refine⟨z.cells[j],?_,V.aT G w _⟩;rw[hk _ hlt,Nat.mul_comm,Nat.mul_add_mod,Nat.mod_eq_of_lt hj];simp[W]
 by_cases hn:c.toNat*sz=0
 ·obtain⟨cells,ty,v,h1,h2⟩:=mk ((Array.range (c.toNat*sz)).map λk=>(#[]:Array Value)[k % (#[]:Array Value).size]!) (by simp) (λk hk=>by omega);refine⟨cells,ty,v,?_,h2⟩;rw[<- h1];simp only[Instr.makeSlice,Sem.run_bind,run_underlying (pg he),Result.andThen_ok,asInt,asIntOf,Sem.run_pure,run_typeInfo w hi,M,O];rw[Ve (by simp;omega)];simp only[Sem.run_bind,Sem.run_pure,Result.andThen_ok,run_askRoom,nz hi,C,Sem.run_ite,Vf hn]
 ·obtain⟨cells,ty,v,h1,h2⟩:=mk ((Array.range (c.toNat*sz)).map λk=>z.cells[k % z.cells.size]!) (by simp) (λk hk=>by have a1:0<sz:=Nat.pos_of_ne_zero (λh=>hn (by rw[h,Nat.mul_zero]));have:=Nat.mod_lt k a1;simp[hk,u];rw[getElem!_pos z.cells (k % sz) (by omega)];simp[u,this]);refine⟨cells,ty,v,?_,h2⟩;rw[<- h1];simp only[Instr.makeSlice,Sem.run_bind,run_underlying (pg he),Result.andThen_ok,asInt,asIntOf,Sem.run_pure,run_typeInfo w hi,M,O];rw[Ve (by simp;omega)];simp only[Sem.run_bind,Sem.run_pure,Result.andThen_ok,run_askRoom,nz hi,C,Sem.run_ite,Ve hn,xH hz]
theorem Hj (hs:lL G w tr g a){o:Oper}{ho:mU}(hc:cH P tr o=some ho){nm:Nat}{r:AV}{sz:Nat}{es:List (List AV)}{gr:Bool}(hr:iW g nm ho=some (r,.aA sz es gr)):
  ∃(s:Sem Value)(a0:Nat -> AV),execOp a.eval o=(do pure (.value (<- s))) /\ a0 nm=r /\ LD P s G w a0 sz es gr:=by
 obtain⟨dst,op,type,pos,after,guard⟩:=o;unfold cH at hc;simp only at hc;split at hc
 · -- alloc
  rename_i t;split at hc<;>(try cases hc);rename_i O b z hz;split at hc<;>(try cases hc);rename_i I;simp only[iW,Vk,V9,fh.aA.injEq]at hr;obtain⟨rfl,rfl,rfl,rfl⟩:=hr;refine⟨Instr.alloc t true (.tuple #[]),λnm=>.aC nm (z.cells.toList.map iP).length 0 0,rfl,rfl,?_⟩;obtain⟨cells,ty,v,h1,h2⟩:=Hv (P:=P) (v:=z) (VL.aC G w z.cells) I t;refine⟨cells,ty,v,?_,h2⟩;simp only[Instr.alloc,Sem.run_bind,xH hz,Result.andThen_ok];exact h1
 · -- box
  rename_i t x;cases hc;simp only[iW]at hr;split at hr
  ·rename_i cs a6;split at hr;·rename_i I;simp only[Vk,V9,fh.aA.injEq]at hr;obtain⟨rfl,rfl,rfl,rfl⟩:=hr;exact⟨Instr.box t (a.eval x),λnm=>.aC nm cs.length 0 0,rfl,rfl,Hv (P:=P) ((hs x).aS a6) I t⟩
   ·cases hr
  ·cases hr
 · -- buildSlice
  rename_i t len ps;split at hc<;>(try cases hc);rename_i e he;split at hc<;>(try cases hc);rename_i O b z hz;split at hc<;>(try cases hc);rename_i u;simp only[VF,beq_iff_eq,V4]at u;obtain⟨⟨⟨U,M⟩,C⟩,E⟩:=u;simp only[iW]at hr;split at hr
  ·rename_i a9 a4;simp only[Vk,V9,fh.aA.injEq]at hr;obtain⟨rfl,rfl,rfl,rfl⟩:=hr;obtain⟨a5,a1,a8⟩:=Lv _ _ a4;simp at a5;have W:a9.length=len:=by omega
   have a3:(ps.toList.map λp=>tr p.2).length=len:=by simp[M]
   refine⟨Instr.buildSlice t len (xg a ps),λnm=>.aF nm O 0 len (some len),rfl,by rw[a3],?_⟩;exact Lh hs he hz C E U M W a1 a8
  ·cases hr
 · -- makeSlice
  rename_i t l c;split at hc<;>(try cases hc);rename_i e he;split at hc<;>(try cases hc);rename_i O b z hz;split at hc<;>(try cases hc);rename_i u;obtain⟨C,hb,I⟩:=u;simp only[iW]at hr;split at hr
  ·rename_i k1 l' k2 c' hl a7;split at hr;·rename_i hh;obtain⟨h0,a2,E⟩:=hh;simp only[Vk,V9,fh.aA.injEq]at hr;obtain⟨rfl,rfl,rfl,rfl⟩:=hr;have v1:=hs l;have v2:=hs c;rw[hl]at v1;rw[a7]at v2;generalize hv1:a.eval l=x1 at v1;generalize hv2:a.eval c=x2 at v2;cases v1;cases v2;refine⟨Instr.makeSlice t (.int k1 l') (.int k2 c'),λnm=>.aF nm O 0 l'.toNat (some c'.toNat),by simp only[execOp,hv1,hv2],rfl,PT (P:=P) (k1:=k1) (k2:=k2) he hz C hb I h0 a2 E⟩
   ·cases hr
  ·cases hr
 ·split at hc<;>(try cases hc);simp[iW]at hr
 ·split at hc<;>(try cases hc);split at hc<;>(try cases hc);split at hc<;>(try cases hc);split at hc<;>(try cases hc);split at hc<;>(try cases hc);·simp[iW]at hr
  ·split at hc<;>(try cases hc);simp[iW]at hr
 ·split at hc<;>(try cases hc);split at hc<;>(try cases hc);split at hc<;>(try cases hc);split at hc<;>(try cases hc);simp[iW]at hr
 ·cases hc
theorem CK {ho:mU}{nm:Nat}{r:AV}{b:fh}(hr:iW g nm ho=some (r,b)):∃sz es gr,b=.aA sz es gr:=by cases ho<;>simp only[iW]at hr;all_goals (repeat' split at hr);all_goals simp only[Vk,V9,reduceCtorEq]at hr;all_goals exact⟨_,_,_,hr.2.symm⟩
theorem G6 (gm:fS G w h)(hs:lL G w tr g a){o:Oper}{ho:mU}(hc:cH P tr o=some ho){r:AV}{h':eZ}(hr:jE g h ho=some (r,h')):
  rA P (execOp a.eval o) G w r h':=by
 have light:∀{b:fh},iW g h.length ho=some (r,b) -> h'=h++[some b] -> rA P (execOp a.eval o) G w r h':=by rintro b hb rfl;obtain⟨sz,es,gr,rfl⟩:=CK hb;obtain⟨s,mkv,he,hm,hl⟩:=Hj (P:=P) hs hc hb;rw[he,<- hm];exact rA.of (hl.aA gm)
 have light':(match iW g h.length ho with | some (v,b)=>some (v,h++[some b]) | none=>none)=some (r,h') -> rA P (execOp a.eval o) G w r h':=by
  intro hq;split at hq;·rename_i v b hb;simp only[Vk,V9]at hq;obtain⟨rfl,rfl⟩:=hq;exact light hb rfl
  ·cases hq
 obtain⟨dst,op,type,pos,after,guard⟩:=o;have hc0:=hc;unfold cH at hc;simp only at hc;split at hc;·split at hc<;>(try cases hc);split at hc<;>(try cases hc);exact light' hr
 ·cases hc;exact light' hr
 ·split at hc<;>(try cases hc);split at hc<;>(try cases hc);split at hc<;>(try cases hc);exact light' hr
 ·split at hc<;>(try cases hc);split at hc<;>(try cases hc);split at hc<;>(try cases hc);exact light' hr
 · -- store
  rename_i t p x;split at hc<;>(try cases hc);rename_i i hi;simp only[jE,Vu]at hr;obtain⟨h1,hst,hq⟩:=hr;obtain⟨rfl,rfl⟩:=Prod.mk.inj hq;obtain⟨w',hrun,hg,hstp⟩:=KU (P:=P) gm (hs p) (hs x) hst (nz hi);exact⟨.skip,undef,w',G,by simp only[execOp,Sem.run_bind,hrun,Result.andThen_ok,Sem.run_pure],.inr ⟨rfl,rfl⟩,hg,.aI _,hstp⟩
 · -- append
  rename_i args tys;split at hc<;>(try cases hc);rename_i x y s t hargs htys;obtain⟨rfl⟩:args=#[x,y]:=by cases args;simp at hargs;simp[hargs]
  obtain⟨rfl⟩:tys=#[s,t]:=by cases tys;simp at htys;simp[htys]
  split at hc<;>(try cases hc);rename_i e he;split at hc<;>(try cases hc);rename_i sz b z hz;split at hc<;>(try cases hc);rename_i hcond;obtain⟨i,hi,hisz,hib,hiz⟩:=xj hz;split at hc<;>(try cases hc);·rename_i e' hu';simp only[jE]at hr;have T:u0 P s t e sz b i z:=⟨pg he,⟨e',hu'⟩,hi,hisz,hib,hiz,hcond.2,hcond.1⟩;obtain⟨v,w',G',h1,h2,h3,h4⟩:=Kh (P:=P) gm (hs x) (hs y) hr T type;refine⟨.value v,v,w',G',?_,.inl rfl,h2,h3,h4⟩;rw[pV];simp only[builtin,Xi,VS,Wg,Sem.run_bind,h1,Result.andThen_ok,Sem.run_pure]
  ·rename_i k' hu';split at hc<;>(try cases hc);rename_i hsc;simp only[jE]at hr;have T:u_ P s t e sz b i z:=⟨pg he,⟨k',hu'⟩,hi,hisz,hib,hiz,hcond.2,hcond.1⟩;obtain⟨v,w',G',h1,h2,h3,h4⟩:=Kg (P:=P) gm (hs x) (hs y) T hsc hr type;refine⟨.value v,v,w',G',?_,.inl rfl,h2,h3,h4⟩;rw[pV];simp only[builtin,Xi,VS,Wg,Sem.run_bind,h1,Result.andThen_ok,Sem.run_pure]
 · -- clear
  rename_i args tys;split at hc<;>(try cases hc);rename_i x s hargs htys;obtain⟨rfl⟩:args=#[x]:=by cases args;simp at hargs;simp[hargs]
  obtain⟨rfl⟩:tys=#[s]:=by cases tys;simp at htys;simp[htys]
  split at hc<;>(try cases hc);rename_i e he;split at hc<;>(try cases hc);rename_i sz b z hz;split at hc<;>(try cases hc);rename_i hcond;obtain⟨i,hi,hisz,hib,hiz⟩:=xj hz;simp only[jE,Vu]at hr;obtain⟨h1,hst,hq⟩:=hr;obtain⟨rfl,rfl⟩:=Prod.mk.inj hq;obtain⟨w',hrun,hg,hstp⟩:=Kl (P:=P) gm (hs x) (pg he) hi hiz hcond.1 hcond.2 hst type;refine⟨.value (.tuple #[]),.tuple #[],w',G,?_,.inl rfl,hg,.aM _ _ rfl (λj c v h=>by simp at h),hstp⟩;rw[pV];simp only[builtin,Xi,VS,Wg,Sem.run_bind,hrun,Result.andThen_ok,Sem.run_pure]
 ·cases hc
end
end Glb
/-
 A library of its own,for whatever program: code,and what is to be shown of it.
-/
namespace Glb
open Go
abbrev fY:=List (Nat×AV)
def lk (s:Nat):fY -> AV
 | []=>.aR
 | (t,v) :: r=>if t=s then v else lk s r
def lG (s:Nat)(v:AV):fY -> fY
 | []=>[(s,v)]
 | (t,u) :: r=>if t=s then (s,v) :: r else if s<t then (s,v) :: (t,u) :: r else (t,u) :: lG s v r
theorem fi (s t:Nat)(v:AV)(e:fY):lk t (lG s v e)=if t=s then v else lk t e:=by
 have ne:∀{x y:Nat},¬x=y -> ¬y=x:=λh e=>h e.symm;induction e with
 | nil=>
  simp only[lG,lk];by_cases h:s=t;·subst h;simp
  ·have:=ne h;simp[h,this]
 | cons p r ih=>
  obtain⟨q,u⟩:=p;simp only[lG];split
  ·rename_i h;subst h;simp only[lk];by_cases h:q=t;·subst h;simp
   ·have:=ne h;simp[h,this]
  ·rename_i hq;split
   ·simp only[lk];by_cases h:s=t;·subst h;simp
    ·have:=ne h;simp[h,this]
   ·simp only[lk,ih];by_cases h:q=t;·subst h;have:¬(q=s):=hq;simp[this]
    ·simp[h]
structure St where
 L:fY
 R:fY
 h:eZ
inductive ju where
 | aC
 | aB (s:Nat)
 | aA (s:Nat)
def St.aA (st:St):fJ -> AV
 | .aB s=>lk s st.L
 | .aA s=>lk s st.R
 | .aC v=>v
def St.aB (st:St)(d:ju)(v:AV):St:=
 match d with
 | .aC=>st
 | .aB s=>{st with L:=lG s v st.L}
 | .aA s=>{st with R:=(s,v) :: st.R}
structure AO where
 aA:ju
 op:i_
 aB:Option (fJ×Bool)
structure SR (n:Nat)(keep:Nat -> Bool)(G0:Gh)(w0:World)(G:Gh)(w:World)(st:St)(a:Act):Prop where
 aA:fS G w st.h
 aD:a.tmps.size=n
 aB:a.defers=[]
 L:∀s,keep s=true -> V G w (lk s st.L) (a.tmps.getD s undef)
 R:∀s,keep s=false -> V G w (lk s st.R) (a.tmps.getD s undef)
 aC:gE G0 w0 G w
section
variable {n:Nat} {keep:Nat -> Bool} {G0:Gh} {w0:World} {P:Program}
theorem SR.aE {G w st a}(sr:SR n keep G0 w0 G w st a):lL G w (cd keep) st.aA a:=by
 intro x;cases x with
 | tmp s=>
 simp only[cd];split;·rename_i h;exact sr.L s h
 ·rename_i h;exact sr.R s (by simpa using h)
 | const v=>exact V.aZ G w v
 | global g=>exact .aP _
 | func f=>exact .aK f [] #[] [] #[] rfl (λj c v h=>by simp at h) rfl (λj c v h=>by simp at h)
def qB (n:Nat)(keep:Nat -> Bool):Option Tmp -> Option ju
 | none=>some .aC
 | some s=>if s<n then some (if keep s then .aB s else .aA s) else none
theorem sB {a:Act}{s q:Nat}{v:Value}(h:s<a.tmps.size):(a.tmps.setIfInBounds s v).getD q undef=if q=s then v else a.tmps.getD q undef:=by
 by_cases e:q=s
 ·subst e;simp[h]
 ·simp[e,WH (λx=>e x.symm)]
theorem SR.aF {G w st a G' w' h' d t r v}(sr:SR n keep G0 w0 G w st a)(hd:qB n keep t=some d)(hg:fS G' w' h')(hs:gE G w G' w')(hv:V G' w' r v):
  SR n keep G0 w0 G' w' {st.aB d r with h:=h'} (a.put t v):=by
 have hL:∀s,keep s=true -> V G' w' (lk s st.L) (a.tmps.getD s undef):=λs h=>(sr.L s h).aA hs.aA;have hR:∀s,keep s=false -> V G' w' (lk s st.R) (a.tmps.getD s undef):=λs h=>(sr.R s h).aA hs.aA;cases t with
 | none=>simp only[qB,Vk]at hd;subst hd;exact⟨hg,sr.aD,sr.aB,hL,hR,sr.aC.aI hs⟩
 | some s=>
  simp only[qB]at hd;split at hd
  ·rename_i hlt;have b:s<a.tmps.size:=by rw[sr.aD];exact hlt
   simp only[Vk]at hd;split at hd<;>rename_i hk<;>subst hd
   ·refine⟨hg,by simp[Act.put,sr.aD],sr.aB,λq hq=>?_,λq hq=>?_,sr.aC.aI hs⟩
    ·simp only[St.aB,fi,Act.put];rw[sB b];split;·exact hv
     ·exact hL q hq
    ·simp only[St.aB,Act.put];rw[sB b,Ve (by rintro rfl;rw[hk]at hq;cases hq)];exact hR q hq
   ·refine⟨hg,by simp[Act.put,sr.aD],sr.aB,λq hq=>?_,λq hq=>?_,sr.aC.aI hs⟩;·simp only[St.aB,Act.put];rw[sB b,Ve (by rintro rfl;exact hk hq)];exact hL q hq
    ·simp only[St.aB,lk,Act.put];rw[sB b];by_cases e:s=q;·subst e;simp;exact hv
     ·have:¬q=s:=λx=>e x.symm;simp only[e,this,VO];exact hR q hq
  ·cases hd
def fy (P:Program)(f:FuncId)(avs:List AV)(h:eZ)(K:AV -> eZ -> Prop):Prop:=
 ∀(G:Gh)(w:World)(vs:Array Value),fS G w h -> VL G w avs vs -> Calls P f vs w λe w'=>
 ∃v r h' G',e=.returned v /\ K r h' /\ fS G' w' h' /\ V G' w' r v /\ gE G w G' w'
theorem fy.aA {f avs h}{K K':AV -> eZ -> Prop}(hc:fy P f avs h K)(hk:∀r h',K r h' -> K' r h'):fy P f avs h K':=
 λG w vs hg hv=>(hc G w vs hg hv).mono λ_ _ ⟨v,r,h',G',h1,h2,h3⟩=>⟨v,r,h',G',h1,hk _ _ h2,h3⟩
def fI (P : Program) (f : FuncId) : Bool :=
 match P.funcs[f]? with
 | some fn => fn.body.isSome && !(fn.name == "runtime.NumGoroutine")
 | none => false
theorem ta {f:FuncId}(hf:fI P f=true)(args:Array Value)(w:World):(callFunc f args).run P w=.ok (.enter f args) w:=by
 unfold fI at hf;split at hf
 ·rename_i fn b;simp only[VF,Bool.not_eq_true']at hf;have hb:fn.body.isNone=false:=by cases h:fn.body with | none=>simp[h]at hf | some c=>rfl
  simp only[callFunc,Sem.run_bind,run_program,Result.andThen_ok,b,hf.2,hb,VC,VO,Sem.run_pure]
 ·cases hf
def l_ (P:Program)(o:AO)(st:St)(k:St -> Prop):Prop:=
 match o.op with
 | .r ro=>match gB st.aA st.h ro with
  | some v=>k (st.aB o.aA v)
  | none=>False
 | .h ho=>match jE st.aA st.h ho with
  | some (v,h')=>k {st.aB o.aA v with h:=h'}
  | none=>False
 | .aB f args=>fI P f=true /\ fy P f (args.map st.aA) st.h λv h'=>k {st.aB o.aA v with h:=h'}
 | .aC x args=>match st.aA x with
  | .aM f fs cs=>fI P f=true /\ fy P f (fs++args.map st.aA++cs) st.h λv h'=>k {st.aB o.aA v with h:=h'}
  | _=>False
def gP (P:Program):List AO -> St -> (St -> Prop) -> Prop
 | [],st,k=>k st
 | o :: r,st,k=>
 match o.aB with
 | none=>l_ P o st λst'=>gP P r st' k
 | some (x,want)=>match st.aA x with
  | .aD b=>(b=want -> l_ P o st λst'=>gP P r st' k) /\ (b=(!want) -> gP P r (st.aB o.aA (.aI [])) k)
  | .aI _=>gP P r (st.aB o.aA (.aI [])) k
  | _=>False
def y4 (keep:Nat -> Bool)(ops:Array Oper):Option (Nat×Bool) -> Option (Option (fJ×Bool))
 | none=>some none
 | some (j,want)=>match (ops[j]?).bind (·.dst) with
 | some t=>some (some (cd keep (.tmp t),want))
 | none=>none
def wP (P:Program)(n:Nat)(keep:Nat -> Bool)(ops:Array Oper)(o:Oper):Option AO:=
 match qB n keep o.dst,kJ P (cd keep) o,y4 keep ops o.guard with
 | some d,some op,some g=>some ⟨d,op,g⟩
 | _,_,_=>none
def pI (P:Program)(n:Nat)(keep:Nat -> Bool)(ops:Array Oper):List Oper -> Option (List AO)
 | []=>some []
 | o :: r=>match wP P n keep ops o,pI P n keep ops r with
 | some x,some l=>some (x :: l)
 | _,_=>none
theorem SR.aJ {G w st a d t}(sr:SR n keep G0 w0 G w st a)(hd:qB n keep t=some d):SR n keep G0 w0 G w (st.aB d (.aI [])) (a.put t undef):=by
 have e:({st.aB d (.aI []) with h:=st.h}:St)=st.aB d (.aI []):=by cases d<;>rfl
 have:=sr.aF hd sr.aA (gE.aC G w) (V.aM (G:=G) (w:=w) [] #[] rfl (λj c v h=>by simp at h));rw[e]at this;exact this
theorem Ox {G w st a}(sr:SR n keep G0 w0 G w st a){ops:Array Oper}{o:Oper}{j:Nat}{want:Bool}{t:Tmp}(hg:o.guard=some (j,want))(ht:(ops[j]?).bind (·.dst)=some t):
  (∀b,st.aA (cd keep (.tmp t))=.aD b -> Region.wanted o (yielded ops a.tmps)=(b == want)) /\ (∀cs,st.aA (cd keep (.tmp t))=.aI cs -> Region.wanted o (yielded ops a.tmps)=false):=by
 have hv:=sr.aE (.tmp t);have hy:yielded ops a.tmps j=match a.tmps[t]? with | some (.bool b)=>some b | _=>none:=by simp only[yielded,ht,Wp];rfl
 have hev:a.eval (.tmp t)=(a.tmps[t]?).getD undef:=by simp[Act.eval]
 rw[hev]at hv;constructor
 ·intro b hb;rw[hb]at hv;cases hq:a.tmps[t]? with
  | none=>rw[hq]at hv;cases hv
  | some v=>rw[hq]at hv;simp only[VG]at hv;cases hv;simp only[Region.wanted,hg,hy,hq];cases b<;>cases want<;>rfl
 ·intro cs hb;rw[hb]at hv;cases hq:a.tmps[t]? with
  | none=>simp[Region.wanted,hg,hy,hq]
  | some v=>rw[hq]at hv;simp only[VG]at hv;cases hv;simp[Region.wanted,hg,hy,hq]
end
end Glb
/-
 A library of its own,for whatever program: regions whose order is drawn.
-/
namespace Glb
open Go
def Gh.aF (G:Gh)(nm b:Nat):Gh:=
 {G with aA:=λn=>if n=nm then some b else G.aA n,aC:=λn=>G.aC n \/ n=nm}
theorem fS.aY {G w h}(g:fS G w h){nm:Nat}(hl:G.aA nm=none)(hn:¬G.aD nm)(o:Obj):gU G w (G.aF nm w.heap.size) (w.alloc o) where
 N:=Vg _
 aA n b hlt hb:=by
  by_cases e:n=nm
  ·subst e;rw[hl]at hb;cases hb
  ·simp only[Gh.aF,e,VO];exact hb
 aE n _ h:=h
 aB t b hp:=by cases t<;>exact hp
 aC t b hp:=nk (g.aQ hp)
 aD b hb:=Dl hb
theorem fS.bH {G w h} (g : fS G w h) {nm : Nat} (hlt : nm < G.N) (hh : h[nm]? = some none) (hl : G.aA nm = none) (hn : ¬ G.aD nm)
    {cells : Array Value} {ty : TypeId} {sz : Nat} {es : List (List AV)} {gr : Bool}
    (a1 : iT sz es) (a2 : es.length * sz <= cells.size) (a3 : gr = false -> cells.size = es.length * sz)
    (hV : ∀ i j c, gi es i j = some c -> ∃ v, cells[i * sz + j]? = some v /\ V G w c v) :
    fS (G.aF nm w.heap.size) (w.alloc (.cells cells ty)) (h.set nm (some (.aA sz es gr))) := by
  have k := g.aY hl hn (.cells cells ty)
  have W : nm < h.length := by rw [g.aA]; exact hlt
  have C : (G.aF nm w.heap.size).aA nm = some w.heap.size := by simp [Gh.aF]
  have u : ∀ n, n ≠ nm -> (G.aF nm w.heap.size).aA n = G.aA n := λn hn => by simp [Gh.aF, hn]
  have t : ∀ n, n ≠ nm -> ((G.aF nm w.heap.size).aC n ↔ G.aC n) := λn hn => ⟨λh => h.resolve_right hn, .inl⟩
  have old : ∀ n, n ≠ nm -> (h.set nm (some (.aA sz es gr)))[n]? = h[n]? := λn hn => Vb (λe => hn e.symm)
  have new : (h.set nm (some (.aA sz es gr)))[nm]? = some (some (.aA sz es gr)) := Vd W
  refine { aA := by simp [Gh.aF, g.aA], aC := ?_, aD := ?_, inj := ?_, aE := ?_, aF := ?_, aL := g.aL, aM := g.aM,
           aG := ?_, aJ := ?_, aB := ?_, aI := ?_, aK := ?_ }
  · intro n
    by_cases e : n = nm
    · subst e; exact ⟨λ_ => ⟨⟨_, _, _, new⟩, _, C⟩, λ_ => .inr rfl⟩
    · rw [t n e, u n e, old n e]; exact g.aC n
  · intro n b hb
    have e : n ≠ nm := by rintro rfl; rw [g.aD _ _ hb] at hh; cases hh
    rw [old n e]; exact g.aD n b hb
  · intro n m b hn hm E I
    by_cases h1 : n = nm <;> by_cases h2 : m = nm
    · rw [h1, h2]
    · subst h1; rw [C] at E; rw [u m h2] at I; cases E
      exact absurd (g.aO ((t m h2).1 hm) I) (WA _)
    · subst h2; rw [C] at I; rw [u n h1] at E; cases I
      exact absurd (g.aO ((t n h1).1 hn) E) (WA _)
    · rw [u n h1] at E; rw [u m h2] at I
      exact g.inj n m b ((t n h1).1 hn) ((t m h2).1 hm) E I
  · intro n m b hn hb ht
    by_cases h1 : n = nm
    · subst h1; rw [C] at hb; cases hb; exact WA _ (g.aG m _ ht)
    · rw [u n h1] at hb; exact g.aE n m b ((t n h1).1 hn) hb ht
  · intro n b hn hb hs
    by_cases h1 : n = nm
    · subst h1; rw [C] at hb; cases hb; exact WA _ (g.aJ _ hs)
    · rw [u n h1] at hb; exact g.aF n b ((t n h1).1 hn) hb hs
  · intro n b hb; have := g.aG n b hb; simp; omega
  · intro b hb; have := g.aJ b hb; simp; omega
  · intro n M U O b hq hb
    by_cases h1 : n = nm
    · subst h1
      rw [new] at hq
      obtain ⟨rfl, rfl, rfl⟩ : sz = M /\ es = U /\ gr = O := by simpa using hq
      rw [C] at hb; cases hb
      exact ⟨⟨cells, ty, uw, a2, a3, λi j c hj => let ⟨v, hv, hV⟩ := hV i j c hj; ⟨v, hv, hV.aA k⟩⟩, a1⟩
    · rw [old n h1] at hq; rw [u n h1] at hb
      exact (g.aB n M U O b hq hb).aA k (nk (g.aO (g.aN hq hb) hb))
  · intro n M U O hq hb
    by_cases h1 : n = nm
    · subst h1; rw [C] at hb; cases hb
    · rw [old n h1] at hq; rw [u n h1] at hb; exact g.aI n M U O hq hb
  · intro n a0
    by_cases h1 : n = nm
    · subst h1; exact absurd a0 hn
    · rw [u n h1]; exact g.aK n a0
theorem gE.aM {G0 w0 G w h}(s:gE G0 w0 G w)(g:fS G w h){nm:Nat}(h0:G0.N <= nm)(hl:G.aA nm=none)(hn:¬G.aD nm)(c:Array Value)(t:TypeId):
  gE G0 w0 (G.aF nm w.heap.size) (w.alloc (.cells c t)) where
 aG:=s.aG.aB (jB.aC w c t)
 aA:=s.aA.aF (g.aY hl hn _)
 S:=s.S
 aE n hlt:=by
  have:n≠nm:=by omega
  simp only[Gh.aF,this,VO];exact s.aE n hlt
 aJ:=s.aJ
 aB:=by have:=s.aB;simp;omega
 aD b hb hno:=by rw[nk (Vy hb s.aB)];exact s.aD b hb hno
 aF b hb:=by
  rcases hb with⟨n,u,he⟩ | ⟨n,ht⟩
  ·by_cases e:n=nm
   ·simp only[Gh.aF,e,V3,Vk]at he;exact .inr (by have:=s.aB;omega)
   ·simp only[Gh.aF,e,VO]at he;exact s.aF b (.inl ⟨n,u.resolve_right e,he⟩)
  ·exact s.aF b (.inr ⟨n,ht⟩)
def Gh.aM (G:Gh)(k:Nat):Gh:=
 {G with N:=G.N+k,aA:=λn=>if n<G.N then G.aA n else none,aD:=λn=>n<G.N /\ G.aD n}
theorem fS.bC {G w h}(g:fS G w h){n}(hn:G.aC n):n<G.N:=by obtain⟨⟨_,_,_,hh⟩,_⟩:=(g.aC n).1 hn;exact g.aP hh
theorem tX {h:eZ}{k n:Nat}{x:fh}:(h++List.replicate k none)[n]?=some (some x)↔h[n]?=some (some x):=by
 rcases Wc n h.length with hl | hl;·rw[VK hl]
 ·rw[VQ hl,VJ hl,WE];split<;>simp
theorem fS.bN {G w h} (g : fS G w h) (k : Nat) : fS (G.aM k) w (h ++ List.replicate k none) /\ gE G w (G.aM k) w := by
  have loc : ∀ n, n < G.N -> (G.aM k).aA n = G.aA n := λn hn => by simp [Gh.aM, hn]
  have kp : gU G w (G.aM k) w := ⟨W0 _ _, λn b hn hb => by rw [loc n hn]; exact hb, λn hn hb => ⟨hn, hb⟩, λt b h => by cases t <;> exact h, λ_ _ _ => rfl, λ_ _ => rfl⟩;have u : ∀ n b, G.aC n -> (G.aM k).aA n = some b -> G.aA n = some b := λn b hn hb => by rw [loc n (g.bC hn)] at hb; exact hb
  refine ⟨{ aA := by simp [Gh.aM, g.aA], aC := ?_, aD := ?_, inj := fun n m b hn hm h1 h2 => g.inj n m b hn hm (u n b hn h1) (u m b hm h2),
            aE := λn m b hn hb => g.aE n m b hn (u n b hn hb), aF := λn b hn hb => g.aF n b hn (u n b hn hb), aL := g.aL, aM := g.aM,
            aG := g.aG, aJ := g.aJ, aB := ?_, aI := ?_, aK := ?_ },
    ⟨kp, ⟨λ_ h => h, λ_ h => .inl h⟩, loc, λn hn => ⟨λh => h.2, λh => ⟨hn, h⟩⟩, Vg _, λ_ _ _ => rfl, λb hb => ?_, jB.aA w⟩⟩
  · intro n
    constructor
    · intro hn
      obtain ⟨⟨a, b, c, hh⟩, hb⟩ := (g.aC n).1 hn;exact ⟨⟨a, b, c, tX.2 hh⟩, by rw [loc n (g.bC hn)]; exact hb⟩
    · rintro ⟨⟨a, b, c, hh⟩, hb⟩
      have C := tX.1 hh;rw [loc n (g.aP C)] at hb;exact (g.aC n).2 ⟨⟨a, b, c, C⟩, hb⟩
  · intro n b hb; exact tX.2 (g.aD n b hb)
  · intro n sz es gr b hh hb
    have C := tX.1 hh;rw [loc n (g.aP C)] at hb;exact (g.aB n sz es gr b C hb).aA kp rfl
  · intro n sz es gr hh hb
    have C := tX.1 hh;rw [loc n (g.aP C)] at hb;exact g.aI n sz es gr C hb
  · rintro n ⟨hn, hb⟩
    rw [loc n hn]; exact g.aK n hb
  · rcases hb with ⟨n, hn, he⟩ | ⟨n, hn⟩
    · exact .inl (.inl ⟨n, hn, u n b hn he⟩)
    · exact .inl (.inr ⟨n, hn⟩)
def Gh.aP (G:Gh)(nm:Nat):Gh:={G with aC:=λm=>G.aC m \/ m=nm}
theorem fS.bF {G w h nm sz es gr b G' w' h'} (g : fS G w h) (hh : h[nm]? = some (some (.aA sz es gr))) (hb : G.aA nm = some b)
    (s : gE (G.aG nm) w G' w') (g' : fS G' w' h') (hn : h'[nm]? = some none) :
    fS (G'.aP nm) w' (h'.set nm (some (.aA sz es gr))) /\ gE G w (G'.aP nm) w' := by
  have hl := g.aN hh hb
  have a0 := g.aP hh
  have hlt : nm < h'.length := (U_.1 hn).1
  have a2 := g.aO hl hb
  have E : G'.aA nm = some b := by rw [s.aE nm a0]; exact hb
  have I : ¬ (G.aG nm).aI b := by
    rintro (⟨m, hm, he⟩ | ⟨m, hm⟩)
    · exact hm.2 (g.inj m nm b hm.1 hl he hb)
    · exact g.aE nm m b hl hb hm
  have C : ¬ G'.aI b := by
    intro ho
    rcases s.aF b ho with h | h
    · exact I h
    · omega
  have M := s.aD b a2 I
  have kk : gU G' w' (G'.aP nm) w' := ⟨Vg _, λ_ _ _ h => h, λ_ _ h => h, λt b h => by cases t <;> exact h, λ_ _ _ => rfl, λ_ _ => rfl⟩
  have new : (h'.set nm (some (.aA sz es gr)))[nm]? = some (some (.aA sz es gr)) := Vd hlt
  have old : ∀ n, n ≠ nm -> (h'.set nm (some (.aA sz es gr)))[n]? = h'[n]? := λn hn => Vb (λe => hn e.symm)
  have kG : gU G w (G'.aP nm) w' := ((G.aO w nm).aF s.aA).aF kk
  have hS : ¬ G'.S b := λhs => (s.S.2 b hs).elim (g.aF nm b hl hb) (λh => absurd a2 (Nat.not_lt.2 h))
  have hT : ∀ m, ¬ G'.aE m b := λm ht => C (.inr ⟨m, ht⟩)
  have a3 : ∀ m, G'.aC m -> G'.aA m ≠ some b := λm hm he => C (.inl ⟨m, hm, he⟩)
  refine ⟨{ aA := by simp [Gh.aP, g'.aA], aC := ?_, aD := ?_, inj := ?_, aE := ?_, aF := ?_, aL := g'.aL, aM := g'.aM, aG := g'.aG, aJ := g'.aJ,
            aB := ?_, aI := ?_, aK := g'.aK },
    ⟨kG, s.S, s.aE, s.aJ, s.aB, λx hx ho => s.aD x hx (λhk => ho ?_), λx hx => ?_, s.aG⟩⟩
  · intro n
    by_cases e : n = nm
    · subst e; exact ⟨λ_ => ⟨⟨_, _, _, new⟩, _, E⟩, λ_ => .inr rfl⟩
    · rw [old n e]; exact ⟨λh => (g'.aC n).1 (h.resolve_right e), λh => .inl ((g'.aC n).2 h)⟩
  · intro n x hx
    have e : n ≠ nm := by rintro rfl; rw [g'.aD _ _ hx] at hn; cases hn
    rw [old n e]; exact g'.aD n x hx
  · intro n m x hn hm h1 h2
    by_cases e1 : n = nm <;> by_cases e2 : m = nm
    · rw [e1, e2]
    · subst e1; have u : some b = some x := E.symm.trans h1
      cases u; exact absurd h2 (a3 m (hm.resolve_right e2))
    · subst e2; have a4 : some b = some x := E.symm.trans h2
      cases a4; exact absurd h1 (a3 n (hn.resolve_right e1))
    · exact g'.inj n m x (hn.resolve_right e1) (hm.resolve_right e2) h1 h2
  · intro n m x hn h1 ht
    by_cases e1 : n = nm
    · subst e1; have u : some b = some x := E.symm.trans h1
      cases u; exact hT m ht
    · exact g'.aE n m x (hn.resolve_right e1) h1 ht
  · intro n x hn h1 hs
    by_cases e1 : n = nm
    · subst e1; have u : some b = some x := E.symm.trans h1
      cases u; exact hS hs
    · exact g'.aF n x (hn.resolve_right e1) h1 hs
  · intro n O W U x hq h1
    by_cases e1 : n = nm
    · subst e1
      rw [new] at hq
      obtain ⟨rfl, rfl, rfl⟩ : sz = O /\ es = W /\ gr = U := by simpa using hq
      have u : some b = some x := E.symm.trans h1
      cases u
      exact (g.aB n sz es gr b hh hb).aA kG M
    · rw [old n e1] at hq
      exact (g'.aB n O W U x hq h1).aA kk rfl
  · intro n O W U hq h1
    by_cases e1 : n = nm
    · subst e1; have u : none = some b := h1.symm.trans E
      cases u
    · rw [old n e1] at hq; exact g'.aI n O W U hq h1
  · rcases hk with ⟨m, hm, he⟩ | ⟨m, hm⟩
    · exact .inl ⟨m, hm.1, he⟩
    · exact .inr ⟨m, hm⟩
  · rcases hx with ⟨m, hm, he⟩ | ⟨m, hm⟩
    · by_cases e : m = nm
      · subst e; have u : some b = some x := E.symm.trans he
        cases u; exact .inl (.inl ⟨m, hl, hb⟩)
      · rcases s.aF x (.inl ⟨m, hm.resolve_right e, he⟩) with h | h
        · rcases h with ⟨q, hq, a1⟩ | ⟨q, hq⟩
          · exact .inl (.inl ⟨q, hq.1, a1⟩)
          · exact .inl (.inr ⟨q, hq⟩)
        · exact .inr h
    · rcases s.aF x (.inr ⟨m, hm⟩) with h | h
      · rcases h with ⟨q, hq, a1⟩ | ⟨q, hq⟩
        · exact .inl (.inl ⟨q, hq.1, a1⟩)
        · exact .inl (.inr ⟨q, hq⟩)
      · exact .inr h
end Glb
