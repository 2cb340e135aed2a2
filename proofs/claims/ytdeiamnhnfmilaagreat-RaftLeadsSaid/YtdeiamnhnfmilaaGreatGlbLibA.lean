/-
  A library of its own.
-/
import Derived.Calls
import Derived.RowKit3
import Derived.Laws.World
import Derived.Laws.Sem
import Derived.Laws.StructEq
import Derived.Laws.Pointers
import Derived.Laws.Entries
import Derived.Laws.Cells
import Derived.Laws.Small
import Derived.ChangeKeysEq
import Derived.Laws.CopyRow
import Derived.WalkSpells
import Derived.Tactics
import Derived.Orders
set_option linter.unusedSimpArgs false
set_option linter.unusedVariables false
/-
 A library of its own,for whatever program: what an abstract value says of a value in memory,and that it stays said.
-/
namespace Glb
open Go
theorem WR:type_of% @List.getElem?_eq_some_iff:=@List.getElem?_eq_some_iff
theorem WS:type_of% @List.getElem?_set_ne:=@List.getElem?_set_ne
theorem WT:type_of% @List.length_append:=@List.length_append
theorem WU:type_of% @List.getElem?_eq_getElem:=@List.getElem?_eq_getElem
theorem WV:type_of% @decide_eq_false:=@decide_eq_false
theorem WW:type_of% @if_pos:=@if_pos
theorem WX:type_of% @Nat.le_refl:=@Nat.le_refl
theorem WY:type_of% @if_neg:=@if_neg
theorem WZ:type_of% @decide_eq_true:=@decide_eq_true
theorem W0:type_of% @List.getElem?_set_self:=@List.getElem?_set_self
theorem W4:type_of% @List.length_set:=@List.length_set
theorem W5:type_of% @List.eq_nil_of_length_eq_zero:=@List.eq_nil_of_length_eq_zero
theorem W6:type_of% @Classical.byContradiction:=@Classical.byContradiction
theorem W7:type_of% @List.length_take:=@List.length_take
theorem W8:type_of% @Option.some.injEq:=@Option.some.injEq
theorem W9:type_of% @Int.le_refl:=@Int.le_refl
theorem W_:type_of% @Eq.trans:=@Eq.trans
theorem Xb:type_of% @trivial:=@trivial
theorem Xd:type_of% @List.length_map:=@List.length_map
theorem Xe:type_of% @List.mem_append:=@List.mem_append
theorem Xf:type_of% @List.length_cons:=@List.length_cons
theorem Xg:type_of% @Nat.le_trans:=@Nat.le_trans
theorem Xi:type_of% @List.length_nil:=@List.length_nil
theorem Xj:type_of% @Nat.lt_of_lt_of_le:=@Nat.lt_of_lt_of_le
theorem Xk:type_of% @List.length_drop:=@List.length_drop
theorem Xl:type_of% @List.append_assoc:=@List.append_assoc
theorem Xm:type_of% @Nat.zero_le:=@Nat.zero_le
theorem Xn:type_of% @Option.map_eq_some_iff:=@Option.map_eq_some_iff
theorem Xp:type_of% @eq_false:=@eq_false
theorem Xq:type_of% @List.getElem_mem:=@List.getElem_mem
theorem Xs:type_of% @Bool.and_eq_true:=@Bool.and_eq_true
theorem Xt:type_of% @Bool.false_eq_true:=@Bool.false_eq_true
theorem Xu:type_of% @List.take_of_length_le:=@List.take_of_length_le
theorem Xv:type_of% @List.getElem?_drop:=@List.getElem?_drop
theorem Xw:type_of% @List.mem_of_mem_drop:=@List.mem_of_mem_drop
theorem Xx:type_of% @List.getElem?_cons_zero:=@List.getElem?_cons_zero
theorem Xy:type_of% @List.getElem?_append_left:=@List.getElem?_append_left
theorem Xz:type_of% @List.take_append_of_le_length:=@List.take_append_of_le_length
theorem XA:type_of% @List.getElem?_append_right:=@List.getElem?_append_right
theorem XC:type_of% @List.mem_cons:=@List.mem_cons
theorem XD:type_of% @List.map_cons:=@List.map_cons
theorem XE:type_of% @List.take_succ_eq_append_getElem:=@List.take_succ_eq_append_getElem
theorem XF:type_of% @List.take_length:=@List.take_length
theorem XG:type_of% @List.mem_cons_self:=@List.mem_cons_self
theorem XI:type_of% @List.length_singleton:=@List.length_singleton
theorem XJ:type_of% @Option.getD_some:=@Option.getD_some
theorem XK:type_of% @decide_eq_true_eq:=@decide_eq_true_eq
theorem XL:type_of% @Bool.not_true:=@Bool.not_true
theorem XM:type_of% @List.take_take:=@List.take_take
theorem XN:type_of% @List.mem_singleton:=@List.mem_singleton
theorem XO:type_of% @List.mem_map:=@List.mem_map
theorem XP:type_of% @List.getElem?_eq_none:=@List.getElem?_eq_none
theorem XQ:type_of% @List.mem_of_mem_take:=@List.mem_of_mem_take
theorem XR:type_of% @List.getElem?_map:=@List.getElem?_map
theorem XS:type_of% @if_false:=@if_false
theorem XT:type_of% @List.ext_getElem?:=@List.ext_getElem?
theorem XU:type_of% @List.map_append:=@List.map_append
theorem XV:type_of% @List.getElem?_take_of_lt:=@List.getElem?_take_of_lt
theorem XW:type_of% @Nat.min_eq_left:=@Nat.min_eq_left
theorem XY:type_of% @List.mem_cons_of_mem:=@List.mem_cons_of_mem
theorem XZ:type_of% @Nat.mul_le_mul_right:=@Nat.mul_le_mul_right
theorem X_:type_of% @Bool.not_false:=@Bool.not_false
theorem Ya:type_of% @List.getElem?_toArray:=@List.getElem?_toArray
theorem Yb:type_of% @List.map_nil:=@List.map_nil
theorem Yc:type_of% @if_true:=@if_true
theorem Yd:type_of% @List.append_nil:=@List.append_nil
theorem Ye:type_of% @List.getElem?_take:=@List.getElem?_take
theorem Yf:type_of% @Prod.mk.injEq:=@Prod.mk.injEq
theorem Yg:type_of% @List.nil_append:=@List.nil_append
theorem Yh:type_of% @List.getElem?_cons_succ:=@List.getElem?_cons_succ
theorem Yi:type_of% @List.set_set:=@List.set_set
theorem Yj:type_of% @Int.toNat_natCast:=@Int.toNat_natCast
theorem Yk:type_of% @List.getElem?_append:=@List.getElem?_append
theorem Ym:type_of% @decide_eq_false_iff_not:=@decide_eq_false_iff_not
theorem Yo:type_of% @Option.getD_none:=@Option.getD_none
theorem Yp:type_of% @List.prefix_refl:=@List.prefix_refl
theorem Yq:type_of% @Nat.le_of_ble_eq_true:=@Nat.le_of_ble_eq_true
theorem Yr:type_of% @List.getElem_set_self:=@List.getElem_set_self
theorem Ys:type_of% @Bool.or_eq_true:=@Bool.or_eq_true
theorem Yt:type_of% @List.drop_zero:=@List.drop_zero
theorem Yu:type_of% @List.mem_append_left:=@List.mem_append_left
theorem Yv:type_of% @List.cons.injEq:=@List.cons.injEq
theorem Yw:type_of% @Array.getElem?_eq_some_iff:=@Array.getElem?_eq_some_iff
theorem Yx:type_of% @Option.bind_some:=@Option.bind_some
theorem Yy:type_of% @Nat.le_add_right:=@Nat.le_add_right
theorem Yz:type_of% @List.getElem?_set:=@List.getElem?_set
theorem YA:type_of% @List.getElem_take:=@List.getElem_take
theorem YB:type_of% @List.getElem_cons_zero:=@List.getElem_cons_zero
theorem YC:type_of% @List.getElem_append_left:=@List.getElem_append_left
theorem YD:type_of% @Iff.rfl:=@Iff.rfl
theorem YE:type_of% @List.length_replicate:=@List.length_replicate
theorem YF:type_of% @List.take_append_drop:=@List.take_append_drop
theorem YG:type_of% @Option.map_some:=@Option.map_some
theorem YH:type_of% @List.all_eq_true:=@List.all_eq_true
theorem YI:type_of% @Array.eq_empty_of_size_eq_zero:=@Array.eq_empty_of_size_eq_zero
theorem YJ:type_of% @List.drop_append_of_le_length:=@List.drop_append_of_le_length
theorem YK:type_of% @List.pairwise_iff_getElem:=@List.pairwise_iff_getElem
theorem YL:type_of% @List.drop_eq_getElem_cons:=@List.drop_eq_getElem_cons
theorem YM:type_of% @List.getElem_append_right:=@List.getElem_append_right
theorem YN:type_of% @List.length_filter_le:=@List.length_filter_le
theorem YO:type_of% @List.mem_append_right:=@List.mem_append_right
theorem YP:type_of% @List.set_getElem_self:=@List.set_getElem_self
theorem YQ:type_of% @Nat.lt_or_ge:=@Nat.lt_or_ge
theorem YR:type_of% @List.getElem?_replicate:=@List.getElem?_replicate
theorem YS:type_of% @Array.getElem?_setIfInBounds_ne:=@Array.getElem?_setIfInBounds_ne
theorem YT:type_of% @List.prefix_of_prefix_length_le:=@List.prefix_of_prefix_length_le
theorem YU:type_of% @Bool.or_eq_false_iff:=@Bool.or_eq_false_iff
theorem YV:type_of% @List.mem_iff_getElem:=@List.mem_iff_getElem
theorem YW:type_of% @Nat.add_assoc:=@Nat.add_assoc
theorem YX:type_of% @List.map_take:=@List.map_take
theorem YY:type_of% @decide_false:=@decide_false
theorem YZ:type_of% @List.take_prefix:=@List.take_prefix
theorem Y3:type_of% @List.mem_or_eq_of_mem_set:=@List.mem_or_eq_of_mem_set
theorem Y4:type_of% @Nat.add_mul:=@Nat.add_mul
theorem Y5:type_of% @congrArg:=@congrArg
theorem Y6:type_of% @Option.isSome_iff_exists:=@Option.isSome_iff_exists
theorem Y7:type_of% @Nat.zero_add:=@Nat.zero_add
theorem Y8:type_of% @Nat.add_zero:=@Nat.add_zero
theorem Y9:type_of% @Int.le_trans:=@Int.le_trans
theorem Y_:type_of% @List.pairwise_cons:=@List.pairwise_cons
theorem Za:type_of% @Option.isNone_some:=@Option.isNone_some
theorem Zb:type_of% @List.getElem?_modify:=@List.getElem?_modify
theorem Zc:type_of% @Nat.le_succ:=@Nat.le_succ
theorem Zd:type_of% @Nat.add_sub_cancel_left:=@Nat.add_sub_cancel_left
theorem Ze:type_of% @Nat.ne_of_lt:=@Nat.ne_of_lt
theorem Zf:type_of% @List.drop_eq_nil_of_le:=@List.drop_eq_nil_of_le
theorem Zg:type_of% @List.mem_filter:=@List.mem_filter
theorem Zh:type_of% @Array.getElem?_append:=@Array.getElem?_append
theorem Zi:type_of% @Array.getElem?_modify:=@Array.getElem?_modify
theorem Zj:type_of% @List.cons_append:=@List.cons_append
theorem Zk:type_of% @List.map_set:=@List.map_set
theorem Zl:type_of% @Nat.min_self:=@Nat.min_self
theorem Zm:type_of% @List.foldl_cons:=@List.foldl_cons
theorem Zo:type_of% @List.take_succ_cons:=@List.take_succ_cons
theorem Zp:type_of% @Nat.lt_irrefl:=@Nat.lt_irrefl
theorem Zq:type_of% @List.map_drop:=@List.map_drop
theorem Zr:type_of% @List.any_eq_true:=@List.any_eq_true
theorem Zt:type_of% @Int.natCast_zero:=@Int.natCast_zero
theorem Zu:type_of% @List.getElem_set:=@List.getElem_set
theorem Zv:type_of% @List.set_append_right:=@List.set_append_right
theorem Zw:type_of% @Bool.not_eq_true':=@Bool.not_eq_true'
theorem Zx:type_of% @List.flatMap_cons:=@List.flatMap_cons
theorem Zy:type_of% @List.length_pos_iff:=@List.length_pos_iff
theorem Zz:type_of% @List.length_take_le:=@List.length_take_le
theorem ZA:type_of% @List.map_toArray:=@List.map_toArray
theorem ZB:type_of% @List.drop_length:=@List.drop_length
theorem ZC:type_of% @List.getElem_map:=@List.getElem_map
theorem ZD:type_of% @Bool.or_true:=@Bool.or_true
theorem ZE:type_of% @Bool.true_or:=@Bool.true_or
theorem ZF:type_of% @Nat.sub_self:=@Nat.sub_self
theorem ZG:type_of% @List.nodup_cons:=@List.nodup_cons
theorem ZH:type_of% @Option.some.inj:=@Option.some.inj
theorem ZI:type_of% @Bool.true_and:=@Bool.true_and
theorem ZJ:type_of% @Bool.and_self:=@Bool.and_self
variable {P:Program}
theorem ω{p:Prop}(h:p:=by omega):p:=h
theorem ς{p:Prop}(h:p:=by simp):p:=h
theorem δ{p:Prop}[Decidable p](h:p:=by decide):p:=h
inductive AV where
 | aR
 | aE (b:Bool)
 | aD (k:IntKind) (n:Int)
 | aQ (s:ByteArray)
 | aN (v:Value)
 | aC
 | aA (n sz i o:Nat)
 | aO (t:Nat) (cs:List AV)
 | aG (n sz off len:Nat) (cap:Option Nat)
 | aM (t:Nat) (clip:Bool) (sz:Nat) (es:List (List AV))
 | aF (cs:List AV)
 | aI (cs:List AV)
 | aL (f:FuncId) (fs cs:List AV)
 | aT (t:TypeId) (v:AV)
 deriving Inhabited
abbrev ι(n:Int):AV:=.aD .i64 n
def AV.aH:AV -> Bool
 | .aR | .aF _ | .aI _=>false
 | .aN v=>v.oneCell'
 | _=>true
def jR (sz:Nat)(es:List (List AV)):Prop:=∀e∈es,e.length=sz /\ e.all AV.aH=true
inductive fC where
 | aA (sz:Nat) (es:List (List AV)) (grow:Bool)
 | aC
 deriving Inhabited
abbrev ar(n:Nat)(l:List (List AV)):Option (Option fC):=some (some (.aA n l false))
abbrev fu:=List (Option fC)
structure Gh where
 N:Nat
 aA:Nat -> Option Nat
 aE:Nat -> Prop
 aD:Nat -> Prop
 aF:Nat -> Nat -> Prop
 S:Nat -> Prop
def Gh.aL (G:Gh):Nat -> Nat -> Prop
 | 0,b=>G.S b
 | n+1,b=>G.aF n b
def Gh.aI (G:Gh)(b:Nat):Prop:=(∃n,G.aD n /\ G.aA n=some b) \/ ∃n,G.aF n b
def gI (es:List (List AV))(i j:Nat):Option AV:=es[i]?.bind (·[j]?)
inductive V (G:Gh) (w:World):AV -> Value -> Prop
 | aI (v):V G w .aR v
 | aF (b):V G w (.aE b) (.bool b)
 | aC (k n):V G w (.aD k n) (.int k n)
 | aQ (s):V G w (.aQ s) (.string s)
 | aP (v):V G w (.aN v) v
 | aO:V G w .aC (.slice none 0 0)
 | aL (n sz i o b:Nat):n<G.N -> G.aA n=some b -> V G w (.aA n sz i o) (.pointer (some ⟨b,i*sz+o,none⟩))
 | aN (t:Nat) (cs:List AV) (b off:Nat) (f:Nat -> Value):G.aL t b -> (∀(j:Nat)(c:AV),cs[j]?=some c -> w.cell? ⟨b,off+j,none⟩=some (f j)) ->
   (∀(j:Nat)(c:AV),cs[j]?=some c -> V G w c (f j)) -> V G w (.aO t cs) (.pointer (some ⟨b,off,none⟩))
 | aD (n sz off len:Nat) (cap:Option Nat) (c:Nat) (ty:TypeId) (m b:Nat):n<G.N -> G.aA n=some b -> len <= c -> (∀k,cap=some k -> c=k) ->
   w.shape? b=some (ty,m) -> (off+c)*sz <= m -> V G w (.aG n sz off len cap) (.slice (some ⟨b,off*sz,none⟩) len c)
 | aH (n sz:Nat) (cap:Option Nat):n<G.N -> G.aE n -> (∀k,cap=some k -> k=0) -> V G w (.aG n sz 0 0 cap) (.slice none 0 0)
 | aE (t:Nat) (clip:Bool) (sz:Nat) (es:List (List AV)) (a:Addr) (cap:Nat) (f:Nat -> Nat -> Value):es.length <= cap -> (clip=true -> cap=es.length) -> (cap≠0 -> a.spot=none) ->
   (es≠[] -> G.aL t a.block) -> jR sz es ->
   (∀i j c,gI es i j=some c -> w.cell? ⟨a.block,a.off+(i*sz+j),none⟩=some (f i j)) ->
   (∀i j c,gI es i j=some c -> V G w c (f i j)) -> V G w (.aM t clip sz es) (.slice (some a) es.length cap)
 | aG (t clip sz):V G w (.aM t clip sz []) (.slice none 0 0)
 | aJ (cs:List AV) (vs:Array Value):cs.length=vs.size -> (∀(j:Nat)(c:AV)(v:Value),cs[j]?=some c -> vs[j]?=some v -> V G w c v) -> V G w (.aF cs) (.agg vs)
 | aM (cs:List AV) (vs:Array Value):cs.length=vs.size -> (∀(j:Nat)(c:AV)(v:Value),cs[j]?=some c -> vs[j]?=some v -> V G w c v) -> V G w (.aI cs) (.tuple vs)
 | aK (f:FuncId) (fs:List AV) (us:Array Value) (cs:List AV) (vs:Array Value):fs.length=us.size -> (∀(j:Nat)(c:AV)(v:Value),fs[j]?=some c -> us[j]?=some v -> V G w c v) ->
   cs.length=vs.size -> (∀(j:Nat)(c:AV)(v:Value),cs[j]?=some c -> vs[j]?=some v -> V G w c v) -> V G w (.aL f fs cs) (.func (.func f) us vs)
 | aR (t c v):V G w c v -> V G w (.aT t c) (.iface t v)
structure iB (G:Gh)(w:World)(G':Gh)(w':World):Prop where
 N:G.N <= G'.N
 aA:∀n b,n<G.N -> G.aA n=some b -> G'.aA n=some b
 aF:∀n,n<G.N -> G.aE n -> G'.aE n
 aC:∀t b,G.aL t b -> G'.aL t b
 aD:∀t b,G.aL t b -> w'.heap[b]?=w.heap[b]?
 aE:∀b,(w.shape? b).isSome -> w'.shape? b=w.shape? b
theorem Ho {w w':World}{a:Addr} (h:w'.heap[a.block]?=w.heap[a.block]?):w'.cell? a=w.cell? a:=by simp only[World.cell?,h]
theorem V.aA {G w G' w' av v}(k:iB G w G' w')(h:V G w av v):V G' w' av v:=by
 induction h with
 | aI v=>exact .aI v
 | aF b=>exact .aF b
 | aC k n=>exact .aC k n
 | aQ s=>exact .aQ s
 | aP v=>exact .aP v
 | aO=>exact .aO
 | aL n sz i o b hn hb=>exact .aL n sz i o b (Xj hn k.N) (k.aA n b hn hb)
 | aN t cs b off f hp hc _ ih=>exact .aN t cs b off f (k.aC _ _ hp) (λj c hj=>by rw[Ho (a:=⟨b,off+j,none⟩) (k.aD _ _ hp)];exact hc j c hj) ih
 | aD n sz off len cap c ty m b hn hb hl hcap hs hm=>exact .aD n sz off len cap c ty m b (Xj hn k.N) (k.aA n b hn hb) hl hcap (by rw[k.aE _ (by simp[hs]),hs]) hm
 | aH n sz cap hn hb hc=>exact .aH n sz cap (Xj hn k.N) (k.aF n hn hb) hc
 | aE t clip sz es a cap f hl hcl hsp hp hes hc _ ih=>
  refine .aE t clip sz es a cap f hl hcl hsp (λh=>k.aC _ _ (hp h)) hes (λi j c hj=>?_) ih;have e:es≠[]:=by rintro rfl;simp[gI]at hj
  rw[Ho (a:=⟨a.block,a.off+(i*sz+j),none⟩) (k.aD _ _ (hp e))];exact hc i j c hj
 | aG t clip sz=>exact .aG t clip sz
 | aJ cs vs hl _ ih=>exact .aJ cs vs hl ih
 | aM cs vs hl _ ih=>exact .aM cs vs hl ih
 | aK f fs us cs vs hl _ hl' _ ih ih'=>exact .aK f fs us cs vs hl ih hl' ih'
 | aR t c v _ ih=>exact .aR t c v ih
structure lT (G:Gh)(w:World)(b:Nat)(sz:Nat)(es:List (List AV))(grow:Bool):Prop where
 ex:∃cells ty,w.heap[b]?=some (.cells cells ty (0,0)) /\ es.length*sz <= cells.size /\ (grow=false -> cells.size=es.length*sz) /\
  ∀i j c,gI es i j=some c -> ∃v,cells[i*sz+j]?=some v /\ V G w c v
 sz:jR sz es
structure fY (G:Gh)(w:World)(h:fu):Prop where
 aA:h.length=G.N
 aD:∀n,G.aD n↔(∃sz es g,h[n]?=some (some (.aA sz es g))) /\ ∃b,G.aA n=some b
 aE:∀n b,G.aF n b -> h[n]?=some (some .aC)
 inj:∀n m b,G.aD n -> G.aD m -> G.aA n=some b -> G.aA m=some b -> n=m
 aF:∀n m b,G.aD n -> G.aA n=some b -> ¬G.aF m b
 aG:∀n b,G.aD n -> G.aA n=some b -> ¬G.S b
 aL:∀n m b,G.aF n b -> G.aF m b -> n=m
 aM:∀n b,G.aF n b -> ¬G.S b
 aH:∀n b,G.aF n b -> b<w.heap.size
 aJ:∀b,G.S b -> b<w.heap.size
 aC:∀n sz es g b,h[n]?=some (some (.aA sz es g)) -> G.aA n=some b -> lT G w b sz es g
 aI:∀n sz es g,h[n]?=some (some (.aA sz es g)) -> G.aA n=none -> es=[]
 aK:∀n,G.aE n -> G.aA n=none
theorem fY.aP {G w h}(g:fY G w h){n x} (hn:h[n]?=some x):n<G.N:=by rw[<- g.aA];exact (WR.1 hn).1
theorem fY.aN {G w h}(g:fY G w h){n sz es gr b} (hn:h[n]?=some (some (.aA sz es gr))) (hb:G.aA n=some b):G.aD n:=
 (g.aD n).2 ⟨⟨_,_,_,hn⟩,b,hb⟩
theorem fY.aO {G w h}(g:fY G w h){n b}(hn:G.aD n)(hb:G.aA n=some b):b<w.heap.size:=by obtain⟨⟨sz,es,gr,hh⟩,_⟩:=(g.aD n).1 hn;obtain⟨cells,ty,hc,_⟩:=(g.aC n sz es gr b hh hb).ex;exact (Yw.1 hc).1
theorem fY.bM {G w h}(g:fY G w h){b}(hb:G.aI b):b<w.heap.size:=by
 rcases hb with⟨n,hn,hl⟩ | ⟨n,hn⟩;·exact g.aO hn hl
 ·exact g.aH n b hn
def kL (w w':World):Prop:=w'.os=w.os /\ w'.output=w.output /\ w.heap.size <= w'.heap.size /\ ∀a,a.block<w.heap.size -> w'.frozen? a=w.frozen? a
theorem kL.aA (w):kL w w:=⟨rfl,rfl,WX _,λ_ _=>rfl⟩
theorem kL.aC {w w1 w2}(a:kL w w1)(b:kL w1 w2):kL w w2:=⟨b.1.trans a.1,b.2.1.trans a.2.1,Xg a.2.2.1 b.2.2.1,λx hx=>(b.2.2.2 x (Xj hx a.2.2.1)).trans (a.2.2.2 x hx)⟩
theorem kL.aD (w:World)(c:Array Value)(t:TypeId):kL w (w.alloc (.cells c t)):=⟨rfl,rfl,ς,λa _=>Go.RowKit.frozen?_alloc_cells w c t a⟩
theorem kL.aE (w:World)(a:Addr)(v:Value):kL w (w.setCell a v):=⟨rfl,rfl,ς,λ_ _=>World.frozen?_setCell _ _ _ _⟩
structure gP (G:Gh)(w:World)(G':Gh)(w':World):Prop where
 aA:iB G w G' w'
 S:(∀b,G.S b -> G'.S b) /\ ∀b,G'.S b -> G.S b \/ w.heap.size <= b
 aF:∀n,n<G.N -> G'.aA n=G.aA n
 aJ:∀n,n<G.N -> (G'.aE n↔G.aE n)
 aC:w.heap.size <= w'.heap.size
 aE:∀b,b<w.heap.size -> ¬G.aI b -> w'.heap[b]?=w.heap[b]?
 aG:∀b,G'.aI b -> G.aI b \/ w.heap.size <= b
 aH:kL w w'
theorem iB.aI (G w):iB G w G w:=⟨WX _,λ_ _ _ h=>h,λ_ _ h=>h,λ_ _ h=>h,λ_ _ _=>rfl,λ_ _=>rfl⟩
theorem iB.aG {G w G1 w1 G2 w2}(a:iB G w G1 w1)(b:iB G1 w1 G2 w2):iB G w G2 w2 where
 N:=Xg a.N b.N
 aA n x h e:=b.aA n x (Xj h a.N) (a.aA n x h e)
 aF n h e:=b.aF n (Xj h a.N) (a.aF n h e)
 aC t x h:=b.aC t x (a.aC t x h)
 aD t x h:=by rw[b.aD t x (a.aC t x h),a.aD t x h]
 aE x h:=by rw[b.aE x (by rw[a.aE x h];exact h),a.aE x h]
theorem gP.aD (G w):gP G w G w:=⟨iB.aI G w,⟨λ_ h=>h,λ_ h=>.inl h⟩,λ_ _=>rfl,λ_ _=>YD,WX _,λ_ _ _=>rfl,λ_ h=>.inl h,kL.aA w⟩
theorem gP.aI {G w G1 w1 G2 w2}(a:gP G w G1 w1)(b:gP G1 w1 G2 w2):gP G w G2 w2 where
 aA:=a.aA.aG b.aA
 S:=⟨λx h=>b.S.1 x (a.S.1 x h),λx h=>(b.S.2 x h).elim (a.S.2 x) (λh=>.inr (Xg a.aC h))⟩
 aF n h:=by rw[b.aF n (Xj h a.aA.N),a.aF n h]
 aJ n h:=(b.aJ n (Xj h a.aA.N)).trans (a.aJ n h)
 aC:=Xg a.aC b.aC
 aE x hx hn:=by
  rw[b.aE x (Xj hx a.aC) ?_,a.aE x hx hn];intro ho;rcases a.aG x ho with h | h;·exact hn h
  ·omega
 aG x hx:=by
  rcases b.aG x hx with h | h;·exact a.aG x h
  ·exact .inr (Xg a.aC h)
 aH:=a.aH.aC b.aH
theorem gP.aK (G w)(n:Nat):gP G w G {w with drawn:=n}:=
 ⟨⟨WX _,λ_ _ _ h=>h,λ_ _ h=>h,λ_ _ h=>h,λ_ _ _=>rfl,λ_ _=>rfl⟩,⟨λ_ h=>h,λ_ h=>.inl h⟩,λ_ _=>rfl,λ_ _=>YD,WX _,λ_ _ _=>rfl,λ_ h=>.inl h,rfl,rfl,WX _,λ_ _=>rfl⟩
theorem lT.aA {G w G' w' b sz es gr}(k:iB G w G' w') (hb:w'.heap[b]?=w.heap[b]?) (h:lT G w b sz es gr):lT G' w' b sz es gr:=by obtain⟨⟨cells,ty,hc,h1,h2,h3⟩,hs⟩:=h;exact⟨⟨cells,ty,hb▸hc,h1,h2,λi j c hj=>let⟨v,hv,hV⟩:=h3 i j c hj;⟨v,hv,hV.aA k⟩⟩,hs⟩
theorem fY.aT {G w h w'} (g : fY G w h) (hh : w'.heap = w.heap) : fY G w' h := by
  have k : iB G w G w' := ⟨WX _, λ_ _ _ h => h, λ_ _ h => h, λ_ _ h => h, λ_ _ _ => by rw [hh], λ_ _ => by simp only [World.shape?, hh]⟩
  exact { aA := g.aA, aD := g.aD, aE := g.aE, inj := g.inj, aF := g.aF, aG := g.aG, aL := g.aL, aM := g.aM,
          aH := λn b hb => by rw [hh]; exact g.aH n b hb, aJ := λb hb => by rw [hh]; exact g.aJ b hb,
          aC := λn sz es gr b hn hb => (g.aC n sz es gr b hn hb).aA k (by rw [hh]), aI := g.aI, aK := g.aK }
def Gh.aC (G:Gh)(ob:Option Nat):Gh:=
 {G with N:=G.N+1,aA:=λn=>if n=G.N then ob else G.aA n,aE:=λn=>if n=G.N then ob=none else G.aE n,aD:=λn=>G.aD n \/ (n=G.N /\ ob.isSome)}
theorem EJ {w:World}{o:Obj}{b:Nat}(h:(w.shape? b).isSome):(w.alloc o).shape? b=w.shape? b:=by
 have hb:b<w.heap.size:=by apply W6;intro hn;simp only[World.shape?,Array.getElem?_eq_none (Nat.le_of_not_lt hn)]at h;exact absurd h ς
 simp only[World.shape?,World.alloc,Array.getElem?_push,Ze hb,XS]
theorem o_ {w:World}{o:Obj}{b:Nat}(hb:b<w.heap.size):(w.alloc o).heap[b]?=w.heap[b]?:=by simp only[World.alloc,Array.getElem?_push,Ze hb,XS]
theorem wD {w:World}{o:Obj}:(w.alloc o).heap[w.heap.size]?=some o:=by show (w.heap.push o)[w.heap.size]?=some o;simp
theorem fY.bK {G w h}(g:fY G w h):¬G.aD G.N:=by intro hl;obtain⟨⟨sz,es,gr,hh⟩,_⟩:=(g.aD _).1 hl;exact Zp _ (g.aP hh)
theorem fY.bL {G w h}(g:fY G w h)(b):¬G.aF G.N b:=by intro ht;have:=(WR.1 (g.aE _ _ ht)).1;rw[g.aA]at this;exact Zp _ this
theorem fY.aQ {G w h}(g:fY G w h){t b}(hp:G.aL t b):b<w.heap.size:=by
 cases t with
 | zero=>exact g.aJ b hp
 | succ n=>exact g.aH n b hp
theorem fY.a_ {G w h}(g:fY G w h)(ob:Option Nat):iB G w (G.aC ob) w where
 N:=Zc _
 aA n b hn hb:=by simp only[Gh.aC,Ze hn,XS];exact hb
 aF n hn hb:=by simp only[Gh.aC,Ze hn,XS];exact hb
 aC t b hp:=by cases t<;>exact hp
 aD t b hp:=rfl
 aE b hb:=rfl
theorem fY.aX {G w h}(g:fY G w h)(o:Obj):iB G w (G.aC (some w.heap.size)) (w.alloc o) where
 N:=Zc _
 aA n b hn hb:=by simp only[Gh.aC,Ze hn,XS];exact hb
 aF n hn hb:=by simp only[Gh.aC,Ze hn,XS];exact hb
 aC t b hp:=by cases t<;>exact hp
 aD t b hp:=o_ (g.aQ hp)
 aE b hb:=EJ hb
theorem fY.bD {G w h}(g:fY G w h)(c:Array Value)(t:TypeId):gP G w (G.aC (some w.heap.size)) (w.alloc (.cells c t)) where
 aH:=kL.aD w c t
 aA:=g.aX _
 S:=⟨λ_ h=>h,λ_ h=>.inl h⟩
 aF n hn:=by simp only[Gh.aC,Ze hn,XS]
 aJ n hn:=by simp only[Gh.aC,Ze hn,XS]
 aC:=by simp
 aE b hb _:=o_ hb
 aG b hb:=by
  rcases hb with⟨n,hn,he⟩ | ⟨n,hn⟩
  ·by_cases h:n=G.N
   ·simp only[Gh.aC,h,Yc,W8]at he;exact .inr ω
   ·simp only[Gh.aC,h,XS]at he;exact .inl (.inl ⟨n,hn.resolve_right (λx=>h x.1),he⟩)
  ·exact .inl (.inr ⟨n,hn⟩)
theorem LO {G w h}(g:fY G w h)(y:Option fC){n}{x:Option fC}(hn:n≠G.N):(h++[y])[n]?=some x↔h[n]?=some x:=by
 rw[<- g.aA]at hn;rcases YQ n h.length with hl | hl;·rw[Xy hl]
 ·have:h.length<n:=ω;rw[XP (by simp;omega),XP hl]
theorem LN {G w h}(g:fY G w h)(y:Option fC):(h++[y])[G.N]?=some y:=by rw[<- g.aA];simp
theorem fY.aW {G w h} (g : fY G w h) {ob : Option Nat} {w' : World} {sz : Nat} {es : List (List AV)} {gr : Bool}
    (k : iB G w (G.aC ob) w') (hsize : w.heap.size <= w'.heap.size) (hother : ∀ n b, G.aD n -> G.aA n = some b -> w'.heap[b]? = w.heap[b]?)
    (hfree : ∀ b, ob = some b -> (∀ n, G.aD n -> G.aA n ≠ some b) /\ (∀ n, ¬ G.aF n b) /\ ¬ G.S b)
    (hH : ∀ b, ob = some b -> lT (G.aC ob) w' b sz es gr) (hnil : ob = none -> es = []) :
    fY (G.aC ob) w' (h ++ [some (.aA sz es gr)]) := by
  have new := LN g (some (fC.aA sz es gr))
  have old := λn x (hn : n ≠ G.N) => LO g (some (fC.aA sz es gr)) (n := n) (x := x) hn
  have locN : (G.aC ob).aA G.N = ob := by simp [Gh.aC]
  have locO : ∀ n, n ≠ G.N -> (G.aC ob).aA n = G.aA n := λn hn => by simp [Gh.aC, hn]
  have liveO : ∀ n, n ≠ G.N -> ((G.aC ob).aD n ↔ G.aD n) := λn hn => ⟨λh => h.resolve_right (λx => hn x.1), .inl⟩
  refine { aA := by simp [Gh.aC, g.aA], aD := ?_, aE := ?_, inj := ?_, aF := ?_, aG := ?_, aL := g.aL, aM := g.aM,
           aH := ?_, aJ := ?_, aC := ?_, aI := ?_, aK := ?_ }
  · intro n
    by_cases hn : n = G.N
    · subst hn
      rw [locN]
      constructor
      · rintro (hl | ⟨_, ho⟩)
        · exact absurd hl g.bK
        · exact ⟨⟨_, _, _, new⟩, Y6.1 ho⟩
      · rintro ⟨_, b, hb⟩; exact .inr ⟨rfl, by simp [hb]⟩
    · rw [liveO n hn, locO n hn, g.aD n]
      constructor <;> rintro ⟨⟨a, b, c, hh⟩, hb⟩
      · exact ⟨⟨a, b, c, (old n _ hn).2 hh⟩, hb⟩
      · exact ⟨⟨a, b, c, (old n _ hn).1 hh⟩, hb⟩
  · intro n b hb
    have : n ≠ G.N := by rintro rfl; exact g.bL b hb
    exact (old n _ this).2 (g.aE n b hb)
  · intro n m b hn hm hbn hbm
    by_cases h1 : n = G.N <;> by_cases h2 : m = G.N
    · rw [h1, h2]
    · subst h1; rw [locN] at hbn; rw [locO m h2] at hbm
      exact absurd hbm ((hfree b hbn).1 m ((liveO m h2).1 hm))
    · subst h2; rw [locN] at hbm; rw [locO n h1] at hbn
      exact absurd hbn ((hfree b hbm).1 n ((liveO n h1).1 hn))
    · rw [locO n h1] at hbn; rw [locO m h2] at hbm
      exact g.inj n m b ((liveO n h1).1 hn) ((liveO m h2).1 hm) hbn hbm
  · intro n m b hn hb ht
    by_cases h1 : n = G.N
    · subst h1; rw [locN] at hb; exact (hfree b hb).2.1 m ht
    · rw [locO n h1] at hb; exact g.aF n m b ((liveO n h1).1 hn) hb ht
  · intro n b hn hb hs
    by_cases h1 : n = G.N
    · subst h1; rw [locN] at hb; exact (hfree b hb).2.2 hs
    · rw [locO n h1] at hb; exact g.aG n b ((liveO n h1).1 hn) hb hs
  · intro n b hb; exact Xj (g.aH n b hb) hsize
  · intro b hb; exact Xj (g.aJ b hb) hsize
  · intro n sz' es' gr' b hn hb
    by_cases h1 : n = G.N
    · subst h1
      rw [new] at hn
      obtain ⟨rfl, rfl, rfl⟩ : sz = sz' /\ es = es' /\ gr = gr' := by simpa using hn
      rw [locN] at hb
      exact hH b hb
    · have hn' := (old n _ h1).1 hn
      rw [locO n h1] at hb
      exact (g.aC n sz' es' gr' b hn' hb).aA k (hother n b (g.aN hn' hb) hb)
  · intro n sz' es' gr' hn hb
    by_cases h1 : n = G.N
    · subst h1
      rw [new] at hn
      obtain ⟨rfl, rfl, rfl⟩ : sz = sz' /\ es = es' /\ gr = gr' := by simpa using hn
      rw [locN] at hb
      exact hnil hb
    · rw [locO n h1] at hb
      exact g.aI n sz' es' gr' ((old n _ h1).1 hn) hb
  · intro n hn
    by_cases h1 : n = G.N
    · subst h1
      rw [locN]
      simpa [Gh.aC] using hn
    · rw [locO n h1]
      exact g.aK n (by simpa [Gh.aC, h1] using hn)
theorem fY.aZ {G w h}(g:fY G w h){cells:Array Value}{ty:TypeId}{sz:Nat}{es:List (List AV)}{gr:Bool}
  (e:jR sz es) (u:es.length*sz <= cells.size) (E:gr=false -> cells.size=es.length*sz)
  (hV:∀i j c,gI es i j=some c -> ∃v,cells[i*sz+j]?=some v /\ V G w c v):
  fY (G.aC (some w.heap.size)) (w.alloc (.cells cells ty)) (h++[some (.aA sz es gr)]):=by
 have k:=g.aX (.cells cells ty);refine g.aW k ς (λn b hn hb=>o_ (g.aO hn hb)) ?_ ?_ ς;·rintro b ⟨⟩;refine⟨λn hn hb=>Zp _ (g.aO hn hb),λn ht=>Zp _ (g.aH n _ ht),λhs=>Zp _ (g.aJ _ hs)⟩
 ·rintro b ⟨⟩;exact⟨⟨cells,ty,wD,u,E,λi j c hj=>let⟨v,hv,hV⟩:=hV i j c hj;⟨v,hv,hV.aA k⟩⟩,e⟩
theorem UX {w:World}{a:Addr}{v:Value}{b:Nat}:(w.setCell a v).shape? b=w.shape? b:=by
 simp only[World.shape?,World.setCell,Zi];by_cases h:a.block=b
 ·subst h;simp only[Yc];cases w.heap[a.block]? with
  | none=>rfl
  | some o=>cases o<;>simp;split<;>simp
 ·simp only[h,XS]
theorem DL {w:World}{a:Addr}{v:Value}{b:Nat}(h:a.block≠b):(w.setCell a v).heap[b]?=w.heap[b]?:=by simp only[World.setCell,Zi,h,XS]
theorem O_ {w:World}{b o:Nat}{v:Value}{cells:Array Value}{ty:TypeId}{fr:Nat×Nat} (h:w.heap[b]?=some (.cells cells ty fr)):
  (w.setCell ⟨b,o,none⟩ v).heap[b]?=some (.cells (cells.setIfInBounds o v) ty fr):=by
 simp[World.setCell,Zi,h]
theorem fY.bz {G w h}(g:fY G w h){n b}(hn:G.aD n)(hb:G.aA n=some b)(o:Nat)(v:Value):iB G w G (w.setCell ⟨b,o,none⟩ v) where
 N:=WX _
 aA _ _ _ h:=h
 aF _ _ h:=h
 aC _ _ h:=h
 aD t b' hp:=DL (by
  rintro rfl;cases t with
  | zero=>exact g.aG n _ hn hb hp
  | succ m=>exact g.aF n m _ hn hb hp)
 aE b _:=UX
theorem fY.bO {G w h}(g:fY G w h){n b}(hn:G.aD n)(hb:G.aA n=some b)(o:Nat)(v:Value):gP G w G (w.setCell ⟨b,o,none⟩ v) where
 aH:=kL.aE w _ v
 aA:=g.bz hn hb o v
 S:=⟨λ_ h=>h,λ_ h=>.inl h⟩
 aF _ _:=rfl
 aJ _ _:=YD
 aC:=by simp
 aE b' _ hb':=DL (by rintro rfl;exact hb' (.inl ⟨n,hn,hb⟩))
 aG b hb:=.inl hb
def pC (es:List (List AV))(i j:Nat)(c:AV):List (List AV):=es.modify i (·.set j c)
theorem O4 {es:List (List AV)}{i j i' j':Nat}{c:AV}:
  gI (pC es i j c) i' j'=if i'=i /\ j'=j /\ (gI es i j).isSome then some c else gI es i' j':=by
 simp only[gI,pC,Zb];by_cases hi:i'=i
 ·subst hi;simp only[Yc,true_and];cases h:es[i']? with
  | none=>simp
  | some e=>
   simp only[Yx];by_cases hj:j'=j
   ·subst hj;by_cases hl:j'<e.length;·simp[hl]
    ·simp[hl]
   ·have:¬(j=j'):=λh=>hj h.symm;simp[hj,this]
 ·have:¬(i=i'):=λh=>hi h.symm;simp[hi,this]
theorem DW {es:List (List AV)}{i j:Nat}{c:AV}:(pC es i j c).length=es.length:=by simp[pC]
theorem Q7 {sz i j i' j':Nat}(hj:j<sz)(e:j'<sz)(h:i*sz+j=i'*sz+j'):i=i' /\ j=j':=by
 have hs:0<sz:=ω;have hi:i=i':=by
  have e1:(i*sz+j) / sz=i:=by rw[Nat.mul_comm,Nat.mul_add_div hs,Nat.div_eq_of_lt hj,Y8]
  have e2:(i'*sz+j') / sz=i':=by rw[Nat.mul_comm,Nat.mul_add_div hs,Nat.div_eq_of_lt e,Y8]
  rw[<- e1,<- e2,h]
 subst hi;exact⟨rfl,ω⟩
theorem pW {es:List (List AV)}{i j sz:Nat}{c:AV}(hs:jR sz es)(h:gI es i j=some c):i<es.length /\ j<sz:=by
 simp only[gI]at h;cases he:es[i]? with
 | none=>simp[he]at h
 | some e=>simp[he]at h;obtain⟨hi,rfl⟩:=WR.1 he;have:=(hs _ (Xq hi)).1;have:=(WR.1 h).1;exact⟨hi,ω⟩
theorem rI {n sz i j:Nat}(hi:i<n)(hj:j<sz):i*sz+j<n*sz:=by have:=XZ sz (Nat.succ_le_of_lt hi);rw[Nat.succ_mul]at this;omega
theorem lT.aD {G w b sz es gr i j c}(h:lT G w b sz es gr)(hc:gI es i j=some c):
  ∃v,w.cell? ⟨b,i*sz+j,none⟩=some v /\ w.frozen? ⟨b,i*sz+j,none⟩=false /\ V G w c v:=by
 obtain⟨⟨cells,ty,hh,_,_,h3⟩,_⟩:=h;obtain⟨v,hv,hV⟩:=h3 i j c hc;exact⟨v,by simp[World.cell?,hh,hv],by simp[World.frozen?,hh],hV⟩
theorem fY.bI {G w h} (g : fY G w h) {n b sz es gr i j c0 c} {v : Value} (hn : h[n]? = some (some (.aA sz es gr))) (hb : G.aA n = some b)
    (hc : gI es i j = some c0) (hV : V G w c v) (hsc : c.aH = true) :
    fY G (w.setCell ⟨b, i * sz + j, none⟩ v) (h.set n (some (.aA sz (pC es i j c) gr))) := by
  have hl : G.aD n := g.aN hn hb
  have k := g.bz hl hb (i * sz + j) v
  have hlt : n < h.length := (WR.1 hn).1
  refine { aA := by simp [g.aA], aD := ?_, aE := ?_, inj := g.inj, aF := g.aF, aG := g.aG, aL := g.aL, aM := g.aM,
           aH := λm b hb => by simpa using g.aH m b hb, aJ := λb hb => by simpa using g.aJ b hb, aC := ?_, aI := ?_, aK := g.aK }
  · intro m
    rw [g.aD m]
    by_cases hm : n = m
    · subst hm
      exact ⟨λh => ⟨⟨sz, pC es i j c, gr, by simp [hlt]⟩, h.2⟩, λh => ⟨⟨_, _, _, hn⟩, h.2⟩⟩
    · rw [WS hm]
  · intro m b hb
    have hm : n ≠ m := by rintro rfl; rw [g.aE _ _ hb] at hn; simp at hn
    rw [WS hm]; exact g.aE m b hb
  · intro m sz' es' gr' b' hm hb'
    by_cases h1 : n = m
    · subst h1
      rw [hb] at hb'; cases hb'
      rw [W0 hlt] at hm
      obtain ⟨rfl, rfl, rfl⟩ : sz = sz' /\ pC es i j c = es' /\ gr = gr' := by simpa using hm
      obtain ⟨⟨cells, ty, hh, h1, h2, h3⟩, hs⟩ := g.aC n sz es gr b hn hb
      obtain ⟨hi, hj⟩ := pW hs hc
      refine ⟨⟨cells.setIfInBounds (i * sz + j) v, ty, O_ hh, by simpa [DW] using h1, by simpa [DW] using h2, ?_⟩, ?_⟩
      · intro i' j' c' hc'
        rw [O4] at hc'
        have hlt' := rI hi hj
        by_cases he : i' = i /\ j' = j
        · obtain ⟨rfl, rfl⟩ := he
          simp only [hc, Option.isSome_some, and_self, Yc, W8] at hc'
          subst hc'
          exact ⟨v, by rw [Array.getElem?_setIfInBounds_self_of_lt ω], hV.aA k⟩
        · have : ¬ (i' = i /\ j' = j /\ (gI es i j).isSome = true) := λh => he ⟨h.1, h.2.1⟩
          rw [WY this] at hc'
          obtain ⟨v', hv', hV'⟩ := h3 i' j' c' hc'
          refine ⟨v', ?_, hV'.aA k⟩
          obtain ⟨hi', hj'⟩ := pW hs hc'
          rw [YS (λe => he (by have := Q7 hj hj' e; exact ⟨this.1.symm, this.2.symm⟩))]
          exact hv'
      · intro e he
        simp only [pC] at he
        obtain ⟨idx, hidx, rfl⟩ := YV.1 he
        have hs' := λk hk => hs (es[k]'hk) (Xq hk)
        rw [List.getElem_modify]
        split
        · refine ⟨by simp [hs'], ?_⟩
          rw [YH]
          intro x hx
          rcases Y3 hx with h | h
          · exact YH.1 (hs' idx (by simpa using hidx)).2 x h
          · rw [h]; exact hsc
        · exact hs' idx (by simpa using hidx)
    · rw [WS h1] at hm
      have hlm : G.aD m := g.aN hm hb'
      exact (g.aC m sz' es' gr' b' hm hb').aA k (DL (λe => h1 (g.inj n m b hl hlm hb (by rw [hb']; exact Y5 some e.symm))))
  · intro m sz' es' gr' hm hb'
    by_cases h1 : n = m
    · subst h1; rw [hb] at hb'; cases hb'
    · rw [WS h1] at hm
      exact g.aI m sz' es' gr' hm hb'
def Gh.aH (G:Gh)(n:Nat):Gh:={G with aD:=λm=>G.aD m /\ m≠n}
theorem Gh.aO (G:Gh)(w:World)(n:Nat):iB G w (G.aH n) w:=
 ⟨WX _,λ_ _ _ h=>h,λ_ _ h=>h,λt b h=>by cases t<;>exact h,λ_ _ _=>rfl,λ_ _=>rfl⟩
theorem Gh.aQ (G:Gh)(w:World)(n:Nat):gP G w (G.aH n) w where
 aH:=kL.aA w
 aA:=G.aO w n
 S:=⟨λ_ h=>h,λ_ h=>.inl h⟩
 aF _ _:=rfl
 aJ _ _:=YD
 aC:=WX _
 aE _ _ _:=rfl
 aG b hb:=by
  rcases hb with⟨m,hm,h⟩ | ⟨m,h⟩;·exact .inl (.inl ⟨m,hm.1,h⟩)
  ·exact .inl (.inr ⟨m,h⟩)
theorem fY.aR {G w h} (g : fY G w h) {n sz es gr} (hn : h[n]? = some (some (.aA sz es gr))) : fY (G.aH n) w (h.set n none) := by
  have hlt : n < h.length := (WR.1 hn).1
  have k := G.aO w n
  refine { aA := by simp [Gh.aH, g.aA], aD := ?_, aE := ?_, inj := fun a b c h1 h2 => g.inj a b c h1.1 h2.1, aF := fun a b c h1 => g.aF a b c h1.1,
           aG := λa b h1 => g.aG a b h1.1, aL := g.aL, aM := g.aM, aH := g.aH, aJ := g.aJ, aC := ?_, aI := ?_, aK := g.aK }
  · intro m
    by_cases h1 : n = m
    · subst h1
      exact ⟨λh => absurd rfl h.2, fun ⟨⟨a, b, c, hh⟩, _⟩ => by simp [hlt] at hh⟩
    · rw [WS h1]
      exact ⟨λh => (g.aD m).1 h.1, λh => ⟨(g.aD m).2 h, λe => h1 e.symm⟩⟩
  · intro m b hb
    have hm : n ≠ m := by rintro rfl; rw [g.aE _ _ hb] at hn; simp at hn
    rw [WS hm]; exact g.aE m b hb
  · intro m u I E b hm hb
    by_cases h1 : n = m
    · subst h1; simp [hlt] at hm
    · rw [WS h1] at hm
      exact (g.aC m u I E b hm hb).aA k rfl
  · intro m u I E hm hb
    by_cases h1 : n = m
    · subst h1; simp [hlt] at hm
    · rw [WS h1] at hm
      exact g.aI m u I E hm hb
end Glb
/-
 A library of its own,for whatever program: the single operations,on abstract values and on values in memory.
-/
namespace Glb
open Go
variable {P:Program}
def VL (G:Gh)(w:World)(cs:List AV)(vs:Array Value):Prop:=
 cs.length=vs.size /\ ∀(j:Nat)(c:AV)(v:Value),cs[j]?=some c -> vs[j]?=some v -> V G w c v
theorem VL.aE {G w cs vs cs' vs'}(h:VL G w cs vs)(h':VL G w cs' vs'):VL G w (cs++cs') (vs++vs'):=by
 refine⟨by simp[h.1,h'.1],λj c v hc hv=>?_⟩;rw[Yk]at hc;rw[Zh,<- h.1]at hv;split at hc;·rename_i hlt;rw[WW hlt]at hv;exact h.2 j c v hc hv
 ·rename_i hlt;rw[WY hlt]at hv;exact h'.2 _ c v hc hv
theorem VL.aC {G w cs vs}{j:Nat}{c:AV}(h:VL G w cs vs) (hj:cs[j]?=some c):∃v,vs[j]?=some v /\ V G w c v:=by
 have hlt:=(WR.1 hj).1;have:vs[j]?=some (vs[j]'(by rw[<- h.1];exact hlt)):=by simp[<- h.1,hlt]
 exact⟨_,this,h.2 j c _ hj this⟩
theorem VL.aG (G w):VL G w [] #[]:=⟨rfl,λj c v h=>by simp at h⟩
theorem VL.aI {G w}{cs:List AV}{vs:List Value}(hl:cs.length=vs.length)
  (h:∀(j:Nat)(c:AV)(v:Value),cs[j]?=some c -> vs[j]?=some v -> V G w c v):VL G w cs vs.toArray:=
 ⟨by simpa using hl,λj c v a b=>h j c v a (by simpa using b)⟩
theorem VL.aF {G w c v}{cs:List AV}{vs:List Value}(h:V G w c v)(r:VL G w cs vs.toArray):VL G w (c :: cs) (v :: vs).toArray:=by
 refine VL.aI (by have:=r.1;simp at this;simp[this]) ?_;intro j c' v' hc hv;cases j with
 | zero=>simp at hc hv;subst hc;subst hv;exact h
 | succ j=>simp at hc hv;exact r.2 j c' v' hc (by simpa using hv)
def jL:Value -> AV
 | .bool b=>.aE b
 | .int k n=>.aD k n
 | .string s=>.aQ s
 | .slice none 0 0=>.aC
 | v=>.aN v
def zq:Value -> AV
 | .agg cs=>.aF (cs.toList.map jL)
 | .tuple cs=>.aI (cs.toList.map jL)
 | v=>jL v
theorem V.aT (G w)(v:Value):V G w (jL v) v:=by
 unfold Glb.jL;split;·exact .aF _
 ·exact .aC _ _
 ·exact .aQ _
 ·exact .aO
 ·exact .aP _
theorem VL.aD (G w)(vs:Array Value):VL G w (vs.toList.map Glb.jL) vs:=by refine⟨ς,λj c v hc hv=>?_⟩;simp only[XR,Array.getElem?_toList,hv,YG,W8]at hc;subst hc;exact V.aT G w v
theorem V.aZ (G w)(v:Value):V G w (zq v) v:=by
 unfold Glb.zq;split;·rename_i cs;exact .aJ _ cs (VL.aD G w cs).1 (VL.aD G w cs).2
 ·rename_i cs;exact .aM _ cs (VL.aD G w cs).1 (VL.aD G w cs).2
 ·exact V.aT G w _
theorem V.aU {G w c v}(h:V G w c v)(hs:c.aH=true):v.oneCell'=true:=by cases h<;>simp_all[AV.aH,Value.oneCell']
theorem V.a_ {G w c v}(h:V G w c v)(hs:c.aH=true):v.cells=#[v]:=by have:=h.aU hs;cases v<;>simp_all[Value.cells,Value.oneCell']
def AV.aK:AV -> Option (List AV)
 | .aF cs=>some cs
 | c=>if c.aH then some [c] else none
theorem V.aS {G w c v cs}(h:V G w c v)(hc:c.aK=some cs):VL G w cs v.cells:=by
 unfold AV.aK at hc;split at hc
 ·cases h with
  | aJ _ vs hl hv=>cases hc;exact⟨hl,hv⟩
 ·rename_i hne;split at hc;·rename_i hs;cases hc;rw[h.a_ hs];exact VL.aF (vs:=[]) h (VL.aG G w)
  ·cases hc
def qM (agg:Bool)(n:Nat)(cs:List AV):Option AV:=
 if agg then (if n <= cs.length then some (.aF (cs.take n)) else none) else cs.head?
def iK (h:fu)(agg:Bool)(n:Nat):AV -> Option AV
 | .aA m sz i o=>
  match h[m]? with
  | some (some (.aA sz' es _))=>if sz=sz' then (es[i]?).bind λe=>qM agg n (e.drop o) else none
  | _=>none
 | .aO _ cs=>qM agg n cs
 | _=>none
theorem qt (b o n:Nat):(⟨b,o,none⟩:Addr).add n=⟨b,o+n,none⟩:=by unfold Addr.add;split<;>simp_all
theorem vY {a:Addr}(h:a.spot=none)(n:Nat):a.add n=⟨a.block,a.off+n,none⟩:=by cases a;simp at h;subst h;exact qt _ _ _
def xu (G:Gh)(w:World)(b o:Nat)(cs:List AV):Prop:=
 ∃f:Nat -> Value,(∀(j:Nat)(c:AV),cs[j]?=some c -> w.cell? ⟨b,o+j,none⟩=some (f j)) /\ ∀(j:Nat)(c:AV),cs[j]?=some c -> V G w c (f j)
theorem xu.aA {G w b o cs}(h:xu G w b o cs){agg:Bool}{n:Nat}{r:AV}(hr:qM agg n cs=some r)
  {t:TypeId} (ha:(isAgg t).run P w=.ok agg w) (hs:(Go.sizeOf t).run P w=.ok n w):
  ∃v,(loadVar t ⟨b,o,none⟩).run P w=.ok v w /\ V G w r v:=by
 obtain⟨f,hf,hV⟩:=h;unfold qM at hr;cases agg with
 | true=>
  simp only[Yc]at hr;split at hr
  ·rename_i hle;cases hr;have hl:=run_loadCells (P:=P) (w:=w) ⟨b,o,none⟩ n f (λj hj=>by
    rw[qt];have:cs[j]?=some cs[j]:=by simp
    exact hf j _ this)
   refine⟨.agg ((List.range n).map f).toArray,by simp[loadVar,ha,hs,hl],?_⟩;refine .aJ _ _ (by simp;omega) (λj c v hc hv=>?_);have hj:j<n:=by have:=(WR.1 hc).1;simp at this;omega
   rw[XV hj]at hc;simp[hj]at hv;subst hv;exact hV j c hc
  ·cases hr
 | false=>
  simp only[Xt,XS]at hr;have h0:cs[0]?=some r:=by rw[<- List.head?_eq_getElem?];exact hr
  have hc:=hf 0 r h0;simp only[Y8]at hc;exact⟨f 0,by simp[loadVar,ha,hc],hV 0 r h0⟩
theorem lT.aE {G w b sz es gr i e}(h:lT G w b sz es gr) (he:es[i]?=some e) (o:Nat):xu G w b (i*sz+o) (e.drop o):=by
 obtain⟨⟨cells,ty,hh,_,_,h3⟩,_⟩:=h;refine⟨λj=>(cells[i*sz+(o+j)]?).getD undef,λj c hc=>?_,λj c hc=>?_⟩ <;>
 ·rw[Xv]at hc;obtain⟨v,hv,hV⟩:=h3 i (o+j) c (by simp[gI,he,hc]);simp[World.cell?,hh,YW,hv,hV]
theorem Gm {G w h agg n x r v}(g:fY G w h)(hx:V G w x v)(hr:iK h agg n x=some r)
  {t:TypeId} (ha:(isAgg t).run P w=.ok agg w) (hs:(Go.sizeOf t).run P w=.ok n w):
  ∃u,(Instr.loadAt t v).run P w=.ok u w /\ V G w r u:=by
 unfold iK at hr;split at hr
 ·rename_i m sz i o;cases hx with
  | aL _ _ _ _ b hn hb=>
  split at hr
  ·rename_i sz' es gr hm;split at hr
   ·rename_i E;subst E;cases he:es[i]? with
    | none=>simp[he]at hr
    | some e=>simp only[he,Yx]at hr;obtain⟨u,hu,hV⟩:=((g.aC m sz es gr b hm hb).aE he o).aA (P:=P) hr ha hs;exact⟨u,by simp[Instr.loadAt,Instr.sureAddr,hu],hV⟩
   ·cases hr
  ·cases hr
 ·rename_i t' cs;cases hx with
  | aN _ _ b off f hp hc hV=>obtain⟨u,hu,hV⟩:=xu.aA (P:=P) (G:=G) (w:=w) (b:=b) (o:=off) ⟨f,hc,hV⟩ hr ha hs;exact⟨u,by simp[Instr.loadAt,Instr.sureAddr,hu],hV⟩
 ·cases hr
def uy (o:Nat):AV -> Option AV
 | .aA m sz i o'=>some (.aA m sz i (o'+o))
 | .aO t cs=>some (.aO t (cs.drop o))
 | _=>none
theorem Lk {G w o x r v}(hx:V G w x v)(hr:uy o x=some r)
  {s:TypeId} {k:Nat} {fs:Array Field} {f:Field} (hu:P.underlying s=some (.struct fs)) (hf:fs[k]?=some f) (ho:f.offset=o)
  {m:Nat} (hs:(Go.sizeOf f.type).run P w=.ok m w) (hm:m≠0):
  ∃u,(Instr.fieldAt s v k).run P w=.ok u w /\ V G w r u:=by
 unfold uy at hr;split at hr
 ·rename_i n sz i o';cases hx with
  | aL _ _ _ _ b hn hb=>cases hr;refine⟨_,by simp[Instr.fieldAt,run_underlying hu,hf,Instr.sureAddr,fieldPlace,hs,hm,ho,qt];rfl,?_⟩;rw[YW];exact .aL _ _ _ _ _ hn hb
 ·rename_i t' cs;cases hx with
  | aN _ _ b off f' hp hc hV=>
   cases hr;refine⟨_,by simp[Instr.fieldAt,run_underlying hu,hf,Instr.sureAddr,fieldPlace,hs,hm,ho,qt];rfl,?_⟩;refine .aN _ _ _ _ (λj=>f' (o+j)) hp (λj c hj=>?_) (λj c hj=>?_);·rw[Xv]at hj;rw[YW];exact hc _ _ hj
   ·rw[Xv]at hj;exact hV _ _ hj
 ·cases hr
def jq (sz:Nat):AV -> AV -> Option AV
 | .aG m sz' off len _,.aD _ i=>if sz=sz' /\ 0 <= i /\ i<(len:Int) then some (.aA m sz (off+i.toNat) 0) else none
 | .aM t _ sz' es,.aD _ i=>if sz=sz' /\ 0 <= i then (es[i.toNat]?).map (.aO t) else none
 | _,_=>none
theorem LB {G w sz x i r v vi}(hx:V G w x v)(hi:V G w i vi)(hr:jq sz x i=some r)
  {t e:TypeId} (hu:P.underlying t=some (.slice e)) (hs:(Go.sizeOf e).run P w=.ok sz w):
  ∃u,(Instr.indexAt t v vi).run P w=.ok u w /\ V G w r u:=by
 unfold jq at hr;split at hr
 ·rename_i m E off len cap k i;cases hi;cases hx with
  | aH _ _ _ _ _ _=>simp at hr;omega
  | aD _ _ _ _ _ c ty mm b hn hb hl hcap hsh hm=>
   split at hr
   ·rename_i hh;obtain⟨rfl,h0,h1⟩:=hh;cases hr;refine⟨_,by simp[Instr.indexAt,asIntOf,run_underlying hu,hs,h0,h1,qt];rfl,?_⟩;have:off*sz+i.toNat*sz=(off+i.toNat)*sz+0:=by rw[Y4];rfl
    rw[this];exact .aL _ _ _ _ _ hn hb
   ·cases hr
 ·rename_i t' cl E es k i;cases hi;split at hr
  ·rename_i hh;obtain⟨rfl,h0⟩:=hh;cases he:es[i.toNat]? with
   | none=>simp[he]at hr
   | some e'=>
    simp only[he,YG,W8]at hr;subst hr;have hlt:=(WR.1 he).1;cases hx with
    | aG=>simp at hlt
    | aE _ _ _ _ a cap f hl hcl hsp hp hes hc hV=>
     have h1:i<(es.length:Int):=ω;refine⟨_,by simp[Instr.indexAt,asIntOf,run_underlying hu,hs,h0,h1,vY (hsp ω)];rfl,?_⟩;refine .aN _ _ _ _ (λj=>f i.toNat j) (hp (by rintro rfl;simp at hlt)) (λj c hj=>?_) (λj c hj=>?_);·rw[YW];exact hc _ _ c (by simp[gI,he,hj])
     ·exact hV i.toNat j c (by simp[gI,he,hj])
  ·cases hr
 ·cases hr
def qD (op:BinOp)(k:IntKind)(a b:Int):Option AV:=
 match op with
 | .add=>some (.aD k (k.wrap (a+b)))
 | .sub=>some (.aD k (k.wrap (a-b)))
 | .mul=>some (.aD k (k.wrap (a*b)))
 | .quo=>if b=0 then none else some (.aD k (k.wrap (a.tdiv b)))
 | .rem=>if b=0 then none else some (.aD k (a.tmod b))
 | .and=>some (.aD k (k.wrap (BitVec.ofInt k.bits a &&& BitVec.ofInt k.bits b).toNat))
 | .or=>some (.aD k (k.wrap (BitVec.ofInt k.bits a ||| BitVec.ofInt k.bits b).toNat))
 | .xor=>some (.aD k (k.wrap (BitVec.ofInt k.bits a ^^^ BitVec.ofInt k.bits b).toNat))
 | .andNot=>some (.aD k (k.wrap (BitVec.ofInt k.bits a &&& ~~~ BitVec.ofInt k.bits b).toNat))
 | .eql=>some (.aE (a == b))
 | .neq=>some (.aE (a != b))
 | .lss=>some (.aE (decide (a<b)))
 | .leq=>some (.aE (decide (a <= b)))
 | .gtr=>some (.aE (decide (a>b)))
 | .geq=>some (.aE (decide (a≥b)))
 | .shl | .shr=>none
def wG (op:BinOp)(k:IntKind)(a b:Int):Option AV:=
 match op with
 | .shl=>if b<0 then none else some (.aD k (k.wrap (a*2^(min b.toNat k.bits))))
 | .shr=>if b<0 then none else some (.aD k (a.fdiv (2^(min b.toNat k.bits))))
 | _=>none
def yn (op:BinOp)(a b:Bool):Option AV:=
 match op with
 | .eql=>some (.aE (a == b))
 | .neq=>some (.aE (!(a == b)))
 | _=>none
def JH (op:BinOp)(a b:ByteArray):Option AV:=
 match op with
 | .eql=>some (.aE (a.toList == b.toList))
 | .neq=>some (.aE (!(a.toList == b.toList)))
 | _=>none
def lC:AV -> Option Bool
 | .aC=>some true
 | .aG _ _ _ len _=>if 0<len then some false else none
 | .aM _ _ _ es=>if 0<es.length then some false else none
 | .aA ..=>some false
 | .aO ..=>some false
 | .aN (.pointer none)=>some true
 | .aN .nilIface=>some true
 | .aT ..=>some false
 | _=>none
def jX (op:BinOp):AV -> AV -> Option AV
 | .aD k a,.aD k' b=>if op=.shl \/ op=.shr then wG op k a b else if k=k' then qD op k a b else none
 | .aQ a,.aQ b=>JH op a b
 | _,_=>none
theorem Un {w:World}(op:BinOp)(t:TypeId)(x y:Operand)(k k':IntKind)(a b:Int):
  (eqGuard op t x y (.int k a) (.int k' b)).run P w=.ok () w:=by
 cases op<;>rfl
theorem Um {w:World}(op:BinOp)(t:TypeId)(x y:Operand)(a b:Bool):
  (eqGuard op t x y (.bool a) (.bool b)).run P w=.ok () w:=by
 cases op<;>rfl
theorem Uo {w:World}(op:BinOp)(t:TypeId)(x y:Operand)(a b:ByteArray):
  (eqGuard op t x y (.string a) (.string b)).run P w=.ok () w:=by
 cases op<;>rfl
theorem F7 {G w op x y r vx vy}(hx:V G w x vx)(hy:V G w y vy)(hr:jX op x y=some r)(t:TypeId)(ox oy:Operand):
  ∃u,(do eqGuard op t ox oy vx vy;binOp op t vx vy:Sem Value).run P w=.ok u w /\ V G w r u:=by
 unfold jX at hr
 split at hr
 ·rename_i k a k' b
  cases hx;cases hy
  simp only[Sem.run_bind,Un,Result.andThen_ok]
  split at hr
  ·rename_i e
   rcases e with rfl | rfl<;>simp only[wG]at hr<;>split at hr<;>simp only[W8,reduceCtorEq]at hr<;>subst hr <;>
    rename_i hlt<;>simp[binOp,Op.shift,hlt]<;>exact .aC _ _
  ·rename_i e
   split at hr
   ·rename_i hk
    subst hk
    cases op<;>simp only[qD,reduceCtorEq]at hr
    case quo=>split at hr<;>simp only[W8,reduceCtorEq]at hr;subst hr;rename_i hz;simp[binOp,Op.intDiv,hz];exact .aC _ _
    case rem=>split at hr<;>simp only[W8,reduceCtorEq]at hr;subst hr;rename_i hz;simp[binOp,Op.intDiv,hz];exact .aC _ _
    all_goals simp only[W8]at hr;subst hr
    all_goals first
     | (refine⟨_,?_,.aF _⟩;simp only[binOp,Op.intCmp,ne_eq,not_true_eq_false,XS,Sem.run_pure];done)
     | (refine⟨_,?_,.aC _ _⟩;simp only[binOp,Op.intArith,Op.intBits,ne_eq,not_true_eq_false,XS,Sem.run_pure];done)
   ·cases hr
 ·rename_i a b
  cases hx;cases hy
  simp only[Sem.run_bind,Uo,Result.andThen_ok]
  cases op<;>simp only[JH,reduceCtorEq,W8]at hr<;>subst hr
  ·exact⟨_,rfl,.aF _⟩
  ·exact⟨_,rfl,.aF _⟩
 ·cases hr
theorem Mh {G w op a b r}(hr:yn op a b=some r)(t:TypeId)(ox oy:Operand)(hu:P.underlying t=some .bool):
  ∃u,(do eqGuard op t ox oy (.bool a) (.bool b);binOp op t (.bool a) (.bool b):Sem Value).run P w=.ok u w /\ V G w r u:=by
 simp only[Sem.run_bind,Um,Result.andThen_ok];cases op<;>simp only[yn,reduceCtorEq,W8]at hr<;>subst hr;·exact⟨_,run_eql_bool w t a b hu,.aF _⟩
 ·exact⟨_,run_neq_bool w t a b hu,.aF _⟩
def rX:Option Int -> Int -> Nat -> Bool -> Bool
 | some m,h,_,_=>decide (m=h)
 | none,h,n,cl=>cl && decide (h=(n:Int))
def jW:Option Int -> Nat -> Option Nat -> Option Nat
 | some m,l,_=>some (m.toNat-l)
 | none,l,cap=>cap.map (·-l)
def iX (sz:Nat)(x:AV)(lo hi mx:Option Int):Option AV:=
 let l:=lo.getD 0
 match x with
 | .aC=>if l=0 /\ hi.getD 0=0 /\ mx.getD 0=0 then some .aC else none
 | .aG m sz' off len cap=>
  let h:=hi.getD len
  if sz=sz' /\ 0 <= l /\ l <= h /\ (h <= (len:Int) \/ cap.isSome=true) /\ h <= mx.getD h /\ mx.getD h <= ((cap.getD len:Nat):Int) then
   let c:Option Nat:=jW mx l.toNat cap
   if l=0 then some (.aG m sz off h.toNat c)
   else if l<h then some (.aG m sz (off+l.toNat) (h.toNat-l.toNat) c)
   else some (.aM 0 false sz [])
  else none
 | .aM t clip sz' es=>
  let h:=hi.getD es.length
  if sz=sz' /\ 0 <= l /\ l <= h /\ h <= (es.length:Int) /\ h <= mx.getD h /\ mx.getD h <= (es.length:Int) then
   some (.aM t (rX mx h es.length clip) sz ((es.take h.toNat).drop l.toNat))
  else none
 | _=>none
theorem vu {w:World}(k:IntKind)(i:Int)(y:Nat)(code:BoundsCode)(h0:0 <= i)(h1:i <= (y:Int)):
  (Instr.sliceBound (.int k i) y code).run P w=.ok i.toNat w:=by
 simp[Instr.sliceBound,asIntOf,h0,h1]
theorem xe {w:World}(b:Bool)(len cap:Nat)(lo hi mx:Option Int)(u E e:IntKind)
  (h0:0 <= lo.getD 0) (h1:lo.getD 0 <= hi.getD len) (h2:hi.getD len <= mx.getD cap) (h3:mx.getD cap <= (cap:Int)) (hm:mx.isSome -> hi.isSome):
  (Instr.sliceBounds b len cap (lo.map (.int u)) (hi.map (.int E)) (mx.map (.int e))).run P w =
   .ok ((lo.getD 0).toNat,(hi.getD len).toNat,(mx.getD cap).toNat) w:=by
 unfold Instr.sliceBounds;cases mx with
 | none=>
  cases hi with
  | none=>
   cases lo with
   | none=>simp
   | some l=>simp at h0 h1 h2 h3 ⊢;rw[vu _ _ _ _ h0 ω];simp
  | some h=>
   simp at h0 h1 h2 h3 ⊢;rw[vu _ _ _ _ ω ω];cases lo with
   | none=>simp
   | some l=>simp at h0 h1 ⊢;rw[vu _ _ _ _ h0 ω];simp
 | some m=>
  cases hi with
  | none=>simp at hm
  | some h=>
   simp at h0 h1 h2 h3 ⊢;rw[vu _ _ _ _ ω ω];simp;rw[vu _ _ _ _ ω ω];cases lo with
   | none=>simp
   | some l=>simp at h0 h1 ⊢;rw[vu _ _ _ _ h0 ω];simp
theorem V.aW {G w}(t:Nat)(sz:Nat)(a:Addr)(cap:Nat)(ha:cap≠0 -> a.spot=none)(u:Bool)(hc:u=true -> cap=0):
  V G w (.aM t u sz []) (.slice (some a) 0 cap):=
 V.aE t u sz [] a cap (λ_ _=>undef) (Xm _) hc ha (λh=>absurd rfl h) (λe he=>by simp at he) (λi j c h=>by simp[gI]at h) (λi j c h=>by simp[gI]at h)
theorem L6 {G w sz x lo hi mx r v}(hx:V G w x v)(hr:iX sz x lo hi mx=some r)(klo khi kmx:IntKind)
  (hm:mx.isSome -> hi.isSome) {t e:TypeId} (hu:P.underlying t=some (.slice e)) (hs:(Go.sizeOf e).run P w=.ok sz w):
  ∃u,(Instr.sliceAt t v (lo.map (.int klo)) (hi.map (.int khi)) (mx.map (.int kmx))).run P w=.ok u w /\ V G w r u:=by
 unfold iX at hr;simp only at hr;split at hr
 ·cases hx;split at hr;·rename_i hh;obtain⟨e0,e1,e2⟩:=hh;cases hr;refine⟨.slice none 0 0,?_,.aO⟩;have:=xe (P:=P) (w:=w) true 0 0 lo hi mx klo khi kmx ω (by simp only[Zt]at *;omega) (by simp only[Zt]at *;omega) (by simp only[Zt]at *;omega) hm;simp[Instr.sliceAt,Instr.slice,run_underlying hu,this,hs,e0,e1,e2]
  ·cases hr
 ·rename_i m sz' off len cap;cases hx with
  | aH _ _ _ hn hb hc=>
   split at hr
   ·rename_i hh;obtain⟨rfl,e0,e1,e2,e3,e4⟩:=hh;have hc0:cap.getD 0=0:=by cases cap with | none=>rfl | some k=>exact hc k rfl
    rw[hc0]at e4;have hb':=xe (P:=P) (w:=w) true 0 0 lo hi mx klo khi kmx e0 e1
     (by cases mx with | none=>simp at e4 ⊢;omega | some m=>simpa using e3) (by cases mx with | none=>simp | some m=>simpa using e4) hm
    have hl0:lo.getD 0=0:=ω;have hh0:hi.getD ((0:Nat):Int)=0:=ω;have hm0:(mx.getD ((0:Nat):Int)).toNat=0:=by cases mx with | none=>rfl | some m=>simp at e4 ⊢;omega
    rw[WW hl0]at hr;cases hr;refine⟨.slice none 0 0,by simp only[Zt]at *;simp[Instr.sliceAt,Instr.slice,run_underlying hu,hb',hs,hl0,hh0,hm0],?_⟩;rw[hh0];refine .aH _ _ _ hn hb (λk hk=>?_);cases mx with
    | some m=>simp[jW,hl0]at hk e4;omega
    | none=>cases cap with
     | none=>simp[jW]at hk
     | some q=>have:=hc q rfl;simp[jW]at hk;omega
   ·cases hr
  | aD _ _ _ _ _ c ty mm b hn hb0 hl hcap hsh hmm=>
   split at hr
   ·rename_i hh;obtain⟨rfl,e0,e1,e2,e3,e4⟩:=hh;have hcle:((cap.getD len:Nat):Int) <= (c:Int):=by
     cases cap with
     | none=>simpa using hl
     | some k=>have:=hcap k rfl;simp;omega
    have e5:hi.getD len <= mx.getD c:=by cases mx with | none=>simp at e3 e4 ⊢;omega | some m=>simpa using e3
    have e6:mx.getD c <= (c:Int):=by cases mx with | none=>simp | some m=>simp at e4 ⊢;omega
    have hb:=xe (P:=P) (w:=w) true len c lo hi mx klo khi kmx e0 e1 e5 e6 hm;generalize hL:lo.getD 0=l at *;generalize hH:hi.getD len=h at *;have hmax:(mx.getD c).toNat <= c:=ω;have hhm:h.toNat <= (mx.getD c).toNat:=ω;have hrun:(Instr.sliceAt t (.slice (some ⟨b,off*sz,none⟩) len c) (lo.map (.int klo)) (hi.map (.int khi)) (mx.map (.int kmx))).run P w =
      .ok (.slice (if (mx.getD c).toNat=l.toNat then some ⟨b,off*sz,none⟩ else some ⟨b,off*sz+l.toNat*sz,none⟩) (h.toNat-l.toNat) ((mx.getD c).toNat-l.toNat)) w:=by
     simp[Instr.sliceAt,Instr.slice,run_underlying hu,hb,hs,qt]
    have hcap':∀k,jW mx l.toNat cap=some k -> (mx.getD c).toNat-l.toNat=k:=by
     intro k hk;cases mx with
     | some m=>simpa [jW] using hk
     | none=>
      cases cap with
      | none=>simp[jW]at hk
      | some q=>have:=hcap q rfl;simp[jW]at hk ⊢;omega
    split at hr;·rename_i hl0;subst hl0;cases hr;refine⟨_,hrun,?_⟩;simp only[Int.toNat_zero,Nat.zero_mul,Y8,ite_self,Nat.sub_zero]at hcap' ⊢;refine .aD _ _ _ _ _ _ ty mm b hn hb0 hhm hcap' hsh (Xg (XZ _ ω) hmm)
    ·split at hr;·rename_i hl0 hlh;cases hr;refine⟨_,hrun,?_⟩;rw[WY ω,<- Y4];refine .aD _ _ _ _ _ _ ty mm b hn hb0 ω hcap' hsh (Xg (XZ _ ω) hmm)
     ·rename_i hl0 hlh;cases hr;refine⟨_,hrun,?_⟩;have:h.toNat-l.toNat=0:=ω;rw[this];split<;>exact V.aW _ _ _ _ (λ_=>rfl) false ς
   ·cases hr
 ·rename_i t' cl sz' es;split at hr
  ·rename_i hh;obtain⟨rfl,e0,e1,e2,e3,e4⟩:=hh;generalize hL:lo.getD 0=l at *;generalize hH:hi.getD es.length=h at *;cases hr;cases hx with
   | aG=>
    simp at e2 e4 hH;have hb:=xe (P:=P) (w:=w) true 0 0 lo hi mx klo khi kmx ω (by simp;omega)
     (by cases mx with | none=>simp;omega | some m=>simp at e3 e4 ⊢;omega) (by cases mx with | none=>simp | some m=>simp at e3 e4 ⊢;omega) hm
    refine⟨.slice none 0 0,?_,by simpa using V.aG _ _ _⟩;simp[Instr.sliceAt,Instr.slice,run_underlying hu,hb,hs];cases mx with | none=>simp;omega | some m=>simp at e3 e4 ⊢;omega
   | aE _ _ _ _ a cap f hl hcl hsp hp hes hc hV=>
    have e5:hi.getD es.length <= mx.getD cap:=by rw[hH];cases mx with | none=>simp at e3 ⊢;omega | some m=>simpa using e3
    have e6:mx.getD cap <= (cap:Int):=by cases mx with | none=>simp | some m=>simp at e4 ⊢;omega
    have hb:=xe (P:=P) (w:=w) true es.length cap lo hi mx klo khi kmx ω (by rw[hL,hH];exact e1) e5 e6 hm;rw[hL,hH]at hb;have hhm:h.toNat <= (mx.getD cap).toNat:=by rw[hH]at e5;omega
    have hlen:((es.take h.toNat).drop l.toNat).length=h.toNat-l.toNat:=by simp;omega
    have hclip:rX mx h es.length cl=true -> (mx.getD cap).toNat-l.toNat=h.toNat-l.toNat:=by
     intro hq;cases mx with
     | some m=>simp[rX]at hq;subst hq;rfl
     | none=>simp[rX]at hq ⊢;have:=hcl hq.1;omega
    have hrun:(Instr.sliceAt t (.slice (some a) es.length cap) (lo.map (.int klo)) (hi.map (.int khi)) (mx.map (.int kmx))).run P w =
      .ok (.slice (if (mx.getD cap).toNat=l.toNat then some a else some ⟨a.block,a.off+l.toNat*sz,none⟩) (h.toNat-l.toNat) ((mx.getD cap).toNat-l.toNat)) w:=by
     by_cases hcz:cap=0
     ·have e1:(mx.getD cap).toNat=l.toNat:=ω;simp[Instr.sliceAt,Instr.slice,run_underlying hu,hb,hs,e1]
     ·simp[Instr.sliceAt,Instr.slice,run_underlying hu,hb,hs,vY (hsp hcz)]
    refine⟨_,hrun,?_⟩;by_cases hz:(mx.getD cap).toNat=l.toNat;·rw[WW hz];have h0:h.toNat-l.toNat=0:=ω;have he:(es.take h.toNat).drop l.toNat=[]:=W5 ω;rw[he,h0];exact V.aW _ _ _ _ (λh=>hsp ω) _ (λhq=>by have:=hclip hq;omega)
    ·rw[WY hz];have hg:∀i j c,gI ((es.take h.toNat).drop l.toNat) i j=some c -> gI es (l.toNat+i) j=some c:=by
      intro i j c hj;simp only[gI,Xv]at hj ⊢;rw[Ye]at hj;split at hj;·exact hj
      ·simp at hj
     have:=V.aE (G:=G) (w:=w) t' (rX mx h es.length cl) sz ((es.take h.toNat).drop l.toNat)
      ⟨a.block,a.off+l.toNat*sz,none⟩ ((mx.getD cap).toNat-l.toNat) (λi j=>f (l.toNat+i) j) ω (by rw[hlen];exact hclip) (λ_=>rfl)
      (λ_=>hp (by rintro rfl;simp_all)) (λe he=>hes e (XQ (Xw he))) (λi j c hj=>by have:=hc _ _ _ (hg i j c hj);rw[Y4]at this;simpa [YW] using this) (λi j c hj=>hV _ _ _ (hg i j c hj))
     rw[hlen]at this;exact this
  ·cases hr
 ·cases hr
end Glb
/-
 A library of its own,for whatever program: the operations that make or change memory.
-/
namespace Glb
open Go
variable {P:Program}
def nL (P:Program)(s:Sem Value)(G:Gh)(w:World)(r:AV)(h':fu):Prop:=
 ∃v w' G',s.run P w=.ok v w' /\ fY G' w' h' /\ V G' w' r v /\ gP G w G' w'
theorem nL.aA {P s G w h r v}(g:fY G w h)(hr:s.run P w=.ok v w)(hV:V G w r v):nL P s G w r h:=
 ⟨v,w,G,hr,g,hV,gP.aD G w⟩
theorem VL.aH {G w cs vs}(hv:VL G w cs vs):∀i j c,gI [cs] i j=some c -> ∃v,vs[i*cs.length+j]?=some v /\ V G w c v:=by
 intro i j c hc;cases i with
 | zero=>simp[gI]at hc;simpa using hv.aC hc
 | succ i=>simp[gI]at hc
def LD (P:Program)(s:Sem Value)(G:Gh)(w:World)(mkv:Nat -> AV)(sz:Nat)(es:List (List AV))(gr:Bool):Prop:=
 ∃(cells:Array Value)(ty:TypeId)(v:Value),s.run P w=.ok v (w.alloc (.cells cells ty)) /\ jR sz es /\ es.length*sz <= cells.size /\ (gr=false -> cells.size=es.length*sz) /\
  (∀i j c,gI es i j=some c -> ∃v,cells[i*sz+j]?=some v /\ V G w c v) /\
  ∀(G':Gh)(nm:Nat),nm<G'.N -> G'.aA nm=some w.heap.size -> V G' (w.alloc (.cells cells ty)) (mkv nm) v
theorem LD.aA {P s G w mkv sz es gr h}(g:fY G w h)(l:LD P s G w mkv sz es gr):nL P s G w (mkv h.length) (h++[some (.aA sz es gr)]):=by obtain⟨cells,ty,v,h1,h2,h3,h4,h5,h6⟩:=l;exact⟨v,_,G.aC (some w.heap.size),h1,g.aZ h2 h3 h4 h5,h6 _ _ (by rw[g.aA];exact Nat.lt_succ_self _) (by rw[g.aA];simp[Gh.aC]),g.bD _ _⟩
theorem IL {G w cs v}(hv:VL G w cs v.cells)(u:cs.all AV.aH=true)(t:TypeId):
  LD P (do pure (.pointer (some (<- Go.newVar t v)))) G w (λnm=>.aA nm cs.length 0 0) cs.length [cs] false:=by
 refine⟨v.cells,t,.pointer (some ⟨w.heap.size,0,none⟩),by simp[Go.newVar,newRow],λe he=>by simp at he;subst he;exact⟨rfl,u⟩,by simp[hv.1],λ_=>by simp[hv.1],hv.aH,?_⟩;intro G' nm hn hl;have:=V.aL (G:=G') (w:=w.alloc (.cells v.cells t)) nm cs.length 0 0 w.heap.size hn hl;simpa using this
theorem IK {G w}{cells:Array Value}{sz:Nat}{es:List (List AV)}{gr:Bool}(t:TypeId)
  (E:jR sz es) (I:es.length*sz <= cells.size) (O:gr=false -> cells.size=es.length*sz)
  (hV:∀i j c,gI es i j=some c -> ∃v,cells[i*sz+j]?=some v /\ V G w c v) (len cap:Nat) (e:Option Nat)
  (hl:len <= cap) (hc:∀k,e=some k -> cap=k) (hm:cap*sz <= cells.size):
  LD P (do pure (.slice (some (<- newRow t cells)) len cap)) G w (λnm=>.aG nm sz 0 len e) sz es gr:=by
 refine⟨cells,t,.slice (some ⟨w.heap.size,0,none⟩) len cap,by simp[newRow],E,I,O,hV,?_⟩;intro G' nm hn u;have:=V.aD (G:=G') (w:=w.alloc (.cells cells t)) nm sz 0 len e cap t cells.size w.heap.size hn u hl hc (by simp only[World.shape?,wD]) (by simpa using hm);simpa using this
def kJ (cs:List AV)(o:Nat):List AV -> List AV
 | []=>cs
 | c :: r=>kJ (cs.set o c) (o+1) r
def pQ:List AV -> List (Nat×Nat×AV) -> Option (List AV)
 | cs,[]=>some cs
 | cs,(o,n,x) :: r=>
  match x.aK with
  | some l=>if l.length=n /\ o+n <= cs.length then pQ (kJ cs o l) r else none
  | none=>none
theorem VL.aK {G w cs vs c v}(h:VL G w cs vs)(o:Nat)(hV:V G w c v):VL G w (cs.set o c) (vs.setIfInBounds o v):=by
 refine⟨by simp[h.1],λj c' v' hc hv=>?_⟩;by_cases hj:o=j
 ·subst hj;have hlt:o<cs.length:=by have:=(WR.1 hc).1;simpa using this
  rw[W0 hlt]at hc;rw[Array.getElem?_setIfInBounds_self_of_lt (by rw[<- h.1];exact hlt)]at hv;cases hc;cases hv;exact hV
 ·rw[WS hj]at hc;rw[YS hj]at hv;exact h.2 j c' v' hc hv
theorem VL.aL {G w}:∀{l:List AV}{vl:List Value}{cs:List AV}{vs:Array Value}(o k:Nat),VL G w cs vs ->
  l.length=vl.length -> (∀(j:Nat)(c:AV)(v:Value),l[j]?=some c -> vl[j]?=some v -> V G w c v) ->
  VL G w (kJ cs (o+k) l) ((vl.zipIdx k).foldl (λcs (c,j)=>cs.setIfInBounds (o+j) c) vs):=by
 intro l;induction l with
 | nil=>intro vl cs vs o k h hl _;have:vl=[]:=W5 (by simpa using hl.symm);subst this;exact h
 | cons c r ih=>
  intro vl cs vs o k h hl hV;cases vl with
  | nil=>simp at hl
  | cons v vr=>
   simp only[List.zipIdx_cons,Zm,Glb.kJ];have:=ih (vl:=vr) (cs:=cs.set (o+k) c) (vs:=vs.setIfInBounds (o+k) v) o (k+1) (h.aK _ (hV 0 c v rfl rfl)) (by simpa using hl)
    (λj c' v' hc hv=>hV (j+1) c' v' (by simpa using hc) (by simpa using hv))
   exact this
theorem Lo {G w}(place:Nat -> Option (Nat×Nat)):∀(ps:List (Nat×Value)) (az:List (Nat×Nat×AV)) (cs:List AV) (vs:Array Value) (r:List AV),
  VL G w cs vs -> az.length=ps.length -> (∀(j i:Nat)(v:Value)(o n:Nat)(x:AV),ps[j]?=some (i,v) -> az[j]?=some (o,n,x) -> place i=some (o,n) /\ V G w x v) ->
  pQ cs az=some r -> ∃us,Instr.fill place vs ps=some us /\ VL G w r us:=by
 intro ps;induction ps with
 | nil=>intro az cs vs r h hl _ hr;have:az=[]:=W5 (by simpa using hl);subst this;simp only[pQ,W8]at hr;subst hr;exact⟨vs,rfl,h⟩
 | cons p ps ih=>
  intro az cs vs r h hl hp hr;obtain⟨i,v⟩:=p;cases az with
  | nil=>simp at hl
  | cons q az=>
   obtain⟨o,n,x⟩:=q;obtain⟨hpl,hV⟩:=hp 0 i v o n x rfl rfl;simp only[pQ]at hr;split at hr
   ·rename_i l hl';split at hr
    ·rename_i hh;have hc:=hV.aS hl';have hsz:v.cells.size=n:=by rw[<- hc.1];exact hh.1
     have hlen:vs.size=cs.length:=h.1.symm;have hset:=VL.aL (l:=l) (vl:=v.cells.toList) o 0 h (by simpa using hc.1) (λj c u a b=>hc.2 j c u a (by simpa using b));simp only[Y8]at hset;obtain⟨us,hus,hVL⟩:=ih az (kJ cs o l) _ r hset (by simpa using hl) (λj i v o n x a b=>hp (j+1) i v o n x (by simpa using a) (by simpa using b)) hr;refine⟨us,?_,hVL⟩;have hno:¬(v.cells.size≠n \/ o+v.cells.size>vs.size):=by have:=hh.2;rw[hsz,hlen];omega
     simp only[Instr.fill,hpl,Ys,XK];rw[WY hno];rw[<- hus];congr 1;rw[<- Array.foldl_toList];simp
    ·cases hr
   ·cases hr
def qy (h:fu)(n:Nat)(a x:AV):Option fu:=
 match a with
 | .aA m sz i o=>
  match h[m]?,x.aK with
  | some (some (.aA sz' es g)),some cs=>if sz=sz' /\ cs.length=n /\ o+n <= sz /\ i<es.length /\ cs.all AV.aH=true then some (h.set m (some (.aA sz (es.modify i (kJ · o cs)) g))) else none
  | _,_=>none
 | _=>none
theorem QX (es:List (List AV))(i o:Nat)(c:AV)(r:List AV):
  es.modify i (kJ · o (c :: r))=(pC es i o c).modify i (kJ · (o+1) r):=by
 simp only[pC,kJ];apply XT;intro k;simp only[Zb];by_cases h:i=k;·subst h;cases es[i]?<;>simp
 ·simp[h]
theorem QV (es:List (List AV))(i o:Nat):es.modify i (kJ · o [])=es:=by have:(λe:List AV=>kJ e o [])=id:=rfl;rw[this];apply XT;intro k;simp only[Zb];cases es[k]?<;>simp
theorem Va :∀(cs:List AV)(vs:List Value)(k:Nat){G:Gh}{w:World}{h:fu}{m b sz i o:Nat} {es:List (List AV)} {gr:Bool},
  fY G w h -> h[m]?=some (some (.aA sz es gr)) -> G.aA m=some b -> cs.length=vs.length ->
  (∀(j:Nat)(c:AV)(v:Value),cs[j]?=some c -> vs[j]?=some v -> V G w c v) -> cs.all AV.aH=true -> i<es.length -> o+k+cs.length <= sz ->
  ∃w',(storeCells ⟨b,i*sz+o,none⟩ vs k).run P w=.ok () w' /\ fY G w' (h.set m (some (.aA sz (es.modify i (kJ · (o+k) cs)) gr))) /\ gP G w G w':=by
 intro cs;induction cs with
 | nil=>
  intro vs k G w h m b sz i o es gr g hm _ hl _ _ _ _;have:vs=[]:=W5 (by simpa using hl.symm);subst this;refine⟨w,rfl,?_,gP.aD G w⟩;rw[QV];have:h.set m (some (.aA sz es gr))=h:=by
   apply XT;intro j;by_cases hj:m=j;·subst hj;rw[W0 (WR.1 hm).1,hm]
   ·rw[WS hj]
  rw[this];exact g
 | cons c r ih=>
  intro vs k G w h m b sz i o es gr g hm hb hl hV hs hi ho;cases vs with
  | nil=>simp at hl
  | cons v vr=>
   simp only[List.all_cons,Xs]at hs;have hgr:=g.aC m sz es gr b hm hb;have hlen:es[i].length=sz:=(hgr.sz _ (Xq hi)).1;have hc0:∃c0,gI es i (o+k)=some c0:=by
    have:o+k<es[i].length:=by simp at ho;omega
    exact⟨es[i][o+k],by simp[gI,hi,this]⟩
   obtain⟨c0,hc0⟩:=hc0;obtain⟨v0,hcell,hfz,_⟩:=hgr.aD hc0;have hV0:=hV 0 c v rfl rfl;have gset:=g.bI hm hb hc0 hV0 hs.1;have hlive:=g.aN hm hb;have st:=g.bO hlive hb (i*sz+(o+k)) v;have hlt:m<h.length:=(WR.1 hm).1;obtain⟨w',hrun,hg',hst⟩:=ih vr (k+1) (m:=m) (b:=b) (sz:=sz) (i:=i) (o:=o) (es:=pC es i (o+k) c) (gr:=gr) gset (W0 hlt) hb (by simpa using hl)
    (λj c' v' a b=>(hV (j+1) c' v' (by simpa using a) (by simpa using b)).aA st.aA) hs.2 (by rw[DW];exact hi) (by simp at ho;omega)
   refine⟨w',?_,?_,st.aI hst⟩;·simp only[storeCells,Sem.run_bind,qt];rw[run_store P w _ v _ (hV0.aU hs.1)];rw[YW,hcell];simp only[hfz,Xt,XS,Result.andThen_ok];exact hrun
   ·rw[QX];rw[Yi]at hg';exact hg'
theorem L9 {G w h n a x h' va vx}(g:fY G w h)(ha:V G w a va)(hx:V G w x vx)(hr:qy h n a x=some h')
  {t:TypeId} (hs:(Go.sizeOf t).run P w=.ok n w):
  ∃w',(Instr.storeAt t va vx).run P w=.ok () w' /\ fY G w' h' /\ gP G w G w':=by
 unfold qy at hr;split at hr
 ·rename_i m sz i o;cases ha with
  | aL _ _ _ _ b hn hb=>
  split at hr
  ·rename_i sz' es gr cs hm hcs;split at hr
   ·rename_i hh;obtain⟨rfl,hl,ho,hi,hsc⟩:=hh;cases hr;have hv:=hx.aS hcs;obtain⟨w',hrun,hg,hst⟩:=Va (P:=P) cs vx.cells.toList 0 g hm hb (by simpa using hv.1) (λj c v a b=>hv.2 j c v a (by simpa using b)) hsc hi (o:=o) ω;refine⟨w',?_,by simpa using hg,hst⟩;have hno:vx.cells.size=n:=by rw[<- hv.1,hl]
    simp[Instr.storeAt,Instr.sureAddr,storeVar,hs,hno,hrun]
   ·cases hr
  ·cases hr
 ·cases hr
structure vT (G:Gh)(w:World)(b o sz:Nat)(es:List (List AV)):Prop where
 ok:jR sz es
 ex:∃f:Nat -> Nat -> Value,(∀i j c,gI es i j=some c -> w.cell? ⟨b,o+(i*sz+j),none⟩=some (f i j)) /\ ∀i j c,gI es i j=some c -> V G w c (f i j)
structure kb (G:Gh)(w:World)(sz:Nat)(es:List (List AV))(cells:Array Value):Prop where
 ok:jR sz es
 aA:cells.size=es.length*sz
 aD:∀i j c,gI es i j=some c -> ∃v,cells[i*sz+j]?=some v /\ V G w c v
theorem kb.aC {G w G' w' sz es cells}(k:iB G w G' w')(h:kb G w sz es cells):kb G' w' sz es cells:=
 ⟨h.ok,h.aA,λi j c hc=>let⟨v,hv,hV⟩:=h.aD i j c hc;⟨v,hv,hV.aA k⟩⟩
theorem HQ {es:List (List AV)}{sz i j:Nat}(h:jR sz es)(hi:i<es.length)(hj:j<sz):∃c,gI es i j=some c:=by have:=(h _ (Xq hi)).1;exact⟨es[i][j]' ω,by simp[gI,hi,this,hj]⟩
theorem O1 {es:List (List AV)}{sz i j:Nat}{c:AV}(h:jR sz es)(hc:gI es i j=some c):c.aH=true:=by
 simp only[gI]at hc;cases he:es[i]? with
 | none=>simp[he]at hc
 | some e=>simp[he]at hc;obtain⟨hi,rfl⟩:=WR.1 he;exact YH.1 (h _ (Xq hi)).2 c (List.mem_of_getElem? hc)
theorem JQ {n sz k:Nat}(h:k<n*sz):k / sz<n /\ k % sz<sz /\ k / sz*sz+k % sz=k:=by have hs:0<sz:=Nat.pos_of_ne_zero (by rintro rfl;simp at h);refine⟨(Nat.div_lt_iff_lt_mul hs).2 h,Nat.mod_lt _ hs,?_⟩;rw[Nat.mul_comm];exact Nat.div_add_mod k sz
theorem kb.aG {G w sz es cells}(h:kb G w sz es cells):∀v∈cells.toList,v.oneCell'=true:=by
 intro v hv;obtain⟨k,hk,rfl⟩:=YV.1 hv;have e:k<es.length*sz:=by rw[<- h.aA];simpa using hk
 obtain⟨h1,h2,h3⟩:=JQ e;obtain⟨c,hc⟩:=HQ h.ok h1 h2;obtain⟨v,hv,hV⟩:=h.aD _ _ _ hc;rw[h3]at hv;have:cells.toList[k]=v:=by have:=(Yw.1 hv).2;simpa using this
 rw[this];exact hV.aU (O1 h.ok hc)
theorem vT.aA {G w b o sz es}(h:vT G w b o sz es):
  ∃cells,(loadCells ⟨b,o,none⟩ (es.length*sz)).run P w=.ok cells w /\ kb G w sz es cells:=by
 obtain⟨hs,f,hc,hV⟩:=h;refine⟨((List.range (es.length*sz)).map λk=>f (k / sz) (k % sz)).toArray,run_loadCells (P:=P) (w:=w) ⟨b,o,none⟩ _ _ (λk hk=>?_),hs,ς,?_⟩;·obtain⟨h1,h2,h3⟩:=JQ hk;obtain⟨c,e⟩:=HQ hs h1 h2;have:=hc _ _ _ e;rw[h3]at this;rw[qt];exact this
 ·intro i j c e;obtain⟨hi,hj⟩:=pW hs e;have hk:=rI hi hj;have u:0<sz:=ω;have e1:(i*sz+j) / sz=i:=by rw[Nat.mul_comm,Nat.mul_add_div u,Nat.div_eq_of_lt hj,Y8]
  have e2:(i*sz+j) % sz=j:=by rw[Nat.mul_comm,Nat.mul_add_mod,Nat.mod_eq_of_lt hj]
  exact⟨f i j,by simp[hk,e1,e2],hV i j c e⟩
theorem O0 {es:List (List AV)}{off len i j:Nat}{c:AV} (h:gI ((es.drop off).take len) i j=some c):gI es (off+i) j=some c:=by
 simp only[gI,Ye]at h ⊢;split at h;·simpa [Xv] using h
 ·simp at h
theorem Rq {sz:Nat}{es:List (List AV)}(h:jR sz es)(off len:Nat):jR sz ((es.drop off).take len):=
 λe he=>h e (Xw (XQ he))
theorem lT.aC {G w b sz es gr}(h:lT G w b sz es gr)(off len:Nat):vT G w b (off*sz) sz ((es.drop off).take len):=by
 obtain⟨⟨cells,ty,hh,_,_,h3⟩,hs⟩:=h;refine⟨Rq hs off len,λi j=>(cells[(off+i)*sz+j]?).getD undef,λi j c hc=>?_,λi j c hc=>?_⟩ <;>
 ·obtain⟨v,hv,hV⟩:=h3 _ _ _ (O0 hc);have e:off*sz+(i*sz+j)=(off+i)*sz+j:=by rw[Y4];omega
  simp[World.cell?,hh,e,hv,hV]
def jD (h:fu)(sz:Nat):AV -> Option (List (List AV))
 | .aC=>some []
 | .aM _ _ sz' es=>if sz=sz' then some es else none
 | .aG m sz' off len _=>
  match h[m]? with
  | some (some (.aA sz'' es _))=>if sz=sz' /\ sz=sz'' /\ off+len <= es.length then some ((es.drop off).take len) else none
  | _=>none
 | _=>none
theorem Gd {G w h sz y ys vy}(g:fY G w h)(hy:V G w y vy)(hr:jD h sz y=some ys):
  (Builtin.lenOf vy).run P w=.ok ys.length w /\ jR sz ys /\ ∃cells,(Builtin.firstCells sz ys.length vy).run P w=.ok cells w /\ kb G w sz ys cells:=by
 unfold jD at hr;split at hr;·cases hy;cases hr;exact⟨rfl,λe he=>by simp at he,#[],rfl,λe he=>by simp at he,ς,λi j c hc=>by simp[gI]at hc⟩
 ·rename_i t cl W es;split at hr
  ·rename_i hh;subst hh;cases hr;cases hy with
   | aG=>exact⟨rfl,λe he=>by simp at he,#[],rfl,λe he=>by simp at he,ς,λi j c hc=>by simp[gI]at hc⟩
   | aE _ _ _ _ a cap f hl hcl hsp hp U hc hV=>
    obtain⟨cells,E,u⟩:=vT.aA (P:=P) (G:=G) (w:=w) (b:=a.block) (o:=a.off) (sz:=sz) (es:=ys) ⟨U,f,hc,hV⟩;refine⟨rfl,U,cells,?_,u⟩;by_cases hcz:cap=0
    ·have O:ys.length=0:=ω;have:cells=#[]:=by have:=u.aA;rw[O,Nat.zero_mul]at this;exact YI this
     subst this;rw[O];simp[Builtin.firstCells,loadCells,loadCellsFrom]
    ·have ha:a=⟨a.block,a.off,none⟩:=by have:=hsp hcz;cases a;simp at this;simp[this]
     rw[ha];exact E
  ·cases hr
 ·rename_i m W off len cap;split at hr
  ·rename_i sz'' es gr hm;split at hr
   ·rename_i hh;obtain⟨rfl,rfl,hle⟩:=hh;cases hr;have I:((es.drop off).take len).length=len:=by simp;omega
    cases hy with
    | aH _ _ _ _ hb _=>have:=g.aI m sz es gr hm (g.aK m hb);subst this;exact⟨rfl,λe he=>by simp at he,#[],rfl,λe he=>by simp at he,ς,λi j c hc=>by simp[gI]at hc⟩
    | aD _ _ _ _ _ c ty mm b hn hb hl hcap hsh hmm=>have u:=(g.aC m sz es gr b hm hb).aC off len;obtain⟨cells,E,Z⟩:=u.aA (P:=P);refine⟨by rw[I];rfl,u.ok,cells,?_,Z⟩;exact E
   ·cases hr
  ·cases hr
 ·cases hr
theorem Pa {w:World}{g:Nat}{c e:Array Value}{t:TypeId}{fr:Nat×Nat} (h:w.heap[g]?=some (.cells e t fr)):
  (w.setRow g c).heap[g]?=some (.cells c t fr):=setRow_heap w g e c t fr h
theorem Pb {w:World}{g b:Nat}{c:Array Value}(h:g≠b):(w.setRow g c).heap[b]?=w.heap[b]?:=by simp[World.setRow,Zi,h]
end Glb
/-
 A library of its own,for whatever program: append.
-/
namespace Glb
open Go
variable {P:Program}
theorem fY.aV {G w h w'} (g : fY G w h) {n sz es gr b a1 Z} (hn : h[n]? = some (some (.aA sz es gr))) (hb : G.aA n = some b)
    (k : iB G w G w') (E : w.heap.size <= w'.heap.size) (I : ∀ m b', G.aD m -> G.aA m = some b' -> m ≠ n -> w'.heap[b']? = w.heap[b']?)
    (hH : lT G w' b sz a1 Z) : fY G w' (h.set n (some (.aA sz a1 Z))) := by
  have hlt : n < h.length := (WR.1 hn).1
  refine { aA := by simp [g.aA], aD := ?_, aE := ?_, inj := g.inj, aF := g.aF, aG := g.aG, aL := g.aL, aM := g.aM,
           aH := λm b hb => Xj (g.aH m b hb) E, aJ := λb hb => Xj (g.aJ b hb) E, aC := ?_, aI := ?_, aK := g.aK }
  · intro m
    rw [g.aD m]
    by_cases hm : n = m
    · subst hm
      exact ⟨λh => ⟨⟨_, _, _, W0 hlt⟩, h.2⟩, λh => ⟨⟨_, _, _, hn⟩, h.2⟩⟩
    · rw [WS hm]
  · intro m b hb
    have hm : n ≠ m := by rintro rfl; rw [g.aE _ _ hb] at hn; simp at hn
    rw [WS hm]; exact g.aE m b hb
  · intro m O W U b' hm u
    by_cases h1 : n = m
    · subst h1
      rw [hb] at u; cases u
      rw [W0 hlt] at hm
      obtain ⟨rfl, rfl, rfl⟩ : sz = O /\ a1 = W /\ Z = U := by simpa using hm
      exact hH
    · rw [WS h1] at hm
      exact (g.aC m O W U b' hm u).aA k (I m b' (g.aN hm u) u (λe => h1 e.symm))
  · intro m O W U hm u
    by_cases h1 : n = m
    · subst h1; rw [hb] at u; cases u
    · rw [WS h1] at hm
      exact g.aI m O W U hm u
def iq (es:List (List AV))(p:Nat)(ys:List (List AV)):List (List AV):=es.take p++ys++es.drop (p+ys.length)
theorem HR {es ys:List (List AV)}{p i j:Nat}{c:AV}(hp:p <= es.length)(h:gI (iq es p ys) i j=some c):
  (i<p /\ gI es i j=some c) \/ (p <= i /\ i<p+ys.length /\ gI ys (i-p) j=some c) \/ (p+ys.length <= i /\ gI es i j=some c):=by
 simp only[gI,iq,Yk,WT,W7,XW hp]at h;rcases YQ i p with h1 | h1
 ·left;rw[WW ω,WW h1,XV h1]at h;exact⟨h1,h⟩
 ·rcases YQ i (p+ys.length) with h2 | h2;·right;left;rw[WW h2,WY ω]at h;exact⟨h1,h2,h⟩
  ·right;right;rw[WY ω,Xv]at h;refine⟨h2,?_⟩;rw[show p+ys.length+(i-(p+ys.length))=i by omega]at h;exact h
theorem IV {sz:Nat}{es ys:List (List AV)}(h:jR sz es)(h':jR sz ys)(p:Nat):jR sz (iq es p ys):=by
 intro e he;simp only[iq,Xe]at he;rcases he with (he | he) | he;·exact h e (XQ he)
 ·exact h' e he
 ·exact h e (Xw he)
theorem Kj {G w h}(g:fY G w h){n sz es gr b p ys vs cur ty} (hn:h[n]?=some (some (.aA sz es gr))) (hb:G.aA n=some b)
  (hcur:w.heap[b]?=some (.cells cur ty (0,0))) (hrow:kb G w sz ys vs) (hp:p <= es.length) (hfit:(p+ys.length)*sz <= cur.size):
  ∃w',(storeCells ⟨b,p*sz,none⟩ vs.toList).run P w=.ok () w' /\ gP G w G w' /\ (∀b',b'≠b -> w'.heap[b']?=w.heap[b']?) /\
   (∀r,w'.shape? r=w.shape? r) /\ ∀gr',(gr'=false -> cur.size=(iq es p ys).length*sz) -> lT G w' b sz (iq es p ys) gr':=by
 have hl:=g.aN hn hb;obtain⟨⟨cells,ty',hh,h1,h2,h3⟩,hs⟩:=g.aC n sz es gr b hn hb;rw[hcur]at hh;obtain⟨rfl,rfl⟩:cur=cells /\ ty=ty':=by simpa using hh
 have hvl:vs.toList.length=ys.length*sz:=by simpa using hrow.aA
 have hmul:(p+ys.length)*sz=p*sz+ys.length*sz:=Y4 _ _ _;have hrun:=run_storeCells_at P b (p*sz) ty vs.toList 0 cur w hcur (by rw[hvl];omega) hrow.aG;simp only[Y8]at hrun;generalize hnew:(cur.toList.take (p*sz)++vs.toList++cur.toList.drop (p*sz+vs.toList.length)).toArray=new at hrun;have hsize:new.size=cur.size:=by rw[<- hnew];simp only[List.size_toArray,WT,W7,Xk,Array.length_toList]at *;omega
 have hheap:=Pa (c:=new) hcur;have hother:∀b',b'≠b -> (w.setRow b new).heap[b']?=w.heap[b']?:=λb' hb'=>Pb (λe=>hb' e.symm);have hshape:∀r,(w.setRow b new).shape? r=w.shape? r:=by
  intro r;by_cases hr:r=b;·subst hr;simp only[World.shape?,hheap,hcur,hsize]
  ·simp only[World.shape?,hother r hr]
 have hrest:kL w (w.setRow b new):=⟨rfl,rfl,by simp[World.setRow],λx _=>by
  by_cases hr:x.block=b
  ·simp only[World.frozen?,hr,hheap,hcur]
  ·simp only[World.frozen?,hother _ hr]⟩
 have k:iB G w G (w.setRow b new):=by
  refine⟨WX _,λ_ _ _ h=>h,λ_ _ h=>h,λ_ _ h=>h,λt b' hp=>hother b' ?_,λb _=>hshape b⟩;rintro rfl;cases t with
  | zero=>exact g.aG n _ hl hb hp
  | succ m=>exact g.aF n m _ hl hb hp
 refine⟨_,hrun,⟨k,⟨λ_ h=>h,λ_ h=>.inl h⟩,λ_ _=>rfl,λ_ _=>YD,by simp[World.setRow],λb' _ hb'=>hother b' (by rintro rfl;exact hb' (.inl ⟨n,hl,hb⟩)),λb hb=>.inl hb,hrest⟩,hother,hshape,λgr' hgr'=>?_⟩;refine⟨⟨new,ty,hheap,?_,by rw[hsize];exact hgr',?_⟩,IV hs hrow.ok p⟩
 ·rw[hsize];simp only[iq,WT,W7,Xk,XW hp];rcases Nat.le_total (p+ys.length) es.length with hc | hc;·rw[show p+ys.length+(es.length-(p+ys.length))=es.length by omega];exact h1
  ·rw[show p+ys.length+(es.length-(p+ys.length))=p+ys.length by omega];exact hfit
 ·intro i j c hc;have hcell:∀k,new[k]?=if k<p*sz then cur[k]? else if k<p*sz+ys.length*sz then vs[k-p*sz]? else cur[k]?:=by
   intro k;rw[<- hnew];simp only[Ya,Yk,WT,W7,Array.length_toList,hrow.aA];have e1:min (p*sz) cur.size=p*sz:=ω;rw[e1];rcases YQ k (p*sz) with a | a;·rw[WW ω,WW a,WW a,XV a];simp
   ·rcases YQ k (p*sz+ys.length*sz) with c | c;·rw[WW c,WY ω,WY ω,WW c];simp
    ·rw[WY ω,WY ω,WY ω,Xv];rw[show p*sz+ys.length*sz+(k-(p*sz+ys.length*sz))=k by omega];simp
  rcases HR hp hc with⟨a,hc'⟩ | ⟨a,b',hc'⟩ | ⟨a,hc'⟩;·obtain⟨v,hv,hV⟩:=h3 i j c hc';have hj:=(pW hs hc').2;refine⟨v,?_,hV.aA k⟩;rw[hcell,WW (rI a hj)];exact hv
  ·obtain⟨v,hv,hV⟩:=hrow.aD _ _ _ hc';have hj:=(pW hrow.ok hc').2;have e:i*sz+j=p*sz+((i-p)*sz+j):=by rw[show i*sz=(p+(i-p))*sz by rw[Nat.add_sub_cancel' a],Y4,YW]
   have hlt:=rI (n:=ys.length) (i:=i-p) ω hj;refine⟨v,?_,hV.aA k⟩;rw[hcell,WY ω,WW ω,show i*sz+j-p*sz=(i-p)*sz+j by omega];exact hv
  ·obtain⟨v,hv,hV⟩:=h3 i j c hc';have hj:=(pW hs hc').2;have:p*sz+ys.length*sz <= i*sz:=by rw[<- Y4];exact XZ _ a
   refine⟨v,?_,hV.aA k⟩;rw[hcell,WY ω,WY ω];exact hv
theorem O5 (e:Nat):∀(r c:Nat),256 <= c -> c<2*e -> Builtin.growBy e r c <= 2*e:=by
 intro r;induction r with
 | zero=>intro c _ h;simp only[Builtin.growBy];omega
 | succ r ih=>
  intro c h1 h2;simp only[Builtin.growBy];split;·omega
  ·rename_i h3;by_cases h4:c+(c+768) / 4<2*e;·exact ih _ ω h4
   ·have:c+(c+768) / 4 <= 2*e:=ω;have:c+(c+768) / 4=2*e:=ω;rw[this];cases r with
    | zero=>simp[Builtin.growBy]
    | succ r=>simp only[Builtin.growBy];rw[WW ω];omega
theorem IM {need cap:Nat}(h:cap<need):Builtin.nextslicecap need cap <= 2*need:=by
 unfold Builtin.nextslicecap;split;·omega
 ·split;·omega
  ·exact O5 need 4 cap ω ω
structure xp (P:Program)(sT xT elem:TypeId)(cs bs:Nat)(inf:TypeInfo)(zv:Value):Prop where
 s:P.underlying sT=some (.slice elem)
 x:∃e,P.underlying xT=some (.slice e)
 aA:P.info? elem=some inf
 sz:inf.size=cs
 aC:inf.bytes=bs
 aE:inf.zero=some zv
 aD:0<bs
 aF:zv.cells.size=cs
theorem Ul {sT xT elem sz bytes info zero}(T:xp P sT xT elem sz bytes info zero)(ty:TypeId)(w:World)
  {base:Option Addr} {len cap k:Nat} {x:Value} {cells:Array Value} (e:(Builtin.lenOf x).run P w=.ok k w)
  (hf:(Builtin.firstCells sz k x).run P w=.ok cells w) (hr:len+k <= cap):
  (Builtin.append_ #[sT,xT] ty #[.slice base len cap,x]).run P w =
   match base with
   | some a=>((storeCells (a.add (len*sz)) cells.toList).run P w).andThen λ_ w'=>.ok (.slice base (len+k) cap) w'
   | none=>.ok (.slice base (len+k) cap) w:=by
 obtain⟨d,hd⟩:=T.x;cases base with
 | none=>
  simp only[Builtin.append_,Sem.run_bind,Sem.run_pure,Result.andThen_ok,run_underlying T.s,run_underlying hd,Go.sizeOf,run_typeInfo w T.aA,T.sz,Ya,Xx,
     Yh,Xt,XS,e,Sem.run_ite,WW hr,X_,Yc,hf]
 | some a=>
  simp only[Builtin.append_,Sem.run_bind,Sem.run_pure,Result.andThen_ok,run_underlying T.s,run_underlying hd,Go.sizeOf,run_typeInfo w T.aA,T.sz,Ya,Xx,
     Yh,Xt,XS,e,Sem.run_ite,WW hr,X_,Yc,hf]
theorem Uk {sT xT elem sz bytes info zero}(T:xp P sT xT elem sz bytes info zero)(ty:TypeId)(w:World)
  {s x:Value} {base:Option Addr} {len cap k:Nat} {old cells:Array Value} (hs:s=.slice base len cap) (E:(Builtin.lenOf x).run P w=.ok k w)
  (e1:(Builtin.firstCells sz len s).run P w.drew=.ok old w.drew) (e2:(Builtin.firstCells sz k x).run P w.drew=.ok cells w.drew)
  (hr:¬len+k <= cap) (hb:(len+k)*bytes <= 2^46):
  ∃e rest,len+k <= e /\ rest.size=(e-(len+k))*sz /\ (Builtin.append_ #[sT,xT] ty #[s,x]).run P w =
   .ok (.slice (some ⟨w.heap.size,0,none⟩) (len+k) e) (w.drew.alloc (.cells (old++cells++rest) elem)):=by
 subst hs;obtain⟨d,hd⟩:=T.x;have hcap:Builtin.nextslicecap (len+k) cap*bytes <= 2^48:=by have h1:=IM (need:=len+k) (cap:=cap) ω;have h2:=XZ bytes h1;rw[Nat.mul_assoc]at h2;omega
 have hq:(Question.appendCap (len+k) cap elem).forced=false:=rfl;refine⟨(Question.appendCap (len+k) cap elem).cut (w.tape w.drawn (.appendCap (len+k) cap elem)),
  Builtin.zeroCells zero.cells ((Question.appendCap (len+k) cap elem).cut (w.tape w.drawn (.appendCap (len+k) cap elem))-(len+k)),?_,?_,?_⟩
 ·simp only[Question.cut];omega
 ·simp[Builtin.zeroCells,T.aF]
 ·have I:¬bytes=0:=Nat.ne_of_gt T.aD;have u:¬(2^48<Builtin.nextslicecap (len+k) cap*bytes):=ω;have U:{w with drawn:=w.drawn+1}=w.drew:=rfl;have hn1:¬(((len+k:Nat):Int)>IntKind.i64.max /\ (false=true \/ bytes=0)):=by
   rintro⟨_,h | h⟩;·cases h
   ·exact I h
  have O:¬(Builtin.nextslicecap (len+k) cap*bytes>2^48):=u;simp only[Builtin.append_,Sem.run_bind,Sem.run_pure,Result.andThen_ok,run_underlying T.s,run_underlying hd,Go.sizeOf,run_typeInfo _ T.aA,T.sz,Ya,Xx,
     Yh,Xt,XS,E,Sem.run_ite,WY hr,T.aC,O,false_or,I,and_false,run_choose,hq,U,run_askRoom,e1,e2,X_,Yc,
     zeroValue,T.aE,newRow,run_newObj]
  rfl
def gY (h:fu)(sz:Nat)(es:List (List AV)):AV×fu:=(.aG h.length sz 0 es.length none,h++[some (.aA sz es true)])
def iL (h:fu)(sz bytes:Nat)(x:AV)(ys:List (List AV)):Option (AV×fu):=
 match x with
 | .aC=>if ys.length*bytes <= 2^46 then some (gY h sz ys) else none
 | .aG n sz' off len cap=>
  match h[n]? with
  | some (some (.aA sz'' es g))=>
   if sz=sz' /\ sz=sz'' /\ off+len <= es.length /\ (len+ys.length)*bytes <= 2^46 then
    match cap with
    | some (c+1)=>
     if c+1<len+ys.length then some (gY h sz ((es.drop off).take len++ys))
     else if off+len+ys.length <= es.length then some (.aG n sz off (len+ys.length) (some (c+1)),h.set n (some (.aA sz (iq es (off+len) ys) g)))
     else none
    | some 0=>if len=0 then (if ys.length=0 then some (x,h) else some (gY h sz ys)) else none
    | none=>if off=0 then some (gY (h.set n none) sz (es.take len++ys)) else none
   else none
  | _=>none
 | .aM _ clip sz' es=>
  if sz=sz' /\ (es.length+ys.length)*bytes <= 2^46 then
   if ys.length=0 then some (x,h) else if clip=true then some (gY h sz (es++ys)) else none
  else none
 | _=>none
def pP (h:fu)(sz bytes:Nat)(x y:AV):Option (AV×fu):=
 match jD h sz y with
 | none=>none
 | some ys=>iL h sz bytes x ys
theorem kb.aF {G w sz es ys c1 c2}(h1:kb G w sz es c1)(h2:kb G w sz ys c2):kb G w sz (es++ys) (c1++c2):=by
 refine⟨λe he=>?_,by simp[h1.aA,h2.aA,Y4],λi j c hc=>?_⟩
 ·rcases Xe.1 he with h | h;·exact h1.ok e h
  ·exact h2.ok e h
 ·simp only[gI,Yk]at hc;split at hc;·rename_i hi;have u:gI es i j=some c:=hc;obtain⟨v,hv,hV⟩:=h1.aD i j c u;have:=rI hi (pW h1.ok u).2;exact⟨v,by rw[Zh,WW (by rw[h1.aA];exact this)];exact hv,hV⟩
  ·rename_i hi;have u:gI ys (i-es.length) j=some c:=hc;obtain⟨v,hv,hV⟩:=h2.aD _ j c u;have e:i*sz+j=es.length*sz+((i-es.length)*sz+j):=by rw[show i*sz=(es.length+(i-es.length))*sz by rw[Nat.add_sub_cancel' ω],Y4,YW]
   refine⟨v,?_,hV⟩;rw[Zh,WY (by rw[h1.aA];omega),h1.aA,show i*sz+j-es.length*sz=(i-es.length)*sz+j by omega];exact hv
theorem DI {G w h}(g:fY G w h){sz es cells rest}(u:kb G w sz es cells)(E:TypeId){e:Nat}(W:es.length <= e)(O:rest.size=(e-es.length)*sz)
  {s:Sem Value} (U:s.run P w=.ok (.slice (some ⟨w.heap.size,0,none⟩) es.length e) (w.drew.alloc (.cells (cells++rest) E))):
  nL P s G w (gY h sz es).1 (gY h sz es).2:=by
 have gd:fY G w.drew h:=g.aT rfl;have st:gP G w G w.drew:=gP.aK G w _;have I:(cells++rest).size=e*sz:=by rw[Array.size_append,u.aA,O,<- Y4,Nat.add_sub_cancel' W]
 have k:=gd.aX (.cells (cells++rest) E);refine⟨_,_,G.aC (some w.heap.size),U,?_,?_,st.aI (gd.bD _ _)⟩;·refine gd.aZ u.ok (by rw[I];exact XZ _ W) ς (λi j c hc=>?_);obtain⟨v,hv,hV⟩:=u.aD i j c hc;have:=pW u.ok hc;have hlt:=rI this.1 this.2;exact⟨v,by rw[Zh,WW (by rw[u.aA];exact hlt)];exact hv,hV.aA st.aA⟩
 ·have:=V.aD (G:=G.aC (some w.heap.size)) (w:=w.drew.alloc (.cells (cells++rest) E)) h.length sz 0 es.length none e E (e*sz) w.heap.size
   (by rw[g.aA];exact Nat.lt_succ_self _) (by rw[g.aA];simp[Gh.aC]) W ς (by rw[<- I];simp only[World.shape?];rw[show w.heap.size=w.drew.heap.size from rfl,wD]) ς
  simpa [gY] using this
theorem kb.aE (G w sz):kb G w sz [] #[]:=⟨λe he=>by simp at he,ς,λi j c hc=>by simp[gI]at hc⟩
theorem IN {G w h}(g:fY G w h)(sz:Nat)(gr:Bool)(cap:Option Nat)(hc:∀k,cap=some k -> k=0):
  fY (G.aC none) w (h++[some (.aA sz [] gr)]) /\ V (G.aC none) w (.aG h.length sz 0 0 cap) (.slice none 0 0) /\ gP G w (G.aC none) w:=by
 have k:=g.a_ none;refine⟨g.aW k (WX _) (λ_ _ _ _=>rfl) ς ς (λ_=>rfl),?_,⟨k,⟨λ_ h=>h,λ_ h=>.inl h⟩,λn hn=>by simp only[Gh.aC,Ze hn,XS],λn hn=>by simp only[Gh.aC,Ze hn,XS],WX _,λ_ _ _=>rfl,λb hb=>?_,kL.aA w⟩⟩;·rw[g.aA];exact .aH _ _ _ (Nat.lt_succ_self _) (by simp[Gh.aC]) hc
 ·rcases hb with⟨n,hn,he⟩ | ⟨n,hn⟩
  ·by_cases h:n=G.N
   ·simp[Gh.aC,h]at he
   ·simp only[Gh.aC,h,XS]at he;exact .inl (.inl ⟨n,hn.resolve_right (λx=>h x.1),he⟩)
  ·exact .inl (.inr ⟨n,hn⟩)
theorem Tb {G w h}(g:fY G w h){n sz es gr b} (hn:h[n]?=some (some (.aA sz es gr))) (hb:G.aA n=some b) (u:Bool) (E:u=false -> gr=false):
  fY ((G.aH n).aC (some b)) w (h.set n none++[some (.aA sz es u)]) /\ gP G w ((G.aH n).aC (some b)) w:=by
 have gk:=g.aR hn;have k:=gk.a_ (some b);have hl:=g.aN hn hb;have hH:=g.aC n sz es gr b hn hb;refine⟨gk.aW k (WX _) (λ_ _ _ _=>rfl) ?_ ?_ ς,⟨(G.aO w n).aG k,⟨λ_ h=>h,λ_ h=>.inl h⟩,λm hm=>by simp only[Gh.aC,Gh.aH,Ze hm,XS],λm hm=>by simp only[Gh.aC,Gh.aH,Ze hm,XS],WX _,λ_ _ _=>rfl,λx hx=>?_,kL.aA w⟩⟩;·rintro b' ⟨⟩;exact⟨λm hm he=>hm.2 (g.inj m n _ hm.1 hl he hb),λm ht=>g.aF n m _ hl hb ht,g.aG n _ hl hb⟩
 ·rintro b' ⟨⟩;have:=(hH.aA (G.aO w n) rfl).aA k rfl;exact⟨this.ex.elim λc hc=>hc.elim λt ht=>⟨c,t,ht.1,ht.2.1,λe=>ht.2.2.1 (E e),ht.2.2.2⟩,this.sz⟩
 ·rcases hx with⟨m,hm,he⟩ | ⟨m,hm⟩
  ·by_cases h:m=(G.aH n).N
   ·simp[Gh.aC,h]at he;subst he;exact .inl (.inl ⟨n,hl,hb⟩)
   ·simp only[Gh.aC,h,XS]at he;exact .inl (.inl ⟨m,(hm.resolve_right (λx=>h x.1)).1,he⟩)
  ·exact .inl (.inr ⟨m,hm⟩)
theorem iB.aH {G w w'}(h:w'.heap=w.heap):iB G w G w':=
 ⟨WX _,λ_ _ _ h=>h,λ_ _ h=>h,λ_ _ h=>h,λ_ _ _=>by rw[h],λ_ _=>by simp only[World.shape?,h]⟩
theorem lT.aF {G w b sz es gr}(hh:lT G w b sz es gr)(u:List (List AV))(hp:u<+:es):lT G w b sz u true:=by
 obtain⟨⟨cells,ty,h1,h2,h3,h4⟩,hs⟩:=hh;obtain⟨t,rfl⟩:=hp;refine⟨⟨cells,ty,h1,?_,ς,λi j c hc=>h4 i j c ?_⟩,λe he=>hs e (Yu _ he)⟩;·refine Xg (XZ _ ?_) h2;simp
 ·unfold gI at hc ⊢;cases hq:u[i]? with
  | none=>rw[hq]at hc;cases hc
  | some e=>rw[Xy (WR.1 hq).1,hq];rw[hq]at hc;exact hc
theorem F6 {G w h sz bytes x r h' vx}(g:fY G w h)(hx:V G w x vx){ys:List (List AV)}{cells cellsG:Array Value}(hrow:kb G w sz ys cells)(hrowG:kb G w sz ys cellsG)
  (hr:iL h sz bytes x ys=some (r,h')) (elem:TypeId) {S:Value -> Sem Value}
  (room:∀{base:Option Addr}{len cap:Nat},len+ys.length <= cap -> (S (.slice base len cap)).run P w =
   match base with
   | some a=>((storeCells (a.add (len*sz)) cells.toList).run P w).andThen λ_ w'=>.ok (.slice base (len+ys.length) cap) w'
   | none=>.ok (.slice base (len+ys.length) cap) w)
  (growr:∀{s:Value}{base:Option Addr}{len cap:Nat}{old:Array Value},s=.slice base len cap -> (Builtin.firstCells sz len s).run P w.drew=.ok old w.drew ->
   ¬len+ys.length <= cap -> (len+ys.length)*bytes <= 2^46 ->
   ∃newCap rest,len+ys.length <= newCap /\ rest.size=(newCap-(len+ys.length))*sz /\ (S s).run P w =
    .ok (.slice (some ⟨w.heap.size,0,none⟩) (len+ys.length) newCap) (w.drew.alloc (.cells (old++cellsG++rest) elem))):
  nL P (S vx) G w r h':=by
 unfold iL at hr;have kd:iB G w G w.drew:=iB.aH rfl;have gd:fY G w.drew h:=g.aT rfl;have grow:∀{base:Option Addr}{len cap:Nat} {es:List (List AV)} {old:Array Value},vx=.slice base len cap -> es.length=len ->
   (Builtin.firstCells sz len vx).run P w.drew=.ok old w.drew -> kb G w sz es old -> ¬len+ys.length <= cap -> (len+ys.length)*bytes <= 2^46 ->
   nL P (S vx) G w (gY h sz (es++ys)).1 (gY h sz (es++ys)).2:=by
  intro base len cap es old hv hl ho hro hno hb;obtain⟨nc,rest,h1,h2,h3⟩:=growr hv ho hno hb;have hlen':(es++ys).length=len+ys.length:=by simp[hl]
  refine DI g (hro.aF hrowG) elem (by rw[hlen'];exact h1) (by rw[hlen'];exact h2) ?_;rw[h3,hlen']
 split at hr
 · -- nil
  cases hx;split at hr
  ·rename_i hb;cases hr;by_cases h0:ys.length=0;·have hys0:ys=[]:=W5 h0;subst hys0;obtain⟨a,b,c⟩:=IN g sz true none ς;refine⟨.slice none 0 0,w,G.aC none,?_,a,b,c⟩;rw[room ς];rfl
   ·have:=grow (base:=none) (len:=0) (cap:=0) (es:=[]) (old:=#[]) rfl rfl rfl (kb.aE _ _ _) ω (by simpa using hb);simpa [gY] using this
  ·cases hr
 ·rename_i n sz' off len cap;split at hr
  ·rename_i sz'' es gr hn;split at hr
   ·rename_i hh;obtain⟨rfl,rfl,hle,hb⟩:=hh;cases hx with
    | aH _ _ _ hnN hnl hcap=>
     have hes0:=g.aI n _ _ _ hn (g.aK n hnl);subst hes0;split at hr;·rename_i c;exact absurd (hcap _ rfl) ω
     ·rw[WW rfl]at hr;split at hr;·rename_i h0;cases hr;have hys0:ys=[]:=W5 h0;subst hys0;exact nL.aA g (by rw[room ς];rfl) (.aH _ _ _ hnN hnl hcap)
      ·rename_i h0;cases hr;have:=grow (base:=none) (len:=0) (cap:=0) (es:=[]) (old:=#[]) rfl rfl rfl (kb.aE _ _ _) ω (by simpa using hb);simpa [gY] using this
     ·rw[WW rfl]at hr;cases hr;have gk:=g.aR hn;have stk:=G.aQ w n;by_cases h0:ys.length=0;·have hys0:ys=[]:=W5 h0;subst hys0;obtain⟨a,b,c⟩:=IN gk sz true none ς;refine⟨.slice none 0 0,w,_,?_,a,b,stk.aI c⟩;rw[room ς];rfl
      ·obtain⟨nc,rest,h1,h2,h3⟩:=growr (s:=.slice none 0 0) (old:=#[]) rfl rfl ω (by simpa using hb);simp only[Y7]at h1 h2 h3;obtain⟨v,w',G',a,b,c,d⟩:=DI (P:=P) gk (hrowG.aC stk.aA) elem h1 h2 (by rw[h3];simp);exact⟨v,w',G',a,by simpa [gY] using b,by simpa [gY] using c,stk.aI d⟩
    | aD _ _ _ _ _ c tyb m b hnN hnb hl hcap hsh hm=>
     obtain⟨cur,tyc,hcur,hcl,hcg,_⟩:=(g.aC n sz es gr b hn hnb).ex;have hmcur:m=cur.size:=by simp[World.shape?,hcur]at hsh;exact hsh.2.symm
     have hmid:((es.drop off).take len).length=len:=by simp;omega
     have hlive:=g.aN hn hnb;have place:len+ys.length <= c -> off+len <= es.length ->
       ∃w',(S (.slice (some ⟨b,off*sz,none⟩) len c)).run P w=.ok (.slice (some ⟨b,off*sz,none⟩) (len+ys.length) c) w' /\ gP G w G w' /\
        (∀b',b'≠b -> w'.heap[b']?=w.heap[b']?) /\ (∀r,w'.shape? r=w.shape? r) /\
        ∀gr',(gr'=false -> cur.size=(iq es (off+len) ys).length*sz) -> lT G w' b sz (iq es (off+len) ys) gr':=by
      intro hroom hp;have hfit:(off+len+ys.length)*sz <= cur.size:=by refine Xg (XZ sz ?_) (hmcur▸hm);omega
      obtain⟨w',hst,stp,hoth,hshp,hH⟩:=Kj (P:=P) g hn hnb hcur hrow hp hfit;refine⟨w',?_,stp,hoth,hshp,hH⟩;rw[room hroom];simp only[qt,<- Y4,hst,Result.andThen_ok]
     have growing:¬len+ys.length <= c -> nL P (S (.slice (some ⟨b,off*sz,none⟩) len c)) G w (gY h sz ((es.drop off).take len++ys)).1 (gY h sz ((es.drop off).take len++ys)).2:=by intro hno;obtain⟨old,hrun,hro⟩:=(((g.aC n sz es gr b hn hnb).aA kd rfl).aC off len).aA (P:=P);rw[hmid]at hrun;exact grow (base:=some ⟨b,off*sz,none⟩) (len:=len) (cap:=c) rfl hmid hrun (hro.aC (iB.aH (G:=G) (w:=w.drew) (w':=w) rfl)) hno hb
     split at hr
     ·rename_i c';have hc:=hcap _ rfl;subst hc;split at hr;·rename_i hgrow;cases hr;exact growing ω
      ·split at hr
       ·rename_i hng hin;cases hr;obtain⟨w',hrun,stp,hoth,hshp,hH⟩:=place ω ω;have hspl:(iq es (off+len) ys).length=es.length:=by simp[iq];omega
        refine⟨_,w',G,hrun,?_,?_,stp⟩;·exact g.aV hn hnb stp.aA stp.aC (λm b' hm hb' hne=>hoth b' (by rintro rfl;exact hne (g.inj m n _ hm hlive hb' hnb))) (hH gr (λe=>by rw[hspl];exact hcg e))
        ·exact .aD _ _ _ _ _ _ tyb m b hnN hnb ω ς (by rw[hshp];exact hsh) hm
       ·cases hr
     ·have hc:=hcap _ rfl;subst hc;split at hr
      ·rename_i hl0;subst hl0;split at hr
       ·rename_i h0;cases hr;have hcells:cells=#[]:=by have:=hrow.aA;rw[h0,Nat.zero_mul]at this;exact YI this
        subst hcells;refine nL.aA g ?_ (.aD _ _ _ _ _ _ tyb m b hnN hnb hl hcap hsh hm);rw[room ω];simp[h0,storeCells]
       ·rename_i h0;cases hr;have:=growing ω;simpa [gY] using this
      ·cases hr
     ·split at hr
      ·rename_i hwhole;subst hwhole;cases hr;have hlel:len <= es.length:=ω;have htl:(es.take len).length=len:=by simp;omega
       by_cases hroom:len+ys.length <= c
       ·obtain⟨w',hrun,stp,hoth,hshp,hH⟩:=place hroom ω;have hH':=(hH true ς).aF (es.take len++ys) (by simp[iq]);have gu:=g.aV hn hnb stp.aA stp.aC (λm b' hm hb' hne=>hoth b' (by rintro rfl;exact hne (g.inj m n _ hm hlive hb' hnb))) hH';have hlt:n<h.length:=(WR.1 hn).1;obtain⟨a,st2⟩:=Tb gu (W0 hlt) hnb true ς;rw[Yi]at a;refine⟨_,w',_,hrun,a,?_,stp.aI st2⟩;have:=V.aD (G:=(G.aH n).aC (some b)) (w:=w') (h.set n none).length sz 0 (es.take len++ys).length none c tyb m b
         (by simp[g.aA,Gh.aC,Gh.aH]) (by simp[g.aA,Gh.aC,Gh.aH]) (by rw[WT,htl];exact hroom) ς (by rw[hshp];exact hsh) (by simpa using hm)
        simpa [gY,XW hlel] using this
       ·have gk:=g.aR hn;have stk:=G.aQ w n;obtain⟨old,hrun,hro⟩:=(((g.aC n sz es gr b hn hnb).aA kd rfl).aC 0 len).aA (P:=P);have hmid':(es.drop 0).take len=es.take len:=by simp
        rw[hmid',htl]at hrun;rw[hmid']at hro;obtain⟨nc,rest,h1,h2,h3⟩:=growr (s:=.slice (some ⟨b,0*sz,none⟩) len c) (old:=old) rfl hrun hroom hb;have hlen':(es.take len++ys).length=len+ys.length:=by rw[WT,htl]
        have hro':kb G w sz (es.take len) old:=hro.aC (iB.aH (G:=G) (w:=w.drew) (w':=w) rfl);obtain⟨v,w',G',a,b',c',d⟩:=DI (P:=P) gk ((hro'.aF hrowG).aC stk.aA) elem (by rw[hlen'];exact h1) (by rw[hlen'];exact h2) (by rw[h3,hlen']);exact⟨v,w',G',a,b',c',stk.aI d⟩
      ·cases hr
   ·cases hr
  ·cases hr
 ·rename_i t clip sz' es;split at hr
  ·rename_i hh;obtain⟨rfl,hb⟩:=hh;split at hr
   ·rename_i h0;cases hr;refine nL.aA g ?_ hx;cases hx with
    | aG=>rw[room ω];simp[h0]
    | aE _ _ _ _ a cap f hl hcl hsp hp hes hc hV=>
     rw[room ω];have:cells=#[]:=by have:=hrow.aA;rw[h0,Nat.zero_mul]at this;exact YI this
     subst this;simp[h0,storeCells]
   ·rename_i h0;split at hr
    ·rename_i hclip;cases hr;cases hx with
     | aG=>have:=grow (base:=none) (len:=0) (cap:=0) (es:=[]) (old:=#[]) rfl rfl rfl (kb.aE _ _ _) ω (by simpa using hb);simpa [gY] using this
     | aE _ _ _ _ a cap f hl hcl hsp hp hes hc hV=>
      have hcap:=hcl hclip;obtain⟨old,hrun,hro⟩:=vT.aA (P:=P) (G:=G) (w:=w.drew) (b:=a.block) (o:=a.off) (sz:=sz) (es:=es) ⟨hes,f,hc,λi j c hc=>(hV i j c hc).aA kd⟩;have hfc:(Builtin.firstCells sz es.length (.slice (some a) es.length cap)).run P w.drew=.ok old w.drew:=by
       by_cases hcz:cap=0
       ·have hl0:es.length=0:=ω;have:old=#[]:=by have:=hro.aA;rw[hl0,Nat.zero_mul]at this;exact YI this
        subst this;rw[hl0];simp[Builtin.firstCells,loadCells,loadCellsFrom]
       ·have ha:a=⟨a.block,a.off,none⟩:=by have:=hsp hcz;cases a;simp at this;simp[this]
        rw[ha];exact hrun
      refine grow (base:=some a) (len:=es.length) (cap:=cap) (es:=es) (old:=old) rfl rfl ?_ (hro.aC (iB.aH (G:=G) (w:=w.drew) (w':=w) rfl)) ω hb;exact hfc
    ·cases hr
  ·cases hr
 ·cases hr
theorem La {G w h sz bytes x y r h' vx vy}(g:fY G w h)(hx:V G w x vx)(hy:V G w y vy)(hr:pP h sz bytes x y=some (r,h'))
  {sT xT elem info zero} (T:xp P sT xT elem sz bytes info zero) (ty:TypeId):
  nL P (Builtin.append_ #[sT,xT] ty #[vx,vy]) G w r h':=by
 unfold pP at hr;cases O:jD h sz y with
 | none=>simp[O]at hr
 | some ys=>
 simp only[O]at hr;have kd:iB G w G w.drew:=iB.aH rfl;have gd:fY G w.drew h:=g.aT rfl;obtain⟨I,hok,cells,hf,U⟩:=Gd (P:=P) g hy O;obtain⟨_,_,u,Z,e⟩:=Gd (P:=P) gd (hy.aA kd) O;have E:kb G w sz ys u:=e.aC (iB.aH (G:=G) (w:=w.drew) (w':=w) rfl);exact F6 g hx U E hr elem (S:=λs=>Builtin.append_ #[sT,xT] ty #[s,vy]) (λhl=>Ul T ty w I hf hl)
  (λhv ho W hb=>Uk T ty w hv I ho Z W hb)
theorem zU {c:Int}(h0:0 <= c)(h1:c <= 2^46):IntKind.i64.wrap c=c:=by
 have e:(2:Int)^64=18446744073709551616:=by decide
 have e':(2:Int)^63=9223372036854775808:=by decide
 have e2:(2:Int)^46=70368744177664:=by decide
 rw[e2]at h1;simp only[IntKind.wrap,IntKind.bits,IntKind.signed,ZI,e,XK];rw[show (64-1:Nat)=63 from rfl,e'];rw[Int.emod_eq_of_lt h0 ω,WY ω]
theorem Km {G w}{z:Array Value}{sz:Nat}(hz:z.size=sz)(O:(z.toList.map jL).all AV.aH=true)(n:Nat):
  kb G w sz (List.replicate n (z.toList.map jL)) (Builtin.zeroCells z n):=by
 have u:jR sz (List.replicate n (z.toList.map jL)):=by intro e he;rw[List.mem_replicate]at he;rw[he.2];exact⟨by simp[hz],O⟩
 refine⟨u,by simp[Builtin.zeroCells,hz],λi j c hc=>?_⟩;obtain⟨hi,hj⟩:=pW u hc;rw[YE]at hi;have hlt:=rI (n:=n) hi hj;have E:j<z.size:=ω;simp only[gI,YR,hi,Yc,Yx,XR]at hc;have I:z.toList[j]?=some z[j]:=by simp[E]
 rw[I]at hc;simp only[YG,W8]at hc;subst hc;refine⟨z[j],?_,V.aT G w _⟩;simp only[Builtin.zeroCells,Array.getElem?_map,hz];rw[Array.getElem?_range,WW hlt];simp only[YG,Nat.mul_add_mod',Nat.mod_eq_of_lt hj];rw[getElem!_pos z j E]
structure xq (P:Program)(sT xT elem:TypeId)(cs bs:Nat)(inf:TypeInfo)(zv:Value):Prop where
 s:P.underlying sT=some (.slice elem)
 x:∃k,P.underlying xT=some (.int k)
 aC:P.info? elem=some inf
 sz:inf.size=cs
 aA:inf.bytes=bs
 aE:inf.zero=some zv
 aD:0<bs
 aF:zv.cells.size=cs
theorem Uj {sT xT elem sz bytes info zero}(T:xq P sT xT elem sz bytes info zero)(ty:TypeId)(w:World)
  {base:Option Addr} {len cap:Nat} {k:IntKind} {n:Int} (h0:0 <= n) (hb:n*bytes <= 2^46) (hr:len+n.toNat <= cap):
  (Builtin.append_ #[sT,xT] ty #[.slice base len cap,.int k n]).run P w =
   match base with
   | some a=>((storeCells (a.add (len*sz)) (Builtin.zeroCells zero.cells n.toNat).toList).run P w).andThen λ_ w'=>.ok (.slice base (len+n.toNat) cap) w'
   | none=>.ok (.slice base (len+n.toNat) cap) w:=by
 obtain⟨d,hd⟩:=T.x;have E:n <= 2^46:=by have h1:n*1 <= n*bytes:=Int.mul_le_mul_of_nonneg_left (by have:=T.aD;omega) h0;omega
 have hw:=zU h0 E;have e2:(2:Int)^46=70368744177664:=by decide
 have e3:(2:Int)^48=281474976710656:=by decide
 have e:¬(n*(bytes:Int)>2^48):=ω;have u:¬n<0:=ω;have hz:n.toNat*sz=0 -> Builtin.zeroCells zero.cells n.toNat=#[]:=by intro h;simp[Builtin.zeroCells,T.aF,h]
 cases base with
 | none=>
  simp only[Builtin.append_,Sem.run_bind,Sem.run_pure,Result.andThen_ok,run_underlying T.s,run_underlying hd,Go.sizeOf,run_typeInfo w T.aC,T.sz,T.aA,Ya,Xx,
     Yh,Yc,asInt,asIntOf,hw,u,e,XS,Sem.run_ite,WW hr,XL,Xt,zeroValue,T.aE]
  split<;>simp
 | some a=>
  by_cases h:n.toNat*sz=0
  ·simp only[Builtin.append_,Sem.run_bind,Sem.run_pure,Result.andThen_ok,run_underlying T.s,run_underlying hd,Go.sizeOf,run_typeInfo w T.aC,T.sz,T.aA,Ya,Xx,
     Yh,Yc,asInt,asIntOf,hw,u,e,XS,Sem.run_ite,WW hr,XL,Xt,zeroValue,h,hz h]
  ·simp only[Builtin.append_,Sem.run_bind,Sem.run_pure,Result.andThen_ok,run_underlying T.s,run_underlying hd,Go.sizeOf,run_typeInfo w T.aC,T.sz,T.aA,Ya,Xx,
     Yh,Yc,asInt,asIntOf,hw,u,e,XS,Sem.run_ite,WW hr,XL,Xt,zeroValue,T.aE,WY h]
theorem Ui {sT xT elem sz bytes info zero}(T:xq P sT xT elem sz bytes info zero)(ty:TypeId)(w:World)
  {s:Value} {base:Option Addr} {len cap:Nat} {old:Array Value} {k:IntKind} {n:Int} (h0:0 <= n) (hs:s=.slice base len cap)
  (e1:(Builtin.firstCells sz len s).run P w.drew=.ok old w.drew)
  (hr:¬len+n.toNat <= cap) (hb:(len+n.toNat)*bytes <= 2^46):
  ∃e rest,len+n.toNat <= e /\ rest.size=(e-(len+n.toNat))*sz /\ (Builtin.append_ #[sT,xT] ty #[s,.int k n]).run P w =
   .ok (.slice (some ⟨w.heap.size,0,none⟩) (len+n.toNat) e) (w.drew.alloc (.cells (old++Builtin.zeroCells zero.cells n.toNat++rest) elem)):=by
 subst hs;obtain⟨d,hd⟩:=T.x;have hcap:Builtin.nextslicecap (len+n.toNat) cap*bytes <= 2^48:=by have h1:=IM (need:=len+n.toNat) (cap:=cap) ω;have h2:=XZ bytes h1;rw[Nat.mul_assoc]at h2;omega
 have hq:(Question.appendCap (len+n.toNat) cap elem).forced=false:=rfl;have a1:n.toNat*bytes <= 2^46:=Xg (XZ _ (Nat.le_add_left _ _)) hb;have hnbz:n*(bytes:Int) <= 2^46:=by
  have:((n.toNat*bytes:Nat):Int)=n*(bytes:Int):=by rw[Int.natCast_mul,Int.toNat_of_nonneg h0]
  rw[<- this];have e2:(2:Int)^46=((2^46:Nat):Int):=by decide
  rw[e2];exact Int.ofNat_le.2 a1
 have O:n <= 2^46:=by have h1:n*1 <= n*bytes:=Int.mul_le_mul_of_nonneg_left (by have:=T.aD;omega) h0;omega
 have hlen46:len+n.toNat <= 2^46:=by have h1:(len+n.toNat)*1 <= (len+n.toNat)*bytes:=Nat.mul_le_mul_left _ T.aD;omega
 have hw:=zU h0 O;have e2:(2:Int)^46=70368744177664:=by decide
 have e3:(2:Int)^48=281474976710656:=by decide
 have I:¬(n*(bytes:Int)>2^48):=ω;have U:¬n<0:=ω;have hz:n.toNat*sz=0 -> Builtin.zeroCells zero.cells n.toNat=#[]:=by intro h;simp[Builtin.zeroCells,T.aF,h]
 refine⟨(Question.appendCap (len+n.toNat) cap elem).cut (w.tape w.drawn (.appendCap (len+n.toNat) cap elem)),
  Builtin.zeroCells zero.cells ((Question.appendCap (len+n.toNat) cap elem).cut (w.tape w.drawn (.appendCap (len+n.toNat) cap elem))-(len+n.toNat)),?_,?_,?_⟩
 ·simp only[Question.cut];omega
 ·simp[Builtin.zeroCells,T.aF]
 ·have hb0:¬bytes=0:=Nat.ne_of_gt T.aD;have E:¬(2^48<Builtin.nextslicecap (len+n.toNat) cap*bytes):=ω;have Z:{w with drawn:=w.drawn+1}=w.drew:=rfl;have u:¬(((len+n.toNat:Nat):Int)>IntKind.i64.max):=by
   have:IntKind.i64.max=9223372036854775807:=by decide
   rw[this];omega
  have W:¬(Builtin.nextslicecap (len+n.toNat) cap*bytes>2^48):=E;by_cases h:n.toNat*sz=0
  ·simp only[Builtin.append_,Sem.run_bind,Sem.run_pure,Result.andThen_ok,run_underlying T.s,run_underlying hd,Go.sizeOf,run_typeInfo _ T.aC,T.sz,Ya,Xx,
     Yh,Xt,XS,Sem.run_ite,WY hr,T.aA,W,u,false_and,run_choose,hq,Z,run_askRoom,e1,XL,Yc,
     zeroValue,T.aE,newRow,run_newObj,asInt,asIntOf,hw,U,I,h,hz h]
   rfl
  ·simp only[Builtin.append_,Sem.run_bind,Sem.run_pure,Result.andThen_ok,run_underlying T.s,run_underlying hd,Go.sizeOf,run_typeInfo _ T.aC,T.sz,Ya,Xx,
     Yh,Xt,XS,Sem.run_ite,WY hr,T.aA,W,u,false_and,run_choose,hq,Z,run_askRoom,e1,XL,Yc,
     zeroValue,T.aE,newRow,run_newObj,asInt,asIntOf,hw,U,I,WY h]
   rfl
def uu (h:fu)(sz bytes:Nat)(zero:List AV)(x y:AV):Option (AV×fu):=
 match y with
 | .aD _ n=>if 0 <= n /\ n*bytes <= 2^46 then iL h sz bytes x (List.replicate n.toNat zero) else none
 | _=>none
theorem K_ {G w h sz bytes x y r h' vx vy}(g:fY G w h)(hx:V G w x vx)(hy:V G w y vy)
  {sT xT elem info zero} (T:xq P sT xT elem sz bytes info zero) (hsc:(zero.cells.toList.map jL).all AV.aH=true)
  (hr:uu h sz bytes (zero.cells.toList.map jL) x y=some (r,h')) (ty:TypeId):
  nL P (Builtin.append_ #[sT,xT] ty #[vx,vy]) G w r h':=by
 unfold uu at hr;split at hr
 ·rename_i k n;cases hy;split at hr
  ·rename_i hh;have hrow:kb G w sz (List.replicate n.toNat (zero.cells.toList.map jL)) (Builtin.zeroCells zero.cells n.toNat):=Km T.aF hsc _;refine F6 g hx hrow hrow hr elem (S:=λs=>Builtin.append_ #[sT,xT] ty #[s,.int k n]) ?_ ?_;·intro base len cap hl;rw[YE]at hl ⊢;exact Uj T ty w hh.1 hh.2 hl
   ·intro s base len cap old hv ho hno hb;rw[YE]at hno hb ⊢;exact Ui T ty w hh.1 hv ho hno hb
  ·cases hr
 ·cases hr
def uv (h:fu)(sz:Nat)(zero:List AV)(x:AV):Option fu:=
 match x with
 | .aC=>some h
 | .aG n sz' off len _=>
  if len=0 then some h else
  match h[n]? with
  | some (some (.aA sz'' es g))=>if sz=sz' /\ sz=sz'' /\ off+len <= es.length then some (h.set n (some (.aA sz (iq es off (List.replicate len zero)) g))) else none
  | _=>none
 | _=>none
theorem Lg {G w h sz x h' vx}(g:fY G w h)(hx:V G w x vx){t elem info zero}(hu:P.underlying t=some (.slice elem))(hi:P.info? elem=some info)
  (E:info.zero=some zero) (hz:zero.cells.size=sz) (a4:(zero.cells.toList.map jL).all AV.aH=true)
  (hr:uv h sz (zero.cells.toList.map jL) x=some h') (ty:TypeId):
  ∃w',(Builtin.clear_ #[t] ty #[vx]).run P w=.ok (.tuple #[]) w' /\ fY G w' h' /\ gP G w G w':=by
 unfold uv at hr;split at hr;·cases hr;cases hx;exact⟨w,by simp only[Builtin.clear_,Ya,Xx,Sem.run_bind,run_underlying hu,Result.andThen_ok,Sem.run_pure],g,gP.aD G w⟩
 ·rename_i n sz' off len cap;split at hr
  ·rename_i hl;subst hl;cases hr;cases hx with
   | aD _ _ _ _ _ c tyb m b hnN u hl hcap Z hm=>exact⟨w,by simp only[Builtin.clear_,Ya,Xx,Sem.run_bind,run_underlying hu,Result.andThen_ok,Sem.run_pure],g,gP.aD G w⟩
   | aH _ _ _ hnN hnl hcap=>exact⟨w,by simp only[Builtin.clear_,Ya,Xx,Sem.run_bind,run_underlying hu,Result.andThen_ok,Sem.run_pure],g,gP.aD G w⟩
  ·rename_i hl;split at hr
   ·rename_i sz'' es gr hn;split at hr
    ·rename_i hh;obtain⟨rfl,rfl,hle⟩:=hh;cases hr;cases hx with
     | aH=>exact absurd rfl hl
     | aD _ _ _ _ _ c tyb m b hnN u hlc hcap Z hm=>
      obtain⟨a8,tyc,U,hcl,a6,_⟩:=(g.aC n sz es gr b hn u).ex;have I:m=a8.size:=by simp[World.shape?,U]at Z;exact Z.2.symm
      have a1:kb G w sz (List.replicate len (zero.cells.toList.map jL)) (Builtin.zeroCells zero.cells len):=Km hz a4 _;have O:=g.aN hn u;obtain⟨w',a3,stp,a2,hshp,hH⟩:=Kj (P:=P) g hn u U a1 (p:=off) ω (by rw[YE];exact Xg (XZ sz ω) (I▸hm));have W:(iq es off (List.replicate len (zero.cells.toList.map jL))).length=es.length:=by simp[iq];omega
      refine⟨w',?_,?_,stp⟩;·obtain⟨l',rfl⟩:∃l',len=l'+1:=⟨len-1,ω⟩;simp only[Builtin.clear_,Ya,Xx,Sem.run_bind,run_underlying hu,Result.andThen_ok,Sem.run_pure,zeroValue,run_typeInfo w hi,E,a3]
      ·exact g.aV hn u stp.aA stp.aC (λm b' hm a7 a5=>a2 b' (by rintro rfl;exact a5 (g.inj m n _ hm O a7 u))) (hH gr (λe=>by rw[W];exact a6 e))
    ·cases hr
   ·cases hr
 ·cases hr
end Glb
/-
 A library of its own,for whatever program: what an operation is made into,and that it does what it says.
-/
namespace Glb
open Go
variable {P:Program}
inductive fN where
 | aC (s:Nat)
 | aD (s:Nat)
 | aA (v:AV)
inductive uq where
 | aD (neg:Bool) (x:fN)
 | aF (neg:Bool) (plan:List (Nat×Bool)) (x y:fN)
 | aE (o n:Nat) (agg:Bool) (x:fN)
 | aH (x i:fN)
 | aG (x:fN)
 | aC (f:FuncId) (fs cs:List fN)
 | aA
inductive oQ where
 | aF (x:fN)
 | aR (c a b:fN)
 | aJ (zero:List AV) (ps:List (Nat×Nat×fN))
 | aA (agg:Bool) (n:Nat) (x:fN)
 | aK (x:fN)
 | aI (op:BinOp) (x y:fN)
 | aH (op:BinOp) (x y:fN)
 | aG (neg:Bool) (x:fN)
 | aP (x:fN)
 | aO (x:fN)
 | aL (k:IntKind) (x:fN)
 | aS (sz:Nat) (x:fN) (lo hi mx:Option fN)
 | aQ (o:Nat) (x:fN)
 | aD (sz:Nat) (x i:fN)
 | aM (x:fN) (i:Nat)
 | aN (x:fN)
 | aT (x:fN)
 | aE (isMax:Bool) (xs:List fN)
 | aC (f:FuncId) (cs:List fN)
 | x (o:uq)
inductive oK where
 | mk (cs:List AV)
 | aD (x:fN)
 | aA (sz:Nat) (xs:List fN)
 | aF (sz bytes:Nat) (zero:List AV) (l c:fN)
 | aE (n:Nat) (a x:fN)
 | aC (sz bytes:Nat) (x y:fN)
 | aG (sz bytes:Nat) (zero:List AV) (x y:fN)
 | aH (sz:Nat) (zero:List AV) (x:fN)
inductive jB where
 | r (o:oQ)
 | h (o:oK)
 | aC (f:FuncId) (args:List fN)
 | aD (x:fN) (args:List fN)
def mL (g:fN -> AV):Option fN -> Option (Option Int)
 | none=>some none
 | some x=>match g x with
  | .aD _ n=>some (some n)
  | _=>none
def iJ:AV -> Option AV
 | .aC=>some (.aD .i64 0)
 | .aG _ _ _ len _=>some (.aD .i64 len)
 | .aM _ _ _ es=>some (.aD .i64 es.length)
 | _=>none
def nQ (isMax:Bool):List AV -> Option AV
 | .aD k n :: r=>aA k n r
 | _=>none
where
 aA (k:IntKind) (n:Int):List AV -> Option AV
  | []=>some (.aD k n)
  | .aD _ m :: r=>aA k (if isMax then (if m>n then m else n) else (if m<n then m else n)) r
  | _=>none
def rZ:AV -> Bool
 | .aC | .aG .. | .aM ..=>true
 | _=>false
def wW:AV -> Option Bool
 | .aN (.pointer none)=>some true
 | .aA _ _ _ _=>some false
 | .aO _ _=>some false
 | _=>none
def rp:List (Nat×Bool) -> List AV -> List AV -> Option Bool
 | [],_,_=>some true
 | (o,true) :: r,xs,ys=>match xs[o]?,ys[o]? with
  | some (.aD k a),some (.aD k' b)=>if k=k' then (if a=b then rp r xs ys else some false) else none
  | _,_=>none
 | (o,false) :: r,xs,ys=>match xs[o]?,ys[o]? with
  | some (.aE a),some (.aE b)=>if a=b then rp r xs ys else some false
  | _,_=>none
def mP (g:fN -> AV):uq -> Option AV
 | .aD neg x=>(wW (g x)).map λb=>.aE (b != neg)
 | .aF neg plan x y=>match g x,g y with
  | .aF xs,.aF ys=>(rp plan xs ys).map λb=>.aE (b != neg)
  | _,_=>none
 | .aE o n agg x=>match g x with
  | .aF cs=>if agg then (if o+n <= cs.length then some (.aF ((cs.drop o).take n)) else none) else cs[o]?
  | _=>none
 | .aH x i=>match g x,g i with
  | .aQ s,.aD _ i=>if 0 <= i then s[i.toNat]?.map λb=>.aD .u8 b.toNat else none
  | _,_=>none
 | .aC f fs cs=>some (.aL f (fs.map g) (cs.map g))
 | .aG x=>match g x with
  | .aC=>some (.aD .i64 0)
  | .aG _ _ _ _ (some c)=>some (.aD .i64 c)
  | .aM _ true _ es=>some (.aD .i64 es.length)
  | _=>none
 | .aA=>none
def gM (g:fN -> AV)(h:fu):oQ -> Option AV
 | .aF x=>some (g x)
 | .aR c a b=>match g c with
  | .aE t=>some (if t then g a else g b)
  | _=>none
 | .aJ zero ps=>(pQ zero (ps.map λp=>(p.1,p.2.1,g p.2.2))).map .aF
 | .aA agg n x=>iK h agg n (g x)
 | .aK x=>match g x with
  | .aA n sz i o=>some (.aA n sz i o)
  | .aO t cs=>some (.aO t cs)
  | .aT t v=>some (.aT t v)
  | .aL f fs cs=>some (.aL f fs cs)
  | _=>none
 | .aI op x y=>jX op (g x) (g y)
 | .aH op x y=>match g x,g y with
  | .aE a,.aE b=>yn op a b
  | _,_=>none
 | .aG neg x=>if rZ (g x) then (lC (g x)).map λb=>.aE (b != neg) else none
 | .aP x=>match g x with
  | .aE b=>some (.aE !b)
  | _=>none
 | .aO x=>match g x with
  | .aD k n=>some (.aD k (k.wrap (0-n)))
  | _=>none
 | .aL k x=>match g x with
  | .aD _ n=>some (.aD k (k.wrap n))
  | _=>none
 | .aS sz x lo hi mx=>match mL g lo,mL g hi,mL g mx with
  | some lo,some hi,some mx=>iX sz (g x) lo hi mx
  | _,_,_=>none
 | .aQ o x=>uy o (g x)
 | .aD sz x i=>jq sz (g x) (g i)
 | .aM x i=>match g x with
  | .aI cs=>cs[i]?
  | _=>none
 | .aN x=>iJ (g x)
 | .aT x=>match g x with
  | .aQ s=>some (.aD .i64 s.size)
  | _=>none
 | .aE m xs=>nQ m (xs.map g)
 | .aC f cs=>some (.aL f [] (cs.map g))
 | .x o=>mP g o
def nu (sz:Nat):List AV -> Option (List (List AV))
 | []=>some []
 | x :: r=>match x.aK,nu sz r with
  | some cs,some es=>if cs.length=sz /\ cs.all AV.aH=true then some (cs :: es) else none
  | _,_=>none
def jT (g:fN -> AV)(nm:Nat):oK -> Option (AV×fC)
 | .mk cs=>some (.aA nm cs.length 0 0,.aA cs.length [cs] false)
 | .aD x=>match (g x).aK with
  | some cs=>if cs.all AV.aH then some (.aA nm cs.length 0 0,.aA cs.length [cs] false) else none
  | none=>none
 | .aA sz xs=>
  match nu sz (xs.map g) with
  | some es=>some (.aG nm sz 0 xs.length (some xs.length),.aA sz es false)
  | none=>none
 | .aF sz bytes zero l c=>match g l,g c with
  | .aD _ l,.aD _ c=>if 0 <= l /\ l <= c /\ c*bytes <= 2^46 then some (.aG nm sz 0 l.toNat (some c.toNat),.aA sz (List.replicate c.toNat zero) false) else none
  | _,_=>none
 | _=>none
def kP (g:fN -> AV)(h:fu):oK -> Option (AV×fu)
 | .aE n a x=>(qy h n (g a) (g x)).map λh'=>(.aR,h')
 | .aC sz bytes x y=>pP h sz bytes (g x) (g y)
 | .aG sz bytes zero x y=>uu h sz bytes zero (g x) (g y)
 | .aH sz zero x=>(uv h sz zero (g x)).map λh'=>(.aI [],h')
 | ho=>match jT g h.length ho with
  | some (v,b)=>some (v,h++[some b])
  | none=>none
def cd (keep:Nat -> Bool):Operand -> fN
 | .tmp s=>if keep s then .aC s else .aD s
 | .const v=>.aA (zq v)
 | .global g=>.aA (.aN (.pointer (some ⟨g,0,none⟩)))
 | .func f=>.aA (.aL f [] [])
def oI (P:Program)(t:TypeId):Option (Nat×Nat×Value):=
 match P.info? t with
 | some i=>i.zero.map λz=>(i.size,i.bytes,z)
 | none=>none
def wF (P:Program)(t:TypeId):Option Bool:=
 match P.underlying t with
 | some (.struct _) | some (.array _ _)=>some true
 | some _=>some false
 | none=>none
def pU (P:Program)(t:TypeId):Option TypeId:=
 match P.underlying t with
 | some (.slice e)=>some e
 | _=>none
def wV (P:Program)(fs:Array Field)(tr:Operand -> fN):List (Nat×Operand) -> Option (List (Nat×Nat×fN))
 | []=>some []
 | (i,x) :: r=>match fs[i]?,wV P fs tr r with
  | some f,some l=>some ((f.offset,P.cellsOf f.type,tr x) :: l)
  | _,_=>none
def uQ:Nat -> List (Nat×Operand) -> Bool
 | _,[]=>true
 | k,(i,_) :: r=>i == k && uQ (k+1) r
def A9 (P:Program)(tr:Operand -> fN)(o:Oper):Option oQ:=
 match o.op with
 | .move x=>some (.aF (tr x))
 | .assign x=>some (.aF (tr x))
 | .pick c a b=>some (.aR (tr c) (tr a) (tr b))
 | .build t ps=>
  match P.underlying t,oI P t with
  | some (.struct fs),some (_,_,z)=>if fs.toList.all (λf=>(P.info? f.type).isSome) then (wV P fs tr ps.toList).map (.aJ (z.cells.toList.map jL)) else none
  | _,_=>none
 | .load t x=>match wF P t,P.info? t with
  | some a,some i=>some (.aA a i.size (tr x))
  | _,_=>none
 | .nilCheck x=>some (.aK (tr x))
 | .binOp op t x y _=>
  match y with
  | .const (.slice none 0 0)=>match P.underlying t,op with
   | some (.slice _),.eql=>some (.aG false (tr x))
   | some (.slice _),.neq=>some (.aG true (tr x))
   | _,_=>none
  | _=>
   match P.underlying t with
   | some (.int _) | some .string=>some (.aI op (tr x) (tr y))
   | some .bool=>some (.aH op (tr x) (tr y))
   | _=>none
 | .unOp .not _ x=>some (.aP (tr x))
 | .unOp .neg _ x=>some (.aO (tr x))
 | .convert s d x=>match P.underlying s,P.underlying d with
  | some (.int _),some (.int k)=>some (.aL k (tr x))
  | _,_=>none
 | .slice t x lo hi mx=>
  match pU P t with
  | some e=>match P.info? e with
   | some i=>if mx.isSome && !hi.isSome then none else some (.aS i.size (tr x) (lo.map (tr)) (hi.map (tr)) (mx.map (tr)))
   | none=>none
  | none=>none
 | .fieldAddr t x k=>
  match P.underlying t with
  | some (.struct fs)=>match fs[k]? with
   | some f=>match P.info? f.type with
    | some i=>if i.size=0 then none else some (.aQ f.offset (tr x))
    | none=>none
   | none=>none
  | _=>none
 | .indexAddr t x i=>
  match pU P t with
  | some e=>match P.info? e with
   | some inf=>some (.aD inf.size (tr x) (tr i))
   | none=>none
  | none=>none
 | .extract x i=>some (.aM (tr x) i)
 | .call {callee:=.builtin .len,args,argTypes}=>
  match args.toList,argTypes.toList with
  | [x],[t]=>match P.underlying t with
   | some (.slice _)=>some (.aN (tr x))
   | some .string=>some (.aT (tr x))
   | _=>none
  | _,_=>none
 | .call {callee:=.builtin .min,args,..}=>some (.aE false (args.toList.map (tr)))
 | .call {callee:=.builtin .max,args,..}=>some (.aE true (args.toList.map (tr)))
 | .makeFunc (.func f) first caps=>if first.size=0 then some (.aC f (caps.toList.map (tr))) else none
 | _=>none
def cH (P:Program)(tr:Operand -> fN)(o:Oper):Option oK:=
 match o.op with
 | .alloc t=>match oI P t with
  | some (_,_,z)=>if (z.cells.toList.map jL).all AV.aH then some (.mk (z.cells.toList.map jL)) else none
  | none=>none
 | .box _ x=>some (.aD (tr x))
 | .buildSlice t len ps=>
  match pU P t with
  | some e=>match oI P e with
   | some (sz,_,z)=>if uQ 0 ps.toList && ps.size == len && decide (z.cells.size=sz) && decide (len*sz <= 2^24) then some (.aA sz (ps.toList.map λp=>tr p.2)) else none
   | none=>none
  | none=>none
 | .makeSlice t l c=>
  match pU P t with
  | some e=>match oI P e with
   | some (sz,bytes,z)=>if z.cells.size=sz /\ 0<bytes /\ (z.cells.toList.map jL).all AV.aH then some (.aF sz bytes (z.cells.toList.map jL) (tr l) (tr c)) else none
   | none=>none
  | none=>none
 | .store t a x=>match P.info? t with
  | some i=>some (.aE i.size (tr a) (tr x))
  | none=>none
 | .call {callee:=.builtin .append,args,argTypes}=>
  match args.toList,argTypes.toList with
  | [x,y],[s,t]=>match pU P s with
   | some e=>match oI P e with
    | some (sz,bytes,z)=>if z.cells.size=sz /\ 0<bytes then (match P.underlying t with
     | some (.slice _)=>some (.aC sz bytes (tr x) (tr y))
     | some (.int _)=>if (z.cells.toList.map jL).all AV.aH then some (.aG sz bytes (z.cells.toList.map jL) (tr x) (tr y)) else none
     | _=>none) else none
    | none=>none
   | none=>none
  | _,_=>none
 | .call {callee:=.builtin .clear,args,argTypes}=>
  match args.toList,argTypes.toList with
  | [x],[s]=>match pU P s with
   | some e=>match oI P e with
    | some (sz,_,z)=>if z.cells.size=sz /\ (z.cells.toList.map jL).all AV.aH then some (.aH sz (z.cells.toList.map jL) (tr x)) else none
    | none=>none
   | none=>none
  | _,_=>none
 | _=>none
def td (P : Program) : List Field → Option (List (Nat × Bool))
 | [] => some []
 | f :: fs => if f.name ≠ "_" then (match P.underlying f.type, td P fs with
   | some (.int _), some r => some ((f.offset, true) :: r)
   | some .bool, some r => some ((f.offset, false) :: r)
   | _, _ => none) else td P fs
def cX (P:Program)(tr:Operand -> fN)(o:Oper):Option uq:=
 match o.op with
 | .binOp op t x y _=>
  match P.underlying t with
  | some (.pointer _)=>match y with
   | .const (.pointer none)=>match op with
    | .eql=>some (.aD false (tr x))
    | .neq=>some (.aD true (tr x))
    | _=>some .aA
   | _=>some .aA
  | some (.struct fs)=>if P.stoodInHeld t=false /\ P.eqGuardType P.depth t=false then (match op,td P fs.toList with
    | .eql,some l=>some (.aF false l (tr x) (tr y))
    | .neq,some l=>some (.aF true l (tr x) (tr y))
    | _,_=>some .aA) else some .aA
  | _=>some .aA
 | .field t x k=>
  match P.underlying t with
  | some (.struct fs)=>match fs[k]? with
   | some f=>match P.info? f.type,wF P f.type with
    | some i,some b=>some (.aE f.offset i.size b (tr x))
    | _,_=>some .aA
   | none=>some .aA
  | _=>some .aA
 | .index t x i=>match P.underlying t with
  | some .string=>some (.aH (tr x) (tr i))
  | _=>some .aA
 | .makeFunc (.func f) first caps=>some (.aC f (first.toList.map tr) (caps.toList.map tr))
 | .call {callee:=.builtin .cap,args,argTypes}=>
  match args.toList,argTypes.toList with
  | [x],[t]=>match P.underlying t with
   | some (.slice _)=>some (.aG (tr x))
   | _=>some .aA
  | _,_=>some .aA
 | .call {callee:=.value _,..}=>none
 | _=>if (cH P tr o).isSome then none else some .aA
def cR (P:Program)(tr:Operand -> fN)(o:Oper):Option oQ:=
 match A9 P tr o with
 | some r=>some r
 | none=>(cX P tr o).map .x
def mD (P:Program)(tr:Operand -> fN)(o:Oper):Option jB:=
 match cR P tr o with
 | some r=>some (.r r)
 | none=>match cH P tr o with
  | some h=>some (.h h)
  | none=>match o.op with
   | .call {callee:=.value (.func f),args,..}=>some (.aC f (args.toList.map (tr)))
   | .call {callee:=.value x,args,..}=>some (.aD (tr x) (args.toList.map (tr)))
   | _=>none
section
variable {P:Program} {G:Gh} {w:World} {h:fu} {tr:Operand -> fN} {g:fN -> AV} {a:Act}
def nh (G:Gh)(w:World)(tr:Operand -> fN)(g:fN -> AV)(a:Act):Prop:=∀x,V G w (g (tr x)) (a.eval x)
theorem zJ {t:TypeId}{sz bytes:Nat}{z:Value}(ht:oI P t=some (sz,bytes,z)):(zeroValue t).run P w=.ok z w:=by
 unfold oI at ht;split at ht
 ·rename_i i hi;cases hz:i.zero with
  | none=>simp[hz]at ht
  | some z'=>simp[hz]at ht;simp[zeroValue,run_typeInfo w hi,hz,ht.2.2]
 ·cases ht
theorem yY {t:TypeId}{sz bytes:Nat}{z:Value}(ht:oI P t=some (sz,bytes,z)):∃i,P.info? t=some i /\ i.size=sz /\ i.bytes=bytes /\ i.zero=some z:=by
 unfold oI at ht;split at ht
 ·rename_i i hi;cases hz:i.zero with
  | none=>simp[hz]at ht
  | some z'=>simp[hz]at ht;exact⟨i,hi,ht.1,ht.2.1,by rw[hz,ht.2.2]⟩
 ·cases ht
theorem pB {t:TypeId}{i:TypeInfo}(hi:P.info? t=some i):(Go.sizeOf t).run P w=.ok i.size w:=by simp[Go.sizeOf,run_typeInfo w hi]
theorem zI {t:TypeId}{b:Bool}(hb:wF P t=some b):(isAgg t).run P w=.ok b w:=by
 unfold wF at hb;split at hb;·rename_i h;cases hb;simp[isAgg,run_underlying h]
 ·rename_i h;cases hb;simp[isAgg,run_underlying h]
 ·rename_i d h1 h2 h;cases hb;simp only[isAgg,Sem.run_bind,run_underlying h,Result.andThen_ok];rfl
 ·cases hb
theorem qN {t e:TypeId}(he:pU P t=some e):P.underlying t=some (.slice e):=by
 unfold pU at he;split at he;·rename_i h;cases he;exact h
 ·cases he
theorem II (isMax:Bool):∀(xs:List AV)(vs:List Value)(r:AV),nQ isMax xs=some r -> xs.length=vs.length ->
  (∀(j:Nat)(c:AV)(v:Value),xs[j]?=some c -> vs[j]?=some v -> V G w c v) ->
  ∃u,((if isMax then Builtin.max_ #[] 0 vs.toArray else Builtin.min_ #[] 0 vs.toArray)).run P w=.ok u w /\ V G w r u:=by
 intro xs vs r hr hl hV;unfold nQ at hr;split at hr
 ·rename_i k n rest;cases vs with
  | nil=>simp at hl
  | cons v vr=>
   have h0:=hV 0 _ v rfl rfl;cases h0;have key:∀(l:List AV)(vl:List Value)(n:Int),nQ.aA isMax k n l=some r -> l.length=vl.length ->
     (∀(j:Nat)(c:AV)(v:Value),l[j]?=some c -> vl[j]?=some v -> V G w c v) ->
     ∃u,(vl.foldlM (if isMax then Builtin.max2 else Builtin.min2) (.int k n):Sem Value).run P w=.ok u w /\ V G w r u:=by
    intro l;induction l with
    | nil=>intro vl n h hl _;have:vl=[]:=W5 (by simpa using hl.symm);subst this;simp only[nQ.aA,W8]at h;subst h;exact⟨_,rfl,.aC _ _⟩
    | cons c l ih=>
     intro vl n h hl hV;cases vl with
     | nil=>simp at hl
     | cons v vl=>have h1:=hV 0 c v rfl rfl;cases c<;>simp only[nQ.aA,reduceCtorEq]at h;cases h1;obtain⟨u,hu,hVu⟩:=ih vl _ h (by simpa using hl) (λj c v a b=>hV (j+1) c v (by simpa using a) (by simpa using b));refine⟨u,?_,hVu⟩;rw[<- hu];cases isMax<;>simp[List.foldlM_cons,Builtin.max2,Builtin.min2]
   obtain⟨u,hu,hVu⟩:=key rest vr n hr (by simpa using hl) (λj c v a b=>hV (j+1) c v (by simpa using a) (by simpa using b));refine⟨u,?_,hVu⟩;rw[<- hu];cases isMax<;>simp[Builtin.max_,Builtin.min_]
 ·cases hr
theorem VL.aA (hs:nh G w tr g a)(xs:List Operand):
  ∀(j:Nat)(c:AV)(v:Value),((xs.map (tr)).map g)[j]?=some c -> (xs.map a.eval)[j]?=some v -> V G w c v:=by
 intro j c v hc hv;simp only[XR,Xn]at hc hv;obtain⟨_,⟨x,hx,rfl⟩,rfl⟩:=hc;obtain⟨y,hy,rfl⟩:=hv;rw[hx]at hy;cases hy;exact hs x
theorem Ej (hs:nh G w tr g a){x:Option Operand}{r:Option Int} (h:mL g (x.map (tr))=some r):
  ∃k,x.map a.eval=r.map (.int k):=by
 cases x with
 | none=>simp only[Option.map_none,mL,W8]at h;subst h;exact⟨.i64,rfl⟩
 | some x=>
  simp only[YG,mL]at h;split at h;·rename_i k n hx;cases h;have:=hs x;rw[hx]at this;generalize hv:a.eval x=v at this;cases this;exact⟨k,by simp[hv]⟩
  ·cases h
theorem LG {x:AV}{b:Bool}{v:Value}{t e:TypeId}(hx:V G w x v)(hn:lC x=some b)(hu:P.underlying t=some (.slice e))(ox oy:Operand):
  ((do eqGuard .eql t ox oy v (.slice none 0 0);binOp .eql t v (.slice none 0 0):Sem Value).run P w=.ok (.bool b) w /\
  (do eqGuard .neq t ox oy v (.slice none 0 0);binOp .neq t v (.slice none 0 0):Sem Value).run P w=.ok (.bool !b) w) \/
  ∀a l c,v≠.slice a l c:=by
 have key:∀(a:Option Addr)(l c:Nat),v=.slice a l c -> a.isNone=b ->
   ((do eqGuard .eql t ox oy v (.slice none 0 0);binOp .eql t v (.slice none 0 0):Sem Value).run P w=.ok (.bool b) w /\
   (do eqGuard .neq t ox oy v (.slice none 0 0);binOp .neq t v (.slice none 0 0):Sem Value).run P w=.ok (.bool !b) w):=by
  rintro a l c rfl rfl;have e:(Op.equal t (.slice a l c) (.slice none 0 0)).run P w=.ok a.isNone w:=by
   have:∀d,(Op.equalIn (d+1) t (.slice a l c) (.slice none 0 0)).run P w=.ok a.isNone w:=by intro d;simp only[Op.equalIn,Sem.run_bind,run_underlying hu,Result.andThen_ok];cases a<;>rfl
   exact this 9999
  constructor;·have:(eqGuard .eql t ox oy (.slice a l c) (.slice none 0 0)).run P w=.ok () w:=rfl;simp only[Sem.run_bind,this,Result.andThen_ok,binOp,e,Sem.run_pure]
  ·have:(eqGuard .neq t ox oy (.slice a l c) (.slice none 0 0)).run P w=.ok () w:=rfl;simp only[Sem.run_bind,this,Result.andThen_ok,binOp,e,Sem.run_pure]
 cases hx with
 | aO=>simp only[lC,W8]at hn;exact .inl (key _ _ _ rfl hn)
 | aD _ _ _ _ _ c ty m b'=>
  simp only[lC]at hn;split at hn;·cases hn;exact .inl (key _ _ _ rfl rfl)
  ·cases hn
 | aH=>simp[lC]at hn
 | aE _ _ _ es a cap=>
  simp only[lC]at hn;split at hn;·cases hn;exact .inl (key _ _ _ rfl rfl)
  ·cases hn
 | aG=>simp[lC]at hn
 | aL=>exact .inr (λ_ _ _ h=>by cases h)
 | aN=>exact .inr (λ_ _ _ h=>by cases h)
 | aR=>exact .inr (λ_ _ _ h=>by cases h)
 | aP v=>refine .inr (λa l c h=>?_);subst h;simp[lC]at hn
 | aI=>simp[lC]at hn
 | aF=>simp[lC]at hn
 | aC=>simp[lC]at hn
 | aQ=>simp[lC]at hn
 | aJ=>simp[lC]at hn
 | aM=>simp[lC]at hn
 | aK=>simp[lC]at hn
theorem rV (ρ:Operand -> Value)(dst:Option Tmp)(b:Builtin)(args:Array Operand)(e:Array TypeId)(ty:TypeId)(pos:String)(after:Array Edge)(guard:Option (Nat×Bool)):
  (execOp ρ {dst,op:=.call {callee:=.builtin b,args,argTypes:=e},type:=ty,pos,after,guard}).run P w =
   (builtin b e ty (args.map fun | .const _=>true | _=>false) (args.map ρ)).run P w:=by
 simp only[execOp,resolve,invoke,Sem.run_bind,Sem.run_pure,Result.andThen_ok];rfl
theorem RR {fs:Array Field}(hs:nh G w tr g a):∀(ps:List (Nat×Operand)) (l:List (Nat×Nat×fN)),wV P fs tr ps=some l ->
  l.length=ps.length /\ ∀(j i:Nat)(v:Value)(o n:Nat)(x:AV),(ps.map fun (i,x)=>(i,a.eval x))[j]?=some (i,v) -> (l.map λp=>(p.1,p.2.1,g p.2.2))[j]?=some (o,n,x) ->
   (fs.map λf=>(f.offset,P.cellsOf f.type))[i]?=some (o,n) /\ V G w x v:=by
 intro ps;induction ps with
 | nil=>intro l hl;simp only[wV,W8]at hl;subst hl;exact⟨rfl,λj i v o n x h=>by simp at h⟩
 | cons p ps ih=>
  intro l hl;obtain⟨i0,x0⟩:=p;simp only[wV]at hl;split at hl
  ·rename_i f l' hf e;cases hl;obtain⟨h1,h2⟩:=ih l' e;refine⟨by simp[h1],λj i v o n x hp hq=>?_⟩;cases j with
   | zero=>simp at hp hq;obtain⟨rfl,rfl⟩:=hp;obtain⟨rfl,rfl,rfl⟩:=hq;exact⟨by simp[hf],hs x0⟩
   | succ j=>exact h2 j i v o n x (by simpa using hp) (by simpa using hq)
  ·cases hl
theorem Up (fs:List Field)(hf:∀f∈fs,(P.info? f.type).isSome):
  (fs.mapM λf=>do pure (f.offset,<- Go.sizeOf f.type):Sem (List (Nat×Nat))).run P w=.ok (fs.map λf=>(f.offset,P.cellsOf f.type)) w:=by
 induction fs with
 | nil=>rfl
 | cons f fs ih=>obtain⟨i,hi⟩:=Y6.1 (hf f ς);simp only[List.mapM_cons,Sem.run_bind,run_sizeOf w hi,Result.andThen_ok,Sem.run_pure,ih (λf h=>hf f (by simp[h])),XD]
theorem LC {q r:AV}{v:Value}{t e:TypeId}(hq:V G w q v)(hr:iJ q=some r)(hu:P.underlying t=some (.slice e))(ty:TypeId):
  ∃u,(Builtin.len_ #[t] ty #[v]).run P w=.ok u w /\ V G w r u:=by
 have key:∀(a:Option Addr)(l c:Nat),(Builtin.len_ #[t] ty #[.slice a l c]).run P w=.ok (.int .i64 l) w:=by intro a l c;simp only[Builtin.len_,Ya,Xx,Sem.run_bind,run_underlying hu,Result.andThen_ok,Sem.run_pure,goInt]
 cases hq<;>simp only[iJ,W8,reduceCtorEq]at hr<;>subst hr<;>exact⟨_,key _ _ _,.aC _ _⟩
theorem T_ (gm:fY G w h)(hs:nh G w tr g a){o:Oper}{ro:oQ}(hc:A9 P tr o=some ro){r:AV}(hr:gM g h ro=some r):
  ∃v,(execOp a.eval o).run P w=.ok (.value v) w /\ V G w r v:=by
 obtain⟨dst,op,type,pos,after,guard⟩:=o;have up:∀{s:Sem Value},(∃v,s.run P w=.ok v w /\ V G w r v) -> ∃v,((do pure (.value (<- s)):Sem Next)).run P w=.ok (.value v) w /\ V G w r v:=by rintro s ⟨v,hv,hV⟩;exact⟨v,by simp[hv],hV⟩
 unfold A9 at hc;simp only at hc;split at hc;·rename_i x;cases hc;simp only[gM,W8]at hr;subst hr;exact⟨_,rfl,hs x⟩
 ·rename_i x;cases hc;simp only[gM,W8]at hr;subst hr;exact⟨_,rfl,hs x⟩
 · -- pick
  rename_i c x y;cases hc;simp only[gM]at hr;split at hr
  ·rename_i t ht;cases hr;have h0:=hs c;rw[ht]at h0;generalize hv:a.eval c=v at h0;cases h0;refine⟨if t then a.eval x else a.eval y,?_,?_⟩;·simp only[execOp,hv,asBool];cases t<;>rfl
   ·cases t;·exact hs y
    ·exact hs x
  ·cases hr
 · -- build
  rename_i t ps;split at hc<;>(try cases hc);rename_i fs sz0 b0 z hu hz;split at hc<;>(try cases hc);rename_i hall;simp only[Xn]at hc;obtain⟨l,hl,rfl⟩:=hc;simp only[gM,Xn]at hr;obtain⟨cells,hcells,rfl⟩:=hr;obtain⟨hlen,hpl⟩:=RR (P:=P) hs ps.toList l hl;have hz0:VL G w (z.cells.toList.map jL) z.cells:=VL.aD G w z.cells;obtain⟨us,hus,hVL⟩:=Lo (G:=G) (w:=w) (λi=>(fs.map λf=>(f.offset,P.cellsOf f.type))[i]?) (ps.toList.map fun (i,x)=>(i,a.eval x)) (l.map λp=>(p.1,p.2.1,g p.2.2)) _ z.cells cells hz0
   (by simp[hlen]) hpl hcells
  refine up ⟨.agg us,?_,.aJ _ _ hVL.1 hVL.2⟩;have hm:(fs.mapM λf=>do pure (f.offset,<- Go.sizeOf f.type):Sem (Array (Nat×Nat))).run P w=.ok (fs.map λf=>(f.offset,P.cellsOf f.type)) w:=by have:=Up (P:=P) (w:=w) fs.toList (λf h=>YH.1 hall f h);rw[Array.mapM_eq_mapM_toList];have e:∀(x:Sem (List (Nat×Nat))),(Functor.map List.toArray x:Sem (Array (Nat×Nat))).run P w=(x.run P w).andThen λa w'=>.ok a.toArray w':=λx=>Sem.run_bind' P x _ w;rw[e,this,Result.andThen_ok];congr 1;apply Array.ext';simp
  have hpz:((ps.map fun (i,x)=>(i,a.eval x)).toList)=ps.toList.map fun (i,x)=>(i,a.eval x):=by simp
  simp only[Instr.build,Sem.run_bind,zJ hz,Result.andThen_ok,run_underlying hu,hm,hpz,hus,Sem.run_pure]
 · -- load
  rename_i t x;split at hc;·rename_i b i hb hi;cases hc;simp only[gM]at hr;exact up (Gm gm (hs x) hr (zI hb) (pB hi))
  ·cases hc
 · -- nilCheck
  rename_i x;cases hc;simp only[gM]at hr;have h0:=hs x;split at hr<;>rename_i hx<;>(try cases hr)<;>rw[hx]at h0<;>generalize hv:a.eval x=v at h0;·cases h0 with | aL _ _ _ _ b hn hb=>exact⟨_,by simp only[execOp,hv];rfl,.aL _ _ _ _ b hn hb⟩
  ·cases h0 with | aN _ _ b off f h1 h2 h3=>exact⟨_,by simp only[execOp,hv];rfl,.aN _ _ b off f h1 h2 h3⟩
  ·cases h0 with | aR _ _ v' h1=>exact⟨_,by simp only[execOp,hv];rfl,.aR _ _ _ h1⟩
  ·cases h0 with | aK _ _ us _ vs h1 h2 h3 h4=>exact⟨_,by simp only[execOp,hv];rfl,.aK _ _ us _ vs h1 h2 h3 h4⟩
 · -- binOp
  rename_i bop t x y yt;have sl:∀{b},rZ (g (tr x))=true -> lC (g (tr x))=some b -> ∀e,P.underlying t=some (.slice e) -> ∀oy,
    ((do eqGuard .eql t x oy (a.eval x) (.slice none 0 0);binOp .eql t (a.eval x) (.slice none 0 0):Sem Value).run P w=.ok (.bool b) w /\
    (do eqGuard .neq t x oy (a.eval x) (.slice none 0 0);binOp .neq t (a.eval x) (.slice none 0 0):Sem Value).run P w=.ok (.bool !b) w):=by
   intro b h1 h2 e hu oy;refine (LG (P:=P) (hs x) h2 hu x oy).resolve_right (λhne=>?_);have h0:=hs x;generalize hv:a.eval x=v at *;generalize g (tr x)=q at *;cases h0<;>simp[rZ]at h1;·exact hne _ _ _ rfl
   ·exact hne _ _ _ rfl
   ·exact hne _ _ _ rfl
   ·exact hne _ _ _ rfl
   ·exact hne _ _ _ rfl
  split at hc
  ·split at hc
   ·cases hc;simp only[gM]at hr;rename_i e hu;split at hr;·rename_i hsl;simp only[Xn]at hr;obtain⟨b,hb,rfl⟩:=hr;refine up ⟨_,(sl hsl hb e hu _).1,?_⟩;cases b<;>exact .aF _
    ·cases hr
   ·cases hc;simp only[gM]at hr;rename_i e hu;split at hr;·rename_i hsl;simp only[Xn]at hr;obtain⟨b,hb,rfl⟩:=hr;refine up ⟨_,(sl hsl hb e hu _).2,?_⟩;cases b<;>exact .aF _
    ·cases hr
   ·cases hc
  ·split at hc<;>(try cases hc)<;>simp only[gM]at hr;·exact up (F7 (hs x) (hs y) hr t x y)
   ·exact up (F7 (hs x) (hs y) hr t x y)
   ·rename_i hu;split at hr;·rename_i p q hp hq;have h1:=hs x;have h2:=hs y;rw[hp]at h1;rw[hq]at h2;generalize hv1:a.eval x=v1 at h1;generalize hv2:a.eval y=v2 at h2;cases h1;cases h2;have:=up (Mh (P:=P) (G:=G) (w:=w) hr t x y hu);simp only[execOp,hv1,hv2];exact this
    ·cases hr
 · -- not
  rename_i t x;cases hc;simp only[gM]at hr;split at hr;·rename_i b hb;cases hr;have h1:=hs x;rw[hb]at h1;generalize hv1:a.eval x=v1 at h1;cases h1;exact⟨_,by simp only[execOp,hv1,Op.unary,Sem.run_bind,Sem.run_pure,Result.andThen_ok],.aF _⟩
  ·cases hr
 · -- neg
  rename_i t x;cases hc;simp only[gM]at hr;split at hr;·rename_i k n hb;cases hr;have h1:=hs x;rw[hb]at h1;generalize hv1:a.eval x=v1 at h1;cases h1;exact⟨_,by simp only[execOp,hv1,Op.unary,Op.intArith,Sem.run_bind,Sem.run_pure,Result.andThen_ok],.aC _ _⟩
  ·cases hr
 · -- convert
  rename_i s d x;split at hc<;>(try cases hc);rename_i k' k hu hd;simp only[gM]at hr;split at hr;·rename_i k0 n hb;cases hr;have h1:=hs x;rw[hb]at h1;generalize hv1:a.eval x=v1 at h1;cases h1;exact⟨_,by simp only[execOp,hv1,convert,run_underlying hu,run_underlying hd,Conv.intToInt,Sem.run_bind,Sem.run_pure,Result.andThen_ok],.aC _ _⟩
  ·cases hr
 · -- slice
  rename_i t x lo hi mx;split at hc<;>(try cases hc);rename_i e he;split at hc<;>(try cases hc);rename_i i hinf;split at hc<;>(try cases hc);rename_i hmx;simp only[gM]at hr;split at hr
  ·rename_i lo' hi' mx' h1 h2 h3;obtain⟨k1,e1⟩:=Ej hs h1;obtain⟨k2,e2⟩:=Ej hs h2;obtain⟨k3,e3⟩:=Ej hs h3;have:=L6 (P:=P) (hs x) hr k1 k2 k3 (by
    intro hm;cases mx with
    | none=>simp[mL]at h3;subst h3;simp at hm
    | some _=>cases hi with
     | none=>simp at hmx
     | some _=>cases hi' with
      | none=>simp at e2
      | some _=>rfl) (qN he) (pB hinf)
   have:=up this;simp only[execOp,e1,e2,e3];exact this
  ·cases hr
 · -- fieldAddr
  rename_i t x k;split at hc<;>(try cases hc);rename_i fs hu;split at hc<;>(try cases hc);rename_i f hf;split at hc<;>(try cases hc);rename_i i hi;split at hc<;>(try cases hc);rename_i h0;simp only[gM]at hr;exact up (Lk (hs x) hr hu hf rfl (pB hi) h0)
 · -- indexAddr
  rename_i t x i;split at hc<;>(try cases hc);rename_i e he;split at hc<;>(try cases hc);rename_i inf hi;simp only[gM]at hr;exact up (LB (hs x) (hs i) hr (qN he) (pB hi))
 · -- extract
  rename_i x i;cases hc;simp only[gM]at hr;split at hr
  ·rename_i cs hx;have h1:=hs x;rw[hx]at h1;generalize hv1:a.eval x=v1 at h1;cases h1 with
   | aM _ vs hl hV=>
    have hlt:=(WR.1 hr).1;have hv:vs[i]?=some (vs[i]'(by rw[<- hl];exact hlt)):=by simp[<- hl,hlt]
    exact⟨_,by simp only[execOp,hv1,Instr.extract,hv,Sem.run_bind,Sem.run_pure,Result.andThen_ok],hV i r _ hr hv⟩
  ·cases hr
 · -- len
  rename_i args argTypes;split at hc<;>(try cases hc);rename_i x t hargs htys;obtain⟨rfl⟩:args=#[x]:=by cases args;simp at hargs;simp[hargs]
  obtain⟨rfl⟩:argTypes=#[t]:=by cases argTypes;simp at htys;simp[htys]
  have h1:=hs x;split at hc<;>(try cases hc)<;>rename_i hu<;>simp only[gM]at hr;·obtain⟨u,hu',hV⟩:=LC (P:=P) h1 hr hu type;refine⟨u,?_,hV⟩;rw[rV];simp only[builtin,ZA,XD,Yb,Sem.run_bind,hu',Result.andThen_ok,Sem.run_pure]
  ·split at hr;·rename_i s hq;cases hr;rw[hq]at h1;generalize hv1:a.eval x=v1 at h1;cases h1;refine⟨.int .i64 s.size,?_,.aC _ _⟩;rw[rV];simp only[builtin,ZA,XD,Yb,hv1,Builtin.len_,Ya,Xx,Sem.run_bind,run_underlying hu,Result.andThen_ok,Sem.run_pure,goInt]
   ·cases hr
 · -- min
  rename_i args ty;cases hc;simp only[gM]at hr;obtain⟨u,hu,hV⟩:=II (P:=P) (G:=G) (w:=w) false _ (args.toList.map a.eval) r hr ς (VL.aA hs args.toList);refine⟨u,?_,hV⟩;rw[rV];simp only[builtin,Sem.run_bind];have:Builtin.min_ ty type (args.map a.eval)=Builtin.min_ #[] 0 (args.toList.map a.eval).toArray:=by simp[Builtin.min_]
  rw[this];simp only[Xt,XS]at hu;simp[hu]
 · -- max
  rename_i args ty;cases hc;simp only[gM]at hr;obtain⟨u,hu,hV⟩:=II (P:=P) (G:=G) (w:=w) true _ (args.toList.map a.eval) r hr ς (VL.aA hs args.toList);refine⟨u,?_,hV⟩;rw[rV];simp only[builtin,Sem.run_bind];have:Builtin.max_ ty type (args.map a.eval)=Builtin.max_ #[] 0 (args.toList.map a.eval).toArray:=by simp[Builtin.max_]
  rw[this];simp only[Yc]at hu;simp[hu]
 · -- makeFunc
  rename_i f first caps;split at hc<;>(try cases hc);rename_i h0;simp only[gM,W8]at hr;subst hr;have hf:first=#[]:=YI h0;subst hf;refine⟨_,by simp only[execOp,Instr.makeFunc,Sem.run_bind,Sem.run_pure,Result.andThen_ok];rfl,?_⟩;have:((#[]:Array Operand).map a.eval)=#[]:=by simp
  rw[this];refine .aK _ _ _ _ _ rfl (λj c v h=>by simp at h) ς (λj c v hc hv=>?_);exact VL.aA hs caps.toList j c v (by simpa using hc) (by simpa using hv)
 ·cases hc
theorem On {d:Nat}:∀(fs:List Field) (e:List (Nat×Bool)) (cs ds:List AV) (xs ys:Array Value) (r:Bool),td P fs=some e -> VL G w cs xs -> VL G w ds ys ->
  rp e cs ds=some r -> (Op.eqFields (d+1) xs ys fs).run P w=.ok r w:=by
 intro fs;induction fs with
 | nil=>intro e cs ds xs ys r hp hx hy hr;simp only[td,W8]at hp;subst hp;simp only[rp,W8]at hr;subst hr;rfl
 | cons f fs ih=>
  intro e cs ds xs ys r hp hx hy hr;simp only[td]at hp;simp only[Op.eqFields];split at hp
  ·rename_i hn;rw[WW hn];split at hp<;>(try cases hp)
   ·rename_i k rest hu u;simp only[rp]at hr;split at hr
    ·rename_i k1 a k2 b ha hb;obtain⟨v1,O,W⟩:=hx.aC ha;obtain⟨v2,I,U⟩:=hy.aC hb;cases W;cases U;split at hr
     ·rename_i hk;subst hk;have p1:(part f.type xs f.offset).run P w=.ok (.int k1 a) w:=by simp[part,isAgg,run_underlying hu,O]
      have p2:(part f.type ys f.offset).run P w=.ok (.int k1 b) w:=by simp[part,isAgg,run_underlying hu,I]
      simp only[Sem.run_bind,p1,p2,Result.andThen_ok,run_equalIn_int w d f.type k1 k a b hu];split at hr;·rename_i E;subst E;simp only[BEq.rfl,XL,Xt,XS];exact ih rest cs ds xs ys r u hx hy hr
      ·rename_i E;cases hr;simp only[beq_eq_false_iff_ne.2 E,X_,Yc,Sem.run_pure]
     ·cases hr
    ·cases hr
   ·rename_i rest hu u;simp only[rp]at hr;split at hr
    ·rename_i a b ha hb;obtain⟨v1,O,W⟩:=hx.aC ha;obtain⟨v2,I,U⟩:=hy.aC hb;cases W;cases U;have p1:(part f.type xs f.offset).run P w=.ok (.bool a) w:=by simp[part,isAgg,run_underlying hu,O]
     have p2:(part f.type ys f.offset).run P w=.ok (.bool b) w:=by simp[part,isAgg,run_underlying hu,I]
     simp only[Sem.run_bind,p1,p2,Result.andThen_ok,run_equalIn_bool w d f.type a b hu];split at hr;·rename_i E;subst E;simp only[BEq.rfl,XL,Xt,XS];exact ih rest cs ds xs ys r u hx hy hr
     ·rename_i E;cases hr;simp only[beq_eq_false_iff_ne.2 E,X_,Yc,Sem.run_pure]
    ·cases hr
  ·rename_i hn;rw[WY hn];exact ih e cs ds xs ys r hp hx hy hr
theorem VL.aJ {cs:List AV}{vs:Array Value}(h:VL G w cs vs)(o n:Nat)(hn:o+n <= cs.length):VL G w ((cs.drop o).take n) (vs.extract o (o+n)):=by
 have:=h.1;refine⟨by simp;omega,λj c v hc hv=>?_⟩;rw[Ye]at hc;split at hc
 ·rename_i hj;rw[Xv]at hc;rw[Array.getElem?_extract]at hv;split at hv;·exact h.2 _ c v hc hv
  ·cases hv
 ·cases hc
theorem WN (hs:nh G w tr g a){o:Oper}{xo:uq}(hc:cX P tr o=some xo){r:AV}(hr:mP g xo=some r):
  ∃v,(execOp a.eval o).run P w=.ok (.value v) w /\ V G w r v:=by
 obtain⟨dst,op,type,pos,after,guard⟩:=o;have up:∀{s:Sem Value},(∃v,s.run P w=.ok v w /\ V G w r v) -> ∃v,((do pure (.value (<- s)):Sem Next)).run P w=.ok (.value v) w /\ V G w r v:=by rintro s ⟨v,hv,hV⟩;exact⟨v,by simp[hv],hV⟩
 have bd:∀{q:Prop},mP g .aA=some r -> q:=λh=>by simp[mP]at h
 unfold cX at hc;simp only at hc;split at hc
 ·rename_i bop t x y yt;split at hc
  ·rename_i e hu;have ptr:∀b,wW (g (tr x))=some b -> ∃p:Option Addr,a.eval x=.pointer p /\ p.isNone=b:=by
    intro b hb;have h0:=hs x;unfold wW at hb;split at hb<;>cases hb<;>rename_i hq<;>rw[hq]at h0<;>generalize a.eval x=v at h0<;>cases h0;·exact⟨none,rfl,rfl⟩
    ·exact⟨_,rfl,rfl⟩
    ·exact⟨_,rfl,rfl⟩
   have hc0:a.eval (.const (.pointer none))=.pointer none:=rfl;have hu':P.underlying t=some (.pointer (P.pointee t)):=by simp[Program.pointee,hu]
   split at hc
   ·split at hc<;>cases hc;·simp only[mP,Xn]at hr;obtain⟨b,hb,rfl⟩:=hr;obtain⟨p,hp,rfl⟩:=ptr b hb;refine up ⟨_,?_,.aF _⟩;simp only[hp,hc0,eqGuard_at_pointer,Sem.run_bind,Sem.run_pure,Result.andThen_ok,run_eql_pointer_nil w t p hu'];cases p<;>rfl
    ·simp only[mP,Xn]at hr;obtain⟨b,hb,rfl⟩:=hr;obtain⟨p,hp,rfl⟩:=ptr b hb;refine up ⟨_,?_,.aF _⟩;simp only[hp,hc0,eqGuard_at_pointer,Sem.run_bind,Sem.run_pure,Result.andThen_ok,run_neq_pointer_nil w t p hu'];cases p<;>rfl
    ·exact bd hr
   ·cases hc;exact bd hr
  ·rename_i fs hu;split at hc
   ·rename_i hh;have hu':P.underlying t=some (.struct (P.fieldsOf t)):=by simp[Program.fieldsOf,hu]
    have hfs:P.fieldsOf t=fs:=by simp[Program.fieldsOf,hu]
    have go:∀{l cs ds b},td P fs.toList=some l -> g (tr x)=.aF cs -> g (tr y)=.aF ds -> rp l cs ds=some b ->
      ∃xs ys,a.eval x=.agg xs /\ a.eval y=.agg ys /\ (Op.equalIn 10000 t (.agg xs) (.agg ys)).run P w=.ok b w:=by
     intro l cs ds b hl hx hy hb;have h1:=hs x;have h2:=hs y;rw[hx]at h1;rw[hy]at h2;generalize a.eval x=v1 at *;generalize a.eval y=v2 at *;cases h1 with | aJ _ xs l1 V1=>cases h2 with | aJ _ ys l2 V2=>
     refine⟨xs,ys,rfl,rfl,?_⟩;rw[run_equalIn_struct w 9999 t xs ys hu' hh.1,hfs];exact On fs.toList l cs ds xs ys b hl ⟨l1,V1⟩ ⟨l2,V2⟩ hb
    split at hc<;>cases hc
    ·rename_i l hl;simp only[mP]at hr;split at hr;·rename_i cs ds hx hy;simp only[Xn]at hr;obtain⟨b,hb,rfl⟩:=hr;obtain⟨xs,ys,e1,e2,e3⟩:=go hl hx hy hb;refine up ⟨_,?_,.aF _⟩;simp only[e1,e2,Sem.run_bind,run_eqGuard_agg w _ t x y xs ys hh.2,Result.andThen_ok,run_eql_struct,e3];cases b<;>rfl
     ·cases hr
    ·rename_i l hl;simp only[mP]at hr;split at hr;·rename_i cs ds hx hy;simp only[Xn]at hr;obtain⟨b,hb,rfl⟩:=hr;obtain⟨xs,ys,e1,e2,e3⟩:=go hl hx hy hb;refine up ⟨_,?_,.aF _⟩;simp only[e1,e2,Sem.run_bind,run_eqGuard_agg w _ t x y xs ys hh.2,Result.andThen_ok,run_neq_struct,e3];cases b<;>rfl
     ·cases hr
    ·exact bd hr
   ·cases hc;exact bd hr
  ·cases hc;exact bd hr
 ·rename_i t x k;split at hc
  ·rename_i fs hu;split at hc
   ·rename_i f hf;split at hc
    ·rename_i i b hi hb;cases hc;simp only[mP]at hr;split at hr
     ·rename_i cs hx;have h1:=hs x;rw[hx]at h1;generalize hv1:a.eval x=v1 at h1;cases h1 with | aJ _ vs hl hV=>
      refine up ?_;split at hr
      ·rename_i hb';subst hb';split at hr;·rename_i hle;cases hr;have:=VL.aJ (G:=G) (w:=w) ⟨hl,hV⟩ f.offset i.size hle;refine⟨.agg (vs.extract f.offset (f.offset+i.size)),?_,.aJ _ _ this.1 this.2⟩;simp only[hv1,Instr.field,Sem.run_bind,run_underlying hu,Result.andThen_ok,hf,asAgg,Sem.run_pure,part,zI hb,Yc,pB hi]
       ·cases hr
      ·rename_i hb';have hb'':b=false:=by simpa using hb'
       subst hb'';obtain⟨v,hv,hV'⟩:=VL.aC (G:=G) (w:=w) ⟨hl,hV⟩ hr;refine⟨v,?_,hV'⟩;simp only[hv1,Instr.field,Sem.run_bind,run_underlying hu,Result.andThen_ok,hf,asAgg,Sem.run_pure,part,zI hb,Xt,XS,hv]
     ·cases hr
    ·cases hc;exact bd hr
   ·cases hc;exact bd hr
  ·cases hc;exact bd hr
 ·rename_i t x i;split at hc
  ·rename_i hu;cases hc;simp only[mP]at hr;split at hr
   ·rename_i s k n hx hi;have h1:=hs x;have h2:=hs i;rw[hx]at h1;rw[hi]at h2;generalize hv1:a.eval x=v1 at h1;generalize hv2:a.eval i=v2 at h2;cases h1;cases h2;split at hr;·rename_i h0;simp only[Xn]at hr;obtain⟨b,hb,rfl⟩:=hr;refine up ⟨_,?_,.aC _ _⟩;simp only[hv1,hv2,Instr.index,asIntOf,Sem.run_bind,Sem.run_pure,Result.andThen_ok,run_underlying hu,h0,Yc,hb]
    ·cases hr
   ·cases hr
  ·cases hc;exact bd hr
 ·rename_i f first caps;cases hc;simp only[mP,W8]at hr;subst hr;refine⟨_,by simp only[execOp,Instr.makeFunc,Sem.run_bind,Sem.run_pure,Result.andThen_ok];rfl,?_⟩;have h1:=VL.aA hs first.toList;have h2:=VL.aA hs caps.toList;exact .aK _ _ _ _ _ ς (λj c v hc hv=>h1 j c v (by simpa using hc) (by simpa using hv)) ς (λj c v hc hv=>h2 j c v (by simpa using hc) (by simpa using hv))
 ·rename_i args argTypes;split at hc
  ·rename_i x t hargs htys;obtain⟨rfl⟩:args=#[x]:=by cases args;simp at hargs;simp[hargs]
   obtain⟨rfl⟩:argTypes=#[t]:=by cases argTypes;simp at htys;simp[htys]
   split at hc
   ·rename_i e hu;cases hc;have key:∀(q:Option Addr)(l c:Nat),a.eval x=.slice q l c -> (execOp a.eval {dst,op:=.call {callee:=.builtin .cap,args:=#[x],argTypes:=#[t]},type,pos,after,guard}).run P w=.ok (.value (.int .i64 c)) w:=by intro q l c hq;rw[rV];simp only[builtin,ZA,XD,Yb,hq,Builtin.cap_,Ya,Xx,Sem.run_bind,run_underlying hu,Result.andThen_ok,Sem.run_pure,goInt]
    have h0:=hs x;simp only[mP]at hr;split at hr<;>(try cases hr)<;>rename_i hx<;>rw[hx]at h0<;>generalize hq:a.eval x=v at h0;·cases h0;exact⟨_,key _ _ _ hq,.aC _ _⟩
    ·cases h0 with
     | aD _ _ _ _ _ c ty m b h1 h2 h3 h4=>have:=h4 _ rfl;subst this;exact⟨_,key _ _ _ hq,.aC _ _⟩
     | aH _ _ _ h1 h2 h3=>have:=h3 _ rfl;subst this;exact⟨_,key _ _ _ hq,.aC _ _⟩
    ·cases h0 with
     | aE _ _ _ _ ad cap f h1 h2=>have:=h2 rfl;subst this;exact⟨_,key _ _ _ hq,.aC _ _⟩
     | aG=>exact⟨_,key _ _ _ hq,.aC _ _⟩
   ·cases hc;exact bd hr
  ·cases hc;exact bd hr
 ·cases hc
 ·split at hc;·cases hc
  ·cases hc;exact bd hr
theorem JC (gm:fY G w h)(hs:nh G w tr g a){o:Oper}{ro:oQ}(hc:cR P tr o=some ro){r:AV}(hr:gM g h ro=some r):
  ∃v,(execOp a.eval o).run P w=.ok (.value v) w /\ V G w r v:=by
 unfold cR at hc;split at hc;·rename_i r' h';cases hc;exact T_ gm hs h' hr
 ·simp only[Xn]at hc;obtain⟨xo,hx,rfl⟩:=hc;exact WN hs hx (by simpa [gM] using hr)
theorem Py:∀(ps:List (Nat×Operand)) (k:Nat),uQ k ps=true -> ∀(j i:Nat)(x:Operand),ps[j]?=some (i,x) -> i=k+j:=by
 intro ps;induction ps with
 | nil=>intro k _ j i x h;simp at h
 | cons p ps ih=>
  intro k hk j i x h;obtain⟨i0,x0⟩:=p;simp only[uQ,Xs,beq_iff_eq]at hk;cases j with
  | zero=>simp at h;omega
  | succ j=>have:=ih (k+1) hk.2 j i x (by simpa using h);omega
theorem Nj {sz:Nat}:∀(xs:List AV) (es:List (List AV)),nu sz xs=some es ->
  es.length=xs.length /\ jR sz es /\ ∀(j:Nat)(e:List AV)(x:AV),es[j]?=some e -> xs[j]?=some x -> x.aK=some e:=by
 intro xs;induction xs with
 | nil=>intro es h;simp only[nu,W8]at h;subst h;exact⟨rfl,λe he=>by simp at he,λj e x h=>by simp at h⟩
 | cons x xs ih=>
  intro es h;simp only[nu]at h;split at h
  ·rename_i cs I E u;split at h
   ·rename_i hh;cases h;obtain⟨h1,h2,h3⟩:=ih I u;refine⟨by simp[h1],λe he=>?_,λj e y he hy=>?_⟩
    ·rcases XC.1 he with rfl | he;·exact hh
     ·exact h2 e he
    ·cases j with
     | zero=>simp at he hy;subst he;subst hy;exact E
     | succ j=>exact h3 j e y (by simpa using he) (by simpa using hy)
   ·cases h
  ·cases h
theorem Oq {sz:Nat}:∀(vs:List (Nat×Value)) (k:Nat) (es:List (List AV)) (cells:Array Value),vs.length=es.length ->
  (∀(j i:Nat)(v:Value),vs[j]?=some (i,v) -> i=k+j) -> (k+vs.length)*sz <= cells.size ->
  (∀(j i:Nat)(v:Value)(e:List AV),vs[j]?=some (i,v) -> es[j]?=some e -> VL G w e v.cells /\ e.length=sz) ->
  ∃us,Instr.fill (λi=>some (i*sz,sz)) cells vs=some us /\ us.size=cells.size /\ (∀p,p<k*sz -> us[p]?=cells[p]?) /\
   ∀i j c,gI es i j=some c -> ∃v,us[(k+i)*sz+j]?=some v /\ V G w c v:=by
 intro vs;induction vs with
 | nil=>intro k es cells hl _ _ _;have:es=[]:=W5 (by simpa using hl.symm);subst this;exact⟨cells,rfl,rfl,λ_ _=>rfl,λi j c h=>by simp[gI]at h⟩
 | cons p vs ih=>
  intro k es cells hl hk hsz hV;obtain⟨i0,v0⟩:=p;cases es with
  | nil=>simp at hl
  | cons e es=>
   have hi0:i0=k:=by have:=hk 0 i0 v0 rfl;omega
   subst hi0;obtain⟨hv0,he0⟩:=hV 0 i0 v0 e rfl rfl;have hvsz:v0.cells.size=sz:=by rw[<- hv0.1,he0]
   generalize hnew:(v0.cells.zipIdx.foldl (λcs (c,j)=>cs.setIfInBounds (i0*sz+j) c) cells)=new;have row:∀(l:List Value)(q:Nat)(cs:Array Value),i0*sz+q+l.length <= cs.size ->
     ((l.zipIdx q).foldl (λcs (c,j)=>cs.setIfInBounds (i0*sz+j) c) cs).size=cs.size /\
     ∀p,((l.zipIdx q).foldl (λcs (c,j)=>cs.setIfInBounds (i0*sz+j) c) cs)[p]?=if i0*sz+q <= p /\ p<i0*sz+q+l.length then l[p-(i0*sz+q)]? else cs[p]?:=by
    intro l;induction l with
    | nil=>intro q cs _;exact⟨rfl,λp=>by simp;omega⟩
    | cons c l ihl=>
     intro q cs hq;simp only[List.zipIdx_cons,Zm,Xf]at hq ⊢;obtain⟨a1,a2⟩:=ihl (q+1) (cs.setIfInBounds (i0*sz+q) c) (by simp;omega);refine⟨by simpa using a1,λp=>?_⟩;rw[a2];by_cases hp:p=i0*sz+q;·subst hp;rw[WY ω,WW ω,Array.getElem?_setIfInBounds_self_of_lt ω];simp
     ·rw[YS (λe=>hp e.symm)];by_cases hp2:i0*sz+(q+1) <= p /\ p<i0*sz+(q+1)+l.length;·rw[WW hp2,WW ω,show p-(i0*sz+q)=(p-(i0*sz+(q+1)))+1 by omega,Yh]
      ·rw[WY hp2,WY ω]
   have hmul:(i0+(vs.length+1))*sz=i0*sz+sz+vs.length*sz:=by rw[Y4,Nat.succ_mul];omega
   simp only[Xf]at hsz;obtain⟨n1,n2⟩:=row v0.cells.toList 0 cells (by simp[hvsz];omega);have hnew':((v0.cells.toList.zipIdx 0).foldl (λcs (c,j)=>cs.setIfInBounds (i0*sz+j) c) cells)=new:=by rw[<- hnew,<- Array.foldl_toList];simp
   rw[hnew']at n1 n2;obtain⟨us,h1,h2,h3,h4⟩:=ih (i0+1) es new (by simpa using hl) (λj i v h=>by have:=hk (j+1) i v (by simpa using h);omega) (by rw[n1,show i0+1+vs.length=i0+(vs.length+1) by omega];exact hsz)
    (λj i v e a b=>hV (j+1) i v e (by simpa using a) (by simpa using b))
   refine⟨us,?_,by rw[h2,n1],λp hp=>?_,λi j c hc=>?_⟩;·simp only[Instr.fill,hvsz,hnew];rw[WY (by simp;omega)];exact h1
   ·rw[h3 p (by rw[Y4];omega),n2,WY ω]
   ·cases i with
    | zero=>simp only[gI,Xx,Yx]at hc;have hj:=(WR.1 hc).1;obtain⟨v,hv,hVc⟩:=hv0.aC hc;refine⟨v,?_,hVc⟩;have hjs:j<sz:=ω;rw[h3 _ (by rw[Y8,Nat.succ_mul];omega),n2,WW (by simp[hvsz];omega)];simp only[Y8,Array.getElem?_toList];rw[show i0*sz+j-i0*sz=j by omega];exact hv
    | succ i=>obtain⟨v,hv,hVc⟩:=h4 i j c (by simpa [gI] using hc);exact⟨v,by rw[show i0+(i+1)=i0+1+i by omega];exact hv,hVc⟩
def tX (P:Program)(s:Sem Next)(G:Gh)(w:World)(r:AV)(h':fu):Prop:=
 ∃n v w' G',s.run P w=.ok n w' /\ (n=.value v \/ (n=.skip /\ v=undef)) /\ fY G' w' h' /\ V G' w' r v /\ gP G w G' w'
theorem tX.of {s:Sem Value}{r:AV}{h':fu}(hd:nL P s G w r h'):tX P (do pure (.value (<- s)):Sem Next) G w r h':=by obtain⟨v,w',G',h1,h2,h3,h4⟩:=hd;exact⟨.value v,v,w',G',by simp[h1],.inl rfl,h2,h3,h4⟩
def rL (a:Act)(ps:List (Nat×Operand)):List (Nat×Value):=ps.map λp=>(p.1,a.eval p.2)
def yU (a:Act)(ps:Array (Nat×Operand)):Array (Nat×Value):=ps.map λp=>(p.1,a.eval p.2)
theorem Gy (hs:nh G w tr g a){ps:List (Nat×Operand)}{len sz:Nat}{es:List (List AV)}(hord:uQ 0 ps=true)(hlen:ps.length=len)(hel:es.length=len)(hok:jR sz es)
  (hce:∀(j:Nat)(e:List AV)(x:AV),es[j]?=some e -> ((ps.map λp=>tr p.2).map g)[j]?=some x -> x.aK=some e) (Z:Array Value) (hZ:Z.size=len*sz):
  ∃us,Instr.fill (λi=>some (i*sz,sz)) Z (rL a ps)=some us /\ us.size=len*sz /\ ∀i j c,gI es i j=some c -> ∃v,us[i*sz+j]?=some v /\ V G w c v:=by
 obtain⟨us,hus,husz,_,hV⟩:=Oq (G:=G) (w:=w) (sz:=sz) (rL a ps) 0 es Z (by simp[rL,hel,hlen])
  (λj i v hj=>by simp only[rL,XR,Xn]at hj;obtain⟨⟨i',x⟩,hj,hq⟩:=hj;obtain⟨rfl,rfl⟩:=Prod.mk.inj hq;exact Py _ _ hord j i' x hj)
  (by simp[rL,hlen,hZ])
  (λj i v e hj he=>by simp only[rL,XR,Xn]at hj;obtain⟨⟨i',x⟩,hj,hq⟩:=hj;obtain⟨rfl,rfl⟩:=Prod.mk.inj hq;have hce':=hce j e (g (tr x)) he (by simp[hj]);exact⟨(hs x).aS hce',(hok e (List.mem_of_getElem? he)).1⟩)
 exact⟨us,hus,by rw[husz,hZ],λi j c hc=>by have:=hV i j c hc;rwa [Y7]at this⟩
theorem My (hs:nh G w tr g a){ps:Array (Nat×Operand)}{t e:TypeId}{len sz b:Nat}{z:Value}{es:List (List AV)}(he:pU P t=some e)(hz:oI P e=some (sz,b,z))
  (hzsz:z.cells.size=sz) (hbig:len*sz <= 2^24) (hord:uQ 0 ps.toList=true) (hlen:ps.size=len) (hel:es.length=len) (hok:jR sz es)
  (hce:∀(j:Nat)(e:List AV)(x:AV),es[j]?=some e -> ((ps.toList.map λp=>tr p.2).map g)[j]?=some x -> x.aK=some e):
  LD P (Instr.buildSlice t len (yU a ps)) G w (λnm=>.aG nm sz 0 len (some len)) sz es false:=by
 obtain⟨i,hi,hisz,_,_⟩:=yY hz;have hno:¬(len*sz>2^24):=Nat.not_lt.2 hbig;have hpz:(yU a ps).toList=rL a ps.toList:=by simp[yU,rL]
 have mk:∀us:Array Value,us.size=len*sz -> (∀i j c,gI es i j=some c -> ∃v,us[i*sz+j]?=some v /\ V G w c v) ->
   LD P (do pure (.slice (some (<- newRow e us)) len len)) G w (λnm=>.aG nm sz 0 len (some len)) sz es false:=by
  intro us husz hV;exact IK (P:=P) (cells:=us) (sz:=sz) (es:=es) (gr:=false) e hok (by rw[husz,hel];exact WX _) (λ_=>by rw[husz,hel])
    hV len len (some len) (WX _) (λk hk=>by cases hk;rfl) (by rw[husz];exact WX _)
 by_cases h0:len*sz=0
 ·obtain⟨us,hus,husz,hV⟩:=Gy hs hord (by simpa using hlen) hel hok hce ((Array.range (len*sz)).map λk=>(#[]:Array Value)[k % (#[]:Array Value).size]!) ς;obtain⟨cells,ty,v,h1,h2⟩:=mk us husz hV;refine⟨cells,ty,v,?_,h2⟩;rw[<- h1];simp only[Instr.buildSlice,Sem.run_bind,run_underlying (qN he),Result.andThen_ok,pB hi,hisz,Sem.run_ite,WY hno,hpz,WW h0,Sem.run_pure,hus]
 ·obtain⟨us,hus,husz,hV⟩:=Gy hs hord (by simpa using hlen) hel hok hce ((Array.range (len*sz)).map λk=>z.cells[k % z.cells.size]!) ς;obtain⟨cells,ty,v,h1,h2⟩:=mk us husz hV;refine⟨cells,ty,v,?_,h2⟩;rw[<- h1];simp only[Instr.buildSlice,Sem.run_bind,run_underlying (qN he),Result.andThen_ok,pB hi,hisz,Sem.run_ite,WY hno,hpz,WY h0,Sem.run_pure,zJ hz,hus]
theorem QT {t e:TypeId}{sz b:Nat}{z:Value}(he:pU P t=some e)(hz:oI P e=some (sz,b,z))(u:z.cells.size=sz)(hb:0<b)
  (a4:(z.cells.toList.map jL).all AV.aH=true) {k1 k2:IntKind} {l c:Int} (h0:0 <= l) (hlc:l <= c) (hbig:c*b <= 2^46):
  LD P (Instr.makeSlice t (.int k1 l) (.int k2 c)) G w (λnm=>.aG nm sz 0 l.toNat (some c.toNat)) sz (List.replicate c.toNat (z.cells.toList.map jL)) false:=by
 obtain⟨i,hi,E,a5,_⟩:=yY hz;have O:c <= 2^46:=by have:c*1 <= c*b:=Int.mul_le_mul_of_nonneg_left ω ω;omega
 have U:=zU h0 ω;have W:=zU (c:=c) ω O;have hbig':¬((i.bytes:Int)*c>2^48):=by
  have e2:(2:Int)^46=70368744177664:=by decide
  have e3:(2:Int)^48=281474976710656:=by decide
  rw[a5,Int.mul_comm];omega
 have Z:jR sz (List.replicate c.toNat (z.cells.toList.map jL)):=by intro e he;rw[List.mem_replicate]at he;rw[he.2];exact⟨by simp[u],a4⟩
 have mk:∀us:Array Value,us.size=c.toNat*sz -> (∀k,k<c.toNat*sz -> us[k]?=z.cells[k % sz]?) ->
   LD P (do pure (.slice (some (<- newRow e us)) l.toNat c.toNat)) G w (λnm=>.aG nm sz 0 l.toNat (some c.toNat)) sz (List.replicate c.toNat (z.cells.toList.map jL)) false:=by
  intro us I hk;refine IK (P:=P) (cells:=us) (sz:=sz) (gr:=false) e Z (by simp[I]) (λ_=>by simp[I]) (λi j cc hc=>?_) l.toNat c.toNat (some c.toNat) ω (λk hk=>by cases hk;rfl) (by rw[I];exact WX _);obtain⟨hi,hj⟩:=pW Z hc;rw[YE]at hi;have hlt:=rI (n:=c.toNat) hi hj;have a1:j<z.cells.size:=ω;simp only[gI,YR,hi,Yc,Yx,XR]at hc;have a2:z.cells.toList[j]?=some z.cells[j]:=by simp[a1]
  rw[a2]at hc;simp only[YG,W8]at hc;subst hc;refine⟨z.cells[j],?_,V.aT G w _⟩;rw[hk _ hlt,Nat.mul_comm,Nat.mul_add_mod,Nat.mod_eq_of_lt hj];simp[a1]
 by_cases hn:c.toNat*sz=0
 ·obtain⟨cells,ty,v,h1,h2⟩:=mk ((Array.range (c.toNat*sz)).map λk=>(#[]:Array Value)[k % (#[]:Array Value).size]!) ς (λk hk=>ω);refine⟨cells,ty,v,?_,h2⟩;rw[<- h1];simp only[Instr.makeSlice,Sem.run_bind,run_underlying (qN he),Result.andThen_ok,asInt,asIntOf,Sem.run_pure,run_typeInfo w hi,U,W];rw[WY (by simp;omega)];simp only[Sem.run_bind,Sem.run_pure,Result.andThen_ok,run_askRoom,pB hi,E,Sem.run_ite,WW hn]
 ·obtain⟨cells,ty,v,h1,h2⟩:=mk ((Array.range (c.toNat*sz)).map λk=>z.cells[k % z.cells.size]!) ς (λk hk=>by have a3:0<sz:=Nat.pos_of_ne_zero (λh=>hn (by rw[h,Nat.mul_zero]));have:=Nat.mod_lt k a3;simp[hk,u];rw[getElem!_pos z.cells (k % sz) ω];simp[u,this]);refine⟨cells,ty,v,?_,h2⟩;rw[<- h1];simp only[Instr.makeSlice,Sem.run_bind,run_underlying (qN he),Result.andThen_ok,asInt,asIntOf,Sem.run_pure,run_typeInfo w hi,U,W];rw[WY (by simp;omega)];simp only[Sem.run_bind,Sem.run_pure,Result.andThen_ok,run_askRoom,pB hi,E,Sem.run_ite,WY hn,zJ hz]
theorem Ix (hs:nh G w tr g a){o:Oper}{ho:oK}(hc:cH P tr o=some ho){nm:Nat}{r:AV}{sz:Nat}{es:List (List AV)}{gr:Bool}(hr:jT g nm ho=some (r,.aA sz es gr)):
  ∃(s:Sem Value)(a2:Nat -> AV),execOp a.eval o=(do pure (.value (<- s))) /\ a2 nm=r /\ LD P s G w a2 sz es gr:=by
 obtain⟨dst,op,type,pos,after,guard⟩:=o;unfold cH at hc;simp only at hc;split at hc
 · -- alloc
  rename_i t;split at hc<;>(try cases hc);rename_i W b z hz;split at hc<;>(try cases hc);rename_i O;simp only[jT,W8,Yf,fC.aA.injEq]at hr;obtain⟨rfl,rfl,rfl,rfl⟩:=hr;refine⟨Instr.alloc t true (.tuple #[]),λnm=>.aA nm (z.cells.toList.map jL).length 0 0,rfl,rfl,?_⟩;obtain⟨cells,ty,v,h1,h2⟩:=IL (P:=P) (v:=z) (VL.aD G w z.cells) O t;refine⟨cells,ty,v,?_,h2⟩;simp only[Instr.alloc,Sem.run_bind,zJ hz,Result.andThen_ok];exact h1
 · -- box
  rename_i t x;cases hc;simp only[jT]at hr;split at hr
  ·rename_i cs a8;split at hr;·rename_i O;simp only[W8,Yf,fC.aA.injEq]at hr;obtain⟨rfl,rfl,rfl,rfl⟩:=hr;exact⟨Instr.box t (a.eval x),λnm=>.aA nm cs.length 0 0,rfl,rfl,IL (P:=P) ((hs x).aS a8) O t⟩
   ·cases hr
  ·cases hr
 · -- buildSlice
  rename_i t len ps;split at hc<;>(try cases hc);rename_i e he;split at hc<;>(try cases hc);rename_i W b z hz;split at hc<;>(try cases hc);rename_i u;simp only[Xs,beq_iff_eq,XK]at u;obtain⟨⟨⟨Z,U⟩,E⟩,I⟩:=u;simp only[jT]at hr;split at hr
  ·rename_i ab a6;simp only[W8,Yf,fC.aA.injEq]at hr;obtain⟨rfl,rfl,rfl,rfl⟩:=hr;obtain⟨a7,a3,aa⟩:=Nj _ _ a6;simp at a7;have a1:ab.length=len:=ω;have a5:(ps.toList.map λp=>tr p.2).length=len:=by simp[U]
   refine⟨Instr.buildSlice t len (yU a ps),λnm=>.aG nm W 0 len (some len),rfl,by rw[a5],?_⟩;exact My hs he hz E I Z U a1 a3 aa
  ·cases hr
 · -- makeSlice
  rename_i t l c;split at hc<;>(try cases hc);rename_i e he;split at hc<;>(try cases hc);rename_i W b z hz;split at hc<;>(try cases hc);rename_i u;obtain⟨E,hb,O⟩:=u;simp only[jT]at hr;split at hr
  ·rename_i k1 l' k2 c' hl a9;split at hr;·rename_i hh;obtain⟨h0,a4,I⟩:=hh;simp only[W8,Yf,fC.aA.injEq]at hr;obtain⟨rfl,rfl,rfl,rfl⟩:=hr;have v1:=hs l;have v2:=hs c;rw[hl]at v1;rw[a9]at v2;generalize hv1:a.eval l=x1 at v1;generalize hv2:a.eval c=x2 at v2;cases v1;cases v2;refine⟨Instr.makeSlice t (.int k1 l') (.int k2 c'),λnm=>.aG nm W 0 l'.toNat (some c'.toNat),by simp only[execOp,hv1,hv2],rfl,QT (P:=P) (k1:=k1) (k2:=k2) he hz E hb O h0 a4 I⟩
   ·cases hr
  ·cases hr
 ·split at hc<;>(try cases hc);simp[jT]at hr
 ·split at hc<;>(try cases hc);split at hc<;>(try cases hc);split at hc<;>(try cases hc);split at hc<;>(try cases hc);split at hc<;>(try cases hc);·simp[jT]at hr
  ·split at hc<;>(try cases hc);simp[jT]at hr
 ·split at hc<;>(try cases hc);split at hc<;>(try cases hc);split at hc<;>(try cases hc);split at hc<;>(try cases hc);simp[jT]at hr
 ·cases hc
theorem DY {ho:oK}{nm:Nat}{r:AV}{b:fC}(hr:jT g nm ho=some (r,b)):∃sz es gr,b=.aA sz es gr:=by cases ho<;>simp only[jT]at hr;all_goals (repeat' split at hr);all_goals simp only[W8,Yf,reduceCtorEq]at hr;all_goals exact⟨_,_,_,hr.2.symm⟩
theorem HY (gm:fY G w h)(hs:nh G w tr g a){o:Oper}{ho:oK}(hc:cH P tr o=some ho){r:AV}{h':fu}(hr:kP g h ho=some (r,h')):
  tX P (execOp a.eval o) G w r h':=by
 have light:∀{b:fC},jT g h.length ho=some (r,b) -> h'=h++[some b] -> tX P (execOp a.eval o) G w r h':=by rintro b hb rfl;obtain⟨sz,es,gr,rfl⟩:=DY hb;obtain⟨s,mkv,he,hm,hl⟩:=Ix (P:=P) hs hc hb;rw[he,<- hm];exact tX.of (hl.aA gm)
 have light':(match jT g h.length ho with | some (v,b)=>some (v,h++[some b]) | none=>none)=some (r,h') -> tX P (execOp a.eval o) G w r h':=by
  intro hq;split at hq;·rename_i v b hb;simp only[W8,Yf]at hq;obtain⟨rfl,rfl⟩:=hq;exact light hb rfl
  ·cases hq
 obtain⟨dst,op,type,pos,after,guard⟩:=o;have hc0:=hc;unfold cH at hc;simp only at hc;split at hc;·split at hc<;>(try cases hc);split at hc<;>(try cases hc);exact light' hr
 ·cases hc;exact light' hr
 ·split at hc<;>(try cases hc);split at hc<;>(try cases hc);split at hc<;>(try cases hc);exact light' hr
 ·split at hc<;>(try cases hc);split at hc<;>(try cases hc);split at hc<;>(try cases hc);exact light' hr
 · -- store
  rename_i t p x;split at hc<;>(try cases hc);rename_i i hi;simp only[kP,Xn]at hr;obtain⟨h1,hst,hq⟩:=hr;obtain⟨rfl,rfl⟩:=Prod.mk.inj hq;obtain⟨w',hrun,hg,hstp⟩:=L9 (P:=P) gm (hs p) (hs x) hst (pB hi);exact⟨.skip,undef,w',G,by simp only[execOp,Sem.run_bind,hrun,Result.andThen_ok,Sem.run_pure],.inr ⟨rfl,rfl⟩,hg,.aI _,hstp⟩
 · -- append
  rename_i args tys;split at hc<;>(try cases hc);rename_i x y s t hargs htys;obtain⟨rfl⟩:args=#[x,y]:=by cases args;simp at hargs;simp[hargs]
  obtain⟨rfl⟩:tys=#[s,t]:=by cases tys;simp at htys;simp[htys]
  split at hc<;>(try cases hc);rename_i e he;split at hc<;>(try cases hc);rename_i sz b z hz;split at hc<;>(try cases hc);rename_i hcond;obtain⟨i,hi,hisz,hib,hiz⟩:=yY hz;split at hc<;>(try cases hc);·rename_i e' hu';simp only[kP]at hr;have T:xp P s t e sz b i z:=⟨qN he,⟨e',hu'⟩,hi,hisz,hib,hiz,hcond.2,hcond.1⟩;obtain⟨v,w',G',h1,h2,h3,h4⟩:=La (P:=P) gm (hs x) (hs y) hr T type;refine⟨.value v,v,w',G',?_,.inl rfl,h2,h3,h4⟩;rw[rV];simp only[builtin,ZA,XD,Yb,Sem.run_bind,h1,Result.andThen_ok,Sem.run_pure]
  ·rename_i k' hu';split at hc<;>(try cases hc);rename_i hsc;simp only[kP]at hr;have T:xq P s t e sz b i z:=⟨qN he,⟨k',hu'⟩,hi,hisz,hib,hiz,hcond.2,hcond.1⟩;obtain⟨v,w',G',h1,h2,h3,h4⟩:=K_ (P:=P) gm (hs x) (hs y) T hsc hr type;refine⟨.value v,v,w',G',?_,.inl rfl,h2,h3,h4⟩;rw[rV];simp only[builtin,ZA,XD,Yb,Sem.run_bind,h1,Result.andThen_ok,Sem.run_pure]
 · -- clear
  rename_i args tys;split at hc<;>(try cases hc);rename_i x s hargs htys;obtain⟨rfl⟩:args=#[x]:=by cases args;simp at hargs;simp[hargs]
  obtain⟨rfl⟩:tys=#[s]:=by cases tys;simp at htys;simp[htys]
  split at hc<;>(try cases hc);rename_i e he;split at hc<;>(try cases hc);rename_i sz b z hz;split at hc<;>(try cases hc);rename_i hcond;obtain⟨i,hi,hisz,hib,hiz⟩:=yY hz;simp only[kP,Xn]at hr;obtain⟨h1,hst,hq⟩:=hr;obtain⟨rfl,rfl⟩:=Prod.mk.inj hq;obtain⟨w',hrun,hg,hstp⟩:=Lg (P:=P) gm (hs x) (qN he) hi hiz hcond.1 hcond.2 hst type;refine⟨.value (.tuple #[]),.tuple #[],w',G,?_,.inl rfl,hg,.aM _ _ rfl (λj c v h=>by simp at h),hstp⟩;rw[rV];simp only[builtin,ZA,XD,Yb,Sem.run_bind,hrun,Result.andThen_ok,Sem.run_pure]
 ·cases hc
end
end Glb
/-
 A library of its own,for whatever program: code,and what is to be shown of it.
-/
namespace Glb
open Go
variable {P:Program}
abbrev gx:=List (Nat×AV)
def lk (s:Nat):gx -> AV
 | []=>.aR
 | (t,v) :: r=>if t=s then v else lk s r
def nT (s:Nat)(v:AV):gx -> gx
 | []=>[(s,v)]
 | (t,u) :: r=>if t=s then (s,v) :: r else if s<t then (s,v) :: (t,u) :: r else (t,u) :: nT s v r
theorem fE (s t:Nat)(v:AV)(e:gx):lk t (nT s v e)=if t=s then v else lk t e:=by
 have ne:∀{x y:Nat},¬x=y -> ¬y=x:=λh e=>h e.symm;induction e with
 | nil=>
  simp only[nT,lk];by_cases h:s=t;·subst h;simp
  ·have:=ne h;simp[h,this]
 | cons p r ih=>
  obtain⟨q,u⟩:=p;simp only[nT];split
  ·rename_i h;subst h;simp only[lk];by_cases h:q=t;·subst h;simp
   ·have:=ne h;simp[h,this]
  ·rename_i hq;split
   ·simp only[lk];by_cases h:s=t;·subst h;simp
    ·have:=ne h;simp[h,this]
   ·simp only[lk,ih];by_cases h:q=t;·subst h;have:¬(q=s):=hq;simp[this]
    ·simp[h]
structure St where
 L:gx
 R:gx
 h:fu
inductive kC where
 | aC
 | aA (s:Nat)
 | aD (s:Nat)
def St.aA (st:St):fN -> AV
 | .aC s=>lk s st.L
 | .aD s=>lk s st.R
 | .aA v=>v
def St.aC (st:St)(d:kC)(v:AV):St:=
 match d with
 | .aC=>st
 | .aA s=>{st with L:=nT s v st.L}
 | .aD s=>{st with R:=(s,v) :: st.R}
structure AO where
 aA:kC
 op:jB
 aC:Option (fN×Bool)
structure SR (n:Nat)(keep:Nat -> Bool)(G0:Gh)(w0:World)(G:Gh)(w:World)(st:St)(a:Act):Prop where
 aA:fY G w st.h
 aE:a.tmps.size=n
 aC:a.defers=[]
 L:∀s,keep s=true -> V G w (lk s st.L) (a.tmps.getD s undef)
 R:∀s,keep s=false -> V G w (lk s st.R) (a.tmps.getD s undef)
 aD:gP G0 w0 G w
section
variable {n:Nat} {keep:Nat -> Bool} {G0:Gh} {w0:World} {P:Program}
theorem SR.aF {G w st a}(sr:SR n keep G0 w0 G w st a):nh G w (cd keep) st.aA a:=by
 intro x;cases x with
 | tmp s=>
  simp only[cd];split;·rename_i h;exact sr.L s h
  ·rename_i h;exact sr.R s (by simpa using h)
 | const v=>exact V.aZ G w v
 | global g=>exact .aP _
 | func f=>exact .aK f [] #[] [] #[] rfl (λj c v h=>by simp at h) rfl (λj c v h=>by simp at h)
def sU (n:Nat)(keep:Nat -> Bool):Option Tmp -> Option kC
 | none=>some .aC
 | some s=>if s<n then some (if keep s then .aA s else .aD s) else none
theorem uN {a:Act}{s q:Nat}{v:Value}(h:s<a.tmps.size):(a.tmps.setIfInBounds s v).getD q undef=if q=s then v else a.tmps.getD q undef:=by
 by_cases e:q=s
 ·subst e;simp[h]
 ·simp[e,YS (λx=>e x.symm)]
theorem SR.aG {G w st a G' w' h' d t r v}(sr:SR n keep G0 w0 G w st a)(hd:sU n keep t=some d)(hg:fY G' w' h')(hs:gP G w G' w')(hv:V G' w' r v):
  SR n keep G0 w0 G' w' {st.aC d r with h:=h'} (a.put t v):=by
 have hL:∀s,keep s=true -> V G' w' (lk s st.L) (a.tmps.getD s undef):=λs h=>(sr.L s h).aA hs.aA;have hR:∀s,keep s=false -> V G' w' (lk s st.R) (a.tmps.getD s undef):=λs h=>(sr.R s h).aA hs.aA;cases t with
 | none=>simp only[sU,W8]at hd;subst hd;exact⟨hg,sr.aE,sr.aC,hL,hR,sr.aD.aI hs⟩
 | some s=>
  simp only[sU]at hd;split at hd
  ·rename_i hlt;have u:s<a.tmps.size:=by rw[sr.aE];exact hlt
   simp only[W8]at hd;split at hd<;>rename_i hk<;>subst hd
   ·refine⟨hg,by simp[Act.put,sr.aE],sr.aC,λq hq=>?_,λq hq=>?_,sr.aD.aI hs⟩
    ·simp only[St.aC,fE,Act.put];rw[uN u];split;·exact hv
     ·exact hL q hq
    ·simp only[St.aC,Act.put];rw[uN u,WY (by rintro rfl;rw[hk]at hq;cases hq)];exact hR q hq
   ·refine⟨hg,by simp[Act.put,sr.aE],sr.aC,λq hq=>?_,λq hq=>?_,sr.aD.aI hs⟩;·simp only[St.aC,Act.put];rw[uN u,WY (by rintro rfl;exact hk hq)];exact hL q hq
    ·simp only[St.aC,lk,Act.put];rw[uN u];by_cases e:s=q;·subst e;simp;exact hv
     ·have:¬q=s:=λx=>e x.symm;simp only[e,this,XS];exact hR q hq
  ·cases hd
def fO (P:Program)(f:FuncId)(avs:List AV)(h:fu)(K:AV -> fu -> Prop):Prop:=
 ∀(G:Gh)(w:World)(vs:Array Value),fY G w h -> VL G w avs vs -> Calls P f vs w λe w'=>∃v r h' G',e=.returned v /\ K r h' /\ fY G' w' h' /\ V G' w' r v /\ gP G w G' w'
theorem fO.aA {f avs h}{K K':AV -> fu -> Prop}(hc:fO P f avs h K)(hk:∀r h',K r h' -> K' r h'):fO P f avs h K':=
 λG w vs hg hv=>(hc G w vs hg hv).mono λ_ _ ⟨v,r,h',G',h1,h2,h3⟩=>⟨v,r,h',G',h1,hk _ _ h2,h3⟩
def fZ (P : Program) (f : FuncId) : Bool :=
 match P.funcs[f]? with
 | some fn => fn.body.isSome && !(fn.name == "runtime.NumGoroutine")
 | none => false
theorem vq {f:FuncId}(hf:fZ P f=true)(args:Array Value)(w:World):(callFunc f args).run P w=.ok (.enter f args) w:=by
 unfold fZ at hf;split at hf
 ·rename_i fn e;simp only[Xs,Zw]at hf;have hb:fn.body.isNone=false:=by cases h:fn.body with | none=>simp[h]at hf | some c=>rfl
  simp only[callFunc,Sem.run_bind,run_program,Result.andThen_ok,e,hf.2,hb,Xt,XS,Sem.run_pure]
 ·cases hf
def nK (P:Program)(o:AO)(st:St)(k:St -> Prop):Prop:=
 match o.op with
 | .r ro=>match gM st.aA st.h ro with
  | some v=>k (st.aC o.aA v)
  | none=>False
 | .h ho=>match kP st.aA st.h ho with
  | some (v,h')=>k {st.aC o.aA v with h:=h'}
  | none=>False
 | .aC f args=>fZ P f=true /\ fO P f (args.map st.aA) st.h λv h'=>k {st.aC o.aA v with h:=h'}
 | .aD x args=>match st.aA x with
  | .aL f fs cs=>fZ P f=true /\ fO P f (fs++args.map st.aA++cs) st.h λv h'=>k {st.aC o.aA v with h:=h'}
  | _=>False
def ig (P:Program):List AO -> St -> (St -> Prop) -> Prop
 | [],st,k=>k st
 | o :: r,st,k=>
  match o.aC with
  | none=>nK P o st λst'=>ig P r st' k
  | some (x,want)=>match st.aA x with
   | .aE b=>(b=want -> nK P o st λst'=>ig P r st' k) /\ (b=(!want) -> ig P r (st.aC o.aA (.aI [])) k)
   | .aI _=>ig P r (st.aC o.aA (.aI [])) k
   | _=>False
def A8 (keep:Nat -> Bool)(ops:Array Oper):Option (Nat×Bool) -> Option (Option (fN×Bool))
 | none=>some none
 | some (j,want)=>match (ops[j]?).bind (·.dst) with
  | some t=>some (some (cd keep (.tmp t),want))
  | none=>none
def yv (P:Program)(n:Nat)(keep:Nat -> Bool)(ops:Array Oper)(o:Oper):Option AO:=
 match sU n keep o.dst,mD P (cd keep) o,A8 keep ops o.guard with
 | some d,some op,some g=>some ⟨d,op,g⟩
 | _,_,_=>none
def rD (P:Program)(n:Nat)(keep:Nat -> Bool)(ops:Array Oper):List Oper -> Option (List AO)
 | []=>some []
 | o :: r=>match yv P n keep ops o,rD P n keep ops r with
  | some x,some l=>some (x :: l)
  | _,_=>none
theorem SR.aJ {G w st a d t}(sr:SR n keep G0 w0 G w st a)(hd:sU n keep t=some d):SR n keep G0 w0 G w (st.aC d (.aI [])) (a.put t undef):=by
 have e:({st.aC d (.aI []) with h:=st.h}:St)=st.aC d (.aI []):=by cases d<;>rfl
 have:=sr.aG hd sr.aA (gP.aD G w) (V.aM (G:=G) (w:=w) [] #[] rfl (λj c v h=>by simp at h));rw[e]at this;exact this
theorem O6 {G w st a}(sr:SR n keep G0 w0 G w st a){ops:Array Oper}{o:Oper}{j:Nat}{want:Bool}{t:Tmp}(hg:o.guard=some (j,want))(ht:(ops[j]?).bind (·.dst)=some t):
  (∀b,st.aA (cd keep (.tmp t))=.aE b -> Region.wanted o (yielded ops a.tmps)=(b == want)) /\ (∀cs,st.aA (cd keep (.tmp t))=.aI cs -> Region.wanted o (yielded ops a.tmps)=false):=by
 have hv:=sr.aF (.tmp t);have hy:yielded ops a.tmps j=match a.tmps[t]? with | some (.bool b)=>some b | _=>none:=by simp only[yielded,ht,Yx];rfl
 have hev:a.eval (.tmp t)=(a.tmps[t]?).getD undef:=by simp[Act.eval]
 rw[hev]at hv;constructor
 ·intro b hb;rw[hb]at hv;cases hq:a.tmps[t]? with
  | none=>rw[hq]at hv;cases hv
  | some v=>rw[hq]at hv;simp only[XJ]at hv;cases hv;simp only[Region.wanted,hg,hy,hq];cases b<;>cases want<;>rfl
 ·intro cs hb;rw[hb]at hv;cases hq:a.tmps[t]? with
  | none=>simp[Region.wanted,hg,hy,hq]
  | some v=>rw[hq]at hv;simp only[XJ]at hv;cases hv;simp[Region.wanted,hg,hy,hq]
end
end Glb
/-
 A library of its own,for whatever program: regions whose order is drawn.
-/
namespace Glb
open Go
variable {P:Program}
def Gh.aG (G:Gh)(nm b:Nat):Gh:=
 {G with aA:=λn=>if n=nm then some b else G.aA n,aD:=λn=>G.aD n \/ n=nm}
theorem fY.aY {G w h}(g:fY G w h){nm:Nat}(hl:G.aA nm=none)(hn:¬G.aE nm)(o:Obj):iB G w (G.aG nm w.heap.size) (w.alloc o) where
 N:=WX _
 aA n b hlt hb:=by
  by_cases e:n=nm
  ·subst e;rw[hl]at hb;cases hb
  ·simp only[Gh.aG,e,XS];exact hb
 aF n _ h:=h
 aC t b hp:=by cases t<;>exact hp
 aD t b hp:=o_ (g.aQ hp)
 aE b hb:=EJ hb
theorem fY.bH {G w h} (g : fY G w h) {nm : Nat} (hlt : nm < G.N) (hh : h[nm]? = some none) (hl : G.aA nm = none) (hn : ¬ G.aE nm)
    {cells : Array Value} {ty : TypeId} {sz : Nat} {es : List (List AV)} {gr : Bool}
    (a4 : jR sz es) (a5 : es.length * sz <= cells.size) (a6 : gr = false -> cells.size = es.length * sz)
    (hV : ∀ i j c, gI es i j = some c -> ∃ v, cells[i * sz + j]? = some v /\ V G w c v) :
    fY (G.aG nm w.heap.size) (w.alloc (.cells cells ty)) (h.set nm (some (.aA sz es gr))) := by
  have k := g.aY hl hn (.cells cells ty)
  have a2 : nm < h.length := by rw [g.aA]; exact hlt
  have I : (G.aG nm w.heap.size).aA nm = some w.heap.size := by simp [Gh.aG]
  have E : ∀ n, n ≠ nm -> (G.aG nm w.heap.size).aA n = G.aA n := λn hn => by simp [Gh.aG, hn]
  have u : ∀ n, n ≠ nm -> ((G.aG nm w.heap.size).aD n ↔ G.aD n) := λn hn => ⟨λh => h.resolve_right hn, .inl⟩
  have old : ∀ n, n ≠ nm -> (h.set nm (some (.aA sz es gr)))[n]? = h[n]? := λn hn => WS (λe => hn e.symm)
  have new : (h.set nm (some (.aA sz es gr)))[nm]? = some (some (.aA sz es gr)) := W0 a2
  refine { aA := by simp [Gh.aG, g.aA], aD := ?_, aE := ?_, inj := ?_, aF := ?_, aG := ?_, aL := g.aL, aM := g.aM,
           aH := ?_, aJ := ?_, aC := ?_, aI := ?_, aK := ?_ }
  · intro n
    by_cases e : n = nm
    · subst e; exact ⟨λ_ => ⟨⟨_, _, _, new⟩, _, I⟩, λ_ => .inr rfl⟩
    · rw [u n e, E n e, old n e]; exact g.aD n
  · intro n b hb
    have e : n ≠ nm := by rintro rfl; rw [g.aE _ _ hb] at hh; cases hh
    rw [old n e]; exact g.aE n b hb
  · intro n m b hn hm O U
    by_cases h1 : n = nm <;> by_cases h2 : m = nm
    · rw [h1, h2]
    · subst h1; rw [I] at O; rw [E m h2] at U; cases O
      exact absurd (g.aO ((u m h2).1 hm) U) (Zp _)
    · subst h2; rw [I] at U; rw [E n h1] at O; cases U
      exact absurd (g.aO ((u n h1).1 hn) O) (Zp _)
    · rw [E n h1] at O; rw [E m h2] at U
      exact g.inj n m b ((u n h1).1 hn) ((u m h2).1 hm) O U
  · intro n m b hn hb ht
    by_cases h1 : n = nm
    · subst h1; rw [I] at hb; cases hb; exact Zp _ (g.aH m _ ht)
    · rw [E n h1] at hb; exact g.aF n m b ((u n h1).1 hn) hb ht
  · intro n b hn hb hs
    by_cases h1 : n = nm
    · subst h1; rw [I] at hb; cases hb; exact Zp _ (g.aJ _ hs)
    · rw [E n h1] at hb; exact g.aG n b ((u n h1).1 hn) hb hs
  · intro n b hb; have := g.aH n b hb; simp; omega
  · intro b hb; have := g.aJ b hb; simp; omega
  · intro n W a1 Z b hq hb
    by_cases h1 : n = nm
    · subst h1
      rw [new] at hq
      obtain ⟨rfl, rfl, rfl⟩ : sz = W /\ es = a1 /\ gr = Z := by simpa using hq
      rw [I] at hb; cases hb
      exact ⟨⟨cells, ty, wD, a5, a6, λi j c hj => let ⟨v, hv, hV⟩ := hV i j c hj; ⟨v, hv, hV.aA k⟩⟩, a4⟩
    · rw [old n h1] at hq; rw [E n h1] at hb
      exact (g.aC n W a1 Z b hq hb).aA k (o_ (g.aO (g.aN hq hb) hb))
  · intro n W a1 Z hq hb
    by_cases h1 : n = nm
    · subst h1; rw [I] at hb; cases hb
    · rw [old n h1] at hq; rw [E n h1] at hb; exact g.aI n W a1 Z hq hb
  · intro n a3
    by_cases h1 : n = nm
    · subst h1; exact absurd a3 hn
    · rw [E n h1]; exact g.aK n a3
theorem gP.aM {G0 w0 G w h}(s:gP G0 w0 G w)(g:fY G w h){nm:Nat}(h0:G0.N <= nm)(hl:G.aA nm=none)(hn:¬G.aE nm)(c:Array Value)(t:TypeId):
  gP G0 w0 (G.aG nm w.heap.size) (w.alloc (.cells c t)) where
 aH:=s.aH.aC (kL.aD w c t)
 aA:=s.aA.aG (g.aY hl hn _)
 S:=s.S
 aF n hlt:=by have:n≠nm:=ω;simp only[Gh.aG,this,XS];exact s.aF n hlt
 aJ:=s.aJ
 aC:=by have:=s.aC;simp;omega
 aE b hb hno:=by rw[o_ (Xj hb s.aC)];exact s.aE b hb hno
 aG b hb:=by
  rcases hb with⟨n,u,he⟩ | ⟨n,ht⟩
  ·by_cases e:n=nm
   ·simp only[Gh.aG,e,Yc,W8]at he;exact .inr (by have:=s.aC;omega)
   ·simp only[Gh.aG,e,XS]at he;exact s.aG b (.inl ⟨n,u.resolve_right e,he⟩)
  ·exact s.aG b (.inr ⟨n,ht⟩)
def Gh.aM (G:Gh)(k:Nat):Gh:=
 {G with N:=G.N+k,aA:=λn=>if n<G.N then G.aA n else none,aE:=λn=>n<G.N /\ G.aE n}
theorem fY.bB {G w h}(g:fY G w h){n}(hn:G.aD n):n<G.N:=by obtain⟨⟨_,_,_,hh⟩,_⟩:=(g.aD n).1 hn;exact g.aP hh
theorem v_ {h:fu}{k n:Nat}{x:fC}:(h++List.replicate k none)[n]?=some (some x)↔h[n]?=some (some x):=by
 rcases YQ n h.length with hl | hl;·rw[Xy hl]
 ·rw[XA hl,XP hl,YR];split<;>simp
theorem fY.bN {G w h} (g : fY G w h) (k : Nat) : fY (G.aM k) w (h ++ List.replicate k none) /\ gP G w (G.aM k) w := by
  have loc : ∀ n, n < G.N -> (G.aM k).aA n = G.aA n := λn hn => by simp [Gh.aM, hn]
  have kp : iB G w (G.aM k) w := ⟨Yy _ _, λn b hn hb => by rw [loc n hn]; exact hb, λn hn hb => ⟨hn, hb⟩, λt b h => by cases t <;> exact h, λ_ _ _ => rfl, λ_ _ => rfl⟩;have e : ∀ n b, G.aD n -> (G.aM k).aA n = some b -> G.aA n = some b := λn b hn hb => by rw [loc n (g.bB hn)] at hb; exact hb
  refine ⟨{ aA := by simp [Gh.aM, g.aA], aD := ?_, aE := ?_, inj := fun n m b hn hm h1 h2 => g.inj n m b hn hm (e n b hn h1) (e m b hm h2),
            aF := λn m b hn hb => g.aF n m b hn (e n b hn hb), aG := λn b hn hb => g.aG n b hn (e n b hn hb), aL := g.aL, aM := g.aM,
            aH := g.aH, aJ := g.aJ, aC := ?_, aI := ?_, aK := ?_ },
    ⟨kp, ⟨λ_ h => h, λ_ h => .inl h⟩, loc, λn hn => ⟨λh => h.2, λh => ⟨hn, h⟩⟩, WX _, λ_ _ _ => rfl, λb hb => ?_, kL.aA w⟩⟩
  · intro n
    constructor
    · intro hn
      obtain ⟨⟨a, b, c, hh⟩, hb⟩ := (g.aD n).1 hn;exact ⟨⟨a, b, c, v_.2 hh⟩, by rw [loc n (g.bB hn)]; exact hb⟩
    · rintro ⟨⟨a, b, c, hh⟩, hb⟩
      have u := v_.1 hh;rw [loc n (g.aP u)] at hb;exact (g.aD n).2 ⟨⟨a, b, c, u⟩, hb⟩
  · intro n b hb; exact v_.2 (g.aE n b hb)
  · intro n sz es gr b hh hb
    have u := v_.1 hh;rw [loc n (g.aP u)] at hb;exact (g.aC n sz es gr b u hb).aA kp rfl
  · intro n sz es gr hh hb
    have u := v_.1 hh;rw [loc n (g.aP u)] at hb;exact g.aI n sz es gr u hb
  · rintro n ⟨hn, hb⟩
    rw [loc n hn]; exact g.aK n hb
  · rcases hb with ⟨n, hn, he⟩ | ⟨n, hn⟩
    · exact .inl (.inl ⟨n, hn, e n b hn he⟩)
    · exact .inl (.inr ⟨n, hn⟩)
def Gh.aP (G:Gh)(nm:Nat):Gh:={G with aD:=λm=>G.aD m \/ m=nm}
theorem fY.bF {G w h nm sz es gr b G' w' h'} (g : fY G w h) (hh : h[nm]? = some (some (.aA sz es gr))) (hb : G.aA nm = some b)
    (s : gP (G.aH nm) w G' w') (g' : fY G' w' h') (hn : h'[nm]? = some none) :
    fY (G'.aP nm) w' (h'.set nm (some (.aA sz es gr))) /\ gP G w (G'.aP nm) w' := by
  have hl := g.aN hh hb
  have a2 := g.aP hh
  have hlt : nm < h'.length := (WR.1 hn).1
  have a4 := g.aO hl hb
  have I : G'.aA nm = some b := by rw [s.aF nm a2]; exact hb
  have O : ¬ (G.aH nm).aI b := by
    rintro (⟨m, hm, he⟩ | ⟨m, hm⟩)
    · exact hm.2 (g.inj m nm b hm.1 hl he hb)
    · exact g.aF nm m b hl hb hm
  have E : ¬ G'.aI b := by
    intro ho
    rcases s.aG b ho with h | h
    · exact O h
    · omega
  have U := s.aE b a4 O
  have kk : iB G' w' (G'.aP nm) w' := ⟨WX _, λ_ _ _ h => h, λ_ _ h => h, λt b h => by cases t <;> exact h, λ_ _ _ => rfl, λ_ _ => rfl⟩
  have new : (h'.set nm (some (.aA sz es gr)))[nm]? = some (some (.aA sz es gr)) := W0 hlt
  have old : ∀ n, n ≠ nm -> (h'.set nm (some (.aA sz es gr)))[n]? = h'[n]? := λn hn => WS (λe => hn e.symm)
  have kG : iB G w (G'.aP nm) w' := ((G.aO w nm).aG s.aA).aG kk
  have hS : ¬ G'.S b := λhs => (s.S.2 b hs).elim (g.aG nm b hl hb) (λh => absurd a4 (Nat.not_lt.2 h))
  have hT : ∀ m, ¬ G'.aF m b := λm ht => E (.inr ⟨m, ht⟩)
  have a5 : ∀ m, G'.aD m -> G'.aA m ≠ some b := λm hm he => E (.inl ⟨m, hm, he⟩)
  refine ⟨{ aA := by simp [Gh.aP, g'.aA], aD := ?_, aE := ?_, inj := ?_, aF := ?_, aG := ?_, aL := g'.aL, aM := g'.aM, aH := g'.aH, aJ := g'.aJ,
            aC := ?_, aI := ?_, aK := g'.aK },
    ⟨kG, s.S, s.aF, s.aJ, s.aC, λx hx ho => s.aE x hx (λhk => ho ?_), λx hx => ?_, s.aH⟩⟩
  · intro n
    by_cases e : n = nm
    · subst e; exact ⟨λ_ => ⟨⟨_, _, _, new⟩, _, I⟩, λ_ => .inr rfl⟩
    · rw [old n e]; exact ⟨λh => (g'.aD n).1 (h.resolve_right e), λh => .inl ((g'.aD n).2 h)⟩
  · intro n x hx
    have e : n ≠ nm := by rintro rfl; rw [g'.aE _ _ hx] at hn; cases hn
    rw [old n e]; exact g'.aE n x hx
  · intro n m x hn hm h1 h2
    by_cases e1 : n = nm <;> by_cases e2 : m = nm
    · rw [e1, e2]
    · subst e1; have u : some b = some x := I.symm.trans h1
      cases u; exact absurd h2 (a5 m (hm.resolve_right e2))
    · subst e2; have a6 : some b = some x := I.symm.trans h2
      cases a6; exact absurd h1 (a5 n (hn.resolve_right e1))
    · exact g'.inj n m x (hn.resolve_right e1) (hm.resolve_right e2) h1 h2
  · intro n m x hn h1 ht
    by_cases e1 : n = nm
    · subst e1; have u : some b = some x := I.symm.trans h1
      cases u; exact hT m ht
    · exact g'.aF n m x (hn.resolve_right e1) h1 ht
  · intro n x hn h1 hs
    by_cases e1 : n = nm
    · subst e1; have u : some b = some x := I.symm.trans h1
      cases u; exact hS hs
    · exact g'.aG n x (hn.resolve_right e1) h1 hs
  · intro n W a1 Z x hq h1
    by_cases e1 : n = nm
    · subst e1
      rw [new] at hq
      obtain ⟨rfl, rfl, rfl⟩ : sz = W /\ es = a1 /\ gr = Z := by simpa using hq
      have u : some b = some x := I.symm.trans h1
      cases u
      exact (g.aC n sz es gr b hh hb).aA kG U
    · rw [old n e1] at hq
      exact (g'.aC n W a1 Z x hq h1).aA kk rfl
  · intro n W a1 Z hq h1
    by_cases e1 : n = nm
    · subst e1; have u : none = some b := h1.symm.trans I
      cases u
    · rw [old n e1] at hq; exact g'.aI n W a1 Z hq h1
  · rcases hk with ⟨m, hm, he⟩ | ⟨m, hm⟩
    · exact .inl ⟨m, hm.1, he⟩
    · exact .inr ⟨m, hm⟩
  · rcases hx with ⟨m, hm, he⟩ | ⟨m, hm⟩
    · by_cases e : m = nm
      · subst e; have u : some b = some x := I.symm.trans he
        cases u; exact .inl (.inl ⟨m, hl, hb⟩)
      · rcases s.aG x (.inl ⟨m, hm.resolve_right e, he⟩) with h | h
        · rcases h with ⟨q, hq, a3⟩ | ⟨q, hq⟩
          · exact .inl (.inl ⟨q, hq.1, a3⟩)
          · exact .inl (.inr ⟨q, hq⟩)
        · exact .inr h
    · rcases s.aG x (.inr ⟨m, hm⟩) with h | h
      · rcases h with ⟨q, hq, a3⟩ | ⟨q, hq⟩
        · exact .inl (.inl ⟨q, hq.1, a3⟩)
        · exact .inl (.inr ⟨q, hq⟩)
      · exact .inr h
end Glb
