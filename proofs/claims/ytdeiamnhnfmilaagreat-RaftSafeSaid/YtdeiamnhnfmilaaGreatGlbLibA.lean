/-
  A library of its own.
-/
import Derived.Calls
import Derived.RowKit3
import Derived.Laws.World
import Derived.Laws.Sem
import Derived.Laws.StructEq
import Derived.Laws.Pointers
import Derived.Laws.Entries
import Derived.Laws.Cells
import Derived.Laws.Small
import Derived.ChangeKeysEq
import Derived.Laws.CopyRow
import Derived.WalkSpells
import Derived.Tactics
import Derived.Orders
set_option linter.unusedSimpArgs false
set_option linter.unusedVariables false
/-
 A library of its own,for whatever program: what an abstract value says of a value in memory,and that it stays said.
-/
namespace Glb
open Go
theorem UY:type_of% @List.getElem?_eq_some_iff:=@List.getElem?_eq_some_iff
theorem UZ:type_of% @List.getElem?_set_ne:=@List.getElem?_set_ne
theorem U0:type_of% @List.getElem?_eq_getElem:=@List.getElem?_eq_getElem
theorem U1:type_of% @List.length_append:=@List.length_append
theorem U2:type_of% @decide_eq_false:=@decide_eq_false
theorem U3:type_of% @decide_eq_true:=@decide_eq_true
theorem U4:type_of% @if_pos:=@if_pos
theorem U5:type_of% @List.getElem?_set_self:=@List.getElem?_set_self
theorem U6:type_of% @if_neg:=@if_neg
theorem U7:type_of% @List.eq_nil_of_length_eq_zero:=@List.eq_nil_of_length_eq_zero
theorem U8:type_of% @Nat.le_refl:=@Nat.le_refl
theorem U9:type_of% @List.length_set:=@List.length_set
theorem U_:type_of% @Option.some.injEq:=@Option.some.injEq
theorem Va:type_of% @List.length_take:=@List.length_take
theorem Vb:type_of% @Classical.byContradiction:=@Classical.byContradiction
theorem Vc:type_of% @Eq.trans:=@Eq.trans
theorem Vd:type_of% @trivial:=@trivial
theorem Ve:type_of% @List.length_nil:=@List.length_nil
theorem Vf:type_of% @List.length_cons:=@List.length_cons
theorem Vg:type_of% @List.length_map:=@List.length_map
theorem Vh:type_of% @Nat.le_trans:=@Nat.le_trans
theorem Vi:type_of% @Int.le_refl:=@Int.le_refl
theorem Vj:type_of% @Nat.lt_of_lt_of_le:=@Nat.lt_of_lt_of_le
theorem Vk:type_of% @Nat.zero_le:=@Nat.zero_le
theorem Vl:type_of% @Option.map_eq_some_iff:=@Option.map_eq_some_iff
theorem Vm:type_of% @eq_false:=@eq_false
theorem Vn:type_of% @Bool.false_eq_true:=@Bool.false_eq_true
theorem Vo:type_of% @List.length_drop:=@List.length_drop
theorem Vp:type_of% @List.getElem?_append_right:=@List.getElem?_append_right
theorem Vq:type_of% @Bool.and_eq_true:=@Bool.and_eq_true
theorem Vr:type_of% @List.append_assoc:=@List.append_assoc
theorem Vs:type_of% @List.take_of_length_le:=@List.take_of_length_le
theorem Vt:type_of% @List.getElem?_drop:=@List.getElem?_drop
theorem Vu:type_of% @Option.getD_some:=@Option.getD_some
theorem Vv:type_of% @List.map_cons:=@List.map_cons
theorem Vw:type_of% @List.getElem?_cons_zero:=@List.getElem?_cons_zero
theorem Vx:type_of% @List.getElem_mem:=@List.getElem_mem
theorem Vy:type_of% @List.getElem?_append_left:=@List.getElem?_append_left
theorem Vz:type_of% @List.take_append_of_le_length:=@List.take_append_of_le_length
theorem VA:type_of% @List.take_succ_eq_append_getElem:=@List.take_succ_eq_append_getElem
theorem VB:type_of% @List.take_length:=@List.take_length
theorem VC:type_of% @List.mem_of_mem_drop:=@List.mem_of_mem_drop
theorem VD:type_of% @decide_eq_true_eq:=@decide_eq_true_eq
theorem VE:type_of% @List.getElem?_map:=@List.getElem?_map
theorem VF:type_of% @Bool.not_true:=@Bool.not_true
theorem VG:type_of% @List.take_take:=@List.take_take
theorem VH:type_of% @List.getElem?_eq_none:=@List.getElem?_eq_none
theorem VI:type_of% @if_false:=@if_false
theorem VJ:type_of% @List.map_append:=@List.map_append
theorem VK:type_of% @List.mem_append:=@List.mem_append
theorem VM:type_of% @List.ext_getElem?:=@List.ext_getElem?
theorem VN:type_of% @Bool.not_false:=@Bool.not_false
theorem VO:type_of% @List.map_nil:=@List.map_nil
theorem VP:type_of% @List.mem_cons:=@List.mem_cons
theorem VQ:type_of% @List.getElem?_take_of_lt:=@List.getElem?_take_of_lt
theorem VR:type_of% @List.mem_of_mem_take:=@List.mem_of_mem_take
theorem VS:type_of% @if_true:=@if_true
theorem VT:type_of% @Nat.min_eq_left:=@Nat.min_eq_left
theorem VU:type_of% @Nat.mul_le_mul_right:=@Nat.mul_le_mul_right
theorem VV:type_of% @List.getElem?_toArray:=@List.getElem?_toArray
theorem VW:type_of% @List.length_singleton:=@List.length_singleton
theorem VX:type_of% @List.set_set:=@List.set_set
theorem VY:type_of% @List.append_nil:=@List.append_nil
theorem VZ:type_of% @List.getElem?_take:=@List.getElem?_take
theorem V0:type_of% @Option.getD_none:=@Option.getD_none
theorem V3:type_of% @Nat.le_of_ble_eq_true:=@Nat.le_of_ble_eq_true
theorem V4:type_of% @Int.toNat_natCast:=@Int.toNat_natCast
theorem V5:type_of% @Prod.mk.injEq:=@Prod.mk.injEq
theorem V6:type_of% @Nat.le_add_right:=@Nat.le_add_right
theorem V7:type_of% @decide_eq_false_iff_not:=@decide_eq_false_iff_not
theorem V8:type_of% @List.getElem?_cons_succ:=@List.getElem?_cons_succ
theorem V9:type_of% @List.drop_zero:=@List.drop_zero
theorem V_:type_of% @List.getElem?_append:=@List.getElem?_append
theorem Wa:type_of% @Nat.add_sub_cancel_left:=@Nat.add_sub_cancel_left
theorem Wb:type_of% @List.prefix_refl:=@List.prefix_refl
theorem Wc:type_of% @List.cons.injEq:=@List.cons.injEq
theorem Wd:type_of% @List.nil_append:=@List.nil_append
theorem We:type_of% @Bool.or_eq_true:=@Bool.or_eq_true
theorem Wf:type_of% @Array.getElem?_eq_some_iff:=@Array.getElem?_eq_some_iff
theorem Wg:type_of% @List.drop_append_of_le_length:=@List.drop_append_of_le_length
theorem Wh:type_of% @List.drop_eq_getElem_cons:=@List.drop_eq_getElem_cons
theorem Wi:type_of% @Option.bind_some:=@Option.bind_some
theorem Wj:type_of% @Bool.or_eq_false_iff:=@Bool.or_eq_false_iff
theorem Wl:type_of% @List.getElem?_set:=@List.getElem?_set
theorem Wm:type_of% @List.getElem_take:=@List.getElem_take
theorem Wn:type_of% @List.getElem_append_left:=@List.getElem_append_left
theorem Wo:type_of% @List.length_replicate:=@List.length_replicate
theorem Wp:type_of% @List.take_append_drop:=@List.take_append_drop
theorem Wq:type_of% @decide_false:=@decide_false
theorem Wr:type_of% @List.mem_map:=@List.mem_map
theorem Ws:type_of% @Option.map_some:=@Option.map_some
theorem Wt:type_of% @List.all_eq_true:=@List.all_eq_true
theorem Wu:type_of% @Array.eq_empty_of_size_eq_zero:=@Array.eq_empty_of_size_eq_zero
theorem Wv:type_of% @List.map_take:=@List.map_take
theorem Ww:type_of% @List.getElem_append_right:=@List.getElem_append_right
theorem Wx:type_of% @List.pairwise_cons:=@List.pairwise_cons
theorem Wy:type_of% @List.getElem_cons_zero:=@List.getElem_cons_zero
theorem Wz:type_of% @List.length_filter_le:=@List.length_filter_le
theorem WA:type_of% @Iff.rfl:=@Iff.rfl
theorem WB:type_of% @Nat.lt_or_ge:=@Nat.lt_or_ge
theorem WC:type_of% @List.getElem?_replicate:=@List.getElem?_replicate
theorem WD:type_of% @Array.getElem?_setIfInBounds_ne:=@Array.getElem?_setIfInBounds_ne
theorem WE:type_of% @List.prefix_of_prefix_length_le:=@List.prefix_of_prefix_length_le
theorem WG:type_of% @Nat.add_assoc:=@Nat.add_assoc
theorem WH:type_of% @List.take_prefix:=@List.take_prefix
theorem WI:type_of% @Nat.add_mul:=@Nat.add_mul
theorem WJ:type_of% @List.getElem_set_self:=@List.getElem_set_self
theorem WK:type_of% @Nat.add_zero:=@Nat.add_zero
theorem WL:type_of% @Option.isNone_some:=@Option.isNone_some
theorem WM:type_of% @List.cons_append:=@List.cons_append
theorem WN:type_of% @List.mem_of_getElem?:=@List.mem_of_getElem?
theorem WO:type_of% @List.getElem?_modify:=@List.getElem?_modify
theorem WQ:type_of% @Nat.le_succ:=@Nat.le_succ
theorem WR:type_of% @Nat.zero_add:=@Nat.zero_add
theorem WS:type_of% @Nat.ne_of_lt:=@Nat.ne_of_lt
theorem WT:type_of% @List.drop_eq_nil_of_le:=@List.drop_eq_nil_of_le
theorem WU:type_of% @List.take_succ_cons:=@List.take_succ_cons
theorem WV:type_of% @List.mem_filter:=@List.mem_filter
theorem WW:type_of% @List.pairwise_iff_getElem:=@List.pairwise_iff_getElem
theorem WX:type_of% @Array.getElem?_append:=@Array.getElem?_append
theorem WY:type_of% @Array.getElem?_modify:=@Array.getElem?_modify
theorem WZ:type_of% @List.set_getElem_self:=@List.set_getElem_self
theorem W0:type_of% @List.set_append_right:=@List.set_append_right
theorem W4:type_of% @List.map_drop:=@List.map_drop
theorem W5:type_of% @Option.isSome_iff_exists:=@Option.isSome_iff_exists
theorem W6:type_of% @Nat.min_self:=@Nat.min_self
theorem W7:type_of% @Int.le_trans:=@Int.le_trans
theorem W8:type_of% @List.foldl_cons:=@List.foldl_cons
theorem W9:type_of% @List.length_pos_iff:=@List.length_pos_iff
theorem W_:type_of% @congrArg:=@congrArg
theorem Xb:type_of% @Nat.lt_irrefl:=@Nat.lt_irrefl
theorem Xc:type_of% @List.any_eq_true:=@List.any_eq_true
theorem Xd:type_of% @List.drop_length:=@List.drop_length
theorem Xe:type_of% @Int.natCast_zero:=@Int.natCast_zero
theorem Xf:type_of% @List.nodup_cons:=@List.nodup_cons
theorem Xg:type_of% @Bool.not_eq_true':=@Bool.not_eq_true'
theorem Xh:type_of% @List.mem_iff_getElem:=@List.mem_iff_getElem
theorem Xi:type_of% @List.map_set:=@List.map_set
theorem Xj:type_of% @List.flatMap_cons:=@List.flatMap_cons
theorem Xk:type_of% @List.length_take_le:=@List.length_take_le
theorem Xl:type_of% @List.filter_cons:=@List.filter_cons
theorem Xm:type_of% @List.map_toArray:=@List.map_toArray
theorem Xn:type_of% @Bool.not_eq_true:=@Bool.not_eq_true
theorem Xo:type_of% @Bool.or_true:=@Bool.or_true
theorem Xp:type_of% @Nat.sub_self:=@Nat.sub_self
theorem Xq:type_of% @List.take_left':=@List.take_left'
theorem Xr:type_of% @Option.some.inj:=@Option.some.inj
theorem Xs:type_of% @Bool.true_and:=@Bool.true_and
/-- abstract values -/
inductive AV where
 | aR
 | aE (b:Bool)
 | aA (k:IntKind) (n:Int)
 | aQ (s:ByteArray)
 | aN (v:Value)
 | aD
 | aC (n sz i o:Nat)
 | aO (t:Nat) (cs:List AV)
 | aG (n sz off len:Nat) (cap:Option Nat)
 | aM (t:Nat) (clip:Bool) (sz:Nat) (es:List (List AV))
 | aF (cs:List AV)
 | aI (cs:List AV)
 | aK (f:FuncId) (fs cs:List AV)
 | aT (t:TypeId) (v:AV)
 deriving Inhabited
/-- what lies in one cell -/
def AV.aH:AV → Bool
 | .aR | .aF _ | .aI _=>false
 | .aN v=>v.oneCell'
 | _=>true
/-- elements of one size,each cell of them one value -/
def jy (sz:Nat)(es:List (List AV)):Prop:=∀e∈es,e.length=sz ∧ e.all AV.aH=true
/-- abstract blocks -/
inductive e_ where
 | aA (sz:Nat) (es:List (List AV)) (grow:Bool)
 | aC
 deriving Inhabited
abbrev eX:=List (Option e_)
structure Gh where
 N:Nat
 aA:Nat → Option Nat
 aE:Nat → Prop
 aD:Nat → Prop
 aF:Nat → Nat → Prop
 S:Nat → Prop
def Gh.aL (G:Gh):Nat → Nat → Prop
 | 0,b=>G.S b
 | n+1,b=>G.aF n b
def Gh.aI (G:Gh)(b:Nat):Prop:=(∃n,G.aD n ∧ G.aA n=some b) ∨ ∃n,G.aF n b
def gw (es:List (List AV))(i j:Nat):Option AV:=es[i]?.bind (·[j]?)
inductive V (G:Gh) (w:World):AV → Value → Prop
 | aI (v):V G w .aR v
 | aG (b):V G w (.aE b) (.bool b)
 | aD (k n):V G w (.aA k n) (.int k n)
 | aQ (s):V G w (.aQ s) (.string s)
 | aP (v):V G w (.aN v) v
 | aO:V G w .aD (.slice none 0 0)
 | aL (n sz i o b:Nat):n<G.N → G.aA n=some b → V G w (.aC n sz i o) (.pointer (some ⟨b,i*sz+o,none⟩))
 | aN (t:Nat) (cs:List AV) (b off:Nat) (f:Nat → Value):G.aL t b → (∀(j:Nat)(c:AV),cs[j]?=some c → w.cell? ⟨b,off+j,none⟩=some (f j)) →
   (∀(j:Nat)(c:AV),cs[j]?=some c → V G w c (f j)) → V G w (.aO t cs) (.pointer (some ⟨b,off,none⟩))
 | aC (n sz off len:Nat) (cap:Option Nat) (c:Nat) (ty:TypeId) (m b:Nat):n<G.N → G.aA n=some b → len ≤ c → (∀k,cap=some k → c=k) →
   w.shape? b=some (ty,m) → (off+c)*sz ≤ m → V G w (.aG n sz off len cap) (.slice (some ⟨b,off*sz,none⟩) len c)
 | aH (n sz:Nat) (cap:Option Nat):n<G.N → G.aE n → (∀k,cap=some k → k=0) → V G w (.aG n sz 0 0 cap) (.slice none 0 0)
 | aE (t:Nat) (clip:Bool) (sz:Nat) (es:List (List AV)) (a:Addr) (cap:Nat) (f:Nat → Nat → Value):es.length ≤ cap → (clip=true → cap=es.length) → (cap≠0 → a.spot=none) →
   (es≠[] → G.aL t a.block) → jy sz es →
   (∀i j c,gw es i j=some c → w.cell? ⟨a.block,a.off+(i*sz+j),none⟩=some (f i j)) →
   (∀i j c,gw es i j=some c → V G w c (f i j)) → V G w (.aM t clip sz es) (.slice (some a) es.length cap)
 | aF (t clip sz):V G w (.aM t clip sz []) (.slice none 0 0)
 | aJ (cs:List AV) (vs:Array Value):cs.length=vs.size → (∀(j:Nat)(c:AV)(v:Value),cs[j]?=some c → vs[j]?=some v → V G w c v) → V G w (.aF cs) (.agg vs)
 | aM (cs:List AV) (vs:Array Value):cs.length=vs.size → (∀(j:Nat)(c:AV)(v:Value),cs[j]?=some c → vs[j]?=some v → V G w c v) → V G w (.aI cs) (.tuple vs)
 | aK (f:FuncId) (fs:List AV) (us:Array Value) (cs:List AV) (vs:Array Value):fs.length=us.size → (∀(j:Nat)(c:AV)(v:Value),fs[j]?=some c → us[j]?=some v → V G w c v) →
   cs.length=vs.size → (∀(j:Nat)(c:AV)(v:Value),cs[j]?=some c → vs[j]?=some v → V G w c v) → V G w (.aK f fs cs) (.func (.func f) us vs)
 | aR (t c v):V G w c v → V G w (.aT t c) (.iface t v)
/-- what must hold of two states so that whatever was said stays said -/
structure ic (G:Gh)(w:World)(G':Gh)(w':World):Prop where
 N:G.N ≤ G'.N
 aA:∀n b,n<G.N → G.aA n=some b → G'.aA n=some b
 aF:∀n,n<G.N → G.aE n → G'.aE n
 aC:∀t b,G.aL t b → G'.aL t b
 aD:∀t b,G.aL t b → w'.heap[b]?=w.heap[b]?
 aE:∀b,(w.shape? b).isSome → w'.shape? b=w.shape? b
theorem FQ {w w':World}{a:Addr} (h:w'.heap[a.block]?=w.heap[a.block]?):w'.cell? a=w.cell? a:=by simp only[World.cell?,h]
theorem V.aA {G w G' w' av v}(k:ic G w G' w')(h:V G w av v):V G' w' av v:=by
 induction h with
 | aI v=>exact .aI v
 | aG b=>exact .aG b
 | aD k n=>exact .aD k n
 | aQ s=>exact .aQ s
 | aP v=>exact .aP v
 | aO=>exact .aO
 | aL n sz i o b hn hb=>exact .aL n sz i o b (Vj hn k.N) (k.aA n b hn hb)
 | aN t cs b off f hp hc _ ih=>exact .aN t cs b off f (k.aC _ _ hp) (λj c hj=>by rw[FQ (a:=⟨b,off+j,none⟩) (k.aD _ _ hp)];exact hc j c hj) ih
 | aC n sz off len cap c ty m b hn hb hl hcap hs hm=>exact .aC n sz off len cap c ty m b (Vj hn k.N) (k.aA n b hn hb) hl hcap (by rw[k.aE _ (by simp[hs]),hs]) hm
 | aH n sz cap hn hb hc=>exact .aH n sz cap (Vj hn k.N) (k.aF n hn hb) hc
 | aE t clip sz es a cap f hl hcl hsp hp hes hc _ ih=>
  refine .aE t clip sz es a cap f hl hcl hsp (λh=>k.aC _ _ (hp h)) hes (λi j c hj=>?_) ih;have e:es≠[]:=by rintro rfl;simp[gw]at hj
  rw[FQ (a:=⟨a.block,a.off+(i*sz+j),none⟩) (k.aD _ _ (hp e))];exact hc i j c hj
 | aF t clip sz=>exact .aF t clip sz
 | aJ cs vs hl _ ih=>exact .aJ cs vs hl ih
 | aM cs vs hl _ ih=>exact .aM cs vs hl ih
 | aK f fs us cs vs hl _ hl' _ ih ih'=>exact .aK f fs us cs vs hl ih hl' ih'
 | aR t c v _ ih=>exact .aR t c v ih
/-- a block's cells read az its elements -/
structure kL (G:Gh)(w:World)(b:Nat)(sz:Nat)(es:List (List AV))(grow:Bool):Prop where
 ex:∃cells ty,w.heap[b]?=some (.cells cells ty (0,0)) ∧ es.length*sz ≤ cells.size ∧ (grow=false → cells.size=es.length*sz) ∧
  ∀i j c,gw es i j=some c → ∃v,cells[i*sz+j]?=some v ∧ V G w c v
 sz:jy sz es
structure fO (G:Gh)(w:World)(h:eX):Prop where
 aA:h.length=G.N
 aD:∀n,G.aD n↔(∃sz es g,h[n]?=some (some (.aA sz es g))) ∧ ∃b,G.aA n=some b
 aE:∀n b,G.aF n b → h[n]?=some (some .aC)
 inj:∀n m b,G.aD n → G.aD m → G.aA n=some b → G.aA m=some b → n=m
 aF:∀n m b,G.aD n → G.aA n=some b → ¬G.aF m b
 aG:∀n b,G.aD n → G.aA n=some b → ¬G.S b
 aL:∀n m b,G.aF n b → G.aF m b → n=m
 aM:∀n b,G.aF n b → ¬G.S b
 aH:∀n b,G.aF n b → b<w.heap.size
 aJ:∀b,G.S b → b<w.heap.size
 aC:∀n sz es g b,h[n]?=some (some (.aA sz es g)) → G.aA n=some b → kL G w b sz es g
 aI:∀n sz es g,h[n]?=some (some (.aA sz es g)) → G.aA n=none → es=[]
 aK:∀n,G.aE n → G.aA n=none
theorem fO.aP {G w h}(g:fO G w h){n x} (hn:h[n]?=some x):n<G.N:=by rw[← g.aA];exact (UY.1 hn).1
theorem fO.aN {G w h}(g:fO G w h){n sz es gr b} (hn:h[n]?=some (some (.aA sz es gr))) (hb:G.aA n=some b):G.aD n:=
 (g.aD n).2 ⟨⟨_,_,_,hn⟩,b,hb⟩
theorem fO.aO {G w h}(g:fO G w h){n b}(hn:G.aD n)(hb:G.aA n=some b):b<w.heap.size:=by obtain⟨⟨sz,es,gr,hh⟩,_⟩:=(g.aD n).1 hn;obtain⟨cells,ty,hc,_⟩:=(g.aC n sz es gr b hh hb).ex;exact (Wf.1 hc).1
theorem fO.bJ {G w h}(g:fO G w h){b}(hb:G.aI b):b<w.heap.size:=by
 rcases hb with⟨n,hn,hl⟩ | ⟨n,hn⟩;·exact g.aO hn hl
 ·exact g.aH n b hn
/-- what lies beside the cells stays -/
def jV (w w':World):Prop:=w'.os=w.os ∧ w'.output=w.output ∧ w.heap.size ≤ w'.heap.size ∧ ∀a,a.block<w.heap.size → w'.frozen? a=w.frozen? a
theorem jV.aA (w):jV w w:=⟨rfl,rfl,U8 _,λ_ _=>rfl⟩
theorem jV.aC {w w1 w2}(a:jV w w1)(b:jV w1 w2):jV w w2:=⟨b.1.trans a.1,b.2.1.trans a.2.1,Vh a.2.2.1 b.2.2.1,λx hx=>(b.2.2.2 x (Vj hx a.2.2.1)).trans (a.2.2.2 x hx)⟩
theorem jV.aD (w:World)(c:Array Value)(t:TypeId):jV w (w.alloc (.cells c t)):=⟨rfl,rfl,by simp,λa _=>Go.RowKit.frozen?_alloc_cells w c t a⟩
theorem jV.aE (w:World)(a:Addr)(v:Value):jV w (w.setCell a v):=⟨rfl,rfl,by simp,λ_ _=>World.frozen?_setCell _ _ _ _⟩
/-- one step,or many: nothing that is not ours has changed,and all that was said stays said -/
structure gI (G:Gh)(w:World)(G':Gh)(w':World):Prop where
 aA:ic G w G' w'
 S:(∀b,G.S b → G'.S b) ∧ ∀b,G'.S b → G.S b ∨ w.heap.size ≤ b
 aF:∀n,n<G.N → G'.aA n=G.aA n
 aJ:∀n,n<G.N → (G'.aE n↔G.aE n)
 aC:w.heap.size ≤ w'.heap.size
 aE:∀b,b<w.heap.size → ¬G.aI b → w'.heap[b]?=w.heap[b]?
 aG:∀b,G'.aI b → G.aI b ∨ w.heap.size ≤ b
 aH:jV w w'
theorem ic.aI (G w):ic G w G w:=⟨U8 _,λ_ _ _ h=>h,λ_ _ h=>h,λ_ _ h=>h,λ_ _ _=>rfl,λ_ _=>rfl⟩
theorem ic.aG {G w G1 w1 G2 w2}(a:ic G w G1 w1)(b:ic G1 w1 G2 w2):ic G w G2 w2 where
 N:=Vh a.N b.N
 aA n x h e:=b.aA n x (Vj h a.N) (a.aA n x h e)
 aF n h e:=b.aF n (Vj h a.N) (a.aF n h e)
 aC t x h:=b.aC t x (a.aC t x h)
 aD t x h:=by rw[b.aD t x (a.aC t x h),a.aD t x h]
 aE x h:=by rw[b.aE x (by rw[a.aE x h];exact h),a.aE x h]
theorem gI.aD (G w):gI G w G w:=⟨ic.aI G w,⟨λ_ h=>h,λ_ h=>.inl h⟩,λ_ _=>rfl,λ_ _=>WA,U8 _,λ_ _ _=>rfl,λ_ h=>.inl h,jV.aA w⟩
theorem gI.aI {G w G1 w1 G2 w2}(a:gI G w G1 w1)(b:gI G1 w1 G2 w2):gI G w G2 w2 where
 aA:=a.aA.aG b.aA
 S:=⟨λx h=>b.S.1 x (a.S.1 x h),λx h=>(b.S.2 x h).elim (a.S.2 x) (λh=>.inr (Vh a.aC h))⟩
 aF n h:=by rw[b.aF n (Vj h a.aA.N),a.aF n h]
 aJ n h:=(b.aJ n (Vj h a.aA.N)).trans (a.aJ n h)
 aC:=Vh a.aC b.aC
 aE x hx hn:=by
  rw[b.aE x (Vj hx a.aC) ?_,a.aE x hx hn];intro ho;rcases a.aG x ho with h | h;·exact hn h
  ·omega
 aG x hx:=by
  rcases b.aG x hx with h | h;·exact a.aG x h
  ·exact .inr (Vh a.aC h)
 aH:=a.aH.aC b.aH
/-- a draw changes nothing -/
theorem gI.aK (G w)(n:Nat):gI G w G {w with drawn:=n}:=
 ⟨⟨U8 _,λ_ _ _ h=>h,λ_ _ h=>h,λ_ _ h=>h,λ_ _ _=>rfl,λ_ _=>rfl⟩,⟨λ_ h=>h,λ_ h=>.inl h⟩,λ_ _=>rfl,λ_ _=>WA,U8 _,λ_ _ _=>rfl,λ_ h=>.inl h,rfl,rfl,U8 _,λ_ _=>rfl⟩
theorem kL.aA {G w G' w' b sz es gr}(k:ic G w G' w') (hb:w'.heap[b]?=w.heap[b]?) (h:kL G w b sz es gr):kL G' w' b sz es gr:=by obtain⟨⟨cells,ty,hc,h1,h2,h3⟩,hs⟩:=h;exact⟨⟨cells,ty,hb▸hc,h1,h2,λi j c hj=>let⟨v,hv,hV⟩:=h3 i j c hj;⟨v,hv,hV.aA k⟩⟩,hs⟩
/-- a state with the same heap -/
theorem fO.aT {G w h w'} (g : fO G w h) (hh : w'.heap = w.heap) : fO G w' h := by
  have k : ic G w G w' := ⟨U8 _, λ_ _ _ h => h, λ_ _ h => h, λ_ _ h => h, λ_ _ _ => by rw [hh], λ_ _ => by simp only [World.shape?, hh]⟩
  exact { aA := g.aA, aD := g.aD, aE := g.aE, inj := g.inj, aF := g.aF, aG := g.aG, aL := g.aL, aM := g.aM,
          aH := λn b hb => by rw [hh]; exact g.aH n b hb, aJ := λb hb => by rw [hh]; exact g.aJ b hb,
          aC := λn sz es gr b hn hb => (g.aC n sz es gr b hn hb).aA k (by rw [hh]), aI := g.aI, aK := g.aK }
/-! a new block -/
def Gh.aC (G:Gh)(ob:Option Nat):Gh:=
 {G with N:=G.N+1,aA:=λn=>if n=G.N then ob else G.aA n,aE:=λn=>if n=G.N then ob=none else G.aE n,aD:=λn=>G.aD n ∨ (n=G.N ∧ ob.isSome)}
theorem Dj {w:World}{o:Obj}{b:Nat}(h:(w.shape? b).isSome):(w.alloc o).shape? b=w.shape? b:=by
 have hb:b<w.heap.size:=by apply Vb;intro hn;simp only[World.shape?,Array.getElem?_eq_none (Nat.le_of_not_lt hn)]at h;exact absurd h (by simp)
 simp only[World.shape?,World.alloc,Array.getElem?_push,WS hb,VI]
theorem nX {w:World}{o:Obj}{b:Nat}(hb:b<w.heap.size):(w.alloc o).heap[b]?=w.heap[b]?:=by simp only[World.alloc,Array.getElem?_push,WS hb,VI]
theorem uZ {w:World}{o:Obj}:(w.alloc o).heap[w.heap.size]?=some o:=by show (w.heap.push o)[w.heap.size]?=some o;simp
theorem fO.bH {G w h}(g:fO G w h):¬G.aD G.N:=by intro hl;obtain⟨⟨sz,es,gr,hh⟩,_⟩:=(g.aD _).1 hl;exact Xb _ (g.aP hh)
theorem fO.bI {G w h}(g:fO G w h)(b):¬G.aF G.N b:=by intro ht;have:=(UY.1 (g.aE _ _ ht)).1;rw[g.aA]at this;exact Xb _ this
theorem fO.aQ {G w h}(g:fO G w h){t b}(hp:G.aL t b):b<w.heap.size:=by
 cases t with
 | zero=>exact g.aJ b hp
 | succ n=>exact g.aH n b hp
theorem fO.bt {G w h}(g:fO G w h)(ob:Option Nat):ic G w (G.aC ob) w where
 N:=WQ _
 aA n b hn hb:=by simp only[Gh.aC,WS hn,VI];exact hb
 aF n hn hb:=by simp only[Gh.aC,WS hn,VI];exact hb
 aC t b hp:=by cases t<;>exact hp
 aD t b hp:=rfl
 aE b hb:=rfl
theorem fO.aX {G w h}(g:fO G w h)(o:Obj):ic G w (G.aC (some w.heap.size)) (w.alloc o) where
 N:=WQ _
 aA n b hn hb:=by simp only[Gh.aC,WS hn,VI];exact hb
 aF n hn hb:=by simp only[Gh.aC,WS hn,VI];exact hb
 aC t b hp:=by cases t<;>exact hp
 aD t b hp:=nX (g.aQ hp)
 aE b hb:=Dj hb
theorem fO.bA {G w h}(g:fO G w h)(c:Array Value)(t:TypeId):gI G w (G.aC (some w.heap.size)) (w.alloc (.cells c t)) where
 aH:=jV.aD w c t
 aA:=g.aX _
 S:=⟨λ_ h=>h,λ_ h=>.inl h⟩
 aF n hn:=by simp only[Gh.aC,WS hn,VI]
 aJ n hn:=by simp only[Gh.aC,WS hn,VI]
 aC:=by simp
 aE b hb _:=nX hb
 aG b hb:=by
  rcases hb with⟨n,hn,he⟩ | ⟨n,hn⟩
  ·by_cases h:n=G.N
   ·simp only[Gh.aC,h,VS,U_]at he;exact .inr (by omega)
   ·simp only[Gh.aC,h,VI]at he;exact .inl (.inl ⟨n,hn.resolve_right (λx=>h x.1),he⟩)
  ·exact .inl (.inr ⟨n,hn⟩)
theorem Kl {G w h}(g:fO G w h)(y:Option e_){n}{x:Option e_}(hn:n≠G.N):(h++[y])[n]?=some x↔h[n]?=some x:=by
 rw[← g.aA]at hn;rcases WB n h.length with hl | hl;·rw[Vy hl]
 ·have:h.length<n:=by omega
  rw[VH (by simp;omega),VH hl]
theorem Kk {G w h}(g:fO G w h)(y:Option e_):(h++[y])[G.N]?=some y:=by rw[← g.aA];simp
/-- a new name for a row of cells: 'ob': where it lies (a new block,or one that nobody owns),or nil -/
theorem fO.aW {G w h} (g : fO G w h) {ob : Option Nat} {w' : World} {sz : Nat} {es : List (List AV)} {gr : Bool}
    (k : ic G w (G.aC ob) w') (hsize : w.heap.size ≤ w'.heap.size) (hother : ∀ n b, G.aD n → G.aA n = some b → w'.heap[b]? = w.heap[b]?)
    (hfree : ∀ b, ob = some b → (∀ n, G.aD n → G.aA n ≠ some b) ∧ (∀ n, ¬ G.aF n b) ∧ ¬ G.S b)
    (hH : ∀ b, ob = some b → kL (G.aC ob) w' b sz es gr) (hnil : ob = none → es = []) :
    fO (G.aC ob) w' (h ++ [some (.aA sz es gr)]) := by
  have new := Kk g (some (e_.aA sz es gr))
  have old := λn x (hn : n ≠ G.N) => Kl g (some (e_.aA sz es gr)) (n := n) (x := x) hn
  have locN : (G.aC ob).aA G.N = ob := by simp [Gh.aC]
  have locO : ∀ n, n ≠ G.N → (G.aC ob).aA n = G.aA n := λn hn => by simp [Gh.aC, hn]
  have liveO : ∀ n, n ≠ G.N → ((G.aC ob).aD n ↔ G.aD n) := λn hn => ⟨λh => h.resolve_right (λx => hn x.1), .inl⟩
  refine { aA := by simp [Gh.aC, g.aA], aD := ?_, aE := ?_, inj := ?_, aF := ?_, aG := ?_, aL := g.aL, aM := g.aM,
           aH := ?_, aJ := ?_, aC := ?_, aI := ?_, aK := ?_ }
  · intro n
    by_cases hn : n = G.N
    · subst hn
      rw [locN]
      constructor
      · rintro (hl | ⟨_, ho⟩)
        · exact absurd hl g.bH
        · exact ⟨⟨_, _, _, new⟩, W5.1 ho⟩
      · rintro ⟨_, b, hb⟩; exact .inr ⟨rfl, by simp [hb]⟩
    · rw [liveO n hn, locO n hn, g.aD n]
      constructor <;> rintro ⟨⟨a, b, c, hh⟩, hb⟩
      · exact ⟨⟨a, b, c, (old n _ hn).2 hh⟩, hb⟩
      · exact ⟨⟨a, b, c, (old n _ hn).1 hh⟩, hb⟩
  · intro n b hb
    have : n ≠ G.N := by rintro rfl; exact g.bI b hb
    exact (old n _ this).2 (g.aE n b hb)
  · intro n m b hn hm hbn hbm
    by_cases h1 : n = G.N <;> by_cases h2 : m = G.N
    · rw [h1, h2]
    · subst h1; rw [locN] at hbn; rw [locO m h2] at hbm
      exact absurd hbm ((hfree b hbn).1 m ((liveO m h2).1 hm))
    · subst h2; rw [locN] at hbm; rw [locO n h1] at hbn
      exact absurd hbn ((hfree b hbm).1 n ((liveO n h1).1 hn))
    · rw [locO n h1] at hbn; rw [locO m h2] at hbm
      exact g.inj n m b ((liveO n h1).1 hn) ((liveO m h2).1 hm) hbn hbm
  · intro n m b hn hb ht
    by_cases h1 : n = G.N
    · subst h1; rw [locN] at hb; exact (hfree b hb).2.1 m ht
    · rw [locO n h1] at hb; exact g.aF n m b ((liveO n h1).1 hn) hb ht
  · intro n b hn hb hs
    by_cases h1 : n = G.N
    · subst h1; rw [locN] at hb; exact (hfree b hb).2.2 hs
    · rw [locO n h1] at hb; exact g.aG n b ((liveO n h1).1 hn) hb hs
  · intro n b hb; exact Vj (g.aH n b hb) hsize
  · intro b hb; exact Vj (g.aJ b hb) hsize
  · intro n sz' es' gr' b hn hb
    by_cases h1 : n = G.N
    · subst h1
      rw [new] at hn
      obtain ⟨rfl, rfl, rfl⟩ : sz = sz' ∧ es = es' ∧ gr = gr' := by simpa using hn
      rw [locN] at hb
      exact hH b hb
    · have hn' := (old n _ h1).1 hn
      rw [locO n h1] at hb
      exact (g.aC n sz' es' gr' b hn' hb).aA k (hother n b (g.aN hn' hb) hb)
  · intro n sz' es' gr' hn hb
    by_cases h1 : n = G.N
    · subst h1
      rw [new] at hn
      obtain ⟨rfl, rfl, rfl⟩ : sz = sz' ∧ es = es' ∧ gr = gr' := by simpa using hn
      rw [locN] at hb
      exact hnil hb
    · rw [locO n h1] at hb
      exact g.aI n sz' es' gr' ((old n _ h1).1 hn) hb
  · intro n hn
    by_cases h1 : n = G.N
    · subst h1
      rw [locN]
      simpa [Gh.aC] using hn
    · rw [locO n h1]
      exact g.aK n (by simpa [Gh.aC, h1] using hn)
/-- the elements of a new row of cells -/
theorem fO.a_ {G w h}(g:fO G w h){cells:Array Value}{ty:TypeId}{sz:Nat}{es:List (List AV)}{gr:Bool}
  (e:jy sz es) (u:es.length*sz ≤ cells.size) (C:gr=false → cells.size=es.length*sz)
  (hV:∀i j c,gw es i j=some c → ∃v,cells[i*sz+j]?=some v ∧ V G w c v):
  fO (G.aC (some w.heap.size)) (w.alloc (.cells cells ty)) (h++[some (.aA sz es gr)]):=by
 have k:=g.aX (.cells cells ty);refine g.aW k (by simp) (λn b hn hb=>nX (g.aO hn hb)) ?_ ?_ (by simp);·rintro b ⟨⟩;refine⟨λn hn hb=>Xb _ (g.aO hn hb),λn ht=>Xb _ (g.aH n _ ht),λhs=>Xb _ (g.aJ _ hs)⟩
 ·rintro b ⟨⟩;exact⟨⟨cells,ty,uZ,u,C,λi j c hj=>let⟨v,hv,hV⟩:=hV i j c hj;⟨v,hv,hV.aA k⟩⟩,e⟩
/-! a store into a block of ours -/
theorem SS {w:World}{a:Addr}{v:Value}{b:Nat}:(w.setCell a v).shape? b=w.shape? b:=by
 simp only[World.shape?,World.setCell,WY];by_cases h:a.block=b
 ·subst h;simp only[VS];cases w.heap[a.block]? with
  | none=>rfl
  | some o=>cases o<;>simp;split<;>simp
 ·simp only[h,VI]
theorem Cq {w:World}{a:Addr}{v:Value}{b:Nat}(h:a.block≠b):(w.setCell a v).heap[b]?=w.heap[b]?:=by simp only[World.setCell,WY,h,VI]
theorem Nr {w:World}{b o:Nat}{v:Value}{cells:Array Value}{ty:TypeId}{fr:Nat×Nat} (h:w.heap[b]?=some (.cells cells ty fr)):
  (w.setCell ⟨b,o,none⟩ v).heap[b]?=some (.cells (cells.setIfInBounds o v) ty fr):=by
 simp[World.setCell,WY,h]
theorem fO.bu {G w h}(g:fO G w h){n b}(hn:G.aD n)(hb:G.aA n=some b)(o:Nat)(v:Value):ic G w G (w.setCell ⟨b,o,none⟩ v) where
 N:=U8 _
 aA _ _ _ h:=h
 aF _ _ h:=h
 aC _ _ h:=h
 aD t b' hp:=Cq (by
  rintro rfl;cases t with
  | zero=>exact g.aG n _ hn hb hp
  | succ m=>exact g.aF n m _ hn hb hp)
 aE b _:=SS
theorem fO.bL {G w h}(g:fO G w h){n b}(hn:G.aD n)(hb:G.aA n=some b)(o:Nat)(v:Value):gI G w G (w.setCell ⟨b,o,none⟩ v) where
 aH:=jV.aE w _ v
 aA:=g.bu hn hb o v
 S:=⟨λ_ h=>h,λ_ h=>.inl h⟩
 aF _ _:=rfl
 aJ _ _:=WA
 aC:=by simp
 aE b' _ hb':=Cq (by rintro rfl;exact hb' (.inl ⟨n,hn,hb⟩))
 aG b hb:=.inl hb
def oj (es:List (List AV))(i j:Nat)(c:AV):List (List AV):=es.modify i (·.set j c)
theorem Nl {es:List (List AV)}{i j i' j':Nat}{c:AV}:
  gw (oj es i j c) i' j'=if i'=i ∧ j'=j ∧ (gw es i j).isSome then some c else gw es i' j':=by
 simp only[gw,oj,WO];by_cases hi:i'=i
 ·subst hi;simp only[VS,true_and];cases h:es[i']? with
  | none=>simp
  | some e=>
   simp only[Wi];by_cases hj:j'=j
   ·subst hj;by_cases hl:j'<e.length;·simp[hl]
    ·simp[hl]
   ·have:¬(j=j'):=λh=>hj h.symm;simp[hj,this]
 ·have:¬(i=i'):=λh=>hi h.symm;simp[hi,this]
theorem Cx {es:List (List AV)}{i j:Nat}{c:AV}:(oj es i j c).length=es.length:=by simp[oj]
theorem Pp {sz i j i' j':Nat}(hj:j<sz)(e:j'<sz)(h:i*sz+j=i'*sz+j'):i=i' ∧ j=j':=by
 have hs:0<sz:=by omega
 have hi:i=i':=by
  have e1:(i*sz+j) / sz=i:=by rw[Nat.mul_comm,Nat.mul_add_div hs,Nat.div_eq_of_lt hj,WK]
  have e2:(i'*sz+j') / sz=i':=by rw[Nat.mul_comm,Nat.mul_add_div hs,Nat.div_eq_of_lt e,WK]
  rw[← e1,← e2,h]
 subst hi;exact⟨rfl,by omega⟩
theorem oP {es:List (List AV)}{i j sz:Nat}{c:AV}(hs:jy sz es)(h:gw es i j=some c):i<es.length ∧ j<sz:=by
 simp only[gw]at h;cases he:es[i]? with
 | none=>simp[he]at h
 | some e=>simp[he]at h;obtain⟨hi,rfl⟩:=UY.1 he;have:=(hs _ (Vx hi)).1;have:=(UY.1 h).1;exact⟨hi,by omega⟩
theorem qh {n sz i j:Nat}(hi:i<n)(hj:j<sz):i*sz+j<n*sz:=by have:=VU sz (Nat.succ_le_of_lt hi);rw[Nat.succ_mul]at this;omega
theorem kL.aD {G w b sz es gr i j c}(h:kL G w b sz es gr)(hc:gw es i j=some c):
  ∃v,w.cell? ⟨b,i*sz+j,none⟩=some v ∧ w.frozen? ⟨b,i*sz+j,none⟩=false ∧ V G w c v:=by
 obtain⟨⟨cells,ty,hh,_,_,h3⟩,_⟩:=h;obtain⟨v,hv,hV⟩:=h3 i j c hc;exact⟨v,by simp[World.cell?,hh,hv],by simp[World.frozen?,hh],hV⟩
theorem fO.bF {G w h} (g : fO G w h) {n b sz es gr i j c0 c} {v : Value} (hn : h[n]? = some (some (.aA sz es gr))) (hb : G.aA n = some b)
    (hc : gw es i j = some c0) (hV : V G w c v) (hsc : c.aH = true) :
    fO G (w.setCell ⟨b, i * sz + j, none⟩ v) (h.set n (some (.aA sz (oj es i j c) gr))) := by
  have hl : G.aD n := g.aN hn hb
  have k := g.bu hl hb (i * sz + j) v
  have hlt : n < h.length := (UY.1 hn).1
  refine { aA := by simp [g.aA], aD := ?_, aE := ?_, inj := g.inj, aF := g.aF, aG := g.aG, aL := g.aL, aM := g.aM,
           aH := λm b hb => by simpa using g.aH m b hb, aJ := λb hb => by simpa using g.aJ b hb, aC := ?_, aI := ?_, aK := g.aK }
  · intro m
    rw [g.aD m]
    by_cases hm : n = m
    · subst hm
      exact ⟨λh => ⟨⟨sz, oj es i j c, gr, by simp [hlt]⟩, h.2⟩, λh => ⟨⟨_, _, _, hn⟩, h.2⟩⟩
    · rw [UZ hm]
  · intro m b hb
    have hm : n ≠ m := by rintro rfl; rw [g.aE _ _ hb] at hn; simp at hn
    rw [UZ hm]; exact g.aE m b hb
  · intro m sz' es' gr' b' hm hb'
    by_cases h1 : n = m
    · subst h1
      rw [hb] at hb'; cases hb'
      rw [U5 hlt] at hm
      obtain ⟨rfl, rfl, rfl⟩ : sz = sz' ∧ oj es i j c = es' ∧ gr = gr' := by simpa using hm
      obtain ⟨⟨cells, ty, hh, h1, h2, h3⟩, hs⟩ := g.aC n sz es gr b hn hb
      obtain ⟨hi, hj⟩ := oP hs hc
      refine ⟨⟨cells.setIfInBounds (i * sz + j) v, ty, Nr hh, by simpa [Cx] using h1, by simpa [Cx] using h2, ?_⟩, ?_⟩
      · intro i' j' c' hc'
        rw [Nl] at hc'
        have hlt' := qh hi hj
        by_cases he : i' = i ∧ j' = j
        · obtain ⟨rfl, rfl⟩ := he
          simp only [hc, Option.isSome_some, and_self, VS, U_] at hc'
          subst hc'
          exact ⟨v, by rw [Array.getElem?_setIfInBounds_self_of_lt (by omega)], hV.aA k⟩
        · have : ¬ (i' = i ∧ j' = j ∧ (gw es i j).isSome = true) := λh => he ⟨h.1, h.2.1⟩
          rw [U6 this] at hc'
          obtain ⟨v', hv', hV'⟩ := h3 i' j' c' hc'
          refine ⟨v', ?_, hV'.aA k⟩
          obtain ⟨hi', hj'⟩ := oP hs hc'
          rw [WD (λe => he (by have := Pp hj hj' e; exact ⟨this.1.symm, this.2.symm⟩))]
          exact hv'
      · intro e he
        simp only [oj] at he
        obtain ⟨idx, hidx, rfl⟩ := Xh.1 he
        have hs' := λk hk => hs (es[k]'hk) (Vx hk)
        rw [List.getElem_modify]
        split
        · refine ⟨by simp [hs'], ?_⟩
          rw [Wt]
          intro x hx
          rcases List.mem_or_eq_of_mem_set hx with h | h
          · exact Wt.1 (hs' idx (by simpa using hidx)).2 x h
          · rw [h]; exact hsc
        · exact hs' idx (by simpa using hidx)
    · rw [UZ h1] at hm
      have hlm : G.aD m := g.aN hm hb'
      exact (g.aC m sz' es' gr' b' hm hb').aA k (Cq (λe => h1 (g.inj n m b hl hlm hb (by rw [hb']; exact W_ some e.symm))))
  · intro m sz' es' gr' hm hb'
    by_cases h1 : n = m
    · subst h1; rw [hb] at hb'; cases hb'
    · rw [UZ h1] at hm
      exact g.aI m sz' es' gr' hm hb'
/-- a name is given up -/
def Gh.aH (G:Gh)(n:Nat):Gh:={G with aD:=λm=>G.aD m ∧ m≠n}
theorem Gh.aO (G:Gh)(w:World)(n:Nat):ic G w (G.aH n) w:=
 ⟨U8 _,λ_ _ _ h=>h,λ_ _ h=>h,λt b h=>by cases t<;>exact h,λ_ _ _=>rfl,λ_ _=>rfl⟩
theorem Gh.aQ (G:Gh)(w:World)(n:Nat):gI G w (G.aH n) w where
 aH:=jV.aA w
 aA:=G.aO w n
 S:=⟨λ_ h=>h,λ_ h=>.inl h⟩
 aF _ _:=rfl
 aJ _ _:=WA
 aC:=U8 _
 aE _ _ _:=rfl
 aG b hb:=by
  rcases hb with⟨m,hm,h⟩ | ⟨m,h⟩;·exact .inl (.inl ⟨m,hm.1,h⟩)
  ·exact .inl (.inr ⟨m,h⟩)
theorem fO.aR {G w h} (g : fO G w h) {n sz es gr} (hn : h[n]? = some (some (.aA sz es gr))) : fO (G.aH n) w (h.set n none) := by
  have hlt : n < h.length := (UY.1 hn).1
  have k := G.aO w n
  refine { aA := by simp [Gh.aH, g.aA], aD := ?_, aE := ?_, inj := fun a b c h1 h2 => g.inj a b c h1.1 h2.1, aF := fun a b c h1 => g.aF a b c h1.1,
           aG := λa b h1 => g.aG a b h1.1, aL := g.aL, aM := g.aM, aH := g.aH, aJ := g.aJ, aC := ?_, aI := ?_, aK := g.aK }
  · intro m
    by_cases h1 : n = m
    · subst h1
      exact ⟨λh => absurd rfl h.2, fun ⟨⟨a, b, c, hh⟩, _⟩ => by simp [hlt] at hh⟩
    · rw [UZ h1]
      exact ⟨λh => (g.aD m).1 h.1, λh => ⟨(g.aD m).2 h, λe => h1 e.symm⟩⟩
  · intro m b hb
    have hm : n ≠ m := by rintro rfl; rw [g.aE _ _ hb] at hn; simp at hn
    rw [UZ hm]; exact g.aE m b hb
  · intro m u E C b hm hb
    by_cases h1 : n = m
    · subst h1; simp [hlt] at hm
    · rw [UZ h1] at hm
      exact (g.aC m u E C b hm hb).aA k rfl
  · intro m u E C hm hb
    by_cases h1 : n = m
    · subst h1; simp [hlt] at hm
    · rw [UZ h1] at hm
      exact g.aI m u E C hm hb
end Glb
/-
 A library of its own,for whatever program: the single operations,on abstract values and on values in memory.
-/
namespace Glb
open Go
/-- a list of abstract values beside an array of values -/
def VL (G:Gh)(w:World)(cs:List AV)(vs:Array Value):Prop:=
 cs.length=vs.size ∧ ∀(j:Nat)(c:AV)(v:Value),cs[j]?=some c → vs[j]?=some v → V G w c v
theorem VL.aE {G w cs vs cs' vs'}(h:VL G w cs vs)(h':VL G w cs' vs'):VL G w (cs++cs') (vs++vs'):=by
 refine⟨by simp[h.1,h'.1],λj c v hc hv=>?_⟩;rw[V_]at hc;rw[WX,← h.1]at hv;split at hc;·rename_i hlt;rw[U4 hlt]at hv;exact h.2 j c v hc hv
 ·rename_i hlt;rw[U6 hlt]at hv;exact h'.2 _ c v hc hv
theorem VL.aC {G w cs vs}{j:Nat}{c:AV}(h:VL G w cs vs) (hj:cs[j]?=some c):∃v,vs[j]?=some v ∧ V G w c v:=by
 have hlt:=(UY.1 hj).1;have:vs[j]?=some (vs[j]'(by rw[← h.1];exact hlt)):=by simp[← h.1,hlt]
 exact⟨_,this,h.2 j c _ hj this⟩
theorem VL.aG (G w):VL G w [] #[]:=⟨rfl,λj c v h=>by simp at h⟩
theorem VL.aI {G w}{cs:List AV}{vs:List Value}(hl:cs.length=vs.length)
  (h:∀(j:Nat)(c:AV)(v:Value),cs[j]?=some c → vs[j]?=some v → V G w c v):VL G w cs vs.toArray:=
 ⟨by simpa using hl,λj c v a b=>h j c v a (by simpa using b)⟩
theorem VL.aF {G w c v}{cs:List AV}{vs:List Value}(h:V G w c v)(r:VL G w cs vs.toArray):VL G w (c :: cs) (v :: vs).toArray:=by
 refine VL.aI (by have:=r.1;simp at this;simp[this]) ?_;intro j c' v' hc hv;cases j with
 | zero=>simp at hc hv;subst hc;subst hv;exact h
 | succ j=>simp at hc hv;exact r.2 j c' v' hc (by simpa using hv)
/-- constants -/
def jn:Value → AV
 | .bool b=>.aE b
 | .int k n=>.aA k n
 | .string s=>.aQ s
 | .slice none 0 0=>.aD
 | v=>.aN v
def xL:Value → AV
 | .agg cs=>.aF (cs.toList.map jn)
 | .tuple cs=>.aI (cs.toList.map jn)
 | v=>jn v
theorem V.aT (G w)(v:Value):V G w (jn v) v:=by
 unfold Glb.jn;split;·exact .aG _
 ·exact .aD _ _
 ·exact .aQ _
 ·exact .aO
 ·exact .aP _
theorem VL.aD (G w)(vs:Array Value):VL G w (vs.toList.map Glb.jn) vs:=by refine⟨by simp,λj c v hc hv=>?_⟩;simp only[VE,Array.getElem?_toList,hv,Ws,U_]at hc;subst hc;exact V.aT G w v
theorem V.aZ (G w)(v:Value):V G w (xL v) v:=by
 unfold Glb.xL;split;·rename_i cs;exact .aJ _ cs (VL.aD G w cs).1 (VL.aD G w cs).2
 ·rename_i cs;exact .aM _ cs (VL.aD G w cs).1 (VL.aD G w cs).2
 ·exact V.aT G w _
theorem V.aU {G w c v}(h:V G w c v)(hs:c.aH=true):v.oneCell'=true:=by cases h<;>simp_all[AV.aH,Value.oneCell']
theorem V.a_ {G w c v}(h:V G w c v)(hs:c.aH=true):v.cells=#[v]:=by have:=h.aU hs;cases v<;>simp_all[Value.cells,Value.oneCell']
/-- the cells of a value -/
def AV.aL:AV → Option (List AV)
 | .aF cs=>some cs
 | c=>if c.aH then some [c] else none
theorem V.aS {G w c v cs}(h:V G w c v)(hc:c.aL=some cs):VL G w cs v.cells:=by
 unfold AV.aL at hc;split at hc
 ·cases h with
  | aJ _ vs hl hv=>cases hc;exact⟨hl,hv⟩
 ·rename_i hne;split at hc;·rename_i hs;cases hc;rw[h.a_ hs];exact VL.aF (vs:=[]) h (VL.aG G w)
  ·cases hc
/-! loads -/
def pN (agg:Bool)(n:Nat)(cs:List AV):Option AV:=
 if agg then (if n ≤ cs.length then some (.aF (cs.take n)) else none) else cs.head?
def ir (h:eX)(agg:Bool)(n:Nat):AV → Option AV
 | .aC m sz i o=>
  match h[m]? with
  | some (some (.aA sz' es _))=>if sz=sz' then (es[i]?).bind λe=>pN agg n (e.drop o) else none
  | _=>none
 | .aO _ cs=>pN agg n cs
 | _=>none
theorem pw (b o n:Nat):(⟨b,o,none⟩:Addr).add n=⟨b,o+n,none⟩:=by unfold Addr.add;split<;>simp_all
theorem uI {a:Addr}(h:a.spot=none)(n:Nat):a.add n=⟨a.block,a.off+n,none⟩:=by cases a;simp at h;subst h;exact pw _ _ _
/-- cells that are there,one behind the other -/
def vR (G:Gh)(w:World)(b o:Nat)(cs:List AV):Prop:=
 ∃f:Nat → Value,(∀(j:Nat)(c:AV),cs[j]?=some c → w.cell? ⟨b,o+j,none⟩=some (f j)) ∧ ∀(j:Nat)(c:AV),cs[j]?=some c → V G w c (f j)
theorem vR.aA {P:Program}{G w b o cs}(h:vR G w b o cs){agg:Bool}{n:Nat}{r:AV}(hr:pN agg n cs=some r)
  {t:TypeId} (ha:(isAgg t).run P w=.ok agg w) (hs:(Go.sizeOf t).run P w=.ok n w):
  ∃v,(loadVar t ⟨b,o,none⟩).run P w=.ok v w ∧ V G w r v:=by
 obtain⟨f,hf,hV⟩:=h;unfold pN at hr;cases agg with
 | true=>
  simp only[VS]at hr;split at hr
  ·rename_i hle;cases hr;have hl:=run_loadCells (P:=P) (w:=w) ⟨b,o,none⟩ n f (λj hj=>by
    rw[pw];have:cs[j]?=some cs[j]:=by simp
    exact hf j _ this)
   refine⟨.agg ((List.range n).map f).toArray,by simp[loadVar,ha,hs,hl],?_⟩;refine .aJ _ _ (by simp;omega) (λj c v hc hv=>?_);have hj:j<n:=by have:=(UY.1 hc).1;simp at this;omega
   rw[VQ hj]at hc;simp[hj]at hv;subst hv;exact hV j c hc
  ·cases hr
 | false=>
  simp only[Vn,VI]at hr;have h0:cs[0]?=some r:=by rw[← List.head?_eq_getElem?];exact hr
  have hc:=hf 0 r h0;simp only[WK]at hc;exact⟨f 0,by simp[loadVar,ha,hc],hV 0 r h0⟩
theorem kL.aE {G w b sz es gr i e}(h:kL G w b sz es gr) (he:es[i]?=some e) (o:Nat):vR G w b (i*sz+o) (e.drop o):=by
 obtain⟨⟨cells,ty,hh,_,_,h3⟩,_⟩:=h;refine⟨λj=>(cells[i*sz+(o+j)]?).getD undef,λj c hc=>?_,λj c hc=>?_⟩ <;>
 ·rw[Vt]at hc;obtain⟨v,hv,hV⟩:=h3 i (o+j) c (by simp[gw,he,hc]);simp[World.cell?,hh,WG,hv,hV]
theorem EP {P:Program}{G w h agg n x r v}(g:fO G w h)(hx:V G w x v)(hr:ir h agg n x=some r)
  {t:TypeId} (ha:(isAgg t).run P w=.ok agg w) (hs:(Go.sizeOf t).run P w=.ok n w):
  ∃u,(Instr.loadAt t v).run P w=.ok u w ∧ V G w r u:=by
 unfold ir at hr;split at hr
 ·rename_i m sz i o;cases hx with
  | aL _ _ _ _ b hn hb=>
  split at hr
  ·rename_i sz' es gr hm;split at hr
   ·rename_i C;subst C;cases he:es[i]? with
    | none=>simp[he]at hr
    | some e=>simp only[he,Wi]at hr;obtain⟨u,hu,hV⟩:=((g.aC m sz es gr b hm hb).aE he o).aA (P:=P) hr ha hs;exact⟨u,by simp[Instr.loadAt,Instr.sureAddr,hu],hV⟩
   ·cases hr
  ·cases hr
 ·rename_i t' cs;cases hx with
  | aN _ _ b off f hp hc hV=>obtain⟨u,hu,hV⟩:=vR.aA (P:=P) (G:=G) (w:=w) (b:=b) (o:=off) ⟨f,hc,hV⟩ hr ha hs;exact⟨u,by simp[Instr.loadAt,Instr.sureAddr,hu],hV⟩
 ·cases hr
/-! addresses -/
def sO (o:Nat):AV → Option AV
 | .aC m sz i o'=>some (.aC m sz i (o'+o))
 | .aO t cs=>some (.aO t (cs.drop o))
 | _=>none
theorem JV {P:Program}{G w o x r v}(hx:V G w x v)(hr:sO o x=some r)
  {s:TypeId} {k:Nat} {fs:Array Field} {f:Field} (hu:P.underlying s=some (.struct fs)) (hf:fs[k]?=some f) (ho:f.offset=o)
  {m:Nat} (hs:(Go.sizeOf f.type).run P w=.ok m w) (hm:m≠0):
  ∃u,(Instr.fieldAt s v k).run P w=.ok u w ∧ V G w r u:=by
 unfold sO at hr;split at hr
 ·rename_i n sz i o';cases hx with
  | aL _ _ _ _ b hn hb=>cases hr;refine⟨_,by simp[Instr.fieldAt,run_underlying hu,hf,Instr.sureAddr,fieldPlace,hs,hm,ho,pw];rfl,?_⟩;rw[WG];exact .aL _ _ _ _ _ hn hb
 ·rename_i t' cs;cases hx with
  | aN _ _ b off f' hp hc hV=>
   cases hr;refine⟨_,by simp[Instr.fieldAt,run_underlying hu,hf,Instr.sureAddr,fieldPlace,hs,hm,ho,pw];rfl,?_⟩;refine .aN _ _ _ _ (λj=>f' (o+j)) hp (λj c hj=>?_) (λj c hj=>?_);·rw[Vt]at hj;rw[WG];exact hc _ _ hj
   ·rw[Vt]at hj;exact hV _ _ hj
 ·cases hr
def jg (sz:Nat):AV → AV → Option AV
 | .aG m sz' off len _,.aA _ i=>if sz=sz' ∧ 0 ≤ i ∧ i<(len:Int) then some (.aC m sz (off+i.toNat) 0) else none
 | .aM t _ sz' es,.aA _ i=>if sz=sz' ∧ 0 ≤ i then (es[i.toNat]?).map (.aO t) else none
 | _,_=>none
theorem J_ {P:Program}{G w sz x i r v vi}(hx:V G w x v)(hi:V G w i vi)(hr:jg sz x i=some r)
  {t e:TypeId} (hu:P.underlying t=some (.slice e)) (hs:(Go.sizeOf e).run P w=.ok sz w):
  ∃u,(Instr.indexAt t v vi).run P w=.ok u w ∧ V G w r u:=by
 unfold jg at hr;split at hr
 ·rename_i m C off len cap k i;cases hi;cases hx with
  | aH _ _ _ _ _ _=>simp at hr;omega
  | aC _ _ _ _ _ c ty mm b hn hb hl hcap hsh hm=>
   split at hr
   ·rename_i hh;obtain⟨rfl,h0,h1⟩:=hh;cases hr;refine⟨_,by simp[Instr.indexAt,asIntOf,run_underlying hu,hs,h0,h1,pw];rfl,?_⟩;have:off*sz+i.toNat*sz=(off+i.toNat)*sz+0:=by rw[WI];rfl
    rw[this];exact .aL _ _ _ _ _ hn hb
   ·cases hr
 ·rename_i t' cl C es k i;cases hi;split at hr
  ·rename_i hh;obtain⟨rfl,h0⟩:=hh;cases he:es[i.toNat]? with
   | none=>simp[he]at hr
   | some e'=>
    simp only[he,Ws,U_]at hr;subst hr;have hlt:=(UY.1 he).1;cases hx with
    | aF=>simp at hlt
    | aE _ _ _ _ a cap f hl hcl hsp hp hes hc hV=>
     have h1:i<(es.length:Int):=by omega
     refine⟨_,by simp[Instr.indexAt,asIntOf,run_underlying hu,hs,h0,h1,uI (hsp (by omega))];rfl,?_⟩;refine .aN _ _ _ _ (λj=>f i.toNat j) (hp (by rintro rfl;simp at hlt)) (λj c hj=>?_) (λj c hj=>?_);·rw[WG];exact hc _ _ c (by simp[gw,he,hj])
     ·exact hV i.toNat j c (by simp[gw,he,hj])
  ·cases hr
 ·cases hr
/-! numbers -/
def pF (op:BinOp)(k:IntKind)(a b:Int):Option AV:=
 match op with
 | .add=>some (.aA k (k.wrap (a+b)))
 | .sub=>some (.aA k (k.wrap (a-b)))
 | .mul=>some (.aA k (k.wrap (a*b)))
 | .quo=>if b=0 then none else some (.aA k (k.wrap (a.tdiv b)))
 | .rem=>if b=0 then none else some (.aA k (a.tmod b))
 | .and=>some (.aA k (k.wrap (BitVec.ofInt k.bits a &&& BitVec.ofInt k.bits b).toNat))
 | .or=>some (.aA k (k.wrap (BitVec.ofInt k.bits a ||| BitVec.ofInt k.bits b).toNat))
 | .xor=>some (.aA k (k.wrap (BitVec.ofInt k.bits a ^^^ BitVec.ofInt k.bits b).toNat))
 | .andNot=>some (.aA k (k.wrap (BitVec.ofInt k.bits a &&& ~~~ BitVec.ofInt k.bits b).toNat))
 | .eql=>some (.aE (a == b))
 | .neq=>some (.aE (a != b))
 | .lss=>some (.aE (decide (a<b)))
 | .leq=>some (.aE (decide (a ≤ b)))
 | .gtr=>some (.aE (decide (a>b)))
 | .geq=>some (.aE (decide (a≥b)))
 | .shl | .shr=>none
def vd (op:BinOp)(k:IntKind)(a b:Int):Option AV:=
 match op with
 | .shl=>if b<0 then none else some (.aA k (k.wrap (a*2^(min b.toNat k.bits))))
 | .shr=>if b<0 then none else some (.aA k (a.fdiv (2^(min b.toNat k.bits))))
 | _=>none
def wT (op:BinOp)(a b:Bool):Option AV:=
 match op with
 | .eql=>some (.aE (a == b))
 | .neq=>some (.aE (!(a == b)))
 | _=>none
def Il (op:BinOp)(a b:ByteArray):Option AV:=
 match op with
 | .eql=>some (.aE (a.toList == b.toList))
 | .neq=>some (.aE (!(a.toList == b.toList)))
 | _=>none
/-- is it nil? -/
def jW:AV → Option Bool
 | .aD=>some true
 | .aG _ _ _ len _=>if 0<len then some false else none
 | .aM _ _ _ es=>if 0<es.length then some false else none
 | .aC ..=>some false
 | .aO ..=>some false
 | .aN (.pointer none)=>some true
 | .aN .nilIface=>some true
 | .aT ..=>some false
 | _=>none
def jD (op:BinOp):AV → AV → Option AV
 | .aA k a,.aA k' b=>if op=.shl ∨ op=.shr then vd op k a b else if k=k' then pF op k a b else none
 | .aQ a,.aQ b=>Il op a b
 | _,_=>none
theorem Sh {P:Program}{w:World}(op:BinOp)(t:TypeId)(x y:Operand)(k k':IntKind)(a b:Int):
  (eqGuard op t x y (.int k a) (.int k' b)).run P w=.ok () w:=by
 cases op<;>rfl
theorem Sg {P:Program}{w:World}(op:BinOp)(t:TypeId)(x y:Operand)(a b:Bool):
  (eqGuard op t x y (.bool a) (.bool b)).run P w=.ok () w:=by
 cases op<;>rfl
theorem Si {P:Program}{w:World}(op:BinOp)(t:TypeId)(x y:Operand)(a b:ByteArray):
  (eqGuard op t x y (.string a) (.string b)).run P w=.ok () w:=by
 cases op<;>rfl
theorem ED {P:Program}{G w op x y r vx vy}(hx:V G w x vx)(hy:V G w y vy)(hr:jD op x y=some r)(t:TypeId)(ox oy:Operand):
  ∃u,(do eqGuard op t ox oy vx vy;binOp op t vx vy:Sem Value).run P w=.ok u w ∧ V G w r u:=by
 unfold jD at hr
 split at hr
 ·rename_i k a k' b
  cases hx;cases hy
  simp only[Sem.run_bind,Sh,Result.andThen_ok]
  split at hr
  ·rename_i e
   rcases e with rfl | rfl<;>simp only[vd]at hr<;>split at hr<;>simp only[U_,reduceCtorEq]at hr<;>subst hr <;>
    rename_i hlt<;>simp[binOp,Op.shift,hlt]<;>exact .aD _ _
  ·rename_i e
   split at hr
   ·rename_i hk
    subst hk
    cases op<;>simp only[pF,reduceCtorEq]at hr
    case quo=>split at hr<;>simp only[U_,reduceCtorEq]at hr;subst hr;rename_i hz;simp[binOp,Op.intDiv,hz];exact .aD _ _
    case rem=>split at hr<;>simp only[U_,reduceCtorEq]at hr;subst hr;rename_i hz;simp[binOp,Op.intDiv,hz];exact .aD _ _
    all_goals simp only[U_]at hr;subst hr
    all_goals first
     | (refine⟨_,?_,.aG _⟩;simp only[binOp,Op.intCmp,ne_eq,not_true_eq_false,VI,Sem.run_pure];done)
     | (refine⟨_,?_,.aD _ _⟩;simp only[binOp,Op.intArith,Op.intBits,ne_eq,not_true_eq_false,VI,Sem.run_pure];done)
   ·cases hr
 ·rename_i a b
  cases hx;cases hy
  simp only[Sem.run_bind,Si,Result.andThen_ok]
  cases op<;>simp only[Il,reduceCtorEq,U_]at hr<;>subst hr
  ·exact⟨_,rfl,.aG _⟩
  ·exact⟨_,rfl,.aG _⟩
 ·cases hr
theorem KH {P:Program}{G w op a b r}(hr:wT op a b=some r)(t:TypeId)(ox oy:Operand)(hu:P.underlying t=some .bool):
  ∃u,(do eqGuard op t ox oy (.bool a) (.bool b);binOp op t (.bool a) (.bool b):Sem Value).run P w=.ok u w ∧ V G w r u:=by
 simp only[Sem.run_bind,Sg,Result.andThen_ok];cases op<;>simp only[wT,reduceCtorEq,U_]at hr<;>subst hr;·exact⟨_,run_eql_bool w t a b hu,.aG _⟩
 ·exact⟨_,run_neq_bool w t a b hu,.aG _⟩
/-! a slice of a slice -/
def pM:Option Int → Int → Nat → Bool → Bool
 | some m,h,_,_=>decide (m=h)
 | none,h,n,cl=>cl && decide (h=(n:Int))
def jk:Option Int → Nat → Option Nat → Option Nat
 | some m,l,_=>some (m.toNat-l)
 | none,l,cap=>cap.map (·-l)
def ie (sz:Nat)(x:AV)(lo hi mx:Option Int):Option AV:=
 let l:=lo.getD 0
 match x with
 | .aD=>if l=0 ∧ hi.getD 0=0 ∧ mx.getD 0=0 then some .aD else none
 | .aG m sz' off len cap=>
  let h:=hi.getD len
  if sz=sz' ∧ 0 ≤ l ∧ l ≤ h ∧ (h ≤ (len:Int) ∨ cap.isSome=true) ∧ h ≤ mx.getD h ∧ mx.getD h ≤ ((cap.getD len:Nat):Int) then
   let c:Option Nat:=jk mx l.toNat cap
   if l=0 then some (.aG m sz off h.toNat c)
   else if l<h then some (.aG m sz (off+l.toNat) (h.toNat-l.toNat) c)
   else some (.aM 0 false sz [])
  else none
 | .aM t clip sz' es=>
  let h:=hi.getD es.length
  if sz=sz' ∧ 0 ≤ l ∧ l ≤ h ∧ h ≤ (es.length:Int) ∧ h ≤ mx.getD h ∧ mx.getD h ≤ (es.length:Int) then
   some (.aM t (pM mx h es.length clip) sz ((es.take h.toNat).drop l.toNat))
  else none
 | _=>none
theorem tW {P:Program}{w:World}(k:IntKind)(i:Int)(y:Nat)(code:BoundsCode)(h0:0 ≤ i)(h1:i ≤ (y:Int)):
  (Instr.sliceBound (.int k i) y code).run P w=.ok i.toNat w:=by
 simp[Instr.sliceBound,asIntOf,h0,h1]
/-- the three bounds,where they fit -/
theorem vH {P:Program}{w:World}(b:Bool)(len cap:Nat)(lo hi mx:Option Int)(u C e:IntKind)
  (h0:0 ≤ lo.getD 0) (h1:lo.getD 0 ≤ hi.getD len) (h2:hi.getD len ≤ mx.getD cap) (h3:mx.getD cap ≤ (cap:Int)) (hm:mx.isSome → hi.isSome):
  (Instr.sliceBounds b len cap (lo.map (.int u)) (hi.map (.int C)) (mx.map (.int e))).run P w =
   .ok ((lo.getD 0).toNat,(hi.getD len).toNat,(mx.getD cap).toNat) w:=by
 unfold Instr.sliceBounds;cases mx with
 | none=>
  cases hi with
  | none=>
   cases lo with
   | none=>simp
   | some l=>simp at h0 h1 h2 h3 ⊢;rw[tW _ _ _ _ h0 (by omega)];simp
  | some h=>
   simp at h0 h1 h2 h3 ⊢;rw[tW _ _ _ _ (by omega) (by omega)];cases lo with
   | none=>simp
   | some l=>simp at h0 h1 ⊢;rw[tW _ _ _ _ h0 (by omega)];simp
 | some m=>
  cases hi with
  | none=>simp at hm
  | some h=>
   simp at h0 h1 h2 h3 ⊢;rw[tW _ _ _ _ (by omega) (by omega)];simp;rw[tW _ _ _ _ (by omega) (by omega)];cases lo with
   | none=>simp
   | some l=>simp at h0 h1 ⊢;rw[tW _ _ _ _ h0 (by omega)];simp
theorem V.aW {G w}(t:Nat)(sz:Nat)(a:Addr)(cap:Nat)(ha:cap≠0 → a.spot=none)(u:Bool)(hc:u=true → cap=0):
  V G w (.aM t u sz []) (.slice (some a) 0 cap):=
 V.aE t u sz [] a cap (λ_ _=>undef) (Vk _) hc ha (λh=>absurd rfl h) (λe he=>by simp at he) (λi j c h=>by simp[gw]at h) (λi j c h=>by simp[gw]at h)
theorem Kw {P:Program}{G w sz x lo hi mx r v}(hx:V G w x v)(hr:ie sz x lo hi mx=some r)(klo khi kmx:IntKind)
  (hm:mx.isSome → hi.isSome) {t e:TypeId} (hu:P.underlying t=some (.slice e)) (hs:(Go.sizeOf e).run P w=.ok sz w):
  ∃u,(Instr.sliceAt t v (lo.map (.int klo)) (hi.map (.int khi)) (mx.map (.int kmx))).run P w=.ok u w ∧ V G w r u:=by
 unfold ie at hr;simp only at hr;split at hr
 ·cases hx;split at hr;·rename_i hh;obtain⟨e0,e1,e2⟩:=hh;cases hr;refine⟨.slice none 0 0,?_,.aO⟩;have:=vH (P:=P) (w:=w) true 0 0 lo hi mx klo khi kmx (by omega) (by simp only[Xe]at *;omega) (by simp only[Xe]at *;omega) (by simp only[Xe]at *;omega) hm;simp[Instr.sliceAt,Instr.slice,run_underlying hu,this,hs,e0,e1,e2]
  ·cases hr
 ·rename_i m sz' off len cap;cases hx with
  | aH _ _ _ hn hb hc=>
   split at hr
   ·rename_i hh;obtain⟨rfl,e0,e1,e2,e3,e4⟩:=hh;have hc0:cap.getD 0=0:=by cases cap with | none=>rfl | some k=>exact hc k rfl
    rw[hc0]at e4;have hb':=vH (P:=P) (w:=w) true 0 0 lo hi mx klo khi kmx e0 e1
     (by cases mx with | none=>simp at e4 ⊢;omega | some m=>simpa using e3) (by cases mx with | none=>simp | some m=>simpa using e4) hm
    have hl0:lo.getD 0=0:=by omega
    have hh0:hi.getD ((0:Nat):Int)=0:=by omega
    have hm0:(mx.getD ((0:Nat):Int)).toNat=0:=by cases mx with | none=>rfl | some m=>simp at e4 ⊢;omega
    rw[U4 hl0]at hr;cases hr;refine⟨.slice none 0 0,by simp only[Xe]at *;simp[Instr.sliceAt,Instr.slice,run_underlying hu,hb',hs,hl0,hh0,hm0],?_⟩;rw[hh0];refine .aH _ _ _ hn hb (λk hk=>?_);cases mx with
    | some m=>simp[jk,hl0]at hk e4;omega
    | none=>cases cap with
     | none=>simp[jk]at hk
     | some q=>have:=hc q rfl;simp[jk]at hk;omega
   ·cases hr
  | aC _ _ _ _ _ c ty mm b hn hb0 hl hcap hsh hmm=>
   split at hr
   ·rename_i hh;obtain⟨rfl,e0,e1,e2,e3,e4⟩:=hh;have hcle:((cap.getD len:Nat):Int) ≤ (c:Int):=by
     cases cap with
     | none=>simpa using hl
     | some k=>have:=hcap k rfl;simp;omega
    have e5:hi.getD len ≤ mx.getD c:=by cases mx with | none=>simp at e3 e4 ⊢;omega | some m=>simpa using e3
    have e6:mx.getD c ≤ (c:Int):=by cases mx with | none=>simp | some m=>simp at e4 ⊢;omega
    have hb:=vH (P:=P) (w:=w) true len c lo hi mx klo khi kmx e0 e1 e5 e6 hm;generalize hL:lo.getD 0=l at *;generalize hH:hi.getD len=h at *;have hmax:(mx.getD c).toNat ≤ c:=by omega
    have hhm:h.toNat ≤ (mx.getD c).toNat:=by omega
    have hrun:(Instr.sliceAt t (.slice (some ⟨b,off*sz,none⟩) len c) (lo.map (.int klo)) (hi.map (.int khi)) (mx.map (.int kmx))).run P w =
      .ok (.slice (if (mx.getD c).toNat=l.toNat then some ⟨b,off*sz,none⟩ else some ⟨b,off*sz+l.toNat*sz,none⟩) (h.toNat-l.toNat) ((mx.getD c).toNat-l.toNat)) w:=by
     simp[Instr.sliceAt,Instr.slice,run_underlying hu,hb,hs,pw]
    have hcap':∀k,jk mx l.toNat cap=some k → (mx.getD c).toNat-l.toNat=k:=by
     intro k hk;cases mx with
     | some m=>simpa [jk] using hk
     | none=>
      cases cap with
      | none=>simp[jk]at hk
      | some q=>have:=hcap q rfl;simp[jk]at hk ⊢;omega
    split at hr;·rename_i hl0;subst hl0;cases hr;refine⟨_,hrun,?_⟩;simp only[Int.toNat_zero,Nat.zero_mul,WK,ite_self,Nat.sub_zero]at hcap' ⊢;refine .aC _ _ _ _ _ _ ty mm b hn hb0 hhm hcap' hsh (Vh (VU _ (by omega)) hmm)
    ·split at hr;·rename_i hl0 hlh;cases hr;refine⟨_,hrun,?_⟩;rw[U6 (by omega),← WI];refine .aC _ _ _ _ _ _ ty mm b hn hb0 (by omega) hcap' hsh (Vh (VU _ (by omega)) hmm)
     ·rename_i hl0 hlh;cases hr;refine⟨_,hrun,?_⟩;have:h.toNat-l.toNat=0:=by omega
      rw[this];split<;>exact V.aW _ _ _ _ (λ_=>rfl) false (by simp)
   ·cases hr
 ·rename_i t' cl sz' es;split at hr
  ·rename_i hh;obtain⟨rfl,e0,e1,e2,e3,e4⟩:=hh;generalize hL:lo.getD 0=l at *;generalize hH:hi.getD es.length=h at *;cases hr;cases hx with
   | aF=>
    simp at e2 e4 hH;have hb:=vH (P:=P) (w:=w) true 0 0 lo hi mx klo khi kmx (by omega) (by simp;omega)
     (by cases mx with | none=>simp;omega | some m=>simp at e3 e4 ⊢;omega) (by cases mx with | none=>simp | some m=>simp at e3 e4 ⊢;omega) hm
    refine⟨.slice none 0 0,?_,by simpa using V.aF _ _ _⟩;simp[Instr.sliceAt,Instr.slice,run_underlying hu,hb,hs];cases mx with | none=>simp;omega | some m=>simp at e3 e4 ⊢;omega
   | aE _ _ _ _ a cap f hl hcl hsp hp hes hc hV=>
    have e5:hi.getD es.length ≤ mx.getD cap:=by rw[hH];cases mx with | none=>simp at e3 ⊢;omega | some m=>simpa using e3
    have e6:mx.getD cap ≤ (cap:Int):=by cases mx with | none=>simp | some m=>simp at e4 ⊢;omega
    have hb:=vH (P:=P) (w:=w) true es.length cap lo hi mx klo khi kmx (by omega) (by rw[hL,hH];exact e1) e5 e6 hm;rw[hL,hH]at hb;have hhm:h.toNat ≤ (mx.getD cap).toNat:=by rw[hH]at e5;omega
    have hlen:((es.take h.toNat).drop l.toNat).length=h.toNat-l.toNat:=by simp;omega
    have hclip:pM mx h es.length cl=true → (mx.getD cap).toNat-l.toNat=h.toNat-l.toNat:=by
     intro hq;cases mx with
     | some m=>simp[pM]at hq;subst hq;rfl
     | none=>simp[pM]at hq ⊢;have:=hcl hq.1;omega
    have hrun:(Instr.sliceAt t (.slice (some a) es.length cap) (lo.map (.int klo)) (hi.map (.int khi)) (mx.map (.int kmx))).run P w =
      .ok (.slice (if (mx.getD cap).toNat=l.toNat then some a else some ⟨a.block,a.off+l.toNat*sz,none⟩) (h.toNat-l.toNat) ((mx.getD cap).toNat-l.toNat)) w:=by
     by_cases hcz:cap=0
     ·have e1:(mx.getD cap).toNat=l.toNat:=by omega
      simp[Instr.sliceAt,Instr.slice,run_underlying hu,hb,hs,e1]
     ·simp[Instr.sliceAt,Instr.slice,run_underlying hu,hb,hs,uI (hsp hcz)]
    refine⟨_,hrun,?_⟩;by_cases hz:(mx.getD cap).toNat=l.toNat
    ·rw[U4 hz];have h0:h.toNat-l.toNat=0:=by omega
     have he:(es.take h.toNat).drop l.toNat=[]:=U7 (by omega);rw[he,h0];exact V.aW _ _ _ _ (λh=>hsp (by omega)) _ (λhq=>by have:=hclip hq;omega)
    ·rw[U6 hz];have hg:∀i j c,gw ((es.take h.toNat).drop l.toNat) i j=some c → gw es (l.toNat+i) j=some c:=by
      intro i j c hj;simp only[gw,Vt]at hj ⊢;rw[VZ]at hj;split at hj;·exact hj
      ·simp at hj
     have:=V.aE (G:=G) (w:=w) t' (pM mx h es.length cl) sz ((es.take h.toNat).drop l.toNat)
      ⟨a.block,a.off+l.toNat*sz,none⟩ ((mx.getD cap).toNat-l.toNat) (λi j=>f (l.toNat+i) j) (by omega) (by rw[hlen];exact hclip) (λ_=>rfl)
      (λ_=>hp (by rintro rfl;simp_all)) (λe he=>hes e (VR (VC he))) (λi j c hj=>by have:=hc _ _ _ (hg i j c hj);rw[WI]at this;simpa [WG] using this) (λi j c hj=>hV _ _ _ (hg i j c hj))
     rw[hlen]at this;exact this
  ·cases hr
 ·cases hr
end Glb
/-
 A library of its own,for whatever program: the operations that make or change memory.
-/
namespace Glb
open Go
/-- what an operation that may make or change memory does -/
def mK (P:Program)(s:Sem Value)(G:Gh)(w:World)(r:AV)(h':eX):Prop:=
 ∃v w' G',s.run P w=.ok v w' ∧ fO G' w' h' ∧ V G' w' r v ∧ gI G w G' w'
theorem mK.aA {P s G w h r v}(g:fO G w h)(hr:s.run P w=.ok v w)(hV:V G w r v):mK P s G w r h:=
 ⟨v,w,G,hr,g,hV,gI.aD G w⟩
/-! a new block -/
theorem VL.aH {G w cs vs}(hv:VL G w cs vs):∀i j c,gw [cs] i j=some c → ∃v,vs[i*cs.length+j]?=some v ∧ V G w c v:=by
 intro i j c hc;cases i with
 | zero=>simp[gw]at hc;simpa using hv.aC hc
 | succ i=>simp[gw]at hc
/-- what an operation that makes one block does -/
def LD (P:Program)(s:Sem Value)(G:Gh)(w:World)(mkv:Nat → AV)(sz:Nat)(es:List (List AV))(gr:Bool):Prop:=
 ∃(cells:Array Value)(ty:TypeId)(v:Value),s.run P w=.ok v (w.alloc (.cells cells ty)) ∧ jy sz es ∧ es.length*sz ≤ cells.size ∧ (gr=false → cells.size=es.length*sz) ∧
  (∀i j c,gw es i j=some c → ∃v,cells[i*sz+j]?=some v ∧ V G w c v) ∧
  ∀(G':Gh)(nm:Nat),nm<G'.N → G'.aA nm=some w.heap.size → V G' (w.alloc (.cells cells ty)) (mkv nm) v
theorem LD.aA {P s G w mkv sz es gr h}(g:fO G w h)(l:LD P s G w mkv sz es gr):mK P s G w (mkv h.length) (h++[some (.aA sz es gr)]):=by obtain⟨cells,ty,v,h1,h2,h3,h4,h5,h6⟩:=l;exact⟨v,_,G.aC (some w.heap.size),h1,g.a_ h2 h3 h4 h5,h6 _ _ (by rw[g.aA];exact Nat.lt_succ_self _) (by rw[g.aA];simp[Gh.aC]),g.bA _ _⟩
theorem He {P:Program}{G w cs v}(hv:VL G w cs v.cells)(u:cs.all AV.aH=true)(t:TypeId):
  LD P (do pure (.pointer (some (← Go.newVar t v)))) G w (λnm=>.aC nm cs.length 0 0) cs.length [cs] false:=by
 refine⟨v.cells,t,.pointer (some ⟨w.heap.size,0,none⟩),by simp[Go.newVar,newRow],λe he=>by simp at he;subst he;exact⟨rfl,u⟩,by simp[hv.1],λ_=>by simp[hv.1],hv.aH,?_⟩;intro G' nm hn hl;have:=V.aL (G:=G') (w:=w.alloc (.cells v.cells t)) nm cs.length 0 0 w.heap.size hn hl;simpa using this
/-- a row of elements -/
theorem Hd {P:Program}{G w}{cells:Array Value}{sz:Nat}{es:List (List AV)}{gr:Bool}(t:TypeId)
  (C:jy sz es) (E:es.length*sz ≤ cells.size) (I:gr=false → cells.size=es.length*sz)
  (hV:∀i j c,gw es i j=some c → ∃v,cells[i*sz+j]?=some v ∧ V G w c v) (len cap:Nat) (e:Option Nat)
  (hl:len ≤ cap) (hc:∀k,e=some k → cap=k) (hm:cap*sz ≤ cells.size):
  LD P (do pure (.slice (some (← newRow t cells)) len cap)) G w (λnm=>.aG nm sz 0 len e) sz es gr:=by
 refine⟨cells,t,.slice (some ⟨w.heap.size,0,none⟩) len cap,by simp[newRow],C,E,I,hV,?_⟩;intro G' nm hn u;have:=V.aC (G:=G') (w:=w.alloc (.cells cells t)) nm sz 0 len e cap t cells.size w.heap.size hn u hl hc (by simp only[World.shape?,uZ]) (by simpa using hm);simpa using this
/-! parts laid into zeros -/
def jT (cs:List AV)(o:Nat):List AV → List AV
 | []=>cs
 | c :: r=>jT (cs.set o c) (o+1) r
/-- parts (an offset,a size,a value) laid into cells -/
def oI:List AV → List (Nat×Nat×AV) → Option (List AV)
 | cs,[]=>some cs
 | cs,(o,n,x) :: r=>
  match x.aL with
  | some l=>if l.length=n ∧ o+n ≤ cs.length then oI (jT cs o l) r else none
  | none=>none
theorem VL.aK {G w cs vs c v}(h:VL G w cs vs)(o:Nat)(hV:V G w c v):VL G w (cs.set o c) (vs.setIfInBounds o v):=by
 refine⟨by simp[h.1],λj c' v' hc hv=>?_⟩;by_cases hj:o=j
 ·subst hj;have hlt:o<cs.length:=by have:=(UY.1 hc).1;simpa using this
  rw[U5 hlt]at hc;rw[Array.getElem?_setIfInBounds_self_of_lt (by rw[← h.1];exact hlt)]at hv;cases hc;cases hv;exact hV
 ·rw[UZ hj]at hc;rw[WD hj]at hv;exact h.2 j c' v' hc hv
theorem VL.aL {G w}:∀{l:List AV}{vl:List Value}{cs:List AV}{vs:Array Value}(o k:Nat),VL G w cs vs →
  l.length=vl.length → (∀(j:Nat)(c:AV)(v:Value),l[j]?=some c → vl[j]?=some v → V G w c v) →
  VL G w (jT cs (o+k) l) ((vl.zipIdx k).foldl (λcs (c,j)=>cs.setIfInBounds (o+j) c) vs):=by
 intro l;induction l with
 | nil=>intro vl cs vs o k h hl _;have:vl=[]:=U7 (by simpa using hl.symm);subst this;exact h
 | cons c r ih=>
  intro vl cs vs o k h hl hV;cases vl with
  | nil=>simp at hl
  | cons v vr=>
   simp only[List.zipIdx_cons,W8,Glb.jT];have:=ih (vl:=vr) (cs:=cs.set (o+k) c) (vs:=vs.setIfInBounds (o+k) v) o (k+1) (h.aK _ (hV 0 c v rfl rfl)) (by simpa using hl)
    (λj c' v' hc hv=>hV (j+1) c' v' (by simpa using hc) (by simpa using hv))
   exact this
theorem JY {G w}(place:Nat → Option (Nat×Nat)):∀(ps:List (Nat×Value)) (az:List (Nat×Nat×AV)) (cs:List AV) (vs:Array Value) (r:List AV),
  VL G w cs vs → az.length=ps.length → (∀(j i:Nat)(v:Value)(o n:Nat)(x:AV),ps[j]?=some (i,v) → az[j]?=some (o,n,x) → place i=some (o,n) ∧ V G w x v) →
  oI cs az=some r → ∃us,Instr.fill place vs ps=some us ∧ VL G w r us:=by
 intro ps;induction ps with
 | nil=>intro az cs vs r h hl _ hr;have:az=[]:=U7 (by simpa using hl);subst this;simp only[oI,U_]at hr;subst hr;exact⟨vs,rfl,h⟩
 | cons p ps ih=>
  intro az cs vs r h hl hp hr;obtain⟨i,v⟩:=p;cases az with
  | nil=>simp at hl
  | cons q az=>
   obtain⟨o,n,x⟩:=q;obtain⟨hpl,hV⟩:=hp 0 i v o n x rfl rfl;simp only[oI]at hr;split at hr
   ·rename_i l hl';split at hr
    ·rename_i hh;have hc:=hV.aS hl';have hsz:v.cells.size=n:=by rw[← hc.1];exact hh.1
     have hlen:vs.size=cs.length:=h.1.symm;have hset:=VL.aL (l:=l) (vl:=v.cells.toList) o 0 h (by simpa using hc.1) (λj c u a b=>hc.2 j c u a (by simpa using b));simp only[WK]at hset;obtain⟨us,hus,hVL⟩:=ih az (jT cs o l) _ r hset (by simpa using hl) (λj i v o n x a b=>hp (j+1) i v o n x (by simpa using a) (by simpa using b)) hr;refine⟨us,?_,hVL⟩;have hno:¬(v.cells.size≠n ∨ o+v.cells.size>vs.size):=by have:=hh.2;rw[hsz,hlen];omega
     simp only[Instr.fill,hpl,We,VD];rw[U6 hno];rw[← hus];congr 1;rw[← Array.foldl_toList];simp
    ·cases hr
   ·cases hr
/-! a store -/
def pA (h:eX)(n:Nat)(a x:AV):Option eX:=
 match a with
 | .aC m sz i o=>
  match h[m]?,x.aL with
  | some (some (.aA sz' es g)),some cs=>if sz=sz' ∧ cs.length=n ∧ o+n ≤ sz ∧ i<es.length ∧ cs.all AV.aH=true then some (h.set m (some (.aA sz (es.modify i (jT · o cs)) g))) else none
  | _,_=>none
 | _=>none
theorem Pb (es:List (List AV))(i o:Nat)(c:AV)(r:List AV):
  es.modify i (jT · o (c :: r))=(oj es i o c).modify i (jT · (o+1) r):=by
 simp only[oj,jT];apply VM;intro k;simp only[WO];by_cases h:i=k;·subst h;cases es[i]?<;>simp
 ·simp[h]
theorem O_ (es:List (List AV))(i o:Nat):es.modify i (jT · o [])=es:=by have:(λe:List AV=>jT e o [])=id:=rfl;rw[this];apply VM;intro k;simp only[WO];cases es[k]?<;>simp
theorem Td {P:Program}:∀(cs:List AV)(vs:List Value)(k:Nat){G:Gh}{w:World}{h:eX}{m b sz i o:Nat} {es:List (List AV)} {gr:Bool},
  fO G w h → h[m]?=some (some (.aA sz es gr)) → G.aA m=some b → cs.length=vs.length →
  (∀(j:Nat)(c:AV)(v:Value),cs[j]?=some c → vs[j]?=some v → V G w c v) → cs.all AV.aH=true → i<es.length → o+k+cs.length ≤ sz →
  ∃w',(storeCells ⟨b,i*sz+o,none⟩ vs k).run P w=.ok () w' ∧ fO G w' (h.set m (some (.aA sz (es.modify i (jT · (o+k) cs)) gr))) ∧ gI G w G w':=by
 intro cs;induction cs with
 | nil=>
  intro vs k G w h m b sz i o es gr g hm _ hl _ _ _ _;have:vs=[]:=U7 (by simpa using hl.symm);subst this;refine⟨w,rfl,?_,gI.aD G w⟩;rw[O_];have:h.set m (some (.aA sz es gr))=h:=by
   apply VM;intro j;by_cases hj:m=j;·subst hj;rw[U5 (UY.1 hm).1,hm]
   ·rw[UZ hj]
  rw[this];exact g
 | cons c r ih=>
  intro vs k G w h m b sz i o es gr g hm hb hl hV hs hi ho;cases vs with
  | nil=>simp at hl
  | cons v vr=>
   simp only[List.all_cons,Vq]at hs;have hgr:=g.aC m sz es gr b hm hb;have hlen:es[i].length=sz:=(hgr.sz _ (Vx hi)).1;have hc0:∃c0,gw es i (o+k)=some c0:=by
    have:o+k<es[i].length:=by simp at ho;omega
    exact⟨es[i][o+k],by simp[gw,hi,this]⟩
   obtain⟨c0,hc0⟩:=hc0;obtain⟨v0,hcell,hfz,_⟩:=hgr.aD hc0;have hV0:=hV 0 c v rfl rfl;have gset:=g.bF hm hb hc0 hV0 hs.1;have hlive:=g.aN hm hb;have st:=g.bL hlive hb (i*sz+(o+k)) v;have hlt:m<h.length:=(UY.1 hm).1;obtain⟨w',hrun,hg',hst⟩:=ih vr (k+1) (m:=m) (b:=b) (sz:=sz) (i:=i) (o:=o) (es:=oj es i (o+k) c) (gr:=gr) gset (U5 hlt) hb (by simpa using hl)
    (λj c' v' a b=>(hV (j+1) c' v' (by simpa using a) (by simpa using b)).aA st.aA) hs.2 (by rw[Cx];exact hi) (by simp at ho;omega)
   refine⟨w',?_,?_,st.aI hst⟩;·simp only[storeCells,Sem.run_bind,pw];rw[run_store P w _ v _ (hV0.aU hs.1)];rw[WG,hcell];simp only[hfz,Vn,VI,Result.andThen_ok];exact hrun
   ·rw[Pb];rw[VX]at hg';exact hg'
theorem Ky {P:Program}{G w h n a x h' va vx}(g:fO G w h)(ha:V G w a va)(hx:V G w x vx)(hr:pA h n a x=some h')
  {t:TypeId} (hs:(Go.sizeOf t).run P w=.ok n w):
  ∃w',(Instr.storeAt t va vx).run P w=.ok () w' ∧ fO G w' h' ∧ gI G w G w':=by
 unfold pA at hr;split at hr
 ·rename_i m sz i o;cases ha with
  | aL _ _ _ _ b hn hb=>
  split at hr
  ·rename_i sz' es gr cs hm hcs;split at hr
   ·rename_i hh;obtain⟨rfl,hl,ho,hi,hsc⟩:=hh;cases hr;have hv:=hx.aS hcs;obtain⟨w',hrun,hg,hst⟩:=Td (P:=P) cs vx.cells.toList 0 g hm hb (by simpa using hv.1) (λj c v a b=>hv.2 j c v a (by simpa using b)) hsc hi (o:=o) (by omega);refine⟨w',?_,by simpa using hg,hst⟩;have hno:vx.cells.size=n:=by rw[← hv.1,hl]
    simp[Instr.storeAt,Instr.sureAddr,storeVar,hs,hno,hrun]
   ·cases hr
  ·cases hr
 ·cases hr
/-! rows that are read -/
/-- elements that lie one behind the other -/
structure uD (G:Gh)(w:World)(b o sz:Nat)(es:List (List AV)):Prop where
 ok:jy sz es
 ex:∃f:Nat → Nat → Value,(∀i j c,gw es i j=some c → w.cell? ⟨b,o+(i*sz+j),none⟩=some (f i j)) ∧ ∀i j c,gw es i j=some c → V G w c (f i j)
/-- an array of values beside elements -/
structure jK (G:Gh)(w:World)(sz:Nat)(es:List (List AV))(cells:Array Value):Prop where
 ok:jy sz es
 aA:cells.size=es.length*sz
 aD:∀i j c,gw es i j=some c → ∃v,cells[i*sz+j]?=some v ∧ V G w c v
theorem jK.aC {G w G' w' sz es cells}(k:ic G w G' w')(h:jK G w sz es cells):jK G' w' sz es cells:=
 ⟨h.ok,h.aA,λi j c hc=>let⟨v,hv,hV⟩:=h.aD i j c hc;⟨v,hv,hV.aA k⟩⟩
theorem Gs {es:List (List AV)}{sz i j:Nat}(h:jy sz es)(hi:i<es.length)(hj:j<sz):∃c,gw es i j=some c:=by have:=(h _ (Vx hi)).1;exact⟨es[i][j]'(by omega),by simp[gw,hi,this,hj]⟩
theorem Nk {es:List (List AV)}{sz i j:Nat}{c:AV}(h:jy sz es)(hc:gw es i j=some c):c.aH=true:=by
 simp only[gw]at hc;cases he:es[i]? with
 | none=>simp[he]at hc
 | some e=>simp[he]at hc;obtain⟨hi,rfl⟩:=UY.1 he;exact Wt.1 (h _ (Vx hi)).2 c (WN hc)
theorem Iw {n sz k:Nat}(h:k<n*sz):k / sz<n ∧ k % sz<sz ∧ k / sz*sz+k % sz=k:=by have hs:0<sz:=Nat.pos_of_ne_zero (by rintro rfl;simp at h);refine⟨(Nat.div_lt_iff_lt_mul hs).2 h,Nat.mod_lt _ hs,?_⟩;rw[Nat.mul_comm];exact Nat.div_add_mod k sz
theorem jK.aG {G w sz es cells}(h:jK G w sz es cells):∀v∈cells.toList,v.oneCell'=true:=by
 intro v hv;obtain⟨k,hk,rfl⟩:=Xh.1 hv;have e:k<es.length*sz:=by rw[← h.aA];simpa using hk
 obtain⟨h1,h2,h3⟩:=Iw e;obtain⟨c,hc⟩:=Gs h.ok h1 h2;obtain⟨v,hv,hV⟩:=h.aD _ _ _ hc;rw[h3]at hv;have:cells.toList[k]=v:=by have:=(Wf.1 hv).2;simpa using this
 rw[this];exact hV.aU (Nk h.ok hc)
theorem uD.aA {P:Program}{G w b o sz es}(h:uD G w b o sz es):
  ∃cells,(loadCells ⟨b,o,none⟩ (es.length*sz)).run P w=.ok cells w ∧ jK G w sz es cells:=by
 obtain⟨hs,f,hc,hV⟩:=h;refine⟨((List.range (es.length*sz)).map λk=>f (k / sz) (k % sz)).toArray,run_loadCells (P:=P) (w:=w) ⟨b,o,none⟩ _ _ (λk hk=>?_),hs,by simp,?_⟩;·obtain⟨h1,h2,h3⟩:=Iw hk;obtain⟨c,e⟩:=Gs hs h1 h2;have:=hc _ _ _ e;rw[h3]at this;rw[pw];exact this
 ·intro i j c e;obtain⟨hi,hj⟩:=oP hs e;have hk:=qh hi hj;have u:0<sz:=by omega
  have e1:(i*sz+j) / sz=i:=by rw[Nat.mul_comm,Nat.mul_add_div u,Nat.div_eq_of_lt hj,WK]
  have e2:(i*sz+j) % sz=j:=by rw[Nat.mul_comm,Nat.mul_add_mod,Nat.mod_eq_of_lt hj]
  exact⟨f i j,by simp[hk,e1,e2],hV i j c e⟩
theorem Nj {es:List (List AV)}{off len i j:Nat}{c:AV} (h:gw ((es.drop off).take len) i j=some c):gw es (off+i) j=some c:=by
 simp only[gw,VZ]at h ⊢;split at h;·simpa [Vt] using h
 ·simp at h
theorem PH {sz:Nat}{es:List (List AV)}(h:jy sz es)(off len:Nat):jy sz ((es.drop off).take len):=
 λe he=>h e (VC (VR he))
theorem kL.aC {G w b sz es gr}(h:kL G w b sz es gr)(off len:Nat):uD G w b (off*sz) sz ((es.drop off).take len):=by
 obtain⟨⟨cells,ty,hh,_,_,h3⟩,hs⟩:=h;refine⟨PH hs off len,λi j=>(cells[(off+i)*sz+j]?).getD undef,λi j c hc=>?_,λi j c hc=>?_⟩ <;>
 ·obtain⟨v,hv,hV⟩:=h3 _ _ _ (Nj hc);have e:off*sz+(i*sz+j)=(off+i)*sz+j:=by rw[WI];omega
  simp[World.cell?,hh,e,hv,hV]
/-- the elements of a slice -/
def iU (h:eX)(sz:Nat):AV → Option (List (List AV))
 | .aD=>some []
 | .aM _ _ sz' es=>if sz=sz' then some es else none
 | .aG m sz' off len _=>
  match h[m]? with
  | some (some (.aA sz'' es _))=>if sz=sz' ∧ sz=sz'' ∧ off+len ≤ es.length then some ((es.drop off).take len) else none
  | _=>none
 | _=>none
theorem EI {P:Program}{G w h sz y ys vy}(g:fO G w h)(hy:V G w y vy)(hr:iU h sz y=some ys):
  (Builtin.lenOf vy).run P w=.ok ys.length w ∧ jy sz ys ∧ ∃cells,(Builtin.firstCells sz ys.length vy).run P w=.ok cells w ∧ jK G w sz ys cells:=by
 unfold iU at hr;split at hr;·cases hy;cases hr;exact⟨rfl,λe he=>by simp at he,#[],rfl,λe he=>by simp at he,by simp,λi j c hc=>by simp[gw]at hc⟩
 ·rename_i t cl O es;split at hr
  ·rename_i hh;subst hh;cases hr;cases hy with
   | aF=>exact⟨rfl,λe he=>by simp at he,#[],rfl,λe he=>by simp at he,by simp,λi j c hc=>by simp[gw]at hc⟩
   | aE _ _ _ _ a cap f hl hcl hsp hp M hc hV=>
    obtain⟨cells,C,u⟩:=uD.aA (P:=P) (G:=G) (w:=w) (b:=a.block) (o:=a.off) (sz:=sz) (es:=ys) ⟨M,f,hc,hV⟩;refine⟨rfl,M,cells,?_,u⟩;by_cases hcz:cap=0
    ·have I:ys.length=0:=by omega
     have:cells=#[]:=by have:=u.aA;rw[I,Nat.zero_mul]at this;exact Wu this
     subst this;rw[I];simp[Builtin.firstCells,loadCells,loadCellsFrom]
    ·have ha:a=⟨a.block,a.off,none⟩:=by have:=hsp hcz;cases a;simp at this;simp[this]
     rw[ha];exact C
  ·cases hr
 ·rename_i m O off len cap;split at hr
  ·rename_i sz'' es gr hm;split at hr
   ·rename_i hh;obtain⟨rfl,rfl,hle⟩:=hh;cases hr;have E:((es.drop off).take len).length=len:=by simp;omega
    cases hy with
    | aH _ _ _ _ hb _=>have:=g.aI m sz es gr hm (g.aK m hb);subst this;exact⟨rfl,λe he=>by simp at he,#[],rfl,λe he=>by simp at he,by simp,λi j c hc=>by simp[gw]at hc⟩
    | aC _ _ _ _ _ c ty mm b hn hb hl hcap hsh hmm=>have u:=(g.aC m sz es gr b hm hb).aC off len;obtain⟨cells,C,U⟩:=u.aA (P:=P);refine⟨by rw[E];rfl,u.ok,cells,?_,U⟩;exact C
   ·cases hr
  ·cases hr
 ·cases hr
/-! rows that are written -/
theorem Ns {w:World}{g:Nat}{c e:Array Value}{t:TypeId}{fr:Nat×Nat} (h:w.heap[g]?=some (.cells e t fr)):
  (w.setRow g c).heap[g]?=some (.cells c t fr):=setRow_heap w g e c t fr h
theorem Nt {w:World}{g b:Nat}{c:Array Value}(h:g≠b):(w.setRow g c).heap[b]?=w.heap[b]?:=by simp[World.setRow,WY,h]
end Glb
/-
 A library of its own,for whatever program: append.
-/
namespace Glb
open Go
/-- a row of ours is given other elements -/
theorem fO.aV {G w h w'} (g : fO G w h) {n sz es gr b W U} (hn : h[n]? = some (some (.aA sz es gr))) (hb : G.aA n = some b)
    (k : ic G w G w') (C : w.heap.size ≤ w'.heap.size) (E : ∀ m b', G.aD m → G.aA m = some b' → m ≠ n → w'.heap[b']? = w.heap[b']?)
    (hH : kL G w' b sz W U) : fO G w' (h.set n (some (.aA sz W U))) := by
  have hlt : n < h.length := (UY.1 hn).1
  refine { aA := by simp [g.aA], aD := ?_, aE := ?_, inj := g.inj, aF := g.aF, aG := g.aG, aL := g.aL, aM := g.aM,
           aH := λm b hb => Vj (g.aH m b hb) C, aJ := λb hb => Vj (g.aJ b hb) C, aC := ?_, aI := ?_, aK := g.aK }
  · intro m
    rw [g.aD m]
    by_cases hm : n = m
    · subst hm
      exact ⟨λh => ⟨⟨_, _, _, U5 hlt⟩, h.2⟩, λh => ⟨⟨_, _, _, hn⟩, h.2⟩⟩
    · rw [UZ hm]
  · intro m b hb
    have hm : n ≠ m := by rintro rfl; rw [g.aE _ _ hb] at hn; simp at hn
    rw [UZ hm]; exact g.aE m b hb
  · intro m I O M b' hm u
    by_cases h1 : n = m
    · subst h1
      rw [hb] at u; cases u
      rw [U5 hlt] at hm
      obtain ⟨rfl, rfl, rfl⟩ : sz = I ∧ W = O ∧ U = M := by simpa using hm
      exact hH
    · rw [UZ h1] at hm
      exact (g.aC m I O M b' hm u).aA k (E m b' (g.aN hm u) u (λe => h1 e.symm))
  · intro m I O M hm u
    by_cases h1 : n = m
    · subst h1; rw [hb] at u; cases u
    · rw [UZ h1] at hm
      exact g.aI m I O M hm u
def gM (es:List (List AV))(p:Nat)(ys:List (List AV)):List (List AV):=es.take p++ys++es.drop (p+ys.length)
theorem Gt {es ys:List (List AV)}{p i j:Nat}{c:AV}(hp:p ≤ es.length)(h:gw (gM es p ys) i j=some c):
  (i<p ∧ gw es i j=some c) ∨ (p ≤ i ∧ i<p+ys.length ∧ gw ys (i-p) j=some c) ∨ (p+ys.length ≤ i ∧ gw es i j=some c):=by
 simp only[gw,gM,V_,U1,Va,VT hp]at h;rcases WB i p with h1 | h1
 ·left;rw[U4 (by omega),U4 h1,VQ h1]at h;exact⟨h1,h⟩
 ·rcases WB i (p+ys.length) with h2 | h2;·right;left;rw[U4 h2,U6 (by omega)]at h;exact⟨h1,h2,h⟩
  ·right;right;rw[U6 (by omega),Vt]at h;refine⟨h2,?_⟩;rw[show p+ys.length+(i-(p+ys.length))=i by omega]at h;exact h
theorem Ho {sz:Nat}{es ys:List (List AV)}(h:jy sz es)(h':jy sz ys)(p:Nat):jy sz (gM es p ys):=by
 intro e he;simp only[gM,VK]at he;rcases he with (he | he) | he;·exact h e (VR he)
 ·exact h' e he
 ·exact h e (VC he)
/-- elements written into a row of ours -/
theorem IV {P:Program}{G w h}(g:fO G w h){n sz es gr b p ys vs cur ty} (hn:h[n]?=some (some (.aA sz es gr))) (hb:G.aA n=some b)
  (hcur:w.heap[b]?=some (.cells cur ty (0,0))) (hrow:jK G w sz ys vs) (hp:p ≤ es.length) (hfit:(p+ys.length)*sz ≤ cur.size):
  ∃w',(storeCells ⟨b,p*sz,none⟩ vs.toList).run P w=.ok () w' ∧ gI G w G w' ∧ (∀b',b'≠b → w'.heap[b']?=w.heap[b']?) ∧
   (∀r,w'.shape? r=w.shape? r) ∧ ∀gr',(gr'=false → cur.size=(gM es p ys).length*sz) → kL G w' b sz (gM es p ys) gr':=by
 have hl:=g.aN hn hb;obtain⟨⟨cells,ty',hh,h1,h2,h3⟩,hs⟩:=g.aC n sz es gr b hn hb;rw[hcur]at hh;obtain⟨rfl,rfl⟩:cur=cells ∧ ty=ty':=by simpa using hh
 have hvl:vs.toList.length=ys.length*sz:=by simpa using hrow.aA
 have hmul:(p+ys.length)*sz=p*sz+ys.length*sz:=WI _ _ _;have hrun:=run_storeCells_at P b (p*sz) ty vs.toList 0 cur w hcur (by rw[hvl];omega) hrow.aG;simp only[WK]at hrun;generalize hnew:(cur.toList.take (p*sz)++vs.toList++cur.toList.drop (p*sz+vs.toList.length)).toArray=new at hrun;have hsize:new.size=cur.size:=by rw[← hnew];simp only[List.size_toArray,U1,Va,Vo,Array.length_toList]at *;omega
 have hheap:=Ns (c:=new) hcur;have hother:∀b',b'≠b → (w.setRow b new).heap[b']?=w.heap[b']?:=λb' hb'=>Nt (λe=>hb' e.symm);have hshape:∀r,(w.setRow b new).shape? r=w.shape? r:=by
  intro r;by_cases hr:r=b;·subst hr;simp only[World.shape?,hheap,hcur,hsize]
  ·simp only[World.shape?,hother r hr]
 have hrest:jV w (w.setRow b new):=⟨rfl,rfl,by simp[World.setRow],λx _=>by
  by_cases hr:x.block=b
  ·simp only[World.frozen?,hr,hheap,hcur]
  ·simp only[World.frozen?,hother _ hr]⟩
 have k:ic G w G (w.setRow b new):=by
  refine⟨U8 _,λ_ _ _ h=>h,λ_ _ h=>h,λ_ _ h=>h,λt b' hp=>hother b' ?_,λb _=>hshape b⟩;rintro rfl;cases t with
  | zero=>exact g.aG n _ hl hb hp
  | succ m=>exact g.aF n m _ hl hb hp
 refine⟨_,hrun,⟨k,⟨λ_ h=>h,λ_ h=>.inl h⟩,λ_ _=>rfl,λ_ _=>WA,by simp[World.setRow],λb' _ hb'=>hother b' (by rintro rfl;exact hb' (.inl ⟨n,hl,hb⟩)),λb hb=>.inl hb,hrest⟩,hother,hshape,λgr' hgr'=>?_⟩;refine⟨⟨new,ty,hheap,?_,by rw[hsize];exact hgr',?_⟩,Ho hs hrow.ok p⟩
 ·rw[hsize];simp only[gM,U1,Va,Vo,VT hp];rcases Nat.le_total (p+ys.length) es.length with hc | hc;·rw[show p+ys.length+(es.length-(p+ys.length))=es.length by omega];exact h1
  ·rw[show p+ys.length+(es.length-(p+ys.length))=p+ys.length by omega];exact hfit
 ·intro i j c hc;have hcell:∀k,new[k]?=if k<p*sz then cur[k]? else if k<p*sz+ys.length*sz then vs[k-p*sz]? else cur[k]?:=by
   intro k;rw[← hnew];simp only[VV,V_,U1,Va,Array.length_toList,hrow.aA];have e1:min (p*sz) cur.size=p*sz:=by omega
   rw[e1];rcases WB k (p*sz) with a | a;·rw[U4 (by omega),U4 a,U4 a,VQ a];simp
   ·rcases WB k (p*sz+ys.length*sz) with c | c;·rw[U4 c,U6 (by omega),U6 (by omega),U4 c];simp
    ·rw[U6 (by omega),U6 (by omega),U6 (by omega),Vt];rw[show p*sz+ys.length*sz+(k-(p*sz+ys.length*sz))=k by omega];simp
  rcases Gt hp hc with⟨a,hc'⟩ | ⟨a,b',hc'⟩ | ⟨a,hc'⟩;·obtain⟨v,hv,hV⟩:=h3 i j c hc';have hj:=(oP hs hc').2;refine⟨v,?_,hV.aA k⟩;rw[hcell,U4 (qh a hj)];exact hv
  ·obtain⟨v,hv,hV⟩:=hrow.aD _ _ _ hc';have hj:=(oP hrow.ok hc').2;have e:i*sz+j=p*sz+((i-p)*sz+j):=by rw[show i*sz=(p+(i-p))*sz by rw[Nat.add_sub_cancel' a],WI,WG]
   have hlt:=qh (n:=ys.length) (i:=i-p) (by omega) hj;refine⟨v,?_,hV.aA k⟩;rw[hcell,U6 (by omega),U4 (by omega),show i*sz+j-p*sz=(i-p)*sz+j by omega];exact hv
  ·obtain⟨v,hv,hV⟩:=h3 i j c hc';have hj:=(oP hs hc').2;have:p*sz+ys.length*sz ≤ i*sz:=by rw[← WI];exact VU _ a
   refine⟨v,?_,hV.aA k⟩;rw[hcell,U6 (by omega),U6 (by omega)];exact hv
/-! the run of append -/
theorem Nm (e:Nat):∀(r c:Nat),256 ≤ c → c<2*e → Builtin.growBy e r c ≤ 2*e:=by
 intro r;induction r with
 | zero=>intro c _ h;simp only[Builtin.growBy];omega
 | succ r ih=>
  intro c h1 h2;simp only[Builtin.growBy];split;·omega
  ·rename_i h3;by_cases h4:c+(c+768) / 4<2*e;·exact ih _ (by omega) h4
   ·have:c+(c+768) / 4 ≤ 2*e:=by omega
    have:c+(c+768) / 4=2*e:=by omega
    rw[this];cases r with
    | zero=>simp[Builtin.growBy]
    | succ r=>simp only[Builtin.growBy];rw[U4 (by omega)];omega
theorem Hf {need cap:Nat}(h:cap<need):Builtin.nextslicecap need cap ≤ 2*need:=by
 unfold Builtin.nextslicecap;split;·omega
 ·split;·omega
  ·exact Nm need 4 cap (by omega) (by omega)
structure vO (P:Program)(sT xT elem:TypeId)(cs bs:Nat)(inf:TypeInfo)(zv:Value):Prop where
 s:P.underlying sT=some (.slice elem)
 x:∃e,P.underlying xT=some (.slice e)
 aA:P.info? elem=some inf
 sz:inf.size=cs
 aC:inf.bytes=bs
 aE:inf.zero=some zv
 aD:0<bs
 aF:zv.cells.size=cs
theorem Sf {P:Program}{sT xT elem sz bytes info zero}(T:vO P sT xT elem sz bytes info zero)(ty:TypeId)(w:World)
  {base:Option Addr} {len cap k:Nat} {x:Value} {cells:Array Value} (e:(Builtin.lenOf x).run P w=.ok k w)
  (hf:(Builtin.firstCells sz k x).run P w=.ok cells w) (hr:len+k ≤ cap):
  (Builtin.append_ #[sT,xT] ty #[.slice base len cap,x]).run P w =
   match base with
   | some a=>((storeCells (a.add (len*sz)) cells.toList).run P w).andThen λ_ w'=>.ok (.slice base (len+k) cap) w'
   | none=>.ok (.slice base (len+k) cap) w:=by
 obtain⟨d,hd⟩:=T.x;cases base with
 | none=>
  simp only[Builtin.append_,Sem.run_bind,Sem.run_pure,Result.andThen_ok,run_underlying T.s,run_underlying hd,Go.sizeOf,run_typeInfo w T.aA,T.sz,VV,Vw,
     V8,Vn,VI,e,Sem.run_ite,U4 hr,VN,VS,hf]
 | some a=>
  simp only[Builtin.append_,Sem.run_bind,Sem.run_pure,Result.andThen_ok,run_underlying T.s,run_underlying hd,Go.sizeOf,run_typeInfo w T.aA,T.sz,VV,Vw,
     V8,Vn,VI,e,Sem.run_ite,U4 hr,VN,VS,hf]
theorem Se {P:Program}{sT xT elem sz bytes info zero}(T:vO P sT xT elem sz bytes info zero)(ty:TypeId)(w:World)
  {s x:Value} {base:Option Addr} {len cap k:Nat} {old cells:Array Value} (hs:s=.slice base len cap) (C:(Builtin.lenOf x).run P w=.ok k w)
  (e1:(Builtin.firstCells sz len s).run P w.drew=.ok old w.drew) (e2:(Builtin.firstCells sz k x).run P w.drew=.ok cells w.drew)
  (hr:¬len+k ≤ cap) (hb:(len+k)*bytes ≤ 2^46):
  ∃e rest,len+k ≤ e ∧ rest.size=(e-(len+k))*sz ∧ (Builtin.append_ #[sT,xT] ty #[s,x]).run P w =
   .ok (.slice (some ⟨w.heap.size,0,none⟩) (len+k) e) (w.drew.alloc (.cells (old++cells++rest) elem)):=by
 subst hs;obtain⟨d,hd⟩:=T.x;have hcap:Builtin.nextslicecap (len+k) cap*bytes ≤ 2^48:=by have h1:=Hf (need:=len+k) (cap:=cap) (by omega);have h2:=VU bytes h1;rw[Nat.mul_assoc]at h2;omega
 have hq:(Question.appendCap (len+k) cap elem).forced=false:=rfl;refine⟨(Question.appendCap (len+k) cap elem).cut (w.tape w.drawn (.appendCap (len+k) cap elem)),
  Builtin.zeroCells zero.cells ((Question.appendCap (len+k) cap elem).cut (w.tape w.drawn (.appendCap (len+k) cap elem))-(len+k)),?_,?_,?_⟩
 ·simp only[Question.cut];omega
 ·simp[Builtin.zeroCells,T.aF]
 ·have E:¬bytes=0:=Nat.ne_of_gt T.aD;have u:¬(2^48<Builtin.nextslicecap (len+k) cap*bytes):=by omega
  have M:{w with drawn:=w.drawn+1}=w.drew:=rfl;have hn1:¬(((len+k:Nat):Int)>IntKind.i64.max ∧ (false=true ∨ bytes=0)):=by
   rintro⟨_,h | h⟩;·cases h
   ·exact E h
  have I:¬(Builtin.nextslicecap (len+k) cap*bytes>2^48):=u;simp only[Builtin.append_,Sem.run_bind,Sem.run_pure,Result.andThen_ok,run_underlying T.s,run_underlying hd,Go.sizeOf,run_typeInfo _ T.aA,T.sz,VV,Vw,
     V8,Vn,VI,C,Sem.run_ite,U6 hr,T.aC,I,false_or,E,and_false,run_choose,hq,M,run_askRoom,e1,e2,VN,VS,
     zeroValue,T.aE,newRow,run_newObj]
  rfl
def gR (h:eX)(sz:Nat)(es:List (List AV)):AV×eX:=(.aG h.length sz 0 es.length none,h++[some (.aA sz es true)])
/-- append: of elements -/
def iu (h:eX)(sz bytes:Nat)(x:AV)(ys:List (List AV)):Option (AV×eX):=
 match x with
 | .aD=>if ys.length*bytes ≤ 2^46 then some (gR h sz ys) else none
 | .aG n sz' off len cap=>
  match h[n]? with
  | some (some (.aA sz'' es g))=>
   if sz=sz' ∧ sz=sz'' ∧ off+len ≤ es.length ∧ (len+ys.length)*bytes ≤ 2^46 then
    match cap with
    | some (c+1)=>
     if c+1<len+ys.length then some (gR h sz ((es.drop off).take len++ys))
     else if off+len+ys.length ≤ es.length then some (.aG n sz off (len+ys.length) (some (c+1)),h.set n (some (.aA sz (gM es (off+len) ys) g)))
     else none
    | some 0=>if len=0 then (if ys.length=0 then some (x,h) else some (gR h sz ys)) else none
    | none=>if off=0 then some (gR (h.set n none) sz (es.take len++ys)) else none
   else none
  | _=>none
 | .aM _ clip sz' es=>
  if sz=sz' ∧ (es.length+ys.length)*bytes ≤ 2^46 then
   if ys.length=0 then some (x,h) else if clip=true then some (gR h sz (es++ys)) else none
  else none
 | _=>none
/-- append -/
def nR (h:eX)(sz bytes:Nat)(x y:AV):Option (AV×eX):=
 match iU h sz y with
 | none=>none
 | some ys=>iu h sz bytes x ys
theorem jK.aF {G w sz es ys c1 c2}(h1:jK G w sz es c1)(h2:jK G w sz ys c2):jK G w sz (es++ys) (c1++c2):=by
 refine⟨λe he=>?_,by simp[h1.aA,h2.aA,WI],λi j c hc=>?_⟩
 ·rcases VK.1 he with h | h;·exact h1.ok e h
  ·exact h2.ok e h
 ·simp only[gw,V_]at hc;split at hc;·rename_i hi;have u:gw es i j=some c:=hc;obtain⟨v,hv,hV⟩:=h1.aD i j c u;have:=qh hi (oP h1.ok u).2;exact⟨v,by rw[WX,U4 (by rw[h1.aA];exact this)];exact hv,hV⟩
  ·rename_i hi;have u:gw ys (i-es.length) j=some c:=hc;obtain⟨v,hv,hV⟩:=h2.aD _ j c u;have e:i*sz+j=es.length*sz+((i-es.length)*sz+j):=by rw[show i*sz=(es.length+(i-es.length))*sz by rw[Nat.add_sub_cancel' (by omega)],WI,WG]
   refine⟨v,?_,hV⟩;rw[WX,U6 (by rw[h1.aA];omega),h1.aA,show i*sz+j-es.length*sz=(i-es.length)*sz+j by omega];exact hv
/-- the new row that a growing append makes -/
theorem Co {P:Program}{G w h}(g:fO G w h){sz es cells rest}(u:jK G w sz es cells)(C:TypeId){e:Nat}(O:es.length ≤ e)(I:rest.size=(e-es.length)*sz)
  {s:Sem Value} (M:s.run P w=.ok (.slice (some ⟨w.heap.size,0,none⟩) es.length e) (w.drew.alloc (.cells (cells++rest) C))):
  mK P s G w (gR h sz es).1 (gR h sz es).2:=by
 have gd:fO G w.drew h:=g.aT rfl;have st:gI G w G w.drew:=gI.aK G w _;have E:(cells++rest).size=e*sz:=by rw[Array.size_append,u.aA,I,← WI,Nat.add_sub_cancel' O]
 have k:=gd.aX (.cells (cells++rest) C);refine⟨_,_,G.aC (some w.heap.size),M,?_,?_,st.aI (gd.bA _ _)⟩;·refine gd.a_ u.ok (by rw[E];exact VU _ O) (by simp) (λi j c hc=>?_);obtain⟨v,hv,hV⟩:=u.aD i j c hc;have:=oP u.ok hc;have hlt:=qh this.1 this.2;exact⟨v,by rw[WX,U4 (by rw[u.aA];exact hlt)];exact hv,hV.aA st.aA⟩
 ·have:=V.aC (G:=G.aC (some w.heap.size)) (w:=w.drew.alloc (.cells (cells++rest) C)) h.length sz 0 es.length none e C (e*sz) w.heap.size
   (by rw[g.aA];exact Nat.lt_succ_self _) (by rw[g.aA];simp[Gh.aC]) O (by simp) (by rw[← E];simp only[World.shape?];rw[show w.heap.size=w.drew.heap.size from rfl,uZ]) (by simp)
  simpa [gR] using this
theorem jK.aE (G w sz):jK G w sz [] #[]:=⟨λe he=>by simp at he,by simp,λi j c hc=>by simp[gw]at hc⟩
/-- a name for a nil row -/
theorem Hg {G w h}(g:fO G w h)(sz:Nat)(gr:Bool)(cap:Option Nat)(hc:∀k,cap=some k → k=0):
  fO (G.aC none) w (h++[some (.aA sz [] gr)]) ∧ V (G.aC none) w (.aG h.length sz 0 0 cap) (.slice none 0 0) ∧ gI G w (G.aC none) w:=by
 have k:=g.bt none;refine⟨g.aW k (U8 _) (λ_ _ _ _=>rfl) (by simp) (by simp) (λ_=>rfl),?_,⟨k,⟨λ_ h=>h,λ_ h=>.inl h⟩,λn hn=>by simp only[Gh.aC,WS hn,VI],λn hn=>by simp only[Gh.aC,WS hn,VI],U8 _,λ_ _ _=>rfl,λb hb=>?_,jV.aA w⟩⟩;·rw[g.aA];exact .aH _ _ _ (Nat.lt_succ_self _) (by simp[Gh.aC]) hc
 ·rcases hb with⟨n,hn,he⟩ | ⟨n,hn⟩
  ·by_cases h:n=G.N
   ·simp[Gh.aC,h]at he
   ·simp only[Gh.aC,h,VI]at he;exact .inl (.inl ⟨n,hn.resolve_right (λx=>h x.1),he⟩)
  ·exact .inl (.inr ⟨n,hn⟩)
/-- a row gets another name -/
theorem Q4 {G w h}(g:fO G w h){n sz es gr b} (hn:h[n]?=some (some (.aA sz es gr))) (hb:G.aA n=some b) (u:Bool) (C:u=false → gr=false):
  fO ((G.aH n).aC (some b)) w (h.set n none++[some (.aA sz es u)]) ∧ gI G w ((G.aH n).aC (some b)) w:=by
 have gk:=g.aR hn;have k:=gk.bt (some b);have hl:=g.aN hn hb;have hH:=g.aC n sz es gr b hn hb;refine⟨gk.aW k (U8 _) (λ_ _ _ _=>rfl) ?_ ?_ (by simp),⟨(G.aO w n).aG k,⟨λ_ h=>h,λ_ h=>.inl h⟩,λm hm=>by simp only[Gh.aC,Gh.aH,WS hm,VI],λm hm=>by simp only[Gh.aC,Gh.aH,WS hm,VI],U8 _,λ_ _ _=>rfl,λx hx=>?_,jV.aA w⟩⟩;·rintro b' ⟨⟩;exact⟨λm hm he=>hm.2 (g.inj m n _ hm.1 hl he hb),λm ht=>g.aF n m _ hl hb ht,g.aG n _ hl hb⟩
 ·rintro b' ⟨⟩;have:=(hH.aA (G.aO w n) rfl).aA k rfl;exact⟨this.ex.elim λc hc=>hc.elim λt ht=>⟨c,t,ht.1,ht.2.1,λe=>ht.2.2.1 (C e),ht.2.2.2⟩,this.sz⟩
 ·rcases hx with⟨m,hm,he⟩ | ⟨m,hm⟩
  ·by_cases h:m=(G.aH n).N
   ·simp[Gh.aC,h]at he;subst he;exact .inl (.inl ⟨n,hl,hb⟩)
   ·simp only[Gh.aC,h,VI]at he;exact .inl (.inl ⟨m,(hm.resolve_right (λx=>h x.1)).1,he⟩)
  ·exact .inl (.inr ⟨m,hm⟩)
theorem ic.aH {G w w'}(h:w'.heap=w.heap):ic G w G w':=
 ⟨U8 _,λ_ _ _ h=>h,λ_ _ h=>h,λ_ _ h=>h,λ_ _ _=>by rw[h],λ_ _=>by simp only[World.shape?,h]⟩
/-- the elements from the start of a row -/
theorem kL.aF {G w b sz es gr}(hh:kL G w b sz es gr)(u:List (List AV))(hp:u<+:es):kL G w b sz u true:=by
 obtain⟨⟨cells,ty,h1,h2,h3,h4⟩,hs⟩:=hh;obtain⟨t,rfl⟩:=hp;refine⟨⟨cells,ty,h1,?_,by simp,λi j c hc=>h4 i j c ?_⟩,λe he=>hs e (List.mem_append_left _ he)⟩;·refine Vh (VU _ ?_) h2;simp
 ·unfold gw at hc ⊢;cases hq:u[i]? with
  | none=>rw[hq]at hc;cases hc
  | some e=>rw[Vy (UY.1 hq).1,hq];rw[hq]at hc;exact hc
theorem EC {P:Program}{G w h sz bytes x r h' vx}(g:fO G w h)(hx:V G w x vx){ys:List (List AV)}{cells cellsG:Array Value}(hrow:jK G w sz ys cells)(hrowG:jK G w sz ys cellsG)
  (hr:iu h sz bytes x ys=some (r,h')) (elem:TypeId) {S:Value → Sem Value}
  (room:∀{base:Option Addr}{len cap:Nat},len+ys.length ≤ cap → (S (.slice base len cap)).run P w =
   match base with
   | some a=>((storeCells (a.add (len*sz)) cells.toList).run P w).andThen λ_ w'=>.ok (.slice base (len+ys.length) cap) w'
   | none=>.ok (.slice base (len+ys.length) cap) w)
  (growr:∀{s:Value}{base:Option Addr}{len cap:Nat}{old:Array Value},s=.slice base len cap → (Builtin.firstCells sz len s).run P w.drew=.ok old w.drew →
   ¬len+ys.length ≤ cap → (len+ys.length)*bytes ≤ 2^46 →
   ∃newCap rest,len+ys.length ≤ newCap ∧ rest.size=(newCap-(len+ys.length))*sz ∧ (S s).run P w =
    .ok (.slice (some ⟨w.heap.size,0,none⟩) (len+ys.length) newCap) (w.drew.alloc (.cells (old++cellsG++rest) elem))):
  mK P (S vx) G w r h':=by
 unfold iu at hr;have kd:ic G w G w.drew:=ic.aH rfl;have gd:fO G w.drew h:=g.aT rfl;have grow:∀{base:Option Addr}{len cap:Nat} {es:List (List AV)} {old:Array Value},vx=.slice base len cap → es.length=len →
   (Builtin.firstCells sz len vx).run P w.drew=.ok old w.drew → jK G w sz es old → ¬len+ys.length ≤ cap → (len+ys.length)*bytes ≤ 2^46 →
   mK P (S vx) G w (gR h sz (es++ys)).1 (gR h sz (es++ys)).2:=by
  intro base len cap es old hv hl ho hro hno hb;obtain⟨nc,rest,h1,h2,h3⟩:=growr hv ho hno hb;have hlen':(es++ys).length=len+ys.length:=by simp[hl]
  refine Co g (hro.aF hrowG) elem (by rw[hlen'];exact h1) (by rw[hlen'];exact h2) ?_;rw[h3,hlen']
 split at hr
 · -- nil
  cases hx;split at hr
  ·rename_i hb;cases hr;by_cases h0:ys.length=0;·have hys0:ys=[]:=U7 h0;subst hys0;obtain⟨a,b,c⟩:=Hg g sz true none (by simp);refine⟨.slice none 0 0,w,G.aC none,?_,a,b,c⟩;rw[room (by simp)];rfl
   ·have:=grow (base:=none) (len:=0) (cap:=0) (es:=[]) (old:=#[]) rfl rfl rfl (jK.aE _ _ _) (by omega) (by simpa using hb);simpa [gR] using this
  ·cases hr
 ·rename_i n sz' off len cap;split at hr
  ·rename_i sz'' es gr hn;split at hr
   ·rename_i hh;obtain⟨rfl,rfl,hle,hb⟩:=hh;cases hx with
    | aH _ _ _ hnN hnl hcap=>
     have hes0:=g.aI n _ _ _ hn (g.aK n hnl);subst hes0;split at hr;·rename_i c;exact absurd (hcap _ rfl) (by omega)
     ·rw[U4 rfl]at hr;split at hr;·rename_i h0;cases hr;have hys0:ys=[]:=U7 h0;subst hys0;exact mK.aA g (by rw[room (by simp)];rfl) (.aH _ _ _ hnN hnl hcap)
      ·rename_i h0;cases hr;have:=grow (base:=none) (len:=0) (cap:=0) (es:=[]) (old:=#[]) rfl rfl rfl (jK.aE _ _ _) (by omega) (by simpa using hb);simpa [gR] using this
     ·rw[U4 rfl]at hr;cases hr;have gk:=g.aR hn;have stk:=G.aQ w n;by_cases h0:ys.length=0;·have hys0:ys=[]:=U7 h0;subst hys0;obtain⟨a,b,c⟩:=Hg gk sz true none (by simp);refine⟨.slice none 0 0,w,_,?_,a,b,stk.aI c⟩;rw[room (by simp)];rfl
      ·obtain⟨nc,rest,h1,h2,h3⟩:=growr (s:=.slice none 0 0) (old:=#[]) rfl rfl (by omega) (by simpa using hb);simp only[WR]at h1 h2 h3;obtain⟨v,w',G',a,b,c,d⟩:=Co (P:=P) gk (hrowG.aC stk.aA) elem h1 h2 (by rw[h3];simp);exact⟨v,w',G',a,by simpa [gR] using b,by simpa [gR] using c,stk.aI d⟩
    | aC _ _ _ _ _ c tyb m b hnN hnb hl hcap hsh hm=>
     obtain⟨cur,tyc,hcur,hcl,hcg,_⟩:=(g.aC n sz es gr b hn hnb).ex;have hmcur:m=cur.size:=by simp[World.shape?,hcur]at hsh;exact hsh.2.symm
     have hmid:((es.drop off).take len).length=len:=by simp;omega
     have hlive:=g.aN hn hnb;have place:len+ys.length ≤ c → off+len ≤ es.length →
       ∃w',(S (.slice (some ⟨b,off*sz,none⟩) len c)).run P w=.ok (.slice (some ⟨b,off*sz,none⟩) (len+ys.length) c) w' ∧ gI G w G w' ∧
        (∀b',b'≠b → w'.heap[b']?=w.heap[b']?) ∧ (∀r,w'.shape? r=w.shape? r) ∧
        ∀gr',(gr'=false → cur.size=(gM es (off+len) ys).length*sz) → kL G w' b sz (gM es (off+len) ys) gr':=by
      intro hroom hp;have hfit:(off+len+ys.length)*sz ≤ cur.size:=by refine Vh (VU sz ?_) (hmcur▸hm);omega
      obtain⟨w',hst,stp,hoth,hshp,hH⟩:=IV (P:=P) g hn hnb hcur hrow hp hfit;refine⟨w',?_,stp,hoth,hshp,hH⟩;rw[room hroom];simp only[pw,← WI,hst,Result.andThen_ok]
     have growing:¬len+ys.length ≤ c → mK P (S (.slice (some ⟨b,off*sz,none⟩) len c)) G w (gR h sz ((es.drop off).take len++ys)).1 (gR h sz ((es.drop off).take len++ys)).2:=by intro hno;obtain⟨old,hrun,hro⟩:=(((g.aC n sz es gr b hn hnb).aA kd rfl).aC off len).aA (P:=P);rw[hmid]at hrun;exact grow (base:=some ⟨b,off*sz,none⟩) (len:=len) (cap:=c) rfl hmid hrun (hro.aC (ic.aH (G:=G) (w:=w.drew) (w':=w) rfl)) hno hb
     split at hr
     ·rename_i c';have hc:=hcap _ rfl;subst hc;split at hr;·rename_i hgrow;cases hr;exact growing (by omega)
      ·split at hr
       ·rename_i hng hin;cases hr;obtain⟨w',hrun,stp,hoth,hshp,hH⟩:=place (by omega) (by omega);have hspl:(gM es (off+len) ys).length=es.length:=by simp[gM];omega
        refine⟨_,w',G,hrun,?_,?_,stp⟩;·exact g.aV hn hnb stp.aA stp.aC (λm b' hm hb' hne=>hoth b' (by rintro rfl;exact hne (g.inj m n _ hm hlive hb' hnb))) (hH gr (λe=>by rw[hspl];exact hcg e))
        ·exact .aC _ _ _ _ _ _ tyb m b hnN hnb (by omega) (by simp) (by rw[hshp];exact hsh) hm
       ·cases hr
     ·have hc:=hcap _ rfl;subst hc;split at hr
      ·rename_i hl0;subst hl0;split at hr
       ·rename_i h0;cases hr;have hcells:cells=#[]:=by have:=hrow.aA;rw[h0,Nat.zero_mul]at this;exact Wu this
        subst hcells;refine mK.aA g ?_ (.aC _ _ _ _ _ _ tyb m b hnN hnb hl hcap hsh hm);rw[room (by omega)];simp[h0,storeCells]
       ·rename_i h0;cases hr;have:=growing (by omega);simpa [gR] using this
      ·cases hr
     ·split at hr
      ·rename_i hwhole;subst hwhole;cases hr;have hlel:len ≤ es.length:=by omega
       have htl:(es.take len).length=len:=by simp;omega
       by_cases hroom:len+ys.length ≤ c
       ·obtain⟨w',hrun,stp,hoth,hshp,hH⟩:=place hroom (by omega);have hH':=(hH true (by simp)).aF (es.take len++ys) (by simp[gM]);have gu:=g.aV hn hnb stp.aA stp.aC (λm b' hm hb' hne=>hoth b' (by rintro rfl;exact hne (g.inj m n _ hm hlive hb' hnb))) hH';have hlt:n<h.length:=(UY.1 hn).1;obtain⟨a,st2⟩:=Q4 gu (U5 hlt) hnb true (by simp);rw[VX]at a;refine⟨_,w',_,hrun,a,?_,stp.aI st2⟩;have:=V.aC (G:=(G.aH n).aC (some b)) (w:=w') (h.set n none).length sz 0 (es.take len++ys).length none c tyb m b
         (by simp[g.aA,Gh.aC,Gh.aH]) (by simp[g.aA,Gh.aC,Gh.aH]) (by rw[U1,htl];exact hroom) (by simp) (by rw[hshp];exact hsh) (by simpa using hm)
        simpa [gR,VT hlel] using this
       ·have gk:=g.aR hn;have stk:=G.aQ w n;obtain⟨old,hrun,hro⟩:=(((g.aC n sz es gr b hn hnb).aA kd rfl).aC 0 len).aA (P:=P);have hmid':(es.drop 0).take len=es.take len:=by simp
        rw[hmid',htl]at hrun;rw[hmid']at hro;obtain⟨nc,rest,h1,h2,h3⟩:=growr (s:=.slice (some ⟨b,0*sz,none⟩) len c) (old:=old) rfl hrun hroom hb;have hlen':(es.take len++ys).length=len+ys.length:=by rw[U1,htl]
        have hro':jK G w sz (es.take len) old:=hro.aC (ic.aH (G:=G) (w:=w.drew) (w':=w) rfl);obtain⟨v,w',G',a,b',c',d⟩:=Co (P:=P) gk ((hro'.aF hrowG).aC stk.aA) elem (by rw[hlen'];exact h1) (by rw[hlen'];exact h2) (by rw[h3,hlen']);exact⟨v,w',G',a,b',c',stk.aI d⟩
      ·cases hr
   ·cases hr
  ·cases hr
 ·rename_i t clip sz' es;split at hr
  ·rename_i hh;obtain⟨rfl,hb⟩:=hh;split at hr
   ·rename_i h0;cases hr;refine mK.aA g ?_ hx;cases hx with
    | aF=>rw[room (by omega)];simp[h0]
    | aE _ _ _ _ a cap f hl hcl hsp hp hes hc hV=>
     rw[room (by omega)];have:cells=#[]:=by have:=hrow.aA;rw[h0,Nat.zero_mul]at this;exact Wu this
     subst this;simp[h0,storeCells]
   ·rename_i h0;split at hr
    ·rename_i hclip;cases hr;cases hx with
     | aF=>have:=grow (base:=none) (len:=0) (cap:=0) (es:=[]) (old:=#[]) rfl rfl rfl (jK.aE _ _ _) (by omega) (by simpa using hb);simpa [gR] using this
     | aE _ _ _ _ a cap f hl hcl hsp hp hes hc hV=>
      have hcap:=hcl hclip;obtain⟨old,hrun,hro⟩:=uD.aA (P:=P) (G:=G) (w:=w.drew) (b:=a.block) (o:=a.off) (sz:=sz) (es:=es) ⟨hes,f,hc,λi j c hc=>(hV i j c hc).aA kd⟩;have hfc:(Builtin.firstCells sz es.length (.slice (some a) es.length cap)).run P w.drew=.ok old w.drew:=by
       by_cases hcz:cap=0
       ·have hl0:es.length=0:=by omega
        have:old=#[]:=by have:=hro.aA;rw[hl0,Nat.zero_mul]at this;exact Wu this
        subst this;rw[hl0];simp[Builtin.firstCells,loadCells,loadCellsFrom]
       ·have ha:a=⟨a.block,a.off,none⟩:=by have:=hsp hcz;cases a;simp at this;simp[this]
        rw[ha];exact hrun
      refine grow (base:=some a) (len:=es.length) (cap:=cap) (es:=es) (old:=old) rfl rfl ?_ (hro.aC (ic.aH (G:=G) (w:=w.drew) (w':=w) rfl)) (by omega) hb;exact hfc
    ·cases hr
  ·cases hr
 ·cases hr
theorem JK {P:Program}{G w h sz bytes x y r h' vx vy}(g:fO G w h)(hx:V G w x vx)(hy:V G w y vy)(hr:nR h sz bytes x y=some (r,h'))
  {sT xT elem info zero} (T:vO P sT xT elem sz bytes info zero) (ty:TypeId):
  mK P (Builtin.append_ #[sT,xT] ty #[vx,vy]) G w r h':=by
 unfold nR at hr;cases I:iU h sz y with
 | none=>simp[I]at hr
 | some ys=>
 simp only[I]at hr;have kd:ic G w G w.drew:=ic.aH rfl;have gd:fO G w.drew h:=g.aT rfl;obtain⟨E,hok,cells,hf,M⟩:=EI (P:=P) g hy I;obtain⟨_,_,u,U,e⟩:=EI (P:=P) gd (hy.aA kd) I;have C:jK G w sz ys u:=e.aC (ic.aH (G:=G) (w:=w.drew) (w':=w) rfl);exact EC g hx M C hr elem (S:=λs=>Builtin.append_ #[sT,xT] ty #[s,vy]) (λhl=>Sf T ty w E hf hl)
  (λhv ho O hb=>Se T ty w hv E ho U O hb)
/-! zeros: 'append(s,make([]T,n)...)' and 'clear' -/
theorem yg {c:Int}(h0:0 ≤ c)(h1:c ≤ 2^46):IntKind.i64.wrap c=c:=by
 have e:(2:Int)^64=18446744073709551616:=by decide
 have e':(2:Int)^63=9223372036854775808:=by decide
 have e2:(2:Int)^46=70368744177664:=by decide
 rw[e2]at h1;simp only[IntKind.wrap,IntKind.bits,IntKind.signed,Xs,e,VD];rw[show (64-1:Nat)=63 from rfl,e'];rw[Int.emod_eq_of_lt h0 (by omega),U6 (by omega)]
theorem IY {G w}{z:Array Value}{sz:Nat}(hz:z.size=sz)(I:(z.toList.map jn).all AV.aH=true)(n:Nat):
  jK G w sz (List.replicate n (z.toList.map jn)) (Builtin.zeroCells z n):=by
 have u:jy sz (List.replicate n (z.toList.map jn)):=by intro e he;rw[List.mem_replicate]at he;rw[he.2];exact⟨by simp[hz],I⟩
 refine⟨u,by simp[Builtin.zeroCells,hz],λi j c hc=>?_⟩;obtain⟨hi,hj⟩:=oP u hc;rw[Wo]at hi;have hlt:=qh (n:=n) hi hj;have C:j<z.size:=by omega
 simp only[gw,WC,hi,VS,Wi,VE]at hc;have E:z.toList[j]?=some z[j]:=by simp[C]
 rw[E]at hc;simp only[Ws,U_]at hc;subst hc;refine⟨z[j],?_,V.aT G w _⟩;simp only[Builtin.zeroCells,Array.getElem?_map,hz];rw[Array.getElem?_range,U4 hlt];simp only[Ws,Nat.mul_add_mod',Nat.mod_eq_of_lt hj];rw[getElem!_pos z j C]
structure vP (P:Program)(sT xT elem:TypeId)(cs bs:Nat)(inf:TypeInfo)(zv:Value):Prop where
 s:P.underlying sT=some (.slice elem)
 x:∃k,P.underlying xT=some (.int k)
 aC:P.info? elem=some inf
 sz:inf.size=cs
 aA:inf.bytes=bs
 aE:inf.zero=some zv
 aD:0<bs
 aF:zv.cells.size=cs
theorem Sd {P:Program}{sT xT elem sz bytes info zero}(T:vP P sT xT elem sz bytes info zero)(ty:TypeId)(w:World)
  {base:Option Addr} {len cap:Nat} {k:IntKind} {n:Int} (h0:0 ≤ n) (hb:n*bytes ≤ 2^46) (hr:len+n.toNat ≤ cap):
  (Builtin.append_ #[sT,xT] ty #[.slice base len cap,.int k n]).run P w =
   match base with
   | some a=>((storeCells (a.add (len*sz)) (Builtin.zeroCells zero.cells n.toNat).toList).run P w).andThen λ_ w'=>.ok (.slice base (len+n.toNat) cap) w'
   | none=>.ok (.slice base (len+n.toNat) cap) w:=by
 obtain⟨d,hd⟩:=T.x;have C:n ≤ 2^46:=by have h1:n*1 ≤ n*bytes:=Int.mul_le_mul_of_nonneg_left (by have:=T.aD;omega) h0;omega
 have hw:=yg h0 C;have e2:(2:Int)^46=70368744177664:=by decide
 have e3:(2:Int)^48=281474976710656:=by decide
 have e:¬(n*(bytes:Int)>2^48):=by omega
 have u:¬n<0:=by omega
 have hz:n.toNat*sz=0 → Builtin.zeroCells zero.cells n.toNat=#[]:=by intro h;simp[Builtin.zeroCells,T.aF,h]
 cases base with
 | none=>
  simp only[Builtin.append_,Sem.run_bind,Sem.run_pure,Result.andThen_ok,run_underlying T.s,run_underlying hd,Go.sizeOf,run_typeInfo w T.aC,T.sz,T.aA,VV,Vw,
     V8,VS,asInt,asIntOf,hw,u,e,VI,Sem.run_ite,U4 hr,VF,Vn,zeroValue,T.aE]
  split<;>simp
 | some a=>
  by_cases h:n.toNat*sz=0
  ·simp only[Builtin.append_,Sem.run_bind,Sem.run_pure,Result.andThen_ok,run_underlying T.s,run_underlying hd,Go.sizeOf,run_typeInfo w T.aC,T.sz,T.aA,VV,Vw,
     V8,VS,asInt,asIntOf,hw,u,e,VI,Sem.run_ite,U4 hr,VF,Vn,zeroValue,h,hz h]
  ·simp only[Builtin.append_,Sem.run_bind,Sem.run_pure,Result.andThen_ok,run_underlying T.s,run_underlying hd,Go.sizeOf,run_typeInfo w T.aC,T.sz,T.aA,VV,Vw,
     V8,VS,asInt,asIntOf,hw,u,e,VI,Sem.run_ite,U4 hr,VF,Vn,zeroValue,T.aE,U6 h]
theorem Sc {P:Program}{sT xT elem sz bytes info zero}(T:vP P sT xT elem sz bytes info zero)(ty:TypeId)(w:World)
  {s:Value} {base:Option Addr} {len cap:Nat} {old:Array Value} {k:IntKind} {n:Int} (h0:0 ≤ n) (hs:s=.slice base len cap)
  (e1:(Builtin.firstCells sz len s).run P w.drew=.ok old w.drew)
  (hr:¬len+n.toNat ≤ cap) (hb:(len+n.toNat)*bytes ≤ 2^46):
  ∃e rest,len+n.toNat ≤ e ∧ rest.size=(e-(len+n.toNat))*sz ∧ (Builtin.append_ #[sT,xT] ty #[s,.int k n]).run P w =
   .ok (.slice (some ⟨w.heap.size,0,none⟩) (len+n.toNat) e) (w.drew.alloc (.cells (old++Builtin.zeroCells zero.cells n.toNat++rest) elem)):=by
 subst hs;obtain⟨d,hd⟩:=T.x;have hcap:Builtin.nextslicecap (len+n.toNat) cap*bytes ≤ 2^48:=by have h1:=Hf (need:=len+n.toNat) (cap:=cap) (by omega);have h2:=VU bytes h1;rw[Nat.mul_assoc]at h2;omega
 have hq:(Question.appendCap (len+n.toNat) cap elem).forced=false:=rfl;have W:n.toNat*bytes ≤ 2^46:=Vh (VU _ (Nat.le_add_left _ _)) hb;have hnbz:n*(bytes:Int) ≤ 2^46:=by
  have:((n.toNat*bytes:Nat):Int)=n*(bytes:Int):=by rw[Int.natCast_mul,Int.toNat_of_nonneg h0]
  rw[← this];have e2:(2:Int)^46=((2^46:Nat):Int):=by decide
  rw[e2];exact Int.ofNat_le.2 W
 have I:n ≤ 2^46:=by have h1:n*1 ≤ n*bytes:=Int.mul_le_mul_of_nonneg_left (by have:=T.aD;omega) h0;omega
 have hlen46:len+n.toNat ≤ 2^46:=by have h1:(len+n.toNat)*1 ≤ (len+n.toNat)*bytes:=Nat.mul_le_mul_left _ T.aD;omega
 have hw:=yg h0 I;have e2:(2:Int)^46=70368744177664:=by decide
 have e3:(2:Int)^48=281474976710656:=by decide
 have E:¬(n*(bytes:Int)>2^48):=by omega
 have M:¬n<0:=by omega
 have hz:n.toNat*sz=0 → Builtin.zeroCells zero.cells n.toNat=#[]:=by intro h;simp[Builtin.zeroCells,T.aF,h]
 refine⟨(Question.appendCap (len+n.toNat) cap elem).cut (w.tape w.drawn (.appendCap (len+n.toNat) cap elem)),
  Builtin.zeroCells zero.cells ((Question.appendCap (len+n.toNat) cap elem).cut (w.tape w.drawn (.appendCap (len+n.toNat) cap elem))-(len+n.toNat)),?_,?_,?_⟩
 ·simp only[Question.cut];omega
 ·simp[Builtin.zeroCells,T.aF]
 ·have hb0:¬bytes=0:=Nat.ne_of_gt T.aD;have C:¬(2^48<Builtin.nextslicecap (len+n.toNat) cap*bytes):=by omega
  have U:{w with drawn:=w.drawn+1}=w.drew:=rfl;have u:¬(((len+n.toNat:Nat):Int)>IntKind.i64.max):=by
   have:IntKind.i64.max=9223372036854775807:=by decide
   rw[this];omega
  have O:¬(Builtin.nextslicecap (len+n.toNat) cap*bytes>2^48):=C;by_cases h:n.toNat*sz=0
  ·simp only[Builtin.append_,Sem.run_bind,Sem.run_pure,Result.andThen_ok,run_underlying T.s,run_underlying hd,Go.sizeOf,run_typeInfo _ T.aC,T.sz,VV,Vw,
     V8,Vn,VI,Sem.run_ite,U6 hr,T.aA,O,u,false_and,run_choose,hq,U,run_askRoom,e1,VF,VS,
     zeroValue,T.aE,newRow,run_newObj,asInt,asIntOf,hw,M,E,h,hz h]
   rfl
  ·simp only[Builtin.append_,Sem.run_bind,Sem.run_pure,Result.andThen_ok,run_underlying T.s,run_underlying hd,Go.sizeOf,run_typeInfo _ T.aC,T.sz,VV,Vw,
     V8,Vn,VI,Sem.run_ite,U6 hr,T.aA,O,u,false_and,run_choose,hq,U,run_askRoom,e1,VF,VS,
     zeroValue,T.aE,newRow,run_newObj,asInt,asIntOf,hw,M,E,U6 h]
   rfl
def sN (h:eX)(sz bytes:Nat)(zero:List AV)(x y:AV):Option (AV×eX):=
 match y with
 | .aA _ n=>if 0 ≤ n ∧ n*bytes ≤ 2^46 then iu h sz bytes x (List.replicate n.toNat zero) else none
 | _=>none
theorem JJ {P:Program}{G w h sz bytes x y r h' vx vy}(g:fO G w h)(hx:V G w x vx)(hy:V G w y vy)
  {sT xT elem info zero} (T:vP P sT xT elem sz bytes info zero) (hsc:(zero.cells.toList.map jn).all AV.aH=true)
  (hr:sN h sz bytes (zero.cells.toList.map jn) x y=some (r,h')) (ty:TypeId):
  mK P (Builtin.append_ #[sT,xT] ty #[vx,vy]) G w r h':=by
 unfold sN at hr;split at hr
 ·rename_i k n;cases hy;split at hr
  ·rename_i hh;have hrow:jK G w sz (List.replicate n.toNat (zero.cells.toList.map jn)) (Builtin.zeroCells zero.cells n.toNat):=IY T.aF hsc _;refine EC g hx hrow hrow hr elem (S:=λs=>Builtin.append_ #[sT,xT] ty #[s,.int k n]) ?_ ?_;·intro base len cap hl;rw[Wo]at hl ⊢;exact Sd T ty w hh.1 hh.2 hl
   ·intro s base len cap old hv ho hno hb;rw[Wo]at hno hb ⊢;exact Sc T ty w hh.1 hv ho hno hb
  ·cases hr
 ·cases hr
/-- 'clear' of a slice -/
def pZ (h:eX)(sz:Nat)(zero:List AV)(x:AV):Option eX:=
 match x with
 | .aD=>some h
 | .aG n sz' off len _=>
  if len=0 then some h else
  match h[n]? with
  | some (some (.aA sz'' es g))=>if sz=sz' ∧ sz=sz'' ∧ off+len ≤ es.length then some (h.set n (some (.aA sz (gM es off (List.replicate len zero)) g))) else none
  | _=>none
 | _=>none
theorem JP {P:Program}{G w h sz x h' vx}(g:fO G w h)(hx:V G w x vx){t elem info zero}(hu:P.underlying t=some (.slice elem))(hi:P.info? elem=some info)
  (C:info.zero=some zero) (hz:zero.cells.size=sz) (a2:(zero.cells.toList.map jn).all AV.aH=true)
  (hr:pZ h sz (zero.cells.toList.map jn) x=some h') (ty:TypeId):
  ∃w',(Builtin.clear_ #[t] ty #[vx]).run P w=.ok (.tuple #[]) w' ∧ fO G w' h' ∧ gI G w G w':=by
 unfold pZ at hr;split at hr;·cases hr;cases hx;exact⟨w,by simp only[Builtin.clear_,VV,Vw,Sem.run_bind,run_underlying hu,Result.andThen_ok,Sem.run_pure],g,gI.aD G w⟩
 ·rename_i n sz' off len cap;split at hr
  ·rename_i hl;subst hl;cases hr;cases hx with
   | aC _ _ _ _ _ c tyb m b hnN u hl hcap U hm=>exact⟨w,by simp only[Builtin.clear_,VV,Vw,Sem.run_bind,run_underlying hu,Result.andThen_ok,Sem.run_pure],g,gI.aD G w⟩
   | aH _ _ _ hnN hnl hcap=>exact⟨w,by simp only[Builtin.clear_,VV,Vw,Sem.run_bind,run_underlying hu,Result.andThen_ok,Sem.run_pure],g,gI.aD G w⟩
  ·rename_i hl;split at hr
   ·rename_i sz'' es gr hn;split at hr
    ·rename_i hh;obtain⟨rfl,rfl,hle⟩:=hh;cases hr;cases hx with
     | aH=>exact absurd rfl hl
     | aC _ _ _ _ _ c tyb m b hnN u hlc hcap U hm=>
      obtain⟨a6,tyc,M,hcl,a4,_⟩:=(g.aC n sz es gr b hn u).ex;have E:m=a6.size:=by simp[World.shape?,M]at U;exact U.2.symm
      have W:jK G w sz (List.replicate len (zero.cells.toList.map jn)) (Builtin.zeroCells zero.cells len):=IY hz a2 _;have I:=g.aN hn u;obtain⟨w',a1,stp,Z,hshp,hH⟩:=IV (P:=P) g hn u M W (p:=off) (by omega) (by rw[Wo];exact Vh (VU sz (by omega)) (E▸hm));have O:(gM es off (List.replicate len (zero.cells.toList.map jn))).length=es.length:=by simp[gM];omega
      refine⟨w',?_,?_,stp⟩;·obtain⟨l',rfl⟩:∃l',len=l'+1:=⟨len-1,by omega⟩;simp only[Builtin.clear_,VV,Vw,Sem.run_bind,run_underlying hu,Result.andThen_ok,Sem.run_pure,zeroValue,run_typeInfo w hi,C,a1]
      ·exact g.aV hn u stp.aA stp.aC (λm b' hm a5 a3=>Z b' (by rintro rfl;exact a3 (g.inj m n _ hm I a5 u))) (hH gr (λe=>by rw[O];exact a4 e))
    ·cases hr
   ·cases hr
 ·cases hr
end Glb
/-
 A library of its own,for whatever program: what an operation is made into,and that it does what it says.
-/
namespace Glb
open Go
inductive fE where
 | aC (s:Nat)
 | aD (s:Nat)
 | aA (v:AV)
/-- operations that only read,the rarer -/
inductive sM where
 | aD (neg:Bool) (x:fE)
 | aF (neg:Bool) (plan:List (Nat×Bool)) (x y:fE)
 | aE (o n:Nat) (agg:Bool) (x:fE)
 | aH (x i:fE)
 | aG (x:fE)
 | aC (f:FuncId) (fs cs:List fE)
 | aA
/-- operations that make and change nothing -/
inductive nN where
 | aF (x:fE)
 | aR (c a b:fE)
 | aJ (zero:List AV) (ps:List (Nat×Nat×fE))
 | aA (agg:Bool) (n:Nat) (x:fE)
 | aK (x:fE)
 | aI (op:BinOp) (x y:fE)
 | aH (op:BinOp) (x y:fE)
 | aG (neg:Bool) (x:fE)
 | aP (x:fE)
 | aO (x:fE)
 | aL (k:IntKind) (x:fE)
 | aS (sz:Nat) (x:fE) (lo hi mx:Option fE)
 | aQ (o:Nat) (x:fE)
 | aD (sz:Nat) (x i:fE)
 | aM (x:fE) (i:Nat)
 | aN (x:fE)
 | aT (x:fE)
 | aE (isMax:Bool) (xs:List fE)
 | aC (f:FuncId) (cs:List fE)
 | x (o:sM)
/-- operations that make or change memory -/
inductive nK where
 | mk (cs:List AV)
 | aD (x:fE)
 | aA (sz:Nat) (xs:List fE)
 | aF (sz bytes:Nat) (zero:List AV) (l c:fE)
 | aE (n:Nat) (a x:fE)
 | aC (sz bytes:Nat) (x y:fE)
 | aG (sz bytes:Nat) (zero:List AV) (x y:fE)
 | aH (sz:Nat) (zero:List AV) (x:fE)
inductive iY where
 | r (o:nN)
 | h (o:nK)
 | aC (f:FuncId) (args:List fE)
 | aD (x:fE) (args:List fE)
/-! what they come to -/
def lN (g:fE → AV):Option fE → Option (Option Int)
 | none=>some none
 | some x=>match g x with
  | .aA _ n=>some (some n)
  | _=>none
def ik:AV → Option AV
 | .aD=>some (.aA .i64 0)
 | .aG _ _ _ len _=>some (.aA .i64 len)
 | .aM _ _ _ es=>some (.aA .i64 es.length)
 | _=>none
def mO (isMax:Bool):List AV → Option AV
 | .aA k n :: r=>aA k n r
 | _=>none
where
 aA (k:IntKind) (n:Int):List AV → Option AV
  | []=>some (.aA k n)
  | .aA _ m :: r=>aA k (if isMax then (if m>n then m else n) else (if m<n then m else n)) r
  | _=>none
/-- is it the kind of value that a slice is? -/
def oW:AV → Bool
 | .aD | .aG .. | .aM ..=>true
 | _=>false
/-- is a pointer nil -/
def vB:AV → Option Bool
 | .aN (.pointer none)=>some true
 | .aC _ _ _ _=>some false
 | .aO _ _=>some false
 | _=>none
/-- are two structs of numbers and truths alike: which cells,and whether each is a number -/
def pX:List (Nat×Bool) → List AV → List AV → Option Bool
 | [],_,_=>some true
 | (o,true) :: r,xs,ys=>match xs[o]?,ys[o]? with
  | some (.aA k a),some (.aA k' b)=>if k=k' then (if a=b then pX r xs ys else some false) else none
  | _,_=>none
 | (o,false) :: r,xs,ys=>match xs[o]?,ys[o]? with
  | some (.aE a),some (.aE b)=>if a=b then pX r xs ys else some false
  | _,_=>none
def lR (g:fE → AV):sM → Option AV
 | .aD neg x=>(vB (g x)).map λb=>.aE (b != neg)
 | .aF neg plan x y=>match g x,g y with
  | .aF xs,.aF ys=>(pX plan xs ys).map λb=>.aE (b != neg)
  | _,_=>none
 | .aE o n agg x=>match g x with
  | .aF cs=>if agg then (if o+n ≤ cs.length then some (.aF ((cs.drop o).take n)) else none) else cs[o]?
  | _=>none
 | .aH x i=>match g x,g i with
  | .aQ s,.aA _ i=>if 0 ≤ i then s[i.toNat]?.map λb=>.aA .u8 b.toNat else none
  | _,_=>none
 | .aC f fs cs=>some (.aK f (fs.map g) (cs.map g))
 | .aG x=>match g x with
  | .aD=>some (.aA .i64 0)
  | .aG _ _ _ _ (some c)=>some (.aA .i64 c)
  | .aM _ true _ es=>some (.aA .i64 es.length)
  | _=>none
 | .aA=>none
def gG (g:fE → AV)(h:eX):nN → Option AV
 | .aF x=>some (g x)
 | .aR c a b=>match g c with
  | .aE t=>some (if t then g a else g b)
  | _=>none
 | .aJ zero ps=>(oI zero (ps.map λp=>(p.1,p.2.1,g p.2.2))).map .aF
 | .aA agg n x=>ir h agg n (g x)
 | .aK x=>match g x with
  | .aC n sz i o=>some (.aC n sz i o)
  | .aO t cs=>some (.aO t cs)
  | .aT t v=>some (.aT t v)
  | .aK f fs cs=>some (.aK f fs cs)
  | _=>none
 | .aI op x y=>jD op (g x) (g y)
 | .aH op x y=>match g x,g y with
  | .aE a,.aE b=>wT op a b
  | _,_=>none
 | .aG neg x=>if oW (g x) then (jW (g x)).map λb=>.aE (b != neg) else none
 | .aP x=>match g x with
  | .aE b=>some (.aE !b)
  | _=>none
 | .aO x=>match g x with
  | .aA k n=>some (.aA k (k.wrap (0-n)))
  | _=>none
 | .aL k x=>match g x with
  | .aA _ n=>some (.aA k (k.wrap n))
  | _=>none
 | .aS sz x lo hi mx=>match lN g lo,lN g hi,lN g mx with
  | some lo,some hi,some mx=>ie sz (g x) lo hi mx
  | _,_,_=>none
 | .aQ o x=>sO o (g x)
 | .aD sz x i=>jg sz (g x) (g i)
 | .aM x i=>match g x with
  | .aI cs=>cs[i]?
  | _=>none
 | .aN x=>ik (g x)
 | .aT x=>match g x with
  | .aQ s=>some (.aA .i64 s.size)
  | _=>none
 | .aE m xs=>mO m (xs.map g)
 | .aC f cs=>some (.aK f [] (cs.map g))
 | .x o=>lR g o
/-- the cells of each of some values,each of one size -/
def mB (sz:Nat):List AV → Option (List (List AV))
 | []=>some []
 | x :: r=>match x.aL,mB sz r with
  | some cs,some es=>if cs.length=sz ∧ cs.all AV.aH=true then some (cs :: es) else none
  | _,_=>none
/-- what makes one block: the value,by the block's name,and the block -/
def jz (g:fE → AV)(nm:Nat):nK → Option (AV×e_)
 | .mk cs=>some (.aC nm cs.length 0 0,.aA cs.length [cs] false)
 | .aD x=>match (g x).aL with
  | some cs=>if cs.all AV.aH then some (.aC nm cs.length 0 0,.aA cs.length [cs] false) else none
  | none=>none
 | .aA sz xs=>
  match mB sz (xs.map g) with
  | some es=>some (.aG nm sz 0 xs.length (some xs.length),.aA sz es false)
  | none=>none
 | .aF sz bytes zero l c=>match g l,g c with
  | .aA _ l,.aA _ c=>if 0 ≤ l ∧ l ≤ c ∧ c*bytes ≤ 2^46 then some (.aG nm sz 0 l.toNat (some c.toNat),.aA sz (List.replicate c.toNat zero) false) else none
  | _,_=>none
 | _=>none
def jY (g:fE → AV)(h:eX):nK → Option (AV×eX)
 | .aE n a x=>(pA h n (g a) (g x)).map λh'=>(.aR,h')
 | .aC sz bytes x y=>nR h sz bytes (g x) (g y)
 | .aG sz bytes zero x y=>sN h sz bytes zero (g x) (g y)
 | .aH sz zero x=>(pZ h sz zero (g x)).map λh'=>(.aI [],h')
 | ho=>match jz g h.length ho with
  | some (v,b)=>some (v,h++[some b])
  | none=>none
/-! made out of the model's operations -/
def cd (keep:Nat → Bool):Operand → fE
 | .tmp s=>if keep s then .aC s else .aD s
 | .const v=>.aA (xL v)
 | .global g=>.aA (.aN (.pointer (some ⟨g,0,none⟩)))
 | .func f=>.aA (.aK f [] [])
/-- size,bytes and zero of a type -/
def nI (P:Program)(t:TypeId):Option (Nat×Nat×Value):=
 match P.info? t with
 | some i=>i.zero.map λz=>(i.size,i.bytes,z)
 | none=>none
def u_ (P:Program)(t:TypeId):Option Bool:=
 match P.underlying t with
 | some (.struct _) | some (.array _ _)=>some true
 | some _=>some false
 | none=>none
def oM (P:Program)(t:TypeId):Option TypeId:=
 match P.underlying t with
 | some (.slice e)=>some e
 | _=>none
/-- which parts of a struct are laid where -/
def vA (P:Program)(fs:Array Field)(tr:Operand → fE):List (Nat×Operand) → Option (List (Nat×Nat×fE))
 | []=>some []
 | (i,x) :: r=>match fs[i]?,vA P fs tr r with
  | some f,some l=>some ((f.offset,P.cellsOf f.type,tr x) :: l)
  | _,_=>none
def tx:Nat → List (Nat×Operand) → Bool
 | _,[]=>true
 | k,(i,_) :: r=>i == k && tx (k+1) r
def zF (P:Program)(tr:Operand → fE)(o:Oper):Option nN:=
 match o.op with
 | .move x=>some (.aF (tr x))
 | .assign x=>some (.aF (tr x))
 | .pick c a b=>some (.aR (tr c) (tr a) (tr b))
 | .build t ps=>
  match P.underlying t,nI P t with
  | some (.struct fs),some (_,_,z)=>if fs.toList.all (λf=>(P.info? f.type).isSome) then (vA P fs tr ps.toList).map (.aJ (z.cells.toList.map jn)) else none
  | _,_=>none
 | .load t x=>match u_ P t,P.info? t with
  | some a,some i=>some (.aA a i.size (tr x))
  | _,_=>none
 | .nilCheck x=>some (.aK (tr x))
 | .binOp op t x y _=>
  match y with
  | .const (.slice none 0 0)=>match P.underlying t,op with
   | some (.slice _),.eql=>some (.aG false (tr x))
   | some (.slice _),.neq=>some (.aG true (tr x))
   | _,_=>none
  | _=>
   match P.underlying t with
   | some (.int _) | some .string=>some (.aI op (tr x) (tr y))
   | some .bool=>some (.aH op (tr x) (tr y))
   | _=>none
 | .unOp .not _ x=>some (.aP (tr x))
 | .unOp .neg _ x=>some (.aO (tr x))
 | .convert s d x=>match P.underlying s,P.underlying d with
  | some (.int _),some (.int k)=>some (.aL k (tr x))
  | _,_=>none
 | .slice t x lo hi mx=>
  match oM P t with
  | some e=>match P.info? e with
   | some i=>if mx.isSome && !hi.isSome then none else some (.aS i.size (tr x) (lo.map (tr)) (hi.map (tr)) (mx.map (tr)))
   | none=>none
  | none=>none
 | .fieldAddr t x k=>
  match P.underlying t with
  | some (.struct fs)=>match fs[k]? with
   | some f=>match P.info? f.type with
    | some i=>if i.size=0 then none else some (.aQ f.offset (tr x))
    | none=>none
   | none=>none
  | _=>none
 | .indexAddr t x i=>
  match oM P t with
  | some e=>match P.info? e with
   | some inf=>some (.aD inf.size (tr x) (tr i))
   | none=>none
  | none=>none
 | .extract x i=>some (.aM (tr x) i)
 | .call {callee:=.builtin .len,args,argTypes}=>
  match args.toList,argTypes.toList with
  | [x],[t]=>match P.underlying t with
   | some (.slice _)=>some (.aN (tr x))
   | some .string=>some (.aT (tr x))
   | _=>none
  | _,_=>none
 | .call {callee:=.builtin .min,args,..}=>some (.aE false (args.toList.map (tr)))
 | .call {callee:=.builtin .max,args,..}=>some (.aE true (args.toList.map (tr)))
 | .makeFunc (.func f) first caps=>if first.size=0 then some (.aC f (caps.toList.map (tr))) else none
 | _=>none
def cH (P:Program)(tr:Operand → fE)(o:Oper):Option nK:=
 match o.op with
 | .alloc t=>match nI P t with
  | some (_,_,z)=>if (z.cells.toList.map jn).all AV.aH then some (.mk (z.cells.toList.map jn)) else none
  | none=>none
 | .box _ x=>some (.aD (tr x))
 | .buildSlice t len ps=>
  match oM P t with
  | some e=>match nI P e with
   | some (sz,_,z)=>if tx 0 ps.toList && ps.size == len && decide (z.cells.size=sz) && decide (len*sz ≤ 2^24) then some (.aA sz (ps.toList.map λp=>tr p.2)) else none
   | none=>none
  | none=>none
 | .makeSlice t l c=>
  match oM P t with
  | some e=>match nI P e with
   | some (sz,bytes,z)=>if z.cells.size=sz ∧ 0<bytes ∧ (z.cells.toList.map jn).all AV.aH then some (.aF sz bytes (z.cells.toList.map jn) (tr l) (tr c)) else none
   | none=>none
  | none=>none
 | .store t a x=>match P.info? t with
  | some i=>some (.aE i.size (tr a) (tr x))
  | none=>none
 | .call {callee:=.builtin .append,args,argTypes}=>
  match args.toList,argTypes.toList with
  | [x,y],[s,t]=>match oM P s with
   | some e=>match nI P e with
    | some (sz,bytes,z)=>if z.cells.size=sz ∧ 0<bytes then (match P.underlying t with
     | some (.slice _)=>some (.aC sz bytes (tr x) (tr y))
     | some (.int _)=>if (z.cells.toList.map jn).all AV.aH then some (.aG sz bytes (z.cells.toList.map jn) (tr x) (tr y)) else none
     | _=>none) else none
    | none=>none
   | none=>none
  | _,_=>none
 | .call {callee:=.builtin .clear,args,argTypes}=>
  match args.toList,argTypes.toList with
  | [x],[s]=>match oM P s with
   | some e=>match nI P e with
    | some (sz,_,z)=>if z.cells.size=sz ∧ (z.cells.toList.map jn).all AV.aH then some (.aH sz (z.cells.toList.map jn) (tr x)) else none
    | none=>none
   | none=>none
  | _,_=>none
 | _=>none
/-- the plan by which two structs of numbers and truths are compared -/
def rC (P : Program) : List Field → Option (List (Nat × Bool))
 | [] => some []
 | f :: fs => if f.name ≠ "_" then (match P.underlying f.type, rC P fs with
   | some (.int _), some r => some ((f.offset, true) :: r)
   | some .bool, some r => some ((f.offset, false) :: r)
   | _, _ => none) else rC P fs
def cX (P:Program)(tr:Operand → fE)(o:Oper):Option sM:=
 match o.op with
 | .binOp op t x y _=>
  match P.underlying t with
  | some (.pointer _)=>match y with
   | .const (.pointer none)=>match op with
    | .eql=>some (.aD false (tr x))
    | .neq=>some (.aD true (tr x))
    | _=>some .aA
   | _=>some .aA
  | some (.struct fs)=>if P.stoodInHeld t=false ∧ P.eqGuardType P.depth t=false then (match op,rC P fs.toList with
    | .eql,some l=>some (.aF false l (tr x) (tr y))
    | .neq,some l=>some (.aF true l (tr x) (tr y))
    | _,_=>some .aA) else some .aA
  | _=>some .aA
 | .field t x k=>
  match P.underlying t with
  | some (.struct fs)=>match fs[k]? with
   | some f=>match P.info? f.type,u_ P f.type with
    | some i,some b=>some (.aE f.offset i.size b (tr x))
    | _,_=>some .aA
   | none=>some .aA
  | _=>some .aA
 | .index t x i=>match P.underlying t with
  | some .string=>some (.aH (tr x) (tr i))
  | _=>some .aA
 | .makeFunc (.func f) first caps=>some (.aC f (first.toList.map tr) (caps.toList.map tr))
 | .call {callee:=.builtin .cap,args,argTypes}=>
  match args.toList,argTypes.toList with
  | [x],[t]=>match P.underlying t with
   | some (.slice _)=>some (.aG (tr x))
   | _=>some .aA
  | _,_=>some .aA
 | .call {callee:=.value _,..}=>none
 | _=>if (cH P tr o).isSome then none else some .aA
def cR (P:Program)(tr:Operand → fE)(o:Oper):Option nN:=
 match zF P tr o with
 | some r=>some r
 | none=>(cX P tr o).map .x
def lj (P:Program)(tr:Operand → fE)(o:Oper):Option iY:=
 match cR P tr o with
 | some r=>some (.r r)
 | none=>match cH P tr o with
  | some h=>some (.h h)
  | none=>match o.op with
   | .call {callee:=.value (.func f),args,..}=>some (.aC f (args.toList.map (tr)))
   | .call {callee:=.value x,args,..}=>some (.aD (tr x) (args.toList.map (tr)))
   | _=>none
/-! and that these do what they say -/
section
variable {P:Program} {G:Gh} {w:World} {h:eX} {tr:Operand → fE} {g:fE → AV} {a:Act}
/-- the operands stand for the values -/
def mw (G:Gh)(w:World)(tr:Operand → fE)(g:fE → AV)(a:Act):Prop:=∀x,V G w (g (tr x)) (a.eval x)
theorem xX {t:TypeId}{sz bytes:Nat}{z:Value}(ht:nI P t=some (sz,bytes,z)):(zeroValue t).run P w=.ok z w:=by
 unfold nI at ht;split at ht
 ·rename_i i hi;cases hz:i.zero with
  | none=>simp[hz]at ht
  | some z'=>simp[hz]at ht;simp[zeroValue,run_typeInfo w hi,hz,ht.2.2]
 ·cases ht
theorem xA {t:TypeId}{sz bytes:Nat}{z:Value}(ht:nI P t=some (sz,bytes,z)):∃i,P.info? t=some i ∧ i.size=sz ∧ i.bytes=bytes ∧ i.zero=some z:=by
 unfold nI at ht;split at ht
 ·rename_i i hi;cases hz:i.zero with
  | none=>simp[hz]at ht
  | some z'=>simp[hz]at ht;exact⟨i,hi,ht.1,ht.2.1,by rw[hz,ht.2.2]⟩
 ·cases ht
theorem oi {t:TypeId}{i:TypeInfo}(hi:P.info? t=some i):(Go.sizeOf t).run P w=.ok i.size w:=by simp[Go.sizeOf,run_typeInfo w hi]
theorem xW {t:TypeId}{b:Bool}(hb:u_ P t=some b):(isAgg t).run P w=.ok b w:=by
 unfold u_ at hb;split at hb;·rename_i h;cases hb;simp[isAgg,run_underlying h]
 ·rename_i h;cases hb;simp[isAgg,run_underlying h]
 ·rename_i d h1 h2 h;cases hb;simp only[isAgg,Sem.run_bind,run_underlying h,Result.andThen_ok];rfl
 ·cases hb
theorem pO {t e:TypeId}(he:oM P t=some e):P.underlying t=some (.slice e):=by
 unfold oM at he;split at he;·rename_i h;cases he;exact h
 ·cases he
theorem Ha (isMax:Bool):∀(xs:List AV)(vs:List Value)(r:AV),mO isMax xs=some r → xs.length=vs.length →
  (∀(j:Nat)(c:AV)(v:Value),xs[j]?=some c → vs[j]?=some v → V G w c v) →
  ∃u,((if isMax then Builtin.max_ #[] 0 vs.toArray else Builtin.min_ #[] 0 vs.toArray)).run P w=.ok u w ∧ V G w r u:=by
 intro xs vs r hr hl hV;unfold mO at hr;split at hr
 ·rename_i k n rest;cases vs with
  | nil=>simp at hl
  | cons v vr=>
   have h0:=hV 0 _ v rfl rfl;cases h0;have key:∀(l:List AV)(vl:List Value)(n:Int),mO.aA isMax k n l=some r → l.length=vl.length →
     (∀(j:Nat)(c:AV)(v:Value),l[j]?=some c → vl[j]?=some v → V G w c v) →
     ∃u,(vl.foldlM (if isMax then Builtin.max2 else Builtin.min2) (.int k n):Sem Value).run P w=.ok u w ∧ V G w r u:=by
    intro l;induction l with
    | nil=>intro vl n h hl _;have:vl=[]:=U7 (by simpa using hl.symm);subst this;simp only[mO.aA,U_]at h;subst h;exact⟨_,rfl,.aD _ _⟩
    | cons c l ih=>
     intro vl n h hl hV;cases vl with
     | nil=>simp at hl
     | cons v vl=>have h1:=hV 0 c v rfl rfl;cases c<;>simp only[mO.aA,reduceCtorEq]at h;cases h1;obtain⟨u,hu,hVu⟩:=ih vl _ h (by simpa using hl) (λj c v a b=>hV (j+1) c v (by simpa using a) (by simpa using b));refine⟨u,?_,hVu⟩;rw[← hu];cases isMax<;>simp[List.foldlM_cons,Builtin.max2,Builtin.min2]
   obtain⟨u,hu,hVu⟩:=key rest vr n hr (by simpa using hl) (λj c v a b=>hV (j+1) c v (by simpa using a) (by simpa using b));refine⟨u,?_,hVu⟩;rw[← hu];cases isMax<;>simp[Builtin.max_,Builtin.min_]
 ·cases hr
theorem VL.aA (hs:mw G w tr g a)(xs:List Operand):
  ∀(j:Nat)(c:AV)(v:Value),((xs.map (tr)).map g)[j]?=some c → (xs.map a.eval)[j]?=some v → V G w c v:=by
 intro j c v hc hv;simp only[VE,Vl]at hc hv;obtain⟨_,⟨x,hx,rfl⟩,rfl⟩:=hc;obtain⟨y,hy,rfl⟩:=hv;rw[hx]at hy;cases hy;exact hs x
theorem CS (hs:mw G w tr g a){x:Option Operand}{r:Option Int} (h:lN g (x.map (tr))=some r):
  ∃k,x.map a.eval=r.map (.int k):=by
 cases x with
 | none=>simp only[Option.map_none,lN,U_]at h;subst h;exact⟨.i64,rfl⟩
 | some x=>
  simp only[Ws,lN]at h;split at h;·rename_i k n hx;cases h;have:=hs x;rw[hx]at this;generalize hv:a.eval x=v at this;cases this;exact⟨k,by simp[hv]⟩
  ·cases h
theorem Kd {x:AV}{b:Bool}{v:Value}{t e:TypeId}(hx:V G w x v)(hn:jW x=some b)(hu:P.underlying t=some (.slice e))(ox oy:Operand):
  ((do eqGuard .eql t ox oy v (.slice none 0 0);binOp .eql t v (.slice none 0 0):Sem Value).run P w=.ok (.bool b) w ∧
  (do eqGuard .neq t ox oy v (.slice none 0 0);binOp .neq t v (.slice none 0 0):Sem Value).run P w=.ok (.bool !b) w) ∨
  ∀a l c,v≠.slice a l c:=by
 have key:∀(a:Option Addr)(l c:Nat),v=.slice a l c → a.isNone=b →
   ((do eqGuard .eql t ox oy v (.slice none 0 0);binOp .eql t v (.slice none 0 0):Sem Value).run P w=.ok (.bool b) w ∧
   (do eqGuard .neq t ox oy v (.slice none 0 0);binOp .neq t v (.slice none 0 0):Sem Value).run P w=.ok (.bool !b) w):=by
  rintro a l c rfl rfl;have e:(Op.equal t (.slice a l c) (.slice none 0 0)).run P w=.ok a.isNone w:=by
   have:∀d,(Op.equalIn (d+1) t (.slice a l c) (.slice none 0 0)).run P w=.ok a.isNone w:=by intro d;simp only[Op.equalIn,Sem.run_bind,run_underlying hu,Result.andThen_ok];cases a<;>rfl
   exact this 9999
  constructor;·have:(eqGuard .eql t ox oy (.slice a l c) (.slice none 0 0)).run P w=.ok () w:=rfl;simp only[Sem.run_bind,this,Result.andThen_ok,binOp,e,Sem.run_pure]
  ·have:(eqGuard .neq t ox oy (.slice a l c) (.slice none 0 0)).run P w=.ok () w:=rfl;simp only[Sem.run_bind,this,Result.andThen_ok,binOp,e,Sem.run_pure]
 cases hx with
 | aO=>simp only[jW,U_]at hn;exact .inl (key _ _ _ rfl hn)
 | aC _ _ _ _ _ c ty m b'=>
  simp only[jW]at hn;split at hn;·cases hn;exact .inl (key _ _ _ rfl rfl)
  ·cases hn
 | aH=>simp[jW]at hn
 | aE _ _ _ es a cap=>
  simp only[jW]at hn;split at hn;·cases hn;exact .inl (key _ _ _ rfl rfl)
  ·cases hn
 | aF=>simp[jW]at hn
 | aL=>exact .inr (λ_ _ _ h=>by cases h)
 | aN=>exact .inr (λ_ _ _ h=>by cases h)
 | aR=>exact .inr (λ_ _ _ h=>by cases h)
 | aP v=>refine .inr (λa l c h=>?_);subst h;simp[jW]at hn
 | aI=>simp[jW]at hn
 | aG=>simp[jW]at hn
 | aD=>simp[jW]at hn
 | aQ=>simp[jW]at hn
 | aJ=>simp[jW]at hn
 | aM=>simp[jW]at hn
 | aK=>simp[jW]at hn
theorem qz (ρ:Operand → Value)(dst:Option Tmp)(b:Builtin)(args:Array Operand)(e:Array TypeId)(ty:TypeId)(pos:String)(after:Array Edge)(guard:Option (Nat×Bool)):
  (execOp ρ {dst,op:=.call {callee:=.builtin b,args,argTypes:=e},type:=ty,pos,after,guard}).run P w =
   (builtin b e ty (args.map fun | .const _=>true | _=>false) (args.map ρ)).run P w:=by
 simp only[execOp,resolve,invoke,Sem.run_bind,Sem.run_pure,Result.andThen_ok];rfl
theorem P9 {fs:Array Field}(hs:mw G w tr g a):∀(ps:List (Nat×Operand)) (l:List (Nat×Nat×fE)),vA P fs tr ps=some l →
  l.length=ps.length ∧ ∀(j i:Nat)(v:Value)(o n:Nat)(x:AV),(ps.map fun (i,x)=>(i,a.eval x))[j]?=some (i,v) → (l.map λp=>(p.1,p.2.1,g p.2.2))[j]?=some (o,n,x) →
   (fs.map λf=>(f.offset,P.cellsOf f.type))[i]?=some (o,n) ∧ V G w x v:=by
 intro ps;induction ps with
 | nil=>intro l hl;simp only[vA,U_]at hl;subst hl;exact⟨rfl,λj i v o n x h=>by simp at h⟩
 | cons p ps ih=>
  intro l hl;obtain⟨i0,x0⟩:=p;simp only[vA]at hl;split at hl
  ·rename_i f l' hf e;cases hl;obtain⟨h1,h2⟩:=ih l' e;refine⟨by simp[h1],λj i v o n x hp hq=>?_⟩;cases j with
   | zero=>simp at hp hq;obtain⟨rfl,rfl⟩:=hp;obtain⟨rfl,rfl,rfl⟩:=hq;exact⟨by simp[hf],hs x0⟩
   | succ j=>exact h2 j i v o n x (by simpa using hp) (by simpa using hq)
  ·cases hl
theorem Sj (fs:List Field)(hf:∀f∈fs,(P.info? f.type).isSome):
  (fs.mapM λf=>do pure (f.offset,← Go.sizeOf f.type):Sem (List (Nat×Nat))).run P w=.ok (fs.map λf=>(f.offset,P.cellsOf f.type)) w:=by
 induction fs with
 | nil=>rfl
 | cons f fs ih=>obtain⟨i,hi⟩:=W5.1 (hf f (by simp));simp only[List.mapM_cons,Sem.run_bind,run_sizeOf w hi,Result.andThen_ok,Sem.run_pure,ih (λf h=>hf f (by simp[h])),Vv]
theorem Ka {q r:AV}{v:Value}{t e:TypeId}(hq:V G w q v)(hr:ik q=some r)(hu:P.underlying t=some (.slice e))(ty:TypeId):
  ∃u,(Builtin.len_ #[t] ty #[v]).run P w=.ok u w ∧ V G w r u:=by
 have key:∀(a:Option Addr)(l c:Nat),(Builtin.len_ #[t] ty #[.slice a l c]).run P w=.ok (.int .i64 l) w:=by intro a l c;simp only[Builtin.len_,VV,Vw,Sem.run_bind,run_underlying hu,Result.andThen_ok,Sem.run_pure,goInt]
 cases hq<;>simp only[ik,U_,reduceCtorEq]at hr<;>subst hr<;>exact⟨_,key _ _ _,.aD _ _⟩
theorem RU (gm:fO G w h)(hs:mw G w tr g a){o:Oper}{ro:nN}(hc:zF P tr o=some ro){r:AV}(hr:gG g h ro=some r):
  ∃v,(execOp a.eval o).run P w=.ok (.value v) w ∧ V G w r v:=by
 obtain⟨dst,op,type,pos,after,guard⟩:=o;have up:∀{s:Sem Value},(∃v,s.run P w=.ok v w ∧ V G w r v) → ∃v,((do pure (.value (← s)):Sem Next)).run P w=.ok (.value v) w ∧ V G w r v:=by rintro s ⟨v,hv,hV⟩;exact⟨v,by simp[hv],hV⟩
 unfold zF at hc;simp only at hc;split at hc;·rename_i x;cases hc;simp only[gG,U_]at hr;subst hr;exact⟨_,rfl,hs x⟩
 ·rename_i x;cases hc;simp only[gG,U_]at hr;subst hr;exact⟨_,rfl,hs x⟩
 · -- pick
  rename_i c x y;cases hc;simp only[gG]at hr;split at hr
  ·rename_i t ht;cases hr;have h0:=hs c;rw[ht]at h0;generalize hv:a.eval c=v at h0;cases h0;refine⟨if t then a.eval x else a.eval y,?_,?_⟩;·simp only[execOp,hv,asBool];cases t<;>rfl
   ·cases t;·exact hs y
    ·exact hs x
  ·cases hr
 · -- build
  rename_i t ps;split at hc<;>(try cases hc);rename_i fs sz0 b0 z hu hz;split at hc<;>(try cases hc);rename_i hall;simp only[Vl]at hc;obtain⟨l,hl,rfl⟩:=hc;simp only[gG,Vl]at hr;obtain⟨cells,hcells,rfl⟩:=hr;obtain⟨hlen,hpl⟩:=P9 (P:=P) hs ps.toList l hl;have hz0:VL G w (z.cells.toList.map jn) z.cells:=VL.aD G w z.cells;obtain⟨us,hus,hVL⟩:=JY (G:=G) (w:=w) (λi=>(fs.map λf=>(f.offset,P.cellsOf f.type))[i]?) (ps.toList.map fun (i,x)=>(i,a.eval x)) (l.map λp=>(p.1,p.2.1,g p.2.2)) _ z.cells cells hz0
   (by simp[hlen]) hpl hcells
  refine up ⟨.agg us,?_,.aJ _ _ hVL.1 hVL.2⟩;have hm:(fs.mapM λf=>do pure (f.offset,← Go.sizeOf f.type):Sem (Array (Nat×Nat))).run P w=.ok (fs.map λf=>(f.offset,P.cellsOf f.type)) w:=by have:=Sj (P:=P) (w:=w) fs.toList (λf h=>Wt.1 hall f h);rw[Array.mapM_eq_mapM_toList];have e:∀(x:Sem (List (Nat×Nat))),(Functor.map List.toArray x:Sem (Array (Nat×Nat))).run P w=(x.run P w).andThen λa w'=>.ok a.toArray w':=λx=>Sem.run_bind' P x _ w;rw[e,this,Result.andThen_ok];congr 1;apply Array.ext';simp
  have hpz:((ps.map fun (i,x)=>(i,a.eval x)).toList)=ps.toList.map fun (i,x)=>(i,a.eval x):=by simp
  simp only[Instr.build,Sem.run_bind,xX hz,Result.andThen_ok,run_underlying hu,hm,hpz,hus,Sem.run_pure]
 · -- load
  rename_i t x;split at hc;·rename_i b i hb hi;cases hc;simp only[gG]at hr;exact up (EP gm (hs x) hr (xW hb) (oi hi))
  ·cases hc
 · -- nilCheck
  rename_i x;cases hc;simp only[gG]at hr;have h0:=hs x;split at hr<;>rename_i hx<;>(try cases hr)<;>rw[hx]at h0<;>generalize hv:a.eval x=v at h0;·cases h0 with | aL _ _ _ _ b hn hb=>exact⟨_,by simp only[execOp,hv];rfl,.aL _ _ _ _ b hn hb⟩
  ·cases h0 with | aN _ _ b off f h1 h2 h3=>exact⟨_,by simp only[execOp,hv];rfl,.aN _ _ b off f h1 h2 h3⟩
  ·cases h0 with | aR _ _ v' h1=>exact⟨_,by simp only[execOp,hv];rfl,.aR _ _ _ h1⟩
  ·cases h0 with | aK _ _ us _ vs h1 h2 h3 h4=>exact⟨_,by simp only[execOp,hv];rfl,.aK _ _ us _ vs h1 h2 h3 h4⟩
 · -- binOp
  rename_i bop t x y yt;have sl:∀{b},oW (g (tr x))=true → jW (g (tr x))=some b → ∀e,P.underlying t=some (.slice e) → ∀oy,
    ((do eqGuard .eql t x oy (a.eval x) (.slice none 0 0);binOp .eql t (a.eval x) (.slice none 0 0):Sem Value).run P w=.ok (.bool b) w ∧
    (do eqGuard .neq t x oy (a.eval x) (.slice none 0 0);binOp .neq t (a.eval x) (.slice none 0 0):Sem Value).run P w=.ok (.bool !b) w):=by
   intro b h1 h2 e hu oy;refine (Kd (P:=P) (hs x) h2 hu x oy).resolve_right (λhne=>?_);have h0:=hs x;generalize hv:a.eval x=v at *;generalize g (tr x)=q at *;cases h0<;>simp[oW]at h1;·exact hne _ _ _ rfl
   ·exact hne _ _ _ rfl
   ·exact hne _ _ _ rfl
   ·exact hne _ _ _ rfl
   ·exact hne _ _ _ rfl
  split at hc
  ·split at hc
   ·cases hc;simp only[gG]at hr;rename_i e hu;split at hr;·rename_i hsl;simp only[Vl]at hr;obtain⟨b,hb,rfl⟩:=hr;refine up ⟨_,(sl hsl hb e hu _).1,?_⟩;cases b<;>exact .aG _
    ·cases hr
   ·cases hc;simp only[gG]at hr;rename_i e hu;split at hr;·rename_i hsl;simp only[Vl]at hr;obtain⟨b,hb,rfl⟩:=hr;refine up ⟨_,(sl hsl hb e hu _).2,?_⟩;cases b<;>exact .aG _
    ·cases hr
   ·cases hc
  ·split at hc<;>(try cases hc)<;>simp only[gG]at hr;·exact up (ED (hs x) (hs y) hr t x y)
   ·exact up (ED (hs x) (hs y) hr t x y)
   ·rename_i hu;split at hr;·rename_i p q hp hq;have h1:=hs x;have h2:=hs y;rw[hp]at h1;rw[hq]at h2;generalize hv1:a.eval x=v1 at h1;generalize hv2:a.eval y=v2 at h2;cases h1;cases h2;have:=up (KH (P:=P) (G:=G) (w:=w) hr t x y hu);simp only[execOp,hv1,hv2];exact this
    ·cases hr
 · -- not
  rename_i t x;cases hc;simp only[gG]at hr;split at hr;·rename_i b hb;cases hr;have h1:=hs x;rw[hb]at h1;generalize hv1:a.eval x=v1 at h1;cases h1;exact⟨_,by simp only[execOp,hv1,Op.unary,Sem.run_bind,Sem.run_pure,Result.andThen_ok],.aG _⟩
  ·cases hr
 · -- neg
  rename_i t x;cases hc;simp only[gG]at hr;split at hr;·rename_i k n hb;cases hr;have h1:=hs x;rw[hb]at h1;generalize hv1:a.eval x=v1 at h1;cases h1;exact⟨_,by simp only[execOp,hv1,Op.unary,Op.intArith,Sem.run_bind,Sem.run_pure,Result.andThen_ok],.aD _ _⟩
  ·cases hr
 · -- convert
  rename_i s d x;split at hc<;>(try cases hc);rename_i k' k hu hd;simp only[gG]at hr;split at hr;·rename_i k0 n hb;cases hr;have h1:=hs x;rw[hb]at h1;generalize hv1:a.eval x=v1 at h1;cases h1;exact⟨_,by simp only[execOp,hv1,convert,run_underlying hu,run_underlying hd,Conv.intToInt,Sem.run_bind,Sem.run_pure,Result.andThen_ok],.aD _ _⟩
  ·cases hr
 · -- slice
  rename_i t x lo hi mx;split at hc<;>(try cases hc);rename_i e he;split at hc<;>(try cases hc);rename_i i hinf;split at hc<;>(try cases hc);rename_i hmx;simp only[gG]at hr;split at hr
  ·rename_i lo' hi' mx' h1 h2 h3;obtain⟨k1,e1⟩:=CS hs h1;obtain⟨k2,e2⟩:=CS hs h2;obtain⟨k3,e3⟩:=CS hs h3;have:=Kw (P:=P) (hs x) hr k1 k2 k3 (by
    intro hm;cases mx with
    | none=>simp[lN]at h3;subst h3;simp at hm
    | some _=>cases hi with
     | none=>simp at hmx
     | some _=>cases hi' with
      | none=>simp at e2
      | some _=>rfl) (pO he) (oi hinf)
   have:=up this;simp only[execOp,e1,e2,e3];exact this
  ·cases hr
 · -- fieldAddr
  rename_i t x k;split at hc<;>(try cases hc);rename_i fs hu;split at hc<;>(try cases hc);rename_i f hf;split at hc<;>(try cases hc);rename_i i hi;split at hc<;>(try cases hc);rename_i h0;simp only[gG]at hr;exact up (JV (hs x) hr hu hf rfl (oi hi) h0)
 · -- indexAddr
  rename_i t x i;split at hc<;>(try cases hc);rename_i e he;split at hc<;>(try cases hc);rename_i inf hi;simp only[gG]at hr;exact up (J_ (hs x) (hs i) hr (pO he) (oi hi))
 · -- extract
  rename_i x i;cases hc;simp only[gG]at hr;split at hr
  ·rename_i cs hx;have h1:=hs x;rw[hx]at h1;generalize hv1:a.eval x=v1 at h1;cases h1 with
   | aM _ vs hl hV=>
    have hlt:=(UY.1 hr).1;have hv:vs[i]?=some (vs[i]'(by rw[← hl];exact hlt)):=by simp[← hl,hlt]
    exact⟨_,by simp only[execOp,hv1,Instr.extract,hv,Sem.run_bind,Sem.run_pure,Result.andThen_ok],hV i r _ hr hv⟩
  ·cases hr
 · -- len
  rename_i args argTypes;split at hc<;>(try cases hc);rename_i x t hargs htys;obtain⟨rfl⟩:args=#[x]:=by cases args;simp at hargs;simp[hargs]
  obtain⟨rfl⟩:argTypes=#[t]:=by cases argTypes;simp at htys;simp[htys]
  have h1:=hs x;split at hc<;>(try cases hc)<;>rename_i hu<;>simp only[gG]at hr;·obtain⟨u,hu',hV⟩:=Ka (P:=P) h1 hr hu type;refine⟨u,?_,hV⟩;rw[qz];simp only[builtin,Xm,Vv,VO,Sem.run_bind,hu',Result.andThen_ok,Sem.run_pure]
  ·split at hr;·rename_i s hq;cases hr;rw[hq]at h1;generalize hv1:a.eval x=v1 at h1;cases h1;refine⟨.int .i64 s.size,?_,.aD _ _⟩;rw[qz];simp only[builtin,Xm,Vv,VO,hv1,Builtin.len_,VV,Vw,Sem.run_bind,run_underlying hu,Result.andThen_ok,Sem.run_pure,goInt]
   ·cases hr
 · -- min
  rename_i args ty;cases hc;simp only[gG]at hr;obtain⟨u,hu,hV⟩:=Ha (P:=P) (G:=G) (w:=w) false _ (args.toList.map a.eval) r hr (by simp) (VL.aA hs args.toList);refine⟨u,?_,hV⟩;rw[qz];simp only[builtin,Sem.run_bind];have:Builtin.min_ ty type (args.map a.eval)=Builtin.min_ #[] 0 (args.toList.map a.eval).toArray:=by simp[Builtin.min_]
  rw[this];simp only[Vn,VI]at hu;simp[hu]
 · -- max
  rename_i args ty;cases hc;simp only[gG]at hr;obtain⟨u,hu,hV⟩:=Ha (P:=P) (G:=G) (w:=w) true _ (args.toList.map a.eval) r hr (by simp) (VL.aA hs args.toList);refine⟨u,?_,hV⟩;rw[qz];simp only[builtin,Sem.run_bind];have:Builtin.max_ ty type (args.map a.eval)=Builtin.max_ #[] 0 (args.toList.map a.eval).toArray:=by simp[Builtin.max_]
  rw[this];simp only[VS]at hu;simp[hu]
 · -- makeFunc
  rename_i f first caps;split at hc<;>(try cases hc);rename_i h0;simp only[gG,U_]at hr;subst hr;have hf:first=#[]:=Wu h0;subst hf;refine⟨_,by simp only[execOp,Instr.makeFunc,Sem.run_bind,Sem.run_pure,Result.andThen_ok];rfl,?_⟩;have:((#[]:Array Operand).map a.eval)=#[]:=by simp
  rw[this];refine .aK _ _ _ _ _ rfl (λj c v h=>by simp at h) (by simp) (λj c v hc hv=>?_);exact VL.aA hs caps.toList j c v (by simpa using hc) (by simpa using hv)
 ·cases hc
theorem My {d:Nat}:∀(fs:List Field) (e:List (Nat×Bool)) (cs ds:List AV) (xs ys:Array Value) (r:Bool),rC P fs=some e → VL G w cs xs → VL G w ds ys →
  pX e cs ds=some r → (Op.eqFields (d+1) xs ys fs).run P w=.ok r w:=by
 intro fs;induction fs with
 | nil=>intro e cs ds xs ys r hp hx hy hr;simp only[rC,U_]at hp;subst hp;simp only[pX,U_]at hr;subst hr;rfl
 | cons f fs ih=>
  intro e cs ds xs ys r hp hx hy hr;simp only[rC]at hp;simp only[Op.eqFields];split at hp
  ·rename_i hn;rw[U4 hn];split at hp<;>(try cases hp)
   ·rename_i k rest hu u;simp only[pX]at hr;split at hr
    ·rename_i k1 a k2 b ha hb;obtain⟨v1,I,O⟩:=hx.aC ha;obtain⟨v2,E,M⟩:=hy.aC hb;cases O;cases M;split at hr
     ·rename_i hk;subst hk;have p1:(part f.type xs f.offset).run P w=.ok (.int k1 a) w:=by simp[part,isAgg,run_underlying hu,I]
      have p2:(part f.type ys f.offset).run P w=.ok (.int k1 b) w:=by simp[part,isAgg,run_underlying hu,E]
      simp only[Sem.run_bind,p1,p2,Result.andThen_ok,run_equalIn_int w d f.type k1 k a b hu];split at hr;·rename_i C;subst C;simp only[BEq.rfl,VF,Vn,VI];exact ih rest cs ds xs ys r u hx hy hr
      ·rename_i C;cases hr;simp only[beq_eq_false_iff_ne.2 C,VN,VS,Sem.run_pure]
     ·cases hr
    ·cases hr
   ·rename_i rest hu u;simp only[pX]at hr;split at hr
    ·rename_i a b ha hb;obtain⟨v1,I,O⟩:=hx.aC ha;obtain⟨v2,E,M⟩:=hy.aC hb;cases O;cases M;have p1:(part f.type xs f.offset).run P w=.ok (.bool a) w:=by simp[part,isAgg,run_underlying hu,I]
     have p2:(part f.type ys f.offset).run P w=.ok (.bool b) w:=by simp[part,isAgg,run_underlying hu,E]
     simp only[Sem.run_bind,p1,p2,Result.andThen_ok,run_equalIn_bool w d f.type a b hu];split at hr;·rename_i C;subst C;simp only[BEq.rfl,VF,Vn,VI];exact ih rest cs ds xs ys r u hx hy hr
     ·rename_i C;cases hr;simp only[beq_eq_false_iff_ne.2 C,VN,VS,Sem.run_pure]
    ·cases hr
  ·rename_i hn;rw[U6 hn];exact ih e cs ds xs ys r hp hx hy hr
theorem VL.aJ {cs:List AV}{vs:Array Value}(h:VL G w cs vs)(o n:Nat)(hn:o+n ≤ cs.length):VL G w ((cs.drop o).take n) (vs.extract o (o+n)):=by
 have:=h.1;refine⟨by simp;omega,λj c v hc hv=>?_⟩;rw[VZ]at hc;split at hc
 ·rename_i hj;rw[Vt]at hc;rw[Array.getElem?_extract]at hv;split at hv;·exact h.2 _ c v hc hv
  ·cases hv
 ·cases hc
theorem UT (hs:mw G w tr g a){o:Oper}{xo:sM}(hc:cX P tr o=some xo){r:AV}(hr:lR g xo=some r):
  ∃v,(execOp a.eval o).run P w=.ok (.value v) w ∧ V G w r v:=by
 obtain⟨dst,op,type,pos,after,guard⟩:=o;have up:∀{s:Sem Value},(∃v,s.run P w=.ok v w ∧ V G w r v) → ∃v,((do pure (.value (← s)):Sem Next)).run P w=.ok (.value v) w ∧ V G w r v:=by rintro s ⟨v,hv,hV⟩;exact⟨v,by simp[hv],hV⟩
 have bd:∀{q:Prop},lR g .aA=some r → q:=λh=>by simp[lR]at h
 unfold cX at hc;simp only at hc;split at hc
 ·rename_i bop t x y yt;split at hc
  ·rename_i e hu;have ptr:∀b,vB (g (tr x))=some b → ∃p:Option Addr,a.eval x=.pointer p ∧ p.isNone=b:=by
    intro b hb;have h0:=hs x;unfold vB at hb;split at hb<;>cases hb<;>rename_i hq<;>rw[hq]at h0<;>generalize a.eval x=v at h0<;>cases h0;·exact⟨none,rfl,rfl⟩
    ·exact⟨_,rfl,rfl⟩
    ·exact⟨_,rfl,rfl⟩
   have hc0:a.eval (.const (.pointer none))=.pointer none:=rfl;have hu':P.underlying t=some (.pointer (P.pointee t)):=by simp[Program.pointee,hu]
   split at hc
   ·split at hc<;>cases hc;·simp only[lR,Vl]at hr;obtain⟨b,hb,rfl⟩:=hr;obtain⟨p,hp,rfl⟩:=ptr b hb;refine up ⟨_,?_,.aG _⟩;simp only[hp,hc0,eqGuard_at_pointer,Sem.run_bind,Sem.run_pure,Result.andThen_ok,run_eql_pointer_nil w t p hu'];cases p<;>rfl
    ·simp only[lR,Vl]at hr;obtain⟨b,hb,rfl⟩:=hr;obtain⟨p,hp,rfl⟩:=ptr b hb;refine up ⟨_,?_,.aG _⟩;simp only[hp,hc0,eqGuard_at_pointer,Sem.run_bind,Sem.run_pure,Result.andThen_ok,run_neq_pointer_nil w t p hu'];cases p<;>rfl
    ·exact bd hr
   ·cases hc;exact bd hr
  ·rename_i fs hu;split at hc
   ·rename_i hh;have hu':P.underlying t=some (.struct (P.fieldsOf t)):=by simp[Program.fieldsOf,hu]
    have hfs:P.fieldsOf t=fs:=by simp[Program.fieldsOf,hu]
    have go:∀{l cs ds b},rC P fs.toList=some l → g (tr x)=.aF cs → g (tr y)=.aF ds → pX l cs ds=some b →
      ∃xs ys,a.eval x=.agg xs ∧ a.eval y=.agg ys ∧ (Op.equalIn 10000 t (.agg xs) (.agg ys)).run P w=.ok b w:=by
     intro l cs ds b hl hx hy hb;have h1:=hs x;have h2:=hs y;rw[hx]at h1;rw[hy]at h2;generalize a.eval x=v1 at *;generalize a.eval y=v2 at *;cases h1 with | aJ _ xs l1 V1=>cases h2 with | aJ _ ys l2 V2=>
     refine⟨xs,ys,rfl,rfl,?_⟩;rw[run_equalIn_struct w 9999 t xs ys hu' hh.1,hfs];exact My fs.toList l cs ds xs ys b hl ⟨l1,V1⟩ ⟨l2,V2⟩ hb
    split at hc<;>cases hc
    ·rename_i l hl;simp only[lR]at hr;split at hr;·rename_i cs ds hx hy;simp only[Vl]at hr;obtain⟨b,hb,rfl⟩:=hr;obtain⟨xs,ys,e1,e2,e3⟩:=go hl hx hy hb;refine up ⟨_,?_,.aG _⟩;simp only[e1,e2,Sem.run_bind,run_eqGuard_agg w _ t x y xs ys hh.2,Result.andThen_ok,run_eql_struct,e3];cases b<;>rfl
     ·cases hr
    ·rename_i l hl;simp only[lR]at hr;split at hr;·rename_i cs ds hx hy;simp only[Vl]at hr;obtain⟨b,hb,rfl⟩:=hr;obtain⟨xs,ys,e1,e2,e3⟩:=go hl hx hy hb;refine up ⟨_,?_,.aG _⟩;simp only[e1,e2,Sem.run_bind,run_eqGuard_agg w _ t x y xs ys hh.2,Result.andThen_ok,run_neq_struct,e3];cases b<;>rfl
     ·cases hr
    ·exact bd hr
   ·cases hc;exact bd hr
  ·cases hc;exact bd hr
 ·rename_i t x k;split at hc
  ·rename_i fs hu;split at hc
   ·rename_i f hf;split at hc
    ·rename_i i b hi hb;cases hc;simp only[lR]at hr;split at hr
     ·rename_i cs hx;have h1:=hs x;rw[hx]at h1;generalize hv1:a.eval x=v1 at h1;cases h1 with | aJ _ vs hl hV=>
      refine up ?_;split at hr
      ·rename_i hb';subst hb';split at hr;·rename_i hle;cases hr;have:=VL.aJ (G:=G) (w:=w) ⟨hl,hV⟩ f.offset i.size hle;refine⟨.agg (vs.extract f.offset (f.offset+i.size)),?_,.aJ _ _ this.1 this.2⟩;simp only[hv1,Instr.field,Sem.run_bind,run_underlying hu,Result.andThen_ok,hf,asAgg,Sem.run_pure,part,xW hb,VS,oi hi]
       ·cases hr
      ·rename_i hb';have hb'':b=false:=by simpa using hb'
       subst hb'';obtain⟨v,hv,hV'⟩:=VL.aC (G:=G) (w:=w) ⟨hl,hV⟩ hr;refine⟨v,?_,hV'⟩;simp only[hv1,Instr.field,Sem.run_bind,run_underlying hu,Result.andThen_ok,hf,asAgg,Sem.run_pure,part,xW hb,Vn,VI,hv]
     ·cases hr
    ·cases hc;exact bd hr
   ·cases hc;exact bd hr
  ·cases hc;exact bd hr
 ·rename_i t x i;split at hc
  ·rename_i hu;cases hc;simp only[lR]at hr;split at hr
   ·rename_i s k n hx hi;have h1:=hs x;have h2:=hs i;rw[hx]at h1;rw[hi]at h2;generalize hv1:a.eval x=v1 at h1;generalize hv2:a.eval i=v2 at h2;cases h1;cases h2;split at hr;·rename_i h0;simp only[Vl]at hr;obtain⟨b,hb,rfl⟩:=hr;refine up ⟨_,?_,.aD _ _⟩;simp only[hv1,hv2,Instr.index,asIntOf,Sem.run_bind,Sem.run_pure,Result.andThen_ok,run_underlying hu,h0,VS,hb]
    ·cases hr
   ·cases hr
  ·cases hc;exact bd hr
 ·rename_i f first caps;cases hc;simp only[lR,U_]at hr;subst hr;refine⟨_,by simp only[execOp,Instr.makeFunc,Sem.run_bind,Sem.run_pure,Result.andThen_ok];rfl,?_⟩;have h1:=VL.aA hs first.toList;have h2:=VL.aA hs caps.toList;exact .aK _ _ _ _ _ (by simp) (λj c v hc hv=>h1 j c v (by simpa using hc) (by simpa using hv)) (by simp) (λj c v hc hv=>h2 j c v (by simpa using hc) (by simpa using hv))
 ·rename_i args argTypes;split at hc
  ·rename_i x t hargs htys;obtain⟨rfl⟩:args=#[x]:=by cases args;simp at hargs;simp[hargs]
   obtain⟨rfl⟩:argTypes=#[t]:=by cases argTypes;simp at htys;simp[htys]
   split at hc
   ·rename_i e hu;cases hc;have key:∀(q:Option Addr)(l c:Nat),a.eval x=.slice q l c → (execOp a.eval {dst,op:=.call {callee:=.builtin .cap,args:=#[x],argTypes:=#[t]},type,pos,after,guard}).run P w=.ok (.value (.int .i64 c)) w:=by intro q l c hq;rw[qz];simp only[builtin,Xm,Vv,VO,hq,Builtin.cap_,VV,Vw,Sem.run_bind,run_underlying hu,Result.andThen_ok,Sem.run_pure,goInt]
    have h0:=hs x;simp only[lR]at hr;split at hr<;>(try cases hr)<;>rename_i hx<;>rw[hx]at h0<;>generalize hq:a.eval x=v at h0;·cases h0;exact⟨_,key _ _ _ hq,.aD _ _⟩
    ·cases h0 with
     | aC _ _ _ _ _ c ty m b h1 h2 h3 h4=>have:=h4 _ rfl;subst this;exact⟨_,key _ _ _ hq,.aD _ _⟩
     | aH _ _ _ h1 h2 h3=>have:=h3 _ rfl;subst this;exact⟨_,key _ _ _ hq,.aD _ _⟩
    ·cases h0 with
     | aE _ _ _ _ ad cap f h1 h2=>have:=h2 rfl;subst this;exact⟨_,key _ _ _ hq,.aD _ _⟩
     | aF=>exact⟨_,key _ _ _ hq,.aD _ _⟩
   ·cases hc;exact bd hr
  ·cases hc;exact bd hr
 ·cases hc
 ·split at hc;·cases hc
  ·cases hc;exact bd hr
theorem Ig (gm:fO G w h)(hs:mw G w tr g a){o:Oper}{ro:nN}(hc:cR P tr o=some ro){r:AV}(hr:gG g h ro=some r):
  ∃v,(execOp a.eval o).run P w=.ok (.value v) w ∧ V G w r v:=by
 unfold cR at hc;split at hc;·rename_i r' h';cases hc;exact RU gm hs h' hr
 ·simp only[Vl]at hc;obtain⟨xo,hx,rfl⟩:=hc;exact UT hs hx (by simpa [gG] using hr)
/-! the operations that make or change memory -/
theorem NO:∀(ps:List (Nat×Operand)) (k:Nat),tx k ps=true → ∀(j i:Nat)(x:Operand),ps[j]?=some (i,x) → i=k+j:=by
 intro ps;induction ps with
 | nil=>intro k _ j i x h;simp at h
 | cons p ps ih=>
  intro k hk j i x h;obtain⟨i0,x0⟩:=p;simp only[tx,Vq,beq_iff_eq]at hk;cases j with
  | zero=>simp at h;omega
  | succ j=>have:=ih (k+1) hk.2 j i x (by simpa using h);omega
theorem Ln {sz:Nat}:∀(xs:List AV) (es:List (List AV)),mB sz xs=some es →
  es.length=xs.length ∧ jy sz es ∧ ∀(j:Nat)(e:List AV)(x:AV),es[j]?=some e → xs[j]?=some x → x.aL=some e:=by
 intro xs;induction xs with
 | nil=>intro es h;simp only[mB,U_]at h;subst h;exact⟨rfl,λe he=>by simp at he,λj e x h=>by simp at h⟩
 | cons x xs ih=>
  intro es h;simp only[mB]at h;split at h
  ·rename_i cs E C u;split at h
   ·rename_i hh;cases h;obtain⟨h1,h2,h3⟩:=ih E u;refine⟨by simp[h1],λe he=>?_,λj e y he hy=>?_⟩
    ·rcases VP.1 he with rfl | he;·exact hh
     ·exact h2 e he
    ·cases j with
     | zero=>simp at he hy;subst he;subst hy;exact C
     | succ j=>exact h3 j e y (by simpa using he) (by simpa using hy)
   ·cases h
  ·cases h
/-- elements laid one behind the other over zeros -/
theorem MA {sz:Nat}:∀(vs:List (Nat×Value)) (k:Nat) (es:List (List AV)) (cells:Array Value),vs.length=es.length →
  (∀(j i:Nat)(v:Value),vs[j]?=some (i,v) → i=k+j) → (k+vs.length)*sz ≤ cells.size →
  (∀(j i:Nat)(v:Value)(e:List AV),vs[j]?=some (i,v) → es[j]?=some e → VL G w e v.cells ∧ e.length=sz) →
  ∃us,Instr.fill (λi=>some (i*sz,sz)) cells vs=some us ∧ us.size=cells.size ∧ (∀p,p<k*sz → us[p]?=cells[p]?) ∧
   ∀i j c,gw es i j=some c → ∃v,us[(k+i)*sz+j]?=some v ∧ V G w c v:=by
 intro vs;induction vs with
 | nil=>intro k es cells hl _ _ _;have:es=[]:=U7 (by simpa using hl.symm);subst this;exact⟨cells,rfl,rfl,λ_ _=>rfl,λi j c h=>by simp[gw]at h⟩
 | cons p vs ih=>
  intro k es cells hl hk hsz hV;obtain⟨i0,v0⟩:=p;cases es with
  | nil=>simp at hl
  | cons e es=>
   have hi0:i0=k:=by have:=hk 0 i0 v0 rfl;omega
   subst hi0;obtain⟨hv0,he0⟩:=hV 0 i0 v0 e rfl rfl;have hvsz:v0.cells.size=sz:=by rw[← hv0.1,he0]
   generalize hnew:(v0.cells.zipIdx.foldl (λcs (c,j)=>cs.setIfInBounds (i0*sz+j) c) cells)=new;have row:∀(l:List Value)(q:Nat)(cs:Array Value),i0*sz+q+l.length ≤ cs.size →
     ((l.zipIdx q).foldl (λcs (c,j)=>cs.setIfInBounds (i0*sz+j) c) cs).size=cs.size ∧
     ∀p,((l.zipIdx q).foldl (λcs (c,j)=>cs.setIfInBounds (i0*sz+j) c) cs)[p]?=if i0*sz+q ≤ p ∧ p<i0*sz+q+l.length then l[p-(i0*sz+q)]? else cs[p]?:=by
    intro l;induction l with
    | nil=>intro q cs _;exact⟨rfl,λp=>by simp;omega⟩
    | cons c l ihl=>
     intro q cs hq;simp only[List.zipIdx_cons,W8,Vf]at hq ⊢;obtain⟨a1,a2⟩:=ihl (q+1) (cs.setIfInBounds (i0*sz+q) c) (by simp;omega);refine⟨by simpa using a1,λp=>?_⟩;rw[a2];by_cases hp:p=i0*sz+q;·subst hp;rw[U6 (by omega),U4 (by omega),Array.getElem?_setIfInBounds_self_of_lt (by omega)];simp
     ·rw[WD (λe=>hp e.symm)];by_cases hp2:i0*sz+(q+1) ≤ p ∧ p<i0*sz+(q+1)+l.length;·rw[U4 hp2,U4 (by omega),show p-(i0*sz+q)=(p-(i0*sz+(q+1)))+1 by omega,V8]
      ·rw[U6 hp2,U6 (by omega)]
   have hmul:(i0+(vs.length+1))*sz=i0*sz+sz+vs.length*sz:=by rw[WI,Nat.succ_mul];omega
   simp only[Vf]at hsz;obtain⟨n1,n2⟩:=row v0.cells.toList 0 cells (by simp[hvsz];omega);have hnew':((v0.cells.toList.zipIdx 0).foldl (λcs (c,j)=>cs.setIfInBounds (i0*sz+j) c) cells)=new:=by rw[← hnew,← Array.foldl_toList];simp
   rw[hnew']at n1 n2;obtain⟨us,h1,h2,h3,h4⟩:=ih (i0+1) es new (by simpa using hl) (λj i v h=>by have:=hk (j+1) i v (by simpa using h);omega) (by rw[n1,show i0+1+vs.length=i0+(vs.length+1) by omega];exact hsz)
    (λj i v e a b=>hV (j+1) i v e (by simpa using a) (by simpa using b))
   refine⟨us,?_,by rw[h2,n1],λp hp=>?_,λi j c hc=>?_⟩;·simp only[Instr.fill,hvsz,hnew];rw[U6 (by simp;omega)];exact h1
   ·rw[h3 p (by rw[WI];omega),n2,U6 (by omega)]
   ·cases i with
    | zero=>
     simp only[gw,Vw,Wi]at hc;have hj:=(UY.1 hc).1;obtain⟨v,hv,hVc⟩:=hv0.aC hc;refine⟨v,?_,hVc⟩;have hjs:j<sz:=by omega
     rw[h3 _ (by rw[WK,Nat.succ_mul];omega),n2,U4 (by simp[hvsz];omega)];simp only[WK,Array.getElem?_toList];rw[show i0*sz+j-i0*sz=j by omega];exact hv
    | succ i=>obtain⟨v,hv,hVc⟩:=h4 i j c (by simpa [gw] using hc);exact⟨v,by rw[show i0+(i+1)=i0+1+i by omega];exact hv,hVc⟩
/-- what is made of an operation that makes or changes memory: its value,or nothing -/
def sq (P:Program)(s:Sem Next)(G:Gh)(w:World)(r:AV)(h':eX):Prop:=
 ∃n v w' G',s.run P w=.ok n w' ∧ (n=.value v ∨ (n=.skip ∧ v=undef)) ∧ fO G' w' h' ∧ V G' w' r v ∧ gI G w G' w'
theorem sq.of {s:Sem Value}{r:AV}{h':eX}(hd:mK P s G w r h'):sq P (do pure (.value (← s)):Sem Next) G w r h':=by obtain⟨v,w',G',h1,h2,h3,h4⟩:=hd;exact⟨.value v,v,w',G',by simp[h1],.inl rfl,h2,h3,h4⟩
def qk (a:Act)(ps:List (Nat×Operand)):List (Nat×Value):=ps.map λp=>(p.1,a.eval p.2)
def xw (a:Act)(ps:Array (Nat×Operand)):Array (Nat×Value):=ps.map λp=>(p.1,a.eval p.2)
theorem EZ (hs:mw G w tr g a){ps:List (Nat×Operand)}{len sz:Nat}{es:List (List AV)}(hord:tx 0 ps=true)(hlen:ps.length=len)(hel:es.length=len)(hok:jy sz es)
  (hce:∀(j:Nat)(e:List AV)(x:AV),es[j]?=some e → ((ps.map λp=>tr p.2).map g)[j]?=some x → x.aL=some e) (Z:Array Value) (hZ:Z.size=len*sz):
  ∃us,Instr.fill (λi=>some (i*sz,sz)) Z (qk a ps)=some us ∧ us.size=len*sz ∧ ∀i j c,gw es i j=some c → ∃v,us[i*sz+j]?=some v ∧ V G w c v:=by
 obtain⟨us,hus,husz,_,hV⟩:=MA (G:=G) (w:=w) (sz:=sz) (qk a ps) 0 es Z (by simp[qk,hel,hlen])
  (λj i v hj=>by simp only[qk,VE,Vl]at hj;obtain⟨⟨i',x⟩,hj,hq⟩:=hj;obtain⟨rfl,rfl⟩:=Prod.mk.inj hq;exact NO _ _ hord j i' x hj)
  (by simp[qk,hlen,hZ])
  (λj i v e hj he=>by simp only[qk,VE,Vl]at hj;obtain⟨⟨i',x⟩,hj,hq⟩:=hj;obtain⟨rfl,rfl⟩:=Prod.mk.inj hq;have hce':=hce j e (g (tr x)) he (by simp[hj]);exact⟨(hs x).aS hce',(hok e (WN he)).1⟩)
 exact⟨us,hus,by rw[husz,hZ],λi j c hc=>by have:=hV i j c hc;rwa [WR]at this⟩
theorem KW (hs:mw G w tr g a){ps:Array (Nat×Operand)}{t e:TypeId}{len sz b:Nat}{z:Value}{es:List (List AV)}(he:oM P t=some e)(hz:nI P e=some (sz,b,z))
  (hzsz:z.cells.size=sz) (hbig:len*sz ≤ 2^24) (hord:tx 0 ps.toList=true) (hlen:ps.size=len) (hel:es.length=len) (hok:jy sz es)
  (hce:∀(j:Nat)(e:List AV)(x:AV),es[j]?=some e → ((ps.toList.map λp=>tr p.2).map g)[j]?=some x → x.aL=some e):
  LD P (Instr.buildSlice t len (xw a ps)) G w (λnm=>.aG nm sz 0 len (some len)) sz es false:=by
 obtain⟨i,hi,hisz,_,_⟩:=xA hz;have hno:¬(len*sz>2^24):=Nat.not_lt.2 hbig;have hpz:(xw a ps).toList=qk a ps.toList:=by simp[xw,qk]
 have mk:∀us:Array Value,us.size=len*sz → (∀i j c,gw es i j=some c → ∃v,us[i*sz+j]?=some v ∧ V G w c v) →
   LD P (do pure (.slice (some (← newRow e us)) len len)) G w (λnm=>.aG nm sz 0 len (some len)) sz es false:=by
  intro us husz hV;exact Hd (P:=P) (cells:=us) (sz:=sz) (es:=es) (gr:=false) e hok (by rw[husz,hel];exact U8 _) (λ_=>by rw[husz,hel])
    hV len len (some len) (U8 _) (λk hk=>by cases hk;rfl) (by rw[husz];exact U8 _)
 by_cases h0:len*sz=0
 ·obtain⟨us,hus,husz,hV⟩:=EZ hs hord (by simpa using hlen) hel hok hce ((Array.range (len*sz)).map λk=>(#[]:Array Value)[k % (#[]:Array Value).size]!) (by simp);obtain⟨cells,ty,v,h1,h2⟩:=mk us husz hV;refine⟨cells,ty,v,?_,h2⟩;rw[← h1];simp only[Instr.buildSlice,Sem.run_bind,run_underlying (pO he),Result.andThen_ok,oi hi,hisz,Sem.run_ite,U6 hno,hpz,U4 h0,Sem.run_pure,hus]
 ·obtain⟨us,hus,husz,hV⟩:=EZ hs hord (by simpa using hlen) hel hok hce ((Array.range (len*sz)).map λk=>z.cells[k % z.cells.size]!) (by simp);obtain⟨cells,ty,v,h1,h2⟩:=mk us husz hV;refine⟨cells,ty,v,?_,h2⟩;rw[← h1];simp only[Instr.buildSlice,Sem.run_bind,run_underlying (pO he),Result.andThen_ok,oi hi,hisz,Sem.run_ite,U6 hno,hpz,U6 h0,Sem.run_pure,xX hz,hus]
theorem O8 {t e:TypeId}{sz b:Nat}{z:Value}(he:oM P t=some e)(hz:nI P e=some (sz,b,z))(u:z.cells.size=sz)(hb:0<b)
  (a2:(z.cells.toList.map jn).all AV.aH=true) {k1 k2:IntKind} {l c:Int} (h0:0 ≤ l) (hlc:l ≤ c) (hbig:c*b ≤ 2^46):
  LD P (Instr.makeSlice t (.int k1 l) (.int k2 c)) G w (λnm=>.aG nm sz 0 l.toNat (some c.toNat)) sz (List.replicate c.toNat (z.cells.toList.map jn)) false:=by
 obtain⟨i,hi,C,a3,_⟩:=xA hz;have I:c ≤ 2^46:=by have:c*1 ≤ c*b:=Int.mul_le_mul_of_nonneg_left (by omega) (by omega);omega
 have M:=yg h0 (by omega);have O:=yg (c:=c) (by omega) I;have hbig':¬((i.bytes:Int)*c>2^48):=by
  have e2:(2:Int)^46=70368744177664:=by decide
  have e3:(2:Int)^48=281474976710656:=by decide
  rw[a3,Int.mul_comm];omega
 have U:jy sz (List.replicate c.toNat (z.cells.toList.map jn)):=by intro e he;rw[List.mem_replicate]at he;rw[he.2];exact⟨by simp[u],a2⟩
 have mk:∀us:Array Value,us.size=c.toNat*sz → (∀k,k<c.toNat*sz → us[k]?=z.cells[k % sz]?) →
   LD P (do pure (.slice (some (← newRow e us)) l.toNat c.toNat)) G w (λnm=>.aG nm sz 0 l.toNat (some c.toNat)) sz (List.replicate c.toNat (z.cells.toList.map jn)) false:=by
  intro us E hk;refine Hd (P:=P) (cells:=us) (sz:=sz) (gr:=false) e U (by simp[E]) (λ_=>by simp[E]) (λi j cc hc=>?_) l.toNat c.toNat (some c.toNat) (by omega) (λk hk=>by cases hk;rfl) (by rw[E];exact U8 _);obtain⟨hi,hj⟩:=oP U hc;rw[Wo]at hi;have hlt:=qh (n:=c.toNat) hi hj;have W:j<z.cells.size:=by omega
  simp only[gw,WC,hi,VS,Wi,VE]at hc;have Z:z.cells.toList[j]?=some z.cells[j]:=by simp[W]
  rw[Z]at hc;simp only[Ws,U_]at hc;subst hc;refine⟨z.cells[j],?_,V.aT G w _⟩;rw[hk _ hlt,Nat.mul_comm,Nat.mul_add_mod,Nat.mod_eq_of_lt hj];simp[W]
 by_cases hn:c.toNat*sz=0
 ·obtain⟨cells,ty,v,h1,h2⟩:=mk ((Array.range (c.toNat*sz)).map λk=>(#[]:Array Value)[k % (#[]:Array Value).size]!) (by simp) (λk hk=>by omega);refine⟨cells,ty,v,?_,h2⟩;rw[← h1];simp only[Instr.makeSlice,Sem.run_bind,run_underlying (pO he),Result.andThen_ok,asInt,asIntOf,Sem.run_pure,run_typeInfo w hi,M,O];rw[U6 (by simp;omega)];simp only[Sem.run_bind,Sem.run_pure,Result.andThen_ok,run_askRoom,oi hi,C,Sem.run_ite,U4 hn]
 ·obtain⟨cells,ty,v,h1,h2⟩:=mk ((Array.range (c.toNat*sz)).map λk=>z.cells[k % z.cells.size]!) (by simp) (λk hk=>by have a1:0<sz:=Nat.pos_of_ne_zero (λh=>hn (by rw[h,Nat.mul_zero]));have:=Nat.mod_lt k a1;simp[hk,u];rw[getElem!_pos z.cells (k % sz) (by omega)];simp[u,this]);refine⟨cells,ty,v,?_,h2⟩;rw[← h1];simp only[Instr.makeSlice,Sem.run_bind,run_underlying (pO he),Result.andThen_ok,asInt,asIntOf,Sem.run_pure,run_typeInfo w hi,M,O];rw[U6 (by simp;omega)];simp only[Sem.run_bind,Sem.run_pure,Result.andThen_ok,run_askRoom,oi hi,C,Sem.run_ite,U6 hn,xX hz]
/-- what makes one block does so -/
theorem GY (hs:mw G w tr g a){o:Oper}{ho:nK}(hc:cH P tr o=some ho){nm:Nat}{r:AV}{sz:Nat}{es:List (List AV)}{gr:Bool}(hr:jz g nm ho=some (r,.aA sz es gr)):
  ∃(s:Sem Value)(Z:Nat → AV),execOp a.eval o=(do pure (.value (← s))) ∧ Z nm=r ∧ LD P s G w Z sz es gr:=by
 obtain⟨dst,op,type,pos,after,guard⟩:=o;unfold cH at hc;simp only at hc;split at hc
 · -- alloc
  rename_i t;split at hc<;>(try cases hc);rename_i O b z hz;split at hc<;>(try cases hc);rename_i I;simp only[jz,U_,V5,e_.aA.injEq]at hr;obtain⟨rfl,rfl,rfl,rfl⟩:=hr;refine⟨Instr.alloc t true (.tuple #[]),λnm=>.aC nm (z.cells.toList.map jn).length 0 0,rfl,rfl,?_⟩;obtain⟨cells,ty,v,h1,h2⟩:=He (P:=P) (v:=z) (VL.aD G w z.cells) I t;refine⟨cells,ty,v,?_,h2⟩;simp only[Instr.alloc,Sem.run_bind,xX hz,Result.andThen_ok];exact h1
 · -- box
  rename_i t x;cases hc;simp only[jz]at hr;split at hr
  ·rename_i cs a6;split at hr;·rename_i I;simp only[U_,V5,e_.aA.injEq]at hr;obtain⟨rfl,rfl,rfl,rfl⟩:=hr;exact⟨Instr.box t (a.eval x),λnm=>.aC nm cs.length 0 0,rfl,rfl,He (P:=P) ((hs x).aS a6) I t⟩
   ·cases hr
  ·cases hr
 · -- buildSlice
  rename_i t len ps;split at hc<;>(try cases hc);rename_i e he;split at hc<;>(try cases hc);rename_i O b z hz;split at hc<;>(try cases hc);rename_i u;simp only[Vq,beq_iff_eq,VD]at u;obtain⟨⟨⟨U,M⟩,C⟩,E⟩:=u;simp only[jz]at hr;split at hr
  ·rename_i a9 a4;simp only[U_,V5,e_.aA.injEq]at hr;obtain⟨rfl,rfl,rfl,rfl⟩:=hr;obtain⟨a5,a1,a8⟩:=Ln _ _ a4;simp at a5;have W:a9.length=len:=by omega
   have a3:(ps.toList.map λp=>tr p.2).length=len:=by simp[M]
   refine⟨Instr.buildSlice t len (xw a ps),λnm=>.aG nm O 0 len (some len),rfl,by rw[a3],?_⟩;exact KW hs he hz C E U M W a1 a8
  ·cases hr
 · -- makeSlice
  rename_i t l c;split at hc<;>(try cases hc);rename_i e he;split at hc<;>(try cases hc);rename_i O b z hz;split at hc<;>(try cases hc);rename_i u;obtain⟨C,hb,I⟩:=u;simp only[jz]at hr;split at hr
  ·rename_i k1 l' k2 c' hl a7;split at hr;·rename_i hh;obtain⟨h0,a2,E⟩:=hh;simp only[U_,V5,e_.aA.injEq]at hr;obtain⟨rfl,rfl,rfl,rfl⟩:=hr;have v1:=hs l;have v2:=hs c;rw[hl]at v1;rw[a7]at v2;generalize hv1:a.eval l=x1 at v1;generalize hv2:a.eval c=x2 at v2;cases v1;cases v2;refine⟨Instr.makeSlice t (.int k1 l') (.int k2 c'),λnm=>.aG nm O 0 l'.toNat (some c'.toNat),by simp only[execOp,hv1,hv2],rfl,O8 (P:=P) (k1:=k1) (k2:=k2) he hz C hb I h0 a2 E⟩
   ·cases hr
  ·cases hr
 ·split at hc<;>(try cases hc);simp[jz]at hr
 ·split at hc<;>(try cases hc);split at hc<;>(try cases hc);split at hc<;>(try cases hc);split at hc<;>(try cases hc);split at hc<;>(try cases hc);·simp[jz]at hr
  ·split at hc<;>(try cases hc);simp[jz]at hr
 ·split at hc<;>(try cases hc);split at hc<;>(try cases hc);split at hc<;>(try cases hc);split at hc<;>(try cases hc);simp[jz]at hr
 ·cases hc
theorem Cy {ho:nK}{nm:Nat}{r:AV}{b:e_}(hr:jz g nm ho=some (r,b)):∃sz es gr,b=.aA sz es gr:=by cases ho<;>simp only[jz]at hr;all_goals (repeat' split at hr);all_goals simp only[U_,V5,reduceCtorEq]at hr;all_goals exact⟨_,_,_,hr.2.symm⟩
theorem Gy (gm:fO G w h)(hs:mw G w tr g a){o:Oper}{ho:nK}(hc:cH P tr o=some ho){r:AV}{h':eX}(hr:jY g h ho=some (r,h')):
  sq P (execOp a.eval o) G w r h':=by
 have light:∀{b:e_},jz g h.length ho=some (r,b) → h'=h++[some b] → sq P (execOp a.eval o) G w r h':=by rintro b hb rfl;obtain⟨sz,es,gr,rfl⟩:=Cy hb;obtain⟨s,mkv,he,hm,hl⟩:=GY (P:=P) hs hc hb;rw[he,← hm];exact sq.of (hl.aA gm)
 have light':(match jz g h.length ho with | some (v,b)=>some (v,h++[some b]) | none=>none)=some (r,h') → sq P (execOp a.eval o) G w r h':=by
  intro hq;split at hq;·rename_i v b hb;simp only[U_,V5]at hq;obtain⟨rfl,rfl⟩:=hq;exact light hb rfl
  ·cases hq
 obtain⟨dst,op,type,pos,after,guard⟩:=o;have hc0:=hc;unfold cH at hc;simp only at hc;split at hc;·split at hc<;>(try cases hc);split at hc<;>(try cases hc);exact light' hr
 ·cases hc;exact light' hr
 ·split at hc<;>(try cases hc);split at hc<;>(try cases hc);split at hc<;>(try cases hc);exact light' hr
 ·split at hc<;>(try cases hc);split at hc<;>(try cases hc);split at hc<;>(try cases hc);exact light' hr
 · -- store
  rename_i t p x;split at hc<;>(try cases hc);rename_i i hi;simp only[jY,Vl]at hr;obtain⟨h1,hst,hq⟩:=hr;obtain⟨rfl,rfl⟩:=Prod.mk.inj hq;obtain⟨w',hrun,hg,hstp⟩:=Ky (P:=P) gm (hs p) (hs x) hst (oi hi);exact⟨.skip,undef,w',G,by simp only[execOp,Sem.run_bind,hrun,Result.andThen_ok,Sem.run_pure],.inr ⟨rfl,rfl⟩,hg,.aI _,hstp⟩
 · -- append
  rename_i args tys;split at hc<;>(try cases hc);rename_i x y s t hargs htys;obtain⟨rfl⟩:args=#[x,y]:=by cases args;simp at hargs;simp[hargs]
  obtain⟨rfl⟩:tys=#[s,t]:=by cases tys;simp at htys;simp[htys]
  split at hc<;>(try cases hc);rename_i e he;split at hc<;>(try cases hc);rename_i sz b z hz;split at hc<;>(try cases hc);rename_i hcond;obtain⟨i,hi,hisz,hib,hiz⟩:=xA hz;split at hc<;>(try cases hc);·rename_i e' hu';simp only[jY]at hr;have T:vO P s t e sz b i z:=⟨pO he,⟨e',hu'⟩,hi,hisz,hib,hiz,hcond.2,hcond.1⟩;obtain⟨v,w',G',h1,h2,h3,h4⟩:=JK (P:=P) gm (hs x) (hs y) hr T type;refine⟨.value v,v,w',G',?_,.inl rfl,h2,h3,h4⟩;rw[qz];simp only[builtin,Xm,Vv,VO,Sem.run_bind,h1,Result.andThen_ok,Sem.run_pure]
  ·rename_i k' hu';split at hc<;>(try cases hc);rename_i hsc;simp only[jY]at hr;have T:vP P s t e sz b i z:=⟨pO he,⟨k',hu'⟩,hi,hisz,hib,hiz,hcond.2,hcond.1⟩;obtain⟨v,w',G',h1,h2,h3,h4⟩:=JJ (P:=P) gm (hs x) (hs y) T hsc hr type;refine⟨.value v,v,w',G',?_,.inl rfl,h2,h3,h4⟩;rw[qz];simp only[builtin,Xm,Vv,VO,Sem.run_bind,h1,Result.andThen_ok,Sem.run_pure]
 · -- clear
  rename_i args tys;split at hc<;>(try cases hc);rename_i x s hargs htys;obtain⟨rfl⟩:args=#[x]:=by cases args;simp at hargs;simp[hargs]
  obtain⟨rfl⟩:tys=#[s]:=by cases tys;simp at htys;simp[htys]
  split at hc<;>(try cases hc);rename_i e he;split at hc<;>(try cases hc);rename_i sz b z hz;split at hc<;>(try cases hc);rename_i hcond;obtain⟨i,hi,hisz,hib,hiz⟩:=xA hz;simp only[jY,Vl]at hr;obtain⟨h1,hst,hq⟩:=hr;obtain⟨rfl,rfl⟩:=Prod.mk.inj hq;obtain⟨w',hrun,hg,hstp⟩:=JP (P:=P) gm (hs x) (pO he) hi hiz hcond.1 hcond.2 hst type;refine⟨.value (.tuple #[]),.tuple #[],w',G,?_,.inl rfl,hg,.aM _ _ rfl (λj c v h=>by simp at h),hstp⟩;rw[qz];simp only[builtin,Xm,Vv,VO,Sem.run_bind,hrun,Result.andThen_ok,Sem.run_pure]
 ·cases hc
end
end Glb
/-
 A library of its own,for whatever program: code,and what is to be shown of it.
-/
namespace Glb
open Go
abbrev fX:=List (Nat×AV)
def lk (s:Nat):fX → AV
 | []=>.aR
 | (t,v) :: r=>if t=s then v else lk s r
def mU (s:Nat)(v:AV):fX → fX
 | []=>[(s,v)]
 | (t,u) :: r=>if t=s then (s,v) :: r else if s<t then (s,v) :: (t,u) :: r else (t,u) :: mU s v r
theorem fm (s t:Nat)(v:AV)(e:fX):lk t (mU s v e)=if t=s then v else lk t e:=by
 have ne:∀{x y:Nat},¬x=y → ¬y=x:=λh e=>h e.symm;induction e with
 | nil=>
  simp only[mU,lk];by_cases h:s=t;·subst h;simp
  ·have:=ne h;simp[h,this]
 | cons p r ih=>
  obtain⟨q,u⟩:=p;simp only[mU];split
  ·rename_i h;subst h;simp only[lk];by_cases h:q=t;·subst h;simp
   ·have:=ne h;simp[h,this]
  ·rename_i hq;split
   ·simp only[lk];by_cases h:s=t;·subst h;simp
    ·have:=ne h;simp[h,this]
   ·simp only[lk,ih];by_cases h:q=t;·subst h;have:¬(q=s):=hq;simp[this]
    ·simp[h]
structure St where
 L:fX
 R:fX
 h:eX
inductive jP where
 | aC
 | aA (s:Nat)
 | aD (s:Nat)
def St.aA (st:St):fE → AV
 | .aC s=>lk s st.L
 | .aD s=>lk s st.R
 | .aA v=>v
def St.aC (st:St)(d:jP)(v:AV):St:=
 match d with
 | .aC=>st
 | .aA s=>{st with L:=mU s v st.L}
 | .aD s=>{st with R:=(s,v) :: st.R}
structure AO where
 aA:jP
 op:iY
 aC:Option (fE×Bool)
/-! the state that the code is in -/
structure SR (n:Nat)(keep:Nat → Bool)(G0:Gh)(w0:World)(G:Gh)(w:World)(st:St)(a:Act):Prop where
 aA:fO G w st.h
 aE:a.tmps.size=n
 aC:a.defers=[]
 L:∀s,keep s=true → V G w (lk s st.L) (a.tmps.getD s undef)
 R:∀s,keep s=false → V G w (lk s st.R) (a.tmps.getD s undef)
 aD:gI G0 w0 G w
section
variable {n:Nat} {keep:Nat → Bool} {G0:Gh} {w0:World} {P:Program}
theorem SR.aF {G w st a}(sr:SR n keep G0 w0 G w st a):mw G w (cd keep) st.aA a:=by
 intro x;cases x with
 | tmp s=>
  simp only[cd];split;·rename_i h;exact sr.L s h
  ·rename_i h;exact sr.R s (by simpa using h)
 | const v=>exact V.aZ G w v
 | global g=>exact .aP _
 | func f=>exact .aK f [] #[] [] #[] rfl (λj c v h=>by simp at h) rfl (λj c v h=>by simp at h)
/-- where an operation's value goes -/
def rk (n:Nat)(keep:Nat → Bool):Option Tmp → Option jP
 | none=>some .aC
 | some s=>if s<n then some (if keep s then .aA s else .aD s) else none
theorem tp {a:Act}{s q:Nat}{v:Value}(h:s<a.tmps.size):(a.tmps.setIfInBounds s v).getD q undef=if q=s then v else a.tmps.getD q undef:=by
 by_cases e:q=s
 ·subst e;simp[h]
 ·simp[e,WD (λx=>e x.symm)]
theorem SR.aG {G w st a G' w' h' d t r v}(sr:SR n keep G0 w0 G w st a)(hd:rk n keep t=some d)(hg:fO G' w' h')(hs:gI G w G' w')(hv:V G' w' r v):
  SR n keep G0 w0 G' w' {st.aC d r with h:=h'} (a.put t v):=by
 have hL:∀s,keep s=true → V G' w' (lk s st.L) (a.tmps.getD s undef):=λs h=>(sr.L s h).aA hs.aA;have hR:∀s,keep s=false → V G' w' (lk s st.R) (a.tmps.getD s undef):=λs h=>(sr.R s h).aA hs.aA;cases t with
 | none=>simp only[rk,U_]at hd;subst hd;exact⟨hg,sr.aE,sr.aC,hL,hR,sr.aD.aI hs⟩
 | some s=>
  simp only[rk]at hd;split at hd
  ·rename_i hlt;have u:s<a.tmps.size:=by rw[sr.aE];exact hlt
   simp only[U_]at hd;split at hd<;>rename_i hk<;>subst hd
   ·refine⟨hg,by simp[Act.put,sr.aE],sr.aC,λq hq=>?_,λq hq=>?_,sr.aD.aI hs⟩
    ·simp only[St.aC,fm,Act.put];rw[tp u];split;·exact hv
     ·exact hL q hq
    ·simp only[St.aC,Act.put];rw[tp u,U6 (by rintro rfl;rw[hk]at hq;cases hq)];exact hR q hq
   ·refine⟨hg,by simp[Act.put,sr.aE],sr.aC,λq hq=>?_,λq hq=>?_,sr.aD.aI hs⟩;·simp only[St.aC,Act.put];rw[tp u,U6 (by rintro rfl;exact hk hq)];exact hL q hq
    ·simp only[St.aC,lk,Act.put];rw[tp u];by_cases e:s=q;·subst e;simp;exact hv
     ·have:¬q=s:=λx=>e x.symm;simp only[e,this,VI];exact hR q hq
  ·cases hd
/-! calls -/
/-- what a call of a function comes to -/
def fC (P:Program)(f:FuncId)(avs:List AV)(h:eX)(K:AV → eX → Prop):Prop:=
 ∀(G:Gh)(w:World)(vs:Array Value),fO G w h → VL G w avs vs → Calls P f vs w λe w'=>∃v r h' G',e=.returned v ∧ K r h' ∧ fO G' w' h' ∧ V G' w' r v ∧ gI G w G' w'
theorem fC.aA {f avs h}{K K':AV → eX → Prop}(hc:fC P f avs h K)(hk:∀r h',K r h' → K' r h'):fC P f avs h K':=
 λG w vs hg hv=>(hc G w vs hg hv).mono λ_ _ ⟨v,r,h',G',h1,h2,h3⟩=>⟨v,r,h',G',h1,hk _ _ h2,h3⟩
def fK (P : Program) (f : FuncId) : Bool :=
 match P.funcs[f]? with
 | some fn => fn.body.isSome && !(fn.name == "runtime.NumGoroutine")
 | none => false
theorem tV {f:FuncId}(hf:fK P f=true)(args:Array Value)(w:World):(callFunc f args).run P w=.ok (.enter f args) w:=by
 unfold fK at hf;split at hf
 ·rename_i fn e;simp only[Vq,Xg]at hf;have hb:fn.body.isNone=false:=by cases h:fn.body with | none=>simp[h]at hf | some c=>rfl
  simp only[callFunc,Sem.run_bind,run_program,Result.andThen_ok,e,hf.2,hb,Vn,VI,Sem.run_pure]
 ·cases hf
/-! one operation -/
def mH (P:Program)(o:AO)(st:St)(k:St → Prop):Prop:=
 match o.op with
 | .r ro=>match gG st.aA st.h ro with
  | some v=>k (st.aC o.aA v)
  | none=>False
 | .h ho=>match jY st.aA st.h ho with
  | some (v,h')=>k {st.aC o.aA v with h:=h'}
  | none=>False
 | .aC f args=>fK P f=true ∧ fC P f (args.map st.aA) st.h λv h'=>k {st.aC o.aA v with h:=h'}
 | .aD x args=>match st.aA x with
  | .aK f fs cs=>fK P f=true ∧ fC P f (fs++args.map st.aA++cs) st.h λv h'=>k {st.aC o.aA v with h:=h'}
  | _=>False
/-! lists of operations,in the order of the text -/
def gX (P:Program):List AO → St → (St → Prop) → Prop
 | [],st,k=>k st
 | o :: r,st,k=>
  match o.aC with
  | none=>mH P o st λst'=>gX P r st' k
  | some (x,want)=>match st.aA x with
   | .aE b=>(b=want → mH P o st λst'=>gX P r st' k) ∧ (b=(!want) → gX P r (st.aC o.aA (.aI [])) k)
   | .aI _=>gX P r (st.aC o.aA (.aI [])) k
   | _=>False
/-- an operation's guard,by the slot that it looks at -/
def zE (keep:Nat → Bool)(ops:Array Oper):Option (Nat×Bool) → Option (Option (fE×Bool))
 | none=>some none
 | some (j,want)=>match (ops[j]?).bind (·.dst) with
  | some t=>some (some (cd keep (.tmp t),want))
  | none=>none
def wU (P:Program)(n:Nat)(keep:Nat → Bool)(ops:Array Oper)(o:Oper):Option AO:=
 match rk n keep o.dst,lj P (cd keep) o,zE keep ops o.guard with
 | some d,some op,some g=>some ⟨d,op,g⟩
 | _,_,_=>none
def qb (P:Program)(n:Nat)(keep:Nat → Bool)(ops:Array Oper):List Oper → Option (List AO)
 | []=>some []
 | o :: r=>match wU P n keep ops o,qb P n keep ops r with
  | some x,some l=>some (x :: l)
  | _,_=>none
theorem SR.aJ {G w st a d t}(sr:SR n keep G0 w0 G w st a)(hd:rk n keep t=some d):SR n keep G0 w0 G w (st.aC d (.aI [])) (a.put t undef):=by
 have e:({st.aC d (.aI []) with h:=st.h}:St)=st.aC d (.aI []):=by cases d<;>rfl
 have:=sr.aG hd sr.aA (gI.aD G w) (V.aM (G:=G) (w:=w) [] #[] rfl (λj c v h=>by simp at h));rw[e]at this;exact this
/-- does the guard let the operation be done? -/
theorem Nn {G w st a}(sr:SR n keep G0 w0 G w st a){ops:Array Oper}{o:Oper}{j:Nat}{want:Bool}{t:Tmp}(hg:o.guard=some (j,want))(ht:(ops[j]?).bind (·.dst)=some t):
  (∀b,st.aA (cd keep (.tmp t))=.aE b → Region.wanted o (yielded ops a.tmps)=(b == want)) ∧ (∀cs,st.aA (cd keep (.tmp t))=.aI cs → Region.wanted o (yielded ops a.tmps)=false):=by
 have hv:=sr.aF (.tmp t);have hy:yielded ops a.tmps j=match a.tmps[t]? with | some (.bool b)=>some b | _=>none:=by simp only[yielded,ht,Wi];rfl
 have hev:a.eval (.tmp t)=(a.tmps[t]?).getD undef:=by simp[Act.eval]
 rw[hev]at hv;constructor
 ·intro b hb;rw[hb]at hv;cases hq:a.tmps[t]? with
  | none=>rw[hq]at hv;cases hv
  | some v=>rw[hq]at hv;simp only[Vu]at hv;cases hv;simp only[Region.wanted,hg,hy,hq];cases b<;>cases want<;>rfl
 ·intro cs hb;rw[hb]at hv;cases hq:a.tmps[t]? with
  | none=>simp[Region.wanted,hg,hy,hq]
  | some v=>rw[hq]at hv;simp only[Vu]at hv;cases hv;simp[Region.wanted,hg,hy,hq]
end
end Glb
/-
 A library of its own,for whatever program: regions whose order is drawn.
-/
namespace Glb
open Go
/-! a block laid at a name that was kept free -/
def Gh.aG (G:Gh)(nm b:Nat):Gh:=
 {G with aA:=λn=>if n=nm then some b else G.aA n,aD:=λn=>G.aD n ∨ n=nm}
theorem fO.aY {G w h}(g:fO G w h){nm:Nat}(hl:G.aA nm=none)(hn:¬G.aE nm)(o:Obj):ic G w (G.aG nm w.heap.size) (w.alloc o) where
 N:=U8 _
 aA n b hlt hb:=by
  by_cases e:n=nm
  ·subst e;rw[hl]at hb;cases hb
  ·simp only[Gh.aG,e,VI];exact hb
 aF n _ h:=h
 aC t b hp:=by cases t<;>exact hp
 aD t b hp:=nX (g.aQ hp)
 aE b hb:=Dj hb
theorem fO.bE {G w h} (g : fO G w h) {nm : Nat} (hlt : nm < G.N) (hh : h[nm]? = some none) (hl : G.aA nm = none) (hn : ¬ G.aE nm)
    {cells : Array Value} {ty : TypeId} {sz : Nat} {es : List (List AV)} {gr : Bool}
    (a2 : jy sz es) (a3 : es.length * sz ≤ cells.size) (a4 : gr = false → cells.size = es.length * sz)
    (hV : ∀ i j c, gw es i j = some c → ∃ v, cells[i * sz + j]? = some v ∧ V G w c v) :
    fO (G.aG nm w.heap.size) (w.alloc (.cells cells ty)) (h.set nm (some (.aA sz es gr))) := by
  have k := g.aY hl hn (.cells cells ty)
  have Z : nm < h.length := by rw [g.aA]; exact hlt
  have E : (G.aG nm w.heap.size).aA nm = some w.heap.size := by simp [Gh.aG]
  have C : ∀ n, n ≠ nm → (G.aG nm w.heap.size).aA n = G.aA n := λn hn => by simp [Gh.aG, hn]
  have u : ∀ n, n ≠ nm → ((G.aG nm w.heap.size).aD n ↔ G.aD n) := λn hn => ⟨λh => h.resolve_right hn, .inl⟩
  have old : ∀ n, n ≠ nm → (h.set nm (some (.aA sz es gr)))[n]? = h[n]? := λn hn => UZ (λe => hn e.symm)
  have new : (h.set nm (some (.aA sz es gr)))[nm]? = some (some (.aA sz es gr)) := U5 Z
  refine { aA := by simp [Gh.aG, g.aA], aD := ?_, aE := ?_, inj := ?_, aF := ?_, aG := ?_, aL := g.aL, aM := g.aM,
           aH := ?_, aJ := ?_, aC := ?_, aI := ?_, aK := ?_ }
  · intro n
    by_cases e : n = nm
    · subst e; exact ⟨λ_ => ⟨⟨_, _, _, new⟩, _, E⟩, λ_ => .inr rfl⟩
    · rw [u n e, C n e, old n e]; exact g.aD n
  · intro n b hb
    have e : n ≠ nm := by rintro rfl; rw [g.aE _ _ hb] at hh; cases hh
    rw [old n e]; exact g.aE n b hb
  · intro n m b hn hm I M
    by_cases h1 : n = nm <;> by_cases h2 : m = nm
    · rw [h1, h2]
    · subst h1; rw [E] at I; rw [C m h2] at M; cases I
      exact absurd (g.aO ((u m h2).1 hm) M) (Xb _)
    · subst h2; rw [E] at M; rw [C n h1] at I; cases M
      exact absurd (g.aO ((u n h1).1 hn) I) (Xb _)
    · rw [C n h1] at I; rw [C m h2] at M
      exact g.inj n m b ((u n h1).1 hn) ((u m h2).1 hm) I M
  · intro n m b hn hb ht
    by_cases h1 : n = nm
    · subst h1; rw [E] at hb; cases hb; exact Xb _ (g.aH m _ ht)
    · rw [C n h1] at hb; exact g.aF n m b ((u n h1).1 hn) hb ht
  · intro n b hn hb hs
    by_cases h1 : n = nm
    · subst h1; rw [E] at hb; cases hb; exact Xb _ (g.aJ _ hs)
    · rw [C n h1] at hb; exact g.aG n b ((u n h1).1 hn) hb hs
  · intro n b hb; have := g.aH n b hb; simp; omega
  · intro b hb; have := g.aJ b hb; simp; omega
  · intro n O W U b hq hb
    by_cases h1 : n = nm
    · subst h1
      rw [new] at hq
      obtain ⟨rfl, rfl, rfl⟩ : sz = O ∧ es = W ∧ gr = U := by simpa using hq
      rw [E] at hb; cases hb
      exact ⟨⟨cells, ty, uZ, a3, a4, λi j c hj => let ⟨v, hv, hV⟩ := hV i j c hj; ⟨v, hv, hV.aA k⟩⟩, a2⟩
    · rw [old n h1] at hq; rw [C n h1] at hb
      exact (g.aC n O W U b hq hb).aA k (nX (g.aO (g.aN hq hb) hb))
  · intro n O W U hq hb
    by_cases h1 : n = nm
    · subst h1; rw [E] at hb; cases hb
    · rw [old n h1] at hq; rw [C n h1] at hb; exact g.aI n O W U hq hb
  · intro n a1
    by_cases h1 : n = nm
    · subst h1; exact absurd a1 hn
    · rw [C n h1]; exact g.aK n a1
theorem gI.aM {G0 w0 G w h}(s:gI G0 w0 G w)(g:fO G w h){nm:Nat}(h0:G0.N ≤ nm)(hl:G.aA nm=none)(hn:¬G.aE nm)(c:Array Value)(t:TypeId):
  gI G0 w0 (G.aG nm w.heap.size) (w.alloc (.cells c t)) where
 aH:=s.aH.aC (jV.aD w c t)
 aA:=s.aA.aG (g.aY hl hn _)
 S:=s.S
 aF n hlt:=by
  have:n≠nm:=by omega
  simp only[Gh.aG,this,VI];exact s.aF n hlt
 aJ:=s.aJ
 aC:=by have:=s.aC;simp;omega
 aE b hb hno:=by rw[nX (Vj hb s.aC)];exact s.aE b hb hno
 aG b hb:=by
  rcases hb with⟨n,u,he⟩ | ⟨n,ht⟩
  ·by_cases e:n=nm
   ·simp only[Gh.aG,e,VS,U_]at he;exact .inr (by have:=s.aC;omega)
   ·simp only[Gh.aG,e,VI]at he;exact s.aG b (.inl ⟨n,u.resolve_right e,he⟩)
  ·exact s.aG b (.inr ⟨n,ht⟩)
/-! names kept free -/
def Gh.aM (G:Gh)(k:Nat):Gh:=
 {G with N:=G.N+k,aA:=λn=>if n<G.N then G.aA n else none,aE:=λn=>n<G.N ∧ G.aE n}
theorem fO.bz {G w h}(g:fO G w h){n}(hn:G.aD n):n<G.N:=by obtain⟨⟨_,_,_,hh⟩,_⟩:=(g.aD n).1 hn;exact g.aP hh
theorem uJ {h:eX}{k n:Nat}{x:e_}:(h++List.replicate k none)[n]?=some (some x)↔h[n]?=some (some x):=by
 rcases WB n h.length with hl | hl;·rw[Vy hl]
 ·rw[Vp hl,VH hl,WC];split<;>simp
theorem fO.bK {G w h} (g : fO G w h) (k : Nat) : fO (G.aM k) w (h ++ List.replicate k none) ∧ gI G w (G.aM k) w := by
  have loc : ∀ n, n < G.N → (G.aM k).aA n = G.aA n := λn hn => by simp [Gh.aM, hn]
  have kp : ic G w (G.aM k) w := ⟨V6 _ _, λn b hn hb => by rw [loc n hn]; exact hb, λn hn hb => ⟨hn, hb⟩, λt b h => by cases t <;> exact h, λ_ _ _ => rfl, λ_ _ => rfl⟩;have e : ∀ n b, G.aD n → (G.aM k).aA n = some b → G.aA n = some b := λn b hn hb => by rw [loc n (g.bz hn)] at hb; exact hb
  refine ⟨{ aA := by simp [Gh.aM, g.aA], aD := ?_, aE := ?_, inj := fun n m b hn hm h1 h2 => g.inj n m b hn hm (e n b hn h1) (e m b hm h2),
            aF := λn m b hn hb => g.aF n m b hn (e n b hn hb), aG := λn b hn hb => g.aG n b hn (e n b hn hb), aL := g.aL, aM := g.aM,
            aH := g.aH, aJ := g.aJ, aC := ?_, aI := ?_, aK := ?_ },
    ⟨kp, ⟨λ_ h => h, λ_ h => .inl h⟩, loc, λn hn => ⟨λh => h.2, λh => ⟨hn, h⟩⟩, U8 _, λ_ _ _ => rfl, λb hb => ?_, jV.aA w⟩⟩
  · intro n
    constructor
    · intro hn
      obtain ⟨⟨a, b, c, hh⟩, hb⟩ := (g.aD n).1 hn;exact ⟨⟨a, b, c, uJ.2 hh⟩, by rw [loc n (g.bz hn)]; exact hb⟩
    · rintro ⟨⟨a, b, c, hh⟩, hb⟩
      have u := uJ.1 hh;rw [loc n (g.aP u)] at hb;exact (g.aD n).2 ⟨⟨a, b, c, u⟩, hb⟩
  · intro n b hb; exact uJ.2 (g.aE n b hb)
  · intro n sz es gr b hh hb
    have u := uJ.1 hh;rw [loc n (g.aP u)] at hb;exact (g.aC n sz es gr b u hb).aA kp rfl
  · intro n sz es gr hh hb
    have u := uJ.1 hh;rw [loc n (g.aP u)] at hb;exact g.aI n sz es gr u hb
  · rintro n ⟨hn, hb⟩
    rw [loc n hn]; exact g.aK n hb
  · rcases hb with ⟨n, hn, he⟩ | ⟨n, hn⟩
    · exact .inl (.inl ⟨n, hn, e n b hn he⟩)
    · exact .inl (.inr ⟨n, hn⟩)
/-! a block of ours that is kept aside while something else goes on -/
def Gh.aP (G:Gh)(nm:Nat):Gh:={G with aD:=λm=>G.aD m ∨ m=nm}
theorem fO.bC {G w h nm sz es gr b G' w' h'} (g : fO G w h) (hh : h[nm]? = some (some (.aA sz es gr))) (hb : G.aA nm = some b)
    (s : gI (G.aH nm) w G' w') (g' : fO G' w' h') (hn : h'[nm]? = some none) :
    fO (G'.aP nm) w' (h'.set nm (some (.aA sz es gr))) ∧ gI G w (G'.aP nm) w' := by
  have hl := g.aN hh hb
  have Z := g.aP hh
  have hlt : nm < h'.length := (UY.1 hn).1
  have a2 := g.aO hl hb
  have E : G'.aA nm = some b := by rw [s.aF nm Z]; exact hb
  have I : ¬ (G.aH nm).aI b := by
    rintro (⟨m, hm, he⟩ | ⟨m, hm⟩)
    · exact hm.2 (g.inj m nm b hm.1 hl he hb)
    · exact g.aF nm m b hl hb hm
  have C : ¬ G'.aI b := by
    intro ho
    rcases s.aG b ho with h | h
    · exact I h
    · omega
  have M := s.aE b a2 I
  have kk : ic G' w' (G'.aP nm) w' := ⟨U8 _, λ_ _ _ h => h, λ_ _ h => h, λt b h => by cases t <;> exact h, λ_ _ _ => rfl, λ_ _ => rfl⟩
  have new : (h'.set nm (some (.aA sz es gr)))[nm]? = some (some (.aA sz es gr)) := U5 hlt
  have old : ∀ n, n ≠ nm → (h'.set nm (some (.aA sz es gr)))[n]? = h'[n]? := λn hn => UZ (λe => hn e.symm)
  have kG : ic G w (G'.aP nm) w' := ((G.aO w nm).aG s.aA).aG kk
  have hS : ¬ G'.S b := λhs => (s.S.2 b hs).elim (g.aG nm b hl hb) (λh => absurd a2 (Nat.not_lt.2 h))
  have hT : ∀ m, ¬ G'.aF m b := λm ht => C (.inr ⟨m, ht⟩)
  have a3 : ∀ m, G'.aD m → G'.aA m ≠ some b := λm hm he => C (.inl ⟨m, hm, he⟩)
  refine ⟨{ aA := by simp [Gh.aP, g'.aA], aD := ?_, aE := ?_, inj := ?_, aF := ?_, aG := ?_, aL := g'.aL, aM := g'.aM, aH := g'.aH, aJ := g'.aJ,
            aC := ?_, aI := ?_, aK := g'.aK },
    ⟨kG, s.S, s.aF, s.aJ, s.aC, λx hx ho => s.aE x hx (λhk => ho ?_), λx hx => ?_, s.aH⟩⟩
  · intro n
    by_cases e : n = nm
    · subst e; exact ⟨λ_ => ⟨⟨_, _, _, new⟩, _, E⟩, λ_ => .inr rfl⟩
    · rw [old n e]; exact ⟨λh => (g'.aD n).1 (h.resolve_right e), λh => .inl ((g'.aD n).2 h)⟩
  · intro n x hx
    have e : n ≠ nm := by rintro rfl; rw [g'.aE _ _ hx] at hn; cases hn
    rw [old n e]; exact g'.aE n x hx
  · intro n m x hn hm h1 h2
    by_cases e1 : n = nm <;> by_cases e2 : m = nm
    · rw [e1, e2]
    · subst e1; have u : some b = some x := E.symm.trans h1
      cases u; exact absurd h2 (a3 m (hm.resolve_right e2))
    · subst e2; have a4 : some b = some x := E.symm.trans h2
      cases a4; exact absurd h1 (a3 n (hn.resolve_right e1))
    · exact g'.inj n m x (hn.resolve_right e1) (hm.resolve_right e2) h1 h2
  · intro n m x hn h1 ht
    by_cases e1 : n = nm
    · subst e1; have u : some b = some x := E.symm.trans h1
      cases u; exact hT m ht
    · exact g'.aF n m x (hn.resolve_right e1) h1 ht
  · intro n x hn h1 hs
    by_cases e1 : n = nm
    · subst e1; have u : some b = some x := E.symm.trans h1
      cases u; exact hS hs
    · exact g'.aG n x (hn.resolve_right e1) h1 hs
  · intro n O W U x hq h1
    by_cases e1 : n = nm
    · subst e1
      rw [new] at hq
      obtain ⟨rfl, rfl, rfl⟩ : sz = O ∧ es = W ∧ gr = U := by simpa using hq
      have u : some b = some x := E.symm.trans h1
      cases u
      exact (g.aC n sz es gr b hh hb).aA kG M
    · rw [old n e1] at hq
      exact (g'.aC n O W U x hq h1).aA kk rfl
  · intro n O W U hq h1
    by_cases e1 : n = nm
    · subst e1; have u : none = some b := h1.symm.trans E
      cases u
    · rw [old n e1] at hq; exact g'.aI n O W U hq h1
  · rcases hk with ⟨m, hm, he⟩ | ⟨m, hm⟩
    · exact .inl ⟨m, hm.1, he⟩
    · exact .inr ⟨m, hm⟩
  · rcases hx with ⟨m, hm, he⟩ | ⟨m, hm⟩
    · by_cases e : m = nm
      · subst e; have u : some b = some x := E.symm.trans he
        cases u; exact .inl (.inl ⟨m, hl, hb⟩)
      · rcases s.aG x (.inl ⟨m, hm.resolve_right e, he⟩) with h | h
        · rcases h with ⟨q, hq, a1⟩ | ⟨q, hq⟩
          · exact .inl (.inl ⟨q, hq.1, a1⟩)
          · exact .inl (.inr ⟨q, hq⟩)
        · exact .inr h
    · rcases s.aG x (.inr ⟨m, hm⟩) with h | h
      · rcases h with ⟨q, hq, a1⟩ | ⟨q, hq⟩
        · exact .inl (.inl ⟨q, hq.1, a1⟩)
        · exact .inl (.inr ⟨q, hq⟩)
      · exact .inr h
end Glb
