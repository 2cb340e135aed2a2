/-
  A library of its own.
-/
import Derived.Calls
import Derived.RowKit3
import Derived.Laws.World
import Derived.Laws.Sem
import Derived.Laws.StructEq
import Derived.Laws.Pointers
import Derived.Laws.Entries
import Derived.Laws.Cells
import Derived.Laws.Small
import Derived.ChangeKeysEq
import Derived.Laws.CopyRow
import Derived.WalkSpells
import Derived.Tactics
import Derived.Orders
set_option linter.unusedSimpArgs false
set_option linter.unusedVariables false
/-
 A library of its own,for whatever program: what an abstract value says of a value in memory,and that it stays said.
-/
namespace Glb
open Go
theorem Up:type_of% @List.getElem?_eq_some_iff:=@List.getElem?_eq_some_iff
theorem Uq:type_of% @List.getElem?_set_ne:=@List.getElem?_set_ne
theorem Ur:type_of% @List.getElem?_eq_getElem:=@List.getElem?_eq_getElem
theorem Us:type_of% @decide_eq_false:=@decide_eq_false
theorem Ut:type_of% @List.length_append:=@List.length_append
theorem Uu:type_of% @decide_eq_true:=@decide_eq_true
theorem Uv:type_of% @if_pos:=@if_pos
theorem Uw:type_of% @if_neg:=@if_neg
theorem Ux:type_of% @List.getElem?_set_self:=@List.getElem?_set_self
theorem Uy:type_of% @Nat.le_refl:=@Nat.le_refl
theorem Uz:type_of% @List.eq_nil_of_length_eq_zero:=@List.eq_nil_of_length_eq_zero
theorem UA:type_of% @List.length_set:=@List.length_set
theorem UB:type_of% @Option.some.injEq:=@Option.some.injEq
theorem UC:type_of% @Classical.byContradiction:=@Classical.byContradiction
theorem UD:type_of% @List.length_take:=@List.length_take
theorem UE:type_of% @Eq.trans:=@Eq.trans
theorem UF:type_of% @trivial:=@trivial
theorem UG:type_of% @List.length_cons:=@List.length_cons
theorem UH:type_of% @Nat.le_trans:=@Nat.le_trans
theorem UI:type_of% @List.length_map:=@List.length_map
theorem UJ:type_of% @List.length_nil:=@List.length_nil
theorem UK:type_of% @Nat.zero_le:=@Nat.zero_le
theorem UL:type_of% @Int.le_refl:=@Int.le_refl
theorem UM:type_of% @Nat.lt_of_lt_of_le:=@Nat.lt_of_lt_of_le
theorem UN:type_of% @Option.map_eq_some_iff:=@Option.map_eq_some_iff
theorem UO:type_of% @eq_false:=@eq_false
theorem UP:type_of% @List.length_drop:=@List.length_drop
theorem UQ:type_of% @Bool.false_eq_true:=@Bool.false_eq_true
theorem UR:type_of% @List.getElem?_drop:=@List.getElem?_drop
theorem US:type_of% @Bool.and_eq_true:=@Bool.and_eq_true
theorem UT:type_of% @List.getElem_mem:=@List.getElem_mem
theorem UU:type_of% @List.take_of_length_le:=@List.take_of_length_le
theorem UW:type_of% @List.append_assoc:=@List.append_assoc
theorem UX:type_of% @List.mem_of_mem_drop:=@List.mem_of_mem_drop
theorem UY:type_of% @List.getElem?_cons_zero:=@List.getElem?_cons_zero
theorem UZ:type_of% @List.getElem?_append_left:=@List.getElem?_append_left
theorem U0:type_of% @List.take_append_of_le_length:=@List.take_append_of_le_length
theorem U1:type_of% @List.getElem?_append_right:=@List.getElem?_append_right
theorem U2:type_of% @Bool.not_true:=@Bool.not_true
theorem U3:type_of% @List.take_succ_eq_append_getElem:=@List.take_succ_eq_append_getElem
theorem U4:type_of% @List.mem_append:=@List.mem_append
theorem U5:type_of% @List.map_cons:=@List.map_cons
theorem U6:type_of% @Option.getD_some:=@Option.getD_some
theorem U7:type_of% @List.take_length:=@List.take_length
theorem U8:type_of% @List.getElem?_eq_none:=@List.getElem?_eq_none
theorem U9:type_of% @List.mem_of_mem_take:=@List.mem_of_mem_take
theorem U_:type_of% @List.getElem?_map:=@List.getElem?_map
theorem Va:type_of% @List.take_take:=@List.take_take
theorem Vb:type_of% @decide_eq_true_eq:=@decide_eq_true_eq
theorem Vc:type_of% @Bool.not_false:=@Bool.not_false
theorem Vd:type_of% @if_false:=@if_false
theorem Ve:type_of% @List.map_append:=@List.map_append
theorem Vf:type_of% @List.ext_getElem?:=@List.ext_getElem?
theorem Vg:type_of% @List.mem_cons:=@List.mem_cons
theorem Vh:type_of% @List.getElem?_take_of_lt:=@List.getElem?_take_of_lt
theorem Vi:type_of% @Nat.mul_le_mul_right:=@Nat.mul_le_mul_right
theorem Vj:type_of% @List.getElem?_toArray:=@List.getElem?_toArray
theorem Vk:type_of% @Nat.min_eq_left:=@Nat.min_eq_left
theorem Vl:type_of% @List.map_nil:=@List.map_nil
theorem Vm:type_of% @if_true:=@if_true
theorem Vn:type_of% @List.length_singleton:=@List.length_singleton
theorem Vo:type_of% @List.append_nil:=@List.append_nil
theorem Vp:type_of% @List.getElem?_take:=@List.getElem?_take
theorem Vq:type_of% @Prod.mk.injEq:=@Prod.mk.injEq
theorem Vr:type_of% @List.getElem?_cons_succ:=@List.getElem?_cons_succ
theorem Vs:type_of% @List.set_set:=@List.set_set
theorem Vt:type_of% @Int.toNat_natCast:=@Int.toNat_natCast
theorem Vu:type_of% @List.getElem?_append:=@List.getElem?_append
theorem Vv:type_of% @Option.getD_none:=@Option.getD_none
theorem Vw:type_of% @List.prefix_refl:=@List.prefix_refl
theorem Vx:type_of% @Nat.le_of_ble_eq_true:=@Nat.le_of_ble_eq_true
theorem Vy:type_of% @List.drop_zero:=@List.drop_zero
theorem Vz:type_of% @List.mem_map:=@List.mem_map
theorem VA:type_of% @Array.getElem?_eq_some_iff:=@Array.getElem?_eq_some_iff
theorem VB:type_of% @List.length_filter_le:=@List.length_filter_le
theorem VC:type_of% @List.getElem_set_self:=@List.getElem_set_self
theorem VD:type_of% @decide_eq_false_iff_not:=@decide_eq_false_iff_not
theorem VE:type_of% @Option.bind_some:=@Option.bind_some
theorem VF:type_of% @Bool.or_eq_true:=@Bool.or_eq_true
theorem VG:type_of% @Nat.le_add_right:=@Nat.le_add_right
theorem VH:type_of% @List.nil_append:=@List.nil_append
theorem VI:type_of% @List.cons.injEq:=@List.cons.injEq
theorem VJ:type_of% @List.getElem?_set:=@List.getElem?_set
theorem VK:type_of% @List.getElem_take:=@List.getElem_take
theorem VM:type_of% @List.getElem_append_left:=@List.getElem_append_left
theorem VN:type_of% @List.length_replicate:=@List.length_replicate
theorem VO:type_of% @List.take_append_drop:=@List.take_append_drop
theorem VP:type_of% @Option.map_some:=@Option.map_some
theorem VQ:type_of% @List.all_eq_true:=@List.all_eq_true
theorem VR:type_of% @Array.eq_empty_of_size_eq_zero:=@Array.eq_empty_of_size_eq_zero
theorem VS:type_of% @List.drop_append_of_le_length:=@List.drop_append_of_le_length
theorem VT:type_of% @List.drop_eq_getElem_cons:=@List.drop_eq_getElem_cons
theorem VU:type_of% @List.getElem_append_right:=@List.getElem_append_right
theorem VV:type_of% @List.getElem_cons_zero:=@List.getElem_cons_zero
theorem VW:type_of% @Iff.rfl:=@Iff.rfl
theorem VX:type_of% @Nat.lt_or_ge:=@Nat.lt_or_ge
theorem VY:type_of% @List.getElem?_replicate:=@List.getElem?_replicate
theorem VZ:type_of% @Array.getElem?_setIfInBounds_ne:=@Array.getElem?_setIfInBounds_ne
theorem V0:type_of% @List.prefix_of_prefix_length_le:=@List.prefix_of_prefix_length_le
theorem V3:type_of% @Bool.or_eq_false_iff:=@Bool.or_eq_false_iff
theorem V4:type_of% @Nat.le_succ:=@Nat.le_succ
theorem V5:type_of% @Nat.add_assoc:=@Nat.add_assoc
theorem V6:type_of% @List.map_take:=@List.map_take
theorem V7:type_of% @List.take_prefix:=@List.take_prefix
theorem V8:type_of% @Nat.add_mul:=@Nat.add_mul
theorem V9:type_of% @decide_false:=@decide_false
theorem V_:type_of% @Nat.add_zero:=@Nat.add_zero
theorem Wa:type_of% @Int.le_trans:=@Int.le_trans
theorem Wb:type_of% @List.pairwise_cons:=@List.pairwise_cons
theorem Wc:type_of% @List.mem_singleton:=@List.mem_singleton
theorem Wd:type_of% @Option.isNone_some:=@Option.isNone_some
theorem We:type_of% @List.getElem?_modify:=@List.getElem?_modify
theorem Wf:type_of% @Nat.add_sub_cancel_left:=@Nat.add_sub_cancel_left
theorem Wg:type_of% @Nat.ne_of_lt:=@Nat.ne_of_lt
theorem Wh:type_of% @List.drop_eq_nil_of_le:=@List.drop_eq_nil_of_le
theorem Wi:type_of% @List.mem_filter:=@List.mem_filter
theorem Wj:type_of% @List.mem_or_eq_of_mem_set:=@List.mem_or_eq_of_mem_set
theorem Wl:type_of% @List.pairwise_iff_getElem:=@List.pairwise_iff_getElem
theorem Wm:type_of% @Array.getElem?_append:=@Array.getElem?_append
theorem Wn:type_of% @Array.getElem?_modify:=@Array.getElem?_modify
theorem Wo:type_of% @List.cons_append:=@List.cons_append
theorem Wp:type_of% @Nat.zero_add:=@Nat.zero_add
theorem Wq:type_of% @Option.isSome_iff_exists:=@Option.isSome_iff_exists
theorem Wr:type_of% @Nat.min_self:=@Nat.min_self
theorem Ws:type_of% @List.mem_cons_of_mem:=@List.mem_cons_of_mem
theorem Wt:type_of% @List.mem_append_left:=@List.mem_append_left
theorem Wu:type_of% @List.foldl_cons:=@List.foldl_cons
theorem Wv:type_of% @List.take_succ_cons:=@List.take_succ_cons
theorem Ww:type_of% @List.length_take_le:=@List.length_take_le
theorem Wx:type_of% @Nat.lt_irrefl:=@Nat.lt_irrefl
theorem Wy:type_of% @List.map_drop:=@List.map_drop
theorem Wz:type_of% @Int.natCast_zero:=@Int.natCast_zero
theorem WA:type_of% @List.filter_append:=@List.filter_append
theorem WB:type_of% @List.set_getElem_self:=@List.set_getElem_self
theorem WC:type_of% @List.set_append_right:=@List.set_append_right
theorem WD:type_of% @List.mem_iff_getElem:=@List.mem_iff_getElem
theorem WE:type_of% @List.flatMap_cons:=@List.flatMap_cons
theorem WG:type_of% @List.length_pos_iff:=@List.length_pos_iff
theorem WH:type_of% @List.any_eq_true:=@List.any_eq_true
theorem WI:type_of% @List.map_toArray:=@List.map_toArray
theorem WJ:type_of% @List.drop_length:=@List.drop_length
theorem WK:type_of% @Bool.or_true:=@Bool.or_true
theorem WL:type_of% @Nat.sub_self:=@Nat.sub_self
theorem WM:type_of% @List.nodup_cons:=@List.nodup_cons
theorem WN:type_of% @Option.some.inj:=@Option.some.inj
theorem WO:type_of% @Bool.true_and:=@Bool.true_and
theorem WQ:type_of% @congrArg:=@congrArg
/-- abstract values -/
inductive AV where
 | aR
 | aE (b:Bool)
 | aA (k:IntKind) (n:Int)
 | aQ (s:ByteArray)
 | aN (v:Value)
 | aD
 | aC (n sz i o:Nat)
 | aO (t:Nat) (cs:List AV)
 | aG (n sz off len:Nat) (cap:Option Nat)
 | aM (t:Nat) (clip:Bool) (sz:Nat) (es:List (List AV))
 | aF (cs:List AV)
 | aI (cs:List AV)
 | aL (f:FuncId) (fs cs:List AV)
 | aT (t:TypeId) (v:AV)
 deriving Inhabited
/-- what lies in one cell -/
def AV.aH:AV → Bool
 | .aR | .aF _ | .aI _=>false
 | .aN v=>v.oneCell'
 | _=>true
/-- elements of one size,each cell of them one value -/
def jv (sz:Nat)(es:List (List AV)):Prop:=∀e∈es,e.length=sz ∧ e.all AV.aH=true
/-- abstract blocks -/
inductive e_ where
 | aA (sz:Nat) (es:List (List AV)) (grow:Bool)
 | aC
 deriving Inhabited
abbrev eW:=List (Option e_)
structure Gh where
 N:Nat
 aA:Nat → Option Nat
 aE:Nat → Prop
 aD:Nat → Prop
 aF:Nat → Nat → Prop
 S:Nat → Prop
def Gh.aL (G:Gh):Nat → Nat → Prop
 | 0,b=>G.S b
 | n+1,b=>G.aF n b
def Gh.aI (G:Gh)(b:Nat):Prop:=(∃n,G.aD n ∧ G.aA n=some b) ∨ ∃n,G.aF n b
def gn (es:List (List AV))(i j:Nat):Option AV:=es[i]?.bind (·[j]?)
inductive V (G:Gh) (w:World):AV → Value → Prop
 | aI (v):V G w .aR v
 | aF (b):V G w (.aE b) (.bool b)
 | aC (k n):V G w (.aA k n) (.int k n)
 | aQ (s):V G w (.aQ s) (.string s)
 | aP (v):V G w (.aN v) v
 | aO:V G w .aD (.slice none 0 0)
 | aL (n sz i o b:Nat):n<G.N → G.aA n=some b → V G w (.aC n sz i o) (.pointer (some ⟨b,i*sz+o,none⟩))
 | aN (t:Nat) (cs:List AV) (b off:Nat) (f:Nat → Value):G.aL t b → (∀(j:Nat)(c:AV),cs[j]?=some c → w.cell? ⟨b,off+j,none⟩=some (f j)) →
   (∀(j:Nat)(c:AV),cs[j]?=some c → V G w c (f j)) → V G w (.aO t cs) (.pointer (some ⟨b,off,none⟩))
 | aD (n sz off len:Nat) (cap:Option Nat) (c:Nat) (ty:TypeId) (m b:Nat):n<G.N → G.aA n=some b → len ≤ c → (∀k,cap=some k → c=k) →
   w.shape? b=some (ty,m) → (off+c)*sz ≤ m → V G w (.aG n sz off len cap) (.slice (some ⟨b,off*sz,none⟩) len c)
 | aH (n sz:Nat) (cap:Option Nat):n<G.N → G.aE n → (∀k,cap=some k → k=0) → V G w (.aG n sz 0 0 cap) (.slice none 0 0)
 | aE (t:Nat) (clip:Bool) (sz:Nat) (es:List (List AV)) (a:Addr) (cap:Nat) (f:Nat → Nat → Value):es.length ≤ cap → (clip=true → cap=es.length) → (cap≠0 → a.spot=none) →
   (es≠[] → G.aL t a.block) → jv sz es →
   (∀i j c,gn es i j=some c → w.cell? ⟨a.block,a.off+(i*sz+j),none⟩=some (f i j)) →
   (∀i j c,gn es i j=some c → V G w c (f i j)) → V G w (.aM t clip sz es) (.slice (some a) es.length cap)
 | aG (t clip sz):V G w (.aM t clip sz []) (.slice none 0 0)
 | aJ (cs:List AV) (vs:Array Value):cs.length=vs.size → (∀(j:Nat)(c:AV)(v:Value),cs[j]?=some c → vs[j]?=some v → V G w c v) → V G w (.aF cs) (.agg vs)
 | aM (cs:List AV) (vs:Array Value):cs.length=vs.size → (∀(j:Nat)(c:AV)(v:Value),cs[j]?=some c → vs[j]?=some v → V G w c v) → V G w (.aI cs) (.tuple vs)
 | aK (f:FuncId) (fs:List AV) (us:Array Value) (cs:List AV) (vs:Array Value):fs.length=us.size → (∀(j:Nat)(c:AV)(v:Value),fs[j]?=some c → us[j]?=some v → V G w c v) →
   cs.length=vs.size → (∀(j:Nat)(c:AV)(v:Value),cs[j]?=some c → vs[j]?=some v → V G w c v) → V G w (.aL f fs cs) (.func (.func f) us vs)
 | aR (t c v):V G w c v → V G w (.aT t c) (.iface t v)
/-- what must hold of two states so that whatever was said stays said -/
structure ib (G:Gh)(w:World)(G':Gh)(w':World):Prop where
 N:G.N ≤ G'.N
 aA:∀n b,n<G.N → G.aA n=some b → G'.aA n=some b
 aF:∀n,n<G.N → G.aE n → G'.aE n
 aC:∀t b,G.aL t b → G'.aL t b
 aD:∀t b,G.aL t b → w'.heap[b]?=w.heap[b]?
 aE:∀b,(w.shape? b).isSome → w'.shape? b=w.shape? b
theorem E9 {w w':World}{a:Addr} (h:w'.heap[a.block]?=w.heap[a.block]?):w'.cell? a=w.cell? a:=by simp only[World.cell?,h]
theorem V.aA {G w G' w' av v}(k:ib G w G' w')(h:V G w av v):V G' w' av v:=by
 induction h with
 | aI v=>exact .aI v
 | aF b=>exact .aF b
 | aC k n=>exact .aC k n
 | aQ s=>exact .aQ s
 | aP v=>exact .aP v
 | aO=>exact .aO
 | aL n sz i o b hn hb=>exact .aL n sz i o b (UM hn k.N) (k.aA n b hn hb)
 | aN t cs b off f hp hc _ ih=>exact .aN t cs b off f (k.aC _ _ hp) (λj c hj=>by rw[E9 (a:=⟨b,off+j,none⟩) (k.aD _ _ hp)];exact hc j c hj) ih
 | aD n sz off len cap c ty m b hn hb hl hcap hs hm=>exact .aD n sz off len cap c ty m b (UM hn k.N) (k.aA n b hn hb) hl hcap (by rw[k.aE _ (by simp[hs]),hs]) hm
 | aH n sz cap hn hb hc=>exact .aH n sz cap (UM hn k.N) (k.aF n hn hb) hc
 | aE t clip sz es a cap f hl hcl hsp hp hes hc _ ih=>
  refine .aE t clip sz es a cap f hl hcl hsp (λh=>k.aC _ _ (hp h)) hes (λi j c hj=>?_) ih;have e:es≠[]:=by rintro rfl;simp[gn]at hj
  rw[E9 (a:=⟨a.block,a.off+(i*sz+j),none⟩) (k.aD _ _ (hp e))];exact hc i j c hj
 | aG t clip sz=>exact .aG t clip sz
 | aJ cs vs hl _ ih=>exact .aJ cs vs hl ih
 | aM cs vs hl _ ih=>exact .aM cs vs hl ih
 | aK f fs us cs vs hl _ hl' _ ih ih'=>exact .aK f fs us cs vs hl ih hl' ih'
 | aR t c v _ ih=>exact .aR t c v ih
/-- a block's cells read az its elements -/
structure kS (G:Gh)(w:World)(b:Nat)(sz:Nat)(es:List (List AV))(grow:Bool):Prop where
 ex:∃cells ty,w.heap[b]?=some (.cells cells ty (0,0)) ∧ es.length*sz ≤ cells.size ∧ (grow=false → cells.size=es.length*sz) ∧
  ∀i j c,gn es i j=some c → ∃v,cells[i*sz+j]?=some v ∧ V G w c v
 sz:jv sz es
structure fO (G:Gh)(w:World)(h:eW):Prop where
 aA:h.length=G.N
 aD:∀n,G.aD n↔(∃sz es g,h[n]?=some (some (.aA sz es g))) ∧ ∃b,G.aA n=some b
 aE:∀n b,G.aF n b → h[n]?=some (some .aC)
 inj:∀n m b,G.aD n → G.aD m → G.aA n=some b → G.aA m=some b → n=m
 aF:∀n m b,G.aD n → G.aA n=some b → ¬G.aF m b
 aG:∀n b,G.aD n → G.aA n=some b → ¬G.S b
 aL:∀n m b,G.aF n b → G.aF m b → n=m
 aM:∀n b,G.aF n b → ¬G.S b
 aH:∀n b,G.aF n b → b<w.heap.size
 aJ:∀b,G.S b → b<w.heap.size
 aC:∀n sz es g b,h[n]?=some (some (.aA sz es g)) → G.aA n=some b → kS G w b sz es g
 aI:∀n sz es g,h[n]?=some (some (.aA sz es g)) → G.aA n=none → es=[]
 aK:∀n,G.aE n → G.aA n=none
theorem fO.aP {G w h}(g:fO G w h){n x} (hn:h[n]?=some x):n<G.N:=by rw[← g.aA];exact (Up.1 hn).1
theorem fO.aN {G w h}(g:fO G w h){n sz es gr b} (hn:h[n]?=some (some (.aA sz es gr))) (hb:G.aA n=some b):G.aD n:=
 (g.aD n).2 ⟨⟨_,_,_,hn⟩,b,hb⟩
theorem fO.aO {G w h}(g:fO G w h){n b}(hn:G.aD n)(hb:G.aA n=some b):b<w.heap.size:=by obtain⟨⟨sz,es,gr,hh⟩,_⟩:=(g.aD n).1 hn;obtain⟨cells,ty,hc,_⟩:=(g.aC n sz es gr b hh hb).ex;exact (VA.1 hc).1
theorem fO.bK {G w h}(g:fO G w h){b}(hb:G.aI b):b<w.heap.size:=by
 rcases hb with⟨n,hn,hl⟩ | ⟨n,hn⟩;·exact g.aO hn hl
 ·exact g.aH n b hn
/-- what lies beside the cells stays -/
def jU (w w':World):Prop:=w'.os=w.os ∧ w'.output=w.output ∧ w.heap.size ≤ w'.heap.size ∧ ∀a,a.block<w.heap.size → w'.frozen? a=w.frozen? a
theorem jU.aA (w):jU w w:=⟨rfl,rfl,Uy _,λ_ _=>rfl⟩
theorem jU.aC {w w1 w2}(a:jU w w1)(b:jU w1 w2):jU w w2:=⟨b.1.trans a.1,b.2.1.trans a.2.1,UH a.2.2.1 b.2.2.1,λx hx=>(b.2.2.2 x (UM hx a.2.2.1)).trans (a.2.2.2 x hx)⟩
theorem jU.aD (w:World)(c:Array Value)(t:TypeId):jU w (w.alloc (.cells c t)):=⟨rfl,rfl,by simp,λa _=>Go.RowKit.frozen?_alloc_cells w c t a⟩
theorem jU.aE (w:World)(a:Addr)(v:Value):jU w (w.setCell a v):=⟨rfl,rfl,by simp,λ_ _=>World.frozen?_setCell _ _ _ _⟩
/-- one step,or many: nothing that is not ours has changed,and all that was said stays said -/
structure gy (G:Gh)(w:World)(G':Gh)(w':World):Prop where
 aA:ib G w G' w'
 S:(∀b,G.S b → G'.S b) ∧ ∀b,G'.S b → G.S b ∨ w.heap.size ≤ b
 aF:∀n,n<G.N → G'.aA n=G.aA n
 aJ:∀n,n<G.N → (G'.aE n↔G.aE n)
 aC:w.heap.size ≤ w'.heap.size
 aE:∀b,b<w.heap.size → ¬G.aI b → w'.heap[b]?=w.heap[b]?
 aG:∀b,G'.aI b → G.aI b ∨ w.heap.size ≤ b
 aH:jU w w'
theorem ib.aI (G w):ib G w G w:=⟨Uy _,λ_ _ _ h=>h,λ_ _ h=>h,λ_ _ h=>h,λ_ _ _=>rfl,λ_ _=>rfl⟩
theorem ib.aG {G w G1 w1 G2 w2}(a:ib G w G1 w1)(b:ib G1 w1 G2 w2):ib G w G2 w2 where
 N:=UH a.N b.N
 aA n x h e:=b.aA n x (UM h a.N) (a.aA n x h e)
 aF n h e:=b.aF n (UM h a.N) (a.aF n h e)
 aC t x h:=b.aC t x (a.aC t x h)
 aD t x h:=by rw[b.aD t x (a.aC t x h),a.aD t x h]
 aE x h:=by rw[b.aE x (by rw[a.aE x h];exact h),a.aE x h]
theorem gy.aD (G w):gy G w G w:=⟨ib.aI G w,⟨λ_ h=>h,λ_ h=>.inl h⟩,λ_ _=>rfl,λ_ _=>VW,Uy _,λ_ _ _=>rfl,λ_ h=>.inl h,jU.aA w⟩
theorem gy.aI {G w G1 w1 G2 w2}(a:gy G w G1 w1)(b:gy G1 w1 G2 w2):gy G w G2 w2 where
 aA:=a.aA.aG b.aA
 S:=⟨λx h=>b.S.1 x (a.S.1 x h),λx h=>(b.S.2 x h).elim (a.S.2 x) (λh=>.inr (UH a.aC h))⟩
 aF n h:=by rw[b.aF n (UM h a.aA.N),a.aF n h]
 aJ n h:=(b.aJ n (UM h a.aA.N)).trans (a.aJ n h)
 aC:=UH a.aC b.aC
 aE x hx hn:=by
  rw[b.aE x (UM hx a.aC) ?_,a.aE x hx hn];intro ho;rcases a.aG x ho with h | h;·exact hn h
  ·omega
 aG x hx:=by
  rcases b.aG x hx with h | h;·exact a.aG x h
  ·exact .inr (UH a.aC h)
 aH:=a.aH.aC b.aH
/-- a draw changes nothing -/
theorem gy.aK (G w)(n:Nat):gy G w G {w with drawn:=n}:=
 ⟨⟨Uy _,λ_ _ _ h=>h,λ_ _ h=>h,λ_ _ h=>h,λ_ _ _=>rfl,λ_ _=>rfl⟩,⟨λ_ h=>h,λ_ h=>.inl h⟩,λ_ _=>rfl,λ_ _=>VW,Uy _,λ_ _ _=>rfl,λ_ h=>.inl h,rfl,rfl,Uy _,λ_ _=>rfl⟩
theorem kS.aA {G w G' w' b sz es gr}(k:ib G w G' w') (hb:w'.heap[b]?=w.heap[b]?) (h:kS G w b sz es gr):kS G' w' b sz es gr:=by obtain⟨⟨cells,ty,hc,h1,h2,h3⟩,hs⟩:=h;exact⟨⟨cells,ty,hb▸hc,h1,h2,λi j c hj=>let⟨v,hv,hV⟩:=h3 i j c hj;⟨v,hv,hV.aA k⟩⟩,hs⟩
/-- a state with the same heap -/
theorem fO.aT {G w h w'} (g : fO G w h) (hh : w'.heap = w.heap) : fO G w' h := by
  have k : ib G w G w' := ⟨Uy _, λ_ _ _ h => h, λ_ _ h => h, λ_ _ h => h, λ_ _ _ => by rw [hh], λ_ _ => by simp only [World.shape?, hh]⟩
  exact { aA := g.aA, aD := g.aD, aE := g.aE, inj := g.inj, aF := g.aF, aG := g.aG, aL := g.aL, aM := g.aM,
          aH := λn b hb => by rw [hh]; exact g.aH n b hb, aJ := λb hb => by rw [hh]; exact g.aJ b hb,
          aC := λn sz es gr b hn hb => (g.aC n sz es gr b hn hb).aA k (by rw [hh]), aI := g.aI, aK := g.aK }
/-! a new block -/
def Gh.aC (G:Gh)(ob:Option Nat):Gh:=
 {G with N:=G.N+1,aA:=λn=>if n=G.N then ob else G.aA n,aE:=λn=>if n=G.N then ob=none else G.aE n,aD:=λn=>G.aD n ∨ (n=G.N ∧ ob.isSome)}
theorem CI {w:World}{o:Obj}{b:Nat}(h:(w.shape? b).isSome):(w.alloc o).shape? b=w.shape? b:=by
 have hb:b<w.heap.size:=by apply UC;intro hn;simp only[World.shape?,Array.getElem?_eq_none (Nat.le_of_not_lt hn)]at h;exact absurd h (by simp)
 simp only[World.shape?,World.alloc,Array.getElem?_push,Wg hb,Vd]
theorem nZ {w:World}{o:Obj}{b:Nat}(hb:b<w.heap.size):(w.alloc o).heap[b]?=w.heap[b]?:=by simp only[World.alloc,Array.getElem?_push,Wg hb,Vd]
theorem uT {w:World}{o:Obj}:(w.alloc o).heap[w.heap.size]?=some o:=by show (w.heap.push o)[w.heap.size]?=some o;simp
theorem fO.bI {G w h}(g:fO G w h):¬G.aD G.N:=by intro hl;obtain⟨⟨sz,es,gr,hh⟩,_⟩:=(g.aD _).1 hl;exact Wx _ (g.aP hh)
theorem fO.bJ {G w h}(g:fO G w h)(b):¬G.aF G.N b:=by intro ht;have:=(Up.1 (g.aE _ _ ht)).1;rw[g.aA]at this;exact Wx _ this
theorem fO.aQ {G w h}(g:fO G w h){t b}(hp:G.aL t b):b<w.heap.size:=by
 cases t with
 | zero=>exact g.aJ b hp
 | succ n=>exact g.aH n b hp
theorem fO.a_ {G w h}(g:fO G w h)(ob:Option Nat):ib G w (G.aC ob) w where
 N:=V4 _
 aA n b hn hb:=by simp only[Gh.aC,Wg hn,Vd];exact hb
 aF n hn hb:=by simp only[Gh.aC,Wg hn,Vd];exact hb
 aC t b hp:=by cases t<;>exact hp
 aD t b hp:=rfl
 aE b hb:=rfl
theorem fO.aX {G w h}(g:fO G w h)(o:Obj):ib G w (G.aC (some w.heap.size)) (w.alloc o) where
 N:=V4 _
 aA n b hn hb:=by simp only[Gh.aC,Wg hn,Vd];exact hb
 aF n hn hb:=by simp only[Gh.aC,Wg hn,Vd];exact hb
 aC t b hp:=by cases t<;>exact hp
 aD t b hp:=nZ (g.aQ hp)
 aE b hb:=CI hb
theorem fO.bB {G w h}(g:fO G w h)(c:Array Value)(t:TypeId):gy G w (G.aC (some w.heap.size)) (w.alloc (.cells c t)) where
 aH:=jU.aD w c t
 aA:=g.aX _
 S:=⟨λ_ h=>h,λ_ h=>.inl h⟩
 aF n hn:=by simp only[Gh.aC,Wg hn,Vd]
 aJ n hn:=by simp only[Gh.aC,Wg hn,Vd]
 aC:=by simp
 aE b hb _:=nZ hb
 aG b hb:=by
  rcases hb with⟨n,hn,he⟩ | ⟨n,hn⟩
  ·by_cases h:n=G.N
   ·simp only[Gh.aC,h,Vm,UB]at he;exact .inr (by omega)
   ·simp only[Gh.aC,h,Vd]at he;exact .inl (.inl ⟨n,hn.resolve_right (λx=>h x.1),he⟩)
  ·exact .inl (.inr ⟨n,hn⟩)
theorem Jx {G w h}(g:fO G w h)(y:Option e_){n}{x:Option e_}(hn:n≠G.N):(h++[y])[n]?=some x↔h[n]?=some x:=by
 rw[← g.aA]at hn;rcases VX n h.length with hl | hl;·rw[UZ hl]
 ·have:h.length<n:=by omega
  rw[U8 (by simp;omega),U8 hl]
theorem Jw {G w h}(g:fO G w h)(y:Option e_):(h++[y])[G.N]?=some y:=by rw[← g.aA];simp
/-- a new name for a row of cells: 'ob': where it lies (a new block,or one that nobody owns),or nil -/
theorem fO.aW {G w h} (g : fO G w h) {ob : Option Nat} {w' : World} {sz : Nat} {es : List (List AV)} {gr : Bool}
    (k : ib G w (G.aC ob) w') (hsize : w.heap.size ≤ w'.heap.size) (hother : ∀ n b, G.aD n → G.aA n = some b → w'.heap[b]? = w.heap[b]?)
    (hfree : ∀ b, ob = some b → (∀ n, G.aD n → G.aA n ≠ some b) ∧ (∀ n, ¬ G.aF n b) ∧ ¬ G.S b)
    (hH : ∀ b, ob = some b → kS (G.aC ob) w' b sz es gr) (hnil : ob = none → es = []) :
    fO (G.aC ob) w' (h ++ [some (.aA sz es gr)]) := by
  have new := Jw g (some (e_.aA sz es gr))
  have old := λn x (hn : n ≠ G.N) => Jx g (some (e_.aA sz es gr)) (n := n) (x := x) hn
  have locN : (G.aC ob).aA G.N = ob := by simp [Gh.aC]
  have locO : ∀ n, n ≠ G.N → (G.aC ob).aA n = G.aA n := λn hn => by simp [Gh.aC, hn]
  have liveO : ∀ n, n ≠ G.N → ((G.aC ob).aD n ↔ G.aD n) := λn hn => ⟨λh => h.resolve_right (λx => hn x.1), .inl⟩
  refine { aA := by simp [Gh.aC, g.aA], aD := ?_, aE := ?_, inj := ?_, aF := ?_, aG := ?_, aL := g.aL, aM := g.aM,
           aH := ?_, aJ := ?_, aC := ?_, aI := ?_, aK := ?_ }
  · intro n
    by_cases hn : n = G.N
    · subst hn
      rw [locN]
      constructor
      · rintro (hl | ⟨_, ho⟩)
        · exact absurd hl g.bI
        · exact ⟨⟨_, _, _, new⟩, Wq.1 ho⟩
      · rintro ⟨_, b, hb⟩; exact .inr ⟨rfl, by simp [hb]⟩
    · rw [liveO n hn, locO n hn, g.aD n]
      constructor <;> rintro ⟨⟨a, b, c, hh⟩, hb⟩
      · exact ⟨⟨a, b, c, (old n _ hn).2 hh⟩, hb⟩
      · exact ⟨⟨a, b, c, (old n _ hn).1 hh⟩, hb⟩
  · intro n b hb
    have : n ≠ G.N := by rintro rfl; exact g.bJ b hb
    exact (old n _ this).2 (g.aE n b hb)
  · intro n m b hn hm hbn hbm
    by_cases h1 : n = G.N <;> by_cases h2 : m = G.N
    · rw [h1, h2]
    · subst h1; rw [locN] at hbn; rw [locO m h2] at hbm
      exact absurd hbm ((hfree b hbn).1 m ((liveO m h2).1 hm))
    · subst h2; rw [locN] at hbm; rw [locO n h1] at hbn
      exact absurd hbn ((hfree b hbm).1 n ((liveO n h1).1 hn))
    · rw [locO n h1] at hbn; rw [locO m h2] at hbm
      exact g.inj n m b ((liveO n h1).1 hn) ((liveO m h2).1 hm) hbn hbm
  · intro n m b hn hb ht
    by_cases h1 : n = G.N
    · subst h1; rw [locN] at hb; exact (hfree b hb).2.1 m ht
    · rw [locO n h1] at hb; exact g.aF n m b ((liveO n h1).1 hn) hb ht
  · intro n b hn hb hs
    by_cases h1 : n = G.N
    · subst h1; rw [locN] at hb; exact (hfree b hb).2.2 hs
    · rw [locO n h1] at hb; exact g.aG n b ((liveO n h1).1 hn) hb hs
  · intro n b hb; exact UM (g.aH n b hb) hsize
  · intro b hb; exact UM (g.aJ b hb) hsize
  · intro n sz' es' gr' b hn hb
    by_cases h1 : n = G.N
    · subst h1
      rw [new] at hn
      obtain ⟨rfl, rfl, rfl⟩ : sz = sz' ∧ es = es' ∧ gr = gr' := by simpa using hn
      rw [locN] at hb
      exact hH b hb
    · have hn' := (old n _ h1).1 hn
      rw [locO n h1] at hb
      exact (g.aC n sz' es' gr' b hn' hb).aA k (hother n b (g.aN hn' hb) hb)
  · intro n sz' es' gr' hn hb
    by_cases h1 : n = G.N
    · subst h1
      rw [new] at hn
      obtain ⟨rfl, rfl, rfl⟩ : sz = sz' ∧ es = es' ∧ gr = gr' := by simpa using hn
      rw [locN] at hb
      exact hnil hb
    · rw [locO n h1] at hb
      exact g.aI n sz' es' gr' ((old n _ h1).1 hn) hb
  · intro n hn
    by_cases h1 : n = G.N
    · subst h1
      rw [locN]
      simpa [Gh.aC] using hn
    · rw [locO n h1]
      exact g.aK n (by simpa [Gh.aC, h1] using hn)
/-- the elements of a new row of cells -/
theorem fO.aZ {G w h}(g:fO G w h){cells:Array Value}{ty:TypeId}{sz:Nat}{es:List (List AV)}{gr:Bool}
  (e:jv sz es) (u:es.length*sz ≤ cells.size) (E:gr=false → cells.size=es.length*sz)
  (hV:∀i j c,gn es i j=some c → ∃v,cells[i*sz+j]?=some v ∧ V G w c v):
  fO (G.aC (some w.heap.size)) (w.alloc (.cells cells ty)) (h++[some (.aA sz es gr)]):=by
 have k:=g.aX (.cells cells ty);refine g.aW k (by simp) (λn b hn hb=>nZ (g.aO hn hb)) ?_ ?_ (by simp);·rintro b ⟨⟩;refine⟨λn hn hb=>Wx _ (g.aO hn hb),λn ht=>Wx _ (g.aH n _ ht),λhs=>Wx _ (g.aJ _ hs)⟩
 ·rintro b ⟨⟩;exact⟨⟨cells,ty,uT,u,E,λi j c hj=>let⟨v,hv,hV⟩:=hV i j c hj;⟨v,hv,hV.aA k⟩⟩,e⟩
/-! a store into a block of ours -/
theorem Si {w:World}{a:Addr}{v:Value}{b:Nat}:(w.setCell a v).shape? b=w.shape? b:=by
 simp only[World.shape?,World.setCell,Wn];by_cases h:a.block=b
 ·subst h;simp only[Vm];cases w.heap[a.block]? with
  | none=>rfl
  | some o=>cases o<;>simp;split<;>simp
 ·simp only[h,Vd]
theorem BU {w:World}{a:Addr}{v:Value}{b:Nat}(h:a.block≠b):(w.setCell a v).heap[b]?=w.heap[b]?:=by simp only[World.setCell,Wn,h,Vd]
theorem MC {w:World}{b o:Nat}{v:Value}{cells:Array Value}{ty:TypeId}{fr:Nat×Nat} (h:w.heap[b]?=some (.cells cells ty fr)):
  (w.setCell ⟨b,o,none⟩ v).heap[b]?=some (.cells (cells.setIfInBounds o v) ty fr):=by
 simp[World.setCell,Wn,h]
theorem fO.bw {G w h}(g:fO G w h){n b}(hn:G.aD n)(hb:G.aA n=some b)(o:Nat)(v:Value):ib G w G (w.setCell ⟨b,o,none⟩ v) where
 N:=Uy _
 aA _ _ _ h:=h
 aF _ _ h:=h
 aC _ _ h:=h
 aD t b' hp:=BU (by
  rintro rfl;cases t with
  | zero=>exact g.aG n _ hn hb hp
  | succ m=>exact g.aF n m _ hn hb hp)
 aE b _:=Si
theorem fO.bM {G w h}(g:fO G w h){n b}(hn:G.aD n)(hb:G.aA n=some b)(o:Nat)(v:Value):gy G w G (w.setCell ⟨b,o,none⟩ v) where
 aH:=jU.aE w _ v
 aA:=g.bw hn hb o v
 S:=⟨λ_ h=>h,λ_ h=>.inl h⟩
 aF _ _:=rfl
 aJ _ _:=VW
 aC:=by simp
 aE b' _ hb':=BU (by rintro rfl;exact hb' (.inl ⟨n,hn,hb⟩))
 aG b hb:=.inl hb
def oi (es:List (List AV))(i j:Nat)(c:AV):List (List AV):=es.modify i (·.set j c)
theorem Mw {es:List (List AV)}{i j i' j':Nat}{c:AV}:
  gn (oi es i j c) i' j'=if i'=i ∧ j'=j ∧ (gn es i j).isSome then some c else gn es i' j':=by
 simp only[gn,oi,We];by_cases hi:i'=i
 ·subst hi;simp only[Vm,true_and];cases h:es[i']? with
  | none=>simp
  | some e=>
   simp only[VE];by_cases hj:j'=j
   ·subst hj;by_cases hl:j'<e.length;·simp[hl]
    ·simp[hl]
   ·have:¬(j=j'):=λh=>hj h.symm;simp[hj,this]
 ·have:¬(i=i'):=λh=>hi h.symm;simp[hi,this]
theorem B9 {es:List (List AV)}{i j:Nat}{c:AV}:(oi es i j c).length=es.length:=by simp[oi]
theorem OD {sz i j i' j':Nat}(hj:j<sz)(e:j'<sz)(h:i*sz+j=i'*sz+j'):i=i' ∧ j=j':=by
 have hs:0<sz:=by omega
 have hi:i=i':=by
  have e1:(i*sz+j) / sz=i:=by rw[Nat.mul_comm,Nat.mul_add_div hs,Nat.div_eq_of_lt hj,V_]
  have e2:(i'*sz+j') / sz=i':=by rw[Nat.mul_comm,Nat.mul_add_div hs,Nat.div_eq_of_lt e,V_]
  rw[← e1,← e2,h]
 subst hi;exact⟨rfl,by omega⟩
theorem oQ {es:List (List AV)}{i j sz:Nat}{c:AV}(hs:jv sz es)(h:gn es i j=some c):i<es.length ∧ j<sz:=by
 simp only[gn]at h;cases he:es[i]? with
 | none=>simp[he]at h
 | some e=>simp[he]at h;obtain⟨hi,rfl⟩:=Up.1 he;have:=(hs _ (UT hi)).1;have:=(Up.1 h).1;exact⟨hi,by omega⟩
theorem qp {n sz i j:Nat}(hi:i<n)(hj:j<sz):i*sz+j<n*sz:=by have:=Vi sz (Nat.succ_le_of_lt hi);rw[Nat.succ_mul]at this;omega
theorem kS.aD {G w b sz es gr i j c}(h:kS G w b sz es gr)(hc:gn es i j=some c):
  ∃v,w.cell? ⟨b,i*sz+j,none⟩=some v ∧ w.frozen? ⟨b,i*sz+j,none⟩=false ∧ V G w c v:=by
 obtain⟨⟨cells,ty,hh,_,_,h3⟩,_⟩:=h;obtain⟨v,hv,hV⟩:=h3 i j c hc;exact⟨v,by simp[World.cell?,hh,hv],by simp[World.frozen?,hh],hV⟩
theorem fO.bG {G w h} (g : fO G w h) {n b sz es gr i j c0 c} {v : Value} (hn : h[n]? = some (some (.aA sz es gr))) (hb : G.aA n = some b)
    (hc : gn es i j = some c0) (hV : V G w c v) (hsc : c.aH = true) :
    fO G (w.setCell ⟨b, i * sz + j, none⟩ v) (h.set n (some (.aA sz (oi es i j c) gr))) := by
  have hl : G.aD n := g.aN hn hb
  have k := g.bw hl hb (i * sz + j) v
  have hlt : n < h.length := (Up.1 hn).1
  refine { aA := by simp [g.aA], aD := ?_, aE := ?_, inj := g.inj, aF := g.aF, aG := g.aG, aL := g.aL, aM := g.aM,
           aH := λm b hb => by simpa using g.aH m b hb, aJ := λb hb => by simpa using g.aJ b hb, aC := ?_, aI := ?_, aK := g.aK }
  · intro m
    rw [g.aD m]
    by_cases hm : n = m
    · subst hm
      exact ⟨λh => ⟨⟨sz, oi es i j c, gr, by simp [hlt]⟩, h.2⟩, λh => ⟨⟨_, _, _, hn⟩, h.2⟩⟩
    · rw [Uq hm]
  · intro m b hb
    have hm : n ≠ m := by rintro rfl; rw [g.aE _ _ hb] at hn; simp at hn
    rw [Uq hm]; exact g.aE m b hb
  · intro m sz' es' gr' b' hm hb'
    by_cases h1 : n = m
    · subst h1
      rw [hb] at hb'; cases hb'
      rw [Ux hlt] at hm
      obtain ⟨rfl, rfl, rfl⟩ : sz = sz' ∧ oi es i j c = es' ∧ gr = gr' := by simpa using hm
      obtain ⟨⟨cells, ty, hh, h1, h2, h3⟩, hs⟩ := g.aC n sz es gr b hn hb
      obtain ⟨hi, hj⟩ := oQ hs hc
      refine ⟨⟨cells.setIfInBounds (i * sz + j) v, ty, MC hh, by simpa [B9] using h1, by simpa [B9] using h2, ?_⟩, ?_⟩
      · intro i' j' c' hc'
        rw [Mw] at hc'
        have hlt' := qp hi hj
        by_cases he : i' = i ∧ j' = j
        · obtain ⟨rfl, rfl⟩ := he
          simp only [hc, Option.isSome_some, and_self, Vm, UB] at hc'
          subst hc'
          exact ⟨v, by rw [Array.getElem?_setIfInBounds_self_of_lt (by omega)], hV.aA k⟩
        · have : ¬ (i' = i ∧ j' = j ∧ (gn es i j).isSome = true) := λh => he ⟨h.1, h.2.1⟩
          rw [Uw this] at hc'
          obtain ⟨v', hv', hV'⟩ := h3 i' j' c' hc'
          refine ⟨v', ?_, hV'.aA k⟩
          obtain ⟨hi', hj'⟩ := oQ hs hc'
          rw [VZ (λe => he (by have := OD hj hj' e; exact ⟨this.1.symm, this.2.symm⟩))]
          exact hv'
      · intro e he
        simp only [oi] at he
        obtain ⟨idx, hidx, rfl⟩ := WD.1 he
        have hs' := λk hk => hs (es[k]'hk) (UT hk)
        rw [List.getElem_modify]
        split
        · refine ⟨by simp [hs'], ?_⟩
          rw [VQ]
          intro x hx
          rcases Wj hx with h | h
          · exact VQ.1 (hs' idx (by simpa using hidx)).2 x h
          · rw [h]; exact hsc
        · exact hs' idx (by simpa using hidx)
    · rw [Uq h1] at hm
      have hlm : G.aD m := g.aN hm hb'
      exact (g.aC m sz' es' gr' b' hm hb').aA k (BU (λe => h1 (g.inj n m b hl hlm hb (by rw [hb']; exact WQ some e.symm))))
  · intro m sz' es' gr' hm hb'
    by_cases h1 : n = m
    · subst h1; rw [hb] at hb'; cases hb'
    · rw [Uq h1] at hm
      exact g.aI m sz' es' gr' hm hb'
/-- a name is given up -/
def Gh.aH (G:Gh)(n:Nat):Gh:={G with aD:=λm=>G.aD m ∧ m≠n}
theorem Gh.aO (G:Gh)(w:World)(n:Nat):ib G w (G.aH n) w:=
 ⟨Uy _,λ_ _ _ h=>h,λ_ _ h=>h,λt b h=>by cases t<;>exact h,λ_ _ _=>rfl,λ_ _=>rfl⟩
theorem Gh.aQ (G:Gh)(w:World)(n:Nat):gy G w (G.aH n) w where
 aH:=jU.aA w
 aA:=G.aO w n
 S:=⟨λ_ h=>h,λ_ h=>.inl h⟩
 aF _ _:=rfl
 aJ _ _:=VW
 aC:=Uy _
 aE _ _ _:=rfl
 aG b hb:=by
  rcases hb with⟨m,hm,h⟩ | ⟨m,h⟩;·exact .inl (.inl ⟨m,hm.1,h⟩)
  ·exact .inl (.inr ⟨m,h⟩)
theorem fO.aR {G w h} (g : fO G w h) {n sz es gr} (hn : h[n]? = some (some (.aA sz es gr))) : fO (G.aH n) w (h.set n none) := by
  have hlt : n < h.length := (Up.1 hn).1
  have k := G.aO w n
  refine { aA := by simp [Gh.aH, g.aA], aD := ?_, aE := ?_, inj := fun a b c h1 h2 => g.inj a b c h1.1 h2.1, aF := fun a b c h1 => g.aF a b c h1.1,
           aG := λa b h1 => g.aG a b h1.1, aL := g.aL, aM := g.aM, aH := g.aH, aJ := g.aJ, aC := ?_, aI := ?_, aK := g.aK }
  · intro m
    by_cases h1 : n = m
    · subst h1
      exact ⟨λh => absurd rfl h.2, fun ⟨⟨a, b, c, hh⟩, _⟩ => by simp [hlt] at hh⟩
    · rw [Uq h1]
      exact ⟨λh => (g.aD m).1 h.1, λh => ⟨(g.aD m).2 h, λe => h1 e.symm⟩⟩
  · intro m b hb
    have hm : n ≠ m := by rintro rfl; rw [g.aE _ _ hb] at hn; simp at hn
    rw [Uq hm]; exact g.aE m b hb
  · intro m u I E b hm hb
    by_cases h1 : n = m
    · subst h1; simp [hlt] at hm
    · rw [Uq h1] at hm
      exact (g.aC m u I E b hm hb).aA k rfl
  · intro m u I E hm hb
    by_cases h1 : n = m
    · subst h1; simp [hlt] at hm
    · rw [Uq h1] at hm
      exact g.aI m u I E hm hb
end Glb
/-
 A library of its own,for whatever program: the single operations,on abstract values and on values in memory.
-/
namespace Glb
open Go
/-- a list of abstract values beside an array of values -/
def VL (G:Gh)(w:World)(cs:List AV)(vs:Array Value):Prop:=
 cs.length=vs.size ∧ ∀(j:Nat)(c:AV)(v:Value),cs[j]?=some c → vs[j]?=some v → V G w c v
theorem VL.aE {G w cs vs cs' vs'}(h:VL G w cs vs)(h':VL G w cs' vs'):VL G w (cs++cs') (vs++vs'):=by
 refine⟨by simp[h.1,h'.1],λj c v hc hv=>?_⟩;rw[Vu]at hc;rw[Wm,← h.1]at hv;split at hc;·rename_i hlt;rw[Uv hlt]at hv;exact h.2 j c v hc hv
 ·rename_i hlt;rw[Uw hlt]at hv;exact h'.2 _ c v hc hv
theorem VL.aC {G w cs vs}{j:Nat}{c:AV}(h:VL G w cs vs) (hj:cs[j]?=some c):∃v,vs[j]?=some v ∧ V G w c v:=by
 have hlt:=(Up.1 hj).1;have:vs[j]?=some (vs[j]'(by rw[← h.1];exact hlt)):=by simp[← h.1,hlt]
 exact⟨_,this,h.2 j c _ hj this⟩
theorem VL.aG (G w):VL G w [] #[]:=⟨rfl,λj c v h=>by simp at h⟩
theorem VL.aI {G w}{cs:List AV}{vs:List Value}(hl:cs.length=vs.length)
  (h:∀(j:Nat)(c:AV)(v:Value),cs[j]?=some c → vs[j]?=some v → V G w c v):VL G w cs vs.toArray:=
 ⟨by simpa using hl,λj c v a b=>h j c v a (by simpa using b)⟩
theorem VL.aF {G w c v}{cs:List AV}{vs:List Value}(h:V G w c v)(r:VL G w cs vs.toArray):VL G w (c :: cs) (v :: vs).toArray:=by
 refine VL.aI (by have:=r.1;simp at this;simp[this]) ?_;intro j c' v' hc hv;cases j with
 | zero=>simp at hc hv;subst hc;subst hv;exact h
 | succ j=>simp at hc hv;exact r.2 j c' v' hc (by simpa using hv)
/-- constants -/
def jn:Value → AV
 | .bool b=>.aE b
 | .int k n=>.aA k n
 | .string s=>.aQ s
 | .slice none 0 0=>.aD
 | v=>.aN v
def xA:Value → AV
 | .agg cs=>.aF (cs.toList.map jn)
 | .tuple cs=>.aI (cs.toList.map jn)
 | v=>jn v
theorem V.aT (G w)(v:Value):V G w (jn v) v:=by
 unfold Glb.jn;split;·exact .aF _
 ·exact .aC _ _
 ·exact .aQ _
 ·exact .aO
 ·exact .aP _
theorem VL.aD (G w)(vs:Array Value):VL G w (vs.toList.map Glb.jn) vs:=by refine⟨by simp,λj c v hc hv=>?_⟩;simp only[U_,Array.getElem?_toList,hv,VP,UB]at hc;subst hc;exact V.aT G w v
theorem V.aZ (G w)(v:Value):V G w (xA v) v:=by
 unfold Glb.xA;split;·rename_i cs;exact .aJ _ cs (VL.aD G w cs).1 (VL.aD G w cs).2
 ·rename_i cs;exact .aM _ cs (VL.aD G w cs).1 (VL.aD G w cs).2
 ·exact V.aT G w _
theorem V.aU {G w c v}(h:V G w c v)(hs:c.aH=true):v.oneCell'=true:=by cases h<;>simp_all[AV.aH,Value.oneCell']
theorem V.a_ {G w c v}(h:V G w c v)(hs:c.aH=true):v.cells=#[v]:=by have:=h.aU hs;cases v<;>simp_all[Value.cells,Value.oneCell']
/-- the cells of a value -/
def AV.aK:AV → Option (List AV)
 | .aF cs=>some cs
 | c=>if c.aH then some [c] else none
theorem V.aS {G w c v cs}(h:V G w c v)(hc:c.aK=some cs):VL G w cs v.cells:=by
 unfold AV.aK at hc;split at hc
 ·cases h with
  | aJ _ vs hl hv=>cases hc;exact⟨hl,hv⟩
 ·rename_i hne;split at hc;·rename_i hs;cases hc;rw[h.a_ hs];exact VL.aF (vs:=[]) h (VL.aG G w)
  ·cases hc
/-! loads -/
def pQ (agg:Bool)(n:Nat)(cs:List AV):Option AV:=
 if agg then (if n ≤ cs.length then some (.aF (cs.take n)) else none) else cs.head?
def ir (h:eW)(agg:Bool)(n:Nat):AV → Option AV
 | .aC m sz i o=>
  match h[m]? with
  | some (some (.aA sz' es _))=>if sz=sz' then (es[i]?).bind λe=>pQ agg n (e.drop o) else none
  | _=>none
 | .aO _ cs=>pQ agg n cs
 | _=>none
theorem pw (b o n:Nat):(⟨b,o,none⟩:Addr).add n=⟨b,o+n,none⟩:=by unfold Addr.add;split<;>simp_all
theorem uE {a:Addr}(h:a.spot=none)(n:Nat):a.add n=⟨a.block,a.off+n,none⟩:=by cases a;simp at h;subst h;exact pw _ _ _
/-- cells that are there,one behind the other -/
def vM (G:Gh)(w:World)(b o:Nat)(cs:List AV):Prop:=
 ∃f:Nat → Value,(∀(j:Nat)(c:AV),cs[j]?=some c → w.cell? ⟨b,o+j,none⟩=some (f j)) ∧ ∀(j:Nat)(c:AV),cs[j]?=some c → V G w c (f j)
theorem vM.aA {P:Program}{G w b o cs}(h:vM G w b o cs){agg:Bool}{n:Nat}{r:AV}(hr:pQ agg n cs=some r)
  {t:TypeId} (ha:(isAgg t).run P w=.ok agg w) (hs:(Go.sizeOf t).run P w=.ok n w):
  ∃v,(loadVar t ⟨b,o,none⟩).run P w=.ok v w ∧ V G w r v:=by
 obtain⟨f,hf,hV⟩:=h;unfold pQ at hr;cases agg with
 | true=>
  simp only[Vm]at hr;split at hr
  ·rename_i hle;cases hr;have hl:=run_loadCells (P:=P) (w:=w) ⟨b,o,none⟩ n f (λj hj=>by
    rw[pw];have:cs[j]?=some cs[j]:=by simp
    exact hf j _ this)
   refine⟨.agg ((List.range n).map f).toArray,by simp[loadVar,ha,hs,hl],?_⟩;refine .aJ _ _ (by simp;omega) (λj c v hc hv=>?_);have hj:j<n:=by have:=(Up.1 hc).1;simp at this;omega
   rw[Vh hj]at hc;simp[hj]at hv;subst hv;exact hV j c hc
  ·cases hr
 | false=>
  simp only[UQ,Vd]at hr;have h0:cs[0]?=some r:=by rw[← List.head?_eq_getElem?];exact hr
  have hc:=hf 0 r h0;simp only[V_]at hc;exact⟨f 0,by simp[loadVar,ha,hc],hV 0 r h0⟩
theorem kS.aE {G w b sz es gr i e}(h:kS G w b sz es gr) (he:es[i]?=some e) (o:Nat):vM G w b (i*sz+o) (e.drop o):=by
 obtain⟨⟨cells,ty,hh,_,_,h3⟩,_⟩:=h;refine⟨λj=>(cells[i*sz+(o+j)]?).getD undef,λj c hc=>?_,λj c hc=>?_⟩ <;>
 ·rw[UR]at hc;obtain⟨v,hv,hV⟩:=h3 i (o+j) c (by simp[gn,he,hc]);simp[World.cell?,hh,V5,hv,hV]
theorem Ec {P:Program}{G w h agg n x r v}(g:fO G w h)(hx:V G w x v)(hr:ir h agg n x=some r)
  {t:TypeId} (ha:(isAgg t).run P w=.ok agg w) (hs:(Go.sizeOf t).run P w=.ok n w):
  ∃u,(Instr.loadAt t v).run P w=.ok u w ∧ V G w r u:=by
 unfold ir at hr;split at hr
 ·rename_i m sz i o;cases hx with
  | aL _ _ _ _ b hn hb=>
  split at hr
  ·rename_i sz' es gr hm;split at hr
   ·rename_i E;subst E;cases he:es[i]? with
    | none=>simp[he]at hr
    | some e=>simp only[he,VE]at hr;obtain⟨u,hu,hV⟩:=((g.aC m sz es gr b hm hb).aE he o).aA (P:=P) hr ha hs;exact⟨u,by simp[Instr.loadAt,Instr.sureAddr,hu],hV⟩
   ·cases hr
  ·cases hr
 ·rename_i t' cs;cases hx with
  | aN _ _ b off f hp hc hV=>obtain⟨u,hu,hV⟩:=vM.aA (P:=P) (G:=G) (w:=w) (b:=b) (o:=off) ⟨f,hc,hV⟩ hr ha hs;exact⟨u,by simp[Instr.loadAt,Instr.sureAddr,hu],hV⟩
 ·cases hr
/-! addresses -/
def sP (o:Nat):AV → Option AV
 | .aC m sz i o'=>some (.aC m sz i (o'+o))
 | .aO t cs=>some (.aO t (cs.drop o))
 | _=>none
theorem Ja {P:Program}{G w o x r v}(hx:V G w x v)(hr:sP o x=some r)
  {s:TypeId} {k:Nat} {fs:Array Field} {f:Field} (hu:P.underlying s=some (.struct fs)) (hf:fs[k]?=some f) (ho:f.offset=o)
  {m:Nat} (hs:(Go.sizeOf f.type).run P w=.ok m w) (hm:m≠0):
  ∃u,(Instr.fieldAt s v k).run P w=.ok u w ∧ V G w r u:=by
 unfold sP at hr;split at hr
 ·rename_i n sz i o';cases hx with
  | aL _ _ _ _ b hn hb=>cases hr;refine⟨_,by simp[Instr.fieldAt,run_underlying hu,hf,Instr.sureAddr,fieldPlace,hs,hm,ho,pw];rfl,?_⟩;rw[V5];exact .aL _ _ _ _ _ hn hb
 ·rename_i t' cs;cases hx with
  | aN _ _ b off f' hp hc hV=>
   cases hr;refine⟨_,by simp[Instr.fieldAt,run_underlying hu,hf,Instr.sureAddr,fieldPlace,hs,hm,ho,pw];rfl,?_⟩;refine .aN _ _ _ _ (λj=>f' (o+j)) hp (λj c hj=>?_) (λj c hj=>?_);·rw[UR]at hj;rw[V5];exact hc _ _ hj
   ·rw[UR]at hj;exact hV _ _ hj
 ·cases hr
def jg (sz:Nat):AV → AV → Option AV
 | .aG m sz' off len _,.aA _ i=>if sz=sz' ∧ 0 ≤ i ∧ i<(len:Int) then some (.aC m sz (off+i.toNat) 0) else none
 | .aM t _ sz' es,.aA _ i=>if sz=sz' ∧ 0 ≤ i then (es[i.toNat]?).map (.aO t) else none
 | _,_=>none
theorem Jm {P:Program}{G w sz x i r v vi}(hx:V G w x v)(hi:V G w i vi)(hr:jg sz x i=some r)
  {t e:TypeId} (hu:P.underlying t=some (.slice e)) (hs:(Go.sizeOf e).run P w=.ok sz w):
  ∃u,(Instr.indexAt t v vi).run P w=.ok u w ∧ V G w r u:=by
 unfold jg at hr;split at hr
 ·rename_i m E off len cap k i;cases hi;cases hx with
  | aH _ _ _ _ _ _=>simp at hr;omega
  | aD _ _ _ _ _ c ty mm b hn hb hl hcap hsh hm=>
   split at hr
   ·rename_i hh;obtain⟨rfl,h0,h1⟩:=hh;cases hr;refine⟨_,by simp[Instr.indexAt,asIntOf,run_underlying hu,hs,h0,h1,pw];rfl,?_⟩;have:off*sz+i.toNat*sz=(off+i.toNat)*sz+0:=by rw[V8];rfl
    rw[this];exact .aL _ _ _ _ _ hn hb
   ·cases hr
 ·rename_i t' cl E es k i;cases hi;split at hr
  ·rename_i hh;obtain⟨rfl,h0⟩:=hh;cases he:es[i.toNat]? with
   | none=>simp[he]at hr
   | some e'=>
    simp only[he,VP,UB]at hr;subst hr;have hlt:=(Up.1 he).1;cases hx with
    | aG=>simp at hlt
    | aE _ _ _ _ a cap f hl hcl hsp hp hes hc hV=>
     have h1:i<(es.length:Int):=by omega
     refine⟨_,by simp[Instr.indexAt,asIntOf,run_underlying hu,hs,h0,h1,uE (hsp (by omega))];rfl,?_⟩;refine .aN _ _ _ _ (λj=>f i.toNat j) (hp (by rintro rfl;simp at hlt)) (λj c hj=>?_) (λj c hj=>?_);·rw[V5];exact hc _ _ c (by simp[gn,he,hj])
     ·exact hV i.toNat j c (by simp[gn,he,hj])
  ·cases hr
 ·cases hr
/-! numbers -/
def pI (op:BinOp)(k:IntKind)(a b:Int):Option AV:=
 match op with
 | .add=>some (.aA k (k.wrap (a+b)))
 | .sub=>some (.aA k (k.wrap (a-b)))
 | .mul=>some (.aA k (k.wrap (a*b)))
 | .quo=>if b=0 then none else some (.aA k (k.wrap (a.tdiv b)))
 | .rem=>if b=0 then none else some (.aA k (a.tmod b))
 | .and=>some (.aA k (k.wrap (BitVec.ofInt k.bits a &&& BitVec.ofInt k.bits b).toNat))
 | .or=>some (.aA k (k.wrap (BitVec.ofInt k.bits a ||| BitVec.ofInt k.bits b).toNat))
 | .xor=>some (.aA k (k.wrap (BitVec.ofInt k.bits a ^^^ BitVec.ofInt k.bits b).toNat))
 | .andNot=>some (.aA k (k.wrap (BitVec.ofInt k.bits a &&& ~~~ BitVec.ofInt k.bits b).toNat))
 | .eql=>some (.aE (a == b))
 | .neq=>some (.aE (a != b))
 | .lss=>some (.aE (decide (a<b)))
 | .leq=>some (.aE (decide (a ≤ b)))
 | .gtr=>some (.aE (decide (a>b)))
 | .geq=>some (.aE (decide (a≥b)))
 | .shl | .shr=>none
def uW (op:BinOp)(k:IntKind)(a b:Int):Option AV:=
 match op with
 | .shl=>if b<0 then none else some (.aA k (k.wrap (a*2^(min b.toNat k.bits))))
 | .shr=>if b<0 then none else some (.aA k (a.fdiv (2^(min b.toNat k.bits))))
 | _=>none
def wG (op:BinOp)(a b:Bool):Option AV:=
 match op with
 | .eql=>some (.aE (a == b))
 | .neq=>some (.aE (!(a == b)))
 | _=>none
def Hu (op:BinOp)(a b:ByteArray):Option AV:=
 match op with
 | .eql=>some (.aE (a.toList == b.toList))
 | .neq=>some (.aE (!(a.toList == b.toList)))
 | _=>none
/-- is it nil? -/
def kE:AV → Option Bool
 | .aD=>some true
 | .aG _ _ _ len _=>if 0<len then some false else none
 | .aM _ _ _ es=>if 0<es.length then some false else none
 | .aC ..=>some false
 | .aO ..=>some false
 | .aN (.pointer none)=>some true
 | .aN .nilIface=>some true
 | .aT ..=>some false
 | _=>none
def jx (op:BinOp):AV → AV → Option AV
 | .aA k a,.aA k' b=>if op=.shl ∨ op=.shr then uW op k a b else if k=k' then pI op k a b else none
 | .aQ a,.aQ b=>Hu op a b
 | _,_=>none
theorem Rw {P:Program}{w:World}(op:BinOp)(t:TypeId)(x y:Operand)(k k':IntKind)(a b:Int):
  (eqGuard op t x y (.int k a) (.int k' b)).run P w=.ok () w:=by
 cases op<;>rfl
theorem Rv {P:Program}{w:World}(op:BinOp)(t:TypeId)(x y:Operand)(a b:Bool):
  (eqGuard op t x y (.bool a) (.bool b)).run P w=.ok () w:=by
 cases op<;>rfl
theorem Rx {P:Program}{w:World}(op:BinOp)(t:TypeId)(x y:Operand)(a b:ByteArray):
  (eqGuard op t x y (.string a) (.string b)).run P w=.ok () w:=by
 cases op<;>rfl
theorem DV {P:Program}{G w op x y r vx vy}(hx:V G w x vx)(hy:V G w y vy)(hr:jx op x y=some r)(t:TypeId)(ox oy:Operand):
  ∃u,(do eqGuard op t ox oy vx vy;binOp op t vx vy:Sem Value).run P w=.ok u w ∧ V G w r u:=by
 unfold jx at hr
 split at hr
 ·rename_i k a k' b
  cases hx;cases hy
  simp only[Sem.run_bind,Rw,Result.andThen_ok]
  split at hr
  ·rename_i e
   rcases e with rfl | rfl<;>simp only[uW]at hr<;>split at hr<;>simp only[UB,reduceCtorEq]at hr<;>subst hr <;>
    rename_i hlt<;>simp[binOp,Op.shift,hlt]<;>exact .aC _ _
  ·rename_i e
   split at hr
   ·rename_i hk
    subst hk
    cases op<;>simp only[pI,reduceCtorEq]at hr
    case quo=>split at hr<;>simp only[UB,reduceCtorEq]at hr;subst hr;rename_i hz;simp[binOp,Op.intDiv,hz];exact .aC _ _
    case rem=>split at hr<;>simp only[UB,reduceCtorEq]at hr;subst hr;rename_i hz;simp[binOp,Op.intDiv,hz];exact .aC _ _
    all_goals simp only[UB]at hr;subst hr
    all_goals first
     | (refine⟨_,?_,.aF _⟩;simp only[binOp,Op.intCmp,ne_eq,not_true_eq_false,Vd,Sem.run_pure];done)
     | (refine⟨_,?_,.aC _ _⟩;simp only[binOp,Op.intArith,Op.intBits,ne_eq,not_true_eq_false,Vd,Sem.run_pure];done)
   ·cases hr
 ·rename_i a b
  cases hx;cases hy
  simp only[Sem.run_bind,Rx,Result.andThen_ok]
  cases op<;>simp only[Hu,reduceCtorEq,UB]at hr<;>subst hr
  ·exact⟨_,rfl,.aF _⟩
  ·exact⟨_,rfl,.aF _⟩
 ·cases hr
theorem JR {P:Program}{G w op a b r}(hr:wG op a b=some r)(t:TypeId)(ox oy:Operand)(hu:P.underlying t=some .bool):
  ∃u,(do eqGuard op t ox oy (.bool a) (.bool b);binOp op t (.bool a) (.bool b):Sem Value).run P w=.ok u w ∧ V G w r u:=by
 simp only[Sem.run_bind,Rv,Result.andThen_ok];cases op<;>simp only[wG,reduceCtorEq,UB]at hr<;>subst hr;·exact⟨_,run_eql_bool w t a b hu,.aF _⟩
 ·exact⟨_,run_neq_bool w t a b hu,.aF _⟩
/-! a slice of a slice -/
def qH:Option Int → Int → Nat → Bool → Bool
 | some m,h,_,_=>decide (m=h)
 | none,h,n,cl=>cl && decide (h=(n:Int))
def jB:Option Int → Nat → Option Nat → Option Nat
 | some m,l,_=>some (m.toNat-l)
 | none,l,cap=>cap.map (·-l)
def iB (sz:Nat)(x:AV)(lo hi mx:Option Int):Option AV:=
 let l:=lo.getD 0
 match x with
 | .aD=>if l=0 ∧ hi.getD 0=0 ∧ mx.getD 0=0 then some .aD else none
 | .aG m sz' off len cap=>
  let h:=hi.getD len
  if sz=sz' ∧ 0 ≤ l ∧ l ≤ h ∧ (h ≤ (len:Int) ∨ cap.isSome=true) ∧ h ≤ mx.getD h ∧ mx.getD h ≤ ((cap.getD len:Nat):Int) then
   let c:Option Nat:=jB mx l.toNat cap
   if l=0 then some (.aG m sz off h.toNat c)
   else if l<h then some (.aG m sz (off+l.toNat) (h.toNat-l.toNat) c)
   else some (.aM 0 false sz [])
  else none
 | .aM t clip sz' es=>
  let h:=hi.getD es.length
  if sz=sz' ∧ 0 ≤ l ∧ l ≤ h ∧ h ≤ (es.length:Int) ∧ h ≤ mx.getD h ∧ mx.getD h ≤ (es.length:Int) then
   some (.aM t (qH mx h es.length clip) sz ((es.take h.toNat).drop l.toNat))
  else none
 | _=>none
theorem tT {P:Program}{w:World}(k:IntKind)(i:Int)(y:Nat)(code:BoundsCode)(h0:0 ≤ i)(h1:i ≤ (y:Int)):
  (Instr.sliceBound (.int k i) y code).run P w=.ok i.toNat w:=by
 simp[Instr.sliceBound,asIntOf,h0,h1]
/-- the three bounds,where they fit -/
theorem vB {P:Program}{w:World}(b:Bool)(len cap:Nat)(lo hi mx:Option Int)(u E e:IntKind)
  (h0:0 ≤ lo.getD 0) (h1:lo.getD 0 ≤ hi.getD len) (h2:hi.getD len ≤ mx.getD cap) (h3:mx.getD cap ≤ (cap:Int)) (hm:mx.isSome → hi.isSome):
  (Instr.sliceBounds b len cap (lo.map (.int u)) (hi.map (.int E)) (mx.map (.int e))).run P w =
   .ok ((lo.getD 0).toNat,(hi.getD len).toNat,(mx.getD cap).toNat) w:=by
 unfold Instr.sliceBounds;cases mx with
 | none=>
  cases hi with
  | none=>
   cases lo with
   | none=>simp
   | some l=>simp at h0 h1 h2 h3 ⊢;rw[tT _ _ _ _ h0 (by omega)];simp
  | some h=>
   simp at h0 h1 h2 h3 ⊢;rw[tT _ _ _ _ (by omega) (by omega)];cases lo with
   | none=>simp
   | some l=>simp at h0 h1 ⊢;rw[tT _ _ _ _ h0 (by omega)];simp
 | some m=>
  cases hi with
  | none=>simp at hm
  | some h=>
   simp at h0 h1 h2 h3 ⊢;rw[tT _ _ _ _ (by omega) (by omega)];simp;rw[tT _ _ _ _ (by omega) (by omega)];cases lo with
   | none=>simp
   | some l=>simp at h0 h1 ⊢;rw[tT _ _ _ _ h0 (by omega)];simp
theorem V.aW {G w}(t:Nat)(sz:Nat)(a:Addr)(cap:Nat)(ha:cap≠0 → a.spot=none)(u:Bool)(hc:u=true → cap=0):
  V G w (.aM t u sz []) (.slice (some a) 0 cap):=
 V.aE t u sz [] a cap (λ_ _=>undef) (UK _) hc ha (λh=>absurd rfl h) (λe he=>by simp at he) (λi j c h=>by simp[gn]at h) (λi j c h=>by simp[gn]at h)
theorem JG {P:Program}{G w sz x lo hi mx r v}(hx:V G w x v)(hr:iB sz x lo hi mx=some r)(klo khi kmx:IntKind)
  (hm:mx.isSome → hi.isSome) {t e:TypeId} (hu:P.underlying t=some (.slice e)) (hs:(Go.sizeOf e).run P w=.ok sz w):
  ∃u,(Instr.sliceAt t v (lo.map (.int klo)) (hi.map (.int khi)) (mx.map (.int kmx))).run P w=.ok u w ∧ V G w r u:=by
 unfold iB at hr;simp only at hr;split at hr
 ·cases hx;split at hr;·rename_i hh;obtain⟨e0,e1,e2⟩:=hh;cases hr;refine⟨.slice none 0 0,?_,.aO⟩;have:=vB (P:=P) (w:=w) true 0 0 lo hi mx klo khi kmx (by omega) (by simp only[Wz]at *;omega) (by simp only[Wz]at *;omega) (by simp only[Wz]at *;omega) hm;simp[Instr.sliceAt,Instr.slice,run_underlying hu,this,hs,e0,e1,e2]
  ·cases hr
 ·rename_i m sz' off len cap;cases hx with
  | aH _ _ _ hn hb hc=>
   split at hr
   ·rename_i hh;obtain⟨rfl,e0,e1,e2,e3,e4⟩:=hh;have hc0:cap.getD 0=0:=by cases cap with | none=>rfl | some k=>exact hc k rfl
    rw[hc0]at e4;have hb':=vB (P:=P) (w:=w) true 0 0 lo hi mx klo khi kmx e0 e1
     (by cases mx with | none=>simp at e4 ⊢;omega | some m=>simpa using e3) (by cases mx with | none=>simp | some m=>simpa using e4) hm
    have hl0:lo.getD 0=0:=by omega
    have hh0:hi.getD ((0:Nat):Int)=0:=by omega
    have hm0:(mx.getD ((0:Nat):Int)).toNat=0:=by cases mx with | none=>rfl | some m=>simp at e4 ⊢;omega
    rw[Uv hl0]at hr;cases hr;refine⟨.slice none 0 0,by simp only[Wz]at *;simp[Instr.sliceAt,Instr.slice,run_underlying hu,hb',hs,hl0,hh0,hm0],?_⟩;rw[hh0];refine .aH _ _ _ hn hb (λk hk=>?_);cases mx with
    | some m=>simp[jB,hl0]at hk e4;omega
    | none=>cases cap with
     | none=>simp[jB]at hk
     | some q=>have:=hc q rfl;simp[jB]at hk;omega
   ·cases hr
  | aD _ _ _ _ _ c ty mm b hn hb0 hl hcap hsh hmm=>
   split at hr
   ·rename_i hh;obtain⟨rfl,e0,e1,e2,e3,e4⟩:=hh;have hcle:((cap.getD len:Nat):Int) ≤ (c:Int):=by
     cases cap with
     | none=>simpa using hl
     | some k=>have:=hcap k rfl;simp;omega
    have e5:hi.getD len ≤ mx.getD c:=by cases mx with | none=>simp at e3 e4 ⊢;omega | some m=>simpa using e3
    have e6:mx.getD c ≤ (c:Int):=by cases mx with | none=>simp | some m=>simp at e4 ⊢;omega
    have hb:=vB (P:=P) (w:=w) true len c lo hi mx klo khi kmx e0 e1 e5 e6 hm;generalize hL:lo.getD 0=l at *;generalize hH:hi.getD len=h at *;have hmax:(mx.getD c).toNat ≤ c:=by omega
    have hhm:h.toNat ≤ (mx.getD c).toNat:=by omega
    have hrun:(Instr.sliceAt t (.slice (some ⟨b,off*sz,none⟩) len c) (lo.map (.int klo)) (hi.map (.int khi)) (mx.map (.int kmx))).run P w =
      .ok (.slice (if (mx.getD c).toNat=l.toNat then some ⟨b,off*sz,none⟩ else some ⟨b,off*sz+l.toNat*sz,none⟩) (h.toNat-l.toNat) ((mx.getD c).toNat-l.toNat)) w:=by
     simp[Instr.sliceAt,Instr.slice,run_underlying hu,hb,hs,pw]
    have hcap':∀k,jB mx l.toNat cap=some k → (mx.getD c).toNat-l.toNat=k:=by
     intro k hk;cases mx with
     | some m=>simpa [jB] using hk
     | none=>
      cases cap with
      | none=>simp[jB]at hk
      | some q=>have:=hcap q rfl;simp[jB]at hk ⊢;omega
    split at hr;·rename_i hl0;subst hl0;cases hr;refine⟨_,hrun,?_⟩;simp only[Int.toNat_zero,Nat.zero_mul,V_,ite_self,Nat.sub_zero]at hcap' ⊢;refine .aD _ _ _ _ _ _ ty mm b hn hb0 hhm hcap' hsh (UH (Vi _ (by omega)) hmm)
    ·split at hr;·rename_i hl0 hlh;cases hr;refine⟨_,hrun,?_⟩;rw[Uw (by omega),← V8];refine .aD _ _ _ _ _ _ ty mm b hn hb0 (by omega) hcap' hsh (UH (Vi _ (by omega)) hmm)
     ·rename_i hl0 hlh;cases hr;refine⟨_,hrun,?_⟩;have:h.toNat-l.toNat=0:=by omega
      rw[this];split<;>exact V.aW _ _ _ _ (λ_=>rfl) false (by simp)
   ·cases hr
 ·rename_i t' cl sz' es;split at hr
  ·rename_i hh;obtain⟨rfl,e0,e1,e2,e3,e4⟩:=hh;generalize hL:lo.getD 0=l at *;generalize hH:hi.getD es.length=h at *;cases hr;cases hx with
   | aG=>
    simp at e2 e4 hH;have hb:=vB (P:=P) (w:=w) true 0 0 lo hi mx klo khi kmx (by omega) (by simp;omega)
     (by cases mx with | none=>simp;omega | some m=>simp at e3 e4 ⊢;omega) (by cases mx with | none=>simp | some m=>simp at e3 e4 ⊢;omega) hm
    refine⟨.slice none 0 0,?_,by simpa using V.aG _ _ _⟩;simp[Instr.sliceAt,Instr.slice,run_underlying hu,hb,hs];cases mx with | none=>simp;omega | some m=>simp at e3 e4 ⊢;omega
   | aE _ _ _ _ a cap f hl hcl hsp hp hes hc hV=>
    have e5:hi.getD es.length ≤ mx.getD cap:=by rw[hH];cases mx with | none=>simp at e3 ⊢;omega | some m=>simpa using e3
    have e6:mx.getD cap ≤ (cap:Int):=by cases mx with | none=>simp | some m=>simp at e4 ⊢;omega
    have hb:=vB (P:=P) (w:=w) true es.length cap lo hi mx klo khi kmx (by omega) (by rw[hL,hH];exact e1) e5 e6 hm;rw[hL,hH]at hb;have hhm:h.toNat ≤ (mx.getD cap).toNat:=by rw[hH]at e5;omega
    have hlen:((es.take h.toNat).drop l.toNat).length=h.toNat-l.toNat:=by simp;omega
    have hclip:qH mx h es.length cl=true → (mx.getD cap).toNat-l.toNat=h.toNat-l.toNat:=by
     intro hq;cases mx with
     | some m=>simp[qH]at hq;subst hq;rfl
     | none=>simp[qH]at hq ⊢;have:=hcl hq.1;omega
    have hrun:(Instr.sliceAt t (.slice (some a) es.length cap) (lo.map (.int klo)) (hi.map (.int khi)) (mx.map (.int kmx))).run P w =
      .ok (.slice (if (mx.getD cap).toNat=l.toNat then some a else some ⟨a.block,a.off+l.toNat*sz,none⟩) (h.toNat-l.toNat) ((mx.getD cap).toNat-l.toNat)) w:=by
     by_cases hcz:cap=0
     ·have e1:(mx.getD cap).toNat=l.toNat:=by omega
      simp[Instr.sliceAt,Instr.slice,run_underlying hu,hb,hs,e1]
     ·simp[Instr.sliceAt,Instr.slice,run_underlying hu,hb,hs,uE (hsp hcz)]
    refine⟨_,hrun,?_⟩;by_cases hz:(mx.getD cap).toNat=l.toNat
    ·rw[Uv hz];have h0:h.toNat-l.toNat=0:=by omega
     have he:(es.take h.toNat).drop l.toNat=[]:=Uz (by omega);rw[he,h0];exact V.aW _ _ _ _ (λh=>hsp (by omega)) _ (λhq=>by have:=hclip hq;omega)
    ·rw[Uw hz];have hg:∀i j c,gn ((es.take h.toNat).drop l.toNat) i j=some c → gn es (l.toNat+i) j=some c:=by
      intro i j c hj;simp only[gn,UR]at hj ⊢;rw[Vp]at hj;split at hj;·exact hj
      ·simp at hj
     have:=V.aE (G:=G) (w:=w) t' (qH mx h es.length cl) sz ((es.take h.toNat).drop l.toNat)
      ⟨a.block,a.off+l.toNat*sz,none⟩ ((mx.getD cap).toNat-l.toNat) (λi j=>f (l.toNat+i) j) (by omega) (by rw[hlen];exact hclip) (λ_=>rfl)
      (λ_=>hp (by rintro rfl;simp_all)) (λe he=>hes e (U9 (UX he))) (λi j c hj=>by have:=hc _ _ _ (hg i j c hj);rw[V8]at this;simpa [V5] using this) (λi j c hj=>hV _ _ _ (hg i j c hj))
     rw[hlen]at this;exact this
  ·cases hr
 ·cases hr
end Glb
/-
 A library of its own,for whatever program: the operations that make or change memory.
-/
namespace Glb
open Go
/-- what an operation that may make or change memory does -/
def mR (P:Program)(s:Sem Value)(G:Gh)(w:World)(r:AV)(h':eW):Prop:=
 ∃v w' G',s.run P w=.ok v w' ∧ fO G' w' h' ∧ V G' w' r v ∧ gy G w G' w'
theorem mR.aA {P s G w h r v}(g:fO G w h)(hr:s.run P w=.ok v w)(hV:V G w r v):mR P s G w r h:=
 ⟨v,w,G,hr,g,hV,gy.aD G w⟩
/-! a new block -/
theorem VL.aH {G w cs vs}(hv:VL G w cs vs):∀i j c,gn [cs] i j=some c → ∃v,vs[i*cs.length+j]?=some v ∧ V G w c v:=by
 intro i j c hc;cases i with
 | zero=>simp[gn]at hc;simpa using hv.aC hc
 | succ i=>simp[gn]at hc
/-- what an operation that makes one block does -/
def LD (P:Program)(s:Sem Value)(G:Gh)(w:World)(mkv:Nat → AV)(sz:Nat)(es:List (List AV))(gr:Bool):Prop:=
 ∃(cells:Array Value)(ty:TypeId)(v:Value),s.run P w=.ok v (w.alloc (.cells cells ty)) ∧ jv sz es ∧ es.length*sz ≤ cells.size ∧ (gr=false → cells.size=es.length*sz) ∧
  (∀i j c,gn es i j=some c → ∃v,cells[i*sz+j]?=some v ∧ V G w c v) ∧
  ∀(G':Gh)(nm:Nat),nm<G'.N → G'.aA nm=some w.heap.size → V G' (w.alloc (.cells cells ty)) (mkv nm) v
theorem LD.aA {P s G w mkv sz es gr h}(g:fO G w h)(l:LD P s G w mkv sz es gr):mR P s G w (mkv h.length) (h++[some (.aA sz es gr)]):=by obtain⟨cells,ty,v,h1,h2,h3,h4,h5,h6⟩:=l;exact⟨v,_,G.aC (some w.heap.size),h1,g.aZ h2 h3 h4 h5,h6 _ _ (by rw[g.aA];exact Nat.lt_succ_self _) (by rw[g.aA];simp[Gh.aC]),g.bB _ _⟩
theorem Gm {P:Program}{G w cs v}(hv:VL G w cs v.cells)(u:cs.all AV.aH=true)(t:TypeId):
  LD P (do pure (.pointer (some (← Go.newVar t v)))) G w (λnm=>.aC nm cs.length 0 0) cs.length [cs] false:=by
 refine⟨v.cells,t,.pointer (some ⟨w.heap.size,0,none⟩),by simp[Go.newVar,newRow],λe he=>by simp at he;subst he;exact⟨rfl,u⟩,by simp[hv.1],λ_=>by simp[hv.1],hv.aH,?_⟩;intro G' nm hn hl;have:=V.aL (G:=G') (w:=w.alloc (.cells v.cells t)) nm cs.length 0 0 w.heap.size hn hl;simpa using this
/-- a row of elements -/
theorem Gl {P:Program}{G w}{cells:Array Value}{sz:Nat}{es:List (List AV)}{gr:Bool}(t:TypeId)
  (E:jv sz es) (I:es.length*sz ≤ cells.size) (M:gr=false → cells.size=es.length*sz)
  (hV:∀i j c,gn es i j=some c → ∃v,cells[i*sz+j]?=some v ∧ V G w c v) (len cap:Nat) (e:Option Nat)
  (hl:len ≤ cap) (hc:∀k,e=some k → cap=k) (hm:cap*sz ≤ cells.size):
  LD P (do pure (.slice (some (← newRow t cells)) len cap)) G w (λnm=>.aG nm sz 0 len e) sz es gr:=by
 refine⟨cells,t,.slice (some ⟨w.heap.size,0,none⟩) len cap,by simp[newRow],E,I,M,hV,?_⟩;intro G' nm hn u;have:=V.aD (G:=G') (w:=w.alloc (.cells cells t)) nm sz 0 len e cap t cells.size w.heap.size hn u hl hc (by simp only[World.shape?,uT]) (by simpa using hm);simpa using this
/-! parts laid into zeros -/
def jS (cs:List AV)(o:Nat):List AV → List AV
 | []=>cs
 | c :: r=>jS (cs.set o c) (o+1) r
/-- parts (an offset,a size,a value) laid into cells -/
def oI:List AV → List (Nat×Nat×AV) → Option (List AV)
 | cs,[]=>some cs
 | cs,(o,n,x) :: r=>
  match x.aK with
  | some l=>if l.length=n ∧ o+n ≤ cs.length then oI (jS cs o l) r else none
  | none=>none
theorem VL.aK {G w cs vs c v}(h:VL G w cs vs)(o:Nat)(hV:V G w c v):VL G w (cs.set o c) (vs.setIfInBounds o v):=by
 refine⟨by simp[h.1],λj c' v' hc hv=>?_⟩;by_cases hj:o=j
 ·subst hj;have hlt:o<cs.length:=by have:=(Up.1 hc).1;simpa using this
  rw[Ux hlt]at hc;rw[Array.getElem?_setIfInBounds_self_of_lt (by rw[← h.1];exact hlt)]at hv;cases hc;cases hv;exact hV
 ·rw[Uq hj]at hc;rw[VZ hj]at hv;exact h.2 j c' v' hc hv
theorem VL.aL {G w}:∀{l:List AV}{vl:List Value}{cs:List AV}{vs:Array Value}(o k:Nat),VL G w cs vs →
  l.length=vl.length → (∀(j:Nat)(c:AV)(v:Value),l[j]?=some c → vl[j]?=some v → V G w c v) →
  VL G w (jS cs (o+k) l) ((vl.zipIdx k).foldl (λcs (c,j)=>cs.setIfInBounds (o+j) c) vs):=by
 intro l;induction l with
 | nil=>intro vl cs vs o k h hl _;have:vl=[]:=Uz (by simpa using hl.symm);subst this;exact h
 | cons c r ih=>
  intro vl cs vs o k h hl hV;cases vl with
  | nil=>simp at hl
  | cons v vr=>
   simp only[List.zipIdx_cons,Wu,Glb.jS];have:=ih (vl:=vr) (cs:=cs.set (o+k) c) (vs:=vs.setIfInBounds (o+k) v) o (k+1) (h.aK _ (hV 0 c v rfl rfl)) (by simpa using hl)
    (λj c' v' hc hv=>hV (j+1) c' v' (by simpa using hc) (by simpa using hv))
   exact this
theorem Jd {G w}(place:Nat → Option (Nat×Nat)):∀(ps:List (Nat×Value)) (az:List (Nat×Nat×AV)) (cs:List AV) (vs:Array Value) (r:List AV),
  VL G w cs vs → az.length=ps.length → (∀(j i:Nat)(v:Value)(o n:Nat)(x:AV),ps[j]?=some (i,v) → az[j]?=some (o,n,x) → place i=some (o,n) ∧ V G w x v) →
  oI cs az=some r → ∃us,Instr.fill place vs ps=some us ∧ VL G w r us:=by
 intro ps;induction ps with
 | nil=>intro az cs vs r h hl _ hr;have:az=[]:=Uz (by simpa using hl);subst this;simp only[oI,UB]at hr;subst hr;exact⟨vs,rfl,h⟩
 | cons p ps ih=>
  intro az cs vs r h hl hp hr;obtain⟨i,v⟩:=p;cases az with
  | nil=>simp at hl
  | cons q az=>
   obtain⟨o,n,x⟩:=q;obtain⟨hpl,hV⟩:=hp 0 i v o n x rfl rfl;simp only[oI]at hr;split at hr
   ·rename_i l hl';split at hr
    ·rename_i hh;have hc:=hV.aS hl';have hsz:v.cells.size=n:=by rw[← hc.1];exact hh.1
     have hlen:vs.size=cs.length:=h.1.symm;have hset:=VL.aL (l:=l) (vl:=v.cells.toList) o 0 h (by simpa using hc.1) (λj c u a b=>hc.2 j c u a (by simpa using b));simp only[V_]at hset;obtain⟨us,hus,hVL⟩:=ih az (jS cs o l) _ r hset (by simpa using hl) (λj i v o n x a b=>hp (j+1) i v o n x (by simpa using a) (by simpa using b)) hr;refine⟨us,?_,hVL⟩;have hno:¬(v.cells.size≠n ∨ o+v.cells.size>vs.size):=by have:=hh.2;rw[hsz,hlen];omega
     simp only[Instr.fill,hpl,VF,Vb];rw[Uw hno];rw[← hus];congr 1;rw[← Array.foldl_toList];simp
    ·cases hr
   ·cases hr
/-! a store -/
def pD (h:eW)(n:Nat)(a x:AV):Option eW:=
 match a with
 | .aC m sz i o=>
  match h[m]?,x.aK with
  | some (some (.aA sz' es g)),some cs=>if sz=sz' ∧ cs.length=n ∧ o+n ≤ sz ∧ i<es.length ∧ cs.all AV.aH=true then some (h.set m (some (.aA sz (es.modify i (jS · o cs)) g))) else none
  | _,_=>none
 | _=>none
theorem Ou (es:List (List AV))(i o:Nat)(c:AV)(r:List AV):
  es.modify i (jS · o (c :: r))=(oi es i o c).modify i (jS · (o+1) r):=by
 simp only[oi,jS];apply Vf;intro k;simp only[We];by_cases h:i=k;·subst h;cases es[i]?<;>simp
 ·simp[h]
theorem Oq (es:List (List AV))(i o:Nat):es.modify i (jS · o [])=es:=by have:(λe:List AV=>jS e o [])=id:=rfl;rw[this];apply Vf;intro k;simp only[We];cases es[k]?<;>simp
theorem Sw {P:Program}:∀(cs:List AV)(vs:List Value)(k:Nat){G:Gh}{w:World}{h:eW}{m b sz i o:Nat} {es:List (List AV)} {gr:Bool},
  fO G w h → h[m]?=some (some (.aA sz es gr)) → G.aA m=some b → cs.length=vs.length →
  (∀(j:Nat)(c:AV)(v:Value),cs[j]?=some c → vs[j]?=some v → V G w c v) → cs.all AV.aH=true → i<es.length → o+k+cs.length ≤ sz →
  ∃w',(storeCells ⟨b,i*sz+o,none⟩ vs k).run P w=.ok () w' ∧ fO G w' (h.set m (some (.aA sz (es.modify i (jS · (o+k) cs)) gr))) ∧ gy G w G w':=by
 intro cs;induction cs with
 | nil=>
  intro vs k G w h m b sz i o es gr g hm _ hl _ _ _ _;have:vs=[]:=Uz (by simpa using hl.symm);subst this;refine⟨w,rfl,?_,gy.aD G w⟩;rw[Oq];have:h.set m (some (.aA sz es gr))=h:=by
   apply Vf;intro j;by_cases hj:m=j;·subst hj;rw[Ux (Up.1 hm).1,hm]
   ·rw[Uq hj]
  rw[this];exact g
 | cons c r ih=>
  intro vs k G w h m b sz i o es gr g hm hb hl hV hs hi ho;cases vs with
  | nil=>simp at hl
  | cons v vr=>
   simp only[List.all_cons,US]at hs;have hgr:=g.aC m sz es gr b hm hb;have hlen:es[i].length=sz:=(hgr.sz _ (UT hi)).1;have hc0:∃c0,gn es i (o+k)=some c0:=by
    have:o+k<es[i].length:=by simp at ho;omega
    exact⟨es[i][o+k],by simp[gn,hi,this]⟩
   obtain⟨c0,hc0⟩:=hc0;obtain⟨v0,hcell,hfz,_⟩:=hgr.aD hc0;have hV0:=hV 0 c v rfl rfl;have gset:=g.bG hm hb hc0 hV0 hs.1;have hlive:=g.aN hm hb;have st:=g.bM hlive hb (i*sz+(o+k)) v;have hlt:m<h.length:=(Up.1 hm).1;obtain⟨w',hrun,hg',hst⟩:=ih vr (k+1) (m:=m) (b:=b) (sz:=sz) (i:=i) (o:=o) (es:=oi es i (o+k) c) (gr:=gr) gset (Ux hlt) hb (by simpa using hl)
    (λj c' v' a b=>(hV (j+1) c' v' (by simpa using a) (by simpa using b)).aA st.aA) hs.2 (by rw[B9];exact hi) (by simp at ho;omega)
   refine⟨w',?_,?_,st.aI hst⟩;·simp only[storeCells,Sem.run_bind,pw];rw[run_store P w _ v _ (hV0.aU hs.1)];rw[V5,hcell];simp only[hfz,UQ,Vd,Result.andThen_ok];exact hrun
   ·rw[Ou];rw[Vs]at hg';exact hg'
theorem JI {P:Program}{G w h n a x h' va vx}(g:fO G w h)(ha:V G w a va)(hx:V G w x vx)(hr:pD h n a x=some h')
  {t:TypeId} (hs:(Go.sizeOf t).run P w=.ok n w):
  ∃w',(Instr.storeAt t va vx).run P w=.ok () w' ∧ fO G w' h' ∧ gy G w G w':=by
 unfold pD at hr;split at hr
 ·rename_i m sz i o;cases ha with
  | aL _ _ _ _ b hn hb=>
  split at hr
  ·rename_i sz' es gr cs hm hcs;split at hr
   ·rename_i hh;obtain⟨rfl,hl,ho,hi,hsc⟩:=hh;cases hr;have hv:=hx.aS hcs;obtain⟨w',hrun,hg,hst⟩:=Sw (P:=P) cs vx.cells.toList 0 g hm hb (by simpa using hv.1) (λj c v a b=>hv.2 j c v a (by simpa using b)) hsc hi (o:=o) (by omega);refine⟨w',?_,by simpa using hg,hst⟩;have hno:vx.cells.size=n:=by rw[← hv.1,hl]
    simp[Instr.storeAt,Instr.sureAddr,storeVar,hs,hno,hrun]
   ·cases hr
  ·cases hr
 ·cases hr
/-! rows that are read -/
/-- elements that lie one behind the other -/
structure uA (G:Gh)(w:World)(b o sz:Nat)(es:List (List AV)):Prop where
 ok:jv sz es
 ex:∃f:Nat → Nat → Value,(∀i j c,gn es i j=some c → w.cell? ⟨b,o+(i*sz+j),none⟩=some (f i j)) ∧ ∀i j c,gn es i j=some c → V G w c (f i j)
/-- an array of values beside elements -/
structure jG (G:Gh)(w:World)(sz:Nat)(es:List (List AV))(cells:Array Value):Prop where
 ok:jv sz es
 aA:cells.size=es.length*sz
 aD:∀i j c,gn es i j=some c → ∃v,cells[i*sz+j]?=some v ∧ V G w c v
theorem jG.aC {G w G' w' sz es cells}(k:ib G w G' w')(h:jG G w sz es cells):jG G' w' sz es cells:=
 ⟨h.ok,h.aA,λi j c hc=>let⟨v,hv,hV⟩:=h.aD i j c hc;⟨v,hv,hV.aA k⟩⟩
theorem FF {es:List (List AV)}{sz i j:Nat}(h:jv sz es)(hi:i<es.length)(hj:j<sz):∃c,gn es i j=some c:=by have:=(h _ (UT hi)).1;exact⟨es[i][j]'(by omega),by simp[gn,hi,this,hj]⟩
theorem Mv {es:List (List AV)}{sz i j:Nat}{c:AV}(h:jv sz es)(hc:gn es i j=some c):c.aH=true:=by
 simp only[gn]at hc;cases he:es[i]? with
 | none=>simp[he]at hc
 | some e=>simp[he]at hc;obtain⟨hi,rfl⟩:=Up.1 he;exact VQ.1 (h _ (UT hi)).2 c (List.mem_of_getElem? hc)
theorem HC {n sz k:Nat}(h:k<n*sz):k / sz<n ∧ k % sz<sz ∧ k / sz*sz+k % sz=k:=by have hs:0<sz:=Nat.pos_of_ne_zero (by rintro rfl;simp at h);refine⟨(Nat.div_lt_iff_lt_mul hs).2 h,Nat.mod_lt _ hs,?_⟩;rw[Nat.mul_comm];exact Nat.div_add_mod k sz
theorem jG.aG {G w sz es cells}(h:jG G w sz es cells):∀v∈cells.toList,v.oneCell'=true:=by
 intro v hv;obtain⟨k,hk,rfl⟩:=WD.1 hv;have e:k<es.length*sz:=by rw[← h.aA];simpa using hk
 obtain⟨h1,h2,h3⟩:=HC e;obtain⟨c,hc⟩:=FF h.ok h1 h2;obtain⟨v,hv,hV⟩:=h.aD _ _ _ hc;rw[h3]at hv;have:cells.toList[k]=v:=by have:=(VA.1 hv).2;simpa using this
 rw[this];exact hV.aU (Mv h.ok hc)
theorem uA.aA {P:Program}{G w b o sz es}(h:uA G w b o sz es):
  ∃cells,(loadCells ⟨b,o,none⟩ (es.length*sz)).run P w=.ok cells w ∧ jG G w sz es cells:=by
 obtain⟨hs,f,hc,hV⟩:=h;refine⟨((List.range (es.length*sz)).map λk=>f (k / sz) (k % sz)).toArray,run_loadCells (P:=P) (w:=w) ⟨b,o,none⟩ _ _ (λk hk=>?_),hs,by simp,?_⟩;·obtain⟨h1,h2,h3⟩:=HC hk;obtain⟨c,e⟩:=FF hs h1 h2;have:=hc _ _ _ e;rw[h3]at this;rw[pw];exact this
 ·intro i j c e;obtain⟨hi,hj⟩:=oQ hs e;have hk:=qp hi hj;have u:0<sz:=by omega
  have e1:(i*sz+j) / sz=i:=by rw[Nat.mul_comm,Nat.mul_add_div u,Nat.div_eq_of_lt hj,V_]
  have e2:(i*sz+j) % sz=j:=by rw[Nat.mul_comm,Nat.mul_add_mod,Nat.mod_eq_of_lt hj]
  exact⟨f i j,by simp[hk,e1,e2],hV i j c e⟩
theorem Mu {es:List (List AV)}{off len i j:Nat}{c:AV} (h:gn ((es.drop off).take len) i j=some c):gn es (off+i) j=some c:=by
 simp only[gn,Vp]at h ⊢;split at h;·simpa [UR] using h
 ·simp at h
theorem OT {sz:Nat}{es:List (List AV)}(h:jv sz es)(off len:Nat):jv sz ((es.drop off).take len):=
 λe he=>h e (UX (U9 he))
theorem kS.aC {G w b sz es gr}(h:kS G w b sz es gr)(off len:Nat):uA G w b (off*sz) sz ((es.drop off).take len):=by
 obtain⟨⟨cells,ty,hh,_,_,h3⟩,hs⟩:=h;refine⟨OT hs off len,λi j=>(cells[(off+i)*sz+j]?).getD undef,λi j c hc=>?_,λi j c hc=>?_⟩ <;>
 ·obtain⟨v,hv,hV⟩:=h3 _ _ _ (Mu hc);have e:off*sz+(i*sz+j)=(off+i)*sz+j:=by rw[V8];omega
  simp[World.cell?,hh,e,hv,hV]
/-- the elements of a slice -/
def iK (h:eW)(sz:Nat):AV → Option (List (List AV))
 | .aD=>some []
 | .aM _ _ sz' es=>if sz=sz' then some es else none
 | .aG m sz' off len _=>
  match h[m]? with
  | some (some (.aA sz'' es _))=>if sz=sz' ∧ sz=sz'' ∧ off+len ≤ es.length then some ((es.drop off).take len) else none
  | _=>none
 | _=>none
theorem D6 {P:Program}{G w h sz y ys vy}(g:fO G w h)(hy:V G w y vy)(hr:iK h sz y=some ys):
  (Builtin.lenOf vy).run P w=.ok ys.length w ∧ jv sz ys ∧ ∃cells,(Builtin.firstCells sz ys.length vy).run P w=.ok cells w ∧ jG G w sz ys cells:=by
 unfold iK at hr;split at hr;·cases hy;cases hr;exact⟨rfl,λe he=>by simp at he,#[],rfl,λe he=>by simp at he,by simp,λi j c hc=>by simp[gn]at hc⟩
 ·rename_i t cl U es;split at hr
  ·rename_i hh;subst hh;cases hr;cases hy with
   | aG=>exact⟨rfl,λe he=>by simp at he,#[],rfl,λe he=>by simp at he,by simp,λi j c hc=>by simp[gn]at hc⟩
   | aE _ _ _ _ a cap f hl hcl hsp hp O hc hV=>
    obtain⟨cells,E,u⟩:=uA.aA (P:=P) (G:=G) (w:=w) (b:=a.block) (o:=a.off) (sz:=sz) (es:=ys) ⟨O,f,hc,hV⟩;refine⟨rfl,O,cells,?_,u⟩;by_cases hcz:cap=0
    ·have M:ys.length=0:=by omega
     have:cells=#[]:=by have:=u.aA;rw[M,Nat.zero_mul]at this;exact VR this
     subst this;rw[M];simp[Builtin.firstCells,loadCells,loadCellsFrom]
    ·have ha:a=⟨a.block,a.off,none⟩:=by have:=hsp hcz;cases a;simp at this;simp[this]
     rw[ha];exact E
  ·cases hr
 ·rename_i m U off len cap;split at hr
  ·rename_i sz'' es gr hm;split at hr
   ·rename_i hh;obtain⟨rfl,rfl,hle⟩:=hh;cases hr;have I:((es.drop off).take len).length=len:=by simp;omega
    cases hy with
    | aH _ _ _ _ hb _=>have:=g.aI m sz es gr hm (g.aK m hb);subst this;exact⟨rfl,λe he=>by simp at he,#[],rfl,λe he=>by simp at he,by simp,λi j c hc=>by simp[gn]at hc⟩
    | aD _ _ _ _ _ c ty mm b hn hb hl hcap hsh hmm=>have u:=(g.aC m sz es gr b hm hb).aC off len;obtain⟨cells,E,W⟩:=u.aA (P:=P);refine⟨by rw[I];rfl,u.ok,cells,?_,W⟩;exact E
   ·cases hr
  ·cases hr
 ·cases hr
/-! rows that are written -/
theorem MD {w:World}{g:Nat}{c e:Array Value}{t:TypeId}{fr:Nat×Nat} (h:w.heap[g]?=some (.cells e t fr)):
  (w.setRow g c).heap[g]?=some (.cells c t fr):=setRow_heap w g e c t fr h
theorem ME {w:World}{g b:Nat}{c:Array Value}(h:g≠b):(w.setRow g c).heap[b]?=w.heap[b]?:=by simp[World.setRow,Wn,h]
end Glb
/-
 A library of its own,for whatever program: append.
-/
namespace Glb
open Go
/-- a row of ours is given other elements -/
theorem fO.aV {G w h w'} (g : fO G w h) {n sz es gr b Z W} (hn : h[n]? = some (some (.aA sz es gr))) (hb : G.aA n = some b)
    (k : ib G w G w') (E : w.heap.size ≤ w'.heap.size) (I : ∀ m b', G.aD m → G.aA m = some b' → m ≠ n → w'.heap[b']? = w.heap[b']?)
    (hH : kS G w' b sz Z W) : fO G w' (h.set n (some (.aA sz Z W))) := by
  have hlt : n < h.length := (Up.1 hn).1
  refine { aA := by simp [g.aA], aD := ?_, aE := ?_, inj := g.inj, aF := g.aF, aG := g.aG, aL := g.aL, aM := g.aM,
           aH := λm b hb => UM (g.aH m b hb) E, aJ := λb hb => UM (g.aJ b hb) E, aC := ?_, aI := ?_, aK := g.aK }
  · intro m
    rw [g.aD m]
    by_cases hm : n = m
    · subst hm
      exact ⟨λh => ⟨⟨_, _, _, Ux hlt⟩, h.2⟩, λh => ⟨⟨_, _, _, hn⟩, h.2⟩⟩
    · rw [Uq hm]
  · intro m b hb
    have hm : n ≠ m := by rintro rfl; rw [g.aE _ _ hb] at hn; simp at hn
    rw [Uq hm]; exact g.aE m b hb
  · intro m M U O b' hm u
    by_cases h1 : n = m
    · subst h1
      rw [hb] at u; cases u
      rw [Ux hlt] at hm
      obtain ⟨rfl, rfl, rfl⟩ : sz = M ∧ Z = U ∧ W = O := by simpa using hm
      exact hH
    · rw [Uq h1] at hm
      exact (g.aC m M U O b' hm u).aA k (I m b' (g.aN hm u) u (λe => h1 e.symm))
  · intro m M U O hm u
    by_cases h1 : n = m
    · subst h1; rw [hb] at u; cases u
    · rw [Uq h1] at hm
      exact g.aI m M U O hm u
def gZ (es:List (List AV))(p:Nat)(ys:List (List AV)):List (List AV):=es.take p++ys++es.drop (p+ys.length)
theorem FG {es ys:List (List AV)}{p i j:Nat}{c:AV}(hp:p ≤ es.length)(h:gn (gZ es p ys) i j=some c):
  (i<p ∧ gn es i j=some c) ∨ (p ≤ i ∧ i<p+ys.length ∧ gn ys (i-p) j=some c) ∨ (p+ys.length ≤ i ∧ gn es i j=some c):=by
 simp only[gn,gZ,Vu,Ut,UD,Vk hp]at h;rcases VX i p with h1 | h1
 ·left;rw[Uv (by omega),Uv h1,Vh h1]at h;exact⟨h1,h⟩
 ·rcases VX i (p+ys.length) with h2 | h2;·right;left;rw[Uv h2,Uw (by omega)]at h;exact⟨h1,h2,h⟩
  ·right;right;rw[Uw (by omega),UR]at h;refine⟨h2,?_⟩;rw[show p+ys.length+(i-(p+ys.length))=i by omega]at h;exact h
theorem Gy {sz:Nat}{es ys:List (List AV)}(h:jv sz es)(h':jv sz ys)(p:Nat):jv sz (gZ es p ys):=by
 intro e he;simp only[gZ,U4]at he;rcases he with (he | he) | he;·exact h e (U9 he)
 ·exact h' e he
 ·exact h e (UX he)
/-- elements written into a row of ours -/
theorem HZ {P:Program}{G w h}(g:fO G w h){n sz es gr b p ys vs cur ty} (hn:h[n]?=some (some (.aA sz es gr))) (hb:G.aA n=some b)
  (hcur:w.heap[b]?=some (.cells cur ty (0,0))) (hrow:jG G w sz ys vs) (hp:p ≤ es.length) (hfit:(p+ys.length)*sz ≤ cur.size):
  ∃w',(storeCells ⟨b,p*sz,none⟩ vs.toList).run P w=.ok () w' ∧ gy G w G w' ∧ (∀b',b'≠b → w'.heap[b']?=w.heap[b']?) ∧
   (∀r,w'.shape? r=w.shape? r) ∧ ∀gr',(gr'=false → cur.size=(gZ es p ys).length*sz) → kS G w' b sz (gZ es p ys) gr':=by
 have hl:=g.aN hn hb;obtain⟨⟨cells,ty',hh,h1,h2,h3⟩,hs⟩:=g.aC n sz es gr b hn hb;rw[hcur]at hh;obtain⟨rfl,rfl⟩:cur=cells ∧ ty=ty':=by simpa using hh
 have hvl:vs.toList.length=ys.length*sz:=by simpa using hrow.aA
 have hmul:(p+ys.length)*sz=p*sz+ys.length*sz:=V8 _ _ _;have hrun:=run_storeCells_at P b (p*sz) ty vs.toList 0 cur w hcur (by rw[hvl];omega) hrow.aG;simp only[V_]at hrun;generalize hnew:(cur.toList.take (p*sz)++vs.toList++cur.toList.drop (p*sz+vs.toList.length)).toArray=new at hrun;have hsize:new.size=cur.size:=by rw[← hnew];simp only[List.size_toArray,Ut,UD,UP,Array.length_toList]at *;omega
 have hheap:=MD (c:=new) hcur;have hother:∀b',b'≠b → (w.setRow b new).heap[b']?=w.heap[b']?:=λb' hb'=>ME (λe=>hb' e.symm);have hshape:∀r,(w.setRow b new).shape? r=w.shape? r:=by
  intro r;by_cases hr:r=b;·subst hr;simp only[World.shape?,hheap,hcur,hsize]
  ·simp only[World.shape?,hother r hr]
 have hrest:jU w (w.setRow b new):=⟨rfl,rfl,by simp[World.setRow],λx _=>by
  by_cases hr:x.block=b
  ·simp only[World.frozen?,hr,hheap,hcur]
  ·simp only[World.frozen?,hother _ hr]⟩
 have k:ib G w G (w.setRow b new):=by
  refine⟨Uy _,λ_ _ _ h=>h,λ_ _ h=>h,λ_ _ h=>h,λt b' hp=>hother b' ?_,λb _=>hshape b⟩;rintro rfl;cases t with
  | zero=>exact g.aG n _ hl hb hp
  | succ m=>exact g.aF n m _ hl hb hp
 refine⟨_,hrun,⟨k,⟨λ_ h=>h,λ_ h=>.inl h⟩,λ_ _=>rfl,λ_ _=>VW,by simp[World.setRow],λb' _ hb'=>hother b' (by rintro rfl;exact hb' (.inl ⟨n,hl,hb⟩)),λb hb=>.inl hb,hrest⟩,hother,hshape,λgr' hgr'=>?_⟩;refine⟨⟨new,ty,hheap,?_,by rw[hsize];exact hgr',?_⟩,Gy hs hrow.ok p⟩
 ·rw[hsize];simp only[gZ,Ut,UD,UP,Vk hp];rcases Nat.le_total (p+ys.length) es.length with hc | hc;·rw[show p+ys.length+(es.length-(p+ys.length))=es.length by omega];exact h1
  ·rw[show p+ys.length+(es.length-(p+ys.length))=p+ys.length by omega];exact hfit
 ·intro i j c hc;have hcell:∀k,new[k]?=if k<p*sz then cur[k]? else if k<p*sz+ys.length*sz then vs[k-p*sz]? else cur[k]?:=by
   intro k;rw[← hnew];simp only[Vj,Vu,Ut,UD,Array.length_toList,hrow.aA];have e1:min (p*sz) cur.size=p*sz:=by omega
   rw[e1];rcases VX k (p*sz) with a | a;·rw[Uv (by omega),Uv a,Uv a,Vh a];simp
   ·rcases VX k (p*sz+ys.length*sz) with c | c;·rw[Uv c,Uw (by omega),Uw (by omega),Uv c];simp
    ·rw[Uw (by omega),Uw (by omega),Uw (by omega),UR];rw[show p*sz+ys.length*sz+(k-(p*sz+ys.length*sz))=k by omega];simp
  rcases FG hp hc with⟨a,hc'⟩ | ⟨a,b',hc'⟩ | ⟨a,hc'⟩;·obtain⟨v,hv,hV⟩:=h3 i j c hc';have hj:=(oQ hs hc').2;refine⟨v,?_,hV.aA k⟩;rw[hcell,Uv (qp a hj)];exact hv
  ·obtain⟨v,hv,hV⟩:=hrow.aD _ _ _ hc';have hj:=(oQ hrow.ok hc').2;have e:i*sz+j=p*sz+((i-p)*sz+j):=by rw[show i*sz=(p+(i-p))*sz by rw[Nat.add_sub_cancel' a],V8,V5]
   have hlt:=qp (n:=ys.length) (i:=i-p) (by omega) hj;refine⟨v,?_,hV.aA k⟩;rw[hcell,Uw (by omega),Uv (by omega),show i*sz+j-p*sz=(i-p)*sz+j by omega];exact hv
  ·obtain⟨v,hv,hV⟩:=h3 i j c hc';have hj:=(oQ hs hc').2;have:p*sz+ys.length*sz ≤ i*sz:=by rw[← V8];exact Vi _ a
   refine⟨v,?_,hV.aA k⟩;rw[hcell,Uw (by omega),Uw (by omega)];exact hv
/-! the run of append -/
theorem Mx (e:Nat):∀(r c:Nat),256 ≤ c → c<2*e → Builtin.growBy e r c ≤ 2*e:=by
 intro r;induction r with
 | zero=>intro c _ h;simp only[Builtin.growBy];omega
 | succ r ih=>
  intro c h1 h2;simp only[Builtin.growBy];split;·omega
  ·rename_i h3;by_cases h4:c+(c+768) / 4<2*e;·exact ih _ (by omega) h4
   ·have:c+(c+768) / 4 ≤ 2*e:=by omega
    have:c+(c+768) / 4=2*e:=by omega
    rw[this];cases r with
    | zero=>simp[Builtin.growBy]
    | succ r=>simp only[Builtin.growBy];rw[Uv (by omega)];omega
theorem Gp {need cap:Nat}(h:cap<need):Builtin.nextslicecap need cap ≤ 2*need:=by
 unfold Builtin.nextslicecap;split;·omega
 ·split;·omega
  ·exact Mx need 4 cap (by omega) (by omega)
structure vJ (P:Program)(sT xT elem:TypeId)(cs bs:Nat)(inf:TypeInfo)(zv:Value):Prop where
 s:P.underlying sT=some (.slice elem)
 x:∃e,P.underlying xT=some (.slice e)
 aA:P.info? elem=some inf
 sz:inf.size=cs
 aC:inf.bytes=bs
 aE:inf.zero=some zv
 aD:0<bs
 aF:zv.cells.size=cs
theorem Ru {P:Program}{sT xT elem sz bytes info zero}(T:vJ P sT xT elem sz bytes info zero)(ty:TypeId)(w:World)
  {base:Option Addr} {len cap k:Nat} {x:Value} {cells:Array Value} (e:(Builtin.lenOf x).run P w=.ok k w)
  (hf:(Builtin.firstCells sz k x).run P w=.ok cells w) (hr:len+k ≤ cap):
  (Builtin.append_ #[sT,xT] ty #[.slice base len cap,x]).run P w =
   match base with
   | some a=>((storeCells (a.add (len*sz)) cells.toList).run P w).andThen λ_ w'=>.ok (.slice base (len+k) cap) w'
   | none=>.ok (.slice base (len+k) cap) w:=by
 obtain⟨d,hd⟩:=T.x;cases base with
 | none=>
  simp only[Builtin.append_,Sem.run_bind,Sem.run_pure,Result.andThen_ok,run_underlying T.s,run_underlying hd,Go.sizeOf,run_typeInfo w T.aA,T.sz,Vj,UY,
     Vr,UQ,Vd,e,Sem.run_ite,Uv hr,Vc,Vm,hf]
 | some a=>
  simp only[Builtin.append_,Sem.run_bind,Sem.run_pure,Result.andThen_ok,run_underlying T.s,run_underlying hd,Go.sizeOf,run_typeInfo w T.aA,T.sz,Vj,UY,
     Vr,UQ,Vd,e,Sem.run_ite,Uv hr,Vc,Vm,hf]
theorem Rt {P:Program}{sT xT elem sz bytes info zero}(T:vJ P sT xT elem sz bytes info zero)(ty:TypeId)(w:World)
  {s x:Value} {base:Option Addr} {len cap k:Nat} {old cells:Array Value} (hs:s=.slice base len cap) (E:(Builtin.lenOf x).run P w=.ok k w)
  (e1:(Builtin.firstCells sz len s).run P w.drew=.ok old w.drew) (e2:(Builtin.firstCells sz k x).run P w.drew=.ok cells w.drew)
  (hr:¬len+k ≤ cap) (hb:(len+k)*bytes ≤ 2^46):
  ∃e rest,len+k ≤ e ∧ rest.size=(e-(len+k))*sz ∧ (Builtin.append_ #[sT,xT] ty #[s,x]).run P w =
   .ok (.slice (some ⟨w.heap.size,0,none⟩) (len+k) e) (w.drew.alloc (.cells (old++cells++rest) elem)):=by
 subst hs;obtain⟨d,hd⟩:=T.x;have hcap:Builtin.nextslicecap (len+k) cap*bytes ≤ 2^48:=by have h1:=Gp (need:=len+k) (cap:=cap) (by omega);have h2:=Vi bytes h1;rw[Nat.mul_assoc]at h2;omega
 have hq:(Question.appendCap (len+k) cap elem).forced=false:=rfl;refine⟨(Question.appendCap (len+k) cap elem).cut (w.tape w.drawn (.appendCap (len+k) cap elem)),
  Builtin.zeroCells zero.cells ((Question.appendCap (len+k) cap elem).cut (w.tape w.drawn (.appendCap (len+k) cap elem))-(len+k)),?_,?_,?_⟩
 ·simp only[Question.cut];omega
 ·simp[Builtin.zeroCells,T.aF]
 ·have I:¬bytes=0:=Nat.ne_of_gt T.aD;have u:¬(2^48<Builtin.nextslicecap (len+k) cap*bytes):=by omega
  have O:{w with drawn:=w.drawn+1}=w.drew:=rfl;have hn1:¬(((len+k:Nat):Int)>IntKind.i64.max ∧ (false=true ∨ bytes=0)):=by
   rintro⟨_,h | h⟩;·cases h
   ·exact I h
  have M:¬(Builtin.nextslicecap (len+k) cap*bytes>2^48):=u;simp only[Builtin.append_,Sem.run_bind,Sem.run_pure,Result.andThen_ok,run_underlying T.s,run_underlying hd,Go.sizeOf,run_typeInfo _ T.aA,T.sz,Vj,UY,
     Vr,UQ,Vd,E,Sem.run_ite,Uw hr,T.aC,M,false_or,I,and_false,run_choose,hq,O,run_askRoom,e1,e2,Vc,Vm,
     zeroValue,T.aE,newRow,run_newObj]
  rfl
def gM (h:eW)(sz:Nat)(es:List (List AV)):AV×eW:=(.aG h.length sz 0 es.length none,h++[some (.aA sz es true)])
/-- append: of elements -/
def ij (h:eW)(sz bytes:Nat)(x:AV)(ys:List (List AV)):Option (AV×eW):=
 match x with
 | .aD=>if ys.length*bytes ≤ 2^46 then some (gM h sz ys) else none
 | .aG n sz' off len cap=>
  match h[n]? with
  | some (some (.aA sz'' es g))=>
   if sz=sz' ∧ sz=sz'' ∧ off+len ≤ es.length ∧ (len+ys.length)*bytes ≤ 2^46 then
    match cap with
    | some (c+1)=>
     if c+1<len+ys.length then some (gM h sz ((es.drop off).take len++ys))
     else if off+len+ys.length ≤ es.length then some (.aG n sz off (len+ys.length) (some (c+1)),h.set n (some (.aA sz (gZ es (off+len) ys) g)))
     else none
    | some 0=>if len=0 then (if ys.length=0 then some (x,h) else some (gM h sz ys)) else none
    | none=>if off=0 then some (gM (h.set n none) sz (es.take len++ys)) else none
   else none
  | _=>none
 | .aM _ clip sz' es=>
  if sz=sz' ∧ (es.length+ys.length)*bytes ≤ 2^46 then
   if ys.length=0 then some (x,h) else if clip=true then some (gM h sz (es++ys)) else none
  else none
 | _=>none
/-- append -/
def oG (h:eW)(sz bytes:Nat)(x y:AV):Option (AV×eW):=
 match iK h sz y with
 | none=>none
 | some ys=>ij h sz bytes x ys
theorem jG.aF {G w sz es ys c1 c2}(h1:jG G w sz es c1)(h2:jG G w sz ys c2):jG G w sz (es++ys) (c1++c2):=by
 refine⟨λe he=>?_,by simp[h1.aA,h2.aA,V8],λi j c hc=>?_⟩
 ·rcases U4.1 he with h | h;·exact h1.ok e h
  ·exact h2.ok e h
 ·simp only[gn,Vu]at hc;split at hc;·rename_i hi;have u:gn es i j=some c:=hc;obtain⟨v,hv,hV⟩:=h1.aD i j c u;have:=qp hi (oQ h1.ok u).2;exact⟨v,by rw[Wm,Uv (by rw[h1.aA];exact this)];exact hv,hV⟩
  ·rename_i hi;have u:gn ys (i-es.length) j=some c:=hc;obtain⟨v,hv,hV⟩:=h2.aD _ j c u;have e:i*sz+j=es.length*sz+((i-es.length)*sz+j):=by rw[show i*sz=(es.length+(i-es.length))*sz by rw[Nat.add_sub_cancel' (by omega)],V8,V5]
   refine⟨v,?_,hV⟩;rw[Wm,Uw (by rw[h1.aA];omega),h1.aA,show i*sz+j-es.length*sz=(i-es.length)*sz+j by omega];exact hv
/-- the new row that a growing append makes -/
theorem BS {P:Program}{G w h}(g:fO G w h){sz es cells rest}(u:jG G w sz es cells)(E:TypeId){e:Nat}(U:es.length ≤ e)(M:rest.size=(e-es.length)*sz)
  {s:Sem Value} (O:s.run P w=.ok (.slice (some ⟨w.heap.size,0,none⟩) es.length e) (w.drew.alloc (.cells (cells++rest) E))):
  mR P s G w (gM h sz es).1 (gM h sz es).2:=by
 have gd:fO G w.drew h:=g.aT rfl;have st:gy G w G w.drew:=gy.aK G w _;have I:(cells++rest).size=e*sz:=by rw[Array.size_append,u.aA,M,← V8,Nat.add_sub_cancel' U]
 have k:=gd.aX (.cells (cells++rest) E);refine⟨_,_,G.aC (some w.heap.size),O,?_,?_,st.aI (gd.bB _ _)⟩;·refine gd.aZ u.ok (by rw[I];exact Vi _ U) (by simp) (λi j c hc=>?_);obtain⟨v,hv,hV⟩:=u.aD i j c hc;have:=oQ u.ok hc;have hlt:=qp this.1 this.2;exact⟨v,by rw[Wm,Uv (by rw[u.aA];exact hlt)];exact hv,hV.aA st.aA⟩
 ·have:=V.aD (G:=G.aC (some w.heap.size)) (w:=w.drew.alloc (.cells (cells++rest) E)) h.length sz 0 es.length none e E (e*sz) w.heap.size
   (by rw[g.aA];exact Nat.lt_succ_self _) (by rw[g.aA];simp[Gh.aC]) U (by simp) (by rw[← I];simp only[World.shape?];rw[show w.heap.size=w.drew.heap.size from rfl,uT]) (by simp)
  simpa [gM] using this
theorem jG.aE (G w sz):jG G w sz [] #[]:=⟨λe he=>by simp at he,by simp,λi j c hc=>by simp[gn]at hc⟩
/-- a name for a nil row -/
theorem Gq {G w h}(g:fO G w h)(sz:Nat)(gr:Bool)(cap:Option Nat)(hc:∀k,cap=some k → k=0):
  fO (G.aC none) w (h++[some (.aA sz [] gr)]) ∧ V (G.aC none) w (.aG h.length sz 0 0 cap) (.slice none 0 0) ∧ gy G w (G.aC none) w:=by
 have k:=g.a_ none;refine⟨g.aW k (Uy _) (λ_ _ _ _=>rfl) (by simp) (by simp) (λ_=>rfl),?_,⟨k,⟨λ_ h=>h,λ_ h=>.inl h⟩,λn hn=>by simp only[Gh.aC,Wg hn,Vd],λn hn=>by simp only[Gh.aC,Wg hn,Vd],Uy _,λ_ _ _=>rfl,λb hb=>?_,jU.aA w⟩⟩;·rw[g.aA];exact .aH _ _ _ (Nat.lt_succ_self _) (by simp[Gh.aC]) hc
 ·rcases hb with⟨n,hn,he⟩ | ⟨n,hn⟩
  ·by_cases h:n=G.N
   ·simp[Gh.aC,h]at he
   ·simp only[Gh.aC,h,Vd]at he;exact .inl (.inl ⟨n,hn.resolve_right (λx=>h x.1),he⟩)
  ·exact .inl (.inr ⟨n,hn⟩)
/-- a row gets another name -/
theorem Qs {G w h}(g:fO G w h){n sz es gr b} (hn:h[n]?=some (some (.aA sz es gr))) (hb:G.aA n=some b) (u:Bool) (E:u=false → gr=false):
  fO ((G.aH n).aC (some b)) w (h.set n none++[some (.aA sz es u)]) ∧ gy G w ((G.aH n).aC (some b)) w:=by
 have gk:=g.aR hn;have k:=gk.a_ (some b);have hl:=g.aN hn hb;have hH:=g.aC n sz es gr b hn hb;refine⟨gk.aW k (Uy _) (λ_ _ _ _=>rfl) ?_ ?_ (by simp),⟨(G.aO w n).aG k,⟨λ_ h=>h,λ_ h=>.inl h⟩,λm hm=>by simp only[Gh.aC,Gh.aH,Wg hm,Vd],λm hm=>by simp only[Gh.aC,Gh.aH,Wg hm,Vd],Uy _,λ_ _ _=>rfl,λx hx=>?_,jU.aA w⟩⟩;·rintro b' ⟨⟩;exact⟨λm hm he=>hm.2 (g.inj m n _ hm.1 hl he hb),λm ht=>g.aF n m _ hl hb ht,g.aG n _ hl hb⟩
 ·rintro b' ⟨⟩;have:=(hH.aA (G.aO w n) rfl).aA k rfl;exact⟨this.ex.elim λc hc=>hc.elim λt ht=>⟨c,t,ht.1,ht.2.1,λe=>ht.2.2.1 (E e),ht.2.2.2⟩,this.sz⟩
 ·rcases hx with⟨m,hm,he⟩ | ⟨m,hm⟩
  ·by_cases h:m=(G.aH n).N
   ·simp[Gh.aC,h]at he;subst he;exact .inl (.inl ⟨n,hl,hb⟩)
   ·simp only[Gh.aC,h,Vd]at he;exact .inl (.inl ⟨m,(hm.resolve_right (λx=>h x.1)).1,he⟩)
  ·exact .inl (.inr ⟨m,hm⟩)
theorem ib.aH {G w w'}(h:w'.heap=w.heap):ib G w G w':=
 ⟨Uy _,λ_ _ _ h=>h,λ_ _ h=>h,λ_ _ h=>h,λ_ _ _=>by rw[h],λ_ _=>by simp only[World.shape?,h]⟩
/-- the elements from the start of a row -/
theorem kS.aF {G w b sz es gr}(hh:kS G w b sz es gr)(u:List (List AV))(hp:u<+:es):kS G w b sz u true:=by
 obtain⟨⟨cells,ty,h1,h2,h3,h4⟩,hs⟩:=hh;obtain⟨t,rfl⟩:=hp;refine⟨⟨cells,ty,h1,?_,by simp,λi j c hc=>h4 i j c ?_⟩,λe he=>hs e (Wt _ he)⟩;·refine UH (Vi _ ?_) h2;simp
 ·unfold gn at hc ⊢;cases hq:u[i]? with
  | none=>rw[hq]at hc;cases hc
  | some e=>rw[UZ (Up.1 hq).1,hq];rw[hq]at hc;exact hc
theorem DU {P:Program}{G w h sz bytes x r h' vx}(g:fO G w h)(hx:V G w x vx){ys:List (List AV)}{cells cellsG:Array Value}(hrow:jG G w sz ys cells)(hrowG:jG G w sz ys cellsG)
  (hr:ij h sz bytes x ys=some (r,h')) (elem:TypeId) {S:Value → Sem Value}
  (room:∀{base:Option Addr}{len cap:Nat},len+ys.length ≤ cap → (S (.slice base len cap)).run P w =
   match base with
   | some a=>((storeCells (a.add (len*sz)) cells.toList).run P w).andThen λ_ w'=>.ok (.slice base (len+ys.length) cap) w'
   | none=>.ok (.slice base (len+ys.length) cap) w)
  (growr:∀{s:Value}{base:Option Addr}{len cap:Nat}{old:Array Value},s=.slice base len cap → (Builtin.firstCells sz len s).run P w.drew=.ok old w.drew →
   ¬len+ys.length ≤ cap → (len+ys.length)*bytes ≤ 2^46 →
   ∃newCap rest,len+ys.length ≤ newCap ∧ rest.size=(newCap-(len+ys.length))*sz ∧ (S s).run P w =
    .ok (.slice (some ⟨w.heap.size,0,none⟩) (len+ys.length) newCap) (w.drew.alloc (.cells (old++cellsG++rest) elem))):
  mR P (S vx) G w r h':=by
 unfold ij at hr;have kd:ib G w G w.drew:=ib.aH rfl;have gd:fO G w.drew h:=g.aT rfl;have grow:∀{base:Option Addr}{len cap:Nat} {es:List (List AV)} {old:Array Value},vx=.slice base len cap → es.length=len →
   (Builtin.firstCells sz len vx).run P w.drew=.ok old w.drew → jG G w sz es old → ¬len+ys.length ≤ cap → (len+ys.length)*bytes ≤ 2^46 →
   mR P (S vx) G w (gM h sz (es++ys)).1 (gM h sz (es++ys)).2:=by
  intro base len cap es old hv hl ho hro hno hb;obtain⟨nc,rest,h1,h2,h3⟩:=growr hv ho hno hb;have hlen':(es++ys).length=len+ys.length:=by simp[hl]
  refine BS g (hro.aF hrowG) elem (by rw[hlen'];exact h1) (by rw[hlen'];exact h2) ?_;rw[h3,hlen']
 split at hr
 · -- nil
  cases hx;split at hr
  ·rename_i hb;cases hr;by_cases h0:ys.length=0;·have hys0:ys=[]:=Uz h0;subst hys0;obtain⟨a,b,c⟩:=Gq g sz true none (by simp);refine⟨.slice none 0 0,w,G.aC none,?_,a,b,c⟩;rw[room (by simp)];rfl
   ·have:=grow (base:=none) (len:=0) (cap:=0) (es:=[]) (old:=#[]) rfl rfl rfl (jG.aE _ _ _) (by omega) (by simpa using hb);simpa [gM] using this
  ·cases hr
 ·rename_i n sz' off len cap;split at hr
  ·rename_i sz'' es gr hn;split at hr
   ·rename_i hh;obtain⟨rfl,rfl,hle,hb⟩:=hh;cases hx with
    | aH _ _ _ hnN hnl hcap=>
     have hes0:=g.aI n _ _ _ hn (g.aK n hnl);subst hes0;split at hr;·rename_i c;exact absurd (hcap _ rfl) (by omega)
     ·rw[Uv rfl]at hr;split at hr;·rename_i h0;cases hr;have hys0:ys=[]:=Uz h0;subst hys0;exact mR.aA g (by rw[room (by simp)];rfl) (.aH _ _ _ hnN hnl hcap)
      ·rename_i h0;cases hr;have:=grow (base:=none) (len:=0) (cap:=0) (es:=[]) (old:=#[]) rfl rfl rfl (jG.aE _ _ _) (by omega) (by simpa using hb);simpa [gM] using this
     ·rw[Uv rfl]at hr;cases hr;have gk:=g.aR hn;have stk:=G.aQ w n;by_cases h0:ys.length=0;·have hys0:ys=[]:=Uz h0;subst hys0;obtain⟨a,b,c⟩:=Gq gk sz true none (by simp);refine⟨.slice none 0 0,w,_,?_,a,b,stk.aI c⟩;rw[room (by simp)];rfl
      ·obtain⟨nc,rest,h1,h2,h3⟩:=growr (s:=.slice none 0 0) (old:=#[]) rfl rfl (by omega) (by simpa using hb);simp only[Wp]at h1 h2 h3;obtain⟨v,w',G',a,b,c,d⟩:=BS (P:=P) gk (hrowG.aC stk.aA) elem h1 h2 (by rw[h3];simp);exact⟨v,w',G',a,by simpa [gM] using b,by simpa [gM] using c,stk.aI d⟩
    | aD _ _ _ _ _ c tyb m b hnN hnb hl hcap hsh hm=>
     obtain⟨cur,tyc,hcur,hcl,hcg,_⟩:=(g.aC n sz es gr b hn hnb).ex;have hmcur:m=cur.size:=by simp[World.shape?,hcur]at hsh;exact hsh.2.symm
     have hmid:((es.drop off).take len).length=len:=by simp;omega
     have hlive:=g.aN hn hnb;have place:len+ys.length ≤ c → off+len ≤ es.length →
       ∃w',(S (.slice (some ⟨b,off*sz,none⟩) len c)).run P w=.ok (.slice (some ⟨b,off*sz,none⟩) (len+ys.length) c) w' ∧ gy G w G w' ∧
        (∀b',b'≠b → w'.heap[b']?=w.heap[b']?) ∧ (∀r,w'.shape? r=w.shape? r) ∧
        ∀gr',(gr'=false → cur.size=(gZ es (off+len) ys).length*sz) → kS G w' b sz (gZ es (off+len) ys) gr':=by
      intro hroom hp;have hfit:(off+len+ys.length)*sz ≤ cur.size:=by refine UH (Vi sz ?_) (hmcur▸hm);omega
      obtain⟨w',hst,stp,hoth,hshp,hH⟩:=HZ (P:=P) g hn hnb hcur hrow hp hfit;refine⟨w',?_,stp,hoth,hshp,hH⟩;rw[room hroom];simp only[pw,← V8,hst,Result.andThen_ok]
     have growing:¬len+ys.length ≤ c → mR P (S (.slice (some ⟨b,off*sz,none⟩) len c)) G w (gM h sz ((es.drop off).take len++ys)).1 (gM h sz ((es.drop off).take len++ys)).2:=by intro hno;obtain⟨old,hrun,hro⟩:=(((g.aC n sz es gr b hn hnb).aA kd rfl).aC off len).aA (P:=P);rw[hmid]at hrun;exact grow (base:=some ⟨b,off*sz,none⟩) (len:=len) (cap:=c) rfl hmid hrun (hro.aC (ib.aH (G:=G) (w:=w.drew) (w':=w) rfl)) hno hb
     split at hr
     ·rename_i c';have hc:=hcap _ rfl;subst hc;split at hr;·rename_i hgrow;cases hr;exact growing (by omega)
      ·split at hr
       ·rename_i hng hin;cases hr;obtain⟨w',hrun,stp,hoth,hshp,hH⟩:=place (by omega) (by omega);have hspl:(gZ es (off+len) ys).length=es.length:=by simp[gZ];omega
        refine⟨_,w',G,hrun,?_,?_,stp⟩;·exact g.aV hn hnb stp.aA stp.aC (λm b' hm hb' hne=>hoth b' (by rintro rfl;exact hne (g.inj m n _ hm hlive hb' hnb))) (hH gr (λe=>by rw[hspl];exact hcg e))
        ·exact .aD _ _ _ _ _ _ tyb m b hnN hnb (by omega) (by simp) (by rw[hshp];exact hsh) hm
       ·cases hr
     ·have hc:=hcap _ rfl;subst hc;split at hr
      ·rename_i hl0;subst hl0;split at hr
       ·rename_i h0;cases hr;have hcells:cells=#[]:=by have:=hrow.aA;rw[h0,Nat.zero_mul]at this;exact VR this
        subst hcells;refine mR.aA g ?_ (.aD _ _ _ _ _ _ tyb m b hnN hnb hl hcap hsh hm);rw[room (by omega)];simp[h0,storeCells]
       ·rename_i h0;cases hr;have:=growing (by omega);simpa [gM] using this
      ·cases hr
     ·split at hr
      ·rename_i hwhole;subst hwhole;cases hr;have hlel:len ≤ es.length:=by omega
       have htl:(es.take len).length=len:=by simp;omega
       by_cases hroom:len+ys.length ≤ c
       ·obtain⟨w',hrun,stp,hoth,hshp,hH⟩:=place hroom (by omega);have hH':=(hH true (by simp)).aF (es.take len++ys) (by simp[gZ]);have gu:=g.aV hn hnb stp.aA stp.aC (λm b' hm hb' hne=>hoth b' (by rintro rfl;exact hne (g.inj m n _ hm hlive hb' hnb))) hH';have hlt:n<h.length:=(Up.1 hn).1;obtain⟨a,st2⟩:=Qs gu (Ux hlt) hnb true (by simp);rw[Vs]at a;refine⟨_,w',_,hrun,a,?_,stp.aI st2⟩;have:=V.aD (G:=(G.aH n).aC (some b)) (w:=w') (h.set n none).length sz 0 (es.take len++ys).length none c tyb m b
         (by simp[g.aA,Gh.aC,Gh.aH]) (by simp[g.aA,Gh.aC,Gh.aH]) (by rw[Ut,htl];exact hroom) (by simp) (by rw[hshp];exact hsh) (by simpa using hm)
        simpa [gM,Vk hlel] using this
       ·have gk:=g.aR hn;have stk:=G.aQ w n;obtain⟨old,hrun,hro⟩:=(((g.aC n sz es gr b hn hnb).aA kd rfl).aC 0 len).aA (P:=P);have hmid':(es.drop 0).take len=es.take len:=by simp
        rw[hmid',htl]at hrun;rw[hmid']at hro;obtain⟨nc,rest,h1,h2,h3⟩:=growr (s:=.slice (some ⟨b,0*sz,none⟩) len c) (old:=old) rfl hrun hroom hb;have hlen':(es.take len++ys).length=len+ys.length:=by rw[Ut,htl]
        have hro':jG G w sz (es.take len) old:=hro.aC (ib.aH (G:=G) (w:=w.drew) (w':=w) rfl);obtain⟨v,w',G',a,b',c',d⟩:=BS (P:=P) gk ((hro'.aF hrowG).aC stk.aA) elem (by rw[hlen'];exact h1) (by rw[hlen'];exact h2) (by rw[h3,hlen']);exact⟨v,w',G',a,b',c',stk.aI d⟩
      ·cases hr
   ·cases hr
  ·cases hr
 ·rename_i t clip sz' es;split at hr
  ·rename_i hh;obtain⟨rfl,hb⟩:=hh;split at hr
   ·rename_i h0;cases hr;refine mR.aA g ?_ hx;cases hx with
    | aG=>rw[room (by omega)];simp[h0]
    | aE _ _ _ _ a cap f hl hcl hsp hp hes hc hV=>
     rw[room (by omega)];have:cells=#[]:=by have:=hrow.aA;rw[h0,Nat.zero_mul]at this;exact VR this
     subst this;simp[h0,storeCells]
   ·rename_i h0;split at hr
    ·rename_i hclip;cases hr;cases hx with
     | aG=>have:=grow (base:=none) (len:=0) (cap:=0) (es:=[]) (old:=#[]) rfl rfl rfl (jG.aE _ _ _) (by omega) (by simpa using hb);simpa [gM] using this
     | aE _ _ _ _ a cap f hl hcl hsp hp hes hc hV=>
      have hcap:=hcl hclip;obtain⟨old,hrun,hro⟩:=uA.aA (P:=P) (G:=G) (w:=w.drew) (b:=a.block) (o:=a.off) (sz:=sz) (es:=es) ⟨hes,f,hc,λi j c hc=>(hV i j c hc).aA kd⟩;have hfc:(Builtin.firstCells sz es.length (.slice (some a) es.length cap)).run P w.drew=.ok old w.drew:=by
       by_cases hcz:cap=0
       ·have hl0:es.length=0:=by omega
        have:old=#[]:=by have:=hro.aA;rw[hl0,Nat.zero_mul]at this;exact VR this
        subst this;rw[hl0];simp[Builtin.firstCells,loadCells,loadCellsFrom]
       ·have ha:a=⟨a.block,a.off,none⟩:=by have:=hsp hcz;cases a;simp at this;simp[this]
        rw[ha];exact hrun
      refine grow (base:=some a) (len:=es.length) (cap:=cap) (es:=es) (old:=old) rfl rfl ?_ (hro.aC (ib.aH (G:=G) (w:=w.drew) (w':=w) rfl)) (by omega) hb;exact hfc
    ·cases hr
  ·cases hr
 ·cases hr
theorem I2 {P:Program}{G w h sz bytes x y r h' vx vy}(g:fO G w h)(hx:V G w x vx)(hy:V G w y vy)(hr:oG h sz bytes x y=some (r,h'))
  {sT xT elem info zero} (T:vJ P sT xT elem sz bytes info zero) (ty:TypeId):
  mR P (Builtin.append_ #[sT,xT] ty #[vx,vy]) G w r h':=by
 unfold oG at hr;cases M:iK h sz y with
 | none=>simp[M]at hr
 | some ys=>
 simp only[M]at hr;have kd:ib G w G w.drew:=ib.aH rfl;have gd:fO G w.drew h:=g.aT rfl;obtain⟨I,hok,cells,hf,O⟩:=D6 (P:=P) g hy M;obtain⟨_,_,u,W,e⟩:=D6 (P:=P) gd (hy.aA kd) M;have E:jG G w sz ys u:=e.aC (ib.aH (G:=G) (w:=w.drew) (w':=w) rfl);exact DU g hx O E hr elem (S:=λs=>Builtin.append_ #[sT,xT] ty #[s,vy]) (λhl=>Ru T ty w I hf hl)
  (λhv ho U hb=>Rt T ty w hv I ho W U hb)
/-! zeros: 'append(s,make([]T,n)...)' and 'clear' -/
theorem xU {c:Int}(h0:0 ≤ c)(h1:c ≤ 2^46):IntKind.i64.wrap c=c:=by
 have e:(2:Int)^64=18446744073709551616:=by decide
 have e':(2:Int)^63=9223372036854775808:=by decide
 have e2:(2:Int)^46=70368744177664:=by decide
 rw[e2]at h1;simp only[IntKind.wrap,IntKind.bits,IntKind.signed,WO,e,Vb];rw[show (64-1:Nat)=63 from rfl,e'];rw[Int.emod_eq_of_lt h0 (by omega),Uw (by omega)]
theorem Ib {G w}{z:Array Value}{sz:Nat}(hz:z.size=sz)(M:(z.toList.map jn).all AV.aH=true)(n:Nat):
  jG G w sz (List.replicate n (z.toList.map jn)) (Builtin.zeroCells z n):=by
 have u:jv sz (List.replicate n (z.toList.map jn)):=by intro e he;rw[List.mem_replicate]at he;rw[he.2];exact⟨by simp[hz],M⟩
 refine⟨u,by simp[Builtin.zeroCells,hz],λi j c hc=>?_⟩;obtain⟨hi,hj⟩:=oQ u hc;rw[VN]at hi;have hlt:=qp (n:=n) hi hj;have E:j<z.size:=by omega
 simp only[gn,VY,hi,Vm,VE,U_]at hc;have I:z.toList[j]?=some z[j]:=by simp[E]
 rw[I]at hc;simp only[VP,UB]at hc;subst hc;refine⟨z[j],?_,V.aT G w _⟩;simp only[Builtin.zeroCells,Array.getElem?_map,hz];rw[Array.getElem?_range,Uv hlt];simp only[VP,Nat.mul_add_mod',Nat.mod_eq_of_lt hj];rw[getElem!_pos z j E]
structure vK (P:Program)(sT xT elem:TypeId)(cs bs:Nat)(inf:TypeInfo)(zv:Value):Prop where
 s:P.underlying sT=some (.slice elem)
 x:∃k,P.underlying xT=some (.int k)
 aC:P.info? elem=some inf
 sz:inf.size=cs
 aA:inf.bytes=bs
 aE:inf.zero=some zv
 aD:0<bs
 aF:zv.cells.size=cs
theorem Rs {P:Program}{sT xT elem sz bytes info zero}(T:vK P sT xT elem sz bytes info zero)(ty:TypeId)(w:World)
  {base:Option Addr} {len cap:Nat} {k:IntKind} {n:Int} (h0:0 ≤ n) (hb:n*bytes ≤ 2^46) (hr:len+n.toNat ≤ cap):
  (Builtin.append_ #[sT,xT] ty #[.slice base len cap,.int k n]).run P w =
   match base with
   | some a=>((storeCells (a.add (len*sz)) (Builtin.zeroCells zero.cells n.toNat).toList).run P w).andThen λ_ w'=>.ok (.slice base (len+n.toNat) cap) w'
   | none=>.ok (.slice base (len+n.toNat) cap) w:=by
 obtain⟨d,hd⟩:=T.x;have E:n ≤ 2^46:=by have h1:n*1 ≤ n*bytes:=Int.mul_le_mul_of_nonneg_left (by have:=T.aD;omega) h0;omega
 have hw:=xU h0 E;have e2:(2:Int)^46=70368744177664:=by decide
 have e3:(2:Int)^48=281474976710656:=by decide
 have e:¬(n*(bytes:Int)>2^48):=by omega
 have u:¬n<0:=by omega
 have hz:n.toNat*sz=0 → Builtin.zeroCells zero.cells n.toNat=#[]:=by intro h;simp[Builtin.zeroCells,T.aF,h]
 cases base with
 | none=>
  simp only[Builtin.append_,Sem.run_bind,Sem.run_pure,Result.andThen_ok,run_underlying T.s,run_underlying hd,Go.sizeOf,run_typeInfo w T.aC,T.sz,T.aA,Vj,UY,
     Vr,Vm,asInt,asIntOf,hw,u,e,Vd,Sem.run_ite,Uv hr,U2,UQ,zeroValue,T.aE]
  split<;>simp
 | some a=>
  by_cases h:n.toNat*sz=0
  ·simp only[Builtin.append_,Sem.run_bind,Sem.run_pure,Result.andThen_ok,run_underlying T.s,run_underlying hd,Go.sizeOf,run_typeInfo w T.aC,T.sz,T.aA,Vj,UY,
     Vr,Vm,asInt,asIntOf,hw,u,e,Vd,Sem.run_ite,Uv hr,U2,UQ,zeroValue,h,hz h]
  ·simp only[Builtin.append_,Sem.run_bind,Sem.run_pure,Result.andThen_ok,run_underlying T.s,run_underlying hd,Go.sizeOf,run_typeInfo w T.aC,T.sz,T.aA,Vj,UY,
     Vr,Vm,asInt,asIntOf,hw,u,e,Vd,Sem.run_ite,Uv hr,U2,UQ,zeroValue,T.aE,Uw h]
theorem Rr {P:Program}{sT xT elem sz bytes info zero}(T:vK P sT xT elem sz bytes info zero)(ty:TypeId)(w:World)
  {s:Value} {base:Option Addr} {len cap:Nat} {old:Array Value} {k:IntKind} {n:Int} (h0:0 ≤ n) (hs:s=.slice base len cap)
  (e1:(Builtin.firstCells sz len s).run P w.drew=.ok old w.drew)
  (hr:¬len+n.toNat ≤ cap) (hb:(len+n.toNat)*bytes ≤ 2^46):
  ∃e rest,len+n.toNat ≤ e ∧ rest.size=(e-(len+n.toNat))*sz ∧ (Builtin.append_ #[sT,xT] ty #[s,.int k n]).run P w =
   .ok (.slice (some ⟨w.heap.size,0,none⟩) (len+n.toNat) e) (w.drew.alloc (.cells (old++Builtin.zeroCells zero.cells n.toNat++rest) elem)):=by
 subst hs;obtain⟨d,hd⟩:=T.x;have hcap:Builtin.nextslicecap (len+n.toNat) cap*bytes ≤ 2^48:=by have h1:=Gp (need:=len+n.toNat) (cap:=cap) (by omega);have h2:=Vi bytes h1;rw[Nat.mul_assoc]at h2;omega
 have hq:(Question.appendCap (len+n.toNat) cap elem).forced=false:=rfl;have Z:n.toNat*bytes ≤ 2^46:=UH (Vi _ (Nat.le_add_left _ _)) hb;have hnbz:n*(bytes:Int) ≤ 2^46:=by
  have:((n.toNat*bytes:Nat):Int)=n*(bytes:Int):=by rw[Int.natCast_mul,Int.toNat_of_nonneg h0]
  rw[← this];have e2:(2:Int)^46=((2^46:Nat):Int):=by decide
  rw[e2];exact Int.ofNat_le.2 Z
 have M:n ≤ 2^46:=by have h1:n*1 ≤ n*bytes:=Int.mul_le_mul_of_nonneg_left (by have:=T.aD;omega) h0;omega
 have hlen46:len+n.toNat ≤ 2^46:=by have h1:(len+n.toNat)*1 ≤ (len+n.toNat)*bytes:=Nat.mul_le_mul_left _ T.aD;omega
 have hw:=xU h0 M;have e2:(2:Int)^46=70368744177664:=by decide
 have e3:(2:Int)^48=281474976710656:=by decide
 have I:¬(n*(bytes:Int)>2^48):=by omega
 have O:¬n<0:=by omega
 have hz:n.toNat*sz=0 → Builtin.zeroCells zero.cells n.toNat=#[]:=by intro h;simp[Builtin.zeroCells,T.aF,h]
 refine⟨(Question.appendCap (len+n.toNat) cap elem).cut (w.tape w.drawn (.appendCap (len+n.toNat) cap elem)),
  Builtin.zeroCells zero.cells ((Question.appendCap (len+n.toNat) cap elem).cut (w.tape w.drawn (.appendCap (len+n.toNat) cap elem))-(len+n.toNat)),?_,?_,?_⟩
 ·simp only[Question.cut];omega
 ·simp[Builtin.zeroCells,T.aF]
 ·have hb0:¬bytes=0:=Nat.ne_of_gt T.aD;have E:¬(2^48<Builtin.nextslicecap (len+n.toNat) cap*bytes):=by omega
  have W:{w with drawn:=w.drawn+1}=w.drew:=rfl;have u:¬(((len+n.toNat:Nat):Int)>IntKind.i64.max):=by
   have:IntKind.i64.max=9223372036854775807:=by decide
   rw[this];omega
  have U:¬(Builtin.nextslicecap (len+n.toNat) cap*bytes>2^48):=E;by_cases h:n.toNat*sz=0
  ·simp only[Builtin.append_,Sem.run_bind,Sem.run_pure,Result.andThen_ok,run_underlying T.s,run_underlying hd,Go.sizeOf,run_typeInfo _ T.aC,T.sz,Vj,UY,
     Vr,UQ,Vd,Sem.run_ite,Uw hr,T.aA,U,u,false_and,run_choose,hq,W,run_askRoom,e1,U2,Vm,
     zeroValue,T.aE,newRow,run_newObj,asInt,asIntOf,hw,O,I,h,hz h]
   rfl
  ·simp only[Builtin.append_,Sem.run_bind,Sem.run_pure,Result.andThen_ok,run_underlying T.s,run_underlying hd,Go.sizeOf,run_typeInfo _ T.aC,T.sz,Vj,UY,
     Vr,UQ,Vd,Sem.run_ite,Uw hr,T.aA,U,u,false_and,run_choose,hq,W,run_askRoom,e1,U2,Vm,
     zeroValue,T.aE,newRow,run_newObj,asInt,asIntOf,hw,O,I,Uw h]
   rfl
def sN (h:eW)(sz bytes:Nat)(zero:List AV)(x y:AV):Option (AV×eW):=
 match y with
 | .aA _ n=>if 0 ≤ n ∧ n*bytes ≤ 2^46 then ij h sz bytes x (List.replicate n.toNat zero) else none
 | _=>none
theorem IZ {P:Program}{G w h sz bytes x y r h' vx vy}(g:fO G w h)(hx:V G w x vx)(hy:V G w y vy)
  {sT xT elem info zero} (T:vK P sT xT elem sz bytes info zero) (hsc:(zero.cells.toList.map jn).all AV.aH=true)
  (hr:sN h sz bytes (zero.cells.toList.map jn) x y=some (r,h')) (ty:TypeId):
  mR P (Builtin.append_ #[sT,xT] ty #[vx,vy]) G w r h':=by
 unfold sN at hr;split at hr
 ·rename_i k n;cases hy;split at hr
  ·rename_i hh;have hrow:jG G w sz (List.replicate n.toNat (zero.cells.toList.map jn)) (Builtin.zeroCells zero.cells n.toNat):=Ib T.aF hsc _;refine DU g hx hrow hrow hr elem (S:=λs=>Builtin.append_ #[sT,xT] ty #[s,.int k n]) ?_ ?_;·intro base len cap hl;rw[VN]at hl ⊢;exact Rs T ty w hh.1 hh.2 hl
   ·intro s base len cap old hv ho hno hb;rw[VN]at hno hb ⊢;exact Rr T ty w hh.1 hv ho hno hb
  ·cases hr
 ·cases hr
/-- 'clear' of a slice -/
def sO (h:eW)(sz:Nat)(zero:List AV)(x:AV):Option eW:=
 match x with
 | .aD=>some h
 | .aG n sz' off len _=>
  if len=0 then some h else
  match h[n]? with
  | some (some (.aA sz'' es g))=>if sz=sz' ∧ sz=sz'' ∧ off+len ≤ es.length then some (h.set n (some (.aA sz (gZ es off (List.replicate len zero)) g))) else none
  | _=>none
 | _=>none
theorem I7 {P:Program}{G w h sz x h' vx}(g:fO G w h)(hx:V G w x vx){t elem info zero}(hu:P.underlying t=some (.slice elem))(hi:P.info? elem=some info)
  (E:info.zero=some zero) (hz:zero.cells.size=sz) (a3:(zero.cells.toList.map jn).all AV.aH=true)
  (hr:sO h sz (zero.cells.toList.map jn) x=some h') (ty:TypeId):
  ∃w',(Builtin.clear_ #[t] ty #[vx]).run P w=.ok (.tuple #[]) w' ∧ fO G w' h' ∧ gy G w G w':=by
 unfold sO at hr;split at hr;·cases hr;cases hx;exact⟨w,by simp only[Builtin.clear_,Vj,UY,Sem.run_bind,run_underlying hu,Result.andThen_ok,Sem.run_pure],g,gy.aD G w⟩
 ·rename_i n sz' off len cap;split at hr
  ·rename_i hl;subst hl;cases hr;cases hx with
   | aD _ _ _ _ _ c tyb m b hnN u hl hcap W hm=>exact⟨w,by simp only[Builtin.clear_,Vj,UY,Sem.run_bind,run_underlying hu,Result.andThen_ok,Sem.run_pure],g,gy.aD G w⟩
   | aH _ _ _ hnN hnl hcap=>exact⟨w,by simp only[Builtin.clear_,Vj,UY,Sem.run_bind,run_underlying hu,Result.andThen_ok,Sem.run_pure],g,gy.aD G w⟩
  ·rename_i hl;split at hr
   ·rename_i sz'' es gr hn;split at hr
    ·rename_i hh;obtain⟨rfl,rfl,hle⟩:=hh;cases hr;cases hx with
     | aH=>exact absurd rfl hl
     | aD _ _ _ _ _ c tyb m b hnN u hlc hcap W hm=>
      obtain⟨a7,tyc,O,hcl,a5,_⟩:=(g.aC n sz es gr b hn u).ex;have I:m=a7.size:=by simp[World.shape?,O]at W;exact W.2.symm
      have Z:jG G w sz (List.replicate len (zero.cells.toList.map jn)) (Builtin.zeroCells zero.cells len):=Ib hz a3 _;have M:=g.aN hn u;obtain⟨w',a2,stp,a1,hshp,hH⟩:=HZ (P:=P) g hn u O Z (p:=off) (by omega) (by rw[VN];exact UH (Vi sz (by omega)) (I▸hm));have U:(gZ es off (List.replicate len (zero.cells.toList.map jn))).length=es.length:=by simp[gZ];omega
      refine⟨w',?_,?_,stp⟩;·obtain⟨l',rfl⟩:∃l',len=l'+1:=⟨len-1,by omega⟩;simp only[Builtin.clear_,Vj,UY,Sem.run_bind,run_underlying hu,Result.andThen_ok,Sem.run_pure,zeroValue,run_typeInfo w hi,E,a2]
      ·exact g.aV hn u stp.aA stp.aC (λm b' hm a6 a4=>a1 b' (by rintro rfl;exact a4 (g.inj m n _ hm M a6 u))) (hH gr (λe=>by rw[U];exact a5 e))
    ·cases hr
   ·cases hr
 ·cases hr
end Glb
/-
 A library of its own,for whatever program: what an operation is made into,and that it does what it says.
-/
namespace Glb
open Go
inductive fB where
 | aC (s:Nat)
 | aD (s:Nat)
 | aA (v:AV)
/-- operations that only read,the rarer -/
inductive sM where
 | aD (neg:Bool) (x:fB)
 | aF (neg:Bool) (plan:List (Nat×Bool)) (x y:fB)
 | aE (o n:Nat) (agg:Bool) (x:fB)
 | aH (x i:fB)
 | aG (x:fB)
 | aC (f:FuncId) (fs cs:List fB)
 | aA
/-- operations that make and change nothing -/
inductive nR where
 | aF (x:fB)
 | aR (c a b:fB)
 | aJ (zero:List AV) (ps:List (Nat×Nat×fB))
 | aA (agg:Bool) (n:Nat) (x:fB)
 | aK (x:fB)
 | aI (op:BinOp) (x y:fB)
 | aH (op:BinOp) (x y:fB)
 | aG (neg:Bool) (x:fB)
 | aP (x:fB)
 | aO (x:fB)
 | aL (k:IntKind) (x:fB)
 | aS (sz:Nat) (x:fB) (lo hi mx:Option fB)
 | aQ (o:Nat) (x:fB)
 | aD (sz:Nat) (x i:fB)
 | aM (x:fB) (i:Nat)
 | aN (x:fB)
 | aT (x:fB)
 | aE (isMax:Bool) (xs:List fB)
 | aC (f:FuncId) (cs:List fB)
 | x (o:sM)
/-- operations that make or change memory -/
inductive nN where
 | mk (cs:List AV)
 | aD (x:fB)
 | aA (sz:Nat) (xs:List fB)
 | aF (sz bytes:Nat) (zero:List AV) (l c:fB)
 | aE (n:Nat) (a x:fB)
 | aC (sz bytes:Nat) (x y:fB)
 | aG (sz bytes:Nat) (zero:List AV) (x y:fB)
 | aH (sz:Nat) (zero:List AV) (x:fB)
inductive iV where
 | r (o:nR)
 | h (o:nN)
 | aC (f:FuncId) (args:List fB)
 | aD (x:fB) (args:List fB)
/-! what they come to -/
def lV (g:fB → AV):Option fB → Option (Option Int)
 | none=>some none
 | some x=>match g x with
  | .aA _ n=>some (some n)
  | _=>none
def ik:AV → Option AV
 | .aD=>some (.aA .i64 0)
 | .aG _ _ _ len _=>some (.aA .i64 len)
 | .aM _ _ _ es=>some (.aA .i64 es.length)
 | _=>none
def mU (isMax:Bool):List AV → Option AV
 | .aA k n :: r=>aA k n r
 | _=>none
where
 aA (k:IntKind) (n:Int):List AV → Option AV
  | []=>some (.aA k n)
  | .aA _ m :: r=>aA k (if isMax then (if m>n then m else n) else (if m<n then m else n)) r
  | _=>none
/-- is it the kind of value that a slice is? -/
def qI:AV → Bool
 | .aD | .aG .. | .aM ..=>true
 | _=>false
/-- is a pointer nil -/
def vp:AV → Option Bool
 | .aN (.pointer none)=>some true
 | .aC _ _ _ _=>some false
 | .aO _ _=>some false
 | _=>none
/-- are two structs of numbers and truths alike: which cells,and whether each is a number -/
def p9:List (Nat×Bool) → List AV → List AV → Option Bool
 | [],_,_=>some true
 | (o,true) :: r,xs,ys=>match xs[o]?,ys[o]? with
  | some (.aA k a),some (.aA k' b)=>if k=k' then (if a=b then p9 r xs ys else some false) else none
  | _,_=>none
 | (o,false) :: r,xs,ys=>match xs[o]?,ys[o]? with
  | some (.aE a),some (.aE b)=>if a=b then p9 r xs ys else some false
  | _,_=>none
def l_ (g:fB → AV):sM → Option AV
 | .aD neg x=>(vp (g x)).map λb=>.aE (b != neg)
 | .aF neg plan x y=>match g x,g y with
  | .aF xs,.aF ys=>(p9 plan xs ys).map λb=>.aE (b != neg)
  | _,_=>none
 | .aE o n agg x=>match g x with
  | .aF cs=>if agg then (if o+n ≤ cs.length then some (.aF ((cs.drop o).take n)) else none) else cs[o]?
  | _=>none
 | .aH x i=>match g x,g i with
  | .aQ s,.aA _ i=>if 0 ≤ i then s[i.toNat]?.map λb=>.aA .u8 b.toNat else none
  | _,_=>none
 | .aC f fs cs=>some (.aL f (fs.map g) (cs.map g))
 | .aG x=>match g x with
  | .aD=>some (.aA .i64 0)
  | .aG _ _ _ _ (some c)=>some (.aA .i64 c)
  | .aM _ true _ es=>some (.aA .i64 es.length)
  | _=>none
 | .aA=>none
def gx (g:fB → AV)(h:eW):nR → Option AV
 | .aF x=>some (g x)
 | .aR c a b=>match g c with
  | .aE t=>some (if t then g a else g b)
  | _=>none
 | .aJ zero ps=>(oI zero (ps.map λp=>(p.1,p.2.1,g p.2.2))).map .aF
 | .aA agg n x=>ir h agg n (g x)
 | .aK x=>match g x with
  | .aC n sz i o=>some (.aC n sz i o)
  | .aO t cs=>some (.aO t cs)
  | .aT t v=>some (.aT t v)
  | .aL f fs cs=>some (.aL f fs cs)
  | _=>none
 | .aI op x y=>jx op (g x) (g y)
 | .aH op x y=>match g x,g y with
  | .aE a,.aE b=>wG op a b
  | _,_=>none
 | .aG neg x=>if qI (g x) then (kE (g x)).map λb=>.aE (b != neg) else none
 | .aP x=>match g x with
  | .aE b=>some (.aE !b)
  | _=>none
 | .aO x=>match g x with
  | .aA k n=>some (.aA k (k.wrap (0-n)))
  | _=>none
 | .aL k x=>match g x with
  | .aA _ n=>some (.aA k (k.wrap n))
  | _=>none
 | .aS sz x lo hi mx=>match lV g lo,lV g hi,lV g mx with
  | some lo,some hi,some mx=>iB sz (g x) lo hi mx
  | _,_,_=>none
 | .aQ o x=>sP o (g x)
 | .aD sz x i=>jg sz (g x) (g i)
 | .aM x i=>match g x with
  | .aI cs=>cs[i]?
  | _=>none
 | .aN x=>ik (g x)
 | .aT x=>match g x with
  | .aQ s=>some (.aA .i64 s.size)
  | _=>none
 | .aE m xs=>mU m (xs.map g)
 | .aC f cs=>some (.aL f [] (cs.map g))
 | .x o=>l_ g o
/-- the cells of each of some values,each of one size -/
def mE (sz:Nat):List AV → Option (List (List AV))
 | []=>some []
 | x :: r=>match x.aK,mE sz r with
  | some cs,some es=>if cs.length=sz ∧ cs.all AV.aH=true then some (cs :: es) else none
  | _,_=>none
/-- what makes one block: the value,by the block's name,and the block -/
def jy (g:fB → AV)(nm:Nat):nN → Option (AV×e_)
 | .mk cs=>some (.aC nm cs.length 0 0,.aA cs.length [cs] false)
 | .aD x=>match (g x).aK with
  | some cs=>if cs.all AV.aH then some (.aC nm cs.length 0 0,.aA cs.length [cs] false) else none
  | none=>none
 | .aA sz xs=>
  match mE sz (xs.map g) with
  | some es=>some (.aG nm sz 0 xs.length (some xs.length),.aA sz es false)
  | none=>none
 | .aF sz bytes zero l c=>match g l,g c with
  | .aA _ l,.aA _ c=>if 0 ≤ l ∧ l ≤ c ∧ c*bytes ≤ 2^46 then some (.aG nm sz 0 l.toNat (some c.toNat),.aA sz (List.replicate c.toNat zero) false) else none
  | _,_=>none
 | _=>none
def jX (g:fB → AV)(h:eW):nN → Option (AV×eW)
 | .aE n a x=>(pD h n (g a) (g x)).map λh'=>(.aR,h')
 | .aC sz bytes x y=>oG h sz bytes (g x) (g y)
 | .aG sz bytes zero x y=>sN h sz bytes zero (g x) (g y)
 | .aH sz zero x=>(sO h sz zero (g x)).map λh'=>(.aI [],h')
 | ho=>match jy g h.length ho with
  | some (v,b)=>some (v,h++[some b])
  | none=>none
/-! made out of the model's operations -/
def cd (keep:Nat → Bool):Operand → fB
 | .tmp s=>if keep s then .aC s else .aD s
 | .const v=>.aA (xA v)
 | .global g=>.aA (.aN (.pointer (some ⟨g,0,none⟩)))
 | .func f=>.aA (.aL f [] [])
/-- size,bytes and zero of a type -/
def nL (P:Program)(t:TypeId):Option (Nat×Nat×Value):=
 match P.info? t with
 | some i=>i.zero.map λz=>(i.size,i.bytes,z)
 | none=>none
def uV (P:Program)(t:TypeId):Option Bool:=
 match P.underlying t with
 | some (.struct _) | some (.array _ _)=>some true
 | some _=>some false
 | none=>none
def oO (P:Program)(t:TypeId):Option TypeId:=
 match P.underlying t with
 | some (.slice e)=>some e
 | _=>none
/-- which parts of a struct are laid where -/
def vm (P:Program)(fs:Array Field)(tr:Operand → fB):List (Nat×Operand) → Option (List (Nat×Nat×fB))
 | []=>some []
 | (i,x) :: r=>match fs[i]?,vm P fs tr r with
  | some f,some l=>some ((f.offset,P.cellsOf f.type,tr x) :: l)
  | _,_=>none
def tx:Nat → List (Nat×Operand) → Bool
 | _,[]=>true
 | k,(i,_) :: r=>i == k && tx (k+1) r
def zj (P:Program)(tr:Operand → fB)(o:Oper):Option nR:=
 match o.op with
 | .move x=>some (.aF (tr x))
 | .assign x=>some (.aF (tr x))
 | .pick c a b=>some (.aR (tr c) (tr a) (tr b))
 | .build t ps=>
  match P.underlying t,nL P t with
  | some (.struct fs),some (_,_,z)=>if fs.toList.all (λf=>(P.info? f.type).isSome) then (vm P fs tr ps.toList).map (.aJ (z.cells.toList.map jn)) else none
  | _,_=>none
 | .load t x=>match uV P t,P.info? t with
  | some a,some i=>some (.aA a i.size (tr x))
  | _,_=>none
 | .nilCheck x=>some (.aK (tr x))
 | .binOp op t x y _=>
  match y with
  | .const (.slice none 0 0)=>match P.underlying t,op with
   | some (.slice _),.eql=>some (.aG false (tr x))
   | some (.slice _),.neq=>some (.aG true (tr x))
   | _,_=>none
  | _=>
   match P.underlying t with
   | some (.int _) | some .string=>some (.aI op (tr x) (tr y))
   | some .bool=>some (.aH op (tr x) (tr y))
   | _=>none
 | .unOp .not _ x=>some (.aP (tr x))
 | .unOp .neg _ x=>some (.aO (tr x))
 | .convert s d x=>match P.underlying s,P.underlying d with
  | some (.int _),some (.int k)=>some (.aL k (tr x))
  | _,_=>none
 | .slice t x lo hi mx=>
  match oO P t with
  | some e=>match P.info? e with
   | some i=>if mx.isSome && !hi.isSome then none else some (.aS i.size (tr x) (lo.map (tr)) (hi.map (tr)) (mx.map (tr)))
   | none=>none
  | none=>none
 | .fieldAddr t x k=>
  match P.underlying t with
  | some (.struct fs)=>match fs[k]? with
   | some f=>match P.info? f.type with
    | some i=>if i.size=0 then none else some (.aQ f.offset (tr x))
    | none=>none
   | none=>none
  | _=>none
 | .indexAddr t x i=>
  match oO P t with
  | some e=>match P.info? e with
   | some inf=>some (.aD inf.size (tr x) (tr i))
   | none=>none
  | none=>none
 | .extract x i=>some (.aM (tr x) i)
 | .call {callee:=.builtin .len,args,argTypes}=>
  match args.toList,argTypes.toList with
  | [x],[t]=>match P.underlying t with
   | some (.slice _)=>some (.aN (tr x))
   | some .string=>some (.aT (tr x))
   | _=>none
  | _,_=>none
 | .call {callee:=.builtin .min,args,..}=>some (.aE false (args.toList.map (tr)))
 | .call {callee:=.builtin .max,args,..}=>some (.aE true (args.toList.map (tr)))
 | .makeFunc (.func f) first caps=>if first.size=0 then some (.aC f (caps.toList.map (tr))) else none
 | _=>none
def cH (P:Program)(tr:Operand → fB)(o:Oper):Option nN:=
 match o.op with
 | .alloc t=>match nL P t with
  | some (_,_,z)=>if (z.cells.toList.map jn).all AV.aH then some (.mk (z.cells.toList.map jn)) else none
  | none=>none
 | .box _ x=>some (.aD (tr x))
 | .buildSlice t len ps=>
  match oO P t with
  | some e=>match nL P e with
   | some (sz,_,z)=>if tx 0 ps.toList && ps.size == len && decide (z.cells.size=sz) && decide (len*sz ≤ 2^24) then some (.aA sz (ps.toList.map λp=>tr p.2)) else none
   | none=>none
  | none=>none
 | .makeSlice t l c=>
  match oO P t with
  | some e=>match nL P e with
   | some (sz,bytes,z)=>if z.cells.size=sz ∧ 0<bytes ∧ (z.cells.toList.map jn).all AV.aH then some (.aF sz bytes (z.cells.toList.map jn) (tr l) (tr c)) else none
   | none=>none
  | none=>none
 | .store t a x=>match P.info? t with
  | some i=>some (.aE i.size (tr a) (tr x))
  | none=>none
 | .call {callee:=.builtin .append,args,argTypes}=>
  match args.toList,argTypes.toList with
  | [x,y],[s,t]=>match oO P s with
   | some e=>match nL P e with
    | some (sz,bytes,z)=>if z.cells.size=sz ∧ 0<bytes then (match P.underlying t with
     | some (.slice _)=>some (.aC sz bytes (tr x) (tr y))
     | some (.int _)=>if (z.cells.toList.map jn).all AV.aH then some (.aG sz bytes (z.cells.toList.map jn) (tr x) (tr y)) else none
     | _=>none) else none
    | none=>none
   | none=>none
  | _,_=>none
 | .call {callee:=.builtin .clear,args,argTypes}=>
  match args.toList,argTypes.toList with
  | [x],[s]=>match oO P s with
   | some e=>match nL P e with
    | some (sz,_,z)=>if z.cells.size=sz ∧ (z.cells.toList.map jn).all AV.aH then some (.aH sz (z.cells.toList.map jn) (tr x)) else none
    | none=>none
   | none=>none
  | _,_=>none
 | _=>none
/-- the plan by which two structs of numbers and truths are compared -/
def rC (P : Program) : List Field → Option (List (Nat × Bool))
 | [] => some []
 | f :: fs => if f.name ≠ "_" then (match P.underlying f.type, rC P fs with
   | some (.int _), some r => some ((f.offset, true) :: r)
   | some .bool, some r => some ((f.offset, false) :: r)
   | _, _ => none) else rC P fs
def cX (P:Program)(tr:Operand → fB)(o:Oper):Option sM:=
 match o.op with
 | .binOp op t x y _=>
  match P.underlying t with
  | some (.pointer _)=>match y with
   | .const (.pointer none)=>match op with
    | .eql=>some (.aD false (tr x))
    | .neq=>some (.aD true (tr x))
    | _=>some .aA
   | _=>some .aA
  | some (.struct fs)=>if P.stoodInHeld t=false ∧ P.eqGuardType P.depth t=false then (match op,rC P fs.toList with
    | .eql,some l=>some (.aF false l (tr x) (tr y))
    | .neq,some l=>some (.aF true l (tr x) (tr y))
    | _,_=>some .aA) else some .aA
  | _=>some .aA
 | .field t x k=>
  match P.underlying t with
  | some (.struct fs)=>match fs[k]? with
   | some f=>match P.info? f.type,uV P f.type with
    | some i,some b=>some (.aE f.offset i.size b (tr x))
    | _,_=>some .aA
   | none=>some .aA
  | _=>some .aA
 | .index t x i=>match P.underlying t with
  | some .string=>some (.aH (tr x) (tr i))
  | _=>some .aA
 | .makeFunc (.func f) first caps=>some (.aC f (first.toList.map tr) (caps.toList.map tr))
 | .call {callee:=.builtin .cap,args,argTypes}=>
  match args.toList,argTypes.toList with
  | [x],[t]=>match P.underlying t with
   | some (.slice _)=>some (.aG (tr x))
   | _=>some .aA
  | _,_=>some .aA
 | .call {callee:=.value _,..}=>none
 | _=>if (cH P tr o).isSome then none else some .aA
def cR (P:Program)(tr:Operand → fB)(o:Oper):Option nR:=
 match zj P tr o with
 | some r=>some r
 | none=>(cX P tr o).map .x
def lJ (P:Program)(tr:Operand → fB)(o:Oper):Option iV:=
 match cR P tr o with
 | some r=>some (.r r)
 | none=>match cH P tr o with
  | some h=>some (.h h)
  | none=>match o.op with
   | .call {callee:=.value (.func f),args,..}=>some (.aC f (args.toList.map (tr)))
   | .call {callee:=.value x,args,..}=>some (.aD (tr x) (args.toList.map (tr)))
   | _=>none
/-! and that these do what they say -/
section
variable {P:Program} {G:Gh} {w:World} {h:eW} {tr:Operand → fB} {g:fB → AV} {a:Act}
/-- the operands stand for the values -/
def mB (G:Gh)(w:World)(tr:Operand → fB)(g:fB → AV)(a:Act):Prop:=∀x,V G w (g (tr x)) (a.eval x)
theorem xL {t:TypeId}{sz bytes:Nat}{z:Value}(ht:nL P t=some (sz,bytes,z)):(zeroValue t).run P w=.ok z w:=by
 unfold nL at ht;split at ht
 ·rename_i i hi;cases hz:i.zero with
  | none=>simp[hz]at ht
  | some z'=>simp[hz]at ht;simp[zeroValue,run_typeInfo w hi,hz,ht.2.2]
 ·cases ht
theorem xi {t:TypeId}{sz bytes:Nat}{z:Value}(ht:nL P t=some (sz,bytes,z)):∃i,P.info? t=some i ∧ i.size=sz ∧ i.bytes=bytes ∧ i.zero=some z:=by
 unfold nL at ht;split at ht
 ·rename_i i hi;cases hz:i.zero with
  | none=>simp[hz]at ht
  | some z'=>simp[hz]at ht;exact⟨i,hi,ht.1,ht.2.1,by rw[hz,ht.2.2]⟩
 ·cases ht
theorem oh {t:TypeId}{i:TypeInfo}(hi:P.info? t=some i):(Go.sizeOf t).run P w=.ok i.size w:=by simp[Go.sizeOf,run_typeInfo w hi]
theorem xK {t:TypeId}{b:Bool}(hb:uV P t=some b):(isAgg t).run P w=.ok b w:=by
 unfold uV at hb;split at hb;·rename_i h;cases hb;simp[isAgg,run_underlying h]
 ·rename_i h;cases hb;simp[isAgg,run_underlying h]
 ·rename_i d h1 h2 h;cases hb;simp only[isAgg,Sem.run_bind,run_underlying h,Result.andThen_ok];rfl
 ·cases hb
theorem pR {t e:TypeId}(he:oO P t=some e):P.underlying t=some (.slice e):=by
 unfold oO at he;split at he;·rename_i h;cases he;exact h
 ·cases he
theorem Gg (isMax:Bool):∀(xs:List AV)(vs:List Value)(r:AV),mU isMax xs=some r → xs.length=vs.length →
  (∀(j:Nat)(c:AV)(v:Value),xs[j]?=some c → vs[j]?=some v → V G w c v) →
  ∃u,((if isMax then Builtin.max_ #[] 0 vs.toArray else Builtin.min_ #[] 0 vs.toArray)).run P w=.ok u w ∧ V G w r u:=by
 intro xs vs r hr hl hV;unfold mU at hr;split at hr
 ·rename_i k n rest;cases vs with
  | nil=>simp at hl
  | cons v vr=>
   have h0:=hV 0 _ v rfl rfl;cases h0;have key:∀(l:List AV)(vl:List Value)(n:Int),mU.aA isMax k n l=some r → l.length=vl.length →
     (∀(j:Nat)(c:AV)(v:Value),l[j]?=some c → vl[j]?=some v → V G w c v) →
     ∃u,(vl.foldlM (if isMax then Builtin.max2 else Builtin.min2) (.int k n):Sem Value).run P w=.ok u w ∧ V G w r u:=by
    intro l;induction l with
    | nil=>intro vl n h hl _;have:vl=[]:=Uz (by simpa using hl.symm);subst this;simp only[mU.aA,UB]at h;subst h;exact⟨_,rfl,.aC _ _⟩
    | cons c l ih=>
     intro vl n h hl hV;cases vl with
     | nil=>simp at hl
     | cons v vl=>have h1:=hV 0 c v rfl rfl;cases c<;>simp only[mU.aA,reduceCtorEq]at h;cases h1;obtain⟨u,hu,hVu⟩:=ih vl _ h (by simpa using hl) (λj c v a b=>hV (j+1) c v (by simpa using a) (by simpa using b));refine⟨u,?_,hVu⟩;rw[← hu];cases isMax<;>simp[List.foldlM_cons,Builtin.max2,Builtin.min2]
   obtain⟨u,hu,hVu⟩:=key rest vr n hr (by simpa using hl) (λj c v a b=>hV (j+1) c v (by simpa using a) (by simpa using b));refine⟨u,?_,hVu⟩;rw[← hu];cases isMax<;>simp[Builtin.max_,Builtin.min_]
 ·cases hr
theorem VL.aA (hs:mB G w tr g a)(xs:List Operand):
  ∀(j:Nat)(c:AV)(v:Value),((xs.map (tr)).map g)[j]?=some c → (xs.map a.eval)[j]?=some v → V G w c v:=by
 intro j c v hc hv;simp only[U_,UN]at hc hv;obtain⟨_,⟨x,hx,rfl⟩,rfl⟩:=hc;obtain⟨y,hy,rfl⟩:=hv;rw[hx]at hy;cases hy;exact hs x
theorem Cm (hs:mB G w tr g a){x:Option Operand}{r:Option Int} (h:lV g (x.map (tr))=some r):
  ∃k,x.map a.eval=r.map (.int k):=by
 cases x with
 | none=>simp only[Option.map_none,lV,UB]at h;subst h;exact⟨.i64,rfl⟩
 | some x=>
  simp only[VP,lV]at h;split at h;·rename_i k n hx;cases h;have:=hs x;rw[hx]at this;generalize hv:a.eval x=v at this;cases this;exact⟨k,by simp[hv]⟩
  ·cases h
theorem Jp {x:AV}{b:Bool}{v:Value}{t e:TypeId}(hx:V G w x v)(hn:kE x=some b)(hu:P.underlying t=some (.slice e))(ox oy:Operand):
  ((do eqGuard .eql t ox oy v (.slice none 0 0);binOp .eql t v (.slice none 0 0):Sem Value).run P w=.ok (.bool b) w ∧
  (do eqGuard .neq t ox oy v (.slice none 0 0);binOp .neq t v (.slice none 0 0):Sem Value).run P w=.ok (.bool !b) w) ∨
  ∀a l c,v≠.slice a l c:=by
 have key:∀(a:Option Addr)(l c:Nat),v=.slice a l c → a.isNone=b →
   ((do eqGuard .eql t ox oy v (.slice none 0 0);binOp .eql t v (.slice none 0 0):Sem Value).run P w=.ok (.bool b) w ∧
   (do eqGuard .neq t ox oy v (.slice none 0 0);binOp .neq t v (.slice none 0 0):Sem Value).run P w=.ok (.bool !b) w):=by
  rintro a l c rfl rfl;have e:(Op.equal t (.slice a l c) (.slice none 0 0)).run P w=.ok a.isNone w:=by
   have:∀d,(Op.equalIn (d+1) t (.slice a l c) (.slice none 0 0)).run P w=.ok a.isNone w:=by intro d;simp only[Op.equalIn,Sem.run_bind,run_underlying hu,Result.andThen_ok];cases a<;>rfl
   exact this 9999
  constructor;·have:(eqGuard .eql t ox oy (.slice a l c) (.slice none 0 0)).run P w=.ok () w:=rfl;simp only[Sem.run_bind,this,Result.andThen_ok,binOp,e,Sem.run_pure]
  ·have:(eqGuard .neq t ox oy (.slice a l c) (.slice none 0 0)).run P w=.ok () w:=rfl;simp only[Sem.run_bind,this,Result.andThen_ok,binOp,e,Sem.run_pure]
 cases hx with
 | aO=>simp only[kE,UB]at hn;exact .inl (key _ _ _ rfl hn)
 | aD _ _ _ _ _ c ty m b'=>
  simp only[kE]at hn;split at hn;·cases hn;exact .inl (key _ _ _ rfl rfl)
  ·cases hn
 | aH=>simp[kE]at hn
 | aE _ _ _ es a cap=>
  simp only[kE]at hn;split at hn;·cases hn;exact .inl (key _ _ _ rfl rfl)
  ·cases hn
 | aG=>simp[kE]at hn
 | aL=>exact .inr (λ_ _ _ h=>by cases h)
 | aN=>exact .inr (λ_ _ _ h=>by cases h)
 | aR=>exact .inr (λ_ _ _ h=>by cases h)
 | aP v=>refine .inr (λa l c h=>?_);subst h;simp[kE]at hn
 | aI=>simp[kE]at hn
 | aF=>simp[kE]at hn
 | aC=>simp[kE]at hn
 | aQ=>simp[kE]at hn
 | aJ=>simp[kE]at hn
 | aM=>simp[kE]at hn
 | aK=>simp[kE]at hn
theorem qF (ρ:Operand → Value)(dst:Option Tmp)(b:Builtin)(args:Array Operand)(e:Array TypeId)(ty:TypeId)(pos:String)(after:Array Edge)(guard:Option (Nat×Bool)):
  (execOp ρ {dst,op:=.call {callee:=.builtin b,args,argTypes:=e},type:=ty,pos,after,guard}).run P w =
   (builtin b e ty (args.map fun | .const _=>true | _=>false) (args.map ρ)).run P w:=by
 simp only[execOp,resolve,invoke,Sem.run_bind,Sem.run_pure,Result.andThen_ok];rfl
theorem Ph {fs:Array Field}(hs:mB G w tr g a):∀(ps:List (Nat×Operand)) (l:List (Nat×Nat×fB)),vm P fs tr ps=some l →
  l.length=ps.length ∧ ∀(j i:Nat)(v:Value)(o n:Nat)(x:AV),(ps.map fun (i,x)=>(i,a.eval x))[j]?=some (i,v) → (l.map λp=>(p.1,p.2.1,g p.2.2))[j]?=some (o,n,x) →
   (fs.map λf=>(f.offset,P.cellsOf f.type))[i]?=some (o,n) ∧ V G w x v:=by
 intro ps;induction ps with
 | nil=>intro l hl;simp only[vm,UB]at hl;subst hl;exact⟨rfl,λj i v o n x h=>by simp at h⟩
 | cons p ps ih=>
  intro l hl;obtain⟨i0,x0⟩:=p;simp only[vm]at hl;split at hl
  ·rename_i f l' hf e;cases hl;obtain⟨h1,h2⟩:=ih l' e;refine⟨by simp[h1],λj i v o n x hp hq=>?_⟩;cases j with
   | zero=>simp at hp hq;obtain⟨rfl,rfl⟩:=hp;obtain⟨rfl,rfl,rfl⟩:=hq;exact⟨by simp[hf],hs x0⟩
   | succ j=>exact h2 j i v o n x (by simpa using hp) (by simpa using hq)
  ·cases hl
theorem Ry (fs:List Field)(hf:∀f∈fs,(P.info? f.type).isSome):
  (fs.mapM λf=>do pure (f.offset,← Go.sizeOf f.type):Sem (List (Nat×Nat))).run P w=.ok (fs.map λf=>(f.offset,P.cellsOf f.type)) w:=by
 induction fs with
 | nil=>rfl
 | cons f fs ih=>obtain⟨i,hi⟩:=Wq.1 (hf f (by simp));simp only[List.mapM_cons,Sem.run_bind,run_sizeOf w hi,Result.andThen_ok,Sem.run_pure,ih (λf h=>hf f (by simp[h])),U5]
theorem Jn {q r:AV}{v:Value}{t e:TypeId}(hq:V G w q v)(hr:ik q=some r)(hu:P.underlying t=some (.slice e))(ty:TypeId):
  ∃u,(Builtin.len_ #[t] ty #[v]).run P w=.ok u w ∧ V G w r u:=by
 have key:∀(a:Option Addr)(l c:Nat),(Builtin.len_ #[t] ty #[.slice a l c]).run P w=.ok (.int .i64 l) w:=by intro a l c;simp only[Builtin.len_,Vj,UY,Sem.run_bind,run_underlying hu,Result.andThen_ok,Sem.run_pure,goInt]
 cases hq<;>simp only[ik,UB,reduceCtorEq]at hr<;>subst hr<;>exact⟨_,key _ _ _,.aC _ _⟩
theorem Rg (gm:fO G w h)(hs:mB G w tr g a){o:Oper}{ro:nR}(hc:zj P tr o=some ro){r:AV}(hr:gx g h ro=some r):
  ∃v,(execOp a.eval o).run P w=.ok (.value v) w ∧ V G w r v:=by
 obtain⟨dst,op,type,pos,after,guard⟩:=o;have up:∀{s:Sem Value},(∃v,s.run P w=.ok v w ∧ V G w r v) → ∃v,((do pure (.value (← s)):Sem Next)).run P w=.ok (.value v) w ∧ V G w r v:=by rintro s ⟨v,hv,hV⟩;exact⟨v,by simp[hv],hV⟩
 unfold zj at hc;simp only at hc;split at hc;·rename_i x;cases hc;simp only[gx,UB]at hr;subst hr;exact⟨_,rfl,hs x⟩
 ·rename_i x;cases hc;simp only[gx,UB]at hr;subst hr;exact⟨_,rfl,hs x⟩
 · -- pick
  rename_i c x y;cases hc;simp only[gx]at hr;split at hr
  ·rename_i t ht;cases hr;have h0:=hs c;rw[ht]at h0;generalize hv:a.eval c=v at h0;cases h0;refine⟨if t then a.eval x else a.eval y,?_,?_⟩;·simp only[execOp,hv,asBool];cases t<;>rfl
   ·cases t;·exact hs y
    ·exact hs x
  ·cases hr
 · -- build
  rename_i t ps;split at hc<;>(try cases hc);rename_i fs sz0 b0 z hu hz;split at hc<;>(try cases hc);rename_i hall;simp only[UN]at hc;obtain⟨l,hl,rfl⟩:=hc;simp only[gx,UN]at hr;obtain⟨cells,hcells,rfl⟩:=hr;obtain⟨hlen,hpl⟩:=Ph (P:=P) hs ps.toList l hl;have hz0:VL G w (z.cells.toList.map jn) z.cells:=VL.aD G w z.cells;obtain⟨us,hus,hVL⟩:=Jd (G:=G) (w:=w) (λi=>(fs.map λf=>(f.offset,P.cellsOf f.type))[i]?) (ps.toList.map fun (i,x)=>(i,a.eval x)) (l.map λp=>(p.1,p.2.1,g p.2.2)) _ z.cells cells hz0
   (by simp[hlen]) hpl hcells
  refine up ⟨.agg us,?_,.aJ _ _ hVL.1 hVL.2⟩;have hm:(fs.mapM λf=>do pure (f.offset,← Go.sizeOf f.type):Sem (Array (Nat×Nat))).run P w=.ok (fs.map λf=>(f.offset,P.cellsOf f.type)) w:=by have:=Ry (P:=P) (w:=w) fs.toList (λf h=>VQ.1 hall f h);rw[Array.mapM_eq_mapM_toList];have e:∀(x:Sem (List (Nat×Nat))),(Functor.map List.toArray x:Sem (Array (Nat×Nat))).run P w=(x.run P w).andThen λa w'=>.ok a.toArray w':=λx=>Sem.run_bind' P x _ w;rw[e,this,Result.andThen_ok];congr 1;apply Array.ext';simp
  have hpz:((ps.map fun (i,x)=>(i,a.eval x)).toList)=ps.toList.map fun (i,x)=>(i,a.eval x):=by simp
  simp only[Instr.build,Sem.run_bind,xL hz,Result.andThen_ok,run_underlying hu,hm,hpz,hus,Sem.run_pure]
 · -- load
  rename_i t x;split at hc;·rename_i b i hb hi;cases hc;simp only[gx]at hr;exact up (Ec gm (hs x) hr (xK hb) (oh hi))
  ·cases hc
 · -- nilCheck
  rename_i x;cases hc;simp only[gx]at hr;have h0:=hs x;split at hr<;>rename_i hx<;>(try cases hr)<;>rw[hx]at h0<;>generalize hv:a.eval x=v at h0;·cases h0 with | aL _ _ _ _ b hn hb=>exact⟨_,by simp only[execOp,hv];rfl,.aL _ _ _ _ b hn hb⟩
  ·cases h0 with | aN _ _ b off f h1 h2 h3=>exact⟨_,by simp only[execOp,hv];rfl,.aN _ _ b off f h1 h2 h3⟩
  ·cases h0 with | aR _ _ v' h1=>exact⟨_,by simp only[execOp,hv];rfl,.aR _ _ _ h1⟩
  ·cases h0 with | aK _ _ us _ vs h1 h2 h3 h4=>exact⟨_,by simp only[execOp,hv];rfl,.aK _ _ us _ vs h1 h2 h3 h4⟩
 · -- binOp
  rename_i bop t x y yt;have sl:∀{b},qI (g (tr x))=true → kE (g (tr x))=some b → ∀e,P.underlying t=some (.slice e) → ∀oy,
    ((do eqGuard .eql t x oy (a.eval x) (.slice none 0 0);binOp .eql t (a.eval x) (.slice none 0 0):Sem Value).run P w=.ok (.bool b) w ∧
    (do eqGuard .neq t x oy (a.eval x) (.slice none 0 0);binOp .neq t (a.eval x) (.slice none 0 0):Sem Value).run P w=.ok (.bool !b) w):=by
   intro b h1 h2 e hu oy;refine (Jp (P:=P) (hs x) h2 hu x oy).resolve_right (λhne=>?_);have h0:=hs x;generalize hv:a.eval x=v at *;generalize g (tr x)=q at *;cases h0<;>simp[qI]at h1;·exact hne _ _ _ rfl
   ·exact hne _ _ _ rfl
   ·exact hne _ _ _ rfl
   ·exact hne _ _ _ rfl
   ·exact hne _ _ _ rfl
  split at hc
  ·split at hc
   ·cases hc;simp only[gx]at hr;rename_i e hu;split at hr;·rename_i hsl;simp only[UN]at hr;obtain⟨b,hb,rfl⟩:=hr;refine up ⟨_,(sl hsl hb e hu _).1,?_⟩;cases b<;>exact .aF _
    ·cases hr
   ·cases hc;simp only[gx]at hr;rename_i e hu;split at hr;·rename_i hsl;simp only[UN]at hr;obtain⟨b,hb,rfl⟩:=hr;refine up ⟨_,(sl hsl hb e hu _).2,?_⟩;cases b<;>exact .aF _
    ·cases hr
   ·cases hc
  ·split at hc<;>(try cases hc)<;>simp only[gx]at hr;·exact up (DV (hs x) (hs y) hr t x y)
   ·exact up (DV (hs x) (hs y) hr t x y)
   ·rename_i hu;split at hr;·rename_i p q hp hq;have h1:=hs x;have h2:=hs y;rw[hp]at h1;rw[hq]at h2;generalize hv1:a.eval x=v1 at h1;generalize hv2:a.eval y=v2 at h2;cases h1;cases h2;have:=up (JR (P:=P) (G:=G) (w:=w) hr t x y hu);simp only[execOp,hv1,hv2];exact this
    ·cases hr
 · -- not
  rename_i t x;cases hc;simp only[gx]at hr;split at hr;·rename_i b hb;cases hr;have h1:=hs x;rw[hb]at h1;generalize hv1:a.eval x=v1 at h1;cases h1;exact⟨_,by simp only[execOp,hv1,Op.unary,Sem.run_bind,Sem.run_pure,Result.andThen_ok],.aF _⟩
  ·cases hr
 · -- neg
  rename_i t x;cases hc;simp only[gx]at hr;split at hr;·rename_i k n hb;cases hr;have h1:=hs x;rw[hb]at h1;generalize hv1:a.eval x=v1 at h1;cases h1;exact⟨_,by simp only[execOp,hv1,Op.unary,Op.intArith,Sem.run_bind,Sem.run_pure,Result.andThen_ok],.aC _ _⟩
  ·cases hr
 · -- convert
  rename_i s d x;split at hc<;>(try cases hc);rename_i k' k hu hd;simp only[gx]at hr;split at hr;·rename_i k0 n hb;cases hr;have h1:=hs x;rw[hb]at h1;generalize hv1:a.eval x=v1 at h1;cases h1;exact⟨_,by simp only[execOp,hv1,convert,run_underlying hu,run_underlying hd,Conv.intToInt,Sem.run_bind,Sem.run_pure,Result.andThen_ok],.aC _ _⟩
  ·cases hr
 · -- slice
  rename_i t x lo hi mx;split at hc<;>(try cases hc);rename_i e he;split at hc<;>(try cases hc);rename_i i hinf;split at hc<;>(try cases hc);rename_i hmx;simp only[gx]at hr;split at hr
  ·rename_i lo' hi' mx' h1 h2 h3;obtain⟨k1,e1⟩:=Cm hs h1;obtain⟨k2,e2⟩:=Cm hs h2;obtain⟨k3,e3⟩:=Cm hs h3;have:=JG (P:=P) (hs x) hr k1 k2 k3 (by
    intro hm;cases mx with
    | none=>simp[lV]at h3;subst h3;simp at hm
    | some _=>cases hi with
     | none=>simp at hmx
     | some _=>cases hi' with
      | none=>simp at e2
      | some _=>rfl) (pR he) (oh hinf)
   have:=up this;simp only[execOp,e1,e2,e3];exact this
  ·cases hr
 · -- fieldAddr
  rename_i t x k;split at hc<;>(try cases hc);rename_i fs hu;split at hc<;>(try cases hc);rename_i f hf;split at hc<;>(try cases hc);rename_i i hi;split at hc<;>(try cases hc);rename_i h0;simp only[gx]at hr;exact up (Ja (hs x) hr hu hf rfl (oh hi) h0)
 · -- indexAddr
  rename_i t x i;split at hc<;>(try cases hc);rename_i e he;split at hc<;>(try cases hc);rename_i inf hi;simp only[gx]at hr;exact up (Jm (hs x) (hs i) hr (pR he) (oh hi))
 · -- extract
  rename_i x i;cases hc;simp only[gx]at hr;split at hr
  ·rename_i cs hx;have h1:=hs x;rw[hx]at h1;generalize hv1:a.eval x=v1 at h1;cases h1 with
   | aM _ vs hl hV=>
    have hlt:=(Up.1 hr).1;have hv:vs[i]?=some (vs[i]'(by rw[← hl];exact hlt)):=by simp[← hl,hlt]
    exact⟨_,by simp only[execOp,hv1,Instr.extract,hv,Sem.run_bind,Sem.run_pure,Result.andThen_ok],hV i r _ hr hv⟩
  ·cases hr
 · -- len
  rename_i args argTypes;split at hc<;>(try cases hc);rename_i x t hargs htys;obtain⟨rfl⟩:args=#[x]:=by cases args;simp at hargs;simp[hargs]
  obtain⟨rfl⟩:argTypes=#[t]:=by cases argTypes;simp at htys;simp[htys]
  have h1:=hs x;split at hc<;>(try cases hc)<;>rename_i hu<;>simp only[gx]at hr;·obtain⟨u,hu',hV⟩:=Jn (P:=P) h1 hr hu type;refine⟨u,?_,hV⟩;rw[qF];simp only[builtin,WI,U5,Vl,Sem.run_bind,hu',Result.andThen_ok,Sem.run_pure]
  ·split at hr;·rename_i s hq;cases hr;rw[hq]at h1;generalize hv1:a.eval x=v1 at h1;cases h1;refine⟨.int .i64 s.size,?_,.aC _ _⟩;rw[qF];simp only[builtin,WI,U5,Vl,hv1,Builtin.len_,Vj,UY,Sem.run_bind,run_underlying hu,Result.andThen_ok,Sem.run_pure,goInt]
   ·cases hr
 · -- min
  rename_i args ty;cases hc;simp only[gx]at hr;obtain⟨u,hu,hV⟩:=Gg (P:=P) (G:=G) (w:=w) false _ (args.toList.map a.eval) r hr (by simp) (VL.aA hs args.toList);refine⟨u,?_,hV⟩;rw[qF];simp only[builtin,Sem.run_bind];have:Builtin.min_ ty type (args.map a.eval)=Builtin.min_ #[] 0 (args.toList.map a.eval).toArray:=by simp[Builtin.min_]
  rw[this];simp only[UQ,Vd]at hu;simp[hu]
 · -- max
  rename_i args ty;cases hc;simp only[gx]at hr;obtain⟨u,hu,hV⟩:=Gg (P:=P) (G:=G) (w:=w) true _ (args.toList.map a.eval) r hr (by simp) (VL.aA hs args.toList);refine⟨u,?_,hV⟩;rw[qF];simp only[builtin,Sem.run_bind];have:Builtin.max_ ty type (args.map a.eval)=Builtin.max_ #[] 0 (args.toList.map a.eval).toArray:=by simp[Builtin.max_]
  rw[this];simp only[Vm]at hu;simp[hu]
 · -- makeFunc
  rename_i f first caps;split at hc<;>(try cases hc);rename_i h0;simp only[gx,UB]at hr;subst hr;have hf:first=#[]:=VR h0;subst hf;refine⟨_,by simp only[execOp,Instr.makeFunc,Sem.run_bind,Sem.run_pure,Result.andThen_ok];rfl,?_⟩;have:((#[]:Array Operand).map a.eval)=#[]:=by simp
  rw[this];refine .aK _ _ _ _ _ rfl (λj c v h=>by simp at h) (by simp) (λj c v hc hv=>?_);exact VL.aA hs caps.toList j c v (by simpa using hc) (by simpa using hv)
 ·cases hc
theorem LR {d:Nat}:∀(fs:List Field) (e:List (Nat×Bool)) (cs ds:List AV) (xs ys:Array Value) (r:Bool),rC P fs=some e → VL G w cs xs → VL G w ds ys →
  p9 e cs ds=some r → (Op.eqFields (d+1) xs ys fs).run P w=.ok r w:=by
 intro fs;induction fs with
 | nil=>intro e cs ds xs ys r hp hx hy hr;simp only[rC,UB]at hp;subst hp;simp only[p9,UB]at hr;subst hr;rfl
 | cons f fs ih=>
  intro e cs ds xs ys r hp hx hy hr;simp only[rC]at hp;simp only[Op.eqFields];split at hp
  ·rename_i hn;rw[Uv hn];split at hp<;>(try cases hp)
   ·rename_i k rest hu u;simp only[p9]at hr;split at hr
    ·rename_i k1 a k2 b ha hb;obtain⟨v1,M,U⟩:=hx.aC ha;obtain⟨v2,I,O⟩:=hy.aC hb;cases U;cases O;split at hr
     ·rename_i hk;subst hk;have p1:(part f.type xs f.offset).run P w=.ok (.int k1 a) w:=by simp[part,isAgg,run_underlying hu,M]
      have p2:(part f.type ys f.offset).run P w=.ok (.int k1 b) w:=by simp[part,isAgg,run_underlying hu,I]
      simp only[Sem.run_bind,p1,p2,Result.andThen_ok,run_equalIn_int w d f.type k1 k a b hu];split at hr;·rename_i E;subst E;simp only[BEq.rfl,U2,UQ,Vd];exact ih rest cs ds xs ys r u hx hy hr
      ·rename_i E;cases hr;simp only[beq_eq_false_iff_ne.2 E,Vc,Vm,Sem.run_pure]
     ·cases hr
    ·cases hr
   ·rename_i rest hu u;simp only[p9]at hr;split at hr
    ·rename_i a b ha hb;obtain⟨v1,M,U⟩:=hx.aC ha;obtain⟨v2,I,O⟩:=hy.aC hb;cases U;cases O;have p1:(part f.type xs f.offset).run P w=.ok (.bool a) w:=by simp[part,isAgg,run_underlying hu,M]
     have p2:(part f.type ys f.offset).run P w=.ok (.bool b) w:=by simp[part,isAgg,run_underlying hu,I]
     simp only[Sem.run_bind,p1,p2,Result.andThen_ok,run_equalIn_bool w d f.type a b hu];split at hr;·rename_i E;subst E;simp only[BEq.rfl,U2,UQ,Vd];exact ih rest cs ds xs ys r u hx hy hr
     ·rename_i E;cases hr;simp only[beq_eq_false_iff_ne.2 E,Vc,Vm,Sem.run_pure]
    ·cases hr
  ·rename_i hn;rw[Uw hn];exact ih e cs ds xs ys r hp hx hy hr
theorem VL.aJ {cs:List AV}{vs:Array Value}(h:VL G w cs vs)(o n:Nat)(hn:o+n ≤ cs.length):VL G w ((cs.drop o).take n) (vs.extract o (o+n)):=by
 have:=h.1;refine⟨by simp;omega,λj c v hc hv=>?_⟩;rw[Vp]at hc;split at hc
 ·rename_i hj;rw[UR]at hc;rw[Array.getElem?_extract]at hv;split at hv;·exact h.2 _ c v hc hv
  ·cases hv
 ·cases hc
theorem Um (hs:mB G w tr g a){o:Oper}{xo:sM}(hc:cX P tr o=some xo){r:AV}(hr:l_ g xo=some r):
  ∃v,(execOp a.eval o).run P w=.ok (.value v) w ∧ V G w r v:=by
 obtain⟨dst,op,type,pos,after,guard⟩:=o;have up:∀{s:Sem Value},(∃v,s.run P w=.ok v w ∧ V G w r v) → ∃v,((do pure (.value (← s)):Sem Next)).run P w=.ok (.value v) w ∧ V G w r v:=by rintro s ⟨v,hv,hV⟩;exact⟨v,by simp[hv],hV⟩
 have bd:∀{q:Prop},l_ g .aA=some r → q:=λh=>by simp[l_]at h
 unfold cX at hc;simp only at hc;split at hc
 ·rename_i bop t x y yt;split at hc
  ·rename_i e hu;have ptr:∀b,vp (g (tr x))=some b → ∃p:Option Addr,a.eval x=.pointer p ∧ p.isNone=b:=by
    intro b hb;have h0:=hs x;unfold vp at hb;split at hb<;>cases hb<;>rename_i hq<;>rw[hq]at h0<;>generalize a.eval x=v at h0<;>cases h0;·exact⟨none,rfl,rfl⟩
    ·exact⟨_,rfl,rfl⟩
    ·exact⟨_,rfl,rfl⟩
   have hc0:a.eval (.const (.pointer none))=.pointer none:=rfl;have hu':P.underlying t=some (.pointer (P.pointee t)):=by simp[Program.pointee,hu]
   split at hc
   ·split at hc<;>cases hc;·simp only[l_,UN]at hr;obtain⟨b,hb,rfl⟩:=hr;obtain⟨p,hp,rfl⟩:=ptr b hb;refine up ⟨_,?_,.aF _⟩;simp only[hp,hc0,eqGuard_at_pointer,Sem.run_bind,Sem.run_pure,Result.andThen_ok,run_eql_pointer_nil w t p hu'];cases p<;>rfl
    ·simp only[l_,UN]at hr;obtain⟨b,hb,rfl⟩:=hr;obtain⟨p,hp,rfl⟩:=ptr b hb;refine up ⟨_,?_,.aF _⟩;simp only[hp,hc0,eqGuard_at_pointer,Sem.run_bind,Sem.run_pure,Result.andThen_ok,run_neq_pointer_nil w t p hu'];cases p<;>rfl
    ·exact bd hr
   ·cases hc;exact bd hr
  ·rename_i fs hu;split at hc
   ·rename_i hh;have hu':P.underlying t=some (.struct (P.fieldsOf t)):=by simp[Program.fieldsOf,hu]
    have hfs:P.fieldsOf t=fs:=by simp[Program.fieldsOf,hu]
    have go:∀{l cs ds b},rC P fs.toList=some l → g (tr x)=.aF cs → g (tr y)=.aF ds → p9 l cs ds=some b →
      ∃xs ys,a.eval x=.agg xs ∧ a.eval y=.agg ys ∧ (Op.equalIn 10000 t (.agg xs) (.agg ys)).run P w=.ok b w:=by
     intro l cs ds b hl hx hy hb;have h1:=hs x;have h2:=hs y;rw[hx]at h1;rw[hy]at h2;generalize a.eval x=v1 at *;generalize a.eval y=v2 at *;cases h1 with | aJ _ xs l1 V1=>cases h2 with | aJ _ ys l2 V2=>
     refine⟨xs,ys,rfl,rfl,?_⟩;rw[run_equalIn_struct w 9999 t xs ys hu' hh.1,hfs];exact LR fs.toList l cs ds xs ys b hl ⟨l1,V1⟩ ⟨l2,V2⟩ hb
    split at hc<;>cases hc
    ·rename_i l hl;simp only[l_]at hr;split at hr;·rename_i cs ds hx hy;simp only[UN]at hr;obtain⟨b,hb,rfl⟩:=hr;obtain⟨xs,ys,e1,e2,e3⟩:=go hl hx hy hb;refine up ⟨_,?_,.aF _⟩;simp only[e1,e2,Sem.run_bind,run_eqGuard_agg w _ t x y xs ys hh.2,Result.andThen_ok,run_eql_struct,e3];cases b<;>rfl
     ·cases hr
    ·rename_i l hl;simp only[l_]at hr;split at hr;·rename_i cs ds hx hy;simp only[UN]at hr;obtain⟨b,hb,rfl⟩:=hr;obtain⟨xs,ys,e1,e2,e3⟩:=go hl hx hy hb;refine up ⟨_,?_,.aF _⟩;simp only[e1,e2,Sem.run_bind,run_eqGuard_agg w _ t x y xs ys hh.2,Result.andThen_ok,run_neq_struct,e3];cases b<;>rfl
     ·cases hr
    ·exact bd hr
   ·cases hc;exact bd hr
  ·cases hc;exact bd hr
 ·rename_i t x k;split at hc
  ·rename_i fs hu;split at hc
   ·rename_i f hf;split at hc
    ·rename_i i b hi hb;cases hc;simp only[l_]at hr;split at hr
     ·rename_i cs hx;have h1:=hs x;rw[hx]at h1;generalize hv1:a.eval x=v1 at h1;cases h1 with | aJ _ vs hl hV=>
      refine up ?_;split at hr
      ·rename_i hb';subst hb';split at hr;·rename_i hle;cases hr;have:=VL.aJ (G:=G) (w:=w) ⟨hl,hV⟩ f.offset i.size hle;refine⟨.agg (vs.extract f.offset (f.offset+i.size)),?_,.aJ _ _ this.1 this.2⟩;simp only[hv1,Instr.field,Sem.run_bind,run_underlying hu,Result.andThen_ok,hf,asAgg,Sem.run_pure,part,xK hb,Vm,oh hi]
       ·cases hr
      ·rename_i hb';have hb'':b=false:=by simpa using hb'
       subst hb'';obtain⟨v,hv,hV'⟩:=VL.aC (G:=G) (w:=w) ⟨hl,hV⟩ hr;refine⟨v,?_,hV'⟩;simp only[hv1,Instr.field,Sem.run_bind,run_underlying hu,Result.andThen_ok,hf,asAgg,Sem.run_pure,part,xK hb,UQ,Vd,hv]
     ·cases hr
    ·cases hc;exact bd hr
   ·cases hc;exact bd hr
  ·cases hc;exact bd hr
 ·rename_i t x i;split at hc
  ·rename_i hu;cases hc;simp only[l_]at hr;split at hr
   ·rename_i s k n hx hi;have h1:=hs x;have h2:=hs i;rw[hx]at h1;rw[hi]at h2;generalize hv1:a.eval x=v1 at h1;generalize hv2:a.eval i=v2 at h2;cases h1;cases h2;split at hr;·rename_i h0;simp only[UN]at hr;obtain⟨b,hb,rfl⟩:=hr;refine up ⟨_,?_,.aC _ _⟩;simp only[hv1,hv2,Instr.index,asIntOf,Sem.run_bind,Sem.run_pure,Result.andThen_ok,run_underlying hu,h0,Vm,hb]
    ·cases hr
   ·cases hr
  ·cases hc;exact bd hr
 ·rename_i f first caps;cases hc;simp only[l_,UB]at hr;subst hr;refine⟨_,by simp only[execOp,Instr.makeFunc,Sem.run_bind,Sem.run_pure,Result.andThen_ok];rfl,?_⟩;have h1:=VL.aA hs first.toList;have h2:=VL.aA hs caps.toList;exact .aK _ _ _ _ _ (by simp) (λj c v hc hv=>h1 j c v (by simpa using hc) (by simpa using hv)) (by simp) (λj c v hc hv=>h2 j c v (by simpa using hc) (by simpa using hv))
 ·rename_i args argTypes;split at hc
  ·rename_i x t hargs htys;obtain⟨rfl⟩:args=#[x]:=by cases args;simp at hargs;simp[hargs]
   obtain⟨rfl⟩:argTypes=#[t]:=by cases argTypes;simp at htys;simp[htys]
   split at hc
   ·rename_i e hu;cases hc;have key:∀(q:Option Addr)(l c:Nat),a.eval x=.slice q l c → (execOp a.eval {dst,op:=.call {callee:=.builtin .cap,args:=#[x],argTypes:=#[t]},type,pos,after,guard}).run P w=.ok (.value (.int .i64 c)) w:=by intro q l c hq;rw[qF];simp only[builtin,WI,U5,Vl,hq,Builtin.cap_,Vj,UY,Sem.run_bind,run_underlying hu,Result.andThen_ok,Sem.run_pure,goInt]
    have h0:=hs x;simp only[l_]at hr;split at hr<;>(try cases hr)<;>rename_i hx<;>rw[hx]at h0<;>generalize hq:a.eval x=v at h0;·cases h0;exact⟨_,key _ _ _ hq,.aC _ _⟩
    ·cases h0 with
     | aD _ _ _ _ _ c ty m b h1 h2 h3 h4=>have:=h4 _ rfl;subst this;exact⟨_,key _ _ _ hq,.aC _ _⟩
     | aH _ _ _ h1 h2 h3=>have:=h3 _ rfl;subst this;exact⟨_,key _ _ _ hq,.aC _ _⟩
    ·cases h0 with
     | aE _ _ _ _ ad cap f h1 h2=>have:=h2 rfl;subst this;exact⟨_,key _ _ _ hq,.aC _ _⟩
     | aG=>exact⟨_,key _ _ _ hq,.aC _ _⟩
   ·cases hc;exact bd hr
  ·cases hc;exact bd hr
 ·cases hc
 ·split at hc;·cases hc
  ·cases hc;exact bd hr
theorem Hp (gm:fO G w h)(hs:mB G w tr g a){o:Oper}{ro:nR}(hc:cR P tr o=some ro){r:AV}(hr:gx g h ro=some r):
  ∃v,(execOp a.eval o).run P w=.ok (.value v) w ∧ V G w r v:=by
 unfold cR at hc;split at hc;·rename_i r' h';cases hc;exact Rg gm hs h' hr
 ·simp only[UN]at hc;obtain⟨xo,hx,rfl⟩:=hc;exact Um hs hx (by simpa [gx] using hr)
/-! the operations that make or change memory -/
theorem MZ:∀(ps:List (Nat×Operand)) (k:Nat),tx k ps=true → ∀(j i:Nat)(x:Operand),ps[j]?=some (i,x) → i=k+j:=by
 intro ps;induction ps with
 | nil=>intro k _ j i x h;simp at h
 | cons p ps ih=>
  intro k hk j i x h;obtain⟨i0,x0⟩:=p;simp only[tx,US,beq_iff_eq]at hk;cases j with
  | zero=>simp at h;omega
  | succ j=>have:=ih (k+1) hk.2 j i x (by simpa using h);omega
theorem KJ {sz:Nat}:∀(xs:List AV) (es:List (List AV)),mE sz xs=some es →
  es.length=xs.length ∧ jv sz es ∧ ∀(j:Nat)(e:List AV)(x:AV),es[j]?=some e → xs[j]?=some x → x.aK=some e:=by
 intro xs;induction xs with
 | nil=>intro es h;simp only[mE,UB]at h;subst h;exact⟨rfl,λe he=>by simp at he,λj e x h=>by simp at h⟩
 | cons x xs ih=>
  intro es h;simp only[mE]at h;split at h
  ·rename_i cs I E u;split at h
   ·rename_i hh;cases h;obtain⟨h1,h2,h3⟩:=ih I u;refine⟨by simp[h1],λe he=>?_,λj e y he hy=>?_⟩
    ·rcases Vg.1 he with rfl | he;·exact hh
     ·exact h2 e he
    ·cases j with
     | zero=>simp at he hy;subst he;subst hy;exact E
     | succ j=>exact h3 j e y (by simpa using he) (by simpa using hy)
   ·cases h
  ·cases h
/-- elements laid one behind the other over zeros -/
theorem LU {sz:Nat}:∀(vs:List (Nat×Value)) (k:Nat) (es:List (List AV)) (cells:Array Value),vs.length=es.length →
  (∀(j i:Nat)(v:Value),vs[j]?=some (i,v) → i=k+j) → (k+vs.length)*sz ≤ cells.size →
  (∀(j i:Nat)(v:Value)(e:List AV),vs[j]?=some (i,v) → es[j]?=some e → VL G w e v.cells ∧ e.length=sz) →
  ∃us,Instr.fill (λi=>some (i*sz,sz)) cells vs=some us ∧ us.size=cells.size ∧ (∀p,p<k*sz → us[p]?=cells[p]?) ∧
   ∀i j c,gn es i j=some c → ∃v,us[(k+i)*sz+j]?=some v ∧ V G w c v:=by
 intro vs;induction vs with
 | nil=>intro k es cells hl _ _ _;have:es=[]:=Uz (by simpa using hl.symm);subst this;exact⟨cells,rfl,rfl,λ_ _=>rfl,λi j c h=>by simp[gn]at h⟩
 | cons p vs ih=>
  intro k es cells hl hk hsz hV;obtain⟨i0,v0⟩:=p;cases es with
  | nil=>simp at hl
  | cons e es=>
   have hi0:i0=k:=by have:=hk 0 i0 v0 rfl;omega
   subst hi0;obtain⟨hv0,he0⟩:=hV 0 i0 v0 e rfl rfl;have hvsz:v0.cells.size=sz:=by rw[← hv0.1,he0]
   generalize hnew:(v0.cells.zipIdx.foldl (λcs (c,j)=>cs.setIfInBounds (i0*sz+j) c) cells)=new;have row:∀(l:List Value)(q:Nat)(cs:Array Value),i0*sz+q+l.length ≤ cs.size →
     ((l.zipIdx q).foldl (λcs (c,j)=>cs.setIfInBounds (i0*sz+j) c) cs).size=cs.size ∧
     ∀p,((l.zipIdx q).foldl (λcs (c,j)=>cs.setIfInBounds (i0*sz+j) c) cs)[p]?=if i0*sz+q ≤ p ∧ p<i0*sz+q+l.length then l[p-(i0*sz+q)]? else cs[p]?:=by
    intro l;induction l with
    | nil=>intro q cs _;exact⟨rfl,λp=>by simp;omega⟩
    | cons c l ihl=>
     intro q cs hq;simp only[List.zipIdx_cons,Wu,UG]at hq ⊢;obtain⟨a1,a2⟩:=ihl (q+1) (cs.setIfInBounds (i0*sz+q) c) (by simp;omega);refine⟨by simpa using a1,λp=>?_⟩;rw[a2];by_cases hp:p=i0*sz+q;·subst hp;rw[Uw (by omega),Uv (by omega),Array.getElem?_setIfInBounds_self_of_lt (by omega)];simp
     ·rw[VZ (λe=>hp e.symm)];by_cases hp2:i0*sz+(q+1) ≤ p ∧ p<i0*sz+(q+1)+l.length;·rw[Uv hp2,Uv (by omega),show p-(i0*sz+q)=(p-(i0*sz+(q+1)))+1 by omega,Vr]
      ·rw[Uw hp2,Uw (by omega)]
   have hmul:(i0+(vs.length+1))*sz=i0*sz+sz+vs.length*sz:=by rw[V8,Nat.succ_mul];omega
   simp only[UG]at hsz;obtain⟨n1,n2⟩:=row v0.cells.toList 0 cells (by simp[hvsz];omega);have hnew':((v0.cells.toList.zipIdx 0).foldl (λcs (c,j)=>cs.setIfInBounds (i0*sz+j) c) cells)=new:=by rw[← hnew,← Array.foldl_toList];simp
   rw[hnew']at n1 n2;obtain⟨us,h1,h2,h3,h4⟩:=ih (i0+1) es new (by simpa using hl) (λj i v h=>by have:=hk (j+1) i v (by simpa using h);omega) (by rw[n1,show i0+1+vs.length=i0+(vs.length+1) by omega];exact hsz)
    (λj i v e a b=>hV (j+1) i v e (by simpa using a) (by simpa using b))
   refine⟨us,?_,by rw[h2,n1],λp hp=>?_,λi j c hc=>?_⟩;·simp only[Instr.fill,hvsz,hnew];rw[Uw (by simp;omega)];exact h1
   ·rw[h3 p (by rw[V8];omega),n2,Uw (by omega)]
   ·cases i with
    | zero=>
     simp only[gn,UY,VE]at hc;have hj:=(Up.1 hc).1;obtain⟨v,hv,hVc⟩:=hv0.aC hc;refine⟨v,?_,hVc⟩;have hjs:j<sz:=by omega
     rw[h3 _ (by rw[V_,Nat.succ_mul];omega),n2,Uv (by simp[hvsz];omega)];simp only[V_,Array.getElem?_toList];rw[show i0*sz+j-i0*sz=j by omega];exact hv
    | succ i=>obtain⟨v,hv,hVc⟩:=h4 i j c (by simpa [gn] using hc);exact⟨v,by rw[show i0+(i+1)=i0+1+i by omega];exact hv,hVc⟩
/-- what is made of an operation that makes or changes memory: its value,or nothing -/
def su (P:Program)(s:Sem Next)(G:Gh)(w:World)(r:AV)(h':eW):Prop:=
 ∃n v w' G',s.run P w=.ok n w' ∧ (n=.value v ∨ (n=.skip ∧ v=undef)) ∧ fO G' w' h' ∧ V G' w' r v ∧ gy G w G' w'
theorem su.of {s:Sem Value}{r:AV}{h':eW}(hd:mR P s G w r h'):su P (do pure (.value (← s)):Sem Next) G w r h':=by obtain⟨v,w',G',h1,h2,h3,h4⟩:=hd;exact⟨.value v,v,w',G',by simp[h1],.inl rfl,h2,h3,h4⟩
def qw (a:Act)(ps:List (Nat×Operand)):List (Nat×Value):=ps.map λp=>(p.1,a.eval p.2)
def xg (a:Act)(ps:Array (Nat×Operand)):Array (Nat×Value):=ps.map λp=>(p.1,a.eval p.2)
theorem El (hs:mB G w tr g a){ps:List (Nat×Operand)}{len sz:Nat}{es:List (List AV)}(hord:tx 0 ps=true)(hlen:ps.length=len)(hel:es.length=len)(hok:jv sz es)
  (hce:∀(j:Nat)(e:List AV)(x:AV),es[j]?=some e → ((ps.map λp=>tr p.2).map g)[j]?=some x → x.aK=some e) (Z:Array Value) (hZ:Z.size=len*sz):
  ∃us,Instr.fill (λi=>some (i*sz,sz)) Z (qw a ps)=some us ∧ us.size=len*sz ∧ ∀i j c,gn es i j=some c → ∃v,us[i*sz+j]?=some v ∧ V G w c v:=by
 obtain⟨us,hus,husz,_,hV⟩:=LU (G:=G) (w:=w) (sz:=sz) (qw a ps) 0 es Z (by simp[qw,hel,hlen])
  (λj i v hj=>by simp only[qw,U_,UN]at hj;obtain⟨⟨i',x⟩,hj,hq⟩:=hj;obtain⟨rfl,rfl⟩:=Prod.mk.inj hq;exact MZ _ _ hord j i' x hj)
  (by simp[qw,hlen,hZ])
  (λj i v e hj he=>by simp only[qw,U_,UN]at hj;obtain⟨⟨i',x⟩,hj,hq⟩:=hj;obtain⟨rfl,rfl⟩:=Prod.mk.inj hq;have hce':=hce j e (g (tr x)) he (by simp[hj]);exact⟨(hs x).aS hce',(hok e (List.mem_of_getElem? he)).1⟩)
 exact⟨us,hus,by rw[husz,hZ],λi j c hc=>by have:=hV i j c hc;rwa [Wp]at this⟩
theorem J9 (hs:mB G w tr g a){ps:Array (Nat×Operand)}{t e:TypeId}{len sz b:Nat}{z:Value}{es:List (List AV)}(he:oO P t=some e)(hz:nL P e=some (sz,b,z))
  (hzsz:z.cells.size=sz) (hbig:len*sz ≤ 2^24) (hord:tx 0 ps.toList=true) (hlen:ps.size=len) (hel:es.length=len) (hok:jv sz es)
  (hce:∀(j:Nat)(e:List AV)(x:AV),es[j]?=some e → ((ps.toList.map λp=>tr p.2).map g)[j]?=some x → x.aK=some e):
  LD P (Instr.buildSlice t len (xg a ps)) G w (λnm=>.aG nm sz 0 len (some len)) sz es false:=by
 obtain⟨i,hi,hisz,_,_⟩:=xi hz;have hno:¬(len*sz>2^24):=Nat.not_lt.2 hbig;have hpz:(xg a ps).toList=qw a ps.toList:=by simp[xg,qw]
 have mk:∀us:Array Value,us.size=len*sz → (∀i j c,gn es i j=some c → ∃v,us[i*sz+j]?=some v ∧ V G w c v) →
   LD P (do pure (.slice (some (← newRow e us)) len len)) G w (λnm=>.aG nm sz 0 len (some len)) sz es false:=by
  intro us husz hV;exact Gl (P:=P) (cells:=us) (sz:=sz) (es:=es) (gr:=false) e hok (by rw[husz,hel];exact Uy _) (λ_=>by rw[husz,hel])
    hV len len (some len) (Uy _) (λk hk=>by cases hk;rfl) (by rw[husz];exact Uy _)
 by_cases h0:len*sz=0
 ·obtain⟨us,hus,husz,hV⟩:=El hs hord (by simpa using hlen) hel hok hce ((Array.range (len*sz)).map λk=>(#[]:Array Value)[k % (#[]:Array Value).size]!) (by simp);obtain⟨cells,ty,v,h1,h2⟩:=mk us husz hV;refine⟨cells,ty,v,?_,h2⟩;rw[← h1];simp only[Instr.buildSlice,Sem.run_bind,run_underlying (pR he),Result.andThen_ok,oh hi,hisz,Sem.run_ite,Uw hno,hpz,Uv h0,Sem.run_pure,hus]
 ·obtain⟨us,hus,husz,hV⟩:=El hs hord (by simpa using hlen) hel hok hce ((Array.range (len*sz)).map λk=>z.cells[k % z.cells.size]!) (by simp);obtain⟨cells,ty,v,h1,h2⟩:=mk us husz hV;refine⟨cells,ty,v,?_,h2⟩;rw[← h1];simp only[Instr.buildSlice,Sem.run_bind,run_underlying (pR he),Result.andThen_ok,oh hi,hisz,Sem.run_ite,Uw hno,hpz,Uw h0,Sem.run_pure,xL hz,hus]
theorem On {t e:TypeId}{sz b:Nat}{z:Value}(he:oO P t=some e)(hz:nL P e=some (sz,b,z))(u:z.cells.size=sz)(hb:0<b)
  (a3:(z.cells.toList.map jn).all AV.aH=true) {k1 k2:IntKind} {l c:Int} (h0:0 ≤ l) (hlc:l ≤ c) (hbig:c*b ≤ 2^46):
  LD P (Instr.makeSlice t (.int k1 l) (.int k2 c)) G w (λnm=>.aG nm sz 0 l.toNat (some c.toNat)) sz (List.replicate c.toNat (z.cells.toList.map jn)) false:=by
 obtain⟨i,hi,E,a4,_⟩:=xi hz;have M:c ≤ 2^46:=by have:c*1 ≤ c*b:=Int.mul_le_mul_of_nonneg_left (by omega) (by omega);omega
 have O:=xU h0 (by omega);have U:=xU (c:=c) (by omega) M;have hbig':¬((i.bytes:Int)*c>2^48):=by
  have e2:(2:Int)^46=70368744177664:=by decide
  have e3:(2:Int)^48=281474976710656:=by decide
  rw[a4,Int.mul_comm];omega
 have W:jv sz (List.replicate c.toNat (z.cells.toList.map jn)):=by intro e he;rw[List.mem_replicate]at he;rw[he.2];exact⟨by simp[u],a3⟩
 have mk:∀us:Array Value,us.size=c.toNat*sz → (∀k,k<c.toNat*sz → us[k]?=z.cells[k % sz]?) →
   LD P (do pure (.slice (some (← newRow e us)) l.toNat c.toNat)) G w (λnm=>.aG nm sz 0 l.toNat (some c.toNat)) sz (List.replicate c.toNat (z.cells.toList.map jn)) false:=by
  intro us I hk;refine Gl (P:=P) (cells:=us) (sz:=sz) (gr:=false) e W (by simp[I]) (λ_=>by simp[I]) (λi j cc hc=>?_) l.toNat c.toNat (some c.toNat) (by omega) (λk hk=>by cases hk;rfl) (by rw[I];exact Uy _);obtain⟨hi,hj⟩:=oQ W hc;rw[VN]at hi;have hlt:=qp (n:=c.toNat) hi hj;have Z:j<z.cells.size:=by omega
  simp only[gn,VY,hi,Vm,VE,U_]at hc;have a1:z.cells.toList[j]?=some z.cells[j]:=by simp[Z]
  rw[a1]at hc;simp only[VP,UB]at hc;subst hc;refine⟨z.cells[j],?_,V.aT G w _⟩;rw[hk _ hlt,Nat.mul_comm,Nat.mul_add_mod,Nat.mod_eq_of_lt hj];simp[Z]
 by_cases hn:c.toNat*sz=0
 ·obtain⟨cells,ty,v,h1,h2⟩:=mk ((Array.range (c.toNat*sz)).map λk=>(#[]:Array Value)[k % (#[]:Array Value).size]!) (by simp) (λk hk=>by omega);refine⟨cells,ty,v,?_,h2⟩;rw[← h1];simp only[Instr.makeSlice,Sem.run_bind,run_underlying (pR he),Result.andThen_ok,asInt,asIntOf,Sem.run_pure,run_typeInfo w hi,O,U];rw[Uw (by simp;omega)];simp only[Sem.run_bind,Sem.run_pure,Result.andThen_ok,run_askRoom,oh hi,E,Sem.run_ite,Uv hn]
 ·obtain⟨cells,ty,v,h1,h2⟩:=mk ((Array.range (c.toNat*sz)).map λk=>z.cells[k % z.cells.size]!) (by simp) (λk hk=>by have a2:0<sz:=Nat.pos_of_ne_zero (λh=>hn (by rw[h,Nat.mul_zero]));have:=Nat.mod_lt k a2;simp[hk,u];rw[getElem!_pos z.cells (k % sz) (by omega)];simp[u,this]);refine⟨cells,ty,v,?_,h2⟩;rw[← h1];simp only[Instr.makeSlice,Sem.run_bind,run_underlying (pR he),Result.andThen_ok,asInt,asIntOf,Sem.run_pure,run_typeInfo w hi,O,U];rw[Uw (by simp;omega)];simp only[Sem.run_bind,Sem.run_pure,Result.andThen_ok,run_askRoom,oh hi,E,Sem.run_ite,Uw hn,xL hz]
/-- what makes one block does so -/
theorem F7 (hs:mB G w tr g a){o:Oper}{ho:nN}(hc:cH P tr o=some ho){nm:Nat}{r:AV}{sz:Nat}{es:List (List AV)}{gr:Bool}(hr:jy g nm ho=some (r,.aA sz es gr)):
  ∃(s:Sem Value)(a1:Nat → AV),execOp a.eval o=(do pure (.value (← s))) ∧ a1 nm=r ∧ LD P s G w a1 sz es gr:=by
 obtain⟨dst,op,type,pos,after,guard⟩:=o;unfold cH at hc;simp only at hc;split at hc
 · -- alloc
  rename_i t;split at hc<;>(try cases hc);rename_i U b z hz;split at hc<;>(try cases hc);rename_i M;simp only[jy,UB,Vq,e_.aA.injEq]at hr;obtain⟨rfl,rfl,rfl,rfl⟩:=hr;refine⟨Instr.alloc t true (.tuple #[]),λnm=>.aC nm (z.cells.toList.map jn).length 0 0,rfl,rfl,?_⟩;obtain⟨cells,ty,v,h1,h2⟩:=Gm (P:=P) (v:=z) (VL.aD G w z.cells) M t;refine⟨cells,ty,v,?_,h2⟩;simp only[Instr.alloc,Sem.run_bind,xL hz,Result.andThen_ok];exact h1
 · -- box
  rename_i t x;cases hc;simp only[jy]at hr;split at hr
  ·rename_i cs a7;split at hr;·rename_i M;simp only[UB,Vq,e_.aA.injEq]at hr;obtain⟨rfl,rfl,rfl,rfl⟩:=hr;exact⟨Instr.box t (a.eval x),λnm=>.aC nm cs.length 0 0,rfl,rfl,Gm (P:=P) ((hs x).aS a7) M t⟩
   ·cases hr
  ·cases hr
 · -- buildSlice
  rename_i t len ps;split at hc<;>(try cases hc);rename_i e he;split at hc<;>(try cases hc);rename_i U b z hz;split at hc<;>(try cases hc);rename_i u;simp only[US,beq_iff_eq,Vb]at u;obtain⟨⟨⟨W,O⟩,E⟩,I⟩:=u;simp only[jy]at hr;split at hr
  ·rename_i aa a5;simp only[UB,Vq,e_.aA.injEq]at hr;obtain⟨rfl,rfl,rfl,rfl⟩:=hr;obtain⟨a6,a2,a9⟩:=KJ _ _ a5;simp at a6;have Z:aa.length=len:=by omega
   have a4:(ps.toList.map λp=>tr p.2).length=len:=by simp[O]
   refine⟨Instr.buildSlice t len (xg a ps),λnm=>.aG nm U 0 len (some len),rfl,by rw[a4],?_⟩;exact J9 hs he hz E I W O Z a2 a9
  ·cases hr
 · -- makeSlice
  rename_i t l c;split at hc<;>(try cases hc);rename_i e he;split at hc<;>(try cases hc);rename_i U b z hz;split at hc<;>(try cases hc);rename_i u;obtain⟨E,hb,M⟩:=u;simp only[jy]at hr;split at hr
  ·rename_i k1 l' k2 c' hl a8;split at hr;·rename_i hh;obtain⟨h0,a3,I⟩:=hh;simp only[UB,Vq,e_.aA.injEq]at hr;obtain⟨rfl,rfl,rfl,rfl⟩:=hr;have v1:=hs l;have v2:=hs c;rw[hl]at v1;rw[a8]at v2;generalize hv1:a.eval l=x1 at v1;generalize hv2:a.eval c=x2 at v2;cases v1;cases v2;refine⟨Instr.makeSlice t (.int k1 l') (.int k2 c'),λnm=>.aG nm U 0 l'.toNat (some c'.toNat),by simp only[execOp,hv1,hv2],rfl,On (P:=P) (k1:=k1) (k2:=k2) he hz E hb M h0 a3 I⟩
   ·cases hr
  ·cases hr
 ·split at hc<;>(try cases hc);simp[jy]at hr
 ·split at hc<;>(try cases hc);split at hc<;>(try cases hc);split at hc<;>(try cases hc);split at hc<;>(try cases hc);split at hc<;>(try cases hc);·simp[jy]at hr
  ·split at hc<;>(try cases hc);simp[jy]at hr
 ·split at hc<;>(try cases hc);split at hc<;>(try cases hc);split at hc<;>(try cases hc);split at hc<;>(try cases hc);simp[jy]at hr
 ·cases hc
theorem B_ {ho:nN}{nm:Nat}{r:AV}{b:e_}(hr:jy g nm ho=some (r,b)):∃sz es gr,b=.aA sz es gr:=by cases ho<;>simp only[jy]at hr;all_goals (repeat' split at hr);all_goals simp only[UB,Vq,reduceCtorEq]at hr;all_goals exact⟨_,_,_,hr.2.symm⟩
theorem FK (gm:fO G w h)(hs:mB G w tr g a){o:Oper}{ho:nN}(hc:cH P tr o=some ho){r:AV}{h':eW}(hr:jX g h ho=some (r,h')):
  su P (execOp a.eval o) G w r h':=by
 have light:∀{b:e_},jy g h.length ho=some (r,b) → h'=h++[some b] → su P (execOp a.eval o) G w r h':=by rintro b hb rfl;obtain⟨sz,es,gr,rfl⟩:=B_ hb;obtain⟨s,mkv,he,hm,hl⟩:=F7 (P:=P) hs hc hb;rw[he,← hm];exact su.of (hl.aA gm)
 have light':(match jy g h.length ho with | some (v,b)=>some (v,h++[some b]) | none=>none)=some (r,h') → su P (execOp a.eval o) G w r h':=by
  intro hq;split at hq;·rename_i v b hb;simp only[UB,Vq]at hq;obtain⟨rfl,rfl⟩:=hq;exact light hb rfl
  ·cases hq
 obtain⟨dst,op,type,pos,after,guard⟩:=o;have hc0:=hc;unfold cH at hc;simp only at hc;split at hc;·split at hc<;>(try cases hc);split at hc<;>(try cases hc);exact light' hr
 ·cases hc;exact light' hr
 ·split at hc<;>(try cases hc);split at hc<;>(try cases hc);split at hc<;>(try cases hc);exact light' hr
 ·split at hc<;>(try cases hc);split at hc<;>(try cases hc);split at hc<;>(try cases hc);exact light' hr
 · -- store
  rename_i t p x;split at hc<;>(try cases hc);rename_i i hi;simp only[jX,UN]at hr;obtain⟨h1,hst,hq⟩:=hr;obtain⟨rfl,rfl⟩:=Prod.mk.inj hq;obtain⟨w',hrun,hg,hstp⟩:=JI (P:=P) gm (hs p) (hs x) hst (oh hi);exact⟨.skip,undef,w',G,by simp only[execOp,Sem.run_bind,hrun,Result.andThen_ok,Sem.run_pure],.inr ⟨rfl,rfl⟩,hg,.aI _,hstp⟩
 · -- append
  rename_i args tys;split at hc<;>(try cases hc);rename_i x y s t hargs htys;obtain⟨rfl⟩:args=#[x,y]:=by cases args;simp at hargs;simp[hargs]
  obtain⟨rfl⟩:tys=#[s,t]:=by cases tys;simp at htys;simp[htys]
  split at hc<;>(try cases hc);rename_i e he;split at hc<;>(try cases hc);rename_i sz b z hz;split at hc<;>(try cases hc);rename_i hcond;obtain⟨i,hi,hisz,hib,hiz⟩:=xi hz;split at hc<;>(try cases hc);·rename_i e' hu';simp only[jX]at hr;have T:vJ P s t e sz b i z:=⟨pR he,⟨e',hu'⟩,hi,hisz,hib,hiz,hcond.2,hcond.1⟩;obtain⟨v,w',G',h1,h2,h3,h4⟩:=I2 (P:=P) gm (hs x) (hs y) hr T type;refine⟨.value v,v,w',G',?_,.inl rfl,h2,h3,h4⟩;rw[qF];simp only[builtin,WI,U5,Vl,Sem.run_bind,h1,Result.andThen_ok,Sem.run_pure]
  ·rename_i k' hu';split at hc<;>(try cases hc);rename_i hsc;simp only[jX]at hr;have T:vK P s t e sz b i z:=⟨pR he,⟨k',hu'⟩,hi,hisz,hib,hiz,hcond.2,hcond.1⟩;obtain⟨v,w',G',h1,h2,h3,h4⟩:=IZ (P:=P) gm (hs x) (hs y) T hsc hr type;refine⟨.value v,v,w',G',?_,.inl rfl,h2,h3,h4⟩;rw[qF];simp only[builtin,WI,U5,Vl,Sem.run_bind,h1,Result.andThen_ok,Sem.run_pure]
 · -- clear
  rename_i args tys;split at hc<;>(try cases hc);rename_i x s hargs htys;obtain⟨rfl⟩:args=#[x]:=by cases args;simp at hargs;simp[hargs]
  obtain⟨rfl⟩:tys=#[s]:=by cases tys;simp at htys;simp[htys]
  split at hc<;>(try cases hc);rename_i e he;split at hc<;>(try cases hc);rename_i sz b z hz;split at hc<;>(try cases hc);rename_i hcond;obtain⟨i,hi,hisz,hib,hiz⟩:=xi hz;simp only[jX,UN]at hr;obtain⟨h1,hst,hq⟩:=hr;obtain⟨rfl,rfl⟩:=Prod.mk.inj hq;obtain⟨w',hrun,hg,hstp⟩:=I7 (P:=P) gm (hs x) (pR he) hi hiz hcond.1 hcond.2 hst type;refine⟨.value (.tuple #[]),.tuple #[],w',G,?_,.inl rfl,hg,.aM _ _ rfl (λj c v h=>by simp at h),hstp⟩;rw[qF];simp only[builtin,WI,U5,Vl,Sem.run_bind,hrun,Result.andThen_ok,Sem.run_pure]
 ·cases hc
end
end Glb
/-
 A library of its own,for whatever program: code,and what is to be shown of it.
-/
namespace Glb
open Go
abbrev fV:=List (Nat×AV)
def lk (s:Nat):fV → AV
 | []=>.aR
 | (t,v) :: r=>if t=s then v else lk s r
def kW (s:Nat)(v:AV):fV → fV
 | []=>[(s,v)]
 | (t,u) :: r=>if t=s then (s,v) :: r else if s<t then (s,v) :: (t,u) :: r else (t,u) :: kW s v r
theorem fj (s t:Nat)(v:AV)(e:fV):lk t (kW s v e)=if t=s then v else lk t e:=by
 have ne:∀{x y:Nat},¬x=y → ¬y=x:=λh e=>h e.symm;induction e with
 | nil=>
  simp only[kW,lk];by_cases h:s=t;·subst h;simp
  ·have:=ne h;simp[h,this]
 | cons p r ih=>
  obtain⟨q,u⟩:=p;simp only[kW];split
  ·rename_i h;subst h;simp only[lk];by_cases h:q=t;·subst h;simp
   ·have:=ne h;simp[h,this]
  ·rename_i hq;split
   ·simp only[lk];by_cases h:s=t;·subst h;simp
    ·have:=ne h;simp[h,this]
   ·simp only[lk,ih];by_cases h:q=t;·subst h;have:¬(q=s):=hq;simp[this]
    ·simp[h]
structure St where
 L:fV
 R:fV
 h:eW
inductive jP where
 | aC
 | aA (s:Nat)
 | aD (s:Nat)
def St.aA (st:St):fB → AV
 | .aC s=>lk s st.L
 | .aD s=>lk s st.R
 | .aA v=>v
def St.aC (st:St)(d:jP)(v:AV):St:=
 match d with
 | .aC=>st
 | .aA s=>{st with L:=kW s v st.L}
 | .aD s=>{st with R:=(s,v) :: st.R}
structure AO where
 aA:jP
 op:iV
 aC:Option (fB×Bool)
/-! the state that the code is in -/
structure SR (n:Nat)(keep:Nat → Bool)(G0:Gh)(w0:World)(G:Gh)(w:World)(st:St)(a:Act):Prop where
 aA:fO G w st.h
 aE:a.tmps.size=n
 aC:a.defers=[]
 L:∀s,keep s=true → V G w (lk s st.L) (a.tmps.getD s undef)
 R:∀s,keep s=false → V G w (lk s st.R) (a.tmps.getD s undef)
 aD:gy G0 w0 G w
section
variable {n:Nat} {keep:Nat → Bool} {G0:Gh} {w0:World} {P:Program}
theorem SR.aF {G w st a}(sr:SR n keep G0 w0 G w st a):mB G w (cd keep) st.aA a:=by
 intro x;cases x with
 | tmp s=>
  simp only[cd];split;·rename_i h;exact sr.L s h
  ·rename_i h;exact sr.R s (by simpa using h)
 | const v=>exact V.aZ G w v
 | global g=>exact .aP _
 | func f=>exact .aK f [] #[] [] #[] rfl (λj c v h=>by simp at h) rfl (λj c v h=>by simp at h)
/-- where an operation's value goes -/
def rp (n:Nat)(keep:Nat → Bool):Option Tmp → Option jP
 | none=>some .aC
 | some s=>if s<n then some (if keep s then .aA s else .aD s) else none
theorem tp {a:Act}{s q:Nat}{v:Value}(h:s<a.tmps.size):(a.tmps.setIfInBounds s v).getD q undef=if q=s then v else a.tmps.getD q undef:=by
 by_cases e:q=s
 ·subst e;simp[h]
 ·simp[e,VZ (λx=>e x.symm)]
theorem SR.aG {G w st a G' w' h' d t r v}(sr:SR n keep G0 w0 G w st a)(hd:rp n keep t=some d)(hg:fO G' w' h')(hs:gy G w G' w')(hv:V G' w' r v):
  SR n keep G0 w0 G' w' {st.aC d r with h:=h'} (a.put t v):=by
 have hL:∀s,keep s=true → V G' w' (lk s st.L) (a.tmps.getD s undef):=λs h=>(sr.L s h).aA hs.aA;have hR:∀s,keep s=false → V G' w' (lk s st.R) (a.tmps.getD s undef):=λs h=>(sr.R s h).aA hs.aA;cases t with
 | none=>simp only[rp,UB]at hd;subst hd;exact⟨hg,sr.aE,sr.aC,hL,hR,sr.aD.aI hs⟩
 | some s=>
  simp only[rp]at hd;split at hd
  ·rename_i hlt;have u:s<a.tmps.size:=by rw[sr.aE];exact hlt
   simp only[UB]at hd;split at hd<;>rename_i hk<;>subst hd
   ·refine⟨hg,by simp[Act.put,sr.aE],sr.aC,λq hq=>?_,λq hq=>?_,sr.aD.aI hs⟩
    ·simp only[St.aC,fj,Act.put];rw[tp u];split;·exact hv
     ·exact hL q hq
    ·simp only[St.aC,Act.put];rw[tp u,Uw (by rintro rfl;rw[hk]at hq;cases hq)];exact hR q hq
   ·refine⟨hg,by simp[Act.put,sr.aE],sr.aC,λq hq=>?_,λq hq=>?_,sr.aD.aI hs⟩;·simp only[St.aC,Act.put];rw[tp u,Uw (by rintro rfl;exact hk hq)];exact hL q hq
    ·simp only[St.aC,lk,Act.put];rw[tp u];by_cases e:s=q;·subst e;simp;exact hv
     ·have:¬q=s:=λx=>e x.symm;simp only[e,this,Vd];exact hR q hq
  ·cases hd
/-! calls -/
/-- what a call of a function comes to -/
def fC (P:Program)(f:FuncId)(avs:List AV)(h:eW)(K:AV → eW → Prop):Prop:=
 ∀(G:Gh)(w:World)(vs:Array Value),fO G w h → VL G w avs vs → Calls P f vs w λe w'=>∃v r h' G',e=.returned v ∧ K r h' ∧ fO G' w' h' ∧ V G' w' r v ∧ gy G w G' w'
theorem fC.aA {f avs h}{K K':AV → eW → Prop}(hc:fC P f avs h K)(hk:∀r h',K r h' → K' r h'):fC P f avs h K':=
 λG w vs hg hv=>(hc G w vs hg hv).mono λ_ _ ⟨v,r,h',G',h1,h2,h3⟩=>⟨v,r,h',G',h1,hk _ _ h2,h3⟩
def fP (P : Program) (f : FuncId) : Bool :=
 match P.funcs[f]? with
 | some fn => fn.body.isSome && !(fn.name == "runtime.NumGoroutine")
 | none => false
theorem tS {f:FuncId}(hf:fP P f=true)(args:Array Value)(w:World):(callFunc f args).run P w=.ok (.enter f args) w:=by
 unfold fP at hf;split at hf
 ·rename_i fn e;simp only[US,Bool.not_eq_true']at hf;have hb:fn.body.isNone=false:=by cases h:fn.body with | none=>simp[h]at hf | some c=>rfl
  simp only[callFunc,Sem.run_bind,run_program,Result.andThen_ok,e,hf.2,hb,UQ,Vd,Sem.run_pure]
 ·cases hf
/-! one operation -/
def mM (P:Program)(o:AO)(st:St)(k:St → Prop):Prop:=
 match o.op with
 | .r ro=>match gx st.aA st.h ro with
  | some v=>k (st.aC o.aA v)
  | none=>False
 | .h ho=>match jX st.aA st.h ho with
  | some (v,h')=>k {st.aC o.aA v with h:=h'}
  | none=>False
 | .aC f args=>fP P f=true ∧ fC P f (args.map st.aA) st.h λv h'=>k {st.aC o.aA v with h:=h'}
 | .aD x args=>match st.aA x with
  | .aL f fs cs=>fP P f=true ∧ fC P f (fs++args.map st.aA++cs) st.h λv h'=>k {st.aC o.aA v with h:=h'}
  | _=>False
/-! lists of operations,in the order of the text -/
def gU (P:Program):List AO → St → (St → Prop) → Prop
 | [],st,k=>k st
 | o :: r,st,k=>
  match o.aC with
  | none=>mM P o st λst'=>gU P r st' k
  | some (x,want)=>match st.aA x with
   | .aE b=>(b=want → mM P o st λst'=>gU P r st' k) ∧ (b=(!want) → gU P r (st.aC o.aA (.aI [])) k)
   | .aI _=>gU P r (st.aC o.aA (.aI [])) k
   | _=>False
/-- an operation's guard,by the slot that it looks at -/
def zi (keep:Nat → Bool)(ops:Array Oper):Option (Nat×Bool) → Option (Option (fB×Bool))
 | none=>some none
 | some (j,want)=>match (ops[j]?).bind (·.dst) with
  | some t=>some (some (cd keep (.tmp t),want))
  | none=>none
def wH (P:Program)(n:Nat)(keep:Nat → Bool)(ops:Array Oper)(o:Oper):Option AO:=
 match rp n keep o.dst,lJ P (cd keep) o,zi keep ops o.guard with
 | some d,some op,some g=>some ⟨d,op,g⟩
 | _,_,_=>none
def qi (P:Program)(n:Nat)(keep:Nat → Bool)(ops:Array Oper):List Oper → Option (List AO)
 | []=>some []
 | o :: r=>match wH P n keep ops o,qi P n keep ops r with
  | some x,some l=>some (x :: l)
  | _,_=>none
theorem SR.aJ {G w st a d t}(sr:SR n keep G0 w0 G w st a)(hd:rp n keep t=some d):SR n keep G0 w0 G w (st.aC d (.aI [])) (a.put t undef):=by
 have e:({st.aC d (.aI []) with h:=st.h}:St)=st.aC d (.aI []):=by cases d<;>rfl
 have:=sr.aG hd sr.aA (gy.aD G w) (V.aM (G:=G) (w:=w) [] #[] rfl (λj c v h=>by simp at h));rw[e]at this;exact this
/-- does the guard let the operation be done? -/
theorem My {G w st a}(sr:SR n keep G0 w0 G w st a){ops:Array Oper}{o:Oper}{j:Nat}{want:Bool}{t:Tmp}(hg:o.guard=some (j,want))(ht:(ops[j]?).bind (·.dst)=some t):
  (∀b,st.aA (cd keep (.tmp t))=.aE b → Region.wanted o (yielded ops a.tmps)=(b == want)) ∧ (∀cs,st.aA (cd keep (.tmp t))=.aI cs → Region.wanted o (yielded ops a.tmps)=false):=by
 have hv:=sr.aF (.tmp t);have hy:yielded ops a.tmps j=match a.tmps[t]? with | some (.bool b)=>some b | _=>none:=by simp only[yielded,ht,VE];rfl
 have hev:a.eval (.tmp t)=(a.tmps[t]?).getD undef:=by simp[Act.eval]
 rw[hev]at hv;constructor
 ·intro b hb;rw[hb]at hv;cases hq:a.tmps[t]? with
  | none=>rw[hq]at hv;cases hv
  | some v=>rw[hq]at hv;simp only[U6]at hv;cases hv;simp only[Region.wanted,hg,hy,hq];cases b<;>cases want<;>rfl
 ·intro cs hb;rw[hb]at hv;cases hq:a.tmps[t]? with
  | none=>simp[Region.wanted,hg,hy,hq]
  | some v=>rw[hq]at hv;simp only[U6]at hv;cases hv;simp[Region.wanted,hg,hy,hq]
end
end Glb
/-
 A library of its own,for whatever program: regions whose order is drawn.
-/
namespace Glb
open Go
/-! a block laid at a name that was kept free -/
def Gh.aG (G:Gh)(nm b:Nat):Gh:=
 {G with aA:=λn=>if n=nm then some b else G.aA n,aD:=λn=>G.aD n ∨ n=nm}
theorem fO.aY {G w h}(g:fO G w h){nm:Nat}(hl:G.aA nm=none)(hn:¬G.aE nm)(o:Obj):ib G w (G.aG nm w.heap.size) (w.alloc o) where
 N:=Uy _
 aA n b hlt hb:=by
  by_cases e:n=nm
  ·subst e;rw[hl]at hb;cases hb
  ·simp only[Gh.aG,e,Vd];exact hb
 aF n _ h:=h
 aC t b hp:=by cases t<;>exact hp
 aD t b hp:=nZ (g.aQ hp)
 aE b hb:=CI hb
theorem fO.bF {G w h} (g : fO G w h) {nm : Nat} (hlt : nm < G.N) (hh : h[nm]? = some none) (hl : G.aA nm = none) (hn : ¬ G.aE nm)
    {cells : Array Value} {ty : TypeId} {sz : Nat} {es : List (List AV)} {gr : Bool}
    (a3 : jv sz es) (a4 : es.length * sz ≤ cells.size) (a5 : gr = false → cells.size = es.length * sz)
    (hV : ∀ i j c, gn es i j = some c → ∃ v, cells[i * sz + j]? = some v ∧ V G w c v) :
    fO (G.aG nm w.heap.size) (w.alloc (.cells cells ty)) (h.set nm (some (.aA sz es gr))) := by
  have k := g.aY hl hn (.cells cells ty)
  have a1 : nm < h.length := by rw [g.aA]; exact hlt
  have I : (G.aG nm w.heap.size).aA nm = some w.heap.size := by simp [Gh.aG]
  have E : ∀ n, n ≠ nm → (G.aG nm w.heap.size).aA n = G.aA n := λn hn => by simp [Gh.aG, hn]
  have u : ∀ n, n ≠ nm → ((G.aG nm w.heap.size).aD n ↔ G.aD n) := λn hn => ⟨λh => h.resolve_right hn, .inl⟩
  have old : ∀ n, n ≠ nm → (h.set nm (some (.aA sz es gr)))[n]? = h[n]? := λn hn => Uq (λe => hn e.symm)
  have new : (h.set nm (some (.aA sz es gr)))[nm]? = some (some (.aA sz es gr)) := Ux a1
  refine { aA := by simp [Gh.aG, g.aA], aD := ?_, aE := ?_, inj := ?_, aF := ?_, aG := ?_, aL := g.aL, aM := g.aM,
           aH := ?_, aJ := ?_, aC := ?_, aI := ?_, aK := ?_ }
  · intro n
    by_cases e : n = nm
    · subst e; exact ⟨λ_ => ⟨⟨_, _, _, new⟩, _, I⟩, λ_ => .inr rfl⟩
    · rw [u n e, E n e, old n e]; exact g.aD n
  · intro n b hb
    have e : n ≠ nm := by rintro rfl; rw [g.aE _ _ hb] at hh; cases hh
    rw [old n e]; exact g.aE n b hb
  · intro n m b hn hm M O
    by_cases h1 : n = nm <;> by_cases h2 : m = nm
    · rw [h1, h2]
    · subst h1; rw [I] at M; rw [E m h2] at O; cases M
      exact absurd (g.aO ((u m h2).1 hm) O) (Wx _)
    · subst h2; rw [I] at O; rw [E n h1] at M; cases O
      exact absurd (g.aO ((u n h1).1 hn) M) (Wx _)
    · rw [E n h1] at M; rw [E m h2] at O
      exact g.inj n m b ((u n h1).1 hn) ((u m h2).1 hm) M O
  · intro n m b hn hb ht
    by_cases h1 : n = nm
    · subst h1; rw [I] at hb; cases hb; exact Wx _ (g.aH m _ ht)
    · rw [E n h1] at hb; exact g.aF n m b ((u n h1).1 hn) hb ht
  · intro n b hn hb hs
    by_cases h1 : n = nm
    · subst h1; rw [I] at hb; cases hb; exact Wx _ (g.aJ _ hs)
    · rw [E n h1] at hb; exact g.aG n b ((u n h1).1 hn) hb hs
  · intro n b hb; have := g.aH n b hb; simp; omega
  · intro b hb; have := g.aJ b hb; simp; omega
  · intro n U Z W b hq hb
    by_cases h1 : n = nm
    · subst h1
      rw [new] at hq
      obtain ⟨rfl, rfl, rfl⟩ : sz = U ∧ es = Z ∧ gr = W := by simpa using hq
      rw [I] at hb; cases hb
      exact ⟨⟨cells, ty, uT, a4, a5, λi j c hj => let ⟨v, hv, hV⟩ := hV i j c hj; ⟨v, hv, hV.aA k⟩⟩, a3⟩
    · rw [old n h1] at hq; rw [E n h1] at hb
      exact (g.aC n U Z W b hq hb).aA k (nZ (g.aO (g.aN hq hb) hb))
  · intro n U Z W hq hb
    by_cases h1 : n = nm
    · subst h1; rw [I] at hb; cases hb
    · rw [old n h1] at hq; rw [E n h1] at hb; exact g.aI n U Z W hq hb
  · intro n a2
    by_cases h1 : n = nm
    · subst h1; exact absurd a2 hn
    · rw [E n h1]; exact g.aK n a2
theorem gy.aM {G0 w0 G w h}(s:gy G0 w0 G w)(g:fO G w h){nm:Nat}(h0:G0.N ≤ nm)(hl:G.aA nm=none)(hn:¬G.aE nm)(c:Array Value)(t:TypeId):
  gy G0 w0 (G.aG nm w.heap.size) (w.alloc (.cells c t)) where
 aH:=s.aH.aC (jU.aD w c t)
 aA:=s.aA.aG (g.aY hl hn _)
 S:=s.S
 aF n hlt:=by
  have:n≠nm:=by omega
  simp only[Gh.aG,this,Vd];exact s.aF n hlt
 aJ:=s.aJ
 aC:=by have:=s.aC;simp;omega
 aE b hb hno:=by rw[nZ (UM hb s.aC)];exact s.aE b hb hno
 aG b hb:=by
  rcases hb with⟨n,u,he⟩ | ⟨n,ht⟩
  ·by_cases e:n=nm
   ·simp only[Gh.aG,e,Vm,UB]at he;exact .inr (by have:=s.aC;omega)
   ·simp only[Gh.aG,e,Vd]at he;exact s.aG b (.inl ⟨n,u.resolve_right e,he⟩)
  ·exact s.aG b (.inr ⟨n,ht⟩)
/-! names kept free -/
def Gh.aM (G:Gh)(k:Nat):Gh:=
 {G with N:=G.N+k,aA:=λn=>if n<G.N then G.aA n else none,aE:=λn=>n<G.N ∧ G.aE n}
theorem fO.bz {G w h}(g:fO G w h){n}(hn:G.aD n):n<G.N:=by obtain⟨⟨_,_,_,hh⟩,_⟩:=(g.aD n).1 hn;exact g.aP hh
theorem uF {h:eW}{k n:Nat}{x:e_}:(h++List.replicate k none)[n]?=some (some x)↔h[n]?=some (some x):=by
 rcases VX n h.length with hl | hl;·rw[UZ hl]
 ·rw[U1 hl,U8 hl,VY];split<;>simp
theorem fO.bL {G w h} (g : fO G w h) (k : Nat) : fO (G.aM k) w (h ++ List.replicate k none) ∧ gy G w (G.aM k) w := by
  have loc : ∀ n, n < G.N → (G.aM k).aA n = G.aA n := λn hn => by simp [Gh.aM, hn]
  have kp : ib G w (G.aM k) w := ⟨VG _ _, λn b hn hb => by rw [loc n hn]; exact hb, λn hn hb => ⟨hn, hb⟩, λt b h => by cases t <;> exact h, λ_ _ _ => rfl, λ_ _ => rfl⟩;have e : ∀ n b, G.aD n → (G.aM k).aA n = some b → G.aA n = some b := λn b hn hb => by rw [loc n (g.bz hn)] at hb; exact hb
  refine ⟨{ aA := by simp [Gh.aM, g.aA], aD := ?_, aE := ?_, inj := fun n m b hn hm h1 h2 => g.inj n m b hn hm (e n b hn h1) (e m b hm h2),
            aF := λn m b hn hb => g.aF n m b hn (e n b hn hb), aG := λn b hn hb => g.aG n b hn (e n b hn hb), aL := g.aL, aM := g.aM,
            aH := g.aH, aJ := g.aJ, aC := ?_, aI := ?_, aK := ?_ },
    ⟨kp, ⟨λ_ h => h, λ_ h => .inl h⟩, loc, λn hn => ⟨λh => h.2, λh => ⟨hn, h⟩⟩, Uy _, λ_ _ _ => rfl, λb hb => ?_, jU.aA w⟩⟩
  · intro n
    constructor
    · intro hn
      obtain ⟨⟨a, b, c, hh⟩, hb⟩ := (g.aD n).1 hn;exact ⟨⟨a, b, c, uF.2 hh⟩, by rw [loc n (g.bz hn)]; exact hb⟩
    · rintro ⟨⟨a, b, c, hh⟩, hb⟩
      have u := uF.1 hh;rw [loc n (g.aP u)] at hb;exact (g.aD n).2 ⟨⟨a, b, c, u⟩, hb⟩
  · intro n b hb; exact uF.2 (g.aE n b hb)
  · intro n sz es gr b hh hb
    have u := uF.1 hh;rw [loc n (g.aP u)] at hb;exact (g.aC n sz es gr b u hb).aA kp rfl
  · intro n sz es gr hh hb
    have u := uF.1 hh;rw [loc n (g.aP u)] at hb;exact g.aI n sz es gr u hb
  · rintro n ⟨hn, hb⟩
    rw [loc n hn]; exact g.aK n hb
  · rcases hb with ⟨n, hn, he⟩ | ⟨n, hn⟩
    · exact .inl (.inl ⟨n, hn, e n b hn he⟩)
    · exact .inl (.inr ⟨n, hn⟩)
/-! a block of ours that is kept aside while something else goes on -/
def Gh.aP (G:Gh)(nm:Nat):Gh:={G with aD:=λm=>G.aD m ∨ m=nm}
theorem fO.bD {G w h nm sz es gr b G' w' h'} (g : fO G w h) (hh : h[nm]? = some (some (.aA sz es gr))) (hb : G.aA nm = some b)
    (s : gy (G.aH nm) w G' w') (g' : fO G' w' h') (hn : h'[nm]? = some none) :
    fO (G'.aP nm) w' (h'.set nm (some (.aA sz es gr))) ∧ gy G w (G'.aP nm) w' := by
  have hl := g.aN hh hb
  have a1 := g.aP hh
  have hlt : nm < h'.length := (Up.1 hn).1
  have a3 := g.aO hl hb
  have I : G'.aA nm = some b := by rw [s.aF nm a1]; exact hb
  have M : ¬ (G.aH nm).aI b := by
    rintro (⟨m, hm, he⟩ | ⟨m, hm⟩)
    · exact hm.2 (g.inj m nm b hm.1 hl he hb)
    · exact g.aF nm m b hl hb hm
  have E : ¬ G'.aI b := by
    intro ho
    rcases s.aG b ho with h | h
    · exact M h
    · omega
  have O := s.aE b a3 M
  have kk : ib G' w' (G'.aP nm) w' := ⟨Uy _, λ_ _ _ h => h, λ_ _ h => h, λt b h => by cases t <;> exact h, λ_ _ _ => rfl, λ_ _ => rfl⟩
  have new : (h'.set nm (some (.aA sz es gr)))[nm]? = some (some (.aA sz es gr)) := Ux hlt
  have old : ∀ n, n ≠ nm → (h'.set nm (some (.aA sz es gr)))[n]? = h'[n]? := λn hn => Uq (λe => hn e.symm)
  have kG : ib G w (G'.aP nm) w' := ((G.aO w nm).aG s.aA).aG kk
  have hS : ¬ G'.S b := λhs => (s.S.2 b hs).elim (g.aG nm b hl hb) (λh => absurd a3 (Nat.not_lt.2 h))
  have hT : ∀ m, ¬ G'.aF m b := λm ht => E (.inr ⟨m, ht⟩)
  have a4 : ∀ m, G'.aD m → G'.aA m ≠ some b := λm hm he => E (.inl ⟨m, hm, he⟩)
  refine ⟨{ aA := by simp [Gh.aP, g'.aA], aD := ?_, aE := ?_, inj := ?_, aF := ?_, aG := ?_, aL := g'.aL, aM := g'.aM, aH := g'.aH, aJ := g'.aJ,
            aC := ?_, aI := ?_, aK := g'.aK },
    ⟨kG, s.S, s.aF, s.aJ, s.aC, λx hx ho => s.aE x hx (λhk => ho ?_), λx hx => ?_, s.aH⟩⟩
  · intro n
    by_cases e : n = nm
    · subst e; exact ⟨λ_ => ⟨⟨_, _, _, new⟩, _, I⟩, λ_ => .inr rfl⟩
    · rw [old n e]; exact ⟨λh => (g'.aD n).1 (h.resolve_right e), λh => .inl ((g'.aD n).2 h)⟩
  · intro n x hx
    have e : n ≠ nm := by rintro rfl; rw [g'.aE _ _ hx] at hn; cases hn
    rw [old n e]; exact g'.aE n x hx
  · intro n m x hn hm h1 h2
    by_cases e1 : n = nm <;> by_cases e2 : m = nm
    · rw [e1, e2]
    · subst e1; have u : some b = some x := I.symm.trans h1
      cases u; exact absurd h2 (a4 m (hm.resolve_right e2))
    · subst e2; have a5 : some b = some x := I.symm.trans h2
      cases a5; exact absurd h1 (a4 n (hn.resolve_right e1))
    · exact g'.inj n m x (hn.resolve_right e1) (hm.resolve_right e2) h1 h2
  · intro n m x hn h1 ht
    by_cases e1 : n = nm
    · subst e1; have u : some b = some x := I.symm.trans h1
      cases u; exact hT m ht
    · exact g'.aF n m x (hn.resolve_right e1) h1 ht
  · intro n x hn h1 hs
    by_cases e1 : n = nm
    · subst e1; have u : some b = some x := I.symm.trans h1
      cases u; exact hS hs
    · exact g'.aG n x (hn.resolve_right e1) h1 hs
  · intro n U Z W x hq h1
    by_cases e1 : n = nm
    · subst e1
      rw [new] at hq
      obtain ⟨rfl, rfl, rfl⟩ : sz = U ∧ es = Z ∧ gr = W := by simpa using hq
      have u : some b = some x := I.symm.trans h1
      cases u
      exact (g.aC n sz es gr b hh hb).aA kG O
    · rw [old n e1] at hq
      exact (g'.aC n U Z W x hq h1).aA kk rfl
  · intro n U Z W hq h1
    by_cases e1 : n = nm
    · subst e1; have u : none = some b := h1.symm.trans I
      cases u
    · rw [old n e1] at hq; exact g'.aI n U Z W hq h1
  · rcases hk with ⟨m, hm, he⟩ | ⟨m, hm⟩
    · exact .inl ⟨m, hm.1, he⟩
    · exact .inr ⟨m, hm⟩
  · rcases hx with ⟨m, hm, he⟩ | ⟨m, hm⟩
    · by_cases e : m = nm
      · subst e; have u : some b = some x := I.symm.trans he
        cases u; exact .inl (.inl ⟨m, hl, hb⟩)
      · rcases s.aG x (.inl ⟨m, hm.resolve_right e, he⟩) with h | h
        · rcases h with ⟨q, hq, a2⟩ | ⟨q, hq⟩
          · exact .inl (.inl ⟨q, hq.1, a2⟩)
          · exact .inl (.inr ⟨q, hq⟩)
        · exact .inr h
    · rcases s.aG x (.inr ⟨m, hm⟩) with h | h
      · rcases h with ⟨q, hq, a2⟩ | ⟨q, hq⟩
        · exact .inl (.inl ⟨q, hq.1, a2⟩)
        · exact .inl (.inr ⟨q, hq⟩)
      · exact .inr h
end Glb
