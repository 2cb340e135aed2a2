/-
  A library of its own: its parts, one behind the other.
-/
import Derived.Calls
import Derived.RowKit3
import Derived.Laws.World
import Derived.Laws.Sem
import Derived.Laws.StructEq
import Derived.Laws.Pointers
import Derived.MapKept
import Derived.Laws.Entries
import Derived.Laws.Cells
import Derived.Laws.Small
import Derived.ChangeKeysEq
import Derived.Laws.CopyRow
import Derived.ChangeMaps4
import Derived.WalkSpells
import Derived.Tactics
import Derived.Orders
set_option linter.unusedSimpArgs false
set_option linter.unusedVariables false
/-
  A library of its own, for whatever program: what an abstract value says of a value in memory, and that it stays said.
-/
namespace Glb
open Go

/-- abstract values -/
inductive AV where
  | top
  | bool (b : Bool)
  | int (k : IntKind) (n : Int)
  | str (s : ByteArray)
  | raw (v : Value)
  | nils
  | ptr (n sz i o : Nat)
  | vptr (t : Nat) (cs : List AV)
  | ref (n sz off len : Nat) (cap : Option Nat)
  | vals (t : Nat) (clip : Bool) (sz : Nat) (es : List (List AV))
  | agg (cs : List AV)
  | tup (cs : List AV)
  | clo (f : FuncId) (fs cs : List AV)
  | iface (t : TypeId) (v : AV)
  | mapv (n : Nat)
  | mapnil
  deriving Inhabited

/-- what lies in one cell -/
def AV.scalar : AV → Bool
  | .top | .agg _ | .tup _ => false
  | .raw v => v.oneCell'
  | _ => true

/-- elements of one size, each cell of them one value -/
def okes (sz : Nat) (es : List (List AV)) : Prop := ∀ e ∈ es, e.length = sz ∧ e.all AV.scalar = true

/-- abstract blocks -/
inductive ABlk where
  | arr (sz : Nat) (es : List (List AV)) (grow : Bool)
  | map (es : List (Int × AV))
  | tag
  deriving Inhabited

abbrev AHeap := List (Option ABlk)

/-- what lies in memory of its own -/
def ABlk.real : ABlk → Bool
  | .tag => false
  | _ => true

structure Gh where
  N : Nat
  loc : Nat → Option Nat
  nil : Nat → Prop
  live : Nat → Prop
  tag : Nat → Nat → Prop
  S : Nat → Prop

def Gh.prot (G : Gh) : Nat → Nat → Prop
  | 0, b => G.S b
  | n + 1, b => G.tag n b

def Gh.owned (G : Gh) (b : Nat) : Prop := (∃ n, G.live n ∧ G.loc n = some b) ∨ ∃ n, G.tag n b

def getc (es : List (List AV)) (i j : Nat) : Option AV := es[i]?.bind (·[j]?)

inductive V (G : Gh) (w : World) : AV → Value → Prop
  | top (v) : V G w .top v
  | bool (b) : V G w (.bool b) (.bool b)
  | int (k n) : V G w (.int k n) (.int k n)
  | str (s) : V G w (.str s) (.string s)
  | raw (v) : V G w (.raw v) v
  | nils : V G w .nils (.slice none 0 0)
  | ptr (n sz i o b : Nat) : n < G.N → G.loc n = some b → V G w (.ptr n sz i o) (.pointer (some ⟨b, i * sz + o, none⟩))
  | vptr (t : Nat) (cs : List AV) (b off : Nat) (f : Nat → Value) : G.prot t b → (∀ (j : Nat) (c : AV), cs[j]? = some c → w.cell? ⟨b, off + j, none⟩ = some (f j)) →
      (∀ (j : Nat) (c : AV), cs[j]? = some c → V G w c (f j)) → V G w (.vptr t cs) (.pointer (some ⟨b, off, none⟩))
  | ref (n sz off len : Nat) (cap : Option Nat) (c : Nat) (ty : TypeId) (m b : Nat) : n < G.N → G.loc n = some b → len ≤ c → (∀ k, cap = some k → c = k) →
      w.shape? b = some (ty, m) → (off + c) * sz ≤ m → V G w (.ref n sz off len cap) (.slice (some ⟨b, off * sz, none⟩) len c)
  | refNil (n sz : Nat) (cap : Option Nat) : n < G.N → G.nil n → (∀ k, cap = some k → k = 0) → V G w (.ref n sz 0 0 cap) (.slice none 0 0)
  | vals (t : Nat) (clip : Bool) (sz : Nat) (es : List (List AV)) (a : Addr) (cap : Nat) (f : Nat → Nat → Value) : es.length ≤ cap → (clip = true → cap = es.length) → (cap ≠ 0 → a.spot = none) →
      (es ≠ [] → G.prot t a.block) → okes sz es →
      (∀ i j c, getc es i j = some c → w.cell? ⟨a.block, a.off + (i * sz + j), none⟩ = some (f i j)) →
      (∀ i j c, getc es i j = some c → V G w c (f i j)) → V G w (.vals t clip sz es) (.slice (some a) es.length cap)
  | valsNil (t clip sz) : V G w (.vals t clip sz []) (.slice none 0 0)
  | agg (cs : List AV) (vs : Array Value) : cs.length = vs.size → (∀ (j : Nat) (c : AV) (v : Value), cs[j]? = some c → vs[j]? = some v → V G w c v) → V G w (.agg cs) (.agg vs)
  | tup (cs : List AV) (vs : Array Value) : cs.length = vs.size → (∀ (j : Nat) (c : AV) (v : Value), cs[j]? = some c → vs[j]? = some v → V G w c v) → V G w (.tup cs) (.tuple vs)
  | clo (f : FuncId) (fs : List AV) (us : Array Value) (cs : List AV) (vs : Array Value) : fs.length = us.size → (∀ (j : Nat) (c : AV) (v : Value), fs[j]? = some c → us[j]? = some v → V G w c v) →
      cs.length = vs.size → (∀ (j : Nat) (c : AV) (v : Value), cs[j]? = some c → vs[j]? = some v → V G w c v) → V G w (.clo f fs cs) (.func (.func f) us vs)
  | iface (t c v) : V G w c v → V G w (.iface t c) (.iface t v)
  | mapv (n b : Nat) : n < G.N → G.loc n = some b → V G w (.mapv n) (.map (some b))
  | mapnil : V G w .mapnil (.map none)

/-- what must hold of two states so that whatever was said stays said -/
structure Keeps (G : Gh) (w : World) (G' : Gh) (w' : World) : Prop where
  N : G.N ≤ G'.N
  loc : ∀ n b, n < G.N → G.loc n = some b → G'.loc n = some b
  nil : ∀ n, n < G.N → G.nil n → G'.nil n
  prot : ∀ t b, G.prot t b → G'.prot t b
  heap : ∀ t b, G.prot t b → w'.heap[b]? = w.heap[b]?
  shape : ∀ b, (w.shape? b).isSome → w'.shape? b = w.shape? b

theorem cell_of_heap {w w' : World} {a : Addr} (h : w'.heap[a.block]? = w.heap[a.block]?) : w'.cell? a = w.cell? a := by
  simp only [World.cell?, h]

theorem V.keep {G w G' w' av v} (k : Keeps G w G' w') (h : V G w av v) : V G' w' av v := by
  induction h with
  | top v => exact .top v
  | bool b => exact .bool b
  | int k n => exact .int k n
  | str s => exact .str s
  | raw v => exact .raw v
  | nils => exact .nils
  | ptr n sz i o b hn hb => exact .ptr n sz i o b (Nat.lt_of_lt_of_le hn k.N) (k.loc n b hn hb)
  | vptr t cs b off f hp hc _ ih =>
    exact .vptr t cs b off f (k.prot _ _ hp) (fun j c hj => by rw [cell_of_heap (a := ⟨b, off + j, none⟩) (k.heap _ _ hp)]; exact hc j c hj) ih
  | ref n sz off len cap c ty m b hn hb hl hcap hs hm =>
    exact .ref n sz off len cap c ty m b (Nat.lt_of_lt_of_le hn k.N) (k.loc n b hn hb) hl hcap (by rw [k.shape _ (by simp [hs]), hs]) hm
  | refNil n sz cap hn hb hc => exact .refNil n sz cap (Nat.lt_of_lt_of_le hn k.N) (k.nil n hn hb) hc
  | vals t clip sz es a cap f hl hcl hsp hp hes hc _ ih =>
    refine .vals t clip sz es a cap f hl hcl hsp (fun h => k.prot _ _ (hp h)) hes (fun i j c hj => ?_) ih
    have hne : es ≠ [] := by rintro rfl; simp [getc] at hj
    rw [cell_of_heap (a := ⟨a.block, a.off + (i * sz + j), none⟩) (k.heap _ _ (hp hne))]; exact hc i j c hj
  | valsNil t clip sz => exact .valsNil t clip sz
  | agg cs vs hl _ ih => exact .agg cs vs hl ih
  | tup cs vs hl _ ih => exact .tup cs vs hl ih
  | clo f fs us cs vs hl _ hl' _ ih ih' => exact .clo f fs us cs vs hl ih hl' ih'
  | iface t c v _ ih => exact .iface t c v ih
  | mapv n b hn hb => exact .mapv n b (Nat.lt_of_lt_of_le hn k.N) (k.loc n b hn hb)
  | mapnil => exact .mapnil

/-- a block's cells read as its elements -/
structure Holds (G : Gh) (w : World) (b : Nat) (sz : Nat) (es : List (List AV)) (grow : Bool) : Prop where
  ex : ∃ cells ty, w.heap[b]? = some (.cells cells ty (0, 0)) ∧ es.length * sz ≤ cells.size ∧ (grow = false → cells.size = es.length * sz) ∧
    ∀ i j c, getc es i j = some c → ∃ v, cells[i * sz + j]? = some v ∧ V G w c v
  sz : okes sz es

/-- a block is a map: its entries, in the order in which they came -/
structure HoldsM (G : Gh) (w : World) (b : Nat) (es : List (Int × AV)) : Prop where
  ex : ∃ (entries : Array MapEntry) (clock : Nat), w.heap[b]? = some (.map entries clock) ∧ MapKept.Stamped entries clock ∧ entries.size = es.length ∧
    ∀ (i : Nat) (k : Int) (c : AV), es[i]? = some (k, c) → ∃ e, entries[i]? = some e ∧ e.key = .int .i64 k ∧ V G w c e.val
  keys : (es.map (·.1)).Nodup ∧ ∀ e ∈ es, -9223372036854775808 ≤ e.1 ∧ e.1 ≤ 9223372036854775807

structure Gam (G : Gh) (w : World) (h : AHeap) : Prop where
  len : h.length = G.N
  live : ∀ n, G.live n ↔ (∃ B, h[n]? = some (some B) ∧ B.real = true) ∧ ∃ b, G.loc n = some b
  tag : ∀ n b, G.tag n b → h[n]? = some (some .tag)
  inj : ∀ n m b, G.live n → G.live m → G.loc n = some b → G.loc m = some b → n = m
  liveTag : ∀ n m b, G.live n → G.loc n = some b → ¬ G.tag m b
  liveS : ∀ n b, G.live n → G.loc n = some b → ¬ G.S b
  tagInj : ∀ n m b, G.tag n b → G.tag m b → n = m
  tagS : ∀ n b, G.tag n b → ¬ G.S b
  tagLt : ∀ n b, G.tag n b → b < w.heap.size
  sLt : ∀ b, G.S b → b < w.heap.size
  arr : ∀ n sz es g b, h[n]? = some (some (.arr sz es g)) → G.loc n = some b → Holds G w b sz es g
  nil : ∀ n sz es g, h[n]? = some (some (.arr sz es g)) → G.loc n = none → es = []
  nilLoc : ∀ n, G.nil n → G.loc n = none
  map : ∀ n es b, h[n]? = some (some (.map es)) → G.loc n = some b → HoldsM G w b es

theorem Gam.ltN {G w h} (g : Gam G w h) {n x} (hn : h[n]? = some x) : n < G.N := by
  rw [← g.len]; exact (List.getElem?_eq_some_iff.1 hn).1

theorem Gam.mkLive {G w h} (g : Gam G w h) {n sz es gr b} (hn : h[n]? = some (some (.arr sz es gr))) (hb : G.loc n = some b) : G.live n :=
  (g.live n).2 ⟨⟨_, hn, rfl⟩, b, hb⟩

theorem Gam.mkLiveM {G w h} (g : Gam G w h) {n es b} (hn : h[n]? = some (some (.map es))) (hb : G.loc n = some b) : G.live n :=
  (g.live n).2 ⟨⟨_, hn, rfl⟩, b, hb⟩

theorem Gam.locLt {G w h} (g : Gam G w h) {n b} (hn : G.live n) (hb : G.loc n = some b) : b < w.heap.size := by
  obtain ⟨⟨B, hh, hr⟩, _⟩ := (g.live n).1 hn
  cases B with
  | arr sz es gr =>
    obtain ⟨cells, ty, hc, _⟩ := (g.arr n sz es gr b hh hb).ex
    exact (Array.getElem?_eq_some_iff.1 hc).1
  | map es =>
    obtain ⟨entries, clock, hc, _⟩ := (g.map n es b hh hb).ex
    exact (Array.getElem?_eq_some_iff.1 hc).1
  | tag => cases hr

theorem Gam.ownedLt {G w h} (g : Gam G w h) {b} (hb : G.owned b) : b < w.heap.size := by
  rcases hb with ⟨n, hn, hl⟩ | ⟨n, hn⟩
  · exact g.locLt hn hl
  · exact g.tagLt n b hn

/-- what lies beside the cells stays -/
def Rest (w w' : World) : Prop := w'.os = w.os ∧ w'.output = w.output ∧ w.heap.size ≤ w'.heap.size ∧ ∀ a, a.block < w.heap.size → w'.frozen? a = w.frozen? a

theorem Rest.refl (w) : Rest w w := ⟨rfl, rfl, Nat.le_refl _, fun _ _ => rfl⟩
theorem Rest.trans {w w1 w2} (a : Rest w w1) (b : Rest w1 w2) : Rest w w2 := ⟨b.1.trans a.1, b.2.1.trans a.2.1, Nat.le_trans a.2.2.1 b.2.2.1, fun x hx => (b.2.2.2 x (Nat.lt_of_lt_of_le hx a.2.2.1)).trans (a.2.2.2 x hx)⟩
theorem Rest.alloc (w : World) (c : Array Value) (t : TypeId) : Rest w (w.alloc (.cells c t)) := ⟨rfl, rfl, by simp, fun a _ => Go.RowKit.frozen?_alloc_cells w c t a⟩
theorem Rest.setCell (w : World) (a : Addr) (v : Value) : Rest w (w.setCell a v) := ⟨rfl, rfl, by simp, fun _ _ => World.frozen?_setCell _ _ _ _⟩

/-- one step, or many: nothing that is not ours has changed, and all that was said stays said -/
structure Stp (G : Gh) (w : World) (G' : Gh) (w' : World) : Prop where
  keep : Keeps G w G' w'
  S : (∀ b, G.S b → G'.S b) ∧ ∀ b, G'.S b → G.S b ∨ w.heap.size ≤ b
  locEq : ∀ n, n < G.N → G'.loc n = G.loc n
  nilEq : ∀ n, n < G.N → (G'.nil n ↔ G.nil n)
  size : w.heap.size ≤ w'.heap.size
  frame : ∀ b, b < w.heap.size → ¬ G.owned b → w'.heap[b]? = w.heap[b]?
  own : ∀ b, G'.owned b → G.owned b ∨ w.heap.size ≤ b
  rest : Rest w w'

theorem Keeps.refl (G w) : Keeps G w G w := ⟨Nat.le_refl _, fun _ _ _ h => h, fun _ _ h => h, fun _ _ h => h, fun _ _ _ => rfl, fun _ _ => rfl⟩

theorem Keeps.trans {G w G1 w1 G2 w2} (a : Keeps G w G1 w1) (b : Keeps G1 w1 G2 w2) : Keeps G w G2 w2 where
  N := Nat.le_trans a.N b.N
  loc n x h e := b.loc n x (Nat.lt_of_lt_of_le h a.N) (a.loc n x h e)
  nil n h e := b.nil n (Nat.lt_of_lt_of_le h a.N) (a.nil n h e)
  prot t x h := b.prot t x (a.prot t x h)
  heap t x h := by rw [b.heap t x (a.prot t x h), a.heap t x h]
  shape x h := by rw [b.shape x (by rw [a.shape x h]; exact h), a.shape x h]

theorem Stp.refl (G w) : Stp G w G w := ⟨Keeps.refl G w, ⟨fun _ h => h, fun _ h => .inl h⟩, fun _ _ => rfl, fun _ _ => Iff.rfl, Nat.le_refl _, fun _ _ _ => rfl, fun _ h => .inl h, Rest.refl w⟩

theorem Stp.trans {G w G1 w1 G2 w2} (a : Stp G w G1 w1) (b : Stp G1 w1 G2 w2) : Stp G w G2 w2 where
  keep := a.keep.trans b.keep
  S := ⟨fun x h => b.S.1 x (a.S.1 x h), fun x h => (b.S.2 x h).elim (a.S.2 x) (fun h => .inr (Nat.le_trans a.size h))⟩
  locEq n h := by rw [b.locEq n (Nat.lt_of_lt_of_le h a.keep.N), a.locEq n h]
  nilEq n h := (b.nilEq n (Nat.lt_of_lt_of_le h a.keep.N)).trans (a.nilEq n h)
  size := Nat.le_trans a.size b.size
  frame x hx hn := by
    rw [b.frame x (Nat.lt_of_lt_of_le hx a.size) ?_, a.frame x hx hn]
    intro ho
    rcases a.own x ho with h | h
    · exact hn h
    · omega
  own x hx := by
    rcases b.own x hx with h | h
    · exact a.own x h
    · exact .inr (Nat.le_trans a.size h)
  rest := a.rest.trans b.rest

/-- a draw changes nothing -/
theorem Stp.drew (G w) (n : Nat) : Stp G w G { w with drawn := n } :=
  ⟨⟨Nat.le_refl _, fun _ _ _ h => h, fun _ _ h => h, fun _ _ h => h, fun _ _ _ => rfl, fun _ _ => rfl⟩, ⟨fun _ h => h, fun _ h => .inl h⟩, fun _ _ => rfl, fun _ _ => Iff.rfl, Nat.le_refl _, fun _ _ _ => rfl, fun _ h => .inl h, rfl, rfl, Nat.le_refl _, fun _ _ => rfl⟩

theorem Holds.keep {G w G' w' b sz es gr} (k : Keeps G w G' w') (hb : w'.heap[b]? = w.heap[b]?) (h : Holds G w b sz es gr) : Holds G' w' b sz es gr := by
  obtain ⟨⟨cells, ty, hc, h1, h2, h3⟩, hs⟩ := h
  exact ⟨⟨cells, ty, hb ▸ hc, h1, h2, fun i j c hj => let ⟨v, hv, hV⟩ := h3 i j c hj; ⟨v, hv, hV.keep k⟩⟩, hs⟩

theorem HoldsM.keep {G w G' w' b es} (k : Keeps G w G' w') (hb : w'.heap[b]? = w.heap[b]?) (h : HoldsM G w b es) : HoldsM G' w' b es := by
  obtain ⟨⟨entries, clock, hc, h1, h2, h3⟩, hs⟩ := h
  exact ⟨⟨entries, clock, hb ▸ hc, h1, h2, fun i key c hj => let ⟨e, he, hk, hV⟩ := h3 i key c hj; ⟨e, he, hk, hV.keep k⟩⟩, hs⟩

/-- a state with the same heap -/
theorem Gam.same {G w h w'} (g : Gam G w h) (hh : w'.heap = w.heap) : Gam G w' h := by
  have k : Keeps G w G w' := ⟨Nat.le_refl _, fun _ _ _ h => h, fun _ _ h => h, fun _ _ h => h, fun _ _ _ => by rw [hh], fun _ _ => by simp only [World.shape?, hh]⟩
  exact { len := g.len, live := g.live, tag := g.tag, inj := g.inj, liveTag := g.liveTag, liveS := g.liveS, tagInj := g.tagInj, tagS := g.tagS,
          tagLt := fun n b hb => by rw [hh]; exact g.tagLt n b hb, sLt := fun b hb => by rw [hh]; exact g.sLt b hb,
          arr := fun n sz es gr b hn hb => (g.arr n sz es gr b hn hb).keep k (by rw [hh]), nil := g.nil, nilLoc := g.nilLoc,
          map := fun n es b hn hb => (g.map n es b hn hb).keep k (by rw [hh]) }

/-! a new block -/

def Gh.new (G : Gh) (ob : Option Nat) : Gh :=
  { G with N := G.N + 1, loc := fun n => if n = G.N then ob else G.loc n, nil := fun n => if n = G.N then ob = none else G.nil n, live := fun n => G.live n ∨ (n = G.N ∧ ob.isSome) }

theorem shape_alloc {w : World} {o : Obj} {b : Nat} (h : (w.shape? b).isSome) : (w.alloc o).shape? b = w.shape? b := by
  have hb : b < w.heap.size := by
    apply Classical.byContradiction; intro hn
    simp only [World.shape?, Array.getElem?_eq_none (Nat.le_of_not_lt hn)] at h
    exact absurd h (by simp)
  simp only [World.shape?, World.alloc, Array.getElem?_push, Nat.ne_of_lt hb, if_false]

theorem heap_alloc {w : World} {o : Obj} {b : Nat} (hb : b < w.heap.size) : (w.alloc o).heap[b]? = w.heap[b]? := by
  simp only [World.alloc, Array.getElem?_push, Nat.ne_of_lt hb, if_false]

theorem heap_alloc_new {w : World} {o : Obj} : (w.alloc o).heap[w.heap.size]? = some o := by
  show (w.heap.push o)[w.heap.size]? = some o
  simp

theorem Gam.notLive {G w h} (g : Gam G w h) : ¬ G.live G.N := by
  intro hl
  obtain ⟨⟨B, hh, _⟩, _⟩ := (g.live _).1 hl
  exact Nat.lt_irrefl _ (g.ltN hh)

theorem Gam.notTag {G w h} (g : Gam G w h) (b) : ¬ G.tag G.N b := by
  intro ht
  have := (List.getElem?_eq_some_iff.1 (g.tag _ _ ht)).1
  rw [g.len] at this
  exact Nat.lt_irrefl _ this

theorem Gam.protLt {G w h} (g : Gam G w h) {t b} (hp : G.prot t b) : b < w.heap.size := by
  cases t with
  | zero => exact g.sLt b hp
  | succ n => exact g.tagLt n b hp

theorem Gam.keepsName {G w h} (g : Gam G w h) (ob : Option Nat) : Keeps G w (G.new ob) w where
  N := Nat.le_succ _
  loc n b hn hb := by simp only [Gh.new, Nat.ne_of_lt hn, if_false]; exact hb
  nil n hn hb := by simp only [Gh.new, Nat.ne_of_lt hn, if_false]; exact hb
  prot t b hp := by cases t <;> exact hp
  heap t b hp := rfl
  shape b hb := rfl

theorem Gam.keepsNew {G w h} (g : Gam G w h) (o : Obj) : Keeps G w (G.new (some w.heap.size)) (w.alloc o) where
  N := Nat.le_succ _
  loc n b hn hb := by simp only [Gh.new, Nat.ne_of_lt hn, if_false]; exact hb
  nil n hn hb := by simp only [Gh.new, Nat.ne_of_lt hn, if_false]; exact hb
  prot t b hp := by cases t <;> exact hp
  heap t b hp := heap_alloc (g.protLt hp)
  shape b hb := shape_alloc hb

theorem Gam.stpNew {G w h} (g : Gam G w h) (c : Array Value) (t : TypeId) : Stp G w (G.new (some w.heap.size)) (w.alloc (.cells c t)) where
  rest := Rest.alloc w c t
  keep := g.keepsNew _
  S := ⟨fun _ h => h, fun _ h => .inl h⟩
  locEq n hn := by simp only [Gh.new, Nat.ne_of_lt hn, if_false]
  nilEq n hn := by simp only [Gh.new, Nat.ne_of_lt hn, if_false]
  size := by simp
  frame b hb _ := heap_alloc hb
  own b hb := by
    rcases hb with ⟨n, hn, he⟩ | ⟨n, hn⟩
    · by_cases h : n = G.N
      · simp only [Gh.new, h, if_true, Option.some.injEq] at he; exact .inr (by omega)
      · simp only [Gh.new, h, if_false] at he
        exact .inl (.inl ⟨n, hn.resolve_right (fun x => h x.1), he⟩)
    · exact .inl (.inr ⟨n, hn⟩)

theorem append_old {G w h} (g : Gam G w h) (y : Option ABlk) {n} {x : Option ABlk} (hn : n ≠ G.N) : (h ++ [y])[n]? = some x ↔ h[n]? = some x := by
  rw [← g.len] at hn
  rcases Nat.lt_or_ge n h.length with hl | hl
  · rw [List.getElem?_append_left hl]
  · have : h.length < n := by omega
    rw [List.getElem?_eq_none (by simp; omega), List.getElem?_eq_none hl]

theorem append_new {G w h} (g : Gam G w h) (y : Option ABlk) : (h ++ [y])[G.N]? = some y := by rw [← g.len]; simp

/-- a new name for a row of cells: 'ob': where it lies (a new block, or one that nobody owns), or nil -/
theorem Gam.gamName {G w h} (g : Gam G w h) {ob : Option Nat} {w' : World} {sz : Nat} {es : List (List AV)} {gr : Bool}
    (k : Keeps G w (G.new ob) w') (hsize : w.heap.size ≤ w'.heap.size) (hother : ∀ n b, G.live n → G.loc n = some b → w'.heap[b]? = w.heap[b]?)
    (hfree : ∀ b, ob = some b → (∀ n, G.live n → G.loc n ≠ some b) ∧ (∀ n, ¬ G.tag n b) ∧ ¬ G.S b)
    (hH : ∀ b, ob = some b → Holds (G.new ob) w' b sz es gr) (hnil : ob = none → es = []) :
    Gam (G.new ob) w' (h ++ [some (.arr sz es gr)]) := by
  have new := append_new g (some (ABlk.arr sz es gr))
  have old := fun n x (hn : n ≠ G.N) => append_old g (some (ABlk.arr sz es gr)) (n := n) (x := x) hn
  have locN : (G.new ob).loc G.N = ob := by simp [Gh.new]
  have locO : ∀ n, n ≠ G.N → (G.new ob).loc n = G.loc n := fun n hn => by simp [Gh.new, hn]
  have liveO : ∀ n, n ≠ G.N → ((G.new ob).live n ↔ G.live n) := fun n hn => ⟨fun h => h.resolve_right (fun x => hn x.1), .inl⟩
  refine { len := by simp [Gh.new, g.len], live := ?_, tag := ?_, inj := ?_, liveTag := ?_, liveS := ?_, tagInj := g.tagInj, tagS := g.tagS,
           tagLt := ?_, sLt := ?_, arr := ?_, nil := ?_, nilLoc := ?_, map := ?_ }
  · intro n
    by_cases hn : n = G.N
    · subst hn
      rw [locN]
      constructor
      · rintro (hl | ⟨_, ho⟩)
        · exact absurd hl g.notLive
        · exact ⟨⟨_, new, rfl⟩, Option.isSome_iff_exists.1 ho⟩
      · rintro ⟨_, b, hb⟩; exact .inr ⟨rfl, by simp [hb]⟩
    · rw [liveO n hn, locO n hn, g.live n]
      constructor <;> rintro ⟨⟨B, hh, hr⟩, hb⟩
      · exact ⟨⟨B, (old n _ hn).2 hh, hr⟩, hb⟩
      · exact ⟨⟨B, (old n _ hn).1 hh, hr⟩, hb⟩
  · intro n b hb
    have : n ≠ G.N := by rintro rfl; exact g.notTag b hb
    exact (old n _ this).2 (g.tag n b hb)
  · intro n m b hn hm hbn hbm
    by_cases h1 : n = G.N <;> by_cases h2 : m = G.N
    · rw [h1, h2]
    · subst h1; rw [locN] at hbn; rw [locO m h2] at hbm
      exact absurd hbm ((hfree b hbn).1 m ((liveO m h2).1 hm))
    · subst h2; rw [locN] at hbm; rw [locO n h1] at hbn
      exact absurd hbn ((hfree b hbm).1 n ((liveO n h1).1 hn))
    · rw [locO n h1] at hbn; rw [locO m h2] at hbm
      exact g.inj n m b ((liveO n h1).1 hn) ((liveO m h2).1 hm) hbn hbm
  · intro n m b hn hb ht
    by_cases h1 : n = G.N
    · subst h1; rw [locN] at hb; exact (hfree b hb).2.1 m ht
    · rw [locO n h1] at hb; exact g.liveTag n m b ((liveO n h1).1 hn) hb ht
  · intro n b hn hb hs
    by_cases h1 : n = G.N
    · subst h1; rw [locN] at hb; exact (hfree b hb).2.2 hs
    · rw [locO n h1] at hb; exact g.liveS n b ((liveO n h1).1 hn) hb hs
  · intro n b hb; exact Nat.lt_of_lt_of_le (g.tagLt n b hb) hsize
  · intro b hb; exact Nat.lt_of_lt_of_le (g.sLt b hb) hsize
  · intro n sz' es' gr' b hn hb
    by_cases h1 : n = G.N
    · subst h1
      rw [new] at hn
      obtain ⟨rfl, rfl, rfl⟩ : sz = sz' ∧ es = es' ∧ gr = gr' := by simpa using hn
      rw [locN] at hb
      exact hH b hb
    · have hn' := (old n _ h1).1 hn
      rw [locO n h1] at hb
      exact (g.arr n sz' es' gr' b hn' hb).keep k (hother n b (g.mkLive hn' hb) hb)
  · intro n sz' es' gr' hn hb
    by_cases h1 : n = G.N
    · subst h1
      rw [new] at hn
      obtain ⟨rfl, rfl, rfl⟩ : sz = sz' ∧ es = es' ∧ gr = gr' := by simpa using hn
      rw [locN] at hb
      exact hnil hb
    · rw [locO n h1] at hb
      exact g.nil n sz' es' gr' ((old n _ h1).1 hn) hb
  · intro n hn
    by_cases h1 : n = G.N
    · subst h1
      rw [locN]
      simpa [Gh.new] using hn
    · rw [locO n h1]
      exact g.nilLoc n (by simpa [Gh.new, h1] using hn)
  · intro n es' b hn hb
    by_cases h1 : n = G.N
    · subst h1; rw [new] at hn; simp at hn
    · have hn' := (old n _ h1).1 hn
      rw [locO n h1] at hb
      exact (g.map n es' b hn' hb).keep k (hother n b (g.mkLiveM hn' hb) hb)

/-- the elements of a new row of cells -/
theorem Gam.gamNew {G w h} (g : Gam G w h) {cells : Array Value} {ty : TypeId} {sz : Nat} {es : List (List AV)} {gr : Bool}
    (hsz : okes sz es) (hle : es.length * sz ≤ cells.size) (hgr : gr = false → cells.size = es.length * sz)
    (hV : ∀ i j c, getc es i j = some c → ∃ v, cells[i * sz + j]? = some v ∧ V G w c v) :
    Gam (G.new (some w.heap.size)) (w.alloc (.cells cells ty)) (h ++ [some (.arr sz es gr)]) := by
  have k := g.keepsNew (.cells cells ty)
  refine g.gamName k (by simp) (fun n b hn hb => heap_alloc (g.locLt hn hb)) ?_ ?_ (by simp)
  · rintro b ⟨⟩
    refine ⟨fun n hn hb => Nat.lt_irrefl _ (g.locLt hn hb), fun n ht => Nat.lt_irrefl _ (g.tagLt n _ ht), fun hs => Nat.lt_irrefl _ (g.sLt _ hs)⟩
  · rintro b ⟨⟩
    exact ⟨⟨cells, ty, heap_alloc_new, hle, hgr, fun i j c hj => let ⟨v, hv, hV⟩ := hV i j c hj; ⟨v, hv, hV.keep k⟩⟩, hsz⟩

/-! a store into a block of ours -/

theorem shape_setCell {w : World} {a : Addr} {v : Value} {b : Nat} : (w.setCell a v).shape? b = w.shape? b := by
  simp only [World.shape?, World.setCell, Array.getElem?_modify]
  by_cases h : a.block = b
  · subst h
    simp only [if_true]
    cases w.heap[a.block]? with
    | none => rfl
    | some o => cases o <;> simp; split <;> simp
  · simp only [h, if_false]

theorem heap_setCell_ne {w : World} {a : Addr} {v : Value} {b : Nat} (h : a.block ≠ b) : (w.setCell a v).heap[b]? = w.heap[b]? := by
  simp only [World.setCell, Array.getElem?_modify, h, if_false]

theorem heap_setCell_eq {w : World} {b o : Nat} {v : Value} {cells : Array Value} {ty : TypeId} {fr : Nat × Nat} (h : w.heap[b]? = some (.cells cells ty fr)) :
    (w.setCell ⟨b, o, none⟩ v).heap[b]? = some (.cells (cells.setIfInBounds o v) ty fr) := by
  simp [World.setCell, Array.getElem?_modify, h]

theorem Gam.keepsSet {G w h} (g : Gam G w h) {n b} (hn : G.live n) (hb : G.loc n = some b) (o : Nat) (v : Value) : Keeps G w G (w.setCell ⟨b, o, none⟩ v) where
  N := Nat.le_refl _
  loc _ _ _ h := h
  nil _ _ h := h
  prot _ _ h := h
  heap t b' hp := heap_setCell_ne (by
    rintro rfl
    cases t with
    | zero => exact g.liveS n _ hn hb hp
    | succ m => exact g.liveTag n m _ hn hb hp)
  shape b _ := shape_setCell

theorem Gam.stpSet {G w h} (g : Gam G w h) {n b} (hn : G.live n) (hb : G.loc n = some b) (o : Nat) (v : Value) : Stp G w G (w.setCell ⟨b, o, none⟩ v) where
  rest := Rest.setCell w _ v
  keep := g.keepsSet hn hb o v
  S := ⟨fun _ h => h, fun _ h => .inl h⟩
  locEq _ _ := rfl
  nilEq _ _ := Iff.rfl
  size := by simp
  frame b' _ hb' := heap_setCell_ne (by rintro rfl; exact hb' (.inl ⟨n, hn, hb⟩))
  own b hb := .inl hb

def setc (es : List (List AV)) (i j : Nat) (c : AV) : List (List AV) := es.modify i (·.set j c)

theorem getc_setc {es : List (List AV)} {i j i' j' : Nat} {c : AV} :
    getc (setc es i j c) i' j' = if i' = i ∧ j' = j ∧ (getc es i j).isSome then some c else getc es i' j' := by
  simp only [getc, setc, List.getElem?_modify]
  by_cases hi : i' = i
  · subst hi
    simp only [if_true, true_and]
    cases h : es[i']? with
    | none => simp
    | some e =>
      simp only [Option.map_some, Option.bind_some]
      by_cases hj : j' = j
      · subst hj
        by_cases hl : j' < e.length
        · simp [List.getElem?_set, hl]
        · simp [List.getElem?_set, hl]
      · have : ¬ (j = j') := fun h => hj h.symm
        simp [List.getElem?_set, hj, this]
  · have : ¬ (i = i') := fun h => hi h.symm
    simp [hi, this]

theorem length_setc {es : List (List AV)} {i j : Nat} {c : AV} : (setc es i j c).length = es.length := by simp [setc]

theorem mul_add_inj {sz i j i' j' : Nat} (hj : j < sz) (hj' : j' < sz) (h : i * sz + j = i' * sz + j') : i = i' ∧ j = j' := by
  have hs : 0 < sz := by omega
  have hi : i = i' := by
    have e1 : (i * sz + j) / sz = i := by rw [Nat.mul_comm, Nat.mul_add_div hs, Nat.div_eq_of_lt hj, Nat.add_zero]
    have e2 : (i' * sz + j') / sz = i' := by rw [Nat.mul_comm, Nat.mul_add_div hs, Nat.div_eq_of_lt hj', Nat.add_zero]
    rw [← e1, ← e2, h]
  subst hi
  exact ⟨rfl, by omega⟩

theorem getc_lt {es : List (List AV)} {i j sz : Nat} {c : AV} (hs : okes sz es) (h : getc es i j = some c) : i < es.length ∧ j < sz := by
  simp only [getc] at h
  cases he : es[i]? with
  | none => simp [he] at h
  | some e =>
    simp [he] at h
    obtain ⟨hi, rfl⟩ := List.getElem?_eq_some_iff.1 he
    have := (hs _ (List.getElem_mem hi)).1
    have := (List.getElem?_eq_some_iff.1 h).1
    exact ⟨hi, by omega⟩

theorem cell_lt {n sz i j : Nat} (hi : i < n) (hj : j < sz) : i * sz + j < n * sz := by
  have := Nat.mul_le_mul_right sz (Nat.succ_le_of_lt hi)
  rw [Nat.succ_mul] at this
  omega

theorem Holds.cell {G w b sz es gr i j c} (h : Holds G w b sz es gr) (hc : getc es i j = some c) :
    ∃ v, w.cell? ⟨b, i * sz + j, none⟩ = some v ∧ w.frozen? ⟨b, i * sz + j, none⟩ = false ∧ V G w c v := by
  obtain ⟨⟨cells, ty, hh, _, _, h3⟩, _⟩ := h
  obtain ⟨v, hv, hV⟩ := h3 i j c hc
  exact ⟨v, by simp [World.cell?, hh, hv], by simp [World.frozen?, hh], hV⟩

theorem Gam.gamSet {G w h} (g : Gam G w h) {n b sz es gr i j c0 c} {v : Value} (hn : h[n]? = some (some (.arr sz es gr))) (hb : G.loc n = some b)
    (hc : getc es i j = some c0) (hV : V G w c v) (hsc : c.scalar = true) :
    Gam G (w.setCell ⟨b, i * sz + j, none⟩ v) (h.set n (some (.arr sz (setc es i j c) gr))) := by
  have hl : G.live n := g.mkLive hn hb
  have k := g.keepsSet hl hb (i * sz + j) v
  have hlt : n < h.length := (List.getElem?_eq_some_iff.1 hn).1
  refine { len := by simp [g.len], live := ?_, tag := ?_, inj := g.inj, liveTag := g.liveTag, liveS := g.liveS, tagInj := g.tagInj, tagS := g.tagS,
           tagLt := fun m b hb => by simpa using g.tagLt m b hb, sLt := fun b hb => by simpa using g.sLt b hb, arr := ?_, nil := ?_, nilLoc := g.nilLoc, map := ?_ }
  · intro m
    rw [g.live m]
    by_cases hm : n = m
    · subst hm
      exact ⟨fun h => ⟨⟨.arr sz (setc es i j c) gr, by simp [hlt], rfl⟩, h.2⟩, fun h => ⟨⟨_, hn, rfl⟩, h.2⟩⟩
    · rw [List.getElem?_set_ne hm]
  · intro m b hb
    have hm : n ≠ m := by rintro rfl; rw [g.tag _ _ hb] at hn; simp at hn
    rw [List.getElem?_set_ne hm]; exact g.tag m b hb
  · intro m sz' es' gr' b' hm hb'
    by_cases h1 : n = m
    · subst h1
      rw [hb] at hb'; cases hb'
      rw [List.getElem?_set_self hlt] at hm
      obtain ⟨rfl, rfl, rfl⟩ : sz = sz' ∧ setc es i j c = es' ∧ gr = gr' := by simpa using hm
      obtain ⟨⟨cells, ty, hh, h1, h2, h3⟩, hs⟩ := g.arr n sz es gr b hn hb
      obtain ⟨hi, hj⟩ := getc_lt hs hc
      refine ⟨⟨cells.setIfInBounds (i * sz + j) v, ty, heap_setCell_eq hh, by simpa [length_setc] using h1, by simpa [length_setc] using h2, ?_⟩, ?_⟩
      · intro i' j' c' hc'
        rw [getc_setc] at hc'
        have hlt' := cell_lt hi hj
        by_cases he : i' = i ∧ j' = j
        · obtain ⟨rfl, rfl⟩ := he
          simp only [hc, Option.isSome_some, and_self, if_true, Option.some.injEq] at hc'
          subst hc'
          exact ⟨v, by rw [Array.getElem?_setIfInBounds_self_of_lt (by omega)], hV.keep k⟩
        · have : ¬ (i' = i ∧ j' = j ∧ (getc es i j).isSome = true) := fun h => he ⟨h.1, h.2.1⟩
          rw [if_neg this] at hc'
          obtain ⟨v', hv', hV'⟩ := h3 i' j' c' hc'
          refine ⟨v', ?_, hV'.keep k⟩
          obtain ⟨hi', hj'⟩ := getc_lt hs hc'
          rw [Array.getElem?_setIfInBounds_ne (fun e => he (by have := mul_add_inj hj hj' e; exact ⟨this.1.symm, this.2.symm⟩))]
          exact hv'
      · intro e he
        simp only [setc] at he
        obtain ⟨idx, hidx, rfl⟩ := List.mem_iff_getElem.1 he
        have hs' := fun k hk => hs (es[k]'hk) (List.getElem_mem hk)
        rw [List.getElem_modify]
        split
        · refine ⟨by simp [hs'], ?_⟩
          rw [List.all_eq_true]
          intro x hx
          rcases List.mem_or_eq_of_mem_set hx with h | h
          · exact List.all_eq_true.1 (hs' idx (by simpa using hidx)).2 x h
          · rw [h]; exact hsc
        · exact hs' idx (by simpa using hidx)
    · rw [List.getElem?_set_ne h1] at hm
      have hlm : G.live m := g.mkLive hm hb'
      exact (g.arr m sz' es' gr' b' hm hb').keep k (heap_setCell_ne (fun e => h1 (g.inj n m b hl hlm hb (by rw [hb']; exact congrArg some e.symm))))
  · intro m sz' es' gr' hm hb'
    by_cases h1 : n = m
    · subst h1; rw [hb] at hb'; cases hb'
    · rw [List.getElem?_set_ne h1] at hm
      exact g.nil m sz' es' gr' hm hb'
  · intro m es' b' hm hb'
    by_cases h1 : n = m
    · subst h1; rw [List.getElem?_set_self hlt] at hm; simp at hm
    · rw [List.getElem?_set_ne h1] at hm
      have hlm : G.live m := g.mkLiveM hm hb'
      exact (g.map m es' b' hm hb').keep k (heap_setCell_ne (fun e => h1 (g.inj n m b hl hlm hb (by rw [hb']; exact congrArg some e.symm))))

/-- a name is given up -/
def Gh.kill (G : Gh) (n : Nat) : Gh := { G with live := fun m => G.live m ∧ m ≠ n }

theorem Gh.keepsKill (G : Gh) (w : World) (n : Nat) : Keeps G w (G.kill n) w :=
  ⟨Nat.le_refl _, fun _ _ _ h => h, fun _ _ h => h, fun t b h => by cases t <;> exact h, fun _ _ _ => rfl, fun _ _ => rfl⟩

theorem Gh.stpKill (G : Gh) (w : World) (n : Nat) : Stp G w (G.kill n) w where
  rest := Rest.refl w
  keep := G.keepsKill w n
  S := ⟨fun _ h => h, fun _ h => .inl h⟩
  locEq _ _ := rfl
  nilEq _ _ := Iff.rfl
  size := Nat.le_refl _
  frame _ _ _ := rfl
  own b hb := by
    rcases hb with ⟨m, hm, h⟩ | ⟨m, h⟩
    · exact .inl (.inl ⟨m, hm.1, h⟩)
    · exact .inl (.inr ⟨m, h⟩)

theorem Gam.drop {G w h} (g : Gam G w h) {n sz es gr} (hn : h[n]? = some (some (.arr sz es gr))) : Gam (G.kill n) w (h.set n none) := by
  have hlt : n < h.length := (List.getElem?_eq_some_iff.1 hn).1
  have k := G.keepsKill w n
  refine { len := by simp [Gh.kill, g.len], live := ?_, tag := ?_, inj := fun a b c h1 h2 => g.inj a b c h1.1 h2.1, liveTag := fun a b c h1 => g.liveTag a b c h1.1,
           liveS := fun a b h1 => g.liveS a b h1.1, tagInj := g.tagInj, tagS := g.tagS, tagLt := g.tagLt, sLt := g.sLt, arr := ?_, nil := ?_, nilLoc := g.nilLoc, map := ?_ }
  · intro m
    by_cases h1 : n = m
    · subst h1
      exact ⟨fun h => absurd rfl h.2, fun ⟨⟨B, hh, _⟩, _⟩ => by simp [hlt] at hh⟩
    · rw [List.getElem?_set_ne h1]
      exact ⟨fun h => (g.live m).1 h.1, fun h => ⟨(g.live m).2 h, fun e => h1 e.symm⟩⟩
  · intro m b hb
    have hm : n ≠ m := by rintro rfl; rw [g.tag _ _ hb] at hn; simp at hn
    rw [List.getElem?_set_ne hm]; exact g.tag m b hb
  · intro m sz' es' gr' b hm hb
    by_cases h1 : n = m
    · subst h1; simp [hlt] at hm
    · rw [List.getElem?_set_ne h1] at hm
      exact (g.arr m sz' es' gr' b hm hb).keep k rfl
  · intro m sz' es' gr' hm hb
    by_cases h1 : n = m
    · subst h1; simp [hlt] at hm
    · rw [List.getElem?_set_ne h1] at hm
      exact g.nil m sz' es' gr' hm hb
  · intro m es' b hm hb
    by_cases h1 : n = m
    · subst h1; simp [hlt] at hm
    · rw [List.getElem?_set_ne h1] at hm
      exact (g.map m es' b hm hb).keep k rfl

end Glb

/-
  A library of its own, for whatever program: the single operations, on abstract values and on values in memory.
-/
namespace Glb
open Go

/-- a list of abstract values beside an array of values -/
def VL (G : Gh) (w : World) (cs : List AV) (vs : Array Value) : Prop :=
  cs.length = vs.size ∧ ∀ (j : Nat) (c : AV) (v : Value), cs[j]? = some c → vs[j]? = some v → V G w c v

theorem VL.app {G w cs vs cs' vs'} (h : VL G w cs vs) (h' : VL G w cs' vs') : VL G w (cs ++ cs') (vs ++ vs') := by
  refine ⟨by simp [h.1, h'.1], fun j c v hc hv => ?_⟩
  rw [List.getElem?_append] at hc
  rw [Array.getElem?_append, ← h.1] at hv
  split at hc
  · rename_i hlt
    rw [if_pos hlt] at hv
    exact h.2 j c v hc hv
  · rename_i hlt
    rw [if_neg hlt] at hv
    exact h'.2 _ c v hc hv

theorem VL.get {G w cs vs} {j : Nat} {c : AV} (h : VL G w cs vs) (hj : cs[j]? = some c) : ∃ v, vs[j]? = some v ∧ V G w c v := by
  have hlt := (List.getElem?_eq_some_iff.1 hj).1
  have : vs[j]? = some (vs[j]'(by rw [← h.1]; exact hlt)) := by simp [← h.1, hlt]
  exact ⟨_, this, h.2 j c _ hj this⟩

theorem VL.nil (G w) : VL G w [] #[] := ⟨rfl, fun j c v h => by simp at h⟩

theorem VL.of_list {G w} {cs : List AV} {vs : List Value} (hl : cs.length = vs.length)
    (h : ∀ (j : Nat) (c : AV) (v : Value), cs[j]? = some c → vs[j]? = some v → V G w c v) : VL G w cs vs.toArray :=
  ⟨by simpa using hl, fun j c v a b => h j c v a (by simpa using b)⟩

theorem VL.cons {G w c v} {cs : List AV} {vs : List Value} (h : V G w c v) (r : VL G w cs vs.toArray) : VL G w (c :: cs) (v :: vs).toArray := by
  refine VL.of_list (by have := r.1; simp at this; simp [this]) ?_
  intro j c' v' hc hv
  cases j with
  | zero => simp at hc hv; subst hc; subst hv; exact h
  | succ j => simp at hc hv; exact r.2 j c' v' hc (by simpa using hv)

/-- constants -/
def ofV1 : Value → AV
  | .bool b => .bool b
  | .int k n => .int k n
  | .string s => .str s
  | .slice none 0 0 => .nils
  | v => .raw v

def ofV : Value → AV
  | .agg cs => .agg (cs.toList.map ofV1)
  | .tuple cs => .tup (cs.toList.map ofV1)
  | v => ofV1 v

theorem V.ofV1 (G w) (v : Value) : V G w (ofV1 v) v := by
  unfold Glb.ofV1
  split
  · exact .bool _
  · exact .int _ _
  · exact .str _
  · exact .nils
  · exact .raw _

theorem VL.ofV1 (G w) (vs : Array Value) : VL G w (vs.toList.map Glb.ofV1) vs := by
  refine ⟨by simp, fun j c v hc hv => ?_⟩
  simp only [List.getElem?_map, Array.getElem?_toList, hv, Option.map_some, Option.some.injEq] at hc
  subst hc
  exact V.ofV1 G w v

theorem V.ofV (G w) (v : Value) : V G w (ofV v) v := by
  unfold Glb.ofV
  split
  · rename_i cs; exact .agg _ cs (VL.ofV1 G w cs).1 (VL.ofV1 G w cs).2
  · rename_i cs; exact .tup _ cs (VL.ofV1 G w cs).1 (VL.ofV1 G w cs).2
  · exact V.ofV1 G w _

theorem V.oneCell {G w c v} (h : V G w c v) (hs : c.scalar = true) : v.oneCell' = true := by
  cases h <;> simp_all [AV.scalar, Value.oneCell']

theorem V.cellsOne {G w c v} (h : V G w c v) (hs : c.scalar = true) : v.cells = #[v] := by
  have := h.oneCell hs
  cases v <;> simp_all [Value.cells, Value.oneCell']

/-- the cells of a value -/
def AV.cells? : AV → Option (List AV)
  | .agg cs => some cs
  | c => if c.scalar then some [c] else none

theorem V.cells {G w c v cs} (h : V G w c v) (hc : c.cells? = some cs) : VL G w cs v.cells := by
  unfold AV.cells? at hc
  split at hc
  · cases h with
    | agg _ vs hl hv => cases hc; exact ⟨hl, hv⟩
  · rename_i hne
    split at hc
    · rename_i hs
      cases hc
      rw [h.cellsOne hs]
      exact VL.cons (vs := []) h (VL.nil G w)
    · cases hc

/-! loads -/

def takeCells (agg : Bool) (n : Nat) (cs : List AV) : Option AV :=
  if agg then (if n ≤ cs.length then some (.agg (cs.take n)) else none) else cs.head?

def aload (h : AHeap) (agg : Bool) (n : Nat) : AV → Option AV
  | .ptr m sz i o =>
    match h[m]? with
    | some (some (.arr sz' es _)) => if sz = sz' then (es[i]?).bind fun e => takeCells agg n (e.drop o) else none
    | _ => none
  | .vptr _ cs => takeCells agg n cs
  | _ => none

theorem addr_add (b o n : Nat) : (⟨b, o, none⟩ : Addr).add n = ⟨b, o + n, none⟩ := by
  unfold Addr.add; split <;> simp_all

theorem addr_add' {a : Addr} (h : a.spot = none) (n : Nat) : a.add n = ⟨a.block, a.off + n, none⟩ := by
  cases a; simp at h; subst h; exact addr_add _ _ _

/-- cells that are there, one behind the other -/
def CellsAt (G : Gh) (w : World) (b o : Nat) (cs : List AV) : Prop :=
  ∃ f : Nat → Value, (∀ (j : Nat) (c : AV), cs[j]? = some c → w.cell? ⟨b, o + j, none⟩ = some (f j)) ∧ ∀ (j : Nat) (c : AV), cs[j]? = some c → V G w c (f j)

theorem CellsAt.load {P : Program} {G w b o cs} (h : CellsAt G w b o cs) {agg : Bool} {n : Nat} {r : AV} (hr : takeCells agg n cs = some r)
    {t : TypeId} (ha : (isAgg t).run P w = .ok agg w) (hs : (Go.sizeOf t).run P w = .ok n w) :
    ∃ v, (loadVar t ⟨b, o, none⟩).run P w = .ok v w ∧ V G w r v := by
  obtain ⟨f, hf, hV⟩ := h
  unfold takeCells at hr
  cases agg with
  | true =>
    simp only [if_true] at hr
    split at hr
    · rename_i hle
      cases hr
      have hl := run_loadCells (P := P) (w := w) ⟨b, o, none⟩ n f (fun j hj => by
        rw [addr_add]
        have : cs[j]? = some cs[j] := by simp
        exact hf j _ this)
      refine ⟨.agg ((List.range n).map f).toArray, by simp [loadVar, ha, hs, hl], ?_⟩
      refine .agg _ _ (by simp; omega) (fun j c v hc hv => ?_)
      have hj : j < n := by have := (List.getElem?_eq_some_iff.1 hc).1; simp at this; omega
      rw [List.getElem?_take_of_lt hj] at hc
      simp [hj] at hv
      subst hv
      exact hV j c hc
    · cases hr
  | false =>
    simp only [Bool.false_eq_true, if_false] at hr
    have h0 : cs[0]? = some r := by rw [← List.head?_eq_getElem?]; exact hr
    have hc := hf 0 r h0
    simp only [Nat.add_zero] at hc
    exact ⟨f 0, by simp [loadVar, ha, hc], hV 0 r h0⟩

theorem Holds.cellsAt {G w b sz es gr i e} (h : Holds G w b sz es gr) (he : es[i]? = some e) (o : Nat) : CellsAt G w b (i * sz + o) (e.drop o) := by
  obtain ⟨⟨cells, ty, hh, _, _, h3⟩, _⟩ := h
  refine ⟨fun j => (cells[i * sz + (o + j)]?).getD undef, fun j c hc => ?_, fun j c hc => ?_⟩ <;>
  · rw [List.getElem?_drop] at hc
    obtain ⟨v, hv, hV⟩ := h3 i (o + j) c (by simp [getc, he, hc])
    simp [World.cell?, hh, Nat.add_assoc, hv, hV]

theorem aload_sound {P : Program} {G w h agg n x r v} (g : Gam G w h) (hx : V G w x v) (hr : aload h agg n x = some r)
    {t : TypeId} (ha : (isAgg t).run P w = .ok agg w) (hs : (Go.sizeOf t).run P w = .ok n w) :
    ∃ u, (Instr.loadAt t v).run P w = .ok u w ∧ V G w r u := by
  unfold aload at hr
  split at hr
  · rename_i m sz i o
    cases hx with
    | ptr _ _ _ _ b hn hb =>
    split at hr
    · rename_i sz' es gr hm
      split at hr
      · rename_i hsz
        subst hsz
        cases he : es[i]? with
        | none => simp [he] at hr
        | some e =>
          simp only [he, Option.bind_some] at hr
          obtain ⟨u, hu, hV⟩ := ((g.arr m sz es gr b hm hb).cellsAt he o).load (P := P) hr ha hs
          exact ⟨u, by simp [Instr.loadAt, Instr.sureAddr, hu], hV⟩
      · cases hr
    · cases hr
  · rename_i t' cs
    cases hx with
    | vptr _ _ b off f hp hc hV =>
      obtain ⟨u, hu, hV⟩ := CellsAt.load (P := P) (G := G) (w := w) (b := b) (o := off) ⟨f, hc, hV⟩ hr ha hs
      exact ⟨u, by simp [Instr.loadAt, Instr.sureAddr, hu], hV⟩
  · cases hr

/-! addresses -/

def afield (o : Nat) : AV → Option AV
  | .ptr m sz i o' => some (.ptr m sz i (o' + o))
  | .vptr t cs => some (.vptr t (cs.drop o))
  | _ => none

theorem afield_sound {P : Program} {G w o x r v} (hx : V G w x v) (hr : afield o x = some r)
    {s : TypeId} {k : Nat} {fs : Array Field} {f : Field} (hu : P.underlying s = some (.struct fs)) (hf : fs[k]? = some f) (ho : f.offset = o)
    {m : Nat} (hs : (Go.sizeOf f.type).run P w = .ok m w) (hm : m ≠ 0) :
    ∃ u, (Instr.fieldAt s v k).run P w = .ok u w ∧ V G w r u := by
  unfold afield at hr
  split at hr
  · rename_i n sz i o'
    cases hx with
    | ptr _ _ _ _ b hn hb =>
      cases hr
      refine ⟨_, by simp [Instr.fieldAt, run_underlying hu, hf, Instr.sureAddr, fieldPlace, hs, hm, ho, addr_add]; rfl, ?_⟩
      rw [Nat.add_assoc]
      exact .ptr _ _ _ _ _ hn hb
  · rename_i t' cs
    cases hx with
    | vptr _ _ b off f' hp hc hV =>
      cases hr
      refine ⟨_, by simp [Instr.fieldAt, run_underlying hu, hf, Instr.sureAddr, fieldPlace, hs, hm, ho, addr_add]; rfl, ?_⟩
      refine .vptr _ _ _ _ (fun j => f' (o + j)) hp (fun j c hj => ?_) (fun j c hj => ?_)
      · rw [List.getElem?_drop] at hj
        rw [Nat.add_assoc]; exact hc _ _ hj
      · rw [List.getElem?_drop] at hj
        exact hV _ _ hj
  · cases hr

def aindex (sz : Nat) : AV → AV → Option AV
  | .ref m sz' off len _, .int _ i => if sz = sz' ∧ 0 ≤ i ∧ i < (len : Int) then some (.ptr m sz (off + i.toNat) 0) else none
  | .vals t _ sz' es, .int _ i => if sz = sz' ∧ 0 ≤ i then (es[i.toNat]?).map (.vptr t) else none
  | _, _ => none

theorem aindex_sound {P : Program} {G w sz x i r v vi} (hx : V G w x v) (hi : V G w i vi) (hr : aindex sz x i = some r)
    {t e : TypeId} (hu : P.underlying t = some (.slice e)) (hs : (Go.sizeOf e).run P w = .ok sz w) :
    ∃ u, (Instr.indexAt t v vi).run P w = .ok u w ∧ V G w r u := by
  unfold aindex at hr
  split at hr
  · rename_i m sz' off len cap k i
    cases hi
    cases hx with
    | refNil _ _ _ _ _ _ => simp at hr; omega
    | ref _ _ _ _ _ c ty mm b hn hb hl hcap hsh hm =>
      split at hr
      · rename_i hh
        obtain ⟨rfl, h0, h1⟩ := hh
        cases hr
        refine ⟨_, by simp [Instr.indexAt, asIntOf, run_underlying hu, hs, h0, h1, addr_add]; rfl, ?_⟩
        have : off * sz + i.toNat * sz = (off + i.toNat) * sz + 0 := by rw [Nat.add_mul]; rfl
        rw [this]
        exact .ptr _ _ _ _ _ hn hb
      · cases hr
  · rename_i t' cl sz' es k i
    cases hi
    split at hr
    · rename_i hh
      obtain ⟨rfl, h0⟩ := hh
      cases he : es[i.toNat]? with
      | none => simp [he] at hr
      | some e' =>
        simp only [he, Option.map_some, Option.some.injEq] at hr
        subst hr
        have hlt := (List.getElem?_eq_some_iff.1 he).1
        cases hx with
        | valsNil => simp at hlt
        | vals _ _ _ _ a cap f hl hcl hsp hp hes hc hV =>
          have h1 : i < (es.length : Int) := by omega
          refine ⟨_, by simp [Instr.indexAt, asIntOf, run_underlying hu, hs, h0, h1, addr_add' (hsp (by omega))]; rfl, ?_⟩
          refine .vptr _ _ _ _ (fun j => f i.toNat j) (hp (by rintro rfl; simp at hlt)) (fun j c hj => ?_) (fun j c hj => ?_)
          · rw [Nat.add_assoc]; exact hc _ _ c (by simp [getc, he, hj])
          · exact hV i.toNat j c (by simp [getc, he, hj])
    · cases hr
  · cases hr

/-! numbers -/

def ibin (op : BinOp) (k : IntKind) (a b : Int) : Option AV :=
  match op with
  | .add => some (.int k (k.wrap (a + b)))
  | .sub => some (.int k (k.wrap (a - b)))
  | .mul => some (.int k (k.wrap (a * b)))
  | .quo => if b = 0 then none else some (.int k (k.wrap (a.tdiv b)))
  | .rem => if b = 0 then none else some (.int k (a.tmod b))
  | .and => some (.int k (k.wrap (BitVec.ofInt k.bits a &&& BitVec.ofInt k.bits b).toNat))
  | .or => some (.int k (k.wrap (BitVec.ofInt k.bits a ||| BitVec.ofInt k.bits b).toNat))
  | .xor => some (.int k (k.wrap (BitVec.ofInt k.bits a ^^^ BitVec.ofInt k.bits b).toNat))
  | .andNot => some (.int k (k.wrap (BitVec.ofInt k.bits a &&& ~~~ BitVec.ofInt k.bits b).toNat))
  | .eql => some (.bool (a == b))
  | .neq => some (.bool (a != b))
  | .lss => some (.bool (decide (a < b)))
  | .leq => some (.bool (decide (a ≤ b)))
  | .gtr => some (.bool (decide (a > b)))
  | .geq => some (.bool (decide (a ≥ b)))
  | .shl | .shr => none

def ishift (op : BinOp) (k : IntKind) (a b : Int) : Option AV :=
  match op with
  | .shl => if b < 0 then none else some (.int k (k.wrap (a * 2 ^ (min b.toNat k.bits))))
  | .shr => if b < 0 then none else some (.int k (a.fdiv (2 ^ (min b.toNat k.bits))))
  | _ => none

def bbin (op : BinOp) (a b : Bool) : Option AV :=
  match op with
  | .eql => some (.bool (a == b))
  | .neq => some (.bool (!(a == b)))
  | _ => none

def sbin (op : BinOp) (a b : ByteArray) : Option AV :=
  match op with
  | .eql => some (.bool (a.toList == b.toList))
  | .neq => some (.bool (!(a.toList == b.toList)))
  | _ => none

/-- is it nil? -/
def anil : AV → Option Bool
  | .nils => some true
  | .ref _ _ _ len _ => if 0 < len then some false else none
  | .vals _ _ _ es => if 0 < es.length then some false else none
  | .ptr .. => some false
  | .vptr .. => some false
  | .raw (.pointer none) => some true
  | .raw .nilIface => some true
  | .iface .. => some false
  | _ => none

def abin (op : BinOp) : AV → AV → Option AV
  | .int k a, .int k' b => if op = .shl ∨ op = .shr then ishift op k a b else if k = k' then ibin op k a b else none
  | .str a, .str b => sbin op a b
  | _, _ => none

theorem run_eqGuard_int {P : Program} {w : World} (op : BinOp) (t : TypeId) (x y : Operand) (k k' : IntKind) (a b : Int) :
    (eqGuard op t x y (.int k a) (.int k' b)).run P w = .ok () w := by
  cases op <;> rfl

theorem run_eqGuard_bool {P : Program} {w : World} (op : BinOp) (t : TypeId) (x y : Operand) (a b : Bool) :
    (eqGuard op t x y (.bool a) (.bool b)).run P w = .ok () w := by
  cases op <;> rfl

theorem run_eqGuard_str {P : Program} {w : World} (op : BinOp) (t : TypeId) (x y : Operand) (a b : ByteArray) :
    (eqGuard op t x y (.string a) (.string b)).run P w = .ok () w := by
  cases op <;> rfl

theorem abin_sound {P : Program} {G w op x y r vx vy} (hx : V G w x vx) (hy : V G w y vy) (hr : abin op x y = some r) (t : TypeId) (ox oy : Operand) :
    ∃ u, (do eqGuard op t ox oy vx vy; binOp op t vx vy : Sem Value).run P w = .ok u w ∧ V G w r u := by
  unfold abin at hr
  split at hr
  · rename_i k a k' b
    cases hx; cases hy
    simp only [Sem.run_bind, run_eqGuard_int, Result.andThen_ok]
    split at hr
    · rename_i hop
      rcases hop with rfl | rfl <;> simp only [ishift] at hr <;> split at hr <;> simp only [Option.some.injEq, reduceCtorEq] at hr <;> subst hr <;>
        rename_i hlt <;> simp [binOp, Op.shift, hlt] <;> exact .int _ _
    · rename_i hop
      split at hr
      · rename_i hk
        subst hk
        cases op <;> simp only [ibin, reduceCtorEq] at hr
        case quo => split at hr <;> simp only [Option.some.injEq, reduceCtorEq] at hr; subst hr; rename_i hz; simp [binOp, Op.intDiv, hz]; exact .int _ _
        case rem => split at hr <;> simp only [Option.some.injEq, reduceCtorEq] at hr; subst hr; rename_i hz; simp [binOp, Op.intDiv, hz]; exact .int _ _
        all_goals simp only [Option.some.injEq] at hr; subst hr
        all_goals first
          | (refine ⟨_, ?_, .bool _⟩; simp only [binOp, Op.intCmp, ne_eq, not_true_eq_false, if_false, Sem.run_pure]; done)
          | (refine ⟨_, ?_, .int _ _⟩; simp only [binOp, Op.intArith, Op.intBits, ne_eq, not_true_eq_false, if_false, Sem.run_pure]; done)
      · cases hr
  · rename_i a b
    cases hx; cases hy
    simp only [Sem.run_bind, run_eqGuard_str, Result.andThen_ok]
    cases op <;> simp only [sbin, reduceCtorEq, Option.some.injEq] at hr <;> subst hr
    · exact ⟨_, rfl, .bool _⟩
    · exact ⟨_, rfl, .bool _⟩
  · cases hr

theorem bbin_sound {P : Program} {G w op a b r} (hr : bbin op a b = some r) (t : TypeId) (ox oy : Operand) (hu : P.underlying t = some .bool) :
    ∃ u, (do eqGuard op t ox oy (.bool a) (.bool b); binOp op t (.bool a) (.bool b) : Sem Value).run P w = .ok u w ∧ V G w r u := by
  simp only [Sem.run_bind, run_eqGuard_bool, Result.andThen_ok]
  cases op <;> simp only [bbin, reduceCtorEq, Option.some.injEq] at hr <;> subst hr
  · exact ⟨_, run_eql_bool w t a b hu, .bool _⟩
  · exact ⟨_, run_neq_bool w t a b hu, .bool _⟩

/-! a slice of a slice -/

def sliceClip : Option Int → Int → Nat → Bool → Bool
  | some m, h, _, _ => decide (m = h)
  | none, h, n, cl => cl && decide (h = (n : Int))

def sliceCap : Option Int → Nat → Option Nat → Option Nat
  | some m, l, _ => some (m.toNat - l)
  | none, l, cap => cap.map (· - l)

def aslice (sz : Nat) (x : AV) (lo hi mx : Option Int) : Option AV :=
  let l := lo.getD 0
  match x with
  | .nils => if l = 0 ∧ hi.getD 0 = 0 ∧ mx.getD 0 = 0 then some .nils else none
  | .ref m sz' off len cap =>
    let h := hi.getD len
    if sz = sz' ∧ 0 ≤ l ∧ l ≤ h ∧ (h ≤ (len : Int) ∨ cap.isSome = true) ∧ h ≤ mx.getD h ∧ mx.getD h ≤ ((cap.getD len : Nat) : Int) then
      let c : Option Nat := sliceCap mx l.toNat cap
      if l = 0 then some (.ref m sz off h.toNat c)
      else if l < h then some (.ref m sz (off + l.toNat) (h.toNat - l.toNat) c)
      else some (.vals 0 false sz [])
    else none
  | .vals t clip sz' es =>
    let h := hi.getD es.length
    if sz = sz' ∧ 0 ≤ l ∧ l ≤ h ∧ h ≤ (es.length : Int) ∧ h ≤ mx.getD h ∧ mx.getD h ≤ (es.length : Int) then
      some (.vals t (sliceClip mx h es.length clip) sz ((es.take h.toNat).drop l.toNat))
    else none
  | _ => none

theorem run_sliceBound {P : Program} {w : World} (k : IntKind) (i : Int) (y : Nat) (code : BoundsCode) (h0 : 0 ≤ i) (h1 : i ≤ (y : Int)) :
    (Instr.sliceBound (.int k i) y code).run P w = .ok i.toNat w := by
  simp [Instr.sliceBound, asIntOf, h0, h1]

/-- the three bounds, where they fit -/
theorem run_sliceBounds {P : Program} {w : World} (b : Bool) (len cap : Nat) (lo hi mx : Option Int) (klo khi kmx : IntKind)
    (h0 : 0 ≤ lo.getD 0) (h1 : lo.getD 0 ≤ hi.getD len) (h2 : hi.getD len ≤ mx.getD cap) (h3 : mx.getD cap ≤ (cap : Int)) (hm : mx.isSome → hi.isSome) :
    (Instr.sliceBounds b len cap (lo.map (.int klo)) (hi.map (.int khi)) (mx.map (.int kmx))).run P w =
      .ok ((lo.getD 0).toNat, (hi.getD len).toNat, (mx.getD cap).toNat) w := by
  unfold Instr.sliceBounds
  cases mx with
  | none =>
    cases hi with
    | none =>
      cases lo with
      | none => simp
      | some l => simp at h0 h1 h2 h3 ⊢; rw [run_sliceBound _ _ _ _ h0 (by omega)]; simp
    | some h =>
      simp at h0 h1 h2 h3 ⊢
      rw [run_sliceBound _ _ _ _ (by omega) (by omega)]
      cases lo with
      | none => simp
      | some l => simp at h0 h1 ⊢; rw [run_sliceBound _ _ _ _ h0 (by omega)]; simp
  | some m =>
    cases hi with
    | none => simp at hm
    | some h =>
      simp at h0 h1 h2 h3 ⊢
      rw [run_sliceBound _ _ _ _ (by omega) (by omega)]
      simp
      rw [run_sliceBound _ _ _ _ (by omega) (by omega)]
      cases lo with
      | none => simp
      | some l => simp at h0 h1 ⊢; rw [run_sliceBound _ _ _ _ h0 (by omega)]; simp

theorem V.empty {G w} (t : Nat) (sz : Nat) (a : Addr) (cap : Nat) (ha : cap ≠ 0 → a.spot = none) (clip : Bool) (hc : clip = true → cap = 0) :
    V G w (.vals t clip sz []) (.slice (some a) 0 cap) :=
  V.vals t clip sz [] a cap (fun _ _ => undef) (Nat.zero_le _) hc ha (fun h => absurd rfl h) (fun e he => by simp at he) (fun i j c h => by simp [getc] at h) (fun i j c h => by simp [getc] at h)

theorem aslice_sound {P : Program} {G w sz x lo hi mx r v} (hx : V G w x v) (hr : aslice sz x lo hi mx = some r) (klo khi kmx : IntKind)
    (hm : mx.isSome → hi.isSome) {t e : TypeId} (hu : P.underlying t = some (.slice e)) (hs : (Go.sizeOf e).run P w = .ok sz w) :
    ∃ u, (Instr.sliceAt t v (lo.map (.int klo)) (hi.map (.int khi)) (mx.map (.int kmx))).run P w = .ok u w ∧ V G w r u := by
  unfold aslice at hr
  simp only at hr
  split at hr
  · cases hx
    split at hr
    · rename_i hh
      obtain ⟨e0, e1, e2⟩ := hh
      cases hr
      refine ⟨.slice none 0 0, ?_, .nils⟩
      have := run_sliceBounds (P := P) (w := w) true 0 0 lo hi mx klo khi kmx (by omega) (by simp only [Int.natCast_zero] at *; omega) (by simp only [Int.natCast_zero] at *; omega) (by simp only [Int.natCast_zero] at *; omega) hm
      simp [Instr.sliceAt, Instr.slice, run_underlying hu, this, hs, e0, e1, e2]
    · cases hr
  · rename_i m sz' off len cap
    cases hx with
    | refNil _ _ _ hn hb hc =>
      split at hr
      · rename_i hh
        obtain ⟨rfl, e0, e1, e2, e3, e4⟩ := hh
        have hc0 : cap.getD 0 = 0 := by cases cap with | none => rfl | some k => exact hc k rfl
        rw [hc0] at e4
        have hb' := run_sliceBounds (P := P) (w := w) true 0 0 lo hi mx klo khi kmx e0 e1
          (by cases mx with | none => simp at e4 ⊢; omega | some m => simpa using e3) (by cases mx with | none => simp | some m => simpa using e4) hm
        have hl0 : lo.getD 0 = 0 := by omega
        have hh0 : hi.getD ((0 : Nat) : Int) = 0 := by omega
        have hm0 : (mx.getD ((0 : Nat) : Int)).toNat = 0 := by cases mx with | none => rfl | some m => simp at e4 ⊢; omega
        rw [if_pos hl0] at hr
        cases hr
        refine ⟨.slice none 0 0, by simp only [Int.natCast_zero] at *; simp [Instr.sliceAt, Instr.slice, run_underlying hu, hb', hs, hl0, hh0, hm0], ?_⟩
        rw [hh0]
        refine .refNil _ _ _ hn hb (fun k hk => ?_)
        cases mx with
        | some m => simp [sliceCap, hl0] at hk e4; omega
        | none => cases cap with
          | none => simp [sliceCap] at hk
          | some q => have := hc q rfl; simp [sliceCap] at hk; omega
      · cases hr
    | ref _ _ _ _ _ c ty mm b hn hb0 hl hcap hsh hmm =>
      split at hr
      · rename_i hh
        obtain ⟨rfl, e0, e1, e2, e3, e4⟩ := hh
        have hcle : ((cap.getD len : Nat) : Int) ≤ (c : Int) := by
          cases cap with
          | none => simpa using hl
          | some k => have := hcap k rfl; simp; omega
        have e5 : hi.getD len ≤ mx.getD c := by cases mx with | none => simp at e3 e4 ⊢; omega | some m => simpa using e3
        have e6 : mx.getD c ≤ (c : Int) := by cases mx with | none => simp | some m => simp at e4 ⊢; omega
        have hb := run_sliceBounds (P := P) (w := w) true len c lo hi mx klo khi kmx e0 e1 e5 e6 hm
        generalize hL : lo.getD 0 = l at *
        generalize hH : hi.getD len = h at *
        have hmax : (mx.getD c).toNat ≤ c := by omega
        have hhm : h.toNat ≤ (mx.getD c).toNat := by omega
        have hrun : (Instr.sliceAt t (.slice (some ⟨b, off * sz, none⟩) len c) (lo.map (.int klo)) (hi.map (.int khi)) (mx.map (.int kmx))).run P w =
            .ok (.slice (if (mx.getD c).toNat = l.toNat then some ⟨b, off * sz, none⟩ else some ⟨b, off * sz + l.toNat * sz, none⟩) (h.toNat - l.toNat) ((mx.getD c).toNat - l.toNat)) w := by
          simp [Instr.sliceAt, Instr.slice, run_underlying hu, hb, hs, addr_add]
        have hcap' : ∀ k, sliceCap mx l.toNat cap = some k → (mx.getD c).toNat - l.toNat = k := by
          intro k hk
          cases mx with
          | some m => simpa [sliceCap] using hk
          | none =>
            cases cap with
            | none => simp [sliceCap] at hk
            | some q => have := hcap q rfl; simp [sliceCap] at hk ⊢; omega
        split at hr
        · rename_i hl0
          subst hl0
          cases hr
          refine ⟨_, hrun, ?_⟩
          simp only [Int.toNat_zero, Nat.zero_mul, Nat.add_zero, ite_self, Nat.sub_zero] at hcap' ⊢
          refine .ref _ _ _ _ _ _ ty mm b hn hb0 hhm hcap' hsh (Nat.le_trans (Nat.mul_le_mul_right _ (by omega)) hmm)
        · split at hr
          · rename_i hl0 hlh
            cases hr
            refine ⟨_, hrun, ?_⟩
            rw [if_neg (by omega), ← Nat.add_mul]
            refine .ref _ _ _ _ _ _ ty mm b hn hb0 (by omega) hcap' hsh (Nat.le_trans (Nat.mul_le_mul_right _ (by omega)) hmm)
          · rename_i hl0 hlh
            cases hr
            refine ⟨_, hrun, ?_⟩
            have : h.toNat - l.toNat = 0 := by omega
            rw [this]
            split <;> exact V.empty _ _ _ _ (fun _ => rfl) false (by simp)
      · cases hr
  · rename_i t' cl sz' es
    split at hr
    · rename_i hh
      obtain ⟨rfl, e0, e1, e2, e3, e4⟩ := hh
      generalize hL : lo.getD 0 = l at *
      generalize hH : hi.getD es.length = h at *
      cases hr
      cases hx with
      | valsNil =>
        simp at e2 e4 hH
        have hb := run_sliceBounds (P := P) (w := w) true 0 0 lo hi mx klo khi kmx (by omega) (by simp; omega)
          (by cases mx with | none => simp; omega | some m => simp at e3 e4 ⊢; omega) (by cases mx with | none => simp | some m => simp at e3 e4 ⊢; omega) hm
        refine ⟨.slice none 0 0, ?_, by simpa using V.valsNil _ _ _⟩
        simp [Instr.sliceAt, Instr.slice, run_underlying hu, hb, hs]
        cases mx with | none => simp; omega | some m => simp at e3 e4 ⊢; omega
      | vals _ _ _ _ a cap f hl hcl hsp hp hes hc hV =>
        have e5 : hi.getD es.length ≤ mx.getD cap := by rw [hH]; cases mx with | none => simp at e3 ⊢; omega | some m => simpa using e3
        have e6 : mx.getD cap ≤ (cap : Int) := by cases mx with | none => simp | some m => simp at e4 ⊢; omega
        have hb := run_sliceBounds (P := P) (w := w) true es.length cap lo hi mx klo khi kmx (by omega) (by rw [hL, hH]; exact e1) e5 e6 hm
        rw [hL, hH] at hb
        have hhm : h.toNat ≤ (mx.getD cap).toNat := by rw [hH] at e5; omega
        have hlen : ((es.take h.toNat).drop l.toNat).length = h.toNat - l.toNat := by simp; omega
        have hclip : sliceClip mx h es.length cl = true → (mx.getD cap).toNat - l.toNat = h.toNat - l.toNat := by
          intro hq
          cases mx with
          | some m => simp [sliceClip] at hq; subst hq; rfl
          | none => simp [sliceClip] at hq ⊢; have := hcl hq.1; omega
        have hrun : (Instr.sliceAt t (.slice (some a) es.length cap) (lo.map (.int klo)) (hi.map (.int khi)) (mx.map (.int kmx))).run P w =
            .ok (.slice (if (mx.getD cap).toNat = l.toNat then some a else some ⟨a.block, a.off + l.toNat * sz, none⟩) (h.toNat - l.toNat) ((mx.getD cap).toNat - l.toNat)) w := by
          by_cases hcz : cap = 0
          · have e1 : (mx.getD cap).toNat = l.toNat := by omega
            simp [Instr.sliceAt, Instr.slice, run_underlying hu, hb, hs, e1]
          · simp [Instr.sliceAt, Instr.slice, run_underlying hu, hb, hs, addr_add' (hsp hcz)]
        refine ⟨_, hrun, ?_⟩
        by_cases hz : (mx.getD cap).toNat = l.toNat
        · rw [if_pos hz]
          have h0 : h.toNat - l.toNat = 0 := by omega
          have he : (es.take h.toNat).drop l.toNat = [] := List.eq_nil_of_length_eq_zero (by omega)
          rw [he, h0]
          exact V.empty _ _ _ _ (fun h => hsp (by omega)) _ (fun hq => by have := hclip hq; omega)
        · rw [if_neg hz]
          have hg : ∀ i j c, getc ((es.take h.toNat).drop l.toNat) i j = some c → getc es (l.toNat + i) j = some c := by
            intro i j c hj
            simp only [getc, List.getElem?_drop] at hj ⊢
            rw [List.getElem?_take] at hj
            split at hj
            · exact hj
            · simp at hj
          have := V.vals (G := G) (w := w) t' (sliceClip mx h es.length cl) sz ((es.take h.toNat).drop l.toNat)
            ⟨a.block, a.off + l.toNat * sz, none⟩ ((mx.getD cap).toNat - l.toNat) (fun i j => f (l.toNat + i) j) (by omega) (by rw [hlen]; exact hclip) (fun _ => rfl)
            (fun _ => hp (by rintro rfl; simp_all)) (fun e he => hes e (List.mem_of_mem_take (List.mem_of_mem_drop he))) (fun i j c hj => by
              have := hc _ _ _ (hg i j c hj)
              rw [Nat.add_mul] at this
              simpa [Nat.add_assoc] using this) (fun i j c hj => hV _ _ _ (hg i j c hj))
          rw [hlen] at this
          exact this
    · cases hr
  · cases hr

end Glb

/-
  A library of its own, for whatever program: the operations that make or change memory.
-/
namespace Glb
open Go

/-- what an operation that may make or change memory does -/
def Does (P : Program) (s : Sem Value) (G : Gh) (w : World) (r : AV) (h' : AHeap) : Prop :=
  ∃ v w' G', s.run P w = .ok v w' ∧ Gam G' w' h' ∧ V G' w' r v ∧ Stp G w G' w'

theorem Does.pure {P s G w h r v} (g : Gam G w h) (hr : s.run P w = .ok v w) (hV : V G w r v) : Does P s G w r h :=
  ⟨v, w, G, hr, g, hV, Stp.refl G w⟩

/-! a new block -/

theorem VL.getc_one {G w cs vs} (hv : VL G w cs vs) : ∀ i j c, getc [cs] i j = some c → ∃ v, vs[i * cs.length + j]? = some v ∧ V G w c v := by
  intro i j c hc
  cases i with
  | zero =>
    simp [getc] at hc
    simpa using hv.get hc
  | succ i => simp [getc] at hc

/-- what an operation that makes one block does -/
def LD (P : Program) (s : Sem Value) (G : Gh) (w : World) (mkv : Nat → AV) (sz : Nat) (es : List (List AV)) (gr : Bool) : Prop :=
  ∃ (cells : Array Value) (ty : TypeId) (v : Value), s.run P w = .ok v (w.alloc (.cells cells ty)) ∧ okes sz es ∧ es.length * sz ≤ cells.size ∧ (gr = false → cells.size = es.length * sz) ∧
    (∀ i j c, getc es i j = some c → ∃ v, cells[i * sz + j]? = some v ∧ V G w c v) ∧
    ∀ (G' : Gh) (nm : Nat), nm < G'.N → G'.loc nm = some w.heap.size → V G' (w.alloc (.cells cells ty)) (mkv nm) v

theorem LD.does {P s G w mkv sz es gr h} (g : Gam G w h) (l : LD P s G w mkv sz es gr) : Does P s G w (mkv h.length) (h ++ [some (.arr sz es gr)]) := by
  obtain ⟨cells, ty, v, h1, h2, h3, h4, h5, h6⟩ := l
  exact ⟨v, _, G.new (some w.heap.size), h1, g.gamNew h2 h3 h4 h5, h6 _ _ (by rw [g.len]; exact Nat.lt_succ_self _) (by rw [g.len]; simp [Gh.new]), g.stpNew _ _⟩

theorem newVar_ld {P : Program} {G w cs v} (hv : VL G w cs v.cells) (hsc : cs.all AV.scalar = true) (t : TypeId) :
    LD P (do pure (.pointer (some (← Go.newVar t v)))) G w (fun nm => .ptr nm cs.length 0 0) cs.length [cs] false := by
  refine ⟨v.cells, t, .pointer (some ⟨w.heap.size, 0, none⟩), by simp [Go.newVar, newRow], fun e he => by simp at he; subst he; exact ⟨rfl, hsc⟩, by simp [hv.1], fun _ => by simp [hv.1], hv.getc_one, ?_⟩
  intro G' nm hn hl
  have := V.ptr (G := G') (w := w.alloc (.cells v.cells t)) nm cs.length 0 0 w.heap.size hn hl
  simpa using this

/-- a row of elements -/
theorem newRow_ld {P : Program} {G w} {cells : Array Value} {sz : Nat} {es : List (List AV)} {gr : Bool} (t : TypeId)
    (hsz : okes sz es) (hle : es.length * sz ≤ cells.size) (hgr : gr = false → cells.size = es.length * sz)
    (hV : ∀ i j c, getc es i j = some c → ∃ v, cells[i * sz + j]? = some v ∧ V G w c v) (len cap : Nat) (ocap : Option Nat)
    (hl : len ≤ cap) (hc : ∀ k, ocap = some k → cap = k) (hm : cap * sz ≤ cells.size) :
    LD P (do pure (.slice (some (← newRow t cells)) len cap)) G w (fun nm => .ref nm sz 0 len ocap) sz es gr := by
  refine ⟨cells, t, .slice (some ⟨w.heap.size, 0, none⟩) len cap, by simp [newRow], hsz, hle, hgr, hV, ?_⟩
  intro G' nm hn hloc
  have := V.ref (G := G') (w := w.alloc (.cells cells t)) nm sz 0 len ocap cap t cells.size w.heap.size hn hloc hl hc (by simp only [World.shape?, heap_alloc_new]) (by simpa using hm)
  simpa using this

/-! parts laid into zeros -/

def setMany (cs : List AV) (o : Nat) : List AV → List AV
  | [] => cs
  | c :: r => setMany (cs.set o c) (o + 1) r

/-- parts (an offset, a size, a value) laid into cells -/
def afill : List AV → List (Nat × Nat × AV) → Option (List AV)
  | cs, [] => some cs
  | cs, (o, n, x) :: r =>
    match x.cells? with
    | some l => if l.length = n ∧ o + n ≤ cs.length then afill (setMany cs o l) r else none
    | none => none

theorem VL.set {G w cs vs c v} (h : VL G w cs vs) (o : Nat) (hV : V G w c v) : VL G w (cs.set o c) (vs.setIfInBounds o v) := by
  refine ⟨by simp [h.1], fun j c' v' hc hv => ?_⟩
  by_cases hj : o = j
  · subst hj
    have hlt : o < cs.length := by have := (List.getElem?_eq_some_iff.1 hc).1; simpa using this
    rw [List.getElem?_set_self hlt] at hc
    rw [Array.getElem?_setIfInBounds_self_of_lt (by rw [← h.1]; exact hlt)] at hv
    cases hc; cases hv; exact hV
  · rw [List.getElem?_set_ne hj] at hc
    rw [Array.getElem?_setIfInBounds_ne hj] at hv
    exact h.2 j c' v' hc hv

theorem VL.setMany {G w} : ∀ {l : List AV} {vl : List Value} {cs : List AV} {vs : Array Value} (o k : Nat), VL G w cs vs →
    l.length = vl.length → (∀ (j : Nat) (c : AV) (v : Value), l[j]? = some c → vl[j]? = some v → V G w c v) →
    VL G w (setMany cs (o + k) l) ((vl.zipIdx k).foldl (fun cs (c, j) => cs.setIfInBounds (o + j) c) vs) := by
  intro l
  induction l with
  | nil =>
    intro vl cs vs o k h hl _
    have : vl = [] := List.eq_nil_of_length_eq_zero (by simpa using hl.symm)
    subst this
    exact h
  | cons c r ih =>
    intro vl cs vs o k h hl hV
    cases vl with
    | nil => simp at hl
    | cons v vr =>
      simp only [List.zipIdx_cons, List.foldl_cons, Glb.setMany]
      have := ih (vl := vr) (cs := cs.set (o + k) c) (vs := vs.setIfInBounds (o + k) v) o (k + 1) (h.set _ (hV 0 c v rfl rfl)) (by simpa using hl)
        (fun j c' v' hc hv => hV (j + 1) c' v' (by simpa using hc) (by simpa using hv))
      exact this

theorem afill_sound {G w} (place : Nat → Option (Nat × Nat)) : ∀ (ps : List (Nat × Value)) (as : List (Nat × Nat × AV)) (cs : List AV) (vs : Array Value) (r : List AV),
    VL G w cs vs → as.length = ps.length → (∀ (j i : Nat) (v : Value) (o n : Nat) (x : AV), ps[j]? = some (i, v) → as[j]? = some (o, n, x) → place i = some (o, n) ∧ V G w x v) →
    afill cs as = some r → ∃ us, Instr.fill place vs ps = some us ∧ VL G w r us := by
  intro ps
  induction ps with
  | nil =>
    intro as cs vs r h hl _ hr
    have : as = [] := List.eq_nil_of_length_eq_zero (by simpa using hl)
    subst this
    simp only [afill, Option.some.injEq] at hr
    subst hr
    exact ⟨vs, rfl, h⟩
  | cons p ps ih =>
    intro as cs vs r h hl hp hr
    obtain ⟨i, v⟩ := p
    cases as with
    | nil => simp at hl
    | cons q as =>
      obtain ⟨o, n, x⟩ := q
      obtain ⟨hpl, hV⟩ := hp 0 i v o n x rfl rfl
      simp only [afill] at hr
      split at hr
      · rename_i l hl'
        split at hr
        · rename_i hh
          have hc := hV.cells hl'
          have hsz : v.cells.size = n := by rw [← hc.1]; exact hh.1
          have hlen : vs.size = cs.length := h.1.symm
          have hset := VL.setMany (l := l) (vl := v.cells.toList) o 0 h (by simpa using hc.1) (fun j c u a b => hc.2 j c u a (by simpa using b))
          simp only [Nat.add_zero] at hset
          obtain ⟨us, hus, hVL⟩ := ih as (setMany cs o l) _ r hset (by simpa using hl) (fun j i v o n x a b => hp (j + 1) i v o n x (by simpa using a) (by simpa using b)) hr
          refine ⟨us, ?_, hVL⟩
          have hno : ¬ (v.cells.size ≠ n ∨ o + v.cells.size > vs.size) := by
            have := hh.2; rw [hsz, hlen]; omega
          simp only [Instr.fill, hpl, Bool.or_eq_true, decide_eq_true_eq]
          rw [if_neg hno]
          rw [← hus]
          congr 1
          rw [← Array.foldl_toList]
          simp
        · cases hr
      · cases hr

/-! a store -/

def astore (h : AHeap) (n : Nat) (a x : AV) : Option AHeap :=
  match a with
  | .ptr m sz i o =>
    match h[m]?, x.cells? with
    | some (some (.arr sz' es g)), some cs =>
      if sz = sz' ∧ cs.length = n ∧ o + n ≤ sz ∧ i < es.length ∧ cs.all AV.scalar = true then some (h.set m (some (.arr sz (es.modify i (setMany · o cs)) g))) else none
    | _, _ => none
  | _ => none

theorem modify_setMany (es : List (List AV)) (i o : Nat) (c : AV) (r : List AV) :
    es.modify i (setMany · o (c :: r)) = (setc es i o c).modify i (setMany · (o + 1) r) := by
  simp only [setc, setMany]
  apply List.ext_getElem?
  intro k
  simp only [List.getElem?_modify]
  by_cases h : i = k
  · subst h; cases es[i]? <;> simp
  · simp [h]

theorem modify_id (es : List (List AV)) (i o : Nat) : es.modify i (setMany · o []) = es := by
  have : (fun e : List AV => setMany e o []) = id := rfl
  rw [this]
  apply List.ext_getElem?
  intro k
  simp only [List.getElem?_modify]
  cases es[k]? <;> simp

theorem storeCells_does {P : Program} : ∀ (cs : List AV) (vs : List Value) (k : Nat) {G : Gh} {w : World} {h : AHeap} {m b sz i o : Nat} {es : List (List AV)} {gr : Bool},
    Gam G w h → h[m]? = some (some (.arr sz es gr)) → G.loc m = some b → cs.length = vs.length →
    (∀ (j : Nat) (c : AV) (v : Value), cs[j]? = some c → vs[j]? = some v → V G w c v) → cs.all AV.scalar = true → i < es.length → o + k + cs.length ≤ sz →
    ∃ w', (storeCells ⟨b, i * sz + o, none⟩ vs k).run P w = .ok () w' ∧ Gam G w' (h.set m (some (.arr sz (es.modify i (setMany · (o + k) cs)) gr))) ∧ Stp G w G w' := by
  intro cs
  induction cs with
  | nil =>
    intro vs k G w h m b sz i o es gr g hm _ hl _ _ _ _
    have : vs = [] := List.eq_nil_of_length_eq_zero (by simpa using hl.symm)
    subst this
    refine ⟨w, rfl, ?_, Stp.refl G w⟩
    rw [modify_id]
    have : h.set m (some (.arr sz es gr)) = h := by
      apply List.ext_getElem?; intro j
      by_cases hj : m = j
      · subst hj; rw [List.getElem?_set_self (List.getElem?_eq_some_iff.1 hm).1, hm]
      · rw [List.getElem?_set_ne hj]
    rw [this]; exact g
  | cons c r ih =>
    intro vs k G w h m b sz i o es gr g hm hb hl hV hs hi ho
    cases vs with
    | nil => simp at hl
    | cons v vr =>
      simp only [List.all_cons, Bool.and_eq_true] at hs
      have hgr := g.arr m sz es gr b hm hb
      have hlen : es[i].length = sz := (hgr.sz _ (List.getElem_mem hi)).1
      have hc0 : ∃ c0, getc es i (o + k) = some c0 := by
        have : o + k < es[i].length := by simp at ho; omega
        exact ⟨es[i][o + k], by simp [getc, hi, this]⟩
      obtain ⟨c0, hc0⟩ := hc0
      obtain ⟨v0, hcell, hfz, _⟩ := hgr.cell hc0
      have hV0 := hV 0 c v rfl rfl
      have gset := g.gamSet hm hb hc0 hV0 hs.1
      have hlive := g.mkLive hm hb
      have st := g.stpSet hlive hb (i * sz + (o + k)) v
      have hlt : m < h.length := (List.getElem?_eq_some_iff.1 hm).1
      obtain ⟨w', hrun, hg', hst⟩ := ih vr (k + 1) (m := m) (b := b) (sz := sz) (i := i) (o := o) (es := setc es i (o + k) c) (gr := gr) gset (List.getElem?_set_self hlt) hb (by simpa using hl)
        (fun j c' v' a b => (hV (j + 1) c' v' (by simpa using a) (by simpa using b)).keep st.keep) hs.2 (by rw [length_setc]; exact hi) (by simp at ho; omega)
      refine ⟨w', ?_, ?_, st.trans hst⟩
      · simp only [storeCells, Sem.run_bind, addr_add]
        rw [run_store P w _ v _ (hV0.oneCell hs.1)]
        rw [Nat.add_assoc, hcell]
        simp only [hfz, Bool.false_eq_true, if_false, Result.andThen_ok]
        exact hrun
      · rw [modify_setMany]
        rw [List.set_set] at hg'
        exact hg'

theorem astore_sound {P : Program} {G w h n a x h' va vx} (g : Gam G w h) (ha : V G w a va) (hx : V G w x vx) (hr : astore h n a x = some h')
    {t : TypeId} (hs : (Go.sizeOf t).run P w = .ok n w) :
    ∃ w', (Instr.storeAt t va vx).run P w = .ok () w' ∧ Gam G w' h' ∧ Stp G w G w' := by
  unfold astore at hr
  split at hr
  · rename_i m sz i o
    cases ha with
    | ptr _ _ _ _ b hn hb =>
    split at hr
    · rename_i sz' es gr cs hm hcs
      split at hr
      · rename_i hh
        obtain ⟨rfl, hl, ho, hi, hsc⟩ := hh
        cases hr
        have hv := hx.cells hcs
        obtain ⟨w', hrun, hg, hst⟩ := storeCells_does (P := P) cs vx.cells.toList 0 g hm hb (by simpa using hv.1) (fun j c v a b => hv.2 j c v a (by simpa using b)) hsc hi (o := o) (by omega)
        refine ⟨w', ?_, by simpa using hg, hst⟩
        have hno : vx.cells.size = n := by rw [← hv.1, hl]
        simp [Instr.storeAt, Instr.sureAddr, storeVar, hs, hno, hrun]
      · cases hr
    · cases hr
  · cases hr

/-! rows that are read -/

/-- elements that lie one behind the other -/
structure RowAt (G : Gh) (w : World) (b o sz : Nat) (es : List (List AV)) : Prop where
  ok : okes sz es
  ex : ∃ f : Nat → Nat → Value, (∀ i j c, getc es i j = some c → w.cell? ⟨b, o + (i * sz + j), none⟩ = some (f i j)) ∧ ∀ i j c, getc es i j = some c → V G w c (f i j)

/-- an array of values beside elements -/
structure CRow (G : Gh) (w : World) (sz : Nat) (es : List (List AV)) (cells : Array Value) : Prop where
  ok : okes sz es
  size : cells.size = es.length * sz
  val : ∀ i j c, getc es i j = some c → ∃ v, cells[i * sz + j]? = some v ∧ V G w c v

theorem CRow.keep {G w G' w' sz es cells} (k : Keeps G w G' w') (h : CRow G w sz es cells) : CRow G' w' sz es cells :=
  ⟨h.ok, h.size, fun i j c hc => let ⟨v, hv, hV⟩ := h.val i j c hc; ⟨v, hv, hV.keep k⟩⟩

theorem getc_some {es : List (List AV)} {sz i j : Nat} (h : okes sz es) (hi : i < es.length) (hj : j < sz) : ∃ c, getc es i j = some c := by
  have := (h _ (List.getElem_mem hi)).1
  exact ⟨es[i][j]'(by omega), by simp [getc, hi, this, hj]⟩

theorem getc_scalar {es : List (List AV)} {sz i j : Nat} {c : AV} (h : okes sz es) (hc : getc es i j = some c) : c.scalar = true := by
  simp only [getc] at hc
  cases he : es[i]? with
  | none => simp [he] at hc
  | some e =>
    simp [he] at hc
    obtain ⟨hi, rfl⟩ := List.getElem?_eq_some_iff.1 he
    exact List.all_eq_true.1 (h _ (List.getElem_mem hi)).2 c (List.mem_of_getElem? hc)

theorem split_index {n sz k : Nat} (h : k < n * sz) : k / sz < n ∧ k % sz < sz ∧ k / sz * sz + k % sz = k := by
  have hs : 0 < sz := Nat.pos_of_ne_zero (by rintro rfl; simp at h)
  refine ⟨(Nat.div_lt_iff_lt_mul hs).2 h, Nat.mod_lt _ hs, ?_⟩
  rw [Nat.mul_comm]; exact Nat.div_add_mod k sz

theorem CRow.one {G w sz es cells} (h : CRow G w sz es cells) : ∀ v ∈ cells.toList, v.oneCell' = true := by
  intro v hv
  obtain ⟨k, hk, rfl⟩ := List.mem_iff_getElem.1 hv
  have hk' : k < es.length * sz := by rw [← h.size]; simpa using hk
  obtain ⟨h1, h2, h3⟩ := split_index hk'
  obtain ⟨c, hc⟩ := getc_some h.ok h1 h2
  obtain ⟨v, hv, hV⟩ := h.val _ _ _ hc
  rw [h3] at hv
  have : cells.toList[k] = v := by
    have := (Array.getElem?_eq_some_iff.1 hv).2
    simpa using this
  rw [this]
  exact hV.oneCell (getc_scalar h.ok hc)

theorem RowAt.load {P : Program} {G w b o sz es} (h : RowAt G w b o sz es) :
    ∃ cells, (loadCells ⟨b, o, none⟩ (es.length * sz)).run P w = .ok cells w ∧ CRow G w sz es cells := by
  obtain ⟨hs, f, hc, hV⟩ := h
  refine ⟨((List.range (es.length * sz)).map fun k => f (k / sz) (k % sz)).toArray, run_loadCells (P := P) (w := w) ⟨b, o, none⟩ _ _ (fun k hk => ?_), hs, by simp, ?_⟩
  · obtain ⟨h1, h2, h3⟩ := split_index hk
    obtain ⟨c, hcc⟩ := getc_some hs h1 h2
    have := hc _ _ _ hcc
    rw [h3] at this
    rw [addr_add]; exact this
  · intro i j c hcc
    obtain ⟨hi, hj⟩ := getc_lt hs hcc
    have hk := cell_lt hi hj
    have hsz : 0 < sz := by omega
    have e1 : (i * sz + j) / sz = i := by rw [Nat.mul_comm, Nat.mul_add_div hsz, Nat.div_eq_of_lt hj, Nat.add_zero]
    have e2 : (i * sz + j) % sz = j := by rw [Nat.mul_comm, Nat.mul_add_mod, Nat.mod_eq_of_lt hj]
    exact ⟨f i j, by simp [hk, e1, e2], hV i j c hcc⟩

theorem getc_mid {es : List (List AV)} {off len i j : Nat} {c : AV} (h : getc ((es.drop off).take len) i j = some c) : getc es (off + i) j = some c := by
  simp only [getc, List.getElem?_take] at h ⊢
  split at h
  · simpa [List.getElem?_drop] using h
  · simp at h

theorem okes_mid {sz : Nat} {es : List (List AV)} (h : okes sz es) (off len : Nat) : okes sz ((es.drop off).take len) :=
  fun e he => h e (List.mem_of_mem_drop (List.mem_of_mem_take he))

theorem Holds.rowAt {G w b sz es gr} (h : Holds G w b sz es gr) (off len : Nat) : RowAt G w b (off * sz) sz ((es.drop off).take len) := by
  obtain ⟨⟨cells, ty, hh, _, _, h3⟩, hs⟩ := h
  refine ⟨okes_mid hs off len, fun i j => (cells[(off + i) * sz + j]?).getD undef, fun i j c hc => ?_, fun i j c hc => ?_⟩ <;>
  · obtain ⟨v, hv, hV⟩ := h3 _ _ _ (getc_mid hc)
    have e : off * sz + (i * sz + j) = (off + i) * sz + j := by rw [Nat.add_mul]; omega
    simp [World.cell?, hh, e, hv, hV]

/-- the elements of a slice -/
def aelems (h : AHeap) (sz : Nat) : AV → Option (List (List AV))
  | .nils => some []
  | .vals _ _ sz' es => if sz = sz' then some es else none
  | .ref m sz' off len _ =>
    match h[m]? with
    | some (some (.arr sz'' es _)) => if sz = sz' ∧ sz = sz'' ∧ off + len ≤ es.length then some ((es.drop off).take len) else none
    | _ => none
  | _ => none

theorem aelems_sound {P : Program} {G w h sz y ys vy} (g : Gam G w h) (hy : V G w y vy) (hr : aelems h sz y = some ys) :
    (Builtin.lenOf vy).run P w = .ok ys.length w ∧ okes sz ys ∧ ∃ cells, (Builtin.firstCells sz ys.length vy).run P w = .ok cells w ∧ CRow G w sz ys cells := by
  unfold aelems at hr
  split at hr
  · cases hy; cases hr
    exact ⟨rfl, fun e he => by simp at he, #[], rfl, fun e he => by simp at he, by simp, fun i j c hc => by simp [getc] at hc⟩
  · rename_i t cl sz' es
    split at hr
    · rename_i hh; subst hh; cases hr
      cases hy with
      | valsNil => exact ⟨rfl, fun e he => by simp at he, #[], rfl, fun e he => by simp at he, by simp, fun i j c hc => by simp [getc] at hc⟩
      | vals _ _ _ _ a cap f hl hcl hsp hp hes hc hV =>
        obtain ⟨cells, hrun, hrow⟩ := RowAt.load (P := P) (G := G) (w := w) (b := a.block) (o := a.off) (sz := sz) (es := ys) ⟨hes, f, hc, hV⟩
        refine ⟨rfl, hes, cells, ?_, hrow⟩
        by_cases hcz : cap = 0
        · have hl0 : ys.length = 0 := by omega
          have : cells = #[] := by
            have := hrow.size
            rw [hl0, Nat.zero_mul] at this
            exact Array.eq_empty_of_size_eq_zero this
          subst this
          rw [hl0]
          simp [Builtin.firstCells, loadCells, loadCellsFrom]
        · have ha : a = ⟨a.block, a.off, none⟩ := by have := hsp hcz; cases a; simp at this; simp [this]
          rw [ha]; exact hrun
    · cases hr
  · rename_i m sz' off len cap
    split at hr
    · rename_i sz'' es gr hm
      split at hr
      · rename_i hh
        obtain ⟨rfl, rfl, hle⟩ := hh
        cases hr
        have hlen : ((es.drop off).take len).length = len := by simp; omega
        cases hy with
        | refNil _ _ _ _ hb _ =>
          have := g.nil m sz es gr hm (g.nilLoc m hb)
          subst this
          exact ⟨rfl, fun e he => by simp at he, #[], rfl, fun e he => by simp at he, by simp, fun i j c hc => by simp [getc] at hc⟩
        | ref _ _ _ _ _ c ty mm b hn hb hl hcap hsh hmm =>
          have hrow := (g.arr m sz es gr b hm hb).rowAt off len
          obtain ⟨cells, hrun, hr'⟩ := hrow.load (P := P)
          refine ⟨by rw [hlen]; rfl, hrow.ok, cells, ?_, hr'⟩
          exact hrun
      · cases hr
    · cases hr
  · cases hr

/-! rows that are written -/

theorem heap_setRow {w : World} {g : Nat} {c cur : Array Value} {t : TypeId} {fr : Nat × Nat} (h : w.heap[g]? = some (.cells cur t fr)) :
    (w.setRow g c).heap[g]? = some (.cells c t fr) := setRow_heap w g cur c t fr h

theorem heap_setRow_ne {w : World} {g b : Nat} {c : Array Value} (h : g ≠ b) : (w.setRow g c).heap[b]? = w.heap[b]? := by
  simp [World.setRow, Array.getElem?_modify, h]

end Glb

/-
  A library of its own, for whatever program: append.
-/
namespace Glb
open Go

/-- a row of ours is given other elements -/
theorem Gam.update {G w h w'} (g : Gam G w h) {n sz es gr b es' gr'} (hn : h[n]? = some (some (.arr sz es gr))) (hb : G.loc n = some b)
    (k : Keeps G w G w') (hsize : w.heap.size ≤ w'.heap.size) (hother : ∀ m b', G.live m → G.loc m = some b' → m ≠ n → w'.heap[b']? = w.heap[b']?)
    (hH : Holds G w' b sz es' gr') : Gam G w' (h.set n (some (.arr sz es' gr'))) := by
  have hlt : n < h.length := (List.getElem?_eq_some_iff.1 hn).1
  refine { len := by simp [g.len], live := ?_, tag := ?_, inj := g.inj, liveTag := g.liveTag, liveS := g.liveS, tagInj := g.tagInj, tagS := g.tagS,
           tagLt := fun m b hb => Nat.lt_of_lt_of_le (g.tagLt m b hb) hsize, sLt := fun b hb => Nat.lt_of_lt_of_le (g.sLt b hb) hsize, arr := ?_, nil := ?_, nilLoc := g.nilLoc, map := ?_ }
  · intro m
    rw [g.live m]
    by_cases hm : n = m
    · subst hm
      exact ⟨fun h => ⟨⟨_, List.getElem?_set_self hlt, rfl⟩, h.2⟩, fun h => ⟨⟨_, hn, rfl⟩, h.2⟩⟩
    · rw [List.getElem?_set_ne hm]
  · intro m b hb
    have hm : n ≠ m := by rintro rfl; rw [g.tag _ _ hb] at hn; simp at hn
    rw [List.getElem?_set_ne hm]; exact g.tag m b hb
  · intro m sz' es1 gr1 b' hm hb'
    by_cases h1 : n = m
    · subst h1
      rw [hb] at hb'; cases hb'
      rw [List.getElem?_set_self hlt] at hm
      obtain ⟨rfl, rfl, rfl⟩ : sz = sz' ∧ es' = es1 ∧ gr' = gr1 := by simpa using hm
      exact hH
    · rw [List.getElem?_set_ne h1] at hm
      exact (g.arr m sz' es1 gr1 b' hm hb').keep k (hother m b' (g.mkLive hm hb') hb' (fun e => h1 e.symm))
  · intro m sz' es1 gr1 hm hb'
    by_cases h1 : n = m
    · subst h1; rw [hb] at hb'; cases hb'
    · rw [List.getElem?_set_ne h1] at hm
      exact g.nil m sz' es1 gr1 hm hb'
  · intro m es1 b' hm hb'
    by_cases h1 : n = m
    · subst h1; rw [List.getElem?_set_self hlt] at hm; simp at hm
    · rw [List.getElem?_set_ne h1] at hm
      exact (g.map m es1 b' hm hb').keep k (hother m b' (g.mkLiveM hm hb') hb' (fun e => h1 e.symm))

def splice (es : List (List AV)) (p : Nat) (ys : List (List AV)) : List (List AV) := es.take p ++ ys ++ es.drop (p + ys.length)

theorem getc_splice {es ys : List (List AV)} {p i j : Nat} {c : AV} (hp : p ≤ es.length) (h : getc (splice es p ys) i j = some c) :
    (i < p ∧ getc es i j = some c) ∨ (p ≤ i ∧ i < p + ys.length ∧ getc ys (i - p) j = some c) ∨ (p + ys.length ≤ i ∧ getc es i j = some c) := by
  simp only [getc, splice, List.getElem?_append, List.length_append, List.length_take, Nat.min_eq_left hp] at h
  rcases Nat.lt_or_ge i p with h1 | h1
  · left
    rw [if_pos (by omega), if_pos h1, List.getElem?_take_of_lt h1] at h
    exact ⟨h1, h⟩
  · rcases Nat.lt_or_ge i (p + ys.length) with h2 | h2
    · right; left
      rw [if_pos h2, if_neg (by omega)] at h
      exact ⟨h1, h2, h⟩
    · right; right
      rw [if_neg (by omega), List.getElem?_drop] at h
      refine ⟨h2, ?_⟩
      rw [show p + ys.length + (i - (p + ys.length)) = i by omega] at h
      exact h

theorem okes_splice {sz : Nat} {es ys : List (List AV)} (h : okes sz es) (h' : okes sz ys) (p : Nat) : okes sz (splice es p ys) := by
  intro e he
  simp only [splice, List.mem_append] at he
  rcases he with (he | he) | he
  · exact h e (List.mem_of_mem_take he)
  · exact h' e he
  · exact h e (List.mem_of_mem_drop he)

/-- elements written into a row of ours -/
theorem writeRow {P : Program} {G w h} (g : Gam G w h) {n sz es gr b p ys vs cur ty} (hn : h[n]? = some (some (.arr sz es gr))) (hb : G.loc n = some b)
    (hcur : w.heap[b]? = some (.cells cur ty (0, 0))) (hrow : CRow G w sz ys vs) (hp : p ≤ es.length) (hfit : (p + ys.length) * sz ≤ cur.size) :
    ∃ w', (storeCells ⟨b, p * sz, none⟩ vs.toList).run P w = .ok () w' ∧ Stp G w G w' ∧ (∀ b', b' ≠ b → w'.heap[b']? = w.heap[b']?) ∧
      (∀ r, w'.shape? r = w.shape? r) ∧ ∀ gr', (gr' = false → cur.size = (splice es p ys).length * sz) → Holds G w' b sz (splice es p ys) gr' := by
  have hl := g.mkLive hn hb
  obtain ⟨⟨cells, ty', hh, h1, h2, h3⟩, hs⟩ := g.arr n sz es gr b hn hb
  rw [hcur] at hh
  obtain ⟨rfl, rfl⟩ : cur = cells ∧ ty = ty' := by simpa using hh
  have hvl : vs.toList.length = ys.length * sz := by simpa using hrow.size
  have hmul : (p + ys.length) * sz = p * sz + ys.length * sz := Nat.add_mul _ _ _
  have hrun := run_storeCells_at P b (p * sz) ty vs.toList 0 cur w hcur (by rw [hvl]; omega) hrow.one
  simp only [Nat.add_zero] at hrun
  generalize hnew : (cur.toList.take (p * sz) ++ vs.toList ++ cur.toList.drop (p * sz + vs.toList.length)).toArray = new at hrun
  have hsize : new.size = cur.size := by rw [← hnew]; simp only [List.size_toArray, List.length_append, List.length_take, List.length_drop, Array.length_toList] at *; omega
  have hheap := heap_setRow (c := new) hcur
  have hother : ∀ b', b' ≠ b → (w.setRow b new).heap[b']? = w.heap[b']? := fun b' hb' => heap_setRow_ne (fun e => hb' e.symm)
  have hshape : ∀ r, (w.setRow b new).shape? r = w.shape? r := by
    intro r
    by_cases hr : r = b
    · subst hr; simp only [World.shape?, hheap, hcur, hsize]
    · simp only [World.shape?, hother r hr]
  have hrest : Rest w (w.setRow b new) := ⟨rfl, rfl, by simp [World.setRow], fun x _ => by
    by_cases hr : x.block = b
    · simp only [World.frozen?, hr, hheap, hcur]
    · simp only [World.frozen?, hother _ hr]⟩
  have k : Keeps G w G (w.setRow b new) := by
    refine ⟨Nat.le_refl _, fun _ _ _ h => h, fun _ _ h => h, fun _ _ h => h, fun t b' hp => hother b' ?_, fun b _ => hshape b⟩
    rintro rfl
    cases t with
    | zero => exact g.liveS n _ hl hb hp
    | succ m => exact g.liveTag n m _ hl hb hp
  refine ⟨_, hrun, ⟨k, ⟨fun _ h => h, fun _ h => .inl h⟩, fun _ _ => rfl, fun _ _ => Iff.rfl, by simp [World.setRow], fun b' _ hb' => hother b' (by rintro rfl; exact hb' (.inl ⟨n, hl, hb⟩)), fun b hb => .inl hb, hrest⟩, hother, hshape, fun gr' hgr' => ?_⟩
  refine ⟨⟨new, ty, hheap, ?_, by rw [hsize]; exact hgr', ?_⟩, okes_splice hs hrow.ok p⟩
  · rw [hsize]
    simp only [splice, List.length_append, List.length_take, List.length_drop, Nat.min_eq_left hp]
    rcases Nat.le_total (p + ys.length) es.length with hc | hc
    · rw [show p + ys.length + (es.length - (p + ys.length)) = es.length by omega]; exact h1
    · rw [show p + ys.length + (es.length - (p + ys.length)) = p + ys.length by omega]; exact hfit
  · intro i j c hc
    have hcell : ∀ k, new[k]? = if k < p * sz then cur[k]? else if k < p * sz + ys.length * sz then vs[k - p * sz]? else cur[k]? := by
      intro k
      rw [← hnew]
      simp only [List.getElem?_toArray, List.getElem?_append, List.length_append, List.length_take, Array.length_toList, hrow.size]
      have e1 : min (p * sz) cur.size = p * sz := by omega
      rw [e1]
      rcases Nat.lt_or_ge k (p * sz) with a | a
      · rw [if_pos (by omega), if_pos a, if_pos a, List.getElem?_take_of_lt a]; simp
      · rcases Nat.lt_or_ge k (p * sz + ys.length * sz) with c | c
        · rw [if_pos c, if_neg (by omega), if_neg (by omega), if_pos c]; simp
        · rw [if_neg (by omega), if_neg (by omega), if_neg (by omega), List.getElem?_drop]
          rw [show p * sz + ys.length * sz + (k - (p * sz + ys.length * sz)) = k by omega]; simp
    rcases getc_splice hp hc with ⟨a, hc'⟩ | ⟨a, b', hc'⟩ | ⟨a, hc'⟩
    · obtain ⟨v, hv, hV⟩ := h3 i j c hc'
      have hj := (getc_lt hs hc').2
      refine ⟨v, ?_, hV.keep k⟩
      rw [hcell, if_pos (cell_lt a hj)]; exact hv
    · obtain ⟨v, hv, hV⟩ := hrow.val _ _ _ hc'
      have hj := (getc_lt hrow.ok hc').2
      have e : i * sz + j = p * sz + ((i - p) * sz + j) := by
        rw [show i * sz = (p + (i - p)) * sz by rw [Nat.add_sub_cancel' a], Nat.add_mul, Nat.add_assoc]
      have hlt := cell_lt (n := ys.length) (i := i - p) (by omega) hj
      refine ⟨v, ?_, hV.keep k⟩
      rw [hcell, if_neg (by omega), if_pos (by omega), show i * sz + j - p * sz = (i - p) * sz + j by omega]; exact hv
    · obtain ⟨v, hv, hV⟩ := h3 i j c hc'
      have hj := (getc_lt hs hc').2
      have : p * sz + ys.length * sz ≤ i * sz := by rw [← Nat.add_mul]; exact Nat.mul_le_mul_right _ a
      refine ⟨v, ?_, hV.keep k⟩
      rw [hcell, if_neg (by omega), if_neg (by omega)]; exact hv

/-! the run of append -/

theorem growBy_le (newLen : Nat) : ∀ (r c : Nat), 256 ≤ c → c < 2 * newLen → Builtin.growBy newLen r c ≤ 2 * newLen := by
  intro r
  induction r with
  | zero => intro c _ h; simp only [Builtin.growBy]; omega
  | succ r ih =>
    intro c h1 h2
    simp only [Builtin.growBy]
    split
    · omega
    · rename_i h3
      by_cases h4 : c + (c + 768) / 4 < 2 * newLen
      · exact ih _ (by omega) h4
      · have : c + (c + 768) / 4 ≤ 2 * newLen := by omega
        have : c + (c + 768) / 4 = 2 * newLen := by omega
        rw [this]
        cases r with
        | zero => simp [Builtin.growBy]
        | succ r => simp only [Builtin.growBy]; rw [if_pos (by omega)]; omega

theorem nextslicecap_le {need cap : Nat} (h : cap < need) : Builtin.nextslicecap need cap ≤ 2 * need := by
  unfold Builtin.nextslicecap
  split
  · omega
  · split
    · omega
    · exact growBy_le need 4 cap (by omega) (by omega)

structure AppT (P : Program) (sT xT elem : TypeId) (cs bs : Nat) (inf : TypeInfo) (zv : Value) : Prop where
  s : P.underlying sT = some (.slice elem)
  x : ∃ e, P.underlying xT = some (.slice e)
  info : P.info? elem = some inf
  sz : inf.size = cs
  bytes : inf.bytes = bs
  zero : inf.zero = some zv
  pos : 0 < bs
  zsz : zv.cells.size = cs

theorem run_append_room {P : Program} {sT xT elem sz bytes info zero} (T : AppT P sT xT elem sz bytes info zero) (ty : TypeId) (w : World)
    {base : Option Addr} {len cap k : Nat} {x : Value} {cells : Array Value} (hlen : (Builtin.lenOf x).run P w = .ok k w)
    (hf : (Builtin.firstCells sz k x).run P w = .ok cells w) (hr : len + k ≤ cap) :
    (Builtin.append_ #[sT, xT] ty #[.slice base len cap, x]).run P w =
      match base with
      | some a => ((storeCells (a.add (len * sz)) cells.toList).run P w).andThen fun _ w' => .ok (.slice base (len + k) cap) w'
      | none => .ok (.slice base (len + k) cap) w := by
  obtain ⟨d, hd⟩ := T.x
  cases base with
  | none =>
    simp only [Builtin.append_, Sem.run_bind, Sem.run_pure, Result.andThen_ok, run_underlying T.s, run_underlying hd, Go.sizeOf, run_typeInfo w T.info, T.sz, List.getElem?_toArray, List.getElem?_cons_zero,
          List.getElem?_cons_succ, Bool.false_eq_true, if_false, hlen, Sem.run_ite, if_pos hr, Bool.not_false, if_true, hf]
  | some a =>
    simp only [Builtin.append_, Sem.run_bind, Sem.run_pure, Result.andThen_ok, run_underlying T.s, run_underlying hd, Go.sizeOf, run_typeInfo w T.info, T.sz, List.getElem?_toArray, List.getElem?_cons_zero,
          List.getElem?_cons_succ, Bool.false_eq_true, if_false, hlen, Sem.run_ite, if_pos hr, Bool.not_false, if_true, hf]

theorem run_append_grow {P : Program} {sT xT elem sz bytes info zero} (T : AppT P sT xT elem sz bytes info zero) (ty : TypeId) (w : World)
    {s x : Value} {base : Option Addr} {len cap k : Nat} {old cells : Array Value} (hs : s = .slice base len cap) (hlen : (Builtin.lenOf x).run P w = .ok k w)
    (e1 : (Builtin.firstCells sz len s).run P w.drew = .ok old w.drew) (e2 : (Builtin.firstCells sz k x).run P w.drew = .ok cells w.drew)
    (hr : ¬ len + k ≤ cap) (hb : (len + k) * bytes ≤ 2 ^ 46) :
    ∃ newCap rest, len + k ≤ newCap ∧ rest.size = (newCap - (len + k)) * sz ∧ (Builtin.append_ #[sT, xT] ty #[s, x]).run P w =
      .ok (.slice (some ⟨w.heap.size, 0, none⟩) (len + k) newCap) (w.drew.alloc (.cells (old ++ cells ++ rest) elem)) := by
  subst hs
  obtain ⟨d, hd⟩ := T.x
  have hcap : Builtin.nextslicecap (len + k) cap * bytes ≤ 2 ^ 48 := by
    have h1 := nextslicecap_le (need := len + k) (cap := cap) (by omega)
    have h2 := Nat.mul_le_mul_right bytes h1
    rw [Nat.mul_assoc] at h2
    omega
  have hq : (Question.appendCap (len + k) cap elem).forced = false := rfl
  refine ⟨(Question.appendCap (len + k) cap elem).cut (w.tape w.drawn (.appendCap (len + k) cap elem)),
    Builtin.zeroCells zero.cells ((Question.appendCap (len + k) cap elem).cut (w.tape w.drawn (.appendCap (len + k) cap elem)) - (len + k)), ?_, ?_, ?_⟩
  · simp only [Question.cut]; omega
  · simp [Builtin.zeroCells, T.zsz]
  · have hb0 : ¬ bytes = 0 := Nat.ne_of_gt T.pos
    have hcap' : ¬ (2 ^ 48 < Builtin.nextslicecap (len + k) cap * bytes) := by omega
    have hcd : { w with drawn := w.drawn + 1 } = w.drew := rfl
    have hn1 : ¬ (((len + k : Nat) : Int) > IntKind.i64.max ∧ (false = true ∨ bytes = 0)) := by
      rintro ⟨_, h | h⟩
      · cases h
      · exact hb0 h
    have hn2 : ¬ (Builtin.nextslicecap (len + k) cap * bytes > 2 ^ 48) := hcap'
    simp only [Builtin.append_, Sem.run_bind, Sem.run_pure, Result.andThen_ok, run_underlying T.s, run_underlying hd, Go.sizeOf, run_typeInfo _ T.info, T.sz, List.getElem?_toArray, List.getElem?_cons_zero,
          List.getElem?_cons_succ, Bool.false_eq_true, if_false, hlen, Sem.run_ite, if_neg hr, T.bytes, hn2, false_or, hb0, and_false, run_choose, hq, hcd, run_askRoom, e1, e2, Bool.not_false, if_true,
          zeroValue, T.zero, newRow, run_newObj]
    rfl

def append1 (h : AHeap) (sz : Nat) (es : List (List AV)) : AV × AHeap := (.ref h.length sz 0 es.length none, h ++ [some (.arr sz es true)])

/-- append: of elements -/
def aappendY (h : AHeap) (sz bytes : Nat) (x : AV) (ys : List (List AV)) : Option (AV × AHeap) :=
  match x with
  | .nils => if ys.length * bytes ≤ 2 ^ 46 then some (append1 h sz ys) else none
  | .ref n sz' off len cap =>
    match h[n]? with
    | some (some (.arr sz'' es g)) =>
      if sz = sz' ∧ sz = sz'' ∧ off + len ≤ es.length ∧ (len + ys.length) * bytes ≤ 2 ^ 46 then
        match cap with
        | some (c + 1) =>
          if c + 1 < len + ys.length then some (append1 h sz ((es.drop off).take len ++ ys))
          else if off + len + ys.length ≤ es.length then some (.ref n sz off (len + ys.length) (some (c + 1)), h.set n (some (.arr sz (splice es (off + len) ys) g)))
          else none
        | some 0 => if len = 0 then (if ys.length = 0 then some (x, h) else some (append1 h sz ys)) else none
        | none => if off = 0 then some (append1 (h.set n none) sz (es.take len ++ ys)) else none
      else none
    | _ => none
  | .vals _ clip sz' es =>
    if sz = sz' ∧ (es.length + ys.length) * bytes ≤ 2 ^ 46 then
      if ys.length = 0 then some (x, h) else if clip = true then some (append1 h sz (es ++ ys)) else none
    else none
  | _ => none

/-- append -/
def aappend (h : AHeap) (sz bytes : Nat) (x y : AV) : Option (AV × AHeap) :=
  match aelems h sz y with
  | none => none
  | some ys => aappendY h sz bytes x ys

theorem CRow.append {G w sz es ys c1 c2} (h1 : CRow G w sz es c1) (h2 : CRow G w sz ys c2) : CRow G w sz (es ++ ys) (c1 ++ c2) := by
  refine ⟨fun e he => ?_, by simp [h1.size, h2.size, Nat.add_mul], fun i j c hc => ?_⟩
  · rcases List.mem_append.1 he with h | h
    · exact h1.ok e h
    · exact h2.ok e h
  · simp only [getc, List.getElem?_append] at hc
    split at hc
    · rename_i hi
      have hc' : getc es i j = some c := hc
      obtain ⟨v, hv, hV⟩ := h1.val i j c hc'
      have := cell_lt hi (getc_lt h1.ok hc').2
      exact ⟨v, by rw [Array.getElem?_append, if_pos (by rw [h1.size]; exact this)]; exact hv, hV⟩
    · rename_i hi
      have hc' : getc ys (i - es.length) j = some c := hc
      obtain ⟨v, hv, hV⟩ := h2.val _ j c hc'
      have e : i * sz + j = es.length * sz + ((i - es.length) * sz + j) := by
        rw [show i * sz = (es.length + (i - es.length)) * sz by rw [Nat.add_sub_cancel' (by omega)], Nat.add_mul, Nat.add_assoc]
      refine ⟨v, ?_, hV⟩
      rw [Array.getElem?_append, if_neg (by rw [h1.size]; omega), h1.size, show i * sz + j - es.length * sz = (i - es.length) * sz + j by omega]; exact hv

/-- the new row that a growing append makes -/
theorem grow_does {P : Program} {G w h} (g : Gam G w h) {sz es cells rest} (hrow : CRow G w sz es cells) (elem : TypeId) {newCap : Nat} (hle : es.length ≤ newCap) (hrest : rest.size = (newCap - es.length) * sz)
    {s : Sem Value} (hrun : s.run P w = .ok (.slice (some ⟨w.heap.size, 0, none⟩) es.length newCap) (w.drew.alloc (.cells (cells ++ rest) elem))) :
    Does P s G w (append1 h sz es).1 (append1 h sz es).2 := by
  have gd : Gam G w.drew h := g.same rfl
  have st : Stp G w G w.drew := Stp.drew G w _
  have hsize : (cells ++ rest).size = newCap * sz := by
    rw [Array.size_append, hrow.size, hrest, ← Nat.add_mul, Nat.add_sub_cancel' hle]
  have k := gd.keepsNew (.cells (cells ++ rest) elem)
  refine ⟨_, _, G.new (some w.heap.size), hrun, ?_, ?_, st.trans (gd.stpNew _ _)⟩
  · refine gd.gamNew hrow.ok (by rw [hsize]; exact Nat.mul_le_mul_right _ hle) (by simp) (fun i j c hc => ?_)
    obtain ⟨v, hv, hV⟩ := hrow.val i j c hc
    have := getc_lt hrow.ok hc
    have hlt := cell_lt this.1 this.2
    exact ⟨v, by rw [Array.getElem?_append, if_pos (by rw [hrow.size]; exact hlt)]; exact hv, hV.keep st.keep⟩
  · have := V.ref (G := G.new (some w.heap.size)) (w := w.drew.alloc (.cells (cells ++ rest) elem)) h.length sz 0 es.length none newCap elem (newCap * sz) w.heap.size
      (by rw [g.len]; exact Nat.lt_succ_self _) (by rw [g.len]; simp [Gh.new]) hle (by simp) (by rw [← hsize]; simp only [World.shape?]; rw [show w.heap.size = w.drew.heap.size from rfl, heap_alloc_new]) (by simp)
    simpa [append1] using this

theorem CRow.nil (G w sz) : CRow G w sz [] #[] := ⟨fun e he => by simp at he, by simp, fun i j c hc => by simp [getc] at hc⟩

/-- a name for a nil row -/
theorem nilName {G w h} (g : Gam G w h) (sz : Nat) (gr : Bool) (cap : Option Nat) (hc : ∀ k, cap = some k → k = 0) :
    Gam (G.new none) w (h ++ [some (.arr sz [] gr)]) ∧ V (G.new none) w (.ref h.length sz 0 0 cap) (.slice none 0 0) ∧ Stp G w (G.new none) w := by
  have k := g.keepsName none
  refine ⟨g.gamName k (Nat.le_refl _) (fun _ _ _ _ => rfl) (by simp) (by simp) (fun _ => rfl), ?_, ⟨k, ⟨fun _ h => h, fun _ h => .inl h⟩, fun n hn => by simp only [Gh.new, Nat.ne_of_lt hn, if_false], fun n hn => by simp only [Gh.new, Nat.ne_of_lt hn, if_false], Nat.le_refl _, fun _ _ _ => rfl, fun b hb => ?_, Rest.refl w⟩⟩
  · rw [g.len]; exact .refNil _ _ _ (Nat.lt_succ_self _) (by simp [Gh.new]) hc
  · rcases hb with ⟨n, hn, he⟩ | ⟨n, hn⟩
    · by_cases h : n = G.N
      · simp [Gh.new, h] at he
      · simp only [Gh.new, h, if_false] at he
        exact .inl (.inl ⟨n, hn.resolve_right (fun x => h x.1), he⟩)
    · exact .inl (.inr ⟨n, hn⟩)

/-- a row gets another name -/
theorem renameRow {G w h} (g : Gam G w h) {n sz es gr b} (hn : h[n]? = some (some (.arr sz es gr))) (hb : G.loc n = some b) (gr' : Bool) (hgr : gr' = false → gr = false) :
    Gam ((G.kill n).new (some b)) w (h.set n none ++ [some (.arr sz es gr')]) ∧ Stp G w ((G.kill n).new (some b)) w := by
  have gk := g.drop hn
  have k := gk.keepsName (some b)
  have hl := g.mkLive hn hb
  have hH := g.arr n sz es gr b hn hb
  refine ⟨gk.gamName k (Nat.le_refl _) (fun _ _ _ _ => rfl) ?_ ?_ (by simp), ⟨(G.keepsKill w n).trans k, ⟨fun _ h => h, fun _ h => .inl h⟩, fun m hm => by simp only [Gh.new, Gh.kill, Nat.ne_of_lt hm, if_false], fun m hm => by simp only [Gh.new, Gh.kill, Nat.ne_of_lt hm, if_false], Nat.le_refl _, fun _ _ _ => rfl, fun x hx => ?_, Rest.refl w⟩⟩
  · rintro b' ⟨⟩
    exact ⟨fun m hm he => hm.2 (g.inj m n _ hm.1 hl he hb), fun m ht => g.liveTag n m _ hl hb ht, g.liveS n _ hl hb⟩
  · rintro b' ⟨⟩
    have := (hH.keep (G.keepsKill w n) rfl).keep k rfl
    exact ⟨this.ex.elim fun c hc => hc.elim fun t ht => ⟨c, t, ht.1, ht.2.1, fun e => ht.2.2.1 (hgr e), ht.2.2.2⟩, this.sz⟩
  · rcases hx with ⟨m, hm, he⟩ | ⟨m, hm⟩
    · by_cases h : m = (G.kill n).N
      · simp [Gh.new, h] at he; subst he
        exact .inl (.inl ⟨n, hl, hb⟩)
      · simp only [Gh.new, h, if_false] at he
        exact .inl (.inl ⟨m, (hm.resolve_right (fun x => h x.1)).1, he⟩)
    · exact .inl (.inr ⟨m, hm⟩)

theorem Keeps.heap_eq {G w w'} (h : w'.heap = w.heap) : Keeps G w G w' :=
  ⟨Nat.le_refl _, fun _ _ _ h => h, fun _ _ h => h, fun _ _ h => h, fun _ _ _ => by rw [h], fun _ _ => by simp only [World.shape?, h]⟩

/-- the elements from the start of a row -/
theorem Holds.cutShort {G w b sz es gr} (hh : Holds G w b sz es gr) (es' : List (List AV)) (hp : es' <+: es) : Holds G w b sz es' true := by
  obtain ⟨⟨cells, ty, h1, h2, h3, h4⟩, hs⟩ := hh
  obtain ⟨t, rfl⟩ := hp
  refine ⟨⟨cells, ty, h1, ?_, by simp, fun i j c hc => h4 i j c ?_⟩, fun e he => hs e (List.mem_append_left _ he)⟩
  · refine Nat.le_trans (Nat.mul_le_mul_right _ ?_) h2; simp
  · unfold getc at hc ⊢
    cases hq : es'[i]? with
    | none => rw [hq] at hc; cases hc
    | some e => rw [List.getElem?_append_left (List.getElem?_eq_some_iff.1 hq).1, hq]; rw [hq] at hc; exact hc

theorem aappendY_sound {P : Program} {G w h sz bytes x r h' vx} (g : Gam G w h) (hx : V G w x vx) {ys : List (List AV)} {cells cellsG : Array Value} (hrow : CRow G w sz ys cells) (hrowG : CRow G w sz ys cellsG)
    (hr : aappendY h sz bytes x ys = some (r, h')) (elem : TypeId) {S : Value → Sem Value}
    (room : ∀ {base : Option Addr} {len cap : Nat}, len + ys.length ≤ cap → (S (.slice base len cap)).run P w =
      match base with
      | some a => ((storeCells (a.add (len * sz)) cells.toList).run P w).andThen fun _ w' => .ok (.slice base (len + ys.length) cap) w'
      | none => .ok (.slice base (len + ys.length) cap) w)
    (growr : ∀ {s : Value} {base : Option Addr} {len cap : Nat} {old : Array Value}, s = .slice base len cap → (Builtin.firstCells sz len s).run P w.drew = .ok old w.drew →
      ¬ len + ys.length ≤ cap → (len + ys.length) * bytes ≤ 2 ^ 46 →
      ∃ newCap rest, len + ys.length ≤ newCap ∧ rest.size = (newCap - (len + ys.length)) * sz ∧ (S s).run P w =
        .ok (.slice (some ⟨w.heap.size, 0, none⟩) (len + ys.length) newCap) (w.drew.alloc (.cells (old ++ cellsG ++ rest) elem))) :
    Does P (S vx) G w r h' := by
  unfold aappendY at hr
  have kd : Keeps G w G w.drew := Keeps.heap_eq rfl
  have gd : Gam G w.drew h := g.same rfl
  -- what a growing append does
  have grow : ∀ {base : Option Addr} {len cap : Nat} {es : List (List AV)} {old : Array Value}, vx = .slice base len cap → es.length = len →
      (Builtin.firstCells sz len vx).run P w.drew = .ok old w.drew → CRow G w sz es old → ¬ len + ys.length ≤ cap → (len + ys.length) * bytes ≤ 2 ^ 46 →
      Does P (S vx) G w (append1 h sz (es ++ ys)).1 (append1 h sz (es ++ ys)).2 := by
    intro base len cap es old hv hl ho hro hno hb
    obtain ⟨nc, rest, h1, h2, h3⟩ := growr hv ho hno hb
    have hlen' : (es ++ ys).length = len + ys.length := by simp [hl]
    refine grow_does g (hro.append hrowG) elem (by rw [hlen']; exact h1) (by rw [hlen']; exact h2) ?_
    rw [h3, hlen']
  split at hr
  · -- nil
    cases hx
    split at hr
    · rename_i hb
      cases hr
      by_cases h0 : ys.length = 0
      · have hys0 : ys = [] := List.eq_nil_of_length_eq_zero h0
        subst hys0
        obtain ⟨a, b, c⟩ := nilName g sz true none (by simp)
        refine ⟨.slice none 0 0, w, G.new none, ?_, a, b, c⟩
        rw [room (by simp)]
        rfl
      · have := grow (base := none) (len := 0) (cap := 0) (es := []) (old := #[]) rfl rfl rfl (CRow.nil _ _ _) (by omega) (by simpa using hb)
        simpa [append1] using this
    · cases hr
  · rename_i n sz' off len cap
    split at hr
    · rename_i sz'' es gr hn
      split at hr
      · rename_i hh
        obtain ⟨rfl, rfl, hle, hb⟩ := hh
        cases hx with
        | refNil _ _ _ hnN hnl hcap =>
          have hes0 := g.nil n _ _ _ hn (g.nilLoc n hnl)
          subst hes0
          split at hr
          · rename_i c; exact absurd (hcap _ rfl) (by omega)
          · rw [if_pos rfl] at hr
            split at hr
            · rename_i h0
              cases hr
              have hys0 : ys = [] := List.eq_nil_of_length_eq_zero h0
              subst hys0
              exact Does.pure g (by rw [room (by simp)]; rfl) (.refNil _ _ _ hnN hnl hcap)
            · rename_i h0
              cases hr
              have := grow (base := none) (len := 0) (cap := 0) (es := []) (old := #[]) rfl rfl rfl (CRow.nil _ _ _) (by omega) (by simpa using hb)
              simpa [append1] using this
          · rw [if_pos rfl] at hr
            cases hr
            have gk := g.drop hn
            have stk := G.stpKill w n
            by_cases h0 : ys.length = 0
            · have hys0 : ys = [] := List.eq_nil_of_length_eq_zero h0
              subst hys0
              obtain ⟨a, b, c⟩ := nilName gk sz true none (by simp)
              refine ⟨.slice none 0 0, w, _, ?_, a, b, stk.trans c⟩
              rw [room (by simp)]
              rfl
            · obtain ⟨nc, rest, h1, h2, h3⟩ := growr (s := .slice none 0 0) (old := #[]) rfl rfl (by omega) (by simpa using hb)
              simp only [Nat.zero_add] at h1 h2 h3
              obtain ⟨v, w', G', a, b, c, d⟩ := grow_does (P := P) gk (hrowG.keep stk.keep) elem h1 h2 (by rw [h3]; simp)
              exact ⟨v, w', G', a, by simpa [append1] using b, by simpa [append1] using c, stk.trans d⟩
        | ref _ _ _ _ _ c tyb m b hnN hnb hl hcap hsh hm =>
          obtain ⟨cur, tyc, hcur, hcl, hcg, _⟩ := (g.arr n sz es gr b hn hnb).ex
          have hmcur : m = cur.size := by simp [World.shape?, hcur] at hsh; exact hsh.2.symm
          have hmid : ((es.drop off).take len).length = len := by simp; omega
          have hlive := g.mkLive hn hnb
          -- in place
          have place : len + ys.length ≤ c → off + len ≤ es.length →
              ∃ w', (S (.slice (some ⟨b, off * sz, none⟩) len c)).run P w = .ok (.slice (some ⟨b, off * sz, none⟩) (len + ys.length) c) w' ∧ Stp G w G w' ∧
                (∀ b', b' ≠ b → w'.heap[b']? = w.heap[b']?) ∧ (∀ r, w'.shape? r = w.shape? r) ∧
                ∀ gr', (gr' = false → cur.size = (splice es (off + len) ys).length * sz) → Holds G w' b sz (splice es (off + len) ys) gr' := by
            intro hroom hp
            have hfit : (off + len + ys.length) * sz ≤ cur.size := by
              refine Nat.le_trans (Nat.mul_le_mul_right sz ?_) (hmcur ▸ hm); omega
            obtain ⟨w', hst, stp, hoth, hshp, hH⟩ := writeRow (P := P) g hn hnb hcur hrow hp hfit
            refine ⟨w', ?_, stp, hoth, hshp, hH⟩
            rw [room hroom]
            simp only [addr_add, ← Nat.add_mul, hst, Result.andThen_ok]
          have growing : ¬ len + ys.length ≤ c → Does P (S (.slice (some ⟨b, off * sz, none⟩) len c)) G w (append1 h sz ((es.drop off).take len ++ ys)).1 (append1 h sz ((es.drop off).take len ++ ys)).2 := by
            intro hno
            obtain ⟨old, hrun, hro⟩ := (((g.arr n sz es gr b hn hnb).keep kd rfl).rowAt off len).load (P := P)
            rw [hmid] at hrun
            exact grow (base := some ⟨b, off * sz, none⟩) (len := len) (cap := c) rfl hmid hrun (hro.keep (Keeps.heap_eq (G := G) (w := w.drew) (w' := w) rfl)) hno hb
          split at hr
          · rename_i c'
            have hc := hcap _ rfl
            subst hc
            split at hr
            · rename_i hgrow
              cases hr
              exact growing (by omega)
            · split at hr
              · rename_i hng hin
                cases hr
                obtain ⟨w', hrun, stp, hoth, hshp, hH⟩ := place (by omega) (by omega)
                have hspl : (splice es (off + len) ys).length = es.length := by simp [splice]; omega
                refine ⟨_, w', G, hrun, ?_, ?_, stp⟩
                · exact g.update hn hnb stp.keep stp.size (fun m b' hm hb' hne => hoth b' (by rintro rfl; exact hne (g.inj m n _ hm hlive hb' hnb))) (hH gr (fun e => by rw [hspl]; exact hcg e))
                · exact .ref _ _ _ _ _ _ tyb m b hnN hnb (by omega) (by simp) (by rw [hshp]; exact hsh) hm
              · cases hr
          · have hc := hcap _ rfl
            subst hc
            split at hr
            · rename_i hl0
              subst hl0
              split at hr
              · rename_i h0
                cases hr
                have hcells : cells = #[] := by
                  have := hrow.size
                  rw [h0, Nat.zero_mul] at this
                  exact Array.eq_empty_of_size_eq_zero this
                subst hcells
                refine Does.pure g ?_ (.ref _ _ _ _ _ _ tyb m b hnN hnb hl hcap hsh hm)
                rw [room (by omega)]
                simp [h0, storeCells]
              · rename_i h0
                cases hr
                have := growing (by omega)
                simpa [append1] using this
            · cases hr
          · split at hr
            · rename_i hwhole
              subst hwhole
              cases hr
              have hlel : len ≤ es.length := by omega
              have htl : (es.take len).length = len := by simp; omega
              by_cases hroom : len + ys.length ≤ c
              · obtain ⟨w', hrun, stp, hoth, hshp, hH⟩ := place hroom (by omega)
                have hH' := (hH true (by simp)).cutShort (es.take len ++ ys) (by simp [splice])
                have gu := g.update hn hnb stp.keep stp.size (fun m b' hm hb' hne => hoth b' (by rintro rfl; exact hne (g.inj m n _ hm hlive hb' hnb))) hH'
                have hlt : n < h.length := (List.getElem?_eq_some_iff.1 hn).1
                obtain ⟨a, st2⟩ := renameRow gu (List.getElem?_set_self hlt) hnb true (by simp)
                rw [List.set_set] at a
                refine ⟨_, w', _, hrun, a, ?_, stp.trans st2⟩
                have := V.ref (G := (G.kill n).new (some b)) (w := w') (h.set n none).length sz 0 (es.take len ++ ys).length none c tyb m b
                  (by simp [g.len, Gh.new, Gh.kill]) (by simp [g.len, Gh.new, Gh.kill]) (by rw [List.length_append, htl]; exact hroom) (by simp) (by rw [hshp]; exact hsh) (by simpa using hm)
                simpa [append1, Nat.min_eq_left hlel] using this
              · have gk := g.drop hn
                have stk := G.stpKill w n
                obtain ⟨old, hrun, hro⟩ := (((g.arr n sz es gr b hn hnb).keep kd rfl).rowAt 0 len).load (P := P)
                have hmid' : (es.drop 0).take len = es.take len := by simp
                rw [hmid', htl] at hrun
                rw [hmid'] at hro
                obtain ⟨nc, rest, h1, h2, h3⟩ := growr (s := .slice (some ⟨b, 0 * sz, none⟩) len c) (old := old) rfl hrun hroom hb
                have hlen' : (es.take len ++ ys).length = len + ys.length := by rw [List.length_append, htl]
                have hro' : CRow G w sz (es.take len) old := hro.keep (Keeps.heap_eq (G := G) (w := w.drew) (w' := w) rfl)
                obtain ⟨v, w', G', a, b', c', d⟩ := grow_does (P := P) gk ((hro'.append hrowG).keep stk.keep) elem (by rw [hlen']; exact h1) (by rw [hlen']; exact h2) (by rw [h3, hlen'])
                exact ⟨v, w', G', a, b', c', stk.trans d⟩
            · cases hr
      · cases hr
    · cases hr
  · rename_i t clip sz' es
    split at hr
    · rename_i hh
      obtain ⟨rfl, hb⟩ := hh
      split at hr
      · rename_i h0
        cases hr
        refine Does.pure g ?_ hx
        cases hx with
        | valsNil => rw [room (by omega)]; simp [h0]
        | vals _ _ _ _ a cap f hl hcl hsp hp hes hc hV =>
          rw [room (by omega)]
          have : cells = #[] := by
            have := hrow.size
            rw [h0, Nat.zero_mul] at this
            exact Array.eq_empty_of_size_eq_zero this
          subst this
          simp [h0, storeCells]
      · rename_i h0
        split at hr
        · rename_i hclip
          cases hr
          cases hx with
          | valsNil =>
            have := grow (base := none) (len := 0) (cap := 0) (es := []) (old := #[]) rfl rfl rfl (CRow.nil _ _ _) (by omega) (by simpa using hb)
            simpa [append1] using this
          | vals _ _ _ _ a cap f hl hcl hsp hp hes hc hV =>
            have hcap := hcl hclip
            obtain ⟨old, hrun, hro⟩ := RowAt.load (P := P) (G := G) (w := w.drew) (b := a.block) (o := a.off) (sz := sz) (es := es) ⟨hes, f, hc, fun i j c hc => (hV i j c hc).keep kd⟩
            have hfc : (Builtin.firstCells sz es.length (.slice (some a) es.length cap)).run P w.drew = .ok old w.drew := by
              by_cases hcz : cap = 0
              · have hl0 : es.length = 0 := by omega
                have : old = #[] := by
                  have := hro.size
                  rw [hl0, Nat.zero_mul] at this
                  exact Array.eq_empty_of_size_eq_zero this
                subst this
                rw [hl0]
                simp [Builtin.firstCells, loadCells, loadCellsFrom]
              · have ha : a = ⟨a.block, a.off, none⟩ := by have := hsp hcz; cases a; simp at this; simp [this]
                rw [ha]; exact hrun
            refine grow (base := some a) (len := es.length) (cap := cap) (es := es) (old := old) rfl rfl ?_ (hro.keep (Keeps.heap_eq (G := G) (w := w.drew) (w' := w) rfl)) (by omega) hb
            exact hfc
        · cases hr
    · cases hr
  · cases hr

theorem aappend_sound {P : Program} {G w h sz bytes x y r h' vx vy} (g : Gam G w h) (hx : V G w x vx) (hy : V G w y vy) (hr : aappend h sz bytes x y = some (r, h'))
    {sT xT elem info zero} (T : AppT P sT xT elem sz bytes info zero) (ty : TypeId) :
    Does P (Builtin.append_ #[sT, xT] ty #[vx, vy]) G w r h' := by
  unfold aappend at hr
  cases hys : aelems h sz y with
  | none => simp [hys] at hr
  | some ys =>
  simp only [hys] at hr
  have kd : Keeps G w G w.drew := Keeps.heap_eq rfl
  have gd : Gam G w.drew h := g.same rfl
  obtain ⟨hlen, hok, cells, hf, hrow⟩ := aelems_sound (P := P) g hy hys
  obtain ⟨_, _, cellsD, hfD, hrowD'⟩ := aelems_sound (P := P) gd (hy.keep kd) hys
  have hrowD : CRow G w sz ys cellsD := hrowD'.keep (Keeps.heap_eq (G := G) (w := w.drew) (w' := w) rfl)
  exact aappendY_sound g hx hrow hrowD hr elem (S := fun s => Builtin.append_ #[sT, xT] ty #[s, vy]) (fun hl => run_append_room T ty w hlen hf hl)
    (fun hv ho hno hb => run_append_grow T ty w hv hlen ho hfD hno hb)

/-! zeros: 'append(s, make([]T, n)...)' and 'clear' -/

theorem wrap_small {c : Int} (h0 : 0 ≤ c) (h1 : c ≤ 2 ^ 46) : IntKind.i64.wrap c = c := by
  have e : (2 : Int) ^ 64 = 18446744073709551616 := by decide
  have e' : (2 : Int) ^ 63 = 9223372036854775808 := by decide
  have e2 : (2 : Int) ^ 46 = 70368744177664 := by decide
  rw [e2] at h1
  simp only [IntKind.wrap, IntKind.bits, IntKind.signed, Bool.true_and, e, decide_eq_true_eq]
  rw [show (64 - 1 : Nat) = 63 from rfl, e']
  rw [Int.emod_eq_of_lt h0 (by omega), if_neg (by omega)]

theorem zeros_row {G w} {z : Array Value} {sz : Nat} (hz : z.size = sz) (hsc : (z.toList.map ofV1).all AV.scalar = true) (n : Nat) :
    CRow G w sz (List.replicate n (z.toList.map ofV1)) (Builtin.zeroCells z n) := by
  have hok : okes sz (List.replicate n (z.toList.map ofV1)) := by
    intro e he
    rw [List.mem_replicate] at he
    rw [he.2]
    exact ⟨by simp [hz], hsc⟩
  refine ⟨hok, by simp [Builtin.zeroCells, hz], fun i j c hc => ?_⟩
  obtain ⟨hi, hj⟩ := getc_lt hok hc
  rw [List.length_replicate] at hi
  have hlt := cell_lt (n := n) hi hj
  have hj' : j < z.size := by omega
  simp only [getc, List.getElem?_replicate, hi, if_true, Option.bind_some, List.getElem?_map] at hc
  have hz' : z.toList[j]? = some z[j] := by simp [hj']
  rw [hz'] at hc
  simp only [Option.map_some, Option.some.injEq] at hc
  subst hc
  refine ⟨z[j], ?_, V.ofV1 G w _⟩
  simp only [Builtin.zeroCells, Array.getElem?_map, hz]
  rw [Array.getElem?_range, if_pos hlt]
  simp only [Option.map_some, Nat.mul_add_mod', Nat.mod_eq_of_lt hj]
  rw [getElem!_pos z j hj']

structure AppZ (P : Program) (sT xT elem : TypeId) (cs bs : Nat) (inf : TypeInfo) (zv : Value) : Prop where
  s : P.underlying sT = some (.slice elem)
  x : ∃ k, P.underlying xT = some (.int k)
  info : P.info? elem = some inf
  sz : inf.size = cs
  bytes : inf.bytes = bs
  zero : inf.zero = some zv
  pos : 0 < bs
  zsz : zv.cells.size = cs

theorem run_appendZ_room {P : Program} {sT xT elem sz bytes info zero} (T : AppZ P sT xT elem sz bytes info zero) (ty : TypeId) (w : World)
    {base : Option Addr} {len cap : Nat} {k : IntKind} {n : Int} (h0 : 0 ≤ n) (hb : n * bytes ≤ 2 ^ 46) (hr : len + n.toNat ≤ cap) :
    (Builtin.append_ #[sT, xT] ty #[.slice base len cap, .int k n]).run P w =
      match base with
      | some a => ((storeCells (a.add (len * sz)) (Builtin.zeroCells zero.cells n.toNat).toList).run P w).andThen fun _ w' => .ok (.slice base (len + n.toNat) cap) w'
      | none => .ok (.slice base (len + n.toNat) cap) w := by
  obtain ⟨d, hd⟩ := T.x
  have hn46 : n ≤ 2 ^ 46 := by
    have h1 : n * 1 ≤ n * bytes := Int.mul_le_mul_of_nonneg_left (by have := T.pos; omega) h0
    omega
  have hw := wrap_small h0 hn46
  have e2 : (2 : Int) ^ 46 = 70368744177664 := by decide
  have e3 : (2 : Int) ^ 48 = 281474976710656 := by decide
  have hbig : ¬ (n * (bytes : Int) > 2 ^ 48) := by omega
  have hng : ¬ n < 0 := by omega
  have hz : n.toNat * sz = 0 → Builtin.zeroCells zero.cells n.toNat = #[] := by
    intro h
    simp [Builtin.zeroCells, T.zsz, h]
  cases base with
  | none =>
    simp only [Builtin.append_, Sem.run_bind, Sem.run_pure, Result.andThen_ok, run_underlying T.s, run_underlying hd, Go.sizeOf, run_typeInfo w T.info, T.sz, T.bytes, List.getElem?_toArray, List.getElem?_cons_zero,
          List.getElem?_cons_succ, if_true, asInt, asIntOf, hw, hng, hbig, if_false, Sem.run_ite, if_pos hr, Bool.not_true, Bool.false_eq_true, zeroValue, T.zero]
    split <;> simp
  | some a =>
    by_cases h : n.toNat * sz = 0
    · simp only [Builtin.append_, Sem.run_bind, Sem.run_pure, Result.andThen_ok, run_underlying T.s, run_underlying hd, Go.sizeOf, run_typeInfo w T.info, T.sz, T.bytes, List.getElem?_toArray, List.getElem?_cons_zero,
          List.getElem?_cons_succ, if_true, asInt, asIntOf, hw, hng, hbig, if_false, Sem.run_ite, if_pos hr, Bool.not_true, Bool.false_eq_true, zeroValue, T.zero, h, hz h]
    · simp only [Builtin.append_, Sem.run_bind, Sem.run_pure, Result.andThen_ok, run_underlying T.s, run_underlying hd, Go.sizeOf, run_typeInfo w T.info, T.sz, T.bytes, List.getElem?_toArray, List.getElem?_cons_zero,
          List.getElem?_cons_succ, if_true, asInt, asIntOf, hw, hng, hbig, if_false, Sem.run_ite, if_pos hr, Bool.not_true, Bool.false_eq_true, zeroValue, T.zero, if_neg h]

theorem run_appendZ_grow {P : Program} {sT xT elem sz bytes info zero} (T : AppZ P sT xT elem sz bytes info zero) (ty : TypeId) (w : World)
    {s : Value} {base : Option Addr} {len cap : Nat} {old : Array Value} {k : IntKind} {n : Int} (h0 : 0 ≤ n) (hs : s = .slice base len cap)
    (e1 : (Builtin.firstCells sz len s).run P w.drew = .ok old w.drew)
    (hr : ¬ len + n.toNat ≤ cap) (hb : (len + n.toNat) * bytes ≤ 2 ^ 46) :
    ∃ newCap rest, len + n.toNat ≤ newCap ∧ rest.size = (newCap - (len + n.toNat)) * sz ∧ (Builtin.append_ #[sT, xT] ty #[s, .int k n]).run P w =
      .ok (.slice (some ⟨w.heap.size, 0, none⟩) (len + n.toNat) newCap) (w.drew.alloc (.cells (old ++ Builtin.zeroCells zero.cells n.toNat ++ rest) elem)) := by
  subst hs
  obtain ⟨d, hd⟩ := T.x
  have hcap : Builtin.nextslicecap (len + n.toNat) cap * bytes ≤ 2 ^ 48 := by
    have h1 := nextslicecap_le (need := len + n.toNat) (cap := cap) (by omega)
    have h2 := Nat.mul_le_mul_right bytes h1
    rw [Nat.mul_assoc] at h2
    omega
  have hq : (Question.appendCap (len + n.toNat) cap elem).forced = false := rfl
  have hnb : n.toNat * bytes ≤ 2 ^ 46 := Nat.le_trans (Nat.mul_le_mul_right _ (Nat.le_add_left _ _)) hb
  have hnbz : n * (bytes : Int) ≤ 2 ^ 46 := by
    have : ((n.toNat * bytes : Nat) : Int) = n * (bytes : Int) := by rw [Int.natCast_mul, Int.toNat_of_nonneg h0]
    rw [← this]
    have e2 : (2 : Int) ^ 46 = ((2 ^ 46 : Nat) : Int) := by decide
    rw [e2]; exact Int.ofNat_le.2 hnb
  have hn46 : n ≤ 2 ^ 46 := by
    have h1 : n * 1 ≤ n * bytes := Int.mul_le_mul_of_nonneg_left (by have := T.pos; omega) h0
    omega
  have hlen46 : len + n.toNat ≤ 2 ^ 46 := by
    have h1 : (len + n.toNat) * 1 ≤ (len + n.toNat) * bytes := Nat.mul_le_mul_left _ T.pos
    omega
  have hw := wrap_small h0 hn46
  have e2 : (2 : Int) ^ 46 = 70368744177664 := by decide
  have e3 : (2 : Int) ^ 48 = 281474976710656 := by decide
  have hbig : ¬ (n * (bytes : Int) > 2 ^ 48) := by omega
  have hng : ¬ n < 0 := by omega
  have hz : n.toNat * sz = 0 → Builtin.zeroCells zero.cells n.toNat = #[] := by
    intro h
    simp [Builtin.zeroCells, T.zsz, h]
  refine ⟨(Question.appendCap (len + n.toNat) cap elem).cut (w.tape w.drawn (.appendCap (len + n.toNat) cap elem)),
    Builtin.zeroCells zero.cells ((Question.appendCap (len + n.toNat) cap elem).cut (w.tape w.drawn (.appendCap (len + n.toNat) cap elem)) - (len + n.toNat)), ?_, ?_, ?_⟩
  · simp only [Question.cut]; omega
  · simp [Builtin.zeroCells, T.zsz]
  · have hb0 : ¬ bytes = 0 := Nat.ne_of_gt T.pos
    have hcap' : ¬ (2 ^ 48 < Builtin.nextslicecap (len + n.toNat) cap * bytes) := by omega
    have hcd : { w with drawn := w.drawn + 1 } = w.drew := rfl
    have hmax : ¬ (((len + n.toNat : Nat) : Int) > IntKind.i64.max) := by
      have : IntKind.i64.max = 9223372036854775807 := by decide
      rw [this]; omega
    have hn2 : ¬ (Builtin.nextslicecap (len + n.toNat) cap * bytes > 2 ^ 48) := hcap'
    by_cases h : n.toNat * sz = 0
    · simp only [Builtin.append_, Sem.run_bind, Sem.run_pure, Result.andThen_ok, run_underlying T.s, run_underlying hd, Go.sizeOf, run_typeInfo _ T.info, T.sz, List.getElem?_toArray, List.getElem?_cons_zero,
          List.getElem?_cons_succ, Bool.false_eq_true, if_false, Sem.run_ite, if_neg hr, T.bytes, hn2, hmax, false_and, run_choose, hq, hcd, run_askRoom, e1, Bool.not_true, if_true,
          zeroValue, T.zero, newRow, run_newObj, asInt, asIntOf, hw, hng, hbig, h, hz h]
      rfl
    · simp only [Builtin.append_, Sem.run_bind, Sem.run_pure, Result.andThen_ok, run_underlying T.s, run_underlying hd, Go.sizeOf, run_typeInfo _ T.info, T.sz, List.getElem?_toArray, List.getElem?_cons_zero,
          List.getElem?_cons_succ, Bool.false_eq_true, if_false, Sem.run_ite, if_neg hr, T.bytes, hn2, hmax, false_and, run_choose, hq, hcd, run_askRoom, e1, Bool.not_true, if_true,
          zeroValue, T.zero, newRow, run_newObj, asInt, asIntOf, hw, hng, hbig, if_neg h]
      rfl

def aappendZ (h : AHeap) (sz bytes : Nat) (zero : List AV) (x y : AV) : Option (AV × AHeap) :=
  match y with
  | .int _ n => if 0 ≤ n ∧ n * bytes ≤ 2 ^ 46 then aappendY h sz bytes x (List.replicate n.toNat zero) else none
  | _ => none

theorem aappendZ_sound {P : Program} {G w h sz bytes x y r h' vx vy} (g : Gam G w h) (hx : V G w x vx) (hy : V G w y vy)
    {sT xT elem info zero} (T : AppZ P sT xT elem sz bytes info zero) (hsc : (zero.cells.toList.map ofV1).all AV.scalar = true)
    (hr : aappendZ h sz bytes (zero.cells.toList.map ofV1) x y = some (r, h')) (ty : TypeId) :
    Does P (Builtin.append_ #[sT, xT] ty #[vx, vy]) G w r h' := by
  unfold aappendZ at hr
  split at hr
  · rename_i k n
    cases hy
    split at hr
    · rename_i hh
      have hrow : CRow G w sz (List.replicate n.toNat (zero.cells.toList.map ofV1)) (Builtin.zeroCells zero.cells n.toNat) := zeros_row T.zsz hsc _
      refine aappendY_sound g hx hrow hrow hr elem (S := fun s => Builtin.append_ #[sT, xT] ty #[s, .int k n]) ?_ ?_
      · intro base len cap hl
        rw [List.length_replicate] at hl ⊢
        exact run_appendZ_room T ty w hh.1 hh.2 hl
      · intro s base len cap old hv ho hno hb
        rw [List.length_replicate] at hno hb ⊢
        exact run_appendZ_grow T ty w hh.1 hv ho hno hb
    · cases hr
  · cases hr

/-- 'clear' of a slice -/
def aclear (h : AHeap) (sz : Nat) (zero : List AV) (x : AV) : Option AHeap :=
  match x with
  | .nils => some h
  | .ref n sz' off len _ =>
    if len = 0 then some h else
    match h[n]? with
    | some (some (.arr sz'' es g)) => if sz = sz' ∧ sz = sz'' ∧ off + len ≤ es.length then some (h.set n (some (.arr sz (splice es off (List.replicate len zero)) g))) else none
    | _ => none
  | _ => none

theorem aclear_sound {P : Program} {G w h sz x h' vx} (g : Gam G w h) (hx : V G w x vx) {t elem info zero} (hu : P.underlying t = some (.slice elem)) (hi : P.info? elem = some info)
    (hzero : info.zero = some zero) (hz : zero.cells.size = sz) (hsc : (zero.cells.toList.map ofV1).all AV.scalar = true)
    (hr : aclear h sz (zero.cells.toList.map ofV1) x = some h') (ty : TypeId) :
    ∃ w', (Builtin.clear_ #[t] ty #[vx]).run P w = .ok (.tuple #[]) w' ∧ Gam G w' h' ∧ Stp G w G w' := by
  unfold aclear at hr
  split at hr
  · cases hr; cases hx
    exact ⟨w, by simp only [Builtin.clear_, List.getElem?_toArray, List.getElem?_cons_zero, Sem.run_bind, run_underlying hu, Result.andThen_ok, Sem.run_pure], g, Stp.refl G w⟩
  · rename_i n sz' off len cap
    split at hr
    · rename_i hl
      subst hl
      cases hr
      cases hx with
      | ref _ _ _ _ _ c tyb m b hnN hnb hl hcap hsh hm =>
        exact ⟨w, by simp only [Builtin.clear_, List.getElem?_toArray, List.getElem?_cons_zero, Sem.run_bind, run_underlying hu, Result.andThen_ok, Sem.run_pure], g, Stp.refl G w⟩
      | refNil _ _ _ hnN hnl hcap =>
        exact ⟨w, by simp only [Builtin.clear_, List.getElem?_toArray, List.getElem?_cons_zero, Sem.run_bind, run_underlying hu, Result.andThen_ok, Sem.run_pure], g, Stp.refl G w⟩
    · rename_i hl
      split at hr
      · rename_i sz'' es gr hn
        split at hr
        · rename_i hh
          obtain ⟨rfl, rfl, hle⟩ := hh
          cases hr
          cases hx with
          | refNil => exact absurd rfl hl
          | ref _ _ _ _ _ c tyb m b hnN hnb hlc hcap hsh hm =>
            obtain ⟨cur, tyc, hcur, hcl, hcg, _⟩ := (g.arr n sz es gr b hn hnb).ex
            have hmcur : m = cur.size := by simp [World.shape?, hcur] at hsh; exact hsh.2.symm
            have hrow : CRow G w sz (List.replicate len (zero.cells.toList.map ofV1)) (Builtin.zeroCells zero.cells len) := zeros_row hz hsc _
            have hlive := g.mkLive hn hnb
            obtain ⟨w', hst, stp, hoth, hshp, hH⟩ := writeRow (P := P) g hn hnb hcur hrow (p := off) (by omega) (by
              rw [List.length_replicate]
              exact Nat.le_trans (Nat.mul_le_mul_right sz (by omega)) (hmcur ▸ hm))
            have hspl : (splice es off (List.replicate len (zero.cells.toList.map ofV1))).length = es.length := by simp [splice]; omega
            refine ⟨w', ?_, ?_, stp⟩
            · obtain ⟨l', rfl⟩ : ∃ l', len = l' + 1 := ⟨len - 1, by omega⟩
              simp only [Builtin.clear_, List.getElem?_toArray, List.getElem?_cons_zero, Sem.run_bind, run_underlying hu, Result.andThen_ok, Sem.run_pure, zeroValue, run_typeInfo w hi, hzero, hst]
            · exact g.update hn hnb stp.keep stp.size (fun m b' hm hb' hne => hoth b' (by rintro rfl; exact hne (g.inj m n _ hm hlive hb' hnb))) (hH gr (fun e => by rw [hspl]; exact hcg e))
        · cases hr
      · cases hr
  · cases hr

end Glb

/-
  A library of its own, for whatever program: maps of int keys in memory of one's own: looked up, written, made.
-/
namespace Glb
open Go Go.MapKept
open Go.ChangeMaps (setBlock)

def midx (es : List (Int × AV)) (k : Int) : Option Nat := es.findIdx? fun e => e.1 == k
def mfind (es : List (Int × AV)) (k : Int) : Option AV := (midx es k).bind fun j => es[j]?.map (·.2)
def mput (es : List (Int × AV)) (k : Int) (c : AV) : List (Int × AV) := match midx es k with
  | some j => es.set j (k, c)
  | none => es ++ [(k, c)]

theorem midx_at {k : Int} {c : AV} : ∀ {es : List (Int × AV)} {j : Nat}, (es.map (·.1)).Nodup → es[j]? = some (k, c) → midx es k = some j := by
  intro es
  induction es with
  | nil => intro j _ h; simp at h
  | cons e r ih =>
    intro j nd h
    simp only [List.map_cons, List.nodup_cons] at nd
    simp only [midx, List.findIdx?_cons]
    cases j with
    | zero => simp at h; subst h; simp
    | succ j =>
      have h' : r[j]? = some (k, c) := by simpa using h
      have hm : k ∈ r.map (·.1) := List.mem_map.2 ⟨_, List.mem_of_getElem? h', rfl⟩
      have hne : ¬ e.1 = k := fun q => nd.1 (q ▸ hm)
      have := ih nd.2 h'
      simp only [midx] at this
      simp [hne, this]
theorem midx_none {k : Int} {es : List (Int × AV)} (h : ∀ e ∈ es, e.1 ≠ k) : midx es k = none := by
  simp only [midx, List.findIdx?_eq_none_iff]
  intro e he
  simpa using h e he

/-- the entry of a key, or none -/
theorem HoldsM.find {G w b es} (h : HoldsM G w b es) (k : Int) : ∃ (entries : Array MapEntry) (clock : Nat), w.heap[b]? = some (.map entries clock) ∧ Stamped entries clock ∧ (∀ x ∈ entries.toList, IsKey (.int .i64) x.key) ∧ entries.size = es.length ∧
    (∀ (i : Nat) (k : Int) (c : AV), es[i]? = some (k, c) → ∃ e, entries[i]? = some e ∧ e.key = .int .i64 k ∧ V G w c e.val) ∧
    ((midx es k = none ∧ Instr.findNow (.int .i64) (.int .i64 k) entries.toList 0 = some none ∧ (∀ x ∈ entries.toList, x.key ≠ .int .i64 k) ∧ ∀ e ∈ es, e.1 ≠ k) ∨
     ∃ j c e, midx es k = some j ∧ es[j]? = some (k, c) ∧ entries[j]? = some e ∧ e.key = .int .i64 k ∧ V G w c e.val ∧ Instr.findNow (.int .i64) (.int .i64 k) entries.toList 0 = some (some (j, e.val))) := by
  obtain ⟨⟨entries, clock, hb, hs, hl, hV⟩, nd, hr⟩ := h
  have hks : ∀ x ∈ entries.toList, IsKey (.int .i64) x.key := by
    intro x hx
    obtain ⟨i, hi⟩ := List.getElem?_of_mem hx
    have hlt := (List.getElem?_eq_some_iff.1 hi).1
    have hlt' : i < es.length := by rw [← hl]; simpa using hlt
    obtain ⟨e, he, hk, _⟩ := hV i es[i].1 es[i].2 (by simp [hlt'])
    have : entries.toList[i]? = some e := by simpa using he
    rw [hi] at this; cases this
    rw [hk]; simp [IsKey]
  refine ⟨entries, clock, hb, hs, hks, hl, hV, ?_⟩
  have hk0 : IsKey (.int .i64) (.int .i64 k) := by simp [IsKey]
  rcases findNow_spec hk0 entries.toList 0 hks with ⟨h1, h2⟩ | ⟨j, e, h1, h2, h3⟩
  · have hne : ∀ e ∈ es, e.1 ≠ k := by
      intro e he q
      obtain ⟨i, hi⟩ := List.getElem?_of_mem he
      obtain ⟨x, hx, hkx, _⟩ := hV i e.1 e.2 hi
      exact h2 x (List.mem_of_getElem? (by simpa using hx)) (by rw [hkx, q])
    exact .inl ⟨midx_none hne, h1, h2, hne⟩
  · have hj : entries[j]? = some e := by simpa using h2
    have hlt : j < es.length := by rw [← hl]; exact (Array.getElem?_eq_some_iff.1 hj).1
    obtain ⟨e', he', hk', hv'⟩ := hV j es[j].1 es[j].2 (by simp [hlt])
    rw [hj] at he'; cases he'
    have hkk : es[j].1 = k := by rw [h3] at hk'; simpa using hk'.symm
    have hes : es[j]? = some (k, es[j].2) := by rw [List.getElem?_eq_getElem hlt, ← hkk]
    exact .inr ⟨j, es[j].2, e, midx_at nd hes, hes, hj, h3, hv', by simpa using h1⟩

theorem HoldsM.lookup {P : Program} {G w b es} {mt kt et : TypeId} (hm : P.underlying mt = some (.map kt et)) (hd : P.underlying kt = some (.int .i64)) (h : HoldsM G w b es) (k : Int) (ok : Bool) {z : Value} (hz : (zeroValue et).run P w = .ok z w) {zc : AV} (hzc : V G w zc z) :
    ∃ v, (Instr.lookup mt (.map (some b)) (.int .i64 k) ok).run P w = .ok (if ok then .tuple #[v, .bool (mfind es k).isSome] else v) w ∧ V G w ((mfind es k).getD zc) v := by
  obtain ⟨entries, clock, hb, hs, hks, hl, hV, hc⟩ := h.find k
  have hk0 : IsKey (.int .i64) (.int .i64 k) := by simp [IsKey]
  rcases hc with ⟨h1, h2, _⟩ | ⟨j, c, e, h1, h2, h3, h4, h5, h6⟩
  · refine ⟨z, ?_, by simpa [mfind, h1] using hzc⟩
    have ef : mfind es k = none := by simp [mfind, h1]
    rw [ef]
    simp only [Instr.lookup, Sem.run_bind, run_underlying hm, run_getObj_map hb, run_checkKey hd hk0, run_findKey hd h2, Result.andThen_ok, Sem.run_pure, hz]
    cases ok <;> rfl
  · have ef : mfind es k = some c := by simp [mfind, h1, h2]
    refine ⟨e.val, ?_, by rw [ef]; exact h5⟩
    rw [ef]
    simp only [Instr.lookup, Sem.run_bind, run_underlying hm, run_getObj_map hb, run_checkKey hd hk0, run_findKey hd h6, Result.andThen_ok, Sem.run_pure]
    cases ok <;> rfl

theorem shape_setMap {w : World} {b : Nat} {es es' : Array MapEntry} {c c' : Nat} (hb : w.heap[b]? = some (.map es c)) (x : Nat) : (setBlock w b (.map es' c')).shape? x = w.shape? x := by
  simp only [World.shape?, setBlock]
  by_cases h : x = b
  · subst h; rw [(heap_set hb).1, hb]
  · rw [(heap_set hb).2 x h]
theorem Rest.setMap {w : World} {b : Nat} {es es' : Array MapEntry} {c c' : Nat} (hb : w.heap[b]? = some (.map es c)) : Rest w (setBlock w b (.map es' c')) := by
  refine ⟨rfl, rfl, by simp [setBlock], fun a _ => ?_⟩
  simp only [World.frozen?, setBlock]
  by_cases h : a.block = b
  · rw [h, (heap_set hb).1, hb]
  · rw [(heap_set hb).2 a.block h]

theorem Gam.keepsMap {G w h} (g : Gam G w h) {n b es0} (hn : h[n]? = some (some (.map es0))) (hb : G.loc n = some b) (es' : Array MapEntry) (c' : Nat) : Keeps G w G (setBlock w b (.map es' c')) := by
  obtain ⟨⟨entries, clock, hh, -⟩, -⟩ := g.map n es0 b hn hb
  have hl := g.mkLiveM hn hb
  exact { N := Nat.le_refl _, loc := fun _ _ _ h => h, nil := fun _ _ h => h, prot := fun _ _ h => h,
          heap := fun t b' hp => (heap_set hh).2 b' (by
            rintro rfl
            cases t with
            | zero => exact g.liveS n _ hl hb hp
            | succ m => exact g.liveTag n m _ hl hb hp),
          shape := fun x _ => shape_setMap hh x }

theorem Gam.stpMap {G w h} (g : Gam G w h) {n b es0} (hn : h[n]? = some (some (.map es0))) (hb : G.loc n = some b) (es' : Array MapEntry) (c' : Nat) : Stp G w G (setBlock w b (.map es' c')) := by
  have k := g.keepsMap hn hb es' c'
  obtain ⟨⟨entries, clock, hh, -⟩, -⟩ := g.map n es0 b hn hb
  have hl := g.mkLiveM hn hb
  exact { rest := Rest.setMap hh, keep := k, S := ⟨fun _ h => h, fun _ h => .inl h⟩, locEq := fun _ _ => rfl, nilEq := fun _ _ => Iff.rfl, size := by simp [setBlock],
          frame := fun b' _ hb' => (heap_set hh).2 b' (by rintro rfl; exact hb' (.inl ⟨n, hl, hb⟩)), own := fun b hb => .inl hb }

/-- a map of ours holds other entries -/
theorem Gam.gamMap {G w h} (g : Gam G w h) {n b es0 es1} (hn : h[n]? = some (some (.map es0))) (hb : G.loc n = some b) {entries' : Array MapEntry} {clock' : Nat}
    (hH : HoldsM G (setBlock w b (.map entries' clock')) b es1) : Gam G (setBlock w b (.map entries' clock')) (h.set n (some (.map es1))) := by
  have hl : G.live n := g.mkLiveM hn hb
  have k := g.keepsMap hn hb entries' clock'
  obtain ⟨⟨entries, clock, hh, -⟩, -⟩ := g.map n es0 b hn hb
  have hlt : n < h.length := (List.getElem?_eq_some_iff.1 hn).1
  have other : ∀ m b', G.live m → G.loc m = some b' → m ≠ n → (setBlock w b (.map entries' clock')).heap[b']? = w.heap[b']? := fun m b' hm hb' hne =>
    (heap_set hh).2 b' (by rintro rfl; exact hne (g.inj m n _ hm hl hb' hb))
  have hsz : (setBlock w b (.map entries' clock')).heap.size = w.heap.size := by simp [setBlock]
  refine { len := by simp [g.len], live := ?_, tag := ?_, inj := g.inj, liveTag := g.liveTag, liveS := g.liveS, tagInj := g.tagInj, tagS := g.tagS,
           tagLt := fun m b hb => by rw [hsz]; exact g.tagLt m b hb, sLt := fun b hb => by rw [hsz]; exact g.sLt b hb, arr := ?_, nil := ?_, nilLoc := g.nilLoc, map := ?_ }
  · intro m
    rw [g.live m]
    by_cases hm : n = m
    · subst hm
      exact ⟨fun h => ⟨⟨_, List.getElem?_set_self hlt, rfl⟩, h.2⟩, fun h => ⟨⟨_, hn, rfl⟩, h.2⟩⟩
    · rw [List.getElem?_set_ne hm]
  · intro m b hb
    have hm : n ≠ m := by rintro rfl; rw [g.tag _ _ hb] at hn; simp at hn
    rw [List.getElem?_set_ne hm]; exact g.tag m b hb
  · intro m sz es gr b' hm hb'
    by_cases h1 : n = m
    · subst h1; rw [List.getElem?_set_self hlt] at hm; simp at hm
    · rw [List.getElem?_set_ne h1] at hm
      exact (g.arr m sz es gr b' hm hb').keep k (other m b' (g.mkLive hm hb') hb' (fun e => h1 e.symm))
  · intro m sz es gr hm hb'
    by_cases h1 : n = m
    · subst h1; rw [List.getElem?_set_self hlt] at hm; simp at hm
    · rw [List.getElem?_set_ne h1] at hm
      exact g.nil m sz es gr hm hb'
  · intro m es b' hm hb'
    by_cases h1 : n = m
    · subst h1
      rw [hb] at hb'; cases hb'
      rw [List.getElem?_set_self hlt] at hm
      obtain rfl : es1 = es := by simpa using hm
      exact hH
    · rw [List.getElem?_set_ne h1] at hm
      exact (g.map m es b' hm hb').keep k (other m b' (g.mkLiveM hm hb') hb' (fun e => h1 e.symm))

theorem mput_keys {es : List (Int × AV)} {k : Int} {c : AV} (h : (es.map (·.1)).Nodup) : ((mput es k c).map (·.1)).Nodup := by
  unfold mput
  cases hx : midx es k with
  | none =>
    simp only [midx, List.findIdx?_eq_none_iff] at hx
    simp only [List.map_append, List.map_cons, List.map_nil]
    rw [List.nodup_append]
    refine ⟨h, by simp, fun a ha b hb => ?_⟩
    simp at hb; subst hb
    rintro rfl
    obtain ⟨e, he, q⟩ := List.mem_map.1 ha
    have := hx e he
    simp [q] at this
  | some j =>
    have hj := List.findIdx?_eq_some_iff_getElem.1 (show es.findIdx? (fun e => e.1 == k) = some j from hx)
    obtain ⟨hlt, hk, _⟩ := hj
    have hk' : es[j].1 = k := by simpa using hk
    have : (es.set j (k, c)).map (·.1) = es.map (·.1) := by
      apply List.ext_getElem?
      intro i
      simp only [List.getElem?_map, List.getElem?_set]
      by_cases q : j = i
      · subst q; simp [hlt, hk']
      · simp [q]
    rw [this]; exact h
theorem mput_range {es : List (Int × AV)} {k : Int} {c : AV} (h : ∀ e ∈ es, -9223372036854775808 ≤ e.1 ∧ e.1 ≤ 9223372036854775807) (hk : -9223372036854775808 ≤ k ∧ k ≤ 9223372036854775807) :
    ∀ e ∈ mput es k c, -9223372036854775808 ≤ e.1 ∧ e.1 ≤ 9223372036854775807 := by
  intro e he
  unfold mput at he
  cases hx : midx es k with
  | none =>
    rw [hx] at he
    rcases List.mem_append.1 he with h1 | h1
    · exact h e h1
    · simp at h1; subst h1; exact hk
  | some j =>
    rw [hx] at he
    rcases List.mem_or_eq_of_mem_set he with h1 | h1
    · exact h e h1
    · subst h1; exact hk

/-- an entry is written -/
theorem Gam.mapUpdate {P : Program} {G w h} (g : Gam G w h) {n b es} (hn : h[n]? = some (some (.map es))) (hb : G.loc n = some b) {mt kt et : TypeId} (hm : P.underlying mt = some (.map kt et)) (hd : P.underlying kt = some (.int .i64))
    {k : Int} (hk : -9223372036854775808 ≤ k ∧ k ≤ 9223372036854775807) {v : Value} {c : AV} (hv : V G w c v) :
    ∃ w', (Instr.mapUpdate mt (.map (some b)) (.int .i64 k) v).run P w = .ok () w' ∧ Gam G w' (h.set n (some (.map (mput es k c)))) ∧ Stp G w G w' := by
  have hH := g.map n es b hn hb
  have hk0 : IsKey (.int .i64) (.int .i64 k) := by simp [IsKey]
  obtain ⟨entries, clock, hh, hs, hks, hl, hV, hc⟩ := hH.find k
  rcases hc with ⟨h1, h2, h3, h4⟩ | ⟨j, c0, e, h1, h2, h3, h4, h5, h6⟩
  · have kk := g.keepsMap hn hb (entries.push { key := .int .i64 k, val := v, born := clock }) (clock + 1)
    refine ⟨setBlock w b (.map (entries.push { key := .int .i64 k, val := v, born := clock }) (clock + 1)), ?_, ?_, g.stpMap hn hb _ _⟩
    · simp [Instr.mapUpdate, run_underlying hm, run_getObj_map hh, run_checkKey hd hk0, run_findKey hd h2, run_setObj_map _ hh, Result.andThen, setBlock]
    · refine g.gamMap hn hb ⟨⟨_, _, (heap_set hh).1, stamped_push hs h3, ?_, fun i key cc hi => ?_⟩, mput_keys hH.keys.1, mput_range hH.keys.2 hk⟩
      · simp [mput, h1, hl]
      · have em : mput es k c = es ++ [(k, c)] := by simp [mput, h1]
        rw [em] at hi
        rcases Nat.lt_or_ge i es.length with hlt | hge
        · rw [List.getElem?_append_left hlt] at hi
          obtain ⟨e, he, hke, hve⟩ := hV i key cc hi
          refine ⟨e, ?_, hke, hve.keep kk⟩
          rw [Array.getElem?_push, if_neg (by omega)]; exact he
        · rw [List.getElem?_append_right hge] at hi
          have hi0 : i = es.length := by
            have := (List.getElem?_eq_some_iff.1 hi).1
            simp at this; omega
          subst hi0
          simp at hi
          obtain ⟨rfl, rfl⟩ := hi
          exact ⟨{ key := .int .i64 k, val := v, born := clock }, by rw [Array.getElem?_push, if_pos hl.symm], rfl, hv.keep kk⟩
  · have hkey : ∀ e', entries[j]? = some e' → ({ e' with key := .int .i64 k, val := v } : MapEntry).key = e'.key := fun e' he' => by rw [h3] at he'; cases he'; exact h4.symm
    have kk := g.keepsMap hn hb (entries.modify j fun e => { e with key := .int .i64 k, val := v }) clock
    refine ⟨setBlock w b (.map (entries.modify j fun e => { e with key := .int .i64 k, val := v }) clock), ?_, ?_, g.stpMap hn hb _ _⟩
    · simp [Instr.mapUpdate, run_underlying hm, run_getObj_map hh, run_checkKey hd hk0, run_findKey hd h6, h3, h4, run_keyThatStays hk0, run_setObj_map _ hh, Result.andThen, setBlock]
    · refine g.gamMap hn hb ⟨⟨_, _, (heap_set hh).1, stamped_modify hs _ _ (fun _ _ => rfl) (fun e' _ he' => hkey e' he'), ?_, fun i key cc hi => ?_⟩, mput_keys hH.keys.1, mput_range hH.keys.2 hk⟩
      · simp [mput, h1, hl]
      · have em : mput es k c = es.set j (k, c) := by simp [mput, h1]
        rw [em] at hi
        by_cases q : j = i
        · subst q
          have hlt := (List.getElem?_eq_some_iff.1 h2).1
          rw [List.getElem?_set_self hlt] at hi
          cases hi
          exact ⟨{ e with key := .int .i64 k, val := v }, by rw [Array.getElem?_modify, if_pos rfl, h3]; rfl, rfl, hv.keep kk⟩
        · rw [List.getElem?_set_ne q] at hi
          obtain ⟨e', he, hke, hve⟩ := hV i key cc hi
          exact ⟨e', by rw [Array.getElem?_modify, if_neg q]; exact he, hke, hve.keep kk⟩

theorem HoldsM.none {G w b clock} (hb : w.heap[b]? = some (.map #[] clock)) : HoldsM G w b [] :=
  ⟨⟨#[], clock, hb, stamped_empty clock, rfl, fun i k c h => by simp at h⟩, by simp, fun e he => by simp at he⟩

/-- all entries go -/
theorem Gam.mapClear {P : Program} {G w h} (g : Gam G w h) {n b es} (hn : h[n]? = some (some (.map es))) (hb : G.loc n = some b) {mt kt et ty : TypeId} (hm : P.underlying mt = some (.map kt et)) :
    ∃ w', (Builtin.clear_ #[mt] ty #[.map (some b)]).run P w = .ok (.tuple #[]) w' ∧ Gam G w' (h.set n (some (.map []))) ∧ Stp G w G w' := by
  obtain ⟨⟨entries, clock, hh, -⟩, -⟩ := g.map n es b hn hb
  exact ⟨setBlock w b (.map #[] clock), by simp [Builtin.clear_, run_underlying hm, run_getObj_map hh, run_setObj_map _ hh, Result.andThen, setBlock], g.gamMap hn hb (HoldsM.none (heap_set hh).1), g.stpMap hn hb _ _⟩

theorem Rest.allocMap (w : World) (es : Array MapEntry) (c : Nat) : Rest w (w.alloc (.map es c)) := by
  refine ⟨rfl, rfl, by simp, fun a ha => ?_⟩
  simp only [World.frozen?, Glb.heap_alloc ha]

theorem Gam.stpNewM {G w h} (g : Gam G w h) : Stp G w (G.new (some w.heap.size)) (w.alloc (.map #[] 0)) where
  rest := Rest.allocMap w #[] 0
  keep := g.keepsNew _
  S := ⟨fun _ h => h, fun _ h => .inl h⟩
  locEq n hn := by simp only [Gh.new, Nat.ne_of_lt hn, if_false]
  nilEq n hn := by simp only [Gh.new, Nat.ne_of_lt hn, if_false]
  size := by simp
  frame b hb _ := Glb.heap_alloc hb
  own b hb := by
    rcases hb with ⟨n, hn, he⟩ | ⟨n, hn⟩
    · by_cases h : n = G.N
      · simp only [Gh.new, h, if_true, Option.some.injEq] at he; exact .inr (by omega)
      · simp only [Gh.new, h, if_false] at he
        exact .inl (.inl ⟨n, hn.resolve_right (fun x => h x.1), he⟩)
    · exact .inl (.inr ⟨n, hn⟩)

/-- a new map -/
theorem Gam.gamNewM {G w h} (g : Gam G w h) : Gam (G.new (some w.heap.size)) (w.alloc (.map #[] 0)) (h ++ [some (.map [])]) := by
  have k := g.keepsNew (.map #[] 0)
  have hother : ∀ n b, G.live n → G.loc n = some b → (w.alloc (.map #[] 0)).heap[b]? = w.heap[b]? := fun n b hn hb => Glb.heap_alloc (g.locLt hn hb)
  have new := append_new g (some (ABlk.map []))
  have old := fun n x (hn : n ≠ G.N) => append_old g (some (ABlk.map [])) (n := n) (x := x) hn
  have locN : (G.new (some w.heap.size)).loc G.N = some w.heap.size := by simp [Gh.new]
  have locO : ∀ n, n ≠ G.N → (G.new (some w.heap.size)).loc n = G.loc n := fun n hn => by simp [Gh.new, hn]
  have liveO : ∀ n, n ≠ G.N → ((G.new (some w.heap.size)).live n ↔ G.live n) := fun n hn => ⟨fun h => h.resolve_right (fun x => hn x.1), .inl⟩
  refine { len := by simp [Gh.new, g.len], live := ?_, tag := ?_, inj := ?_, liveTag := ?_, liveS := ?_, tagInj := g.tagInj, tagS := g.tagS,
           tagLt := ?_, sLt := ?_, arr := ?_, nil := ?_, nilLoc := ?_, map := ?_ }
  · intro n
    by_cases hn : n = G.N
    · subst hn
      rw [locN]
      exact ⟨fun _ => ⟨⟨_, new, rfl⟩, _, rfl⟩, fun _ => .inr ⟨rfl, rfl⟩⟩
    · rw [liveO n hn, locO n hn, g.live n]
      constructor <;> rintro ⟨⟨B, hh, hr⟩, hb⟩
      · exact ⟨⟨B, (old n _ hn).2 hh, hr⟩, hb⟩
      · exact ⟨⟨B, (old n _ hn).1 hh, hr⟩, hb⟩
  · intro n b hb
    have : n ≠ G.N := by rintro rfl; exact g.notTag b hb
    exact (old n _ this).2 (g.tag n b hb)
  · intro n m b hn hm hbn hbm
    by_cases h1 : n = G.N <;> by_cases h2 : m = G.N
    · rw [h1, h2]
    · subst h1; rw [locN] at hbn; rw [locO m h2] at hbm; cases hbn
      exact absurd (g.locLt ((liveO m h2).1 hm) hbm) (Nat.lt_irrefl _)
    · subst h2; rw [locN] at hbm; rw [locO n h1] at hbn; cases hbm
      exact absurd (g.locLt ((liveO n h1).1 hn) hbn) (Nat.lt_irrefl _)
    · rw [locO n h1] at hbn; rw [locO m h2] at hbm
      exact g.inj n m b ((liveO n h1).1 hn) ((liveO m h2).1 hm) hbn hbm
  · intro n m b hn hb ht
    by_cases h1 : n = G.N
    · subst h1; rw [locN] at hb; cases hb; exact Nat.lt_irrefl _ (g.tagLt m _ ht)
    · rw [locO n h1] at hb; exact g.liveTag n m b ((liveO n h1).1 hn) hb ht
  · intro n b hn hb hs
    by_cases h1 : n = G.N
    · subst h1; rw [locN] at hb; cases hb; exact Nat.lt_irrefl _ (g.sLt _ hs)
    · rw [locO n h1] at hb; exact g.liveS n b ((liveO n h1).1 hn) hb hs
  · intro n b hb; have := g.tagLt n b hb; simp; omega
  · intro b hb; have := g.sLt b hb; simp; omega
  · intro n sz es gr b hn hb
    by_cases h1 : n = G.N
    · subst h1; rw [new] at hn; simp at hn
    · have hn' := (old n _ h1).1 hn
      rw [locO n h1] at hb
      exact (g.arr n sz es gr b hn' hb).keep k (hother n b (g.mkLive hn' hb) hb)
  · intro n sz es gr hn hb
    by_cases h1 : n = G.N
    · subst h1; rw [new] at hn; simp at hn
    · rw [locO n h1] at hb
      exact g.nil n sz es gr ((old n _ h1).1 hn) hb
  · intro n hn
    by_cases h1 : n = G.N
    · subst h1; simp [Gh.new] at hn
    · rw [locO n h1]
      exact g.nilLoc n (by simpa [Gh.new, h1] using hn)
  · intro n es b hn hb
    by_cases h1 : n = G.N
    · subst h1
      rw [new] at hn
      obtain rfl : [] = es := by simpa using hn
      rw [locN] at hb; cases hb
      exact HoldsM.none Glb.heap_alloc_new
    · have hn' := (old n _ h1).1 hn
      rw [locO n h1] at hb
      exact (g.map n es b hn' hb).keep k (hother n b (g.mkLiveM hn' hb) hb)

end Glb

/-
  A library of its own, for whatever program: what an operation is made into, and that it does what it says.
-/
namespace Glb
open Go

inductive Opd where
  | loc (s : Nat)
  | tmp (s : Nat)
  | cst (v : AV)

/-- operations that only read, the rarer -/
inductive XOp where
  | peq (neg : Bool) (x : Opd)
  | seq (neg : Bool) (plan : List (Nat × Bool)) (x y : Opd)
  | fld (o n : Nat) (agg : Bool) (x : Opd)
  | sidx (x i : Opd)
  | cap (x : Opd)
  | bclo (f : FuncId) (fs cs : List Opd)
  | bad

/-- operations that make and change nothing -/
inductive ROp where
  | mov (x : Opd)
  | pick (c a b : Opd)
  | build (zero : List AV) (ps : List (Nat × Nat × Opd))
  | load (agg : Bool) (n : Nat) (x : Opd)
  | chk (x : Opd)
  | bin (op : BinOp) (x y : Opd)
  | beq (op : BinOp) (x y : Opd)
  | nileq (neg : Bool) (x : Opd)
  | not (x : Opd)
  | neg (x : Opd)
  | conv (k : IntKind) (x : Opd)
  | slc (sz : Nat) (x : Opd) (lo hi mx : Option Opd)
  | off (o : Nat) (x : Opd)
  | idx (sz : Nat) (x i : Opd)
  | ext (x : Opd) (i : Nat)
  | len (x : Opd)
  | slen (x : Opd)
  | mnmx (isMax : Bool) (xs : List Opd)
  | clo (f : FuncId) (cs : List Opd)
  | x (o : XOp)

/-- operations that make or change memory -/
inductive HOp where
  | mk (cs : List AV)
  | box (x : Opd)
  | bsl (sz : Nat) (xs : List Opd)
  | mks (sz bytes : Nat) (zero : List AV) (l c : Opd)
  | store (n : Nat) (a x : Opd)
  | app (sz bytes : Nat) (x y : Opd)
  | appz (sz bytes : Nat) (zero : List AV) (x y : Opd)
  | clr (sz : Nat) (zero : List AV) (x : Opd)
  | mmk
  | mlook (ok : Bool) (zero : AV) (x k : Opd)
  | mset (x k v : Opd)
  | mclr (x : Opd)

inductive AOp where
  | r (o : ROp)
  | h (o : HOp)
  | call (f : FuncId) (args : List Opd)
  | callv (x : Opd) (args : List Opd)

/-! what they come to -/

def optInt (g : Opd → AV) : Option Opd → Option (Option Int)
  | none => some none
  | some x => match g x with
    | .int _ n => some (some n)
    | _ => none

def alen : AV → Option AV
  | .nils => some (.int .i64 0)
  | .ref _ _ _ len _ => some (.int .i64 len)
  | .vals _ _ _ es => some (.int .i64 es.length)
  | _ => none

def amnmx (isMax : Bool) : List AV → Option AV
  | .int k n :: r => aux k n r
  | _ => none
where
  aux (k : IntKind) (n : Int) : List AV → Option AV
    | [] => some (.int k n)
    | .int _ m :: r => aux k (if isMax then (if m > n then m else n) else (if m < n then m else n)) r
    | _ => none

/-- is it the kind of value that a slice is? -/
def sliceish : AV → Bool
  | .nils | .ref .. | .vals .. => true
  | _ => false

/-- is a pointer nil -/
def pnil : AV → Option Bool
  | .raw (.pointer none) => some true
  | .ptr _ _ _ _ => some false
  | .vptr _ _ => some false
  | _ => none

/-- are two structs of numbers and truths alike: which cells, and whether each is a number -/
def aEq : List (Nat × Bool) → List AV → List AV → Option Bool
  | [], _, _ => some true
  | (o, true) :: r, xs, ys => match xs[o]?, ys[o]? with
    | some (.int k a), some (.int k' b) => if k = k' then (if a = b then aEq r xs ys else some false) else none
    | _, _ => none
  | (o, false) :: r, xs, ys => match xs[o]?, ys[o]? with
    | some (.bool a), some (.bool b) => if a = b then aEq r xs ys else some false
    | _, _ => none

def xev (g : Opd → AV) : XOp → Option AV
  | .peq neg x => (pnil (g x)).map fun b => .bool (b != neg)
  | .seq neg plan x y => match g x, g y with
    | .agg xs, .agg ys => (aEq plan xs ys).map fun b => .bool (b != neg)
    | _, _ => none
  | .fld o n agg x => match g x with
    | .agg cs => if agg then (if o + n ≤ cs.length then some (.agg ((cs.drop o).take n)) else none) else cs[o]?
    | _ => none
  | .sidx x i => match g x, g i with
    | .str s, .int _ i => if 0 ≤ i then s[i.toNat]?.map fun b => .int .u8 b.toNat else none
    | _, _ => none
  | .bclo f fs cs => some (.clo f (fs.map g) (cs.map g))
  | .cap x => match g x with
    | .nils => some (.int .i64 0)
    | .ref _ _ _ _ (some c) => some (.int .i64 c)
    | .vals _ true _ es => some (.int .i64 es.length)
    | _ => none
  | .bad => none

def rev (g : Opd → AV) (h : AHeap) : ROp → Option AV
  | .mov x => some (g x)
  | .pick c a b => match g c with
    | .bool t => some (if t then g a else g b)
    | _ => none
  | .build zero ps => (afill zero (ps.map fun p => (p.1, p.2.1, g p.2.2))).map .agg
  | .load agg n x => aload h agg n (g x)
  | .chk x => match g x with
    | .ptr n sz i o => some (.ptr n sz i o)
    | .vptr t cs => some (.vptr t cs)
    | .iface t v => some (.iface t v)
    | .clo f fs cs => some (.clo f fs cs)
    | _ => none
  | .bin op x y => abin op (g x) (g y)
  | .beq op x y => match g x, g y with
    | .bool a, .bool b => bbin op a b
    | _, _ => none
  | .nileq neg x => if sliceish (g x) then (anil (g x)).map fun b => .bool (b != neg) else none
  | .not x => match g x with
    | .bool b => some (.bool !b)
    | _ => none
  | .neg x => match g x with
    | .int k n => some (.int k (k.wrap (0 - n)))
    | _ => none
  | .conv k x => match g x with
    | .int _ n => some (.int k (k.wrap n))
    | _ => none
  | .slc sz x lo hi mx => match optInt g lo, optInt g hi, optInt g mx with
    | some lo, some hi, some mx => aslice sz (g x) lo hi mx
    | _, _, _ => none
  | .off o x => afield o (g x)
  | .idx sz x i => aindex sz (g x) (g i)
  | .ext x i => match g x with
    | .tup cs => cs[i]?
    | _ => none
  | .len x => alen (g x)
  | .slen x => match g x with
    | .str s => some (.int .i64 s.size)
    | _ => none
  | .mnmx m xs => amnmx m (xs.map g)
  | .clo f cs => some (.clo f [] (cs.map g))
  | .x o => xev g o

/-- the cells of each of some values, each of one size -/
def cellsAll (sz : Nat) : List AV → Option (List (List AV))
  | [] => some []
  | x :: r => match x.cells?, cellsAll sz r with
    | some cs, some es => if cs.length = sz ∧ cs.all AV.scalar = true then some (cs :: es) else none
    | _, _ => none

/-- what makes one block: the value, by the block's name, and the block -/
def lightOf (g : Opd → AV) (nm : Nat) : HOp → Option (AV × ABlk)
  | .mk cs => some (.ptr nm cs.length 0 0, .arr cs.length [cs] false)
  | .box x => match (g x).cells? with
    | some cs => if cs.all AV.scalar then some (.ptr nm cs.length 0 0, .arr cs.length [cs] false) else none
    | none => none
  | .bsl sz xs =>
    match cellsAll sz (xs.map g) with
    | some es => some (.ref nm sz 0 xs.length (some xs.length), .arr sz es false)
    | none => none
  | .mks sz bytes zero l c => match g l, g c with
    | .int _ l, .int _ c => if 0 ≤ l ∧ l ≤ c ∧ c * bytes ≤ 2 ^ 46 then some (.ref nm sz 0 l.toNat (some c.toNat), .arr sz (List.replicate c.toNat zero) false) else none
    | _, _ => none
  | _ => none

/-- a map's entries, of what is a map of ours -/
def mapOf (h : AHeap) : AV → Option (Nat × List (Int × AV))
  | .mapv n => match h[n]? with
    | some (some (.map es)) => some (n, es)
    | _ => none
  | _ => none
def alook (h : AHeap) (ok : Bool) (zero x k : AV) : Option AV := match mapOf h x, k with
  | some (_, es), .int .i64 key => some (if ok then .tup [(mfind es key).getD zero, .bool (mfind es key).isSome] else (mfind es key).getD zero)
  | _, _ => none
def amset (h : AHeap) (x k v : AV) : Option AHeap := match mapOf h x, k with
  | some (n, es), .int .i64 key => if -9223372036854775808 ≤ key ∧ key ≤ 9223372036854775807 then some (h.set n (some (.map (mput es key v)))) else none
  | _, _ => none
def amclr (h : AHeap) (x : AV) : Option AHeap := (mapOf h x).map fun p => h.set p.1 (some (.map []))

def hev (g : Opd → AV) (h : AHeap) : HOp → Option (AV × AHeap)
  | .mmk => some (.mapv h.length, h ++ [some (.map [])])
  | .mlook ok zero x k => (alook h ok zero (g x) (g k)).map fun r => (r, h)
  | .mset x k v => (amset h (g x) (g k) (g v)).map fun h' => (.top, h')
  | .mclr x => (amclr h (g x)).map fun h' => (.tup [], h')
  | .store n a x => (astore h n (g a) (g x)).map fun h' => (.top, h')
  | .app sz bytes x y => aappend h sz bytes (g x) (g y)
  | .appz sz bytes zero x y => aappendZ h sz bytes zero (g x) (g y)
  | .clr sz zero x => (aclear h sz zero (g x)).map fun h' => (.tup [], h')
  | ho => match lightOf g h.length ho with
    | some (v, b) => some (v, h ++ [some b])
    | none => none

/-! made out of the model's operations -/

def cd (keep : Nat → Bool) : Operand → Opd
  | .tmp s => if keep s then .loc s else .tmp s
  | .const v => .cst (ofV v)
  | .global g => .cst (.raw (.pointer (some ⟨g, 0, none⟩)))
  | .func f => .cst (.clo f [] [])

/-- size, bytes and zero of a type -/
def tinfo (P : Program) (t : TypeId) : Option (Nat × Nat × Value) :=
  match P.info? t with
  | some i => i.zero.map fun z => (i.size, i.bytes, z)
  | none => none

def isAggT (P : Program) (t : TypeId) : Option Bool :=
  match P.underlying t with
  | some (.struct _) | some (.array _ _) => some true
  | some _ => some false
  | none => none

def elemT (P : Program) (t : TypeId) : Option TypeId :=
  match P.underlying t with
  | some (.slice e) => some e
  | _ => none

/-- which parts of a struct are laid where -/
def places (P : Program) (fs : Array Field) (tr : Operand → Opd) : List (Nat × Operand) → Option (List (Nat × Nat × Opd))
  | [] => some []
  | (i, x) :: r => match fs[i]?, places P fs tr r with
    | some f, some l => some ((f.offset, P.cellsOf f.type, tr x) :: l)
    | _, _ => none

def inOrder : Nat → List (Nat × Operand) → Bool
  | _, [] => true
  | k, (i, _) :: r => i == k && inOrder (k + 1) r

def cR0 (P : Program) (tr : Operand → Opd) (o : Oper) : Option ROp :=
  match o.op with
  | .move x => some (.mov (tr x))
  | .assign x => some (.mov (tr x))
  | .pick c a b => some (.pick (tr c) (tr a) (tr b))
  | .build t ps =>
    match P.underlying t, tinfo P t with
    | some (.struct fs), some (_, _, z) =>
      if fs.toList.all (fun f => (P.info? f.type).isSome) then (places P fs tr ps.toList).map (.build (z.cells.toList.map ofV1)) else none
    | _, _ => none
  | .load t x => match isAggT P t, P.info? t with
    | some a, some i => some (.load a i.size (tr x))
    | _, _ => none
  | .nilCheck x => some (.chk (tr x))
  | .binOp op t x y _ =>
    match y with
    | .const (.slice none 0 0) => match P.underlying t, op with
      | some (.slice _), .eql => some (.nileq false (tr x))
      | some (.slice _), .neq => some (.nileq true (tr x))
      | _, _ => none
    | _ =>
      match P.underlying t with
      | some (.int _) | some .string => some (.bin op (tr x) (tr y))
      | some .bool => some (.beq op (tr x) (tr y))
      | _ => none
  | .unOp .not _ x => some (.not (tr x))
  | .unOp .neg _ x => some (.neg (tr x))
  | .convert s d x => match P.underlying s, P.underlying d with
    | some (.int _), some (.int k) => some (.conv k (tr x))
    | _, _ => none
  | .slice t x lo hi mx =>
    match elemT P t with
    | some e => match P.info? e with
      | some i => if mx.isSome && !hi.isSome then none else some (.slc i.size (tr x) (lo.map (tr)) (hi.map (tr)) (mx.map (tr)))
      | none => none
    | none => none
  | .fieldAddr t x k =>
    match P.underlying t with
    | some (.struct fs) => match fs[k]? with
      | some f => match P.info? f.type with
        | some i => if i.size = 0 then none else some (.off f.offset (tr x))
        | none => none
      | none => none
    | _ => none
  | .indexAddr t x i =>
    match elemT P t with
    | some e => match P.info? e with
      | some inf => some (.idx inf.size (tr x) (tr i))
      | none => none
    | none => none
  | .extract x i => some (.ext (tr x) i)
  | .call { callee := .builtin .len, args, argTypes } =>
    match args.toList, argTypes.toList with
    | [x], [t] => match P.underlying t with
      | some (.slice _) => some (.len (tr x))
      | some .string => some (.slen (tr x))
      | _ => none
    | _, _ => none
  | .call { callee := .builtin .min, args, .. } => some (.mnmx false (args.toList.map (tr)))
  | .call { callee := .builtin .max, args, .. } => some (.mnmx true (args.toList.map (tr)))
  | .makeFunc (.func f) first caps => if first.size = 0 then some (.clo f (caps.toList.map (tr))) else none
  | _ => none

def cH (P : Program) (tr : Operand → Opd) (o : Oper) : Option HOp :=
  match o.op with
  | .alloc t => match tinfo P t with
    | some (_, _, z) => if (z.cells.toList.map ofV1).all AV.scalar then some (.mk (z.cells.toList.map ofV1)) else none
    | none => none
  | .box _ x => some (.box (tr x))
  | .buildSlice t len ps =>
    match elemT P t with
    | some e => match tinfo P e with
      | some (sz, _, z) => if inOrder 0 ps.toList && ps.size == len && decide (z.cells.size = sz) && decide (len * sz ≤ 2 ^ 24) then some (.bsl sz (ps.toList.map fun p => tr p.2)) else none
      | none => none
    | none => none
  | .makeSlice t l c =>
    match elemT P t with
    | some e => match tinfo P e with
      | some (sz, bytes, z) => if z.cells.size = sz ∧ 0 < bytes ∧ (z.cells.toList.map ofV1).all AV.scalar then some (.mks sz bytes (z.cells.toList.map ofV1) (tr l) (tr c)) else none
      | none => none
    | none => none
  | .store t a x => match P.info? t with
    | some i => some (.store i.size (tr a) (tr x))
    | none => none
  | .call { callee := .builtin .append, args, argTypes } =>
    match args.toList, argTypes.toList with
    | [x, y], [s, t] => match elemT P s with
      | some e => match tinfo P e with
        | some (sz, bytes, z) => if z.cells.size = sz ∧ 0 < bytes then (match P.underlying t with
          | some (.slice _) => some (.app sz bytes (tr x) (tr y))
          | some (.int _) => if (z.cells.toList.map ofV1).all AV.scalar then some (.appz sz bytes (z.cells.toList.map ofV1) (tr x) (tr y)) else none
          | _ => none) else none
        | none => none
      | none => none
    | _, _ => none
  | .call { callee := .builtin .clear, args, argTypes } =>
    match args.toList, argTypes.toList with
    | [x], [s] => match elemT P s with
      | some e => match tinfo P e with
        | some (sz, _, z) => if z.cells.size = sz ∧ (z.cells.toList.map ofV1).all AV.scalar then some (.clr sz (z.cells.toList.map ofV1) (tr x)) else none
        | none => none
      | none => match P.underlying s with
        | some (.map _ _) => some (.mclr (tr x))
        | _ => none
    | _, _ => none
  | .makeMap _ none => some .mmk
  | .lookup t x k ok => match P.underlying t with
    | some (.map kt et) => match P.underlying kt, tinfo P et with
      | some (.int .i64), some (_, _, z) => some (.mlook ok (ofV z) (tr x) (tr k))
      | _, _ => none
    | _ => none
  | .mapUpdate t m k v => match P.underlying t with
    | some (.map kt _) => match P.underlying kt with
      | some (.int .i64) => some (.mset (tr m) (tr k) (tr v))
      | _ => none
    | _ => none
  | _ => none

/-- the plan by which two structs of numbers and truths are compared -/
def eqPlan (P : Program) : List Field → Option (List (Nat × Bool))
  | [] => some []
  | f :: fs => if f.name ≠ "_" then (match P.underlying f.type, eqPlan P fs with
      | some (.int _), some r => some ((f.offset, true) :: r)
      | some .bool, some r => some ((f.offset, false) :: r)
      | _, _ => none) else eqPlan P fs

def cX (P : Program) (tr : Operand → Opd) (o : Oper) : Option XOp :=
  match o.op with
  | .binOp op t x y _ =>
    match P.underlying t with
    | some (.pointer _) => match y with
      | .const (.pointer none) => match op with
        | .eql => some (.peq false (tr x))
        | .neq => some (.peq true (tr x))
        | _ => some .bad
      | _ => some .bad
    | some (.struct fs) => if P.stoodInHeld t = false ∧ P.eqGuardType P.depth t = false then (match op, eqPlan P fs.toList with
        | .eql, some l => some (.seq false l (tr x) (tr y))
        | .neq, some l => some (.seq true l (tr x) (tr y))
        | _, _ => some .bad) else some .bad
    | _ => some .bad
  | .field t x k =>
    match P.underlying t with
    | some (.struct fs) => match fs[k]? with
      | some f => match P.info? f.type, isAggT P f.type with
        | some i, some b => some (.fld f.offset i.size b (tr x))
        | _, _ => some .bad
      | none => some .bad
    | _ => some .bad
  | .index t x i => match P.underlying t with
    | some .string => some (.sidx (tr x) (tr i))
    | _ => some .bad
  | .makeFunc (.func f) first caps => some (.bclo f (first.toList.map tr) (caps.toList.map tr))
  | .call { callee := .builtin .cap, args, argTypes } =>
    match args.toList, argTypes.toList with
    | [x], [t] => match P.underlying t with
      | some (.slice _) => some (.cap (tr x))
      | _ => some .bad
    | _, _ => some .bad
  | .call { callee := .value _, .. } => none
  | _ => if (cH P tr o).isSome then none else some .bad

def cR (P : Program) (tr : Operand → Opd) (o : Oper) : Option ROp :=
  match cR0 P tr o with
  | some r => some r
  | none => (cX P tr o).map .x

def cOp (P : Program) (tr : Operand → Opd) (o : Oper) : Option AOp :=
  match cR P tr o with
  | some r => some (.r r)
  | none => match cH P tr o with
    | some h => some (.h h)
    | none => match o.op with
      | .call { callee := .value (.func f), args, .. } => some (.call f (args.toList.map (tr)))
      | .call { callee := .value x, args, .. } => some (.callv (tr x) (args.toList.map (tr)))
      | _ => none

/-! and that these do what they say -/

section
variable {P : Program} {G : Gh} {w : World} {h : AHeap} {tr : Operand → Opd} {g : Opd → AV} {a : Act}

/-- the operands stand for the values -/
def Stands (G : Gh) (w : World) (tr : Operand → Opd) (g : Opd → AV) (a : Act) : Prop := ∀ x, V G w (g (tr x)) (a.eval x)

theorem run_zero {t : TypeId} {sz bytes : Nat} {z : Value} (ht : tinfo P t = some (sz, bytes, z)) : (zeroValue t).run P w = .ok z w := by
  unfold tinfo at ht
  split at ht
  · rename_i i hi
    cases hz : i.zero with
    | none => simp [hz] at ht
    | some z' => simp [hz] at ht; simp [zeroValue, run_typeInfo w hi, hz, ht.2.2]
  · cases ht

theorem info_of_tinfo {t : TypeId} {sz bytes : Nat} {z : Value} (ht : tinfo P t = some (sz, bytes, z)) : ∃ i, P.info? t = some i ∧ i.size = sz ∧ i.bytes = bytes ∧ i.zero = some z := by
  unfold tinfo at ht
  split at ht
  · rename_i i hi
    cases hz : i.zero with
    | none => simp [hz] at ht
    | some z' => simp [hz] at ht; exact ⟨i, hi, ht.1, ht.2.1, by rw [hz, ht.2.2]⟩
  · cases ht

theorem run_size {t : TypeId} {i : TypeInfo} (hi : P.info? t = some i) : (Go.sizeOf t).run P w = .ok i.size w := by
  simp [Go.sizeOf, run_typeInfo w hi]

theorem run_isAggT {t : TypeId} {b : Bool} (hb : isAggT P t = some b) : (isAgg t).run P w = .ok b w := by
  unfold isAggT at hb
  split at hb
  · rename_i h; cases hb; simp [isAgg, run_underlying h]
  · rename_i h; cases hb; simp [isAgg, run_underlying h]
  · rename_i d h1 h2 h; cases hb
    simp only [isAgg, Sem.run_bind, run_underlying h, Result.andThen_ok]
    rfl
  · cases hb

theorem under_elem {t e : TypeId} (he : elemT P t = some e) : P.underlying t = some (.slice e) := by
  unfold elemT at he
  split at he
  · rename_i h; cases he; exact h
  · cases he

theorem mnmx_sound (isMax : Bool) : ∀ (xs : List AV) (vs : List Value) (r : AV), amnmx isMax xs = some r → xs.length = vs.length →
    (∀ (j : Nat) (c : AV) (v : Value), xs[j]? = some c → vs[j]? = some v → V G w c v) →
    ∃ u, ((if isMax then Builtin.max_ #[] 0 vs.toArray else Builtin.min_ #[] 0 vs.toArray)).run P w = .ok u w ∧ V G w r u := by
  intro xs vs r hr hl hV
  unfold amnmx at hr
  split at hr
  · rename_i k n rest
    cases vs with
    | nil => simp at hl
    | cons v vr =>
      have h0 := hV 0 _ v rfl rfl
      cases h0
      have key : ∀ (l : List AV) (vl : List Value) (n : Int), amnmx.aux isMax k n l = some r → l.length = vl.length →
          (∀ (j : Nat) (c : AV) (v : Value), l[j]? = some c → vl[j]? = some v → V G w c v) →
          ∃ u, (vl.foldlM (if isMax then Builtin.max2 else Builtin.min2) (.int k n) : Sem Value).run P w = .ok u w ∧ V G w r u := by
        intro l
        induction l with
        | nil =>
          intro vl n h hl _
          have : vl = [] := List.eq_nil_of_length_eq_zero (by simpa using hl.symm)
          subst this
          simp only [amnmx.aux, Option.some.injEq] at h
          subst h
          exact ⟨_, rfl, .int _ _⟩
        | cons c l ih =>
          intro vl n h hl hV
          cases vl with
          | nil => simp at hl
          | cons v vl =>
            have h1 := hV 0 c v rfl rfl
            cases c <;> simp only [amnmx.aux, reduceCtorEq] at h
            cases h1
            obtain ⟨u, hu, hVu⟩ := ih vl _ h (by simpa using hl) (fun j c v a b => hV (j + 1) c v (by simpa using a) (by simpa using b))
            refine ⟨u, ?_, hVu⟩
            rw [← hu]
            cases isMax <;> simp [List.foldlM_cons, Builtin.max2, Builtin.min2]
      obtain ⟨u, hu, hVu⟩ := key rest vr n hr (by simpa using hl) (fun j c v a b => hV (j + 1) c v (by simpa using a) (by simpa using b))
      refine ⟨u, ?_, hVu⟩
      rw [← hu]
      cases isMax <;> simp [Builtin.max_, Builtin.min_]
  · cases hr

theorem VL.map (hs : Stands G w tr g a) (xs : List Operand) :
    ∀ (j : Nat) (c : AV) (v : Value), ((xs.map (tr)).map g)[j]? = some c → (xs.map a.eval)[j]? = some v → V G w c v := by
  intro j c v hc hv
  simp only [List.getElem?_map, Option.map_eq_some_iff] at hc hv
  obtain ⟨_, ⟨x, hx, rfl⟩, rfl⟩ := hc
  obtain ⟨y, hy, rfl⟩ := hv
  rw [hx] at hy; cases hy
  exact hs x

theorem optInt_sound (hs : Stands G w tr g a) {x : Option Operand} {r : Option Int} (h : optInt g (x.map (tr)) = some r) :
    ∃ k, x.map a.eval = r.map (.int k) := by
  cases x with
  | none => simp only [Option.map_none, optInt, Option.some.injEq] at h; subst h; exact ⟨.i64, rfl⟩
  | some x =>
    simp only [Option.map_some, optInt] at h
    split at h
    · rename_i k n hx
      cases h
      have := hs x
      rw [hx] at this
      generalize hv : a.eval x = v at this
      cases this
      exact ⟨k, by simp [hv]⟩
    · cases h


theorem anil_slice {x : AV} {b : Bool} {v : Value} {t e : TypeId} (hx : V G w x v) (hn : anil x = some b) (hu : P.underlying t = some (.slice e)) (ox oy : Operand) :
    ((do eqGuard .eql t ox oy v (.slice none 0 0); binOp .eql t v (.slice none 0 0) : Sem Value).run P w = .ok (.bool b) w ∧
    (do eqGuard .neq t ox oy v (.slice none 0 0); binOp .neq t v (.slice none 0 0) : Sem Value).run P w = .ok (.bool !b) w) ∨
    ∀ a l c, v ≠ .slice a l c := by
  have key : ∀ (a : Option Addr) (l c : Nat), v = .slice a l c → a.isNone = b →
      ((do eqGuard .eql t ox oy v (.slice none 0 0); binOp .eql t v (.slice none 0 0) : Sem Value).run P w = .ok (.bool b) w ∧
      (do eqGuard .neq t ox oy v (.slice none 0 0); binOp .neq t v (.slice none 0 0) : Sem Value).run P w = .ok (.bool !b) w) := by
    rintro a l c rfl rfl
    have e : (Op.equal t (.slice a l c) (.slice none 0 0)).run P w = .ok a.isNone w := by
      have : ∀ d, (Op.equalIn (d + 1) t (.slice a l c) (.slice none 0 0)).run P w = .ok a.isNone w := by
        intro d
        simp only [Op.equalIn, Sem.run_bind, run_underlying hu, Result.andThen_ok]
        cases a <;> rfl
      exact this 9999
    constructor
    · have : (eqGuard .eql t ox oy (.slice a l c) (.slice none 0 0)).run P w = .ok () w := rfl
      simp only [Sem.run_bind, this, Result.andThen_ok, binOp, e, Sem.run_pure]
    · have : (eqGuard .neq t ox oy (.slice a l c) (.slice none 0 0)).run P w = .ok () w := rfl
      simp only [Sem.run_bind, this, Result.andThen_ok, binOp, e, Sem.run_pure]
  cases hx with
  | nils => simp only [anil, Option.some.injEq] at hn; exact .inl (key _ _ _ rfl hn)
  | ref _ _ _ _ _ c ty m b' =>
    simp only [anil] at hn
    split at hn
    · cases hn; exact .inl (key _ _ _ rfl rfl)
    · cases hn
  | refNil => simp [anil] at hn
  | vals _ _ _ es a cap =>
    simp only [anil] at hn
    split at hn
    · cases hn; exact .inl (key _ _ _ rfl rfl)
    · cases hn
  | valsNil => simp [anil] at hn
  | ptr => exact .inr (fun _ _ _ h => by cases h)
  | vptr => exact .inr (fun _ _ _ h => by cases h)
  | iface => exact .inr (fun _ _ _ h => by cases h)
  | mapv => exact .inr (fun _ _ _ h => by cases h)
  | mapnil => exact .inr (fun _ _ _ h => by cases h)
  | raw v =>
    refine .inr (fun a l c h => ?_)
    subst h
    simp [anil] at hn
  | top => simp [anil] at hn
  | bool => simp [anil] at hn
  | int => simp [anil] at hn
  | str => simp [anil] at hn
  | agg => simp [anil] at hn
  | tup => simp [anil] at hn
  | clo => simp [anil] at hn

theorem run_builtin (ρ : Operand → Value) (dst : Option Tmp) (b : Builtin) (args : Array Operand) (tys : Array TypeId) (ty : TypeId) (pos : String) (after : Array Edge) (guard : Option (Nat × Bool)) :
    (execOp ρ { dst, op := .call { callee := .builtin b, args, argTypes := tys }, type := ty, pos, after, guard }).run P w =
      (builtin b tys ty (args.map fun | .const _ => true | _ => false) (args.map ρ)).run P w := by
  simp only [execOp, resolve, invoke, Sem.run_bind, Sem.run_pure, Result.andThen_ok]
  rfl

theorem places_sound {fs : Array Field} (hs : Stands G w tr g a) : ∀ (ps : List (Nat × Operand)) (l : List (Nat × Nat × Opd)), places P fs tr ps = some l →
    l.length = ps.length ∧ ∀ (j i : Nat) (v : Value) (o n : Nat) (x : AV), (ps.map fun (i, x) => (i, a.eval x))[j]? = some (i, v) → (l.map fun p => (p.1, p.2.1, g p.2.2))[j]? = some (o, n, x) →
      (fs.map fun f => (f.offset, P.cellsOf f.type))[i]? = some (o, n) ∧ V G w x v := by
  intro ps
  induction ps with
  | nil => intro l hl; simp only [places, Option.some.injEq] at hl; subst hl; exact ⟨rfl, fun j i v o n x h => by simp at h⟩
  | cons p ps ih =>
    intro l hl
    obtain ⟨i0, x0⟩ := p
    simp only [places] at hl
    split at hl
    · rename_i f l' hf hl'
      cases hl
      obtain ⟨h1, h2⟩ := ih l' hl'
      refine ⟨by simp [h1], fun j i v o n x hp hq => ?_⟩
      cases j with
      | zero =>
        simp at hp hq
        obtain ⟨rfl, rfl⟩ := hp
        obtain ⟨rfl, rfl, rfl⟩ := hq
        exact ⟨by simp [hf], hs x0⟩
      | succ j => exact h2 j i v o n x (by simpa using hp) (by simpa using hq)
    · cases hl

theorem run_mapM_places (fs : List Field) (hf : ∀ f ∈ fs, (P.info? f.type).isSome) :
    (fs.mapM fun f => do pure (f.offset, ← Go.sizeOf f.type) : Sem (List (Nat × Nat))).run P w = .ok (fs.map fun f => (f.offset, P.cellsOf f.type)) w := by
  induction fs with
  | nil => rfl
  | cons f fs ih =>
    obtain ⟨i, hi⟩ := Option.isSome_iff_exists.1 (hf f (by simp))
    simp only [List.mapM_cons, Sem.run_bind, run_sizeOf w hi, Result.andThen_ok, Sem.run_pure, ih (fun f h => hf f (by simp [h])), List.map_cons]

theorem alen_sound {q r : AV} {v : Value} {t e : TypeId} (hq : V G w q v) (hr : alen q = some r) (hu : P.underlying t = some (.slice e)) (ty : TypeId) :
    ∃ u, (Builtin.len_ #[t] ty #[v]).run P w = .ok u w ∧ V G w r u := by
  have key : ∀ (a : Option Addr) (l c : Nat), (Builtin.len_ #[t] ty #[.slice a l c]).run P w = .ok (.int .i64 l) w := by
    intro a l c
    simp only [Builtin.len_, List.getElem?_toArray, List.getElem?_cons_zero, Sem.run_bind, run_underlying hu, Result.andThen_ok, Sem.run_pure, goInt]
  cases hq <;> simp only [alen, Option.some.injEq, reduceCtorEq] at hr <;> subst hr <;> exact ⟨_, key _ _ _, .int _ _⟩

theorem rop0_sound (gm : Gam G w h) (hs : Stands G w tr g a) {o : Oper} {ro : ROp} (hc : cR0 P tr o = some ro) {r : AV} (hr : rev g h ro = some r) :
    ∃ v, (execOp a.eval o).run P w = .ok (.value v) w ∧ V G w r v := by
  obtain ⟨dst, op, type, pos, after, guard⟩ := o
  have up : ∀ {s : Sem Value}, (∃ v, s.run P w = .ok v w ∧ V G w r v) → ∃ v, ((do pure (.value (← s)) : Sem Next)).run P w = .ok (.value v) w ∧ V G w r v := by
    rintro s ⟨v, hv, hV⟩; exact ⟨v, by simp [hv], hV⟩
  unfold cR0 at hc
  simp only at hc
  split at hc
  · rename_i x; cases hc; simp only [rev, Option.some.injEq] at hr; subst hr; exact ⟨_, rfl, hs x⟩
  · rename_i x; cases hc; simp only [rev, Option.some.injEq] at hr; subst hr; exact ⟨_, rfl, hs x⟩
  · -- pick
    rename_i c x y; cases hc
    simp only [rev] at hr
    split at hr
    · rename_i t ht
      cases hr
      have h0 := hs c
      rw [ht] at h0
      generalize hv : a.eval c = v at h0
      cases h0
      refine ⟨if t then a.eval x else a.eval y, ?_, ?_⟩
      · simp only [execOp, hv, asBool]; cases t <;> rfl
      · cases t
        · exact hs y
        · exact hs x
    · cases hr
  · -- build
    rename_i t ps
    split at hc <;> (try cases hc)
    rename_i fs sz0 b0 z hu hz
    split at hc <;> (try cases hc)
    rename_i hall
    simp only [Option.map_eq_some_iff] at hc
    obtain ⟨l, hl, rfl⟩ := hc
    simp only [rev, Option.map_eq_some_iff] at hr
    obtain ⟨cells, hcells, rfl⟩ := hr
    obtain ⟨hlen, hpl⟩ := places_sound (P := P) hs ps.toList l hl
    have hz0 : VL G w (z.cells.toList.map ofV1) z.cells := VL.ofV1 G w z.cells
    obtain ⟨us, hus, hVL⟩ := afill_sound (G := G) (w := w) (fun i => (fs.map fun f => (f.offset, P.cellsOf f.type))[i]?) (ps.toList.map fun (i, x) => (i, a.eval x)) (l.map fun p => (p.1, p.2.1, g p.2.2)) _ z.cells cells hz0
      (by simp [hlen]) hpl hcells
    refine up ⟨.agg us, ?_, .agg _ _ hVL.1 hVL.2⟩
    have hm : (fs.mapM fun f => do pure (f.offset, ← Go.sizeOf f.type) : Sem (Array (Nat × Nat))).run P w = .ok (fs.map fun f => (f.offset, P.cellsOf f.type)) w := by
      have := run_mapM_places (P := P) (w := w) fs.toList (fun f h => List.all_eq_true.1 hall f h)
      rw [Array.mapM_eq_mapM_toList]
      have e : ∀ (x : Sem (List (Nat × Nat))), (Functor.map List.toArray x : Sem (Array (Nat × Nat))).run P w = (x.run P w).andThen fun a w' => .ok a.toArray w' := fun x => Sem.run_bind' P x _ w
      rw [e, this, Result.andThen_ok]
      congr 1
      apply Array.ext'
      simp
    have hpz : ((ps.map fun (i, x) => (i, a.eval x)).toList) = ps.toList.map fun (i, x) => (i, a.eval x) := by simp
    simp only [Instr.build, Sem.run_bind, run_zero hz, Result.andThen_ok, run_underlying hu, hm, hpz, hus, Sem.run_pure]
  · -- load
    rename_i t x
    split at hc
    · rename_i b i hb hi
      cases hc
      simp only [rev] at hr
      exact up (aload_sound gm (hs x) hr (run_isAggT hb) (run_size hi))
    · cases hc
  · -- nilCheck
    rename_i x; cases hc
    simp only [rev] at hr
    have h0 := hs x
    split at hr <;> rename_i hx <;> (try cases hr) <;> rw [hx] at h0 <;> generalize hv : a.eval x = v at h0
    · cases h0 with | ptr _ _ _ _ b hn hb => exact ⟨_, by simp only [execOp, hv]; rfl, .ptr _ _ _ _ b hn hb⟩
    · cases h0 with | vptr _ _ b off f h1 h2 h3 => exact ⟨_, by simp only [execOp, hv]; rfl, .vptr _ _ b off f h1 h2 h3⟩
    · cases h0 with | iface _ _ v' h1 => exact ⟨_, by simp only [execOp, hv]; rfl, .iface _ _ _ h1⟩
    · cases h0 with | clo _ _ us _ vs h1 h2 h3 h4 => exact ⟨_, by simp only [execOp, hv]; rfl, .clo _ _ us _ vs h1 h2 h3 h4⟩
  · -- binOp
    rename_i bop t x y yt
    have sl : ∀ {b}, sliceish (g (tr x)) = true → anil (g (tr x)) = some b → ∀ e, P.underlying t = some (.slice e) → ∀ oy,
        ((do eqGuard .eql t x oy (a.eval x) (.slice none 0 0); binOp .eql t (a.eval x) (.slice none 0 0) : Sem Value).run P w = .ok (.bool b) w ∧
        (do eqGuard .neq t x oy (a.eval x) (.slice none 0 0); binOp .neq t (a.eval x) (.slice none 0 0) : Sem Value).run P w = .ok (.bool !b) w) := by
      intro b h1 h2 e hu oy
      refine (anil_slice (P := P) (hs x) h2 hu x oy).resolve_right (fun hne => ?_)
      have h0 := hs x
      generalize hv : a.eval x = v at *
      generalize g (tr x) = q at *
      cases h0 <;> simp [sliceish] at h1
      · exact hne _ _ _ rfl
      · exact hne _ _ _ rfl
      · exact hne _ _ _ rfl
      · exact hne _ _ _ rfl
      · exact hne _ _ _ rfl
    split at hc
    · split at hc
      · cases hc; simp only [rev] at hr
        rename_i e hu
        split at hr
        · rename_i hsl
          simp only [Option.map_eq_some_iff] at hr
          obtain ⟨b, hb, rfl⟩ := hr
          refine up ⟨_, (sl hsl hb e hu _).1, ?_⟩
          cases b <;> exact .bool _
        · cases hr
      · cases hc; simp only [rev] at hr
        rename_i e hu
        split at hr
        · rename_i hsl
          simp only [Option.map_eq_some_iff] at hr
          obtain ⟨b, hb, rfl⟩ := hr
          refine up ⟨_, (sl hsl hb e hu _).2, ?_⟩
          cases b <;> exact .bool _
        · cases hr
      · cases hc
    · split at hc <;> (try cases hc) <;> simp only [rev] at hr
      · exact up (abin_sound (hs x) (hs y) hr t x y)
      · exact up (abin_sound (hs x) (hs y) hr t x y)
      · rename_i hu
        split at hr
        · rename_i p q hp hq
          have h1 := hs x
          have h2 := hs y
          rw [hp] at h1; rw [hq] at h2
          generalize hv1 : a.eval x = v1 at h1
          generalize hv2 : a.eval y = v2 at h2
          cases h1; cases h2
          have := up (bbin_sound (P := P) (G := G) (w := w) hr t x y hu)
          simp only [execOp, hv1, hv2]
          exact this
        · cases hr
  · -- not
    rename_i t x; cases hc
    simp only [rev] at hr
    split at hr
    · rename_i b hb
      cases hr
      have h1 := hs x
      rw [hb] at h1
      generalize hv1 : a.eval x = v1 at h1
      cases h1
      exact ⟨_, by simp only [execOp, hv1, Op.unary, Sem.run_bind, Sem.run_pure, Result.andThen_ok], .bool _⟩
    · cases hr
  · -- neg
    rename_i t x; cases hc
    simp only [rev] at hr
    split at hr
    · rename_i k n hb
      cases hr
      have h1 := hs x
      rw [hb] at h1
      generalize hv1 : a.eval x = v1 at h1
      cases h1
      exact ⟨_, by simp only [execOp, hv1, Op.unary, Op.intArith, Sem.run_bind, Sem.run_pure, Result.andThen_ok], .int _ _⟩
    · cases hr
  · -- convert
    rename_i s d x
    split at hc <;> (try cases hc)
    rename_i k' k hu hd
    simp only [rev] at hr
    split at hr
    · rename_i k0 n hb
      cases hr
      have h1 := hs x
      rw [hb] at h1
      generalize hv1 : a.eval x = v1 at h1
      cases h1
      exact ⟨_, by simp only [execOp, hv1, convert, run_underlying hu, run_underlying hd, Conv.intToInt, Sem.run_bind, Sem.run_pure, Result.andThen_ok], .int _ _⟩
    · cases hr
  · -- slice
    rename_i t x lo hi mx
    split at hc <;> (try cases hc)
    rename_i e he
    split at hc <;> (try cases hc)
    rename_i i hinf
    split at hc <;> (try cases hc)
    rename_i hmx
    simp only [rev] at hr
    split at hr
    · rename_i lo' hi' mx' h1 h2 h3
      obtain ⟨k1, e1⟩ := optInt_sound hs h1
      obtain ⟨k2, e2⟩ := optInt_sound hs h2
      obtain ⟨k3, e3⟩ := optInt_sound hs h3
      have := aslice_sound (P := P) (hs x) hr k1 k2 k3 (by
        intro hm
        cases mx with
        | none => simp [optInt] at h3; subst h3; simp at hm
        | some _ => cases hi with
          | none => simp at hmx
          | some _ => cases hi' with
            | none => simp at e2
            | some _ => rfl) (under_elem he) (run_size hinf)
      have := up this
      simp only [execOp, e1, e2, e3]
      exact this
    · cases hr
  · -- fieldAddr
    rename_i t x k
    split at hc <;> (try cases hc)
    rename_i fs hu
    split at hc <;> (try cases hc)
    rename_i f hf
    split at hc <;> (try cases hc)
    rename_i i hi
    split at hc <;> (try cases hc)
    rename_i h0
    simp only [rev] at hr
    exact up (afield_sound (hs x) hr hu hf rfl (run_size hi) h0)
  · -- indexAddr
    rename_i t x i
    split at hc <;> (try cases hc)
    rename_i e he
    split at hc <;> (try cases hc)
    rename_i inf hi
    simp only [rev] at hr
    exact up (aindex_sound (hs x) (hs i) hr (under_elem he) (run_size hi))
  · -- extract
    rename_i x i; cases hc
    simp only [rev] at hr
    split at hr
    · rename_i cs hx
      have h1 := hs x
      rw [hx] at h1
      generalize hv1 : a.eval x = v1 at h1
      cases h1 with
      | tup _ vs hl hV =>
        have hlt := (List.getElem?_eq_some_iff.1 hr).1
        have hv : vs[i]? = some (vs[i]'(by rw [← hl]; exact hlt)) := by simp [← hl, hlt]
        exact ⟨_, by simp only [execOp, hv1, Instr.extract, hv, Sem.run_bind, Sem.run_pure, Result.andThen_ok], hV i r _ hr hv⟩
    · cases hr
  · -- len
    rename_i args argTypes
    split at hc <;> (try cases hc)
    rename_i x t hargs htys
    obtain ⟨rfl⟩ : args = #[x] := by cases args; simp at hargs; simp [hargs]
    obtain ⟨rfl⟩ : argTypes = #[t] := by cases argTypes; simp at htys; simp [htys]
    have h1 := hs x
    split at hc <;> (try cases hc) <;> rename_i hu <;> simp only [rev] at hr
    · obtain ⟨u, hu', hV⟩ := alen_sound (P := P) h1 hr hu type
      refine ⟨u, ?_, hV⟩
      rw [run_builtin]
      simp only [builtin, List.map_toArray, List.map_cons, List.map_nil, Sem.run_bind, hu', Result.andThen_ok, Sem.run_pure]
    · split at hr
      · rename_i s hq
        cases hr
        rw [hq] at h1
        generalize hv1 : a.eval x = v1 at h1
        cases h1
        refine ⟨.int .i64 s.size, ?_, .int _ _⟩
        rw [run_builtin]
        simp only [builtin, List.map_toArray, List.map_cons, List.map_nil, hv1, Builtin.len_, List.getElem?_toArray, List.getElem?_cons_zero, Sem.run_bind, run_underlying hu, Result.andThen_ok, Sem.run_pure, goInt]
      · cases hr
  · -- min
    rename_i args ty
    cases hc
    simp only [rev] at hr
    obtain ⟨u, hu, hV⟩ := mnmx_sound (P := P) (G := G) (w := w) false _ (args.toList.map a.eval) r hr (by simp) (VL.map hs args.toList)
    refine ⟨u, ?_, hV⟩
    rw [run_builtin]
    simp only [builtin, Sem.run_bind]
    have : Builtin.min_ ty type (args.map a.eval) = Builtin.min_ #[] 0 (args.toList.map a.eval).toArray := by simp [Builtin.min_]
    rw [this]
    simp only [Bool.false_eq_true, if_false] at hu
    simp [hu]
  · -- max
    rename_i args ty
    cases hc
    simp only [rev] at hr
    obtain ⟨u, hu, hV⟩ := mnmx_sound (P := P) (G := G) (w := w) true _ (args.toList.map a.eval) r hr (by simp) (VL.map hs args.toList)
    refine ⟨u, ?_, hV⟩
    rw [run_builtin]
    simp only [builtin, Sem.run_bind]
    have : Builtin.max_ ty type (args.map a.eval) = Builtin.max_ #[] 0 (args.toList.map a.eval).toArray := by simp [Builtin.max_]
    rw [this]
    simp only [if_true] at hu
    simp [hu]
  · -- makeFunc
    rename_i f first caps
    split at hc <;> (try cases hc)
    rename_i h0
    simp only [rev, Option.some.injEq] at hr
    subst hr
    have hf : first = #[] := Array.eq_empty_of_size_eq_zero h0
    subst hf
    refine ⟨_, by simp only [execOp, Instr.makeFunc, Sem.run_bind, Sem.run_pure, Result.andThen_ok]; rfl, ?_⟩
    have : ((#[] : Array Operand).map a.eval) = #[] := by simp
    rw [this]
    refine .clo _ _ _ _ _ rfl (fun j c v h => by simp at h) (by simp) (fun j c v hc hv => ?_)
    exact VL.map hs caps.toList j c v (by simpa using hc) (by simpa using hv)
  · cases hc


theorem eqFields_sound {d : Nat} : ∀ (fs : List Field) (plan : List (Nat × Bool)) (cs ds : List AV) (xs ys : Array Value) (r : Bool), eqPlan P fs = some plan → VL G w cs xs → VL G w ds ys →
    aEq plan cs ds = some r → (Op.eqFields (d + 1) xs ys fs).run P w = .ok r w := by
  intro fs
  induction fs with
  | nil =>
    intro plan cs ds xs ys r hp hx hy hr
    simp only [eqPlan, Option.some.injEq] at hp
    subst hp
    simp only [aEq, Option.some.injEq] at hr
    subst hr
    rfl
  | cons f fs ih =>
    intro plan cs ds xs ys r hp hx hy hr
    simp only [eqPlan] at hp
    simp only [Op.eqFields]
    split at hp
    · rename_i hn
      rw [if_pos hn]
      split at hp <;> (try cases hp)
      · rename_i k rest hu hrest
        simp only [aEq] at hr
        split at hr
        · rename_i k1 a k2 b ha hb
          obtain ⟨v1, hv1, hV1⟩ := hx.get ha
          obtain ⟨v2, hv2, hV2⟩ := hy.get hb
          cases hV1; cases hV2
          split at hr
          · rename_i hk
            subst hk
            have p1 : (part f.type xs f.offset).run P w = .ok (.int k1 a) w := by simp [part, isAgg, run_underlying hu, hv1]
            have p2 : (part f.type ys f.offset).run P w = .ok (.int k1 b) w := by simp [part, isAgg, run_underlying hu, hv2]
            simp only [Sem.run_bind, p1, p2, Result.andThen_ok, run_equalIn_int w d f.type k1 k a b hu]
            split at hr
            · rename_i hab
              subst hab
              simp only [BEq.rfl, Bool.not_true, Bool.false_eq_true, if_false]
              exact ih rest cs ds xs ys r hrest hx hy hr
            · rename_i hab
              cases hr
              simp only [beq_eq_false_iff_ne.2 hab, Bool.not_false, if_true, Sem.run_pure]
          · cases hr
        · cases hr
      · rename_i rest hu hrest
        simp only [aEq] at hr
        split at hr
        · rename_i a b ha hb
          obtain ⟨v1, hv1, hV1⟩ := hx.get ha
          obtain ⟨v2, hv2, hV2⟩ := hy.get hb
          cases hV1; cases hV2
          have p1 : (part f.type xs f.offset).run P w = .ok (.bool a) w := by simp [part, isAgg, run_underlying hu, hv1]
          have p2 : (part f.type ys f.offset).run P w = .ok (.bool b) w := by simp [part, isAgg, run_underlying hu, hv2]
          simp only [Sem.run_bind, p1, p2, Result.andThen_ok, run_equalIn_bool w d f.type a b hu]
          split at hr
          · rename_i hab
            subst hab
            simp only [BEq.rfl, Bool.not_true, Bool.false_eq_true, if_false]
            exact ih rest cs ds xs ys r hrest hx hy hr
          · rename_i hab
            cases hr
            simp only [beq_eq_false_iff_ne.2 hab, Bool.not_false, if_true, Sem.run_pure]
        · cases hr
    · rename_i hn
      rw [if_neg hn]
      exact ih plan cs ds xs ys r hp hx hy hr

theorem VL.part {cs : List AV} {vs : Array Value} (h : VL G w cs vs) (o n : Nat) (hn : o + n ≤ cs.length) : VL G w ((cs.drop o).take n) (vs.extract o (o + n)) := by
  have := h.1
  refine ⟨by simp; omega, fun j c v hc hv => ?_⟩
  rw [List.getElem?_take] at hc
  split at hc
  · rename_i hj
    rw [List.getElem?_drop] at hc
    rw [Array.getElem?_extract] at hv
    split at hv
    · exact h.2 _ c v hc hv
    · cases hv
  · cases hc

theorem xop_sound (hs : Stands G w tr g a) {o : Oper} {xo : XOp} (hc : cX P tr o = some xo) {r : AV} (hr : xev g xo = some r) :
    ∃ v, (execOp a.eval o).run P w = .ok (.value v) w ∧ V G w r v := by
  obtain ⟨dst, op, type, pos, after, guard⟩ := o
  have up : ∀ {s : Sem Value}, (∃ v, s.run P w = .ok v w ∧ V G w r v) → ∃ v, ((do pure (.value (← s)) : Sem Next)).run P w = .ok (.value v) w ∧ V G w r v := by
    rintro s ⟨v, hv, hV⟩; exact ⟨v, by simp [hv], hV⟩
  have bd : ∀ {q : Prop}, xev g .bad = some r → q := fun h => by simp [xev] at h
  unfold cX at hc
  simp only at hc
  split at hc
  · rename_i bop t x y yt
    split at hc
    · rename_i e hu
      have ptr : ∀ b, pnil (g (tr x)) = some b → ∃ p : Option Addr, a.eval x = .pointer p ∧ p.isNone = b := by
        intro b hb
        have h0 := hs x
        unfold pnil at hb
        split at hb <;> cases hb <;> rename_i hq <;> rw [hq] at h0 <;> generalize a.eval x = v at h0 <;> cases h0
        · exact ⟨none, rfl, rfl⟩
        · exact ⟨_, rfl, rfl⟩
        · exact ⟨_, rfl, rfl⟩
      have hc0 : a.eval (.const (.pointer none)) = .pointer none := rfl
      have hu' : P.underlying t = some (.pointer (P.pointee t)) := by simp [Program.pointee, hu]
      split at hc
      · split at hc <;> cases hc
        · simp only [xev, Option.map_eq_some_iff] at hr
          obtain ⟨b, hb, rfl⟩ := hr
          obtain ⟨p, hp, rfl⟩ := ptr b hb
          refine up ⟨_, ?_, .bool _⟩
          simp only [hp, hc0, eqGuard_at_pointer, Sem.run_bind, Sem.run_pure, Result.andThen_ok, run_eql_pointer_nil w t p hu']
          cases p <;> rfl
        · simp only [xev, Option.map_eq_some_iff] at hr
          obtain ⟨b, hb, rfl⟩ := hr
          obtain ⟨p, hp, rfl⟩ := ptr b hb
          refine up ⟨_, ?_, .bool _⟩
          simp only [hp, hc0, eqGuard_at_pointer, Sem.run_bind, Sem.run_pure, Result.andThen_ok, run_neq_pointer_nil w t p hu']
          cases p <;> rfl
        · exact bd hr
      · cases hc; exact bd hr
    · rename_i fs hu
      split at hc
      · rename_i hh
        have hu' : P.underlying t = some (.struct (P.fieldsOf t)) := by simp [Program.fieldsOf, hu]
        have hfs : P.fieldsOf t = fs := by simp [Program.fieldsOf, hu]
        have go : ∀ {l cs ds b}, eqPlan P fs.toList = some l → g (tr x) = .agg cs → g (tr y) = .agg ds → aEq l cs ds = some b →
            ∃ xs ys, a.eval x = .agg xs ∧ a.eval y = .agg ys ∧ (Op.equalIn 10000 t (.agg xs) (.agg ys)).run P w = .ok b w := by
          intro l cs ds b hl hx hy hb
          have h1 := hs x
          have h2 := hs y
          rw [hx] at h1; rw [hy] at h2
          generalize a.eval x = v1 at *
          generalize a.eval y = v2 at *
          cases h1 with | agg _ xs l1 V1 => cases h2 with | agg _ ys l2 V2 =>
          refine ⟨xs, ys, rfl, rfl, ?_⟩
          rw [run_equalIn_struct w 9999 t xs ys hu' hh.1, hfs]
          exact eqFields_sound fs.toList l cs ds xs ys b hl ⟨l1, V1⟩ ⟨l2, V2⟩ hb
        split at hc <;> cases hc
        · rename_i l hl
          simp only [xev] at hr
          split at hr
          · rename_i cs ds hx hy
            simp only [Option.map_eq_some_iff] at hr
            obtain ⟨b, hb, rfl⟩ := hr
            obtain ⟨xs, ys, e1, e2, e3⟩ := go hl hx hy hb
            refine up ⟨_, ?_, .bool _⟩
            simp only [e1, e2, Sem.run_bind, run_eqGuard_agg w _ t x y xs ys hh.2, Result.andThen_ok, run_eql_struct, e3]
            cases b <;> rfl
          · cases hr
        · rename_i l hl
          simp only [xev] at hr
          split at hr
          · rename_i cs ds hx hy
            simp only [Option.map_eq_some_iff] at hr
            obtain ⟨b, hb, rfl⟩ := hr
            obtain ⟨xs, ys, e1, e2, e3⟩ := go hl hx hy hb
            refine up ⟨_, ?_, .bool _⟩
            simp only [e1, e2, Sem.run_bind, run_eqGuard_agg w _ t x y xs ys hh.2, Result.andThen_ok, run_neq_struct, e3]
            cases b <;> rfl
          · cases hr
        · exact bd hr
      · cases hc; exact bd hr
    · cases hc; exact bd hr
  · rename_i t x k
    split at hc
    · rename_i fs hu
      split at hc
      · rename_i f hf
        split at hc
        · rename_i i b hi hb
          cases hc
          simp only [xev] at hr
          split at hr
          · rename_i cs hx
            have h1 := hs x
            rw [hx] at h1
            generalize hv1 : a.eval x = v1 at h1
            cases h1 with | agg _ vs hl hV =>
            refine up ?_
            split at hr
            · rename_i hb'
              subst hb'
              split at hr
              · rename_i hle
                cases hr
                have := VL.part (G := G) (w := w) ⟨hl, hV⟩ f.offset i.size hle
                refine ⟨.agg (vs.extract f.offset (f.offset + i.size)), ?_, .agg _ _ this.1 this.2⟩
                simp only [hv1, Instr.field, Sem.run_bind, run_underlying hu, Result.andThen_ok, hf, asAgg, Sem.run_pure, part, run_isAggT hb, if_true, run_size hi]
              · cases hr
            · rename_i hb'
              have hb'' : b = false := by simpa using hb'
              subst hb''
              obtain ⟨v, hv, hV'⟩ := VL.get (G := G) (w := w) ⟨hl, hV⟩ hr
              refine ⟨v, ?_, hV'⟩
              simp only [hv1, Instr.field, Sem.run_bind, run_underlying hu, Result.andThen_ok, hf, asAgg, Sem.run_pure, part, run_isAggT hb, Bool.false_eq_true, if_false, hv]
          · cases hr
        · cases hc; exact bd hr
      · cases hc; exact bd hr
    · cases hc; exact bd hr
  · rename_i t x i
    split at hc
    · rename_i hu
      cases hc
      simp only [xev] at hr
      split at hr
      · rename_i s k n hx hi
        have h1 := hs x
        have h2 := hs i
        rw [hx] at h1; rw [hi] at h2
        generalize hv1 : a.eval x = v1 at h1
        generalize hv2 : a.eval i = v2 at h2
        cases h1; cases h2
        split at hr
        · rename_i h0
          simp only [Option.map_eq_some_iff] at hr
          obtain ⟨b, hb, rfl⟩ := hr
          refine up ⟨_, ?_, .int _ _⟩
          simp only [hv1, hv2, Instr.index, asIntOf, Sem.run_bind, Sem.run_pure, Result.andThen_ok, run_underlying hu, h0, if_true, hb]
        · cases hr
      · cases hr
    · cases hc; exact bd hr
  · rename_i f first caps
    cases hc
    simp only [xev, Option.some.injEq] at hr
    subst hr
    refine ⟨_, by simp only [execOp, Instr.makeFunc, Sem.run_bind, Sem.run_pure, Result.andThen_ok]; rfl, ?_⟩
    have h1 := VL.map hs first.toList
    have h2 := VL.map hs caps.toList
    exact .clo _ _ _ _ _ (by simp) (fun j c v hc hv => h1 j c v (by simpa using hc) (by simpa using hv)) (by simp) (fun j c v hc hv => h2 j c v (by simpa using hc) (by simpa using hv))
  · rename_i args argTypes
    split at hc
    · rename_i x t hargs htys
      obtain ⟨rfl⟩ : args = #[x] := by cases args; simp at hargs; simp [hargs]
      obtain ⟨rfl⟩ : argTypes = #[t] := by cases argTypes; simp at htys; simp [htys]
      split at hc
      · rename_i e hu
        cases hc
        have key : ∀ (q : Option Addr) (l c : Nat), a.eval x = .slice q l c → (execOp a.eval { dst, op := .call { callee := .builtin .cap, args := #[x], argTypes := #[t] }, type, pos, after, guard }).run P w = .ok (.value (.int .i64 c)) w := by
          intro q l c hq
          rw [run_builtin]
          simp only [builtin, List.map_toArray, List.map_cons, List.map_nil, hq, Builtin.cap_, List.getElem?_toArray, List.getElem?_cons_zero, Sem.run_bind, run_underlying hu, Result.andThen_ok, Sem.run_pure, goInt]
        have h0 := hs x
        simp only [xev] at hr
        split at hr <;> (try cases hr) <;> rename_i hx <;> rw [hx] at h0 <;> generalize hq : a.eval x = v at h0
        · cases h0; exact ⟨_, key _ _ _ hq, .int _ _⟩
        · cases h0 with
          | ref _ _ _ _ _ c ty m b h1 h2 h3 h4 =>
            have := h4 _ rfl
            subst this
            exact ⟨_, key _ _ _ hq, .int _ _⟩
          | refNil _ _ _ h1 h2 h3 =>
            have := h3 _ rfl
            subst this
            exact ⟨_, key _ _ _ hq, .int _ _⟩
        · cases h0 with
          | vals _ _ _ _ ad cap f h1 h2 =>
            have := h2 rfl
            subst this
            exact ⟨_, key _ _ _ hq, .int _ _⟩
          | valsNil => exact ⟨_, key _ _ _ hq, .int _ _⟩
      · cases hc; exact bd hr
    · cases hc; exact bd hr
  · cases hc
  · split at hc
    · cases hc
    · cases hc; exact bd hr

theorem rop_sound (gm : Gam G w h) (hs : Stands G w tr g a) {o : Oper} {ro : ROp} (hc : cR P tr o = some ro) {r : AV} (hr : rev g h ro = some r) :
    ∃ v, (execOp a.eval o).run P w = .ok (.value v) w ∧ V G w r v := by
  unfold cR at hc
  split at hc
  · rename_i r' h'; cases hc; exact rop0_sound gm hs h' hr
  · simp only [Option.map_eq_some_iff] at hc
    obtain ⟨xo, hx, rfl⟩ := hc
    exact xop_sound hs hx (by simpa [rev] using hr)

/-! the operations that make or change memory -/

theorem inOrder_spec : ∀ (ps : List (Nat × Operand)) (k : Nat), inOrder k ps = true → ∀ (j i : Nat) (x : Operand), ps[j]? = some (i, x) → i = k + j := by
  intro ps
  induction ps with
  | nil => intro k _ j i x h; simp at h
  | cons p ps ih =>
    intro k hk j i x h
    obtain ⟨i0, x0⟩ := p
    simp only [inOrder, Bool.and_eq_true, beq_iff_eq] at hk
    cases j with
    | zero => simp at h; omega
    | succ j =>
      have := ih (k + 1) hk.2 j i x (by simpa using h)
      omega

theorem cellsAll_spec {sz : Nat} : ∀ (xs : List AV) (es : List (List AV)), cellsAll sz xs = some es →
    es.length = xs.length ∧ okes sz es ∧ ∀ (j : Nat) (e : List AV) (x : AV), es[j]? = some e → xs[j]? = some x → x.cells? = some e := by
  intro xs
  induction xs with
  | nil => intro es h; simp only [cellsAll, Option.some.injEq] at h; subst h; exact ⟨rfl, fun e he => by simp at he, fun j e x h => by simp at h⟩
  | cons x xs ih =>
    intro es h
    simp only [cellsAll] at h
    split at h
    · rename_i cs es' hcs hes
      split at h
      · rename_i hh
        cases h
        obtain ⟨h1, h2, h3⟩ := ih es' hes
        refine ⟨by simp [h1], fun e he => ?_, fun j e y he hy => ?_⟩
        · rcases List.mem_cons.1 he with rfl | he
          · exact hh
          · exact h2 e he
        · cases j with
          | zero => simp at he hy; subst he; subst hy; exact hcs
          | succ j => exact h3 j e y (by simpa using he) (by simpa using hy)
      · cases h
    · cases h

/-- elements laid one behind the other over zeros -/
theorem fill_rows {sz : Nat} : ∀ (vs : List (Nat × Value)) (k : Nat) (es : List (List AV)) (cells : Array Value), vs.length = es.length →
    (∀ (j i : Nat) (v : Value), vs[j]? = some (i, v) → i = k + j) → (k + vs.length) * sz ≤ cells.size →
    (∀ (j i : Nat) (v : Value) (e : List AV), vs[j]? = some (i, v) → es[j]? = some e → VL G w e v.cells ∧ e.length = sz) →
    ∃ us, Instr.fill (fun i => some (i * sz, sz)) cells vs = some us ∧ us.size = cells.size ∧ (∀ p, p < k * sz → us[p]? = cells[p]?) ∧
      ∀ i j c, getc es i j = some c → ∃ v, us[(k + i) * sz + j]? = some v ∧ V G w c v := by
  intro vs
  induction vs with
  | nil =>
    intro k es cells hl _ _ _
    have : es = [] := List.eq_nil_of_length_eq_zero (by simpa using hl.symm)
    subst this
    exact ⟨cells, rfl, rfl, fun _ _ => rfl, fun i j c h => by simp [getc] at h⟩
  | cons p vs ih =>
    intro k es cells hl hk hsz hV
    obtain ⟨i0, v0⟩ := p
    cases es with
    | nil => simp at hl
    | cons e es =>
      have hi0 : i0 = k := by have := hk 0 i0 v0 rfl; omega
      subst hi0
      obtain ⟨hv0, he0⟩ := hV 0 i0 v0 e rfl rfl
      have hvsz : v0.cells.size = sz := by rw [← hv0.1, he0]
      generalize hnew : (v0.cells.zipIdx.foldl (fun cs (c, j) => cs.setIfInBounds (i0 * sz + j) c) cells) = new
      -- what that row of stores gives
      have row : ∀ (l : List Value) (q : Nat) (cs : Array Value), i0 * sz + q + l.length ≤ cs.size →
          ((l.zipIdx q).foldl (fun cs (c, j) => cs.setIfInBounds (i0 * sz + j) c) cs).size = cs.size ∧
          ∀ p, ((l.zipIdx q).foldl (fun cs (c, j) => cs.setIfInBounds (i0 * sz + j) c) cs)[p]? = if i0 * sz + q ≤ p ∧ p < i0 * sz + q + l.length then l[p - (i0 * sz + q)]? else cs[p]? := by
        intro l
        induction l with
        | nil => intro q cs _; exact ⟨rfl, fun p => by simp; omega⟩
        | cons c l ihl =>
          intro q cs hq
          simp only [List.zipIdx_cons, List.foldl_cons, List.length_cons] at hq ⊢
          obtain ⟨a1, a2⟩ := ihl (q + 1) (cs.setIfInBounds (i0 * sz + q) c) (by simp; omega)
          refine ⟨by simpa using a1, fun p => ?_⟩
          rw [a2]
          by_cases hp : p = i0 * sz + q
          · subst hp
            rw [if_neg (by omega), if_pos (by omega), Array.getElem?_setIfInBounds_self_of_lt (by omega)]
            simp
          · rw [Array.getElem?_setIfInBounds_ne (fun e => hp e.symm)]
            by_cases hp2 : i0 * sz + (q + 1) ≤ p ∧ p < i0 * sz + (q + 1) + l.length
            · rw [if_pos hp2, if_pos (by omega), show p - (i0 * sz + q) = (p - (i0 * sz + (q + 1))) + 1 by omega, List.getElem?_cons_succ]
            · rw [if_neg hp2, if_neg (by omega)]
      have hmul : (i0 + (vs.length + 1)) * sz = i0 * sz + sz + vs.length * sz := by rw [Nat.add_mul, Nat.succ_mul]; omega
      simp only [List.length_cons] at hsz
      obtain ⟨n1, n2⟩ := row v0.cells.toList 0 cells (by simp [hvsz]; omega)
      have hnew' : ((v0.cells.toList.zipIdx 0).foldl (fun cs (c, j) => cs.setIfInBounds (i0 * sz + j) c) cells) = new := by
        rw [← hnew, ← Array.foldl_toList]; simp
      rw [hnew'] at n1 n2
      obtain ⟨us, h1, h2, h3, h4⟩ := ih (i0 + 1) es new (by simpa using hl) (fun j i v h => by have := hk (j + 1) i v (by simpa using h); omega) (by rw [n1, show i0 + 1 + vs.length = i0 + (vs.length + 1) by omega]; exact hsz)
        (fun j i v e a b => hV (j + 1) i v e (by simpa using a) (by simpa using b))
      refine ⟨us, ?_, by rw [h2, n1], fun p hp => ?_, fun i j c hc => ?_⟩
      · simp only [Instr.fill, hvsz, hnew]
        rw [if_neg (by simp; omega)]
        exact h1
      · rw [h3 p (by rw [Nat.add_mul]; omega), n2, if_neg (by omega)]
      · cases i with
        | zero =>
          simp only [getc, List.getElem?_cons_zero, Option.bind_some] at hc
          have hj := (List.getElem?_eq_some_iff.1 hc).1
          obtain ⟨v, hv, hVc⟩ := hv0.get hc
          refine ⟨v, ?_, hVc⟩
          have hjs : j < sz := by omega
          rw [h3 _ (by rw [Nat.add_zero, Nat.succ_mul]; omega), n2, if_pos (by simp [hvsz]; omega)]
          simp only [Nat.add_zero, Array.getElem?_toList]
          rw [show i0 * sz + j - i0 * sz = j by omega]; exact hv
        | succ i =>
          obtain ⟨v, hv, hVc⟩ := h4 i j c (by simpa [getc] using hc)
          exact ⟨v, by rw [show i0 + (i + 1) = i0 + 1 + i by omega]; exact hv, hVc⟩


/-- what is made of an operation that makes or changes memory: its value, or nothing -/
def DoesN (P : Program) (s : Sem Next) (G : Gh) (w : World) (r : AV) (h' : AHeap) : Prop :=
  ∃ n v w' G', s.run P w = .ok n w' ∧ (n = .value v ∨ (n = .skip ∧ v = undef)) ∧ Gam G' w' h' ∧ V G' w' r v ∧ Stp G w G' w'

theorem DoesN.of {s : Sem Value} {r : AV} {h' : AHeap} (hd : Does P s G w r h') : DoesN P (do pure (.value (← s)) : Sem Next) G w r h' := by
  obtain ⟨v, w', G', h1, h2, h3, h4⟩ := hd
  exact ⟨.value v, v, w', G', by simp [h1], .inl rfl, h2, h3, h4⟩

def evPartsL (a : Act) (ps : List (Nat × Operand)) : List (Nat × Value) := ps.map fun p => (p.1, a.eval p.2)
def evParts (a : Act) (ps : Array (Nat × Operand)) : Array (Nat × Value) := ps.map fun p => (p.1, a.eval p.2)

theorem bsl_fill (hs : Stands G w tr g a) {ps : List (Nat × Operand)} {len sz : Nat} {es : List (List AV)} (hord : inOrder 0 ps = true) (hlen : ps.length = len) (hel : es.length = len) (hok : okes sz es)
    (hce : ∀ (j : Nat) (e : List AV) (x : AV), es[j]? = some e → ((ps.map fun p => tr p.2).map g)[j]? = some x → x.cells? = some e) (Z : Array Value) (hZ : Z.size = len * sz) :
    ∃ us, Instr.fill (fun i => some (i * sz, sz)) Z (evPartsL a ps) = some us ∧ us.size = len * sz ∧ ∀ i j c, getc es i j = some c → ∃ v, us[i * sz + j]? = some v ∧ V G w c v := by
  obtain ⟨us, hus, husz, _, hV⟩ := fill_rows (G := G) (w := w) (sz := sz) (evPartsL a ps) 0 es Z (by simp [evPartsL, hel, hlen])
    (fun j i v hj => by
      simp only [evPartsL, List.getElem?_map, Option.map_eq_some_iff] at hj
      obtain ⟨⟨i', x⟩, hj, hq⟩ := hj
      obtain ⟨rfl, rfl⟩ := Prod.mk.inj hq
      exact inOrder_spec _ _ hord j i' x hj)
    (by simp [evPartsL, hlen, hZ])
    (fun j i v e hj he => by
      simp only [evPartsL, List.getElem?_map, Option.map_eq_some_iff] at hj
      obtain ⟨⟨i', x⟩, hj, hq⟩ := hj
      obtain ⟨rfl, rfl⟩ := Prod.mk.inj hq
      have hce' := hce j e (g (tr x)) he (by simp [hj])
      exact ⟨(hs x).cells hce', (hok e (List.mem_of_getElem? he)).1⟩)
  exact ⟨us, hus, by rw [husz, hZ], fun i j c hc => by have := hV i j c hc; rwa [Nat.zero_add] at this⟩

theorem bsl_ld (hs : Stands G w tr g a) {ps : Array (Nat × Operand)} {t e : TypeId} {len sz b : Nat} {z : Value} {es : List (List AV)} (he : elemT P t = some e) (hz : tinfo P e = some (sz, b, z))
    (hzsz : z.cells.size = sz) (hbig : len * sz ≤ 2 ^ 24) (hord : inOrder 0 ps.toList = true) (hlen : ps.size = len) (hel : es.length = len) (hok : okes sz es)
    (hce : ∀ (j : Nat) (e : List AV) (x : AV), es[j]? = some e → ((ps.toList.map fun p => tr p.2).map g)[j]? = some x → x.cells? = some e) :
    LD P (Instr.buildSlice t len (evParts a ps)) G w (fun nm => .ref nm sz 0 len (some len)) sz es false := by
  obtain ⟨i, hi, hisz, _, _⟩ := info_of_tinfo hz
  have hno : ¬ (len * sz > 2 ^ 24) := Nat.not_lt.2 hbig
  have hpz : (evParts a ps).toList = evPartsL a ps.toList := by simp [evParts, evPartsL]
  have mk : ∀ us : Array Value, us.size = len * sz → (∀ i j c, getc es i j = some c → ∃ v, us[i * sz + j]? = some v ∧ V G w c v) →
      LD P (do pure (.slice (some (← newRow e us)) len len)) G w (fun nm => .ref nm sz 0 len (some len)) sz es false := by
    intro us husz hV
    exact newRow_ld (P := P) (cells := us) (sz := sz) (es := es) (gr := false) e hok (by rw [husz, hel]; exact Nat.le_refl _) (fun _ => by rw [husz, hel])
        hV len len (some len) (Nat.le_refl _) (fun k hk => by cases hk; rfl) (by rw [husz]; exact Nat.le_refl _)
  by_cases h0 : len * sz = 0
  · obtain ⟨us, hus, husz, hV⟩ := bsl_fill hs hord (by simpa using hlen) hel hok hce ((Array.range (len * sz)).map fun k => (#[] : Array Value)[k % (#[] : Array Value).size]!) (by simp)
    obtain ⟨cells, ty, v, h1, h2⟩ := mk us husz hV
    refine ⟨cells, ty, v, ?_, h2⟩
    rw [← h1]
    simp only [Instr.buildSlice, Sem.run_bind, run_underlying (under_elem he), Result.andThen_ok, run_size hi, hisz, Sem.run_ite, if_neg hno, hpz, if_pos h0, Sem.run_pure, hus]
  · obtain ⟨us, hus, husz, hV⟩ := bsl_fill hs hord (by simpa using hlen) hel hok hce ((Array.range (len * sz)).map fun k => z.cells[k % z.cells.size]!) (by simp)
    obtain ⟨cells, ty, v, h1, h2⟩ := mk us husz hV
    refine ⟨cells, ty, v, ?_, h2⟩
    rw [← h1]
    simp only [Instr.buildSlice, Sem.run_bind, run_underlying (under_elem he), Result.andThen_ok, run_size hi, hisz, Sem.run_ite, if_neg hno, hpz, if_neg h0, Sem.run_pure, run_zero hz, hus]


theorem mks_ld {t e : TypeId} {sz b : Nat} {z : Value} (he : elemT P t = some e) (hz : tinfo P e = some (sz, b, z)) (hzsz : z.cells.size = sz) (hb : 0 < b)
    (hsc : (z.cells.toList.map ofV1).all AV.scalar = true) {k1 k2 : IntKind} {l c : Int} (h0 : 0 ≤ l) (hlc : l ≤ c) (hbig : c * b ≤ 2 ^ 46) :
    LD P (Instr.makeSlice t (.int k1 l) (.int k2 c)) G w (fun nm => .ref nm sz 0 l.toNat (some c.toNat)) sz (List.replicate c.toNat (z.cells.toList.map ofV1)) false := by
  obtain ⟨i, hi, hisz, hib, _⟩ := info_of_tinfo hz
  have hc46 : c ≤ 2 ^ 46 := by
    have : c * 1 ≤ c * b := Int.mul_le_mul_of_nonneg_left (by omega) (by omega)
    omega
  have hwl := wrap_small h0 (by omega)
  have hwc := wrap_small (c := c) (by omega) hc46
  have hbig' : ¬ ((i.bytes : Int) * c > 2 ^ 48) := by
    have e2 : (2 : Int) ^ 46 = 70368744177664 := by decide
    have e3 : (2 : Int) ^ 48 = 281474976710656 := by decide
    rw [hib, Int.mul_comm]
    omega
  have hok : okes sz (List.replicate c.toNat (z.cells.toList.map ofV1)) := by
    intro e he
    rw [List.mem_replicate] at he
    rw [he.2]
    exact ⟨by simp [hzsz], hsc⟩
  have mk : ∀ us : Array Value, us.size = c.toNat * sz → (∀ k, k < c.toNat * sz → us[k]? = z.cells[k % sz]?) →
      LD P (do pure (.slice (some (← newRow e us)) l.toNat c.toNat)) G w (fun nm => .ref nm sz 0 l.toNat (some c.toNat)) sz (List.replicate c.toNat (z.cells.toList.map ofV1)) false := by
    intro us hus hk
    refine newRow_ld (P := P) (cells := us) (sz := sz) (gr := false) e hok (by simp [hus]) (fun _ => by simp [hus]) (fun i j cc hc => ?_) l.toNat c.toNat (some c.toNat) (by omega) (fun k hk => by cases hk; rfl) (by rw [hus]; exact Nat.le_refl _)
    obtain ⟨hi, hj⟩ := getc_lt hok hc
    rw [List.length_replicate] at hi
    have hlt := cell_lt (n := c.toNat) hi hj
    have hj' : j < z.cells.size := by omega
    simp only [getc, List.getElem?_replicate, hi, if_true, Option.bind_some, List.getElem?_map] at hc
    have hz' : z.cells.toList[j]? = some z.cells[j] := by simp [hj']
    rw [hz'] at hc
    simp only [Option.map_some, Option.some.injEq] at hc
    subst hc
    refine ⟨z.cells[j], ?_, V.ofV1 G w _⟩
    rw [hk _ hlt, Nat.mul_comm, Nat.mul_add_mod, Nat.mod_eq_of_lt hj]
    simp [hj']
  by_cases hn : c.toNat * sz = 0
  · obtain ⟨cells, ty, v, h1, h2⟩ := mk ((Array.range (c.toNat * sz)).map fun k => (#[] : Array Value)[k % (#[] : Array Value).size]!) (by simp) (fun k hk => by omega)
    refine ⟨cells, ty, v, ?_, h2⟩
    rw [← h1]
    simp only [Instr.makeSlice, Sem.run_bind, run_underlying (under_elem he), Result.andThen_ok, asInt, asIntOf, Sem.run_pure, run_typeInfo w hi, hwl, hwc, run_askRoom, run_size hi, hisz]
    rw [if_neg (by simp; omega)]
    simp only [Sem.run_bind, Sem.run_pure, Result.andThen_ok, run_askRoom, run_size hi, hisz, Sem.run_ite, if_pos hn]
  · obtain ⟨cells, ty, v, h1, h2⟩ := mk ((Array.range (c.toNat * sz)).map fun k => z.cells[k % z.cells.size]!) (by simp) (fun k hk => by
      have hsz : 0 < sz := Nat.pos_of_ne_zero (fun h => hn (by rw [h, Nat.mul_zero]))
      have := Nat.mod_lt k hsz
      simp [hk, hzsz]
      rw [getElem!_pos z.cells (k % sz) (by omega)]
      simp [hzsz, this])
    refine ⟨cells, ty, v, ?_, h2⟩
    rw [← h1]
    simp only [Instr.makeSlice, Sem.run_bind, run_underlying (under_elem he), Result.andThen_ok, asInt, asIntOf, Sem.run_pure, run_typeInfo w hi, hwl, hwc, run_askRoom, run_size hi, hisz]
    rw [if_neg (by simp; omega)]
    simp only [Sem.run_bind, Sem.run_pure, Result.andThen_ok, run_askRoom, run_size hi, hisz, Sem.run_ite, if_neg hn, run_zero hz]

/-- what makes one block does so -/
theorem light_sound (hs : Stands G w tr g a) {o : Oper} {ho : HOp} (hc : cH P tr o = some ho) {nm : Nat} {r : AV} {sz : Nat} {es : List (List AV)} {gr : Bool} (hr : lightOf g nm ho = some (r, .arr sz es gr)) :
    ∃ (s : Sem Value) (mkv : Nat → AV), execOp a.eval o = (do pure (.value (← s))) ∧ mkv nm = r ∧ LD P s G w mkv sz es gr := by
  obtain ⟨dst, op, type, pos, after, guard⟩ := o
  unfold cH at hc
  simp only at hc
  split at hc
  · -- alloc
    rename_i t
    split at hc <;> (try cases hc)
    rename_i sz0 b z hz
    split at hc <;> (try cases hc)
    rename_i hsc
    simp only [lightOf, Option.some.injEq, Prod.mk.injEq, ABlk.arr.injEq] at hr
    obtain ⟨rfl, rfl, rfl, rfl⟩ := hr
    refine ⟨Instr.alloc t true (.tuple #[]), fun nm => .ptr nm (z.cells.toList.map ofV1).length 0 0, rfl, rfl, ?_⟩
    obtain ⟨cells, ty, v, h1, h2⟩ := newVar_ld (P := P) (v := z) (VL.ofV1 G w z.cells) hsc t
    refine ⟨cells, ty, v, ?_, h2⟩
    simp only [Instr.alloc, Sem.run_bind, run_zero hz, Result.andThen_ok]
    exact h1
  · -- box
    rename_i t x; cases hc
    simp only [lightOf] at hr
    split at hr
    · rename_i cs hcs
      split at hr
      · rename_i hsc
        simp only [Option.some.injEq, Prod.mk.injEq, ABlk.arr.injEq] at hr
        obtain ⟨rfl, rfl, rfl, rfl⟩ := hr
        exact ⟨Instr.box t (a.eval x), fun nm => .ptr nm cs.length 0 0, rfl, rfl, newVar_ld (P := P) ((hs x).cells hcs) hsc t⟩
      · cases hr
    · cases hr
  · -- buildSlice
    rename_i t len ps
    split at hc <;> (try cases hc)
    rename_i e he
    split at hc <;> (try cases hc)
    rename_i sz0 b z hz
    split at hc <;> (try cases hc)
    rename_i hcond
    simp only [Bool.and_eq_true, beq_iff_eq, decide_eq_true_eq] at hcond
    obtain ⟨⟨⟨hord, hlen⟩, hzsz⟩, hbig⟩ := hcond
    simp only [lightOf] at hr
    split at hr
    · rename_i es' hes
      simp only [Option.some.injEq, Prod.mk.injEq, ABlk.arr.injEq] at hr
      obtain ⟨rfl, rfl, rfl, rfl⟩ := hr
      obtain ⟨hel, hok, hce⟩ := cellsAll_spec _ _ hes
      simp at hel
      have hel' : es'.length = len := by omega
      have hl' : (ps.toList.map fun p => tr p.2).length = len := by simp [hlen]
      refine ⟨Instr.buildSlice t len (evParts a ps), fun nm => .ref nm sz0 0 len (some len), rfl, by rw [hl'], ?_⟩
      exact bsl_ld hs he hz hzsz hbig hord hlen hel' hok hce
    · cases hr
  · -- makeSlice
    rename_i t l c
    split at hc <;> (try cases hc)
    rename_i e he
    split at hc <;> (try cases hc)
    rename_i sz0 b z hz
    split at hc <;> (try cases hc)
    rename_i hcond
    obtain ⟨hzsz, hb, hsc⟩ := hcond
    simp only [lightOf] at hr
    split at hr
    · rename_i k1 l' k2 c' hl hcq
      split at hr
      · rename_i hh
        obtain ⟨h0, hlc, hbig⟩ := hh
        simp only [Option.some.injEq, Prod.mk.injEq, ABlk.arr.injEq] at hr
        obtain ⟨rfl, rfl, rfl, rfl⟩ := hr
        have v1 := hs l
        have v2 := hs c
        rw [hl] at v1; rw [hcq] at v2
        generalize hv1 : a.eval l = x1 at v1
        generalize hv2 : a.eval c = x2 at v2
        cases v1; cases v2
        refine ⟨Instr.makeSlice t (.int k1 l') (.int k2 c'), fun nm => .ref nm sz0 0 l'.toNat (some c'.toNat), by simp only [execOp, hv1, hv2], rfl, mks_ld (P := P) (k1 := k1) (k2 := k2) he hz hzsz hb hsc h0 hlc hbig⟩
      · cases hr
    · cases hr
  · split at hc <;> (try cases hc)
    simp [lightOf] at hr
  · split at hc <;> (try cases hc)
    split at hc <;> (try cases hc)
    split at hc <;> (try cases hc)
    split at hc <;> (try cases hc)
    split at hc <;> (try cases hc)
    · simp [lightOf] at hr
    · split at hc <;> (try cases hc)
      simp [lightOf] at hr
  · repeat' split at hc
    all_goals (first | (cases hc; done) | (cases hc; simp [lightOf] at hr))
  · cases hc; simp [lightOf] at hr
  · repeat' split at hc
    all_goals (first | (cases hc; done) | (cases hc; simp [lightOf] at hr))
  · repeat' split at hc
    all_goals (first | (cases hc; done) | (cases hc; simp [lightOf] at hr))
  · cases hc

theorem lightOf_arr {ho : HOp} {nm : Nat} {r : AV} {b : ABlk} (hr : lightOf g nm ho = some (r, b)) : ∃ sz es gr, b = .arr sz es gr := by
  cases ho <;> simp only [lightOf] at hr
  all_goals (repeat' split at hr)
  all_goals simp only [Option.some.injEq, Prod.mk.injEq, reduceCtorEq] at hr
  all_goals exact ⟨_, _, _, hr.2.symm⟩

theorem mapOf_some {x : AV} {n : Nat} {es : List (Int × AV)} (h' : mapOf h x = some (n, es)) : x = .mapv n ∧ h[n]? = some (some (.map es)) := by
  unfold mapOf at h'
  split at h'
  · split at h'
    · rename_i hq; cases h'; exact ⟨rfl, hq⟩
    · cases h'
  · cases h'
theorem alook_sound {vx vk : Value} (gm : Gam G w h) {x k : AV} (hx : V G w x vx) (hk : V G w k vk) {t kt et : TypeId} (hu : P.underlying t = some (.map kt et)) (hkt : P.underlying kt = some (.int .i64)) {z : Value} (hz : (zeroValue et).run P w = .ok z w) {zc : AV} (hzc : V G w zc z) {ok : Bool} {r : AV} (hr : alook h ok zc x k = some r) :
    ∃ v, (Instr.lookup t vx vk ok).run P w = .ok v w ∧ V G w r v := by
  unfold alook at hr
  split at hr
  · rename_i n es key hm
    obtain ⟨rfl, hn⟩ := mapOf_some hm
    cases hx with
    | mapv _ b hlt hb =>
      cases hk
      obtain ⟨v, hrun, hV⟩ := (gm.map n es b hn hb).lookup hu hkt key ok hz hzc
      cases hr
      cases ok with
      | false => exact ⟨v, by simpa using hrun, by simpa using hV⟩
      | true =>
        refine ⟨.tuple #[v, .bool (mfind es key).isSome], by simpa using hrun, ?_⟩
        refine .tup _ _ rfl (fun j c v' hj hv => ?_)
        match j with
        | 0 => simp at hj hv; subst hj hv; exact hV
        | 1 => simp at hj hv; subst hj hv; exact .bool _
        | n + 2 => simp at hj
  · cases hr
theorem amset_sound {vx vk vv : Value} (gm : Gam G w h) {x k v : AV} (hx : V G w x vx) (hk : V G w k vk) (hv : V G w v vv) {t kt et : TypeId} (hu : P.underlying t = some (.map kt et)) (hkt : P.underlying kt = some (.int .i64)) {h' : AHeap} (hr : amset h x k v = some h') :
    ∃ w', (Instr.mapUpdate t vx vk vv).run P w = .ok () w' ∧ Gam G w' h' ∧ Stp G w G w' := by
  unfold amset at hr
  split at hr
  · rename_i n es key hm
    obtain ⟨rfl, hn⟩ := mapOf_some hm
    split at hr
    · rename_i hrange
      cases hx with
      | mapv _ b hlt hb =>
        cases hk
        cases hr
        exact gm.mapUpdate hn hb hu hkt hrange hv
    · cases hr
  · cases hr
theorem amclr_sound {vx : Value} (gm : Gam G w h) {x : AV} (hx : V G w x vx) {t kt et : TypeId} (hu : P.underlying t = some (.map kt et)) {h' : AHeap} (hr : amclr h x = some h') (ty : TypeId) :
    ∃ w', (Builtin.clear_ #[t] ty #[vx]).run P w = .ok (.tuple #[]) w' ∧ Gam G w' h' ∧ Stp G w G w' := by
  simp only [amclr, Option.map_eq_some_iff] at hr
  obtain ⟨⟨n, es⟩, hm, rfl⟩ := hr
  obtain ⟨rfl, hn⟩ := mapOf_some hm
  cases hx with
  | mapv _ b hlt hb => exact gm.mapClear hn hb hu

theorem hop_sound (gm : Gam G w h) (hs : Stands G w tr g a) {o : Oper} {ho : HOp} (hc : cH P tr o = some ho) {r : AV} {h' : AHeap} (hr : hev g h ho = some (r, h')) :
    DoesN P (execOp a.eval o) G w r h' := by
  have light : ∀ {b : ABlk}, lightOf g h.length ho = some (r, b) → h' = h ++ [some b] → DoesN P (execOp a.eval o) G w r h' := by
    rintro b hb rfl
    obtain ⟨sz, es, gr, rfl⟩ := lightOf_arr hb
    obtain ⟨s, mkv, he, hm, hl⟩ := light_sound (P := P) hs hc hb
    rw [he, ← hm]
    exact DoesN.of (hl.does gm)
  have light' : (match lightOf g h.length ho with | some (v, b) => some (v, h ++ [some b]) | none => none) = some (r, h') → DoesN P (execOp a.eval o) G w r h' := by
    intro hq
    split at hq
    · rename_i v b hb
      simp only [Option.some.injEq, Prod.mk.injEq] at hq
      obtain ⟨rfl, rfl⟩ := hq
      exact light hb rfl
    · cases hq
  obtain ⟨dst, op, type, pos, after, guard⟩ := o
  have hc0 := hc
  unfold cH at hc
  simp only at hc
  split at hc
  · split at hc <;> (try cases hc)
    split at hc <;> (try cases hc)
    exact light' hr
  · cases hc; exact light' hr
  · split at hc <;> (try cases hc)
    split at hc <;> (try cases hc)
    split at hc <;> (try cases hc)
    exact light' hr
  · split at hc <;> (try cases hc)
    split at hc <;> (try cases hc)
    split at hc <;> (try cases hc)
    exact light' hr
  · -- store
    rename_i t p x
    split at hc <;> (try cases hc)
    rename_i i hi
    simp only [hev, Option.map_eq_some_iff] at hr
    obtain ⟨h1, hst, hq⟩ := hr
    obtain ⟨rfl, rfl⟩ := Prod.mk.inj hq
    obtain ⟨w', hrun, hg, hstp⟩ := astore_sound (P := P) gm (hs p) (hs x) hst (run_size hi)
    exact ⟨.skip, undef, w', G, by simp only [execOp, Sem.run_bind, hrun, Result.andThen_ok, Sem.run_pure], .inr ⟨rfl, rfl⟩, hg, .top _, hstp⟩
  · -- append
    rename_i args tys
    split at hc <;> (try cases hc)
    rename_i x y s t hargs htys
    obtain ⟨rfl⟩ : args = #[x, y] := by cases args; simp at hargs; simp [hargs]
    obtain ⟨rfl⟩ : tys = #[s, t] := by cases tys; simp at htys; simp [htys]
    split at hc <;> (try cases hc)
    rename_i e he
    split at hc <;> (try cases hc)
    rename_i sz b z hz
    split at hc <;> (try cases hc)
    rename_i hcond
    obtain ⟨i, hi, hisz, hib, hiz⟩ := info_of_tinfo hz
    split at hc <;> (try cases hc)
    · rename_i e' hu'
      simp only [hev] at hr
      have T : AppT P s t e sz b i z := ⟨under_elem he, ⟨e', hu'⟩, hi, hisz, hib, hiz, hcond.2, hcond.1⟩
      obtain ⟨v, w', G', h1, h2, h3, h4⟩ := aappend_sound (P := P) gm (hs x) (hs y) hr T type
      refine ⟨.value v, v, w', G', ?_, .inl rfl, h2, h3, h4⟩
      rw [run_builtin]
      simp only [builtin, List.map_toArray, List.map_cons, List.map_nil, Sem.run_bind, h1, Result.andThen_ok, Sem.run_pure]
    · rename_i k' hu'
      split at hc <;> (try cases hc)
      rename_i hsc
      simp only [hev] at hr
      have T : AppZ P s t e sz b i z := ⟨under_elem he, ⟨k', hu'⟩, hi, hisz, hib, hiz, hcond.2, hcond.1⟩
      obtain ⟨v, w', G', h1, h2, h3, h4⟩ := aappendZ_sound (P := P) gm (hs x) (hs y) T hsc hr type
      refine ⟨.value v, v, w', G', ?_, .inl rfl, h2, h3, h4⟩
      rw [run_builtin]
      simp only [builtin, List.map_toArray, List.map_cons, List.map_nil, Sem.run_bind, h1, Result.andThen_ok, Sem.run_pure]
  · -- clear
    rename_i args tys
    split at hc <;> (try cases hc)
    rename_i x s hargs htys
    obtain ⟨rfl⟩ : args = #[x] := by cases args; simp at hargs; simp [hargs]
    obtain ⟨rfl⟩ : tys = #[s] := by cases tys; simp at htys; simp [htys]
    split at hc
    rotate_left
    · split at hc <;> (try cases hc)
      rename_i kt et hu
      simp only [hev, Option.map_eq_some_iff] at hr
      obtain ⟨h1, hst, hq⟩ := hr
      obtain ⟨rfl, rfl⟩ := Prod.mk.inj hq
      obtain ⟨w', hrun, hg, hstp⟩ := amclr_sound (P := P) gm (hs x) hu hst type
      refine ⟨.value (.tuple #[]), .tuple #[], w', G, ?_, .inl rfl, hg, .tup _ _ rfl (fun j c v h => by simp at h), hstp⟩
      rw [run_builtin]
      simp only [builtin, List.map_toArray, List.map_cons, List.map_nil, Sem.run_bind, hrun, Result.andThen_ok, Sem.run_pure]
    rename_i e he
    split at hc <;> (try cases hc)
    rename_i sz b z hz
    split at hc <;> (try cases hc)
    rename_i hcond
    obtain ⟨i, hi, hisz, hib, hiz⟩ := info_of_tinfo hz
    simp only [hev, Option.map_eq_some_iff] at hr
    obtain ⟨h1, hst, hq⟩ := hr
    obtain ⟨rfl, rfl⟩ := Prod.mk.inj hq
    obtain ⟨w', hrun, hg, hstp⟩ := aclear_sound (P := P) gm (hs x) (under_elem he) hi hiz hcond.1 hcond.2 hst type
    refine ⟨.value (.tuple #[]), .tuple #[], w', G, ?_, .inl rfl, hg, .tup _ _ rfl (fun j c v h => by simp at h), hstp⟩
    rw [run_builtin]
    simp only [builtin, List.map_toArray, List.map_cons, List.map_nil, Sem.run_bind, hrun, Result.andThen_ok, Sem.run_pure]
  · -- a new map
    cases hc
    simp only [hev, Option.some.injEq, Prod.mk.injEq] at hr
    obtain ⟨rfl, rfl⟩ := hr
    refine ⟨.value (.map (some w.heap.size)), .map (some w.heap.size), w.alloc (.map #[] 0), G.new (some w.heap.size), ?_, .inl rfl, gm.gamNewM, ?_, gm.stpNewM⟩
    · simp [execOp, Instr.makeMap, Result.andThen]
    · rw [gm.len]; exact .mapv G.N w.heap.size (Nat.lt_succ_self _) (by simp [Gh.new])
  · -- looked up
    rename_i t x k ok
    split at hc <;> (try cases hc)
    rename_i kt et hu
    split at hc <;> (try cases hc)
    rename_i sz b z hk hz
    simp only [hev, Option.map_eq_some_iff] at hr
    obtain ⟨h1, hst, hq⟩ := hr
    obtain ⟨rfl, rfl⟩ := Prod.mk.inj hq
    obtain ⟨v, hrun, hV⟩ := alook_sound (P := P) gm (hs x) (hs k) hu hk (run_zero hz) (V.ofV G w z) hst
    exact ⟨.value v, v, w, G, by simp only [execOp, Sem.run_bind, hrun, Result.andThen_ok, Sem.run_pure], .inl rfl, gm, hV, Stp.refl G w⟩
  · -- an entry is written
    rename_i t m k v
    split at hc <;> (try cases hc)
    rename_i kt et hu
    split at hc <;> (try cases hc)
    rename_i hk
    simp only [hev, Option.map_eq_some_iff] at hr
    obtain ⟨h1, hst, hq⟩ := hr
    obtain ⟨rfl, rfl⟩ := Prod.mk.inj hq
    obtain ⟨w', hrun, hg, hstp⟩ := amset_sound (P := P) gm (hs m) (hs k) (hs v) hu hk hst
    exact ⟨.skip, undef, w', G, by simp only [execOp, Sem.run_bind, hrun, Result.andThen_ok, Sem.run_pure], .inr ⟨rfl, rfl⟩, hg, .top _, hstp⟩
  · cases hc

end
end Glb

/-
  A library of its own, for whatever program: code, and what is to be shown of it.
-/
namespace Glb
open Go

abbrev Env := List (Nat × AV)

def lk (s : Nat) : Env → AV
  | [] => .top
  | (t, v) :: r => if t = s then v else lk s r

def ins (s : Nat) (v : AV) : Env → Env
  | [] => [(s, v)]
  | (t, u) :: r => if t = s then (s, v) :: r else if s < t then (s, v) :: (t, u) :: r else (t, u) :: ins s v r

theorem lk_ins (s t : Nat) (v : AV) (e : Env) : lk t (ins s v e) = if t = s then v else lk t e := by
  have ne : ∀ {x y : Nat}, ¬ x = y → ¬ y = x := fun h e => h e.symm
  induction e with
  | nil =>
    simp only [ins, lk]
    by_cases h : s = t
    · subst h; simp
    · have := ne h; simp [h, this]
  | cons p r ih =>
    obtain ⟨q, u⟩ := p
    simp only [ins]
    split
    · rename_i h; subst h
      simp only [lk]
      by_cases h : q = t
      · subst h; simp
      · have := ne h; simp [h, this]
    · rename_i hq
      split
      · simp only [lk]
        by_cases h : s = t
        · subst h; simp
        · have := ne h; simp [h, this]
      · simp only [lk, ih]
        by_cases h : q = t
        · subst h
          have : ¬ (q = s) := hq
          simp [this]
        · simp [h]

structure St where
  L : Env
  R : Env
  h : AHeap

inductive Dst where
  | none
  | loc (s : Nat)
  | tmp (s : Nat)

def St.get (st : St) : Opd → AV
  | .loc s => lk s st.L
  | .tmp s => lk s st.R
  | .cst v => v

def St.put (st : St) (d : Dst) (v : AV) : St :=
  match d with
  | .none => st
  | .loc s => { st with L := ins s v st.L }
  | .tmp s => { st with R := (s, v) :: st.R }

structure AO where
  dst : Dst
  op : AOp
  guard : Option (Opd × Bool)

/-! the state that the code is in -/

structure SR (n : Nat) (keep : Nat → Bool) (G0 : Gh) (w0 : World) (G : Gh) (w : World) (st : St) (a : Act) : Prop where
  gam : Gam G w st.h
  size : a.tmps.size = n
  defers : a.defers = []
  L : ∀ s, keep s = true → V G w (lk s st.L) (a.tmps.getD s undef)
  R : ∀ s, keep s = false → V G w (lk s st.R) (a.tmps.getD s undef)
  stp : Stp G0 w0 G w

section
variable {n : Nat} {keep : Nat → Bool} {G0 : Gh} {w0 : World} {P : Program}

theorem SR.stands {G w st a} (sr : SR n keep G0 w0 G w st a) : Stands G w (cd keep) st.get a := by
  intro x
  cases x with
  | tmp s =>
    simp only [cd]
    split
    · rename_i h; exact sr.L s h
    · rename_i h; exact sr.R s (by simpa using h)
  | const v => exact V.ofV G w v
  | global g => exact .raw _
  | func f => exact .clo f [] #[] [] #[] rfl (fun j c v h => by simp at h) rfl (fun j c v h => by simp at h)

/-- where an operation's value goes -/
def cDst (n : Nat) (keep : Nat → Bool) : Option Tmp → Option Dst
  | none => some .none
  | some s => if s < n then some (if keep s then .loc s else .tmp s) else none

theorem getD_set {a : Act} {s q : Nat} {v : Value} (h : s < a.tmps.size) : (a.tmps.setIfInBounds s v).getD q undef = if q = s then v else a.tmps.getD q undef := by
  by_cases e : q = s
  · subst e; simp [h]
  · simp [e, Array.getElem?_setIfInBounds_ne (fun x => e x.symm)]

theorem SR.put {G w st a G' w' h' d t r v} (sr : SR n keep G0 w0 G w st a) (hd : cDst n keep t = some d) (hg : Gam G' w' h') (hs : Stp G w G' w') (hv : V G' w' r v) :
    SR n keep G0 w0 G' w' { st.put d r with h := h' } (a.put t v) := by
  have hL : ∀ s, keep s = true → V G' w' (lk s st.L) (a.tmps.getD s undef) := fun s h => (sr.L s h).keep hs.keep
  have hR : ∀ s, keep s = false → V G' w' (lk s st.R) (a.tmps.getD s undef) := fun s h => (sr.R s h).keep hs.keep
  cases t with
  | none =>
    simp only [cDst, Option.some.injEq] at hd
    subst hd
    exact ⟨hg, sr.size, sr.defers, hL, hR, sr.stp.trans hs⟩
  | some s =>
    simp only [cDst] at hd
    split at hd
    · rename_i hlt
      have hlt' : s < a.tmps.size := by rw [sr.size]; exact hlt
      simp only [Option.some.injEq] at hd
      split at hd <;> rename_i hk <;> subst hd
      · refine ⟨hg, by simp [Act.put, sr.size], sr.defers, fun q hq => ?_, fun q hq => ?_, sr.stp.trans hs⟩
        · simp only [St.put, lk_ins, Act.put]
          rw [getD_set hlt']
          split
          · exact hv
          · exact hL q hq
        · simp only [St.put, Act.put]
          rw [getD_set hlt', if_neg (by rintro rfl; rw [hk] at hq; cases hq)]
          exact hR q hq
      · refine ⟨hg, by simp [Act.put, sr.size], sr.defers, fun q hq => ?_, fun q hq => ?_, sr.stp.trans hs⟩
        · simp only [St.put, Act.put]
          rw [getD_set hlt', if_neg (by rintro rfl; exact hk hq)]
          exact hL q hq
        · simp only [St.put, lk, Act.put]
          rw [getD_set hlt']
          by_cases e : s = q
          · subst e; simp; exact hv
          · have : ¬ q = s := fun x => e x.symm
            simp only [e, this, if_false]; exact hR q hq
    · cases hd

/-! calls -/

/-- what a call of a function comes to -/
def ACalls (P : Program) (f : FuncId) (avs : List AV) (h : AHeap) (K : AV → AHeap → Prop) : Prop :=
  ∀ (G : Gh) (w : World) (vs : Array Value), Gam G w h → VL G w avs vs → Calls P f vs w fun e w' =>
    ∃ v r h' G', e = .returned v ∧ K r h' ∧ Gam G' w' h' ∧ V G' w' r v ∧ Stp G w G' w'

theorem ACalls.mono {f avs h} {K K' : AV → AHeap → Prop} (hc : ACalls P f avs h K) (hk : ∀ r h', K r h' → K' r h') : ACalls P f avs h K' :=
  fun G w vs hg hv => (hc G w vs hg hv).mono fun _ _ ⟨v, r, h', G', h1, h2, h3⟩ => ⟨v, r, h', G', h1, hk _ _ h2, h3⟩

def isFn (P : Program) (f : FuncId) : Bool :=
  match P.funcs[f]? with
  | some fn => fn.body.isSome && !(fn.name == "runtime.NumGoroutine")
  | none => false

theorem run_callFunc {f : FuncId} (hf : isFn P f = true) (args : Array Value) (w : World) : (callFunc f args).run P w = .ok (.enter f args) w := by
  unfold isFn at hf
  split at hf
  · rename_i fn hfn
    simp only [Bool.and_eq_true, Bool.not_eq_true'] at hf
    have hb : fn.body.isNone = false := by cases h : fn.body with | none => simp [h] at hf | some c => rfl
    simp only [callFunc, Sem.run_bind, run_program, Result.andThen_ok, hfn, hf.2, hb, Bool.false_eq_true, if_false, Sem.run_pure]
  · cases hf

/-! one operation -/

def vcOp (P : Program) (o : AO) (st : St) (k : St → Prop) : Prop :=
  match o.op with
  | .r ro => match rev st.get st.h ro with
    | some v => k (st.put o.dst v)
    | none => False
  | .h ho => match hev st.get st.h ho with
    | some (v, h') => k { st.put o.dst v with h := h' }
    | none => False
  | .call f args => isFn P f = true ∧ ACalls P f (args.map st.get) st.h fun v h' => k { st.put o.dst v with h := h' }
  | .callv x args => match st.get x with
    | .clo f fs cs => isFn P f = true ∧ ACalls P f (fs ++ args.map st.get ++ cs) st.h fun v h' => k { st.put o.dst v with h := h' }
    | _ => False

theorem vcOp_sound {G w st a} (sr : SR n keep G0 w0 G w st a) {o : Oper} {ao : AOp} {d : Dst} (hop : cOp P (cd keep) o = some ao) (hd : cDst n keep o.dst = some d) {gd : Option (Opd × Bool)}
    {k : St → Prop} (hk : vcOp P ⟨d, ao, gd⟩ st k) {next : Act → World → Prop} {Q : Exit → Act → World → Prop}
    (hn : ∀ G' w' st' a', SR n keep G0 w0 G' w' st' a' → k st' → next a' w') : o.wp P a w next Q := by
  unfold cOp at hop
  split at hop
  · rename_i ro hro
    cases hop
    simp only [vcOp] at hk
    split at hk
    · rename_i v hv
      obtain ⟨u, hu, hV⟩ := rop_sound (P := P) sr.gam sr.stands hro hv
      unfold Oper.wp
      rw [hu, Oper.upon_value]
      have e : ({ st.put d v with h := st.h } : St) = st.put d v := by cases d <;> rfl
      have := sr.put hd sr.gam (Stp.refl G w) hV
      rw [e] at this
      exact hn G w _ _ this hk
    · exact hk.elim
  · split at hop
    · rename_i ho hho
      cases hop
      simp only [vcOp] at hk
      split at hk
      · rename_i v h' hv
        obtain ⟨nx, u, w', G', hu, hnx, hg, hV, hst⟩ := hop_sound (P := P) sr.gam sr.stands hho hv
        unfold Oper.wp
        rw [hu]
        rcases hnx with rfl | ⟨rfl, rfl⟩
        · exact hn G' w' _ _ (sr.put hd hg hst hV) hk
        · exact hn G' w' _ _ (sr.put hd hg hst hV) hk
      · exact hk.elim
    · split at hop
      · -- a named function
        rename_i f args tys hcall
        cases hop
        simp only [vcOp] at hk
        obtain ⟨hf, hk⟩ := hk
        have hrun : (execOp a.eval o).run P w = .ok (.enter f (args.map a.eval)) w := by
          obtain ⟨dst, op, type, pos, after, guard⟩ := o
          have hcall' : op = _ := hcall
          subst hcall'
          simp only [execOp, resolve, Act.eval, Deferred.ofValue, Sem.run_bind, Sem.run_pure, Result.andThen_ok, invoke]
          rw [run_callFunc hf]
          simp
        unfold Oper.wp
        rw [hrun, Oper.upon_enter]
        refine (hk G w (args.map a.eval) sr.gam ⟨by simp, fun j c v hc hv => ?_⟩).mono ?_
        · exact VL.map sr.stands args.toList j c v (by simpa using hc) (by simpa using hv)
        · rintro e w' ⟨v, r, h', G', rfl, hK, hg, hV, hst⟩
          exact hn G' w' _ _ (sr.put hd hg hst hV) hK
      · rename_i x args tys hne hcall
        cases hop
        simp only [vcOp] at hk
        split at hk
        · rename_i f fs cs hx
          obtain ⟨hf, hk⟩ := hk
          have hxv := sr.stands x
          rw [hx] at hxv
          generalize hv : a.eval x = fv at hxv
          cases hxv with
          | clo _ _ us _ vs hlu hUs hl hVs =>
          have hrun : (execOp a.eval o).run P w = .ok (.enter f (us ++ args.map a.eval ++ vs)) w := by
            obtain ⟨dst, op, type, pos, after, guard⟩ := o
            have hcall' : op = _ := hcall
            subst hcall'
            simp only [execOp, resolve, hv, Deferred.ofValue, Sem.run_bind, Sem.run_pure, Result.andThen_ok, invoke]
            rw [run_callFunc hf]
          unfold Oper.wp
          rw [hrun, Oper.upon_enter]
          refine (hk G w (us ++ args.map a.eval ++ vs) sr.gam (VL.app (VL.app ⟨hlu, hUs⟩ ⟨by simp, fun j c v hc hv' => VL.map sr.stands args.toList j c v (by simpa using hc) (by simpa using hv')⟩) ⟨hl, hVs⟩)).mono ?_
          · rintro e w' ⟨v, r, h', G', rfl, hK, hg, hV, hst⟩
            exact hn G' w' _ _ (sr.put hd hg hst hV) hK
        · exact hk.elim
      · cases hop


/-! lists of operations, in the order of the text -/

def vcOps (P : Program) : List AO → St → (St → Prop) → Prop
  | [], st, k => k st
  | o :: r, st, k =>
    match o.guard with
    | none => vcOp P o st fun st' => vcOps P r st' k
    | some (x, want) => match st.get x with
      | .bool b => (b = want → vcOp P o st fun st' => vcOps P r st' k) ∧ (b = (!want) → vcOps P r (st.put o.dst (.tup [])) k)
      | .tup _ => vcOps P r (st.put o.dst (.tup [])) k
      | _ => False

/-- an operation's guard, by the slot that it looks at -/
def cGuard (keep : Nat → Bool) (ops : Array Oper) : Option (Nat × Bool) → Option (Option (Opd × Bool))
  | none => some none
  | some (j, want) => match (ops[j]?).bind (·.dst) with
    | some t => some (some (cd keep (.tmp t), want))
    | none => none

def cAO (P : Program) (n : Nat) (keep : Nat → Bool) (ops : Array Oper) (o : Oper) : Option AO :=
  match cDst n keep o.dst, cOp P (cd keep) o, cGuard keep ops o.guard with
  | some d, some op, some g => some ⟨d, op, g⟩
  | _, _, _ => none

def cAOs (P : Program) (n : Nat) (keep : Nat → Bool) (ops : Array Oper) : List Oper → Option (List AO)
  | [] => some []
  | o :: r => match cAO P n keep ops o, cAOs P n keep ops r with
    | some x, some l => some (x :: l)
    | _, _ => none

theorem SR.skip {G w st a d t} (sr : SR n keep G0 w0 G w st a) (hd : cDst n keep t = some d) : SR n keep G0 w0 G w (st.put d (.tup [])) (a.put t undef) := by
  have e : ({ st.put d (.tup []) with h := st.h } : St) = st.put d (.tup []) := by cases d <;> rfl
  have := sr.put hd sr.gam (Stp.refl G w) (V.tup (G := G) (w := w) [] #[] rfl (fun j c v h => by simp at h))
  rw [e] at this
  exact this

/-- does the guard let the operation be done? -/
theorem guard_spec {G w st a} (sr : SR n keep G0 w0 G w st a) {ops : Array Oper} {o : Oper} {j : Nat} {want : Bool} {t : Tmp} (hg : o.guard = some (j, want)) (ht : (ops[j]?).bind (·.dst) = some t) :
    (∀ b, st.get (cd keep (.tmp t)) = .bool b → Region.wanted o (yielded ops a.tmps) = (b == want)) ∧ (∀ cs, st.get (cd keep (.tmp t)) = .tup cs → Region.wanted o (yielded ops a.tmps) = false) := by
  have hv := sr.stands (.tmp t)
  have hy : yielded ops a.tmps j = match a.tmps[t]? with | some (.bool b) => some b | _ => none := by
    simp only [yielded, ht, Option.bind_some]
    rfl
  have hev : a.eval (.tmp t) = (a.tmps[t]?).getD undef := by simp [Act.eval]
  rw [hev] at hv
  constructor
  · intro b hb
    rw [hb] at hv
    cases hq : a.tmps[t]? with
    | none => rw [hq] at hv; cases hv
    | some v =>
      rw [hq] at hv
      simp only [Option.getD_some] at hv
      cases hv
      simp only [Region.wanted, hg, hy, hq]
      cases b <;> cases want <;> rfl
  · intro cs hb
    rw [hb] at hv
    cases hq : a.tmps[t]? with
    | none => simp [Region.wanted, hg, hy, hq]
    | some v =>
      rw [hq] at hv
      simp only [Option.getD_some] at hv
      cases hv
      simp [Region.wanted, hg, hy, hq]

theorem vcOps_sound {ops : Array Oper} {Q : Exit → Act → World → Prop} {k : St → Prop}
    (hn : ∀ G' w' st' a', SR n keep G0 w0 G' w' st' a' → k st' → Q .normal a' w') :
    ∀ (l : List Oper) (al : List AO) {G w st a}, SR n keep G0 w0 G w st a → cAOs P n keep ops l = some al → vcOps P al st k → wpList P ops Q l a w := by
  intro l
  induction l with
  | nil =>
    intro al G w st a sr hc hk
    simp only [cAOs, Option.some.injEq] at hc
    subst hc
    exact hn G w st a sr hk
  | cons o l ih =>
    intro al G w st a sr hc hk
    simp only [cAOs] at hc
    split at hc
    · rename_i x al' hx hl
      cases hc
      simp only [cAO] at hx
      split at hx
      · rename_i d op gd hd hop hgd
        cases hx
        simp only [vcOps] at hk
        unfold wpList
        have doit : vcOp P ⟨d, op, gd⟩ st (fun st' => vcOps P al' st' k) → o.wp P a w (wpList P ops Q l) Q :=
          fun h => vcOp_sound sr hop hd h fun G' w' st' a' sr' hk' => ih al' sr' hl hk'
        have skip : vcOps P al' (st.put d (.tup [])) k → wpList P ops Q l (a.put o.dst undef) w :=
          fun h => ih al' (sr.skip hd) hl h
        cases hog : o.guard with
        | none =>
          rw [hog] at hgd
          simp only [cGuard, Option.some.injEq] at hgd
          subst hgd
          rw [if_pos (by simp [Region.wanted, hog])]
          exact .inl (doit hk)
        | some jw =>
          obtain ⟨j, want⟩ := jw
          rw [hog] at hgd
          simp only [cGuard] at hgd
          split at hgd
          · rename_i t ht
            cases hgd
            obtain ⟨g1, g2⟩ := guard_spec sr hog ht
            simp only at hk
            split at hk
            · rename_i b hb
              rw [g1 b hb]
              by_cases e : b = want
              · subst e; simp only [BEq.rfl, if_true]; exact .inl (doit (hk.1 rfl))
              · have : (b == want) = false := by simpa using e
                simp only [this, Bool.false_eq_true, if_false]
                exact skip (hk.2 (by cases b <;> cases want <;> simp_all))
            · rename_i cs hb
              rw [g2 cs hb]
              simp only [Bool.false_eq_true, if_false]
              exact skip hk
            · exact hk.elim
          · cases hgd
      · cases hx
    · cases hc

end
end Glb

/-
  A library of its own, for whatever program: regions whose order is drawn.
-/
namespace Glb
open Go

/-! a block laid at a name that was kept free -/

def Gh.put (G : Gh) (nm b : Nat) : Gh :=
  { G with loc := fun n => if n = nm then some b else G.loc n, live := fun n => G.live n ∨ n = nm }

theorem Gam.keepsPut {G w h} (g : Gam G w h) {nm : Nat} (hl : G.loc nm = none) (hn : ¬ G.nil nm) (o : Obj) : Keeps G w (G.put nm w.heap.size) (w.alloc o) where
  N := Nat.le_refl _
  loc n b hlt hb := by
    by_cases e : n = nm
    · subst e; rw [hl] at hb; cases hb
    · simp only [Gh.put, e, if_false]; exact hb
  nil n _ h := h
  prot t b hp := by cases t <;> exact hp
  heap t b hp := heap_alloc (g.protLt hp)
  shape b hb := shape_alloc hb

theorem Gam.gamPut {G w h} (g : Gam G w h) {nm : Nat} (hlt : nm < G.N) (hh : h[nm]? = some none) (hl : G.loc nm = none) (hn : ¬ G.nil nm)
    {cells : Array Value} {ty : TypeId} {sz : Nat} {es : List (List AV)} {gr : Bool}
    (hsz : okes sz es) (hle : es.length * sz ≤ cells.size) (hgr : gr = false → cells.size = es.length * sz)
    (hV : ∀ i j c, getc es i j = some c → ∃ v, cells[i * sz + j]? = some v ∧ V G w c v) :
    Gam (G.put nm w.heap.size) (w.alloc (.cells cells ty)) (h.set nm (some (.arr sz es gr))) := by
  have k := g.keepsPut hl hn (.cells cells ty)
  have hltH : nm < h.length := by rw [g.len]; exact hlt
  have locN : (G.put nm w.heap.size).loc nm = some w.heap.size := by simp [Gh.put]
  have locO : ∀ n, n ≠ nm → (G.put nm w.heap.size).loc n = G.loc n := fun n hn => by simp [Gh.put, hn]
  have liveO : ∀ n, n ≠ nm → ((G.put nm w.heap.size).live n ↔ G.live n) := fun n hn => ⟨fun h => h.resolve_right hn, .inl⟩
  have old : ∀ n, n ≠ nm → (h.set nm (some (.arr sz es gr)))[n]? = h[n]? := fun n hn => List.getElem?_set_ne (fun e => hn e.symm)
  have new : (h.set nm (some (.arr sz es gr)))[nm]? = some (some (.arr sz es gr)) := List.getElem?_set_self hltH
  refine { len := by simp [Gh.put, g.len], live := ?_, tag := ?_, inj := ?_, liveTag := ?_, liveS := ?_, tagInj := g.tagInj, tagS := g.tagS,
           tagLt := ?_, sLt := ?_, arr := ?_, nil := ?_, nilLoc := ?_, map := ?_ }
  · intro n
    by_cases e : n = nm
    · subst e; exact ⟨fun _ => ⟨⟨_, new, rfl⟩, _, locN⟩, fun _ => .inr rfl⟩
    · rw [liveO n e, locO n e, old n e]; exact g.live n
  · intro n b hb
    have e : n ≠ nm := by rintro rfl; rw [g.tag _ _ hb] at hh; cases hh
    rw [old n e]; exact g.tag n b hb
  · intro n m b hn hm hbn hbm
    by_cases h1 : n = nm <;> by_cases h2 : m = nm
    · rw [h1, h2]
    · subst h1; rw [locN] at hbn; rw [locO m h2] at hbm; cases hbn
      exact absurd (g.locLt ((liveO m h2).1 hm) hbm) (Nat.lt_irrefl _)
    · subst h2; rw [locN] at hbm; rw [locO n h1] at hbn; cases hbm
      exact absurd (g.locLt ((liveO n h1).1 hn) hbn) (Nat.lt_irrefl _)
    · rw [locO n h1] at hbn; rw [locO m h2] at hbm
      exact g.inj n m b ((liveO n h1).1 hn) ((liveO m h2).1 hm) hbn hbm
  · intro n m b hn hb ht
    by_cases h1 : n = nm
    · subst h1; rw [locN] at hb; cases hb; exact Nat.lt_irrefl _ (g.tagLt m _ ht)
    · rw [locO n h1] at hb; exact g.liveTag n m b ((liveO n h1).1 hn) hb ht
  · intro n b hn hb hs
    by_cases h1 : n = nm
    · subst h1; rw [locN] at hb; cases hb; exact Nat.lt_irrefl _ (g.sLt _ hs)
    · rw [locO n h1] at hb; exact g.liveS n b ((liveO n h1).1 hn) hb hs
  · intro n b hb; have := g.tagLt n b hb; simp; omega
  · intro b hb; have := g.sLt b hb; simp; omega
  · intro n sz' es' gr' b hq hb
    by_cases h1 : n = nm
    · subst h1
      rw [new] at hq
      obtain ⟨rfl, rfl, rfl⟩ : sz = sz' ∧ es = es' ∧ gr = gr' := by simpa using hq
      rw [locN] at hb; cases hb
      exact ⟨⟨cells, ty, heap_alloc_new, hle, hgr, fun i j c hj => let ⟨v, hv, hV⟩ := hV i j c hj; ⟨v, hv, hV.keep k⟩⟩, hsz⟩
    · rw [old n h1] at hq; rw [locO n h1] at hb
      exact (g.arr n sz' es' gr' b hq hb).keep k (heap_alloc (g.locLt (g.mkLive hq hb) hb))
  · intro n sz' es' gr' hq hb
    by_cases h1 : n = nm
    · subst h1; rw [locN] at hb; cases hb
    · rw [old n h1] at hq; rw [locO n h1] at hb; exact g.nil n sz' es' gr' hq hb
  · intro n hnn
    by_cases h1 : n = nm
    · subst h1; exact absurd hnn hn
    · rw [locO n h1]; exact g.nilLoc n hnn
  · intro n es' b hq hb
    by_cases h1 : n = nm
    · subst h1; rw [new] at hq; simp at hq
    · rw [old n h1] at hq; rw [locO n h1] at hb
      exact (g.map n es' b hq hb).keep k (heap_alloc (g.locLt (g.mkLiveM hq hb) hb))

theorem Stp.put {G0 w0 G w h} (s : Stp G0 w0 G w) (g : Gam G w h) {nm : Nat} (h0 : G0.N ≤ nm) (hl : G.loc nm = none) (hn : ¬ G.nil nm) (c : Array Value) (t : TypeId) :
    Stp G0 w0 (G.put nm w.heap.size) (w.alloc (.cells c t)) where
  rest := s.rest.trans (Rest.alloc w c t)
  keep := s.keep.trans (g.keepsPut hl hn _)
  S := s.S
  locEq n hlt := by
    have : n ≠ nm := by omega
    simp only [Gh.put, this, if_false]; exact s.locEq n hlt
  nilEq := s.nilEq
  size := by have := s.size; simp; omega
  frame b hb hno := by rw [heap_alloc (Nat.lt_of_lt_of_le hb s.size)]; exact s.frame b hb hno
  own b hb := by
    rcases hb with ⟨n, hlive, he⟩ | ⟨n, ht⟩
    · by_cases e : n = nm
      · simp only [Gh.put, e, if_true, Option.some.injEq] at he
        exact .inr (by have := s.size; omega)
      · simp only [Gh.put, e, if_false] at he
        exact s.own b (.inl ⟨n, hlive.resolve_right e, he⟩)
    · exact s.own b (.inr ⟨n, ht⟩)

/-! names kept free -/

def Gh.reserve (G : Gh) (k : Nat) : Gh :=
  { G with N := G.N + k, loc := fun n => if n < G.N then G.loc n else none, nil := fun n => n < G.N ∧ G.nil n }

theorem Gam.ltLive {G w h} (g : Gam G w h) {n} (hn : G.live n) : n < G.N := by
  obtain ⟨⟨_, hh, _⟩, _⟩ := (g.live n).1 hn
  exact g.ltN hh

theorem append_none {h : AHeap} {k n : Nat} {x : ABlk} : (h ++ List.replicate k none)[n]? = some (some x) ↔ h[n]? = some (some x) := by
  rcases Nat.lt_or_ge n h.length with hl | hl
  · rw [List.getElem?_append_left hl]
  · rw [List.getElem?_append_right hl, List.getElem?_eq_none hl, List.getElem?_replicate]
    split <;> simp

theorem Gam.reserve {G w h} (g : Gam G w h) (k : Nat) : Gam (G.reserve k) w (h ++ List.replicate k none) ∧ Stp G w (G.reserve k) w := by
  have loc : ∀ n, n < G.N → (G.reserve k).loc n = G.loc n := fun n hn => by simp [Gh.reserve, hn]
  have kp : Keeps G w (G.reserve k) w := ⟨Nat.le_add_right _ _, fun n b hn hb => by rw [loc n hn]; exact hb, fun n hn hb => ⟨hn, hb⟩, fun t b h => by cases t <;> exact h, fun _ _ _ => rfl, fun _ _ => rfl⟩
  have locL : ∀ n b, G.live n → (G.reserve k).loc n = some b → G.loc n = some b := fun n b hn hb => by rw [loc n (g.ltLive hn)] at hb; exact hb
  refine ⟨{ len := by simp [Gh.reserve, g.len], live := ?_, tag := ?_, inj := fun n m b hn hm h1 h2 => g.inj n m b hn hm (locL n b hn h1) (locL m b hm h2),
            liveTag := fun n m b hn hb => g.liveTag n m b hn (locL n b hn hb), liveS := fun n b hn hb => g.liveS n b hn (locL n b hn hb), tagInj := g.tagInj, tagS := g.tagS,
            tagLt := g.tagLt, sLt := g.sLt, arr := ?_, nil := ?_, nilLoc := ?_,
            map := fun n es b hh hb => by have hh' := append_none.1 hh; rw [loc n (g.ltN hh')] at hb; exact (g.map n es b hh' hb).keep kp rfl },
    ⟨kp, ⟨fun _ h => h, fun _ h => .inl h⟩, loc, fun n hn => ⟨fun h => h.2, fun h => ⟨hn, h⟩⟩, Nat.le_refl _, fun _ _ _ => rfl, fun b hb => ?_, Rest.refl w⟩⟩
  · intro n
    constructor
    · intro hn
      obtain ⟨⟨B, hh, hr⟩, hb⟩ := (g.live n).1 hn
      exact ⟨⟨B, append_none.2 hh, hr⟩, by rw [loc n (g.ltLive hn)]; exact hb⟩
    · rintro ⟨⟨B, hh, hr⟩, hb⟩
      have hh' := append_none.1 hh
      rw [loc n (g.ltN hh')] at hb
      exact (g.live n).2 ⟨⟨B, hh', hr⟩, hb⟩
  · intro n b hb; exact append_none.2 (g.tag n b hb)
  · intro n sz es gr b hh hb
    have hh' := append_none.1 hh
    rw [loc n (g.ltN hh')] at hb
    exact (g.arr n sz es gr b hh' hb).keep kp rfl
  · intro n sz es gr hh hb
    have hh' := append_none.1 hh
    rw [loc n (g.ltN hh')] at hb
    exact g.nil n sz es gr hh' hb
  · rintro n ⟨hn, hb⟩
    rw [loc n hn]; exact g.nilLoc n hb
  · rcases hb with ⟨n, hn, he⟩ | ⟨n, hn⟩
    · exact .inl (.inl ⟨n, hn, locL n b hn he⟩)
    · exact .inl (.inr ⟨n, hn⟩)

/-! a block of ours that is kept aside while something else goes on -/

def Gh.revive (G : Gh) (nm : Nat) : Gh := { G with live := fun m => G.live m ∨ m = nm }

theorem Gam.aside {G w h nm sz es gr b G' w' h'} (g : Gam G w h) (hh : h[nm]? = some (some (.arr sz es gr))) (hb : G.loc nm = some b)
    (s : Stp (G.kill nm) w G' w') (g' : Gam G' w' h') (hn : h'[nm]? = some none) :
    Gam (G'.revive nm) w' (h'.set nm (some (.arr sz es gr))) ∧ Stp G w (G'.revive nm) w' := by
  have hl := g.mkLive hh hb
  have hltN := g.ltN hh
  have hlt : nm < h'.length := (List.getElem?_eq_some_iff.1 hn).1
  have hbl := g.locLt hl hb
  have hb' : G'.loc nm = some b := by rw [s.locEq nm hltN]; exact hb
  have hnot : ¬ (G.kill nm).owned b := by
    rintro (⟨m, hm, he⟩ | ⟨m, hm⟩)
    · exact hm.2 (g.inj m nm b hm.1 hl he hb)
    · exact g.liveTag nm m b hl hb hm
  have hnot' : ¬ G'.owned b := by
    intro ho
    rcases s.own b ho with h | h
    · exact hnot h
    · omega
  have hheap := s.frame b hbl hnot
  have kk : Keeps G' w' (G'.revive nm) w' := ⟨Nat.le_refl _, fun _ _ _ h => h, fun _ _ h => h, fun t b h => by cases t <;> exact h, fun _ _ _ => rfl, fun _ _ => rfl⟩
  have new : (h'.set nm (some (.arr sz es gr)))[nm]? = some (some (.arr sz es gr)) := List.getElem?_set_self hlt
  have old : ∀ n, n ≠ nm → (h'.set nm (some (.arr sz es gr)))[n]? = h'[n]? := fun n hn => List.getElem?_set_ne (fun e => hn e.symm)
  have kG : Keeps G w (G'.revive nm) w' := ((G.keepsKill w nm).trans s.keep).trans kk
  have hS : ¬ G'.S b := fun hs => (s.S.2 b hs).elim (g.liveS nm b hl hb) (fun h => absurd hbl (Nat.not_lt.2 h))
  have hT : ∀ m, ¬ G'.tag m b := fun m ht => hnot' (.inr ⟨m, ht⟩)
  have hLv : ∀ m, G'.live m → G'.loc m ≠ some b := fun m hm he => hnot' (.inl ⟨m, hm, he⟩)
  refine ⟨{ len := by simp [Gh.revive, g'.len], live := ?_, tag := ?_, inj := ?_, liveTag := ?_, liveS := ?_, tagInj := g'.tagInj, tagS := g'.tagS, tagLt := g'.tagLt, sLt := g'.sLt,
            arr := ?_, nil := ?_, nilLoc := g'.nilLoc, map := fun n es' x hq h1 => by
              by_cases e1 : n = nm
              · subst e1; rw [new] at hq; simp at hq
              · rw [old n e1] at hq; exact (g'.map n es' x hq h1).keep kk rfl },
    ⟨kG, s.S, s.locEq, s.nilEq, s.size, fun x hx ho => s.frame x hx (fun hk => ho ?_), fun x hx => ?_, s.rest⟩⟩
  · intro n
    by_cases e : n = nm
    · subst e; exact ⟨fun _ => ⟨⟨_, new, rfl⟩, _, hb'⟩, fun _ => .inr rfl⟩
    · rw [old n e]; exact ⟨fun h => (g'.live n).1 (h.resolve_right e), fun h => .inl ((g'.live n).2 h)⟩
  · intro n x hx
    have e : n ≠ nm := by rintro rfl; rw [g'.tag _ _ hx] at hn; cases hn
    rw [old n e]; exact g'.tag n x hx
  · intro n m x hn hm h1 h2
    by_cases e1 : n = nm <;> by_cases e2 : m = nm
    · rw [e1, e2]
    · subst e1; have h1' : some b = some x := hb'.symm.trans h1
      cases h1'; exact absurd h2 (hLv m (hm.resolve_right e2))
    · subst e2; have h2' : some b = some x := hb'.symm.trans h2
      cases h2'; exact absurd h1 (hLv n (hn.resolve_right e1))
    · exact g'.inj n m x (hn.resolve_right e1) (hm.resolve_right e2) h1 h2
  · intro n m x hn h1 ht
    by_cases e1 : n = nm
    · subst e1; have h1' : some b = some x := hb'.symm.trans h1
      cases h1'; exact hT m ht
    · exact g'.liveTag n m x (hn.resolve_right e1) h1 ht
  · intro n x hn h1 hs
    by_cases e1 : n = nm
    · subst e1; have h1' : some b = some x := hb'.symm.trans h1
      cases h1'; exact hS hs
    · exact g'.liveS n x (hn.resolve_right e1) h1 hs
  · intro n sz' es' gr' x hq h1
    by_cases e1 : n = nm
    · subst e1
      rw [new] at hq
      obtain ⟨rfl, rfl, rfl⟩ : sz = sz' ∧ es = es' ∧ gr = gr' := by simpa using hq
      have h1' : some b = some x := hb'.symm.trans h1
      cases h1'
      exact (g.arr n sz es gr b hh hb).keep kG hheap
    · rw [old n e1] at hq
      exact (g'.arr n sz' es' gr' x hq h1).keep kk rfl
  · intro n sz' es' gr' hq h1
    by_cases e1 : n = nm
    · subst e1; have h1' : none = some b := h1.symm.trans hb'
      cases h1'
    · rw [old n e1] at hq; exact g'.nil n sz' es' gr' hq h1
  · rcases hk with ⟨m, hm, he⟩ | ⟨m, hm⟩
    · exact .inl ⟨m, hm.1, he⟩
    · exact .inr ⟨m, hm⟩
  · rcases hx with ⟨m, hm, he⟩ | ⟨m, hm⟩
    · by_cases e : m = nm
      · subst e; have h1' : some b = some x := hb'.symm.trans he
        cases h1'; exact .inl (.inl ⟨m, hl, hb⟩)
      · rcases s.own x (.inl ⟨m, hm.resolve_right e, he⟩) with h | h
        · rcases h with ⟨q, hq, he'⟩ | ⟨q, hq⟩
          · exact .inl (.inl ⟨q, hq.1, he'⟩)
          · exact .inl (.inr ⟨q, hq⟩)
        · exact .inr h
    · rcases s.own x (.inr ⟨m, hm⟩) with h | h
      · rcases h with ⟨q, hq, he'⟩ | ⟨q, hq⟩
        · exact .inl (.inl ⟨q, hq.1, he'⟩)
        · exact .inl (.inr ⟨q, hq⟩)
      · exact .inr h

end Glb
