/-
  A library of its own, for whatever program: what an abstract value says of a value in memory, and that it stays said.
-/
import Derived.Calls
import Derived.RowKit3
import Derived.Laws.World
import Derived.Laws.Sem
import Derived.Laws.StructEq
import Derived.Laws.Pointers
set_option linter.unusedSimpArgs false
set_option linter.unusedVariables false
namespace Glb
open Go

/-- abstract values -/
inductive AV where
  | top
  | bool (b : Bool)
  | int (k : IntKind) (n : Int)
  | str (s : ByteArray)
  | raw (v : Value)
  | nils
  | ptr (n sz i o : Nat)
  | vptr (t : Nat) (cs : List AV)
  | ref (n sz off len : Nat) (cap : Option Nat)
  | vals (t : Nat) (clip : Bool) (sz : Nat) (es : List (List AV))
  | agg (cs : List AV)
  | tup (cs : List AV)
  | clo (f : FuncId) (fs cs : List AV)
  | iface (t : TypeId) (v : AV)
  deriving Inhabited

/-- what lies in one cell -/
def AV.scalar : AV → Bool
  | .top | .agg _ | .tup _ => false
  | .raw v => v.oneCell'
  | _ => true

/-- elements of one size, each cell of them one value -/
def okes (sz : Nat) (es : List (List AV)) : Prop := ∀ e ∈ es, e.length = sz ∧ e.all AV.scalar = true

/-- abstract blocks -/
inductive ABlk where
  | arr (sz : Nat) (es : List (List AV)) (grow : Bool)
  | tag
  deriving Inhabited

abbrev AHeap := List (Option ABlk)

structure Gh where
  N : Nat
  loc : Nat → Option Nat
  nil : Nat → Prop
  live : Nat → Prop
  tag : Nat → Nat → Prop
  S : Nat → Prop

def Gh.prot (G : Gh) : Nat → Nat → Prop
  | 0, b => G.S b
  | n + 1, b => G.tag n b

def Gh.owned (G : Gh) (b : Nat) : Prop := (∃ n, G.live n ∧ G.loc n = some b) ∨ ∃ n, G.tag n b

def getc (es : List (List AV)) (i j : Nat) : Option AV := es[i]?.bind (·[j]?)

inductive V (G : Gh) (w : World) : AV → Value → Prop
  | top (v) : V G w .top v
  | bool (b) : V G w (.bool b) (.bool b)
  | int (k n) : V G w (.int k n) (.int k n)
  | str (s) : V G w (.str s) (.string s)
  | raw (v) : V G w (.raw v) v
  | nils : V G w .nils (.slice none 0 0)
  | ptr (n sz i o b : Nat) : n < G.N → G.loc n = some b → V G w (.ptr n sz i o) (.pointer (some ⟨b, i * sz + o, none⟩))
  | vptr (t : Nat) (cs : List AV) (b off : Nat) (f : Nat → Value) : G.prot t b → (∀ (j : Nat) (c : AV), cs[j]? = some c → w.cell? ⟨b, off + j, none⟩ = some (f j)) →
      (∀ (j : Nat) (c : AV), cs[j]? = some c → V G w c (f j)) → V G w (.vptr t cs) (.pointer (some ⟨b, off, none⟩))
  | ref (n sz off len : Nat) (cap : Option Nat) (c : Nat) (ty : TypeId) (m b : Nat) : n < G.N → G.loc n = some b → len ≤ c → (∀ k, cap = some k → c = k) →
      w.shape? b = some (ty, m) → (off + c) * sz ≤ m → V G w (.ref n sz off len cap) (.slice (some ⟨b, off * sz, none⟩) len c)
  | refNil (n sz : Nat) (cap : Option Nat) : n < G.N → G.nil n → (∀ k, cap = some k → k = 0) → V G w (.ref n sz 0 0 cap) (.slice none 0 0)
  | vals (t : Nat) (clip : Bool) (sz : Nat) (es : List (List AV)) (a : Addr) (cap : Nat) (f : Nat → Nat → Value) : es.length ≤ cap → (clip = true → cap = es.length) → (cap ≠ 0 → a.spot = none) →
      (es ≠ [] → G.prot t a.block) → okes sz es →
      (∀ i j c, getc es i j = some c → w.cell? ⟨a.block, a.off + (i * sz + j), none⟩ = some (f i j)) →
      (∀ i j c, getc es i j = some c → V G w c (f i j)) → V G w (.vals t clip sz es) (.slice (some a) es.length cap)
  | valsNil (t clip sz) : V G w (.vals t clip sz []) (.slice none 0 0)
  | agg (cs : List AV) (vs : Array Value) : cs.length = vs.size → (∀ (j : Nat) (c : AV) (v : Value), cs[j]? = some c → vs[j]? = some v → V G w c v) → V G w (.agg cs) (.agg vs)
  | tup (cs : List AV) (vs : Array Value) : cs.length = vs.size → (∀ (j : Nat) (c : AV) (v : Value), cs[j]? = some c → vs[j]? = some v → V G w c v) → V G w (.tup cs) (.tuple vs)
  | clo (f : FuncId) (fs : List AV) (us : Array Value) (cs : List AV) (vs : Array Value) : fs.length = us.size → (∀ (j : Nat) (c : AV) (v : Value), fs[j]? = some c → us[j]? = some v → V G w c v) →
      cs.length = vs.size → (∀ (j : Nat) (c : AV) (v : Value), cs[j]? = some c → vs[j]? = some v → V G w c v) → V G w (.clo f fs cs) (.func (.func f) us vs)
  | iface (t c v) : V G w c v → V G w (.iface t c) (.iface t v)

/-- what must hold of two states so that whatever was said stays said -/
structure Keeps (G : Gh) (w : World) (G' : Gh) (w' : World) : Prop where
  N : G.N ≤ G'.N
  loc : ∀ n b, n < G.N → G.loc n = some b → G'.loc n = some b
  nil : ∀ n, n < G.N → G.nil n → G'.nil n
  prot : ∀ t b, G.prot t b → G'.prot t b
  heap : ∀ t b, G.prot t b → w'.heap[b]? = w.heap[b]?
  shape : ∀ b, (w.shape? b).isSome → w'.shape? b = w.shape? b

theorem cell_of_heap {w w' : World} {a : Addr} (h : w'.heap[a.block]? = w.heap[a.block]?) : w'.cell? a = w.cell? a := by
  simp only [World.cell?, h]

theorem V.keep {G w G' w' av v} (k : Keeps G w G' w') (h : V G w av v) : V G' w' av v := by
  induction h with
  | top v => exact .top v
  | bool b => exact .bool b
  | int k n => exact .int k n
  | str s => exact .str s
  | raw v => exact .raw v
  | nils => exact .nils
  | ptr n sz i o b hn hb => exact .ptr n sz i o b (Nat.lt_of_lt_of_le hn k.N) (k.loc n b hn hb)
  | vptr t cs b off f hp hc _ ih =>
    exact .vptr t cs b off f (k.prot _ _ hp) (fun j c hj => by rw [cell_of_heap (a := ⟨b, off + j, none⟩) (k.heap _ _ hp)]; exact hc j c hj) ih
  | ref n sz off len cap c ty m b hn hb hl hcap hs hm =>
    exact .ref n sz off len cap c ty m b (Nat.lt_of_lt_of_le hn k.N) (k.loc n b hn hb) hl hcap (by rw [k.shape _ (by simp [hs]), hs]) hm
  | refNil n sz cap hn hb hc => exact .refNil n sz cap (Nat.lt_of_lt_of_le hn k.N) (k.nil n hn hb) hc
  | vals t clip sz es a cap f hl hcl hsp hp hes hc _ ih =>
    refine .vals t clip sz es a cap f hl hcl hsp (fun h => k.prot _ _ (hp h)) hes (fun i j c hj => ?_) ih
    have hne : es ≠ [] := by rintro rfl; simp [getc] at hj
    rw [cell_of_heap (a := ⟨a.block, a.off + (i * sz + j), none⟩) (k.heap _ _ (hp hne))]; exact hc i j c hj
  | valsNil t clip sz => exact .valsNil t clip sz
  | agg cs vs hl _ ih => exact .agg cs vs hl ih
  | tup cs vs hl _ ih => exact .tup cs vs hl ih
  | clo f fs us cs vs hl _ hl' _ ih ih' => exact .clo f fs us cs vs hl ih hl' ih'
  | iface t c v _ ih => exact .iface t c v ih

/-- a block's cells read as its elements -/
structure Holds (G : Gh) (w : World) (b : Nat) (sz : Nat) (es : List (List AV)) (grow : Bool) : Prop where
  ex : ∃ cells ty, w.heap[b]? = some (.cells cells ty (0, 0)) ∧ es.length * sz ≤ cells.size ∧ (grow = false → cells.size = es.length * sz) ∧
    ∀ i j c, getc es i j = some c → ∃ v, cells[i * sz + j]? = some v ∧ V G w c v
  sz : okes sz es

structure Gam (G : Gh) (w : World) (h : AHeap) : Prop where
  len : h.length = G.N
  live : ∀ n, G.live n ↔ (∃ sz es g, h[n]? = some (some (.arr sz es g))) ∧ ∃ b, G.loc n = some b
  tag : ∀ n b, G.tag n b → h[n]? = some (some .tag)
  inj : ∀ n m b, G.live n → G.live m → G.loc n = some b → G.loc m = some b → n = m
  liveTag : ∀ n m b, G.live n → G.loc n = some b → ¬ G.tag m b
  liveS : ∀ n b, G.live n → G.loc n = some b → ¬ G.S b
  tagInj : ∀ n m b, G.tag n b → G.tag m b → n = m
  tagS : ∀ n b, G.tag n b → ¬ G.S b
  tagLt : ∀ n b, G.tag n b → b < w.heap.size
  sLt : ∀ b, G.S b → b < w.heap.size
  arr : ∀ n sz es g b, h[n]? = some (some (.arr sz es g)) → G.loc n = some b → Holds G w b sz es g
  nil : ∀ n sz es g, h[n]? = some (some (.arr sz es g)) → G.loc n = none → es = []
  nilLoc : ∀ n, G.nil n → G.loc n = none

theorem Gam.ltN {G w h} (g : Gam G w h) {n x} (hn : h[n]? = some x) : n < G.N := by
  rw [← g.len]; exact (List.getElem?_eq_some_iff.1 hn).1

theorem Gam.mkLive {G w h} (g : Gam G w h) {n sz es gr b} (hn : h[n]? = some (some (.arr sz es gr))) (hb : G.loc n = some b) : G.live n :=
  (g.live n).2 ⟨⟨_, _, _, hn⟩, b, hb⟩

theorem Gam.locLt {G w h} (g : Gam G w h) {n b} (hn : G.live n) (hb : G.loc n = some b) : b < w.heap.size := by
  obtain ⟨⟨sz, es, gr, hh⟩, _⟩ := (g.live n).1 hn
  obtain ⟨cells, ty, hc, _⟩ := (g.arr n sz es gr b hh hb).ex
  exact (Array.getElem?_eq_some_iff.1 hc).1

theorem Gam.ownedLt {G w h} (g : Gam G w h) {b} (hb : G.owned b) : b < w.heap.size := by
  rcases hb with ⟨n, hn, hl⟩ | ⟨n, hn⟩
  · exact g.locLt hn hl
  · exact g.tagLt n b hn

/-- what lies beside the cells stays -/
def Rest (w w' : World) : Prop := w'.os = w.os ∧ w'.output = w.output ∧ ∀ a, w'.frozen? a = w.frozen? a

theorem Rest.refl (w) : Rest w w := ⟨rfl, rfl, fun _ => rfl⟩
theorem Rest.trans {w w1 w2} (a : Rest w w1) (b : Rest w1 w2) : Rest w w2 := ⟨b.1.trans a.1, b.2.1.trans a.2.1, fun x => (b.2.2 x).trans (a.2.2 x)⟩
theorem Rest.alloc (w : World) (c : Array Value) (t : TypeId) : Rest w (w.alloc (.cells c t)) := ⟨rfl, rfl, fun a => Go.RowKit.frozen?_alloc_cells w c t a⟩
theorem Rest.setCell (w : World) (a : Addr) (v : Value) : Rest w (w.setCell a v) := ⟨rfl, rfl, fun _ => World.frozen?_setCell _ _ _ _⟩

/-- one step, or many: nothing that is not ours has changed, and all that was said stays said -/
structure Stp (G : Gh) (w : World) (G' : Gh) (w' : World) : Prop where
  keep : Keeps G w G' w'
  S : (∀ b, G.S b → G'.S b) ∧ ∀ b, G'.S b → G.S b ∨ w.heap.size ≤ b
  locEq : ∀ n, n < G.N → G'.loc n = G.loc n
  nilEq : ∀ n, n < G.N → (G'.nil n ↔ G.nil n)
  size : w.heap.size ≤ w'.heap.size
  frame : ∀ b, b < w.heap.size → ¬ G.owned b → w'.heap[b]? = w.heap[b]?
  own : ∀ b, G'.owned b → G.owned b ∨ w.heap.size ≤ b
  rest : Rest w w'

theorem Keeps.refl (G w) : Keeps G w G w := ⟨Nat.le_refl _, fun _ _ _ h => h, fun _ _ h => h, fun _ _ h => h, fun _ _ _ => rfl, fun _ _ => rfl⟩

theorem Keeps.trans {G w G1 w1 G2 w2} (a : Keeps G w G1 w1) (b : Keeps G1 w1 G2 w2) : Keeps G w G2 w2 where
  N := Nat.le_trans a.N b.N
  loc n x h e := b.loc n x (Nat.lt_of_lt_of_le h a.N) (a.loc n x h e)
  nil n h e := b.nil n (Nat.lt_of_lt_of_le h a.N) (a.nil n h e)
  prot t x h := b.prot t x (a.prot t x h)
  heap t x h := by rw [b.heap t x (a.prot t x h), a.heap t x h]
  shape x h := by rw [b.shape x (by rw [a.shape x h]; exact h), a.shape x h]

theorem Stp.refl (G w) : Stp G w G w := ⟨Keeps.refl G w, ⟨fun _ h => h, fun _ h => .inl h⟩, fun _ _ => rfl, fun _ _ => Iff.rfl, Nat.le_refl _, fun _ _ _ => rfl, fun _ h => .inl h, Rest.refl w⟩

theorem Stp.trans {G w G1 w1 G2 w2} (a : Stp G w G1 w1) (b : Stp G1 w1 G2 w2) : Stp G w G2 w2 where
  keep := a.keep.trans b.keep
  S := ⟨fun x h => b.S.1 x (a.S.1 x h), fun x h => (b.S.2 x h).elim (a.S.2 x) (fun h => .inr (Nat.le_trans a.size h))⟩
  locEq n h := by rw [b.locEq n (Nat.lt_of_lt_of_le h a.keep.N), a.locEq n h]
  nilEq n h := (b.nilEq n (Nat.lt_of_lt_of_le h a.keep.N)).trans (a.nilEq n h)
  size := Nat.le_trans a.size b.size
  frame x hx hn := by
    rw [b.frame x (Nat.lt_of_lt_of_le hx a.size) ?_, a.frame x hx hn]
    intro ho
    rcases a.own x ho with h | h
    · exact hn h
    · omega
  own x hx := by
    rcases b.own x hx with h | h
    · exact a.own x h
    · exact .inr (Nat.le_trans a.size h)
  rest := a.rest.trans b.rest

/-- a draw changes nothing -/
theorem Stp.drew (G w) (n : Nat) : Stp G w G { w with drawn := n } :=
  ⟨⟨Nat.le_refl _, fun _ _ _ h => h, fun _ _ h => h, fun _ _ h => h, fun _ _ _ => rfl, fun _ _ => rfl⟩, ⟨fun _ h => h, fun _ h => .inl h⟩, fun _ _ => rfl, fun _ _ => Iff.rfl, Nat.le_refl _, fun _ _ _ => rfl, fun _ h => .inl h, rfl, rfl, fun _ => rfl⟩

theorem Holds.keep {G w G' w' b sz es gr} (k : Keeps G w G' w') (hb : w'.heap[b]? = w.heap[b]?) (h : Holds G w b sz es gr) : Holds G' w' b sz es gr := by
  obtain ⟨⟨cells, ty, hc, h1, h2, h3⟩, hs⟩ := h
  exact ⟨⟨cells, ty, hb ▸ hc, h1, h2, fun i j c hj => let ⟨v, hv, hV⟩ := h3 i j c hj; ⟨v, hv, hV.keep k⟩⟩, hs⟩

/-- a state with the same heap -/
theorem Gam.same {G w h w'} (g : Gam G w h) (hh : w'.heap = w.heap) : Gam G w' h := by
  have k : Keeps G w G w' := ⟨Nat.le_refl _, fun _ _ _ h => h, fun _ _ h => h, fun _ _ h => h, fun _ _ _ => by rw [hh], fun _ _ => by simp only [World.shape?, hh]⟩
  exact { len := g.len, live := g.live, tag := g.tag, inj := g.inj, liveTag := g.liveTag, liveS := g.liveS, tagInj := g.tagInj, tagS := g.tagS,
          tagLt := fun n b hb => by rw [hh]; exact g.tagLt n b hb, sLt := fun b hb => by rw [hh]; exact g.sLt b hb,
          arr := fun n sz es gr b hn hb => (g.arr n sz es gr b hn hb).keep k (by rw [hh]), nil := g.nil, nilLoc := g.nilLoc }

/-! a new block -/

def Gh.new (G : Gh) (ob : Option Nat) : Gh :=
  { G with N := G.N + 1, loc := fun n => if n = G.N then ob else G.loc n, nil := fun n => if n = G.N then ob = none else G.nil n, live := fun n => G.live n ∨ (n = G.N ∧ ob.isSome) }

theorem shape_alloc {w : World} {o : Obj} {b : Nat} (h : (w.shape? b).isSome) : (w.alloc o).shape? b = w.shape? b := by
  have hb : b < w.heap.size := by
    apply Classical.byContradiction; intro hn
    simp only [World.shape?, Array.getElem?_eq_none (Nat.le_of_not_lt hn)] at h
    exact absurd h (by simp)
  simp only [World.shape?, World.alloc, Array.getElem?_push, Nat.ne_of_lt hb, if_false]

theorem heap_alloc {w : World} {o : Obj} {b : Nat} (hb : b < w.heap.size) : (w.alloc o).heap[b]? = w.heap[b]? := by
  simp only [World.alloc, Array.getElem?_push, Nat.ne_of_lt hb, if_false]

theorem heap_alloc_new {w : World} {o : Obj} : (w.alloc o).heap[w.heap.size]? = some o := by
  show (w.heap.push o)[w.heap.size]? = some o
  simp

theorem Gam.notLive {G w h} (g : Gam G w h) : ¬ G.live G.N := by
  intro hl
  obtain ⟨⟨sz, es, gr, hh⟩, _⟩ := (g.live _).1 hl
  exact Nat.lt_irrefl _ (g.ltN hh)

theorem Gam.notTag {G w h} (g : Gam G w h) (b) : ¬ G.tag G.N b := by
  intro ht
  have := (List.getElem?_eq_some_iff.1 (g.tag _ _ ht)).1
  rw [g.len] at this
  exact Nat.lt_irrefl _ this

theorem Gam.protLt {G w h} (g : Gam G w h) {t b} (hp : G.prot t b) : b < w.heap.size := by
  cases t with
  | zero => exact g.sLt b hp
  | succ n => exact g.tagLt n b hp

theorem Gam.keepsName {G w h} (g : Gam G w h) (ob : Option Nat) : Keeps G w (G.new ob) w where
  N := Nat.le_succ _
  loc n b hn hb := by simp only [Gh.new, Nat.ne_of_lt hn, if_false]; exact hb
  nil n hn hb := by simp only [Gh.new, Nat.ne_of_lt hn, if_false]; exact hb
  prot t b hp := by cases t <;> exact hp
  heap t b hp := rfl
  shape b hb := rfl

theorem Gam.keepsNew {G w h} (g : Gam G w h) (o : Obj) : Keeps G w (G.new (some w.heap.size)) (w.alloc o) where
  N := Nat.le_succ _
  loc n b hn hb := by simp only [Gh.new, Nat.ne_of_lt hn, if_false]; exact hb
  nil n hn hb := by simp only [Gh.new, Nat.ne_of_lt hn, if_false]; exact hb
  prot t b hp := by cases t <;> exact hp
  heap t b hp := heap_alloc (g.protLt hp)
  shape b hb := shape_alloc hb

theorem Gam.stpNew {G w h} (g : Gam G w h) (c : Array Value) (t : TypeId) : Stp G w (G.new (some w.heap.size)) (w.alloc (.cells c t)) where
  rest := Rest.alloc w c t
  keep := g.keepsNew _
  S := ⟨fun _ h => h, fun _ h => .inl h⟩
  locEq n hn := by simp only [Gh.new, Nat.ne_of_lt hn, if_false]
  nilEq n hn := by simp only [Gh.new, Nat.ne_of_lt hn, if_false]
  size := by simp
  frame b hb _ := heap_alloc hb
  own b hb := by
    rcases hb with ⟨n, hn, he⟩ | ⟨n, hn⟩
    · by_cases h : n = G.N
      · simp only [Gh.new, h, if_true, Option.some.injEq] at he; exact .inr (by omega)
      · simp only [Gh.new, h, if_false] at he
        exact .inl (.inl ⟨n, hn.resolve_right (fun x => h x.1), he⟩)
    · exact .inl (.inr ⟨n, hn⟩)

theorem append_old {G w h} (g : Gam G w h) (y : Option ABlk) {n} {x : Option ABlk} (hn : n ≠ G.N) : (h ++ [y])[n]? = some x ↔ h[n]? = some x := by
  rw [← g.len] at hn
  rcases Nat.lt_or_ge n h.length with hl | hl
  · rw [List.getElem?_append_left hl]
  · have : h.length < n := by omega
    rw [List.getElem?_eq_none (by simp; omega), List.getElem?_eq_none hl]

theorem append_new {G w h} (g : Gam G w h) (y : Option ABlk) : (h ++ [y])[G.N]? = some y := by rw [← g.len]; simp

/-- a new name for a row of cells: 'ob': where it lies (a new block, or one that nobody owns), or nil -/
theorem Gam.gamName {G w h} (g : Gam G w h) {ob : Option Nat} {w' : World} {sz : Nat} {es : List (List AV)} {gr : Bool}
    (k : Keeps G w (G.new ob) w') (hsize : w.heap.size ≤ w'.heap.size) (hother : ∀ n b, G.live n → G.loc n = some b → w'.heap[b]? = w.heap[b]?)
    (hfree : ∀ b, ob = some b → (∀ n, G.live n → G.loc n ≠ some b) ∧ (∀ n, ¬ G.tag n b) ∧ ¬ G.S b)
    (hH : ∀ b, ob = some b → Holds (G.new ob) w' b sz es gr) (hnil : ob = none → es = []) :
    Gam (G.new ob) w' (h ++ [some (.arr sz es gr)]) := by
  have new := append_new g (some (ABlk.arr sz es gr))
  have old := fun n x (hn : n ≠ G.N) => append_old g (some (ABlk.arr sz es gr)) (n := n) (x := x) hn
  have locN : (G.new ob).loc G.N = ob := by simp [Gh.new]
  have locO : ∀ n, n ≠ G.N → (G.new ob).loc n = G.loc n := fun n hn => by simp [Gh.new, hn]
  have liveO : ∀ n, n ≠ G.N → ((G.new ob).live n ↔ G.live n) := fun n hn => ⟨fun h => h.resolve_right (fun x => hn x.1), .inl⟩
  refine { len := by simp [Gh.new, g.len], live := ?_, tag := ?_, inj := ?_, liveTag := ?_, liveS := ?_, tagInj := g.tagInj, tagS := g.tagS,
           tagLt := ?_, sLt := ?_, arr := ?_, nil := ?_, nilLoc := ?_ }
  · intro n
    by_cases hn : n = G.N
    · subst hn
      rw [locN]
      constructor
      · rintro (hl | ⟨_, ho⟩)
        · exact absurd hl g.notLive
        · exact ⟨⟨_, _, _, new⟩, Option.isSome_iff_exists.1 ho⟩
      · rintro ⟨_, b, hb⟩; exact .inr ⟨rfl, by simp [hb]⟩
    · rw [liveO n hn, locO n hn, g.live n]
      constructor <;> rintro ⟨⟨a, b, c, hh⟩, hb⟩
      · exact ⟨⟨a, b, c, (old n _ hn).2 hh⟩, hb⟩
      · exact ⟨⟨a, b, c, (old n _ hn).1 hh⟩, hb⟩
  · intro n b hb
    have : n ≠ G.N := by rintro rfl; exact g.notTag b hb
    exact (old n _ this).2 (g.tag n b hb)
  · intro n m b hn hm hbn hbm
    by_cases h1 : n = G.N <;> by_cases h2 : m = G.N
    · rw [h1, h2]
    · subst h1; rw [locN] at hbn; rw [locO m h2] at hbm
      exact absurd hbm ((hfree b hbn).1 m ((liveO m h2).1 hm))
    · subst h2; rw [locN] at hbm; rw [locO n h1] at hbn
      exact absurd hbn ((hfree b hbm).1 n ((liveO n h1).1 hn))
    · rw [locO n h1] at hbn; rw [locO m h2] at hbm
      exact g.inj n m b ((liveO n h1).1 hn) ((liveO m h2).1 hm) hbn hbm
  · intro n m b hn hb ht
    by_cases h1 : n = G.N
    · subst h1; rw [locN] at hb; exact (hfree b hb).2.1 m ht
    · rw [locO n h1] at hb; exact g.liveTag n m b ((liveO n h1).1 hn) hb ht
  · intro n b hn hb hs
    by_cases h1 : n = G.N
    · subst h1; rw [locN] at hb; exact (hfree b hb).2.2 hs
    · rw [locO n h1] at hb; exact g.liveS n b ((liveO n h1).1 hn) hb hs
  · intro n b hb; exact Nat.lt_of_lt_of_le (g.tagLt n b hb) hsize
  · intro b hb; exact Nat.lt_of_lt_of_le (g.sLt b hb) hsize
  · intro n sz' es' gr' b hn hb
    by_cases h1 : n = G.N
    · subst h1
      rw [new] at hn
      obtain ⟨rfl, rfl, rfl⟩ : sz = sz' ∧ es = es' ∧ gr = gr' := by simpa using hn
      rw [locN] at hb
      exact hH b hb
    · have hn' := (old n _ h1).1 hn
      rw [locO n h1] at hb
      exact (g.arr n sz' es' gr' b hn' hb).keep k (hother n b (g.mkLive hn' hb) hb)
  · intro n sz' es' gr' hn hb
    by_cases h1 : n = G.N
    · subst h1
      rw [new] at hn
      obtain ⟨rfl, rfl, rfl⟩ : sz = sz' ∧ es = es' ∧ gr = gr' := by simpa using hn
      rw [locN] at hb
      exact hnil hb
    · rw [locO n h1] at hb
      exact g.nil n sz' es' gr' ((old n _ h1).1 hn) hb
  · intro n hn
    by_cases h1 : n = G.N
    · subst h1
      rw [locN]
      simpa [Gh.new] using hn
    · rw [locO n h1]
      exact g.nilLoc n (by simpa [Gh.new, h1] using hn)

/-- the elements of a new row of cells -/
theorem Gam.gamNew {G w h} (g : Gam G w h) {cells : Array Value} {ty : TypeId} {sz : Nat} {es : List (List AV)} {gr : Bool}
    (hsz : okes sz es) (hle : es.length * sz ≤ cells.size) (hgr : gr = false → cells.size = es.length * sz)
    (hV : ∀ i j c, getc es i j = some c → ∃ v, cells[i * sz + j]? = some v ∧ V G w c v) :
    Gam (G.new (some w.heap.size)) (w.alloc (.cells cells ty)) (h ++ [some (.arr sz es gr)]) := by
  have k := g.keepsNew (.cells cells ty)
  refine g.gamName k (by simp) (fun n b hn hb => heap_alloc (g.locLt hn hb)) ?_ ?_ (by simp)
  · rintro b ⟨⟩
    refine ⟨fun n hn hb => Nat.lt_irrefl _ (g.locLt hn hb), fun n ht => Nat.lt_irrefl _ (g.tagLt n _ ht), fun hs => Nat.lt_irrefl _ (g.sLt _ hs)⟩
  · rintro b ⟨⟩
    exact ⟨⟨cells, ty, heap_alloc_new, hle, hgr, fun i j c hj => let ⟨v, hv, hV⟩ := hV i j c hj; ⟨v, hv, hV.keep k⟩⟩, hsz⟩

/-! a store into a block of ours -/

theorem shape_setCell {w : World} {a : Addr} {v : Value} {b : Nat} : (w.setCell a v).shape? b = w.shape? b := by
  simp only [World.shape?, World.setCell, Array.getElem?_modify]
  by_cases h : a.block = b
  · subst h
    simp only [if_true]
    cases w.heap[a.block]? with
    | none => rfl
    | some o => cases o <;> simp; split <;> simp
  · simp only [h, if_false]

theorem heap_setCell_ne {w : World} {a : Addr} {v : Value} {b : Nat} (h : a.block ≠ b) : (w.setCell a v).heap[b]? = w.heap[b]? := by
  simp only [World.setCell, Array.getElem?_modify, h, if_false]

theorem heap_setCell_eq {w : World} {b o : Nat} {v : Value} {cells : Array Value} {ty : TypeId} {fr : Nat × Nat} (h : w.heap[b]? = some (.cells cells ty fr)) :
    (w.setCell ⟨b, o, none⟩ v).heap[b]? = some (.cells (cells.setIfInBounds o v) ty fr) := by
  simp [World.setCell, Array.getElem?_modify, h]

theorem Gam.keepsSet {G w h} (g : Gam G w h) {n b} (hn : G.live n) (hb : G.loc n = some b) (o : Nat) (v : Value) : Keeps G w G (w.setCell ⟨b, o, none⟩ v) where
  N := Nat.le_refl _
  loc _ _ _ h := h
  nil _ _ h := h
  prot _ _ h := h
  heap t b' hp := heap_setCell_ne (by
    rintro rfl
    cases t with
    | zero => exact g.liveS n _ hn hb hp
    | succ m => exact g.liveTag n m _ hn hb hp)
  shape b _ := shape_setCell

theorem Gam.stpSet {G w h} (g : Gam G w h) {n b} (hn : G.live n) (hb : G.loc n = some b) (o : Nat) (v : Value) : Stp G w G (w.setCell ⟨b, o, none⟩ v) where
  rest := Rest.setCell w _ v
  keep := g.keepsSet hn hb o v
  S := ⟨fun _ h => h, fun _ h => .inl h⟩
  locEq _ _ := rfl
  nilEq _ _ := Iff.rfl
  size := by simp
  frame b' _ hb' := heap_setCell_ne (by rintro rfl; exact hb' (.inl ⟨n, hn, hb⟩))
  own b hb := .inl hb

def setc (es : List (List AV)) (i j : Nat) (c : AV) : List (List AV) := es.modify i (·.set j c)

theorem getc_setc {es : List (List AV)} {i j i' j' : Nat} {c : AV} :
    getc (setc es i j c) i' j' = if i' = i ∧ j' = j ∧ (getc es i j).isSome then some c else getc es i' j' := by
  simp only [getc, setc, List.getElem?_modify]
  by_cases hi : i' = i
  · subst hi
    simp only [if_true, true_and]
    cases h : es[i']? with
    | none => simp
    | some e =>
      simp only [Option.map_some, Option.bind_some]
      by_cases hj : j' = j
      · subst hj
        by_cases hl : j' < e.length
        · simp [List.getElem?_set, hl]
        · simp [List.getElem?_set, hl]
      · have : ¬ (j = j') := fun h => hj h.symm
        simp [List.getElem?_set, hj, this]
  · have : ¬ (i = i') := fun h => hi h.symm
    simp [hi, this]

theorem length_setc {es : List (List AV)} {i j : Nat} {c : AV} : (setc es i j c).length = es.length := by simp [setc]

theorem mul_add_inj {sz i j i' j' : Nat} (hj : j < sz) (hj' : j' < sz) (h : i * sz + j = i' * sz + j') : i = i' ∧ j = j' := by
  have hs : 0 < sz := by omega
  have hi : i = i' := by
    have e1 : (i * sz + j) / sz = i := by rw [Nat.mul_comm, Nat.mul_add_div hs, Nat.div_eq_of_lt hj, Nat.add_zero]
    have e2 : (i' * sz + j') / sz = i' := by rw [Nat.mul_comm, Nat.mul_add_div hs, Nat.div_eq_of_lt hj', Nat.add_zero]
    rw [← e1, ← e2, h]
  subst hi
  exact ⟨rfl, by omega⟩

theorem getc_lt {es : List (List AV)} {i j sz : Nat} {c : AV} (hs : okes sz es) (h : getc es i j = some c) : i < es.length ∧ j < sz := by
  simp only [getc] at h
  cases he : es[i]? with
  | none => simp [he] at h
  | some e =>
    simp [he] at h
    obtain ⟨hi, rfl⟩ := List.getElem?_eq_some_iff.1 he
    have := (hs _ (List.getElem_mem hi)).1
    have := (List.getElem?_eq_some_iff.1 h).1
    exact ⟨hi, by omega⟩

theorem cell_lt {n sz i j : Nat} (hi : i < n) (hj : j < sz) : i * sz + j < n * sz := by
  have := Nat.mul_le_mul_right sz (Nat.succ_le_of_lt hi)
  rw [Nat.succ_mul] at this
  omega

theorem Holds.cell {G w b sz es gr i j c} (h : Holds G w b sz es gr) (hc : getc es i j = some c) :
    ∃ v, w.cell? ⟨b, i * sz + j, none⟩ = some v ∧ w.frozen? ⟨b, i * sz + j, none⟩ = false ∧ V G w c v := by
  obtain ⟨⟨cells, ty, hh, _, _, h3⟩, _⟩ := h
  obtain ⟨v, hv, hV⟩ := h3 i j c hc
  exact ⟨v, by simp [World.cell?, hh, hv], by simp [World.frozen?, hh], hV⟩

theorem Gam.gamSet {G w h} (g : Gam G w h) {n b sz es gr i j c0 c} {v : Value} (hn : h[n]? = some (some (.arr sz es gr))) (hb : G.loc n = some b)
    (hc : getc es i j = some c0) (hV : V G w c v) (hsc : c.scalar = true) :
    Gam G (w.setCell ⟨b, i * sz + j, none⟩ v) (h.set n (some (.arr sz (setc es i j c) gr))) := by
  have hl : G.live n := g.mkLive hn hb
  have k := g.keepsSet hl hb (i * sz + j) v
  have hlt : n < h.length := (List.getElem?_eq_some_iff.1 hn).1
  refine { len := by simp [g.len], live := ?_, tag := ?_, inj := g.inj, liveTag := g.liveTag, liveS := g.liveS, tagInj := g.tagInj, tagS := g.tagS,
           tagLt := fun m b hb => by simpa using g.tagLt m b hb, sLt := fun b hb => by simpa using g.sLt b hb, arr := ?_, nil := ?_, nilLoc := g.nilLoc }
  · intro m
    rw [g.live m]
    by_cases hm : n = m
    · subst hm
      exact ⟨fun h => ⟨⟨sz, setc es i j c, gr, by simp [hlt]⟩, h.2⟩, fun h => ⟨⟨_, _, _, hn⟩, h.2⟩⟩
    · rw [List.getElem?_set_ne hm]
  · intro m b hb
    have hm : n ≠ m := by rintro rfl; rw [g.tag _ _ hb] at hn; simp at hn
    rw [List.getElem?_set_ne hm]; exact g.tag m b hb
  · intro m sz' es' gr' b' hm hb'
    by_cases h1 : n = m
    · subst h1
      rw [hb] at hb'; cases hb'
      rw [List.getElem?_set_self hlt] at hm
      obtain ⟨rfl, rfl, rfl⟩ : sz = sz' ∧ setc es i j c = es' ∧ gr = gr' := by simpa using hm
      obtain ⟨⟨cells, ty, hh, h1, h2, h3⟩, hs⟩ := g.arr n sz es gr b hn hb
      obtain ⟨hi, hj⟩ := getc_lt hs hc
      refine ⟨⟨cells.setIfInBounds (i * sz + j) v, ty, heap_setCell_eq hh, by simpa [length_setc] using h1, by simpa [length_setc] using h2, ?_⟩, ?_⟩
      · intro i' j' c' hc'
        rw [getc_setc] at hc'
        have hlt' := cell_lt hi hj
        by_cases he : i' = i ∧ j' = j
        · obtain ⟨rfl, rfl⟩ := he
          simp only [hc, Option.isSome_some, and_self, if_true, Option.some.injEq] at hc'
          subst hc'
          exact ⟨v, by rw [Array.getElem?_setIfInBounds_self_of_lt (by omega)], hV.keep k⟩
        · have : ¬ (i' = i ∧ j' = j ∧ (getc es i j).isSome = true) := fun h => he ⟨h.1, h.2.1⟩
          rw [if_neg this] at hc'
          obtain ⟨v', hv', hV'⟩ := h3 i' j' c' hc'
          refine ⟨v', ?_, hV'.keep k⟩
          obtain ⟨hi', hj'⟩ := getc_lt hs hc'
          rw [Array.getElem?_setIfInBounds_ne (fun e => he (by have := mul_add_inj hj hj' e; exact ⟨this.1.symm, this.2.symm⟩))]
          exact hv'
      · intro e he
        simp only [setc] at he
        obtain ⟨idx, hidx, rfl⟩ := List.mem_iff_getElem.1 he
        have hs' := fun k hk => hs (es[k]'hk) (List.getElem_mem hk)
        rw [List.getElem_modify]
        split
        · refine ⟨by simp [hs'], ?_⟩
          rw [List.all_eq_true]
          intro x hx
          rcases List.mem_or_eq_of_mem_set hx with h | h
          · exact List.all_eq_true.1 (hs' idx (by simpa using hidx)).2 x h
          · rw [h]; exact hsc
        · exact hs' idx (by simpa using hidx)
    · rw [List.getElem?_set_ne h1] at hm
      have hlm : G.live m := g.mkLive hm hb'
      exact (g.arr m sz' es' gr' b' hm hb').keep k (heap_setCell_ne (fun e => h1 (g.inj n m b hl hlm hb (by rw [hb']; exact congrArg some e.symm))))
  · intro m sz' es' gr' hm hb'
    by_cases h1 : n = m
    · subst h1; rw [hb] at hb'; cases hb'
    · rw [List.getElem?_set_ne h1] at hm
      exact g.nil m sz' es' gr' hm hb'

/-- a name is given up -/
def Gh.kill (G : Gh) (n : Nat) : Gh := { G with live := fun m => G.live m ∧ m ≠ n }

theorem Gh.keepsKill (G : Gh) (w : World) (n : Nat) : Keeps G w (G.kill n) w :=
  ⟨Nat.le_refl _, fun _ _ _ h => h, fun _ _ h => h, fun t b h => by cases t <;> exact h, fun _ _ _ => rfl, fun _ _ => rfl⟩

theorem Gh.stpKill (G : Gh) (w : World) (n : Nat) : Stp G w (G.kill n) w where
  rest := Rest.refl w
  keep := G.keepsKill w n
  S := ⟨fun _ h => h, fun _ h => .inl h⟩
  locEq _ _ := rfl
  nilEq _ _ := Iff.rfl
  size := Nat.le_refl _
  frame _ _ _ := rfl
  own b hb := by
    rcases hb with ⟨m, hm, h⟩ | ⟨m, h⟩
    · exact .inl (.inl ⟨m, hm.1, h⟩)
    · exact .inl (.inr ⟨m, h⟩)

theorem Gam.drop {G w h} (g : Gam G w h) {n sz es gr} (hn : h[n]? = some (some (.arr sz es gr))) : Gam (G.kill n) w (h.set n none) := by
  have hlt : n < h.length := (List.getElem?_eq_some_iff.1 hn).1
  have k := G.keepsKill w n
  refine { len := by simp [Gh.kill, g.len], live := ?_, tag := ?_, inj := fun a b c h1 h2 => g.inj a b c h1.1 h2.1, liveTag := fun a b c h1 => g.liveTag a b c h1.1,
           liveS := fun a b h1 => g.liveS a b h1.1, tagInj := g.tagInj, tagS := g.tagS, tagLt := g.tagLt, sLt := g.sLt, arr := ?_, nil := ?_, nilLoc := g.nilLoc }
  · intro m
    by_cases h1 : n = m
    · subst h1
      exact ⟨fun h => absurd rfl h.2, fun ⟨⟨a, b, c, hh⟩, _⟩ => by simp [hlt] at hh⟩
    · rw [List.getElem?_set_ne h1]
      exact ⟨fun h => (g.live m).1 h.1, fun h => ⟨(g.live m).2 h, fun e => h1 e.symm⟩⟩
  · intro m b hb
    have hm : n ≠ m := by rintro rfl; rw [g.tag _ _ hb] at hn; simp at hn
    rw [List.getElem?_set_ne hm]; exact g.tag m b hb
  · intro m sz' es' gr' b hm hb
    by_cases h1 : n = m
    · subst h1; simp [hlt] at hm
    · rw [List.getElem?_set_ne h1] at hm
      exact (g.arr m sz' es' gr' b hm hb).keep k rfl
  · intro m sz' es' gr' hm hb
    by_cases h1 : n = m
    · subst h1; simp [hlt] at hm
    · rw [List.getElem?_set_ne h1] at hm
      exact g.nil m sz' es' gr' hm hb

end Glb
