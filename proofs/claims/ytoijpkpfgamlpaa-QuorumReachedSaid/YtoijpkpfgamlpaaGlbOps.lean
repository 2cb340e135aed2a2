/-
  A library of its own, for whatever program: what an operation is made into, and that it does what it says.
-/
import Derived.Test.YtoijpkpfgamlpaaGlbAppend
import Derived.WalkSpells
set_option linter.unusedSimpArgs false
set_option linter.unusedVariables false
namespace Glb
open Go

inductive Opd where
  | loc (s : Nat)
  | tmp (s : Nat)
  | cst (v : AV)

/-- operations that only read, the rarer -/
inductive XOp where
  | peq (neg : Bool) (x : Opd)
  | seq (neg : Bool) (plan : List (Nat × Bool)) (x y : Opd)
  | fld (o n : Nat) (agg : Bool) (x : Opd)
  | sidx (x i : Opd)
  | cap (x : Opd)
  | bclo (f : FuncId) (fs cs : List Opd)
  | bad

/-- operations that make and change nothing -/
inductive ROp where
  | mov (x : Opd)
  | pick (c a b : Opd)
  | build (zero : List AV) (ps : List (Nat × Nat × Opd))
  | load (agg : Bool) (n : Nat) (x : Opd)
  | chk (x : Opd)
  | bin (op : BinOp) (x y : Opd)
  | beq (op : BinOp) (x y : Opd)
  | nileq (neg : Bool) (x : Opd)
  | not (x : Opd)
  | neg (x : Opd)
  | conv (k : IntKind) (x : Opd)
  | slc (sz : Nat) (x : Opd) (lo hi mx : Option Opd)
  | off (o : Nat) (x : Opd)
  | idx (sz : Nat) (x i : Opd)
  | ext (x : Opd) (i : Nat)
  | len (x : Opd)
  | slen (x : Opd)
  | mnmx (isMax : Bool) (xs : List Opd)
  | clo (f : FuncId) (cs : List Opd)
  | x (o : XOp)

/-- operations that make or change memory -/
inductive HOp where
  | mk (cs : List AV)
  | box (x : Opd)
  | bsl (sz : Nat) (xs : List Opd)
  | mks (sz bytes : Nat) (zero : List AV) (l c : Opd)
  | store (n : Nat) (a x : Opd)
  | app (sz bytes : Nat) (x y : Opd)
  | appz (sz bytes : Nat) (zero : List AV) (x y : Opd)
  | clr (sz : Nat) (zero : List AV) (x : Opd)

inductive AOp where
  | r (o : ROp)
  | h (o : HOp)
  | call (f : FuncId) (args : List Opd)
  | callv (x : Opd) (args : List Opd)

/-! what they come to -/

def asInt? : AV → Option Int
  | .int _ n => some n
  | _ => none

def optInt (g : Opd → AV) : Option Opd → Option (Option Int)
  | none => some none
  | some x => match g x with
    | .int _ n => some (some n)
    | _ => none

def alen : AV → Option AV
  | .nils => some (.int .i64 0)
  | .ref _ _ _ len _ => some (.int .i64 len)
  | .vals _ _ _ es => some (.int .i64 es.length)
  | _ => none

def amnmx (isMax : Bool) : List AV → Option AV
  | .int k n :: r => aux k n r
  | _ => none
where
  aux (k : IntKind) (n : Int) : List AV → Option AV
    | [] => some (.int k n)
    | .int _ m :: r => aux k (if isMax then (if m > n then m else n) else (if m < n then m else n)) r
    | _ => none

/-- is it the kind of value that a slice is? -/
def sliceish : AV → Bool
  | .nils | .ref .. | .vals .. => true
  | _ => false

/-- is a pointer nil -/
def pnil : AV → Option Bool
  | .raw (.pointer none) => some true
  | .ptr _ _ _ _ => some false
  | .vptr _ _ => some false
  | _ => none

/-- are two structs of numbers and truths alike: which cells, and whether each is a number -/
def aEq : List (Nat × Bool) → List AV → List AV → Option Bool
  | [], _, _ => some true
  | (o, true) :: r, xs, ys => match xs[o]?, ys[o]? with
    | some (.int k a), some (.int k' b) => if k = k' then (if a = b then aEq r xs ys else some false) else none
    | _, _ => none
  | (o, false) :: r, xs, ys => match xs[o]?, ys[o]? with
    | some (.bool a), some (.bool b) => if a = b then aEq r xs ys else some false
    | _, _ => none

def xev (g : Opd → AV) : XOp → Option AV
  | .peq neg x => (pnil (g x)).map fun b => .bool (b != neg)
  | .seq neg plan x y => match g x, g y with
    | .agg xs, .agg ys => (aEq plan xs ys).map fun b => .bool (b != neg)
    | _, _ => none
  | .fld o n agg x => match g x with
    | .agg cs => if agg then (if o + n ≤ cs.length then some (.agg ((cs.drop o).take n)) else none) else cs[o]?
    | _ => none
  | .sidx x i => match g x, g i with
    | .str s, .int _ i => if 0 ≤ i then s[i.toNat]?.map fun b => .int .u8 b.toNat else none
    | _, _ => none
  | .bclo f fs cs => some (.clo f (fs.map g) (cs.map g))
  | .cap x => match g x with
    | .nils => some (.int .i64 0)
    | .ref _ _ _ _ (some c) => some (.int .i64 c)
    | .vals _ true _ es => some (.int .i64 es.length)
    | _ => none
  | .bad => none

def rev (g : Opd → AV) (h : AHeap) : ROp → Option AV
  | .mov x => some (g x)
  | .pick c a b => match g c with
    | .bool t => some (if t then g a else g b)
    | _ => none
  | .build zero ps => (afill zero (ps.map fun p => (p.1, p.2.1, g p.2.2))).map .agg
  | .load agg n x => aload h agg n (g x)
  | .chk x => match g x with
    | .ptr n sz i o => some (.ptr n sz i o)
    | .vptr t cs => some (.vptr t cs)
    | .iface t v => some (.iface t v)
    | .clo f fs cs => some (.clo f fs cs)
    | _ => none
  | .bin op x y => abin op (g x) (g y)
  | .beq op x y => match g x, g y with
    | .bool a, .bool b => bbin op a b
    | _, _ => none
  | .nileq neg x => if sliceish (g x) then (anil (g x)).map fun b => .bool (b != neg) else none
  | .not x => match g x with
    | .bool b => some (.bool !b)
    | _ => none
  | .neg x => match g x with
    | .int k n => some (.int k (k.wrap (0 - n)))
    | _ => none
  | .conv k x => match g x with
    | .int _ n => some (.int k (k.wrap n))
    | _ => none
  | .slc sz x lo hi mx => match optInt g lo, optInt g hi, optInt g mx with
    | some lo, some hi, some mx => aslice sz (g x) lo hi mx
    | _, _, _ => none
  | .off o x => afield o (g x)
  | .idx sz x i => aindex sz (g x) (g i)
  | .ext x i => match g x with
    | .tup cs => cs[i]?
    | _ => none
  | .len x => alen (g x)
  | .slen x => match g x with
    | .str s => some (.int .i64 s.size)
    | _ => none
  | .mnmx m xs => amnmx m (xs.map g)
  | .clo f cs => some (.clo f [] (cs.map g))
  | .x o => xev g o

/-- the cells of each of some values, each of one size -/
def cellsAll (sz : Nat) : List AV → Option (List (List AV))
  | [] => some []
  | x :: r => match x.cells?, cellsAll sz r with
    | some cs, some es => if cs.length = sz ∧ cs.all AV.scalar = true then some (cs :: es) else none
    | _, _ => none

/-- what makes one block: the value, by the block's name, and the block -/
def lightOf (g : Opd → AV) (nm : Nat) : HOp → Option (AV × ABlk)
  | .mk cs => some (.ptr nm cs.length 0 0, .arr cs.length [cs] false)
  | .box x => match (g x).cells? with
    | some cs => if cs.all AV.scalar then some (.ptr nm cs.length 0 0, .arr cs.length [cs] false) else none
    | none => none
  | .bsl sz xs =>
    match cellsAll sz (xs.map g) with
    | some es => some (.ref nm sz 0 xs.length (some xs.length), .arr sz es false)
    | none => none
  | .mks sz bytes zero l c => match g l, g c with
    | .int _ l, .int _ c => if 0 ≤ l ∧ l ≤ c ∧ c * bytes ≤ 2 ^ 46 then some (.ref nm sz 0 l.toNat (some c.toNat), .arr sz (List.replicate c.toNat zero) false) else none
    | _, _ => none
  | _ => none

def hev (g : Opd → AV) (h : AHeap) : HOp → Option (AV × AHeap)
  | .store n a x => (astore h n (g a) (g x)).map fun h' => (.top, h')
  | .app sz bytes x y => aappend h sz bytes (g x) (g y)
  | .appz sz bytes zero x y => aappendZ h sz bytes zero (g x) (g y)
  | .clr sz zero x => (aclear h sz zero (g x)).map fun h' => (.tup [], h')
  | ho => match lightOf g h.length ho with
    | some (v, b) => some (v, h ++ [some b])
    | none => none

/-! made out of the model's operations -/

def cd (keep : Nat → Bool) : Operand → Opd
  | .tmp s => if keep s then .loc s else .tmp s
  | .const v => .cst (ofV v)
  | .global g => .cst (.raw (.pointer (some ⟨g, 0, none⟩)))
  | .func f => .cst (.clo f [] [])

/-- size, bytes and zero of a type -/
def tinfo (P : Program) (t : TypeId) : Option (Nat × Nat × Value) :=
  match P.info? t with
  | some i => i.zero.map fun z => (i.size, i.bytes, z)
  | none => none

def isAggT (P : Program) (t : TypeId) : Option Bool :=
  match P.underlying t with
  | some (.struct _) | some (.array _ _) => some true
  | some _ => some false
  | none => none

def elemT (P : Program) (t : TypeId) : Option TypeId :=
  match P.underlying t with
  | some (.slice e) => some e
  | _ => none

/-- which parts of a struct are laid where -/
def places (P : Program) (fs : Array Field) (tr : Operand → Opd) : List (Nat × Operand) → Option (List (Nat × Nat × Opd))
  | [] => some []
  | (i, x) :: r => match fs[i]?, places P fs tr r with
    | some f, some l => some ((f.offset, P.cellsOf f.type, tr x) :: l)
    | _, _ => none

def inOrder : Nat → List (Nat × Operand) → Bool
  | _, [] => true
  | k, (i, _) :: r => i == k && inOrder (k + 1) r

def cR0 (P : Program) (tr : Operand → Opd) (o : Oper) : Option ROp :=
  match o.op with
  | .move x => some (.mov (tr x))
  | .assign x => some (.mov (tr x))
  | .pick c a b => some (.pick (tr c) (tr a) (tr b))
  | .build t ps =>
    match P.underlying t, tinfo P t with
    | some (.struct fs), some (_, _, z) =>
      if fs.toList.all (fun f => (P.info? f.type).isSome) then (places P fs tr ps.toList).map (.build (z.cells.toList.map ofV1)) else none
    | _, _ => none
  | .load t x => match isAggT P t, P.info? t with
    | some a, some i => some (.load a i.size (tr x))
    | _, _ => none
  | .nilCheck x => some (.chk (tr x))
  | .binOp op t x y _ =>
    match y with
    | .const (.slice none 0 0) => match P.underlying t, op with
      | some (.slice _), .eql => some (.nileq false (tr x))
      | some (.slice _), .neq => some (.nileq true (tr x))
      | _, _ => none
    | _ =>
      match P.underlying t with
      | some (.int _) | some .string => some (.bin op (tr x) (tr y))
      | some .bool => some (.beq op (tr x) (tr y))
      | _ => none
  | .unOp .not _ x => some (.not (tr x))
  | .unOp .neg _ x => some (.neg (tr x))
  | .convert s d x => match P.underlying s, P.underlying d with
    | some (.int _), some (.int k) => some (.conv k (tr x))
    | _, _ => none
  | .slice t x lo hi mx =>
    match elemT P t with
    | some e => match P.info? e with
      | some i => if mx.isSome && !hi.isSome then none else some (.slc i.size (tr x) (lo.map (tr)) (hi.map (tr)) (mx.map (tr)))
      | none => none
    | none => none
  | .fieldAddr t x k =>
    match P.underlying t with
    | some (.struct fs) => match fs[k]? with
      | some f => match P.info? f.type with
        | some i => if i.size = 0 then none else some (.off f.offset (tr x))
        | none => none
      | none => none
    | _ => none
  | .indexAddr t x i =>
    match elemT P t with
    | some e => match P.info? e with
      | some inf => some (.idx inf.size (tr x) (tr i))
      | none => none
    | none => none
  | .extract x i => some (.ext (tr x) i)
  | .call { callee := .builtin .len, args, argTypes } =>
    match args.toList, argTypes.toList with
    | [x], [t] => match P.underlying t with
      | some (.slice _) => some (.len (tr x))
      | some .string => some (.slen (tr x))
      | _ => none
    | _, _ => none
  | .call { callee := .builtin .min, args, .. } => some (.mnmx false (args.toList.map (tr)))
  | .call { callee := .builtin .max, args, .. } => some (.mnmx true (args.toList.map (tr)))
  | .makeFunc (.func f) first caps => if first.size = 0 then some (.clo f (caps.toList.map (tr))) else none
  | _ => none

def cH (P : Program) (tr : Operand → Opd) (o : Oper) : Option HOp :=
  match o.op with
  | .alloc t => match tinfo P t with
    | some (_, _, z) => if (z.cells.toList.map ofV1).all AV.scalar then some (.mk (z.cells.toList.map ofV1)) else none
    | none => none
  | .box _ x => some (.box (tr x))
  | .buildSlice t len ps =>
    match elemT P t with
    | some e => match tinfo P e with
      | some (sz, _, z) => if inOrder 0 ps.toList && ps.size == len && decide (z.cells.size = sz) && decide (len * sz ≤ 2 ^ 24) then some (.bsl sz (ps.toList.map fun p => tr p.2)) else none
      | none => none
    | none => none
  | .makeSlice t l c =>
    match elemT P t with
    | some e => match tinfo P e with
      | some (sz, bytes, z) => if z.cells.size = sz ∧ 0 < bytes ∧ (z.cells.toList.map ofV1).all AV.scalar then some (.mks sz bytes (z.cells.toList.map ofV1) (tr l) (tr c)) else none
      | none => none
    | none => none
  | .store t a x => match P.info? t with
    | some i => some (.store i.size (tr a) (tr x))
    | none => none
  | .call { callee := .builtin .append, args, argTypes } =>
    match args.toList, argTypes.toList with
    | [x, y], [s, t] => match elemT P s with
      | some e => match tinfo P e with
        | some (sz, bytes, z) => if z.cells.size = sz ∧ 0 < bytes then (match P.underlying t with
          | some (.slice _) => some (.app sz bytes (tr x) (tr y))
          | some (.int _) => if (z.cells.toList.map ofV1).all AV.scalar then some (.appz sz bytes (z.cells.toList.map ofV1) (tr x) (tr y)) else none
          | _ => none) else none
        | none => none
      | none => none
    | _, _ => none
  | .call { callee := .builtin .clear, args, argTypes } =>
    match args.toList, argTypes.toList with
    | [x], [s] => match elemT P s with
      | some e => match tinfo P e with
        | some (sz, _, z) => if z.cells.size = sz ∧ (z.cells.toList.map ofV1).all AV.scalar then some (.clr sz (z.cells.toList.map ofV1) (tr x)) else none
        | none => none
      | none => none
    | _, _ => none
  | _ => none

/-- the plan by which two structs of numbers and truths are compared -/
def eqPlan (P : Program) : List Field → Option (List (Nat × Bool))
  | [] => some []
  | f :: fs => if f.name ≠ "_" then (match P.underlying f.type, eqPlan P fs with
      | some (.int _), some r => some ((f.offset, true) :: r)
      | some .bool, some r => some ((f.offset, false) :: r)
      | _, _ => none) else eqPlan P fs

def cX (P : Program) (tr : Operand → Opd) (o : Oper) : Option XOp :=
  match o.op with
  | .binOp op t x y _ =>
    match P.underlying t with
    | some (.pointer _) => match y with
      | .const (.pointer none) => match op with
        | .eql => some (.peq false (tr x))
        | .neq => some (.peq true (tr x))
        | _ => some .bad
      | _ => some .bad
    | some (.struct fs) => if P.stoodInHeld t = false ∧ P.eqGuardType P.depth t = false then (match op, eqPlan P fs.toList with
        | .eql, some l => some (.seq false l (tr x) (tr y))
        | .neq, some l => some (.seq true l (tr x) (tr y))
        | _, _ => some .bad) else some .bad
    | _ => some .bad
  | .field t x k =>
    match P.underlying t with
    | some (.struct fs) => match fs[k]? with
      | some f => match P.info? f.type, isAggT P f.type with
        | some i, some b => some (.fld f.offset i.size b (tr x))
        | _, _ => some .bad
      | none => some .bad
    | _ => some .bad
  | .index t x i => match P.underlying t with
    | some .string => some (.sidx (tr x) (tr i))
    | _ => some .bad
  | .makeFunc (.func f) first caps => some (.bclo f (first.toList.map tr) (caps.toList.map tr))
  | .call { callee := .builtin .cap, args, argTypes } =>
    match args.toList, argTypes.toList with
    | [x], [t] => match P.underlying t with
      | some (.slice _) => some (.cap (tr x))
      | _ => some .bad
    | _, _ => some .bad
  | .call { callee := .value _, .. } => none
  | _ => if (cH P tr o).isSome then none else some .bad

def cR (P : Program) (tr : Operand → Opd) (o : Oper) : Option ROp :=
  match cR0 P tr o with
  | some r => some r
  | none => (cX P tr o).map .x

def cOp (P : Program) (tr : Operand → Opd) (o : Oper) : Option AOp :=
  match cR P tr o with
  | some r => some (.r r)
  | none => match cH P tr o with
    | some h => some (.h h)
    | none => match o.op with
      | .call { callee := .value (.func f), args, .. } => some (.call f (args.toList.map (tr)))
      | .call { callee := .value x, args, .. } => some (.callv (tr x) (args.toList.map (tr)))
      | _ => none

/-! and that these do what they say -/

section
variable {P : Program} {G : Gh} {w : World} {h : AHeap} {tr : Operand → Opd} {g : Opd → AV} {a : Act}

/-- the operands stand for the values -/
def Stands (G : Gh) (w : World) (tr : Operand → Opd) (g : Opd → AV) (a : Act) : Prop := ∀ x, V G w (g (tr x)) (a.eval x)

theorem run_zero {t : TypeId} {sz bytes : Nat} {z : Value} (ht : tinfo P t = some (sz, bytes, z)) : (zeroValue t).run P w = .ok z w := by
  unfold tinfo at ht
  split at ht
  · rename_i i hi
    cases hz : i.zero with
    | none => simp [hz] at ht
    | some z' => simp [hz] at ht; simp [zeroValue, run_typeInfo w hi, hz, ht.2.2]
  · cases ht

theorem info_of_tinfo {t : TypeId} {sz bytes : Nat} {z : Value} (ht : tinfo P t = some (sz, bytes, z)) : ∃ i, P.info? t = some i ∧ i.size = sz ∧ i.bytes = bytes ∧ i.zero = some z := by
  unfold tinfo at ht
  split at ht
  · rename_i i hi
    cases hz : i.zero with
    | none => simp [hz] at ht
    | some z' => simp [hz] at ht; exact ⟨i, hi, ht.1, ht.2.1, by rw [hz, ht.2.2]⟩
  · cases ht

theorem run_size {t : TypeId} {i : TypeInfo} (hi : P.info? t = some i) : (Go.sizeOf t).run P w = .ok i.size w := by
  simp [Go.sizeOf, run_typeInfo w hi]

theorem run_isAggT {t : TypeId} {b : Bool} (hb : isAggT P t = some b) : (isAgg t).run P w = .ok b w := by
  unfold isAggT at hb
  split at hb
  · rename_i h; cases hb; simp [isAgg, run_underlying h]
  · rename_i h; cases hb; simp [isAgg, run_underlying h]
  · rename_i d h1 h2 h; cases hb
    simp only [isAgg, Sem.run_bind, run_underlying h, Result.andThen_ok]
    rfl
  · cases hb

theorem under_elem {t e : TypeId} (he : elemT P t = some e) : P.underlying t = some (.slice e) := by
  unfold elemT at he
  split at he
  · rename_i h; cases he; exact h
  · cases he

theorem mnmx_sound (isMax : Bool) : ∀ (xs : List AV) (vs : List Value) (r : AV), amnmx isMax xs = some r → xs.length = vs.length →
    (∀ (j : Nat) (c : AV) (v : Value), xs[j]? = some c → vs[j]? = some v → V G w c v) →
    ∃ u, ((if isMax then Builtin.max_ #[] 0 vs.toArray else Builtin.min_ #[] 0 vs.toArray)).run P w = .ok u w ∧ V G w r u := by
  intro xs vs r hr hl hV
  unfold amnmx at hr
  split at hr
  · rename_i k n rest
    cases vs with
    | nil => simp at hl
    | cons v vr =>
      have h0 := hV 0 _ v rfl rfl
      cases h0
      have key : ∀ (l : List AV) (vl : List Value) (n : Int), amnmx.aux isMax k n l = some r → l.length = vl.length →
          (∀ (j : Nat) (c : AV) (v : Value), l[j]? = some c → vl[j]? = some v → V G w c v) →
          ∃ u, (vl.foldlM (if isMax then Builtin.max2 else Builtin.min2) (.int k n) : Sem Value).run P w = .ok u w ∧ V G w r u := by
        intro l
        induction l with
        | nil =>
          intro vl n h hl _
          have : vl = [] := List.eq_nil_of_length_eq_zero (by simpa using hl.symm)
          subst this
          simp only [amnmx.aux, Option.some.injEq] at h
          subst h
          exact ⟨_, rfl, .int _ _⟩
        | cons c l ih =>
          intro vl n h hl hV
          cases vl with
          | nil => simp at hl
          | cons v vl =>
            have h1 := hV 0 c v rfl rfl
            cases c <;> simp only [amnmx.aux, reduceCtorEq] at h
            cases h1
            obtain ⟨u, hu, hVu⟩ := ih vl _ h (by simpa using hl) (fun j c v a b => hV (j + 1) c v (by simpa using a) (by simpa using b))
            refine ⟨u, ?_, hVu⟩
            rw [← hu]
            cases isMax <;> simp [List.foldlM_cons, Builtin.max2, Builtin.min2]
      obtain ⟨u, hu, hVu⟩ := key rest vr n hr (by simpa using hl) (fun j c v a b => hV (j + 1) c v (by simpa using a) (by simpa using b))
      refine ⟨u, ?_, hVu⟩
      rw [← hu]
      cases isMax <;> simp [Builtin.max_, Builtin.min_]
  · cases hr

theorem VL.map (hs : Stands G w tr g a) (xs : List Operand) :
    ∀ (j : Nat) (c : AV) (v : Value), ((xs.map (tr)).map g)[j]? = some c → (xs.map a.eval)[j]? = some v → V G w c v := by
  intro j c v hc hv
  simp only [List.getElem?_map, Option.map_eq_some_iff] at hc hv
  obtain ⟨_, ⟨x, hx, rfl⟩, rfl⟩ := hc
  obtain ⟨y, hy, rfl⟩ := hv
  rw [hx] at hy; cases hy
  exact hs x

theorem optInt_sound (hs : Stands G w tr g a) {x : Option Operand} {r : Option Int} (h : optInt g (x.map (tr)) = some r) :
    ∃ k, x.map a.eval = r.map (.int k) := by
  cases x with
  | none => simp only [Option.map_none, optInt, Option.some.injEq] at h; subst h; exact ⟨.i64, rfl⟩
  | some x =>
    simp only [Option.map_some, optInt] at h
    split at h
    · rename_i k n hx
      cases h
      have := hs x
      rw [hx] at this
      generalize hv : a.eval x = v at this
      cases this
      exact ⟨k, by simp [hv]⟩
    · cases h


theorem anil_slice {x : AV} {b : Bool} {v : Value} {t e : TypeId} (hx : V G w x v) (hn : anil x = some b) (hu : P.underlying t = some (.slice e)) (ox oy : Operand) :
    ((do eqGuard .eql t ox oy v (.slice none 0 0); binOp .eql t v (.slice none 0 0) : Sem Value).run P w = .ok (.bool b) w ∧
    (do eqGuard .neq t ox oy v (.slice none 0 0); binOp .neq t v (.slice none 0 0) : Sem Value).run P w = .ok (.bool !b) w) ∨
    ∀ a l c, v ≠ .slice a l c := by
  have key : ∀ (a : Option Addr) (l c : Nat), v = .slice a l c → a.isNone = b →
      ((do eqGuard .eql t ox oy v (.slice none 0 0); binOp .eql t v (.slice none 0 0) : Sem Value).run P w = .ok (.bool b) w ∧
      (do eqGuard .neq t ox oy v (.slice none 0 0); binOp .neq t v (.slice none 0 0) : Sem Value).run P w = .ok (.bool !b) w) := by
    rintro a l c rfl rfl
    have e : (Op.equal t (.slice a l c) (.slice none 0 0)).run P w = .ok a.isNone w := by
      have : ∀ d, (Op.equalIn (d + 1) t (.slice a l c) (.slice none 0 0)).run P w = .ok a.isNone w := by
        intro d
        simp only [Op.equalIn, Sem.run_bind, run_underlying hu, Result.andThen_ok]
        cases a <;> rfl
      exact this 9999
    constructor
    · have : (eqGuard .eql t ox oy (.slice a l c) (.slice none 0 0)).run P w = .ok () w := rfl
      simp only [Sem.run_bind, this, Result.andThen_ok, binOp, e, Sem.run_pure]
    · have : (eqGuard .neq t ox oy (.slice a l c) (.slice none 0 0)).run P w = .ok () w := rfl
      simp only [Sem.run_bind, this, Result.andThen_ok, binOp, e, Sem.run_pure]
  cases hx with
  | nils => simp only [anil, Option.some.injEq] at hn; exact .inl (key _ _ _ rfl hn)
  | ref _ _ _ _ _ c ty m b' =>
    simp only [anil] at hn
    split at hn
    · cases hn; exact .inl (key _ _ _ rfl rfl)
    · cases hn
  | refNil => simp [anil] at hn
  | vals _ _ _ es a cap =>
    simp only [anil] at hn
    split at hn
    · cases hn; exact .inl (key _ _ _ rfl rfl)
    · cases hn
  | valsNil => simp [anil] at hn
  | ptr => exact .inr (fun _ _ _ h => by cases h)
  | vptr => exact .inr (fun _ _ _ h => by cases h)
  | iface => exact .inr (fun _ _ _ h => by cases h)
  | raw v =>
    refine .inr (fun a l c h => ?_)
    subst h
    simp [anil] at hn
  | top => simp [anil] at hn
  | bool => simp [anil] at hn
  | int => simp [anil] at hn
  | str => simp [anil] at hn
  | agg => simp [anil] at hn
  | tup => simp [anil] at hn
  | clo => simp [anil] at hn

theorem run_builtin (ρ : Operand → Value) (dst : Option Tmp) (b : Builtin) (args : Array Operand) (tys : Array TypeId) (ty : TypeId) (pos : String) (after : Array Edge) (guard : Option (Nat × Bool)) :
    (execOp ρ { dst, op := .call { callee := .builtin b, args, argTypes := tys }, type := ty, pos, after, guard }).run P w =
      (builtin b tys ty (args.map fun | .const _ => true | _ => false) (args.map ρ)).run P w := by
  simp only [execOp, resolve, invoke, Sem.run_bind, Sem.run_pure, Result.andThen_ok]
  rfl

theorem places_sound {fs : Array Field} (hs : Stands G w tr g a) : ∀ (ps : List (Nat × Operand)) (l : List (Nat × Nat × Opd)), places P fs tr ps = some l →
    l.length = ps.length ∧ ∀ (j i : Nat) (v : Value) (o n : Nat) (x : AV), (ps.map fun (i, x) => (i, a.eval x))[j]? = some (i, v) → (l.map fun p => (p.1, p.2.1, g p.2.2))[j]? = some (o, n, x) →
      (fs.map fun f => (f.offset, P.cellsOf f.type))[i]? = some (o, n) ∧ V G w x v := by
  intro ps
  induction ps with
  | nil => intro l hl; simp only [places, Option.some.injEq] at hl; subst hl; exact ⟨rfl, fun j i v o n x h => by simp at h⟩
  | cons p ps ih =>
    intro l hl
    obtain ⟨i0, x0⟩ := p
    simp only [places] at hl
    split at hl
    · rename_i f l' hf hl'
      cases hl
      obtain ⟨h1, h2⟩ := ih l' hl'
      refine ⟨by simp [h1], fun j i v o n x hp hq => ?_⟩
      cases j with
      | zero =>
        simp at hp hq
        obtain ⟨rfl, rfl⟩ := hp
        obtain ⟨rfl, rfl, rfl⟩ := hq
        exact ⟨by simp [hf], hs x0⟩
      | succ j => exact h2 j i v o n x (by simpa using hp) (by simpa using hq)
    · cases hl

theorem run_mapM_places (fs : List Field) (hf : ∀ f ∈ fs, (P.info? f.type).isSome) :
    (fs.mapM fun f => do pure (f.offset, ← Go.sizeOf f.type) : Sem (List (Nat × Nat))).run P w = .ok (fs.map fun f => (f.offset, P.cellsOf f.type)) w := by
  induction fs with
  | nil => rfl
  | cons f fs ih =>
    obtain ⟨i, hi⟩ := Option.isSome_iff_exists.1 (hf f (by simp))
    simp only [List.mapM_cons, Sem.run_bind, run_sizeOf w hi, Result.andThen_ok, Sem.run_pure, ih (fun f h => hf f (by simp [h])), List.map_cons]

theorem alen_sound {q r : AV} {v : Value} {t e : TypeId} (hq : V G w q v) (hr : alen q = some r) (hu : P.underlying t = some (.slice e)) (ty : TypeId) :
    ∃ u, (Builtin.len_ #[t] ty #[v]).run P w = .ok u w ∧ V G w r u := by
  have key : ∀ (a : Option Addr) (l c : Nat), (Builtin.len_ #[t] ty #[.slice a l c]).run P w = .ok (.int .i64 l) w := by
    intro a l c
    simp only [Builtin.len_, List.getElem?_toArray, List.getElem?_cons_zero, Sem.run_bind, run_underlying hu, Result.andThen_ok, Sem.run_pure, goInt]
  cases hq <;> simp only [alen, Option.some.injEq, reduceCtorEq] at hr <;> subst hr <;> exact ⟨_, key _ _ _, .int _ _⟩

theorem rop0_sound (gm : Gam G w h) (hs : Stands G w tr g a) {o : Oper} {ro : ROp} (hc : cR0 P tr o = some ro) {r : AV} (hr : rev g h ro = some r) :
    ∃ v, (execOp a.eval o).run P w = .ok (.value v) w ∧ V G w r v := by
  obtain ⟨dst, op, type, pos, after, guard⟩ := o
  have up : ∀ {s : Sem Value}, (∃ v, s.run P w = .ok v w ∧ V G w r v) → ∃ v, ((do pure (.value (← s)) : Sem Next)).run P w = .ok (.value v) w ∧ V G w r v := by
    rintro s ⟨v, hv, hV⟩; exact ⟨v, by simp [hv], hV⟩
  unfold cR0 at hc
  simp only at hc
  split at hc
  · rename_i x; cases hc; simp only [rev, Option.some.injEq] at hr; subst hr; exact ⟨_, rfl, hs x⟩
  · rename_i x; cases hc; simp only [rev, Option.some.injEq] at hr; subst hr; exact ⟨_, rfl, hs x⟩
  · -- pick
    rename_i c x y; cases hc
    simp only [rev] at hr
    split at hr
    · rename_i t ht
      cases hr
      have h0 := hs c
      rw [ht] at h0
      generalize hv : a.eval c = v at h0
      cases h0
      refine ⟨if t then a.eval x else a.eval y, ?_, ?_⟩
      · simp only [execOp, hv, asBool]; cases t <;> rfl
      · cases t
        · exact hs y
        · exact hs x
    · cases hr
  · -- build
    rename_i t ps
    split at hc <;> (try cases hc)
    rename_i fs sz0 b0 z hu hz
    split at hc <;> (try cases hc)
    rename_i hall
    simp only [Option.map_eq_some_iff] at hc
    obtain ⟨l, hl, rfl⟩ := hc
    simp only [rev, Option.map_eq_some_iff] at hr
    obtain ⟨cells, hcells, rfl⟩ := hr
    obtain ⟨hlen, hpl⟩ := places_sound (P := P) hs ps.toList l hl
    have hz0 : VL G w (z.cells.toList.map ofV1) z.cells := VL.ofV1 G w z.cells
    obtain ⟨us, hus, hVL⟩ := afill_sound (G := G) (w := w) (fun i => (fs.map fun f => (f.offset, P.cellsOf f.type))[i]?) (ps.toList.map fun (i, x) => (i, a.eval x)) (l.map fun p => (p.1, p.2.1, g p.2.2)) _ z.cells cells hz0
      (by simp [hlen]) hpl hcells
    refine up ⟨.agg us, ?_, .agg _ _ hVL.1 hVL.2⟩
    have hm : (fs.mapM fun f => do pure (f.offset, ← Go.sizeOf f.type) : Sem (Array (Nat × Nat))).run P w = .ok (fs.map fun f => (f.offset, P.cellsOf f.type)) w := by
      have := run_mapM_places (P := P) (w := w) fs.toList (fun f h => List.all_eq_true.1 hall f h)
      rw [Array.mapM_eq_mapM_toList]
      have e : ∀ (x : Sem (List (Nat × Nat))), (Functor.map List.toArray x : Sem (Array (Nat × Nat))).run P w = (x.run P w).andThen fun a w' => .ok a.toArray w' := fun x => Sem.run_bind' P x _ w
      rw [e, this, Result.andThen_ok]
      congr 1
      apply Array.ext'
      simp
    have hpz : ((ps.map fun (i, x) => (i, a.eval x)).toList) = ps.toList.map fun (i, x) => (i, a.eval x) := by simp
    simp only [Instr.build, Sem.run_bind, run_zero hz, Result.andThen_ok, run_underlying hu, hm, hpz, hus, Sem.run_pure]
  · -- load
    rename_i t x
    split at hc
    · rename_i b i hb hi
      cases hc
      simp only [rev] at hr
      exact up (aload_sound gm (hs x) hr (run_isAggT hb) (run_size hi))
    · cases hc
  · -- nilCheck
    rename_i x; cases hc
    simp only [rev] at hr
    have h0 := hs x
    split at hr <;> rename_i hx <;> (try cases hr) <;> rw [hx] at h0 <;> generalize hv : a.eval x = v at h0
    · cases h0 with | ptr _ _ _ _ b hn hb => exact ⟨_, by simp only [execOp, hv]; rfl, .ptr _ _ _ _ b hn hb⟩
    · cases h0 with | vptr _ _ b off f h1 h2 h3 => exact ⟨_, by simp only [execOp, hv]; rfl, .vptr _ _ b off f h1 h2 h3⟩
    · cases h0 with | iface _ _ v' h1 => exact ⟨_, by simp only [execOp, hv]; rfl, .iface _ _ _ h1⟩
    · cases h0 with | clo _ _ us _ vs h1 h2 h3 h4 => exact ⟨_, by simp only [execOp, hv]; rfl, .clo _ _ us _ vs h1 h2 h3 h4⟩
  · -- binOp
    rename_i bop t x y yt
    have sl : ∀ {b}, sliceish (g (tr x)) = true → anil (g (tr x)) = some b → ∀ e, P.underlying t = some (.slice e) → ∀ oy,
        ((do eqGuard .eql t x oy (a.eval x) (.slice none 0 0); binOp .eql t (a.eval x) (.slice none 0 0) : Sem Value).run P w = .ok (.bool b) w ∧
        (do eqGuard .neq t x oy (a.eval x) (.slice none 0 0); binOp .neq t (a.eval x) (.slice none 0 0) : Sem Value).run P w = .ok (.bool !b) w) := by
      intro b h1 h2 e hu oy
      refine (anil_slice (P := P) (hs x) h2 hu x oy).resolve_right (fun hne => ?_)
      have h0 := hs x
      generalize hv : a.eval x = v at *
      generalize g (tr x) = q at *
      cases h0 <;> simp [sliceish] at h1
      · exact hne _ _ _ rfl
      · exact hne _ _ _ rfl
      · exact hne _ _ _ rfl
      · exact hne _ _ _ rfl
      · exact hne _ _ _ rfl
    split at hc
    · split at hc
      · cases hc; simp only [rev] at hr
        rename_i e hu
        split at hr
        · rename_i hsl
          simp only [Option.map_eq_some_iff] at hr
          obtain ⟨b, hb, rfl⟩ := hr
          refine up ⟨_, (sl hsl hb e hu _).1, ?_⟩
          cases b <;> exact .bool _
        · cases hr
      · cases hc; simp only [rev] at hr
        rename_i e hu
        split at hr
        · rename_i hsl
          simp only [Option.map_eq_some_iff] at hr
          obtain ⟨b, hb, rfl⟩ := hr
          refine up ⟨_, (sl hsl hb e hu _).2, ?_⟩
          cases b <;> exact .bool _
        · cases hr
      · cases hc
    · split at hc <;> (try cases hc) <;> simp only [rev] at hr
      · exact up (abin_sound (hs x) (hs y) hr t x y)
      · exact up (abin_sound (hs x) (hs y) hr t x y)
      · rename_i hu
        split at hr
        · rename_i p q hp hq
          have h1 := hs x
          have h2 := hs y
          rw [hp] at h1; rw [hq] at h2
          generalize hv1 : a.eval x = v1 at h1
          generalize hv2 : a.eval y = v2 at h2
          cases h1; cases h2
          have := up (bbin_sound (P := P) (G := G) (w := w) hr t x y hu)
          simp only [execOp, hv1, hv2]
          exact this
        · cases hr
  · -- not
    rename_i t x; cases hc
    simp only [rev] at hr
    split at hr
    · rename_i b hb
      cases hr
      have h1 := hs x
      rw [hb] at h1
      generalize hv1 : a.eval x = v1 at h1
      cases h1
      exact ⟨_, by simp only [execOp, hv1, Op.unary, Sem.run_bind, Sem.run_pure, Result.andThen_ok], .bool _⟩
    · cases hr
  · -- neg
    rename_i t x; cases hc
    simp only [rev] at hr
    split at hr
    · rename_i k n hb
      cases hr
      have h1 := hs x
      rw [hb] at h1
      generalize hv1 : a.eval x = v1 at h1
      cases h1
      exact ⟨_, by simp only [execOp, hv1, Op.unary, Op.intArith, Sem.run_bind, Sem.run_pure, Result.andThen_ok], .int _ _⟩
    · cases hr
  · -- convert
    rename_i s d x
    split at hc <;> (try cases hc)
    rename_i k' k hu hd
    simp only [rev] at hr
    split at hr
    · rename_i k0 n hb
      cases hr
      have h1 := hs x
      rw [hb] at h1
      generalize hv1 : a.eval x = v1 at h1
      cases h1
      exact ⟨_, by simp only [execOp, hv1, convert, run_underlying hu, run_underlying hd, Conv.intToInt, Sem.run_bind, Sem.run_pure, Result.andThen_ok], .int _ _⟩
    · cases hr
  · -- slice
    rename_i t x lo hi mx
    split at hc <;> (try cases hc)
    rename_i e he
    split at hc <;> (try cases hc)
    rename_i i hinf
    split at hc <;> (try cases hc)
    rename_i hmx
    simp only [rev] at hr
    split at hr
    · rename_i lo' hi' mx' h1 h2 h3
      obtain ⟨k1, e1⟩ := optInt_sound hs h1
      obtain ⟨k2, e2⟩ := optInt_sound hs h2
      obtain ⟨k3, e3⟩ := optInt_sound hs h3
      have := aslice_sound (P := P) (hs x) hr k1 k2 k3 (by
        intro hm
        cases mx with
        | none => simp [optInt] at h3; subst h3; simp at hm
        | some _ => cases hi with
          | none => simp at hmx
          | some _ => cases hi' with
            | none => simp at e2
            | some _ => rfl) (under_elem he) (run_size hinf)
      have := up this
      simp only [execOp, e1, e2, e3]
      exact this
    · cases hr
  · -- fieldAddr
    rename_i t x k
    split at hc <;> (try cases hc)
    rename_i fs hu
    split at hc <;> (try cases hc)
    rename_i f hf
    split at hc <;> (try cases hc)
    rename_i i hi
    split at hc <;> (try cases hc)
    rename_i h0
    simp only [rev] at hr
    exact up (afield_sound (hs x) hr hu hf rfl (run_size hi) h0)
  · -- indexAddr
    rename_i t x i
    split at hc <;> (try cases hc)
    rename_i e he
    split at hc <;> (try cases hc)
    rename_i inf hi
    simp only [rev] at hr
    exact up (aindex_sound (hs x) (hs i) hr (under_elem he) (run_size hi))
  · -- extract
    rename_i x i; cases hc
    simp only [rev] at hr
    split at hr
    · rename_i cs hx
      have h1 := hs x
      rw [hx] at h1
      generalize hv1 : a.eval x = v1 at h1
      cases h1 with
      | tup _ vs hl hV =>
        have hlt := (List.getElem?_eq_some_iff.1 hr).1
        have hv : vs[i]? = some (vs[i]'(by rw [← hl]; exact hlt)) := by simp [← hl, hlt]
        exact ⟨_, by simp only [execOp, hv1, Instr.extract, hv, Sem.run_bind, Sem.run_pure, Result.andThen_ok], hV i r _ hr hv⟩
    · cases hr
  · -- len
    rename_i args argTypes
    split at hc <;> (try cases hc)
    rename_i x t hargs htys
    obtain ⟨rfl⟩ : args = #[x] := by cases args; simp at hargs; simp [hargs]
    obtain ⟨rfl⟩ : argTypes = #[t] := by cases argTypes; simp at htys; simp [htys]
    have h1 := hs x
    split at hc <;> (try cases hc) <;> rename_i hu <;> simp only [rev] at hr
    · obtain ⟨u, hu', hV⟩ := alen_sound (P := P) h1 hr hu type
      refine ⟨u, ?_, hV⟩
      rw [run_builtin]
      simp only [builtin, List.map_toArray, List.map_cons, List.map_nil, Sem.run_bind, hu', Result.andThen_ok, Sem.run_pure]
    · split at hr
      · rename_i s hq
        cases hr
        rw [hq] at h1
        generalize hv1 : a.eval x = v1 at h1
        cases h1
        refine ⟨.int .i64 s.size, ?_, .int _ _⟩
        rw [run_builtin]
        simp only [builtin, List.map_toArray, List.map_cons, List.map_nil, hv1, Builtin.len_, List.getElem?_toArray, List.getElem?_cons_zero, Sem.run_bind, run_underlying hu, Result.andThen_ok, Sem.run_pure, goInt]
      · cases hr
  · -- min
    rename_i args ty
    cases hc
    simp only [rev] at hr
    obtain ⟨u, hu, hV⟩ := mnmx_sound (P := P) (G := G) (w := w) false _ (args.toList.map a.eval) r hr (by simp) (VL.map hs args.toList)
    refine ⟨u, ?_, hV⟩
    rw [run_builtin]
    simp only [builtin, Sem.run_bind]
    have : Builtin.min_ ty type (args.map a.eval) = Builtin.min_ #[] 0 (args.toList.map a.eval).toArray := by simp [Builtin.min_]
    rw [this]
    simp only [Bool.false_eq_true, if_false] at hu
    simp [hu]
  · -- max
    rename_i args ty
    cases hc
    simp only [rev] at hr
    obtain ⟨u, hu, hV⟩ := mnmx_sound (P := P) (G := G) (w := w) true _ (args.toList.map a.eval) r hr (by simp) (VL.map hs args.toList)
    refine ⟨u, ?_, hV⟩
    rw [run_builtin]
    simp only [builtin, Sem.run_bind]
    have : Builtin.max_ ty type (args.map a.eval) = Builtin.max_ #[] 0 (args.toList.map a.eval).toArray := by simp [Builtin.max_]
    rw [this]
    simp only [if_true] at hu
    simp [hu]
  · -- makeFunc
    rename_i f first caps
    split at hc <;> (try cases hc)
    rename_i h0
    simp only [rev, Option.some.injEq] at hr
    subst hr
    have hf : first = #[] := Array.eq_empty_of_size_eq_zero h0
    subst hf
    refine ⟨_, by simp only [execOp, Instr.makeFunc, Sem.run_bind, Sem.run_pure, Result.andThen_ok]; rfl, ?_⟩
    have : ((#[] : Array Operand).map a.eval) = #[] := by simp
    rw [this]
    refine .clo _ _ _ _ _ rfl (fun j c v h => by simp at h) (by simp) (fun j c v hc hv => ?_)
    exact VL.map hs caps.toList j c v (by simpa using hc) (by simpa using hv)
  · cases hc


theorem eqFields_sound {d : Nat} : ∀ (fs : List Field) (plan : List (Nat × Bool)) (cs ds : List AV) (xs ys : Array Value) (r : Bool), eqPlan P fs = some plan → VL G w cs xs → VL G w ds ys →
    aEq plan cs ds = some r → (Op.eqFields (d + 1) xs ys fs).run P w = .ok r w := by
  intro fs
  induction fs with
  | nil =>
    intro plan cs ds xs ys r hp hx hy hr
    simp only [eqPlan, Option.some.injEq] at hp
    subst hp
    simp only [aEq, Option.some.injEq] at hr
    subst hr
    rfl
  | cons f fs ih =>
    intro plan cs ds xs ys r hp hx hy hr
    simp only [eqPlan] at hp
    simp only [Op.eqFields]
    split at hp
    · rename_i hn
      rw [if_pos hn]
      split at hp <;> (try cases hp)
      · rename_i k rest hu hrest
        simp only [aEq] at hr
        split at hr
        · rename_i k1 a k2 b ha hb
          obtain ⟨v1, hv1, hV1⟩ := hx.get ha
          obtain ⟨v2, hv2, hV2⟩ := hy.get hb
          cases hV1; cases hV2
          split at hr
          · rename_i hk
            subst hk
            have p1 : (part f.type xs f.offset).run P w = .ok (.int k1 a) w := by simp [part, isAgg, run_underlying hu, hv1]
            have p2 : (part f.type ys f.offset).run P w = .ok (.int k1 b) w := by simp [part, isAgg, run_underlying hu, hv2]
            simp only [Sem.run_bind, p1, p2, Result.andThen_ok, run_equalIn_int w d f.type k1 k a b hu]
            split at hr
            · rename_i hab
              subst hab
              simp only [BEq.rfl, Bool.not_true, Bool.false_eq_true, if_false]
              exact ih rest cs ds xs ys r hrest hx hy hr
            · rename_i hab
              cases hr
              simp only [beq_eq_false_iff_ne.2 hab, Bool.not_false, if_true, Sem.run_pure]
          · cases hr
        · cases hr
      · rename_i rest hu hrest
        simp only [aEq] at hr
        split at hr
        · rename_i a b ha hb
          obtain ⟨v1, hv1, hV1⟩ := hx.get ha
          obtain ⟨v2, hv2, hV2⟩ := hy.get hb
          cases hV1; cases hV2
          have p1 : (part f.type xs f.offset).run P w = .ok (.bool a) w := by simp [part, isAgg, run_underlying hu, hv1]
          have p2 : (part f.type ys f.offset).run P w = .ok (.bool b) w := by simp [part, isAgg, run_underlying hu, hv2]
          simp only [Sem.run_bind, p1, p2, Result.andThen_ok, run_equalIn_bool w d f.type a b hu]
          split at hr
          · rename_i hab
            subst hab
            simp only [BEq.rfl, Bool.not_true, Bool.false_eq_true, if_false]
            exact ih rest cs ds xs ys r hrest hx hy hr
          · rename_i hab
            cases hr
            simp only [beq_eq_false_iff_ne.2 hab, Bool.not_false, if_true, Sem.run_pure]
        · cases hr
    · rename_i hn
      rw [if_neg hn]
      exact ih plan cs ds xs ys r hp hx hy hr

theorem VL.part {cs : List AV} {vs : Array Value} (h : VL G w cs vs) (o n : Nat) (hn : o + n ≤ cs.length) : VL G w ((cs.drop o).take n) (vs.extract o (o + n)) := by
  have := h.1
  refine ⟨by simp; omega, fun j c v hc hv => ?_⟩
  rw [List.getElem?_take] at hc
  split at hc
  · rename_i hj
    rw [List.getElem?_drop] at hc
    rw [Array.getElem?_extract] at hv
    split at hv
    · exact h.2 _ c v hc hv
    · cases hv
  · cases hc

theorem xop_sound (hs : Stands G w tr g a) {o : Oper} {xo : XOp} (hc : cX P tr o = some xo) {r : AV} (hr : xev g xo = some r) :
    ∃ v, (execOp a.eval o).run P w = .ok (.value v) w ∧ V G w r v := by
  obtain ⟨dst, op, type, pos, after, guard⟩ := o
  have up : ∀ {s : Sem Value}, (∃ v, s.run P w = .ok v w ∧ V G w r v) → ∃ v, ((do pure (.value (← s)) : Sem Next)).run P w = .ok (.value v) w ∧ V G w r v := by
    rintro s ⟨v, hv, hV⟩; exact ⟨v, by simp [hv], hV⟩
  have bd : ∀ {q : Prop}, xev g .bad = some r → q := fun h => by simp [xev] at h
  unfold cX at hc
  simp only at hc
  split at hc
  · rename_i bop t x y yt
    split at hc
    · rename_i e hu
      have ptr : ∀ b, pnil (g (tr x)) = some b → ∃ p : Option Addr, a.eval x = .pointer p ∧ p.isNone = b := by
        intro b hb
        have h0 := hs x
        unfold pnil at hb
        split at hb <;> cases hb <;> rename_i hq <;> rw [hq] at h0 <;> generalize a.eval x = v at h0 <;> cases h0
        · exact ⟨none, rfl, rfl⟩
        · exact ⟨_, rfl, rfl⟩
        · exact ⟨_, rfl, rfl⟩
      have hc0 : a.eval (.const (.pointer none)) = .pointer none := rfl
      have hu' : P.underlying t = some (.pointer (P.pointee t)) := by simp [Program.pointee, hu]
      split at hc
      · split at hc <;> cases hc
        · simp only [xev, Option.map_eq_some_iff] at hr
          obtain ⟨b, hb, rfl⟩ := hr
          obtain ⟨p, hp, rfl⟩ := ptr b hb
          refine up ⟨_, ?_, .bool _⟩
          simp only [hp, hc0, eqGuard_at_pointer, Sem.run_bind, Sem.run_pure, Result.andThen_ok, run_eql_pointer_nil w t p hu']
          cases p <;> rfl
        · simp only [xev, Option.map_eq_some_iff] at hr
          obtain ⟨b, hb, rfl⟩ := hr
          obtain ⟨p, hp, rfl⟩ := ptr b hb
          refine up ⟨_, ?_, .bool _⟩
          simp only [hp, hc0, eqGuard_at_pointer, Sem.run_bind, Sem.run_pure, Result.andThen_ok, run_neq_pointer_nil w t p hu']
          cases p <;> rfl
        · exact bd hr
      · cases hc; exact bd hr
    · rename_i fs hu
      split at hc
      · rename_i hh
        have hu' : P.underlying t = some (.struct (P.fieldsOf t)) := by simp [Program.fieldsOf, hu]
        have hfs : P.fieldsOf t = fs := by simp [Program.fieldsOf, hu]
        have go : ∀ {l cs ds b}, eqPlan P fs.toList = some l → g (tr x) = .agg cs → g (tr y) = .agg ds → aEq l cs ds = some b →
            ∃ xs ys, a.eval x = .agg xs ∧ a.eval y = .agg ys ∧ (Op.equalIn 10000 t (.agg xs) (.agg ys)).run P w = .ok b w := by
          intro l cs ds b hl hx hy hb
          have h1 := hs x
          have h2 := hs y
          rw [hx] at h1; rw [hy] at h2
          generalize a.eval x = v1 at *
          generalize a.eval y = v2 at *
          cases h1 with | agg _ xs l1 V1 => cases h2 with | agg _ ys l2 V2 =>
          refine ⟨xs, ys, rfl, rfl, ?_⟩
          rw [run_equalIn_struct w 9999 t xs ys hu' hh.1, hfs]
          exact eqFields_sound fs.toList l cs ds xs ys b hl ⟨l1, V1⟩ ⟨l2, V2⟩ hb
        split at hc <;> cases hc
        · rename_i l hl
          simp only [xev] at hr
          split at hr
          · rename_i cs ds hx hy
            simp only [Option.map_eq_some_iff] at hr
            obtain ⟨b, hb, rfl⟩ := hr
            obtain ⟨xs, ys, e1, e2, e3⟩ := go hl hx hy hb
            refine up ⟨_, ?_, .bool _⟩
            simp only [e1, e2, Sem.run_bind, run_eqGuard_agg w _ t x y xs ys hh.2, Result.andThen_ok, run_eql_struct, e3]
            cases b <;> rfl
          · cases hr
        · rename_i l hl
          simp only [xev] at hr
          split at hr
          · rename_i cs ds hx hy
            simp only [Option.map_eq_some_iff] at hr
            obtain ⟨b, hb, rfl⟩ := hr
            obtain ⟨xs, ys, e1, e2, e3⟩ := go hl hx hy hb
            refine up ⟨_, ?_, .bool _⟩
            simp only [e1, e2, Sem.run_bind, run_eqGuard_agg w _ t x y xs ys hh.2, Result.andThen_ok, run_neq_struct, e3]
            cases b <;> rfl
          · cases hr
        · exact bd hr
      · cases hc; exact bd hr
    · cases hc; exact bd hr
  · rename_i t x k
    split at hc
    · rename_i fs hu
      split at hc
      · rename_i f hf
        split at hc
        · rename_i i b hi hb
          cases hc
          simp only [xev] at hr
          split at hr
          · rename_i cs hx
            have h1 := hs x
            rw [hx] at h1
            generalize hv1 : a.eval x = v1 at h1
            cases h1 with | agg _ vs hl hV =>
            refine up ?_
            split at hr
            · rename_i hb'
              subst hb'
              split at hr
              · rename_i hle
                cases hr
                have := VL.part (G := G) (w := w) ⟨hl, hV⟩ f.offset i.size hle
                refine ⟨.agg (vs.extract f.offset (f.offset + i.size)), ?_, .agg _ _ this.1 this.2⟩
                simp only [hv1, Instr.field, Sem.run_bind, run_underlying hu, Result.andThen_ok, hf, asAgg, Sem.run_pure, part, run_isAggT hb, if_true, run_size hi]
              · cases hr
            · rename_i hb'
              have hb'' : b = false := by simpa using hb'
              subst hb''
              obtain ⟨v, hv, hV'⟩ := VL.get (G := G) (w := w) ⟨hl, hV⟩ hr
              refine ⟨v, ?_, hV'⟩
              simp only [hv1, Instr.field, Sem.run_bind, run_underlying hu, Result.andThen_ok, hf, asAgg, Sem.run_pure, part, run_isAggT hb, Bool.false_eq_true, if_false, hv]
          · cases hr
        · cases hc; exact bd hr
      · cases hc; exact bd hr
    · cases hc; exact bd hr
  · rename_i t x i
    split at hc
    · rename_i hu
      cases hc
      simp only [xev] at hr
      split at hr
      · rename_i s k n hx hi
        have h1 := hs x
        have h2 := hs i
        rw [hx] at h1; rw [hi] at h2
        generalize hv1 : a.eval x = v1 at h1
        generalize hv2 : a.eval i = v2 at h2
        cases h1; cases h2
        split at hr
        · rename_i h0
          simp only [Option.map_eq_some_iff] at hr
          obtain ⟨b, hb, rfl⟩ := hr
          refine up ⟨_, ?_, .int _ _⟩
          simp only [hv1, hv2, Instr.index, asIntOf, Sem.run_bind, Sem.run_pure, Result.andThen_ok, run_underlying hu, h0, if_true, hb]
        · cases hr
      · cases hr
    · cases hc; exact bd hr
  · rename_i f first caps
    cases hc
    simp only [xev, Option.some.injEq] at hr
    subst hr
    refine ⟨_, by simp only [execOp, Instr.makeFunc, Sem.run_bind, Sem.run_pure, Result.andThen_ok]; rfl, ?_⟩
    have h1 := VL.map hs first.toList
    have h2 := VL.map hs caps.toList
    exact .clo _ _ _ _ _ (by simp) (fun j c v hc hv => h1 j c v (by simpa using hc) (by simpa using hv)) (by simp) (fun j c v hc hv => h2 j c v (by simpa using hc) (by simpa using hv))
  · rename_i args argTypes
    split at hc
    · rename_i x t hargs htys
      obtain ⟨rfl⟩ : args = #[x] := by cases args; simp at hargs; simp [hargs]
      obtain ⟨rfl⟩ : argTypes = #[t] := by cases argTypes; simp at htys; simp [htys]
      split at hc
      · rename_i e hu
        cases hc
        have key : ∀ (q : Option Addr) (l c : Nat), a.eval x = .slice q l c → (execOp a.eval { dst, op := .call { callee := .builtin .cap, args := #[x], argTypes := #[t] }, type, pos, after, guard }).run P w = .ok (.value (.int .i64 c)) w := by
          intro q l c hq
          rw [run_builtin]
          simp only [builtin, List.map_toArray, List.map_cons, List.map_nil, hq, Builtin.cap_, List.getElem?_toArray, List.getElem?_cons_zero, Sem.run_bind, run_underlying hu, Result.andThen_ok, Sem.run_pure, goInt]
        have h0 := hs x
        simp only [xev] at hr
        split at hr <;> (try cases hr) <;> rename_i hx <;> rw [hx] at h0 <;> generalize hq : a.eval x = v at h0
        · cases h0; exact ⟨_, key _ _ _ hq, .int _ _⟩
        · cases h0 with
          | ref _ _ _ _ _ c ty m b h1 h2 h3 h4 =>
            have := h4 _ rfl
            subst this
            exact ⟨_, key _ _ _ hq, .int _ _⟩
          | refNil _ _ _ h1 h2 h3 =>
            have := h3 _ rfl
            subst this
            exact ⟨_, key _ _ _ hq, .int _ _⟩
        · cases h0 with
          | vals _ _ _ _ ad cap f h1 h2 =>
            have := h2 rfl
            subst this
            exact ⟨_, key _ _ _ hq, .int _ _⟩
          | valsNil => exact ⟨_, key _ _ _ hq, .int _ _⟩
      · cases hc; exact bd hr
    · cases hc; exact bd hr
  · cases hc
  · split at hc
    · cases hc
    · cases hc; exact bd hr

theorem rop_sound (gm : Gam G w h) (hs : Stands G w tr g a) {o : Oper} {ro : ROp} (hc : cR P tr o = some ro) {r : AV} (hr : rev g h ro = some r) :
    ∃ v, (execOp a.eval o).run P w = .ok (.value v) w ∧ V G w r v := by
  unfold cR at hc
  split at hc
  · rename_i r' h'; cases hc; exact rop0_sound gm hs h' hr
  · simp only [Option.map_eq_some_iff] at hc
    obtain ⟨xo, hx, rfl⟩ := hc
    exact xop_sound hs hx (by simpa [rev] using hr)

/-! the operations that make or change memory -/

theorem inOrder_spec : ∀ (ps : List (Nat × Operand)) (k : Nat), inOrder k ps = true → ∀ (j i : Nat) (x : Operand), ps[j]? = some (i, x) → i = k + j := by
  intro ps
  induction ps with
  | nil => intro k _ j i x h; simp at h
  | cons p ps ih =>
    intro k hk j i x h
    obtain ⟨i0, x0⟩ := p
    simp only [inOrder, Bool.and_eq_true, beq_iff_eq] at hk
    cases j with
    | zero => simp at h; omega
    | succ j =>
      have := ih (k + 1) hk.2 j i x (by simpa using h)
      omega

theorem cellsAll_spec {sz : Nat} : ∀ (xs : List AV) (es : List (List AV)), cellsAll sz xs = some es →
    es.length = xs.length ∧ okes sz es ∧ ∀ (j : Nat) (e : List AV) (x : AV), es[j]? = some e → xs[j]? = some x → x.cells? = some e := by
  intro xs
  induction xs with
  | nil => intro es h; simp only [cellsAll, Option.some.injEq] at h; subst h; exact ⟨rfl, fun e he => by simp at he, fun j e x h => by simp at h⟩
  | cons x xs ih =>
    intro es h
    simp only [cellsAll] at h
    split at h
    · rename_i cs es' hcs hes
      split at h
      · rename_i hh
        cases h
        obtain ⟨h1, h2, h3⟩ := ih es' hes
        refine ⟨by simp [h1], fun e he => ?_, fun j e y he hy => ?_⟩
        · rcases List.mem_cons.1 he with rfl | he
          · exact hh
          · exact h2 e he
        · cases j with
          | zero => simp at he hy; subst he; subst hy; exact hcs
          | succ j => exact h3 j e y (by simpa using he) (by simpa using hy)
      · cases h
    · cases h

/-- elements laid one behind the other over zeros -/
theorem fill_rows {sz : Nat} : ∀ (vs : List (Nat × Value)) (k : Nat) (es : List (List AV)) (cells : Array Value), vs.length = es.length →
    (∀ (j i : Nat) (v : Value), vs[j]? = some (i, v) → i = k + j) → (k + vs.length) * sz ≤ cells.size →
    (∀ (j i : Nat) (v : Value) (e : List AV), vs[j]? = some (i, v) → es[j]? = some e → VL G w e v.cells ∧ e.length = sz) →
    ∃ us, Instr.fill (fun i => some (i * sz, sz)) cells vs = some us ∧ us.size = cells.size ∧ (∀ p, p < k * sz → us[p]? = cells[p]?) ∧
      ∀ i j c, getc es i j = some c → ∃ v, us[(k + i) * sz + j]? = some v ∧ V G w c v := by
  intro vs
  induction vs with
  | nil =>
    intro k es cells hl _ _ _
    have : es = [] := List.eq_nil_of_length_eq_zero (by simpa using hl.symm)
    subst this
    exact ⟨cells, rfl, rfl, fun _ _ => rfl, fun i j c h => by simp [getc] at h⟩
  | cons p vs ih =>
    intro k es cells hl hk hsz hV
    obtain ⟨i0, v0⟩ := p
    cases es with
    | nil => simp at hl
    | cons e es =>
      have hi0 : i0 = k := by have := hk 0 i0 v0 rfl; omega
      subst hi0
      obtain ⟨hv0, he0⟩ := hV 0 i0 v0 e rfl rfl
      have hvsz : v0.cells.size = sz := by rw [← hv0.1, he0]
      generalize hnew : (v0.cells.zipIdx.foldl (fun cs (c, j) => cs.setIfInBounds (i0 * sz + j) c) cells) = new
      -- what that row of stores gives
      have row : ∀ (l : List Value) (q : Nat) (cs : Array Value), i0 * sz + q + l.length ≤ cs.size →
          ((l.zipIdx q).foldl (fun cs (c, j) => cs.setIfInBounds (i0 * sz + j) c) cs).size = cs.size ∧
          ∀ p, ((l.zipIdx q).foldl (fun cs (c, j) => cs.setIfInBounds (i0 * sz + j) c) cs)[p]? = if i0 * sz + q ≤ p ∧ p < i0 * sz + q + l.length then l[p - (i0 * sz + q)]? else cs[p]? := by
        intro l
        induction l with
        | nil => intro q cs _; exact ⟨rfl, fun p => by simp; omega⟩
        | cons c l ihl =>
          intro q cs hq
          simp only [List.zipIdx_cons, List.foldl_cons, List.length_cons] at hq ⊢
          obtain ⟨a1, a2⟩ := ihl (q + 1) (cs.setIfInBounds (i0 * sz + q) c) (by simp; omega)
          refine ⟨by simpa using a1, fun p => ?_⟩
          rw [a2]
          by_cases hp : p = i0 * sz + q
          · subst hp
            rw [if_neg (by omega), if_pos (by omega), Array.getElem?_setIfInBounds_self_of_lt (by omega)]
            simp
          · rw [Array.getElem?_setIfInBounds_ne (fun e => hp e.symm)]
            by_cases hp2 : i0 * sz + (q + 1) ≤ p ∧ p < i0 * sz + (q + 1) + l.length
            · rw [if_pos hp2, if_pos (by omega), show p - (i0 * sz + q) = (p - (i0 * sz + (q + 1))) + 1 by omega, List.getElem?_cons_succ]
            · rw [if_neg hp2, if_neg (by omega)]
      have hmul : (i0 + (vs.length + 1)) * sz = i0 * sz + sz + vs.length * sz := by rw [Nat.add_mul, Nat.succ_mul]; omega
      simp only [List.length_cons] at hsz
      obtain ⟨n1, n2⟩ := row v0.cells.toList 0 cells (by simp [hvsz]; omega)
      have hnew' : ((v0.cells.toList.zipIdx 0).foldl (fun cs (c, j) => cs.setIfInBounds (i0 * sz + j) c) cells) = new := by
        rw [← hnew, ← Array.foldl_toList]; simp
      rw [hnew'] at n1 n2
      obtain ⟨us, h1, h2, h3, h4⟩ := ih (i0 + 1) es new (by simpa using hl) (fun j i v h => by have := hk (j + 1) i v (by simpa using h); omega) (by rw [n1, show i0 + 1 + vs.length = i0 + (vs.length + 1) by omega]; exact hsz)
        (fun j i v e a b => hV (j + 1) i v e (by simpa using a) (by simpa using b))
      refine ⟨us, ?_, by rw [h2, n1], fun p hp => ?_, fun i j c hc => ?_⟩
      · simp only [Instr.fill, hvsz, hnew]
        rw [if_neg (by simp; omega)]
        exact h1
      · rw [h3 p (by rw [Nat.add_mul]; omega), n2, if_neg (by omega)]
      · cases i with
        | zero =>
          simp only [getc, List.getElem?_cons_zero, Option.bind_some] at hc
          have hj := (List.getElem?_eq_some_iff.1 hc).1
          obtain ⟨v, hv, hVc⟩ := hv0.get hc
          refine ⟨v, ?_, hVc⟩
          have hjs : j < sz := by omega
          rw [h3 _ (by rw [Nat.add_zero, Nat.succ_mul]; omega), n2, if_pos (by simp [hvsz]; omega)]
          simp only [Nat.add_zero, Array.getElem?_toList]
          rw [show i0 * sz + j - i0 * sz = j by omega]; exact hv
        | succ i =>
          obtain ⟨v, hv, hVc⟩ := h4 i j c (by simpa [getc] using hc)
          exact ⟨v, by rw [show i0 + (i + 1) = i0 + 1 + i by omega]; exact hv, hVc⟩


/-- what is made of an operation that makes or changes memory: its value, or nothing -/
def DoesN (P : Program) (s : Sem Next) (G : Gh) (w : World) (r : AV) (h' : AHeap) : Prop :=
  ∃ n v w' G', s.run P w = .ok n w' ∧ (n = .value v ∨ (n = .skip ∧ v = undef)) ∧ Gam G' w' h' ∧ V G' w' r v ∧ Stp G w G' w'

theorem DoesN.of {s : Sem Value} {r : AV} {h' : AHeap} (hd : Does P s G w r h') : DoesN P (do pure (.value (← s)) : Sem Next) G w r h' := by
  obtain ⟨v, w', G', h1, h2, h3, h4⟩ := hd
  exact ⟨.value v, v, w', G', by simp [h1], .inl rfl, h2, h3, h4⟩

def evPartsL (a : Act) (ps : List (Nat × Operand)) : List (Nat × Value) := ps.map fun p => (p.1, a.eval p.2)
def evParts (a : Act) (ps : Array (Nat × Operand)) : Array (Nat × Value) := ps.map fun p => (p.1, a.eval p.2)

theorem execOp_bsl (dst : Option Tmp) (t : TypeId) (len : Nat) (ps : Array (Nat × Operand)) (ty : TypeId) (pos : String) (after : Array Edge) (guard : Option (Nat × Bool)) :
    execOp a.eval { dst, op := .buildSlice t len ps, type := ty, pos, after, guard } = (do pure (.value (← Instr.buildSlice t len (evParts a ps)))) := rfl

theorem bsl_fill (hs : Stands G w tr g a) {ps : List (Nat × Operand)} {len sz : Nat} {es : List (List AV)} (hord : inOrder 0 ps = true) (hlen : ps.length = len) (hel : es.length = len) (hok : okes sz es)
    (hce : ∀ (j : Nat) (e : List AV) (x : AV), es[j]? = some e → ((ps.map fun p => tr p.2).map g)[j]? = some x → x.cells? = some e) (Z : Array Value) (hZ : Z.size = len * sz) :
    ∃ us, Instr.fill (fun i => some (i * sz, sz)) Z (evPartsL a ps) = some us ∧ us.size = len * sz ∧ ∀ i j c, getc es i j = some c → ∃ v, us[i * sz + j]? = some v ∧ V G w c v := by
  obtain ⟨us, hus, husz, _, hV⟩ := fill_rows (G := G) (w := w) (sz := sz) (evPartsL a ps) 0 es Z (by simp [evPartsL, hel, hlen])
    (fun j i v hj => by
      simp only [evPartsL, List.getElem?_map, Option.map_eq_some_iff] at hj
      obtain ⟨⟨i', x⟩, hj, hq⟩ := hj
      obtain ⟨rfl, rfl⟩ := Prod.mk.inj hq
      exact inOrder_spec _ _ hord j i' x hj)
    (by simp [evPartsL, hlen, hZ])
    (fun j i v e hj he => by
      simp only [evPartsL, List.getElem?_map, Option.map_eq_some_iff] at hj
      obtain ⟨⟨i', x⟩, hj, hq⟩ := hj
      obtain ⟨rfl, rfl⟩ := Prod.mk.inj hq
      have hce' := hce j e (g (tr x)) he (by simp [hj])
      exact ⟨(hs x).cells hce', (hok e (List.mem_of_getElem? he)).1⟩)
  exact ⟨us, hus, by rw [husz, hZ], fun i j c hc => by have := hV i j c hc; rwa [Nat.zero_add] at this⟩

theorem bsl_ld (hs : Stands G w tr g a) {ps : Array (Nat × Operand)} {t e : TypeId} {len sz b : Nat} {z : Value} {es : List (List AV)} (he : elemT P t = some e) (hz : tinfo P e = some (sz, b, z))
    (hzsz : z.cells.size = sz) (hbig : len * sz ≤ 2 ^ 24) (hord : inOrder 0 ps.toList = true) (hlen : ps.size = len) (hel : es.length = len) (hok : okes sz es)
    (hce : ∀ (j : Nat) (e : List AV) (x : AV), es[j]? = some e → ((ps.toList.map fun p => tr p.2).map g)[j]? = some x → x.cells? = some e) :
    LD P (Instr.buildSlice t len (evParts a ps)) G w (fun nm => .ref nm sz 0 len (some len)) sz es false := by
  obtain ⟨i, hi, hisz, _, _⟩ := info_of_tinfo hz
  have hno : ¬ (len * sz > 2 ^ 24) := Nat.not_lt.2 hbig
  have hpz : (evParts a ps).toList = evPartsL a ps.toList := by simp [evParts, evPartsL]
  have mk : ∀ us : Array Value, us.size = len * sz → (∀ i j c, getc es i j = some c → ∃ v, us[i * sz + j]? = some v ∧ V G w c v) →
      LD P (do pure (.slice (some (← newRow e us)) len len)) G w (fun nm => .ref nm sz 0 len (some len)) sz es false := by
    intro us husz hV
    exact newRow_ld (P := P) (cells := us) (sz := sz) (es := es) (gr := false) e hok (by rw [husz, hel]; exact Nat.le_refl _) (fun _ => by rw [husz, hel])
        hV len len (some len) (Nat.le_refl _) (fun k hk => by cases hk; rfl) (by rw [husz]; exact Nat.le_refl _)
  by_cases h0 : len * sz = 0
  · obtain ⟨us, hus, husz, hV⟩ := bsl_fill hs hord (by simpa using hlen) hel hok hce ((Array.range (len * sz)).map fun k => (#[] : Array Value)[k % (#[] : Array Value).size]!) (by simp)
    obtain ⟨cells, ty, v, h1, h2⟩ := mk us husz hV
    refine ⟨cells, ty, v, ?_, h2⟩
    rw [← h1]
    simp only [Instr.buildSlice, Sem.run_bind, run_underlying (under_elem he), Result.andThen_ok, run_size hi, hisz, Sem.run_ite, if_neg hno, hpz, if_pos h0, Sem.run_pure, hus]
  · obtain ⟨us, hus, husz, hV⟩ := bsl_fill hs hord (by simpa using hlen) hel hok hce ((Array.range (len * sz)).map fun k => z.cells[k % z.cells.size]!) (by simp)
    obtain ⟨cells, ty, v, h1, h2⟩ := mk us husz hV
    refine ⟨cells, ty, v, ?_, h2⟩
    rw [← h1]
    simp only [Instr.buildSlice, Sem.run_bind, run_underlying (under_elem he), Result.andThen_ok, run_size hi, hisz, Sem.run_ite, if_neg hno, hpz, if_neg h0, Sem.run_pure, run_zero hz, hus]


theorem mks_ld {t e : TypeId} {sz b : Nat} {z : Value} (he : elemT P t = some e) (hz : tinfo P e = some (sz, b, z)) (hzsz : z.cells.size = sz) (hb : 0 < b)
    (hsc : (z.cells.toList.map ofV1).all AV.scalar = true) {k1 k2 : IntKind} {l c : Int} (h0 : 0 ≤ l) (hlc : l ≤ c) (hbig : c * b ≤ 2 ^ 46) :
    LD P (Instr.makeSlice t (.int k1 l) (.int k2 c)) G w (fun nm => .ref nm sz 0 l.toNat (some c.toNat)) sz (List.replicate c.toNat (z.cells.toList.map ofV1)) false := by
  obtain ⟨i, hi, hisz, hib, _⟩ := info_of_tinfo hz
  have hc46 : c ≤ 2 ^ 46 := by
    have : c * 1 ≤ c * b := Int.mul_le_mul_of_nonneg_left (by omega) (by omega)
    omega
  have hwl := wrap_small h0 (by omega)
  have hwc := wrap_small (c := c) (by omega) hc46
  have hbig' : ¬ ((i.bytes : Int) * c > 2 ^ 48) := by
    have e2 : (2 : Int) ^ 46 = 70368744177664 := by decide
    have e3 : (2 : Int) ^ 48 = 281474976710656 := by decide
    rw [hib, Int.mul_comm]
    omega
  have hok : okes sz (List.replicate c.toNat (z.cells.toList.map ofV1)) := by
    intro e he
    rw [List.mem_replicate] at he
    rw [he.2]
    exact ⟨by simp [hzsz], hsc⟩
  have mk : ∀ us : Array Value, us.size = c.toNat * sz → (∀ k, k < c.toNat * sz → us[k]? = z.cells[k % sz]?) →
      LD P (do pure (.slice (some (← newRow e us)) l.toNat c.toNat)) G w (fun nm => .ref nm sz 0 l.toNat (some c.toNat)) sz (List.replicate c.toNat (z.cells.toList.map ofV1)) false := by
    intro us hus hk
    refine newRow_ld (P := P) (cells := us) (sz := sz) (gr := false) e hok (by simp [hus]) (fun _ => by simp [hus]) (fun i j cc hc => ?_) l.toNat c.toNat (some c.toNat) (by omega) (fun k hk => by cases hk; rfl) (by rw [hus]; exact Nat.le_refl _)
    obtain ⟨hi, hj⟩ := getc_lt hok hc
    rw [List.length_replicate] at hi
    have hlt := cell_lt (n := c.toNat) hi hj
    have hj' : j < z.cells.size := by omega
    simp only [getc, List.getElem?_replicate, hi, if_true, Option.bind_some, List.getElem?_map] at hc
    have hz' : z.cells.toList[j]? = some z.cells[j] := by simp [hj']
    rw [hz'] at hc
    simp only [Option.map_some, Option.some.injEq] at hc
    subst hc
    refine ⟨z.cells[j], ?_, V.ofV1 G w _⟩
    rw [hk _ hlt, Nat.mul_comm, Nat.mul_add_mod, Nat.mod_eq_of_lt hj]
    simp [hj']
  by_cases hn : c.toNat * sz = 0
  · obtain ⟨cells, ty, v, h1, h2⟩ := mk ((Array.range (c.toNat * sz)).map fun k => (#[] : Array Value)[k % (#[] : Array Value).size]!) (by simp) (fun k hk => by omega)
    refine ⟨cells, ty, v, ?_, h2⟩
    rw [← h1]
    simp only [Instr.makeSlice, Sem.run_bind, run_underlying (under_elem he), Result.andThen_ok, asInt, asIntOf, Sem.run_pure, run_typeInfo w hi, hwl, hwc, run_askRoom, run_size hi, hisz]
    rw [if_neg (by simp; omega)]
    simp only [Sem.run_bind, Sem.run_pure, Result.andThen_ok, run_askRoom, run_size hi, hisz, Sem.run_ite, if_pos hn]
  · obtain ⟨cells, ty, v, h1, h2⟩ := mk ((Array.range (c.toNat * sz)).map fun k => z.cells[k % z.cells.size]!) (by simp) (fun k hk => by
      have hsz : 0 < sz := Nat.pos_of_ne_zero (fun h => hn (by rw [h, Nat.mul_zero]))
      have := Nat.mod_lt k hsz
      simp [hk, hzsz]
      rw [getElem!_pos z.cells (k % sz) (by omega)]
      simp [hzsz, this])
    refine ⟨cells, ty, v, ?_, h2⟩
    rw [← h1]
    simp only [Instr.makeSlice, Sem.run_bind, run_underlying (under_elem he), Result.andThen_ok, asInt, asIntOf, Sem.run_pure, run_typeInfo w hi, hwl, hwc, run_askRoom, run_size hi, hisz]
    rw [if_neg (by simp; omega)]
    simp only [Sem.run_bind, Sem.run_pure, Result.andThen_ok, run_askRoom, run_size hi, hisz, Sem.run_ite, if_neg hn, run_zero hz]

/-- what makes one block does so -/
theorem light_sound (hs : Stands G w tr g a) {o : Oper} {ho : HOp} (hc : cH P tr o = some ho) {nm : Nat} {r : AV} {sz : Nat} {es : List (List AV)} {gr : Bool} (hr : lightOf g nm ho = some (r, .arr sz es gr)) :
    ∃ (s : Sem Value) (mkv : Nat → AV), execOp a.eval o = (do pure (.value (← s))) ∧ mkv nm = r ∧ LD P s G w mkv sz es gr := by
  obtain ⟨dst, op, type, pos, after, guard⟩ := o
  unfold cH at hc
  simp only at hc
  split at hc
  · -- alloc
    rename_i t
    split at hc <;> (try cases hc)
    rename_i sz0 b z hz
    split at hc <;> (try cases hc)
    rename_i hsc
    simp only [lightOf, Option.some.injEq, Prod.mk.injEq, ABlk.arr.injEq] at hr
    obtain ⟨rfl, rfl, rfl, rfl⟩ := hr
    refine ⟨Instr.alloc t true (.tuple #[]), fun nm => .ptr nm (z.cells.toList.map ofV1).length 0 0, rfl, rfl, ?_⟩
    obtain ⟨cells, ty, v, h1, h2⟩ := newVar_ld (P := P) (v := z) (VL.ofV1 G w z.cells) hsc t
    refine ⟨cells, ty, v, ?_, h2⟩
    simp only [Instr.alloc, Sem.run_bind, run_zero hz, Result.andThen_ok]
    exact h1
  · -- box
    rename_i t x; cases hc
    simp only [lightOf] at hr
    split at hr
    · rename_i cs hcs
      split at hr
      · rename_i hsc
        simp only [Option.some.injEq, Prod.mk.injEq, ABlk.arr.injEq] at hr
        obtain ⟨rfl, rfl, rfl, rfl⟩ := hr
        exact ⟨Instr.box t (a.eval x), fun nm => .ptr nm cs.length 0 0, rfl, rfl, newVar_ld (P := P) ((hs x).cells hcs) hsc t⟩
      · cases hr
    · cases hr
  · -- buildSlice
    rename_i t len ps
    split at hc <;> (try cases hc)
    rename_i e he
    split at hc <;> (try cases hc)
    rename_i sz0 b z hz
    split at hc <;> (try cases hc)
    rename_i hcond
    simp only [Bool.and_eq_true, beq_iff_eq, decide_eq_true_eq] at hcond
    obtain ⟨⟨⟨hord, hlen⟩, hzsz⟩, hbig⟩ := hcond
    simp only [lightOf] at hr
    split at hr
    · rename_i es' hes
      simp only [Option.some.injEq, Prod.mk.injEq, ABlk.arr.injEq] at hr
      obtain ⟨rfl, rfl, rfl, rfl⟩ := hr
      obtain ⟨hel, hok, hce⟩ := cellsAll_spec _ _ hes
      simp at hel
      have hel' : es'.length = len := by omega
      have hl' : (ps.toList.map fun p => tr p.2).length = len := by simp [hlen]
      refine ⟨Instr.buildSlice t len (evParts a ps), fun nm => .ref nm sz0 0 len (some len), rfl, by rw [hl'], ?_⟩
      exact bsl_ld hs he hz hzsz hbig hord hlen hel' hok hce
    · cases hr
  · -- makeSlice
    rename_i t l c
    split at hc <;> (try cases hc)
    rename_i e he
    split at hc <;> (try cases hc)
    rename_i sz0 b z hz
    split at hc <;> (try cases hc)
    rename_i hcond
    obtain ⟨hzsz, hb, hsc⟩ := hcond
    simp only [lightOf] at hr
    split at hr
    · rename_i k1 l' k2 c' hl hcq
      split at hr
      · rename_i hh
        obtain ⟨h0, hlc, hbig⟩ := hh
        simp only [Option.some.injEq, Prod.mk.injEq, ABlk.arr.injEq] at hr
        obtain ⟨rfl, rfl, rfl, rfl⟩ := hr
        have v1 := hs l
        have v2 := hs c
        rw [hl] at v1; rw [hcq] at v2
        generalize hv1 : a.eval l = x1 at v1
        generalize hv2 : a.eval c = x2 at v2
        cases v1; cases v2
        refine ⟨Instr.makeSlice t (.int k1 l') (.int k2 c'), fun nm => .ref nm sz0 0 l'.toNat (some c'.toNat), by simp only [execOp, hv1, hv2], rfl, mks_ld (P := P) (k1 := k1) (k2 := k2) he hz hzsz hb hsc h0 hlc hbig⟩
      · cases hr
    · cases hr
  · split at hc <;> (try cases hc)
    simp [lightOf] at hr
  · split at hc <;> (try cases hc)
    split at hc <;> (try cases hc)
    split at hc <;> (try cases hc)
    split at hc <;> (try cases hc)
    split at hc <;> (try cases hc)
    · simp [lightOf] at hr
    · split at hc <;> (try cases hc)
      simp [lightOf] at hr
  · split at hc <;> (try cases hc)
    split at hc <;> (try cases hc)
    split at hc <;> (try cases hc)
    split at hc <;> (try cases hc)
    simp [lightOf] at hr
  · cases hc

theorem lightOf_arr {ho : HOp} {nm : Nat} {r : AV} {b : ABlk} (hr : lightOf g nm ho = some (r, b)) : ∃ sz es gr, b = .arr sz es gr := by
  cases ho <;> simp only [lightOf] at hr
  all_goals (repeat' split at hr)
  all_goals simp only [Option.some.injEq, Prod.mk.injEq, reduceCtorEq] at hr
  all_goals exact ⟨_, _, _, hr.2.symm⟩

theorem hop_sound (gm : Gam G w h) (hs : Stands G w tr g a) {o : Oper} {ho : HOp} (hc : cH P tr o = some ho) {r : AV} {h' : AHeap} (hr : hev g h ho = some (r, h')) :
    DoesN P (execOp a.eval o) G w r h' := by
  have light : ∀ {b : ABlk}, lightOf g h.length ho = some (r, b) → h' = h ++ [some b] → DoesN P (execOp a.eval o) G w r h' := by
    rintro b hb rfl
    obtain ⟨sz, es, gr, rfl⟩ := lightOf_arr hb
    obtain ⟨s, mkv, he, hm, hl⟩ := light_sound (P := P) hs hc hb
    rw [he, ← hm]
    exact DoesN.of (hl.does gm)
  have light' : (match lightOf g h.length ho with | some (v, b) => some (v, h ++ [some b]) | none => none) = some (r, h') → DoesN P (execOp a.eval o) G w r h' := by
    intro hq
    split at hq
    · rename_i v b hb
      simp only [Option.some.injEq, Prod.mk.injEq] at hq
      obtain ⟨rfl, rfl⟩ := hq
      exact light hb rfl
    · cases hq
  obtain ⟨dst, op, type, pos, after, guard⟩ := o
  have hc0 := hc
  unfold cH at hc
  simp only at hc
  split at hc
  · split at hc <;> (try cases hc)
    split at hc <;> (try cases hc)
    exact light' hr
  · cases hc; exact light' hr
  · split at hc <;> (try cases hc)
    split at hc <;> (try cases hc)
    split at hc <;> (try cases hc)
    exact light' hr
  · split at hc <;> (try cases hc)
    split at hc <;> (try cases hc)
    split at hc <;> (try cases hc)
    exact light' hr
  · -- store
    rename_i t p x
    split at hc <;> (try cases hc)
    rename_i i hi
    simp only [hev, Option.map_eq_some_iff] at hr
    obtain ⟨h1, hst, hq⟩ := hr
    obtain ⟨rfl, rfl⟩ := Prod.mk.inj hq
    obtain ⟨w', hrun, hg, hstp⟩ := astore_sound (P := P) gm (hs p) (hs x) hst (run_size hi)
    exact ⟨.skip, undef, w', G, by simp only [execOp, Sem.run_bind, hrun, Result.andThen_ok, Sem.run_pure], .inr ⟨rfl, rfl⟩, hg, .top _, hstp⟩
  · -- append
    rename_i args tys
    split at hc <;> (try cases hc)
    rename_i x y s t hargs htys
    obtain ⟨rfl⟩ : args = #[x, y] := by cases args; simp at hargs; simp [hargs]
    obtain ⟨rfl⟩ : tys = #[s, t] := by cases tys; simp at htys; simp [htys]
    split at hc <;> (try cases hc)
    rename_i e he
    split at hc <;> (try cases hc)
    rename_i sz b z hz
    split at hc <;> (try cases hc)
    rename_i hcond
    obtain ⟨i, hi, hisz, hib, hiz⟩ := info_of_tinfo hz
    split at hc <;> (try cases hc)
    · rename_i e' hu'
      simp only [hev] at hr
      have T : AppT P s t e sz b i z := ⟨under_elem he, ⟨e', hu'⟩, hi, hisz, hib, hiz, hcond.2, hcond.1⟩
      obtain ⟨v, w', G', h1, h2, h3, h4⟩ := aappend_sound (P := P) gm (hs x) (hs y) hr T type
      refine ⟨.value v, v, w', G', ?_, .inl rfl, h2, h3, h4⟩
      rw [run_builtin]
      simp only [builtin, List.map_toArray, List.map_cons, List.map_nil, Sem.run_bind, h1, Result.andThen_ok, Sem.run_pure]
    · rename_i k' hu'
      split at hc <;> (try cases hc)
      rename_i hsc
      simp only [hev] at hr
      have T : AppZ P s t e sz b i z := ⟨under_elem he, ⟨k', hu'⟩, hi, hisz, hib, hiz, hcond.2, hcond.1⟩
      obtain ⟨v, w', G', h1, h2, h3, h4⟩ := aappendZ_sound (P := P) gm (hs x) (hs y) T hsc hr type
      refine ⟨.value v, v, w', G', ?_, .inl rfl, h2, h3, h4⟩
      rw [run_builtin]
      simp only [builtin, List.map_toArray, List.map_cons, List.map_nil, Sem.run_bind, h1, Result.andThen_ok, Sem.run_pure]
  · -- clear
    rename_i args tys
    split at hc <;> (try cases hc)
    rename_i x s hargs htys
    obtain ⟨rfl⟩ : args = #[x] := by cases args; simp at hargs; simp [hargs]
    obtain ⟨rfl⟩ : tys = #[s] := by cases tys; simp at htys; simp [htys]
    split at hc <;> (try cases hc)
    rename_i e he
    split at hc <;> (try cases hc)
    rename_i sz b z hz
    split at hc <;> (try cases hc)
    rename_i hcond
    obtain ⟨i, hi, hisz, hib, hiz⟩ := info_of_tinfo hz
    simp only [hev, Option.map_eq_some_iff] at hr
    obtain ⟨h1, hst, hq⟩ := hr
    obtain ⟨rfl, rfl⟩ := Prod.mk.inj hq
    obtain ⟨w', hrun, hg, hstp⟩ := aclear_sound (P := P) gm (hs x) (under_elem he) hi hiz hcond.1 hcond.2 hst type
    refine ⟨.value (.tuple #[]), .tuple #[], w', G, ?_, .inl rfl, hg, .tup _ _ rfl (fun j c v h => by simp at h), hstp⟩
    rw [run_builtin]
    simp only [builtin, List.map_toArray, List.map_cons, List.map_nil, Sem.run_bind, hrun, Result.andThen_ok, Sem.run_pure]
  · cases hc

end
end Glb
