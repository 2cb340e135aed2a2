/-
  A library of its own: its parts, one behind the other.
-/
import Derived.Test.YtgjgniadldlmiaaGlbLibA
import Derived.Scope
set_option linter.unusedSimpArgs false
set_option linter.unusedVariables false
/-
  A library of its own, for whatever program: regions whose order is drawn: what is to be shown of them, once, in one order.
-/
namespace Glb
open Go

/-- an operation of such a region: its place, the name of the block that it makes (an offset), whether it acts on memory that is there -/
structure DO where
  i : Nat
  nm : Nat
  hv : Bool
  op : AOp
  guard : Option (Opd × Bool)

structure DS where
  L : Env
  R : Env
  h : AHeap
  pend : List (Nat × AV × Bool × Nat × AV)
  lts : List (Nat × Nat × ABlk)

def DS.get (d : DS) : Opd → AV
  | .loc s => lk s d.L
  | .tmp s => lk s d.R
  | .cst v => v

def DS.val (d : DS) (i : Nat) (v : AV) : DS := { d with R := (i, v) :: d.R }

/-- not a pointer to one of the blocks that the region makes -/
def notRes (lo k : Nat) : AV → Bool
  | .ptr m _ _ _ => decide (m < lo) || decide (lo + k ≤ m)
  | _ => true

def hideL : List (Nat × Nat × ABlk) → AHeap → AHeap
  | [], h => h
  | x :: r, h => hideL r (h.set x.2.1 none)

def showL : List (Nat × Nat × ABlk) → AHeap → AHeap
  | [], h => h
  | x :: r, h => (showL r h).set x.2.1 (some x.2.2)

def isFree : Option (Option ABlk) → Bool
  | some none => true
  | _ => false

/-- the names kept free are free still, but for the blocks that the operation may know -/
def freeR (dep : Nat → Nat → Bool) (lo k i : Nat) (lts : List (Nat × Nat × ABlk)) (h : AHeap) : Bool :=
  (List.range k).all fun q => (lts.any fun x => dep i x.1 && x.2.1 == lo + q) || isFree h[lo + q]?

/-- the loads whose place beside an operation is open, looked at again behind it -/
def again (dep : Nat → Nat → Bool) (i : Nat) (h : AHeap) : List (Nat × AV × Bool × Nat × AV) → Prop
  | [] => True
  | p :: r => (dep i p.1 = true ∨ aload h p.2.2.1 p.2.2.2.1 p.2.1 = some p.2.2.2.2) ∧ again dep i h r

/-- behind an operation that acts on memory -/
def vcBack (dep : Nat → Nat → Bool) (lo k i : Nat) (d : DS) (xs : List (Nat × Nat × ABlk)) (v : AV) (h' : AHeap) (next : DS → Prop) : Prop :=
  freeR dep lo k i d.lts h' = true ∧ again dep i (showL xs h') d.pend ∧ next { d.val i v with h := showL xs h' }

def vcDo (P : Program) (dep : Nat → Nat → Bool) (lo k : Nat) (o : DO) (d : DS) (next : DS → Prop) : Prop :=
  match o.hv, o.op with
  | false, .r (.load agg n x) => match aload d.h agg n (d.get x) with
    | some v => notRes lo k (d.get x) = true ∧ next { d.val o.i v with pend := (o.i, d.get x, agg, n, v) :: d.pend }
    | none => False
  | false, .r ro => match rev d.get [] ro with
    | some v => next (d.val o.i v)
    | none => False
  | false, .h ho => match lightOf d.get (lo + o.nm) ho with
    | some (v, b) => next { d.val o.i v with h := d.h.set (lo + o.nm) (some b), lts := (o.i, lo + o.nm, b) :: d.lts }
    | none => False
  | true, .h ho =>
    let xs := d.lts.filter fun x => !dep o.i x.1
    match hev d.get (hideL xs d.h) ho with
    | some (v, h') => vcBack dep lo k o.i d xs v h' next
    | none => False
  | true, .call f args =>
    let xs := d.lts.filter fun x => !dep o.i x.1
    isFn P f = true ∧ ACalls P f (args.map d.get) (hideL xs d.h) fun v h' => vcBack dep lo k o.i d xs v h' next
  | true, .callv x args =>
    let xs := d.lts.filter fun x => !dep o.i x.1
    match d.get x with
    | .clo f fs cs => isFn P f = true ∧ ACalls P f (fs ++ args.map d.get ++ cs) (hideL xs d.h) fun v h' => vcBack dep lo k o.i d xs v h' next
    | _ => False
  | _, _ => False

def vcD (P : Program) (dep : Nat → Nat → Bool) (lo k : Nat) : List DO → DS → (DS → Prop) → Prop
  | [], d, K => K d
  | o :: r, d, K =>
    match o.guard with
    | none => vcDo P dep lo k o d fun d' => vcD P dep lo k r d' K
    | some (x, want) => match d.get x with
      | .bool b => (b = want → vcDo P dep lo k o d fun d' => vcD P dep lo k r d' K) ∧ (b = (!want) → vcD P dep lo k r (d.val o.i (.tup [])) K)
      | .tup _ => vcD P dep lo k r (d.val o.i (.tup [])) K
      | _ => False

/-- the locals that the region has given values -/
def finL (R : Env) : List (Nat × Nat) → Env → Env
  | [], L => L
  | (t, i) :: r, L => finL R r (ins t (lk i R) L)

structure DR where
  masks : List Nat
  k : Nat
  items : List DO
  fin : List (Nat × Nat)

def DR.dep (r : DR) (i j : Nat) : Bool := (r.masks.getD i 0).testBit j

def vcDR (P : Program) (r : DR) (st : St) (K : St → Prop) : Prop :=
  vcD P r.dep st.h.length r.k r.items ⟨st.L, [], st.h ++ List.replicate r.k none, [], []⟩ fun d => K ⟨finL d.R r.fin st.L, [], d.h⟩

/-! made out of the model's region -/

def maskOf (acc : List Nat) (o : Oper) : Nat :=
  o.after.toList.foldl (fun s e => if Region.binds .any e then s ||| 2 ^ e.on ||| acc.getD e.on 0 else s) 0

def masksOf : List Oper → List Nat → List Nat
  | [], acc => acc
  | o :: r, acc => masksOf r (acc ++ [maskOf acc o])

/-- who writes a slot -/
def writer (t : Tmp) : List Oper → Nat → Option Nat
  | [], _ => none
  | o :: r, i => if o.dst = some t then some i else writer t r (i + 1)

/-- what an operand stands for: an operation's value, a local's at the start, or nothing that is known -/
def trD (keep : Nat → Bool) (ops : List Oper) (masks : List Nat) (i : Nat) : Operand → Opd
  | .tmp t => match writer t ops 0 with
    | some j => if (masks.getD i 0).testBit j then .tmp j else if (masks.getD j 0).testBit i && keep t then .loc t else .cst .top
    | none => if keep t then .loc t else .cst .top
  | .const v => .cst (ofV v)
  | .global g => .cst (.raw (.pointer (some ⟨g, 0, none⟩)))
  | .func f => .cst (.clo f [] [])

def AOp.lightQ : AOp → Bool
  | .h (.mk _) | .h (.box _) | .h (.bsl _ _) | .h (.mks _ _ _ _ _) => true
  | _ => false

def AOp.heavyQ : AOp → Bool
  | .r _ => false
  | a => !a.lightQ

def cGuardD (tr : Operand → Opd) (ops : List Oper) : Option (Nat × Bool) → Option (Option (Opd × Bool))
  | none => some none
  | some (j, want) => match (ops[j]?).bind (·.dst) with
    | some t => some (some (tr (.tmp t), want))
    | none => none

/-- the operations in the order of the text, each with its place, and the names of the blocks that they make -/
def cDOs (P : Program) (keep : Nat → Bool) (ops : List Oper) (masks : List Nat) : List Oper → Nat → Nat → Option (List DO)
  | [], _, _ => some []
  | o :: r, i, c =>
    match cOp P (trD keep ops masks i) o, cGuardD (trD keep ops masks i) ops o.guard with
    | some op, some g => (cDOs P keep ops masks r (i + 1) (if op.lightQ then c + 1 else c)).map (⟨i, c, op.heavyQ, op, g⟩ :: ·)
    | _, _ => none

/-- how many that act on memory come ahead of it -/
def level (masks : List Nat) (all : List DO) (o : DO) : Nat := (all.filter fun x => x.hv && (masks.getD o.i 0).testBit x.i).length

def insertBy (i f : Nat) : List (Nat × Nat) → List (Nat × Nat)
  | [] => [(i, f)]
  | x :: r => if f < x.2 then (i, f) :: x :: r else x :: insertBy i f r

def orderOf (masks : List Nat) (all : List DO) : List Nat :=
  (all.foldl (fun acc o => insertBy o.i (2 * level masks all o + (if o.hv then 1 else 0)) acc) []).map (·.1)

/-- nothing that comes later is needed; behind what acts on memory all wait for it; the new blocks have names of their own -/
def orderOk (dep : Nat → Nat → Bool) (k : Nat) : List DO → Bool
  | [] => true
  | o :: r => r.all (fun x => !(x.i == o.i) && !dep o.i x.i && (!o.hv || dep x.i o.i) && (!o.op.lightQ || !x.op.lightQ || !(x.nm == o.nm))) && (!o.op.lightQ || decide (o.nm < k)) && orderOk dep k r

def dstsOk : List Oper → Bool
  | [] => true
  | o :: r => (match o.dst with | some t => r.all fun x => !(x.dst == some t) | none => true) && dstsOk r

def edgesOk : List Oper → Nat → Bool
  | [], _ => true
  | o :: r, i => o.after.toList.all (fun e => !Region.binds .any e || decide (e.on < i)) && edgesOk r (i + 1)

def finOf (keep : Nat → Bool) : List Oper → Nat → List (Nat × Nat)
  | [], _ => []
  | o :: r, i => match o.dst with
    | some t => if keep t then (t, i) :: finOf keep r (i + 1) else finOf keep r (i + 1)
    | none => finOf keep r (i + 1)

def cDR (P : Program) (n : Nat) (keep : Nat → Bool) (ops : List Oper) : Option DR :=
  let masks := masksOf ops []
  match cDOs P keep ops masks ops 0 0 with
  | some all =>
    let items := (orderOf masks all).filterMap (all[·]?)
    let k := (all.filter (·.op.lightQ)).length
    if orderOk (fun i j => (masks.getD i 0).testBit j) k items && dstsOk ops && edgesOk ops 0 && (List.range ops.length).all (fun i => items.any fun o => o.i == i)
        && ops.all (fun o => match o.dst with | some t => decide (t < n) | none => true) then
      some ⟨masks, k, items, finOf keep ops 0⟩
    else none
  | none => none

/-! facts on these lists -/

theorem testBit_fold (acc : List Nat) (j : Nat) : ∀ (l : List Edge) (s : Nat),
    (l.foldl (fun s e => if Region.binds .any e then s ||| 2 ^ e.on ||| acc.getD e.on 0 else s) s).testBit j = true →
    s.testBit j = true ∨ ∃ e ∈ l, Region.binds .any e = true ∧ (e.on = j ∨ (acc.getD e.on 0).testBit j = true) := by
  intro l
  induction l with
  | nil => intro s h; exact .inl h
  | cons e l ih =>
    intro s h
    simp only [List.foldl_cons] at h
    rcases ih _ h with h1 | ⟨e', he', h1⟩
    · split at h1
      · rename_i hb
        simp only [Nat.testBit_or, Bool.or_eq_true, Nat.testBit_two_pow, decide_eq_true_eq] at h1
        rcases h1 with (h1 | h1) | h1
        · exact .inl h1
        · exact .inr ⟨e, by simp, hb, .inl h1⟩
        · exact .inr ⟨e, by simp, hb, .inr h1⟩
      · exact .inl h1
    · exact .inr ⟨e', by simp [he'], h1⟩

theorem masksOf_len : ∀ (ops : List Oper) (acc : List Nat), (masksOf ops acc).length = acc.length + ops.length := by
  intro ops
  induction ops with
  | nil => intro acc; simp [masksOf]
  | cons o r ih => intro acc; simp only [masksOf, ih]; simp; omega

theorem masksOf_prefix : ∀ (ops : List Oper) (acc : List Nat) (j : Nat), j < acc.length → (masksOf ops acc).getD j 0 = acc.getD j 0 := by
  intro ops
  induction ops with
  | nil => intro acc j _; rfl
  | cons o r ih =>
    intro acc j hj
    simp only [masksOf]
    rw [ih _ j (by simp; omega)]
    simp [List.getElem?_append_left hj]

theorem masksOf_spec : ∀ (ops : List Oper) (acc : List Nat) (i : Nat) (o : Oper), ops[i]? = some o →
    ∃ acc' : List Nat, (masksOf ops acc).getD (acc.length + i) 0 = maskOf acc' o ∧ acc'.length = acc.length + i ∧ ∀ j, j < acc.length + i → acc'.getD j 0 = (masksOf ops acc).getD j 0 := by
  intro ops
  induction ops with
  | nil => intro acc i o h; simp at h
  | cons x r ih =>
    intro acc i o h
    cases i with
    | zero =>
      simp at h
      subst h
      refine ⟨acc, ?_, by simp, fun j hj => ?_⟩
      · simp only [masksOf]
        rw [masksOf_prefix _ _ _ (by simp)]
        simp
      · simp only [masksOf]
        rw [masksOf_prefix _ _ _ (by simp; omega)]
        simp at hj
        simp [List.getElem?_append_left hj]
    | succ i =>
      simp only [masksOf]
      obtain ⟨acc', h1, h2, h3⟩ := ih (acc ++ [maskOf acc x]) i o (by simpa using h)
      simp only [List.length_append, List.length_cons, List.length_nil] at h1 h2 h3
      exact ⟨acc', by rw [← h1]; congr 1; omega, by omega, fun j hj => h3 j (by omega)⟩

/-- what an operation waits for, it waits for by an edge, or by one that it waits for -/
theorem dep_spec {ops : List Oper} (he : ∀ (i : Nat) (o : Oper), ops[i]? = some o → ∀ e ∈ o.after.toList, Region.binds .any e = true → e.on < i) {i j : Nat} {o : Oper} (ho : ops[i]? = some o)
    (hd : ((masksOf ops []).getD i 0).testBit j = true) : ∃ e ∈ o.after.toList, Region.binds .any e = true ∧ (e.on = j ∨ ((masksOf ops []).getD e.on 0).testBit j = true) := by
  obtain ⟨acc', h1, h2, h3⟩ := masksOf_spec ops [] i o ho
  simp only [List.length_nil, Nat.zero_add] at h1 h2 h3
  rw [h1] at hd
  unfold maskOf at hd
  rcases testBit_fold acc' j _ _ hd with h | ⟨e, hm, hb, h⟩
  · simp at h
  · refine ⟨e, hm, hb, ?_⟩
    rcases h with h | h
    · exact .inl h
    · rw [h3 _ (he i o ho e hm hb)] at h
      exact .inr h

theorem edgesOk_spec : ∀ (ops : List Oper) (k : Nat), edgesOk ops k = true → ∀ (i : Nat) (o : Oper), ops[i]? = some o → ∀ e ∈ o.after.toList, Region.binds .any e = true → e.on < k + i := by
  intro ops
  induction ops with
  | nil => intro k _ i o h; simp at h
  | cons x r ih =>
    intro k hk i o h e he hb
    simp only [edgesOk, Bool.and_eq_true] at hk
    cases i with
    | zero =>
      simp at h; subst h
      have := List.all_eq_true.1 hk.1 e he
      simp [hb] at this
      omega
    | succ i =>
      have := ih (k + 1) hk.2 i o (by simpa using h) e he hb
      omega

theorem dstsOk_spec : ∀ (ops : List Oper), dstsOk ops = true → ∀ (i j : Nat) (o p : Oper) (t : Tmp), ops[i]? = some o → ops[j]? = some p → o.dst = some t → p.dst = some t → i = j := by
  intro ops
  induction ops with
  | nil => intro _ i j o p t h; simp at h
  | cons x r ih =>
    intro hk i j o p t hi hj ho hp
    simp only [dstsOk, Bool.and_eq_true] at hk
    have aux : ∀ (q : Oper) (m : Nat), r[m]? = some q → q.dst = some t → x.dst = some t → False := by
      intro q m hm hq hx
      have h1 := hk.1
      rw [hx] at h1
      have := List.all_eq_true.1 h1 q (List.mem_of_getElem? hm)
      simp [hq] at this
    cases i with
    | zero =>
      simp at hi; subst hi
      cases j with
      | zero => rfl
      | succ j => exact (aux p j (by simpa using hj) hp ho).elim
    | succ i =>
      cases j with
      | zero => simp at hj; subst hj; exact (aux o i (by simpa using hi) ho hp).elim
      | succ j => rw [ih hk.2 i j o p t (by simpa using hi) (by simpa using hj) ho hp]

theorem writer_spec (t : Tmp) : ∀ (ops : List Oper) (k : Nat), match writer t ops k with
    | some j => k ≤ j ∧ ∃ o, ops[j - k]? = some o ∧ o.dst = some t
    | none => ∀ (i : Nat) (o : Oper), ops[i]? = some o → o.dst ≠ some t := by
  intro ops
  induction ops with
  | nil => intro k; simp [writer]
  | cons x r ih =>
    intro k
    simp only [writer]
    by_cases h : x.dst = some t
    · rw [if_pos h]; exact ⟨Nat.le_refl _, x, by simp, h⟩
    · rw [if_neg h]
      have := ih (k + 1)
      split at this
      · rename_i j hj
        obtain ⟨h1, o, h2, h3⟩ := this
        exact ⟨by omega, o, by rw [show j - k = (j - (k + 1)) + 1 by omega]; simpa using h2, h3⟩
      · rename_i hj
        intro i o hi
        cases i with
        | zero => simp at hi; subst hi; exact h
        | succ i => exact this i o (by simpa using hi)

theorem cDOs_spec {P : Program} {keep : Nat → Bool} {ops : List Oper} {masks : List Nat} : ∀ (l : List Oper) (i c : Nat) (all : List DO), cDOs P keep ops masks l i c = some all →
    all.length = l.length ∧ ∀ (j : Nat) (d : DO), all[j]? = some d → d.i = i + j ∧ d.hv = d.op.heavyQ ∧ ∃ o, l[j]? = some o ∧ cOp P (trD keep ops masks (i + j)) o = some d.op ∧ cGuardD (trD keep ops masks (i + j)) ops o.guard = some d.guard := by
  intro l
  induction l with
  | nil => intro i c all h; simp only [cDOs, Option.some.injEq] at h; subst h; exact ⟨rfl, fun j d h => by simp at h⟩
  | cons o r ih =>
    intro i c all h
    simp only [cDOs] at h
    split at h
    · rename_i op g hop hg
      simp only [Option.map_eq_some_iff] at h
      obtain ⟨all', hall, rfl⟩ := h
      obtain ⟨h1, h2⟩ := ih _ _ _ hall
      refine ⟨by simp [h1], fun j d hd => ?_⟩
      cases j with
      | zero =>
        simp at hd; subst hd
        exact ⟨rfl, rfl, o, rfl, hop, hg⟩
      | succ j =>
        obtain ⟨a, b, o', c', e, f⟩ := h2 j d (by simpa using hd)
        have : i + 1 + j = i + (j + 1) := by omega
        rw [this] at a e f
        exact ⟨a, b, o', by simpa using c', e, f⟩
    · cases h

theorem testBit_fold_intro (acc : List Nat) (j : Nat) : ∀ (l : List Edge) (s : Nat), (s.testBit j = true ∨ ∃ e ∈ l, Region.binds .any e = true ∧ (e.on = j ∨ (acc.getD e.on 0).testBit j = true)) →
    (l.foldl (fun s e => if Region.binds .any e then s ||| 2 ^ e.on ||| acc.getD e.on 0 else s) s).testBit j = true := by
  intro l
  induction l with
  | nil =>
    intro s h
    rcases h with h | ⟨e, he, _⟩
    · exact h
    · simp at he
  | cons e l ih =>
    intro s h
    simp only [List.foldl_cons]
    apply ih
    rcases h with h | ⟨e', he', hb, h⟩
    · left
      split
      · simp [Nat.testBit_or, h]
      · exact h
    · rcases List.mem_cons.1 he' with rfl | he'
      · left
        rw [if_pos hb]
        rcases h with h | h
        · simp [Nat.testBit_or, Nat.testBit_two_pow, h]
        · rw [Nat.testBit_or, h, Bool.or_true]
      · exact .inr ⟨e', he', hb, h⟩

theorem dep_intro {ops : List Oper} (he : ∀ (i : Nat) (o : Oper), ops[i]? = some o → ∀ e ∈ o.after.toList, Region.binds .any e = true → e.on < i) {i j : Nat} {o : Oper} (ho : ops[i]? = some o)
    {e : Edge} (hm : e ∈ o.after.toList) (hb : Region.binds .any e = true) (h : e.on = j ∨ ((masksOf ops []).getD e.on 0).testBit j = true) : ((masksOf ops []).getD i 0).testBit j = true := by
  obtain ⟨acc', h1, h2, h3⟩ := masksOf_spec ops [] i o ho
  simp only [List.length_nil, Nat.zero_add] at h1 h2 h3
  rw [h1]
  unfold maskOf
  refine testBit_fold_intro acc' j _ _ (.inr ⟨e, hm, hb, ?_⟩)
  rcases h with h | h
  · exact .inl h
  · rw [h3 _ (he i o ho e hm hb)]; exact .inr h

theorem masks_none {ops : List Oper} {i : Nat} (h : ops[i]? = none) : (masksOf ops []).getD i 0 = 0 := by
  have hl : (masksOf ops []).length ≤ i := by
    rw [masksOf_len]
    simpa using (List.getElem?_eq_none_iff.1 h)
  simp [List.getElem?_eq_none hl]

theorem dep_trans {ops : List Oper} (he : ∀ (i : Nat) (o : Oper), ops[i]? = some o → ∀ e ∈ o.after.toList, Region.binds .any e = true → e.on < i) : ∀ (i j k : Nat),
    ((masksOf ops []).getD i 0).testBit j = true → ((masksOf ops []).getD j 0).testBit k = true → ((masksOf ops []).getD i 0).testBit k = true := by
  intro i
  induction i using Nat.strongRecOn with
  | _ i ih =>
    intro j k h1 h2
    cases ho : ops[i]? with
    | none => rw [masks_none ho] at h1; simp at h1
    | some o =>
      obtain ⟨e, hm, hb, h⟩ := dep_spec he ho h1
      rcases h with h | h
      · subst h; exact dep_intro he ho hm hb (.inr h2)
      · exact dep_intro he ho hm hb (.inr (ih e.on (he i o ho e hm hb) j k h h2))

theorem dep_lt {ops : List Oper} (he : ∀ (i : Nat) (o : Oper), ops[i]? = some o → ∀ e ∈ o.after.toList, Region.binds .any e = true → e.on < i) : ∀ (i j : Nat),
    ((masksOf ops []).getD i 0).testBit j = true → j < i := by
  intro i
  induction i using Nat.strongRecOn with
  | _ i ih =>
    intro j h1
    cases ho : ops[i]? with
    | none => rw [masks_none ho] at h1; simp at h1
    | some o =>
      obtain ⟨e, hm, hb, h⟩ := dep_spec he ho h1
      have hlt := he i o ho e hm hb
      rcases h with h | h
      · omega
      · have := ih e.on hlt j h; omega

end Glb

/-
  A library of its own, for whatever program: regions whose order is drawn: that one order is enough.
-/
namespace Glb
open Go

/-- what has been looked at of a region -/
structure DF (P : Program) (n : Nat) (keep : Nat → Bool) (ops : List Oper) (r : DR) : Prop where
  masks : r.masks = masksOf ops []
  item : ∀ o ∈ r.items, o.hv = o.op.heavyQ ∧ ∃ op, ops[o.i]? = some op ∧ cOp P (trD keep ops r.masks o.i) op = some o.op ∧ cGuardD (trD keep ops r.masks o.i) ops op.guard = some o.guard
  ord : orderOk r.dep r.k r.items = true
  dsts : ∀ (i j : Nat) (o p : Oper) (t : Tmp), ops[i]? = some o → ops[j]? = some p → o.dst = some t → p.dst = some t → i = j
  edges : ∀ (i : Nat) (o : Oper), ops[i]? = some o → ∀ e ∈ o.after.toList, Region.binds .any e = true → e.on < i
  cover : ∀ i, i < ops.length → ∃ o ∈ r.items, o.i = i
  lt : ∀ op ∈ ops, ∀ t, op.dst = some t → t < n
  fin : r.fin = finOf keep ops 0

theorem cDR_spec {P : Program} {n : Nat} {keep : Nat → Bool} {ops : List Oper} {r : DR} (h : cDR P n keep ops = some r) : DF P n keep ops r := by
  unfold cDR at h
  simp only at h
  split at h
  · rename_i all hall
    split at h
    · rename_i hc
      cases h
      simp only [Bool.and_eq_true] at hc
      obtain ⟨⟨⟨⟨h1, h2⟩, h3⟩, h4⟩, h5⟩ := hc
      refine ⟨rfl, fun o ho => ?_, h1, dstsOk_spec ops h2, fun i o hi e he hb => by have := edgesOk_spec ops 0 h3 i o hi e he hb; omega, fun i hi => ?_, fun op hop t ht => ?_, rfl⟩
      · simp only [List.mem_filterMap] at ho
        obtain ⟨j, _, hj⟩ := ho
        obtain ⟨_, hspec⟩ := cDOs_spec ops 0 0 all hall
        obtain ⟨e1, e2, op, e3, e4, e5⟩ := hspec j o hj
        simp only [Nat.zero_add] at e1 e4 e5
        subst e1
        exact ⟨e2, op, e3, e4, e5⟩
      · have := List.all_eq_true.1 h4 i (by simpa using hi)
        rw [List.any_eq_true] at this
        obtain ⟨o, ho, he⟩ := this
        exact ⟨o, ho, by simpa using he⟩
      · have := List.all_eq_true.1 h5 op hop
        rw [ht] at this
        simpa using this
    · cases h
  · cases h

theorem orderOk_mem {dep : Nat → Nat → Bool} {k : Nat} : ∀ {l : List DO}, orderOk dep k l = true → ∀ o ∈ l, o.op.lightQ = true → o.nm < k := by
  intro l
  induction l with
  | nil => intro _ o h; simp at h
  | cons x r ih =>
    intro h o ho hl
    simp only [orderOk, Bool.and_eq_true] at h
    rcases List.mem_cons.1 ho with rfl | ho
    · have := h.1.2; simp [hl] at this; exact this
    · exact ih h.2 o ho hl

theorem orderOk_split {dep : Nat → Nat → Bool} {k : Nat} : ∀ {pre rest : List DO}, orderOk dep k (pre ++ rest) = true → ∀ o ∈ pre, ∀ x ∈ rest,
    x.i ≠ o.i ∧ dep o.i x.i = false ∧ (o.hv = true → dep x.i o.i = true) ∧ (o.op.lightQ = true → x.op.lightQ = true → x.nm ≠ o.nm) := by
  intro pre
  induction pre with
  | nil => intro rest _ o h; simp at h
  | cons y pre ih =>
    intro rest h o ho x hx
    simp only [List.cons_append, orderOk, Bool.and_eq_true] at h
    rcases List.mem_cons.1 ho with rfl | ho
    · have := List.all_eq_true.1 h.1.1 x (by simp [hx])
      simp only [Bool.and_eq_true, Bool.not_eq_true', Bool.or_eq_true, beq_eq_false_iff_ne] at this
      obtain ⟨⟨⟨a, b⟩, c⟩, d⟩ := this
      refine ⟨a, b, fun hv => ?_, fun h1 h2 => ?_⟩
      · rcases c with c | c
        · rw [hv] at c; cases c
        · exact c
      · rcases d with (d | d) | d
        · rw [h1] at d; cases d
        · rw [h2] at d; cases d
        · exact d
    · exact ih h.2 o ho x hx

theorem getElem?_hideL : ∀ (xs : List (Nat × Nat × ABlk)) (h : AHeap) (m : Nat), (hideL xs h).length = h.length ∧
    ((∃ x ∈ xs, x.2.1 = m) → m < h.length → (hideL xs h)[m]? = some none) ∧ ((∀ x ∈ xs, x.2.1 ≠ m) → (hideL xs h)[m]? = h[m]?) := by
  intro xs
  induction xs with
  | nil => intro h m; exact ⟨rfl, fun ⟨x, hx, _⟩ => by simp at hx, fun _ => rfl⟩
  | cons x r ih =>
    intro h m
    obtain ⟨a, b, c⟩ := ih (h.set x.2.1 none) m
    refine ⟨by simpa [hideL] using a, ?_, ?_⟩
    · rintro ⟨y, hy, hm⟩ hlt
      by_cases hr : ∃ z ∈ r, z.2.1 = m
      · exact b hr (by simpa using hlt)
      · have hr' : ∀ z ∈ r, z.2.1 ≠ m := fun z hz e => hr ⟨z, hz, e⟩
        rcases List.mem_cons.1 hy with rfl | hy
        · simp only [hideL]; rw [c hr', hm, List.getElem?_set_self hlt]
        · exact absurd hm (hr' y hy)
    · intro hn
      simp only [hideL]
      rw [c (fun z hz => hn z (by simp [hz])), List.getElem?_set_ne (hn x (by simp))]

theorem getElem?_showL : ∀ (xs : List (Nat × Nat × ABlk)) (h : AHeap) (m : Nat), (showL xs h).length = h.length ∧ ((∀ x ∈ xs, x.2.1 ≠ m) → (showL xs h)[m]? = h[m]?) := by
  intro xs
  induction xs with
  | nil => intro h m; exact ⟨rfl, fun _ => rfl⟩
  | cons x r ih =>
    intro h m
    obtain ⟨a, b⟩ := ih h m
    refine ⟨by simpa [showL] using a, fun hn => ?_⟩
    simp only [showL]
    rw [List.getElem?_set_ne (hn x (by simp)), b (fun z hz => hn z (by simp [hz]))]

theorem showL_at : ∀ (xs : List (Nat × Nat × ABlk)) (h : AHeap), (xs.map (·.2.1)).Nodup → ∀ x ∈ xs, x.2.1 < h.length → (showL xs h)[x.2.1]? = some (some x.2.2) := by
  intro xs
  induction xs with
  | nil => intro h _ x hx; simp at hx
  | cons y r ih =>
    intro h hn x hx hlt
    simp only [List.map_cons, List.nodup_cons, List.mem_map, not_exists, not_and] at hn
    simp only [showL]
    rcases List.mem_cons.1 hx with rfl | hx
    · rw [List.getElem?_set_self (by rw [(getElem?_showL r h 0).1]; exact hlt)]
    · rw [List.getElem?_set_ne (fun e => hn.1 x hx e.symm)]
      exact ih h hn.2 x hx hlt

/-- blocks of ours kept aside while something else goes on -/
theorem aside_list : ∀ (E : List (Nat × Nat × ABlk)) {G : Gh} {w : World} {h : AHeap}, Gam G w h → (E.map (·.2.1)).Nodup →
    (∀ x ∈ E, h[x.2.1]? = some (some x.2.2) ∧ (∃ sz es gr, x.2.2 = .arr sz es gr) ∧ ∃ b, G.loc x.2.1 = some b) →
    ∃ Gk, Gam Gk w (hideL E h) ∧ Keeps G w Gk w ∧ (∀ n, Gk.loc n = G.loc n) ∧ (∀ n, Gk.nil n ↔ G.nil n) ∧
      ∀ {G' w' h'}, Stp Gk w G' w' → Gam G' w' h' → (∀ x ∈ E, h'[x.2.1]? = some none) →
        ∃ G'', Gam G'' w' (showL E h') ∧ Stp G w G'' w' ∧ Keeps G' w' G'' w' ∧ (∀ n, G''.loc n = G'.loc n) ∧ (∀ n, G''.nil n ↔ G'.nil n) := by
  intro E
  induction E with
  | nil =>
    intro G w h g _ _
    exact ⟨G, g, Keeps.refl G w, fun _ => rfl, fun _ => Iff.rfl, fun {G' w' h'} s g' _ => ⟨G', g', s, Keeps.refl G' w', fun _ => rfl, fun _ => Iff.rfl⟩⟩
  | cons x r ih =>
    intro G w h g hn hE
    simp only [List.map_cons, List.nodup_cons, List.mem_map, not_exists, not_and] at hn
    obtain ⟨hx, ⟨sz, es, gr, hb⟩, b, hloc⟩ := hE x (by simp)
    rw [hb] at hx
    have g1 := g.drop hx
    obtain ⟨Gk, h1, h2, h3, h4, h5⟩ := ih g1 hn.2 (fun y hy => by
      obtain ⟨p, q, s⟩ := hE y (by simp [hy])
      exact ⟨by rw [List.getElem?_set_ne (fun e => hn.1 y hy e.symm)]; exact p, q, s⟩)
    refine ⟨Gk, h1, (G.keepsKill w x.2.1).trans h2, h3, h4, fun {G' w' h'} s g' hfree => ?_⟩
    obtain ⟨G1, a1, a2, a3, a4, a5⟩ := h5 s g' (fun y hy => hfree y (by simp [hy]))
    have hfr : (showL r h')[x.2.1]? = some none := by
      rw [(getElem?_showL r h' x.2.1).2 (fun z hz e => hn.1 z hz e)]; exact hfree x (by simp)
    obtain ⟨b1, b2⟩ := g.aside hx hloc a2 a1 hfr
    refine ⟨G1.revive x.2.1, ?_, b2, ?_, fun n => a4 n, fun n => a5 n⟩
    · simp only [showL, hb]; exact b1
    · exact a3.trans ⟨Nat.le_refl _, fun _ _ _ h => h, fun _ _ h => h, fun t b h => by cases t <;> exact h, fun _ _ _ => rfl, fun _ _ => rfl⟩

/-! the state amid such a region -/

section
variable {P : Program} {n : Nat} {keep : Nat → Bool} {ops : List Oper} {r : DR} {L0 : Env} {lo : Nat} {G0 : Gh} {w0 : World}

/-- an operation that has been looked at ahead, and is not done yet: what it will give -/
def Will (P : Program) (r : DR) (L0 : Env) (lo : Nat) (d : DS) (o : DO) : Prop :=
  ∃ γ : Opd → AV, (∀ j, r.dep o.i j = true → γ (.tmp j) = lk j d.R) ∧ (∀ t, γ (.loc t) = lk t L0) ∧ (∀ v, γ (.cst v) = v) ∧
    ((∃ x want, o.guard = some (x, want) ∧ ((γ x = .bool (!want)) ∨ ∃ cs, γ x = .tup cs) ∧ lk o.i d.R = .tup [] ∧ (o.op.lightQ = true → d.h[lo + o.nm]? = some none)) ∨
     ((o.guard = none ∨ ∃ x want, o.guard = some (x, want) ∧ γ x = .bool want) ∧
      ((∃ agg nn x, o.op = .r (.load agg nn x) ∧ notRes lo r.k (γ x) = true ∧ aload d.h agg nn (γ x) = some (lk o.i d.R) ∧ (o.i, γ x, agg, nn, lk o.i d.R) ∈ d.pend) ∨
       (∃ ro, o.op = .r ro ∧ (∀ h, rev γ h ro = some (lk o.i d.R))) ∨
       (∃ ho b, o.op = .h ho ∧ o.op.lightQ = true ∧ lightOf γ (lo + o.nm) ho = some (lk o.i d.R, b) ∧ d.h[lo + o.nm]? = some (some b)))))

/-- where the heap stands: the blocks of operations that are not done yet are not there -/
structure HS (r : DR) (lo : Nat) (listed : Array Bool) (d : DS) (G : Gh) (hS : AHeap) : Prop where
  len : hS.length = d.h.length
  lok : lo + r.k ≤ hS.length
  other : ∀ m, (∀ o ∈ r.items, o.op.lightQ = true → listed.getD o.i false = false → m ≠ lo + o.nm) → hS[m]? = d.h[m]?
  free : ∀ o ∈ r.items, o.op.lightQ = true → listed.getD o.i false = false → hS[lo + o.nm]? = some none ∧ G.loc (lo + o.nm) = none ∧ ¬ G.nil (lo + o.nm)

/-- a block that an operation looked at ahead makes -/
abbrev LtOk (r : DR) (lo : Nat) (listed : Array Bool) (pre : List DO) (h : AHeap) (R : Env) (G : Gh) (x : Nat × Nat × ABlk) : Prop :=
  ∃ o ∈ pre, o.op.lightQ = true ∧ x.1 = o.i ∧ x.2.1 = lo + o.nm ∧ (∃ sz es gr, x.2.2 = .arr sz es gr) ∧
    ((∀ q ∈ pre, q.hv = true → listed.getD q.i false = true → r.dep q.i x.1 = false) → h[x.2.1]? = some (some x.2.2)) ∧
    (listed.getD o.i false = true → ∃ b, G.loc x.2.1 = some b) ∧ lk x.1 R ≠ .tup []

structure J (P : Program) (n : Nat) (keep : Nat → Bool) (ops : List Oper) (r : DR) (L0 : Env) (lo : Nat) (G0 : Gh) (w0 : World) (listed : Array Bool) (pre rest : List DO) (d : DS) (G : Gh) (w : World) (a : Act) : Prop where
  items : r.items = pre ++ rest
  lsize : listed.size = ops.length
  clos : ∀ i j, listed.getD i false = true → r.dep i j = true → listed.getD j false = true
  sub : ∀ o ∈ rest, listed.getD o.i false = false
  L : d.L = L0
  A : ∀ (i : Nat) (op : Oper) (t : Tmp), listed.getD i false = true → ops[i]? = some op → op.dst = some t → V G w (lk i d.R) (a.tmps.getD t undef)
  B : ∀ t, keep t = true → (∀ (i : Nat) (op : Oper), listed.getD i false = true → ops[i]? = some op → op.dst ≠ some t) → V G w (lk t L0) (a.tmps.getD t undef)
  will : ∀ o ∈ pre, listed.getD o.i false = false → Will P r L0 lo d o
  heap : ∃ hS, Gam G w hS ∧ HS r lo listed d G hS
  ltsN : (d.lts.map (·.2.1)).Nodup
  lts : ∀ x ∈ d.lts, LtOk r lo listed pre d.h d.R G x
  ltsC : ∀ o ∈ pre, o.op.lightQ = true → (∃ x ∈ d.lts, x.1 = o.i) ∨ d.h[lo + o.nm]? = some none
  later : ∀ o ∈ rest, o.op.lightQ = true → d.h[lo + o.nm]? = some none
  size : a.tmps.size = n
  defers : a.defers = []
  stp : Stp G0 w0 G w
  lo : G0.N ≤ lo


theorem DF.dep_of (F : DF P n keep ops r) : ∀ i j, r.dep i j = ((masksOf ops []).getD i 0).testBit j := fun i j => by simp only [DR.dep, F.masks]

theorem DF.trans (F : DF P n keep ops r) {i j k : Nat} (h1 : r.dep i j = true) (h2 : r.dep j k = true) : r.dep i k = true := by
  rw [F.dep_of] at *; exact dep_trans F.edges i j k h1 h2

/-- what is ready has all that it waits for -/
theorem J.ready {listed : Array Bool} {pre rest : List DO} {d : DS} {G : Gh} {w : World} {a : Act} (F : DF P n keep ops r) (j : J P n keep ops r L0 lo G0 w0 listed pre rest d G w a) {i : Nat}
    (hr : i ∈ Region.ready .any ops.toArray listed) : listed.getD i false = false ∧ i < ops.length ∧ (∃ op, ops[i]? = some op) ∧ ∀ q, r.dep i q = true → listed.getD q false = true := by
  rw [mem_ready] at hr
  obtain ⟨h0, o, ho, hall⟩ := hr
  have ho' : ops[i]? = some o := by simpa using ho
  have hlt : i < ops.length := (List.getElem?_eq_some_iff.1 ho').1
  refine ⟨?_, hlt, ⟨o, ho'⟩, fun q hq => ?_⟩
  · have : i < listed.size := by rw [j.lsize]; exact hlt
    simp [this] at h0 ⊢
    exact h0
  · rw [F.dep_of] at hq
    obtain ⟨e, hm, hb, h⟩ := dep_spec F.edges ho' hq
    have he := hall e (by simpa using hm) hb
    rcases h with h | h
    · rw [← h]; exact he
    · exact j.clos _ _ he (by rw [F.dep_of]; exact h)

/-- the operands of an operation all of whose forerunners are done -/
theorem J.stands {listed : Array Bool} {pre rest : List DO} {d : DS} {G : Gh} {w : World} {a : Act} (F : DF P n keep ops r) (j : J P n keep ops r L0 lo G0 w0 listed pre rest d G w a) {i : Nat}
    (hi : listed.getD i false = false) (hd : ∀ q, r.dep i q = true → listed.getD q false = true) {γ : Opd → AV}
    (h1 : ∀ q, r.dep i q = true → γ (.tmp q) = lk q d.R) (h2 : ∀ t, γ (.loc t) = lk t L0) (h3 : ∀ v, γ (.cst v) = v) : Stands G w (trD keep ops r.masks i) γ a := by
  intro x
  cases x with
  | const v => simp only [trD, h3]; exact V.ofV G w v
  | global g => simp only [trD, h3]; exact .raw _
  | func f => simp only [trD, h3]; exact .clo f [] #[] [] #[] rfl (fun j c v h => by simp at h) rfl (fun j c v h => by simp at h)
  | tmp t =>
    have hw := writer_spec t ops 0
    simp only [trD]
    split at hw
    · rename_i q hq
      obtain ⟨_, op, hop, hdst⟩ := hw
      simp only [Nat.sub_zero] at hop
      split
      · rename_i hb
        have hdq : r.dep i q = true := hb
        rw [h1 q hdq]
        exact j.A q op t (hd q hdq) hop hdst
      · split
        · rename_i hb
          simp only [Bool.and_eq_true] at hb
          rw [h2]
          refine j.B t hb.2 (fun p op' hp hop' hdst' => ?_)
          have : q = p := F.dsts q p op op' t hop hop' hdst hdst'
          subst this
          have := j.clos q i hp hb.1
          rw [hi] at this; cases this
        · rw [h3]; exact .top _
    · rename_i hq
      split
      · rename_i hk
        rw [h2]
        exact j.B t hk (fun p op' _ hop' => hw p op' hop')
      · rw [h3]; exact .top _


theorem listed_set {listed : Array Bool} {i q : Nat} (hi : i < listed.size) : (listed.setIfInBounds i true).getD q false = (decide (q = i) || listed.getD q false) := by
  by_cases h : q = i
  · subst h; simp [hi]
  · simp [h, Array.getElem?_setIfInBounds_ne (fun e => h e.symm)]

theorem J.clos' {listed : Array Bool} {pre rest : List DO} {d : DS} {G : Gh} {w : World} {a : Act} (j : J P n keep ops r L0 lo G0 w0 listed pre rest d G w a) {i : Nat} (hi : i < ops.length)
    (hd : ∀ q, r.dep i q = true → listed.getD q false = true) : ∀ x q, (listed.setIfInBounds i true).getD x false = true → r.dep x q = true → (listed.setIfInBounds i true).getD q false = true := by
  have hs : i < listed.size := by rw [j.lsize]; exact hi
  intro x q hx hdx
  rw [listed_set hs] at hx ⊢
  simp only [Bool.or_eq_true, decide_eq_true_eq] at hx ⊢
  rcases hx with rfl | hx
  · exact .inr (hd q hdx)
  · exact .inr (j.clos x q hx hdx)

theorem J.AB (F : DF P n keep ops r) {listed : Array Bool} {pre rest : List DO} {d : DS} {G : Gh} {w : World} {a : Act} (j : J P n keep ops r L0 lo G0 w0 listed pre rest d G w a) {i : Nat} {op : Oper} (ho : ops[i]? = some op)
    {G' : Gh} {w' : World} (k : Keeps G w G' w') {R' : Env} (hR : ∀ q, q ≠ i → listed.getD q false = true → lk q R' = lk q d.R) {v : Value} (hv : V G' w' (lk i R') v) :
    (∀ (q : Nat) (op' : Oper) (t : Tmp), (listed.setIfInBounds i true).getD q false = true → ops[q]? = some op' → op'.dst = some t → V G' w' (lk q R') ((a.put op.dst v).tmps.getD t undef)) ∧
    (∀ t, keep t = true → (∀ (q : Nat) (op' : Oper), (listed.setIfInBounds i true).getD q false = true → ops[q]? = some op' → op'.dst ≠ some t) → V G' w' (lk t L0) ((a.put op.dst v).tmps.getD t undef)) ∧
    (a.put op.dst v).tmps.size = n ∧ (a.put op.dst v).defers = [] := by
  have hlt : i < ops.length := (List.getElem?_eq_some_iff.1 ho).1
  have hs : i < listed.size := by rw [j.lsize]; exact hlt
  have hput : ∀ t, (a.put op.dst v).tmps.getD t undef = if op.dst = some t then v else a.tmps.getD t undef := by
    intro t
    cases hd : op.dst with
    | none => simp [Act.put]
    | some s =>
      have hsn : s < a.tmps.size := by rw [j.size]; exact F.lt op (List.mem_of_getElem? ho) s hd
      simp only [Act.put]
      rw [getD_set hsn]
      by_cases e : t = s
      · subst e; simp
      · have : ¬ s = t := fun x => e x.symm
        simp [e, this]
  refine ⟨fun q op' t hq hop' hdst => ?_, fun t hk hno => ?_, ?_, ?_⟩
  · rw [hput]
    by_cases e : q = i
    · subst e
      rw [ho] at hop'; cases hop'
      rw [if_pos hdst]; exact hv
    · rw [listed_set hs] at hq
      simp only [e, decide_false, Bool.false_or] at hq
      rw [if_neg (fun h => e (F.dsts q i op' op t hop' ho hdst h)), hR q e hq]
      exact (j.A q op' t hq hop' hdst).keep k
  · rw [hput, if_neg (hno i op (by rw [listed_set hs]; simp) ho)]
    exact (j.B t hk (fun q op' hq hop' => hno q op' (by rw [listed_set hs, hq]; simp) hop')).keep k
  · cases hd : op.dst <;> simp [Act.put, j.size]
  · cases hd : op.dst <;> simp [Act.put, j.defers]

theorem J.nameLt (F : DF P n keep ops r) {listed : Array Bool} {pre rest : List DO} {d : DS} {G : Gh} {w : World} {a : Act} (j : J P n keep ops r L0 lo G0 w0 listed pre rest d G w a) {o : DO} (ho : o ∈ pre) (hl : o.op.lightQ = true) {m : Nat} (hm : m = lo + o.nm) : m < G.N := by
  obtain ⟨hS, g, hs⟩ := j.heap
  have := orderOk_mem F.ord o (by rw [j.items]; simp [ho]) hl
  have := hs.lok
  rw [← g.len]; omega

/-- something that was looked at ahead is done: what was to come of the others comes still -/
theorem J.did (F : DF P n keep ops r) {listed : Array Bool} {pre rest : List DO} {d : DS} {G : Gh} {w : World} {a : Act} (j : J P n keep ops r L0 lo G0 w0 listed pre rest d G w a) {i : Nat} {op : Oper} (ho : ops[i]? = some op)
    (hd : ∀ q, r.dep i q = true → listed.getD q false = true) (hrest : ∀ o ∈ rest, o.i ≠ i)
    {G' : Gh} {w' : World} (k : Keeps G w G' w') {v : Value} (hv : V G' w' (lk i d.R) v) (hst : Stp G0 w0 G' w')
    (hheap : ∃ hS, Gam G' w' hS ∧ HS r lo (listed.setIfInBounds i true) d G' hS) (hl : ∀ x ∈ d.lts, x.1 = i → ∃ b, G'.loc x.2.1 = some b) :
    J P n keep ops r L0 lo G0 w0 (listed.setIfInBounds i true) pre rest d G' w' (a.put op.dst v) := by
  have hlt : i < ops.length := (List.getElem?_eq_some_iff.1 ho).1
  have hs : i < listed.size := by rw [j.lsize]; exact hlt
  obtain ⟨hA, hB, hsz, hdf⟩ := j.AB F ho k (R' := d.R) (fun _ _ _ => rfl) hv
  have sub : ∀ q, (listed.setIfInBounds i true).getD q false = false → listed.getD q false = false := by
    intro q hq
    rw [listed_set hs] at hq
    simp only [Bool.or_eq_false_iff] at hq
    exact hq.2
  refine { items := j.items, lsize := by simp [j.lsize], clos := j.clos' hlt hd, sub := fun o h => ?_, L := j.L, A := hA, B := hB, will := fun o h hq => j.will o h (sub _ hq), heap := hheap, ltsN := j.ltsN,
           lts := fun x h => ?_, ltsC := j.ltsC, later := j.later, size := hsz, defers := hdf, stp := hst, lo := j.lo }
  · rw [listed_set hs, j.sub o h]; simp [hrest o h]
  · obtain ⟨o, h1, h2, h3, h4, h5, h6, h7⟩ := j.lts x h
    refine ⟨o, h1, h2, h3, h4, h5, fun hq => h6 (fun q hq1 hq2 hq3 => hq q hq1 hq2 (by rw [listed_set hs, hq3]; simp)), fun hli => ?_, h7.2⟩
    rw [listed_set hs] at hli
    simp only [Bool.or_eq_true, decide_eq_true_eq] at hli
    rcases hli with e | hli
    · exact hl x h (by rw [h3, e])
    · obtain ⟨b, hb⟩ := h7.1 hli
      exact ⟨b, k.loc _ _ (j.nameLt F h1 h2 h4) hb⟩


theorem orderOk_inj {dep : Nat → Nat → Bool} {k : Nat} : ∀ {l : List DO}, orderOk dep k l = true → ∀ o ∈ l, ∀ x ∈ l, (o.i = x.i → o = x) ∧ (o.op.lightQ = true → x.op.lightQ = true → o.nm = x.nm → o = x) := by
  intro l
  induction l with
  | nil => intro _ o h; simp at h
  | cons y r ih =>
    intro h o ho x hx
    have hsp := fun z hz => orderOk_split (pre := [y]) (rest := r) (by simpa using h) y (by simp) z hz
    simp only [orderOk, Bool.and_eq_true] at h
    rcases List.mem_cons.1 ho with rfl | ho1 <;> rcases List.mem_cons.1 hx with rfl | hx1
    · exact ⟨fun _ => rfl, fun _ _ _ => rfl⟩
    · obtain ⟨a, _, _, d⟩ := hsp x hx1
      exact ⟨fun e => absurd e.symm a, fun h1 h2 e => absurd e.symm (d h1 h2)⟩
    · obtain ⟨a, _, _, d⟩ := hsp o ho1
      exact ⟨fun e => absurd e a, fun h1 h2 e => absurd e (d h2 h1)⟩
    · exact ih h.2 o ho1 x hx1

theorem cOp_r {tr : Operand → Opd} {o : Oper} {ro : ROp} (h : cOp P tr o = some (.r ro)) : cR P tr o = some ro := by
  unfold cOp at h
  split at h
  · rename_i q hq; cases h; exact hq
  · split at h
    · cases h
    · split at h <;> cases h

theorem cOp_h {tr : Operand → Opd} {o : Oper} {ho : HOp} (h : cOp P tr o = some (.h ho)) : cH P tr o = some ho := by
  unfold cOp at h
  split at h
  · cases h
  · split at h
    · rename_i q hq; cases h; exact hq
    · split at h <;> cases h

/-- does the guard let the operation be done? -/
theorem guard_specD {G : Gh} {w : World} {a : Act} {ops : Array Oper} {o : Oper} {j : Nat} {want : Bool} {t : Tmp} {av : AV} (hv : V G w av (a.eval (.tmp t))) (hg : o.guard = some (j, want)) (ht : (ops[j]?).bind (·.dst) = some t) :
    (∀ b, av = .bool b → Region.wanted o (yielded ops a.tmps) = (b == want)) ∧ (∀ cs, av = .tup cs → Region.wanted o (yielded ops a.tmps) = false) := by
  have hy : yielded ops a.tmps j = match a.tmps[t]? with | some (.bool b) => some b | _ => none := by
    simp only [yielded, ht, Option.bind_some]
    rfl
  have hev : a.eval (.tmp t) = (a.tmps[t]?).getD undef := by simp [Act.eval]
  rw [hev] at hv
  constructor
  · rintro b rfl
    cases hq : a.tmps[t]? with
    | none => rw [hq] at hv; cases hv
    | some v =>
      rw [hq] at hv
      simp only [Option.getD_some] at hv
      cases hv
      simp only [Region.wanted, hg, hy, hq]
      cases b <;> cases want <;> rfl
  · rintro cs rfl
    cases hq : a.tmps[t]? with
    | none => simp [Region.wanted, hg, hy, hq]
    | some v =>
      rw [hq] at hv
      simp only [Option.getD_some] at hv
      cases hv
      simp [Region.wanted, hg, hy, hq]

/-- an operation that is ready and was looked at ahead -/
theorem J.doneWill (F : DF P n keep ops r) {listed : Array Bool} {pre rest : List DO} {d : DS} {G : Gh} {w : World} {a : Act} (j : J P n keep ops r L0 lo G0 w0 listed pre rest d G w a) {o : DO} (ho : o ∈ pre)
    (hi : listed.getD o.i false = false) (hd : ∀ q, r.dep o.i q = true → listed.getD q false = true) {Q : Exit → Act → World → Prop} {K : Act → World → Prop}
    (hK : ∀ G' w' a', J P n keep ops r L0 lo G0 w0 (listed.setIfInBounds o.i true) pre rest d G' w' a' → K a' w') : wpOp P ops.toArray Q o.i K a w := by
  have hmem : o ∈ r.items := by rw [j.items]; simp [ho]
  obtain ⟨hhv, op, hop, hcop, hcg⟩ := F.item o hmem
  have hlt : o.i < ops.length := (List.getElem?_eq_some_iff.1 hop).1
  have hls : o.i < listed.size := by rw [j.lsize]; exact hlt
  obtain ⟨γ, g1, g2, g3, hcase⟩ := j.will o ho hi
  have hstands := j.stands F hi hd g1 g2 g3
  have hrest : ∀ x ∈ rest, x.i ≠ o.i := fun x hx => (orderOk_split (by rw [← j.items]; exact F.ord) o ho x hx).1
  obtain ⟨hS, gam, hs⟩ := j.heap
  have same : ∀ o' ∈ r.items, o'.i = o.i → o' = o := fun o' h' e => (orderOk_inj F.ord o' h' o hmem).1 e
  have hopA : ops.toArray[o.i]? = some op := by simpa using hop
  have hs' : o.op.lightQ = false ∨ d.h[lo + o.nm]? = some none → HS r lo (listed.setIfInBounds o.i true) d G hS := by
    intro hnl
    have sub : ∀ q, (listed.setIfInBounds o.i true).getD q false = false → listed.getD q false = false ∧ q ≠ o.i := by
      intro q hq
      rw [listed_set hls] at hq
      simp only [Bool.or_eq_false_iff, decide_eq_false_iff_not] at hq
      exact ⟨hq.2, hq.1⟩
    refine ⟨hs.len, hs.lok, fun m hm => ?_, fun o' h1 h2 h3 => hs.free o' h1 h2 (sub _ h3).1⟩
    by_cases e : o.op.lightQ = true ∧ m = lo + o.nm
    · rcases hnl with hnl | hnl
      · rw [hnl] at e; cases e.1
      · rw [e.2, hnl]; exact (hs.free o hmem e.1 hi).1
    · refine hs.other m (fun o' h1 h2 h3 => ?_)
      by_cases e' : o'.i = o.i
      · have := same o' h1 e'; subst this; exact fun x => e ⟨h2, x⟩
      · exact hm o' h1 h2 (by rw [listed_set hls, h3]; simp [e'])
  unfold wpOp
  simp only [hopA]
  have guardX : ∀ x want, o.guard = some (x, want) → ∃ jj t, op.guard = some (jj, want) ∧ (ops.toArray[jj]?).bind (·.dst) = some t ∧ x = trD keep ops r.masks o.i (.tmp t) := by
    intro x want hg
    rw [hg] at hcg
    unfold cGuardD at hcg
    split at hcg
    · cases hcg
    · rename_i jj want' hgo
      split at hcg
      · rename_i t ht
        cases hcg
        exact ⟨jj, t, hgo, by simpa using ht, rfl⟩
      · cases hcg
  rcases hcase with ⟨x, want, hg, hx, hval, hnone⟩ | ⟨hgd, hbody⟩
  · -- it is passed over
    obtain ⟨jj, t, hgo, ht, rfl⟩ := guardX x want hg
    obtain ⟨s1, s2⟩ := guard_specD (hstands (.tmp t)) hgo ht
    have hw : Region.wanted op (yielded ops.toArray a.tmps) = false := by
      rcases hx with hx | ⟨cs, hx⟩
      · rw [s1 _ hx]; cases want <;> rfl
      · exact s2 cs hx
    rw [hw]
    simp only [Bool.false_eq_true, if_false]
    refine hK G w _ (j.did F hop hd hrest (Keeps.refl G w) (by rw [hval]; exact .tup [] #[] rfl (fun j c v h => by simp at h)) j.stp ⟨hS, gam, hs' ?_⟩ ?_)
    · cases hlq : o.op.lightQ with
      | false => exact .inl rfl
      | true => exact .inr (hnone hlq)
    · intro y hy e
      obtain ⟨o', h1, h2, h3, h4, h5, h6, h7, h8⟩ := j.lts y hy
      rw [e, hval] at h8
      exact absurd rfl h8
  · have hw : Region.wanted op (yielded ops.toArray a.tmps) = true := by
      rcases hgd with hg | ⟨x, want, hg, hx⟩
      · rw [hg] at hcg
        unfold cGuardD at hcg
        split at hcg
        · rename_i hgo; simp [Region.wanted, hgo]
        · split at hcg <;> cases hcg
      · obtain ⟨jj, t, hgo, ht, rfl⟩ := guardX x want hg
        rw [(guard_specD (hstands (.tmp t)) hgo ht).1 _ hx]; simp
    rw [hw]
    simp only [if_true]
    left
    have reads : ∀ ro, o.op = .r ro → rev γ hS ro = some (lk o.i d.R) → op.wp P a w K Q := by
      intro ro hro hrev
      rw [hro] at hcop
      obtain ⟨u, hu, hV⟩ := rop_sound (P := P) gam hstands (cOp_r hcop) hrev
      unfold Oper.wp
      rw [hu, Oper.upon_value]
      refine hK G w _ (j.did F hop hd hrest (Keeps.refl G w) hV j.stp ⟨hS, gam, hs' (.inl (by rw [hro]; rfl))⟩ ?_)
      intro y hy e
      obtain ⟨o', h1, h2, h3, _⟩ := j.lts y hy
      have := same o' (by rw [j.items]; simp [h1]) (by rw [← h3, e])
      subst this
      rw [hro] at h2; cases h2
    rcases hbody with ⟨agg, nn, x, hro, hres, hld, _⟩ | ⟨ro, hro, hrev⟩ | ⟨ho', b, hro, hlq, hlight, hblk⟩
    · refine reads _ hro ?_
      simp only [rev]
      rw [← hld]
      cases hγ : γ x with
      | ptr m sz i' o' =>
        rw [hγ] at hres
        simp only [notRes, Bool.or_eq_true, decide_eq_true_eq] at hres
        have hm : hS[m]? = d.h[m]? := hs.other m (fun o' h1 h2 _ e => by
          have := orderOk_mem F.ord o' h1 h2
          omega)
        simp only [aload, hm]
      | _ => rfl
    · exact reads _ hro (hrev hS)
    · rw [hro] at hcop
      obtain ⟨sz, es, gr, rfl⟩ := lightOf_arr hlight
      obtain ⟨s, mkv, he, hm, cells, ty, u, hrun, l1, l2, l3, l4, l5⟩ := light_sound (P := P) hstands (cOp_h hcop) hlight
      obtain ⟨f1, f2, f3⟩ := hs.free o hmem hlq hi
      have hN : lo + o.nm < G.N := j.nameLt F ho hlq rfl
      have kp := gam.keepsPut f2 f3 (.cells cells ty)
      have gp := gam.gamPut hN f1 f2 f3 (cells := cells) (ty := ty) l1 l2 l3 l4
      have hvv := l5 (G.put (lo + o.nm) w.heap.size) (lo + o.nm) hN (by simp [Gh.put])
      rw [hm] at hvv
      unfold Oper.wp
      rw [he]
      simp only [Sem.run_bind, hrun, Result.andThen_ok, Sem.run_pure, Oper.upon_value]
      refine hK _ _ _ (j.did F hop hd hrest kp hvv (j.stp.put gam (by have := j.lo; omega) f2 f3 _ _) ⟨_, gp, ?_⟩ ?_)
      · have hltS : lo + o.nm < hS.length := by rw [gam.len]; exact hN
        refine ⟨by simp [hs.len], by simpa using hs.lok, fun m hmm => ?_, fun o' h1 h2 h3 => ?_⟩
        · by_cases e : m = lo + o.nm
          · subst e; rw [List.getElem?_set_self hltS, hblk]
          · rw [List.getElem?_set_ne (fun x => e x.symm)]
            refine hs.other m (fun o' h1 h2 h3 => ?_)
            by_cases e' : o'.i = o.i
            · have := same o' h1 e'; subst this; exact e
            · exact hmm o' h1 h2 (by rw [listed_set hls, h3]; simp [e'])
        · rw [listed_set hls] at h3
          simp only [Bool.or_eq_false_iff, decide_eq_false_iff_not] at h3
          have hne : lo + o'.nm ≠ lo + o.nm := by
            intro e
            have := (orderOk_inj F.ord o' h1 o hmem).2 h2 hlq (by omega)
            exact h3.1 (by rw [this])
          obtain ⟨a1, a2, a3⟩ := hs.free o' h1 h2 h3.2
          refine ⟨by rw [List.getElem?_set_ne (fun x => hne x.symm)]; exact a1, ?_, a3⟩
          simp only [Gh.put, hne, if_false]; exact a2
      · intro y hy e
        obtain ⟨o', h1, h2, h3, h4, _⟩ := j.lts y hy
        have := same o' (by rw [j.items]; simp [h1]) (by rw [← h3, e])
        subst this
        exact ⟨w.heap.size, by rw [h4]; simp [Gh.put]⟩

end
end Glb

/-
  A library of its own, for whatever program: regions whose order is drawn: that one order is enough (the steps).
-/
namespace Glb
open Go

section
variable {P : Program} {n : Nat} {keep : Nat → Bool} {ops : List Oper} {r : DR} {L0 : Env} {lo : Nat} {G0 : Gh} {w0 : World}

theorem lk_cons_ne {i q : Nat} {v : AV} {R : Env} (h : q ≠ i) : lk q ((i, v) :: R) = lk q R := by
  simp only [lk]; rw [if_neg (fun e => h e.symm)]

theorem lk_cons_eq {i : Nat} {v : AV} {R : Env} : lk i ((i, v) :: R) = v := by simp [lk]

/-- one more is looked at ahead -/
theorem J.consume (F : DF P n keep ops r) {listed : Array Bool} {pre rest : List DO} {d d' : DS} {o : DO} {G : Gh} {w : World} {a : Act} (j : J P n keep ops r L0 lo G0 w0 listed pre (o :: rest) d G w a) {v : AV}
    (hL : d'.L = d.L) (hR : d'.R = (o.i, v) :: d.R) (hlen : d'.h.length = d.h.length) (hh : ∀ m, (o.op.lightQ = true → m ≠ lo + o.nm) → d'.h[m]? = d.h[m]?) (hp : ∀ p ∈ d.pend, p ∈ d'.pend)
    (hw : Will P r L0 lo d' o)
    (hlts : (d'.lts = d.lts ∧ (o.op.lightQ = true → d'.h[lo + o.nm]? = some none)) ∨ (o.op.lightQ = true ∧ v ≠ .tup [] ∧ ∃ sz es gr, d'.lts = (o.i, lo + o.nm, .arr sz es gr) :: d.lts ∧ d'.h[lo + o.nm]? = some (some (.arr sz es gr)))) :
    J P n keep ops r L0 lo G0 w0 listed (pre ++ [o]) rest d' G w a := by
  have hitems : r.items = (pre ++ [o]) ++ rest := by rw [j.items]; simp
  have ho : o ∈ r.items := by rw [j.items]; simp
  have hi := j.sub o (by simp)
  have split := fun x hx y hy => orderOk_split (pre := pre) (rest := o :: rest) (by rw [← j.items]; exact F.ord) x hx y hy
  have preNe : ∀ x ∈ pre, o.i ≠ x.i := fun x hx => (split x hx o (by simp)).1
  have preNm : ∀ x ∈ pre, o.op.lightQ = true → x.op.lightQ = true → lo + x.nm ≠ lo + o.nm := fun x hx h1 h2 e => (split x hx o (by simp)).2.2.2 h2 h1 (by omega)
  refine { items := hitems, lsize := j.lsize, clos := j.clos, sub := fun x hx => j.sub x (by simp [hx]), L := by rw [hL, j.L], A := fun i op t h1 h2 h3 => ?_, B := j.B, will := fun x hx hxl => ?_, heap := ?_,
           ltsN := ?_, lts := fun x hx => ?_, ltsC := fun x hx hxl => ?_, later := fun x hx hxl => ?_, size := j.size, defers := j.defers, stp := j.stp, lo := j.lo }
  · rw [hR, lk_cons_ne (by rintro rfl; rw [hi] at h1; cases h1)]
    exact j.A i op t h1 h2 h3
  · rcases List.mem_append.1 hx with hx | hx
    · have hne := preNe x hx
      have hlk : lk x.i d'.R = lk x.i d.R := by rw [hR, lk_cons_ne (fun e => hne e.symm)]
      have hnd : r.dep x.i o.i = false := (split x hx o (by simp)).2.1
      obtain ⟨γ, g1, g2, g3, hc⟩ := j.will x hx hxl
      refine ⟨γ, fun q hq => ?_, g2, g3, ?_⟩
      · rw [hR, lk_cons_ne (by rintro rfl; rw [hnd] at hq; cases hq)]; exact g1 q hq
      · rw [hlk]
        rcases hc with ⟨y, want, h1, h2, h3, h4⟩ | ⟨h1, h2⟩
        · exact .inl ⟨y, want, h1, h2, h3, fun hl => by rw [hh _ (fun h' => preNm x hx h' hl)]; exact h4 hl⟩
        · refine .inr ⟨h1, ?_⟩
          rcases h2 with ⟨agg, nn, y, e1, e2, e3, e4⟩ | ⟨ro, e1, e2⟩ | ⟨hop, b, e1, e2, e3, e4⟩
          · refine .inl ⟨agg, nn, y, e1, e2, ?_, hp _ e4⟩
            rw [← e3]
            cases hγ : γ y with
            | ptr m sz i' o' =>
              rw [hγ] at e2
              simp only [notRes, Bool.or_eq_true, decide_eq_true_eq] at e2
              have : d'.h[m]? = d.h[m]? := hh m (fun hl e => by have := orderOk_mem F.ord o ho hl; omega)
              simp only [aload, this]
            | _ => rfl
          · exact .inr (.inl ⟨ro, e1, e2⟩)
          · exact .inr (.inr ⟨hop, b, e1, e2, e3, by rw [hh _ (fun h' => preNm x hx h' e2)]; exact e4⟩)
    · have : x = o := by simpa using hx
      subst this; exact hw
  · obtain ⟨hS, g, hs⟩ := j.heap
    refine ⟨hS, g, by rw [hlen]; exact hs.len, hs.lok, fun m hm => ?_, hs.free⟩
    rw [hs.other m hm, hh m (fun hl => hm o ho hl hi)]
  · rcases hlts with ⟨e, _⟩ | ⟨hl, _, sz, es, gr, e, _⟩
    · rw [e]; exact j.ltsN
    · rw [e]
      simp only [List.map_cons, List.nodup_cons, List.mem_map, not_exists, not_and]
      refine ⟨fun x hx e' => ?_, j.ltsN⟩
      obtain ⟨q, q1, q2, q3, q4, _⟩ := j.lts x hx
      exact preNm q q1 hl q2 (by rw [← q4, e'])
  · have old : ∀ x ∈ d.lts, LtOk r lo listed (pre ++ [o]) d'.h d'.R G x := by
      intro x hx
      obtain ⟨q, q1, q2, q3, q4, q5, q6, q7, q8⟩ := j.lts x hx
      refine ⟨q, by simp [q1], q2, q3, q4, q5, fun hq => ?_, q7, ?_⟩
      · rw [hh _ (fun hl e => preNm q q1 hl q2 (by rw [← q4, e]))]
        exact q6 (fun z hz => hq z (by simp [hz]))
      · rw [hR, q3, lk_cons_ne (fun e => preNe q q1 e.symm), ← q3]; exact q8
    rcases hlts with ⟨e, _⟩ | ⟨hl, hv, sz, es, gr, e, hb⟩
    · rw [e] at hx; exact old x hx
    · rw [e] at hx
      rcases List.mem_cons.1 hx with rfl | hx
      · exact ⟨o, by simp, hl, rfl, rfl, ⟨sz, es, gr, rfl⟩, fun _ => hb, (fun h => by rw [hi] at h; cases h), by rw [hR, lk_cons_eq]; exact hv⟩
      · exact old x hx
  · rcases List.mem_append.1 hx with hx | hx
    · rcases j.ltsC x hx hxl with ⟨y, hy, e⟩ | h
      · left
        rcases hlts with ⟨e', _⟩ | ⟨_, _, _, _, _, e', _⟩
        · exact ⟨y, by rw [e']; exact hy, e⟩
        · exact ⟨y, by rw [e']; simp [hy], e⟩
      · right; rw [hh _ (fun hl => preNm x hx hl hxl)]; exact h
    · have : x = o := by simpa using hx
      subst this
      rcases hlts with ⟨_, h⟩ | ⟨_, _, sz, es, gr, e, _⟩
      · exact .inr (h hxl)
      · exact .inl ⟨(x.i, lo + x.nm, .arr sz es gr), by rw [e]; simp, rfl⟩
  · have := (orderOk_split (pre := pre ++ [o]) (rest := rest) (by rw [← hitems]; exact F.ord) o (by simp) x hx).2.2.2
    rw [hh _ (fun hl e => this hl hxl (by omega))]
    exact j.later x (by simp [hx]) hxl

/-- the guard of the next operation lets it be done -/
def GoOk (d : DS) (o : DO) : Prop := o.guard = none ∨ ∃ x want, o.guard = some (x, want) ∧ d.get x = .bool want

theorem rev_any {γ : Opd → AV} {ro : ROp} {v : AV} (hne : ∀ agg nn x, ro ≠ .load agg nn x) (h : rev γ [] ro = some v) : ∀ h', rev γ h' ro = some v := by
  intro h'
  rw [← h]
  cases ro <;> first | rfl | exact absurd rfl (hne _ _ _)

/-- all that acts on no memory is looked at ahead -/
theorem J.advance (F : DF P n keep ops r) {K : DS → Prop} {listed : Array Bool} {G : Gh} {w : World} {a : Act} : ∀ (rest pre : List DO) (d : DS), J P n keep ops r L0 lo G0 w0 listed pre rest d G w a → vcD P r.dep lo r.k rest d K →
    ∃ pre' rest' d', J P n keep ops r L0 lo G0 w0 listed pre' rest' d' G w a ∧
      ((rest' = [] ∧ K d') ∨ ∃ o q, rest' = o :: q ∧ o.hv = true ∧ GoOk d' o ∧ vcDo P r.dep lo r.k o d' fun d'' => vcD P r.dep lo r.k q d'' K) := by
  intro rest
  induction rest with
  | nil => intro pre d j h; exact ⟨pre, [], d, j, .inl ⟨rfl, h⟩⟩
  | cons o rest ih =>
    intro pre d j h
    have ho : o ∈ r.items := by rw [j.items]; simp
    have hL : ∀ t, d.get (.loc t) = lk t L0 := fun t => by simp only [DS.get, j.L]
    obtain ⟨hhv, op, hop, hcop, hcg⟩ := F.item o ho
    have irr : ∀ {q v}, r.dep o.i q = true → lk q ((o.i, v) :: d.R) = lk q d.R := by
      intro q v hq
      have := dep_lt F.edges o.i q (by rw [← F.dep_of]; exact hq)
      exact lk_cons_ne (by omega)
    -- it is passed over
    have skip : ∀ x want, o.guard = some (x, want) → (d.get x = .bool (!want) ∨ ∃ cs, d.get x = .tup cs) → vcD P r.dep lo r.k rest (d.val o.i (.tup [])) K →
        ∃ pre' rest' d', J P n keep ops r L0 lo G0 w0 listed pre' rest' d' G w a ∧
        ((rest' = [] ∧ K d') ∨ ∃ o q, rest' = o :: q ∧ o.hv = true ∧ GoOk d' o ∧ vcDo P r.dep lo r.k o d' fun d'' => vcD P r.dep lo r.k q d'' K) := by
      intro x want hg hx hv
      refine ih (pre ++ [o]) (d.val o.i (.tup [])) (j.consume F (d' := d.val o.i (.tup [])) (v := .tup []) rfl rfl rfl (fun _ _ => rfl) (fun _ h => h) ?_ (.inl ⟨rfl, fun hl => j.later o (by simp) hl⟩)) hv
      exact ⟨d.get, fun q hq => (irr hq).symm, hL, fun _ => rfl, .inl ⟨x, want, hg, hx, lk_cons_eq, fun hl => j.later o (by simp) hl⟩⟩
    -- it is done
    have go : GoOk d o → vcDo P r.dep lo r.k o d (fun d'' => vcD P r.dep lo r.k rest d'' K) → 
        ∃ pre' rest' d', J P n keep ops r L0 lo G0 w0 listed pre' rest' d' G w a ∧
        ((rest' = [] ∧ K d') ∨ ∃ o q, rest' = o :: q ∧ o.hv = true ∧ GoOk d' o ∧ vcDo P r.dep lo r.k o d' fun d'' => vcD P r.dep lo r.k q d'' K) := by
      intro hgo hv
      cases hh : o.hv with
      | true => exact ⟨pre, o :: rest, d, j, .inr ⟨o, rest, rfl, hh, hgo, hv⟩⟩
      | false =>
        have gd : o.guard = none ∨ ∃ x want, o.guard = some (x, want) ∧ d.get x = .bool want := hgo
        simp only [vcDo, hh] at hv
        split at hv
        · rename_i agg nn x _ hop'
          split at hv
          · rename_i u hu
            obtain ⟨hres, hv⟩ := hv
            have hnl : o.op.lightQ = false := by rw [hop']; rfl
            refine ih (pre ++ [o]) _ (j.consume F (d' := { d.val o.i u with pend := (o.i, d.get x, agg, nn, u) :: d.pend }) (v := u) rfl rfl rfl (fun _ _ => rfl) (fun p hp => List.mem_cons_of_mem _ hp) ?_ (.inl ⟨rfl, fun hl => by rw [hnl] at hl; cases hl⟩)) hv
            refine ⟨d.get, fun q hq => (irr hq).symm, hL, fun _ => rfl, .inr ⟨gd, .inl ⟨agg, nn, x, hop', hres, ?_, ?_⟩⟩⟩
            · simp only [DS.val, lk_cons_eq]; exact hu
            · simp only [DS.val, lk_cons_eq]; simp
          · exact hv.elim
        · rename_i ro hne _ hop'
          split at hv
          · rename_i u hu
            have hnl : o.op.lightQ = false := by rw [hop']; rfl
            refine ih (pre ++ [o]) _ (j.consume F (d' := d.val o.i u) (v := u) rfl rfl rfl (fun _ _ => rfl) (fun p hp => hp) ?_ (.inl ⟨rfl, fun hl => by rw [hnl] at hl; cases hl⟩)) hv
            refine ⟨d.get, fun q hq => (irr hq).symm, hL, fun _ => rfl, .inr ⟨gd, .inr (.inl ⟨ro, hop', ?_⟩)⟩⟩
            simp only [DS.val, lk_cons_eq]
            exact rev_any (fun agg nn x e => hne agg nn x e) hu
          · exact hv.elim
        · rename_i ho' _ hop'
          split at hv
          · rename_i u b hu
            obtain ⟨sz, es, gr, rfl⟩ := lightOf_arr hu
            have hlq : o.op.lightQ = true := by rw [hop']; cases ho' <;> first | rfl | (simp [lightOf] at hu)
            have hlen : lo + o.nm < d.h.length := by
              obtain ⟨hS, g, hs⟩ := j.heap
              have := orderOk_mem F.ord o ho hlq
              have := hs.lok
              have := hs.len
              omega
            have hne : u ≠ .tup [] := by
              rintro rfl
              cases ho' <;> simp only [lightOf] at hu <;> (repeat' split at hu) <;> simp at hu
            refine ih (pre ++ [o]) _ (j.consume F (d' := { d.val o.i u with h := d.h.set (lo + o.nm) (some (.arr sz es gr)), lts := (o.i, lo + o.nm, .arr sz es gr) :: d.lts }) (v := u) rfl rfl (by simp) (fun m hm => List.getElem?_set_ne (fun e => hm hlq e.symm)) (fun p hp => hp) ?_ (.inr ⟨hlq, hne, sz, es, gr, rfl, List.getElem?_set_self hlen⟩)) hv
            refine ⟨d.get, fun q hq => (irr hq).symm, hL, fun _ => rfl, .inr ⟨gd, .inr (.inr ⟨ho', .arr sz es gr, hop', hlq, ?_, List.getElem?_set_self hlen⟩)⟩⟩
            simp only [DS.val, lk_cons_eq]; exact hu
          · exact hv.elim
        all_goals first | exact hv.elim | contradiction
    simp only [vcD] at h
    split at h
    · rename_i hg; exact go (.inl hg) h
    · rename_i x want hg
      split at h
      · rename_i b hb
        by_cases e : b = want
        · subst e; exact go (.inr ⟨x, b, hg, hb⟩) (h.1 rfl)
        · have e' : b = (!want) := by cases b <;> cases want <;> simp_all
          subst e'
          exact skip x want hg (.inl hb) (h.2 rfl)
      · rename_i cs hb; exact skip x want hg (.inr ⟨cs, hb⟩) h
      · exact h.elim

end
end Glb

/-
  A library of its own, for whatever program: regions whose order is drawn: that one order is enough (what acts on memory; the whole).
-/
namespace Glb
open Go

theorem nodup_filter {α β : Type} (f : α → β) (p : α → Bool) : ∀ (l : List α), (l.map f).Nodup → ((l.filter p).map f).Nodup := by
  intro l
  induction l with
  | nil => intro h; exact h
  | cons x r ih =>
    intro h
    simp only [List.map_cons, List.nodup_cons] at h
    simp only [List.filter_cons]
    split
    · simp only [List.map_cons, List.nodup_cons]
      exact ⟨fun hm => h.1 (by
        obtain ⟨y, hy, e⟩ := List.mem_map.1 hm
        exact List.mem_map.2 ⟨y, (List.mem_filter.1 hy).1, e⟩), ih h.2⟩
    · exact ih h.2

theorem eq_of_nodup_map {α β : Type} (f : α → β) : ∀ (l : List α), (l.map f).Nodup → ∀ x ∈ l, ∀ y ∈ l, f x = f y → x = y := by
  intro l
  induction l with
  | nil => intro _ x h; simp at h
  | cons z r ih =>
    intro h x hx y hy e
    simp only [List.map_cons, List.nodup_cons, List.mem_map, not_exists, not_and] at h
    rcases List.mem_cons.1 hx with rfl | hx1 <;> rcases List.mem_cons.1 hy with rfl | hy1
    · rfl
    · exact absurd e.symm (h.1 y hy1)
    · exact absurd e (h.1 x hx1)
    · exact ih h.2 x hx1 y hy1 e

theorem again_spec {dep : Nat → Nat → Bool} {i : Nat} {h : AHeap} : ∀ {l : List (Nat × AV × Bool × Nat × AV)}, again dep i h l → ∀ p ∈ l, dep i p.1 = true ∨ aload h p.2.2.1 p.2.2.2.1 p.2.1 = some p.2.2.2.2 := by
  intro l
  induction l with
  | nil => intro _ p hp; simp at hp
  | cons x r ih =>
    intro h p hp
    rcases List.mem_cons.1 hp with rfl | hp
    · exact h.1
    · exact ih h.2 p hp

section
variable {P : Program} {n : Nat} {keep : Nat → Bool} {ops : List Oper} {r : DR} {L0 : Env} {lo : Nat} {G0 : Gh} {w0 : World}

/-- the blocks that an operation does not wait for -/
def loose (r : DR) (d : DS) (o : DO) : List (Nat × Nat × ABlk) := d.lts.filter fun x => !r.dep o.i x.1

/-- behind what acts on memory -/
theorem J.heavyDone (F : DF P n keep ops r) {listed : Array Bool} {pre rest : List DO} {d : DS} {G : Gh} {w : World} {a : Act} {o : DO} (j : J P n keep ops r L0 lo G0 w0 listed pre (o :: rest) d G w a) (hv : o.hv = true)
    (hd : ∀ q, r.dep o.i q = true → listed.getD q false = true) {op : Oper} (hop : ops[o.i]? = some op) :
    ∃ Gk, Gam Gk w (hideL (loose r d o) d.h) ∧ Keeps G w Gk w ∧
      ∀ {G' w' h' v u} {next : DS → Prop}, Stp Gk w G' w' → Gam G' w' h' → V G' w' v u → vcBack r.dep lo r.k o.i d (loose r d o) v h' next →
        ∃ G'', J P n keep ops r L0 lo G0 w0 (listed.setIfInBounds o.i true) (pre ++ [o]) rest { d.val o.i v with h := showL (loose r d o) h' } G'' w' (a.put op.dst u) ∧
          next { d.val o.i v with h := showL (loose r d o) h' } := by
  have hitems : r.items = (pre ++ [o]) ++ rest := by rw [j.items]; simp
  have ho : o ∈ r.items := by rw [j.items]; simp
  have hi := j.sub o (by simp)
  have hlt : o.i < ops.length := (List.getElem?_eq_some_iff.1 hop).1
  have hls : o.i < listed.size := by rw [j.lsize]; exact hlt
  have split := fun x hx y hy => orderOk_split (pre := pre) (rest := o :: rest) (by rw [← j.items]; exact F.ord) x hx y hy
  have hnl : o.op.lightQ = false := by
    have := (F.item o ho).1
    rw [hv] at this
    cases h : o.op with
    | r ro => rfl
    | h ho => rw [h] at this; simpa [AOp.heavyQ] using this.symm
    | call f as => rfl
    | callv x as => rfl
  have mem : ∀ x ∈ pre, x ∈ r.items := fun x hx => by rw [j.items]; simp [hx]
  have inj := fun x hx y hy => orderOk_inj F.ord x hx y hy
  obtain ⟨hS, gam, hs⟩ := j.heap
  -- a block that is loose is as it was made
  have kept : ∀ x ∈ loose r d o, d.h[x.2.1]? = some (some x.2.2) := by
    intro x hx
    obtain ⟨hx1, hx2⟩ := List.mem_filter.1 hx
    obtain ⟨q, q1, q2, q3, q4, q5, q6, q7, q8⟩ := j.lts x hx1
    refine q6 (fun z hz hzv hzl => ?_)
    cases hdz : r.dep z.i x.1 with
    | false => rfl
    | true =>
      have := F.trans ((split z hz o (by simp)).2.2.1 hzv) hdz
      rw [this] at hx2; simp at hx2
  generalize hE : (loose r d o).filter (fun x => listed.getD x.1 false) = E
  have memE : ∀ x, x ∈ E ↔ x ∈ loose r d o ∧ listed.getD x.1 false = true := by intro x; rw [← hE, List.mem_filter]
  have memL : ∀ x, x ∈ loose r d o ↔ x ∈ d.lts ∧ r.dep o.i x.1 = false := by intro x; simp [loose]
  have nodL : ((loose r d o).map (·.2.1)).Nodup := nodup_filter _ _ _ j.ltsN
  have nodE : (E.map (·.2.1)).Nodup := by rw [← hE]; exact nodup_filter _ _ _ nodL
  -- what is listed lies in the heap
  have inS : ∀ x ∈ d.lts, listed.getD x.1 false = true → hS[x.2.1]? = d.h[x.2.1]? := by
    intro x hx hxl
    obtain ⟨q, q1, q2, q3, q4, _⟩ := j.lts x hx
    refine hs.other _ (fun o' h1 h2 h3 e => ?_)
    have := (inj o' h1 q (mem q q1)).2 h2 q2 (by omega)
    subst this
    rw [q3, h3] at hxl; cases hxl
  obtain ⟨Gk, gk, kk, lk', nk', back⟩ := aside_list E gam nodE (fun x hx => by
    obtain ⟨hx1, hx2⟩ := (memE x).1 hx
    obtain ⟨hx3, hx4⟩ := (memL x).1 hx1
    obtain ⟨q, q1, q2, q3, q4, q5, q6, q7, q8⟩ := j.lts x hx3
    exact ⟨by rw [inS x hx3 hx2]; exact kept x hx1, q5, q7 (by rw [← q3]; exact hx2)⟩)
  -- the heap that the operation sees
  have hid : hideL E hS = hideL (loose r d o) d.h := by
    apply List.ext_getElem?
    intro m
    have lE := (getElem?_hideL E hS m).1
    have lX := (getElem?_hideL (loose r d o) d.h m).1
    rcases Nat.lt_or_ge m hS.length with hm | hm
    rotate_left
    · rw [List.getElem?_eq_none (by omega), List.getElem?_eq_none (by rw [lX, ← hs.len]; exact hm)]
    have hm' : m < d.h.length := by rw [← hs.len]; exact hm
    by_cases hx : ∃ x ∈ loose r d o, x.2.1 = m
    · rw [(getElem?_hideL (loose r d o) d.h m).2.1 hx hm']
      obtain ⟨x, hx1, hx2⟩ := hx
      by_cases hxl : listed.getD x.1 false = true
      · exact (getElem?_hideL E hS m).2.1 ⟨x, (memE x).2 ⟨hx1, hxl⟩, hx2⟩ hm
      · rw [(getElem?_hideL E hS m).2.2 (fun y hy e => by
          have hy' := (memE y).1 hy
          have := eq_of_nodup_map (·.2.1) _ nodL y hy'.1 x hx1 (by simp only [e, hx2])
          subst this; exact hxl hy'.2)]
        obtain ⟨q, q1, q2, q3, q4, _⟩ := j.lts x ((memL x).1 hx1).1
        rw [← hx2, q4]
        exact (hs.free q (mem q q1) q2 (by rw [← q3]; simpa using hxl)).1
    · have hx' : ∀ x ∈ loose r d o, x.2.1 ≠ m := fun x h1 h2 => hx ⟨x, h1, h2⟩
      rw [(getElem?_hideL (loose r d o) d.h m).2.2 hx', (getElem?_hideL E hS m).2.2 (fun y hy => hx' y ((memE y).1 hy).1)]
      by_cases hu : ∃ o' ∈ r.items, o'.op.lightQ = true ∧ listed.getD o'.i false = false ∧ m = lo + o'.nm
      · obtain ⟨o', h1, h2, h3, rfl⟩ := hu
        rw [(hs.free o' h1 h2 h3).1]
        rw [j.items] at h1
        rcases List.mem_append.1 h1 with h1 | h1
        · rcases j.ltsC o' h1 h2 with ⟨y, hy, e⟩ | h
          · exfalso
            obtain ⟨q, q1, q2, q3, q4, _⟩ := j.lts y hy
            have : q = o' := (inj q (mem q q1) o' (mem o' h1)).1 (by rw [← q3, e])
            subst this
            refine hx' y ((memL y).2 ⟨hy, ?_⟩) q4
            cases hdy : r.dep o.i y.1 with
            | false => rfl
            | true => have := hd _ hdy; rw [e, h3] at this; cases this
          · exact h.symm
        · exact (j.later o' h1 h2).symm
      · exact hs.other m (fun o' h1 h2 h3 e => hu ⟨o', h1, h2, h3, e⟩)
  rw [hid] at gk
  refine ⟨Gk, gk, kk, fun {G' w' h' v u next} st g' hvu hb => ?_⟩
  obtain ⟨hfree, hag, hnext⟩ := hb
  have lenk : Gk.N = d.h.length := by rw [← gk.len, (getElem?_hideL (loose r d o) d.h 0).1]
  have len' : d.h.length ≤ h'.length := by rw [g'.len, ← lenk]; exact st.keep.N
  have lok : lo + r.k ≤ d.h.length := by rw [← hs.len]; exact hs.lok
  have free : ∀ q, q < r.k → (∃ x ∈ d.lts, r.dep o.i x.1 = true ∧ x.2.1 = lo + q) ∨ h'[lo + q]? = some none := by
    intro q hq
    have := List.all_eq_true.1 hfree q (by simpa using hq)
    simp only [Bool.or_eq_true, List.any_eq_true, Bool.and_eq_true, beq_iff_eq] at this
    rcases this with h | h
    · exact .inl h
    · right
      unfold isFree at h
      split at h
      · assumption
      · cases h
  -- a block of an operation that this one does not wait for
  have freeOf : ∀ x ∈ r.items, x.op.lightQ = true → r.dep o.i x.i = false → h'[lo + x.nm]? = some none := by
    intro x hx hxl hxd
    rcases free x.nm (orderOk_mem F.ord x hx hxl) with ⟨y, hy, hyd, e⟩ | h
    · obtain ⟨q, q1, q2, q3, q4, _⟩ := j.lts y hy
      have := (inj q (mem q q1) x hx).2 q2 hxl (by omega)
      subst this
      rw [q3, hxd] at hyd; cases hyd
    · exact h
  obtain ⟨G'', g'', st'', k'', l'', n''⟩ := back st g' (fun x hx => by
    obtain ⟨hx1, hx2⟩ := (memE x).1 hx
    obtain ⟨hx3, hx4⟩ := (memL x).1 hx1
    obtain ⟨q, q1, q2, q3, q4, _⟩ := j.lts x hx3
    rw [q4]; exact freeOf q (mem q q1) q2 (by rw [← q3]; exact hx4))
  have notIn : ∀ x ∈ r.items, x.op.lightQ = true → (∀ y ∈ d.lts, y.1 ≠ x.i) → ∀ y ∈ loose r d o, y.2.1 ≠ lo + x.nm := by
    intro x hx hxl hno y hy e
    obtain ⟨hy1, _⟩ := (memL y).1 hy
    obtain ⟨q, q1, q2, q3, q4, _⟩ := j.lts y hy1
    have := (inj q (mem q q1) x hx).2 q2 hxl (by omega)
    subst this
    exact hno y hy1 q3
  have showAt : ∀ x ∈ loose r d o, (showL (loose r d o) h')[x.2.1]? = some (some x.2.2) := fun x hx => showL_at _ h' nodL x hx (by
    obtain ⟨q, q1, q2, q3, q4, _⟩ := j.lts x ((memL x).1 hx).1
    have := orderOk_mem F.ord q (mem q q1) q2
    omega)
  have keepGG : Keeps G w G'' w' := st''.keep
  have hvu' : V G'' w' v u := hvu.keep k''
  obtain ⟨hA, hB, hsz, hdf⟩ := j.AB F hop keepGG (R' := (o.i, v) :: d.R) (fun q hq _ => lk_cons_ne hq) (by rw [lk_cons_eq]; exact hvu')
  have ls' : ∀ q, (listed.setIfInBounds o.i true).getD q false = false → listed.getD q false = false ∧ q ≠ o.i := by
    intro q hq
    rw [listed_set hls] at hq
    simp only [Bool.or_eq_false_iff, decide_eq_false_iff_not] at hq
    exact ⟨hq.2, hq.1⟩
  refine ⟨G'', { items := hitems, lsize := by simp [j.lsize], clos := j.clos' hlt hd, sub := fun x hx => ?_, L := j.L, A := hA, B := hB, will := fun x hx hxl => ?_, heap := ⟨_, g'', ?_⟩, ltsN := j.ltsN, lts := fun x hx => ?_,
                 ltsC := fun x hx hxl => ?_, later := fun x hx hxl => ?_, size := hsz, defers := hdf, stp := j.stp.trans st'', lo := j.lo }, hnext⟩
  · rw [listed_set hls, j.sub x (by simp [hx])]
    have := (orderOk_split (pre := pre ++ [o]) (rest := rest) (by rw [← hitems]; exact F.ord) o (by simp) x hx).1
    simp [this]
  · obtain ⟨hxl', hxo⟩ := ls' _ hxl
    have hx' : x ∈ pre := by
      rcases List.mem_append.1 hx with h | h
      · exact h
      · have : x = o := by simpa using h
        subst this; exact absurd rfl hxo
    have hlk : lk x.i ((o.i, v) :: d.R) = lk x.i d.R := lk_cons_ne hxo
    have hnd : r.dep x.i o.i = false := (split x hx' o (by simp)).2.1
    have hnd' : r.dep o.i x.i = false := by
      cases h : r.dep o.i x.i with
      | false => rfl
      | true => have := hd _ h; rw [hxl'] at this; cases this
    obtain ⟨γ, g1, g2, g3, hc⟩ := j.will x hx' hxl'
    refine ⟨γ, fun q hq => ?_, g2, g3, ?_⟩
    · show γ (.tmp q) = lk q ((o.i, v) :: d.R)
      rw [lk_cons_ne (by rintro rfl; rw [hnd] at hq; cases hq)]; exact g1 q hq
    · simp only [DS.val]
      rw [hlk]
      rcases hc with ⟨y, want, h1, h2, h3, h4⟩ | ⟨h1, h2⟩
      · refine .inl ⟨y, want, h1, h2, h3, fun hl => ?_⟩
        have hno : ∀ y ∈ d.lts, y.1 ≠ x.i := by
          intro y hy e
          obtain ⟨q, q1, q2, q3, q4, q5, q6, q7, q8⟩ := j.lts y hy
          rw [e, h3] at q8; exact q8 rfl
        rw [(getElem?_showL (loose r d o) h' _).2 (notIn x (mem x hx') hl hno)]
        exact freeOf x (mem x hx') hl hnd'
      · refine .inr ⟨h1, ?_⟩
        rcases h2 with ⟨agg, nn, y, e1, e2, e3, e4⟩ | ⟨ro, e1, e2⟩ | ⟨hop', b, e1, e2, e3, e4⟩
        · refine .inl ⟨agg, nn, y, e1, e2, ?_, e4⟩
          have := again_spec hag _ e4
          simp only at this
          rcases this with h | h
          · rw [hnd'] at h; cases h
          · exact h
        · exact .inr (.inl ⟨ro, e1, e2⟩)
        · refine .inr (.inr ⟨hop', b, e1, e2, e3, ?_⟩)
          rcases j.ltsC x hx' e2 with ⟨y, hy, e⟩ | h
          · have hyL : y ∈ loose r d o := (memL y).2 ⟨hy, by rw [e]; exact hnd'⟩
            have k1 := kept y hyL
            have k2 := showAt y hyL
            obtain ⟨q, q1, q2, q3, q4, _⟩ := j.lts y hy
            have : q = x := (inj q (mem q q1) x (mem x hx')).1 (by rw [← q3, e])
            subst this
            rw [q4] at k1 k2
            rw [e4] at k1
            rw [k2, ← k1]
          · rw [h] at e4; cases e4
  · have lenE := (getElem?_showL E h' 0).1
    have lenX := (getElem?_showL (loose r d o) h' 0).1
    refine ⟨by simp only [DS.val]; rw [lenE, lenX], by rw [lenE]; omega, fun m hm => ?_, fun x hx hxl hxu => ?_⟩
    · simp only [DS.val]
      by_cases hxm : ∃ x ∈ loose r d o, x.2.1 = m
      · obtain ⟨x, hx, e⟩ := hxm
        subst e
        by_cases hxl : listed.getD x.1 false = true
        · rw [showAt x hx]
          refine showL_at _ h' nodE x ((memE x).2 ⟨hx, hxl⟩) ?_
          obtain ⟨q, q1, q2, q3, q4, _⟩ := j.lts x ((memL x).1 hx).1
          have := orderOk_mem F.ord q (mem q q1) q2
          omega
        · obtain ⟨q, q1, q2, q3, q4, _⟩ := j.lts x ((memL x).1 hx).1
          exfalso
          refine hm q (mem q q1) q2 ?_ q4
          rw [listed_set hls, ← q3]
          have : x.1 ≠ o.i := by
            rw [q3]; exact fun e => (split q q1 o (by simp)).1 e.symm
          simp [this]; simpa using hxl
      · have hx' : ∀ x ∈ loose r d o, x.2.1 ≠ m := fun x h1 h2 => hxm ⟨x, h1, h2⟩
        rw [(getElem?_showL (loose r d o) h' m).2 hx', (getElem?_showL E h' m).2 (fun x hx => hx' x ((memE x).1 hx).1)]
    · obtain ⟨hxu', hxo⟩ := ls' _ hxu
      have hnd' : r.dep o.i x.i = false := by
        cases h : r.dep o.i x.i with
        | false => rfl
        | true => have := hd _ h; rw [hxu'] at this; cases this
      obtain ⟨f1, f2, f3⟩ := hs.free x hx hxl hxu'
      have hN : lo + x.nm < Gk.N := by have := orderOk_mem F.ord x hx hxl; rw [lenk]; omega
      refine ⟨?_, ?_, ?_⟩
      · rw [(getElem?_showL E h' _).2 (fun y hy e => ?_)]
        · exact freeOf x hx hxl hnd'
        · obtain ⟨hy1, hy2⟩ := (memE y).1 hy
          obtain ⟨q, q1, q2, q3, q4, _⟩ := j.lts y ((memL y).1 hy1).1
          have := (inj q (mem q q1) x hx).2 q2 hxl (by omega)
          subst this
          rw [q3, hxu'] at hy2; cases hy2
      · rw [l'', st.locEq _ hN, lk']; exact f2
      · rw [n'', st.nilEq _ hN, nk']; exact f3
  · obtain ⟨q, q1, q2, q3, q4, q5, q6, q7, q8⟩ := j.lts x hx
    have hqo : q.i ≠ o.i := fun e => (split q q1 o (by simp)).1 e.symm
    refine ⟨q, by simp [q1], q2, q3, q4, q5, fun hq => ?_, fun hl => ?_, ?_⟩
    · have := hq o (by simp) hv (by rw [listed_set hls]; simp)
      exact showAt x ((memL x).2 ⟨hx, this⟩)
    · rw [listed_set hls] at hl
      simp only [hqo, decide_false, Bool.false_or] at hl
      obtain ⟨b, hb⟩ := q7 hl
      exact ⟨b, keepGG.loc _ _ (j.nameLt F q1 q2 q4) hb⟩
    · show lk x.1 ((o.i, v) :: d.R) ≠ .tup []
      rw [lk_cons_ne (by rw [q3]; exact hqo)]; exact q8
  · have hx' : x ∈ pre := by
      rcases List.mem_append.1 hx with h | h
      · exact h
      · have : x = o := by simpa using h
        subst this; rw [hnl] at hxl; cases hxl
    by_cases hy : ∃ y ∈ d.lts, y.1 = x.i
    · exact .inl hy
    · right
      have hno : ∀ y ∈ d.lts, y.1 ≠ x.i := fun y h1 h2 => hy ⟨y, h1, h2⟩
      simp only [DS.val]
      rw [(getElem?_showL (loose r d o) h' _).2 (notIn x (mem x hx') hxl hno)]
      rcases free x.nm (orderOk_mem F.ord x (mem x hx') hxl) with ⟨y, hy1, hyd, e⟩ | h
      · obtain ⟨q, q1, q2, q3, q4, _⟩ := j.lts y hy1
        have := (inj q (mem q q1) x (mem x hx')).2 q2 hxl (by omega)
        subst this
        exact absurd q3 (hno y hy1)
      · exact h
  · have hxm : x ∈ r.items := by rw [hitems]; simp [hx]
    have hno : ∀ y ∈ d.lts, y.1 ≠ x.i := by
      intro y hy e
      obtain ⟨q, q1, q2, q3, q4, _⟩ := j.lts y hy
      exact (split q q1 x (by simp [hx])).1 (by rw [← q3, e])
    simp only [DS.val]
    rw [(getElem?_showL (loose r d o) h' _).2 (notIn x hxm hxl hno)]
    rcases free x.nm (orderOk_mem F.ord x hxm hxl) with ⟨y, hy1, hyd, e⟩ | h
    · obtain ⟨q, q1, q2, q3, q4, _⟩ := j.lts y hy1
      have := (inj q (mem q q1) x hxm).2 q2 hxl (by omega)
      subst this
      exact absurd q3 (hno y hy1)
    · exact h

end
end Glb

/-
  A library of its own, for whatever program: regions whose order is drawn: the whole.
-/
namespace Glb
open Go

theorem finL_spec (R : Env) (s : Nat) : ∀ (l : List (Nat × Nat)) (L : Env), (∃ i, (s, i) ∈ l ∧ lk s (finL R l L) = lk i R) ∨ ((∀ i, (s, i) ∉ l) ∧ lk s (finL R l L) = lk s L) := by
  intro l
  induction l with
  | nil => intro L; exact .inr ⟨fun i h => by simp at h, rfl⟩
  | cons x r ih =>
    intro L
    obtain ⟨t, i⟩ := x
    simp only [finL]
    rcases ih (ins t (lk i R) L) with ⟨q, h1, h2⟩ | ⟨h1, h2⟩
    · exact .inl ⟨q, by simp [h1], h2⟩
    · rw [h2, lk_ins]
      by_cases e : s = t
      · subst e
        left
        exact ⟨i, by simp, by simp⟩
      · right
        refine ⟨fun q hq => ?_, by simp [e]⟩
        rcases List.mem_cons.1 hq with hq | hq
        · cases hq; exact e rfl
        · exact h1 q hq

theorem finOf_spec {keep : Nat → Bool} : ∀ (ops : List Oper) (k : Nat) (t i : Nat), (t, i) ∈ finOf keep ops k ↔ k ≤ i ∧ keep t = true ∧ ∃ o, ops[i - k]? = some o ∧ o.dst = some t := by
  intro ops
  induction ops with
  | nil => intro k t i; simp [finOf]
  | cons x r ih =>
    intro k t i
    have step : (t, i) ∈ finOf keep r (k + 1) ↔ k + 1 ≤ i ∧ keep t = true ∧ ∃ o, (x :: r)[i - k]? = some o ∧ o.dst = some t := by
      rw [ih]
      constructor
      · rintro ⟨h1, h2, o, h3, h4⟩
        exact ⟨h1, h2, o, by rw [show i - k = (i - (k + 1)) + 1 by omega]; simpa using h3, h4⟩
      · rintro ⟨h1, h2, o, h3, h4⟩
        rw [show i - k = (i - (k + 1)) + 1 by omega] at h3
        exact ⟨h1, h2, o, by simpa using h3, h4⟩
    have lift : (t, i) ∈ finOf keep r (k + 1) → k ≤ i ∧ keep t = true ∧ ∃ o, (x :: r)[i - k]? = some o ∧ o.dst = some t := fun h => by
      obtain ⟨h1, h2⟩ := step.1 h; exact ⟨by omega, h2⟩
    have low : (k ≤ i ∧ keep t = true ∧ ∃ o, (x :: r)[i - k]? = some o ∧ o.dst = some t) → (i = k ∧ keep t = true ∧ x.dst = some t) ∨ (t, i) ∈ finOf keep r (k + 1) := by
      rintro ⟨h1, h2, o, h3, h4⟩
      by_cases e : i = k
      · subst e; simp at h3; subst h3; exact .inl ⟨rfl, h2, h4⟩
      · exact .inr (step.2 ⟨by omega, h2, o, h3, h4⟩)
    simp only [finOf]
    cases hd : x.dst with
    | none =>
      simp only
      exact ⟨lift, fun h => by
        rcases low h with ⟨_, _, h⟩ | h
        · rw [hd] at h; cases h
        · exact h⟩
    | some s =>
      simp only
      split
      · rename_i hk
        constructor
        · intro h
          rcases List.mem_cons.1 h with h | h
          · cases h; exact ⟨Nat.le_refl _, hk, x, by simp, hd⟩
          · exact lift h
        · intro h
          rcases low h with ⟨e1, _, e2⟩ | h
          · rw [hd] at e2; cases e2; subst e1; simp
          · simp [h]
      · rename_i hk
        exact ⟨lift, fun h => by
          rcases low h with ⟨_, e, e2⟩ | h
          · rw [hd] at e2; cases e2; exact absurd e hk
          · exact h⟩

section
variable {P : Program} {n : Nat} {keep : Nat → Bool} {ops : List Oper} {r : DR} {L0 : Env} {lo : Nat} {G0 : Gh} {w0 : World}

theorem cOp_call {tr : Operand → Opd} {o : Oper} {f : FuncId} {args : List Opd} (h : cOp P tr o = some (.call f args)) :
    ∃ as tys, o.op = .call { callee := .value (.func f), args := as, argTypes := tys } ∧ args = as.toList.map tr := by
  unfold cOp at h
  split at h
  · cases h
  · split at h
    · cases h
    · split at h
      · rename_i heq; cases h; exact ⟨_, _, heq, rfl⟩
      · cases h
      · cases h

theorem cOp_callv {tr : Operand → Opd} {o : Oper} {x : Opd} {args : List Opd} (h : cOp P tr o = some (.callv x args)) :
    ∃ y as tys, o.op = .call { callee := .value y, args := as, argTypes := tys } ∧ x = tr y ∧ args = as.toList.map tr := by
  unfold cOp at h
  split at h
  · cases h
  · split at h
    · cases h
    · split at h
      · cases h
      · rename_i heq; cases h; exact ⟨_, _, _, heq, rfl, rfl⟩
      · cases h

/-- what acts on memory, when it is its turn -/
theorem J.doHeavy (F : DF P n keep ops r) {listed : Array Bool} {pre rest : List DO} {d : DS} {G : Gh} {w : World} {a : Act} {o : DO} (j : J P n keep ops r L0 lo G0 w0 listed pre (o :: rest) d G w a) (hv : o.hv = true)
    (hd : ∀ q, r.dep o.i q = true → listed.getD q false = true) (hgo : GoOk d o) {K : DS → Prop} (hvc : vcDo P r.dep lo r.k o d K) {Q : Exit → Act → World → Prop} {next : Act → World → Prop}
    (hK : ∀ d' G' w' a', J P n keep ops r L0 lo G0 w0 (listed.setIfInBounds o.i true) (pre ++ [o]) rest d' G' w' a' → K d' → next a' w') : wpOp P ops.toArray Q o.i next a w := by
  have ho : o ∈ r.items := by rw [j.items]; simp
  have hi := j.sub o (by simp)
  obtain ⟨hhv, op, hop, hcop, hcg⟩ := F.item o ho
  obtain ⟨Gk, gk, kk, fin⟩ := j.heavyDone F hv hd hop
  have hstG : Stands G w (trD keep ops r.masks o.i) d.get a := j.stands F hi hd (fun _ _ => rfl) (fun t => by simp only [DS.get, j.L]) (fun _ => rfl)
  have hst : Stands Gk w (trD keep ops r.masks o.i) d.get a := fun x => (hstG x).keep kk
  have hopA : ops.toArray[o.i]? = some op := by simpa using hop
  have hw : Region.wanted op (yielded ops.toArray a.tmps) = true := by
    rcases hgo with hg | ⟨x, want, hg, hx⟩
    · rw [hg] at hcg
      unfold cGuardD at hcg
      split at hcg
      · rename_i hgo; simp [Region.wanted, hgo]
      · split at hcg <;> cases hcg
    · rw [hg] at hcg
      unfold cGuardD at hcg
      split at hcg
      · cases hcg
      · rename_i jj want' hgo
        split at hcg
        · rename_i t ht
          cases hcg
          rw [(guard_specD (hstG (.tmp t)) hgo (by simpa using ht)).1 _ hx]; simp
        · cases hcg
  unfold wpOp
  simp only [hopA]
  rw [hw]
  simp only [if_true]
  left
  simp only [vcDo, hv] at hvc
  split at hvc
  · contradiction
  · contradiction
  · contradiction
  · -- a store, an append
    rename_i ho' _ hop'
    split at hvc
    · rename_i v h' hh
      rw [hop'] at hcop
      obtain ⟨nx, u, w', G', hu, hnx, hg, hV, hstp⟩ := hop_sound (P := P) gk hst (cOp_h hcop) hh
      obtain ⟨G'', jj, hk⟩ := fin hstp hg hV hvc
      unfold Oper.wp
      rw [hu]
      rcases hnx with rfl | ⟨rfl, rfl⟩
      · exact hK _ _ _ _ jj hk
      · exact hK _ _ _ _ jj hk
    · exact hvc.elim
  · -- a call
    rename_i f args _ hop'
    obtain ⟨hf, hvc⟩ := hvc
    rw [hop'] at hcop
    obtain ⟨as, tys, hcall, rfl⟩ := cOp_call hcop
    have hrun : (execOp a.eval op).run P w = .ok (.enter f (as.map a.eval)) w := by
      obtain ⟨dst, op', type, pos, after, guard⟩ := op
      have hcall' : op' = _ := hcall
      subst hcall'
      simp only [execOp, resolve, Act.eval, Deferred.ofValue, Sem.run_bind, Sem.run_pure, Result.andThen_ok, invoke]
      rw [run_callFunc hf]
      simp
    unfold Oper.wp
    rw [hrun, Oper.upon_enter]
    refine (hvc Gk w (as.map a.eval) gk ⟨by simp, fun q c v hc hv' => ?_⟩).mono ?_
    · exact VL.map hst as.toList q c v (by simpa using hc) (by simpa using hv')
    · rintro e w' ⟨v, rr, h', G', rfl, hb, hg, hV, hstp⟩
      obtain ⟨G'', jj, hk⟩ := fin hstp hg hV hb
      exact hK _ _ _ _ jj hk
  · -- a call of a value
    rename_i x args _ hop'
    split at hvc
    · rename_i f fs cs hx
      obtain ⟨hf, hvc⟩ := hvc
      rw [hop'] at hcop
      obtain ⟨y, as, tys, hcall, rfl, rfl⟩ := cOp_callv hcop
      have hxv := hst y
      rw [hx] at hxv
      generalize hvq : a.eval y = fv at hxv
      cases hxv with
      | clo _ _ us _ vs hlu hUs hl hVs =>
      have hrun : (execOp a.eval op).run P w = .ok (.enter f (us ++ as.map a.eval ++ vs)) w := by
        obtain ⟨dst, op', type, pos, after, guard⟩ := op
        have hcall' : op' = _ := hcall
        subst hcall'
        simp only [execOp, resolve, hvq, Deferred.ofValue, Sem.run_bind, Sem.run_pure, Result.andThen_ok, invoke]
        rw [run_callFunc hf]
      unfold Oper.wp
      rw [hrun, Oper.upon_enter]
      refine (hvc Gk w (us ++ as.map a.eval ++ vs) gk (VL.app (VL.app ⟨hlu, hUs⟩ ⟨by simp, fun q c v hc hv' => VL.map hst as.toList q c v (by simpa using hc) (by simpa using hv')⟩) ⟨hl, hVs⟩)).mono ?_
      · rintro e w' ⟨v, rr, h', G', rfl, hb, hg, hV, hstp⟩
        obtain ⟨G'', jj, hk⟩ := fin hstp hg hV hb
        exact hK _ _ _ _ jj hk
    · exact hvc.elim
  · exact hvc.elim

/-- all is done when nothing is ready -/
theorem J.allDone (F : DF P n keep ops r) {listed : Array Bool} {pre rest : List DO} {d : DS} {G : Gh} {w : World} {a : Act} (j : J P n keep ops r L0 lo G0 w0 listed pre rest d G w a)
    (hr : Region.ready .any ops.toArray listed = []) : ∀ i, i < ops.length → listed.getD i false = true := by
  intro i
  induction i using Nat.strongRecOn with
  | _ i ih =>
    intro hi
    cases hl : listed.getD i false with
    | true => rfl
    | false =>
      have hs : i < listed.size := by rw [j.lsize]; exact hi
      have : i ∈ Region.ready .any ops.toArray listed := by
        rw [mem_ready]
        refine ⟨by simp [hs] at hl ⊢; exact hl, ops[i], by simp [hi], fun e he hb => ?_⟩
        have := F.edges i ops[i] (by simp [hi]) e (by simpa using he) hb
        exact ih e.on this (by omega)
      rw [hr] at this; cases this

theorem draw_any (F : DF P n keep ops r) {K : DS → Prop} {Q : Exit → Act → World → Prop}
    (hQ : ∀ d G w a, J P n keep ops r L0 lo G0 w0 (Array.replicate ops.length true) r.items [] d G w a → K d → Q .normal a w) :
    ∀ (fuel : Nat) {listed : Array Bool} {pre rest : List DO} {d : DS} {G : Gh} {w : World} {a : Act}, J P n keep ops r L0 lo G0 w0 listed pre rest d G w a → vcD P r.dep lo r.k rest d K →
      ((List.range ops.length).filter fun i => !listed.getD i false).length ≤ fuel → wpAny P .any ops.toArray Q fuel listed a w := by
  have last : ∀ {listed : Array Bool} {pre rest : List DO} {d : DS} {G : Gh} {w : World} {a : Act}, J P n keep ops r L0 lo G0 w0 listed pre rest d G w a →
      ((rest = [] ∧ K d) ∨ ∃ o q, rest = o :: q ∧ o.hv = true ∧ GoOk d o ∧ vcDo P r.dep lo r.k o d fun d'' => vcD P r.dep lo r.k q d'' K) → (∀ i, i < ops.length → listed.getD i false = true) → Q .normal a w := by
    intro listed pre rest d G w a j hc hall
    have hli : listed = Array.replicate ops.length true := by
      apply Array.ext
      · simp [j.lsize]
      · intro i h1 h2
        have := hall i (by rw [← j.lsize]; exact h1)
        simp [h1] at this
        simp [this]
    rcases hc with ⟨rfl, hk⟩ | ⟨o, q, rfl, hv, _⟩
    · have hp : pre = r.items := by rw [j.items]; simp
      subst hp
      subst hli
      exact hQ d G w a j hk
    · have h1 := j.sub o (by simp)
      obtain ⟨_, op, hop, _⟩ := F.item o (by rw [j.items]; simp)
      rw [hall o.i (List.getElem?_eq_some_iff.1 hop).1] at h1
      cases h1
  intro fuel
  induction fuel with
  | zero =>
    intro listed pre rest d G w a j hvc hle
    obtain ⟨pre', rest', d', j', hc⟩ := j.advance F rest pre d hvc
    have hall : ∀ i, i < ops.length → listed.getD i false = true := by
      intro i hi
      have hnil := List.eq_nil_of_length_eq_zero (Nat.le_zero.1 hle)
      cases hl : listed.getD i false with
      | true => rfl
      | false =>
        have : i ∈ (List.range ops.length).filter fun i => !listed.getD i false := by simp [List.mem_filter, hi]; simpa using hl
        rw [hnil] at this; cases this
    refine ⟨?_, last j' hc hall⟩
    apply List.eq_nil_iff_forall_not_mem.2
    intro i hi
    obtain ⟨h1, h2, _⟩ := j'.ready F hi
    rw [hall i h2] at h1; cases h1
  | succ fuel ih =>
    intro listed pre rest d G w a j hvc hle
    obtain ⟨pre', rest', d', j', hc⟩ := j.advance F rest pre d hvc
    refine ⟨fun hr => last j' hc (j'.allDone F hr), fun i hi => ?_⟩
    obtain ⟨h1, h2, ⟨op, hop⟩, h4⟩ := j'.ready F hi
    have hls : i < listed.size := by rw [j.lsize]; exact h2
    have hfu : ((List.range ops.length).filter fun q => !(listed.setIfInBounds i true).getD q false).length ≤ fuel := by
      have e : ((List.range ops.length).filter fun q => !(listed.setIfInBounds i true).getD q false) = ((List.range ops.length).filter fun q => !listed.getD q false).filter fun q => !decide (q = i) := by
        rw [List.filter_filter]
        apply List.filter_congr
        intro q _
        rw [listed_set hls]
        cases decide (q = i) <;> cases listed.getD q false <;> rfl
      rw [e]
      have hm : i ∈ (List.range ops.length).filter fun q => !listed.getD q false := by simp [List.mem_filter, h2]; simpa using h1
      have : (((List.range ops.length).filter fun q => !listed.getD q false).filter fun q => !decide (q = i)).length < ((List.range ops.length).filter fun q => !listed.getD q false).length := by
        refine List.length_filter_lt_length_iff_exists.2 ⟨i, hm, by simp⟩
      omega
    obtain ⟨o, ho, rfl⟩ := F.cover i h2
    rw [j'.items] at ho
    rcases List.mem_append.1 ho with ho | ho
    · refine j'.doneWill F ho h1 h4 (fun G' w' a' jj => ?_)
      rcases hc with ⟨e1, hk⟩ | ⟨o', q, e1, hv, hgo, hvd⟩
      · exact ih jj (by rw [e1]; exact hk) hfu
      · refine ih jj ?_ hfu
        rw [e1]
        simp only [vcD]
        rcases hgo with hg | ⟨x, want, hg, hx⟩
        · rw [hg]; exact hvd
        · rw [hg]; simp only [hx]
          exact ⟨fun _ => hvd, fun e => by cases want <;> simp at e⟩
    · rcases hc with ⟨e1, hk⟩ | ⟨o', q, e1, hv, hgo, hvd⟩
      · rw [e1] at ho; cases ho
      · subst e1
        rcases List.mem_cons.1 ho with rfl | ho
        · exact j'.doHeavy F hv h4 hgo hvd (fun d' G' w' a' jj hk => ih jj hk hfu)
        · exfalso
          have hsp := orderOk_split (pre := pre' ++ [o']) (rest := q) (by rw [List.append_assoc, List.singleton_append, ← j'.items]; exact F.ord) o' (by simp) o ho
          have := h4 o'.i (hsp.2.2.1 hv)
          rw [j'.sub o' (by simp)] at this
          cases this

theorem draw_sound (hm : P.follows .mixedOrders = true) {opsA : Array Oper} {id : Nat} (hc : cDR P n keep opsA.toList = some r) {G : Gh} {w : World} {st : St} {a : Act} (sr : SR n keep G0 w0 G w st a) {K : St → Prop}
    (hk : vcDR P r st K) {Q : Exit → Act → World → Prop} (hQ : ∀ G' w' st' a', SR n keep G0 w0 G' w' st' a' → K st' → Q .normal a' w') : (Code.region id opsA true).wp P Q a w := by
  have F := cDR_spec hc
  refine wp_region_any hm ?_
  have hs : opsA.toList.length = opsA.size := by simp
  have key : wpAny P .any opsA.toList.toArray Q opsA.toList.length (Array.replicate opsA.toList.length false) a w.drew := by
    have gd : Gam G w.drew st.h := sr.gam.same rfl
    have kd : Keeps G w G w.drew := Keeps.heap_eq rfl
    obtain ⟨gr, sr'⟩ := gd.reserve r.k
    have nonL : ∀ i, (Array.replicate opsA.toList.length false).getD i false = false := by
      intro i; by_cases h : i < opsA.toList.length <;> simp at h <;> simp [h]
    refine draw_any F (L0 := st.L) (lo := st.h.length) (G0 := G0) (w0 := w0) (K := fun d => K ⟨finL d.R r.fin st.L, [], d.h⟩) ?_ opsA.toList.length (pre := []) (rest := r.items) (d := ⟨st.L, [], st.h ++ List.replicate r.k none, [], []⟩) (G := G.reserve r.k) ?_ hk ?_
    · intro d G' w' a' j hK
      obtain ⟨hS, g, hs'⟩ := j.heap
      have hall : ∀ i, i < opsA.toList.length → (Array.replicate opsA.toList.length true).getD i false = true := by intro i hi; simp at hi; simp [hi]
      have hSd : hS = d.h := by
        apply List.ext_getElem?
        intro m
        refine hs'.other m (fun o ho _ hl => ?_)
        obtain ⟨_, op, hop, _⟩ := F.item o ho
        rw [hall _ (List.getElem?_eq_some_iff.1 hop).1] at hl; cases hl
      subst hSd
      refine hQ G' w' _ a' ⟨g, j.size, j.defers, fun s hks => ?_, fun s _ => .top _, j.stp⟩ hK
      have hf := F.fin
      rcases finL_spec d.R s r.fin st.L with ⟨i, h1, h2⟩ | ⟨h1, h2⟩
      · simp only; rw [h2]
        rw [hf] at h1
        obtain ⟨_, _, o, ho, hdst⟩ := (finOf_spec _ 0 s i).1 h1
        simp only [Nat.sub_zero] at ho
        exact j.A i o s (hall i (List.getElem?_eq_some_iff.1 ho).1) ho hdst
      · simp only; rw [h2]
        refine j.B s hks (fun i op hi hop hdst => h1 i ?_)
        rw [hf]
        exact (finOf_spec _ 0 s i).2 ⟨Nat.zero_le _, hks, op, by simpa using hop, hdst⟩
    · have kG : Keeps G w (G.reserve r.k) w.drew := kd.trans sr'.keep
      refine { items := rfl, lsize := by simp, clos := (fun i q h => by rw [nonL] at h; cases h), sub := (fun o _ => nonL _), L := rfl, A := (fun i op t h => by rw [nonL] at h; cases h),
               B := (fun t hkt _ => (sr.L t hkt).keep kG), will := (fun o ho => by simp at ho), heap := ⟨_, gr, rfl, by simp, (fun _ _ => rfl), (fun o ho hl _ => ?_)⟩, ltsN := List.nodup_nil, lts := (fun x hx => by simp at hx),
               ltsC := (fun o ho => by simp at ho), later := (fun o ho hl => ?_), size := sr.size, defers := sr.defers, stp := (sr.stp.trans (Stp.drew G w _)).trans sr', lo := ?_ }
      · have hlt := orderOk_mem F.ord o ho hl
        refine ⟨?_, ?_, ?_⟩
        · rw [List.getElem?_append_right (by omega), List.getElem?_replicate, if_pos (by omega)]
        · simp only [Gh.reserve]; rw [if_neg (by rw [← sr.gam.len]; omega)]
        · simp only [Gh.reserve]; rw [← sr.gam.len]; omega
      · have hlt := orderOk_mem F.ord o ho hl
        simp only
        rw [List.getElem?_append_right (by omega), List.getElem?_replicate, if_pos (by omega)]
      · have := sr.stp.keep.N; rw [sr.gam.len]; exact this
    · refine Nat.le_trans (List.length_filter_le _ _) (by simp)
  have e2 : opsA.toList.toArray = opsA := by simp
  rw [e2, hs] at key
  exact key

end
end Glb

/-
  A library of its own, for whatever program: code: what is to be shown of it.
-/
namespace Glb
open Go

inductive AX where
  | normal
  | exit (id : Nat)
  | ret

inductive AC where
  | skip
  | reg (ops : List AO)
  | dreg (r : DR)
  | seq (a b : AC)
  | cond (c : Opd) (a b : AC)
  | block (id : Nat) (b : AC)
  | loop (b : AC)
  | exit (id : Nat)
  | ret
  | bad

section
variable {n : Nat} {keep : Nat → Bool} {G0 : Gh} {w0 : World} {P : Program}

/-! code -/

/-- a state that says no more than another -/
def Wk (st st' : St) : Prop := ∀ (n : Nat) (keep : Nat → Bool) (G0 : Gh) (w0 : World) (G : Gh) (w : World) (a : Act), SR n keep G0 w0 G w st a → ∃ G', SR n keep G0 w0 G' w st' a

theorem Wk.refl (st : St) : Wk st st := fun _ _ _ _ G _ _ h => ⟨G, h⟩
def vc (P : Program) : AC → St → (AX → St → Prop) → Prop
  | .skip, st, K => K .normal st
  | .reg ops, st, K => vcOps P ops st fun st' => K .normal { st' with R := [] }
  | .dreg r, st, K => vcDR P r st fun st' => K .normal st'
  | .seq a b, st, K => vc P a st fun x st' => match x with
    | .normal => vc P b st' K
    | .exit id => K (.exit id) st'
    | .ret => K .ret st'
  | .cond c a b, st, K => match st.get c with
    | .bool t => (t = true → vc P a st K) ∧ (t = false → vc P b st K)
    | _ => False
  | .block id b, st, K => vc P b st fun x st' => match x with
    | .normal => K .normal st'
    | .exit id' => if id' = id then K .normal st' else K (.exit id') st'
    | .ret => K .ret st'
  | .loop b, st, K => ∃ I : Nat → St → Prop, (∃ m s0, Wk st s0 ∧ I m s0) ∧ ∀ m s, I m s → vc P b s fun x s' => match x with
    | .normal => ∃ m' s0, m' < m ∧ Wk s' s0 ∧ I m' s0
    | .exit id => K (.exit id) s'
    | .ret => K .ret s'
  | .exit id, st, K => K (.exit id) st
  | .ret, st, K => K .ret st
  | .bad, _, _ => False

def cC (P : Program) (n : Nat) (keep : Nat → Bool) : Code → Option AC
  | .skip => some .skip
  | .region _ ops draw => if draw then (if P.follows .mixedOrders then (cDR P n keep ops.toList).map .dreg else none) else (cAOs P n keep ops ops.toList).map .reg
  | .seq a b => match cC P n keep a, cC P n keep b with
    | some x, some y => some (.seq x y)
    | _, _ => none
  | .cond c a b => match cC P n keep a, cC P n keep b with
    | some x, some y => some (.cond (cd keep c) x y)
    | _, _ => none
  | .block id b => (cC P n keep b).map (.block id)
  | .loop b => (cC P n keep b).map .loop
  | .exit id => some (.exit id)
  | .ret => some .ret
  | .scope b => cC P n keep b
  | .label _ => some .skip
  | _ => some .bad

/-- where code ends, and what is known then -/
def Post (n : Nat) (keep : Nat → Bool) (G0 : Gh) (w0 : World) (K : AX → St → Prop) : Exit → Act → World → Prop
  | .normal, a, w => ∃ G st, SR n keep G0 w0 G w st a ∧ K .normal st
  | .exit id, a, w => ∃ G st, SR n keep G0 w0 G w st a ∧ K (.exit id) st
  | .ret, a, w => ∃ G st, SR n keep G0 w0 G w st a ∧ K .ret st
  | _, _, _ => False

theorem SR.clearR {G w st a} (sr : SR n keep G0 w0 G w st a) : SR n keep G0 w0 G w { st with R := [] } a :=
  ⟨sr.gam, sr.size, sr.defers, sr.L, fun _ _ => .top _, sr.stp⟩

/-- a loop, by a number that falls -/
theorem wp_loop_ix {Q : Exit → Act → World → Prop} {c : Code} (I : Nat → Act → World → Prop)
    (round : ∀ m a w, I m a w → c.wp P (Exit.then (fun a' w' => ∃ m', m' < m ∧ I m' a' w') Q) a w) {m : Nat} {a : Act} {w : World} (h₀ : I m a w) : (Code.loop c).wp P Q a w := by
  intro b k cs
  have key : ∀ m a w, I m a w → ∃ e a' w', Q e a' w' ∧ Arrives P (lone (b.at a (.code c :: .inLoop c :: k)) cs w) b k cs e a' w' := by
    intro m
    induction m using Nat.strongRecOn with
    | _ m ih =>
      intro a w hI
      obtain ⟨e, a₁, w₁, hq, harr⟩ := round m a w hI b (.inLoop c :: k) cs
      cases e with
      | normal =>
        obtain ⟨m', hlt, hI₁⟩ := hq
        obtain ⟨e₂, a₂, w₂, hq₂, harr₂⟩ := ih m' hlt a₁ w₁ hI₁
        exact ⟨e₂, a₂, w₂, hq₂, .of_steps (Steps.trans harr (.one step_inLoop)) harr₂⟩
      | exit id => exact ⟨_, a₁, w₁, hq, .pass (x := .inLoop c) rfl (fun _ _ => .inl (by simp)) harr⟩
      | goto l => exact ⟨_, a₁, w₁, hq, .pass (x := .inLoop c) rfl (fun _ _ => .inl (by simp)) harr⟩
      | ret => exact ⟨_, a₁, w₁, hq, .pass (x := .inLoop c) rfl (fun _ _ => .inl (by simp)) harr⟩
      | panic ch => exact ⟨_, a₁, w₁, hq, .pass (x := .inLoop c) rfl (fun _ _ => .inl (by simp)) harr⟩
      | outgrown => exact ⟨_, a₁, w₁, hq, .pass (x := .inLoop c) rfl (fun _ _ => .inl (by simp)) harr⟩
  obtain ⟨e, a', w', hq, harr⟩ := key m a w h₀
  exact ⟨e, a', w', hq, .of_steps (.one step_loop) harr⟩

theorem vc_sound : ∀ (c : Code) (ac : AC), cC P n keep c = some ac → ∀ {K : AX → St → Prop} {G w st a}, SR n keep G0 w0 G w st a → vc P ac st K → c.wp P (Post n keep G0 w0 K) a w := by
  intro c
  induction c with
  | skip => intro ac hc K G w st a sr hk; simp only [cC, Option.some.injEq] at hc; subst hc; exact wp_skip ⟨G, st, sr, hk⟩
  | ret => intro ac hc K G w st a sr hk; simp only [cC, Option.some.injEq] at hc; subst hc; exact wp_ret ⟨G, st, sr, hk⟩
  | exit id => intro ac hc K G w st a sr hk; simp only [cC, Option.some.injEq] at hc; subst hc; exact wp_exit ⟨G, st, sr, hk⟩
  | region id ops draw =>
    intro ac hc K G w st a sr hk
    simp only [cC] at hc
    split at hc
    · rename_i hd
      have hdr : draw = true := hd
      subst hdr
      split at hc
      · rename_i hm
        simp only [Option.map_eq_some_iff] at hc
        obtain ⟨r, hr, rfl⟩ := hc
        exact draw_sound hm hr sr hk (fun G' w' st' a' sr' hk' => ⟨G', st', sr', hk'⟩)
      · cases hc
    · rename_i hd
      have : draw = false := by simpa using hd
      subst this
      simp only [Option.map_eq_some_iff] at hc
      obtain ⟨al, hal, rfl⟩ := hc
      exact wp_region_list (vcOps_sound (fun G' w' st' a' sr' hk' => ⟨G', _, sr'.clearR, hk'⟩) ops.toList al sr hal hk)
  | seq x y ihx ihy =>
    intro ac hc K G w st a sr hk
    simp only [cC] at hc
    split at hc
    · rename_i ax ay hx hy
      cases hc
      refine wp_seq (wp_mono (ihx ax hx sr hk) ?_)
      intro e a' w' hp
      cases e with
      | normal => obtain ⟨G', st', sr', hk'⟩ := hp; exact ihy ay hy sr' hk'
      | exit id => exact hp
      | ret => exact hp
      | goto l => exact hp
      | panic c => exact hp
      | outgrown => exact hp
    · cases hc
  | cond x y z ihy ihz =>
    intro ac hc K G w st a sr hk
    simp only [cC] at hc
    split at hc
    · rename_i ay az hy hz
      cases hc
      simp only [vc] at hk
      split at hk
      · rename_i t ht
        have hv := sr.stands x
        rw [ht] at hv
        generalize hq : a.eval x = v at hv
        cases hv
        refine wp_cond_split hq (fun e => ?_) (fun e => ?_)
        · exact ihy ay hy sr (hk.1 e)
        · exact ihz az hz sr (hk.2 e)
      · exact hk.elim
    · cases hc
  | block id b ih =>
    intro ac hc K G w st a sr hk
    simp only [cC, Option.map_eq_some_iff] at hc
    obtain ⟨ab, hb, rfl⟩ := hc
    refine wp_block (wp_mono (ih ab hb sr hk) ?_)
    intro e a' w' hp
    cases e with
    | normal => exact hp
    | exit id' =>
      obtain ⟨G', st', sr', hk'⟩ := hp
      simp only at hk'
      simp only [Exit.inBlock]
      split <;> rename_i h
      · rw [if_pos h] at hk'; exact ⟨G', st', sr', hk'⟩
      · rw [if_neg h] at hk'; exact ⟨G', st', sr', hk'⟩
    | ret => exact hp
    | goto l => exact hp
    | panic c => exact hp
    | outgrown => exact hp
  | loop b ih =>
    intro ac hc K G w st a sr hk
    simp only [cC, Option.map_eq_some_iff] at hc
    obtain ⟨ab, hb, rfl⟩ := hc
    obtain ⟨I, ⟨m, s0, hwk, h0⟩, hround⟩ := hk
    obtain ⟨G', sr'⟩ := hwk n keep G0 w0 G w a sr
    refine wp_loop_ix (fun m a w => ∃ G s, SR n keep G0 w0 G w s a ∧ I m s) ?_ ⟨G', s0, sr', h0⟩
    rintro m a w ⟨G, s, sr, hI⟩
    refine wp_mono (ih ab hb sr (hround m s hI)) ?_
    intro e a' w' hp
    cases e with
    | normal =>
      obtain ⟨G', st', sr', m', s0, hlt, hwk, hI'⟩ := hp
      obtain ⟨G'', sr''⟩ := hwk n keep G0 w0 G' w' a' sr'
      exact ⟨m', hlt, G'', s0, sr'', hI'⟩
    | exit id => exact hp
    | ret => exact hp
    | goto l => exact hp
    | panic c => exact hp
    | outgrown => exact hp
  | rangeFunc f ps x y _ _ => intro ac hc K G w st a sr hk; simp only [cC, Option.some.injEq] at hc; subst hc; exact hk.elim
  | scope b ih =>
    intro ac hc K G w st a sr hk
    simp only [cC] at hc
    refine wp_scope_straight (wp_mono (ih ac hc sr hk) ?_)
    intro e a' w' hp
    cases e with
    | normal => exact hp
    | exit id => exact hp
    | ret => exact hp
    | goto l => exact hp
    | panic c => exact hp
    | outgrown => exact hp
  | label l => intro ac hc K G w st a sr hk; simp only [cC, Option.some.injEq] at hc; subst hc; exact wp_label ⟨G, st, sr, hk⟩
  | goto l => intro ac hc K G w st a sr hk; simp only [cC, Option.some.injEq] at hc; subst hc; exact hk.elim
  | refuse w => intro ac hc K G w st a sr hk; simp only [cC, Option.some.injEq] at hc; subst hc; exact hk.elim

end
end Glb

/-
  A library of its own, for whatever program: functions.
-/
namespace Glb
open Go

inductive ARes where
  | tmp (x : Opd)
  | cell (x : Opd) (agg : Bool) (n : Nat)

def cRes (P : Program) (keep : Nat → Bool) : List ResultVar → Option (List ARes)
  | [] => some []
  | .tmp t :: r => (cRes P keep r).map (.tmp (cd keep (.tmp t)) :: ·)
  | .cell a t :: r => match isAggT P t, P.info? t, cRes P keep r with
    | some b, some i, some l => some (.cell (cd keep (.tmp a)) b i.size :: l)
    | _, _, _ => none

def resVals (st : St) : List ARes → Option (List AV)
  | [] => some []
  | .tmp x :: r => (resVals st r).map (st.get x :: ·)
  | .cell x agg n :: r => match aload st.h agg n (st.get x), resVals st r with
    | some v, some l => some (v :: l)
    | _, _ => none

def oneOrTup : List AV → AV
  | [x] => x
  | l => .tup l

structure AFn where
  n : Nat
  keep : Nat → Bool
  code : AC
  res : List ARes

def cFn (P : Program) (keep : Nat → Bool) (f : FuncId) : Option AFn :=
  match P.funcs[f]? with
  | some fn => match fn.body with
    | some c => match cC P fn.ntmps keep c, cRes P keep fn.results.toList with
      | some ac, some res => some ⟨fn.ntmps, keep, ac, res⟩
      | _, _ => none
    | none => none
  | none => none

def initEnv (p : Nat → Bool) : Nat → List AV → Env
  | _, [] => []
  | i, v :: r => if p i then (i, v) :: initEnv p (i + 1) r else initEnv p (i + 1) r

theorem lk_initEnv (p : Nat → Bool) : ∀ (vs : List AV) (i s : Nat), lk s (initEnv p i vs) = .top ∨ (i ≤ s ∧ vs[s - i]? = some (lk s (initEnv p i vs))) := by
  intro vs
  induction vs with
  | nil => intro i s; exact .inl rfl
  | cons v vs ih =>
    intro i s
    have shift : lk s (initEnv p (i + 1) vs) = .top ∨ (i ≤ s ∧ (v :: vs)[s - i]? = some (lk s (initEnv p (i + 1) vs))) := by
      rcases ih (i + 1) s with h | ⟨h1, h2⟩
      · exact .inl h
      · exact .inr ⟨by omega, by rw [show s - i = (s - (i + 1)) + 1 by omega]; simpa using h2⟩
    simp only [initEnv]
    split
    · simp only [lk]
      split
      · rename_i h; subst h; exact .inr ⟨Nat.le_refl _, by simp⟩
      · exact shift
    · exact shift

def initSt (keep : Nat → Bool) (avs : List AV) (h : AHeap) : St := ⟨initEnv keep 0 avs, initEnv (fun s => !keep s) 0 avs, h⟩

/-- what a function's end comes to -/
def atEnd (res : List ARes) (K : AV → AHeap → Prop) : AX → St → Prop
  | .exit _, _ => False
  | _, st => match resVals st res with
    | some l => K (oneOrTup l) st.h
    | none => False

section
variable {n : Nat} {keep : Nat → Bool} {G0 : Gh} {w0 : World} {P : Program}

theorem resVals_sound {G w st a} (sr : SR n keep G0 w0 G w st a) : ∀ (rs : List ResultVar) (res : List ARes) (l : List AV), cRes P keep rs = some res → resVals st res = some l →
    ∃ vs : List Value, (rs.mapM fun
      | .tmp t => pure (a.tmps.getD t undef)
      | .cell x t => do loadVar t (← asAddr (a.tmps.getD x undef)) : Sem (List Value)).run P w = .ok vs w ∧ l.length = vs.length ∧
      ∀ (j : Nat) (c : AV) (v : Value), l[j]? = some c → vs[j]? = some v → V G w c v := by
  intro rs
  induction rs with
  | nil =>
    intro res l hc hl
    simp only [cRes, Option.some.injEq] at hc
    subst hc
    simp only [resVals, Option.some.injEq] at hl
    subst hl
    exact ⟨[], rfl, rfl, fun j c v h => by simp at h⟩
  | cons r rs ih =>
    intro res l hc hl
    have cons : ∀ {c : AV} {v : Value} {l' : List AV} {vs : List Value}, V G w c v → l'.length = vs.length → (∀ (j : Nat) (c : AV) (v : Value), l'[j]? = some c → vs[j]? = some v → V G w c v) →
        (c :: l').length = (v :: vs).length ∧ ∀ (j : Nat) (c' : AV) (v' : Value), (c :: l')[j]? = some c' → (v :: vs)[j]? = some v' → V G w c' v' := by
      intro c v l' vs h1 h2 h3
      refine ⟨by simp [h2], fun j c' v' hc hv => ?_⟩
      cases j with
      | zero => simp at hc hv; subst hc; subst hv; exact h1
      | succ j => exact h3 j c' v' (by simpa using hc) (by simpa using hv)
    cases r with
    | tmp t =>
      simp only [cRes, Option.map_eq_some_iff] at hc
      obtain ⟨res', hres, rfl⟩ := hc
      simp only [resVals, Option.map_eq_some_iff] at hl
      obtain ⟨l', hl', rfl⟩ := hl
      obtain ⟨vs, h1, h2, h3⟩ := ih res' l' hres hl'
      have hv := sr.stands (.tmp t)
      refine ⟨a.tmps.getD t undef :: vs, ?_, cons hv h2 h3⟩
      simp only [List.mapM_cons, Sem.run_bind, Sem.run_pure, Result.andThen_ok, h1]
    | cell x t =>
      simp only [cRes] at hc
      split at hc
      · rename_i b i res' hb hi hres
        cases hc
        simp only [resVals] at hl
        split at hl
        · rename_i c l' hld hl'
          cases hl
          obtain ⟨vs, h1, h2, h3⟩ := ih res' l' hres hl'
          obtain ⟨u, hu, hV⟩ := aload_sound (P := P) sr.gam (sr.stands (.tmp x)) hld (run_isAggT hb) (run_size hi)
          refine ⟨u :: vs, ?_, cons hV h2 h3⟩
          have hu' : ((do loadVar t (← asAddr (a.tmps.getD x undef)) : Sem Value)).run P w = .ok u w := by
            have he : a.eval (.tmp x) = a.tmps.getD x undef := rfl
            rw [he] at hu
            generalize a.tmps.getD x undef = q at hu
            cases q with
            | pointer p => cases p with
              | none => simp [Instr.loadAt, Instr.sureAddr] at hu
              | some p => simpa [Instr.loadAt, Instr.sureAddr, asAddr] using hu
            | _ => simp [Instr.loadAt, Instr.sureAddr] at hu
          simp only [List.mapM_cons, Sem.run_bind, Sem.run_pure, Result.andThen_ok, h1]
          simp only [Sem.run_bind] at hu'
          rw [hu']
          simp only [Result.andThen_ok, h1]
        · cases hl
      · cases hc

theorem results_sound {G w st a} (sr : SR n keep G0 w0 G w st a) {fn : Func} {res : List ARes} {l : List AV} (hc : cRes P keep fn.results.toList = some res) (hl : resVals st res = some l) :
    ∃ v, (results fn a.tmps).run P w = .ok v w ∧ V G w (oneOrTup l) v := by
  obtain ⟨vs, h1, h2, h3⟩ := resVals_sound sr fn.results.toList res l hc hl
  have hm : (fn.results.mapM fun
      | .tmp t => pure (a.tmps.getD t undef)
      | .cell x t => do loadVar t (← asAddr (a.tmps.getD x undef)) : Sem (Array Value)).run P w = .ok vs.toArray w := by
    have e : ∀ (x : Sem (List Value)), (Functor.map List.toArray x : Sem (Array Value)).run P w = (x.run P w).andThen fun a w' => .ok a.toArray w' := fun x => Sem.run_bind' P x _ w
    rw [Array.mapM_eq_mapM_toList, e, h1]
    rfl
  refine ⟨if h : vs.toArray.size = 1 then vs.toArray[0] else .tuple vs.toArray, ?_, ?_⟩
  · unfold results
    rw [Sem.run_bind]
    exact (congrArg (fun r => Result.andThen r _) hm).trans rfl
  · unfold oneOrTup
    split
    · rename_i x
      have hs : vs.length = 1 := by simpa using h2.symm
      rw [dif_pos (by simpa using hs)]
      exact h3 0 x _ rfl (by simp [hs])
    · rename_i hne
      have hs : ¬ vs.toArray.size = 1 := by
        intro hs
        have : l.length = 1 := by rw [h2]; simpa using hs
        obtain ⟨x, hx⟩ := List.length_eq_one_iff.1 this
        exact hne x hx
      rw [dif_neg hs]
      exact .tup _ _ (by simpa using h2) (fun j c v hc hv => h3 j c v hc (by simpa using hv))

/-- a function, by what is to be shown of its code -/
theorem fun_sound {f : FuncId} {fn : AFn} (hf : cFn P keep f = some fn) {avs : List AV} (hn : avs.length ≤ fn.n) {h : AHeap} {K : AV → AHeap → Prop}
    (hk : vc P fn.code (initSt keep avs h) (atEnd fn.res K)) : ACalls P f avs h K := by
  unfold cFn at hf
  split at hf
  · rename_i fd hfd
    split at hf
    · rename_i c hc
      split at hf
      · rename_i ac res hac hres
        cases hf
        intro G w vs hg hv
        refine calls_of_wp hfd hc ?_
        have sr : SR fd.ntmps keep G w G w (initSt keep avs h) { tmps := vs ++ Array.replicate (fd.ntmps - vs.size) undef, defers := [] } := by
          have hle : vs.size ≤ fd.ntmps := by rw [← hv.1]; exact hn
          have env : ∀ (p : Nat → Bool) (s : Nat), V G w (lk s (initEnv p 0 avs)) ((vs ++ Array.replicate (fd.ntmps - vs.size) undef).getD s undef) := by
            intro p s
            rcases lk_initEnv p avs 0 s with e | ⟨_, e⟩
            · rw [e]; exact .top _
            · simp only [Nat.sub_zero] at e
              obtain ⟨v, hv', hV⟩ := hv.get e
              have hlt := (Array.getElem?_eq_some_iff.1 hv').1
              have : (vs ++ Array.replicate (fd.ntmps - vs.size) undef).getD s undef = v := by
                simp [Array.getElem?_append, hlt]
                have := hv'
                simp [hlt] at this
                exact this
              rw [this]; exact hV
          exact ⟨hg, by simp; omega, rfl, fun s _ => env keep s, fun s _ => env _ s, Stp.refl G w⟩
        refine wp_mono (vc_sound c ac hac sr hk) ?_
        intro e a w' hp
        have fin : ∀ {G' st'}, SR fd.ntmps keep G w G' w' st' a → atEnd res K .ret st' → a.defers = [] ∧ ∃ v, (results fd a.tmps).run P w' = .ok v w' ∧
            ∃ v0 r h' G', Ending.returned v = .returned v0 ∧ K r h' ∧ Gam G' w' h' ∧ V G' w' r v0 ∧ Stp G w G' w' := by
          intro G' st' sr' hK
          simp only [atEnd] at hK
          split at hK
          · rename_i l hl
            obtain ⟨v, hrun, hV⟩ := results_sound (P := P) sr' hres hl
            exact ⟨sr'.defers, v, hrun, v, _, _, G', rfl, hK, sr'.gam, hV, sr'.stp⟩
          · exact hK.elim
        cases e with
        | normal => obtain ⟨G', st', sr', hK⟩ := hp; exact fin sr' hK
        | ret => obtain ⟨G', st', sr', hK⟩ := hp; exact fin sr' hK
        | exit id => obtain ⟨G', st', sr', hK⟩ := hp; exact hK.elim
        | goto l => exact hp.elim
        | panic c => exact hp.elim
        | outgrown => exact hp.elim
      · cases hf
    · cases hf
  · cases hf

end
end Glb
