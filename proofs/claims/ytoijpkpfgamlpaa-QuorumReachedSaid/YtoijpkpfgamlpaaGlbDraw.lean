/-
  A library of its own, for whatever program: regions whose order is drawn: what is to be shown of them, once, in one order.
-/
import Derived.Test.YtoijpkpfgamlpaaGlbReg
set_option linter.unusedSimpArgs false
set_option linter.unusedVariables false
namespace Glb
open Go

/-- an operation of such a region: its place, the name of the block that it makes (an offset), whether it acts on memory that is there -/
structure DO where
  i : Nat
  nm : Nat
  hv : Bool
  op : AOp
  guard : Option (Opd × Bool)

structure DS where
  L : Env
  R : Env
  h : AHeap
  pend : List (Nat × AV × Bool × Nat × AV)
  lts : List (Nat × Nat × ABlk)

def DS.get (d : DS) : Opd → AV
  | .loc s => lk s d.L
  | .tmp s => lk s d.R
  | .cst v => v

def DS.val (d : DS) (i : Nat) (v : AV) : DS := { d with R := (i, v) :: d.R }

/-- not a pointer to one of the blocks that the region makes -/
def notRes (lo k : Nat) : AV → Bool
  | .ptr m _ _ _ => decide (m < lo) || decide (lo + k ≤ m)
  | _ => true

def hideL : List (Nat × Nat × ABlk) → AHeap → AHeap
  | [], h => h
  | x :: r, h => hideL r (h.set x.2.1 none)

def showL : List (Nat × Nat × ABlk) → AHeap → AHeap
  | [], h => h
  | x :: r, h => (showL r h).set x.2.1 (some x.2.2)

def isFree : Option (Option ABlk) → Bool
  | some none => true
  | _ => false

/-- the names kept free are free still, but for the blocks that the operation may know -/
def freeR (dep : Nat → Nat → Bool) (lo k i : Nat) (lts : List (Nat × Nat × ABlk)) (h : AHeap) : Bool :=
  (List.range k).all fun q => (lts.any fun x => dep i x.1 && x.2.1 == lo + q) || isFree h[lo + q]?

/-- the loads whose place beside an operation is open, looked at again behind it -/
def again (dep : Nat → Nat → Bool) (i : Nat) (h : AHeap) : List (Nat × AV × Bool × Nat × AV) → Prop
  | [] => True
  | p :: r => (dep i p.1 = true ∨ aload h p.2.2.1 p.2.2.2.1 p.2.1 = some p.2.2.2.2) ∧ again dep i h r

/-- behind an operation that acts on memory -/
def vcBack (dep : Nat → Nat → Bool) (lo k i : Nat) (d : DS) (xs : List (Nat × Nat × ABlk)) (v : AV) (h' : AHeap) (next : DS → Prop) : Prop :=
  freeR dep lo k i d.lts h' = true ∧ again dep i (showL xs h') d.pend ∧ next { d.val i v with h := showL xs h' }

def vcDo (P : Program) (dep : Nat → Nat → Bool) (lo k : Nat) (o : DO) (d : DS) (next : DS → Prop) : Prop :=
  match o.hv, o.op with
  | false, .r (.load agg n x) => match aload d.h agg n (d.get x) with
    | some v => notRes lo k (d.get x) = true ∧ next { d.val o.i v with pend := (o.i, d.get x, agg, n, v) :: d.pend }
    | none => False
  | false, .r ro => match rev d.get [] ro with
    | some v => next (d.val o.i v)
    | none => False
  | false, .h ho => match lightOf d.get (lo + o.nm) ho with
    | some (v, b) => next { d.val o.i v with h := d.h.set (lo + o.nm) (some b), lts := (o.i, lo + o.nm, b) :: d.lts }
    | none => False
  | true, .h ho =>
    let xs := d.lts.filter fun x => !dep o.i x.1
    match hev d.get (hideL xs d.h) ho with
    | some (v, h') => vcBack dep lo k o.i d xs v h' next
    | none => False
  | true, .call f args =>
    let xs := d.lts.filter fun x => !dep o.i x.1
    isFn P f = true ∧ ACalls P f (args.map d.get) (hideL xs d.h) fun v h' => vcBack dep lo k o.i d xs v h' next
  | true, .callv x args =>
    let xs := d.lts.filter fun x => !dep o.i x.1
    match d.get x with
    | .clo f fs cs => isFn P f = true ∧ ACalls P f (fs ++ args.map d.get ++ cs) (hideL xs d.h) fun v h' => vcBack dep lo k o.i d xs v h' next
    | _ => False
  | _, _ => False

def vcD (P : Program) (dep : Nat → Nat → Bool) (lo k : Nat) : List DO → DS → (DS → Prop) → Prop
  | [], d, K => K d
  | o :: r, d, K =>
    match o.guard with
    | none => vcDo P dep lo k o d fun d' => vcD P dep lo k r d' K
    | some (x, want) => match d.get x with
      | .bool b => (b = want → vcDo P dep lo k o d fun d' => vcD P dep lo k r d' K) ∧ (b = (!want) → vcD P dep lo k r (d.val o.i (.tup [])) K)
      | .tup _ => vcD P dep lo k r (d.val o.i (.tup [])) K
      | _ => False

/-- the locals that the region has given values -/
def finL (R : Env) : List (Nat × Nat) → Env → Env
  | [], L => L
  | (t, i) :: r, L => finL R r (ins t (lk i R) L)

structure DR where
  masks : List Nat
  k : Nat
  items : List DO
  fin : List (Nat × Nat)

def DR.dep (r : DR) (i j : Nat) : Bool := (r.masks.getD i 0).testBit j

def vcDR (P : Program) (r : DR) (st : St) (K : St → Prop) : Prop :=
  vcD P r.dep st.h.length r.k r.items ⟨st.L, [], st.h ++ List.replicate r.k none, [], []⟩ fun d => K ⟨finL d.R r.fin st.L, [], d.h⟩

/-! made out of the model's region -/

def maskOf (acc : List Nat) (o : Oper) : Nat :=
  o.after.toList.foldl (fun s e => if Region.binds .any e then s ||| 2 ^ e.on ||| acc.getD e.on 0 else s) 0

def masksOf : List Oper → List Nat → List Nat
  | [], acc => acc
  | o :: r, acc => masksOf r (acc ++ [maskOf acc o])

/-- who writes a slot -/
def writer (t : Tmp) : List Oper → Nat → Option Nat
  | [], _ => none
  | o :: r, i => if o.dst = some t then some i else writer t r (i + 1)

/-- what an operand stands for: an operation's value, a local's at the start, or nothing that is known -/
def trD (keep : Nat → Bool) (ops : List Oper) (masks : List Nat) (i : Nat) : Operand → Opd
  | .tmp t => match writer t ops 0 with
    | some j => if (masks.getD i 0).testBit j then .tmp j else if (masks.getD j 0).testBit i && keep t then .loc t else .cst .top
    | none => if keep t then .loc t else .cst .top
  | .const v => .cst (ofV v)
  | .global g => .cst (.raw (.pointer (some ⟨g, 0, none⟩)))
  | .func f => .cst (.clo f [] [])

def AOp.lightQ : AOp → Bool
  | .h (.mk _) | .h (.box _) | .h (.bsl _ _) | .h (.mks _ _ _ _ _) => true
  | _ => false

def AOp.heavyQ : AOp → Bool
  | .r _ => false
  | a => !a.lightQ

def cGuardD (tr : Operand → Opd) (ops : List Oper) : Option (Nat × Bool) → Option (Option (Opd × Bool))
  | none => some none
  | some (j, want) => match (ops[j]?).bind (·.dst) with
    | some t => some (some (tr (.tmp t), want))
    | none => none

/-- the operations in the order of the text, each with its place, and the names of the blocks that they make -/
def cDOs (P : Program) (keep : Nat → Bool) (ops : List Oper) (masks : List Nat) : List Oper → Nat → Nat → Option (List DO)
  | [], _, _ => some []
  | o :: r, i, c =>
    match cOp P (trD keep ops masks i) o, cGuardD (trD keep ops masks i) ops o.guard with
    | some op, some g => (cDOs P keep ops masks r (i + 1) (if op.lightQ then c + 1 else c)).map (⟨i, c, op.heavyQ, op, g⟩ :: ·)
    | _, _ => none

/-- how many that act on memory come ahead of it -/
def level (masks : List Nat) (all : List DO) (o : DO) : Nat := (all.filter fun x => x.hv && (masks.getD o.i 0).testBit x.i).length

def insertBy (i f : Nat) : List (Nat × Nat) → List (Nat × Nat)
  | [] => [(i, f)]
  | x :: r => if f < x.2 then (i, f) :: x :: r else x :: insertBy i f r

def orderOf (masks : List Nat) (all : List DO) : List Nat :=
  (all.foldl (fun acc o => insertBy o.i (2 * level masks all o + (if o.hv then 1 else 0)) acc) []).map (·.1)

/-- nothing that comes later is needed; behind what acts on memory all wait for it; the new blocks have names of their own -/
def orderOk (dep : Nat → Nat → Bool) (k : Nat) : List DO → Bool
  | [] => true
  | o :: r => r.all (fun x => !(x.i == o.i) && !dep o.i x.i && (!o.hv || dep x.i o.i) && (!o.op.lightQ || !x.op.lightQ || !(x.nm == o.nm))) && (!o.op.lightQ || decide (o.nm < k)) && orderOk dep k r

def dstsOk : List Oper → Bool
  | [] => true
  | o :: r => (match o.dst with | some t => r.all fun x => !(x.dst == some t) | none => true) && dstsOk r

def edgesOk : List Oper → Nat → Bool
  | [], _ => true
  | o :: r, i => o.after.toList.all (fun e => !Region.binds .any e || decide (e.on < i)) && edgesOk r (i + 1)

def finOf (keep : Nat → Bool) : List Oper → Nat → List (Nat × Nat)
  | [], _ => []
  | o :: r, i => match o.dst with
    | some t => if keep t then (t, i) :: finOf keep r (i + 1) else finOf keep r (i + 1)
    | none => finOf keep r (i + 1)

def cDR (P : Program) (n : Nat) (keep : Nat → Bool) (ops : List Oper) : Option DR :=
  let masks := masksOf ops []
  match cDOs P keep ops masks ops 0 0 with
  | some all =>
    let items := (orderOf masks all).filterMap (all[·]?)
    let k := (all.filter (·.op.lightQ)).length
    if orderOk (fun i j => (masks.getD i 0).testBit j) k items && dstsOk ops && edgesOk ops 0 && (List.range ops.length).all (fun i => items.any fun o => o.i == i)
        && ops.all (fun o => match o.dst with | some t => decide (t < n) | none => true) then
      some ⟨masks, k, items, finOf keep ops 0⟩
    else none
  | none => none

/-! facts on these lists -/

theorem testBit_fold (acc : List Nat) (j : Nat) : ∀ (l : List Edge) (s : Nat),
    (l.foldl (fun s e => if Region.binds .any e then s ||| 2 ^ e.on ||| acc.getD e.on 0 else s) s).testBit j = true →
    s.testBit j = true ∨ ∃ e ∈ l, Region.binds .any e = true ∧ (e.on = j ∨ (acc.getD e.on 0).testBit j = true) := by
  intro l
  induction l with
  | nil => intro s h; exact .inl h
  | cons e l ih =>
    intro s h
    simp only [List.foldl_cons] at h
    rcases ih _ h with h1 | ⟨e', he', h1⟩
    · split at h1
      · rename_i hb
        simp only [Nat.testBit_or, Bool.or_eq_true, Nat.testBit_two_pow, decide_eq_true_eq] at h1
        rcases h1 with (h1 | h1) | h1
        · exact .inl h1
        · exact .inr ⟨e, by simp, hb, .inl h1⟩
        · exact .inr ⟨e, by simp, hb, .inr h1⟩
      · exact .inl h1
    · exact .inr ⟨e', by simp [he'], h1⟩

theorem masksOf_len : ∀ (ops : List Oper) (acc : List Nat), (masksOf ops acc).length = acc.length + ops.length := by
  intro ops
  induction ops with
  | nil => intro acc; simp [masksOf]
  | cons o r ih => intro acc; simp only [masksOf, ih]; simp; omega

theorem masksOf_prefix : ∀ (ops : List Oper) (acc : List Nat) (j : Nat), j < acc.length → (masksOf ops acc).getD j 0 = acc.getD j 0 := by
  intro ops
  induction ops with
  | nil => intro acc j _; rfl
  | cons o r ih =>
    intro acc j hj
    simp only [masksOf]
    rw [ih _ j (by simp; omega)]
    simp [List.getElem?_append_left hj]

theorem masksOf_spec : ∀ (ops : List Oper) (acc : List Nat) (i : Nat) (o : Oper), ops[i]? = some o →
    ∃ acc' : List Nat, (masksOf ops acc).getD (acc.length + i) 0 = maskOf acc' o ∧ acc'.length = acc.length + i ∧ ∀ j, j < acc.length + i → acc'.getD j 0 = (masksOf ops acc).getD j 0 := by
  intro ops
  induction ops with
  | nil => intro acc i o h; simp at h
  | cons x r ih =>
    intro acc i o h
    cases i with
    | zero =>
      simp at h
      subst h
      refine ⟨acc, ?_, by simp, fun j hj => ?_⟩
      · simp only [masksOf]
        rw [masksOf_prefix _ _ _ (by simp)]
        simp
      · simp only [masksOf]
        rw [masksOf_prefix _ _ _ (by simp; omega)]
        simp at hj
        simp [List.getElem?_append_left hj]
    | succ i =>
      simp only [masksOf]
      obtain ⟨acc', h1, h2, h3⟩ := ih (acc ++ [maskOf acc x]) i o (by simpa using h)
      simp only [List.length_append, List.length_cons, List.length_nil] at h1 h2 h3
      exact ⟨acc', by rw [← h1]; congr 1; omega, by omega, fun j hj => h3 j (by omega)⟩

/-- what an operation waits for, it waits for by an edge, or by one that it waits for -/
theorem dep_spec {ops : List Oper} (he : ∀ (i : Nat) (o : Oper), ops[i]? = some o → ∀ e ∈ o.after.toList, Region.binds .any e = true → e.on < i) {i j : Nat} {o : Oper} (ho : ops[i]? = some o)
    (hd : ((masksOf ops []).getD i 0).testBit j = true) : ∃ e ∈ o.after.toList, Region.binds .any e = true ∧ (e.on = j ∨ ((masksOf ops []).getD e.on 0).testBit j = true) := by
  obtain ⟨acc', h1, h2, h3⟩ := masksOf_spec ops [] i o ho
  simp only [List.length_nil, Nat.zero_add] at h1 h2 h3
  rw [h1] at hd
  unfold maskOf at hd
  rcases testBit_fold acc' j _ _ hd with h | ⟨e, hm, hb, h⟩
  · simp at h
  · refine ⟨e, hm, hb, ?_⟩
    rcases h with h | h
    · exact .inl h
    · rw [h3 _ (he i o ho e hm hb)] at h
      exact .inr h

theorem edgesOk_spec : ∀ (ops : List Oper) (k : Nat), edgesOk ops k = true → ∀ (i : Nat) (o : Oper), ops[i]? = some o → ∀ e ∈ o.after.toList, Region.binds .any e = true → e.on < k + i := by
  intro ops
  induction ops with
  | nil => intro k _ i o h; simp at h
  | cons x r ih =>
    intro k hk i o h e he hb
    simp only [edgesOk, Bool.and_eq_true] at hk
    cases i with
    | zero =>
      simp at h; subst h
      have := List.all_eq_true.1 hk.1 e he
      simp [hb] at this
      omega
    | succ i =>
      have := ih (k + 1) hk.2 i o (by simpa using h) e he hb
      omega

theorem dstsOk_spec : ∀ (ops : List Oper), dstsOk ops = true → ∀ (i j : Nat) (o p : Oper) (t : Tmp), ops[i]? = some o → ops[j]? = some p → o.dst = some t → p.dst = some t → i = j := by
  intro ops
  induction ops with
  | nil => intro _ i j o p t h; simp at h
  | cons x r ih =>
    intro hk i j o p t hi hj ho hp
    simp only [dstsOk, Bool.and_eq_true] at hk
    have aux : ∀ (q : Oper) (m : Nat), r[m]? = some q → q.dst = some t → x.dst = some t → False := by
      intro q m hm hq hx
      have h1 := hk.1
      rw [hx] at h1
      have := List.all_eq_true.1 h1 q (List.mem_of_getElem? hm)
      simp [hq] at this
    cases i with
    | zero =>
      simp at hi; subst hi
      cases j with
      | zero => rfl
      | succ j => exact (aux p j (by simpa using hj) hp ho).elim
    | succ i =>
      cases j with
      | zero => simp at hj; subst hj; exact (aux o i (by simpa using hi) ho hp).elim
      | succ j => rw [ih hk.2 i j o p t (by simpa using hi) (by simpa using hj) ho hp]

theorem writer_spec (t : Tmp) : ∀ (ops : List Oper) (k : Nat), match writer t ops k with
    | some j => k ≤ j ∧ ∃ o, ops[j - k]? = some o ∧ o.dst = some t
    | none => ∀ (i : Nat) (o : Oper), ops[i]? = some o → o.dst ≠ some t := by
  intro ops
  induction ops with
  | nil => intro k; simp [writer]
  | cons x r ih =>
    intro k
    simp only [writer]
    by_cases h : x.dst = some t
    · rw [if_pos h]; exact ⟨Nat.le_refl _, x, by simp, h⟩
    · rw [if_neg h]
      have := ih (k + 1)
      split at this
      · rename_i j hj
        obtain ⟨h1, o, h2, h3⟩ := this
        exact ⟨by omega, o, by rw [show j - k = (j - (k + 1)) + 1 by omega]; simpa using h2, h3⟩
      · rename_i hj
        intro i o hi
        cases i with
        | zero => simp at hi; subst hi; exact h
        | succ i => exact this i o (by simpa using hi)

theorem cDOs_spec {P : Program} {keep : Nat → Bool} {ops : List Oper} {masks : List Nat} : ∀ (l : List Oper) (i c : Nat) (all : List DO), cDOs P keep ops masks l i c = some all →
    all.length = l.length ∧ ∀ (j : Nat) (d : DO), all[j]? = some d → d.i = i + j ∧ d.hv = d.op.heavyQ ∧ ∃ o, l[j]? = some o ∧ cOp P (trD keep ops masks (i + j)) o = some d.op ∧ cGuardD (trD keep ops masks (i + j)) ops o.guard = some d.guard := by
  intro l
  induction l with
  | nil => intro i c all h; simp only [cDOs, Option.some.injEq] at h; subst h; exact ⟨rfl, fun j d h => by simp at h⟩
  | cons o r ih =>
    intro i c all h
    simp only [cDOs] at h
    split at h
    · rename_i op g hop hg
      simp only [Option.map_eq_some_iff] at h
      obtain ⟨all', hall, rfl⟩ := h
      obtain ⟨h1, h2⟩ := ih _ _ _ hall
      refine ⟨by simp [h1], fun j d hd => ?_⟩
      cases j with
      | zero =>
        simp at hd; subst hd
        exact ⟨rfl, rfl, o, rfl, hop, hg⟩
      | succ j =>
        obtain ⟨a, b, o', c', e, f⟩ := h2 j d (by simpa using hd)
        have : i + 1 + j = i + (j + 1) := by omega
        rw [this] at a e f
        exact ⟨a, b, o', by simpa using c', e, f⟩
    · cases h

theorem testBit_fold_intro (acc : List Nat) (j : Nat) : ∀ (l : List Edge) (s : Nat), (s.testBit j = true ∨ ∃ e ∈ l, Region.binds .any e = true ∧ (e.on = j ∨ (acc.getD e.on 0).testBit j = true)) →
    (l.foldl (fun s e => if Region.binds .any e then s ||| 2 ^ e.on ||| acc.getD e.on 0 else s) s).testBit j = true := by
  intro l
  induction l with
  | nil =>
    intro s h
    rcases h with h | ⟨e, he, _⟩
    · exact h
    · simp at he
  | cons e l ih =>
    intro s h
    simp only [List.foldl_cons]
    apply ih
    rcases h with h | ⟨e', he', hb, h⟩
    · left
      split
      · simp [Nat.testBit_or, h]
      · exact h
    · rcases List.mem_cons.1 he' with rfl | he'
      · left
        rw [if_pos hb]
        rcases h with h | h
        · simp [Nat.testBit_or, Nat.testBit_two_pow, h]
        · rw [Nat.testBit_or, h, Bool.or_true]
      · exact .inr ⟨e', he', hb, h⟩

theorem dep_intro {ops : List Oper} (he : ∀ (i : Nat) (o : Oper), ops[i]? = some o → ∀ e ∈ o.after.toList, Region.binds .any e = true → e.on < i) {i j : Nat} {o : Oper} (ho : ops[i]? = some o)
    {e : Edge} (hm : e ∈ o.after.toList) (hb : Region.binds .any e = true) (h : e.on = j ∨ ((masksOf ops []).getD e.on 0).testBit j = true) : ((masksOf ops []).getD i 0).testBit j = true := by
  obtain ⟨acc', h1, h2, h3⟩ := masksOf_spec ops [] i o ho
  simp only [List.length_nil, Nat.zero_add] at h1 h2 h3
  rw [h1]
  unfold maskOf
  refine testBit_fold_intro acc' j _ _ (.inr ⟨e, hm, hb, ?_⟩)
  rcases h with h | h
  · exact .inl h
  · rw [h3 _ (he i o ho e hm hb)]; exact .inr h

theorem masks_none {ops : List Oper} {i : Nat} (h : ops[i]? = none) : (masksOf ops []).getD i 0 = 0 := by
  have hl : (masksOf ops []).length ≤ i := by
    rw [masksOf_len]
    simpa using (List.getElem?_eq_none_iff.1 h)
  simp [List.getElem?_eq_none hl]

theorem dep_trans {ops : List Oper} (he : ∀ (i : Nat) (o : Oper), ops[i]? = some o → ∀ e ∈ o.after.toList, Region.binds .any e = true → e.on < i) : ∀ (i j k : Nat),
    ((masksOf ops []).getD i 0).testBit j = true → ((masksOf ops []).getD j 0).testBit k = true → ((masksOf ops []).getD i 0).testBit k = true := by
  intro i
  induction i using Nat.strongRecOn with
  | _ i ih =>
    intro j k h1 h2
    cases ho : ops[i]? with
    | none => rw [masks_none ho] at h1; simp at h1
    | some o =>
      obtain ⟨e, hm, hb, h⟩ := dep_spec he ho h1
      rcases h with h | h
      · subst h; exact dep_intro he ho hm hb (.inr h2)
      · exact dep_intro he ho hm hb (.inr (ih e.on (he i o ho e hm hb) j k h h2))

theorem dep_lt {ops : List Oper} (he : ∀ (i : Nat) (o : Oper), ops[i]? = some o → ∀ e ∈ o.after.toList, Region.binds .any e = true → e.on < i) : ∀ (i j : Nat),
    ((masksOf ops []).getD i 0).testBit j = true → j < i := by
  intro i
  induction i using Nat.strongRecOn with
  | _ i ih =>
    intro j h1
    cases ho : ops[i]? with
    | none => rw [masks_none ho] at h1; simp at h1
    | some o =>
      obtain ⟨e, hm, hb, h⟩ := dep_spec he ho h1
      have hlt := he i o ho e hm hb
      rcases h with h | h
      · omega
      · have := ih e.on hlt j h; omega

end Glb
