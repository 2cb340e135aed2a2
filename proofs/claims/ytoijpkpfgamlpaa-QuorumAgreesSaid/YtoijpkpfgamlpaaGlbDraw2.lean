/-
  A library of its own, for whatever program: regions whose order is drawn: that one order is enough.
-/
import Derived.Test.YtoijpkpfgamlpaaGlbDraw
set_option linter.unusedSimpArgs false
set_option linter.unusedVariables false
namespace Glb
open Go

/-- what has been looked at of a region -/
structure DF (P : Program) (n : Nat) (keep : Nat → Bool) (ops : List Oper) (r : DR) : Prop where
  masks : r.masks = masksOf ops []
  item : ∀ o ∈ r.items, o.hv = o.op.heavyQ ∧ ∃ op, ops[o.i]? = some op ∧ cOp P (trD keep ops r.masks o.i) op = some o.op ∧ cGuardD (trD keep ops r.masks o.i) ops op.guard = some o.guard
  ord : orderOk r.dep r.k r.items = true
  dsts : ∀ (i j : Nat) (o p : Oper) (t : Tmp), ops[i]? = some o → ops[j]? = some p → o.dst = some t → p.dst = some t → i = j
  edges : ∀ (i : Nat) (o : Oper), ops[i]? = some o → ∀ e ∈ o.after.toList, Region.binds .any e = true → e.on < i
  cover : ∀ i, i < ops.length → ∃ o ∈ r.items, o.i = i
  lt : ∀ op ∈ ops, ∀ t, op.dst = some t → t < n
  fin : r.fin = finOf keep ops 0

theorem cDR_spec {P : Program} {n : Nat} {keep : Nat → Bool} {ops : List Oper} {r : DR} (h : cDR P n keep ops = some r) : DF P n keep ops r := by
  unfold cDR at h
  simp only at h
  split at h
  · rename_i all hall
    split at h
    · rename_i hc
      cases h
      simp only [Bool.and_eq_true] at hc
      obtain ⟨⟨⟨⟨h1, h2⟩, h3⟩, h4⟩, h5⟩ := hc
      refine ⟨rfl, fun o ho => ?_, h1, dstsOk_spec ops h2, fun i o hi e he hb => by have := edgesOk_spec ops 0 h3 i o hi e he hb; omega, fun i hi => ?_, fun op hop t ht => ?_, rfl⟩
      · simp only [List.mem_filterMap] at ho
        obtain ⟨j, _, hj⟩ := ho
        obtain ⟨_, hspec⟩ := cDOs_spec ops 0 0 all hall
        obtain ⟨e1, e2, op, e3, e4, e5⟩ := hspec j o hj
        simp only [Nat.zero_add] at e1 e4 e5
        subst e1
        exact ⟨e2, op, e3, e4, e5⟩
      · have := List.all_eq_true.1 h4 i (by simpa using hi)
        rw [List.any_eq_true] at this
        obtain ⟨o, ho, he⟩ := this
        exact ⟨o, ho, by simpa using he⟩
      · have := List.all_eq_true.1 h5 op hop
        rw [ht] at this
        simpa using this
    · cases h
  · cases h

theorem orderOk_mem {dep : Nat → Nat → Bool} {k : Nat} : ∀ {l : List DO}, orderOk dep k l = true → ∀ o ∈ l, o.op.lightQ = true → o.nm < k := by
  intro l
  induction l with
  | nil => intro _ o h; simp at h
  | cons x r ih =>
    intro h o ho hl
    simp only [orderOk, Bool.and_eq_true] at h
    rcases List.mem_cons.1 ho with rfl | ho
    · have := h.1.2; simp [hl] at this; exact this
    · exact ih h.2 o ho hl

theorem orderOk_split {dep : Nat → Nat → Bool} {k : Nat} : ∀ {pre rest : List DO}, orderOk dep k (pre ++ rest) = true → ∀ o ∈ pre, ∀ x ∈ rest,
    x.i ≠ o.i ∧ dep o.i x.i = false ∧ (o.hv = true → dep x.i o.i = true) ∧ (o.op.lightQ = true → x.op.lightQ = true → x.nm ≠ o.nm) := by
  intro pre
  induction pre with
  | nil => intro rest _ o h; simp at h
  | cons y pre ih =>
    intro rest h o ho x hx
    simp only [List.cons_append, orderOk, Bool.and_eq_true] at h
    rcases List.mem_cons.1 ho with rfl | ho
    · have := List.all_eq_true.1 h.1.1 x (by simp [hx])
      simp only [Bool.and_eq_true, Bool.not_eq_true', Bool.or_eq_true, beq_eq_false_iff_ne] at this
      obtain ⟨⟨⟨a, b⟩, c⟩, d⟩ := this
      refine ⟨a, b, fun hv => ?_, fun h1 h2 => ?_⟩
      · rcases c with c | c
        · rw [hv] at c; cases c
        · exact c
      · rcases d with (d | d) | d
        · rw [h1] at d; cases d
        · rw [h2] at d; cases d
        · exact d
    · exact ih h.2 o ho x hx

theorem getElem?_hideL : ∀ (xs : List (Nat × Nat × ABlk)) (h : AHeap) (m : Nat), (hideL xs h).length = h.length ∧
    ((∃ x ∈ xs, x.2.1 = m) → m < h.length → (hideL xs h)[m]? = some none) ∧ ((∀ x ∈ xs, x.2.1 ≠ m) → (hideL xs h)[m]? = h[m]?) := by
  intro xs
  induction xs with
  | nil => intro h m; exact ⟨rfl, fun ⟨x, hx, _⟩ => by simp at hx, fun _ => rfl⟩
  | cons x r ih =>
    intro h m
    obtain ⟨a, b, c⟩ := ih (h.set x.2.1 none) m
    refine ⟨by simpa [hideL] using a, ?_, ?_⟩
    · rintro ⟨y, hy, hm⟩ hlt
      by_cases hr : ∃ z ∈ r, z.2.1 = m
      · exact b hr (by simpa using hlt)
      · have hr' : ∀ z ∈ r, z.2.1 ≠ m := fun z hz e => hr ⟨z, hz, e⟩
        rcases List.mem_cons.1 hy with rfl | hy
        · simp only [hideL]; rw [c hr', hm, List.getElem?_set_self hlt]
        · exact absurd hm (hr' y hy)
    · intro hn
      simp only [hideL]
      rw [c (fun z hz => hn z (by simp [hz])), List.getElem?_set_ne (hn x (by simp))]

theorem getElem?_showL : ∀ (xs : List (Nat × Nat × ABlk)) (h : AHeap) (m : Nat), (showL xs h).length = h.length ∧ ((∀ x ∈ xs, x.2.1 ≠ m) → (showL xs h)[m]? = h[m]?) := by
  intro xs
  induction xs with
  | nil => intro h m; exact ⟨rfl, fun _ => rfl⟩
  | cons x r ih =>
    intro h m
    obtain ⟨a, b⟩ := ih h m
    refine ⟨by simpa [showL] using a, fun hn => ?_⟩
    simp only [showL]
    rw [List.getElem?_set_ne (hn x (by simp)), b (fun z hz => hn z (by simp [hz]))]

theorem showL_at : ∀ (xs : List (Nat × Nat × ABlk)) (h : AHeap), (xs.map (·.2.1)).Nodup → ∀ x ∈ xs, x.2.1 < h.length → (showL xs h)[x.2.1]? = some (some x.2.2) := by
  intro xs
  induction xs with
  | nil => intro h _ x hx; simp at hx
  | cons y r ih =>
    intro h hn x hx hlt
    simp only [List.map_cons, List.nodup_cons, List.mem_map, not_exists, not_and] at hn
    simp only [showL]
    rcases List.mem_cons.1 hx with rfl | hx
    · rw [List.getElem?_set_self (by rw [(getElem?_showL r h 0).1]; exact hlt)]
    · rw [List.getElem?_set_ne (fun e => hn.1 x hx e.symm)]
      exact ih h hn.2 x hx hlt

/-- blocks of ours kept aside while something else goes on -/
theorem aside_list : ∀ (E : List (Nat × Nat × ABlk)) {G : Gh} {w : World} {h : AHeap}, Gam G w h → (E.map (·.2.1)).Nodup →
    (∀ x ∈ E, h[x.2.1]? = some (some x.2.2) ∧ (∃ sz es gr, x.2.2 = .arr sz es gr) ∧ ∃ b, G.loc x.2.1 = some b) →
    ∃ Gk, Gam Gk w (hideL E h) ∧ Keeps G w Gk w ∧ (∀ n, Gk.loc n = G.loc n) ∧ (∀ n, Gk.nil n ↔ G.nil n) ∧
      ∀ {G' w' h'}, Stp Gk w G' w' → Gam G' w' h' → (∀ x ∈ E, h'[x.2.1]? = some none) →
        ∃ G'', Gam G'' w' (showL E h') ∧ Stp G w G'' w' ∧ Keeps G' w' G'' w' ∧ (∀ n, G''.loc n = G'.loc n) ∧ (∀ n, G''.nil n ↔ G'.nil n) := by
  intro E
  induction E with
  | nil =>
    intro G w h g _ _
    exact ⟨G, g, Keeps.refl G w, fun _ => rfl, fun _ => Iff.rfl, fun {G' w' h'} s g' _ => ⟨G', g', s, Keeps.refl G' w', fun _ => rfl, fun _ => Iff.rfl⟩⟩
  | cons x r ih =>
    intro G w h g hn hE
    simp only [List.map_cons, List.nodup_cons, List.mem_map, not_exists, not_and] at hn
    obtain ⟨hx, ⟨sz, es, gr, hb⟩, b, hloc⟩ := hE x (by simp)
    rw [hb] at hx
    have g1 := g.drop hx
    obtain ⟨Gk, h1, h2, h3, h4, h5⟩ := ih g1 hn.2 (fun y hy => by
      obtain ⟨p, q, s⟩ := hE y (by simp [hy])
      exact ⟨by rw [List.getElem?_set_ne (fun e => hn.1 y hy e.symm)]; exact p, q, s⟩)
    refine ⟨Gk, h1, (G.keepsKill w x.2.1).trans h2, h3, h4, fun {G' w' h'} s g' hfree => ?_⟩
    obtain ⟨G1, a1, a2, a3, a4, a5⟩ := h5 s g' (fun y hy => hfree y (by simp [hy]))
    have hfr : (showL r h')[x.2.1]? = some none := by
      rw [(getElem?_showL r h' x.2.1).2 (fun z hz e => hn.1 z hz e)]; exact hfree x (by simp)
    obtain ⟨b1, b2⟩ := g.aside hx hloc a2 a1 hfr
    refine ⟨G1.revive x.2.1, ?_, b2, ?_, fun n => a4 n, fun n => a5 n⟩
    · simp only [showL, hb]; exact b1
    · exact a3.trans ⟨Nat.le_refl _, fun _ _ _ h => h, fun _ _ h => h, fun t b h => by cases t <;> exact h, fun _ _ _ => rfl, fun _ _ => rfl⟩

/-! the state amid such a region -/

section
variable {P : Program} {n : Nat} {keep : Nat → Bool} {ops : List Oper} {r : DR} {L0 : Env} {lo : Nat} {G0 : Gh} {w0 : World}

/-- an operation that has been looked at ahead, and is not done yet: what it will give -/
def Will (P : Program) (r : DR) (L0 : Env) (lo : Nat) (d : DS) (o : DO) : Prop :=
  ∃ γ : Opd → AV, (∀ j, r.dep o.i j = true → γ (.tmp j) = lk j d.R) ∧ (∀ t, γ (.loc t) = lk t L0) ∧ (∀ v, γ (.cst v) = v) ∧
    ((∃ x want, o.guard = some (x, want) ∧ ((γ x = .bool (!want)) ∨ ∃ cs, γ x = .tup cs) ∧ lk o.i d.R = .tup [] ∧ (o.op.lightQ = true → d.h[lo + o.nm]? = some none)) ∨
     ((o.guard = none ∨ ∃ x want, o.guard = some (x, want) ∧ γ x = .bool want) ∧
      ((∃ agg nn x, o.op = .r (.load agg nn x) ∧ notRes lo r.k (γ x) = true ∧ aload d.h agg nn (γ x) = some (lk o.i d.R) ∧ (o.i, γ x, agg, nn, lk o.i d.R) ∈ d.pend) ∨
       (∃ ro, o.op = .r ro ∧ (∀ h, rev γ h ro = some (lk o.i d.R))) ∨
       (∃ ho b, o.op = .h ho ∧ o.op.lightQ = true ∧ lightOf γ (lo + o.nm) ho = some (lk o.i d.R, b) ∧ d.h[lo + o.nm]? = some (some b)))))

/-- where the heap stands: the blocks of operations that are not done yet are not there -/
structure HS (r : DR) (lo : Nat) (listed : Array Bool) (d : DS) (G : Gh) (hS : AHeap) : Prop where
  len : hS.length = d.h.length
  lok : lo + r.k ≤ hS.length
  other : ∀ m, (∀ o ∈ r.items, o.op.lightQ = true → listed.getD o.i false = false → m ≠ lo + o.nm) → hS[m]? = d.h[m]?
  free : ∀ o ∈ r.items, o.op.lightQ = true → listed.getD o.i false = false → hS[lo + o.nm]? = some none ∧ G.loc (lo + o.nm) = none ∧ ¬ G.nil (lo + o.nm)

/-- a block that an operation looked at ahead makes -/
abbrev LtOk (r : DR) (lo : Nat) (listed : Array Bool) (pre : List DO) (h : AHeap) (R : Env) (G : Gh) (x : Nat × Nat × ABlk) : Prop :=
  ∃ o ∈ pre, o.op.lightQ = true ∧ x.1 = o.i ∧ x.2.1 = lo + o.nm ∧ (∃ sz es gr, x.2.2 = .arr sz es gr) ∧
    ((∀ q ∈ pre, q.hv = true → listed.getD q.i false = true → r.dep q.i x.1 = false) → h[x.2.1]? = some (some x.2.2)) ∧
    (listed.getD o.i false = true → ∃ b, G.loc x.2.1 = some b) ∧ lk x.1 R ≠ .tup []

structure J (P : Program) (n : Nat) (keep : Nat → Bool) (ops : List Oper) (r : DR) (L0 : Env) (lo : Nat) (G0 : Gh) (w0 : World) (listed : Array Bool) (pre rest : List DO) (d : DS) (G : Gh) (w : World) (a : Act) : Prop where
  items : r.items = pre ++ rest
  lsize : listed.size = ops.length
  clos : ∀ i j, listed.getD i false = true → r.dep i j = true → listed.getD j false = true
  sub : ∀ o ∈ rest, listed.getD o.i false = false
  L : d.L = L0
  A : ∀ (i : Nat) (op : Oper) (t : Tmp), listed.getD i false = true → ops[i]? = some op → op.dst = some t → V G w (lk i d.R) (a.tmps.getD t undef)
  B : ∀ t, keep t = true → (∀ (i : Nat) (op : Oper), listed.getD i false = true → ops[i]? = some op → op.dst ≠ some t) → V G w (lk t L0) (a.tmps.getD t undef)
  will : ∀ o ∈ pre, listed.getD o.i false = false → Will P r L0 lo d o
  heap : ∃ hS, Gam G w hS ∧ HS r lo listed d G hS
  ltsN : (d.lts.map (·.2.1)).Nodup
  lts : ∀ x ∈ d.lts, LtOk r lo listed pre d.h d.R G x
  ltsC : ∀ o ∈ pre, o.op.lightQ = true → (∃ x ∈ d.lts, x.1 = o.i) ∨ d.h[lo + o.nm]? = some none
  later : ∀ o ∈ rest, o.op.lightQ = true → d.h[lo + o.nm]? = some none
  size : a.tmps.size = n
  defers : a.defers = []
  stp : Stp G0 w0 G w
  lo : G0.N ≤ lo


theorem DF.dep_of (F : DF P n keep ops r) : ∀ i j, r.dep i j = ((masksOf ops []).getD i 0).testBit j := fun i j => by simp only [DR.dep, F.masks]

theorem DF.trans (F : DF P n keep ops r) {i j k : Nat} (h1 : r.dep i j = true) (h2 : r.dep j k = true) : r.dep i k = true := by
  rw [F.dep_of] at *; exact dep_trans F.edges i j k h1 h2

/-- what is ready has all that it waits for -/
theorem J.ready {listed : Array Bool} {pre rest : List DO} {d : DS} {G : Gh} {w : World} {a : Act} (F : DF P n keep ops r) (j : J P n keep ops r L0 lo G0 w0 listed pre rest d G w a) {i : Nat}
    (hr : i ∈ Region.ready .any ops.toArray listed) : listed.getD i false = false ∧ i < ops.length ∧ (∃ op, ops[i]? = some op) ∧ ∀ q, r.dep i q = true → listed.getD q false = true := by
  rw [mem_ready] at hr
  obtain ⟨h0, o, ho, hall⟩ := hr
  have ho' : ops[i]? = some o := by simpa using ho
  have hlt : i < ops.length := (List.getElem?_eq_some_iff.1 ho').1
  refine ⟨?_, hlt, ⟨o, ho'⟩, fun q hq => ?_⟩
  · have : i < listed.size := by rw [j.lsize]; exact hlt
    simp [this] at h0 ⊢
    exact h0
  · rw [F.dep_of] at hq
    obtain ⟨e, hm, hb, h⟩ := dep_spec F.edges ho' hq
    have he := hall e (by simpa using hm) hb
    rcases h with h | h
    · rw [← h]; exact he
    · exact j.clos _ _ he (by rw [F.dep_of]; exact h)

/-- the operands of an operation all of whose forerunners are done -/
theorem J.stands {listed : Array Bool} {pre rest : List DO} {d : DS} {G : Gh} {w : World} {a : Act} (F : DF P n keep ops r) (j : J P n keep ops r L0 lo G0 w0 listed pre rest d G w a) {i : Nat}
    (hi : listed.getD i false = false) (hd : ∀ q, r.dep i q = true → listed.getD q false = true) {γ : Opd → AV}
    (h1 : ∀ q, r.dep i q = true → γ (.tmp q) = lk q d.R) (h2 : ∀ t, γ (.loc t) = lk t L0) (h3 : ∀ v, γ (.cst v) = v) : Stands G w (trD keep ops r.masks i) γ a := by
  intro x
  cases x with
  | const v => simp only [trD, h3]; exact V.ofV G w v
  | global g => simp only [trD, h3]; exact .raw _
  | func f => simp only [trD, h3]; exact .clo f [] #[] [] #[] rfl (fun j c v h => by simp at h) rfl (fun j c v h => by simp at h)
  | tmp t =>
    have hw := writer_spec t ops 0
    simp only [trD]
    split at hw
    · rename_i q hq
      obtain ⟨_, op, hop, hdst⟩ := hw
      simp only [Nat.sub_zero] at hop
      split
      · rename_i hb
        have hdq : r.dep i q = true := hb
        rw [h1 q hdq]
        exact j.A q op t (hd q hdq) hop hdst
      · split
        · rename_i hb
          simp only [Bool.and_eq_true] at hb
          rw [h2]
          refine j.B t hb.2 (fun p op' hp hop' hdst' => ?_)
          have : q = p := F.dsts q p op op' t hop hop' hdst hdst'
          subst this
          have := j.clos q i hp hb.1
          rw [hi] at this; cases this
        · rw [h3]; exact .top _
    · rename_i hq
      split
      · rename_i hk
        rw [h2]
        exact j.B t hk (fun p op' _ hop' => hw p op' hop')
      · rw [h3]; exact .top _


theorem listed_set {listed : Array Bool} {i q : Nat} (hi : i < listed.size) : (listed.setIfInBounds i true).getD q false = (decide (q = i) || listed.getD q false) := by
  by_cases h : q = i
  · subst h; simp [hi]
  · simp [h, Array.getElem?_setIfInBounds_ne (fun e => h e.symm)]

theorem J.clos' {listed : Array Bool} {pre rest : List DO} {d : DS} {G : Gh} {w : World} {a : Act} (j : J P n keep ops r L0 lo G0 w0 listed pre rest d G w a) {i : Nat} (hi : i < ops.length)
    (hd : ∀ q, r.dep i q = true → listed.getD q false = true) : ∀ x q, (listed.setIfInBounds i true).getD x false = true → r.dep x q = true → (listed.setIfInBounds i true).getD q false = true := by
  have hs : i < listed.size := by rw [j.lsize]; exact hi
  intro x q hx hdx
  rw [listed_set hs] at hx ⊢
  simp only [Bool.or_eq_true, decide_eq_true_eq] at hx ⊢
  rcases hx with rfl | hx
  · exact .inr (hd q hdx)
  · exact .inr (j.clos x q hx hdx)

theorem J.AB (F : DF P n keep ops r) {listed : Array Bool} {pre rest : List DO} {d : DS} {G : Gh} {w : World} {a : Act} (j : J P n keep ops r L0 lo G0 w0 listed pre rest d G w a) {i : Nat} {op : Oper} (ho : ops[i]? = some op)
    {G' : Gh} {w' : World} (k : Keeps G w G' w') {R' : Env} (hR : ∀ q, q ≠ i → listed.getD q false = true → lk q R' = lk q d.R) {v : Value} (hv : V G' w' (lk i R') v) :
    (∀ (q : Nat) (op' : Oper) (t : Tmp), (listed.setIfInBounds i true).getD q false = true → ops[q]? = some op' → op'.dst = some t → V G' w' (lk q R') ((a.put op.dst v).tmps.getD t undef)) ∧
    (∀ t, keep t = true → (∀ (q : Nat) (op' : Oper), (listed.setIfInBounds i true).getD q false = true → ops[q]? = some op' → op'.dst ≠ some t) → V G' w' (lk t L0) ((a.put op.dst v).tmps.getD t undef)) ∧
    (a.put op.dst v).tmps.size = n ∧ (a.put op.dst v).defers = [] := by
  have hlt : i < ops.length := (List.getElem?_eq_some_iff.1 ho).1
  have hs : i < listed.size := by rw [j.lsize]; exact hlt
  have hput : ∀ t, (a.put op.dst v).tmps.getD t undef = if op.dst = some t then v else a.tmps.getD t undef := by
    intro t
    cases hd : op.dst with
    | none => simp [Act.put]
    | some s =>
      have hsn : s < a.tmps.size := by rw [j.size]; exact F.lt op (List.mem_of_getElem? ho) s hd
      simp only [Act.put]
      rw [getD_set hsn]
      by_cases e : t = s
      · subst e; simp
      · have : ¬ s = t := fun x => e x.symm
        simp [e, this]
  refine ⟨fun q op' t hq hop' hdst => ?_, fun t hk hno => ?_, ?_, ?_⟩
  · rw [hput]
    by_cases e : q = i
    · subst e
      rw [ho] at hop'; cases hop'
      rw [if_pos hdst]; exact hv
    · rw [listed_set hs] at hq
      simp only [e, decide_false, Bool.false_or] at hq
      rw [if_neg (fun h => e (F.dsts q i op' op t hop' ho hdst h)), hR q e hq]
      exact (j.A q op' t hq hop' hdst).keep k
  · rw [hput, if_neg (hno i op (by rw [listed_set hs]; simp) ho)]
    exact (j.B t hk (fun q op' hq hop' => hno q op' (by rw [listed_set hs, hq]; simp) hop')).keep k
  · cases hd : op.dst <;> simp [Act.put, j.size]
  · cases hd : op.dst <;> simp [Act.put, j.defers]

theorem J.nameLt (F : DF P n keep ops r) {listed : Array Bool} {pre rest : List DO} {d : DS} {G : Gh} {w : World} {a : Act} (j : J P n keep ops r L0 lo G0 w0 listed pre rest d G w a) {o : DO} (ho : o ∈ pre) (hl : o.op.lightQ = true) {m : Nat} (hm : m = lo + o.nm) : m < G.N := by
  obtain ⟨hS, g, hs⟩ := j.heap
  have := orderOk_mem F.ord o (by rw [j.items]; simp [ho]) hl
  have := hs.lok
  rw [← g.len]; omega

/-- something that was looked at ahead is done: what was to come of the others comes still -/
theorem J.did (F : DF P n keep ops r) {listed : Array Bool} {pre rest : List DO} {d : DS} {G : Gh} {w : World} {a : Act} (j : J P n keep ops r L0 lo G0 w0 listed pre rest d G w a) {i : Nat} {op : Oper} (ho : ops[i]? = some op)
    (hd : ∀ q, r.dep i q = true → listed.getD q false = true) (hrest : ∀ o ∈ rest, o.i ≠ i)
    {G' : Gh} {w' : World} (k : Keeps G w G' w') {v : Value} (hv : V G' w' (lk i d.R) v) (hst : Stp G0 w0 G' w')
    (hheap : ∃ hS, Gam G' w' hS ∧ HS r lo (listed.setIfInBounds i true) d G' hS) (hl : ∀ x ∈ d.lts, x.1 = i → ∃ b, G'.loc x.2.1 = some b) :
    J P n keep ops r L0 lo G0 w0 (listed.setIfInBounds i true) pre rest d G' w' (a.put op.dst v) := by
  have hlt : i < ops.length := (List.getElem?_eq_some_iff.1 ho).1
  have hs : i < listed.size := by rw [j.lsize]; exact hlt
  obtain ⟨hA, hB, hsz, hdf⟩ := j.AB F ho k (R' := d.R) (fun _ _ _ => rfl) hv
  have sub : ∀ q, (listed.setIfInBounds i true).getD q false = false → listed.getD q false = false := by
    intro q hq
    rw [listed_set hs] at hq
    simp only [Bool.or_eq_false_iff] at hq
    exact hq.2
  refine { items := j.items, lsize := by simp [j.lsize], clos := j.clos' hlt hd, sub := fun o h => ?_, L := j.L, A := hA, B := hB, will := fun o h hq => j.will o h (sub _ hq), heap := hheap, ltsN := j.ltsN,
           lts := fun x h => ?_, ltsC := j.ltsC, later := j.later, size := hsz, defers := hdf, stp := hst, lo := j.lo }
  · rw [listed_set hs, j.sub o h]; simp [hrest o h]
  · obtain ⟨o, h1, h2, h3, h4, h5, h6, h7⟩ := j.lts x h
    refine ⟨o, h1, h2, h3, h4, h5, fun hq => h6 (fun q hq1 hq2 hq3 => hq q hq1 hq2 (by rw [listed_set hs, hq3]; simp)), fun hli => ?_, h7.2⟩
    rw [listed_set hs] at hli
    simp only [Bool.or_eq_true, decide_eq_true_eq] at hli
    rcases hli with e | hli
    · exact hl x h (by rw [h3, e])
    · obtain ⟨b, hb⟩ := h7.1 hli
      exact ⟨b, k.loc _ _ (j.nameLt F h1 h2 h4) hb⟩


theorem orderOk_inj {dep : Nat → Nat → Bool} {k : Nat} : ∀ {l : List DO}, orderOk dep k l = true → ∀ o ∈ l, ∀ x ∈ l, (o.i = x.i → o = x) ∧ (o.op.lightQ = true → x.op.lightQ = true → o.nm = x.nm → o = x) := by
  intro l
  induction l with
  | nil => intro _ o h; simp at h
  | cons y r ih =>
    intro h o ho x hx
    have hsp := fun z hz => orderOk_split (pre := [y]) (rest := r) (by simpa using h) y (by simp) z hz
    simp only [orderOk, Bool.and_eq_true] at h
    rcases List.mem_cons.1 ho with rfl | ho1 <;> rcases List.mem_cons.1 hx with rfl | hx1
    · exact ⟨fun _ => rfl, fun _ _ _ => rfl⟩
    · obtain ⟨a, _, _, d⟩ := hsp x hx1
      exact ⟨fun e => absurd e.symm a, fun h1 h2 e => absurd e.symm (d h1 h2)⟩
    · obtain ⟨a, _, _, d⟩ := hsp o ho1
      exact ⟨fun e => absurd e a, fun h1 h2 e => absurd e (d h2 h1)⟩
    · exact ih h.2 o ho1 x hx1

theorem cOp_r {tr : Operand → Opd} {o : Oper} {ro : ROp} (h : cOp P tr o = some (.r ro)) : cR P tr o = some ro := by
  unfold cOp at h
  split at h
  · rename_i q hq; cases h; exact hq
  · split at h
    · cases h
    · split at h <;> cases h

theorem cOp_h {tr : Operand → Opd} {o : Oper} {ho : HOp} (h : cOp P tr o = some (.h ho)) : cH P tr o = some ho := by
  unfold cOp at h
  split at h
  · cases h
  · split at h
    · rename_i q hq; cases h; exact hq
    · split at h <;> cases h

/-- does the guard let the operation be done? -/
theorem guard_specD {G : Gh} {w : World} {a : Act} {ops : Array Oper} {o : Oper} {j : Nat} {want : Bool} {t : Tmp} {av : AV} (hv : V G w av (a.eval (.tmp t))) (hg : o.guard = some (j, want)) (ht : (ops[j]?).bind (·.dst) = some t) :
    (∀ b, av = .bool b → Region.wanted o (yielded ops a.tmps) = (b == want)) ∧ (∀ cs, av = .tup cs → Region.wanted o (yielded ops a.tmps) = false) := by
  have hy : yielded ops a.tmps j = match a.tmps[t]? with | some (.bool b) => some b | _ => none := by
    simp only [yielded, ht, Option.bind_some]
    rfl
  have hev : a.eval (.tmp t) = (a.tmps[t]?).getD undef := by simp [Act.eval]
  rw [hev] at hv
  constructor
  · rintro b rfl
    cases hq : a.tmps[t]? with
    | none => rw [hq] at hv; cases hv
    | some v =>
      rw [hq] at hv
      simp only [Option.getD_some] at hv
      cases hv
      simp only [Region.wanted, hg, hy, hq]
      cases b <;> cases want <;> rfl
  · rintro cs rfl
    cases hq : a.tmps[t]? with
    | none => simp [Region.wanted, hg, hy, hq]
    | some v =>
      rw [hq] at hv
      simp only [Option.getD_some] at hv
      cases hv
      simp [Region.wanted, hg, hy, hq]

/-- an operation that is ready and was looked at ahead -/
theorem J.doneWill (F : DF P n keep ops r) {listed : Array Bool} {pre rest : List DO} {d : DS} {G : Gh} {w : World} {a : Act} (j : J P n keep ops r L0 lo G0 w0 listed pre rest d G w a) {o : DO} (ho : o ∈ pre)
    (hi : listed.getD o.i false = false) (hd : ∀ q, r.dep o.i q = true → listed.getD q false = true) {Q : Exit → Act → World → Prop} {K : Act → World → Prop}
    (hK : ∀ G' w' a', J P n keep ops r L0 lo G0 w0 (listed.setIfInBounds o.i true) pre rest d G' w' a' → K a' w') : wpOp P ops.toArray Q o.i K a w := by
  have hmem : o ∈ r.items := by rw [j.items]; simp [ho]
  obtain ⟨hhv, op, hop, hcop, hcg⟩ := F.item o hmem
  have hlt : o.i < ops.length := (List.getElem?_eq_some_iff.1 hop).1
  have hls : o.i < listed.size := by rw [j.lsize]; exact hlt
  obtain ⟨γ, g1, g2, g3, hcase⟩ := j.will o ho hi
  have hstands := j.stands F hi hd g1 g2 g3
  have hrest : ∀ x ∈ rest, x.i ≠ o.i := fun x hx => (orderOk_split (by rw [← j.items]; exact F.ord) o ho x hx).1
  obtain ⟨hS, gam, hs⟩ := j.heap
  have same : ∀ o' ∈ r.items, o'.i = o.i → o' = o := fun o' h' e => (orderOk_inj F.ord o' h' o hmem).1 e
  have hopA : ops.toArray[o.i]? = some op := by simpa using hop
  have hs' : o.op.lightQ = false ∨ d.h[lo + o.nm]? = some none → HS r lo (listed.setIfInBounds o.i true) d G hS := by
    intro hnl
    have sub : ∀ q, (listed.setIfInBounds o.i true).getD q false = false → listed.getD q false = false ∧ q ≠ o.i := by
      intro q hq
      rw [listed_set hls] at hq
      simp only [Bool.or_eq_false_iff, decide_eq_false_iff_not] at hq
      exact ⟨hq.2, hq.1⟩
    refine ⟨hs.len, hs.lok, fun m hm => ?_, fun o' h1 h2 h3 => hs.free o' h1 h2 (sub _ h3).1⟩
    by_cases e : o.op.lightQ = true ∧ m = lo + o.nm
    · rcases hnl with hnl | hnl
      · rw [hnl] at e; cases e.1
      · rw [e.2, hnl]; exact (hs.free o hmem e.1 hi).1
    · refine hs.other m (fun o' h1 h2 h3 => ?_)
      by_cases e' : o'.i = o.i
      · have := same o' h1 e'; subst this; exact fun x => e ⟨h2, x⟩
      · exact hm o' h1 h2 (by rw [listed_set hls, h3]; simp [e'])
  unfold wpOp
  simp only [hopA]
  have guardX : ∀ x want, o.guard = some (x, want) → ∃ jj t, op.guard = some (jj, want) ∧ (ops.toArray[jj]?).bind (·.dst) = some t ∧ x = trD keep ops r.masks o.i (.tmp t) := by
    intro x want hg
    rw [hg] at hcg
    unfold cGuardD at hcg
    split at hcg
    · cases hcg
    · rename_i jj want' hgo
      split at hcg
      · rename_i t ht
        cases hcg
        exact ⟨jj, t, hgo, by simpa using ht, rfl⟩
      · cases hcg
  rcases hcase with ⟨x, want, hg, hx, hval, hnone⟩ | ⟨hgd, hbody⟩
  · -- it is passed over
    obtain ⟨jj, t, hgo, ht, rfl⟩ := guardX x want hg
    obtain ⟨s1, s2⟩ := guard_specD (hstands (.tmp t)) hgo ht
    have hw : Region.wanted op (yielded ops.toArray a.tmps) = false := by
      rcases hx with hx | ⟨cs, hx⟩
      · rw [s1 _ hx]; cases want <;> rfl
      · exact s2 cs hx
    rw [hw]
    simp only [Bool.false_eq_true, if_false]
    refine hK G w _ (j.did F hop hd hrest (Keeps.refl G w) (by rw [hval]; exact .tup [] #[] rfl (fun j c v h => by simp at h)) j.stp ⟨hS, gam, hs' ?_⟩ ?_)
    · cases hlq : o.op.lightQ with
      | false => exact .inl rfl
      | true => exact .inr (hnone hlq)
    · intro y hy e
      obtain ⟨o', h1, h2, h3, h4, h5, h6, h7, h8⟩ := j.lts y hy
      rw [e, hval] at h8
      exact absurd rfl h8
  · have hw : Region.wanted op (yielded ops.toArray a.tmps) = true := by
      rcases hgd with hg | ⟨x, want, hg, hx⟩
      · rw [hg] at hcg
        unfold cGuardD at hcg
        split at hcg
        · rename_i hgo; simp [Region.wanted, hgo]
        · split at hcg <;> cases hcg
      · obtain ⟨jj, t, hgo, ht, rfl⟩ := guardX x want hg
        rw [(guard_specD (hstands (.tmp t)) hgo ht).1 _ hx]; simp
    rw [hw]
    simp only [if_true]
    left
    have reads : ∀ ro, o.op = .r ro → rev γ hS ro = some (lk o.i d.R) → op.wp P a w K Q := by
      intro ro hro hrev
      rw [hro] at hcop
      obtain ⟨u, hu, hV⟩ := rop_sound (P := P) gam hstands (cOp_r hcop) hrev
      unfold Oper.wp
      rw [hu, Oper.upon_value]
      refine hK G w _ (j.did F hop hd hrest (Keeps.refl G w) hV j.stp ⟨hS, gam, hs' (.inl (by rw [hro]; rfl))⟩ ?_)
      intro y hy e
      obtain ⟨o', h1, h2, h3, _⟩ := j.lts y hy
      have := same o' (by rw [j.items]; simp [h1]) (by rw [← h3, e])
      subst this
      rw [hro] at h2; cases h2
    rcases hbody with ⟨agg, nn, x, hro, hres, hld, _⟩ | ⟨ro, hro, hrev⟩ | ⟨ho', b, hro, hlq, hlight, hblk⟩
    · refine reads _ hro ?_
      simp only [rev]
      rw [← hld]
      cases hγ : γ x with
      | ptr m sz i' o' =>
        rw [hγ] at hres
        simp only [notRes, Bool.or_eq_true, decide_eq_true_eq] at hres
        have hm : hS[m]? = d.h[m]? := hs.other m (fun o' h1 h2 _ e => by
          have := orderOk_mem F.ord o' h1 h2
          omega)
        simp only [aload, hm]
      | _ => rfl
    · exact reads _ hro (hrev hS)
    · rw [hro] at hcop
      obtain ⟨sz, es, gr, rfl⟩ := lightOf_arr hlight
      obtain ⟨s, mkv, he, hm, cells, ty, u, hrun, l1, l2, l3, l4, l5⟩ := light_sound (P := P) hstands (cOp_h hcop) hlight
      obtain ⟨f1, f2, f3⟩ := hs.free o hmem hlq hi
      have hN : lo + o.nm < G.N := j.nameLt F ho hlq rfl
      have kp := gam.keepsPut f2 f3 (.cells cells ty)
      have gp := gam.gamPut hN f1 f2 f3 (cells := cells) (ty := ty) l1 l2 l3 l4
      have hvv := l5 (G.put (lo + o.nm) w.heap.size) (lo + o.nm) hN (by simp [Gh.put])
      rw [hm] at hvv
      unfold Oper.wp
      rw [he]
      simp only [Sem.run_bind, hrun, Result.andThen_ok, Sem.run_pure, Oper.upon_value]
      refine hK _ _ _ (j.did F hop hd hrest kp hvv (j.stp.put gam (by have := j.lo; omega) f2 f3 _ _) ⟨_, gp, ?_⟩ ?_)
      · have hltS : lo + o.nm < hS.length := by rw [gam.len]; exact hN
        refine ⟨by simp [hs.len], by simpa using hs.lok, fun m hmm => ?_, fun o' h1 h2 h3 => ?_⟩
        · by_cases e : m = lo + o.nm
          · subst e; rw [List.getElem?_set_self hltS, hblk]
          · rw [List.getElem?_set_ne (fun x => e x.symm)]
            refine hs.other m (fun o' h1 h2 h3 => ?_)
            by_cases e' : o'.i = o.i
            · have := same o' h1 e'; subst this; exact e
            · exact hmm o' h1 h2 (by rw [listed_set hls, h3]; simp [e'])
        · rw [listed_set hls] at h3
          simp only [Bool.or_eq_false_iff, decide_eq_false_iff_not] at h3
          have hne : lo + o'.nm ≠ lo + o.nm := by
            intro e
            have := (orderOk_inj F.ord o' h1 o hmem).2 h2 hlq (by omega)
            exact h3.1 (by rw [this])
          obtain ⟨a1, a2, a3⟩ := hs.free o' h1 h2 h3.2
          refine ⟨by rw [List.getElem?_set_ne (fun x => hne x.symm)]; exact a1, ?_, a3⟩
          simp only [Gh.put, hne, if_false]; exact a2
      · intro y hy e
        obtain ⟨o', h1, h2, h3, h4, _⟩ := j.lts y hy
        have := same o' (by rw [j.items]; simp [h1]) (by rw [← h3, e])
        subst this
        exact ⟨w.heap.size, by rw [h4]; simp [Gh.put]⟩

end
end Glb
