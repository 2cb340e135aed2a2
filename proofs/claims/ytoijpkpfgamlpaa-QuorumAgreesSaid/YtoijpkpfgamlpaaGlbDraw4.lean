/-
  A library of its own, for whatever program: regions whose order is drawn: that one order is enough (what acts on memory; the whole).
-/
import Derived.Test.YtoijpkpfgamlpaaGlbDraw3
set_option linter.unusedSimpArgs false
set_option linter.unusedVariables false
namespace Glb
open Go

theorem nodup_filter {α β : Type} (f : α → β) (p : α → Bool) : ∀ (l : List α), (l.map f).Nodup → ((l.filter p).map f).Nodup := by
  intro l
  induction l with
  | nil => intro h; exact h
  | cons x r ih =>
    intro h
    simp only [List.map_cons, List.nodup_cons] at h
    simp only [List.filter_cons]
    split
    · simp only [List.map_cons, List.nodup_cons]
      exact ⟨fun hm => h.1 (by
        obtain ⟨y, hy, e⟩ := List.mem_map.1 hm
        exact List.mem_map.2 ⟨y, (List.mem_filter.1 hy).1, e⟩), ih h.2⟩
    · exact ih h.2

theorem eq_of_nodup_map {α β : Type} (f : α → β) : ∀ (l : List α), (l.map f).Nodup → ∀ x ∈ l, ∀ y ∈ l, f x = f y → x = y := by
  intro l
  induction l with
  | nil => intro _ x h; simp at h
  | cons z r ih =>
    intro h x hx y hy e
    simp only [List.map_cons, List.nodup_cons, List.mem_map, not_exists, not_and] at h
    rcases List.mem_cons.1 hx with rfl | hx1 <;> rcases List.mem_cons.1 hy with rfl | hy1
    · rfl
    · exact absurd e.symm (h.1 y hy1)
    · exact absurd e (h.1 x hx1)
    · exact ih h.2 x hx1 y hy1 e

theorem again_spec {dep : Nat → Nat → Bool} {i : Nat} {h : AHeap} : ∀ {l : List (Nat × AV × Bool × Nat × AV)}, again dep i h l → ∀ p ∈ l, dep i p.1 = true ∨ aload h p.2.2.1 p.2.2.2.1 p.2.1 = some p.2.2.2.2 := by
  intro l
  induction l with
  | nil => intro _ p hp; simp at hp
  | cons x r ih =>
    intro h p hp
    rcases List.mem_cons.1 hp with rfl | hp
    · exact h.1
    · exact ih h.2 p hp

section
variable {P : Program} {n : Nat} {keep : Nat → Bool} {ops : List Oper} {r : DR} {L0 : Env} {lo : Nat} {G0 : Gh} {w0 : World}

/-- the blocks that an operation does not wait for -/
def loose (r : DR) (d : DS) (o : DO) : List (Nat × Nat × ABlk) := d.lts.filter fun x => !r.dep o.i x.1

/-- behind what acts on memory -/
theorem J.heavyDone (F : DF P n keep ops r) {listed : Array Bool} {pre rest : List DO} {d : DS} {G : Gh} {w : World} {a : Act} {o : DO} (j : J P n keep ops r L0 lo G0 w0 listed pre (o :: rest) d G w a) (hv : o.hv = true)
    (hd : ∀ q, r.dep o.i q = true → listed.getD q false = true) {op : Oper} (hop : ops[o.i]? = some op) :
    ∃ Gk, Gam Gk w (hideL (loose r d o) d.h) ∧ Keeps G w Gk w ∧
      ∀ {G' w' h' v u} {next : DS → Prop}, Stp Gk w G' w' → Gam G' w' h' → V G' w' v u → vcBack r.dep lo r.k o.i d (loose r d o) v h' next →
        ∃ G'', J P n keep ops r L0 lo G0 w0 (listed.setIfInBounds o.i true) (pre ++ [o]) rest { d.val o.i v with h := showL (loose r d o) h' } G'' w' (a.put op.dst u) ∧
          next { d.val o.i v with h := showL (loose r d o) h' } := by
  have hitems : r.items = (pre ++ [o]) ++ rest := by rw [j.items]; simp
  have ho : o ∈ r.items := by rw [j.items]; simp
  have hi := j.sub o (by simp)
  have hlt : o.i < ops.length := (List.getElem?_eq_some_iff.1 hop).1
  have hls : o.i < listed.size := by rw [j.lsize]; exact hlt
  have split := fun x hx y hy => orderOk_split (pre := pre) (rest := o :: rest) (by rw [← j.items]; exact F.ord) x hx y hy
  have hnl : o.op.lightQ = false := by
    have := (F.item o ho).1
    rw [hv] at this
    cases h : o.op with
    | r ro => rfl
    | h ho => rw [h] at this; simpa [AOp.heavyQ] using this.symm
    | call f as => rfl
    | callv x as => rfl
  have mem : ∀ x ∈ pre, x ∈ r.items := fun x hx => by rw [j.items]; simp [hx]
  have inj := fun x hx y hy => orderOk_inj F.ord x hx y hy
  obtain ⟨hS, gam, hs⟩ := j.heap
  -- a block that is loose is as it was made
  have kept : ∀ x ∈ loose r d o, d.h[x.2.1]? = some (some x.2.2) := by
    intro x hx
    obtain ⟨hx1, hx2⟩ := List.mem_filter.1 hx
    obtain ⟨q, q1, q2, q3, q4, q5, q6, q7, q8⟩ := j.lts x hx1
    refine q6 (fun z hz hzv hzl => ?_)
    cases hdz : r.dep z.i x.1 with
    | false => rfl
    | true =>
      have := F.trans ((split z hz o (by simp)).2.2.1 hzv) hdz
      rw [this] at hx2; simp at hx2
  generalize hE : (loose r d o).filter (fun x => listed.getD x.1 false) = E
  have memE : ∀ x, x ∈ E ↔ x ∈ loose r d o ∧ listed.getD x.1 false = true := by intro x; rw [← hE, List.mem_filter]
  have memL : ∀ x, x ∈ loose r d o ↔ x ∈ d.lts ∧ r.dep o.i x.1 = false := by intro x; simp [loose]
  have nodL : ((loose r d o).map (·.2.1)).Nodup := nodup_filter _ _ _ j.ltsN
  have nodE : (E.map (·.2.1)).Nodup := by rw [← hE]; exact nodup_filter _ _ _ nodL
  -- what is listed lies in the heap
  have inS : ∀ x ∈ d.lts, listed.getD x.1 false = true → hS[x.2.1]? = d.h[x.2.1]? := by
    intro x hx hxl
    obtain ⟨q, q1, q2, q3, q4, _⟩ := j.lts x hx
    refine hs.other _ (fun o' h1 h2 h3 e => ?_)
    have := (inj o' h1 q (mem q q1)).2 h2 q2 (by omega)
    subst this
    rw [q3, h3] at hxl; cases hxl
  obtain ⟨Gk, gk, kk, lk', nk', back⟩ := aside_list E gam nodE (fun x hx => by
    obtain ⟨hx1, hx2⟩ := (memE x).1 hx
    obtain ⟨hx3, hx4⟩ := (memL x).1 hx1
    obtain ⟨q, q1, q2, q3, q4, q5, q6, q7, q8⟩ := j.lts x hx3
    exact ⟨by rw [inS x hx3 hx2]; exact kept x hx1, q5, q7 (by rw [← q3]; exact hx2)⟩)
  -- the heap that the operation sees
  have hid : hideL E hS = hideL (loose r d o) d.h := by
    apply List.ext_getElem?
    intro m
    have lE := (getElem?_hideL E hS m).1
    have lX := (getElem?_hideL (loose r d o) d.h m).1
    rcases Nat.lt_or_ge m hS.length with hm | hm
    rotate_left
    · rw [List.getElem?_eq_none (by omega), List.getElem?_eq_none (by rw [lX, ← hs.len]; exact hm)]
    have hm' : m < d.h.length := by rw [← hs.len]; exact hm
    by_cases hx : ∃ x ∈ loose r d o, x.2.1 = m
    · rw [(getElem?_hideL (loose r d o) d.h m).2.1 hx hm']
      obtain ⟨x, hx1, hx2⟩ := hx
      by_cases hxl : listed.getD x.1 false = true
      · exact (getElem?_hideL E hS m).2.1 ⟨x, (memE x).2 ⟨hx1, hxl⟩, hx2⟩ hm
      · rw [(getElem?_hideL E hS m).2.2 (fun y hy e => by
          have hy' := (memE y).1 hy
          have := eq_of_nodup_map (·.2.1) _ nodL y hy'.1 x hx1 (by simp only [e, hx2])
          subst this; exact hxl hy'.2)]
        obtain ⟨q, q1, q2, q3, q4, _⟩ := j.lts x ((memL x).1 hx1).1
        rw [← hx2, q4]
        exact (hs.free q (mem q q1) q2 (by rw [← q3]; simpa using hxl)).1
    · have hx' : ∀ x ∈ loose r d o, x.2.1 ≠ m := fun x h1 h2 => hx ⟨x, h1, h2⟩
      rw [(getElem?_hideL (loose r d o) d.h m).2.2 hx', (getElem?_hideL E hS m).2.2 (fun y hy => hx' y ((memE y).1 hy).1)]
      by_cases hu : ∃ o' ∈ r.items, o'.op.lightQ = true ∧ listed.getD o'.i false = false ∧ m = lo + o'.nm
      · obtain ⟨o', h1, h2, h3, rfl⟩ := hu
        rw [(hs.free o' h1 h2 h3).1]
        rw [j.items] at h1
        rcases List.mem_append.1 h1 with h1 | h1
        · rcases j.ltsC o' h1 h2 with ⟨y, hy, e⟩ | h
          · exfalso
            obtain ⟨q, q1, q2, q3, q4, _⟩ := j.lts y hy
            have : q = o' := (inj q (mem q q1) o' (mem o' h1)).1 (by rw [← q3, e])
            subst this
            refine hx' y ((memL y).2 ⟨hy, ?_⟩) q4
            cases hdy : r.dep o.i y.1 with
            | false => rfl
            | true => have := hd _ hdy; rw [e, h3] at this; cases this
          · exact h.symm
        · exact (j.later o' h1 h2).symm
      · exact hs.other m (fun o' h1 h2 h3 e => hu ⟨o', h1, h2, h3, e⟩)
  rw [hid] at gk
  refine ⟨Gk, gk, kk, fun {G' w' h' v u next} st g' hvu hb => ?_⟩
  obtain ⟨hfree, hag, hnext⟩ := hb
  have lenk : Gk.N = d.h.length := by rw [← gk.len, (getElem?_hideL (loose r d o) d.h 0).1]
  have len' : d.h.length ≤ h'.length := by rw [g'.len, ← lenk]; exact st.keep.N
  have lok : lo + r.k ≤ d.h.length := by rw [← hs.len]; exact hs.lok
  have free : ∀ q, q < r.k → (∃ x ∈ d.lts, r.dep o.i x.1 = true ∧ x.2.1 = lo + q) ∨ h'[lo + q]? = some none := by
    intro q hq
    have := List.all_eq_true.1 hfree q (by simpa using hq)
    simp only [Bool.or_eq_true, List.any_eq_true, Bool.and_eq_true, beq_iff_eq] at this
    rcases this with h | h
    · exact .inl h
    · right
      unfold isFree at h
      split at h
      · assumption
      · cases h
  -- a block of an operation that this one does not wait for
  have freeOf : ∀ x ∈ r.items, x.op.lightQ = true → r.dep o.i x.i = false → h'[lo + x.nm]? = some none := by
    intro x hx hxl hxd
    rcases free x.nm (orderOk_mem F.ord x hx hxl) with ⟨y, hy, hyd, e⟩ | h
    · obtain ⟨q, q1, q2, q3, q4, _⟩ := j.lts y hy
      have := (inj q (mem q q1) x hx).2 q2 hxl (by omega)
      subst this
      rw [q3, hxd] at hyd; cases hyd
    · exact h
  obtain ⟨G'', g'', st'', k'', l'', n''⟩ := back st g' (fun x hx => by
    obtain ⟨hx1, hx2⟩ := (memE x).1 hx
    obtain ⟨hx3, hx4⟩ := (memL x).1 hx1
    obtain ⟨q, q1, q2, q3, q4, _⟩ := j.lts x hx3
    rw [q4]; exact freeOf q (mem q q1) q2 (by rw [← q3]; exact hx4))
  have notIn : ∀ x ∈ r.items, x.op.lightQ = true → (∀ y ∈ d.lts, y.1 ≠ x.i) → ∀ y ∈ loose r d o, y.2.1 ≠ lo + x.nm := by
    intro x hx hxl hno y hy e
    obtain ⟨hy1, _⟩ := (memL y).1 hy
    obtain ⟨q, q1, q2, q3, q4, _⟩ := j.lts y hy1
    have := (inj q (mem q q1) x hx).2 q2 hxl (by omega)
    subst this
    exact hno y hy1 q3
  have showAt : ∀ x ∈ loose r d o, (showL (loose r d o) h')[x.2.1]? = some (some x.2.2) := fun x hx => showL_at _ h' nodL x hx (by
    obtain ⟨q, q1, q2, q3, q4, _⟩ := j.lts x ((memL x).1 hx).1
    have := orderOk_mem F.ord q (mem q q1) q2
    omega)
  have keepGG : Keeps G w G'' w' := st''.keep
  have hvu' : V G'' w' v u := hvu.keep k''
  obtain ⟨hA, hB, hsz, hdf⟩ := j.AB F hop keepGG (R' := (o.i, v) :: d.R) (fun q hq _ => lk_cons_ne hq) (by rw [lk_cons_eq]; exact hvu')
  have ls' : ∀ q, (listed.setIfInBounds o.i true).getD q false = false → listed.getD q false = false ∧ q ≠ o.i := by
    intro q hq
    rw [listed_set hls] at hq
    simp only [Bool.or_eq_false_iff, decide_eq_false_iff_not] at hq
    exact ⟨hq.2, hq.1⟩
  refine ⟨G'', { items := hitems, lsize := by simp [j.lsize], clos := j.clos' hlt hd, sub := fun x hx => ?_, L := j.L, A := hA, B := hB, will := fun x hx hxl => ?_, heap := ⟨_, g'', ?_⟩, ltsN := j.ltsN, lts := fun x hx => ?_,
                 ltsC := fun x hx hxl => ?_, later := fun x hx hxl => ?_, size := hsz, defers := hdf, stp := j.stp.trans st'', lo := j.lo }, hnext⟩
  · rw [listed_set hls, j.sub x (by simp [hx])]
    have := (orderOk_split (pre := pre ++ [o]) (rest := rest) (by rw [← hitems]; exact F.ord) o (by simp) x hx).1
    simp [this]
  · obtain ⟨hxl', hxo⟩ := ls' _ hxl
    have hx' : x ∈ pre := by
      rcases List.mem_append.1 hx with h | h
      · exact h
      · have : x = o := by simpa using h
        subst this; exact absurd rfl hxo
    have hlk : lk x.i ((o.i, v) :: d.R) = lk x.i d.R := lk_cons_ne hxo
    have hnd : r.dep x.i o.i = false := (split x hx' o (by simp)).2.1
    have hnd' : r.dep o.i x.i = false := by
      cases h : r.dep o.i x.i with
      | false => rfl
      | true => have := hd _ h; rw [hxl'] at this; cases this
    obtain ⟨γ, g1, g2, g3, hc⟩ := j.will x hx' hxl'
    refine ⟨γ, fun q hq => ?_, g2, g3, ?_⟩
    · show γ (.tmp q) = lk q ((o.i, v) :: d.R)
      rw [lk_cons_ne (by rintro rfl; rw [hnd] at hq; cases hq)]; exact g1 q hq
    · simp only [DS.val]
      rw [hlk]
      rcases hc with ⟨y, want, h1, h2, h3, h4⟩ | ⟨h1, h2⟩
      · refine .inl ⟨y, want, h1, h2, h3, fun hl => ?_⟩
        have hno : ∀ y ∈ d.lts, y.1 ≠ x.i := by
          intro y hy e
          obtain ⟨q, q1, q2, q3, q4, q5, q6, q7, q8⟩ := j.lts y hy
          rw [e, h3] at q8; exact q8 rfl
        rw [(getElem?_showL (loose r d o) h' _).2 (notIn x (mem x hx') hl hno)]
        exact freeOf x (mem x hx') hl hnd'
      · refine .inr ⟨h1, ?_⟩
        rcases h2 with ⟨agg, nn, y, e1, e2, e3, e4⟩ | ⟨ro, e1, e2⟩ | ⟨hop', b, e1, e2, e3, e4⟩
        · refine .inl ⟨agg, nn, y, e1, e2, ?_, e4⟩
          have := again_spec hag _ e4
          simp only at this
          rcases this with h | h
          · rw [hnd'] at h; cases h
          · exact h
        · exact .inr (.inl ⟨ro, e1, e2⟩)
        · refine .inr (.inr ⟨hop', b, e1, e2, e3, ?_⟩)
          rcases j.ltsC x hx' e2 with ⟨y, hy, e⟩ | h
          · have hyL : y ∈ loose r d o := (memL y).2 ⟨hy, by rw [e]; exact hnd'⟩
            have k1 := kept y hyL
            have k2 := showAt y hyL
            obtain ⟨q, q1, q2, q3, q4, _⟩ := j.lts y hy
            have : q = x := (inj q (mem q q1) x (mem x hx')).1 (by rw [← q3, e])
            subst this
            rw [q4] at k1 k2
            rw [e4] at k1
            rw [k2, ← k1]
          · rw [h] at e4; cases e4
  · have lenE := (getElem?_showL E h' 0).1
    have lenX := (getElem?_showL (loose r d o) h' 0).1
    refine ⟨by simp only [DS.val]; rw [lenE, lenX], by rw [lenE]; omega, fun m hm => ?_, fun x hx hxl hxu => ?_⟩
    · simp only [DS.val]
      by_cases hxm : ∃ x ∈ loose r d o, x.2.1 = m
      · obtain ⟨x, hx, e⟩ := hxm
        subst e
        by_cases hxl : listed.getD x.1 false = true
        · rw [showAt x hx]
          refine showL_at _ h' nodE x ((memE x).2 ⟨hx, hxl⟩) ?_
          obtain ⟨q, q1, q2, q3, q4, _⟩ := j.lts x ((memL x).1 hx).1
          have := orderOk_mem F.ord q (mem q q1) q2
          omega
        · obtain ⟨q, q1, q2, q3, q4, _⟩ := j.lts x ((memL x).1 hx).1
          exfalso
          refine hm q (mem q q1) q2 ?_ q4
          rw [listed_set hls, ← q3]
          have : x.1 ≠ o.i := by
            rw [q3]; exact fun e => (split q q1 o (by simp)).1 e.symm
          simp [this]; simpa using hxl
      · have hx' : ∀ x ∈ loose r d o, x.2.1 ≠ m := fun x h1 h2 => hxm ⟨x, h1, h2⟩
        rw [(getElem?_showL (loose r d o) h' m).2 hx', (getElem?_showL E h' m).2 (fun x hx => hx' x ((memE x).1 hx).1)]
    · obtain ⟨hxu', hxo⟩ := ls' _ hxu
      have hnd' : r.dep o.i x.i = false := by
        cases h : r.dep o.i x.i with
        | false => rfl
        | true => have := hd _ h; rw [hxu'] at this; cases this
      obtain ⟨f1, f2, f3⟩ := hs.free x hx hxl hxu'
      have hN : lo + x.nm < Gk.N := by have := orderOk_mem F.ord x hx hxl; rw [lenk]; omega
      refine ⟨?_, ?_, ?_⟩
      · rw [(getElem?_showL E h' _).2 (fun y hy e => ?_)]
        · exact freeOf x hx hxl hnd'
        · obtain ⟨hy1, hy2⟩ := (memE y).1 hy
          obtain ⟨q, q1, q2, q3, q4, _⟩ := j.lts y ((memL y).1 hy1).1
          have := (inj q (mem q q1) x hx).2 q2 hxl (by omega)
          subst this
          rw [q3, hxu'] at hy2; cases hy2
      · rw [l'', st.locEq _ hN, lk']; exact f2
      · rw [n'', st.nilEq _ hN, nk']; exact f3
  · obtain ⟨q, q1, q2, q3, q4, q5, q6, q7, q8⟩ := j.lts x hx
    have hqo : q.i ≠ o.i := fun e => (split q q1 o (by simp)).1 e.symm
    refine ⟨q, by simp [q1], q2, q3, q4, q5, fun hq => ?_, fun hl => ?_, ?_⟩
    · have := hq o (by simp) hv (by rw [listed_set hls]; simp)
      exact showAt x ((memL x).2 ⟨hx, this⟩)
    · rw [listed_set hls] at hl
      simp only [hqo, decide_false, Bool.false_or] at hl
      obtain ⟨b, hb⟩ := q7 hl
      exact ⟨b, keepGG.loc _ _ (j.nameLt F q1 q2 q4) hb⟩
    · show lk x.1 ((o.i, v) :: d.R) ≠ .tup []
      rw [lk_cons_ne (by rw [q3]; exact hqo)]; exact q8
  · have hx' : x ∈ pre := by
      rcases List.mem_append.1 hx with h | h
      · exact h
      · have : x = o := by simpa using h
        subst this; rw [hnl] at hxl; cases hxl
    by_cases hy : ∃ y ∈ d.lts, y.1 = x.i
    · exact .inl hy
    · right
      have hno : ∀ y ∈ d.lts, y.1 ≠ x.i := fun y h1 h2 => hy ⟨y, h1, h2⟩
      simp only [DS.val]
      rw [(getElem?_showL (loose r d o) h' _).2 (notIn x (mem x hx') hxl hno)]
      rcases free x.nm (orderOk_mem F.ord x (mem x hx') hxl) with ⟨y, hy1, hyd, e⟩ | h
      · obtain ⟨q, q1, q2, q3, q4, _⟩ := j.lts y hy1
        have := (inj q (mem q q1) x (mem x hx')).2 q2 hxl (by omega)
        subst this
        exact absurd q3 (hno y hy1)
      · exact h
  · have hxm : x ∈ r.items := by rw [hitems]; simp [hx]
    have hno : ∀ y ∈ d.lts, y.1 ≠ x.i := by
      intro y hy e
      obtain ⟨q, q1, q2, q3, q4, _⟩ := j.lts y hy
      exact (split q q1 x (by simp [hx])).1 (by rw [← q3, e])
    simp only [DS.val]
    rw [(getElem?_showL (loose r d o) h' _).2 (notIn x hxm hxl hno)]
    rcases free x.nm (orderOk_mem F.ord x hxm hxl) with ⟨y, hy1, hyd, e⟩ | h
    · obtain ⟨q, q1, q2, q3, q4, _⟩ := j.lts y hy1
      have := (inj q (mem q q1) x hxm).2 q2 hxl (by omega)
      subst this
      exact absurd q3 (hno y hy1)
    · exact h

end
end Glb
