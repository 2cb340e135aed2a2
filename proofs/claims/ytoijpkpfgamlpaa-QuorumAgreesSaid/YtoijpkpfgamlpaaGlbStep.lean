/-
  A library of its own, for whatever program: the steps, in one.
-/
import Derived.Test.YtoijpkpfgamlpaaGlbData
set_option linter.unusedSimpArgs false
set_option linter.unusedVariables false
namespace Glb
open Go

theorem rev_mov (g : Opd → AV) (h : AHeap) (x : Opd) : rev g h (.mov x) = some (g x) := Eq.trans rfl rfl
theorem rev_load (g : Opd → AV) (h : AHeap) (agg : Bool) (n : Nat) (x : Opd) : rev g h (.load agg n x) = aload h agg n (g x) := Eq.trans rfl rfl
theorem rev_bin (g : Opd → AV) (h : AHeap) (op : BinOp) (x y : Opd) : rev g h (.bin op x y) = abin op (g x) (g y) := Eq.trans rfl rfl
theorem rev_len (g : Opd → AV) (h : AHeap) (x : Opd) : rev g h (.len x) = alen (g x) := Eq.trans rfl rfl
theorem rev_off (g : Opd → AV) (h : AHeap) (o : Nat) (x : Opd) : rev g h (.off o x) = afield o (g x) := Eq.trans rfl rfl
theorem rev_idx (g : Opd → AV) (h : AHeap) (sz : Nat) (x i : Opd) : rev g h (.idx sz x i) = aindex sz (g x) (g i) := Eq.trans rfl rfl
def apick (c a b : AV) : Option AV := match c with
  | .bool t => some (if t then a else b)
  | _ => none
theorem rev_pick (g : Opd → AV) (h : AHeap) (c a b : Opd) : rev g h (.pick c a b) = apick (g c) (g a) (g b) := Eq.trans rfl rfl
theorem apick_bool (t : Bool) (a b : AV) : apick (.bool t) a b = some (if t then a else b) := Eq.trans rfl rfl
def anot : AV → Option AV
  | .bool b => some (.bool !b)
  | _ => none
theorem rev_not (g : Opd → AV) (h : AHeap) (x : Opd) : rev g h (.not x) = anot (g x) := Eq.trans rfl rfl
theorem anot_bool (b : Bool) : anot (.bool b) = some (.bool !b) := Eq.trans rfl rfl
def aext (i : Nat) : AV → Option AV
  | .tup cs => cs[i]?
  | _ => none
theorem rev_ext (g : Opd → AV) (h : AHeap) (x : Opd) (i : Nat) : rev g h (.ext x i) = aext i (g x) := Eq.trans rfl rfl
theorem aext_tup (i : Nat) (cs : List AV) : aext i (.tup cs) = cs[i]? := Eq.trans rfl rfl
def abeq (op : BinOp) : AV → AV → Option AV
  | .bool a, .bool b => bbin op a b
  | _, _ => none
theorem rev_beq (g : Opd → AV) (h : AHeap) (op : BinOp) (x y : Opd) : rev g h (.beq op x y) = abeq op (g x) (g y) := Eq.trans rfl rfl
theorem abeq_eql (a b : Bool) : abeq .eql (.bool a) (.bool b) = some (.bool (a == b)) := Eq.trans rfl rfl
theorem abeq_neq (a b : Bool) : abeq .neq (.bool a) (.bool b) = some (.bool (!(a == b))) := Eq.trans rfl rfl
def achk : AV → Option AV
  | .ptr n sz i o => some (.ptr n sz i o)
  | .vptr t cs => some (.vptr t cs)
  | .iface t v => some (.iface t v)
  | .clo f fs cs => some (.clo f fs cs)
  | _ => none
theorem rev_chk (g : Opd → AV) (h : AHeap) (x : Opd) : rev g h (.chk x) = achk (g x) := by
  simp only [rev]; generalize g x = v; cases v <;> rfl
theorem achk_p {h p cs} (hp : pcells h p = some cs) : achk p = some p := by
  cases p <;> simp_all [pcells, achk]
def aconv (k : IntKind) : AV → Option AV
  | .int _ n => some (.int k (k.wrap n))
  | _ => none
theorem rev_conv (g : Opd → AV) (h : AHeap) (k : IntKind) (x : Opd) : rev g h (.conv k x) = aconv k (g x) := Eq.trans rfl rfl
theorem aconv_int (k k' : IntKind) (n : Int) : aconv k (.int k' n) = some (.int k (k.wrap n)) := Eq.trans rfl rfl
def aneg : AV → Option AV
  | .int k n => some (.int k (k.wrap (0 - n)))
  | _ => none
theorem rev_neg (g : Opd → AV) (h : AHeap) (x : Opd) : rev g h (.neg x) = aneg (g x) := Eq.trans rfl rfl
theorem aneg_int (k : IntKind) (n : Int) : aneg (.int k n) = some (.int k (k.wrap (0 - n))) := Eq.trans rfl rfl
def aslc (sz : Nat) (x : AV) : Option (Option Int) → Option (Option Int) → Option (Option Int) → Option AV
  | some lo, some hi, some mx => aslice sz x lo hi mx
  | _, _, _ => none
theorem rev_slc (g : Opd → AV) (h : AHeap) (sz : Nat) (x : Opd) (lo hi mx : Option Opd) : rev g h (.slc sz x lo hi mx) = aslc sz (g x) (optInt g lo) (optInt g hi) (optInt g mx) := by
  simp only [rev, aslc]; generalize optInt g lo = a; generalize optInt g hi = b; generalize optInt g mx = c; cases a <;> cases b <;> cases c <;> rfl
theorem aslc_some (sz : Nat) (x : AV) (lo hi mx : Option Int) : aslc sz x (some lo) (some hi) (some mx) = aslice sz x lo hi mx := Eq.trans rfl rfl
def optInt1 : AV → Option (Option Int)
  | .int _ n => some (some n)
  | _ => none
theorem optInt_one (g : Opd → AV) (x : Opd) : optInt g (some x) = optInt1 (g x) := by simp only [optInt, optInt1]; generalize g x = v; cases v <;> rfl
theorem optInt1_int (k : IntKind) (n : Int) : optInt1 (.int k n) = some (some n) := Eq.trans rfl rfl
theorem optInt_none (g : Opd → AV) : optInt g none = some none := Eq.trans rfl rfl
theorem optInt_some (g : Opd → AV) (x : Opd) {k : IntKind} {n : Int} (h : g x = .int k n) : optInt g (some x) = some (some n) := by simp [optInt, h]

theorem add64 (a b : Int) : abin .add (.int .i64 a) (.int .i64 b) = some (.int .i64 (IntKind.i64.wrap (a + b))) := Eq.trans rfl rfl
theorem sub64 (a b : Int) : abin .sub (.int .i64 a) (.int .i64 b) = some (.int .i64 (IntKind.i64.wrap (a - b))) := Eq.trans rfl rfl
theorem mul64 (a b : Int) : abin .mul (.int .i64 a) (.int .i64 b) = some (.int .i64 (IntKind.i64.wrap (a * b))) := Eq.trans rfl rfl
theorem cmp_lss (k : IntKind) (a b : Int) : abin .lss (.int k a) (.int k b) = some (.bool (decide (a < b))) := by simp [abin, ibin]
theorem cmp_leq (k : IntKind) (a b : Int) : abin .leq (.int k a) (.int k b) = some (.bool (decide (a ≤ b))) := by simp [abin, ibin]
theorem cmp_gtr (k : IntKind) (a b : Int) : abin .gtr (.int k a) (.int k b) = some (.bool (decide (b < a))) := by simp [abin, ibin]
theorem cmp_geq (k : IntKind) (a b : Int) : abin .geq (.int k a) (.int k b) = some (.bool (decide (b ≤ a))) := by simp [abin, ibin]
theorem cmp_eql (k : IntKind) (a b : Int) : abin .eql (.int k a) (.int k b) = some (.bool (decide (a = b))) := by simp [abin, ibin]; rfl
theorem cmp_neq (k : IntKind) (a b : Int) : abin .neq (.int k a) (.int k b) = some (.bool (!decide (a = b))) := by simp [abin, ibin, bne]; rfl
theorem wrap_i64 {x : Int} (h : -9223372036854775808 ≤ x ∧ x ≤ 9223372036854775807) : IntKind.i64.wrap x = x := by
  simp only [IntKind.wrap, IntKind.bits, IntKind.signed]
  simp
  split <;> omega
theorem take_agg (n : Nat) (cs : List AV) : takeCells true n cs = if n ≤ cs.length then some (.agg (cs.take n)) else none := Eq.trans rfl rfl
theorem take_one (n : Nat) (c : AV) (cs : List AV) : takeCells false n (c :: cs) = some c := Eq.trans rfl rfl
theorem resVals_nil (st : St) : resVals st [] = some [] := Eq.trans rfl rfl
theorem resVals_tmp (st : St) (x : Opd) (r : List ARes) : resVals st (.tmp x :: r) = (resVals st r).map (st.get x :: ·) := Eq.trans rfl rfl
theorem oneOrTup_one (x : AV) : oneOrTup [x] = x := Eq.trans rfl rfl
theorem oneOrTup_nil : oneOrTup [] = .tup [] := Eq.trans rfl rfl
theorem oneOrTup_two (x y : AV) (l : List AV) : oneOrTup (x :: y :: l) = .tup (x :: y :: l) := Eq.trans rfl rfl

theorem cells_int (k : IntKind) (n : Int) : (AV.int k n).cells? = some [.int k n] := Eq.trans rfl rfl
theorem cells_bool (b : Bool) : (AV.bool b).cells? = some [.bool b] := Eq.trans rfl rfl
theorem cells_str (s : ByteArray) : (AV.str s).cells? = some [.str s] := Eq.trans rfl rfl
theorem cells_nils : AV.nils.cells? = some [.nils] := Eq.trans rfl rfl
theorem cells_agg (cs : List AV) : (AV.agg cs).cells? = some cs := Eq.trans rfl rfl
theorem cells_ref (n sz off len : Nat) (cap : Option Nat) : (AV.ref n sz off len cap).cells? = some [.ref n sz off len cap] := Eq.trans rfl rfl
theorem cells_vals (t : Nat) (c : Bool) (sz : Nat) (es : List (List AV)) : (AV.vals t c sz es).cells? = some [.vals t c sz es] := Eq.trans rfl rfl
theorem cells_ptr (n sz i o : Nat) : (AV.ptr n sz i o).cells? = some [.ptr n sz i o] := Eq.trans rfl rfl
theorem cells_of {a : AV} (h : a.scalar = true) : a.cells? = some [a] := by
  cases a <;> first | rfl | simp_all [AV.cells?, AV.scalar]
theorem scalar_int (k : IntKind) (n : Int) : (AV.int k n).scalar = true := Eq.trans rfl rfl
theorem scalar_bool (b : Bool) : (AV.bool b).scalar = true := Eq.trans rfl rfl
theorem scalar_str (s : ByteArray) : (AV.str s).scalar = true := Eq.trans rfl rfl
theorem scalar_nils : AV.nils.scalar = true := Eq.trans rfl rfl
theorem scalar_ref (n sz off len : Nat) (cap : Option Nat) : (AV.ref n sz off len cap).scalar = true := Eq.trans rfl rfl
theorem scalar_vals (t : Nat) (c : Bool) (sz : Nat) (es : List (List AV)) : (AV.vals t c sz es).scalar = true := Eq.trans rfl rfl
theorem scalar_ptr (n sz i o : Nat) : (AV.ptr n sz i o).scalar = true := Eq.trans rfl rfl
theorem afill_nil (cs : List AV) : afill cs [] = some cs := Eq.trans rfl rfl
theorem afill_cons (cs : List AV) (o n : Nat) (x : AV) (r : List (Nat × Nat × AV)) :
    afill cs ((o, n, x) :: r) = x.cells?.bind fun l => if l.length = n ∧ o + n ≤ cs.length then afill (setMany cs o l) r else none := by
  simp only [afill]; generalize x.cells? = q; cases q <;> rfl
theorem setMany_nil (cs : List AV) (o : Nat) : setMany cs o [] = cs := Eq.trans rfl rfl
theorem setMany_cons (cs : List AV) (o : Nat) (c : AV) (r : List AV) : setMany cs o (c :: r) = setMany (cs.set o c) (o + 1) r := Eq.trans rfl rfl
theorem rev_build (g : Opd → AV) (h : AHeap) (z : List AV) (ps : List (Nat × Nat × Opd)) : rev g h (.build z ps) = (afill z (ps.map fun p => (p.1, p.2.1, g p.2.2))).map .agg := Eq.trans rfl rfl
theorem cellsAll_nil (sz : Nat) : cellsAll sz [] = some [] := Eq.trans rfl rfl
theorem cellsAll_cons (sz : Nat) (x : AV) (r : List AV) :
    cellsAll sz (x :: r) = x.cells?.bind fun cs => (cellsAll sz r).bind fun es => if cs.length = sz ∧ cs.all AV.scalar = true then some (cs :: es) else none := by
  simp only [cellsAll]; cases x.cells? <;> cases cellsAll sz r <;> rfl
theorem lightOf_mk (g : Opd → AV) (nm : Nat) (cs : List AV) : lightOf g nm (.mk cs) = some (.ptr nm cs.length 0 0, .arr cs.length [cs] false) := Eq.trans rfl rfl
theorem lightOf_box (g : Opd → AV) (nm : Nat) (x : Opd) :
    lightOf g nm (.box x) = (g x).cells?.bind fun cs => if cs.all AV.scalar = true then some (.ptr nm cs.length 0 0, .arr cs.length [cs] false) else none := by
  simp only [lightOf]; cases (g x).cells? <;> rfl
theorem lightOf_bsl (g : Opd → AV) (nm sz : Nat) (xs : List Opd) :
    lightOf g nm (.bsl sz xs) = (cellsAll sz (xs.map g)).map fun es => (.ref nm sz 0 xs.length (some xs.length), .arr sz es false) := by
  simp only [lightOf]; cases cellsAll sz (xs.map g) <;> rfl
theorem hev_mk (g : Opd → AV) (h : AHeap) (cs : List AV) : hev g h (.mk cs) = some (.ptr h.length cs.length 0 0, h ++ [some (.arr cs.length [cs] false)]) := Eq.trans rfl rfl
theorem hev_box (g : Opd → AV) (h : AHeap) (x : Opd) :
    hev g h (.box x) = (g x).cells?.bind fun cs => if cs.all AV.scalar = true then some (.ptr h.length cs.length 0 0, h ++ [some (.arr cs.length [cs] false)]) else none := by
  simp only [hev, lightOf]; generalize (g x).cells? = q; cases q with
  | none => rfl
  | some cs => simp only [Option.bind_some]; by_cases e : cs.all AV.scalar = true <;> simp [e]
theorem hev_bsl (g : Opd → AV) (h : AHeap) (sz : Nat) (xs : List Opd) :
    hev g h (.bsl sz xs) = (cellsAll sz (xs.map g)).map fun es => (.ref h.length sz 0 xs.length (some xs.length), h ++ [some (.arr sz es false)]) := by
  simp only [hev, lightOf]; generalize cellsAll sz (xs.map g) = q; cases q <;> rfl
theorem hev_store (g : Opd → AV) (h : AHeap) (n : Nat) (a x : Opd) : hev g h (.store n a x) = (astore h n (g a) (g x)).map fun h' => (.top, h') := Eq.trans rfl rfl
theorem hev_app (g : Opd → AV) (h : AHeap) (sz bytes : Nat) (x y : Opd) : hev g h (.app sz bytes x y) = aappend h sz bytes (g x) (g y) := Eq.trans rfl rfl
theorem aappend_of {h : AHeap} {sz : Nat} {y : AV} {ys : List (List AV)} (hy : aelems h sz y = some ys) (bytes : Nat) (x : AV) : aappend h sz bytes x y = aappendY h sz bytes x ys := by
  simp only [aappend, hy]
/-- the elements of a new row -/
theorem aelems_new (h : AHeap) (sz : Nat) (es : List (List AV)) (g : Bool) (cap : Option Nat) {len : Nat} (hl : len = es.length) : aelems (h ++ [some (.arr sz es g)]) sz (.ref h.length sz 0 len cap) = some es := by
  subst hl; simp [aelems]
theorem setMany_all : ∀ (r a : List AV) (cs : List AV), cs.length = r.length → setMany (a ++ cs) a.length r = a ++ r := by
  intro r
  induction r with
  | nil => intro a cs h; simp at h; subst h; rfl
  | cons c r ih =>
    intro a cs h
    cases cs with
    | nil => simp at h
    | cons d cs =>
      simp only [setMany]
      have : (a ++ d :: cs).set a.length c = (a ++ [c]) ++ cs := by simp
      rw [this]
      have := ih (a ++ [c]) cs (by simpa using h)
      simpa using this

/-- an element written over -/
theorem astore_elem {h : AHeap} {n sz j : Nat} {row : List (List AV)} {g : Bool} {cs cs' : List AV} {x : AV} (h7 : h[n]? = some (some (.arr sz row g))) (h8 : row[j]? = some cs)
    (hc : x.cells? = some cs') (hl : cs.length = cs'.length) (hsz : cs'.length = sz) (hs : cs'.all AV.scalar = true) :
    astore h sz (.ptr n sz j 0) x = some (h.set n (some (.arr sz (row.set j cs') g))) := by
  have hj := (List.getElem?_eq_some_iff.1 h8).1
  simp only [astore, h7, hc]
  rw [if_pos ⟨trivial, hsz, by omega, hj, hs⟩]
  have : row.modify j (fun x => setMany x 0 cs') = row.set j cs' := by
    apply List.ext_getElem?
    intro i
    rw [List.getElem?_modify, List.getElem?_set]
    by_cases e : j = i
    · subst e
      have := setMany_all cs' [] cs hl
      simp only [List.nil_append, List.length_nil] at this
      obtain ⟨_, rfl⟩ := List.getElem?_eq_some_iff.1 h8
      simp [hj, this]
    · simp [e]
  rw [this]

def xorv (k : IntKind) (a b : Int) : Int := k.wrap (BitVec.ofInt k.bits a ^^^ BitVec.ofInt k.bits b).toNat
theorem bin_xor (k : IntKind) (a b : Int) : abin .xor (.int k a) (.int k b) = some (.int k (xorv k a b)) := by simp [abin, ibin, xorv]

/-! blocks at the end of the heap -/

def rowGet (b : Option (Option ABlk)) (sz i : Nat) : Option (List AV) :=
  match b with
  | some (some (.arr sz' es _)) => if sz = sz' then es[i]? else none
  | _ => none
theorem rowGet_arr (sz i : Nat) (es : List (List AV)) (g : Bool) : rowGet (some (some (.arr sz es g))) sz i = es[i]? := by simp [rowGet]
theorem aload_ptr (h : AHeap) (agg : Bool) (n m sz i o : Nat) : aload h agg n (.ptr m sz i o) = (rowGet h[m]? sz i).bind fun e => takeCells agg n (e.drop o) := by
  simp only [aload, rowGet]
  split
  · rename_i sz' es g hm
    simp only [hm]
    split <;> rfl
  · rename_i hm
    split
    · rename_i sz' es g hm'; exact absurd hm' (hm _ _ _)
    · rfl
theorem afield_ptr (o m sz i o' : Nat) : afield o (.ptr m sz i o') = some (.ptr m sz i (o' + o)) := Eq.trans rfl rfl
theorem achk_ptr (m sz i o : Nat) : achk (.ptr m sz i o) = some (.ptr m sz i o) := Eq.trans rfl rfl
def stRow (h : AHeap) (m n sz i o : Nat) (cs : List AV) (b : Option (Option ABlk)) : Option AHeap :=
  match b with
  | some (some (.arr sz' es g)) => if sz = sz' ∧ cs.length = n ∧ o + n ≤ sz ∧ i < es.length ∧ cs.all AV.scalar = true then some (h.set m (some (.arr sz (es.modify i (setMany · o cs)) g))) else none
  | _ => none
theorem astore_ptr (h : AHeap) (n m sz i o : Nat) (x : AV) : astore h n (.ptr m sz i o) x = x.cells?.bind fun cs => stRow h m n sz i o cs h[m]? := by
  simp only [astore]
  generalize hb : h[m]? = b
  generalize hc : x.cells? = c
  cases c with
  | none => cases b with
    | none => rfl
    | some b => cases b with
      | none => rfl
      | some b => cases b <;> rfl
  | some cs => cases b with
    | none => rfl
    | some b => cases b with
      | none => rfl
      | some b => cases b <;> rfl
theorem stRow_arr (h : AHeap) (m n sz i o : Nat) (cs : List AV) (es : List (List AV)) (g : Bool) :
    stRow h m n sz i o cs (some (some (.arr sz es g))) = if cs.length = n ∧ o + n ≤ sz ∧ i < es.length ∧ cs.all AV.scalar = true then some (h.set m (some (.arr sz (es.modify i (setMany · o cs)) g))) else none := by
  simp [stRow]
theorem modify_one (e : List AV) (f : List AV → List AV) : [e].modify 0 f = [f e] := Eq.trans rfl rfl
theorem bx10 (h : AHeap) (x : Option ABlk) : (h ++ [x])[h.length]? = some x := by
  rw [show h ++ [x] = h ++ [x] by simp, show h.length = h.length + 0 from rfl, List.getElem?_append_right (Nat.le_add_right _ _), Nat.add_sub_cancel_left]; rfl
theorem sx10 (h : AHeap) (x x' : Option ABlk) : (h ++ [x]).set (h.length) x' = h ++ [x'] := by
  rw [show h ++ [x] = h ++ [x] by simp, show h.length = h.length + 0 from rfl, List.set_append_right _ _ (Nat.le_add_right _ _), Nat.add_sub_cancel_left]; simp
theorem bx20 (h : AHeap) (x y : Option ABlk) : (h ++ [x] ++ [y])[h.length]? = some x := by
  rw [show h ++ [x] ++ [y] = h ++ [x, y] by simp, show h.length = h.length + 0 from rfl, List.getElem?_append_right (Nat.le_add_right _ _), Nat.add_sub_cancel_left]; rfl
theorem sx20 (h : AHeap) (x y x' : Option ABlk) : (h ++ [x] ++ [y]).set (h.length) x' = h ++ [x'] ++ [y] := by
  rw [show h ++ [x] ++ [y] = h ++ [x, y] by simp, show h.length = h.length + 0 from rfl, List.set_append_right _ _ (Nat.le_add_right _ _), Nat.add_sub_cancel_left]; simp
theorem bx21 (h : AHeap) (x y : Option ABlk) : (h ++ [x] ++ [y])[h.length + 1]? = some y := by
  rw [show h ++ [x] ++ [y] = h ++ [x, y] by simp, show h.length + 1 = h.length + 1 from rfl, List.getElem?_append_right (Nat.le_add_right _ _), Nat.add_sub_cancel_left]; rfl
theorem sx21 (h : AHeap) (x y y' : Option ABlk) : (h ++ [x] ++ [y]).set (h.length + 1) y' = h ++ [x] ++ [y'] := by
  rw [show h ++ [x] ++ [y] = h ++ [x, y] by simp, show h.length + 1 = h.length + 1 from rfl, List.set_append_right _ _ (Nat.le_add_right _ _), Nat.add_sub_cancel_left]; simp
theorem bx30 (h : AHeap) (x y z : Option ABlk) : (h ++ [x] ++ [y] ++ [z])[h.length]? = some x := by
  rw [show h ++ [x] ++ [y] ++ [z] = h ++ [x, y, z] by simp, show h.length = h.length + 0 from rfl, List.getElem?_append_right (Nat.le_add_right _ _), Nat.add_sub_cancel_left]; rfl
theorem sx30 (h : AHeap) (x y z x' : Option ABlk) : (h ++ [x] ++ [y] ++ [z]).set (h.length) x' = h ++ [x'] ++ [y] ++ [z] := by
  rw [show h ++ [x] ++ [y] ++ [z] = h ++ [x, y, z] by simp, show h.length = h.length + 0 from rfl, List.set_append_right _ _ (Nat.le_add_right _ _), Nat.add_sub_cancel_left]; simp
theorem bx31 (h : AHeap) (x y z : Option ABlk) : (h ++ [x] ++ [y] ++ [z])[h.length + 1]? = some y := by
  rw [show h ++ [x] ++ [y] ++ [z] = h ++ [x, y, z] by simp, show h.length + 1 = h.length + 1 from rfl, List.getElem?_append_right (Nat.le_add_right _ _), Nat.add_sub_cancel_left]; rfl
theorem sx31 (h : AHeap) (x y z y' : Option ABlk) : (h ++ [x] ++ [y] ++ [z]).set (h.length + 1) y' = h ++ [x] ++ [y'] ++ [z] := by
  rw [show h ++ [x] ++ [y] ++ [z] = h ++ [x, y, z] by simp, show h.length + 1 = h.length + 1 from rfl, List.set_append_right _ _ (Nat.le_add_right _ _), Nat.add_sub_cancel_left]; simp
theorem bx32 (h : AHeap) (x y z : Option ABlk) : (h ++ [x] ++ [y] ++ [z])[h.length + 1 + 1]? = some z := by
  rw [show h ++ [x] ++ [y] ++ [z] = h ++ [x, y, z] by simp, show h.length + 1 + 1 = h.length + 2 from rfl, List.getElem?_append_right (Nat.le_add_right _ _), Nat.add_sub_cancel_left]; rfl
theorem sx32 (h : AHeap) (x y z z' : Option ABlk) : (h ++ [x] ++ [y] ++ [z]).set (h.length + 1 + 1) z' = h ++ [x] ++ [y] ++ [z'] := by
  rw [show h ++ [x] ++ [y] ++ [z] = h ++ [x, y, z] by simp, show h.length + 1 + 1 = h.length + 2 from rfl, List.set_append_right _ _ (Nat.le_add_right _ _), Nat.add_sub_cancel_left]; simp
theorem bx40 (h : AHeap) (x y z u : Option ABlk) : (h ++ [x] ++ [y] ++ [z] ++ [u])[h.length]? = some x := by
  rw [show h ++ [x] ++ [y] ++ [z] ++ [u] = h ++ [x, y, z, u] by simp, show h.length = h.length + 0 from rfl, List.getElem?_append_right (Nat.le_add_right _ _), Nat.add_sub_cancel_left]; rfl
theorem sx40 (h : AHeap) (x y z u x' : Option ABlk) : (h ++ [x] ++ [y] ++ [z] ++ [u]).set (h.length) x' = h ++ [x'] ++ [y] ++ [z] ++ [u] := by
  rw [show h ++ [x] ++ [y] ++ [z] ++ [u] = h ++ [x, y, z, u] by simp, show h.length = h.length + 0 from rfl, List.set_append_right _ _ (Nat.le_add_right _ _), Nat.add_sub_cancel_left]; simp
theorem bx41 (h : AHeap) (x y z u : Option ABlk) : (h ++ [x] ++ [y] ++ [z] ++ [u])[h.length + 1]? = some y := by
  rw [show h ++ [x] ++ [y] ++ [z] ++ [u] = h ++ [x, y, z, u] by simp, show h.length + 1 = h.length + 1 from rfl, List.getElem?_append_right (Nat.le_add_right _ _), Nat.add_sub_cancel_left]; rfl
theorem sx41 (h : AHeap) (x y z u y' : Option ABlk) : (h ++ [x] ++ [y] ++ [z] ++ [u]).set (h.length + 1) y' = h ++ [x] ++ [y'] ++ [z] ++ [u] := by
  rw [show h ++ [x] ++ [y] ++ [z] ++ [u] = h ++ [x, y, z, u] by simp, show h.length + 1 = h.length + 1 from rfl, List.set_append_right _ _ (Nat.le_add_right _ _), Nat.add_sub_cancel_left]; simp
theorem bx42 (h : AHeap) (x y z u : Option ABlk) : (h ++ [x] ++ [y] ++ [z] ++ [u])[h.length + 1 + 1]? = some z := by
  rw [show h ++ [x] ++ [y] ++ [z] ++ [u] = h ++ [x, y, z, u] by simp, show h.length + 1 + 1 = h.length + 2 from rfl, List.getElem?_append_right (Nat.le_add_right _ _), Nat.add_sub_cancel_left]; rfl
theorem sx42 (h : AHeap) (x y z u z' : Option ABlk) : (h ++ [x] ++ [y] ++ [z] ++ [u]).set (h.length + 1 + 1) z' = h ++ [x] ++ [y] ++ [z'] ++ [u] := by
  rw [show h ++ [x] ++ [y] ++ [z] ++ [u] = h ++ [x, y, z, u] by simp, show h.length + 1 + 1 = h.length + 2 from rfl, List.set_append_right _ _ (Nat.le_add_right _ _), Nat.add_sub_cancel_left]; simp
theorem bx43 (h : AHeap) (x y z u : Option ABlk) : (h ++ [x] ++ [y] ++ [z] ++ [u])[h.length + 1 + 1 + 1]? = some u := by
  rw [show h ++ [x] ++ [y] ++ [z] ++ [u] = h ++ [x, y, z, u] by simp, show h.length + 1 + 1 + 1 = h.length + 3 from rfl, List.getElem?_append_right (Nat.le_add_right _ _), Nat.add_sub_cancel_left]; rfl
theorem sx43 (h : AHeap) (x y z u u' : Option ABlk) : (h ++ [x] ++ [y] ++ [z] ++ [u]).set (h.length + 1 + 1 + 1) u' = h ++ [x] ++ [y] ++ [z] ++ [u'] := by
  rw [show h ++ [x] ++ [y] ++ [z] ++ [u] = h ++ [x, y, z, u] by simp, show h.length + 1 + 1 + 1 = h.length + 3 from rfl, List.set_append_right _ _ (Nat.le_add_right _ _), Nat.add_sub_cancel_left]; simp
theorem bx50 (h : AHeap) (x y z u v : Option ABlk) : (h ++ [x] ++ [y] ++ [z] ++ [u] ++ [v])[h.length]? = some x := by
  rw [show h ++ [x] ++ [y] ++ [z] ++ [u] ++ [v] = h ++ [x, y, z, u, v] by simp, show h.length = h.length + 0 from rfl, List.getElem?_append_right (Nat.le_add_right _ _), Nat.add_sub_cancel_left]; rfl
theorem sx50 (h : AHeap) (x y z u v x' : Option ABlk) : (h ++ [x] ++ [y] ++ [z] ++ [u] ++ [v]).set (h.length) x' = h ++ [x'] ++ [y] ++ [z] ++ [u] ++ [v] := by
  rw [show h ++ [x] ++ [y] ++ [z] ++ [u] ++ [v] = h ++ [x, y, z, u, v] by simp, show h.length = h.length + 0 from rfl, List.set_append_right _ _ (Nat.le_add_right _ _), Nat.add_sub_cancel_left]; simp
theorem bx51 (h : AHeap) (x y z u v : Option ABlk) : (h ++ [x] ++ [y] ++ [z] ++ [u] ++ [v])[h.length + 1]? = some y := by
  rw [show h ++ [x] ++ [y] ++ [z] ++ [u] ++ [v] = h ++ [x, y, z, u, v] by simp, show h.length + 1 = h.length + 1 from rfl, List.getElem?_append_right (Nat.le_add_right _ _), Nat.add_sub_cancel_left]; rfl
theorem sx51 (h : AHeap) (x y z u v y' : Option ABlk) : (h ++ [x] ++ [y] ++ [z] ++ [u] ++ [v]).set (h.length + 1) y' = h ++ [x] ++ [y'] ++ [z] ++ [u] ++ [v] := by
  rw [show h ++ [x] ++ [y] ++ [z] ++ [u] ++ [v] = h ++ [x, y, z, u, v] by simp, show h.length + 1 = h.length + 1 from rfl, List.set_append_right _ _ (Nat.le_add_right _ _), Nat.add_sub_cancel_left]; simp
theorem bx52 (h : AHeap) (x y z u v : Option ABlk) : (h ++ [x] ++ [y] ++ [z] ++ [u] ++ [v])[h.length + 1 + 1]? = some z := by
  rw [show h ++ [x] ++ [y] ++ [z] ++ [u] ++ [v] = h ++ [x, y, z, u, v] by simp, show h.length + 1 + 1 = h.length + 2 from rfl, List.getElem?_append_right (Nat.le_add_right _ _), Nat.add_sub_cancel_left]; rfl
theorem sx52 (h : AHeap) (x y z u v z' : Option ABlk) : (h ++ [x] ++ [y] ++ [z] ++ [u] ++ [v]).set (h.length + 1 + 1) z' = h ++ [x] ++ [y] ++ [z'] ++ [u] ++ [v] := by
  rw [show h ++ [x] ++ [y] ++ [z] ++ [u] ++ [v] = h ++ [x, y, z, u, v] by simp, show h.length + 1 + 1 = h.length + 2 from rfl, List.set_append_right _ _ (Nat.le_add_right _ _), Nat.add_sub_cancel_left]; simp
theorem bx53 (h : AHeap) (x y z u v : Option ABlk) : (h ++ [x] ++ [y] ++ [z] ++ [u] ++ [v])[h.length + 1 + 1 + 1]? = some u := by
  rw [show h ++ [x] ++ [y] ++ [z] ++ [u] ++ [v] = h ++ [x, y, z, u, v] by simp, show h.length + 1 + 1 + 1 = h.length + 3 from rfl, List.getElem?_append_right (Nat.le_add_right _ _), Nat.add_sub_cancel_left]; rfl
theorem sx53 (h : AHeap) (x y z u v u' : Option ABlk) : (h ++ [x] ++ [y] ++ [z] ++ [u] ++ [v]).set (h.length + 1 + 1 + 1) u' = h ++ [x] ++ [y] ++ [z] ++ [u'] ++ [v] := by
  rw [show h ++ [x] ++ [y] ++ [z] ++ [u] ++ [v] = h ++ [x, y, z, u, v] by simp, show h.length + 1 + 1 + 1 = h.length + 3 from rfl, List.set_append_right _ _ (Nat.le_add_right _ _), Nat.add_sub_cancel_left]; simp
theorem bx54 (h : AHeap) (x y z u v : Option ABlk) : (h ++ [x] ++ [y] ++ [z] ++ [u] ++ [v])[h.length + 1 + 1 + 1 + 1]? = some v := by
  rw [show h ++ [x] ++ [y] ++ [z] ++ [u] ++ [v] = h ++ [x, y, z, u, v] by simp, show h.length + 1 + 1 + 1 + 1 = h.length + 4 from rfl, List.getElem?_append_right (Nat.le_add_right _ _), Nat.add_sub_cancel_left]; rfl
theorem sx54 (h : AHeap) (x y z u v v' : Option ABlk) : (h ++ [x] ++ [y] ++ [z] ++ [u] ++ [v]).set (h.length + 1 + 1 + 1 + 1) v' = h ++ [x] ++ [y] ++ [z] ++ [u] ++ [v'] := by
  rw [show h ++ [x] ++ [y] ++ [z] ++ [u] ++ [v] = h ++ [x, y, z, u, v] by simp, show h.length + 1 + 1 + 1 + 1 = h.length + 4 from rfl, List.set_append_right _ _ (Nat.le_add_right _ _), Nat.add_sub_cancel_left]; simp
theorem bx1 (h : AHeap) (x : Option ABlk) : (h ++ [x])[h.length]? = some x := by simp
theorem len_app1 (h : AHeap) (x : Option ABlk) : (h ++ [x]).length = h.length + 1 := by simp
theorem resVals_cell (st : St) (x : Opd) (agg : Bool) (n : Nat) (r : List ARes) : resVals st (.cell x agg n :: r) = (aload st.h agg n (st.get x)).bind fun v => (resVals st r).map (v :: ·) := by
  simp only [resVals]; cases aload st.h agg n (st.get x) <;> cases resVals st r <;> rfl
theorem Ext.b1 {h : AHeap} (x : Option ABlk) : Ext nof h (h ++ [x]) := Ext.app _ _ _
theorem Ext.b2 {h : AHeap} (x y : Option ABlk) : Ext nof h (h ++ [x] ++ [y]) := (Ext.app nof h [x]).tr (Ext.app _ _ _)
theorem Ext.b3 {h : AHeap} (x y z : Option ABlk) : Ext nof h (h ++ [x] ++ [y] ++ [z]) := (Ext.b2 x y).tr (Ext.app _ _ _)
theorem Ext.b4 {h : AHeap} (x y z u : Option ABlk) : Ext nof h (h ++ [x] ++ [y] ++ [z] ++ [u]) := (Ext.b3 x y z).tr (Ext.app _ _ _)
theorem Ext.bx {h : AHeap} (x : Option ABlk) : Ext nof h (h ++ [x]) := Ext.app _ _ _
theorem Ext.box {h h' : AHeap} (e : Ext nof h h') (x : Option ABlk) : Ext nof h (h' ++ [x]) := e.tr (Ext.app _ _ _)

theorem Rd.scalar {F h} : ∀ {d : D} {a : AV}, Rd F h d a → a.scalar = true := by
  intro d a hh
  cases d with
  | int k n => simp only [Rd] at hh; subst hh; rfl
  | bool b => simp only [Rd] at hh; subst hh; rfl
  | str s => simp only [Rd] at hh; subst hh; rfl
  | sl sz ds =>
    simp only [Rd] at hh
    obtain ⟨es, (⟨rfl, _⟩ | ⟨t, c, rfl⟩ | ⟨n, off, len, cap, row, g, rfl, _⟩), _⟩ := hh <;> rfl
theorem rep1 (x : Option ABlk) : List.replicate 1 x = [x] := Eq.trans rfl rfl
theorem rep2 (h : AHeap) (x : Option ABlk) : h ++ List.replicate 2 x = h ++ [x] ++ [x] := by simp [List.replicate]
theorem rep3 (h : AHeap) (x : Option ABlk) : h ++ List.replicate 3 x = h ++ [x] ++ [x] ++ [x] := by simp [List.replicate]
theorem rep4 (h : AHeap) (x : Option ABlk) : h ++ List.replicate 4 x = h ++ [x] ++ [x] ++ [x] ++ [x] := by simp [List.replicate]
theorem loose_one (dep : Nat → Nat → Bool) (i j n : Nat) (b : ABlk) : loose' dep i [(j, n, b)] = if dep i j = true then [] else [(j, n, b)] := by
  simp only [loose', List.filter_cons, List.filter_nil]; cases dep i j <;> rfl
theorem loose_cons (dep : Nat → Nat → Bool) (i j n : Nat) (b : ABlk) (r : List (Nat × Nat × ABlk)) : loose' dep i ((j, n, b) :: r) = if dep i j = true then loose' dep i r else (j, n, b) :: loose' dep i r := by
  simp only [loose', List.filter_cons]; cases dep i j <;> rfl
theorem mdep_eval (masks : List Nat) (i j : Nat) : mdep masks i j = decide (masks.getD i 0 / 2 ^ j % 2 = 1) := by
  simp only [mdep, Nat.testBit_eq_decide_div_mod_eq]
theorem freeR_one (dep : Nat → Nat → Bool) (lo i : Nat) (l : List (Nat × Nat × ABlk)) (h : AHeap) :
    freeR dep lo 1 i l h = ((l.any fun x => dep i x.1 && x.2.1 == lo) || isFree h[lo]?) := by simp [freeR]
theorem freeR_two (dep : Nat → Nat → Bool) (lo i : Nat) (l : List (Nat × Nat × ABlk)) (h : AHeap) :
    freeR dep lo 2 i l h = (((l.any fun x => dep i x.1 && x.2.1 == lo) || isFree h[lo]?) && ((l.any fun x => dep i x.1 && x.2.1 == lo + 1) || isFree h[lo + 1]?)) := by
  simp [freeR, List.range_succ]
theorem freeR_zero (dep : Nat → Nat → Bool) (lo i : Nat) (l : List (Nat × Nat × ABlk)) (h : AHeap) : freeR dep lo 0 i l h = true := by simp [freeR]
theorem isFree_none : isFree (some none) = true := Eq.trans rfl rfl
theorem pup {h h' : AHeap} {p : AV} {cs : List AV} (hp : pcells h p = some cs) (e : Ext nof h h') : pcells h' p = some cs := by
  cases p with
  | ptr m sz i o => exact pcells_keep (F := fun _ => True) (e.keep _) trivial hp
  | vptr t cs' => exact hp
  | _ => simp [pcells] at hp
theorem notRes_of {h : AHeap} {p : AV} {cs : List AV} (hp : pcells h p = some cs) (k o : Nat) : notRes h.length k (poff o p) = true := by
  cases p with
  | ptr m sz i o' =>
    simp only [pcells] at hp
    split at hp
    · rename_i hm
      have := (List.getElem?_eq_some_iff.1 hm).1
      simp [poff, notRes, this]
    · cases hp
  | vptr t cs' => rfl
  | _ => simp [pcells] at hp
theorem notRes_of0 {h : AHeap} {p : AV} {cs : List AV} (hp : pcells h p = some cs) (k : Nat) : notRes h.length k p = true := by
  have := notRes_of hp k 0
  cases p <;> simp_all [poff, notRes]
theorem aelems_at {h : AHeap} {m sz : Nat} {es : List (List AV)} {g : Bool} (hb : h[m]? = some (some (.arr sz es g))) (cap : Option Nat) {len : Nat} (hl : len = es.length) : aelems h sz (.ref m sz 0 len cap) = some es := by
  subst hl; simp [aelems, hb]
theorem Ext.above {F : Nat → Prop} {h h2 : AHeap} (e : Ext F h h2) (hF : ∀ m, m < h.length → ¬ F m) : Ext nof h h2 := ⟨e.1, fun m hm _ => e.2 m hm (hF m hm)⟩
theorem Ext.then {F : Nat → Prop} {h h1 h2 : AHeap} (e : Ext nof h h1) (e' : Ext F h1 h2) (hF : ∀ m, m < h.length → ¬ F m) : Ext nof h h2 := e.trans e' (fun _ _ x => x) (fun m hm hm' => hF m hm hm')
/-- cells that are numbers are one's own -/
theorem own_ints {F F' : Nat → Prop} {h h' : AHeap} {k : IntKind} : ∀ {l : List Int} {ys : List (List AV)}, RdLL F h (l.map fun n => [.int k n]) ys → OwnLL (l.map fun n => [.int k n]) F' h' ys := by
  intro l
  induction l with
  | nil => intro ys hh; exact hh
  | cons n l ih =>
    intro ys hh
    simp only [List.map_cons, RdLL, RdL, Rd] at hh
    obtain ⟨_, r, rfl, ⟨_, _, rfl, rfl, rfl⟩, h2⟩ := hh
    simp only [List.map_cons, OwnLL, OwnL, Own]
    exact ⟨_, _, rfl, ⟨_, _, rfl, rfl, rfl⟩, ih h2⟩
theorem Ext.setNew {h h2 : AHeap} {n : Nat} (e : Ext nof h h2) (hn : h.length ≤ n) (x : Option ABlk) : Ext nof h (h2.set n x) :=
  e.trans (Ext.set (F := fun m => h.length ≤ m) x (fun _ => hn)) (fun _ _ x => x) (fun m hm hm' => by omega)
theorem Rd.up {F h h' d a} (hh : Rd F h d a) (e : Ext nof h h') : Rd F h' d a := Rd.mono (fun _ x => x) (e.keep F) _ _ hh
theorem RdL.up {F h h' d a} (hh : RdL F h d a) (e : Ext nof h h') : RdL F h' d a := RdL.mono (fun _ x => x) (e.keep F) _ _ hh
theorem Own.up {F h h'} {d : D} {a} (hh : Own d F h a) (e : Ext nof h h') : Own d F h' a := Own.mono d (fun _ x => x) (e.keep F) _ hh
theorem Own.scalar {F h} {d : D} {a : AV} (hh : Own d F h a) : a.scalar = true := (Own.rd d (F' := F) (fun _ x => x) a hh).scalar

attribute [go_sem] List.replicate_zero List.append_nil List.map_cons List.map_nil Option.map_some List.nil_append vc_skip vc_ret vc_exit vc_reg vc_seq vc_block vc_cond vc_dreg kSeq_normal kSeq_exit kSeq_ret kBlk_normal kBlk_exit kBlk_ret kReg_mk kN_mk kLoop_normal kLoop_exit kLoop_ret vcOps_nil vcOps_r vcOps_h vcOps_call vcOps_callv vcOps_guard oR_some oH_some kPut_none kPut_loc kPut_tmp kPutH_none kPutH_loc kPutH_tmp get_loc get_tmp get_cst lk_nil lk_cons lk_ins wGuard_true wGuard_false wGuard_tf wGuard_ft wGuard_tup put_none put_loc put_tmp wCond_true wCond_false wCallv_clo atEnd_ret atEnd_normal kDN_mk finL_nil finL_cons vcD_nil vcD_mov vcD_pick vcD_build vcD_chk vcD_bin vcD_beq vcD_nileq vcD_not vcD_neg vcD_conv vcD_slc vcD_off vcD_idx vcD_ext vcD_len vcD_slen vcD_mnmx vcD_clo vcD_xop vcD_load vcD_light vcD_h vcD_call vcD_callv vcD_guard oL_some kDv_mk kDl_mk kDL_mk notRes_zero dget_loc dget_tmp dget_cst val_mk again_nil again_cons wDGuard_true wDGuard_false wDGuard_tf wDGuard_ft wDGuard_tup rev_mov rev_slc aslc_some optInt_none optInt_one optInt1_int rev_load rev_bin rev_len rev_off rev_idx rev_pick apick_bool rev_not anot_bool rev_ext aext_tup rev_beq abeq_eql abeq_neq rev_chk rev_conv aconv_int rev_neg aneg_int add64 sub64 mul64 cmp_lss cmp_leq cmp_gtr cmp_geq cmp_eql cmp_neq take_one resVals_nil resVals_tmp oneOrTup_one oneOrTup_nil oneOrTup_two cells_int cells_bool cells_str cells_nils cells_agg cells_ref cells_vals cells_ptr scalar_int scalar_bool scalar_str scalar_nils scalar_ref scalar_vals scalar_ptr afill_nil afill_cons setMany_nil setMany_cons rev_build cellsAll_nil cellsAll_cons lightOf_mk lightOf_box lightOf_bsl hev_mk hev_box hev_bsl hev_store hev_app bin_xor rowGet_arr aload_ptr afield_ptr achk_ptr astore_ptr stRow_arr modify_one bx10 bx20 bx21 bx30 bx31 bx32 bx40 bx41 bx42 bx43 bx50 bx51 bx52 bx53 bx54 sx10 sx20 sx21 sx30 sx31 sx32 sx40 sx41 sx42 sx43 sx50 sx51 sx52 sx53 sx54 len_app1 resVals_cell List.getElem?_set Nat.left_eq_add Nat.zero_lt_one Nat.lt_add_one Nat.add_eq_left Nat.add_left_cancel_iff Nat.add_right_cancel_iff rep1 rep2 rep3 rep4 loose_one mdep_eval freeR_one freeR_two isFree_none loose_nil hideL_nil showL_nil kDB_mk Nat.add_zero List.getD_cons_zero List.getD_cons_succ List.any_nil List.any_cons Bool.false_or Bool.or_false Bool.true_and Bool.and_true Bool.true_or beq_self_eq_true true_or or_true freeR_zero take_agg List.drop_succ_cons List.drop_zero List.take_succ_cons List.take_zero List.length_cons List.length_nil List.set_cons_zero List.set_cons_succ List.getElem?_cons_zero List.getElem?_cons_succ Option.bind_some and_true true_and and_self if_true List.all_cons List.all_nil Bool.and_true Bool.and_self Bool.false_eq_true if_false Bool.not_true Bool.not_false

end Glb
