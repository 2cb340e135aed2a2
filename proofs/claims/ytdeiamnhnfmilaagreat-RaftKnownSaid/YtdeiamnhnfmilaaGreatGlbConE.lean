/-
  A library of its own: its parts, one behind the other.
-/
import Derived.Test.YtdeiamnhnfmilaaGreatGlbInA
import Derived.Test.YtdeiamnhnfmilaaGreatGlbImgD
import Derived.Test.YtdeiamnhnfmilaaGreatGlbConA
import Derived.Test.YtdeiamnhnfmilaaGreatGlbImgA
import Derived.Test.YtdeiamnhnfmilaaGreatGlbCconfof
import Derived.Test.YtdeiamnhnfmilaaGreatGlbConD
import Derived.Test.YtdeiamnhnfmilaaGreatGlbGetA
import Derived.Test.YtdeiamnhnfmilaaGreatGlbImgK
import Derived.Test.YtdeiamnhnfmilaaGreatGlbLibD
import Derived.Test.YtdeiamnhnfmilaaGreatGlbLibB
import Derived.Test.YtdeiamnhnfmilaaGreatGlbImgE
import Derived.Test.YtdeiamnhnfmilaaGreatGlbLibE
set_option linter.unusedSimpArgs false
set_option linter.unusedVariables false
namespace Glb
open Go
open Nat (reduceAdd reduceDiv reduceEqDiff reduceLeDiff reduceMod reducePow)
set_option maxRecDepth 10000
set_option maxHeartbeats 8000000
theorem endI_normal (Kn : AHeap -> Prop) (Ks : AX -> AHeap -> Prop) (st : St) : atEndI Kn Ks .normal ⟨none, false, st⟩ = Kn st.h := by simp [atEndI]
theorem endI_ret (Kn : AHeap -> Prop) (Ks : AX -> AHeap -> Prop) (x : AX) (st : St) : atEndI Kn Ks .ret ⟨some x, false, st⟩ = Ks x st.h := by simp [atEndI]
def BackItOk (P : Program) (f : FuncId) : Prop := isFn P f = true /\ ∀ (Y : Yl) (J : Nat -> AHeap -> Prop) (Ks : AX -> AHeap -> Prop) (G : Nat -> Prop) (h : AHeap) (nb : Nat) (a : AV) (l : List Entry),
 (∀ avs h (R R' : Option AX -> AHeap -> Prop), (∀ j h, R j h -> R' j h) -> Y avs h R -> Y avs h R') -> l.length <= 2^40 -> J l.length h ->
 (∀ k h', J k h' -> h'[nb]? = some (some (.arr 1 [[a]] false)) /\ Rd G h' (dEntries l) a) ->
 (∀ k h' d (R : Option AX -> AHeap -> Prop) (hk : k < l.length), J (k + 1) h' -> Rd G h' (dBytes l[k].data) d -> (∀ h2, J k h2 -> R none h2) -> (∀ x h2, Ks x h2 -> R (some x) h2) -> Y [.int .i64 k, .agg [.int .i64 l[k].term, .int .i64 l[k].kind, d]] h' R) ->
 AIter P f [.ptr nb 1 0 0] h Y (J 0) Ks
theorem backit_ok {P : Program} {f : FuncId} (hf : IsR P true f y_slices_Backward_api_Entry_api_Entry_f1) : BackItOk P f := by
 refine ⟨hf.1, fun Y J Ks G h nb a l hY hl hJ0 hJ hB => riter_sound hf.2 rfl (Nat.le_of_ble_eq_true rfl) fun y => ?_⟩
 show rvc P y Y y_slices_Backward_api_Entry_api_Entry_f1.code ⟨none, false, ⟨[(0, .raw (.func (.yield y) #[] #[])), (1, .ptr nb 1 0 0)], [], h⟩⟩ (atEndI (J 0) Ks)
 obtain ⟨b1, hr⟩ := hJ _ h hJ0
 have la : alen a = some (.int .i64 l.length) := by have := hr.len; simpa [dEntries] using this
 have e0 : IntKind.i64.wrap ((l.length : Int) - 1) = l.length - 1 := wrap_i64 (by omega)
 simp only [y_slices_Backward_api_Entry_api_Entry_f1, go_sem, reduceEqDiff, b1, la, e0]
 obtain ⟨I, hI⟩ : ∃ I : Nat -> Env -> AHeap -> Prop, ∀ m L h', I m L h' ↔ lk 0 L = .raw (.func (.yield y) #[] #[]) /\ lk 1 L = .ptr nb 1 0 0 /\ lk 3 L = .int .i64 (m - 1) /\ J m h' /\ m <= l.length := ⟨_, fun _ _ _ => Iff.rfl⟩
 refine rvc_loop hY I l.length ((hI _ _ _).2 ⟨by simp [lk_ins, lk_cons], by simp [lk_ins, lk_cons], by simp [lk_ins], hJ0, by omega⟩) ?_
 intro m L h' hh
 obtain ⟨k0, k1, k3, hJk, hk⟩ := (hI _ _ _).1 hh
 obtain ⟨b1, hr⟩ := hJ m h' hJk
 simp only [go_sem, k3]
 refine wCond_split (fun ck => ?_) (fun ck => ?_)
 ·simp at ck
  obtain ⟨k, rfl⟩ : ∃ k, m = k + 1 := ⟨m - 1, by omega⟩
  have hkl : k < l.length := by omega
  have ek : ((k + 1 : Nat) : Int) - 1 = k := by omega
  have e1 : IntKind.i64.wrap ((k : Int) - 1) = k - 1 := wrap_i64 (by omega)
  rw [ek] at k3
  obtain ⟨p, cs, i1, i2, i3⟩ := Rd.index hr .i64 (i := (k : Int)) (d := l[k].c) (by omega) (by rw [show ((k : Int)).toNat = k by omega, List.getElem?_map, List.getElem?_eq_getElem hkl]; rfl)
  obtain ⟨d, rfl, hd⟩ := rd_entry i3
  have ld : aload h' true 3 p = some (.agg [.int .i64 l[k].term, .int .i64 l[k].kind, d]) := by rw [aload_p i2]; rfl
  simp only [go_sem, reduceEqDiff, k0, k1, k3, b1, i1, ld]
  refine hB k h' d _ hkl hJk hd ?_ ?_
  ·intro h2 hj2
   simp only [go_sem, reduceEqDiff, Option.isNone_none, Bool.not_true, k3, e1]
   exact ⟨k, by omega, (hI _ _ _).2 ⟨by simp [lk_ins, k0], by simp [lk_ins, k1], by simp [lk_ins], hj2, by omega⟩⟩
  ·intro x h2 hk2
   simp only [go_sem, Option.isNone_some, Bool.not_false, endI_ret]
   exact hk2
 ·simp at ck
  have : m = 0 := by omega
  subst this
  simp only [go_sem, endI_normal]
  exact hJk
def confBack (l : List Entry) : Nat -> Option (Conf × Nat)
 | 0 => none
 | k + 1 => match l[k]? with
  | none => confBack l k
  | some e => if e.kind = 2 /\ (getConf e.data).2 = 0 then some ((getConf e.data).1, k) else confBack l k
def Hard.ofN (x : Hard) (k : Nat) : Conf × Int := match confBack x.log.es k with
 | none => (x.conf, x.log.base)
 | some (c, k) => (c, x.log.base + 1 + k)
def Hard.of (x : Hard) : Conf × Int := x.ofN x.log.es.length
theorem Hard.ofN_step {x : Hard} {k : Nat} (hk : k < x.log.es.length) : x.ofN (k + 1) = if x.log.es[k].kind = 2 /\ (getConf x.log.es[k].data).2 = 0 then ((getConf x.log.es[k].data).1, x.log.base + 1 + k) else x.ofN k := by
 have e1 : confBack x.log.es (k + 1) = if x.log.es[k].kind = 2 /\ (getConf x.log.es[k].data).2 = 0 then some ((getConf x.log.es[k].data).1, k) else confBack x.log.es k := by rw [confBack, List.getElem?_eq_getElem hk]
 unfold Hard.ofN
 rw [e1]
 by_cases c : x.log.es[k].kind = 2 /\ (getConf x.log.es[k].data).2 = 0
 ·rw [if_pos c, if_pos c]
 ·rw [if_neg c, if_neg c]
structure Hard.ofR (x : Hard) : Prop where
 base : 0 <= x.log.base /\ x.log.base <= 2^41
 len : x.log.es.length <= 2^40
 data : ∀ e ∈ x.log.es, bytesOk e.data /\ e.data.length <= 2^37
 conf : x.conf.few (2^40)
def OfOk (P : Program) (f : FuncId) : Prop := isFn P f = true /\ ∀ (G : Nat -> Prop) (h : AHeap) (x : Hard) (ags : List AV), RdL G h x.c ags -> x.ofR ->
 ACalls P f [.agg ags] h fun r h' => ∃ cs, r = .tup [.agg cs, .int .i64 x.of.2] /\ OwnL x.of.1.c (fun m => h.length <= m) h' cs /\ Ext nof h h'
def BackOk (P : Program) (f sf : FuncId) : Prop := isFn P f = true /\ ∀ (h : AHeap) (a : AV), a.scalar = true -> ACalls P f [a] h fun r h' => r = .clo sf [] [.ptr h.length 1 0 0] /\ h'[h.length]? = some (some (.arr 1 [[a]] false)) /\ Ext nof h h'
theorem back_ok16 {P : Program} {f sf : FuncId} (hf : Is P f (c_slices_Backward_api_Entry_api_Entry sf)) : BackOk P f sf := by
 refine ⟨hf.2, fun h a sa => fun_sound hf.1 (Nat.le_of_ble_eq_true rfl) ?_⟩
 show vc P (c_slices_Backward_api_Entry_api_Entry sf).code ⟨[(0, a)], [], h⟩ (atEnd (c_slices_Backward_api_Entry_api_Entry sf).res _)
 simp only [c_slices_Backward_api_Entry_api_Entry, go_sem, reduceEqDiff, reduceAdd, sa, cells_of sa]
 exact Ext.b1 _
theorem own_conf3 {x : Conf} {F : Nat -> Prop} {h : AHeap} {a : List AV} (hh : OwnL x.c F h a) : ∃ o n e, a = [o, n, e] /\ Own (dInts x.old) F h o /\ Own (dInts x.new) F h n /\ Own (dInts x.learners) F h e := by
 simp only [Conf.c, OwnL] at hh
 obtain ⟨o, _, rfl, ho, n, _, rfl, hn, e, _, rfl, he, rfl⟩ := hh
 exact ⟨o, n, e, rfl, ho, hn, he⟩
theorem of_ok {P : Program} {f g1 g2 g3 sf : FuncId} (hf : IsR P false f (r_conf_Of g1 g2 g3)) (h1 : BackOk P g1 sf) (hs : BackItOk P sf) (h2 : GetConfOk P g2) (h3 : CloneOk P g3) : OfOk P f := by
 refine ⟨hf.1, fun G h x ags ha hR => rfun_sound hf.2 (Nat.le_of_ble_eq_true rfl) ?_⟩
 obtain ⟨e, o, n, l, s, rfl, he, ho, hn, hl, hsn⟩ := rd_hard ha
 show rvc P 0 (fun _ _ _ => False) (r_conf_Of g1 g2 g3).code ⟨none, false, ⟨[(0, .agg (x.cells e o n l s))], [], h⟩⟩ (atEndR (r_conf_Of g1 g2 g3).res _)
 simp only [r_conf_Of, Hard.cells, go_sem, reduceEqDiff, reduceAdd, he.scalar, ho.scalar, hn.scalar, hl.scalar, hsn.scalar]
 obtain ⟨H, hH⟩ : ∃ H, H = h ++ [some (ABlk.arr 10 [[.int .i64 x.group, .int .i64 x.term, .int .i64 x.vote, .int .i64 x.log.base, .int .i64 x.log.bterm, e, o, n, l, s]] false)] ++ [some (.arr 3 [[.nils, .nils, .nils]] false)] ++ [some (.arr 1 [[.int .i64 0]] false)] := ⟨_, rfl⟩
 have B0 : H[h.length]? = some (some (.arr 10 [[.int .i64 x.group, .int .i64 x.term, .int .i64 x.vote, .int .i64 x.log.base, .int .i64 x.log.bterm, e, o, n, l, s]] false)) := by rw [hH]; exact bx30 _ _ _ _
 have B1 : H[h.length + 1]? = some (some (.arr 3 [[.nils, .nils, .nils]] false)) := by rw [hH]; exact bx31 _ _ _ _
 have B2 : H[h.length + 1 + 1]? = some (some (.arr 1 [[.int .i64 0]] false)) := by rw [hH]; exact bx32 _ _ _ _
 have X0 : Ext nof h H := by rw [hH]; exact Ext.b3 _ _ _
 have L0 : H.length = h.length + 3 := by rw [hH]; simp
 rw [<- hH]
 clear hH
 have hb := hR.base
 have hlen := hR.len
 have hcf := hR.conf
 obtain ⟨n0, hn0⟩ : ∃ n, n = h.length := ⟨_, rfl⟩
 rw [<- hn0] at B0 B1 B2 L0 ⊢
 refine wCall_use ⟨h1.1, h1.2 H e he.scalar⟩ ?_
 rintro _ H3 ⟨rfl, D0, X3⟩
 simp only [go_sem]
 have he3 := (he.up X0).up X3
 have C0 := X3.get B0
 have C1 := X3.get B1
 have C2 := X3.get B2
 have l3 : n0 + 3 <= H3.length := by have := X3.1; omega
 obtain ⟨J, hJ⟩ : ∃ J : Nat -> AHeap -> Prop, ∀ k h', J k h' ↔ Ext nof H3 h' /\ x.of = x.ofN k /\ k <= x.log.es.length := ⟨_, fun _ _ => Iff.rfl⟩
 obtain ⟨Ks, hKs⟩ : ∃ Ks : AX -> AHeap -> Prop, ∀ y h', Ks y h' ↔ y = .ret /\ ∃ h1 a b c, Ext nof H3 h1 /\ OwnL x.of.1.c (fun m => H3.length <= m) h1 [a, b, c] /\ h' = (h1.set (n0 + 1) (some (.arr 3 [[a, b, c]] false))).set (n0 + 1 + 1) (some (.arr 1 [[.int .i64 x.of.2]] false)) := ⟨_, fun _ _ => Iff.rfl⟩
 refine rvc_range (gf := sf) (cs := [.ptr H.length 1 0 0]) (Kn := J 0) (Ks := Ks) (by simp [St.get, lk_ins]) hs.1 (hs.2 _ J Ks G H3 _ e x.log.es (bodyY_mono _ _ _ _) hlen ((hJ _ _).2 ⟨Ext.refl _ _, rfl, Nat.le_refl _⟩) ?_ ?_) ?_ ?_
 ·intro k h' hk
  obtain ⟨hx, -, -⟩ := (hJ _ _).1 hk
  exact ⟨hx.get D0, he3.up hx⟩
 ·intro k h' d R hk hjk hd hn' hs'
  obtain ⟨hx, hof, -⟩ := (hJ _ _).1 hjk
  rw [bodyY_mk _ _ _ _ _ _ _ rfl]
  have sd := hd.scalar
  have mem := hR.data _ (List.getElem_mem hk)
  have step : x.ofN (k + 1) = if x.log.es[k].kind = 2 /\ (getConf x.log.es[k].data).2 = 0 then ((getConf x.log.es[k].data).1, x.log.base + 1 + k) else x.ofN k := by
   have e1 : confBack x.log.es (k + 1) = if x.log.es[k].kind = 2 /\ (getConf x.log.es[k].data).2 = 0 then some ((getConf x.log.es[k].data).1, k) else confBack x.log.es k := by rw [confBack, List.getElem?_eq_getElem hk]
   unfold Hard.ofN
   rw [e1]
   by_cases c : x.log.es[k].kind = 2 /\ (getConf x.log.es[k].data).2 = 0
   ·rw [if_pos c, if_pos c]
   ·rw [if_neg c, if_neg c]
  rw [step] at hof
  generalize x.log.es[k] = y at *
  simp only [insL, List.zip_cons_cons, List.zip_nil_right, go_sem, reduceEqDiff, reduceAdd, reduceLeDiff, sd]
  have ek : k <= x.log.es.length := by omega
  have w1 : IntKind.i64.wrap (x.log.base + 1) = x.log.base + 1 := wrap_i64 (by omega)
  have w2 : IntKind.i64.wrap (x.log.base + 1 + (k : Int)) = x.log.base + 1 + k := wrap_i64 (by omega)
  by_cases c1 : y.kind = 2
  ·simp only [go_sem, reduceEqDiff, reduceAdd, decide_eq_true c1, Bool.not_true]
   have Xa : Ext nof h' (h' ++ [some (.arr 3 [[.int .i64 y.term, .int .i64 y.kind, d]] false)]) := Ext.b1 _
   generalize h' ++ [some (ABlk.arr 3 [[.int .i64 y.term, .int .i64 y.kind, d]] false)] = H4 at *
   refine wCall_use ⟨h2.1, h2.2 G H4 y.data d (hd.up Xa) mem.1 mem.2⟩ ?_
   rintro _ H5 ⟨ags, rfl, hown, hx5⟩
   obtain ⟨a, b, c, rfl, oa, ob, oc⟩ := own_conf3 hown
   have X5 := (hx.tr Xa).tr hx5
   have E0 := X5.get C0
   have E1 := X5.get C1
   have E2 := X5.get C2
   have l5 := X5.1
   have X6 : Ext nof H5 (H5 ++ [some (.arr 3 [[a, b, c]] false)]) := Ext.b1 _
   have F0 := X6.get E0
   have F1 := X6.get E1
   have F2 := X6.get E2
   have F3 : (H5 ++ [some (ABlk.arr 3 [[a, b, c]] false)])[H5.length]? = _ := bx10 _ _
   have lH4 : H3.length <= H4.length := (hx.tr Xa).1
   have ow : OwnL (getConf y.data).1.c (fun m => H3.length <= m) (H5 ++ [some (ABlk.arr 3 [[a, b, c]] false)]) [a, b, c] := OwnL.mono _ (fun m hm => by omega) (X6.keep _) _ hown
   by_cases c2 : (getConf y.data).2 = 0
   ·rw [if_pos ⟨c1, c2⟩] at hof
    have k1 : n0 + 1 < H5.length + 1 := by omega
    have k2 : n0 + 1 + 1 < H5.length + 1 := by omega
    simp only [go_sem, reduceEqDiff, reduceAdd, reduceLeDiff, reducePow, reduceDiv, reduceMod, decide_true, oa.scalar, ob.scalar, oc.scalar, decide_eq_true c2, F0, F1, F2, w1, w2, k1, k2, List.length_set]
    exact hs' _ _ ((hKs _ _).2 ⟨rfl, _, a, b, c, X5.tr X6, by rw [hof]; exact ow, by rw [hof]⟩)
   ·rw [if_neg (fun z => c2 z.2)] at hof
    simp only [go_sem, reduceEqDiff, reduceAdd, reduceLeDiff, oa.scalar, ob.scalar, oc.scalar, decide_eq_false c2]
    exact hn' _ ((hJ _ _).2 ⟨X5.tr X6, hof, ek⟩)
  ·rw [if_neg (fun z => c1 z.1)] at hof
   simp only [go_sem, decide_eq_false c1, Bool.not_false]
   exact hn' _ ((hJ _ _).2 ⟨hx.tr (Ext.b1 _), hof, ek⟩)
 ·intro h' hk
  obtain ⟨hx, hof, -⟩ := (hJ _ _).1 hk
  have hof : x.of = (x.conf, x.log.base) := hof
  have E0 := hx.get C0
  have E1 := hx.get C1
  have E2 := hx.get C2
  have xx := (X0.tr X3).tr hx
  have lx := hx.1
  obtain ⟨f1, f2, f3⟩ := id hcf
  simp only [go_sem, reduceEqDiff, reduceAdd, reduceLeDiff, E0, ho.scalar, hn.scalar, hl.scalar]
  have G0 : (h' ++ [some (ABlk.arr 3 [[o, n, l]] false)])[n0]? = _ := (Ext.b1 _).get E0
  have G1 : (h' ++ [some (ABlk.arr 3 [[o, n, l]] false)])[n0 + 1]? = _ := (Ext.b1 _).get E1
  have G2 : (h' ++ [some (ABlk.arr 3 [[o, n, l]] false)])[n0 + 1 + 1]? = _ := (Ext.b1 _).get E2
  have G3 : (h' ++ [some (ABlk.arr 3 [[o, n, l]] false)])[h'.length]? = some (some (.arr 3 [[o, n, l]] false)) := bx10 _ _
  have xy : Ext nof h (h' ++ [some (ABlk.arr 3 [[o, n, l]] false)]) := xx.tr (Ext.b1 _)
  have ho6 := ho.up xy
  have hn6 := hn.up xy
  have hl6 := hl.up xy
  have l6 : n0 + 3 <= (h' ++ [some (ABlk.arr 3 [[o, n, l]] false)]).length := by simp; omega
  generalize h' ++ [some (ABlk.arr 3 [[o, n, l]] false)] = H6 at *
  simp only [go_sem, reduceEqDiff, G0]
  refine wCall_use ⟨h3.1, h3.2 G H6 x.conf.old o ho6 (by omega)⟩ ?_
  rintro r1 H7 ⟨ro, -, rx⟩
  have M0 := rx.get G0
  have M1 := rx.get G1
  have M2 := rx.get G2
  have M3 := rx.get G3
  simp only [go_sem, reduceEqDiff, reducePow, reduceDiv, reduceMod, decide_true, M0, M3]
  refine wCall_use ⟨h3.1, h3.2 G H7 x.conf.new n (hn6.up rx) (by omega)⟩ ?_
  rintro r2 H8 ⟨uo, -, ux⟩
  have N0 := ux.get M0
  have N1 := ux.get M1
  have N2 := ux.get M2
  have N3 := ux.get M3
  simp only [go_sem, reduceEqDiff, reducePow, reduceDiv, reduceMod, decide_true, N0, N3]
  refine wCall_use ⟨h3.1, h3.2 G H8 x.conf.learners l ((hl6.up rx).up ux) (by omega)⟩ ?_
  rintro r3 H9 ⟨vo, -, vx⟩
  have P0 := vx.get N0
  have P1 := vx.get N1
  have P2 := vx.get N2
  have P3 := vx.get N3
  have g1 := rx.1
  have g2 := ux.1
  have g3 := vx.1
  have k1 : n0 + 1 < H9.length := by omega
  have k2 : n0 + 1 + 1 < H9.length := by omega
  have X := (rx.tr ux).tr vx
  simp only [go_sem, reduceEqDiff, reduceAdd, reduceLeDiff, reducePow, reduceDiv, reduceMod, decide_true, P0, P1, P2, P3, ro.scalar, cells_of ro.scalar, uo.scalar, cells_of uo.scalar, vo.scalar, cells_of vo.scalar, k1, k2, List.length_set]
  rw [hof]
  refine ⟨_, rfl, own_conf ?_ ?_ ?_, ((xy.tr X).setNew (by omega) _).setNew (by omega) _⟩
  ·exact own_setOff (own_setOff (k := n0 + 3) (Own.mono (F' := fun m => n0 + 3 <= m) _ (fun m hm => by omega) ((ux.tr vx).keep _) _ ro) (by omega) _ (by omega)) (by omega) _ (by omega)
  ·exact own_setOff (own_setOff (k := n0 + 3) (Own.mono (F' := fun m => n0 + 3 <= m) _ (fun m hm => by omega) (vx.keep _) _ uo) (by omega) _ (by omega)) (by omega) _ (by omega)
  ·exact own_setOff (own_setOff (k := n0 + 3) (Own.mono (F' := fun m => n0 + 3 <= m) _ (fun m hm => by omega) (Keep.lt _ _) _ vo) (by omega) _ (by omega)) (by omega) _ (by omega)
 ·intro y h' hk
  obtain ⟨rfl, h1', a, b, c, hx, ow, rfl⟩ := (hKs _ _).1 hk
  have E1 := hx.get C1
  have E2 := hx.get C2
  have lx := hx.1
  have k1 : n0 + 1 < h1'.length := by omega
  have k2 : n0 + 1 + 1 < h1'.length := by omega
  refine ⟨by simp, ?_⟩
  simp only [go_sem, reduceEqDiff, reduceAdd, reduceLeDiff, k1, k2, List.length_set]
  obtain ⟨oa, ob, oc⟩ : Own (dInts x.of.1.old) (fun m => H3.length <= m) h1' a /\ Own (dInts x.of.1.new) (fun m => H3.length <= m) h1' b /\ Own (dInts x.of.1.learners) (fun m => H3.length <= m) h1' c := by
   obtain ⟨o', n', e', q, z⟩ := own_conf3 ow
   cases q
   exact z
  refine ⟨_, rfl, own_conf ?_ ?_ ?_, ((((X0.tr X3).tr hx)).setNew (by omega) _).setNew (by omega) _⟩
  ·exact own_setOff (own_setOff (k := n0 + 3) oa (by omega) _ (by omega)) (by omega) _ (by omega)
  ·exact own_setOff (own_setOff (k := n0 + 3) ob (by omega) _ (by omega)) (by omega) _ (by omega)
  ·exact own_setOff (own_setOff (k := n0 + 3) oc (by omega) _ (by omega)) (by omega) _ (by omega)
end Glb
namespace Glb
open Go
open Nat (reduceAdd reduceDiv reduceEqDiff reduceLeDiff reduceMod reducePow)
set_option maxRecDepth 10000
set_option maxHeartbeats 8000000
def OfP (P : Program) (f : FuncId) : Prop := isFn P f = true /\ ∀ (G : Nat -> Prop) (h : AHeap) (x : Hard) (ags : List AV), RdL G h x.c ags -> x.ofR ->
 ACalls P f [.agg ags] h fun r h' => r = .tup [.agg x.of.1.v, .int .i64 x.of.2] /\ h' = h
end Glb
