/-
  Layer 9: the law StoreRises.
-/
import Derived.Test.YtgjgniadldlmiaaGlbStoA
set_option linter.unusedSimpArgs false
set_option linter.unusedVariables false
namespace Glb
open Go
set_option maxRecDepth 10000
set_option maxHeartbeats 8000000

def abools (l : List Bool) : AV := D.av (.sl 1 (l.map fun b => [D.bool b]))
theorem len_abools (l : List Bool) : alen (abools l) = some (.int .i64 l.length) := by
  have : Rd nof [] (.sl 1 (l.map fun b => [D.bool b])) (abools l) := rd_av _ _ _
  simpa using this.len
theorem bools_at {l : List Bool} {i : Nat} (hi : i < l.length) : ∃ p, aindex 1 (abools l) (.int .i64 i) = some p ∧ ∀ h, aload h false 1 p = some (.bool l[i]) := by
  obtain ⟨p, h1, h2⟩ := index_av 1 (fun b => [D.bool b]) l .i64 hi
  exact ⟨p, h1, fun h => by rw [aload_p (h2 h)]; exact take_one _ _ _⟩

theorem rises9_ok {P : Program} {f fn fo fr fa fe fc fk : FuncId} (hf : Is P f (c_glebelaw09_StoreRises fn fo fr fa fe fc fk)) (hn : NewDOk P fn) (ho : SOpenOk P fo) (hr : SRenOk P fr) (ha : SAppOk P fa) (he : SEpochOk P fe) (hc : SCountOk P fc) (hk : YesOk P fk)
    (l : List (List Int)) (news : List Bool) (hB : ∀ x ∈ l, bytesOk x) (h : AHeap) : ACalls P f [arows l, abools news] h fun r _ => r = .bool true := by
  refine fun_sound hf.1 (Nat.le_of_ble_eq_true rfl) ?_
  show vc P (c_glebelaw09_StoreRises fn fo fr fa fe fc fk).code ⟨[(0, arows l), (1, abools news)], [], h⟩ (atEnd (c_glebelaw09_StoreRises fn fo fr fa fe fc fk).res _)
  simp only [c_glebelaw09_StoreRises, go_sem, reduceIte, Nat.reduceEqDiff, Nat.reduceAdd, Nat.reduceLeDiff, Nat.reducePow, Nat.reduceDiv, Nat.reduceMod, decide_true]
  refine wCall_use ⟨hn.1, hn.2 h 60⟩ ?_
  rintro r H ⟨e1, -, X⟩
  obtain ⟨p, rfl, a⟩ := e1 (by omega)
  obtain ⟨F, a, hF⟩ : ∃ F : Nat → Prop, DiskAt F H p (Dk.new 60) ∧ (∀ m, F m → m < H.length) := ⟨_, a, fun m x => x.2⟩
  have sd0 : SD (Dk.new 60) 5 0 [] [] := SD.new (by omega) (by omega)
  have l0 : (Dk.new 60).left < 0 := by show (-1 : Int) < 0; omega
  have d0 : (Dk.new 60).n = 60 := rfl
  generalize Dk.new 60 = dk at *
  simp only [go_sem, reduceIte, Nat.reduceEqDiff, Nat.reduceAdd, Nat.reduceLeDiff, Nat.reducePow, Nat.reduceDiv, Nat.reduceMod, decide_true]
  refine wCall_use ⟨ho.1, sd0.opens ho a hF⟩ ?_
  rintro _ H1 ⟨X1, x0, cv, rv, rfl, -, -, -, -⟩
  obtain ⟨s, hs'⟩ : ∃ s, s = H.length := ⟨_, rfl⟩
  rw [← hs'] at x0 ⊢
  simp only [go_sem, reduceIte, Nat.reduceEqDiff, Nat.reduceAdd, Nat.reduceLeDiff, Nat.reducePow, Nat.reduceDiv, Nat.reduceMod, decide_true, dI00, Bool.not_true]
  obtain ⟨I, hI⟩ : ∃ I : Nat → Env → AHeap → Prop, ∀ m L h', I m L h' ↔ ∃ (i : Nat) (d : Dk) (E : Int) (c : List Int) (R : List (List Int)) (k : Option Int) (q : Nat), lk 0 L = arows l ∧ lk 1 L = abools news ∧ lk 5 L = .ptr p 6 0 0 ∧ lk 7 L = .ptr s 5 0 0 ∧ lk 11 L = .int .i64 E ∧ lk 12 L = .int .i64 R.length ∧ lk 13 L = .int .i64 i ∧
    SX F h' s q p d 5 E c R k ∧ d.left < 0 ∧ d.n = 60 ∧ (k = none → R = []) ∧ E ≤ i ∧ i ≤ 100 ∧ m = 100 - i := ⟨_, fun _ _ _ => Iff.rfl⟩
  refine vc_loop I 100 ((hI _ _ _).2 ⟨0, dk, 0, [], [], none, s, by simp [lk_ins, lk_cons], by simp [lk_ins, lk_cons], by simp [lk_ins, lk_cons], by simp [lk_ins, lk_cons], by simp [lk_ins, lk_cons], by simp [lk_ins, lk_cons], by simp [lk_ins, lk_cons], x0, l0, d0, fun _ => rfl, by omega, by omega, by omega⟩) ?_
  clear x0 l0 d0 sd0
  intro m L h1 hh
  obtain ⟨i, d, E, c, R, k, q, k0, k1, k5, k7, k11, k12, k13, hx, hl, hn60, hkR, hE, hi, rfl⟩ := (hI _ _ _).1 hh
  have hcnt : (if k = none then (0 : Int) else R.length) = R.length := by split; (rename_i e; rw [hkR e]; rfl); rfl
  simp only [c_glebelaw09_StoreRises_l0, go_sem, reduceIte, Nat.reduceEqDiff, Nat.reduceAdd, Nat.reduceLeDiff, Nat.reducePow, Nat.reduceDiv, Nat.reduceMod, decide_true, k0, k13, len_arows]
  by_cases ci : i < l.length
  · by_cases ci3 : (i : Int) < 100
    · have ci' : (i : Int) < l.length := by omega
      obtain ⟨z, z1, z2⟩ := rows_at ci
      have hBi := hB _ (List.getElem_mem ci)
      generalize l[i] = v at *
      have f5 : IntKind.i64.wrap ((i : Int) + 1) = ((i + 1 : Nat) : Int) := by rw [wrap_i64 (by omega)]; omega
      have hep := hx.sd.ep
      have back : ∀ (H2 : AHeap) (q' : Nat) (d' : Dk) (E' : Int) (c' : List Int) (R' : List (List Int)) (k' : Option Int) (L' : Env), SX F H2 s q' p d' 5 E' c' R' k' → d'.left < 0 → d'.n = 60 → (k' = none → R' = []) → E' ≤ i + 1 →
          lk 0 L' = arows l → lk 1 L' = abools news → lk 5 L' = .ptr p 6 0 0 → lk 7 L' = .ptr s 5 0 0 → lk 11 L' = .int .i64 E' → lk 12 L' = .int .i64 R'.length → lk 13 L' = .int .i64 ((i + 1 : Nat) : Int) → ∃ m', m' < 100 - i ∧ I m' L' H2 :=
        fun H2 q' d' E' c' R' k' L' g1 g2 g3 g4 g5 g6 g7 g8 g9 g10 g11 g12 => ⟨100 - (i + 1), by omega, (hI _ _ _).2 ⟨i + 1, d', E', c', R', k', q', g6, g7, g8, g9, g10, g11, g12, g1, g2, g3, g4, by omega, by omega, rfl⟩⟩
      have cnt : ∀ {H2 : AHeap} {q' : Nat} {d' : Dk} {E' : Int} {c' : List Int} {R' : List (List Int)} {k' : Option Int}, SX F H2 s q' p d' 5 E' c' R' k' → (k' = none → R' = []) → ACalls P fc [.ptr s 5 0 0] H2 fun r h' => r = .int .i64 R'.length ∧ h' = H2 := by
        intro H2 q' d' E' c' R' k' g1 g2
        have := g1.count hc
        rwa [show (if k' = none then (0 : Int) else R'.length) = R'.length by split; (rename_i e; rw [g2 e]; rfl); rfl] at this
      by_cases cn : i < news.length
      · have cn' : (i : Int) < news.length := by omega
        obtain ⟨y, y1, y2⟩ := bools_at cn
        cases hnw : news[i] with
        | true =>
          rw [hnw] at y2
          simp only [go_sem, reduceIte, Nat.reduceEqDiff, Nat.reduceAdd, Nat.reduceLeDiff, Nat.reducePow, Nat.reduceDiv, Nat.reduceMod, decide_true, decide_eq_true ci', decide_eq_true ci3, k0, k1, k7, k13, len_abools, decide_eq_true cn', y1, y2, z1, z2]
          refine wCall_use ⟨hr.1, hx.renew hr (G := nof) (rd_abytes _ _ _) (fun m hm => hm.elim) hBi (by unfold maxNo; omega)⟩ ?_
          rintro r H2 ⟨-, ⟨-, rfl, q', x2, -⟩ | ⟨-, rfl, d', q', x2, n2, l2, -⟩ | ⟨-, -, g, -⟩⟩
          · simp only [go_sem, reduceIte, Nat.reduceEqDiff, Nat.reduceAdd, Nat.reduceLeDiff, Nat.reducePow, Nat.reduceDiv, Nat.reduceMod, decide_true, show decide ((2 : Int) = 0) = false from rfl, k7]
            refine use1 he.1 (x2.epoch he) ?_
            simp only [go_sem, reduceIte, Nat.reduceEqDiff, Nat.reduceAdd, Nat.reduceLeDiff, Nat.reducePow, Nat.reduceDiv, Nat.reduceMod, decide_true, k11, decide_eq_true (Eq.refl E), Bool.not_true, k7]
            refine use1 hc.1 (cnt x2 hkR) ?_
            simp only [go_sem, reduceIte, Nat.reduceEqDiff, Nat.reduceAdd, Nat.reduceLeDiff, Nat.reducePow, Nat.reduceDiv, Nat.reduceMod, decide_true, k12, decide_eq_true (Eq.refl (R.length : Int)), Bool.not_true, k13, f5]
            exact back _ _ _ _ _ _ _ _ x2 hl hn60 hkR (by omega) (by simp [lk_ins, k0]) (by simp [lk_ins, k1]) (by simp [lk_ins, k5]) (by simp [lk_ins, k7]) (by simp [lk_ins, k11]) (by simp [lk_ins, k12]) (by simp [lk_ins])
          · have e9 : IntKind.i64.wrap (E + 1) = E + 1 := wrap_i64 (by omega)
            simp only [go_sem, reduceIte, Nat.reduceEqDiff, Nat.reduceAdd, Nat.reduceLeDiff, Nat.reducePow, Nat.reduceDiv, Nat.reduceMod, decide_true, dI00, k7, k11, e9]
            refine use1 he.1 (x2.epoch he) ?_
            simp only [go_sem, reduceIte, Nat.reduceEqDiff, Nat.reduceAdd, Nat.reduceLeDiff, Nat.reducePow, Nat.reduceDiv, Nat.reduceMod, decide_true, k11, decide_eq_true (Eq.refl (E + 1)), Bool.not_true, k7]
            refine use1 hc.1 (cnt x2 (fun e => by cases e)) ?_
            simp only [go_sem, reduceIte, Nat.reduceEqDiff, Nat.reduceAdd, Nat.reduceLeDiff, Nat.reducePow, Nat.reduceDiv, Nat.reduceMod, decide_true, List.length_nil, show ((0 : Nat) : Int) = 0 from rfl, dI00, Bool.not_true, k13, f5]
            exact back _ _ _ _ _ _ _ _ x2 (l2 hl) (by omega) (fun e => by cases e) (by omega) (by simp [lk_ins, k0]) (by simp [lk_ins, k1]) (by simp [lk_ins, k5]) (by simp [lk_ins, k7]) (by simp [lk_ins]) (by simp [lk_ins]) (by simp [lk_ins])
          · omega
        | false =>
          rw [hnw] at y2
          simp only [go_sem, reduceIte, Nat.reduceEqDiff, Nat.reduceAdd, Nat.reduceLeDiff, Nat.reducePow, Nat.reduceDiv, Nat.reduceMod, decide_true, decide_eq_true ci', decide_eq_true ci3, k0, k1, k7, k13, len_abools, decide_eq_true cn', y1, y2, z1, z2]
          refine wCall_use ⟨ha.1, hx.append ha (G := nof) (rd_abytes _ _ _) (fun m hm => hm.elim) hBi⟩ ?_
          rintro r H2 ⟨-, g⟩
          have g' : (∃ e : Int, e ≠ 0 ∧ r = .int .i64 e ∧ SX F H2 s q p d 5 E c R k) ∨ (r = .int .i64 0 ∧ ∃ d' k', SX F H2 s q p d' 5 E c (R ++ [v]) (some k') ∧ d'.n = d.n ∧ d'.left < 0) := by
            rcases g with ⟨-, g1, g2⟩ | ⟨-, -, g1, g2⟩ | ⟨-, -, g1, g2⟩ | ⟨-, g1, d', k', -, -, g2, g3, g4⟩ | ⟨-, -, g1, -⟩
            · exact .inl ⟨12, by omega, g1, g2⟩
            · exact .inl ⟨2, by omega, g1, g2⟩
            · exact .inl ⟨8, by omega, g1, g2⟩
            · exact .inr ⟨g1, d', _, g2, g3, g4 hl⟩
            · omega
          rcases g' with ⟨e, e0, rfl, x2⟩ | ⟨rfl, d', k', x2, n2, l2⟩
          · simp only [go_sem, reduceIte, Nat.reduceEqDiff, Nat.reduceAdd, Nat.reduceLeDiff, Nat.reducePow, Nat.reduceDiv, Nat.reduceMod, decide_true, decide_eq_false e0, k7]
            refine use1 he.1 (x2.epoch he) ?_
            simp only [go_sem, reduceIte, Nat.reduceEqDiff, Nat.reduceAdd, Nat.reduceLeDiff, Nat.reducePow, Nat.reduceDiv, Nat.reduceMod, decide_true, k11, decide_eq_true (Eq.refl E), Bool.not_true, k7]
            refine use1 hc.1 (cnt x2 hkR) ?_
            simp only [go_sem, reduceIte, Nat.reduceEqDiff, Nat.reduceAdd, Nat.reduceLeDiff, Nat.reducePow, Nat.reduceDiv, Nat.reduceMod, decide_true, k12, decide_eq_true (Eq.refl (R.length : Int)), Bool.not_true, k13, f5]
            exact back _ _ _ _ _ _ _ _ x2 hl hn60 hkR (by omega) (by simp [lk_ins, k0]) (by simp [lk_ins, k1]) (by simp [lk_ins, k5]) (by simp [lk_ins, k7]) (by simp [lk_ins, k11]) (by simp [lk_ins, k12]) (by simp [lk_ins])
          · have e9 : IntKind.i64.wrap ((R.length : Int) + 1) = ((R ++ [v]).length : Nat) := by
              have := (x2.js k' rfl).len
              have e : ((R ++ [v]).length : Int) = R.length + 1 := by simp
              rw [wrap_i64 (by omega), e]
            simp only [go_sem, reduceIte, Nat.reduceEqDiff, Nat.reduceAdd, Nat.reduceLeDiff, Nat.reducePow, Nat.reduceDiv, Nat.reduceMod, decide_true, dI00, k7, k11, k12, e9]
            refine use1 he.1 (x2.epoch he) ?_
            simp only [go_sem, reduceIte, Nat.reduceEqDiff, Nat.reduceAdd, Nat.reduceLeDiff, Nat.reducePow, Nat.reduceDiv, Nat.reduceMod, decide_true, k11, decide_eq_true (Eq.refl E), Bool.not_true, k7]
            refine use1 hc.1 (cnt x2 (fun e => by cases e)) ?_
            simp only [go_sem, reduceIte, Nat.reduceEqDiff, Nat.reduceAdd, Nat.reduceLeDiff, Nat.reducePow, Nat.reduceDiv, Nat.reduceMod, decide_true, decide_eq_true (Eq.refl (((R ++ [v]).length : Nat) : Int)), Bool.not_true, k13, f5]
            exact back _ _ _ _ _ _ _ _ x2 l2 (by omega) (fun e => by cases e) (by omega) (by simp [lk_ins, k0]) (by simp [lk_ins, k1]) (by simp [lk_ins, k5]) (by simp [lk_ins, k7]) (by simp [lk_ins, k11]) (by simp [lk_ins]) (by simp [lk_ins])
      · have cn' : decide ((i : Int) < news.length) = false := decide_eq_false (by omega)
        simp only [go_sem, reduceIte, Nat.reduceEqDiff, Nat.reduceAdd, Nat.reduceLeDiff, Nat.reducePow, Nat.reduceDiv, Nat.reduceMod, decide_true, decide_eq_true ci', decide_eq_true ci3, k0, k1, k7, k13, len_abools, cn', z1, z2]
        refine wCall_use ⟨ha.1, hx.append ha (G := nof) (rd_abytes _ _ _) (fun m hm => hm.elim) hBi⟩ ?_
        rintro r H2 ⟨-, g⟩
        have g' : (∃ e : Int, e ≠ 0 ∧ r = .int .i64 e ∧ SX F H2 s q p d 5 E c R k) ∨ (r = .int .i64 0 ∧ ∃ d' k', SX F H2 s q p d' 5 E c (R ++ [v]) (some k') ∧ d'.n = d.n ∧ d'.left < 0) := by
          rcases g with ⟨-, g1, g2⟩ | ⟨-, -, g1, g2⟩ | ⟨-, -, g1, g2⟩ | ⟨-, g1, d', k', -, -, g2, g3, g4⟩ | ⟨-, -, g1, -⟩
          · exact .inl ⟨12, by omega, g1, g2⟩
          · exact .inl ⟨2, by omega, g1, g2⟩
          · exact .inl ⟨8, by omega, g1, g2⟩
          · exact .inr ⟨g1, d', _, g2, g3, g4 hl⟩
          · omega
        rcases g' with ⟨e, e0, rfl, x2⟩ | ⟨rfl, d', k', x2, n2, l2⟩
        · simp only [go_sem, reduceIte, Nat.reduceEqDiff, Nat.reduceAdd, Nat.reduceLeDiff, Nat.reducePow, Nat.reduceDiv, Nat.reduceMod, decide_true, decide_eq_false e0, k7]
          refine use1 he.1 (x2.epoch he) ?_
          simp only [go_sem, reduceIte, Nat.reduceEqDiff, Nat.reduceAdd, Nat.reduceLeDiff, Nat.reducePow, Nat.reduceDiv, Nat.reduceMod, decide_true, k11, decide_eq_true (Eq.refl E), Bool.not_true, k7]
          refine use1 hc.1 (cnt x2 hkR) ?_
          simp only [go_sem, reduceIte, Nat.reduceEqDiff, Nat.reduceAdd, Nat.reduceLeDiff, Nat.reducePow, Nat.reduceDiv, Nat.reduceMod, decide_true, k12, decide_eq_true (Eq.refl (R.length : Int)), Bool.not_true, k13, f5]
          exact back _ _ _ _ _ _ _ _ x2 hl hn60 hkR (by omega) (by simp [lk_ins, k0]) (by simp [lk_ins, k1]) (by simp [lk_ins, k5]) (by simp [lk_ins, k7]) (by simp [lk_ins, k11]) (by simp [lk_ins, k12]) (by simp [lk_ins])
        · have e9 : IntKind.i64.wrap ((R.length : Int) + 1) = ((R ++ [v]).length : Nat) := by
            have := (x2.js k' rfl).len
            have e : ((R ++ [v]).length : Int) = R.length + 1 := by simp
            rw [wrap_i64 (by omega), e]
          simp only [go_sem, reduceIte, Nat.reduceEqDiff, Nat.reduceAdd, Nat.reduceLeDiff, Nat.reducePow, Nat.reduceDiv, Nat.reduceMod, decide_true, dI00, k7, k11, k12, e9]
          refine use1 he.1 (x2.epoch he) ?_
          simp only [go_sem, reduceIte, Nat.reduceEqDiff, Nat.reduceAdd, Nat.reduceLeDiff, Nat.reducePow, Nat.reduceDiv, Nat.reduceMod, decide_true, k11, decide_eq_true (Eq.refl E), Bool.not_true, k7]
          refine use1 hc.1 (cnt x2 (fun e => by cases e)) ?_
          simp only [go_sem, reduceIte, Nat.reduceEqDiff, Nat.reduceAdd, Nat.reduceLeDiff, Nat.reducePow, Nat.reduceDiv, Nat.reduceMod, decide_true, decide_eq_true (Eq.refl (((R ++ [v]).length : Nat) : Int)), Bool.not_true, k13, f5]
          exact back _ _ _ _ _ _ _ _ x2 l2 (by omega) (fun e => by cases e) (by omega) (by simp [lk_ins, k0]) (by simp [lk_ins, k1]) (by simp [lk_ins, k5]) (by simp [lk_ins, k7]) (by simp [lk_ins, k11]) (by simp [lk_ins]) (by simp [lk_ins])
    · have q1 : decide ((i : Int) < l.length) = true := decide_eq_true (by omega)
      have q2 : decide ((i : Int) < 100) = false := decide_eq_false ci3
      simp only [go_sem, reduceIte, Nat.reduceEqDiff, Nat.reduceAdd, Nat.reduceLeDiff, Nat.reducePow, Nat.reduceDiv, Nat.reduceMod, decide_true, q1, q2, k5, k12, k13]
      refine wCall_use ⟨ho.1, hx.sd.opens ho hx.dk hx.lt⟩ ?_
      rintro _ H2 ⟨-, -, cv2, rv2, rfl, -, -, -, lr⟩
      simp only [go_sem, reduceIte, Nat.reduceEqDiff, Nat.reduceAdd, Nat.reduceLeDiff, Nat.reducePow, Nat.reduceDiv, Nat.reduceMod, decide_true, dI00, lr, k12, decide_eq_true (Eq.refl (R.length : Int))]
      refine use1 hk.1 (hk.2 _) ?_
      simp only [go_sem, reduceIte, Nat.reduceEqDiff, Nat.reduceAdd, Nat.reduceLeDiff, Nat.reducePow, Nat.reduceDiv, Nat.reduceMod, decide_true]
  · have q1 : decide ((i : Int) < l.length) = false := decide_eq_false (by omega)
    simp only [go_sem, reduceIte, Nat.reduceEqDiff, Nat.reduceAdd, Nat.reduceLeDiff, Nat.reducePow, Nat.reduceDiv, Nat.reduceMod, decide_true, q1, k5, k12, k13]
    refine wCall_use ⟨ho.1, hx.sd.opens ho hx.dk hx.lt⟩ ?_
    rintro _ H2 ⟨-, -, cv2, rv2, rfl, -, -, -, lr⟩
    simp only [go_sem, reduceIte, Nat.reduceEqDiff, Nat.reduceAdd, Nat.reduceLeDiff, Nat.reducePow, Nat.reduceDiv, Nat.reduceMod, decide_true, dI00, lr, k12, decide_eq_true (Eq.refl (R.length : Int))]
    refine use1 hk.1 (hk.2 _) ?_
    simp only [go_sem, reduceIte, Nat.reduceEqDiff, Nat.reduceAdd, Nat.reduceLeDiff, Nat.reducePow, Nat.reduceDiv, Nat.reduceMod, decide_true]

end Glb
