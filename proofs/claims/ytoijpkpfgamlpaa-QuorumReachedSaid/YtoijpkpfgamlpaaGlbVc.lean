/-
  A library of its own, for whatever program: code: what is to be shown of it.
-/
import Derived.Test.YtoijpkpfgamlpaaGlbDraw5
import Derived.Scope
set_option linter.unusedSimpArgs false
set_option linter.unusedVariables false
namespace Glb
open Go

inductive AX where
  | normal
  | exit (id : Nat)
  | ret

inductive AC where
  | skip
  | reg (ops : List AO)
  | dreg (r : DR)
  | seq (a b : AC)
  | cond (c : Opd) (a b : AC)
  | block (id : Nat) (b : AC)
  | loop (b : AC)
  | exit (id : Nat)
  | ret
  | bad

section
variable {n : Nat} {keep : Nat → Bool} {G0 : Gh} {w0 : World} {P : Program}

/-! code -/

/-- a state that says no more than another -/
def Wk (st st' : St) : Prop := ∀ (n : Nat) (keep : Nat → Bool) (G0 : Gh) (w0 : World) (G : Gh) (w : World) (a : Act), SR n keep G0 w0 G w st a → ∃ G', SR n keep G0 w0 G' w st' a

theorem Wk.refl (st : St) : Wk st st := fun _ _ _ _ G _ _ h => ⟨G, h⟩
theorem Wk.trans {a b c : St} (h : Wk a b) (h' : Wk b c) : Wk a c := fun n k G0 w0 G w x s => let ⟨_, s'⟩ := h n k G0 w0 G w x s; h' n k G0 w0 _ w x s'

def vc (P : Program) : AC → St → (AX → St → Prop) → Prop
  | .skip, st, K => K .normal st
  | .reg ops, st, K => vcOps P ops st fun st' => K .normal { st' with R := [] }
  | .dreg r, st, K => vcDR P r st fun st' => K .normal st'
  | .seq a b, st, K => vc P a st fun x st' => match x with
    | .normal => vc P b st' K
    | .exit id => K (.exit id) st'
    | .ret => K .ret st'
  | .cond c a b, st, K => match st.get c with
    | .bool t => (t = true → vc P a st K) ∧ (t = false → vc P b st K)
    | _ => False
  | .block id b, st, K => vc P b st fun x st' => match x with
    | .normal => K .normal st'
    | .exit id' => if id' = id then K .normal st' else K (.exit id') st'
    | .ret => K .ret st'
  | .loop b, st, K => ∃ I : Nat → St → Prop, (∃ m s0, Wk st s0 ∧ I m s0) ∧ ∀ m s, I m s → vc P b s fun x s' => match x with
    | .normal => ∃ m' s0, m' < m ∧ Wk s' s0 ∧ I m' s0
    | .exit id => K (.exit id) s'
    | .ret => K .ret s'
  | .exit id, st, K => K (.exit id) st
  | .ret, st, K => K .ret st
  | .bad, _, _ => False

def cC (P : Program) (n : Nat) (keep : Nat → Bool) : Code → Option AC
  | .skip => some .skip
  | .region _ ops draw => if draw then (if P.follows .mixedOrders then (cDR P n keep ops.toList).map .dreg else none) else (cAOs P n keep ops ops.toList).map .reg
  | .seq a b => match cC P n keep a, cC P n keep b with
    | some x, some y => some (.seq x y)
    | _, _ => none
  | .cond c a b => match cC P n keep a, cC P n keep b with
    | some x, some y => some (.cond (cd keep c) x y)
    | _, _ => none
  | .block id b => (cC P n keep b).map (.block id)
  | .loop b => (cC P n keep b).map .loop
  | .exit id => some (.exit id)
  | .ret => some .ret
  | .scope b => cC P n keep b
  | .label _ => some .skip
  | _ => some .bad

/-- where code ends, and what is known then -/
def Post (n : Nat) (keep : Nat → Bool) (G0 : Gh) (w0 : World) (K : AX → St → Prop) : Exit → Act → World → Prop
  | .normal, a, w => ∃ G st, SR n keep G0 w0 G w st a ∧ K .normal st
  | .exit id, a, w => ∃ G st, SR n keep G0 w0 G w st a ∧ K (.exit id) st
  | .ret, a, w => ∃ G st, SR n keep G0 w0 G w st a ∧ K .ret st
  | _, _, _ => False

theorem SR.clearR {G w st a} (sr : SR n keep G0 w0 G w st a) : SR n keep G0 w0 G w { st with R := [] } a :=
  ⟨sr.gam, sr.size, sr.defers, sr.L, fun _ _ => .top _, sr.stp⟩

/-- a loop, by a number that falls -/
theorem wp_loop_ix {Q : Exit → Act → World → Prop} {c : Code} (I : Nat → Act → World → Prop)
    (round : ∀ m a w, I m a w → c.wp P (Exit.then (fun a' w' => ∃ m', m' < m ∧ I m' a' w') Q) a w) {m : Nat} {a : Act} {w : World} (h₀ : I m a w) : (Code.loop c).wp P Q a w := by
  intro b k cs
  have key : ∀ m a w, I m a w → ∃ e a' w', Q e a' w' ∧ Arrives P (lone (b.at a (.code c :: .inLoop c :: k)) cs w) b k cs e a' w' := by
    intro m
    induction m using Nat.strongRecOn with
    | _ m ih =>
      intro a w hI
      obtain ⟨e, a₁, w₁, hq, harr⟩ := round m a w hI b (.inLoop c :: k) cs
      cases e with
      | normal =>
        obtain ⟨m', hlt, hI₁⟩ := hq
        obtain ⟨e₂, a₂, w₂, hq₂, harr₂⟩ := ih m' hlt a₁ w₁ hI₁
        exact ⟨e₂, a₂, w₂, hq₂, .of_steps (Steps.trans harr (.one step_inLoop)) harr₂⟩
      | exit id => exact ⟨_, a₁, w₁, hq, .pass (x := .inLoop c) rfl (fun _ _ => .inl (by simp)) harr⟩
      | goto l => exact ⟨_, a₁, w₁, hq, .pass (x := .inLoop c) rfl (fun _ _ => .inl (by simp)) harr⟩
      | ret => exact ⟨_, a₁, w₁, hq, .pass (x := .inLoop c) rfl (fun _ _ => .inl (by simp)) harr⟩
      | panic ch => exact ⟨_, a₁, w₁, hq, .pass (x := .inLoop c) rfl (fun _ _ => .inl (by simp)) harr⟩
      | outgrown => exact ⟨_, a₁, w₁, hq, .pass (x := .inLoop c) rfl (fun _ _ => .inl (by simp)) harr⟩
  obtain ⟨e, a', w', hq, harr⟩ := key m a w h₀
  exact ⟨e, a', w', hq, .of_steps (.one step_loop) harr⟩

theorem vc_sound : ∀ (c : Code) (ac : AC), cC P n keep c = some ac → ∀ {K : AX → St → Prop} {G w st a}, SR n keep G0 w0 G w st a → vc P ac st K → c.wp P (Post n keep G0 w0 K) a w := by
  intro c
  induction c with
  | skip => intro ac hc K G w st a sr hk; simp only [cC, Option.some.injEq] at hc; subst hc; exact wp_skip ⟨G, st, sr, hk⟩
  | ret => intro ac hc K G w st a sr hk; simp only [cC, Option.some.injEq] at hc; subst hc; exact wp_ret ⟨G, st, sr, hk⟩
  | exit id => intro ac hc K G w st a sr hk; simp only [cC, Option.some.injEq] at hc; subst hc; exact wp_exit ⟨G, st, sr, hk⟩
  | region id ops draw =>
    intro ac hc K G w st a sr hk
    simp only [cC] at hc
    split at hc
    · rename_i hd
      have hdr : draw = true := hd
      subst hdr
      split at hc
      · rename_i hm
        simp only [Option.map_eq_some_iff] at hc
        obtain ⟨r, hr, rfl⟩ := hc
        exact draw_sound hm hr sr hk (fun G' w' st' a' sr' hk' => ⟨G', st', sr', hk'⟩)
      · cases hc
    · rename_i hd
      have : draw = false := by simpa using hd
      subst this
      simp only [Option.map_eq_some_iff] at hc
      obtain ⟨al, hal, rfl⟩ := hc
      exact wp_region_list (vcOps_sound (fun G' w' st' a' sr' hk' => ⟨G', _, sr'.clearR, hk'⟩) ops.toList al sr hal hk)
  | seq x y ihx ihy =>
    intro ac hc K G w st a sr hk
    simp only [cC] at hc
    split at hc
    · rename_i ax ay hx hy
      cases hc
      refine wp_seq (wp_mono (ihx ax hx sr hk) ?_)
      intro e a' w' hp
      cases e with
      | normal => obtain ⟨G', st', sr', hk'⟩ := hp; exact ihy ay hy sr' hk'
      | exit id => exact hp
      | ret => exact hp
      | goto l => exact hp
      | panic c => exact hp
      | outgrown => exact hp
    · cases hc
  | cond x y z ihy ihz =>
    intro ac hc K G w st a sr hk
    simp only [cC] at hc
    split at hc
    · rename_i ay az hy hz
      cases hc
      simp only [vc] at hk
      split at hk
      · rename_i t ht
        have hv := sr.stands x
        rw [ht] at hv
        generalize hq : a.eval x = v at hv
        cases hv
        refine wp_cond_split hq (fun e => ?_) (fun e => ?_)
        · exact ihy ay hy sr (hk.1 e)
        · exact ihz az hz sr (hk.2 e)
      · exact hk.elim
    · cases hc
  | block id b ih =>
    intro ac hc K G w st a sr hk
    simp only [cC, Option.map_eq_some_iff] at hc
    obtain ⟨ab, hb, rfl⟩ := hc
    refine wp_block (wp_mono (ih ab hb sr hk) ?_)
    intro e a' w' hp
    cases e with
    | normal => exact hp
    | exit id' =>
      obtain ⟨G', st', sr', hk'⟩ := hp
      simp only at hk'
      simp only [Exit.inBlock]
      split <;> rename_i h
      · rw [if_pos h] at hk'; exact ⟨G', st', sr', hk'⟩
      · rw [if_neg h] at hk'; exact ⟨G', st', sr', hk'⟩
    | ret => exact hp
    | goto l => exact hp
    | panic c => exact hp
    | outgrown => exact hp
  | loop b ih =>
    intro ac hc K G w st a sr hk
    simp only [cC, Option.map_eq_some_iff] at hc
    obtain ⟨ab, hb, rfl⟩ := hc
    obtain ⟨I, ⟨m, s0, hwk, h0⟩, hround⟩ := hk
    obtain ⟨G', sr'⟩ := hwk n keep G0 w0 G w a sr
    refine wp_loop_ix (fun m a w => ∃ G s, SR n keep G0 w0 G w s a ∧ I m s) ?_ ⟨G', s0, sr', h0⟩
    rintro m a w ⟨G, s, sr, hI⟩
    refine wp_mono (ih ab hb sr (hround m s hI)) ?_
    intro e a' w' hp
    cases e with
    | normal =>
      obtain ⟨G', st', sr', m', s0, hlt, hwk, hI'⟩ := hp
      obtain ⟨G'', sr''⟩ := hwk n keep G0 w0 G' w' a' sr'
      exact ⟨m', hlt, G'', s0, sr'', hI'⟩
    | exit id => exact hp
    | ret => exact hp
    | goto l => exact hp
    | panic c => exact hp
    | outgrown => exact hp
  | rangeFunc f ps x y _ _ => intro ac hc K G w st a sr hk; simp only [cC, Option.some.injEq] at hc; subst hc; exact hk.elim
  | scope b ih =>
    intro ac hc K G w st a sr hk
    simp only [cC] at hc
    refine wp_scope_straight (wp_mono (ih ac hc sr hk) ?_)
    intro e a' w' hp
    cases e with
    | normal => exact hp
    | exit id => exact hp
    | ret => exact hp
    | goto l => exact hp
    | panic c => exact hp
    | outgrown => exact hp
  | label l => intro ac hc K G w st a sr hk; simp only [cC, Option.some.injEq] at hc; subst hc; exact wp_label ⟨G, st, sr, hk⟩
  | goto l => intro ac hc K G w st a sr hk; simp only [cC, Option.some.injEq] at hc; subst hc; exact hk.elim
  | refuse w => intro ac hc K G w st a sr hk; simp only [cC, Option.some.injEq] at hc; subst hc; exact hk.elim

end
end Glb
