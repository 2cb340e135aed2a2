/-
  FlowHears: for every flow, message and number: any flow behind any message is the document's; so is a new one; flows of which something is promised, an Index from 0 to 2^40.
-/
import Derived.Test.YtoijpkpfgamlpaaRows
import Derived.Test.YtoijpkpfgamlpaaIsF
import Derived.Test.YtoijpkpfgamlpaaGlbLaw15
import Derived.Test.YtoijpkpfgamlpaaGlbFits15
import Derived.WalkKit
import Derived.ProofKit
import Derived.OpenShut
import Derived.ShutString
namespace Go.Proofs.Ytoijpkpfgamlpaa.flowHears
open Go.ChangeShapes Go.WideShapes Go.ChangeAt Go.RowKit
open Go.ChangeMaps (open_string shut_string)
set_option linter.unusedVariables false
set_option maxRecDepth 100000

theorem own : ownKnob Try.prog.godebug = none := by kernel_rfl

open Glb in
def shape : List (Bool × List Ty) := [(true, flowTy), (true, msgTy), (false, [.int .i64])]

open Glb in
theorem yes : YesOk Try.prog 24 := yes_of_run tab_glebelaw15_known_ok (fuel := 200) (d := 12) (by kernel_rfl)

open Glb in
theorem law (dss : List (List D)) (h : FitsAll dss shape) : ACalls Try.prog 7 (argAVs dss shape) [] fun r _ => r = .bool true := by
  obtain ⟨_, _, rfl, h1, h⟩ := FitsAll_cons h
  obtain ⟨_, _, rfl, h2, h⟩ := FitsAll_cons h
  obtain ⟨_, _, rfl, h3, h⟩ := FitsAll_cons h
  cases FitsAll_nil h
  obtain ⟨w, rfl⟩ := fits_flow h1
  obtain ⟨m, rfl⟩ := fits_msg h2
  obtain ⟨i, rfl⟩ := fits_int h3
  have copyB := CopyBytes_ok is_glebekit_CopyBytes
  exact hears_ok is_glebelaw15_FlowHears (placed_ok is_glebelaw15_placed) (BigMsg_ok is_glebekit_BigMsg (BigEntries_ok is_glebekit_BigEntries)) yes (CopyMsg_ok is_glebekit_CopyMsg (CopyEntries_ok is_glebekit_CopyEntries copyB) copyB)
    (flow_Heard_ok is_flow_Heard) (gleberef15_Heard_ok is_gleberef15_Heard) (flow_New_ok is_flow_New) (gleberef15_New_ok is_gleberef15_New) w m i []
theorem shaped : Glb.shapes Try.prog 12 Try.f7.params.toList = some shape := by kernel_rfl

theorem lifted (os : Os) (started : os.Started) (H : Type) (enc : TypeId × Value → H) :
    ReturnsInHanded {} Try.checked os 7 .any (Rows.flowHearsSpec.pre6 enc Try.prog Try.f7 Rows.flowHearsRow.domain false) (Rows.flowHearsSpec.post enc Try.prog Try.f7 false true false false) := by
  refine returnsInHanded_of_change (C := Try.checked) own started (by kernel_rfl) Try.func7
    (ChangeSpec.witness6 (enc := enc) (C := Try.checked) false ⟨#[], #[.agg #[.int .i64 0, .int .i64 0, .int .i64 0, .int .i64 0], .agg #[.int .i64 0, .int .i64 0, .int .i64 0, .int .i64 0, .int .i64 0, .int .i64 0, .int .i64 0, .int .i64 0, .int .i64 0, .int .i64 0, .int .i64 0, .int .i64 0, .int .i64 0, .int .i64 0, .bool false, .slice none 0 0, .slice none 0 0], .int .i64 0], []⟩ 12 (by kernel_rfl) (by kernel_rfl) (by kernel_rfl) (by kernel_rfl)) ?_
  intro W base args ds gs before hval0 hW hcnd _
  have hval : ∀ (j : Nat) t v, Try.f7.params[j]? = some t → args[j]? = some v → Value.okWide Try.prog W .any base t v := hval0
  have hW' := hW
  obtain ⟨p, q, hA0, hV, rfl, hfz, hnd⟩ := hW
  have hA : DataW.TrodAll enc Try.prog W 0 (fun _ => true) true Try.f7.params.toList args.toList ds p := hA0
  obtain ⟨rfl, rfl⟩ := trodVars_none hV
  simp only [List.append_nil] at hW'
  have hlen : ∃ d0 d1 d2, ds = [d0, d1, d2] := by
    rw [Try.params7] at hA
    obtain ⟨v0, v1, v2, x0, x1, x2, p0, p1, p2, h⟩ := trodAll_three hA
    exact ⟨x0, x1, x2, h.2.1⟩
  obtain ⟨d0, d1, d2, rfl⟩ := hlen
  refine (Glb.law_calls (n := 12) shaped law hA (fun j t v a b => hval j t v (by simpa using a) b)).mono fun e W' ⟨he, hg, hsame⟩ => ?_
  subst he
  exact ⟨_, rfl, post_of_same (pa := p) (pv := []) hW' (fun _ _ _ => (trodAll_cons_mk (shut_bool Try.underlying4 _) trodAll_mk0))
    (fun sp hsp => Glb.trodAll_stays (by kernel_rfl) hsame _ _ _ _ (by kernel_rfl) hA hW'.lt hsp) (fun _ _ => rfl) (by simp)
    (hg.frame _) hg.2.1 (ok_one (by kernel_rfl) rfl (okWide_bool_mk Try.underlying4 _))⟩

theorem over : Rows.flowHearsRow.holds Try.pinned (OpenSpec.ofChange Rows.flowHearsSpec) :=
  OpenClaim.holds_of_wide 7 Try.f7 rfl rfl rfl rfl rfl rfl rfl ⟨rfl, rfl, rfl, rfl, rfl⟩ rfl rfl rfl rfl rfl (by kernel_rfl) Try.func7 (by kernel_rfl)
    (of_decide_eq_true (by kernel_rfl)) (by unfold Func.isWrapper; first | (rw [if_pos (by decide +kernel)]; kernel_rfl) | (rw [if_neg (by decide +kernel)]; exact ⟨rfl, rfl⟩))
    (fun os started H enc _ => lifted os started H enc)

/-- the statement -/
theorem proved : Rows.FlowHearsSaid :=
  over
#print axioms proved
end Go.Proofs.Ytoijpkpfgamlpaa.flowHears
