/-
  Proved: what a step of the program's members answers is right, and another one, and whoever is enough ahead of it and whoever is enough behind it have a voter in common, as the law ConfSafe says: it returns true for every input. There are no conditions.
-/
import Derived.Test.YtcegihlhpmdbnaaRows
import Derived.Test.YtcegihlhpmdbnaaIsC
import Derived.Test.YtcegihlhpmdbnaaGlbConC
import Derived.Test.YtcegihlhpmdbnaaGlbConD
import Derived.Test.YtcegihlhpmdbnaaGlbFitA
import Derived.Test.YtcegihlhpmdbnaaSortX
import Derived.WalkKit
import Derived.ProofKit
import Derived.OpenShut
import Derived.ShutString
namespace Go.Proofs.Ytcegihlhpmdbnaa.confSafe
open Go.ChangeShapes Go.WideShapes Go.ChangeAt Go.RowKit
open Go.ChangeMaps (open_string shut_string)
set_option linter.unusedVariables false
set_option maxRecDepth 100000

theorem own : ownKnob Try.prog.godebug = none := by kernel_rfl

open Glb in
def shape : List (Bool × List Ty) := [(true, confTy), (false, [.int .i64]), (false, [.int .i64]), (false, [.sl 1 [.int .i64]]), (false, [.sl 1 [.int .i64]]), (false, [.sl 1 [.int .i64]])]

open Glb in
theorem works : YesOk Try.prog 7 := yes_of_run tab_glebelaw16_works_ok (fuel := 400) (d := 14) (by kernel_rfl)
open Glb in
theorem has : HasOk Try.prog 27 := Contains_ok is_slices_Contains_int_int (Index_ok is_slices_Index_int_int)
open Glb in
theorem rhas : HasOk Try.prog 37 := gleberef10_In_ok is_gleberef10_In
open Glb in
theorem won : WonOk Try.prog 22 := quorum_Won_ok is_quorum_Won (enough_ok is_quorum_enough is_quorum_enough_f1 has (count_ok is_quorum_count_int))
open Glb in
theorem sortk : SortKit Try.prog 50 := ⟨by kernel_rfl, fun blk off cap zs w hH hb hl => Any.slices_Sort_int Try.lays189 blk off cap zs w hH hb hl, fun p cap w => Any.slices_Sort_int_none Try.lays189 p cap w⟩
open Glb in
theorem united : UnitedOk Try.prog 48 := united_ok is_quorum_united (Concat_ok is_slices_Concat_int_int (Grow_ok is_slices_Grow_int_int)) (sort_ok sortk) (Compact_ok is_slices_Compact_int_int)
open Glb in
theorem voters : ListOk Try.prog 23 Conf.voters := quorum_Voters_ok is_quorum_Voters united
open Glb in
theorem check : CheckOk Try.prog 21 := quorum_Check_ok is_quorum_Check is_quorum_Check_f1 has (rises_ok is_quorum_rises) (count_ok is_quorum_count_int)
open Glb in
theorem rcheck : CheckOk Try.prog 38 := gleberef10_Check_ok is_gleberef10_Check (gleberef10_rising_ok is_gleberef10_rising) rhas
open Glb in
theorem clone : CloneOk Try.prog 28 := Clone_ok is_slices_Clone_int_int (cloneKit Try.laysNm215)
open Glb in
theorem may : MayOk Try.prog 26 := conf_may_ok is_conf_may check (busy_ok is_conf_members_busy)
open Glb in
theorem rmay : MayOk Try.prog 36 := gleberef16_forbids_ok is_gleberef16_forbids rcheck (Changing_ok is_gleberef16_Changing)
open Glb in
theorem add : StepOk Try.prog 10 Conf.add := conf_Add_ok is_conf_Add may has clone
open Glb in
theorem drop : StepOk Try.prog 11 Conf.drop := conf_Drop_ok is_conf_Drop may (Index_ok is_slices_Index_int_int) clone (Delete_ok is_slices_Delete_int_int)
open Glb in
theorem next : NextOk Try.prog 12 := conf_Next_ok is_conf_Next is_conf_Next_f1 has check (busy_ok is_conf_members_busy) (ContainsFunc_ok is_slices_ContainsFunc_int_int is_slices_IndexFunc_int_int) clone (joint_ok is_conf_members_joint clone (sort_ok sortk)) (alone_ok is_conf_members_alone clone)
open Glb in
theorem copyI : CopyOk Try.prog 25 .i64 := CopyInts_ok is_glebekit_CopyInts
open Glb in
theorem radd : StepP Try.prog 13 Conf.add := (gleberef16_Add_ok is_gleberef16_Add rmay rhas copyI.clone).p
open Glb in
theorem rdrop : StepP Try.prog 14 Conf.drop := (gleberef16_Drop_ok is_gleberef16_Drop rmay rhas copyI.clone).p
open Glb in
theorem rnext : NextP Try.prog 15 := gleberef16_Next_ok is_gleberef16_Next rcheck (Changing_ok is_gleberef16_Changing) (CopyConf_ok is_glebekit_CopyConf copyI) copyI rhas (With_ok is_gleberef10_With rhas)
open Glb in
theorem same : SameOk Try.prog 41 .i64 := SameInts_ok is_glebekit_SameInts
open Glb in
theorem law (dss : List (List D)) (h : FitsAll dss shape) : ACalls Try.prog 5 (argAVs dss shape) [] fun r _ => r = .bool true := by
  obtain ⟨_, _, rfl, h1, h⟩ := FitsAll_cons h
  obtain ⟨_, _, rfl, h2, h⟩ := FitsAll_cons h
  obtain ⟨_, _, rfl, h3, h⟩ := FitsAll_cons h
  obtain ⟨_, _, rfl, h4, h⟩ := FitsAll_cons h
  obtain ⟨_, _, rfl, h5, h⟩ := FitsAll_cons h
  obtain ⟨_, _, rfl, h6, h⟩ := FitsAll_cons h
  cases FitsAll_nil h
  obtain ⟨x, rfl⟩ := fits_conf h1
  obtain ⟨how, rfl⟩ := fits_int h2
  obtain ⟨n, rfl⟩ := fits_int h3
  obtain ⟨far, rfl⟩ := fits_intsL h4
  obtain ⟨a, rfl⟩ := fits_intsL h5
  obtain ⟨b, rfl⟩ := fits_intsL h6
  exact safe_ok is_glebelaw16_ConfSafe (BigConf_ok is_glebekit_BigConf) works (stepped_ok is_glebelaw16_stepped (Pick_ok is_glebekit_Pick) add.p drop.p next.p) check (SameConf_ok is_glebekit_SameConf same) won (both_ok is_glebelaw16_both) voters x how n far a b []
theorem shaped : Glb.shapes Try.prog 12 Try.f5.params.toList = some shape := by kernel_rfl

theorem lifted (os : Os) (started : os.Started) (H : Type) (enc : TypeId × Value → H) :
    ReturnsInHanded {} Try.checked os 5 .any (Rows.confSafeSpec.pre6 enc Try.prog Try.f5 Rows.confSafeRow.domain false) (Rows.confSafeSpec.post enc Try.prog Try.f5 false true false false) := by
  refine returnsInHanded_of_change (C := Try.checked) own started (by kernel_rfl) Try.func5
    (ChangeSpec.witness6 (enc := enc) (C := Try.checked) false ⟨#[], #[.agg #[.slice none 0 0, .slice none 0 0, .slice none 0 0], .int .i64 0, .int .i64 0, .slice none 0 0, .slice none 0 0, .slice none 0 0], []⟩ 12 (by kernel_rfl) (by kernel_rfl) (by kernel_rfl) (by kernel_rfl)) ?_
  intro W base args ds gs before hval0 hW hcnd _
  have hval : ∀ (j : Nat) t v, Try.f5.params[j]? = some t → args[j]? = some v → Value.okWide Try.prog W .any base t v := hval0
  have hW' := hW
  obtain ⟨p, q, hA0, hV, rfl, hfz, hnd⟩ := hW
  have hA : DataW.TrodAll enc Try.prog W 0 (fun _ => true) true Try.f5.params.toList args.toList ds p := hA0
  obtain ⟨rfl, rfl⟩ := trodVars_none hV
  simp only [List.append_nil] at hW'
  have hlen : ∃ d0 d1 d2 d3 d4 d5, ds = [d0, d1, d2, d3, d4, d5] := by
    rw [Try.params5] at hA
    have hl := Glb.trodAll_len hA
    rcases ds with _ | ⟨d0, _ | ⟨d1, _ | ⟨d2, _ | ⟨d3, _ | ⟨d4, _ | ⟨d5, _ | ⟨d6, _⟩⟩⟩⟩⟩⟩⟩
    all_goals first | exact ⟨_, _, _, _, _, _, rfl⟩ | (exact absurd hl (by simp))
  obtain ⟨d0, d1, d2, d3, d4, d5, rfl⟩ := hlen
  refine (Glb.law_calls (n := 12) shaped law hA (fun j t v a b => hval j t v (by simpa using a) b)).mono fun e W' ⟨he, hg, hsame⟩ => ?_
  subst he
  exact ⟨_, rfl, Glb.post_same (pa := p) (pv := []) hW' (fun _ _ _ => (trodAll_cons_mk (shut_bool Try.underlying4 _) trodAll_mk0))
    (fun sp hsp => Glb.trodAll_stays (by kernel_rfl) hsame _ _ _ _ (by kernel_rfl) hA hW'.lt hsp) (fun _ _ => rfl) (by simp)
    (hg.frame _) hg.2.1 (ok_one (by kernel_rfl) rfl (okWide_bool_mk Try.underlying4 _))⟩

theorem over : Rows.confSafeRow.holds Try.pinned (OpenSpec.ofChange Rows.confSafeSpec) :=
  OpenClaim.holds_of_wide 5 Try.f5 rfl rfl rfl rfl rfl rfl rfl ⟨rfl, rfl, rfl, rfl, rfl⟩ rfl rfl rfl rfl rfl (by kernel_rfl) Try.func5 (by kernel_rfl)
    (of_decide_eq_true (by kernel_rfl)) (by unfold Func.isWrapper; first | (rw [if_pos (by decide +kernel)]; kernel_rfl) | (rw [if_neg (by decide +kernel)]; exact ⟨rfl, rfl⟩))
    (fun os started H enc _ => lifted os started H enc)

/-- the statement -/
theorem proved : Rows.ConfSafeSaid :=
  over
#print axioms proved
end Go.Proofs.Ytcegihlhpmdbnaa.confSafe
