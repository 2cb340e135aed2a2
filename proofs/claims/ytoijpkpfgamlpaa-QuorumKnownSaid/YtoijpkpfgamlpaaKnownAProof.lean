/-
  Proved: the chapter's examples and all members of few nodes are as the document says, as the closed law QuorumKnown says: it returns true, whatever the world. There are no conditions.
-/
import Derived.Test.YtoijpkpfgamlpaaRows
import Derived.Test.YtoijpkpfgamlpaaIsK
import Derived.Test.YtoijpkpfgamlpaaGlbQuoK
import Derived.Test.YtoijpkpfgamlpaaGlbFitA
import Derived.Test.YtoijpkpfgamlpaaSortX
import Derived.WalkKit
import Derived.ProofKit
import Derived.OpenShut
import Derived.ShutString
namespace Go.Proofs.Ytoijpkpfgamlpaa.quorumKnown
open Go.ChangeShapes Go.WideShapes Go.ChangeAt Go.RowKit
open Go.ChangeMaps (open_string shut_string)
set_option linter.unusedVariables false
set_option maxRecDepth 100000

theorem own : ownKnob Try.prog.godebug = none := by kernel_rfl

open Glb in
theorem works : YesOk Try.prog 13 := yes_of_run tab_glebelaw10_works_ok (fuel := 200) (d := 12) (by kernel_rfl)
open Glb in
theorem has : HasOk Try.prog 70 := Contains_ok is_slices_Contains_int_int (Index_ok is_slices_Index_int_int)
open Glb in
theorem rhas : HasOk Try.prog 75 := gleberef10_In_ok is_gleberef10_In
open Glb in
theorem won : WonOk Try.prog 19 := quorum_Won_ok is_quorum_Won (enough_ok is_quorum_enough is_quorum_enough_f1 has (count_ok is_quorum_count_int))
open Glb in
theorem sortk : SortKit Try.prog 91 := ⟨by kernel_rfl, fun blk off cap zs w hH hb hl => Any.slices_Sort_int Try.lays189 blk off cap zs w hH hb hl, fun p cap w => Any.slices_Sort_int_none Try.lays189 p cap w⟩
open Glb in
theorem united : UnitedOk Try.prog 73 := united_ok is_quorum_united (Concat_ok is_slices_Concat_int_int (Grow_ok is_slices_Grow_int_int)) (sort_ok sortk) (Compact_ok is_slices_Compact_int_int)
open Glb in
theorem voters : ListOk Try.prog 39 Conf.voters := quorum_Voters_ok is_quorum_Voters united
open Glb in
theorem check : CheckOk Try.prog 38 := quorum_Check_ok is_quorum_Check is_quorum_Check_f1 has (rises_ok is_quorum_rises) (count_ok is_quorum_count_int)
open Glb in
theorem law : ACalls Try.prog 11 [] [] fun r _ => r = .bool true := by
  have rwon := gleberef10_Won_ok is_gleberef10_Won (gleberef10_enough_ok is_gleberef10_enough rhas)
  have rall := all_ok is_gleberef10_all (With_ok is_gleberef10_With rhas)
  have rvot := gleberef10_Voters_ok is_gleberef10_Voters rall
  have same := SameInts_ok is_glebekit_SameInts
  have agreed := quorum_Agreed_ok is_quorum_Agreed won
  have copyI := CopyInts_ok is_glebekit_CopyInts
  have lent := LentInts_ok is_glebekit_LentInts
  have kept := KeptInts_ok is_glebekit_KeptInts same
  exact known10_ok is_glebelaw10_QuorumKnown
    ⟨is_glebelaw10_QuorumTells.2, fun x y => tells_ok is_glebelaw10_QuorumTells is_glebelaw10_long works (CopyConf_ok is_glebekit_CopyConf copyI).p lent voters
      (quorum_Members_ok is_quorum_Members united) check (gleberef10_Check_ok is_gleberef10_Check (gleberef10_rising_ok is_gleberef10_rising) rhas) won rwon rvot same (gleberef10_Members_ok is_gleberef10_Members rvot rall)
      (SpoilInts_ok is_glebekit_SpoilInts) (SameConf_ok is_glebekit_SameConf same) kept x y []⟩
    ⟨is_glebelaw10_QuorumMore.2, fun x a b => more_ok is_glebelaw10_QuorumMore is_glebelaw10_long works copyI won check voters x a b []⟩
    ⟨is_glebelaw10_QuorumMeets.2, fun x a b => meets_ok is_glebelaw10_QuorumMeets is_glebelaw10_long check works voters won (meet_ok is_glebelaw10_meet (glebelaw10_in_ok is_glebelaw10_in)) x a b []⟩
    ⟨is_glebelaw10_QuorumAgrees.2, fun x a b => agrees_ok is_glebelaw10_QuorumAgrees is_glebelaw10_long works lent agreed (gleberef10_Agreed_ok is_gleberef10_Agreed rwon) kept x a b []⟩
    ⟨is_glebelaw10_QuorumReached.2, fun x a b i j => reached_ok is_glebelaw10_QuorumReached is_glebelaw10_long works agreed (glebelaw10_in_ok is_glebelaw10_in) won copyI (Pick_ok is_glebekit_Pick) x a b i j []⟩
    works
theorem walk (w : World) : Calls Try.prog 11 #[] w fun e w' => e = .returned (.bool true) ∧ Glb.GrownB w w' :=
  Glb.closedA law w

theorem lifted (os : Os) (started : os.Started) (H : Type) (enc : TypeId × Value → H) :
    ReturnsInHanded {} Try.checked os 11 .any (Rows.quorumKnownSpec.pre6 enc Try.prog Try.f11 Rows.quorumKnownRow.domain false) (Rows.quorumKnownSpec.post enc Try.prog Try.f11 false true false false) := by
  refine returnsInHanded_of_change (C := Try.checked) own started (by kernel_rfl) Try.func11
    (ChangeSpec.witness6 (enc := enc) (C := Try.checked) false ⟨#[], #[], []⟩ 8 (by kernel_rfl) (by kernel_rfl) (by kernel_rfl) (by kernel_rfl)) ?_
  intro W base args ds gs before hval0 hW hcnd _
  have hval : ∀ (j : Nat) t v, Try.f11.params[j]? = some t → args[j]? = some v → Value.okWide Try.prog W .any base t v := hval0
  have hW' := hW
  obtain ⟨p, q, hA0, hV, rfl, hfz, hnd⟩ := hW
  have hA : DataW.TrodAll enc Try.prog W 0 (fun _ => true) true Try.f11.params.toList args.toList ds p := hA0
  rw [Try.params11] at hA hval
  obtain ⟨rfl, rfl, rfl⟩ := trodAll_none hA
  obtain ⟨rfl, rfl⟩ := trodVars_none hV
  clear hA0 hval0
  simp only [List.append_nil] at hW'
  refine (walk W).mono fun e W' ⟨he, hg⟩ => ?_
  subst he
  exact ⟨_, rfl, Glb.post_same (pa := []) (pv := []) hW' (fun _ _ _ => (trodAll_cons_mk (shut_bool Try.underlying4 _) trodAll_mk0)) (fun sp _ => rfl) (fun _ _ => rfl) (by simp)
    (hg.frame _) hg.2.1 (ok_one (by kernel_rfl) rfl (okWide_bool_mk Try.underlying4 _))⟩

theorem over : Rows.quorumKnownRow.holds Try.pinned (OpenSpec.ofChange Rows.quorumKnownSpec) :=
  OpenClaim.holds_of_wide 11 Try.f11 rfl rfl rfl rfl rfl rfl rfl ⟨rfl, rfl, rfl, rfl, rfl⟩ rfl rfl rfl rfl rfl (by kernel_rfl) Try.func11 (by kernel_rfl)
    (of_decide_eq_true (by kernel_rfl)) (by unfold Func.isWrapper; first | (rw [if_pos (by decide +kernel)]; kernel_rfl) | (rw [if_neg (by decide +kernel)]; exact ⟨rfl, rfl⟩))
    (fun os started H enc _ => lifted os started H enc)

/-- the statement -/
theorem proved : Rows.QuorumKnownSaid :=
  over
#print axioms proved
end Go.Proofs.Ytoijpkpfgamlpaa.quorumKnown
