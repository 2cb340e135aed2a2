/-
  Proved: of any members it is told whether they are right, who votes and who belongs to them, in new memory, and whether those that agree are enough, as the law QuorumTells says: it returns true for every input. There are no conditions.
-/
import Derived.Test.YtoijpkpfgamlpaaRows
import Derived.Test.YtoijpkpfgamlpaaIsR
import Derived.Test.YtoijpkpfgamlpaaGlbQuoC
import Derived.Test.YtoijpkpfgamlpaaGlbFitA
import Derived.Test.YtoijpkpfgamlpaaSortX
import Derived.WalkKit
import Derived.ProofKit
import Derived.OpenShut
import Derived.ShutString
namespace Go.Proofs.Ytoijpkpfgamlpaa.quorumTells
open Go.ChangeShapes Go.WideShapes Go.ChangeAt Go.RowKit
open Go.ChangeMaps (open_string shut_string)
set_option linter.unusedVariables false
set_option maxRecDepth 100000

theorem own : ownKnob Try.prog.godebug = none := by kernel_rfl

open Glb in
def shape : List (Bool × List Ty) := [(true, confTy), (false, [.sl 1 [.int .i64]])]

open Glb in
theorem works : YesOk Try.prog 13 := yes_of_run tab_glebelaw10_works_ok (fuel := 200) (d := 12) (by kernel_rfl)
open Glb in
theorem has : HasOk Try.prog 70 := Contains_ok is_slices_Contains_int_int (Index_ok is_slices_Index_int_int)
open Glb in
theorem rhas : HasOk Try.prog 75 := gleberef10_In_ok is_gleberef10_In
open Glb in
theorem won : WonOk Try.prog 19 := quorum_Won_ok is_quorum_Won (enough_ok is_quorum_enough is_quorum_enough_f1 has (count_ok is_quorum_count_int))
open Glb in
theorem sortk : SortKit Try.prog 91 := ⟨by kernel_rfl, fun blk off cap zs w hH hb hl => Any.slices_Sort_int Try.lays189 blk off cap zs w hH hb hl, fun p cap w => Any.slices_Sort_int_none Try.lays189 p cap w⟩
open Glb in
theorem united : UnitedOk Try.prog 73 := united_ok is_quorum_united (Concat_ok is_slices_Concat_int_int (Grow_ok is_slices_Grow_int_int)) (sort_ok sortk) (Compact_ok is_slices_Compact_int_int)
open Glb in
theorem voters : ListOk Try.prog 39 Conf.voters := quorum_Voters_ok is_quorum_Voters united
open Glb in
theorem check : CheckOk Try.prog 38 := quorum_Check_ok is_quorum_Check is_quorum_Check_f1 has (rises_ok is_quorum_rises) (count_ok is_quorum_count_int)
open Glb in
theorem law (dss : List (List D)) (h : FitsAll dss shape) : ACalls Try.prog 10 (argAVs dss shape) [] fun r _ => r = .bool true := by
  obtain ⟨_, _, rfl, h1, h⟩ := FitsAll_cons h
  obtain ⟨_, _, rfl, h2, h⟩ := FitsAll_cons h
  cases FitsAll_nil h
  obtain ⟨x, rfl⟩ := fits_conf h1
  obtain ⟨y, rfl⟩ := fits_intsL h2
  have rwon := gleberef10_Won_ok is_gleberef10_Won (gleberef10_enough_ok is_gleberef10_enough rhas)
  have rall := all_ok is_gleberef10_all (With_ok is_gleberef10_With rhas)
  have rvot := gleberef10_Voters_ok is_gleberef10_Voters rall
  have same := SameInts_ok is_glebekit_SameInts
  exact tells_ok is_glebelaw10_QuorumTells is_glebelaw10_long works (CopyConf_ok is_glebekit_CopyConf (CopyInts_ok is_glebekit_CopyInts)).p (LentInts_ok is_glebekit_LentInts) voters
    (quorum_Members_ok is_quorum_Members united) check (gleberef10_Check_ok is_gleberef10_Check (gleberef10_rising_ok is_gleberef10_rising) rhas) won rwon rvot same (gleberef10_Members_ok is_gleberef10_Members rvot rall)
    (SpoilInts_ok is_glebekit_SpoilInts) (SameConf_ok is_glebekit_SameConf same) (KeptInts_ok is_glebekit_KeptInts same) x y []
theorem shaped : Glb.shapes Try.prog 12 Try.f10.params.toList = some shape := by kernel_rfl

theorem lifted (os : Os) (started : os.Started) (H : Type) (enc : TypeId × Value → H) :
    ReturnsInHanded {} Try.checked os 10 .any (Rows.quorumTellsSpec.pre6 enc Try.prog Try.f10 Rows.quorumTellsRow.domain false) (Rows.quorumTellsSpec.post enc Try.prog Try.f10 false true false false) := by
  refine returnsInHanded_of_change (C := Try.checked) own started (by kernel_rfl) Try.func10
    (ChangeSpec.witness6 (enc := enc) (C := Try.checked) false ⟨#[], #[.agg #[.slice none 0 0, .slice none 0 0, .slice none 0 0], .slice none 0 0], []⟩ 12 (by kernel_rfl) (by kernel_rfl) (by kernel_rfl) (by kernel_rfl)) ?_
  intro W base args ds gs before hval0 hW hcnd _
  have hval : ∀ (j : Nat) t v, Try.f10.params[j]? = some t → args[j]? = some v → Value.okWide Try.prog W .any base t v := hval0
  have hW' := hW
  obtain ⟨p, q, hA0, hV, rfl, hfz, hnd⟩ := hW
  have hA : DataW.TrodAll enc Try.prog W 0 (fun _ => true) true Try.f10.params.toList args.toList ds p := hA0
  obtain ⟨rfl, rfl⟩ := trodVars_none hV
  simp only [List.append_nil] at hW'
  have hlen : ∃ d0 d1, ds = [d0, d1] := by
    rw [Try.params10] at hA
    obtain ⟨v0, v1, x0, x1, p0, p1, h⟩ := trodAll_two hA
    exact ⟨x0, x1, h.2.1⟩
  obtain ⟨d0, d1, rfl⟩ := hlen
  refine (Glb.law_calls (n := 12) shaped law hA (fun j t v a b => hval j t v (by simpa using a) b)).mono fun e W' ⟨he, hg, hsame⟩ => ?_
  subst he
  exact ⟨_, rfl, Glb.post_same (pa := p) (pv := []) hW' (fun _ _ _ => (trodAll_cons_mk (shut_bool Try.underlying4 _) trodAll_mk0))
    (fun sp hsp => Glb.trodAll_stays (by kernel_rfl) hsame _ _ _ _ (by kernel_rfl) hA hW'.lt hsp) (fun _ _ => rfl) (by simp)
    (hg.frame _) hg.2.1 (ok_one (by kernel_rfl) rfl (okWide_bool_mk Try.underlying4 _))⟩

theorem over : Rows.quorumTellsRow.holds Try.pinned (OpenSpec.ofChange Rows.quorumTellsSpec) :=
  OpenClaim.holds_of_wide 10 Try.f10 rfl rfl rfl rfl rfl rfl rfl ⟨rfl, rfl, rfl, rfl, rfl⟩ rfl rfl rfl rfl rfl (by kernel_rfl) Try.func10 (by kernel_rfl)
    (of_decide_eq_true (by kernel_rfl)) (by unfold Func.isWrapper; first | (rw [if_pos (by decide +kernel)]; kernel_rfl) | (rw [if_neg (by decide +kernel)]; exact ⟨rfl, rfl⟩))
    (fun os started H enc _ => lifted os started H enc)

/-- the statement -/
theorem proved : Rows.QuorumTellsSaid :=
  over
#print axioms proved
end Go.Proofs.Ytoijpkpfgamlpaa.quorumTells
