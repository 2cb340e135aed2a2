/-
  Proved: the chapter's examples of layer 14, numbers about their ends, are as the document says: the law VoteKnown returns true. There are no conditions.
-/
import Derived.Test.YtodbhmdfmdfiaaaRows
import Derived.Test.YtodbhmdfmdfiaaaIsVoteK
import Derived.Test.YtodbhmdfmdfiaaaGlbVotA
import Derived.Test.YtodbhmdfmdfiaaaGlbMorA
import Derived.Test.YtodbhmdfmdfiaaaSortX
import Derived.WalkKit
import Derived.ProofKit
import Derived.OpenShut
import Derived.ShutString
namespace Go.Proofs.Ytodbhmdfmdfiaaa.voteKnown
open Go.ChangeShapes Go.WideShapes Go.ChangeAt Go.RowKit
open Go.ChangeMaps (open_string shut_string)
set_option linter.unusedVariables false
set_option maxRecDepth 100000

theorem own : ownKnob Try.prog.godebug = none := by kernel_rfl

open Glb in
theorem copyI : CopyOk Try.prog 52 .i64 := CopyInts_ok is_glebekit_CopyInts
open Glb in
theorem copyB : CopyOk Try.prog 30 .u8 := CopyBytes_ok is_glebekit_CopyBytes
open Glb in
theorem copyConf : CopyConfOk Try.prog 19 := CopyConf_ok is_glebekit_CopyConf copyI
open Glb in
theorem same : SameOk Try.prog 63 .i64 := SameInts_ok is_glebekit_SameInts
open Glb in
theorem sameB : SameOk Try.prog 20 .u8 := SameBytes_ok is_glebekit_SameBytes
open Glb in
theorem sameConf : SameConfOk Try.prog 25 := SameConf_ok is_glebekit_SameConf same
open Glb in
theorem bigConf : BigConfOk Try.prog 17 := BigConf_ok is_glebekit_BigConf
open Glb in
theorem lastI : LastOk Try.prog 89 := rlog_Last_ok is_rlog_Last
open Glb in
theorem rhas : HasOk Try.prog 141 := gleberef10_In_ok is_gleberef10_In
open Glb in
theorem sortk : SortKit Try.prog 135 := ⟨by kernel_rfl, fun blk off cap zs w hH hb hl => Any.slices_Sort_int Try.lays189 blk off cap zs w hH hb hl, fun p cap w => Any.slices_Sort_int_none Try.lays189 p cap w⟩
open Glb in
theorem united : UnitedOk Try.prog 131 := united_ok is_quorum_united (Concat_ok is_slices_Concat_int_int (Grow_ok is_slices_Grow_int_int)) (sort_ok sortk) (Compact_ok is_slices_Compact_int_int)
open Glb in
theorem voters : ListOk Try.prog 115 Conf.voters := quorum_Voters_ok is_quorum_Voters united
open Glb in
theorem pick : PickOk Try.prog 27 := Pick_ok is_glebekit_Pick
open Glb in
theorem copyLog : CopyLogOk Try.prog 79 := CopyLog_ok is_glebekit_CopyLog (CopyEntries_ok is_glebekit_CopyEntries copyB)
open Glb in
theorem newerI : NewerOk Try.prog 87 := rlog_Newer_ok is_rlog_Newer lastI
open Glb in
theorem bigEntries : BigEntriesOk Try.prog 43 := BigEntries_ok is_glebekit_BigEntries
open Glb in
theorem sameLog : SameLogOk Try.prog 83 := SameLog_ok is_glebekit_SameLog (SameEntries_ok is_glebekit_SameEntries (SameEntry_ok is_glebekit_SameEntry sameB))
open Glb in
theorem sameMsgs : SameMsgsOk Try.prog 86 := SameMsgs_ok is_glebekit_SameMsgs (SameMsg_ok is_glebekit_SameMsg (SameEntries_ok is_glebekit_SameEntries (SameEntry_ok is_glebekit_SameEntry sameB)) sameB)
open Glb in
theorem rvoters : ListR Try.prog 116 Conf.voters := gleberef10_Voters_ok is_gleberef10_Voters (all_ok is_gleberef10_all (With_ok is_gleberef10_With rhas))
open Glb in
theorem vTime : TimeOk Try.prog 80 := vote_Timeout_ok is_vote_Timeout
open Glb in
theorem rvTime : TimeOk Try.prog 81 := gleberef14_Timeout_ok is_gleberef14_Timeout
open Glb in
theorem vGrants : GrantsOk Try.prog 40 := vote_Grants_ok is_vote_Grants newerI
open Glb in
theorem rvLast : LastOk Try.prog 113 := gleberef14_Last_ok is_gleberef14_Last
open Glb in
theorem rvGrants : GrantsOk Try.prog 82 := gleberef14_Grants_ok is_gleberef14_Grants rvLast
open Glb in
theorem vAsks : AsksOk Try.prog 84 := vote_Asks_ok is_vote_Asks lastI voters
open Glb in
theorem rvAsks : AsksOk Try.prog 85 := gleberef14_Asks_ok is_gleberef14_Asks rvLast rvoters
open Glb in
theorem vLong : LongOk Try.prog 78 := long14_ok is_glebelaw14_long bigEntries
open Glb in
theorem vSeven : SevenOk Try.prog 34 := seven_ok is_glebelaw14_seven
open Glb in
theorem vAsked : AskedOk Try.prog 36 := asked_ok is_glebelaw14_asked
open Glb in
theorem vWorks : YesOk Try.prog 41 := works14_ok is_glebelaw14_works vTime vSeven vAsked vGrants vAsks
open Glb in
theorem law : ACalls Try.prog 8 [] [] fun r _ => r = .bool true :=
  voteKnown_ok is_glebelaw14_VoteKnown vSeven vAsked
    (tells14_ok is_glebelaw14_VoteTells vLong vWorks copyLog vTime rvTime vGrants rvGrants sameLog)
    (once14_ok is_glebelaw14_VoteOnce vLong vWorks vTime vGrants)
    (whole14_ok is_glebelaw14_VoteWhole vLong vWorks vGrants)
    (askLaw_ok is_glebelaw14_VoteAsks vLong bigConf vWorks copyLog copyConf vAsks rvAsks sameMsgs sameLog sameConf)
    vGrants pick vWorks []
theorem walk (w : World) : Calls Try.prog 8 #[] w fun e w' => e = .returned (.bool true) ∧ Glb.GrownB w w' :=
  Glb.closedA law w

theorem lifted (os : Os) (started : os.Started) (H : Type) (enc : TypeId × Value → H) :
    ReturnsInHanded {} Try.checked os 8 .any (Rows.voteKnownSpec.pre6 enc Try.prog Try.f8 Rows.voteKnownRow.domain false) (Rows.voteKnownSpec.post enc Try.prog Try.f8 false true false false) := by
  refine returnsInHanded_of_change (C := Try.checked) own started (by kernel_rfl) Try.func8
    (ChangeSpec.witness6 (enc := enc) (C := Try.checked) false ⟨#[], #[], []⟩ 8 (by kernel_rfl) (by kernel_rfl) (by kernel_rfl) (by kernel_rfl)) ?_
  intro W base args ds gs before hval0 hW hcnd _
  have hval : ∀ (j : Nat) t v, Try.f8.params[j]? = some t → args[j]? = some v → Value.okWide Try.prog W .any base t v := hval0
  have hW' := hW
  obtain ⟨p, q, hA0, hV, rfl, hfz, hnd⟩ := hW
  have hA : DataW.TrodAll enc Try.prog W 0 (fun _ => true) true Try.f8.params.toList args.toList ds p := hA0
  rw [Try.params8] at hA hval
  obtain ⟨rfl, rfl, rfl⟩ := trodAll_none hA
  obtain ⟨rfl, rfl⟩ := trodVars_none hV
  clear hA0 hval0
  simp only [List.append_nil] at hW'
  refine (walk W).mono fun e W' ⟨he, hg⟩ => ?_
  subst he
  exact ⟨_, rfl, Glb.post_same (pa := []) (pv := []) hW' (fun _ _ _ => (trodAll_cons_mk (shut_bool Try.underlying4 _) trodAll_mk0)) (fun sp _ => rfl) (fun _ _ => rfl) (by simp)
    (hg.frame _) hg.2.1 (ok_one (by kernel_rfl) rfl (okWide_bool_mk Try.underlying4 _))⟩

theorem over : Rows.voteKnownRow.holds Try.pinned (OpenSpec.ofChange Rows.voteKnownSpec) :=
  OpenClaim.holds_of_wide 8 Try.f8 rfl rfl rfl rfl rfl rfl rfl ⟨rfl, rfl, rfl, rfl, rfl⟩ rfl rfl rfl rfl rfl (by kernel_rfl) Try.func8 (by kernel_rfl)
    (of_decide_eq_true (by kernel_rfl)) (by unfold Func.isWrapper; first | (rw [if_pos (by decide +kernel)]; kernel_rfl) | (rw [if_neg (by decide +kernel)]; exact ⟨rfl, rfl⟩))
    (fun os started H enc _ => lifted os started H enc)

/-- the statement -/
theorem proved : Rows.VoteKnownSaid :=
  over
#print axioms proved
end Go.Proofs.Ytodbhmdfmdfiaaa.voteKnown
