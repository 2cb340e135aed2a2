/-
  Proved: the chapter's examples of a member of a group hold: the law returns true, whatever the world, and changes nothing that was there. There are no conditions.
-/
import Derived.Test.YtdeiamnhnfmilaaGreatRows
import Derived.Test.YtdeiamnhnfmilaaGreatIsKnown
import Derived.Test.YtdeiamnhnfmilaaGreatGlbLaw17c
import Derived.Test.YtdeiamnhnfmilaaGreatGlbConD
import Derived.Test.YtdeiamnhnfmilaaGreatSortX
import Derived.Test.YtdeiamnhnfmilaaGreatCloneX
import Derived.WalkKit
import Derived.ProofKit
import Derived.OpenShut
import Derived.ShutString
namespace Go.Proofs.YtdeiamnhnfmilaaGreat.raftKnown
open Go.ChangeShapes Go.WideShapes Go.ChangeAt Go.RowKit
open Go.ChangeMaps (open_string shut_string)
set_option linter.unusedVariables false
set_option maxRecDepth 100000
theorem own : ownKnob Tryz.prog.godebug = none := by kernel_rfl
open Glb in
theorem pConf : PutConfOk Tryz.prog 219 := image_putConf_ok is_image_putConf (pack_Ints_ok is_pack_Ints (room_ok is_pack_room) (number_ok is_pack_number))
open Glb in
theorem cloneKitB : CloneKit Tryz.prog 107 := by
 refine ⟨fun a c w => (cloneZero a c w).mono ?_⟩
 rintro e w' ⟨v, he, hown, hne, hb⟩
 rcases hown.2 with ⟨h1, _⟩ | ⟨g, cap, cur, h1, _⟩
 ·exact absurd h1 hne
 ·subst h1
  exact ⟨_, _, he, rfl, ⟨hb.os, hb.output, hb.size, fun a ha => World.frozen?_of_block (hb.block _ ha)⟩, hb.block⟩
open Glb in
theorem rdTake : TakeR Tryz.prog 187 := take_ok is_pack_Reader_take (fail_ok is_pack_Reader_fail)
open Glb in
theorem rdInt : IntR Tryz.prog 188 := pack_Int_ok is_pack_Reader_Int rdTake
open Glb in
theorem rdBlob : BlobR Tryz.prog 129 := pack_Blob_r is_pack_Reader_Blob rdInt rdTake
open Glb in
theorem rdInts : IntsR Tryz.prog 182 := pack_Ints_r is_pack_Reader_Ints rdInt (fail_ok is_pack_Reader_fail)
open Glb in
theorem rdRead : ReadR Tryz.prog 113 := pack_Read_ok is_pack_Read (CloneB_ok is_slices_Clone_byte_byte cloneKitB)
open Glb in
theorem sConf : GetT Tryz.prog 114 Conf.c confC.dec := confG_ok is_image_source_conf rdInts
open Glb in
theorem lastI : LastOk Tryz.prog 37 := rlog_Last_ok is_rlog_Last
open Glb in
theorem termI : TermOk Tryz.prog 54 := rlog_Term_ok is_rlog_Term lastI
open Glb in
theorem has : HasOk Tryz.prog 108 := Contains_ok is_slices_Contains_int_int (Index_ok is_slices_Index_int_int)
open Glb in
theorem check : CheckOk Tryz.prog 68 := quorum_Check_ok is_quorum_Check is_quorum_Check_f1 has (rises_ok is_quorum_rises) (count_ok is_quorum_count_int)
open Glb in
theorem getF : GetConfOk Tryz.prog 51 := GetConf_ok is_image_GetConf rdRead sConf is_image_source_end is_pack_Reader_End check
open Glb in
theorem won : WonOk Tryz.prog 40 := quorum_Won_ok is_quorum_Won (enough_ok is_quorum_enough is_quorum_enough_f1 has (count_ok is_quorum_count_int))
open Glb in
theorem sortk : SortKit Tryz.prog 228 := ⟨by kernel_rfl, fun blk off cap zs w hH hb hl => Any.slices_Sort_int Tryz.lays189 blk off cap zs w hH hb hl, fun p cap w => Any.slices_Sort_int_none Tryz.lays189 p cap w⟩
open Glb in
theorem united : UnitedOk Tryz.prog 180 := united_ok is_quorum_united (Concat_ok is_slices_Concat_int_int (Grow_ok is_slices_Grow_int_int)) (sort_ok sortk) (Compact_ok is_slices_Compact_int_int)
open Glb in
theorem voters : ListOk Tryz.prog 109 Conf.voters := quorum_Voters_ok is_quorum_Voters united
open Glb in
theorem clone : CloneOk Tryz.prog 122 := Clone_ok is_slices_Clone_int_int (Glb.cloneKit Tryz.laysNm215)
open Glb in
theorem newerI : NewerOk Tryz.prog 31 := rlog_Newer_ok is_rlog_Newer lastI
open Glb in
theorem vTime : TimeOk Tryz.prog 43 := vote_Timeout_ok is_vote_Timeout
open Glb in
theorem vGrants : GrantsOk Tryz.prog 124 := vote_Grants_ok is_vote_Grants newerI
open Glb in
theorem vAsks : AsksOk Tryz.prog 112 := vote_Asks_ok is_vote_Asks lastI voters
open Glb in
theorem ofI : OfOk Tryz.prog 55 := of_ok is_conf_Of (back_ok16 is_slices_Backward_api_Entry_api_Entry) (backit_ok is_slices_Backward_api_Entry_api_Entry_f1) getF clone
open Glb in
theorem sliceI : SliceOk Tryz.prog 105 := rlog_Slice_ok is_rlog_Slice lastI (rlog_fresh_ok is_rlog_fresh)
open Glb in
theorem appendI : AppendOk Tryz.prog 116 := rlog_Append_ok is_rlog_Append lastI (rlog_fresh_ok is_rlog_fresh) termI
open Glb in
theorem cutI : CutOk Tryz.prog 123 := rlog_Cut_ok is_rlog_Cut termI (rlog_fresh_ok is_rlog_fresh)
open Glb in
theorem membersI : ListOk Tryz.prog 183 Conf.members := quorum_Members_ok is_quorum_Members united
open Glb in
theorem agreedI : AgreedOk Tryz.prog 120 := quorum_Agreed_ok is_quorum_Agreed won
open Glb in
theorem fNextI : NxtOk Tryz.prog 110 := flow_Next_ok is_flow_Next (image_PutConf_ok is_image_PutConf pConf).fp (pack_Blob_ok is_pack_Blob (room_ok is_pack_room) (number_ok is_pack_number)) termI.p sliceI
open Glb in
theorem fNewI : NwOk Tryz.prog 184 := flow_New_fok is_flow_New
open Glb in
theorem fHeardI : HeardOk Tryz.prog 127 := flow_Heard_ok is_flow_Heard
open Glb in
theorem cloneB17 : CloneBOk Tryz.prog 107 := CloneB_ok is_slices_Clone_byte_byte cloneKitB
open Glb in
theorem ixFlow : IndexFlowOk Tryz.prog 125 := indexFlow_ok is_slices_IndexFunc_api_Flow_api_Flow
open Glb in
theorem rfSend : SendOk Tryz.prog 61 := send_ok is_raft_call_send
open Glb in
theorem rfTell : TellOk Tryz.prog 117 := tell_ok is_raft_call_tell
open Glb in
theorem rfNow : NowOk Tryz.prog 58 := now_ok is_raft_Raft_now ofI.p
open Glb in
theorem rfLast : RLastOk Tryz.prog 49 := last17_ok is_raft_Raft_last lastI
open Glb in
theorem rfVoter : VoterOk Tryz.prog 48 := voter_ok is_raft_Raft_voter rfNow voters has
open Glb in
theorem rfBegin : BeginOk Tryz.prog 44 := begin_ok is_raft_Raft_begin
open Glb in
theorem rfFollow : FollowOk Tryz.prog 60 := follow_ok is_raft_Raft_follow
open Glb in
theorem rfTerm : TermSOk Tryz.prog 59 := term17_ok is_raft_call_term rfTell
open Glb in
theorem rfTo : ToOk Tryz.prog 47 := to_ok is_raft_call_to fNextI rfSend
open Glb in
theorem rfEach : EachOk Tryz.prog 46 := each_ok is_raft_Raft_each
open Glb in
theorem rfMeet : RMeetOk Tryz.prog 118 := rmeet_ok is_raft_Raft_meet rfNow membersI fNewI is_raft_Raft_meet_f1 ixFlow
open Glb in
theorem rfSettle : RSettleOk Tryz.prog 53 := rsettle_ok is_raft_call_settle rfLast is_raft_call_settle_f1 rfEach rfNow agreedI termI
open Glb in
theorem rfLay : RLayOk Tryz.prog 52 := rlay_ok is_raft_call_lay rfLast appendI.p sliceI rfTell rfMeet
open Glb in
theorem rfLead : RLeadOk Tryz.prog 111 := rlead_ok is_raft_call_lead rfLast rfMeet rfLay rfTo rfEach rfSettle
open Glb in
theorem rfEnd : REndOk Tryz.prog 45 := rend_ok is_raft_call_end ofI.p voters has rfFollow sliceI
open Glb in
theorem rfEndD : REndD Tryz.prog 45 := rend_d is_raft_call_end ofI.p voters has rfFollow sliceI
open Glb in
theorem rfStand : RStandOk Tryz.prog 50 := rstand_ok is_raft_call_stand rfTerm rfFollow vTime rfNow won rfLead vAsks rfSend
open Glb in
theorem rfAsked : RAskedOk Tryz.prog 62 := rasked_ok is_raft_call_asked vGrants rfTerm rfSend
open Glb in
theorem rfVoted : RVotedOk Tryz.prog 63 := rvoted_ok is_raft_call_voted has rfVoter rfNow won rfLead
open Glb in
theorem rfAnswer : RAnswerOk Tryz.prog 128 := ranswer_ok is_raft_call_answer rfSend
open Glb in
theorem rfHeard : RHeardOk Tryz.prog 64 := rheard_ok is_raft_call_heard is_raft_call_heard_f1 ixFlow fHeardI rfSettle rfLast rfTo
open Glb in
theorem rfAppend : RAppendOk Tryz.prog 65 := rappend_ok is_raft_call_append rfAnswer termI rfLast appendI.p sliceI rfTell
open Glb in
theorem rfFreshConf : FreshConfOk Tryz.prog 106 := freshConf_ok is_raft_freshConf clone
open Glb in
theorem rfBase : RBaseOk Tryz.prog 56 := rbase_ok is_raft_call_base termI cutI.cp rfFreshConf cloneB17 rfTell
open Glb in
theorem rfRestore : RRestoreOk Tryz.prog 66 := rrestore_ok is_raft_call_restore rfAnswer rdRead rdBlob getF.q is_pack_Reader_End rfBase
open Glb in
theorem rfStep : RStepOk Tryz.prog 17 := rstep_ok is_raft_Raft_Step rfBegin rfEndD rfVoter rfTerm rfFollow rfSend rfAsked rfVoted rfHeard rfAppend rfRestore
open Glb in
theorem rfTick : RTickOk Tryz.prog 11 := rtick_ok is_raft_Raft_Tick rfBegin rfEndD rfTo rfEach rfVoter rfLast rfStand
open Glb in
theorem rfPropose : RProposeOk Tryz.prog 12 := rpropose_ok is_raft_Raft_Propose getF.q rfLast rfBegin rfLay rfTo rfEach rfSettle rfEnd
open Glb in
theorem rfRead : RReadOk Tryz.prog 13 := rread_ok is_raft_Raft_Read termI rfBegin rfTo rfEach
open Glb in
theorem rfCompact : RCompactOk Tryz.prog 14 := rcompact_ok is_raft_Raft_Compact ofI.p termI rfBegin rfBase rfEnd
open Glb in
theorem rfSafe : RSafeOk Tryz.prog 16 := rsafe_ok is_raft_Raft_Safe is_raft_Raft_Safe_f1 rfEach rfNow won
open Glb in
theorem rfRole : NumOk Tryz.prog 19 Raft.role := rrole_ok is_raft_Raft_Role
open Glb in
theorem rfLeader : NumOk Tryz.prog 18 Raft.leader := rleader_ok is_raft_Raft_Leader
open Glb in
theorem rfCommit : NumOk Tryz.prog 38 Raft.commit := rcommit_ok is_raft_Raft_Commit
open Glb in
theorem rfFresh : RFreshOk Tryz.prog 42 := rfresh_ok is_raft_fresh sliceI rfFreshConf cloneB17
open Glb in
theorem rfHard : RHardOk Tryz.prog 15 := rhard_ok is_raft_Raft_Hard rfFresh
open Glb in
theorem rfNew : RNewOk Tryz.prog 9 := rnew_ok is_raft_New rfFresh.p vTime
open Glb in
theorem rfAlone : RAloneOk Tryz.prog 10 := ralone_ok is_glebelaw17_alone
open Glb in
theorem rfKnown : RKnownOk Tryz.prog 20 := rknown_ok is_glebelaw17_known rfAlone rfNew rfTick rfRole rfPropose rfCommit
open Glb in
theorem law : ACalls Tryz.prog 3 [] [] fun r _ => r = .bool true :=
 ((raftKnown_ok is_glebelaw17_RaftKnown rfAlone rfNew rfTick rfPropose rfRead rfCompact rfHard rfSafe rfStep rfLeader rfRole rfKnown).2 []).mono fun _ _ h => h.1
theorem walk (w : World) : Calls Tryz.prog 3 #[] w fun e w' => e = .returned (.bool true) /\ Glb.GrownB w w' :=
 Glb.closedA law w
theorem lifted (os : Os) (started : os.Started) (H : Type) (enc : TypeId × Value -> H) :
  ReturnsInHanded {} Tryz.checked os 3 .any (Rows.raftKnownSpec.pre6 enc Tryz.prog Tryz.f3 Rows.raftKnownRow.domain false) (Rows.raftKnownSpec.post enc Tryz.prog Tryz.f3 false true false false) := by
 refine returnsInHanded_of_change (C := Tryz.checked) own started (by kernel_rfl) Tryz.func3
  (ChangeSpec.witness6 (enc := enc) (C := Tryz.checked) false ⟨#[], #[], []⟩ 8 (by kernel_rfl) (by kernel_rfl) (by kernel_rfl) (by kernel_rfl)) ?_
 intro W base args ds gs before hval0 hW hcnd _
 have hval : ∀ (j : Nat) t v, Tryz.f3.params[j]? = some t -> args[j]? = some v -> Value.okWide Tryz.prog W .any base t v := hval0
 have hW' := hW
 obtain ⟨p, q, hA0, hV, rfl, hfz, hnd⟩ := hW
 have hA : DataW.TrodAll enc Tryz.prog W 0 (fun _ => true) true Tryz.f3.params.toList args.toList ds p := hA0
 rw [Tryz.params3] at hA hval
 obtain ⟨rfl, rfl, rfl⟩ := trodAll_none hA
 obtain ⟨rfl, rfl⟩ := trodVars_none hV
 clear hA0 hval0
 simp only [List.append_nil] at hW'
 refine (walk W).mono fun e W' ⟨he, hg⟩ => ?_
 subst he
 exact ⟨_, rfl, Glb.post_same (pa := []) (pv := []) hW' (fun _ _ _ => (trodAll_cons_mk (shut_bool Tryz.underlying4 _) trodAll_mk0)) (fun sp _ => rfl) (fun _ _ => rfl) (by simp)
  (hg.frame _) hg.2.1 (ok_one (by kernel_rfl) rfl (okWide_bool_mk Tryz.underlying4 _))⟩
theorem over : Rows.raftKnownRow.holds Tryz.pinned (OpenSpec.ofChange Rows.raftKnownSpec) :=
 OpenClaim.holds_of_wide 3 Tryz.f3 rfl rfl rfl rfl rfl rfl rfl ⟨rfl, rfl, rfl, rfl, rfl⟩ rfl rfl rfl rfl rfl (by kernel_rfl) Tryz.func3 (by kernel_rfl)
  (of_decide_eq_true (by kernel_rfl)) (by unfold Func.isWrapper; first | (rw [if_pos (by decide +kernel)]; kernel_rfl) | (rw [if_neg (by decide +kernel)]; exact ⟨rfl, rfl⟩))
  (fun os started H enc _ => lifted os started H enc)
theorem proved : Rows.RaftKnownSaid :=
 over
#print axioms proved
end Go.Proofs.YtdeiamnhnfmilaaGreat.raftKnown
