/-
  Proved: the chapter's examples of layer 13: the law ImageKnown returns true. There are no conditions.
-/
import Derived.Test.YtodbhmdfmdfiaaaRows
import Derived.Test.YtodbhmdfmdfiaaaIsKnown13
import Derived.Test.YtodbhmdfmdfiaaaGlbKnown13
import Derived.Test.YtodbhmdfmdfiaaaGlbMorA
import Derived.Test.YtodbhmdfmdfiaaaCloneX
import Derived.WalkKit
import Derived.ProofKit
import Derived.OpenShut
import Derived.ShutString
namespace Go.Proofs.Ytodbhmdfmdfiaaa.imageKnown
open Go.ChangeShapes Go.WideShapes Go.ChangeAt Go.RowKit
open Go.ChangeMaps (open_string shut_string)
set_option linter.unusedVariables false
set_option maxRecDepth 100000

theorem own : ownKnob Try.prog.godebug = none := by kernel_rfl

open Glb in
theorem same : SameOk Try.prog 63 .i64 := SameInts_ok is_glebekit_SameInts
open Glb in
theorem sameB : SameOk Try.prog 20 .u8 := SameBytes_ok is_glebekit_SameBytes
open Glb in
theorem sameConf : SameConfOk Try.prog 25 := SameConf_ok is_glebekit_SameConf same
open Glb in
theorem sameHard : SameHardOk Try.prog 92 := SameHard_ok is_glebekit_SameHard (SameLog_ok is_glebekit_SameLog (SameEntries_ok is_glebekit_SameEntries (SameEntry_ok is_glebekit_SameEntry sameB))) sameConf sameB
open Glb in
theorem sameImage : SameImageOk Try.prog 16 := SameImage_ok is_glebekit_SameImage (SameHards_ok is_glebekit_SameHards sameHard) (SameVotes_ok is_glebekit_SameVotes)
open Glb in
theorem pInt : IntP Try.prog 93 := (pack_Int_p is_pack_Int (room_ok is_pack_room) (number_ok is_pack_number)).p
open Glb in
theorem pBlob : BlobP Try.prog 94 := (pack_Blob_ok is_pack_Blob (room_ok is_pack_room) (number_ok is_pack_number)).p
open Glb in
theorem vints : VIntsP Try.prog 96 := ints_v is_image_ints pInt
open Glb in
theorem pConf : PutConfOk Try.prog 62 := image_putConf_ok is_image_putConf (pack_Ints_ok is_pack_Ints (room_ok is_pack_room) (number_ok is_pack_number))
open Glb in
theorem pEntry : PutT Try.prog 122 Entry.c entryC.enc := putEntry_ok is_image_putEntry vints pBlob
open Glb in
theorem pLog : PutT Try.prog 95 Log.c logC.enc := putLog_ok is_image_putLog vints (putEntrys_ok is_image_putList_api_Entry pInt) pEntry
open Glb in
theorem pVote : PutT Try.prog 56 Vote.c voteC.enc := putVote_ok is_image_putVote vints
open Glb in
theorem pHard : PutT Try.prog 55 Hard.c hardC.enc := putHard_ok is_image_putHard vints pLog pConf.p pBlob
open Glb in
theorem pPut : PutImgP Try.prog 21 := Put_ok is_image_Put (putHards_ok is_image_putList_api_Hard pInt) pHard (putVotes_ok is_image_putList_api_Accepted pInt) pVote
open Glb in
theorem cloneKit : CloneKit Try.prog 99 := by
  refine ⟨fun a c w => (cloneZero a c w).mono ?_⟩
  rintro e w' ⟨v, he, hown, hne, hb⟩
  rcases hown.2 with ⟨h1, _⟩ | ⟨g, cap, cur, h1, _⟩
  · exact absurd h1 hne
  · subst h1
    exact ⟨_, _, he, rfl, ⟨hb.os, hb.output, hb.size, fun a ha => World.frozen?_of_block (hb.block _ ha)⟩, hb.block⟩
open Glb in
theorem rdTake : TakeR Try.prog 125 := take_ok is_pack_Reader_take (fail_ok is_pack_Reader_fail)
open Glb in
theorem rdInt : IntR Try.prog 101 := pack_Int_ok is_pack_Reader_Int rdTake
open Glb in
theorem rdBlob : BlobR Try.prog 103 := pack_Blob_r is_pack_Reader_Blob rdInt rdTake
open Glb in
theorem rdInts : IntsR Try.prog 107 := pack_Ints_r is_pack_Reader_Ints rdInt (fail_ok is_pack_Reader_fail)
open Glb in
theorem rdRead : ReadR Try.prog 64 := pack_Read_ok is_pack_Read (CloneB_ok is_slices_Clone_byte_byte cloneKit)
open Glb in
theorem sEntry : GetT Try.prog 127 Entry.c entryC.dec := entry_ok is_image_source_entry rdInt rdBlob
open Glb in
theorem sLog : GetT Try.prog 102 Log.c logC.dec := log_ok is_image_source_log rdInt sEntry (listEntrys_ok is_image_listOf_api_Entry (getEntrys_ok is_image_getList_api_Entry rdInt is_pack_Reader_Left is_pack_Reader_Bad))
open Glb in
theorem sConf : GetT Try.prog 76 Conf.c confC.dec := confG_ok is_image_source_conf rdInts
open Glb in
theorem sVote : GetT Try.prog 68 Vote.c voteC.dec := vote_ok is_image_source_vote rdInt
open Glb in
theorem sHard : GetT Try.prog 66 Hard.c hardC.dec := hard_ok is_image_source_hard rdInt sLog sConf rdBlob
open Glb in
theorem sHards : ListT Try.prog 65 10 Hard.c hardC.dec := listHards_ok is_image_listOf_api_Hard (getHards_ok is_image_getList_api_Hard rdInt is_pack_Reader_Left is_pack_Reader_Bad)
open Glb in
theorem sVotes : ListT Try.prog 67 5 Vote.c voteC.dec := listVotes_ok is_image_listOf_api_Accepted (getVotes_ok is_image_getList_api_Accepted rdInt is_pack_Reader_Left is_pack_Reader_Bad)
open Glb in
theorem aheadI : AheadOk Try.prog 88 := image_ahead_ok is_image_ahead
open Glb in
theorem getI : GetImgOk Try.prog 26 := Get_ok is_image_Get rdRead sHard sHards sVote sVotes is_image_source_end is_pack_Reader_End (image_ordered_ok is_image_ordered aheadI)
open Glb in
theorem lastI : LastOk Try.prog 89 := rlog_Last_ok is_rlog_Last
open Glb in
theorem termI : TermOk Try.prog 90 := rlog_Term_ok is_rlog_Term lastI
open Glb in
theorem pChange : PutT Try.prog 72 Change.c changeC.enc := putChange_ok is_image_putChange vints pLog pConf.p pBlob pVote
open Glb in
theorem sChange : GetT Try.prog 74 Change.c changeC.dec := change_ok is_image_source_change rdInt sLog sConf rdBlob sVote
open Glb in
theorem applyI : ApplyOk Try.prog 14 := Apply_ok is_image_Apply (fresh_ok is_image_fresh pPut rdRead sHard sHards sVote sVotes) (freshChange_ok is_image_freshChange pChange rdRead sChange) (accept_ok is_image_accept aheadI)
  (turn_ok is_image_turn lastI termI (rlog_Cut_ok is_rlog_Cut termI (rlog_fresh_ok is_rlog_fresh)))
open Glb in
theorem known : YesOk Try.prog 13 := known13_ok is_glebelaw13_known (first_ok is_glebelaw13_first) pPut getI applyI sameImage
open Glb in
theorem has : HasOk Try.prog 109 := Contains_ok is_slices_Contains_int_int (Index_ok is_slices_Index_int_int)
open Glb in
theorem check : CheckOk Try.prog 77 := quorum_Check_ok is_quorum_Check is_quorum_Check_f1 has (rises_ok is_quorum_rises) (count_ok is_quorum_count_int)
open Glb in
theorem getF : GetConfOk Try.prog 33 := GetConf_ok is_image_GetConf rdRead sConf is_image_source_end is_pack_Reader_End check
open Glb in
theorem putF : ConfBytesOk Try.prog 23 := image_PutConf_ok is_image_PutConf pConf
open Glb in
theorem law : ACalls Try.prog 6 [] [] fun r _ => r = .bool true :=
  imageKnown_ok is_glebelaw13_ImageKnown pPut sameB getI applyI (first_ok is_glebelaw13_first) putF getF known []
theorem walk (w : World) : Calls Try.prog 6 #[] w fun e w' => e = .returned (.bool true) ∧ Glb.GrownB w w' :=
  Glb.closedA law w

theorem lifted (os : Os) (started : os.Started) (H : Type) (enc : TypeId × Value → H) :
    ReturnsInHanded {} Try.checked os 6 .any (Rows.imageKnownSpec.pre6 enc Try.prog Try.f6 Rows.imageKnownRow.domain false) (Rows.imageKnownSpec.post enc Try.prog Try.f6 false true false false) := by
  refine returnsInHanded_of_change (C := Try.checked) own started (by kernel_rfl) Try.func6
    (ChangeSpec.witness6 (enc := enc) (C := Try.checked) false ⟨#[], #[], []⟩ 8 (by kernel_rfl) (by kernel_rfl) (by kernel_rfl) (by kernel_rfl)) ?_
  intro W base args ds gs before hval0 hW hcnd _
  have hval : ∀ (j : Nat) t v, Try.f6.params[j]? = some t → args[j]? = some v → Value.okWide Try.prog W .any base t v := hval0
  have hW' := hW
  obtain ⟨p, q, hA0, hV, rfl, hfz, hnd⟩ := hW
  have hA : DataW.TrodAll enc Try.prog W 0 (fun _ => true) true Try.f6.params.toList args.toList ds p := hA0
  rw [Try.params6] at hA hval
  obtain ⟨rfl, rfl, rfl⟩ := trodAll_none hA
  obtain ⟨rfl, rfl⟩ := trodVars_none hV
  clear hA0 hval0
  simp only [List.append_nil] at hW'
  refine (walk W).mono fun e W' ⟨he, hg⟩ => ?_
  subst he
  exact ⟨_, rfl, Glb.post_same (pa := []) (pv := []) hW' (fun _ _ _ => (trodAll_cons_mk (shut_bool Try.underlying4 _) trodAll_mk0)) (fun sp _ => rfl) (fun _ _ => rfl) (by simp)
    (hg.frame _) hg.2.1 (ok_one (by kernel_rfl) rfl (okWide_bool_mk Try.underlying4 _))⟩

theorem over : Rows.imageKnownRow.holds Try.pinned (OpenSpec.ofChange Rows.imageKnownSpec) :=
  OpenClaim.holds_of_wide 6 Try.f6 rfl rfl rfl rfl rfl rfl rfl ⟨rfl, rfl, rfl, rfl, rfl⟩ rfl rfl rfl rfl rfl (by kernel_rfl) Try.func6 (by kernel_rfl)
    (of_decide_eq_true (by kernel_rfl)) (by unfold Func.isWrapper; first | (rw [if_pos (by decide +kernel)]; kernel_rfl) | (rw [if_neg (by decide +kernel)]; exact ⟨rfl, rfl⟩))
    (fun os started H enc _ => lifted os started H enc)

/-- the statement -/
theorem proved : Rows.ImageKnownSaid :=
  over
#print axioms proved
end Go.Proofs.Ytodbhmdfmdfiaaa.imageKnown
