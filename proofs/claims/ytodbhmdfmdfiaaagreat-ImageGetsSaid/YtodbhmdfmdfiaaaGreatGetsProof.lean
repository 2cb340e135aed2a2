/-
  Proved: any bytes are the image, the changes, the members that the document says, or none, for its first reason; the bytes handed in stay, what is handed out is new memory: the law ImageGets returns true for every input. There are no conditions.
-/
import Derived.Test.YtodbhmdfmdfiaaaGreatRows
import Derived.Test.YtodbhmdfmdfiaaaGreatIsGets
import Derived.Test.YtodbhmdfmdfiaaaGreatGlbGetA
import Derived.Test.YtodbhmdfmdfiaaaGreatGlbFitI
import Derived.Test.YtodbhmdfmdfiaaaGreatCloneX
import Derived.WalkKit
import Derived.ProofKit
import Derived.OpenShut
import Derived.ShutString
namespace Go.Proofs.YtodbhmdfmdfiaaaGreat.imageGets
open Go.ChangeShapes Go.WideShapes Go.ChangeAt Go.RowKit
open Go.ChangeMaps (open_string shut_string)
set_option linter.unusedVariables false
set_option maxRecDepth 100000

theorem own : ownKnob Tryz.prog.godebug = none := by kernel_rfl

open Glb in
def shape : List (Bool × List Ty) := [(false, [.sl 1 [.int .u8]])]

open Glb in
theorem same : SameOk Tryz.prog 81 .i64 := SameInts_ok is_glebekit_SameInts
open Glb in
theorem sameB : SameOk Tryz.prog 17 .u8 := SameBytes_ok is_glebekit_SameBytes
open Glb in
theorem sameConf : SameConfOk Tryz.prog 29 := SameConf_ok is_glebekit_SameConf same
open Glb in
theorem sameHard : SameHardOk Tryz.prog 97 := SameHard_ok is_glebekit_SameHard (SameLog_ok is_glebekit_SameLog (SameEntries_ok is_glebekit_SameEntries (SameEntry_ok is_glebekit_SameEntry sameB))) sameConf sameB
open Glb in
theorem sameImage : SameImageOk Tryz.prog 14 := SameImage_ok is_glebekit_SameImage (SameHards_ok is_glebekit_SameHards sameHard) (SameVotes_ok is_glebekit_SameVotes)
open Glb in
theorem pInt : IntP Tryz.prog 99 := (pack_Int_p is_pack_Int (room_ok is_pack_room) (number_ok is_pack_number)).p
open Glb in
theorem pBlob : BlobP Tryz.prog 102 := (pack_Blob_ok is_pack_Blob (room_ok is_pack_room) (number_ok is_pack_number)).p
open Glb in
theorem vints : VIntsP Tryz.prog 101 := ints_v is_image_ints pInt
open Glb in
theorem pConf : PutConfOk Tryz.prog 103 := image_putConf_ok is_image_putConf (pack_Ints_ok is_pack_Ints (room_ok is_pack_room) (number_ok is_pack_number))
open Glb in
theorem pEntry : PutT Tryz.prog 129 Entry.c entryC.enc := putEntry_ok is_image_putEntry vints pBlob
open Glb in
theorem pLog : PutT Tryz.prog 100 Log.c logC.enc := putLog_ok is_image_putLog vints (putEntrys_ok is_image_putList_api_Entry pInt) pEntry
open Glb in
theorem pVote : PutT Tryz.prog 88 Vote.c voteC.enc := putVote_ok is_image_putVote vints
open Glb in
theorem pHard : PutT Tryz.prog 87 Hard.c hardC.enc := putHard_ok is_image_putHard vints pLog pConf.p pBlob
open Glb in
theorem pPut : PutImgP Tryz.prog 35 := Put_ok is_image_Put (putHards_ok is_image_putList_api_Hard pInt) pHard (putVotes_ok is_image_putList_api_Accepted pInt) pVote
open Glb in
theorem cloneKit : CloneKit Tryz.prog 105 := by
  refine ⟨fun a c w => (cloneZero a c w).mono ?_⟩
  rintro e w' ⟨v, he, hown, hne, hb⟩
  rcases hown.2 with ⟨h1, _⟩ | ⟨g, cap, cur, h1, _⟩
  · exact absurd h1 hne
  · subst h1
    exact ⟨_, _, he, rfl, ⟨hb.os, hb.output, hb.size, fun a ha => World.frozen?_of_block (hb.block _ ha)⟩, hb.block⟩
open Glb in
theorem rdTake : TakeR Tryz.prog 133 := take_ok is_pack_Reader_take (fail_ok is_pack_Reader_fail)
open Glb in
theorem rdInt : IntR Tryz.prog 107 := pack_Int_ok is_pack_Reader_Int rdTake
open Glb in
theorem rdBlob : BlobR Tryz.prog 109 := pack_Blob_r is_pack_Reader_Blob rdInt rdTake
open Glb in
theorem rdInts : IntsR Tryz.prog 115 := pack_Ints_r is_pack_Reader_Ints rdInt (fail_ok is_pack_Reader_fail)
open Glb in
theorem rdRead : ReadR Tryz.prog 61 := pack_Read_ok is_pack_Read (CloneB_ok is_slices_Clone_byte_byte cloneKit)
open Glb in
theorem sEntry : GetT Tryz.prog 135 Entry.c entryC.dec := entry_ok is_image_source_entry rdInt rdBlob
open Glb in
theorem sLog : GetT Tryz.prog 108 Log.c logC.dec := log_ok is_image_source_log rdInt sEntry (listEntrys_ok is_image_listOf_api_Entry (getEntrys_ok is_image_getList_api_Entry rdInt is_pack_Reader_Left is_pack_Reader_Bad))
open Glb in
theorem sConf : GetT Tryz.prog 78 Conf.c confC.dec := confG_ok is_image_source_conf rdInts
open Glb in
theorem sVote : GetT Tryz.prog 65 Vote.c voteC.dec := vote_ok is_image_source_vote rdInt
open Glb in
theorem sHard : GetT Tryz.prog 63 Hard.c hardC.dec := hard_ok is_image_source_hard rdInt sLog sConf rdBlob
open Glb in
theorem sHards : ListT Tryz.prog 62 10 Hard.c hardC.dec := listHards_ok is_image_listOf_api_Hard (getHards_ok is_image_getList_api_Hard rdInt is_pack_Reader_Left is_pack_Reader_Bad)
open Glb in
theorem sVotes : ListT Tryz.prog 64 5 Vote.c voteC.dec := listVotes_ok is_image_listOf_api_Accepted (getVotes_ok is_image_getList_api_Accepted rdInt is_pack_Reader_Left is_pack_Reader_Bad)
open Glb in
theorem aheadI : AheadOk Tryz.prog 91 := image_ahead_ok is_image_ahead
open Glb in
theorem getI : GetImgOk Tryz.prog 22 := Get_ok is_image_Get rdRead sHard sHards sVote sVotes is_image_source_end is_pack_Reader_End (image_ordered_ok is_image_ordered aheadI)
open Glb in
theorem lastI : LastOk Tryz.prog 92 := rlog_Last_ok is_rlog_Last
open Glb in
theorem termI : TermOk Tryz.prog 93 := rlog_Term_ok is_rlog_Term lastI
open Glb in
theorem pChange : PutT Tryz.prog 55 Change.c changeC.enc := putChange_ok is_image_putChange vints pLog pConf.p pBlob pVote
open Glb in
theorem sChange : GetT Tryz.prog 77 Change.c changeC.dec := change_ok is_image_source_change rdInt sLog sConf rdBlob sVote
open Glb in
theorem applyI : ApplyOk Tryz.prog 12 := Apply_ok is_image_Apply (fresh_ok is_image_fresh pPut rdRead sHard sHards sVote sVotes) (freshChange_ok is_image_freshChange pChange rdRead sChange) (accept_ok is_image_accept aheadI)
  (turn_ok is_image_turn lastI termI (rlog_Cut_ok is_rlog_Cut termI (rlog_fresh_ok is_rlog_fresh)))
open Glb in
theorem known : YesOk Tryz.prog 7 := known13_ok is_glebelaw13_known (first_ok is_glebelaw13_first) pPut getI applyI sameImage
open Glb in
theorem has : HasOk Tryz.prog 117 := Contains_ok is_slices_Contains_int_int (Index_ok is_slices_Index_int_int)
open Glb in
theorem check : CheckOk Tryz.prog 79 := quorum_Check_ok is_quorum_Check is_quorum_Check_f1 has (rises_ok is_quorum_rises) (count_ok is_quorum_count_int)
open Glb in
theorem getC : GetChsOk Tryz.prog 24 := GetChanges_ok is_image_GetChanges rdRead sChange (listChanges_ok is_image_listOf_api_Change (getChanges_ok is_image_getList_api_Change rdInt is_pack_Reader_Left is_pack_Reader_Bad)) is_image_source_end is_pack_Reader_End
open Glb in
theorem getF : GetConfOk Tryz.prog 26 := GetConf_ok is_image_GetConf rdRead sConf is_image_source_end is_pack_Reader_End check
open Glb in
theorem rhas : HasOk Tryz.prog 121 := gleberef10_In_ok is_gleberef10_In
open Glb in
theorem rcheck : CheckOk Tryz.prog 80 := gleberef10_Check_ok is_gleberef10_Check (gleberef10_rising_ok is_gleberef10_rising) rhas
open Glb in
theorem sameChange : SameChangeOk Tryz.prog 15 := SameChange_ok is_glebekit_SameChange (SameLog_ok is_glebekit_SameLog (SameEntries_ok is_glebekit_SameEntries (SameEntry_ok is_glebekit_SameEntry sameB))) sameConf sameB
open Glb in
theorem sameChanges : SameChangesOk Tryz.prog 28 := SameChanges_ok is_glebekit_SameChanges sameChange
open Glb in
theorem rAhead : AheadOk Tryz.prog 34 := gleberef13_ahead_ok is_gleberef13_ahead
open Glb in
theorem rOrd : OrdOk Tryz.prog 6 := gleberef13_ordered_ok is_gleberef13_Ordered rAhead
open Glb in
theorem spoilB : SpoilOk Tryz.prog 83 bytesTy := SpoilBytes_ok is_glebekit_SpoilBytes
open Glb in
theorem spoilI : SpoilOk Tryz.prog 84 intsTy := SpoilInts_ok is_glebekit_SpoilInts
open Glb in
theorem spoilE : SpoilOk Tryz.prog 82 (.sl 3 entryT) := SpoilEntries_ok is_glebekit_SpoilEntries spoilB
open Glb in
theorem spoilC : SpoilLT Tryz.prog 31 confTyI := SpoilConf_t is_glebekit_SpoilConf spoilI
open Glb in
theorem spoilImage : SpoilLT Tryz.prog 16 imageTy := SpoilImage_t is_glebekit_SpoilImage (SpoilHard_t is_glebekit_SpoilHard spoilE spoilC spoilB) (SpoilVotes_t is_glebekit_SpoilVotes)
open Glb in
theorem rLeft : LeftRR Tryz.prog 112 := Left_rr is_gleberef02_Reader_Left
open Glb in
theorem rrInt : IntRR Tryz.prog 70 := Int_rr is_gleberef02_Reader_Int rLeft
open Glb in
theorem rrBlob : BlobRR Tryz.prog 73 := Blob_rr is_gleberef02_Reader_Blob rrInt rLeft
open Glb in
theorem rrInts : IntsRR Tryz.prog 113 := Ints_rr is_gleberef02_Reader_Ints rrInt rLeft
open Glb in
theorem rrRead : ReadRR Tryz.prog 68 := Read_rr is_gleberef02_Read
open Glb in
theorem rrMany : RP Tryz.prog 69 (fun st r => r = .int .i64 (rMany st).1) (fun st => (rMany st).2) := many_rr is_gleberef13_many rrInt rLeft
open Glb in
theorem rrVote : GetRR Tryz.prog 74 Vote.c voteC.dec := getVote_rr is_gleberef13_getVote rrInt
open Glb in
theorem rrConf : GetRR Tryz.prog 72 Conf.c confC.dec := getConf_rr is_gleberef13_getConf rrInts
open Glb in
theorem rrLog : GetRR Tryz.prog 71 Log.c logC.dec := getLog_rr is_gleberef13_getLog rrInt rrMany rrBlob
open Glb in
theorem rGetI : GetImgP Tryz.prog 23 := r_Get_ok is_gleberef13_Get rrRead rrMany rrInt rrLog rrConf rrBlob rrVote is_gleberef02_Reader_End rLeft rOrd
open Glb in
theorem rGetC : GetChsP Tryz.prog 25 := r_GetChanges_ok is_gleberef13_GetChanges rrRead rrMany rrInt rrLog rrConf rrBlob rrVote is_gleberef02_Reader_End rLeft
open Glb in
theorem rGetF : GetConfP Tryz.prog 27 := r_GetConf_ok is_gleberef13_GetConf rrRead rrConf is_gleberef02_Reader_End rLeft rcheck
open Glb in
theorem lentB : LentBytesP Tryz.prog 21 := LentBytes_ok is_glebekit_LentBytes
open Glb in
theorem keptB : KeptBOk Tryz.prog 32 := KeptBytes_ok is_glebekit_KeptBytes sameB
open Glb in
theorem spoilChs : SpoilChsP Tryz.prog 30 := SpoilChanges_t is_glebekit_SpoilChanges spoilE spoilC spoilB
open Glb in
theorem law (dss : List (List D)) (h : FitsAll dss shape) : ACalls Tryz.prog 4 (argAVs dss shape) [] fun r _ => r = .bool true := by
  obtain ⟨_, _, rfl, h1, h⟩ := FitsAll_cons h
  cases FitsAll_nil h
  obtain ⟨l, rfl, hb⟩ := fitsR_bytesL h1
  exact gets_ok is_glebelaw13_ImageGets known lentB getI rGetI getC rGetC getF rGetF sameImage sameChanges sameConf spoilImage spoilChs spoilC keptB l hb []
theorem shaped : Glb.shapes Tryz.prog 12 Tryz.f4.params.toList = some shape := by kernel_rfl

theorem lifted (os : Os) (started : os.Started) (H : Type) (enc : TypeId × Value → H) :
    ReturnsInHanded {} Tryz.checked os 4 .any (Rows.imageGetsSpec.pre6 enc Tryz.prog Tryz.f4 Rows.imageGetsRow.domain false) (Rows.imageGetsSpec.post enc Tryz.prog Tryz.f4 false true false false) := by
  refine returnsInHanded_of_change (C := Tryz.checked) own started (by kernel_rfl) Tryz.func4
    (ChangeSpec.witness6 (enc := enc) (C := Tryz.checked) false ⟨#[], #[.slice none 0 0], []⟩ 12 (by kernel_rfl) (by kernel_rfl) (by kernel_rfl) (by kernel_rfl)) ?_
  intro W base args ds gs before hval0 hW hcnd _
  have hval : ∀ (j : Nat) t v, Tryz.f4.params[j]? = some t → args[j]? = some v → Value.okWide Tryz.prog W .any base t v := hval0
  have hW' := hW
  obtain ⟨p, q, hA0, hV, rfl, hfz, hnd⟩ := hW
  have hA : DataW.TrodAll enc Tryz.prog W 0 (fun _ => true) true Tryz.f4.params.toList args.toList ds p := hA0
  obtain ⟨rfl, rfl⟩ := trodVars_none hV
  simp only [List.append_nil] at hW'
  have hlen : ∃ d0, ds = [d0] := by
    rw [Tryz.params4] at hA
    obtain ⟨v0, x0, h⟩ := trodAll_one hA
    exact ⟨x0, h.2.1⟩
  obtain ⟨d0, rfl⟩ := hlen
  refine (Glb.law_calls (n := 12) shaped law hA (fun j t v a b => hval j t v (by simpa using a) b)).mono fun e W' ⟨he, hg, hsame⟩ => ?_
  subst he
  exact ⟨_, rfl, Glb.post_same (pa := p) (pv := []) hW' (fun _ _ _ => (trodAll_cons_mk (shut_bool Tryz.underlying4 _) trodAll_mk0))
    (fun sp hsp => Glb.trodAll_stays (by kernel_rfl) hsame _ _ _ _ (by kernel_rfl) hA hW'.lt hsp) (fun _ _ => rfl) (by simp)
    (hg.frame _) hg.2.1 (ok_one (by kernel_rfl) rfl (okWide_bool_mk Tryz.underlying4 _))⟩

theorem over : Rows.imageGetsRow.holds Tryz.pinned (OpenSpec.ofChange Rows.imageGetsSpec) :=
  OpenClaim.holds_of_wide 4 Tryz.f4 rfl rfl rfl rfl rfl rfl rfl ⟨rfl, rfl, rfl, rfl, rfl⟩ rfl rfl rfl rfl rfl (by kernel_rfl) Tryz.func4 (by kernel_rfl)
    (of_decide_eq_true (by kernel_rfl)) (by unfold Func.isWrapper; first | (rw [if_pos (by decide +kernel)]; kernel_rfl) | (rw [if_neg (by decide +kernel)]; exact ⟨rfl, rfl⟩))
    (fun os started H enc _ => lifted os started H enc)

/-- the statement -/
theorem proved : Rows.ImageGetsSaid :=
  over
#print axioms proved
end Go.Proofs.YtodbhmdfmdfiaaaGreat.imageGets
