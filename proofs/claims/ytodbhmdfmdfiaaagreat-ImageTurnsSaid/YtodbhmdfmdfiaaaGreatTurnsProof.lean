/-
  Proved: an image that is in order becomes by at most 20 changes, of the sizes that the law tells, what the document says, or refuses them for its first reason; what is handed in stays, what is handed out is new memory, and the changes' bytes are the document's: the law ImageTurns returns true for every input. There are no conditions.
-/
import Derived.Test.YtodbhmdfmdfiaaaGreatRows
import Derived.Test.YtodbhmdfmdfiaaaGreatIsTurns
import Derived.Test.YtodbhmdfmdfiaaaGreatGlbTurn4
import Derived.Test.YtodbhmdfmdfiaaaGreatGlbFitI
import Derived.Test.YtodbhmdfmdfiaaaGreatCloneX
import Derived.WalkKit
import Derived.ProofKit
import Derived.OpenShut
import Derived.ShutString
namespace Go.Proofs.YtodbhmdfmdfiaaaGreat.imageTurns
open Go.ChangeShapes Go.WideShapes Go.ChangeAt Go.RowKit
open Go.ChangeMaps (open_string shut_string)
set_option linter.unusedVariables false
set_option maxRecDepth 100000

theorem own : ownKnob Tryz.prog.godebug = none := by kernel_rfl

open Glb in
def shape : List (Bool × List Ty) := [(true, imageTy), (false, [.sl 17 changeTy])]

open Glb in
theorem copyI : CopyOk Tryz.prog 90 .i64 := CopyInts_ok is_glebekit_CopyInts
open Glb in
theorem copyB : CopyOk Tryz.prog 43 .u8 := CopyBytes_ok is_glebekit_CopyBytes
open Glb in
theorem copyConf : CopyConfOk Tryz.prog 42 := CopyConf_ok is_glebekit_CopyConf copyI
open Glb in
theorem copyHard : CopyHardG Tryz.prog 38 := CopyHard_g is_glebekit_CopyHard (CopyLog_ok is_glebekit_CopyLog (CopyEntries_ok is_glebekit_CopyEntries copyB)) copyConf copyB
open Glb in
theorem copyImage : CopyImageP Tryz.prog 8 := CopyImage_ok is_glebekit_CopyImage (CopyVotes_ok is_glebekit_CopyVotes) copyHard
open Glb in
theorem same : SameOk Tryz.prog 81 .i64 := SameInts_ok is_glebekit_SameInts
open Glb in
theorem sameB : SameOk Tryz.prog 17 .u8 := SameBytes_ok is_glebekit_SameBytes
open Glb in
theorem sameConf : SameConfOk Tryz.prog 29 := SameConf_ok is_glebekit_SameConf same
open Glb in
theorem sameHard : SameHardOk Tryz.prog 97 := SameHard_ok is_glebekit_SameHard (SameLog_ok is_glebekit_SameLog (SameEntries_ok is_glebekit_SameEntries (SameEntry_ok is_glebekit_SameEntry sameB))) sameConf sameB
open Glb in
theorem sameImage : SameImageOk Tryz.prog 14 := SameImage_ok is_glebekit_SameImage (SameHards_ok is_glebekit_SameHards sameHard) (SameVotes_ok is_glebekit_SameVotes)
open Glb in
theorem bigConf : BigConfOk Tryz.prog 40 := BigConf_ok is_glebekit_BigConf
open Glb in
theorem few : FewOk Tryz.prog 5 := Few_ok is_glebelaw13_Few (BigHard_ok is_glebekit_BigHard (BigEntries_ok is_glebekit_BigEntries) bigConf)
open Glb in
theorem pInt : IntP Tryz.prog 99 := (pack_Int_p is_pack_Int (room_ok is_pack_room) (number_ok is_pack_number)).p
open Glb in
theorem pBlob : BlobP Tryz.prog 102 := (pack_Blob_ok is_pack_Blob (room_ok is_pack_room) (number_ok is_pack_number)).p
open Glb in
theorem vints : VIntsP Tryz.prog 101 := ints_v is_image_ints pInt
open Glb in
theorem pConf : PutConfOk Tryz.prog 103 := image_putConf_ok is_image_putConf (pack_Ints_ok is_pack_Ints (room_ok is_pack_room) (number_ok is_pack_number))
open Glb in
theorem pEntry : PutT Tryz.prog 129 Entry.c entryC.enc := putEntry_ok is_image_putEntry vints pBlob
open Glb in
theorem pLog : PutT Tryz.prog 100 Log.c logC.enc := putLog_ok is_image_putLog vints (putEntrys_ok is_image_putList_api_Entry pInt) pEntry
open Glb in
theorem pVote : PutT Tryz.prog 88 Vote.c voteC.enc := putVote_ok is_image_putVote vints
open Glb in
theorem pHard : PutT Tryz.prog 87 Hard.c hardC.enc := putHard_ok is_image_putHard vints pLog pConf.p pBlob
open Glb in
theorem pPut : PutImgP Tryz.prog 35 := Put_ok is_image_Put (putHards_ok is_image_putList_api_Hard pInt) pHard (putVotes_ok is_image_putList_api_Accepted pInt) pVote
open Glb in
theorem cloneKit : CloneKit Tryz.prog 105 := by
  refine ⟨fun a c w => (cloneZero a c w).mono ?_⟩
  rintro e w' ⟨v, he, hown, hne, hb⟩
  rcases hown.2 with ⟨h1, _⟩ | ⟨g, cap, cur, h1, _⟩
  · exact absurd h1 hne
  · subst h1
    exact ⟨_, _, he, rfl, ⟨hb.os, hb.output, hb.size, fun a ha => World.frozen?_of_block (hb.block _ ha)⟩, hb.block⟩
open Glb in
theorem rdTake : TakeR Tryz.prog 133 := take_ok is_pack_Reader_take (fail_ok is_pack_Reader_fail)
open Glb in
theorem rdInt : IntR Tryz.prog 107 := pack_Int_ok is_pack_Reader_Int rdTake
open Glb in
theorem rdBlob : BlobR Tryz.prog 109 := pack_Blob_r is_pack_Reader_Blob rdInt rdTake
open Glb in
theorem rdInts : IntsR Tryz.prog 115 := pack_Ints_r is_pack_Reader_Ints rdInt (fail_ok is_pack_Reader_fail)
open Glb in
theorem rdRead : ReadR Tryz.prog 61 := pack_Read_ok is_pack_Read (CloneB_ok is_slices_Clone_byte_byte cloneKit)
open Glb in
theorem sEntry : GetT Tryz.prog 135 Entry.c entryC.dec := entry_ok is_image_source_entry rdInt rdBlob
open Glb in
theorem sLog : GetT Tryz.prog 108 Log.c logC.dec := log_ok is_image_source_log rdInt sEntry (listEntrys_ok is_image_listOf_api_Entry (getEntrys_ok is_image_getList_api_Entry rdInt is_pack_Reader_Left is_pack_Reader_Bad))
open Glb in
theorem sConf : GetT Tryz.prog 78 Conf.c confC.dec := confG_ok is_image_source_conf rdInts
open Glb in
theorem sVote : GetT Tryz.prog 65 Vote.c voteC.dec := vote_ok is_image_source_vote rdInt
open Glb in
theorem sHard : GetT Tryz.prog 63 Hard.c hardC.dec := hard_ok is_image_source_hard rdInt sLog sConf rdBlob
open Glb in
theorem sHards : ListT Tryz.prog 62 10 Hard.c hardC.dec := listHards_ok is_image_listOf_api_Hard (getHards_ok is_image_getList_api_Hard rdInt is_pack_Reader_Left is_pack_Reader_Bad)
open Glb in
theorem sVotes : ListT Tryz.prog 64 5 Vote.c voteC.dec := listVotes_ok is_image_listOf_api_Accepted (getVotes_ok is_image_getList_api_Accepted rdInt is_pack_Reader_Left is_pack_Reader_Bad)
open Glb in
theorem aheadI : AheadOk Tryz.prog 91 := image_ahead_ok is_image_ahead
open Glb in
theorem getI : GetImgOk Tryz.prog 22 := Get_ok is_image_Get rdRead sHard sHards sVote sVotes is_image_source_end is_pack_Reader_End (image_ordered_ok is_image_ordered aheadI)
open Glb in
theorem lastI : LastOk Tryz.prog 92 := rlog_Last_ok is_rlog_Last
open Glb in
theorem termI : TermOk Tryz.prog 93 := rlog_Term_ok is_rlog_Term lastI
open Glb in
theorem pChange : PutT Tryz.prog 55 Change.c changeC.enc := putChange_ok is_image_putChange vints pLog pConf.p pBlob pVote
open Glb in
theorem sChange : GetT Tryz.prog 77 Change.c changeC.dec := change_ok is_image_source_change rdInt sLog sConf rdBlob sVote
open Glb in
theorem applyI : ApplyOk Tryz.prog 12 := Apply_ok is_image_Apply (fresh_ok is_image_fresh pPut rdRead sHard sHards sVote sVotes) (freshChange_ok is_image_freshChange pChange rdRead sChange) (accept_ok is_image_accept aheadI)
  (turn_ok is_image_turn lastI termI (rlog_Cut_ok is_rlog_Cut termI (rlog_fresh_ok is_rlog_fresh)))
open Glb in
theorem known : YesOk Tryz.prog 7 := known13_ok is_glebelaw13_known (first_ok is_glebelaw13_first) pPut getI applyI sameImage
open Glb in
theorem putC : PutChsP Tryz.prog 18 := PutChanges_ok is_image_PutChanges (putChanges_ok is_image_putList_api_Change pInt) pChange
open Glb in
theorem chFew : ChFewOk Tryz.prog 9 := chFew_ok is_glebelaw13_few (BigEntries_ok is_glebekit_BigEntries) bigConf
open Glb in
theorem sameChange : SameChangeOk Tryz.prog 15 := SameChange_ok is_glebekit_SameChange (SameLog_ok is_glebekit_SameLog (SameEntries_ok is_glebekit_SameEntries (SameEntry_ok is_glebekit_SameEntry sameB))) sameConf sameB
open Glb in
theorem rInt : IntOk Tryz.prog 56 := gleberef02_Int_ok is_gleberef02_Int
open Glb in
theorem rBlob : BlobP Tryz.prog 58 := (gleberef02_Blob_ok is_gleberef02_Blob rInt).p
open Glb in
theorem rConf : PutConfOk Tryz.prog 59 := gleberef13_putConf_ok is_gleberef13_putConf (gleberef02_Ints_ok is_gleberef02_Ints rInt)
open Glb in
theorem basesI : BasesOk Tryz.prog 10 := bases_ok is_glebelaw13_bases
open Glb in
theorem rAhead : AheadOk Tryz.prog 34 := gleberef13_ahead_ok is_gleberef13_ahead
open Glb in
theorem rOrd : OrdOk Tryz.prog 6 := gleberef13_ordered_ok is_gleberef13_Ordered rAhead
open Glb in
theorem rLast : LastOk Tryz.prog 95 := gleberef11_Last_ok is_gleberef11_Last
open Glb in
theorem rTerm : TermOk Tryz.prog 123 := gleberef11_Term_ok is_gleberef11_Term rLast
open Glb in
theorem copyLog : CopyLogOk Tryz.prog 41 := CopyLog_ok is_glebekit_CopyLog (CopyEntries_ok is_glebekit_CopyEntries copyB)
open Glb in
theorem copyChange : CopyChangeP Tryz.prog 11 := CopyChange_p is_glebekit_CopyChange copyLog copyConf copyB
open Glb in
theorem copyChanges : CopyChangesP Tryz.prog 19 := CopyChanges_ok is_glebekit_CopyChanges copyChange
open Glb in
theorem rSnapped : SnappedP Tryz.prog 96 := Snapped_ok is_gleberef13_Snapped rTerm (gleberef11_Cut_ok is_gleberef11_Cut rTerm (CopyEntries_ok is_glebekit_CopyEntries copyB))
open Glb in
theorem rTurned : TurnedP Tryz.prog 48 := Turned_ok is_gleberef13_Turned copyHard copyChange rLast (CopyEntries_o is_glebekit_CopyEntries copyB) rSnapped
open Glb in
theorem rApply : RefApplyP Tryz.prog 13 := r_Apply_ok is_gleberef13_Apply (CopyImage_o is_glebekit_CopyImage (CopyVotes_ok is_glebekit_CopyVotes) copyHard) rAhead rTurned
open Glb in
theorem spoilB : SpoilOk Tryz.prog 83 bytesTy := SpoilBytes_ok is_glebekit_SpoilBytes
open Glb in
theorem spoilI : SpoilOk Tryz.prog 84 intsTy := SpoilInts_ok is_glebekit_SpoilInts
open Glb in
theorem spoilE : SpoilOk Tryz.prog 82 (.sl 3 entryT) := SpoilEntries_ok is_glebekit_SpoilEntries spoilB
open Glb in
theorem spoilC : SpoilLT Tryz.prog 31 confTyI := SpoilConf_t is_glebekit_SpoilConf spoilI
open Glb in
theorem spoilImage : SpoilLT Tryz.prog 16 imageTy := SpoilImage_t is_glebekit_SpoilImage (SpoilHard_t is_glebekit_SpoilHard spoilE spoilC spoilB) (SpoilVotes_t is_glebekit_SpoilVotes)
open Glb in
theorem rPutLog : PutT Tryz.prog 60 Log.c logC.enc := r_putLog_ok is_gleberef13_putLog rInt.p rBlob
open Glb in
theorem rPutVote : PutT Tryz.prog 57 Vote.c voteC.enc := r_putVote_ok is_gleberef13_putVote rInt.p
open Glb in
theorem rPutC : PutChsP Tryz.prog 20 := r_PutChanges_ok is_gleberef13_PutChanges rInt.p rPutLog rConf.p rBlob rPutVote
open Glb in
theorem law (dss : List (List D)) (h : FitsAll dss shape) : ACalls Tryz.prog 3 (argAVs dss shape) [] fun r _ => r = .bool true := by
  obtain ⟨_, _, rfl, h1, h⟩ := FitsAll_cons h
  obtain ⟨_, _, rfl, h2, h⟩ := FitsAll_cons h
  cases FitsAll_nil h
  obtain ⟨x, rfl, hx⟩ := fitsR_image h1
  obtain ⟨l, rfl, hl⟩ := fitsR_changesL h2
  exact turns_ok is_glebelaw13_ImageTurns few rOrd known copyImage chFew basesI copyChange applyI rApply sameImage sameChange spoilImage copyChanges putC rPutC sameB x l hx hl []
theorem shaped : Glb.shapes Tryz.prog 12 Tryz.f3.params.toList = some shape := by kernel_rfl

theorem lifted (os : Os) (started : os.Started) (H : Type) (enc : TypeId × Value → H) :
    ReturnsInHanded {} Tryz.checked os 3 .any (Rows.imageTurnsSpec.pre6 enc Tryz.prog Tryz.f3 Rows.imageTurnsRow.domain false) (Rows.imageTurnsSpec.post enc Tryz.prog Tryz.f3 false true false false) := by
  refine returnsInHanded_of_change (C := Tryz.checked) own started (by kernel_rfl) Tryz.func3
    (ChangeSpec.witness6 (enc := enc) (C := Tryz.checked) false ⟨#[], #[.agg #[.slice none 0 0, .slice none 0 0], .slice none 0 0], []⟩ 12 (by kernel_rfl) (by kernel_rfl) (by kernel_rfl) (by kernel_rfl)) ?_
  intro W base args ds gs before hval0 hW hcnd _
  have hval : ∀ (j : Nat) t v, Tryz.f3.params[j]? = some t → args[j]? = some v → Value.okWide Tryz.prog W .any base t v := hval0
  have hW' := hW
  obtain ⟨p, q, hA0, hV, rfl, hfz, hnd⟩ := hW
  have hA : DataW.TrodAll enc Tryz.prog W 0 (fun _ => true) true Tryz.f3.params.toList args.toList ds p := hA0
  obtain ⟨rfl, rfl⟩ := trodVars_none hV
  simp only [List.append_nil] at hW'
  have hlen : ∃ d0 d1, ds = [d0, d1] := by
    rw [Tryz.params3] at hA
    obtain ⟨v0, v1, x0, x1, p0, p1, h⟩ := trodAll_two hA
    exact ⟨x0, x1, h.2.1⟩
  obtain ⟨d0, d1, rfl⟩ := hlen
  refine (Glb.law_calls (n := 12) shaped law hA (fun j t v a b => hval j t v (by simpa using a) b)).mono fun e W' ⟨he, hg, hsame⟩ => ?_
  subst he
  exact ⟨_, rfl, Glb.post_same (pa := p) (pv := []) hW' (fun _ _ _ => (trodAll_cons_mk (shut_bool Tryz.underlying4 _) trodAll_mk0))
    (fun sp hsp => Glb.trodAll_stays (by kernel_rfl) hsame _ _ _ _ (by kernel_rfl) hA hW'.lt hsp) (fun _ _ => rfl) (by simp)
    (hg.frame _) hg.2.1 (ok_one (by kernel_rfl) rfl (okWide_bool_mk Tryz.underlying4 _))⟩

theorem over : Rows.imageTurnsRow.holds Tryz.pinned (OpenSpec.ofChange Rows.imageTurnsSpec) :=
  OpenClaim.holds_of_wide 3 Tryz.f3 rfl rfl rfl rfl rfl rfl rfl ⟨rfl, rfl, rfl, rfl, rfl⟩ rfl rfl rfl rfl rfl (by kernel_rfl) Tryz.func3 (by kernel_rfl)
    (of_decide_eq_true (by kernel_rfl)) (by unfold Func.isWrapper; first | (rw [if_pos (by decide +kernel)]; kernel_rfl) | (rw [if_neg (by decide +kernel)]; exact ⟨rfl, rfl⟩))
    (fun os started H enc _ => lifted os started H enc)

/-- the statement -/
theorem proved : Rows.ImageTurnsSaid :=
  over
#print axioms proved
end Go.Proofs.YtodbhmdfmdfiaaaGreat.imageTurns
