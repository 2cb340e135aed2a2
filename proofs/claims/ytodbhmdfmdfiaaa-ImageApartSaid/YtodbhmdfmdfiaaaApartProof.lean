/-
  Proved: behind a change that is taken an image is in order, all that the change is not about is as it was, what it is about is there once, and the same change once more changes nothing; a change that is refused hands out nothing: the law ImageApart returns true for every input. There are no conditions.
-/
import Derived.Test.YtodbhmdfmdfiaaaRows
import Derived.Test.YtodbhmdfmdfiaaaIsApart
import Derived.Test.YtodbhmdfmdfiaaaGlbLaw13e
import Derived.Test.YtodbhmdfmdfiaaaGlbFitI
import Derived.Test.YtodbhmdfmdfiaaaCloneX
import Derived.WalkKit
import Derived.ProofKit
import Derived.OpenShut
import Derived.ShutString
namespace Go.Proofs.Ytodbhmdfmdfiaaa.imageApart
open Go.ChangeShapes Go.WideShapes Go.ChangeAt Go.RowKit
open Go.ChangeMaps (open_string shut_string)
set_option linter.unusedVariables false
set_option maxRecDepth 100000

theorem own : ownKnob Try.prog.godebug = none := by kernel_rfl

open Glb in
def shape : List (Bool × List Ty) := [(true, imageTy), (true, changeTy)]

open Glb in
theorem same : SameOk Try.prog 63 .i64 := SameInts_ok is_glebekit_SameInts
open Glb in
theorem sameB : SameOk Try.prog 20 .u8 := SameBytes_ok is_glebekit_SameBytes
open Glb in
theorem sameConf : SameConfOk Try.prog 25 := SameConf_ok is_glebekit_SameConf same
open Glb in
theorem sameHard : SameHardOk Try.prog 92 := SameHard_ok is_glebekit_SameHard (SameLog_ok is_glebekit_SameLog (SameEntries_ok is_glebekit_SameEntries (SameEntry_ok is_glebekit_SameEntry sameB))) sameConf sameB
open Glb in
theorem sameImage : SameImageOk Try.prog 16 := SameImage_ok is_glebekit_SameImage (SameHards_ok is_glebekit_SameHards sameHard) (SameVotes_ok is_glebekit_SameVotes)
open Glb in
theorem bigConf : BigConfOk Try.prog 17 := BigConf_ok is_glebekit_BigConf
open Glb in
theorem few : FewOk Try.prog 9 := Few_ok is_glebelaw13_Few (BigHard_ok is_glebekit_BigHard (BigEntries_ok is_glebekit_BigEntries) bigConf)
open Glb in
theorem pInt : IntP Try.prog 93 := (pack_Int_p is_pack_Int (room_ok is_pack_room) (number_ok is_pack_number)).p
open Glb in
theorem pBlob : BlobP Try.prog 94 := (pack_Blob_ok is_pack_Blob (room_ok is_pack_room) (number_ok is_pack_number)).p
open Glb in
theorem vints : VIntsP Try.prog 96 := ints_v is_image_ints pInt
open Glb in
theorem pConf : PutConfOk Try.prog 62 := image_putConf_ok is_image_putConf (pack_Ints_ok is_pack_Ints (room_ok is_pack_room) (number_ok is_pack_number))
open Glb in
theorem pEntry : PutT Try.prog 122 Entry.c entryC.enc := putEntry_ok is_image_putEntry vints pBlob
open Glb in
theorem pLog : PutT Try.prog 95 Log.c logC.enc := putLog_ok is_image_putLog vints (putEntrys_ok is_image_putList_api_Entry pInt) pEntry
open Glb in
theorem pVote : PutT Try.prog 56 Vote.c voteC.enc := putVote_ok is_image_putVote vints
open Glb in
theorem pHard : PutT Try.prog 55 Hard.c hardC.enc := putHard_ok is_image_putHard vints pLog pConf.p pBlob
open Glb in
theorem pPut : PutImgP Try.prog 21 := Put_ok is_image_Put (putHards_ok is_image_putList_api_Hard pInt) pHard (putVotes_ok is_image_putList_api_Accepted pInt) pVote
open Glb in
theorem cloneKit : CloneKit Try.prog 99 := by
  refine ⟨fun a c w => (cloneZero a c w).mono ?_⟩
  rintro e w' ⟨v, he, hown, hne, hb⟩
  rcases hown.2 with ⟨h1, _⟩ | ⟨g, cap, cur, h1, _⟩
  · exact absurd h1 hne
  · subst h1
    exact ⟨_, _, he, rfl, ⟨hb.os, hb.output, hb.size, fun a ha => World.frozen?_of_block (hb.block _ ha)⟩, hb.block⟩
open Glb in
theorem rdTake : TakeR Try.prog 125 := take_ok is_pack_Reader_take (fail_ok is_pack_Reader_fail)
open Glb in
theorem rdInt : IntR Try.prog 101 := pack_Int_ok is_pack_Reader_Int rdTake
open Glb in
theorem rdBlob : BlobR Try.prog 103 := pack_Blob_r is_pack_Reader_Blob rdInt rdTake
open Glb in
theorem rdInts : IntsR Try.prog 107 := pack_Ints_r is_pack_Reader_Ints rdInt (fail_ok is_pack_Reader_fail)
open Glb in
theorem rdRead : ReadR Try.prog 64 := pack_Read_ok is_pack_Read (CloneB_ok is_slices_Clone_byte_byte cloneKit)
open Glb in
theorem sEntry : GetT Try.prog 127 Entry.c entryC.dec := entry_ok is_image_source_entry rdInt rdBlob
open Glb in
theorem sLog : GetT Try.prog 102 Log.c logC.dec := log_ok is_image_source_log rdInt sEntry (listEntrys_ok is_image_listOf_api_Entry (getEntrys_ok is_image_getList_api_Entry rdInt is_pack_Reader_Left is_pack_Reader_Bad))
open Glb in
theorem sConf : GetT Try.prog 76 Conf.c confC.dec := confG_ok is_image_source_conf rdInts
open Glb in
theorem sVote : GetT Try.prog 68 Vote.c voteC.dec := vote_ok is_image_source_vote rdInt
open Glb in
theorem sHard : GetT Try.prog 66 Hard.c hardC.dec := hard_ok is_image_source_hard rdInt sLog sConf rdBlob
open Glb in
theorem sHards : ListT Try.prog 65 10 Hard.c hardC.dec := listHards_ok is_image_listOf_api_Hard (getHards_ok is_image_getList_api_Hard rdInt is_pack_Reader_Left is_pack_Reader_Bad)
open Glb in
theorem sVotes : ListT Try.prog 67 5 Vote.c voteC.dec := listVotes_ok is_image_listOf_api_Accepted (getVotes_ok is_image_getList_api_Accepted rdInt is_pack_Reader_Left is_pack_Reader_Bad)
open Glb in
theorem aheadI : AheadOk Try.prog 88 := image_ahead_ok is_image_ahead
open Glb in
theorem getI : GetImgOk Try.prog 26 := Get_ok is_image_Get rdRead sHard sHards sVote sVotes is_image_source_end is_pack_Reader_End (image_ordered_ok is_image_ordered aheadI)
open Glb in
theorem lastI : LastOk Try.prog 89 := rlog_Last_ok is_rlog_Last
open Glb in
theorem termI : TermOk Try.prog 90 := rlog_Term_ok is_rlog_Term lastI
open Glb in
theorem pChange : PutT Try.prog 72 Change.c changeC.enc := putChange_ok is_image_putChange vints pLog pConf.p pBlob pVote
open Glb in
theorem sChange : GetT Try.prog 74 Change.c changeC.dec := change_ok is_image_source_change rdInt sLog sConf rdBlob sVote
open Glb in
theorem applyI : ApplyOk Try.prog 14 := Apply_ok is_image_Apply (fresh_ok is_image_fresh pPut rdRead sHard sHards sVote sVotes) (freshChange_ok is_image_freshChange pChange rdRead sChange) (accept_ok is_image_accept aheadI)
  (turn_ok is_image_turn lastI termI (rlog_Cut_ok is_rlog_Cut termI (rlog_fresh_ok is_rlog_fresh)))
open Glb in
theorem known : YesOk Try.prog 13 := known13_ok is_glebelaw13_known (first_ok is_glebelaw13_first) pPut getI applyI sameImage
open Glb in
theorem ordL : OrdOk Try.prog 10 := law_ordered_ok is_glebelaw13_ordered
open Glb in
theorem chFew : ChFewOk Try.prog 12 := chFew_ok is_glebelaw13_few (BigEntries_ok is_glebekit_BigEntries) bigConf
open Glb in
theorem basesI : BasesOk Try.prog 11 := bases_ok is_glebelaw13_bases
open Glb in
theorem withoutI : WithoutP Try.prog 15 := without_ok is_glebelaw13_without
open Glb in
theorem law (dss : List (List D)) (h : FitsAll dss shape) : ACalls Try.prog 3 (argAVs dss shape) [] fun r _ => r = .bool true := by
  obtain ⟨_, _, rfl, h1, h⟩ := FitsAll_cons h
  obtain ⟨_, _, rfl, h2, h⟩ := FitsAll_cons h
  cases FitsAll_nil h
  obtain ⟨x, rfl, hx⟩ := fitsR_image h1
  obtain ⟨c, rfl, hc⟩ := fitsR_change h2
  exact apart_ok is_glebelaw13_ImageApart few ordL basesI chFew known applyI withoutI sameImage x c hx hc []
theorem shaped : Glb.shapes Try.prog 12 Try.f3.params.toList = some shape := by kernel_rfl

theorem lifted (os : Os) (started : os.Started) (H : Type) (enc : TypeId × Value → H) :
    ReturnsInHanded {} Try.checked os 3 .any (Rows.imageApartSpec.pre6 enc Try.prog Try.f3 Rows.imageApartRow.domain false) (Rows.imageApartSpec.post enc Try.prog Try.f3 false true false false) := by
  refine returnsInHanded_of_change (C := Try.checked) own started (by kernel_rfl) Try.func3
    (ChangeSpec.witness6 (enc := enc) (C := Try.checked) false ⟨#[], #[.agg #[.slice none 0 0, .slice none 0 0], .agg #[.int .i64 0, .int .i64 0, .int .i64 0, .int .i64 0, .int .i64 0, .int .i64 0, .int .i64 0, .slice none 0 0, .slice none 0 0, .slice none 0 0, .slice none 0 0, .slice none 0 0, .int .i64 0, .int .i64 0, .int .i64 0, .int .i64 0, .int .i64 0]], []⟩ 12 (by kernel_rfl) (by kernel_rfl) (by kernel_rfl) (by kernel_rfl)) ?_
  intro W base args ds gs before hval0 hW hcnd _
  have hval : ∀ (j : Nat) t v, Try.f3.params[j]? = some t → args[j]? = some v → Value.okWide Try.prog W .any base t v := hval0
  have hW' := hW
  obtain ⟨p, q, hA0, hV, rfl, hfz, hnd⟩ := hW
  have hA : DataW.TrodAll enc Try.prog W 0 (fun _ => true) true Try.f3.params.toList args.toList ds p := hA0
  obtain ⟨rfl, rfl⟩ := trodVars_none hV
  simp only [List.append_nil] at hW'
  have hlen : ∃ d0 d1, ds = [d0, d1] := by
    rw [Try.params3] at hA
    obtain ⟨v0, v1, x0, x1, p0, p1, h⟩ := trodAll_two hA
    exact ⟨x0, x1, h.2.1⟩
  obtain ⟨d0, d1, rfl⟩ := hlen
  refine (Glb.law_calls (n := 12) shaped law hA (fun j t v a b => hval j t v (by simpa using a) b)).mono fun e W' ⟨he, hg, hsame⟩ => ?_
  subst he
  exact ⟨_, rfl, Glb.post_same (pa := p) (pv := []) hW' (fun _ _ _ => (trodAll_cons_mk (shut_bool Try.underlying4 _) trodAll_mk0))
    (fun sp hsp => Glb.trodAll_stays (by kernel_rfl) hsame _ _ _ _ (by kernel_rfl) hA hW'.lt hsp) (fun _ _ => rfl) (by simp)
    (hg.frame _) hg.2.1 (ok_one (by kernel_rfl) rfl (okWide_bool_mk Try.underlying4 _))⟩

theorem over : Rows.imageApartRow.holds Try.pinned (OpenSpec.ofChange Rows.imageApartSpec) :=
  OpenClaim.holds_of_wide 3 Try.f3 rfl rfl rfl rfl rfl rfl rfl ⟨rfl, rfl, rfl, rfl, rfl⟩ rfl rfl rfl rfl rfl (by kernel_rfl) Try.func3 (by kernel_rfl)
    (of_decide_eq_true (by kernel_rfl)) (by unfold Func.isWrapper; first | (rw [if_pos (by decide +kernel)]; kernel_rfl) | (rw [if_neg (by decide +kernel)]; exact ⟨rfl, rfl⟩))
    (fun os started H enc _ => lifted os started H enc)

/-- the statement -/
theorem proved : Rows.ImageApartSaid :=
  over
#print axioms proved
end Go.Proofs.Ytodbhmdfmdfiaaa.imageApart
