/-
  Proved: the chapter's examples, records at their ends, places that may not be, are as the chapter says: the closed law JournalKnown returns true. There are no conditions.
-/
import Derived.Test.YtdlklnoffbfjmaaRows
import Derived.Test.YtdlklnoffbfjmaaIsKnown
import Derived.Test.YtdlklnoffbfjmaaGlbJou10
import Derived.Test.YtdlklnoffbfjmaaGlbSecD
import Derived.Test.YtdlklnoffbfjmaaBcloneX
import Derived.Test.YtdlklnoffbfjmaaCloneX
import Derived.Test.YtdlklnoffbfjmaaKeysX
import Derived.WalkKit
import Derived.ProofKit
import Derived.OpenShut
import Derived.ShutString
namespace Go.Proofs.Ytdlklnoffbfjmaa.journalKnown
open Go.ChangeShapes Go.WideShapes Go.ChangeAt Go.RowKit
open Go.ChangeMaps (open_string shut_string)
set_option linter.unusedVariables false
set_option maxRecDepth 100000

theorem own : ownKnob Try.prog.godebug = none := by kernel_rfl

open Glb in
theorem sameB : SameOk Try.prog 24 .u8 := SameBytes_ok is_glebekit_SameBytes
open Glb in
theorem cloneKit : CloneKit Try.prog 42 := by
  refine ⟨fun a c w => (cloneZero a c w).mono ?_⟩
  rintro e w' ⟨v, he, hown, hne, hb⟩
  rcases hown.2 with ⟨h1, _⟩ | ⟨g, cap, cur, h1, _⟩
  · exact absurd h1 hne
  · subst h1
    exact ⟨_, _, he, rfl, ⟨hb.os, hb.output, hb.size, fun a ha => World.frozen?_of_block (hb.block _ ha)⟩, hb.block⟩
open Glb in
theorem rdTake : TakeR Try.prog 43 := take_ok is_pack_Reader_take (fail_ok is_pack_Reader_fail)
open Glb in
theorem rdInt : IntR Try.prog 36 := pack_Int_ok is_pack_Reader_Int rdTake
open Glb in
theorem rdRead : ReadR Try.prog 35 := pack_Read_ok is_pack_Read (CloneB_ok is_slices_Clone_byte_byte cloneKit)
open Glb in
theorem bcloneKit : CloneKit Try.prog 26 := by
  refine ⟨fun a c w => (bcloneZero a c w).mono ?_⟩
  rintro e w' ⟨v, he, hown, hne, hb⟩
  rcases hown.2 with ⟨h1, _⟩ | ⟨g, cap, cur, h1, _⟩
  · exact absurd h1 hne
  · subst h1
    exact ⟨_, _, he, rfl, ⟨hb.os, hb.output, hb.size, fun a ha => World.frozen?_of_block (hb.block _ ha)⟩, hb.block⟩
open Glb in
theorem bclone : CloneBOk Try.prog 26 := cloneB_ok is_bytes_Clone bcloneKit
open Glb in
theorem keysKit : KeysKit Try.prog 39 38 46 := ⟨by kernel_rfl, by kernel_rfl, mapKeys, mapSorted⟩
open Glb in
theorem dDirty : DirtyOk Try.prog 30 := dirty_ok is_sector_Disk_Dirty (keysOk keysKit) (sortedOk keysKit)
open Glb in
theorem dSpend : SpendOk Try.prog 34 := spend_ok is_sector_Disk_spend
open Glb in
theorem dHas : HasDOk Try.prog 25 := has_ok is_sector_Disk_has
open Glb in
theorem dNew : NewDOk Try.prog 7 := new_ok is_sector_New
open Glb in
theorem dWrite : WriteOk Try.prog 21 := write_ok is_sector_Disk_Write dHas dSpend bclone.p
open Glb in
theorem dFlush : FlushDOk Try.prog 22 := flush_ok is_sector_Disk_Flush dSpend dDirty.p
open Glb in
theorem dRead : ReadDOk Try.prog 15 := readD_ok is_sector_Disk_Read dHas bclone
open Glb in
theorem dLen : DLenOk Try.prog 31 := dlen_ok is_sector_Disk_Len
open Glb in
theorem ckInt : IntOk Try.prog 33 := pack_Int_p is_pack_Int (room_ok is_pack_room) (number_ok is_pack_number)
open Glb in
theorem jNeed : NeedOk Try.prog 19 := need_ok is_journal_need
open Glb in
theorem jSeq : SeqOk Try.prog 32 := seq_ok is_journal_sectors_f1 jNeed ckInt
open Glb in
theorem jRight : JRightOk Try.prog 18 := jright_ok is_journal_right dLen
open Glb in
theorem jNew : JNewOk Try.prog 8 := jnew_ok is_journal_New jRight
open Glb in
theorem jRoom : JRoomOk Try.prog 10 := jroom_ok is_journal_Journal_Room
open Glb in
theorem jCount : JCountOk Try.prog 14 := jcount_ok is_journal_Journal_Count
open Glb in
theorem jSecs : SecsOk Try.prog 20 32 := secs_ok is_journal_sectors
open Glb in
theorem jApp : AppJOk Try.prog 11 := appj_ok is_journal_Journal_Append jNeed jRoom jSecs jSeq dWrite dFlush
open Glb in
theorem jPiece : JPieceOk Try.prog 23 := jpiece_ok is_journal_piece dRead rdRead rdInt
open Glb in
theorem jScan : ScanOk Try.prog 12 := jscan_ok is_journal_Scan jRight jPiece
open Glb in
theorem rowsR : SameRowsR Try.prog 13 := samerowsR_ok is_glebekit_SameRows sameB
open Glb in
theorem jKnown : YesOk Try.prog 9 := known7_ok is_glebelaw07_known dNew jNew jApp jRoom jCount jScan rowsR
open Glb in
theorem law : ACalls Try.prog 4 [] [] fun r _ => r = .bool true :=
  jknown7_ok is_glebelaw07_JournalKnown dNew jNew jScan jApp jRoom jCount dRead.p jKnown []
theorem walk (w : World) : Calls Try.prog 4 #[] w fun e w' => e = .returned (.bool true) ∧ Glb.GrownB w w' :=
  Glb.closedA law w

theorem lifted (os : Os) (started : os.Started) (H : Type) (enc : TypeId × Value → H) :
    ReturnsInHanded {} Try.checked os 4 .any (Rows.journalKnownSpec.pre6 enc Try.prog Try.f4 Rows.journalKnownRow.domain false) (Rows.journalKnownSpec.post enc Try.prog Try.f4 false true false false) := by
  refine returnsInHanded_of_change (C := Try.checked) own started (by kernel_rfl) Try.func4
    (ChangeSpec.witness6 (enc := enc) (C := Try.checked) false ⟨#[], #[], []⟩ 8 (by kernel_rfl) (by kernel_rfl) (by kernel_rfl) (by kernel_rfl)) ?_
  intro W base args ds gs before hval0 hW hcnd _
  have hval : ∀ (j : Nat) t v, Try.f4.params[j]? = some t → args[j]? = some v → Value.okWide Try.prog W .any base t v := hval0
  have hW' := hW
  obtain ⟨p, q, hA0, hV, rfl, hfz, hnd⟩ := hW
  have hA : DataW.TrodAll enc Try.prog W 0 (fun _ => true) true Try.f4.params.toList args.toList ds p := hA0
  rw [Try.params4] at hA hval
  obtain ⟨rfl, rfl, rfl⟩ := trodAll_none hA
  obtain ⟨rfl, rfl⟩ := trodVars_none hV
  clear hA0 hval0
  simp only [List.append_nil] at hW'
  refine (walk W).mono fun e W' ⟨he, hg⟩ => ?_
  subst he
  exact ⟨_, rfl, Glb.post_same (pa := []) (pv := []) hW' (fun _ _ _ => (trodAll_cons_mk (shut_bool Try.underlying4 _) trodAll_mk0)) (fun sp _ => rfl) (fun _ _ => rfl) (by simp)
    (hg.frame _) hg.2.1 (ok_one (by kernel_rfl) rfl (okWide_bool_mk Try.underlying4 _))⟩

theorem over : Rows.journalKnownRow.holds Try.pinned (OpenSpec.ofChange Rows.journalKnownSpec) :=
  OpenClaim.holds_of_wide 4 Try.f4 rfl rfl rfl rfl rfl rfl rfl ⟨rfl, rfl, rfl, rfl, rfl⟩ rfl rfl rfl rfl rfl (by kernel_rfl) Try.func4 (by kernel_rfl)
    (of_decide_eq_true (by kernel_rfl)) (by unfold Func.isWrapper; first | (rw [if_pos (by decide +kernel)]; kernel_rfl) | (rw [if_neg (by decide +kernel)]; exact ⟨rfl, rfl⟩))
    (fun os started H enc _ => lifted os started H enc)

/-- the statement -/
theorem proved : Rows.JournalKnownSaid :=
  over
#print axioms proved
end Go.Proofs.Ytdlklnoffbfjmaa.journalKnown
