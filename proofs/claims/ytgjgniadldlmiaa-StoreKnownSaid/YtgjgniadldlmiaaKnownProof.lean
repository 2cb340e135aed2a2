/-
  Proved: what the document says of a store's slots, sizes, answers and of a cut is so: the closed law StoreKnown returns true. There are no conditions.
-/
import Derived.Test.YtgjgniadldlmiaaRows
import Derived.Test.YtgjgniadldlmiaaIsKnown
import Derived.Test.YtgjgniadldlmiaaGlbStoB
import Derived.Test.YtgjgniadldlmiaaGlbSecD
import Derived.Test.YtgjgniadldlmiaaBcloneX
import Derived.Test.YtgjgniadldlmiaaCloneX
import Derived.Test.YtgjgniadldlmiaaKeysX
import Derived.WalkKit
import Derived.ProofKit
import Derived.OpenShut
import Derived.ShutString
namespace Go.Proofs.Ytgjgniadldlmiaa.storeKnown
open Go.ChangeShapes Go.WideShapes Go.ChangeAt Go.RowKit
open Go.ChangeMaps (open_string shut_string)
set_option linter.unusedVariables false
set_option maxRecDepth 100000

theorem own : ownKnob Try.prog.godebug = none := by kernel_rfl

open Glb in
theorem sameB : SameOk Try.prog 17 .u8 := SameBytes_ok is_glebekit_SameBytes
open Glb in
theorem cloneKit : CloneKit Try.prog 60 := by
  refine ⟨fun a c w => (cloneZero a c w).mono ?_⟩
  rintro e w' ⟨v, he, hown, hne, hb⟩
  rcases hown.2 with ⟨h1, _⟩ | ⟨g, cap, cur, h1, _⟩
  · exact absurd h1 hne
  · subst h1
    exact ⟨_, _, he, rfl, ⟨hb.os, hb.output, hb.size, fun a ha => World.frozen?_of_block (hb.block _ ha)⟩, hb.block⟩
open Glb in
theorem rdTake : TakeR Try.prog 61 := take_ok is_pack_Reader_take (fail_ok is_pack_Reader_fail)
open Glb in
theorem rdInt : IntR Try.prog 49 := pack_Int_ok is_pack_Reader_Int rdTake
open Glb in
theorem rdRead : ReadR Try.prog 48 := pack_Read_ok is_pack_Read (CloneB_ok is_slices_Clone_byte_byte cloneKit)
open Glb in
theorem bcloneKit : CloneKit Try.prog 52 := by
  refine ⟨fun a c w => (bcloneZero a c w).mono ?_⟩
  rintro e w' ⟨v, he, hown, hne, hb⟩
  rcases hown.2 with ⟨h1, _⟩ | ⟨g, cap, cur, h1, _⟩
  · exact absurd h1 hne
  · subst h1
    exact ⟨_, _, he, rfl, ⟨hb.os, hb.output, hb.size, fun a ha => World.frozen?_of_block (hb.block _ ha)⟩, hb.block⟩
open Glb in
theorem bclone : CloneBOk Try.prog 52 := cloneB_ok is_bytes_Clone bcloneKit
open Glb in
theorem keysKit : KeysKit Try.prog 45 44 57 := ⟨by kernel_rfl, by kernel_rfl, mapKeys, mapSorted⟩
open Glb in
theorem dDirty : DirtyOk Try.prog 30 := dirty_ok is_sector_Disk_Dirty (keysOk keysKit) (sortedOk keysKit)
open Glb in
theorem dSpend : SpendOk Try.prog 51 := spend_ok is_sector_Disk_spend
open Glb in
theorem dHas : HasDOk Try.prog 50 := has_ok is_sector_Disk_has
open Glb in
theorem dNew : NewDOk Try.prog 6 := new_ok is_sector_New
open Glb in
theorem dWrite : WriteOk Try.prog 37 := write_ok is_sector_Disk_Write dHas dSpend bclone.p
open Glb in
theorem dFlush : FlushDOk Try.prog 39 := flush_ok is_sector_Disk_Flush dSpend dDirty.p
open Glb in
theorem dRead : ReadDOk Try.prog 47 := readD_ok is_sector_Disk_Read dHas bclone
open Glb in
theorem dLen : DLenOk Try.prog 18 := dlen_ok is_sector_Disk_Len
open Glb in
theorem dDown : DownOk Try.prog 19 := down_ok is_sector_Disk_Down
open Glb in
theorem dArm : ArmOk Try.prog 13 := arm_ok is_sector_Disk_Arm
open Glb in
theorem dCrash : CrashDOk Try.prog 15 := crashD_ok is_sector_Disk_Crash dDirty.p
open Glb in
theorem ckMay : CMayOk Try.prog 31 := cmay_ok is_check_may dLen
open Glb in
theorem ckInt : IntOk Try.prog 53 := pack_Int_p is_pack_Int (room_ok is_pack_room) (number_ok is_pack_number)
open Glb in
theorem ckPiece : PieceOk Try.prog 46 := piece_ok is_check_piece dRead rdRead rdInt is_pack_Reader_Bad is_pack_Reader_Left
open Glb in
theorem ckWhole : Whole8Ok Try.prog 32 := whole_ok is_check_whole ckPiece
open Glb in
theorem ckLoad : LoadOk Try.prog 20 := load_ok is_check_Load ckMay ckWhole
open Glb in
theorem ckWrite : Write1Ok Try.prog 36 := write1_ok is_check_Save_f1 (laid_ok is_check_laid ckInt) dWrite
open Glb in
theorem ckSaveG : SaveGOk Try.prog 24 := saveG_ok is_check_Save ckMay (pieces_ok is_check_pieces) ckWrite dFlush
open Glb in
theorem jNeed : NeedOk Try.prog 40 := need_ok is_journal_need
open Glb in
theorem jSeq : SeqOk Try.prog 54 := seq_ok is_journal_sectors_f1 jNeed ckInt
open Glb in
theorem jRight : JRightOk Try.prog 33 := jright_ok is_journal_right dLen
open Glb in
theorem jNew : JNewOk Try.prog 25 := jnew_ok is_journal_New jRight
open Glb in
theorem jRoom : JRoomOk Try.prog 41 := jroom_ok is_journal_Journal_Room
open Glb in
theorem jCount : JCountOk Try.prog 27 := jcount_ok is_journal_Journal_Count
open Glb in
theorem jSecs : SecsOk Try.prog 42 54 := secs_ok is_journal_sectors
open Glb in
theorem jApp : AppJOk Try.prog 26 := appj_ok is_journal_Journal_Append jNeed jRoom jSecs jSeq dWrite dFlush
open Glb in
theorem jPiece : JPieceOk Try.prog 34 := jpiece_ok is_journal_piece dRead rdRead rdInt
open Glb in
theorem jScan : ScanOk Try.prog 22 := jscan_ok is_journal_Scan jRight jPiece
open Glb in
theorem rowsR : SameRowsR Try.prog 28 := samerowsR_ok is_glebekit_SameRows sameB
open Glb in
theorem sPlace : SPlaceOk Try.prog 21 := splace_ok is_store_Store_place dLen
open Glb in
theorem sDied : SDiedOk Try.prog 23 := sdied_ok is_store_Store_died
open Glb in
theorem sEpoch : SEpochOk Try.prog 10 := sepoch_ok is_store_Store_Epoch
open Glb in
theorem sCount : SCountOk Try.prog 11 := scount_ok is_store_Store_Count jCount
open Glb in
theorem sOpen : SOpenOk Try.prog 7 := sopen_ok is_store_Open dLen dDown ckLoad.p sPlace jScan
open Glb in
theorem sApp : SAppOk Try.prog 9 := sapp_ok is_store_Store_Append jApp sDied
open Glb in
theorem sRen : SRenOk Try.prog 8 := sren_ok is_store_Store_Renew ckSaveG sDied sPlace jNew
open Glb in
theorem sKnown : YesOk Try.prog 12 := known9_ok is_glebelaw09_known dNew sOpen sEpoch sApp sRen sCount sameB rowsR
open Glb in
theorem sknown09 (h : AHeap) : ACalls Try.prog 5 [] h fun r _ => r = .bool true :=
  sknown9_ok is_glebelaw09_StoreKnown dNew sOpen sRen sApp sEpoch sCount sameB dArm dCrash sKnown h
open Glb in
theorem law : ACalls Try.prog 5 [] [] fun r _ => r = .bool true := sknown09 []
theorem walk (w : World) : Calls Try.prog 5 #[] w fun e w' => e = .returned (.bool true) ∧ Glb.GrownB w w' :=
  Glb.closedA law w

theorem lifted (os : Os) (started : os.Started) (H : Type) (enc : TypeId × Value → H) :
    ReturnsInHanded {} Try.checked os 5 .any (Rows.storeKnownSpec.pre6 enc Try.prog Try.f5 Rows.storeKnownRow.domain false) (Rows.storeKnownSpec.post enc Try.prog Try.f5 false true false false) := by
  refine returnsInHanded_of_change (C := Try.checked) own started (by kernel_rfl) Try.func5
    (ChangeSpec.witness6 (enc := enc) (C := Try.checked) false ⟨#[], #[], []⟩ 8 (by kernel_rfl) (by kernel_rfl) (by kernel_rfl) (by kernel_rfl)) ?_
  intro W base args ds gs before hval0 hW hcnd _
  have hval : ∀ (j : Nat) t v, Try.f5.params[j]? = some t → args[j]? = some v → Value.okWide Try.prog W .any base t v := hval0
  have hW' := hW
  obtain ⟨p, q, hA0, hV, rfl, hfz, hnd⟩ := hW
  have hA : DataW.TrodAll enc Try.prog W 0 (fun _ => true) true Try.f5.params.toList args.toList ds p := hA0
  rw [Try.params5] at hA hval
  obtain ⟨rfl, rfl, rfl⟩ := trodAll_none hA
  obtain ⟨rfl, rfl⟩ := trodVars_none hV
  clear hA0 hval0
  simp only [List.append_nil] at hW'
  refine (walk W).mono fun e W' ⟨he, hg⟩ => ?_
  subst he
  exact ⟨_, rfl, Glb.post_same (pa := []) (pv := []) hW' (fun _ _ _ => (trodAll_cons_mk (shut_bool Try.underlying4 _) trodAll_mk0)) (fun sp _ => rfl) (fun _ _ => rfl) (by simp)
    (hg.frame _) hg.2.1 (ok_one (by kernel_rfl) rfl (okWide_bool_mk Try.underlying4 _))⟩

theorem over : Rows.storeKnownRow.holds Try.pinned (OpenSpec.ofChange Rows.storeKnownSpec) :=
  OpenClaim.holds_of_wide 5 Try.f5 rfl rfl rfl rfl rfl rfl rfl ⟨rfl, rfl, rfl, rfl, rfl⟩ rfl rfl rfl rfl rfl (by kernel_rfl) Try.func5 (by kernel_rfl)
    (of_decide_eq_true (by kernel_rfl)) (by unfold Func.isWrapper; first | (rw [if_pos (by decide +kernel)]; kernel_rfl) | (rw [if_neg (by decide +kernel)]; exact ⟨rfl, rfl⟩))
    (fun os started H enc _ => lifted os started H enc)

/-- the statement -/
theorem proved : Rows.StoreKnownSaid :=
  over
#print axioms proved
end Go.Proofs.Ytgjgniadldlmiaa.storeKnown
