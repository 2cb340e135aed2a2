/-
  Proved: the chapter's examples, places, epochs and lengths about their ends, each byte of a sector turned, are as the document says: the law CheckKnown returns true. There are no conditions.
-/
import Derived.Test.YthbhbgnngmfpiaaRows
import Derived.Test.YthbhbgnngmfpiaaIsKnown
import Derived.Test.YthbhbgnngmfpiaaGlbChkD
import Derived.Test.YthbhbgnngmfpiaaGlbChkB
import Derived.Test.YthbhbgnngmfpiaaGlbSecD
import Derived.Test.YthbhbgnngmfpiaaGlbKitA
import Derived.Test.YthbhbgnngmfpiaaGlbLibD
import Derived.Test.YthbhbgnngmfpiaaGlbKitB
import Derived.Test.YthbhbgnngmfpiaaGlbLibB
import Derived.Test.YthbhbgnngmfpiaaGlbImgA
import Derived.Test.YthbhbgnngmfpiaaBcloneX
import Derived.Test.YthbhbgnngmfpiaaCloneX
import Derived.Test.YthbhbgnngmfpiaaKeysX
import Derived.WalkKit
import Derived.ProofKit
import Derived.OpenShut
import Derived.ShutString
namespace Go.Proofs.Ythbhbgnngmfpiaa.checkKnown
open Go.ChangeShapes Go.WideShapes Go.ChangeAt Go.RowKit
open Go.ChangeMaps (open_string shut_string)
set_option linter.unusedVariables false
set_option maxRecDepth 100000

theorem own : ownKnob Try.prog.godebug = none := by kernel_rfl

open Glb in
theorem copyB : CopyOk Try.prog 39 .u8 := CopyBytes_ok is_glebekit_CopyBytes
open Glb in
theorem same : SameOk Try.prog 56 .i64 := SameInts_ok is_glebekit_SameInts
open Glb in
theorem sameB : SameOk Try.prog 13 .u8 := SameBytes_ok is_glebekit_SameBytes
open Glb in
theorem cloneKit : CloneKit Try.prog 74 := by
  refine ⟨fun a c w => (cloneZero a c w).mono ?_⟩
  rintro e w' ⟨v, he, hown, hne, hb⟩
  rcases hown.2 with ⟨h1, _⟩ | ⟨g, cap, cur, h1, _⟩
  · exact absurd h1 hne
  · subst h1
    exact ⟨_, _, he, rfl, ⟨hb.os, hb.output, hb.size, fun a ha => World.frozen?_of_block (hb.block _ ha)⟩, hb.block⟩
open Glb in
theorem rdTake : TakeR Try.prog 75 := take_ok is_pack_Reader_take (fail_ok is_pack_Reader_fail)
open Glb in
theorem rdInt : IntR Try.prog 61 := pack_Int_ok is_pack_Reader_Int rdTake
open Glb in
theorem rdRead : ReadR Try.prog 60 := pack_Read_ok is_pack_Read (CloneB_ok is_slices_Clone_byte_byte cloneKit)
open Glb in
theorem pick : PickOk Try.prog 9 := Pick_ok is_glebekit_Pick
open Glb in
theorem spoilB : SpoilOk Try.prog 48 (.sl 1 [.int .u8]) := SpoilBytes_ok is_glebekit_SpoilBytes
open Glb in
theorem spoilI : SpoilOk Try.prog 57 (.sl 1 [.int .i64]) := SpoilInts_ok is_glebekit_SpoilInts
open Glb in
theorem keptB : KeptBOk Try.prog 47 := KeptBytes_ok is_glebekit_KeptBytes sameB
open Glb in
theorem bcloneKit : CloneKit Try.prog 30 := by
  refine ⟨fun a c w => (bcloneZero a c w).mono ?_⟩
  rintro e w' ⟨v, he, hown, hne, hb⟩
  rcases hown.2 with ⟨h1, _⟩ | ⟨g, cap, cur, h1, _⟩
  · exact absurd h1 hne
  · subst h1
    exact ⟨_, _, he, rfl, ⟨hb.os, hb.output, hb.size, fun a ha => World.frozen?_of_block (hb.block _ ha)⟩, hb.block⟩
open Glb in
theorem bclone : CloneBOk Try.prog 30 := cloneB_ok is_bytes_Clone bcloneKit
open Glb in
theorem keysKit : KeysKit Try.prog 44 43 66 := ⟨by kernel_rfl, by kernel_rfl, mapKeys, mapSorted⟩
open Glb in
theorem dDirty : DirtyOk Try.prog 31 := dirty_ok is_sector_Disk_Dirty (keysOk keysKit) (sortedOk keysKit)
open Glb in
theorem dSpend : SpendOk Try.prog 29 := spend_ok is_sector_Disk_spend
open Glb in
theorem dHas : HasDOk Try.prog 28 := has_ok is_sector_Disk_has
open Glb in
theorem dNew : NewDOk Try.prog 10 := new_ok is_sector_New
open Glb in
theorem dWrite : WriteOk Try.prog 14 := write_ok is_sector_Disk_Write dHas dSpend bclone.p
open Glb in
theorem dFlush : FlushDOk Try.prog 26 := flush_ok is_sector_Disk_Flush dSpend dDirty.p
open Glb in
theorem dRead : ReadDOk Try.prog 38 := readD_ok is_sector_Disk_Read dHas bclone
open Glb in
theorem dLen : DLenOk Try.prog 40 := dlen_ok is_sector_Disk_Len
open Glb in
theorem dDown : DownOk Try.prog 17 := down_ok is_sector_Disk_Down
open Glb in
theorem dArm : ArmOk Try.prog 16 := arm_ok is_sector_Disk_Arm
open Glb in
theorem dCrash : CrashDOk Try.prog 15 := crashD_ok is_sector_Disk_Crash dDirty.p
open Glb in
theorem xPut : PutSOk Try.prog 70 := put_ok is_gleberef04_put
open Glb in
theorem xFind : FindSOk Try.prog 73 := find_ok is_gleberef04_find
open Glb in
theorem xDone : DoneOk Try.prog 71 := done_ok is_gleberef04_Disk_Done
open Glb in
theorem xNew : XNewOk Try.prog 32 := xnew_ok is_gleberef04_New
open Glb in
theorem xWrite : XWriteOk Try.prog 51 := xwrite_ok is_gleberef04_Disk_Write xDone copyB xPut
open Glb in
theorem xFlush : XFlushOk Try.prog 52 := xflush_ok is_gleberef04_Disk_Flush xDone xPut
open Glb in
theorem xRead : XReadOk Try.prog 54 := xread_ok is_gleberef04_Disk_Read xFind copyB
open Glb in
theorem xDirty : XDirtyOk Try.prog 55 := xdirty_ok is_gleberef04_Disk_Dirty
open Glb in
theorem xArm : XArmOk Try.prog 50 := xarm_ok is_gleberef04_Disk_Arm
open Glb in
theorem xCrash : XCrashOk Try.prog 49 := xcrash_ok is_gleberef04_Disk_Crash xPut
open Glb in
theorem lentBO : LentBytesO Try.prog 45 := LentBytes_own is_glebekit_LentBytes
open Glb in
theorem looks4 : LooksOk Try.prog 36 := looks_ok is_glebelaw04_Looks dRead xRead sameB spoilB dDirty xDirty same spoilI dLen dDown
open Glb in
theorem dRow : RowOk Try.prog 18 := row_ok is_glebekit_Row
open Glb in
theorem dWriteA : WriteAOk Try.prog 14 := writeA_ok is_sector_Disk_Write dHas dSpend bclone.p
open Glb in
theorem ckMay : CMayOk Try.prog 22 := cmay_ok is_check_may dLen
open Glb in
theorem ckInt : IntOk Try.prog 41 := pack_Int_p is_pack_Int (room_ok is_pack_room) (number_ok is_pack_number)
open Glb in
theorem ckPiece : PieceOk Try.prog 42 := piece_ok is_check_piece dRead rdRead rdInt is_pack_Reader_Bad is_pack_Reader_Left
open Glb in
theorem ckWhole : Whole8Ok Try.prog 27 := whole_ok is_check_whole ckPiece
open Glb in
theorem ckLoad : LoadOk Try.prog 12 := load_ok is_check_Load ckMay ckWhole
open Glb in
theorem ckWrite : Write1Ok Try.prog 24 := write1_ok is_check_Save_f1 (laid_ok is_check_laid ckInt) dWrite
open Glb in
theorem ckSave : SaveOk Try.prog 11 := save_ok is_check_Save ckMay (pieces_ok is_check_pieces) ckWrite dFlush
open Glb in
theorem works8 : YesOk Try.prog 7 := works8_ok is_glebelaw08_works dNew ckSave dRow ckLoad.p sameB
open Glb in
theorem great8 : Great8Ok Try.prog 8 := great8_ok is_glebelaw08_great
open Glb in
theorem apart08 (e : Int) (x : List Int) (l : List (List Int)) (ats : List Int) (hx : bytesOk x) (hB : ∀ x ∈ l, bytesOk x) (h : AHeap) : ACalls Try.prog 4 [.int .i64 e, abytes x, arows l, aints ats] h fun r _ => r = .bool true := apart8_ok is_glebelaw08_CheckApart works8 dNew ckSave pick dWriteA ckLoad.p sameB dCrash e x l ats hx hB h
open Glb in
theorem lasts08 (n : Int) (l : List (List Int)) (cuts : List Int) (how : List (List Int)) (hB : ∀ x ∈ l, bytesOk x) (h : AHeap) : ACalls Try.prog 5 [.int .i64 n, arows l, aints cuts, airows how] h fun r _ => r = .bool true := lasts8_ok is_glebelaw08_CheckLasts works8 great8 pick dNew dArm ckSave dDown dCrash ckLoad.p sameB n l cuts how hB h
open Glb in
theorem xrInt : IntOk Try.prog 79 := gleberef02_Int_ok is_gleberef02_Int
open Glb in
theorem xkMay : XMayOk Try.prog 67 := xmay_ok is_gleberef08_May
open Glb in
theorem xkPiece : XPieceOk Try.prog 69 := xpiece_ok is_gleberef08_Piece xrInt
open Glb in
theorem xkSave : XSaveOk Try.prog 46 := xsave_ok is_gleberef08_Save xkMay (cut_ok is_gleberef08_Cut) xkPiece xWrite xFlush
open Glb in
theorem xkWhole : XWholeOk Try.prog 72 := xwhole_ok is_gleberef08_Whole xRead (Read_rr is_gleberef02_Read) (Int_rr is_gleberef02_Reader_Int (Left_rr is_gleberef02_Reader_Left)) (xis_ok is_gleberef08_Is xkPiece)
open Glb in
theorem xkLoad : XLoadOk Try.prog 53 := xload_ok is_gleberef08_Load xkMay xkWhole
open Glb in
theorem loads8 : Loads8Ok Try.prog 35 := loads8_ok is_glebelaw08_loads ckLoad xkLoad sameB spoilB
open Glb in
theorem both8 : Both8Ok Try.prog 34 := both8_ok is_glebelaw08_both lentBO ckSave xkSave keptB spoilB dCrash xCrash dArm xArm dWrite xWrite dFlush xFlush
open Glb in
theorem runs08 : Runs8P Try.prog 19 := ⟨is_glebelaw08_CheckRuns.2, fun n l h hR => runs8_ok is_glebelaw08_CheckRuns dNew xNew (long8_ok is_glebelaw08_long) works8 both8 loads8 looks4 (all4_ok is_glebelaw04_All looks4) n l hR h⟩
open Glb in
theorem lasts08P : Lasts8P Try.prog 5 := ⟨is_glebelaw08_CheckLasts.2, fun n l cuts how h hB => lasts08 n l cuts how hB h⟩
open Glb in
theorem apart08P : Apart8P Try.prog 4 := ⟨is_glebelaw08_CheckApart.2, fun e x l ats h hx hB => apart08 e x l ats hx hB h⟩
open Glb in
theorem cuts08 : YesOk Try.prog 21 := cuts8_ok is_glebelaw08_knownCuts dRow lasts08P apart08P
open Glb in
theorem turned08 : YesOk Try.prog 20 := turned8_ok is_glebelaw08_knownTurned dNew dRow ckSave dRead.p copyB runs08
open Glb in
theorem law : ACalls Try.prog 6 [] [] fun r _ => r = .bool true :=
  cknown_ok is_glebelaw08_CheckKnown dRow runs08 turned08 cuts08 works8 []
theorem walk (w : World) : Calls Try.prog 6 #[] w fun e w' => e = .returned (.bool true) ∧ Glb.GrownB w w' :=
  Glb.closedA law w

theorem lifted (os : Os) (started : os.Started) (H : Type) (enc : TypeId × Value → H) :
    ReturnsInHanded {} Try.checked os 6 .any (Rows.checkKnownSpec.pre6 enc Try.prog Try.f6 Rows.checkKnownRow.domain false) (Rows.checkKnownSpec.post enc Try.prog Try.f6 false true false false) := by
  refine returnsInHanded_of_change (C := Try.checked) own started (by kernel_rfl) Try.func6
    (ChangeSpec.witness6 (enc := enc) (C := Try.checked) false ⟨#[], #[], []⟩ 8 (by kernel_rfl) (by kernel_rfl) (by kernel_rfl) (by kernel_rfl)) ?_
  intro W base args ds gs before hval0 hW hcnd _
  have hval : ∀ (j : Nat) t v, Try.f6.params[j]? = some t → args[j]? = some v → Value.okWide Try.prog W .any base t v := hval0
  have hW' := hW
  obtain ⟨p, q, hA0, hV, rfl, hfz, hnd⟩ := hW
  have hA : DataW.TrodAll enc Try.prog W 0 (fun _ => true) true Try.f6.params.toList args.toList ds p := hA0
  rw [Try.params6] at hA hval
  obtain ⟨rfl, rfl, rfl⟩ := trodAll_none hA
  obtain ⟨rfl, rfl⟩ := trodVars_none hV
  clear hA0 hval0
  simp only [List.append_nil] at hW'
  refine (walk W).mono fun e W' ⟨he, hg⟩ => ?_
  subst he
  exact ⟨_, rfl, Glb.post_same (pa := []) (pv := []) hW' (fun _ _ _ => (trodAll_cons_mk (shut_bool Try.underlying4 _) trodAll_mk0)) (fun sp _ => rfl) (fun _ _ => rfl) (by simp)
    (hg.frame _) hg.2.1 (ok_one (by kernel_rfl) rfl (okWide_bool_mk Try.underlying4 _))⟩

theorem over : Rows.checkKnownRow.holds Try.pinned (OpenSpec.ofChange Rows.checkKnownSpec) :=
  OpenClaim.holds_of_wide 6 Try.f6 rfl rfl rfl rfl rfl rfl rfl ⟨rfl, rfl, rfl, rfl, rfl⟩ rfl rfl rfl rfl rfl (by kernel_rfl) Try.func6 (by kernel_rfl)
    (of_decide_eq_true (by kernel_rfl)) (by unfold Func.isWrapper; first | (rw [if_pos (by decide +kernel)]; kernel_rfl) | (rw [if_neg (by decide +kernel)]; exact ⟨rfl, rfl⟩))
    (fun os started H enc _ => lifted os started H enc)

/-- the statement -/
theorem proved : Rows.CheckKnownSaid :=
  over
#print axioms proved
end Go.Proofs.Ythbhbgnngmfpiaa.checkKnown
