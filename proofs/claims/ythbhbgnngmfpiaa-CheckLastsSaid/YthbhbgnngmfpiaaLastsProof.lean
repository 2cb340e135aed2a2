/-
  Proved: the power fails anywhere amid a checkpoint, and anything of what does not last yet is lost, kept or torn: what is loaded then is the last one that was laid, or the one that was being laid, and from there it goes on: the law CheckLasts returns true for every input. There are no conditions.
-/
import Derived.Test.YthbhbgnngmfpiaaRows
import Derived.Test.YthbhbgnngmfpiaaIsLasts
import Derived.Test.YthbhbgnngmfpiaaGlbChkB
import Derived.Test.YthbhbgnngmfpiaaGlbSecD
import Derived.Test.YthbhbgnngmfpiaaGlbFits08
import Derived.Test.YthbhbgnngmfpiaaBcloneX
import Derived.Test.YthbhbgnngmfpiaaCloneX
import Derived.Test.YthbhbgnngmfpiaaKeysX
import Derived.WalkKit
import Derived.ProofKit
import Derived.OpenShut
import Derived.ShutString
namespace Go.Proofs.Ythbhbgnngmfpiaa.checkLasts
open Go.ChangeShapes Go.WideShapes Go.ChangeAt Go.RowKit
open Go.ChangeMaps (open_string shut_string)
set_option linter.unusedVariables false
set_option maxRecDepth 100000

theorem own : ownKnob Try.prog.godebug = none := by kernel_rfl

open Glb in
def shape : List (Bool × List Ty) := [(false, [.int .i64]), (false, [.sl 1 [.sl 1 [.int .u8]]]), (false, [.sl 1 [.int .i64]]), (false, [.sl 1 [.sl 1 [.int .i64]]])]

open Glb in
theorem sameB : SameOk Try.prog 13 .u8 := SameBytes_ok is_glebekit_SameBytes
open Glb in
theorem cloneKit : CloneKit Try.prog 74 := by
  refine ⟨fun a c w => (cloneZero a c w).mono ?_⟩
  rintro e w' ⟨v, he, hown, hne, hb⟩
  rcases hown.2 with ⟨h1, _⟩ | ⟨g, cap, cur, h1, _⟩
  · exact absurd h1 hne
  · subst h1
    exact ⟨_, _, he, rfl, ⟨hb.os, hb.output, hb.size, fun a ha => World.frozen?_of_block (hb.block _ ha)⟩, hb.block⟩
open Glb in
theorem rdTake : TakeR Try.prog 75 := take_ok is_pack_Reader_take (fail_ok is_pack_Reader_fail)
open Glb in
theorem rdInt : IntR Try.prog 61 := pack_Int_ok is_pack_Reader_Int rdTake
open Glb in
theorem rdRead : ReadR Try.prog 60 := pack_Read_ok is_pack_Read (CloneB_ok is_slices_Clone_byte_byte cloneKit)
open Glb in
theorem pick : PickOk Try.prog 9 := Pick_ok is_glebekit_Pick
open Glb in
theorem bcloneKit : CloneKit Try.prog 30 := by
  refine ⟨fun a c w => (bcloneZero a c w).mono ?_⟩
  rintro e w' ⟨v, he, hown, hne, hb⟩
  rcases hown.2 with ⟨h1, _⟩ | ⟨g, cap, cur, h1, _⟩
  · exact absurd h1 hne
  · subst h1
    exact ⟨_, _, he, rfl, ⟨hb.os, hb.output, hb.size, fun a ha => World.frozen?_of_block (hb.block _ ha)⟩, hb.block⟩
open Glb in
theorem bclone : CloneBOk Try.prog 30 := cloneB_ok is_bytes_Clone bcloneKit
open Glb in
theorem keysKit : KeysKit Try.prog 44 43 66 := ⟨by kernel_rfl, by kernel_rfl, mapKeys, mapSorted⟩
open Glb in
theorem dDirty : DirtyOk Try.prog 31 := dirty_ok is_sector_Disk_Dirty (keysOk keysKit) (sortedOk keysKit)
open Glb in
theorem dSpend : SpendOk Try.prog 29 := spend_ok is_sector_Disk_spend
open Glb in
theorem dHas : HasDOk Try.prog 28 := has_ok is_sector_Disk_has
open Glb in
theorem dNew : NewDOk Try.prog 10 := new_ok is_sector_New
open Glb in
theorem dWrite : WriteOk Try.prog 14 := write_ok is_sector_Disk_Write dHas dSpend bclone.p
open Glb in
theorem dFlush : FlushDOk Try.prog 26 := flush_ok is_sector_Disk_Flush dSpend dDirty.p
open Glb in
theorem dRead : ReadDOk Try.prog 38 := readD_ok is_sector_Disk_Read dHas bclone
open Glb in
theorem dLen : DLenOk Try.prog 40 := dlen_ok is_sector_Disk_Len
open Glb in
theorem dDown : DownOk Try.prog 17 := down_ok is_sector_Disk_Down
open Glb in
theorem dArm : ArmOk Try.prog 16 := arm_ok is_sector_Disk_Arm
open Glb in
theorem dCrash : CrashDOk Try.prog 15 := crashD_ok is_sector_Disk_Crash dDirty.p
open Glb in
theorem dRow : RowOk Try.prog 18 := row_ok is_glebekit_Row
open Glb in
theorem ckMay : CMayOk Try.prog 22 := cmay_ok is_check_may dLen
open Glb in
theorem ckInt : IntOk Try.prog 41 := pack_Int_p is_pack_Int (room_ok is_pack_room) (number_ok is_pack_number)
open Glb in
theorem ckPiece : PieceOk Try.prog 42 := piece_ok is_check_piece dRead rdRead rdInt is_pack_Reader_Bad is_pack_Reader_Left
open Glb in
theorem ckWhole : Whole8Ok Try.prog 27 := whole_ok is_check_whole ckPiece
open Glb in
theorem ckLoad : LoadOk Try.prog 12 := load_ok is_check_Load ckMay ckWhole
open Glb in
theorem ckWrite : Write1Ok Try.prog 24 := write1_ok is_check_Save_f1 (laid_ok is_check_laid ckInt) dWrite
open Glb in
theorem ckSave : SaveOk Try.prog 11 := save_ok is_check_Save ckMay (pieces_ok is_check_pieces) ckWrite dFlush
open Glb in
theorem works8 : YesOk Try.prog 7 := works8_ok is_glebelaw08_works dNew ckSave dRow ckLoad.p sameB
open Glb in
theorem great8 : Great8Ok Try.prog 8 := great8_ok is_glebelaw08_great
open Glb in
theorem lasts08 (n : Int) (l : List (List Int)) (cuts : List Int) (how : List (List Int)) (hB : ∀ x ∈ l, bytesOk x) (h : AHeap) : ACalls Try.prog 5 [.int .i64 n, arows l, aints cuts, airows how] h fun r _ => r = .bool true := lasts8_ok is_glebelaw08_CheckLasts works8 great8 pick dNew dArm ckSave dDown dCrash ckLoad.p sameB n l cuts how hB h
open Glb in
theorem law (dss : List (List D)) (h : FitsAll dss shape) : ACalls Try.prog 5 (argAVs dss shape) [] fun r _ => r = .bool true := by
  obtain ⟨_, _, rfl, h1, h⟩ := FitsAll_cons h
  obtain ⟨_, _, rfl, h2, h⟩ := FitsAll_cons h
  obtain ⟨_, _, rfl, h3, h⟩ := FitsAll_cons h
  obtain ⟨_, _, rfl, h4, h⟩ := FitsAll_cons h
  cases FitsAll_nil h
  obtain ⟨n, rfl⟩ := fits_int h1
  obtain ⟨l, rfl, hB⟩ := fitsR_rows h2
  obtain ⟨cuts, rfl⟩ := fits_intsL h3
  obtain ⟨how, rfl⟩ := fits_irows h4
  exact lasts08 n l cuts how hB []
theorem shaped : Glb.shapes Try.prog 12 Try.f5.params.toList = some shape := by kernel_rfl

theorem lifted (os : Os) (started : os.Started) (H : Type) (enc : TypeId × Value → H) :
    ReturnsInHanded {} Try.checked os 5 .any (Rows.checkLastsSpec.pre6 enc Try.prog Try.f5 Rows.checkLastsRow.domain false) (Rows.checkLastsSpec.post enc Try.prog Try.f5 false true false false) := by
  refine returnsInHanded_of_change (C := Try.checked) own started (by kernel_rfl) Try.func5
    (ChangeSpec.witness6 (enc := enc) (C := Try.checked) false ⟨#[], #[.int .i64 0, .slice none 0 0, .slice none 0 0, .slice none 0 0], []⟩ 12 (by kernel_rfl) (by kernel_rfl) (by kernel_rfl) (by kernel_rfl)) ?_
  intro W base args ds gs before hval0 hW hcnd _
  have hval : ∀ (j : Nat) t v, Try.f5.params[j]? = some t → args[j]? = some v → Value.okWide Try.prog W .any base t v := hval0
  have hW' := hW
  obtain ⟨p, q, hA0, hV, rfl, hfz, hnd⟩ := hW
  have hA : DataW.TrodAll enc Try.prog W 0 (fun _ => true) true Try.f5.params.toList args.toList ds p := hA0
  obtain ⟨rfl, rfl⟩ := trodVars_none hV
  simp only [List.append_nil] at hW'
  have hlen : ∃ d0 d1 d2 d3, ds = [d0, d1, d2, d3] := by
    rw [Try.params5] at hA
    have hl := Glb.trodAll_len hA
    rcases ds with _ | ⟨d0, _ | ⟨d1, _ | ⟨d2, _ | ⟨d3, _ | ⟨d4, _⟩⟩⟩⟩⟩
    all_goals first | exact ⟨_, _, _, _, rfl⟩ | (exact absurd hl (by simp))
  obtain ⟨d0, d1, d2, d3, rfl⟩ := hlen
  refine (Glb.law_calls (n := 12) shaped law hA (fun j t v a b => hval j t v (by simpa using a) b)).mono fun e W' ⟨he, hg, hsame⟩ => ?_
  subst he
  exact ⟨_, rfl, Glb.post_same (pa := p) (pv := []) hW' (fun _ _ _ => (trodAll_cons_mk (shut_bool Try.underlying4 _) trodAll_mk0))
    (fun sp hsp => Glb.trodAll_stays (by kernel_rfl) hsame _ _ _ _ (by kernel_rfl) hA hW'.lt hsp) (fun _ _ => rfl) (by simp)
    (hg.frame _) hg.2.1 (ok_one (by kernel_rfl) rfl (okWide_bool_mk Try.underlying4 _))⟩

theorem over : Rows.checkLastsRow.holds Try.pinned (OpenSpec.ofChange Rows.checkLastsSpec) :=
  OpenClaim.holds_of_wide 5 Try.f5 rfl rfl rfl rfl rfl rfl rfl ⟨rfl, rfl, rfl, rfl, rfl⟩ rfl rfl rfl rfl rfl (by kernel_rfl) Try.func5 (by kernel_rfl)
    (of_decide_eq_true (by kernel_rfl)) (by unfold Func.isWrapper; first | (rw [if_pos (by decide +kernel)]; kernel_rfl) | (rw [if_neg (by decide +kernel)]; exact ⟨rfl, rfl⟩))
    (fun os started H enc _ => lifted os started H enc)

/-- the statement -/
theorem proved : Rows.CheckLastsSaid :=
  over
#print axioms proved
end Go.Proofs.Ythbhbgnngmfpiaa.checkLasts
