/-
  Proved: the chapter's examples, each call with numbers and lengths about their ends, are as the document says: the law SectorKnown returns true. There are no conditions.
-/
import Derived.Test.YtifkpnagloijkaaRows
import Derived.Test.YtifkpnagloijkaaIsKnown
import Derived.Test.YtifkpnagloijkaaGlbSecD
import Derived.Test.YtifkpnagloijkaaGlbKitA
import Derived.Test.YtifkpnagloijkaaGlbLibD
import Derived.Test.YtifkpnagloijkaaGlbKitB
import Derived.Test.YtifkpnagloijkaaGlbLibB
import Derived.Test.YtifkpnagloijkaaGlbImgA
import Derived.Test.YtifkpnagloijkaaGlbSecC
import Derived.Test.YtifkpnagloijkaaBcloneX
import Derived.Test.YtifkpnagloijkaaKeysX
import Derived.WalkKit
import Derived.ProofKit
import Derived.OpenShut
import Derived.ShutString
namespace Go.Proofs.Ytifkpnagloijkaa.sectorKnown
open Go.ChangeShapes Go.WideShapes Go.ChangeAt Go.RowKit
open Go.ChangeMaps (open_string shut_string)
set_option linter.unusedVariables false
set_option maxRecDepth 100000

theorem own : ownKnob Try.prog.godebug = none := by kernel_rfl

open Glb in
theorem copyB : CopyOk Try.prog 53 .u8 := CopyBytes_ok is_glebekit_CopyBytes
open Glb in
theorem same : SameOk Try.prog 28 .i64 := SameInts_ok is_glebekit_SameInts
open Glb in
theorem sameB : SameOk Try.prog 19 .u8 := SameBytes_ok is_glebekit_SameBytes
open Glb in
theorem pick : PickOk Try.prog 11 := Pick_ok is_glebekit_Pick
open Glb in
theorem spoilB : SpoilOk Try.prog 36 (.sl 1 [.int .u8]) := SpoilBytes_ok is_glebekit_SpoilBytes
open Glb in
theorem spoilI : SpoilOk Try.prog 44 (.sl 1 [.int .i64]) := SpoilInts_ok is_glebekit_SpoilInts
open Glb in
theorem lentI : LentIntsP Try.prog 39 := LentInts_ok is_glebekit_LentInts
open Glb in
theorem keptI : KeptOk Try.prog 41 := KeptInts_ok is_glebekit_KeptInts same
open Glb in
theorem keptB : KeptBOk Try.prog 35 := KeptBytes_ok is_glebekit_KeptBytes sameB
open Glb in
theorem bcloneKit : CloneKit Try.prog 47 := by
  refine ⟨fun a c w => (bcloneZero a c w).mono ?_⟩
  rintro e w' ⟨v, he, hown, hne, hb⟩
  rcases hown.2 with ⟨h1, _⟩ | ⟨g, cap, cur, h1, _⟩
  · exact absurd h1 hne
  · subst h1
    exact ⟨_, _, he, rfl, ⟨hb.os, hb.output, hb.size, fun a ha => World.frozen?_of_block (hb.block _ ha)⟩, hb.block⟩
open Glb in
theorem bclone : CloneBOk Try.prog 47 := cloneB_ok is_bytes_Clone bcloneKit
open Glb in
theorem keysKit : KeysKit Try.prog 32 31 50 := ⟨by kernel_rfl, by kernel_rfl, mapKeys, mapSorted⟩
open Glb in
theorem dDirty : DirtyOk Try.prog 15 := dirty_ok is_sector_Disk_Dirty (keysOk keysKit) (sortedOk keysKit)
open Glb in
theorem dSpend : SpendOk Try.prog 45 := spend_ok is_sector_Disk_spend
open Glb in
theorem dHas : HasDOk Try.prog 46 := has_ok is_sector_Disk_has
open Glb in
theorem dNew : NewDOk Try.prog 10 := new_ok is_sector_New
open Glb in
theorem dWrite : WriteOk Try.prog 29 := write_ok is_sector_Disk_Write dHas dSpend bclone.p
open Glb in
theorem dFlush : FlushDOk Try.prog 25 := flush_ok is_sector_Disk_Flush dSpend dDirty.p
open Glb in
theorem dRead : ReadDOk Try.prog 30 := readD_ok is_sector_Disk_Read dHas bclone
open Glb in
theorem dLen : DLenOk Try.prog 12 := dlen_ok is_sector_Disk_Len
open Glb in
theorem dDown : DownOk Try.prog 26 := down_ok is_sector_Disk_Down
open Glb in
theorem dArm : ArmOk Try.prog 27 := arm_ok is_sector_Disk_Arm
open Glb in
theorem dCrash : CrashDOk Try.prog 16 := crashD_ok is_sector_Disk_Crash dDirty.p
open Glb in
theorem xPut : PutSOk Try.prog 52 := put_ok is_gleberef04_put
open Glb in
theorem xFind : FindSOk Try.prog 54 := find_ok is_gleberef04_find
open Glb in
theorem xDone : DoneOk Try.prog 51 := done_ok is_gleberef04_Disk_Done
open Glb in
theorem xNew : XNewOk Try.prog 21 := xnew_ok is_gleberef04_New
open Glb in
theorem xWrite : XWriteOk Try.prog 34 := xwrite_ok is_gleberef04_Disk_Write xDone copyB xPut
open Glb in
theorem xFlush : XFlushOk Try.prog 37 := xflush_ok is_gleberef04_Disk_Flush xDone xPut
open Glb in
theorem xRead : XReadOk Try.prog 42 := xread_ok is_gleberef04_Disk_Read xFind copyB
open Glb in
theorem xDirty : XDirtyOk Try.prog 43 := xdirty_ok is_gleberef04_Disk_Dirty
open Glb in
theorem xArm : XArmOk Try.prog 38 := xarm_ok is_gleberef04_Disk_Arm
open Glb in
theorem xCrash : XCrashOk Try.prog 40 := xcrash_ok is_gleberef04_Disk_Crash xPut
open Glb in
theorem long4 : Long4Ok Try.prog 9 := long4_ok is_glebelaw04_long
open Glb in
theorem works4 : YesOk Try.prog 8 := works4_ok is_glebelaw04_works dNew dWrite dFlush dCrash dRead.p sameB dDirty.p
open Glb in
theorem lentBO : LentBytesO Try.prog 33 := LentBytes_own is_glebekit_LentBytes
open Glb in
theorem looks4 : LooksOk Try.prog 23 := looks_ok is_glebelaw04_Looks dRead xRead sameB spoilB dDirty xDirty same spoilI dLen dDown
open Glb in
theorem both4 : BothOk Try.prog 22 := both_ok is_glebelaw04_both lentBO dWrite xWrite keptB spoilB dFlush xFlush dArm xArm lentI dCrash xCrash keptI
open Glb in
theorem runs04 (n : Int) (l : List Op4) (hR : ∀ o ∈ l, o.R) (h : AHeap) : ACalls Try.prog 4 [.int .i64 n, aops l] h fun r _ => r = .bool true :=
  runs_ok is_glebelaw04_SectorRuns long4 works4 dNew xNew both4 looks4 (all4_ok is_glebelaw04_All looks4) n l hR h
open Glb in
theorem dRow : RowOk Try.prog 17 := row_ok is_glebekit_Row
open Glb in
theorem sameRows : SameRowsOk Try.prog 20 := samerows_ok is_glebekit_SameRows sameB
open Glb in
theorem shown4 : ShownOk Try.prog 14 := shown_ok is_glebelaw04_shown dLen dRead.p dRow
open Glb in
theorem run4 : Run4Ok Try.prog 13 := run4_ok is_glebelaw04_run dWrite dFlush dArm dCrash
open Glb in
theorem flushed04 (n : Int) (l : List Op4) (how : List Int) (hR : ∀ o ∈ l, o.R) (h : AHeap) : ACalls Try.prog 5 [.int .i64 n, aops l, aints how] h fun r _ => r = .bool true :=
  flushed_ok is_glebelaw04_SectorFlushed works4 long4 pick dNew run4 shown4 dFlush dDown sameRows dDirty.p dCrash n l how hR h
open Glb in
theorem fails04 (l : List Op4) (n : Int) (hR : ∀ o ∈ l, o.R) (h : AHeap) : ACalls Try.prog 6 [aops l, .int .i64 n] h fun r _ => r = .bool true :=
  fails_ok is_glebelaw04_SectorFails works4 long4 dNew pick dArm shown4 dDirty.p run4 dDown sameRows same l n hR h
open Glb in
theorem crashed04 (n : Int) (l : List Op4) (how more : List Int) (hR : ∀ o ∈ l, o.R) (h : AHeap) : ACalls Try.prog 3 [.int .i64 n, aops l, aints how, aints more] h fun r _ => r = .bool true :=
  crashed_ok is_glebelaw04_SectorCrashed works4 long4 pick dNew dLen run4 shown4 dDirty.p dCrash dRow (in4_ok is_glebelaw04_in) sameB sameRows n l how more hR h
open Glb in
theorem law : ACalls Try.prog 7 [] [] fun r _ => r = .bool true :=
  sknown_ok is_glebelaw04_SectorKnown dRow
    ⟨is_glebelaw04_SectorRuns.2, fun n l h hR => runs04 n l hR h⟩
    ⟨is_glebelaw04_SectorFails.2, fun l n h hR => fails04 l n hR h⟩
    ⟨is_glebelaw04_SectorFlushed.2, fun n l how h hR => flushed04 n l how hR h⟩
    ⟨is_glebelaw04_SectorCrashed.2, fun n l how more h hR => crashed04 n l how more hR h⟩
    works4 []
theorem walk (w : World) : Calls Try.prog 7 #[] w fun e w' => e = .returned (.bool true) ∧ Glb.GrownB w w' :=
  Glb.closedA law w

theorem lifted (os : Os) (started : os.Started) (H : Type) (enc : TypeId × Value → H) :
    ReturnsInHanded {} Try.checked os 7 .any (Rows.sectorKnownSpec.pre6 enc Try.prog Try.f7 Rows.sectorKnownRow.domain false) (Rows.sectorKnownSpec.post enc Try.prog Try.f7 false true false false) := by
  refine returnsInHanded_of_change (C := Try.checked) own started (by kernel_rfl) Try.func7
    (ChangeSpec.witness6 (enc := enc) (C := Try.checked) false ⟨#[], #[], []⟩ 8 (by kernel_rfl) (by kernel_rfl) (by kernel_rfl) (by kernel_rfl)) ?_
  intro W base args ds gs before hval0 hW hcnd _
  have hval : ∀ (j : Nat) t v, Try.f7.params[j]? = some t → args[j]? = some v → Value.okWide Try.prog W .any base t v := hval0
  have hW' := hW
  obtain ⟨p, q, hA0, hV, rfl, hfz, hnd⟩ := hW
  have hA : DataW.TrodAll enc Try.prog W 0 (fun _ => true) true Try.f7.params.toList args.toList ds p := hA0
  rw [Try.params7] at hA hval
  obtain ⟨rfl, rfl, rfl⟩ := trodAll_none hA
  obtain ⟨rfl, rfl⟩ := trodVars_none hV
  clear hA0 hval0
  simp only [List.append_nil] at hW'
  refine (walk W).mono fun e W' ⟨he, hg⟩ => ?_
  subst he
  exact ⟨_, rfl, Glb.post_same (pa := []) (pv := []) hW' (fun _ _ _ => (trodAll_cons_mk (shut_bool Try.underlying4 _) trodAll_mk0)) (fun sp _ => rfl) (fun _ _ => rfl) (by simp)
    (hg.frame _) hg.2.1 (ok_one (by kernel_rfl) rfl (okWide_bool_mk Try.underlying4 _))⟩

theorem over : Rows.sectorKnownRow.holds Try.pinned (OpenSpec.ofChange Rows.sectorKnownSpec) :=
  OpenClaim.holds_of_wide 7 Try.f7 rfl rfl rfl rfl rfl rfl rfl ⟨rfl, rfl, rfl, rfl, rfl⟩ rfl rfl rfl rfl rfl (by kernel_rfl) Try.func7 (by kernel_rfl)
    (of_decide_eq_true (by kernel_rfl)) (by unfold Func.isWrapper; first | (rw [if_pos (by decide +kernel)]; kernel_rfl) | (rw [if_neg (by decide +kernel)]; exact ⟨rfl, rfl⟩))
    (fun os started H enc _ => lifted os started H enc)

/-- the statement -/
theorem proved : Rows.SectorKnownSaid :=
  over
#print axioms proved
end Go.Proofs.Ytifkpnagloijkaa.sectorKnown
