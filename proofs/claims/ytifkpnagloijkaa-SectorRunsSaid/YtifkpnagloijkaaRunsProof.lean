/-
  Proved: whatever is done with a disk, it answers, and its sectors are, as the document says; what is handed in is neither kept nor changed, what is told is new memory: the law SectorRuns returns true for every input. There are no conditions.
-/
import Derived.Test.YtifkpnagloijkaaRows
import Derived.Test.YtifkpnagloijkaaIsRuns
import Derived.Test.YtifkpnagloijkaaGlbSecC
import Derived.Test.YtifkpnagloijkaaGlbFits04
import Derived.Test.YtifkpnagloijkaaBcloneX
import Derived.Test.YtifkpnagloijkaaKeysX
import Derived.WalkKit
import Derived.ProofKit
import Derived.OpenShut
import Derived.ShutString
namespace Go.Proofs.Ytifkpnagloijkaa.sectorRuns
open Go.ChangeShapes Go.WideShapes Go.ChangeAt Go.RowKit
open Go.ChangeMaps (open_string shut_string)
set_option linter.unusedVariables false
set_option maxRecDepth 100000

theorem own : ownKnob Try.prog.godebug = none := by kernel_rfl

open Glb in
def shape : List (Bool × List Ty) := [(false, [.int .i64]), (false, [.sl 5 opTy])]

open Glb in
theorem copyB : CopyOk Try.prog 53 .u8 := CopyBytes_ok is_glebekit_CopyBytes
open Glb in
theorem same : SameOk Try.prog 28 .i64 := SameInts_ok is_glebekit_SameInts
open Glb in
theorem sameB : SameOk Try.prog 19 .u8 := SameBytes_ok is_glebekit_SameBytes
open Glb in
theorem spoilB : SpoilOk Try.prog 36 (.sl 1 [.int .u8]) := SpoilBytes_ok is_glebekit_SpoilBytes
open Glb in
theorem spoilI : SpoilOk Try.prog 44 (.sl 1 [.int .i64]) := SpoilInts_ok is_glebekit_SpoilInts
open Glb in
theorem lentI : LentIntsP Try.prog 39 := LentInts_ok is_glebekit_LentInts
open Glb in
theorem keptI : KeptOk Try.prog 41 := KeptInts_ok is_glebekit_KeptInts same
open Glb in
theorem keptB : KeptBOk Try.prog 35 := KeptBytes_ok is_glebekit_KeptBytes sameB
open Glb in
theorem bcloneKit : CloneKit Try.prog 47 := by
  refine ⟨fun a c w => (bcloneZero a c w).mono ?_⟩
  rintro e w' ⟨v, he, hown, hne, hb⟩
  rcases hown.2 with ⟨h1, _⟩ | ⟨g, cap, cur, h1, _⟩
  · exact absurd h1 hne
  · subst h1
    exact ⟨_, _, he, rfl, ⟨hb.os, hb.output, hb.size, fun a ha => World.frozen?_of_block (hb.block _ ha)⟩, hb.block⟩
open Glb in
theorem bclone : CloneBOk Try.prog 47 := cloneB_ok is_bytes_Clone bcloneKit
open Glb in
theorem keysKit : KeysKit Try.prog 32 31 50 := ⟨by kernel_rfl, by kernel_rfl, mapKeys, mapSorted⟩
open Glb in
theorem dDirty : DirtyOk Try.prog 15 := dirty_ok is_sector_Disk_Dirty (keysOk keysKit) (sortedOk keysKit)
open Glb in
theorem dSpend : SpendOk Try.prog 45 := spend_ok is_sector_Disk_spend
open Glb in
theorem dHas : HasDOk Try.prog 46 := has_ok is_sector_Disk_has
open Glb in
theorem dNew : NewDOk Try.prog 10 := new_ok is_sector_New
open Glb in
theorem dWrite : WriteOk Try.prog 29 := write_ok is_sector_Disk_Write dHas dSpend bclone.p
open Glb in
theorem dFlush : FlushDOk Try.prog 25 := flush_ok is_sector_Disk_Flush dSpend dDirty.p
open Glb in
theorem dRead : ReadDOk Try.prog 30 := readD_ok is_sector_Disk_Read dHas bclone
open Glb in
theorem dLen : DLenOk Try.prog 12 := dlen_ok is_sector_Disk_Len
open Glb in
theorem dDown : DownOk Try.prog 26 := down_ok is_sector_Disk_Down
open Glb in
theorem dArm : ArmOk Try.prog 27 := arm_ok is_sector_Disk_Arm
open Glb in
theorem dCrash : CrashDOk Try.prog 16 := crashD_ok is_sector_Disk_Crash dDirty.p
open Glb in
theorem xPut : PutSOk Try.prog 52 := put_ok is_gleberef04_put
open Glb in
theorem xFind : FindSOk Try.prog 54 := find_ok is_gleberef04_find
open Glb in
theorem xDone : DoneOk Try.prog 51 := done_ok is_gleberef04_Disk_Done
open Glb in
theorem xNew : XNewOk Try.prog 21 := xnew_ok is_gleberef04_New
open Glb in
theorem xWrite : XWriteOk Try.prog 34 := xwrite_ok is_gleberef04_Disk_Write xDone copyB xPut
open Glb in
theorem xFlush : XFlushOk Try.prog 37 := xflush_ok is_gleberef04_Disk_Flush xDone xPut
open Glb in
theorem xRead : XReadOk Try.prog 42 := xread_ok is_gleberef04_Disk_Read xFind copyB
open Glb in
theorem xDirty : XDirtyOk Try.prog 43 := xdirty_ok is_gleberef04_Disk_Dirty
open Glb in
theorem xArm : XArmOk Try.prog 38 := xarm_ok is_gleberef04_Disk_Arm
open Glb in
theorem xCrash : XCrashOk Try.prog 40 := xcrash_ok is_gleberef04_Disk_Crash xPut
open Glb in
theorem long4 : Long4Ok Try.prog 9 := long4_ok is_glebelaw04_long
open Glb in
theorem works4 : YesOk Try.prog 8 := works4_ok is_glebelaw04_works dNew dWrite dFlush dCrash dRead.p sameB dDirty.p
open Glb in
theorem lentBO : LentBytesO Try.prog 33 := LentBytes_own is_glebekit_LentBytes
open Glb in
theorem looks4 : LooksOk Try.prog 23 := looks_ok is_glebelaw04_Looks dRead xRead sameB spoilB dDirty xDirty same spoilI dLen dDown
open Glb in
theorem both4 : BothOk Try.prog 22 := both_ok is_glebelaw04_both lentBO dWrite xWrite keptB spoilB dFlush xFlush dArm xArm lentI dCrash xCrash keptI
open Glb in
theorem runs04 (n : Int) (l : List Op4) (hR : ∀ o ∈ l, o.R) (h : AHeap) : ACalls Try.prog 4 [.int .i64 n, aops l] h fun r _ => r = .bool true :=
  runs_ok is_glebelaw04_SectorRuns long4 works4 dNew xNew both4 looks4 (all4_ok is_glebelaw04_All looks4) n l hR h
open Glb in
theorem law (dss : List (List D)) (h : FitsAll dss shape) : ACalls Try.prog 4 (argAVs dss shape) [] fun r _ => r = .bool true := by
  obtain ⟨_, _, rfl, h1, h⟩ := FitsAll_cons h
  obtain ⟨_, _, rfl, h2, h⟩ := FitsAll_cons h
  cases FitsAll_nil h
  obtain ⟨n, rfl⟩ := fits_int h1
  obtain ⟨l, rfl, hR⟩ := fitsR_opsL h2
  exact runs04 n l hR []
theorem shaped : Glb.shapes Try.prog 12 Try.f4.params.toList = some shape := by kernel_rfl

theorem lifted (os : Os) (started : os.Started) (H : Type) (enc : TypeId × Value → H) :
    ReturnsInHanded {} Try.checked os 4 .any (Rows.sectorRunsSpec.pre6 enc Try.prog Try.f4 Rows.sectorRunsRow.domain false) (Rows.sectorRunsSpec.post enc Try.prog Try.f4 false true false false) := by
  refine returnsInHanded_of_change (C := Try.checked) own started (by kernel_rfl) Try.func4
    (ChangeSpec.witness6 (enc := enc) (C := Try.checked) false ⟨#[], #[.int .i64 0, .slice none 0 0], []⟩ 12 (by kernel_rfl) (by kernel_rfl) (by kernel_rfl) (by kernel_rfl)) ?_
  intro W base args ds gs before hval0 hW hcnd _
  have hval : ∀ (j : Nat) t v, Try.f4.params[j]? = some t → args[j]? = some v → Value.okWide Try.prog W .any base t v := hval0
  have hW' := hW
  obtain ⟨p, q, hA0, hV, rfl, hfz, hnd⟩ := hW
  have hA : DataW.TrodAll enc Try.prog W 0 (fun _ => true) true Try.f4.params.toList args.toList ds p := hA0
  obtain ⟨rfl, rfl⟩ := trodVars_none hV
  simp only [List.append_nil] at hW'
  have hlen : ∃ d0 d1, ds = [d0, d1] := by
    rw [Try.params4] at hA
    obtain ⟨v0, v1, x0, x1, p0, p1, h⟩ := trodAll_two hA
    exact ⟨x0, x1, h.2.1⟩
  obtain ⟨d0, d1, rfl⟩ := hlen
  refine (Glb.law_calls (n := 12) shaped law hA (fun j t v a b => hval j t v (by simpa using a) b)).mono fun e W' ⟨he, hg, hsame⟩ => ?_
  subst he
  exact ⟨_, rfl, Glb.post_same (pa := p) (pv := []) hW' (fun _ _ _ => (trodAll_cons_mk (shut_bool Try.underlying4 _) trodAll_mk0))
    (fun sp hsp => Glb.trodAll_stays (by kernel_rfl) hsame _ _ _ _ (by kernel_rfl) hA hW'.lt hsp) (fun _ _ => rfl) (by simp)
    (hg.frame _) hg.2.1 (ok_one (by kernel_rfl) rfl (okWide_bool_mk Try.underlying4 _))⟩

theorem over : Rows.sectorRunsRow.holds Try.pinned (OpenSpec.ofChange Rows.sectorRunsSpec) :=
  OpenClaim.holds_of_wide 4 Try.f4 rfl rfl rfl rfl rfl rfl rfl ⟨rfl, rfl, rfl, rfl, rfl⟩ rfl rfl rfl rfl rfl (by kernel_rfl) Try.func4 (by kernel_rfl)
    (of_decide_eq_true (by kernel_rfl)) (by unfold Func.isWrapper; first | (rw [if_pos (by decide +kernel)]; kernel_rfl) | (rw [if_neg (by decide +kernel)]; exact ⟨rfl, rfl⟩))
    (fun os started H enc _ => lifted os started H enc)

/-- the statement -/
theorem proved : Rows.SectorRunsSaid :=
  over
#print axioms proved
end Go.Proofs.Ytifkpnagloijkaa.sectorRuns
