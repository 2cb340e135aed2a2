/-
  Proved: a crash touches none but dirty sectors; each of these is then as it was ahead of what was lost, or as it was read, or torn; a second crash changes nothing: the law SectorCrashed returns true for every input. There are no conditions.
-/
import Derived.Test.YtifkpnagloijkaaRows
import Derived.Test.YtifkpnagloijkaaIsCrashed
import Derived.Test.YtifkpnagloijkaaGlbSecD
import Derived.Test.YtifkpnagloijkaaGlbFits04
import Derived.Test.YtifkpnagloijkaaBcloneX
import Derived.Test.YtifkpnagloijkaaKeysX
import Derived.WalkKit
import Derived.ProofKit
import Derived.OpenShut
import Derived.ShutString
namespace Go.Proofs.Ytifkpnagloijkaa.sectorCrashed
open Go.ChangeShapes Go.WideShapes Go.ChangeAt Go.RowKit
open Go.ChangeMaps (open_string shut_string)
set_option linter.unusedVariables false
set_option maxRecDepth 100000

theorem own : ownKnob Try.prog.godebug = none := by kernel_rfl

open Glb in
def shape : List (Bool × List Ty) := [(false, [.int .i64]), (false, [.sl 5 opTy]), (false, [.sl 1 [.int .i64]]), (false, [.sl 1 [.int .i64]])]

open Glb in
theorem sameB : SameOk Try.prog 19 .u8 := SameBytes_ok is_glebekit_SameBytes
open Glb in
theorem pick : PickOk Try.prog 11 := Pick_ok is_glebekit_Pick
open Glb in
theorem bcloneKit : CloneKit Try.prog 47 := by
  refine ⟨fun a c w => (bcloneZero a c w).mono ?_⟩
  rintro e w' ⟨v, he, hown, hne, hb⟩
  rcases hown.2 with ⟨h1, _⟩ | ⟨g, cap, cur, h1, _⟩
  · exact absurd h1 hne
  · subst h1
    exact ⟨_, _, he, rfl, ⟨hb.os, hb.output, hb.size, fun a ha => World.frozen?_of_block (hb.block _ ha)⟩, hb.block⟩
open Glb in
theorem bclone : CloneBOk Try.prog 47 := cloneB_ok is_bytes_Clone bcloneKit
open Glb in
theorem keysKit : KeysKit Try.prog 32 31 50 := ⟨by kernel_rfl, by kernel_rfl, mapKeys, mapSorted⟩
open Glb in
theorem dDirty : DirtyOk Try.prog 15 := dirty_ok is_sector_Disk_Dirty (keysOk keysKit) (sortedOk keysKit)
open Glb in
theorem dSpend : SpendOk Try.prog 45 := spend_ok is_sector_Disk_spend
open Glb in
theorem dHas : HasDOk Try.prog 46 := has_ok is_sector_Disk_has
open Glb in
theorem dNew : NewDOk Try.prog 10 := new_ok is_sector_New
open Glb in
theorem dWrite : WriteOk Try.prog 29 := write_ok is_sector_Disk_Write dHas dSpend bclone.p
open Glb in
theorem dFlush : FlushDOk Try.prog 25 := flush_ok is_sector_Disk_Flush dSpend dDirty.p
open Glb in
theorem dRead : ReadDOk Try.prog 30 := readD_ok is_sector_Disk_Read dHas bclone
open Glb in
theorem dLen : DLenOk Try.prog 12 := dlen_ok is_sector_Disk_Len
open Glb in
theorem dArm : ArmOk Try.prog 27 := arm_ok is_sector_Disk_Arm
open Glb in
theorem dCrash : CrashDOk Try.prog 16 := crashD_ok is_sector_Disk_Crash dDirty.p
open Glb in
theorem long4 : Long4Ok Try.prog 9 := long4_ok is_glebelaw04_long
open Glb in
theorem works4 : YesOk Try.prog 8 := works4_ok is_glebelaw04_works dNew dWrite dFlush dCrash dRead.p sameB dDirty.p
open Glb in
theorem dRow : RowOk Try.prog 17 := row_ok is_glebekit_Row
open Glb in
theorem sameRows : SameRowsOk Try.prog 20 := samerows_ok is_glebekit_SameRows sameB
open Glb in
theorem shown4 : ShownOk Try.prog 14 := shown_ok is_glebelaw04_shown dLen dRead.p dRow
open Glb in
theorem run4 : Run4Ok Try.prog 13 := run4_ok is_glebelaw04_run dWrite dFlush dArm dCrash
open Glb in
theorem crashed04 (n : Int) (l : List Op4) (how more : List Int) (hR : ∀ o ∈ l, o.R) (h : AHeap) : ACalls Try.prog 3 [.int .i64 n, aops l, aints how, aints more] h fun r _ => r = .bool true :=
  crashed_ok is_glebelaw04_SectorCrashed works4 long4 pick dNew dLen run4 shown4 dDirty.p dCrash dRow (in4_ok is_glebelaw04_in) sameB sameRows n l how more hR h
open Glb in
theorem law (dss : List (List D)) (h : FitsAll dss shape) : ACalls Try.prog 3 (argAVs dss shape) [] fun r _ => r = .bool true := by
  obtain ⟨_, _, rfl, h1, h⟩ := FitsAll_cons h
  obtain ⟨_, _, rfl, h2, h⟩ := FitsAll_cons h
  obtain ⟨_, _, rfl, h3, h⟩ := FitsAll_cons h
  obtain ⟨_, _, rfl, h4, h⟩ := FitsAll_cons h
  cases FitsAll_nil h
  obtain ⟨n, rfl⟩ := fits_int h1
  obtain ⟨l, rfl, hR⟩ := fitsR_opsL h2
  obtain ⟨how, rfl⟩ := fits_intsL h3
  obtain ⟨more, rfl⟩ := fits_intsL h4
  exact crashed04 n l how more hR []
theorem shaped : Glb.shapes Try.prog 12 Try.f3.params.toList = some shape := by kernel_rfl

theorem lifted (os : Os) (started : os.Started) (H : Type) (enc : TypeId × Value → H) :
    ReturnsInHanded {} Try.checked os 3 .any (Rows.sectorCrashedSpec.pre6 enc Try.prog Try.f3 Rows.sectorCrashedRow.domain false) (Rows.sectorCrashedSpec.post enc Try.prog Try.f3 false true false false) := by
  refine returnsInHanded_of_change (C := Try.checked) own started (by kernel_rfl) Try.func3
    (ChangeSpec.witness6 (enc := enc) (C := Try.checked) false ⟨#[], #[.int .i64 0, .slice none 0 0, .slice none 0 0, .slice none 0 0], []⟩ 12 (by kernel_rfl) (by kernel_rfl) (by kernel_rfl) (by kernel_rfl)) ?_
  intro W base args ds gs before hval0 hW hcnd _
  have hval : ∀ (j : Nat) t v, Try.f3.params[j]? = some t → args[j]? = some v → Value.okWide Try.prog W .any base t v := hval0
  have hW' := hW
  obtain ⟨p, q, hA0, hV, rfl, hfz, hnd⟩ := hW
  have hA : DataW.TrodAll enc Try.prog W 0 (fun _ => true) true Try.f3.params.toList args.toList ds p := hA0
  obtain ⟨rfl, rfl⟩ := trodVars_none hV
  simp only [List.append_nil] at hW'
  have hlen : ∃ d0 d1 d2 d3, ds = [d0, d1, d2, d3] := by
    rw [Try.params3] at hA
    have hl := Glb.trodAll_len hA
    rcases ds with _ | ⟨d0, _ | ⟨d1, _ | ⟨d2, _ | ⟨d3, _ | ⟨d4, _⟩⟩⟩⟩⟩
    all_goals first | exact ⟨_, _, _, _, rfl⟩ | (exact absurd hl (by simp))
  obtain ⟨d0, d1, d2, d3, rfl⟩ := hlen
  refine (Glb.law_calls (n := 12) shaped law hA (fun j t v a b => hval j t v (by simpa using a) b)).mono fun e W' ⟨he, hg, hsame⟩ => ?_
  subst he
  exact ⟨_, rfl, Glb.post_same (pa := p) (pv := []) hW' (fun _ _ _ => (trodAll_cons_mk (shut_bool Try.underlying4 _) trodAll_mk0))
    (fun sp hsp => Glb.trodAll_stays (by kernel_rfl) hsame _ _ _ _ (by kernel_rfl) hA hW'.lt hsp) (fun _ _ => rfl) (by simp)
    (hg.frame _) hg.2.1 (ok_one (by kernel_rfl) rfl (okWide_bool_mk Try.underlying4 _))⟩

theorem over : Rows.sectorCrashedRow.holds Try.pinned (OpenSpec.ofChange Rows.sectorCrashedSpec) :=
  OpenClaim.holds_of_wide 3 Try.f3 rfl rfl rfl rfl rfl rfl rfl ⟨rfl, rfl, rfl, rfl, rfl⟩ rfl rfl rfl rfl rfl (by kernel_rfl) Try.func3 (by kernel_rfl)
    (of_decide_eq_true (by kernel_rfl)) (by unfold Func.isWrapper; first | (rw [if_pos (by decide +kernel)]; kernel_rfl) | (rw [if_neg (by decide +kernel)]; exact ⟨rfl, rfl⟩))
    (fun os started H enc _ => lifted os started H enc)

/-- the statement -/
theorem proved : Rows.SectorCrashedSaid :=
  over
#print axioms proved
end Go.Proofs.Ytifkpnagloijkaa.sectorCrashed
