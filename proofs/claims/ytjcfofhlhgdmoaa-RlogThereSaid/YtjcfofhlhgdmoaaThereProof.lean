/-
  RlogThere: for every log, index and entries: behind Append the entries stand there as to their terms; those ahead are as they were; the same once more changes nothing.
-/
import Derived.Test.YtjcfofhlhgdmoaaRows
import Derived.Test.YtjcfofhlhgdmoaaIs
import Derived.Test.YtjcfofhlhgdmoaaGlbLaw11t
import Derived.Test.YtjcfofhlhgdmoaaGlbFits
import Derived.WalkKit
import Derived.ProofKit
import Derived.OpenShut
import Derived.ShutString
namespace Go.Proofs.Ytjcfofhlhgdmoaa.rlogThere
open Go.ChangeShapes Go.WideShapes Go.ChangeAt Go.RowKit
open Go.ChangeMaps (open_string shut_string)
set_option linter.unusedVariables false
set_option maxRecDepth 100000

theorem own : ownKnob Try.prog.godebug = none := by kernel_rfl

open Glb in
def shape : List (Bool × List Ty) := [(true, logTy), (false, [.int .i64]), (false, [.sl 3 entryTy])]

open Glb in
theorem yes : YesOk Try.prog 11 := yes_of_run tab_glebelaw11_known_ok (fuel := 100) (d := 8) (by kernel_rfl)

open Glb in
theorem last : LastOk Try.prog 13 := rlog_Last_ok is_rlog_Last
open Glb in
theorem rlast : LastOk Try.prog 24 := gleberef11_Last_ok is_gleberef11_Last
open Glb in
theorem copyB : CopyOk Try.prog 32 .u8 := CopyBytes_ok is_glebekit_CopyBytes
open Glb in
theorem copyE : CopyEntriesOk Try.prog 18 := CopyEntries_ok is_glebekit_CopyEntries copyB
open Glb in
theorem copyL : CopyLogOk Try.prog 17 := CopyLog_ok is_glebekit_CopyLog copyE
open Glb in
theorem fresh : CopyEntriesOk Try.prog 30 := rlog_fresh_ok is_rlog_fresh
open Glb in
theorem sameE : SameEntriesOk Try.prog 16 := SameEntries_ok is_glebekit_SameEntries (SameEntry_ok is_glebekit_SameEntry (SameBytes_ok is_glebekit_SameBytes))
open Glb in
theorem sameL : SameLogOk Try.prog 14 := SameLog_ok is_glebekit_SameLog sameE
open Glb in
theorem spoilE : SpoilOk Try.prog 22 (.sl 3 entryT) := SpoilEntries_ok is_glebekit_SpoilEntries (SpoilBytes_ok is_glebekit_SpoilBytes)
open Glb in
theorem bigE : BigEntriesOk Try.prog 10 := BigEntries_ok is_glebekit_BigEntries
open Glb in
theorem rightIs : RightOk Try.prog 9 := right_ok is_glebelaw11_right bigE
open Glb in
theorem term : TermOk Try.prog 15 := rlog_Term_ok is_rlog_Term last
open Glb in
theorem rterm : TermOk Try.prog 25 := gleberef11_Term_ok is_gleberef11_Term rlast
open Glb in
theorem law (dss : List (List D)) (h : FitsAll dss shape) : ACalls Try.prog 3 (argAVs dss shape) [] fun r _ => r = .bool true := by
  obtain ⟨_, _, rfl, h1, h⟩ := FitsAll_cons h
  obtain ⟨_, _, rfl, h2, h⟩ := FitsAll_cons h
  obtain ⟨_, _, rfl, h3, h⟩ := FitsAll_cons h
  cases FitsAll_nil h
  obtain ⟨l, rfl⟩ := fits_log h1
  obtain ⟨i, rfl⟩ := fits_int h2
  obtain ⟨e, rfl⟩ := fits_entriesL h3
  exact there_ok is_glebelaw11_RlogThere rightIs bigE yes (rlog_Append_ok is_rlog_Append last fresh term) last sameL term sameE l i e []
theorem shaped : Glb.shapes Try.prog 12 Try.f3.params.toList = some shape := by kernel_rfl

theorem lifted (os : Os) (started : os.Started) (H : Type) (enc : TypeId × Value → H) :
    ReturnsInHanded {} Try.checked os 3 .any (Rows.rlogThereSpec.pre6 enc Try.prog Try.f3 Rows.rlogThereRow.domain false) (Rows.rlogThereSpec.post enc Try.prog Try.f3 false true false false) := by
  refine returnsInHanded_of_change (C := Try.checked) own started (by kernel_rfl) Try.func3
    (ChangeSpec.witness6 (enc := enc) (C := Try.checked) false ⟨#[], #[.agg #[.int .i64 0, .int .i64 0, .slice none 0 0], .int .i64 0, .slice none 0 0], []⟩ 12 (by kernel_rfl) (by kernel_rfl) (by kernel_rfl) (by kernel_rfl)) ?_
  intro W base args ds gs before hval0 hW hcnd _
  have hval : ∀ (j : Nat) t v, Try.f3.params[j]? = some t → args[j]? = some v → Value.okWide Try.prog W .any base t v := hval0
  have hW' := hW
  obtain ⟨p, q, hA0, hV, rfl, hfz, hnd⟩ := hW
  have hA : DataW.TrodAll enc Try.prog W 0 (fun _ => true) true Try.f3.params.toList args.toList ds p := hA0
  obtain ⟨rfl, rfl⟩ := trodVars_none hV
  simp only [List.append_nil] at hW'
  have hlen : ∃ d0 d1 d2, ds = [d0, d1, d2] := by
    rw [Try.params3] at hA
    obtain ⟨v0, v1, v2, x0, x1, x2, p0, p1, p2, h⟩ := trodAll_three hA
    exact ⟨x0, x1, x2, h.2.1⟩
  obtain ⟨d0, d1, d2, rfl⟩ := hlen
  refine (Glb.law_calls (n := 12) shaped law hA (fun j t v a b => hval j t v (by simpa using a) b)).mono fun e W' ⟨he, hg, hsame⟩ => ?_
  subst he
  exact ⟨_, rfl, post_of_same (pa := p) (pv := []) hW' (fun _ _ _ => (trodAll_cons_mk (shut_bool Try.underlying4 _) trodAll_mk0))
    (fun sp hsp => Glb.trodAll_stays (by kernel_rfl) hsame _ _ _ _ (by kernel_rfl) hA hW'.lt hsp) (fun _ _ => rfl) (by simp)
    (hg.frame _) hg.2.1 (ok_one (by kernel_rfl) rfl (okWide_bool_mk Try.underlying4 _))⟩

theorem over : Rows.rlogThereRow.holds Try.pinned (OpenSpec.ofChange Rows.rlogThereSpec) :=
  OpenClaim.holds_of_wide 3 Try.f3 rfl rfl rfl rfl rfl rfl rfl ⟨rfl, rfl, rfl, rfl, rfl⟩ rfl rfl rfl rfl rfl (by kernel_rfl) Try.func3 (by kernel_rfl)
    (of_decide_eq_true (by kernel_rfl)) (by unfold Func.isWrapper; first | (rw [if_pos (by decide +kernel)]; kernel_rfl) | (rw [if_neg (by decide +kernel)]; exact ⟨rfl, rfl⟩))
    (fun os started H enc _ => lifted os started H enc)

/-- the statement -/
theorem proved : Rows.RlogThereSaid :=
  over
#print axioms proved
end Go.Proofs.Ytjcfofhlhgdmoaa.rlogThere
