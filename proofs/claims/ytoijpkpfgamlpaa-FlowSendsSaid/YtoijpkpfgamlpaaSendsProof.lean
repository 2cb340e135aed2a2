/-
  Proved: what the program sends by any flow is the document's message, what is handed in stays and what is handed out is new memory, as the law FlowSends says: it returns true for every input. There are no conditions.
-/
import Derived.Test.YtoijpkpfgamlpaaRows
import Derived.Test.YtoijpkpfgamlpaaIsF
import Derived.Test.YtoijpkpfgamlpaaGlbLaw15s
import Derived.Test.YtoijpkpfgamlpaaGlbFits15s
import Derived.WalkKit
import Derived.ProofKit
import Derived.OpenShut
import Derived.ShutString
namespace Go.Proofs.Ytoijpkpfgamlpaa.flowSends
open Go.ChangeShapes Go.WideShapes Go.ChangeAt Go.RowKit
open Go.ChangeMaps (open_string shut_string)
set_option linter.unusedVariables false
set_option maxRecDepth 100000

theorem own : ownKnob Try.prog.godebug = none := by kernel_rfl

open Glb in
def shape : List (Bool × List Ty) := [(true, askTy), (true, hardTy)]

open Glb in
theorem yes : YesOk Try.prog 24 := yes_of_run tab_glebelaw15_known_ok (fuel := 200) (d := 12) (by kernel_rfl)

open Glb in
theorem law (dss : List (List D)) (h : FitsAll dss shape) : ACalls Try.prog 5 (argAVs dss shape) [] fun r _ => r = .bool true := by
  obtain ⟨_, _, rfl, h1, h⟩ := FitsAll_cons h
  obtain ⟨_, _, rfl, h2, h⟩ := FitsAll_cons h
  cases FitsAll_nil h
  obtain ⟨w, id, commit, round, rfl⟩ := fits_ask h1
  obtain ⟨x, rfl⟩ := fits_hard h2
  have copyB := CopyBytes_ok is_glebekit_CopyBytes
  have copyE := CopyEntries_ok is_glebekit_CopyEntries copyB
  have sameB := SameBytes_ok is_glebekit_SameBytes
  have sameE := SameEntries_ok is_glebekit_SameEntries (SameEntry_ok is_glebekit_SameEntry sameB)
  have spoilB := SpoilBytes_ok is_glebekit_SpoilBytes
  have room := room_ok is_pack_room
  have number := number_ok is_pack_number
  have blob := pack_Blob_ok is_pack_Blob room number
  have ints := pack_Ints_ok is_pack_Ints room number
  have rint := gleberef02_Int_ok is_gleberef02_Int
  have rblob := gleberef02_Blob_ok is_gleberef02_Blob rint
  have rints := gleberef02_Ints_ok is_gleberef02_Ints rint
  have lastP := rlog_Last_ok is_rlog_Last
  have lastR := gleberef11_Last_ok is_gleberef11_Last
  exact sends_ok is_glebelaw15_FlowSends (placed_ok is_glebelaw15_placed) (right_ok is_glebelaw15_right (BigHard_ok is_glebekit_BigHard (BigEntries_ok is_glebekit_BigEntries) (BigConf_ok is_glebekit_BigConf))) yes
    (CopyHard_p is_glebekit_CopyHard (CopyLog_ok is_glebekit_CopyLog copyE).p (CopyConf_ok is_glebekit_CopyConf (CopyInts_ok is_glebekit_CopyInts)).p copyB.bytes)
    (flow_Next_ok is_flow_Next (image_PutConf_ok is_image_PutConf (image_putConf_ok is_image_putConf ints)).p blob (rlog_Term_ok is_rlog_Term lastP).p (rlog_Slice_ok is_rlog_Slice lastP (rlog_fresh_ok is_rlog_fresh)))
    (gleberef15_Next_ok is_gleberef15_Next (gleberef13_PutConf_ok is_gleberef13_PutConf (gleberef13_putConf_ok is_gleberef13_putConf rints)).p rblob (gleberef11_Term_ok is_gleberef11_Term lastR).p (gleberef11_Slice_ok is_gleberef11_Slice lastR copyE))
    (SameMsg_ok is_glebekit_SameMsg sameE sameB) (SpoilMsgs_ok is_glebekit_SpoilMsgs (SpoilEntries_ok is_glebekit_SpoilEntries spoilB) spoilB)
    (SameHard_ok is_glebekit_SameHard (SameLog_ok is_glebekit_SameLog sameE) (SameConf_ok is_glebekit_SameConf (SameInts_ok is_glebekit_SameInts)) sameB) w id commit round x []
theorem shaped : Glb.shapes Try.prog 12 Try.f5.params.toList = some shape := by kernel_rfl

theorem lifted (os : Os) (started : os.Started) (H : Type) (enc : TypeId × Value → H) :
    ReturnsInHanded {} Try.checked os 5 .any (Rows.flowSendsSpec.pre6 enc Try.prog Try.f5 Rows.flowSendsRow.domain false) (Rows.flowSendsSpec.post enc Try.prog Try.f5 false true false false) := by
  refine returnsInHanded_of_change (C := Try.checked) own started (by kernel_rfl) Try.func5
    (ChangeSpec.witness6 (enc := enc) (C := Try.checked) false ⟨#[], #[.agg #[.int .i64 0, .int .i64 0, .int .i64 0, .int .i64 0, .int .i64 0, .int .i64 0, .int .i64 0], .agg #[.int .i64 0, .int .i64 0, .int .i64 0, .int .i64 0, .int .i64 0, .slice none 0 0, .slice none 0 0, .slice none 0 0, .slice none 0 0, .slice none 0 0]], []⟩ 12 (by kernel_rfl) (by kernel_rfl) (by kernel_rfl) (by kernel_rfl)) ?_
  intro W base args ds gs before hval0 hW hcnd _
  have hval : ∀ (j : Nat) t v, Try.f5.params[j]? = some t → args[j]? = some v → Value.okWide Try.prog W .any base t v := hval0
  have hW' := hW
  obtain ⟨p, q, hA0, hV, rfl, hfz, hnd⟩ := hW
  have hA : DataW.TrodAll enc Try.prog W 0 (fun _ => true) true Try.f5.params.toList args.toList ds p := hA0
  obtain ⟨rfl, rfl⟩ := trodVars_none hV
  simp only [List.append_nil] at hW'
  have hlen : ∃ d0 d1, ds = [d0, d1] := by
    rw [Try.params5] at hA
    obtain ⟨v0, v1, x0, x1, p0, p1, h⟩ := trodAll_two hA
    exact ⟨x0, x1, h.2.1⟩
  obtain ⟨d0, d1, rfl⟩ := hlen
  refine (Glb.law_calls (n := 12) shaped law hA (fun j t v a b => hval j t v (by simpa using a) b)).mono fun e W' ⟨he, hg, hsame⟩ => ?_
  subst he
  exact ⟨_, rfl, post_of_same (pa := p) (pv := []) hW' (fun _ _ _ => (trodAll_cons_mk (shut_bool Try.underlying4 _) trodAll_mk0))
    (fun sp hsp => Glb.trodAll_stays (by kernel_rfl) hsame _ _ _ _ (by kernel_rfl) hA hW'.lt hsp) (fun _ _ => rfl) (by simp)
    (hg.frame _) hg.2.1 (ok_one (by kernel_rfl) rfl (okWide_bool_mk Try.underlying4 _))⟩

theorem over : Rows.flowSendsRow.holds Try.pinned (OpenSpec.ofChange Rows.flowSendsSpec) :=
  OpenClaim.holds_of_wide 5 Try.f5 rfl rfl rfl rfl rfl rfl rfl ⟨rfl, rfl, rfl, rfl, rfl⟩ rfl rfl rfl rfl rfl (by kernel_rfl) Try.func5 (by kernel_rfl)
    (of_decide_eq_true (by kernel_rfl)) (by unfold Func.isWrapper; first | (rw [if_pos (by decide +kernel)]; kernel_rfl) | (rw [if_neg (by decide +kernel)]; exact ⟨rfl, rfl⟩))
    (fun os started H enc _ => lifted os started H enc)

/-- the statement -/
theorem proved : Rows.FlowSendsSaid :=
  over
#print axioms proved
end Go.Proofs.Ytoijpkpfgamlpaa.flowSends
