/-
  Proved: the chapter's examples, all nodes and steps of some members, are as the document says: the closed law ConfKnown returns true. There are no conditions.
-/
import Derived.Test.YtcegihlhpmdbnaaGreatRows
import Derived.Test.YtcegihlhpmdbnaaGreatIsKnown
import Derived.Test.YtcegihlhpmdbnaaGreatGlbConE
import Derived.Test.YtcegihlhpmdbnaaGreatGlbConD
import Derived.Test.YtcegihlhpmdbnaaGreatSortX
import Derived.Test.YtcegihlhpmdbnaaGreatCloneX
import Derived.WalkKit
import Derived.ProofKit
import Derived.OpenShut
import Derived.ShutString
namespace Go.Proofs.YtcegihlhpmdbnaaGreat.confKnown
open Go.ChangeShapes Go.WideShapes Go.ChangeAt Go.RowKit
open Go.ChangeMaps (open_string shut_string)
set_option linter.unusedVariables false
set_option maxRecDepth 100000

theorem own : ownKnob Tryz.prog.godebug = none := by kernel_rfl

open Glb in
theorem copyI : CopyOk Tryz.prog 32 .i64 := CopyInts_ok is_glebekit_CopyInts
open Glb in
theorem copyB : CopyOk Tryz.prog 58 .u8 := CopyBytes_ok is_glebekit_CopyBytes
open Glb in
theorem copyConf : CopyConfOk Tryz.prog 11 := CopyConf_ok is_glebekit_CopyConf copyI
open Glb in
theorem copyHard : CopyHardG Tryz.prog 28 := CopyHard_g is_glebekit_CopyHard (CopyLog_ok is_glebekit_CopyLog (CopyEntries_ok is_glebekit_CopyEntries copyB)) copyConf copyB
open Glb in
theorem same : SameOk Tryz.prog 48 .i64 := SameInts_ok is_glebekit_SameInts
open Glb in
theorem sameB : SameOk Tryz.prog 63 .u8 := SameBytes_ok is_glebekit_SameBytes
open Glb in
theorem sameConf : SameConfOk Tryz.prog 19 := SameConf_ok is_glebekit_SameConf same
open Glb in
theorem sameHard : SameHardOk Tryz.prog 31 := SameHard_ok is_glebekit_SameHard (SameLog_ok is_glebekit_SameLog (SameEntries_ok is_glebekit_SameEntries (SameEntry_ok is_glebekit_SameEntry sameB))) sameConf sameB
open Glb in
theorem bigConf : BigConfOk Tryz.prog 10 := BigConf_ok is_glebekit_BigConf
open Glb in
theorem cloneKitB : CloneKit Tryz.prog 82 := by
  refine ⟨fun a c w => (cloneZero a c w).mono ?_⟩
  rintro e w' ⟨v, he, hown, hne, hb⟩
  rcases hown.2 with ⟨h1, _⟩ | ⟨g, cap, cur, h1, _⟩
  · exact absurd h1 hne
  · subst h1
    exact ⟨_, _, he, rfl, ⟨hb.os, hb.output, hb.size, fun a ha => World.frozen?_of_block (hb.block _ ha)⟩, hb.block⟩
open Glb in
theorem rdTake : TakeR Tryz.prog 108 := take_ok is_pack_Reader_take (fail_ok is_pack_Reader_fail)
open Glb in
theorem rdInt : IntR Tryz.prog 99 := pack_Int_ok is_pack_Reader_Int rdTake
open Glb in
theorem rdInts : IntsR Tryz.prog 83 := pack_Ints_r is_pack_Reader_Ints rdInt (fail_ok is_pack_Reader_fail)
open Glb in
theorem rdRead : ReadR Tryz.prog 72 := pack_Read_ok is_pack_Read (CloneB_ok is_slices_Clone_byte_byte cloneKitB)
open Glb in
theorem sConf : GetT Tryz.prog 73 Conf.c confC.dec := confG_ok is_image_source_conf rdInts
open Glb in
theorem has : HasOk Tryz.prog 34 := Contains_ok is_slices_Contains_int_int (Index_ok is_slices_Index_int_int)
open Glb in
theorem check : CheckOk Tryz.prog 23 := quorum_Check_ok is_quorum_Check is_quorum_Check_f1 has (rises_ok is_quorum_rises) (count_ok is_quorum_count_int)
open Glb in
theorem getF : GetConfOk Tryz.prog 60 := GetConf_ok is_image_GetConf rdRead sConf is_image_source_end is_pack_Reader_End check
open Glb in
theorem rhas : HasOk Tryz.prog 44 := gleberef10_In_ok is_gleberef10_In
open Glb in
theorem won : WonOk Tryz.prog 24 := quorum_Won_ok is_quorum_Won (enough_ok is_quorum_enough is_quorum_enough_f1 has (count_ok is_quorum_count_int))
open Glb in
theorem sortk : SortKit Tryz.prog 65 := ⟨by kernel_rfl, fun blk off cap zs w hH hb hl => Any.slices_Sort_int Tryz.lays189 blk off cap zs w hH hb hl, fun p cap w => Any.slices_Sort_int_none Tryz.lays189 p cap w⟩
open Glb in
theorem united : UnitedOk Tryz.prog 55 := united_ok is_quorum_united (Concat_ok is_slices_Concat_int_int (Grow_ok is_slices_Grow_int_int)) (sort_ok sortk) (Compact_ok is_slices_Compact_int_int)
open Glb in
theorem voters : ListOk Tryz.prog 26 Conf.voters := quorum_Voters_ok is_quorum_Voters united
open Glb in
theorem rcheck : CheckOk Tryz.prog 45 := gleberef10_Check_ok is_gleberef10_Check (gleberef10_rising_ok is_gleberef10_rising) rhas
open Glb in
theorem clone : CloneOk Tryz.prog 35 := Clone_ok is_slices_Clone_int_int (Glb.cloneKit Tryz.laysNm215)
open Glb in
theorem may : MayOk Tryz.prog 33 := conf_may_ok is_conf_may check (busy_ok is_conf_members_busy)
open Glb in
theorem rmay : MayOk Tryz.prog 43 := gleberef16_forbids_ok is_gleberef16_forbids rcheck (Changing_ok is_gleberef16_Changing)
open Glb in
theorem add : StepOk Tryz.prog 13 Conf.add := conf_Add_ok is_conf_Add may has clone
open Glb in
theorem drop : StepOk Tryz.prog 14 Conf.drop := conf_Drop_ok is_conf_Drop may (Index_ok is_slices_Index_int_int) clone (Delete_ok is_slices_Delete_int_int)
open Glb in
theorem next : NextOk Tryz.prog 15 := conf_Next_ok is_conf_Next is_conf_Next_f1 has check (busy_ok is_conf_members_busy) (ContainsFunc_ok is_slices_ContainsFunc_int_int is_slices_IndexFunc_int_int) clone (joint_ok is_conf_members_joint clone (sort_ok sortk)) (alone_ok is_conf_members_alone clone)
open Glb in
theorem radd : StepP Tryz.prog 16 Conf.add := (gleberef16_Add_ok is_gleberef16_Add rmay rhas copyI.clone).p
open Glb in
theorem rdrop : StepP Tryz.prog 17 Conf.drop := (gleberef16_Drop_ok is_gleberef16_Drop rmay rhas copyI.clone).p
open Glb in
theorem rnext : NextP Tryz.prog 18 := gleberef16_Next_ok is_gleberef16_Next rcheck (Changing_ok is_gleberef16_Changing) (CopyConf_ok is_glebekit_CopyConf copyI) copyI rhas (With_ok is_gleberef10_With rhas)
open Glb in
theorem pick : PickOk Tryz.prog 50 := Pick_ok is_glebekit_Pick
open Glb in
theorem spoilI : SpoilOk Tryz.prog 49 (.sl 1 [.int .i64]) := SpoilInts_ok is_glebekit_SpoilInts
open Glb in
theorem rLeft : LeftRR Tryz.prog 86 := Left_rr is_gleberef02_Reader_Left
open Glb in
theorem rrInt : IntRR Tryz.prog 101 := Int_rr is_gleberef02_Reader_Int rLeft
open Glb in
theorem rrInts : IntsRR Tryz.prog 85 := Ints_rr is_gleberef02_Reader_Ints rrInt rLeft
open Glb in
theorem rrRead : ReadRR Tryz.prog 75 := Read_rr is_gleberef02_Read
open Glb in
theorem rrConf : GetRR Tryz.prog 76 Conf.c confC.dec := getConf_rr is_gleberef13_getConf rrInts
open Glb in
theorem rGetF : GetConfP Tryz.prog 61 := r_GetConf_ok is_gleberef13_GetConf rrRead rrConf is_gleberef02_Reader_End rLeft rcheck
open Glb in
theorem lentI : LentIntsP Tryz.prog 12 := LentInts_ok is_glebekit_LentInts
open Glb in
theorem keptI : KeptOk Tryz.prog 21 := KeptInts_ok is_glebekit_KeptInts same
open Glb in
theorem bigEntries : BigEntriesOk Tryz.prog 56 := BigEntries_ok is_glebekit_BigEntries
open Glb in
theorem three16 : ThreeP Tryz.prog 4 := three_ok is_glebelaw16_three
open Glb in
theorem works16 : YesOk Tryz.prog 9 := works16_ok is_glebelaw16_works three16 add.p next.p sameConf
open Glb in
theorem spoilC16 : SpoilConfOk Tryz.prog 20 := SpoilConf_ok is_glebekit_SpoilConf spoilI
open Glb in
theorem steps16 : Steps16P Tryz.prog 5 := ⟨is_glebelaw16_ConfSteps.2, fun x n far => steps_ok is_glebelaw16_ConfSteps bigConf works16 copyConf.p lentI add drop next radd rdrop rnext sameConf spoilC16 keptI x n far []⟩
open Glb in
theorem both16 : BothOk Tryz.prog 25 := both_ok is_glebelaw16_both
open Glb in
theorem safe16 : Safe16P Tryz.prog 6 := ⟨is_glebelaw16_ConfSafe.2, fun x how n far a b => safe_ok is_glebelaw16_ConfSafe bigConf works16 (stepped_ok is_glebelaw16_stepped pick add.p drop.p next.p) check sameConf won both16 voters x how n far a b []⟩
open Glb in
theorem comes16 : Comes16P Tryz.prog 7 := ⟨is_glebelaw16_ConfComes.2, fun x n => comes_ok is_glebelaw16_ConfComes bigConf works16 add.p next.p both16 drop.p sameConf x n []⟩
open Glb in
theorem ofI : OfOk Tryz.prog 29 := of_ok is_conf_Of (back_ok16 is_slices_Backward_api_Entry_api_Entry) (backit_ok is_slices_Backward_api_Entry_api_Entry_f1) getF clone
open Glb in
theorem rofI : OfP Tryz.prog 30 := rof_ok is_gleberef16_Of copyConf rGetF
open Glb in
theorem of16 : Of16P Tryz.prog 8 := ⟨is_glebelaw16_ConfOf.2, fun x hB => confof_ok is_glebelaw16_ConfOf (BigHard_ok is_glebekit_BigHard bigEntries bigConf) works16 copyHard ofI rofI sameConf spoilC16 sameHard x hB []⟩
open Glb in
theorem law : ACalls Tryz.prog 3 [] [] fun r _ => r = .bool true :=
  known16_ok is_glebelaw16_ConfKnown three16 steps16 safe16 comes16 of16 works16 []
theorem walk (w : World) : Calls Tryz.prog 3 #[] w fun e w' => e = .returned (.bool true) ∧ Glb.GrownB w w' :=
  Glb.closedA law w

theorem lifted (os : Os) (started : os.Started) (H : Type) (enc : TypeId × Value → H) :
    ReturnsInHanded {} Tryz.checked os 3 .any (Rows.confKnownSpec.pre6 enc Tryz.prog Tryz.f3 Rows.confKnownRow.domain false) (Rows.confKnownSpec.post enc Tryz.prog Tryz.f3 false true false false) := by
  refine returnsInHanded_of_change (C := Tryz.checked) own started (by kernel_rfl) Tryz.func3
    (ChangeSpec.witness6 (enc := enc) (C := Tryz.checked) false ⟨#[], #[], []⟩ 8 (by kernel_rfl) (by kernel_rfl) (by kernel_rfl) (by kernel_rfl)) ?_
  intro W base args ds gs before hval0 hW hcnd _
  have hval : ∀ (j : Nat) t v, Tryz.f3.params[j]? = some t → args[j]? = some v → Value.okWide Tryz.prog W .any base t v := hval0
  have hW' := hW
  obtain ⟨p, q, hA0, hV, rfl, hfz, hnd⟩ := hW
  have hA : DataW.TrodAll enc Tryz.prog W 0 (fun _ => true) true Tryz.f3.params.toList args.toList ds p := hA0
  rw [Tryz.params3] at hA hval
  obtain ⟨rfl, rfl, rfl⟩ := trodAll_none hA
  obtain ⟨rfl, rfl⟩ := trodVars_none hV
  clear hA0 hval0
  simp only [List.append_nil] at hW'
  refine (walk W).mono fun e W' ⟨he, hg⟩ => ?_
  subst he
  exact ⟨_, rfl, Glb.post_same (pa := []) (pv := []) hW' (fun _ _ _ => (trodAll_cons_mk (shut_bool Tryz.underlying4 _) trodAll_mk0)) (fun sp _ => rfl) (fun _ _ => rfl) (by simp)
    (hg.frame _) hg.2.1 (ok_one (by kernel_rfl) rfl (okWide_bool_mk Tryz.underlying4 _))⟩

theorem over : Rows.confKnownRow.holds Tryz.pinned (OpenSpec.ofChange Rows.confKnownSpec) :=
  OpenClaim.holds_of_wide 3 Tryz.f3 rfl rfl rfl rfl rfl rfl rfl ⟨rfl, rfl, rfl, rfl, rfl⟩ rfl rfl rfl rfl rfl (by kernel_rfl) Tryz.func3 (by kernel_rfl)
    (of_decide_eq_true (by kernel_rfl)) (by unfold Func.isWrapper; first | (rw [if_pos (by decide +kernel)]; kernel_rfl) | (rw [if_neg (by decide +kernel)]; exact ⟨rfl, rfl⟩))
    (fun os started H enc _ => lifted os started H enc)

/-- the statement -/
theorem proved : Rows.ConfKnownSaid :=
  over
#print axioms proved
end Go.Proofs.YtcegihlhpmdbnaaGreat.confKnown
