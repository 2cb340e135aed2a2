/-
  What the functions of the program are.
-/
import Derived.Test.YtoijpkpfgamlpaaChecked
import Derived.Test.YtoijpkpfgamlpaaGlbLibC
import Derived.Test.YtoijpkpfgamlpaaGlbCquorum
import Derived.Test.YtoijpkpfgamlpaaGlbCgleberef10
import Derived.Test.YtoijpkpfgamlpaaGlbCglebelaw10
import Derived.Test.YtoijpkpfgamlpaaGlbCglebekit
import Derived.KernelRfl
namespace Go.Proofs.Ytoijpkpfgamlpaa
open Go Glb Go.Proofs
set_option maxRecDepth 100000

theorem is_glebelaw10_QuorumAgrees : Is Try.prog 3 (c_glebelaw10_QuorumAgrees 12 13 14 15 16 17) := ⟨by kernel_rfl, by kernel_rfl⟩
theorem is_glebelaw10_QuorumReached : Is Try.prog 4 (c_glebelaw10_QuorumReached 12 13 15 18 19 20 21) := ⟨by kernel_rfl, by kernel_rfl⟩
theorem is_glebelaw10_QuorumMeets : Is Try.prog 8 (c_glebelaw10_QuorumMeets 12 38 13 39 19 40) := ⟨by kernel_rfl, by kernel_rfl⟩
theorem is_glebelaw10_QuorumMore : Is Try.prog 9 (c_glebelaw10_QuorumMore 12 13 20 19 38 39) := ⟨by kernel_rfl, by kernel_rfl⟩
theorem is_glebelaw10_QuorumTells : Is Try.prog 10 (c_glebelaw10_QuorumTells 12 13 41 14 39 42 38 43 19 44 46 45 47 48 49 17) := ⟨by kernel_rfl, by kernel_rfl⟩
theorem is_glebelaw10_QuorumKnown : Is Try.prog 11 (c_glebelaw10_QuorumKnown 10 9 8 3 4 13) := ⟨by kernel_rfl, by kernel_rfl⟩
theorem is_glebelaw10_long : Is Try.prog 12 (c_glebelaw10_long) := ⟨by kernel_rfl, by kernel_rfl⟩
theorem is_glebelaw10_works : Is Try.prog 13 (c_glebelaw10_works 38 19 15) := ⟨by kernel_rfl, by kernel_rfl⟩
theorem is_glebekit_LentInts : Is Try.prog 14 (c_glebekit_LentInts) := ⟨by kernel_rfl, by kernel_rfl⟩
theorem is_quorum_Agreed : Is Try.prog 15 (c_quorum_Agreed 19) := ⟨by kernel_rfl, by kernel_rfl⟩
theorem is_gleberef10_Agreed : Is Try.prog 16 (c_gleberef10_Agreed 44) := ⟨by kernel_rfl, by kernel_rfl⟩
theorem is_glebekit_KeptInts : Is Try.prog 17 (c_glebekit_KeptInts 45) := ⟨by kernel_rfl, by kernel_rfl⟩
theorem is_glebelaw10_in : Is Try.prog 18 (c_glebelaw10_in) := ⟨by kernel_rfl, by kernel_rfl⟩
theorem is_quorum_Won : Is Try.prog 19 (c_quorum_Won 50) := ⟨by kernel_rfl, by kernel_rfl⟩
theorem is_glebekit_CopyInts : Is Try.prog 20 (c_glebekit_CopyInts) := ⟨by kernel_rfl, by kernel_rfl⟩
theorem is_glebekit_Pick : Is Try.prog 21 (c_glebekit_Pick) := ⟨by kernel_rfl, by kernel_rfl⟩
theorem is_quorum_Check : Is Try.prog 38 (c_quorum_Check 69 71 72) := ⟨by kernel_rfl, by kernel_rfl⟩
theorem is_quorum_Voters : Is Try.prog 39 (c_quorum_Voters 73) := ⟨by kernel_rfl, by kernel_rfl⟩
theorem is_glebelaw10_meet : Is Try.prog 40 (c_glebelaw10_meet 18) := ⟨by kernel_rfl, by kernel_rfl⟩
theorem is_glebekit_CopyConf : Is Try.prog 41 (c_glebekit_CopyConf 20) := ⟨by kernel_rfl, by kernel_rfl⟩
theorem is_quorum_Members : Is Try.prog 42 (c_quorum_Members 73) := ⟨by kernel_rfl, by kernel_rfl⟩
theorem is_gleberef10_Check : Is Try.prog 43 (c_gleberef10_Check 74 75) := ⟨by kernel_rfl, by kernel_rfl⟩
theorem is_gleberef10_Won : Is Try.prog 44 (c_gleberef10_Won 76) := ⟨by kernel_rfl, by kernel_rfl⟩
theorem is_glebekit_SameInts : Is Try.prog 45 (c_glebekit_SameInts) := ⟨by kernel_rfl, by kernel_rfl⟩
theorem is_gleberef10_Voters : Is Try.prog 46 (c_gleberef10_Voters 77) := ⟨by kernel_rfl, by kernel_rfl⟩
theorem is_gleberef10_Members : Is Try.prog 47 (c_gleberef10_Members 46 77) := ⟨by kernel_rfl, by kernel_rfl⟩
theorem is_glebekit_SpoilInts : Is Try.prog 48 (c_glebekit_SpoilInts) := ⟨by kernel_rfl, by kernel_rfl⟩
theorem is_glebekit_SameConf : Is Try.prog 49 (c_glebekit_SameConf 45) := ⟨by kernel_rfl, by kernel_rfl⟩
theorem is_quorum_enough : Is Try.prog 50 (c_quorum_enough 78 72) := ⟨by kernel_rfl, by kernel_rfl⟩
theorem is_quorum_Check_f1 : Is Try.prog 69 (c_quorum_Check_f1 70) := ⟨by kernel_rfl, by kernel_rfl⟩
theorem is_slices_Contains_int_int : Is Try.prog 70 (c_slices_Contains_int_int 89) := ⟨by kernel_rfl, by kernel_rfl⟩
theorem is_quorum_rises : Is Try.prog 71 (c_quorum_rises) := ⟨by kernel_rfl, by kernel_rfl⟩
theorem is_quorum_count_int : Is Try.prog 72 (c_quorum_count_int) := ⟨by kernel_rfl, by kernel_rfl⟩
theorem is_quorum_united : Is Try.prog 73 (c_quorum_united 90 91 92) := ⟨by kernel_rfl, by kernel_rfl⟩
theorem is_gleberef10_rising : Is Try.prog 74 (c_gleberef10_rising) := ⟨by kernel_rfl, by kernel_rfl⟩
theorem is_gleberef10_In : Is Try.prog 75 (c_gleberef10_In) := ⟨by kernel_rfl, by kernel_rfl⟩
theorem is_gleberef10_enough : Is Try.prog 76 (c_gleberef10_enough 75) := ⟨by kernel_rfl, by kernel_rfl⟩
theorem is_gleberef10_all : Is Try.prog 77 (c_gleberef10_all 93) := ⟨by kernel_rfl, by kernel_rfl⟩
theorem is_quorum_enough_f1 : Is Try.prog 78 (c_quorum_enough_f1 70) := ⟨by kernel_rfl, by kernel_rfl⟩
theorem is_slices_Index_int_int : Is Try.prog 89 (c_slices_Index_int_int) := ⟨by kernel_rfl, by kernel_rfl⟩
theorem is_slices_Concat_int_int : Is Try.prog 90 (c_slices_Concat_int_int 96) := ⟨by kernel_rfl, by kernel_rfl⟩
theorem is_slices_Compact_int_int : Is Try.prog 92 (c_slices_Compact_int_int) := ⟨by kernel_rfl, by kernel_rfl⟩
theorem is_gleberef10_With : Is Try.prog 93 (c_gleberef10_With 75) := ⟨by kernel_rfl, by kernel_rfl⟩
theorem is_slices_Grow_int_int : Is Try.prog 96 (c_slices_Grow_int_int) := ⟨by kernel_rfl, by kernel_rfl⟩
def tab_glebelaw10_works : Tab := [(13, c_glebelaw10_works 38 19 15), (38, c_quorum_Check 69 71 72), (69, c_quorum_Check_f1 70), (70, c_slices_Contains_int_int 89), (89, c_slices_Index_int_int), (71, c_quorum_rises), (72, c_quorum_count_int), (19, c_quorum_Won 50), (50, c_quorum_enough 78 72), (78, c_quorum_enough_f1 70), (15, c_quorum_Agreed 19)]
theorem tab_glebelaw10_works_ok : TabOk Try.prog tab_glebelaw10_works := (TabOk.cons is_glebelaw10_works.1 is_glebelaw10_works.2 (TabOk.cons is_quorum_Check.1 is_quorum_Check.2 (TabOk.cons is_quorum_Check_f1.1 is_quorum_Check_f1.2 (TabOk.cons is_slices_Contains_int_int.1 is_slices_Contains_int_int.2 (TabOk.cons is_slices_Index_int_int.1 is_slices_Index_int_int.2 (TabOk.cons is_quorum_rises.1 is_quorum_rises.2 (TabOk.cons is_quorum_count_int.1 is_quorum_count_int.2 (TabOk.cons is_quorum_Won.1 is_quorum_Won.2 (TabOk.cons is_quorum_enough.1 is_quorum_enough.2 (TabOk.cons is_quorum_enough_f1.1 is_quorum_enough_f1.2 (TabOk.cons is_quorum_Agreed.1 is_quorum_Agreed.2 (TabOk.nil _))))))))))))

end Go.Proofs.Ytoijpkpfgamlpaa
