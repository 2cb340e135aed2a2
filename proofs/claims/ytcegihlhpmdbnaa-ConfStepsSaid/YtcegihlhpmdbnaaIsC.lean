/-
  What the functions of the program are.
-/
import Derived.Test.YtcegihlhpmdbnaaChecked
import Derived.Test.YtcegihlhpmdbnaaGlbLibC
import Derived.Test.YtcegihlhpmdbnaaGlbCconf
import Derived.Test.YtcegihlhpmdbnaaGlbCglebelaw16
import Derived.Test.YtcegihlhpmdbnaaGlbCquorum
import Derived.Test.YtcegihlhpmdbnaaGlbCgleberef10
import Derived.Test.YtcegihlhpmdbnaaGlbCglebekit
import Derived.Test.YtcegihlhpmdbnaaGlbCsort
import Derived.KernelRfl
namespace Go.Proofs.Ytcegihlhpmdbnaa
open Go Glb Go.Proofs
set_option maxRecDepth 100000

theorem is_glebelaw16_ConfSteps : Is Try.prog 3 (c_glebelaw16_ConfSteps 6 7 8 9 10 11 12 13 14 15 16 17 18) := ⟨by kernel_rfl, by kernel_rfl⟩
theorem is_glebelaw16_ConfComes : Is Try.prog 4 (c_glebelaw16_ConfComes 6 7 10 12 19 11 16) := ⟨by kernel_rfl, by kernel_rfl⟩
theorem is_glebelaw16_ConfSafe : Is Try.prog 5 (c_glebelaw16_ConfSafe 6 7 20 21 16 22 19 23) := ⟨by kernel_rfl, by kernel_rfl⟩
theorem is_glebekit_BigConf : Is Try.prog 6 (c_glebekit_BigConf) := ⟨by kernel_rfl, by kernel_rfl⟩
theorem is_glebelaw16_works : Is Try.prog 7 (c_glebelaw16_works 24 10 12 16) := ⟨by kernel_rfl, by kernel_rfl⟩
theorem is_glebekit_CopyConf : Is Try.prog 8 (c_glebekit_CopyConf 25) := ⟨by kernel_rfl, by kernel_rfl⟩
theorem is_glebekit_LentInts : Is Try.prog 9 (c_glebekit_LentInts) := ⟨by kernel_rfl, by kernel_rfl⟩
theorem is_conf_Add : Is Try.prog 10 (c_conf_Add 26 27 28) := ⟨by kernel_rfl, by kernel_rfl⟩
theorem is_conf_Drop : Is Try.prog 11 (c_conf_Drop 26 29 28 30) := ⟨by kernel_rfl, by kernel_rfl⟩
theorem is_conf_Next : Is Try.prog 12 (c_conf_Next 31 21 32 33 28 34 35) := ⟨by kernel_rfl, by kernel_rfl⟩
theorem is_gleberef16_Add : Is Try.prog 13 (c_gleberef16_Add 36 37 25) := ⟨by kernel_rfl, by kernel_rfl⟩
theorem is_gleberef16_Drop : Is Try.prog 14 (c_gleberef16_Drop 36 37 25) := ⟨by kernel_rfl, by kernel_rfl⟩
theorem is_gleberef16_Next : Is Try.prog 15 (c_gleberef16_Next 38 39 8 25 37 40) := ⟨by kernel_rfl, by kernel_rfl⟩
theorem is_glebekit_SameConf : Is Try.prog 16 (c_glebekit_SameConf 41) := ⟨by kernel_rfl, by kernel_rfl⟩
theorem is_glebekit_SpoilConf : Is Try.prog 17 (c_glebekit_SpoilConf 42) := ⟨by kernel_rfl, by kernel_rfl⟩
theorem is_glebekit_KeptInts : Is Try.prog 18 (c_glebekit_KeptInts 41) := ⟨by kernel_rfl, by kernel_rfl⟩
theorem is_glebelaw16_both : Is Try.prog 19 (c_glebelaw16_both) := ⟨by kernel_rfl, by kernel_rfl⟩
theorem is_glebelaw16_stepped : Is Try.prog 20 (c_glebelaw16_stepped 43 10 11 12) := ⟨by kernel_rfl, by kernel_rfl⟩
theorem is_quorum_Check : Is Try.prog 21 (c_quorum_Check 44 45 46) := ⟨by kernel_rfl, by kernel_rfl⟩
theorem is_quorum_Won : Is Try.prog 22 (c_quorum_Won 47) := ⟨by kernel_rfl, by kernel_rfl⟩
theorem is_quorum_Voters : Is Try.prog 23 (c_quorum_Voters 48) := ⟨by kernel_rfl, by kernel_rfl⟩
theorem is_glebelaw16_three : Is Try.prog 24 (c_glebelaw16_three) := ⟨by kernel_rfl, by kernel_rfl⟩
theorem is_glebekit_CopyInts : Is Try.prog 25 (c_glebekit_CopyInts) := ⟨by kernel_rfl, by kernel_rfl⟩
theorem is_conf_may : Is Try.prog 26 (c_conf_may 21 32) := ⟨by kernel_rfl, by kernel_rfl⟩
theorem is_slices_Contains_int_int : Is Try.prog 27 (c_slices_Contains_int_int 29) := ⟨by kernel_rfl, by kernel_rfl⟩
theorem is_slices_Clone_int_int : Is Try.prog 28 (c_slices_Clone_int_int) := ⟨by kernel_rfl, by kernel_rfl⟩
theorem is_slices_Index_int_int : Is Try.prog 29 (c_slices_Index_int_int) := ⟨by kernel_rfl, by kernel_rfl⟩
theorem is_slices_Delete_int_int : Is Try.prog 30 (c_slices_Delete_int_int) := ⟨by kernel_rfl, by kernel_rfl⟩
theorem is_conf_Next_f1 : Is Try.prog 31 (c_conf_Next_f1 27) := ⟨by kernel_rfl, by kernel_rfl⟩
theorem is_conf_members_busy : Is Try.prog 32 (c_conf_members_busy) := ⟨by kernel_rfl, by kernel_rfl⟩
theorem is_slices_ContainsFunc_int_int : Is Try.prog 33 (c_slices_ContainsFunc_int_int 49) := ⟨by kernel_rfl, by kernel_rfl⟩
theorem is_conf_members_joint : Is Try.prog 34 (c_conf_members_joint 28 50) := ⟨by kernel_rfl, by kernel_rfl⟩
theorem is_conf_members_alone : Is Try.prog 35 (c_conf_members_alone 28) := ⟨by kernel_rfl, by kernel_rfl⟩
theorem is_gleberef16_forbids : Is Try.prog 36 (c_gleberef16_forbids 38 39) := ⟨by kernel_rfl, by kernel_rfl⟩
theorem is_gleberef10_In : Is Try.prog 37 (c_gleberef10_In) := ⟨by kernel_rfl, by kernel_rfl⟩
theorem is_gleberef10_Check : Is Try.prog 38 (c_gleberef10_Check 51 37) := ⟨by kernel_rfl, by kernel_rfl⟩
theorem is_gleberef16_Changing : Is Try.prog 39 (c_gleberef16_Changing) := ⟨by kernel_rfl, by kernel_rfl⟩
theorem is_gleberef10_With : Is Try.prog 40 (c_gleberef10_With 37) := ⟨by kernel_rfl, by kernel_rfl⟩
theorem is_glebekit_SameInts : Is Try.prog 41 (c_glebekit_SameInts) := ⟨by kernel_rfl, by kernel_rfl⟩
theorem is_glebekit_SpoilInts : Is Try.prog 42 (c_glebekit_SpoilInts) := ⟨by kernel_rfl, by kernel_rfl⟩
theorem is_glebekit_Pick : Is Try.prog 43 (c_glebekit_Pick) := ⟨by kernel_rfl, by kernel_rfl⟩
theorem is_quorum_Check_f1 : Is Try.prog 44 (c_quorum_Check_f1 27) := ⟨by kernel_rfl, by kernel_rfl⟩
theorem is_quorum_rises : Is Try.prog 45 (c_quorum_rises) := ⟨by kernel_rfl, by kernel_rfl⟩
theorem is_quorum_count_int : Is Try.prog 46 (c_quorum_count_int) := ⟨by kernel_rfl, by kernel_rfl⟩
theorem is_quorum_enough : Is Try.prog 47 (c_quorum_enough 52 46) := ⟨by kernel_rfl, by kernel_rfl⟩
theorem is_quorum_united : Is Try.prog 48 (c_quorum_united 53 50 54) := ⟨by kernel_rfl, by kernel_rfl⟩
theorem is_slices_IndexFunc_int_int : Is Try.prog 49 (c_slices_IndexFunc_int_int) := ⟨by kernel_rfl, by kernel_rfl⟩
theorem is_slices_Sort_int_int : Is Try.prog 50 (c_slices_Sort_int_int 56 55) := ⟨by kernel_rfl, by kernel_rfl⟩
theorem is_gleberef10_rising : Is Try.prog 51 (c_gleberef10_rising) := ⟨by kernel_rfl, by kernel_rfl⟩
theorem is_quorum_enough_f1 : Is Try.prog 52 (c_quorum_enough_f1 27) := ⟨by kernel_rfl, by kernel_rfl⟩
theorem is_slices_Concat_int_int : Is Try.prog 53 (c_slices_Concat_int_int 57) := ⟨by kernel_rfl, by kernel_rfl⟩
theorem is_slices_Compact_int_int : Is Try.prog 54 (c_slices_Compact_int_int) := ⟨by kernel_rfl, by kernel_rfl⟩
theorem is_slices_pdqsortOrdered_int : Is Try.prog 55 (c_slices_pdqsortOrdered_int 58 59 60 61 62 63 64 65 66 55) := ⟨by kernel_rfl, by kernel_rfl⟩
theorem is_math_bits_Len : Is Try.prog 56 (c_math_bits_Len 67 68) := ⟨by kernel_rfl, by kernel_rfl⟩
theorem is_slices_Grow_int_int : Is Try.prog 57 (c_slices_Grow_int_int) := ⟨by kernel_rfl, by kernel_rfl⟩
theorem is_slices_insertionSortOrdered_int : Is Try.prog 58 (c_slices_insertionSortOrdered_int 64) := ⟨by kernel_rfl, by kernel_rfl⟩
theorem is_cmp_Less_int : Is Try.prog 64 (c_cmp_Less_int 74) := ⟨by kernel_rfl, by kernel_rfl⟩
theorem is_math_bits_Len32 : Is Try.prog 67 (c_math_bits_Len32) := ⟨by kernel_rfl, by kernel_rfl⟩
theorem is_math_bits_Len64 : Is Try.prog 68 (c_math_bits_Len64) := ⟨by kernel_rfl, by kernel_rfl⟩
theorem is_cmp_isNaN_int : Is Try.prog 74 (c_cmp_isNaN_int) := ⟨by kernel_rfl, by kernel_rfl⟩
def tab_glebelaw16_works : Tab := [(7, c_glebelaw16_works 24 10 12 16), (24, c_glebelaw16_three), (10, c_conf_Add 26 27 28), (26, c_conf_may 21 32), (21, c_quorum_Check 44 45 46), (44, c_quorum_Check_f1 27), (27, c_slices_Contains_int_int 29), (29, c_slices_Index_int_int), (45, c_quorum_rises), (46, c_quorum_count_int), (32, c_conf_members_busy), (28, c_slices_Clone_int_int), (12, c_conf_Next 31 21 32 33 28 34 35), (31, c_conf_Next_f1 27), (33, c_slices_ContainsFunc_int_int 49), (49, c_slices_IndexFunc_int_int), (34, c_conf_members_joint 28 50), (50, c_slices_Sort_int_int 56 55), (56, c_math_bits_Len 67 68), (67, c_math_bits_Len32), (68, c_math_bits_Len64), (55, c_slices_pdqsortOrdered_int 58 59 60 61 62 63 64 65 66 55), (58, c_slices_insertionSortOrdered_int 64), (64, c_cmp_Less_int 74), (74, c_cmp_isNaN_int), (35, c_conf_members_alone 28), (16, c_glebekit_SameConf 41), (41, c_glebekit_SameInts)]
theorem tab_glebelaw16_works_ok : TabOk Try.prog tab_glebelaw16_works := (TabOk.cons is_glebelaw16_works.1 is_glebelaw16_works.2 (TabOk.cons is_glebelaw16_three.1 is_glebelaw16_three.2 (TabOk.cons is_conf_Add.1 is_conf_Add.2 (TabOk.cons is_conf_may.1 is_conf_may.2 (TabOk.cons is_quorum_Check.1 is_quorum_Check.2 (TabOk.cons is_quorum_Check_f1.1 is_quorum_Check_f1.2 (TabOk.cons is_slices_Contains_int_int.1 is_slices_Contains_int_int.2 (TabOk.cons is_slices_Index_int_int.1 is_slices_Index_int_int.2 (TabOk.cons is_quorum_rises.1 is_quorum_rises.2 (TabOk.cons is_quorum_count_int.1 is_quorum_count_int.2 (TabOk.cons is_conf_members_busy.1 is_conf_members_busy.2 (TabOk.cons is_slices_Clone_int_int.1 is_slices_Clone_int_int.2 (TabOk.cons is_conf_Next.1 is_conf_Next.2 (TabOk.cons is_conf_Next_f1.1 is_conf_Next_f1.2 (TabOk.cons is_slices_ContainsFunc_int_int.1 is_slices_ContainsFunc_int_int.2 (TabOk.cons is_slices_IndexFunc_int_int.1 is_slices_IndexFunc_int_int.2 (TabOk.cons is_conf_members_joint.1 is_conf_members_joint.2 (TabOk.cons is_slices_Sort_int_int.1 is_slices_Sort_int_int.2 (TabOk.cons is_math_bits_Len.1 is_math_bits_Len.2 (TabOk.cons is_math_bits_Len32.1 is_math_bits_Len32.2 (TabOk.cons is_math_bits_Len64.1 is_math_bits_Len64.2 (TabOk.cons is_slices_pdqsortOrdered_int.1 is_slices_pdqsortOrdered_int.2 (TabOk.cons is_slices_insertionSortOrdered_int.1 is_slices_insertionSortOrdered_int.2 (TabOk.cons is_cmp_Less_int.1 is_cmp_Less_int.2 (TabOk.cons is_cmp_isNaN_int.1 is_cmp_isNaN_int.2 (TabOk.cons is_conf_members_alone.1 is_conf_members_alone.2 (TabOk.cons is_glebekit_SameConf.1 is_glebekit_SameConf.2 (TabOk.cons is_glebekit_SameInts.1 is_glebekit_SameInts.2 (TabOk.nil _)))))))))))))))))))))))))))))

end Go.Proofs.Ytcegihlhpmdbnaa
