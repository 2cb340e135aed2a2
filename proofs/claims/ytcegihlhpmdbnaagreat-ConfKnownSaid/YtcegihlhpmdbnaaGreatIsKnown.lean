/-
  What the functions of the program are.
-/
import Derived.Test.YtcegihlhpmdbnaaGreatChecked
import Derived.Test.YtcegihlhpmdbnaaGreatGlbLibC
import Derived.Test.YtcegihlhpmdbnaaGreatGlbCconf
import Derived.Test.YtcegihlhpmdbnaaGreatGlbCconfof
import Derived.Test.YtcegihlhpmdbnaaGreatGlbCglebekit
import Derived.Test.YtcegihlhpmdbnaaGreatGlbCglebelaw16
import Derived.Test.YtcegihlhpmdbnaaGreatGlbCgleberef10
import Derived.Test.YtcegihlhpmdbnaaGreatGlbCgleberef13
import Derived.Test.YtcegihlhpmdbnaaGreatGlbCimage
import Derived.Test.YtcegihlhpmdbnaaGreatGlbCquorum
import Derived.Test.YtcegihlhpmdbnaaGreatGlbCread
import Derived.Test.YtcegihlhpmdbnaaGreatGlbCref02r
import Derived.KernelRfl
namespace Go.Proofs.YtcegihlhpmdbnaaGreat
open Go Glb Go.Proofs
set_option maxRecDepth 100000

theorem is_glebelaw16_ConfKnown : Is Tryz.prog 3 (c_glebelaw16_ConfKnown 4 5 6 7 8 9) := ⟨by kernel_rfl, by kernel_rfl⟩
theorem is_glebelaw16_three : Is Tryz.prog 4 (c_glebelaw16_three) := ⟨by kernel_rfl, by kernel_rfl⟩
theorem is_glebelaw16_ConfSteps : Is Tryz.prog 5 (c_glebelaw16_ConfSteps 10 9 11 12 13 14 15 16 17 18 19 20 21) := ⟨by kernel_rfl, by kernel_rfl⟩
theorem is_glebelaw16_ConfSafe : Is Tryz.prog 6 (c_glebelaw16_ConfSafe 10 9 22 23 19 24 25 26) := ⟨by kernel_rfl, by kernel_rfl⟩
theorem is_glebelaw16_ConfComes : Is Tryz.prog 7 (c_glebelaw16_ConfComes 10 9 13 15 25 14 19) := ⟨by kernel_rfl, by kernel_rfl⟩
theorem is_glebelaw16_ConfOf : Is Tryz.prog 8 (c_glebelaw16_ConfOf 27 9 28 29 30 19 20 31) := ⟨by kernel_rfl, by kernel_rfl⟩
theorem is_glebelaw16_works : Is Tryz.prog 9 (c_glebelaw16_works 4 13 15 19) := ⟨by kernel_rfl, by kernel_rfl⟩
theorem is_glebekit_BigConf : Is Tryz.prog 10 (c_glebekit_BigConf) := ⟨by kernel_rfl, by kernel_rfl⟩
theorem is_glebekit_CopyConf : Is Tryz.prog 11 (c_glebekit_CopyConf 32) := ⟨by kernel_rfl, by kernel_rfl⟩
theorem is_glebekit_LentInts : Is Tryz.prog 12 (c_glebekit_LentInts) := ⟨by kernel_rfl, by kernel_rfl⟩
theorem is_conf_Add : Is Tryz.prog 13 (c_conf_Add 33 34 35) := ⟨by kernel_rfl, by kernel_rfl⟩
theorem is_conf_Drop : Is Tryz.prog 14 (c_conf_Drop 33 36 35 37) := ⟨by kernel_rfl, by kernel_rfl⟩
theorem is_conf_Next : Is Tryz.prog 15 (c_conf_Next 38 23 39 40 35 41 42) := ⟨by kernel_rfl, by kernel_rfl⟩
theorem is_gleberef16_Add : Is Tryz.prog 16 (c_gleberef16_Add 43 44 32) := ⟨by kernel_rfl, by kernel_rfl⟩
theorem is_gleberef16_Drop : Is Tryz.prog 17 (c_gleberef16_Drop 43 44 32) := ⟨by kernel_rfl, by kernel_rfl⟩
theorem is_gleberef16_Next : Is Tryz.prog 18 (c_gleberef16_Next 45 46 11 32 44 47) := ⟨by kernel_rfl, by kernel_rfl⟩
theorem is_glebekit_SameConf : Is Tryz.prog 19 (c_glebekit_SameConf 48) := ⟨by kernel_rfl, by kernel_rfl⟩
theorem is_glebekit_SpoilConf : Is Tryz.prog 20 (c_glebekit_SpoilConf 49) := ⟨by kernel_rfl, by kernel_rfl⟩
theorem is_glebekit_KeptInts : Is Tryz.prog 21 (c_glebekit_KeptInts 48) := ⟨by kernel_rfl, by kernel_rfl⟩
theorem is_glebelaw16_stepped : Is Tryz.prog 22 (c_glebelaw16_stepped 50 13 14 15) := ⟨by kernel_rfl, by kernel_rfl⟩
theorem is_quorum_Check : Is Tryz.prog 23 (c_quorum_Check 51 52 53) := ⟨by kernel_rfl, by kernel_rfl⟩
theorem is_quorum_Won : Is Tryz.prog 24 (c_quorum_Won 54) := ⟨by kernel_rfl, by kernel_rfl⟩
theorem is_glebelaw16_both : Is Tryz.prog 25 (c_glebelaw16_both) := ⟨by kernel_rfl, by kernel_rfl⟩
theorem is_quorum_Voters : Is Tryz.prog 26 (c_quorum_Voters 55) := ⟨by kernel_rfl, by kernel_rfl⟩
theorem is_glebekit_BigHard : Is Tryz.prog 27 (c_glebekit_BigHard 56 10) := ⟨by kernel_rfl, by kernel_rfl⟩
theorem is_glebekit_CopyHard : Is Tryz.prog 28 (c_glebekit_CopyHard 57 11 58) := ⟨by kernel_rfl, by kernel_rfl⟩
theorem is_conf_Of : IsR Tryz.prog false 29 (r_conf_Of 59 60 35) := ⟨by kernel_rfl, by kernel_rfl⟩
theorem is_gleberef16_Of : Is Tryz.prog 30 (c_gleberef16_Of 11 61) := ⟨by kernel_rfl, by kernel_rfl⟩
theorem is_glebekit_SameHard : Is Tryz.prog 31 (c_glebekit_SameHard 62 19 63) := ⟨by kernel_rfl, by kernel_rfl⟩
theorem is_glebekit_CopyInts : Is Tryz.prog 32 (c_glebekit_CopyInts) := ⟨by kernel_rfl, by kernel_rfl⟩
theorem is_conf_may : Is Tryz.prog 33 (c_conf_may 23 39) := ⟨by kernel_rfl, by kernel_rfl⟩
theorem is_slices_Contains_int_int : Is Tryz.prog 34 (c_slices_Contains_int_int 36) := ⟨by kernel_rfl, by kernel_rfl⟩
theorem is_slices_Clone_int_int : Is Tryz.prog 35 (c_slices_Clone_int_int) := ⟨by kernel_rfl, by kernel_rfl⟩
theorem is_slices_Index_int_int : Is Tryz.prog 36 (c_slices_Index_int_int) := ⟨by kernel_rfl, by kernel_rfl⟩
theorem is_slices_Delete_int_int : Is Tryz.prog 37 (c_slices_Delete_int_int) := ⟨by kernel_rfl, by kernel_rfl⟩
theorem is_conf_Next_f1 : Is Tryz.prog 38 (c_conf_Next_f1 34) := ⟨by kernel_rfl, by kernel_rfl⟩
theorem is_conf_members_busy : Is Tryz.prog 39 (c_conf_members_busy) := ⟨by kernel_rfl, by kernel_rfl⟩
theorem is_slices_ContainsFunc_int_int : Is Tryz.prog 40 (c_slices_ContainsFunc_int_int 64) := ⟨by kernel_rfl, by kernel_rfl⟩
theorem is_conf_members_joint : Is Tryz.prog 41 (c_conf_members_joint 35 65) := ⟨by kernel_rfl, by kernel_rfl⟩
theorem is_conf_members_alone : Is Tryz.prog 42 (c_conf_members_alone 35) := ⟨by kernel_rfl, by kernel_rfl⟩
theorem is_gleberef16_forbids : Is Tryz.prog 43 (c_gleberef16_forbids 45 46) := ⟨by kernel_rfl, by kernel_rfl⟩
theorem is_gleberef10_In : Is Tryz.prog 44 (c_gleberef10_In) := ⟨by kernel_rfl, by kernel_rfl⟩
theorem is_gleberef10_Check : Is Tryz.prog 45 (c_gleberef10_Check 66 44) := ⟨by kernel_rfl, by kernel_rfl⟩
theorem is_gleberef16_Changing : Is Tryz.prog 46 (c_gleberef16_Changing) := ⟨by kernel_rfl, by kernel_rfl⟩
theorem is_gleberef10_With : Is Tryz.prog 47 (c_gleberef10_With 44) := ⟨by kernel_rfl, by kernel_rfl⟩
theorem is_glebekit_SameInts : Is Tryz.prog 48 (c_glebekit_SameInts) := ⟨by kernel_rfl, by kernel_rfl⟩
theorem is_glebekit_SpoilInts : Is Tryz.prog 49 (c_glebekit_SpoilInts) := ⟨by kernel_rfl, by kernel_rfl⟩
theorem is_glebekit_Pick : Is Tryz.prog 50 (c_glebekit_Pick) := ⟨by kernel_rfl, by kernel_rfl⟩
theorem is_quorum_Check_f1 : Is Tryz.prog 51 (c_quorum_Check_f1 34) := ⟨by kernel_rfl, by kernel_rfl⟩
theorem is_quorum_rises : Is Tryz.prog 52 (c_quorum_rises) := ⟨by kernel_rfl, by kernel_rfl⟩
theorem is_quorum_count_int : Is Tryz.prog 53 (c_quorum_count_int) := ⟨by kernel_rfl, by kernel_rfl⟩
theorem is_quorum_enough : Is Tryz.prog 54 (c_quorum_enough 67 53) := ⟨by kernel_rfl, by kernel_rfl⟩
theorem is_quorum_united : Is Tryz.prog 55 (c_quorum_united 68 65 69) := ⟨by kernel_rfl, by kernel_rfl⟩
theorem is_glebekit_BigEntries : Is Tryz.prog 56 (c_glebekit_BigEntries) := ⟨by kernel_rfl, by kernel_rfl⟩
theorem is_glebekit_CopyLog : Is Tryz.prog 57 (c_glebekit_CopyLog 70) := ⟨by kernel_rfl, by kernel_rfl⟩
theorem is_glebekit_CopyBytes : Is Tryz.prog 58 (c_glebekit_CopyBytes) := ⟨by kernel_rfl, by kernel_rfl⟩
theorem is_slices_Backward_api_Entry_api_Entry : Is Tryz.prog 59 (c_slices_Backward_api_Entry_api_Entry 71) := ⟨by kernel_rfl, by kernel_rfl⟩
theorem is_image_GetConf : Is Tryz.prog 60 (c_image_GetConf 72 73 74 23) := ⟨by kernel_rfl, by kernel_rfl⟩
theorem is_gleberef13_GetConf : Is Tryz.prog 61 (c_gleberef13_GetConf 75 76 77 45) := ⟨by kernel_rfl, by kernel_rfl⟩
theorem is_glebekit_SameLog : Is Tryz.prog 62 (c_glebekit_SameLog 78) := ⟨by kernel_rfl, by kernel_rfl⟩
theorem is_glebekit_SameBytes : Is Tryz.prog 63 (c_glebekit_SameBytes) := ⟨by kernel_rfl, by kernel_rfl⟩
theorem is_slices_IndexFunc_int_int : Is Tryz.prog 64 (c_slices_IndexFunc_int_int) := ⟨by kernel_rfl, by kernel_rfl⟩
theorem is_gleberef10_rising : Is Tryz.prog 66 (c_gleberef10_rising) := ⟨by kernel_rfl, by kernel_rfl⟩
theorem is_quorum_enough_f1 : Is Tryz.prog 67 (c_quorum_enough_f1 34) := ⟨by kernel_rfl, by kernel_rfl⟩
theorem is_slices_Concat_int_int : Is Tryz.prog 68 (c_slices_Concat_int_int 81) := ⟨by kernel_rfl, by kernel_rfl⟩
theorem is_slices_Compact_int_int : Is Tryz.prog 69 (c_slices_Compact_int_int) := ⟨by kernel_rfl, by kernel_rfl⟩
theorem is_glebekit_CopyEntries : Is Tryz.prog 70 (c_glebekit_CopyEntries 58) := ⟨by kernel_rfl, by kernel_rfl⟩
theorem is_slices_Backward_api_Entry_api_Entry_f1 : IsR Tryz.prog true 71 (y_slices_Backward_api_Entry_api_Entry_f1) := ⟨by kernel_rfl, by kernel_rfl⟩
theorem is_pack_Read : Is Tryz.prog 72 (c_pack_Read 82) := ⟨by kernel_rfl, by kernel_rfl⟩
theorem is_image_source_conf : Is Tryz.prog 73 (c_image_source_conf 83) := ⟨by kernel_rfl, by kernel_rfl⟩
theorem is_image_source_end : Is Tryz.prog 74 (c_image_source_end 84) := ⟨by kernel_rfl, by kernel_rfl⟩
theorem is_gleberef02_Read : Is Tryz.prog 75 (c_gleberef02_Read) := ⟨by kernel_rfl, by kernel_rfl⟩
theorem is_gleberef13_getConf : Is Tryz.prog 76 (c_gleberef13_getConf 85) := ⟨by kernel_rfl, by kernel_rfl⟩
theorem is_gleberef02_Reader_End : Is Tryz.prog 77 (c_gleberef02_Reader_End 86) := ⟨by kernel_rfl, by kernel_rfl⟩
theorem is_glebekit_SameEntries : Is Tryz.prog 78 (c_glebekit_SameEntries 87) := ⟨by kernel_rfl, by kernel_rfl⟩
theorem is_slices_Grow_int_int : Is Tryz.prog 81 (c_slices_Grow_int_int) := ⟨by kernel_rfl, by kernel_rfl⟩
theorem is_slices_Clone_byte_byte : Is Tryz.prog 82 (c_slices_Clone_byte_byte) := ⟨by kernel_rfl, by kernel_rfl⟩
theorem is_pack_Reader_Ints : Is Tryz.prog 83 (c_pack_Reader_Ints 99 100) := ⟨by kernel_rfl, by kernel_rfl⟩
theorem is_pack_Reader_End : Is Tryz.prog 84 (c_pack_Reader_End) := ⟨by kernel_rfl, by kernel_rfl⟩
theorem is_gleberef02_Reader_Ints : Is Tryz.prog 85 (c_gleberef02_Reader_Ints 101 86) := ⟨by kernel_rfl, by kernel_rfl⟩
theorem is_gleberef02_Reader_Left : Is Tryz.prog 86 (c_gleberef02_Reader_Left) := ⟨by kernel_rfl, by kernel_rfl⟩
theorem is_glebekit_SameEntry : Is Tryz.prog 87 (c_glebekit_SameEntry 63) := ⟨by kernel_rfl, by kernel_rfl⟩
theorem is_pack_Reader_Int : Is Tryz.prog 99 (c_pack_Reader_Int 108) := ⟨by kernel_rfl, by kernel_rfl⟩
theorem is_pack_Reader_fail : Is Tryz.prog 100 (c_pack_Reader_fail) := ⟨by kernel_rfl, by kernel_rfl⟩
theorem is_gleberef02_Reader_Int : Is Tryz.prog 101 (c_gleberef02_Reader_Int 86) := ⟨by kernel_rfl, by kernel_rfl⟩
theorem is_pack_Reader_take : Is Tryz.prog 108 (c_pack_Reader_take 100) := ⟨by kernel_rfl, by kernel_rfl⟩

end Go.Proofs.YtcegihlhpmdbnaaGreat
