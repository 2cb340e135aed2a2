/-
  What the functions of the program are.
-/
import Derived.Test.YtodbhmdfmdfiaaaGreatChecked
import Derived.Test.YtodbhmdfmdfiaaaGreatGlbLibC
import Derived.Test.YtodbhmdfmdfiaaaGreatGlbCconf
import Derived.Test.YtodbhmdfmdfiaaaGreatGlbCglebekit
import Derived.Test.YtodbhmdfmdfiaaaGreatGlbCglebelaw13
import Derived.Test.YtodbhmdfmdfiaaaGreatGlbCgleberef10
import Derived.Test.YtodbhmdfmdfiaaaGreatGlbCgleberef13
import Derived.Test.YtodbhmdfmdfiaaaGreatGlbCimage
import Derived.Test.YtodbhmdfmdfiaaaGreatGlbCkit2
import Derived.Test.YtodbhmdfmdfiaaaGreatGlbCpack
import Derived.Test.YtodbhmdfmdfiaaaGreatGlbCquorum
import Derived.Test.YtodbhmdfmdfiaaaGreatGlbCread
import Derived.Test.YtodbhmdfmdfiaaaGreatGlbCref02r
import Derived.Test.YtodbhmdfmdfiaaaGreatGlbCrlog
import Derived.KernelRfl
namespace Go.Proofs.YtodbhmdfmdfiaaaGreat
open Go Glb Go.Proofs
set_option maxRecDepth 100000

theorem is_glebelaw13_ImageGets : Is Tryz.prog 4 (c_glebelaw13_ImageGets 7 21 22 23 24 25 26 27 14 28 29 16 30 31 32) := ⟨by kernel_rfl, by kernel_rfl⟩
theorem is_gleberef13_Ordered : Is Tryz.prog 6 (c_gleberef13_Ordered 34) := ⟨by kernel_rfl, by kernel_rfl⟩
theorem is_glebelaw13_known : Is Tryz.prog 7 (c_glebelaw13_known 36 35 22 12 14) := ⟨by kernel_rfl, by kernel_rfl⟩
theorem is_image_Apply : Is Tryz.prog 12 (c_image_Apply 44 45 46 47) := ⟨by kernel_rfl, by kernel_rfl⟩
theorem is_glebekit_SameImage : Is Tryz.prog 14 (c_glebekit_SameImage 49 50) := ⟨by kernel_rfl, by kernel_rfl⟩
theorem is_glebekit_SameChange : Is Tryz.prog 15 (c_glebekit_SameChange 51 29 17) := ⟨by kernel_rfl, by kernel_rfl⟩
theorem is_glebekit_SpoilImage : Is Tryz.prog 16 (c_glebekit_SpoilImage 52 53) := ⟨by kernel_rfl, by kernel_rfl⟩
theorem is_glebekit_SameBytes : Is Tryz.prog 17 (c_glebekit_SameBytes) := ⟨by kernel_rfl, by kernel_rfl⟩
theorem is_glebekit_LentBytes : Is Tryz.prog 21 (c_glebekit_LentBytes) := ⟨by kernel_rfl, by kernel_rfl⟩
theorem is_image_Get : Is Tryz.prog 22 (c_image_Get 61 63 62 65 64 66 67) := ⟨by kernel_rfl, by kernel_rfl⟩
theorem is_gleberef13_Get : Is Tryz.prog 23 (c_gleberef13_Get 68 69 70 71 72 73 74 75 6) := ⟨by kernel_rfl, by kernel_rfl⟩
theorem is_image_GetChanges : Is Tryz.prog 24 (c_image_GetChanges 61 77 76 66) := ⟨by kernel_rfl, by kernel_rfl⟩
theorem is_gleberef13_GetChanges : Is Tryz.prog 25 (c_gleberef13_GetChanges 68 69 70 71 72 73 74 75) := ⟨by kernel_rfl, by kernel_rfl⟩
theorem is_image_GetConf : Is Tryz.prog 26 (c_image_GetConf 61 78 66 79) := ⟨by kernel_rfl, by kernel_rfl⟩
theorem is_gleberef13_GetConf : Is Tryz.prog 27 (c_gleberef13_GetConf 68 72 75 80) := ⟨by kernel_rfl, by kernel_rfl⟩
theorem is_glebekit_SameChanges : Is Tryz.prog 28 (c_glebekit_SameChanges 15) := ⟨by kernel_rfl, by kernel_rfl⟩
theorem is_glebekit_SameConf : Is Tryz.prog 29 (c_glebekit_SameConf 81) := ⟨by kernel_rfl, by kernel_rfl⟩
theorem is_glebekit_SpoilChanges : Is Tryz.prog 30 (c_glebekit_SpoilChanges 82 31 83) := ⟨by kernel_rfl, by kernel_rfl⟩
theorem is_glebekit_SpoilConf : Is Tryz.prog 31 (c_glebekit_SpoilConf 84) := ⟨by kernel_rfl, by kernel_rfl⟩
theorem is_glebekit_KeptBytes : Is Tryz.prog 32 (c_glebekit_KeptBytes 17) := ⟨by kernel_rfl, by kernel_rfl⟩
theorem is_gleberef13_ahead : Is Tryz.prog 34 (c_gleberef13_ahead) := ⟨by kernel_rfl, by kernel_rfl⟩
theorem is_image_Put : Is Tryz.prog 35 (c_image_Put 86 87 85 88) := ⟨by kernel_rfl, by kernel_rfl⟩
theorem is_glebelaw13_first : Is Tryz.prog 36 (c_glebelaw13_first) := ⟨by kernel_rfl, by kernel_rfl⟩
theorem is_image_fresh : Is Tryz.prog 44 (c_image_fresh 35 61 63 62 65 64) := ⟨by kernel_rfl, by kernel_rfl⟩
theorem is_image_freshChange : Is Tryz.prog 45 (c_image_freshChange 55 61 77) := ⟨by kernel_rfl, by kernel_rfl⟩
theorem is_image_accept : Is Tryz.prog 46 (c_image_accept 91) := ⟨by kernel_rfl, by kernel_rfl⟩
theorem is_image_turn : Is Tryz.prog 47 (c_image_turn 92 93 94) := ⟨by kernel_rfl, by kernel_rfl⟩
theorem is_glebekit_SameHards : Is Tryz.prog 49 (c_glebekit_SameHards 97) := ⟨by kernel_rfl, by kernel_rfl⟩
theorem is_glebekit_SameVotes : Is Tryz.prog 50 (c_glebekit_SameVotes) := ⟨by kernel_rfl, by kernel_rfl⟩
theorem is_glebekit_SameLog : Is Tryz.prog 51 (c_glebekit_SameLog 98) := ⟨by kernel_rfl, by kernel_rfl⟩
theorem is_glebekit_SpoilHard : Is Tryz.prog 52 (c_glebekit_SpoilHard 82 31 83) := ⟨by kernel_rfl, by kernel_rfl⟩
theorem is_glebekit_SpoilVotes : Is Tryz.prog 53 (c_glebekit_SpoilVotes) := ⟨by kernel_rfl, by kernel_rfl⟩
theorem is_image_putChange : Is Tryz.prog 55 (c_image_putChange 101 100 103 102 88) := ⟨by kernel_rfl, by kernel_rfl⟩
theorem is_pack_Read : Is Tryz.prog 61 (c_pack_Read 105) := ⟨by kernel_rfl, by kernel_rfl⟩
theorem is_image_listOf_api_Hard : Is Tryz.prog 62 (c_image_listOf_api_Hard 106) := ⟨by kernel_rfl, by kernel_rfl⟩
theorem is_image_source_hard : Is Tryz.prog 63 (c_image_source_hard 107 108 78 109) := ⟨by kernel_rfl, by kernel_rfl⟩
theorem is_image_listOf_api_Accepted : Is Tryz.prog 64 (c_image_listOf_api_Accepted 110) := ⟨by kernel_rfl, by kernel_rfl⟩
theorem is_image_source_vote : Is Tryz.prog 65 (c_image_source_vote 107) := ⟨by kernel_rfl, by kernel_rfl⟩
theorem is_image_source_end : Is Tryz.prog 66 (c_image_source_end 111) := ⟨by kernel_rfl, by kernel_rfl⟩
theorem is_image_ordered : Is Tryz.prog 67 (c_image_ordered 91) := ⟨by kernel_rfl, by kernel_rfl⟩
theorem is_gleberef02_Read : Is Tryz.prog 68 (c_gleberef02_Read) := ⟨by kernel_rfl, by kernel_rfl⟩
theorem is_gleberef13_many : Is Tryz.prog 69 (c_gleberef13_many 70 112) := ⟨by kernel_rfl, by kernel_rfl⟩
theorem is_gleberef02_Reader_Int : Is Tryz.prog 70 (c_gleberef02_Reader_Int 112) := ⟨by kernel_rfl, by kernel_rfl⟩
theorem is_gleberef13_getLog : Is Tryz.prog 71 (c_gleberef13_getLog 70 69 73) := ⟨by kernel_rfl, by kernel_rfl⟩
theorem is_gleberef13_getConf : Is Tryz.prog 72 (c_gleberef13_getConf 113) := ⟨by kernel_rfl, by kernel_rfl⟩
theorem is_gleberef02_Reader_Blob : Is Tryz.prog 73 (c_gleberef02_Reader_Blob 70 112) := ⟨by kernel_rfl, by kernel_rfl⟩
theorem is_gleberef13_getVote : Is Tryz.prog 74 (c_gleberef13_getVote 70) := ⟨by kernel_rfl, by kernel_rfl⟩
theorem is_gleberef02_Reader_End : Is Tryz.prog 75 (c_gleberef02_Reader_End 112) := ⟨by kernel_rfl, by kernel_rfl⟩
theorem is_image_listOf_api_Change : Is Tryz.prog 76 (c_image_listOf_api_Change 114) := ⟨by kernel_rfl, by kernel_rfl⟩
theorem is_image_source_change : Is Tryz.prog 77 (c_image_source_change 107 108 78 109 65) := ⟨by kernel_rfl, by kernel_rfl⟩
theorem is_image_source_conf : Is Tryz.prog 78 (c_image_source_conf 115) := ⟨by kernel_rfl, by kernel_rfl⟩
theorem is_quorum_Check : Is Tryz.prog 79 (c_quorum_Check 116 118 119) := ⟨by kernel_rfl, by kernel_rfl⟩
theorem is_gleberef10_Check : Is Tryz.prog 80 (c_gleberef10_Check 120 121) := ⟨by kernel_rfl, by kernel_rfl⟩
theorem is_glebekit_SameInts : Is Tryz.prog 81 (c_glebekit_SameInts) := ⟨by kernel_rfl, by kernel_rfl⟩
theorem is_glebekit_SpoilEntries : Is Tryz.prog 82 (c_glebekit_SpoilEntries 83) := ⟨by kernel_rfl, by kernel_rfl⟩
theorem is_glebekit_SpoilBytes : Is Tryz.prog 83 (c_glebekit_SpoilBytes) := ⟨by kernel_rfl, by kernel_rfl⟩
theorem is_glebekit_SpoilInts : Is Tryz.prog 84 (c_glebekit_SpoilInts) := ⟨by kernel_rfl, by kernel_rfl⟩
theorem is_image_putList_api_Accepted : Is Tryz.prog 85 (c_image_putList_api_Accepted 99) := ⟨by kernel_rfl, by kernel_rfl⟩
theorem is_image_putList_api_Hard : Is Tryz.prog 86 (c_image_putList_api_Hard 99) := ⟨by kernel_rfl, by kernel_rfl⟩
theorem is_image_putHard : Is Tryz.prog 87 (c_image_putHard 101 100 103 102) := ⟨by kernel_rfl, by kernel_rfl⟩
theorem is_image_putVote : Is Tryz.prog 88 (c_image_putVote 101) := ⟨by kernel_rfl, by kernel_rfl⟩
theorem is_image_ahead : Is Tryz.prog 91 (c_image_ahead) := ⟨by kernel_rfl, by kernel_rfl⟩
theorem is_rlog_Last : Is Tryz.prog 92 (c_rlog_Last) := ⟨by kernel_rfl, by kernel_rfl⟩
theorem is_rlog_Term : Is Tryz.prog 93 (c_rlog_Term 92) := ⟨by kernel_rfl, by kernel_rfl⟩
theorem is_rlog_Cut : Is Tryz.prog 94 (c_rlog_Cut 93 122) := ⟨by kernel_rfl, by kernel_rfl⟩
theorem is_glebekit_SameHard : Is Tryz.prog 97 (c_glebekit_SameHard 51 29 17) := ⟨by kernel_rfl, by kernel_rfl⟩
theorem is_glebekit_SameEntries : Is Tryz.prog 98 (c_glebekit_SameEntries 125) := ⟨by kernel_rfl, by kernel_rfl⟩
theorem is_pack_Int : Is Tryz.prog 99 (c_pack_Int 127 126) := ⟨by kernel_rfl, by kernel_rfl⟩
theorem is_image_putLog : Is Tryz.prog 100 (c_image_putLog 101 128 129) := ⟨by kernel_rfl, by kernel_rfl⟩
theorem is_image_ints : Is Tryz.prog 101 (c_image_ints 99) := ⟨by kernel_rfl, by kernel_rfl⟩
theorem is_pack_Blob : Is Tryz.prog 102 (c_pack_Blob 127 126) := ⟨by kernel_rfl, by kernel_rfl⟩
theorem is_image_putConf : Is Tryz.prog 103 (c_image_putConf 130) := ⟨by kernel_rfl, by kernel_rfl⟩
theorem is_slices_Clone_byte_byte : Is Tryz.prog 105 (c_slices_Clone_byte_byte) := ⟨by kernel_rfl, by kernel_rfl⟩
theorem is_image_getList_api_Hard : Is Tryz.prog 106 (c_image_getList_api_Hard 107 131 132) := ⟨by kernel_rfl, by kernel_rfl⟩
theorem is_pack_Reader_Int : Is Tryz.prog 107 (c_pack_Reader_Int 133) := ⟨by kernel_rfl, by kernel_rfl⟩
theorem is_image_source_log : Is Tryz.prog 108 (c_image_source_log 107 135 134) := ⟨by kernel_rfl, by kernel_rfl⟩
theorem is_pack_Reader_Blob : Is Tryz.prog 109 (c_pack_Reader_Blob 107 133) := ⟨by kernel_rfl, by kernel_rfl⟩
theorem is_image_getList_api_Accepted : Is Tryz.prog 110 (c_image_getList_api_Accepted 107 131 132) := ⟨by kernel_rfl, by kernel_rfl⟩
theorem is_pack_Reader_End : Is Tryz.prog 111 (c_pack_Reader_End) := ⟨by kernel_rfl, by kernel_rfl⟩
theorem is_gleberef02_Reader_Left : Is Tryz.prog 112 (c_gleberef02_Reader_Left) := ⟨by kernel_rfl, by kernel_rfl⟩
theorem is_gleberef02_Reader_Ints : Is Tryz.prog 113 (c_gleberef02_Reader_Ints 70 112) := ⟨by kernel_rfl, by kernel_rfl⟩
theorem is_image_getList_api_Change : Is Tryz.prog 114 (c_image_getList_api_Change 107 131 132) := ⟨by kernel_rfl, by kernel_rfl⟩
theorem is_pack_Reader_Ints : Is Tryz.prog 115 (c_pack_Reader_Ints 107 136) := ⟨by kernel_rfl, by kernel_rfl⟩
theorem is_quorum_Check_f1 : Is Tryz.prog 116 (c_quorum_Check_f1 117) := ⟨by kernel_rfl, by kernel_rfl⟩
theorem is_slices_Contains_int_int : Is Tryz.prog 117 (c_slices_Contains_int_int 137) := ⟨by kernel_rfl, by kernel_rfl⟩
theorem is_quorum_rises : Is Tryz.prog 118 (c_quorum_rises) := ⟨by kernel_rfl, by kernel_rfl⟩
theorem is_quorum_count_int : Is Tryz.prog 119 (c_quorum_count_int) := ⟨by kernel_rfl, by kernel_rfl⟩
theorem is_gleberef10_rising : Is Tryz.prog 120 (c_gleberef10_rising) := ⟨by kernel_rfl, by kernel_rfl⟩
theorem is_gleberef10_In : Is Tryz.prog 121 (c_gleberef10_In) := ⟨by kernel_rfl, by kernel_rfl⟩
theorem is_rlog_fresh : Is Tryz.prog 122 (c_rlog_fresh) := ⟨by kernel_rfl, by kernel_rfl⟩
theorem is_glebekit_SameEntry : Is Tryz.prog 125 (c_glebekit_SameEntry 17) := ⟨by kernel_rfl, by kernel_rfl⟩
theorem is_pack_number : Is Tryz.prog 126 (c_pack_number) := ⟨by kernel_rfl, by kernel_rfl⟩
theorem is_pack_room : Is Tryz.prog 127 (c_pack_room) := ⟨by kernel_rfl, by kernel_rfl⟩
theorem is_image_putList_api_Entry : Is Tryz.prog 128 (c_image_putList_api_Entry 99) := ⟨by kernel_rfl, by kernel_rfl⟩
theorem is_image_putEntry : Is Tryz.prog 129 (c_image_putEntry 101 102) := ⟨by kernel_rfl, by kernel_rfl⟩
theorem is_pack_Ints : Is Tryz.prog 130 (c_pack_Ints 127 126) := ⟨by kernel_rfl, by kernel_rfl⟩
theorem is_pack_Reader_Left : Is Tryz.prog 131 (c_pack_Reader_Left) := ⟨by kernel_rfl, by kernel_rfl⟩
theorem is_pack_Reader_Bad : Is Tryz.prog 132 (c_pack_Reader_Bad) := ⟨by kernel_rfl, by kernel_rfl⟩
theorem is_pack_Reader_take : Is Tryz.prog 133 (c_pack_Reader_take 136) := ⟨by kernel_rfl, by kernel_rfl⟩
theorem is_image_listOf_api_Entry : Is Tryz.prog 134 (c_image_listOf_api_Entry 138) := ⟨by kernel_rfl, by kernel_rfl⟩
theorem is_image_source_entry : Is Tryz.prog 135 (c_image_source_entry 107 109) := ⟨by kernel_rfl, by kernel_rfl⟩
theorem is_pack_Reader_fail : Is Tryz.prog 136 (c_pack_Reader_fail) := ⟨by kernel_rfl, by kernel_rfl⟩
theorem is_slices_Index_int_int : Is Tryz.prog 137 (c_slices_Index_int_int) := ⟨by kernel_rfl, by kernel_rfl⟩
theorem is_image_getList_api_Entry : Is Tryz.prog 138 (c_image_getList_api_Entry 107 131 132) := ⟨by kernel_rfl, by kernel_rfl⟩

end Go.Proofs.YtodbhmdfmdfiaaaGreat
