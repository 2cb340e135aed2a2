/-
  What the functions of the program are.
-/
import Derived.Test.YtodbhmdfmdfiaaaChecked
import Derived.Test.YtodbhmdfmdfiaaaGlbLibC
import Derived.Test.YtodbhmdfmdfiaaaGlbCglebekit
import Derived.Test.YtodbhmdfmdfiaaaGlbCglebelaw13
import Derived.Test.YtodbhmdfmdfiaaaGlbCimage
import Derived.Test.YtodbhmdfmdfiaaaGlbCpack
import Derived.Test.YtodbhmdfmdfiaaaGlbCquorum
import Derived.Test.YtodbhmdfmdfiaaaGlbCread
import Derived.Test.YtodbhmdfmdfiaaaGlbCrlog
import Derived.KernelRfl
namespace Go.Proofs.Ytodbhmdfmdfiaaa
open Go Glb Go.Proofs
set_option maxRecDepth 100000

theorem is_glebelaw13_ImageKnown : Is Try.prog 6 (c_glebelaw13_ImageKnown 21 20 26 14 32 23 33 13) := ⟨by kernel_rfl, by kernel_rfl⟩
theorem is_glebelaw13_known : Is Try.prog 13 (c_glebelaw13_known 32 21 26 14 16) := ⟨by kernel_rfl, by kernel_rfl⟩
theorem is_image_Apply : Is Try.prog 14 (c_image_Apply 44 45 46 47) := ⟨by kernel_rfl, by kernel_rfl⟩
theorem is_glebekit_SameImage : Is Try.prog 16 (c_glebekit_SameImage 48 49) := ⟨by kernel_rfl, by kernel_rfl⟩
theorem is_glebekit_SameBytes : Is Try.prog 20 (c_glebekit_SameBytes) := ⟨by kernel_rfl, by kernel_rfl⟩
theorem is_image_Put : Is Try.prog 21 (c_image_Put 54 55 53 56) := ⟨by kernel_rfl, by kernel_rfl⟩
theorem is_image_PutConf : Is Try.prog 23 (c_image_PutConf 62) := ⟨by kernel_rfl, by kernel_rfl⟩
theorem is_glebekit_SameConf : Is Try.prog 25 (c_glebekit_SameConf 63) := ⟨by kernel_rfl, by kernel_rfl⟩
theorem is_image_Get : Is Try.prog 26 (c_image_Get 64 66 65 68 67 69 70) := ⟨by kernel_rfl, by kernel_rfl⟩
theorem is_glebelaw13_first : Is Try.prog 32 (c_glebelaw13_first) := ⟨by kernel_rfl, by kernel_rfl⟩
theorem is_image_GetConf : Is Try.prog 33 (c_image_GetConf 64 76 69 77) := ⟨by kernel_rfl, by kernel_rfl⟩
theorem is_image_fresh : Is Try.prog 44 (c_image_fresh 21 64 66 65 68 67) := ⟨by kernel_rfl, by kernel_rfl⟩
theorem is_image_freshChange : Is Try.prog 45 (c_image_freshChange 72 64 74) := ⟨by kernel_rfl, by kernel_rfl⟩
theorem is_image_accept : Is Try.prog 46 (c_image_accept 88) := ⟨by kernel_rfl, by kernel_rfl⟩
theorem is_image_turn : Is Try.prog 47 (c_image_turn 89 90 91) := ⟨by kernel_rfl, by kernel_rfl⟩
theorem is_glebekit_SameHards : Is Try.prog 48 (c_glebekit_SameHards 92) := ⟨by kernel_rfl, by kernel_rfl⟩
theorem is_glebekit_SameVotes : Is Try.prog 49 (c_glebekit_SameVotes) := ⟨by kernel_rfl, by kernel_rfl⟩
theorem is_image_putList_api_Accepted : Is Try.prog 53 (c_image_putList_api_Accepted 93) := ⟨by kernel_rfl, by kernel_rfl⟩
theorem is_image_putList_api_Hard : Is Try.prog 54 (c_image_putList_api_Hard 93) := ⟨by kernel_rfl, by kernel_rfl⟩
theorem is_image_putHard : Is Try.prog 55 (c_image_putHard 96 95 62 94) := ⟨by kernel_rfl, by kernel_rfl⟩
theorem is_image_putVote : Is Try.prog 56 (c_image_putVote 96) := ⟨by kernel_rfl, by kernel_rfl⟩
theorem is_image_putConf : Is Try.prog 62 (c_image_putConf 98) := ⟨by kernel_rfl, by kernel_rfl⟩
theorem is_glebekit_SameInts : Is Try.prog 63 (c_glebekit_SameInts) := ⟨by kernel_rfl, by kernel_rfl⟩
theorem is_pack_Read : Is Try.prog 64 (c_pack_Read 99) := ⟨by kernel_rfl, by kernel_rfl⟩
theorem is_image_listOf_api_Hard : Is Try.prog 65 (c_image_listOf_api_Hard 100) := ⟨by kernel_rfl, by kernel_rfl⟩
theorem is_image_source_hard : Is Try.prog 66 (c_image_source_hard 101 102 76 103) := ⟨by kernel_rfl, by kernel_rfl⟩
theorem is_image_listOf_api_Accepted : Is Try.prog 67 (c_image_listOf_api_Accepted 104) := ⟨by kernel_rfl, by kernel_rfl⟩
theorem is_image_source_vote : Is Try.prog 68 (c_image_source_vote 101) := ⟨by kernel_rfl, by kernel_rfl⟩
theorem is_image_source_end : Is Try.prog 69 (c_image_source_end 105) := ⟨by kernel_rfl, by kernel_rfl⟩
theorem is_image_ordered : Is Try.prog 70 (c_image_ordered 88) := ⟨by kernel_rfl, by kernel_rfl⟩
theorem is_image_putChange : Is Try.prog 72 (c_image_putChange 96 95 62 94 56) := ⟨by kernel_rfl, by kernel_rfl⟩
theorem is_image_source_change : Is Try.prog 74 (c_image_source_change 101 102 76 103 68) := ⟨by kernel_rfl, by kernel_rfl⟩
theorem is_image_source_conf : Is Try.prog 76 (c_image_source_conf 107) := ⟨by kernel_rfl, by kernel_rfl⟩
theorem is_quorum_Check : Is Try.prog 77 (c_quorum_Check 108 110 111) := ⟨by kernel_rfl, by kernel_rfl⟩
theorem is_glebekit_SameLog : Is Try.prog 83 (c_glebekit_SameLog 114) := ⟨by kernel_rfl, by kernel_rfl⟩
theorem is_image_ahead : Is Try.prog 88 (c_image_ahead) := ⟨by kernel_rfl, by kernel_rfl⟩
theorem is_rlog_Last : Is Try.prog 89 (c_rlog_Last) := ⟨by kernel_rfl, by kernel_rfl⟩
theorem is_rlog_Term : Is Try.prog 90 (c_rlog_Term 89) := ⟨by kernel_rfl, by kernel_rfl⟩
theorem is_rlog_Cut : Is Try.prog 91 (c_rlog_Cut 90 118) := ⟨by kernel_rfl, by kernel_rfl⟩
theorem is_glebekit_SameHard : Is Try.prog 92 (c_glebekit_SameHard 83 25 20) := ⟨by kernel_rfl, by kernel_rfl⟩
theorem is_pack_Int : Is Try.prog 93 (c_pack_Int 120 119) := ⟨by kernel_rfl, by kernel_rfl⟩
theorem is_pack_Blob : Is Try.prog 94 (c_pack_Blob 120 119) := ⟨by kernel_rfl, by kernel_rfl⟩
theorem is_image_putLog : Is Try.prog 95 (c_image_putLog 96 121 122) := ⟨by kernel_rfl, by kernel_rfl⟩
theorem is_image_ints : Is Try.prog 96 (c_image_ints 93) := ⟨by kernel_rfl, by kernel_rfl⟩
theorem is_pack_Ints : Is Try.prog 98 (c_pack_Ints 120 119) := ⟨by kernel_rfl, by kernel_rfl⟩
theorem is_slices_Clone_byte_byte : Is Try.prog 99 (c_slices_Clone_byte_byte) := ⟨by kernel_rfl, by kernel_rfl⟩
theorem is_image_getList_api_Hard : Is Try.prog 100 (c_image_getList_api_Hard 101 123 124) := ⟨by kernel_rfl, by kernel_rfl⟩
theorem is_pack_Reader_Int : Is Try.prog 101 (c_pack_Reader_Int 125) := ⟨by kernel_rfl, by kernel_rfl⟩
theorem is_image_source_log : Is Try.prog 102 (c_image_source_log 101 127 126) := ⟨by kernel_rfl, by kernel_rfl⟩
theorem is_pack_Reader_Blob : Is Try.prog 103 (c_pack_Reader_Blob 101 125) := ⟨by kernel_rfl, by kernel_rfl⟩
theorem is_image_getList_api_Accepted : Is Try.prog 104 (c_image_getList_api_Accepted 101 123 124) := ⟨by kernel_rfl, by kernel_rfl⟩
theorem is_pack_Reader_End : Is Try.prog 105 (c_pack_Reader_End) := ⟨by kernel_rfl, by kernel_rfl⟩
theorem is_pack_Reader_Ints : Is Try.prog 107 (c_pack_Reader_Ints 101 128) := ⟨by kernel_rfl, by kernel_rfl⟩
theorem is_quorum_Check_f1 : Is Try.prog 108 (c_quorum_Check_f1 109) := ⟨by kernel_rfl, by kernel_rfl⟩
theorem is_slices_Contains_int_int : Is Try.prog 109 (c_slices_Contains_int_int 129) := ⟨by kernel_rfl, by kernel_rfl⟩
theorem is_quorum_rises : Is Try.prog 110 (c_quorum_rises) := ⟨by kernel_rfl, by kernel_rfl⟩
theorem is_quorum_count_int : Is Try.prog 111 (c_quorum_count_int) := ⟨by kernel_rfl, by kernel_rfl⟩
theorem is_glebekit_SameEntries : Is Try.prog 114 (c_glebekit_SameEntries 130) := ⟨by kernel_rfl, by kernel_rfl⟩
theorem is_rlog_fresh : Is Try.prog 118 (c_rlog_fresh) := ⟨by kernel_rfl, by kernel_rfl⟩
theorem is_pack_number : Is Try.prog 119 (c_pack_number) := ⟨by kernel_rfl, by kernel_rfl⟩
theorem is_pack_room : Is Try.prog 120 (c_pack_room) := ⟨by kernel_rfl, by kernel_rfl⟩
theorem is_image_putList_api_Entry : Is Try.prog 121 (c_image_putList_api_Entry 93) := ⟨by kernel_rfl, by kernel_rfl⟩
theorem is_image_putEntry : Is Try.prog 122 (c_image_putEntry 96 94) := ⟨by kernel_rfl, by kernel_rfl⟩
theorem is_pack_Reader_Left : Is Try.prog 123 (c_pack_Reader_Left) := ⟨by kernel_rfl, by kernel_rfl⟩
theorem is_pack_Reader_Bad : Is Try.prog 124 (c_pack_Reader_Bad) := ⟨by kernel_rfl, by kernel_rfl⟩
theorem is_pack_Reader_take : Is Try.prog 125 (c_pack_Reader_take 128) := ⟨by kernel_rfl, by kernel_rfl⟩
theorem is_image_listOf_api_Entry : Is Try.prog 126 (c_image_listOf_api_Entry 133) := ⟨by kernel_rfl, by kernel_rfl⟩
theorem is_image_source_entry : Is Try.prog 127 (c_image_source_entry 101 103) := ⟨by kernel_rfl, by kernel_rfl⟩
theorem is_pack_Reader_fail : Is Try.prog 128 (c_pack_Reader_fail) := ⟨by kernel_rfl, by kernel_rfl⟩
theorem is_slices_Index_int_int : Is Try.prog 129 (c_slices_Index_int_int) := ⟨by kernel_rfl, by kernel_rfl⟩
theorem is_glebekit_SameEntry : Is Try.prog 130 (c_glebekit_SameEntry 20) := ⟨by kernel_rfl, by kernel_rfl⟩
theorem is_image_getList_api_Entry : Is Try.prog 133 (c_image_getList_api_Entry 101 123 124) := ⟨by kernel_rfl, by kernel_rfl⟩

end Go.Proofs.Ytodbhmdfmdfiaaa
