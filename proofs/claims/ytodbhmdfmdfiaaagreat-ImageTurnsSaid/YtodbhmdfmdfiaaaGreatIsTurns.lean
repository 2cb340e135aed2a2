/-
  What the functions of the program are.
-/
import Derived.Test.YtodbhmdfmdfiaaaGreatChecked
import Derived.Test.YtodbhmdfmdfiaaaGreatGlbLibC
import Derived.Test.YtodbhmdfmdfiaaaGreatGlbCconf
import Derived.Test.YtodbhmdfmdfiaaaGreatGlbCglebekit
import Derived.Test.YtodbhmdfmdfiaaaGreatGlbCglebelaw13
import Derived.Test.YtodbhmdfmdfiaaaGreatGlbCgleberef11
import Derived.Test.YtodbhmdfmdfiaaaGreatGlbCgleberef13
import Derived.Test.YtodbhmdfmdfiaaaGreatGlbCimage
import Derived.Test.YtodbhmdfmdfiaaaGreatGlbCkit2
import Derived.Test.YtodbhmdfmdfiaaaGreatGlbCpack
import Derived.Test.YtodbhmdfmdfiaaaGreatGlbCread
import Derived.Test.YtodbhmdfmdfiaaaGreatGlbCrlog
import Derived.KernelRfl
namespace Go.Proofs.YtodbhmdfmdfiaaaGreat
open Go Glb Go.Proofs
set_option maxRecDepth 100000

theorem is_glebelaw13_ImageTurns : Is Tryz.prog 3 (c_glebelaw13_ImageTurns 5 6 7 8 9 10 11 12 13 14 15 16 19 18 20 17) := ⟨by kernel_rfl, by kernel_rfl⟩
theorem is_glebelaw13_Few : Is Tryz.prog 5 (c_glebelaw13_Few 33) := ⟨by kernel_rfl, by kernel_rfl⟩
theorem is_gleberef13_Ordered : Is Tryz.prog 6 (c_gleberef13_Ordered 34) := ⟨by kernel_rfl, by kernel_rfl⟩
theorem is_glebelaw13_known : Is Tryz.prog 7 (c_glebelaw13_known 36 35 22 12 14) := ⟨by kernel_rfl, by kernel_rfl⟩
theorem is_glebekit_CopyImage : Is Tryz.prog 8 (c_glebekit_CopyImage 37 38) := ⟨by kernel_rfl, by kernel_rfl⟩
theorem is_glebelaw13_few : Is Tryz.prog 9 (c_glebelaw13_few 39 40) := ⟨by kernel_rfl, by kernel_rfl⟩
theorem is_glebelaw13_bases : Is Tryz.prog 10 (c_glebelaw13_bases) := ⟨by kernel_rfl, by kernel_rfl⟩
theorem is_glebekit_CopyChange : Is Tryz.prog 11 (c_glebekit_CopyChange 41 42 43) := ⟨by kernel_rfl, by kernel_rfl⟩
theorem is_image_Apply : Is Tryz.prog 12 (c_image_Apply 44 45 46 47) := ⟨by kernel_rfl, by kernel_rfl⟩
theorem is_gleberef13_Apply : Is Tryz.prog 13 (c_gleberef13_Apply 8 34 48) := ⟨by kernel_rfl, by kernel_rfl⟩
theorem is_glebekit_SameImage : Is Tryz.prog 14 (c_glebekit_SameImage 49 50) := ⟨by kernel_rfl, by kernel_rfl⟩
theorem is_glebekit_SameChange : Is Tryz.prog 15 (c_glebekit_SameChange 51 29 17) := ⟨by kernel_rfl, by kernel_rfl⟩
theorem is_glebekit_SpoilImage : Is Tryz.prog 16 (c_glebekit_SpoilImage 52 53) := ⟨by kernel_rfl, by kernel_rfl⟩
theorem is_glebekit_SameBytes : Is Tryz.prog 17 (c_glebekit_SameBytes) := ⟨by kernel_rfl, by kernel_rfl⟩
theorem is_image_PutChanges : Is Tryz.prog 18 (c_image_PutChanges 54 55) := ⟨by kernel_rfl, by kernel_rfl⟩
theorem is_glebekit_CopyChanges : Is Tryz.prog 19 (c_glebekit_CopyChanges 11) := ⟨by kernel_rfl, by kernel_rfl⟩
theorem is_gleberef13_PutChanges : Is Tryz.prog 20 (c_gleberef13_PutChanges 56 60 59 58 57) := ⟨by kernel_rfl, by kernel_rfl⟩
theorem is_image_Get : Is Tryz.prog 22 (c_image_Get 61 63 62 65 64 66 67) := ⟨by kernel_rfl, by kernel_rfl⟩
theorem is_glebekit_SameConf : Is Tryz.prog 29 (c_glebekit_SameConf 81) := ⟨by kernel_rfl, by kernel_rfl⟩
theorem is_glebekit_SpoilConf : Is Tryz.prog 31 (c_glebekit_SpoilConf 84) := ⟨by kernel_rfl, by kernel_rfl⟩
theorem is_glebekit_BigHard : Is Tryz.prog 33 (c_glebekit_BigHard 39 40) := ⟨by kernel_rfl, by kernel_rfl⟩
theorem is_gleberef13_ahead : Is Tryz.prog 34 (c_gleberef13_ahead) := ⟨by kernel_rfl, by kernel_rfl⟩
theorem is_image_Put : Is Tryz.prog 35 (c_image_Put 86 87 85 88) := ⟨by kernel_rfl, by kernel_rfl⟩
theorem is_glebelaw13_first : Is Tryz.prog 36 (c_glebelaw13_first) := ⟨by kernel_rfl, by kernel_rfl⟩
theorem is_glebekit_CopyVotes : Is Tryz.prog 37 (c_glebekit_CopyVotes) := ⟨by kernel_rfl, by kernel_rfl⟩
theorem is_glebekit_CopyHard : Is Tryz.prog 38 (c_glebekit_CopyHard 41 42 43) := ⟨by kernel_rfl, by kernel_rfl⟩
theorem is_glebekit_BigEntries : Is Tryz.prog 39 (c_glebekit_BigEntries) := ⟨by kernel_rfl, by kernel_rfl⟩
theorem is_glebekit_BigConf : Is Tryz.prog 40 (c_glebekit_BigConf) := ⟨by kernel_rfl, by kernel_rfl⟩
theorem is_glebekit_CopyLog : Is Tryz.prog 41 (c_glebekit_CopyLog 89) := ⟨by kernel_rfl, by kernel_rfl⟩
theorem is_glebekit_CopyConf : Is Tryz.prog 42 (c_glebekit_CopyConf 90) := ⟨by kernel_rfl, by kernel_rfl⟩
theorem is_glebekit_CopyBytes : Is Tryz.prog 43 (c_glebekit_CopyBytes) := ⟨by kernel_rfl, by kernel_rfl⟩
theorem is_image_fresh : Is Tryz.prog 44 (c_image_fresh 35 61 63 62 65 64) := ⟨by kernel_rfl, by kernel_rfl⟩
theorem is_image_freshChange : Is Tryz.prog 45 (c_image_freshChange 55 61 77) := ⟨by kernel_rfl, by kernel_rfl⟩
theorem is_image_accept : Is Tryz.prog 46 (c_image_accept 91) := ⟨by kernel_rfl, by kernel_rfl⟩
theorem is_image_turn : Is Tryz.prog 47 (c_image_turn 92 93 94) := ⟨by kernel_rfl, by kernel_rfl⟩
theorem is_gleberef13_Turned : Is Tryz.prog 48 (c_gleberef13_Turned 38 11 95 89 96) := ⟨by kernel_rfl, by kernel_rfl⟩
theorem is_glebekit_SameHards : Is Tryz.prog 49 (c_glebekit_SameHards 97) := ⟨by kernel_rfl, by kernel_rfl⟩
theorem is_glebekit_SameVotes : Is Tryz.prog 50 (c_glebekit_SameVotes) := ⟨by kernel_rfl, by kernel_rfl⟩
theorem is_glebekit_SameLog : Is Tryz.prog 51 (c_glebekit_SameLog 98) := ⟨by kernel_rfl, by kernel_rfl⟩
theorem is_glebekit_SpoilHard : Is Tryz.prog 52 (c_glebekit_SpoilHard 82 31 83) := ⟨by kernel_rfl, by kernel_rfl⟩
theorem is_glebekit_SpoilVotes : Is Tryz.prog 53 (c_glebekit_SpoilVotes) := ⟨by kernel_rfl, by kernel_rfl⟩
theorem is_image_putList_api_Change : Is Tryz.prog 54 (c_image_putList_api_Change 99) := ⟨by kernel_rfl, by kernel_rfl⟩
theorem is_image_putChange : Is Tryz.prog 55 (c_image_putChange 101 100 103 102 88) := ⟨by kernel_rfl, by kernel_rfl⟩
theorem is_gleberef02_Int : Is Tryz.prog 56 (c_gleberef02_Int) := ⟨by kernel_rfl, by kernel_rfl⟩
theorem is_gleberef13_putVote : Is Tryz.prog 57 (c_gleberef13_putVote 56) := ⟨by kernel_rfl, by kernel_rfl⟩
theorem is_gleberef02_Blob : Is Tryz.prog 58 (c_gleberef02_Blob 56) := ⟨by kernel_rfl, by kernel_rfl⟩
theorem is_gleberef13_putConf : Is Tryz.prog 59 (c_gleberef13_putConf 104) := ⟨by kernel_rfl, by kernel_rfl⟩
theorem is_gleberef13_putLog : Is Tryz.prog 60 (c_gleberef13_putLog 56 58) := ⟨by kernel_rfl, by kernel_rfl⟩
theorem is_pack_Read : Is Tryz.prog 61 (c_pack_Read 105) := ⟨by kernel_rfl, by kernel_rfl⟩
theorem is_image_listOf_api_Hard : Is Tryz.prog 62 (c_image_listOf_api_Hard 106) := ⟨by kernel_rfl, by kernel_rfl⟩
theorem is_image_source_hard : Is Tryz.prog 63 (c_image_source_hard 107 108 78 109) := ⟨by kernel_rfl, by kernel_rfl⟩
theorem is_image_listOf_api_Accepted : Is Tryz.prog 64 (c_image_listOf_api_Accepted 110) := ⟨by kernel_rfl, by kernel_rfl⟩
theorem is_image_source_vote : Is Tryz.prog 65 (c_image_source_vote 107) := ⟨by kernel_rfl, by kernel_rfl⟩
theorem is_image_source_end : Is Tryz.prog 66 (c_image_source_end 111) := ⟨by kernel_rfl, by kernel_rfl⟩
theorem is_image_ordered : Is Tryz.prog 67 (c_image_ordered 91) := ⟨by kernel_rfl, by kernel_rfl⟩
theorem is_image_source_change : Is Tryz.prog 77 (c_image_source_change 107 108 78 109 65) := ⟨by kernel_rfl, by kernel_rfl⟩
theorem is_image_source_conf : Is Tryz.prog 78 (c_image_source_conf 115) := ⟨by kernel_rfl, by kernel_rfl⟩
theorem is_glebekit_SameInts : Is Tryz.prog 81 (c_glebekit_SameInts) := ⟨by kernel_rfl, by kernel_rfl⟩
theorem is_glebekit_SpoilEntries : Is Tryz.prog 82 (c_glebekit_SpoilEntries 83) := ⟨by kernel_rfl, by kernel_rfl⟩
theorem is_glebekit_SpoilBytes : Is Tryz.prog 83 (c_glebekit_SpoilBytes) := ⟨by kernel_rfl, by kernel_rfl⟩
theorem is_glebekit_SpoilInts : Is Tryz.prog 84 (c_glebekit_SpoilInts) := ⟨by kernel_rfl, by kernel_rfl⟩
theorem is_image_putList_api_Accepted : Is Tryz.prog 85 (c_image_putList_api_Accepted 99) := ⟨by kernel_rfl, by kernel_rfl⟩
theorem is_image_putList_api_Hard : Is Tryz.prog 86 (c_image_putList_api_Hard 99) := ⟨by kernel_rfl, by kernel_rfl⟩
theorem is_image_putHard : Is Tryz.prog 87 (c_image_putHard 101 100 103 102) := ⟨by kernel_rfl, by kernel_rfl⟩
theorem is_image_putVote : Is Tryz.prog 88 (c_image_putVote 101) := ⟨by kernel_rfl, by kernel_rfl⟩
theorem is_glebekit_CopyEntries : Is Tryz.prog 89 (c_glebekit_CopyEntries 43) := ⟨by kernel_rfl, by kernel_rfl⟩
theorem is_glebekit_CopyInts : Is Tryz.prog 90 (c_glebekit_CopyInts) := ⟨by kernel_rfl, by kernel_rfl⟩
theorem is_image_ahead : Is Tryz.prog 91 (c_image_ahead) := ⟨by kernel_rfl, by kernel_rfl⟩
theorem is_rlog_Last : Is Tryz.prog 92 (c_rlog_Last) := ⟨by kernel_rfl, by kernel_rfl⟩
theorem is_rlog_Term : Is Tryz.prog 93 (c_rlog_Term 92) := ⟨by kernel_rfl, by kernel_rfl⟩
theorem is_rlog_Cut : Is Tryz.prog 94 (c_rlog_Cut 93 122) := ⟨by kernel_rfl, by kernel_rfl⟩
theorem is_gleberef11_Last : Is Tryz.prog 95 (c_gleberef11_Last) := ⟨by kernel_rfl, by kernel_rfl⟩
theorem is_gleberef13_Snapped : Is Tryz.prog 96 (c_gleberef13_Snapped 123 124) := ⟨by kernel_rfl, by kernel_rfl⟩
theorem is_glebekit_SameHard : Is Tryz.prog 97 (c_glebekit_SameHard 51 29 17) := ⟨by kernel_rfl, by kernel_rfl⟩
theorem is_glebekit_SameEntries : Is Tryz.prog 98 (c_glebekit_SameEntries 125) := ⟨by kernel_rfl, by kernel_rfl⟩
theorem is_pack_Int : Is Tryz.prog 99 (c_pack_Int 127 126) := ⟨by kernel_rfl, by kernel_rfl⟩
theorem is_image_putLog : Is Tryz.prog 100 (c_image_putLog 101 128 129) := ⟨by kernel_rfl, by kernel_rfl⟩
theorem is_image_ints : Is Tryz.prog 101 (c_image_ints 99) := ⟨by kernel_rfl, by kernel_rfl⟩
theorem is_pack_Blob : Is Tryz.prog 102 (c_pack_Blob 127 126) := ⟨by kernel_rfl, by kernel_rfl⟩
theorem is_image_putConf : Is Tryz.prog 103 (c_image_putConf 130) := ⟨by kernel_rfl, by kernel_rfl⟩
theorem is_gleberef02_Ints : Is Tryz.prog 104 (c_gleberef02_Ints 56) := ⟨by kernel_rfl, by kernel_rfl⟩
theorem is_slices_Clone_byte_byte : Is Tryz.prog 105 (c_slices_Clone_byte_byte) := ⟨by kernel_rfl, by kernel_rfl⟩
theorem is_image_getList_api_Hard : Is Tryz.prog 106 (c_image_getList_api_Hard 107 131 132) := ⟨by kernel_rfl, by kernel_rfl⟩
theorem is_pack_Reader_Int : Is Tryz.prog 107 (c_pack_Reader_Int 133) := ⟨by kernel_rfl, by kernel_rfl⟩
theorem is_image_source_log : Is Tryz.prog 108 (c_image_source_log 107 135 134) := ⟨by kernel_rfl, by kernel_rfl⟩
theorem is_pack_Reader_Blob : Is Tryz.prog 109 (c_pack_Reader_Blob 107 133) := ⟨by kernel_rfl, by kernel_rfl⟩
theorem is_image_getList_api_Accepted : Is Tryz.prog 110 (c_image_getList_api_Accepted 107 131 132) := ⟨by kernel_rfl, by kernel_rfl⟩
theorem is_pack_Reader_End : Is Tryz.prog 111 (c_pack_Reader_End) := ⟨by kernel_rfl, by kernel_rfl⟩
theorem is_pack_Reader_Ints : Is Tryz.prog 115 (c_pack_Reader_Ints 107 136) := ⟨by kernel_rfl, by kernel_rfl⟩
theorem is_rlog_fresh : Is Tryz.prog 122 (c_rlog_fresh) := ⟨by kernel_rfl, by kernel_rfl⟩
theorem is_gleberef11_Term : Is Tryz.prog 123 (c_gleberef11_Term 95) := ⟨by kernel_rfl, by kernel_rfl⟩
theorem is_gleberef11_Cut : Is Tryz.prog 124 (c_gleberef11_Cut 123 89) := ⟨by kernel_rfl, by kernel_rfl⟩
theorem is_glebekit_SameEntry : Is Tryz.prog 125 (c_glebekit_SameEntry 17) := ⟨by kernel_rfl, by kernel_rfl⟩
theorem is_pack_number : Is Tryz.prog 126 (c_pack_number) := ⟨by kernel_rfl, by kernel_rfl⟩
theorem is_pack_room : Is Tryz.prog 127 (c_pack_room) := ⟨by kernel_rfl, by kernel_rfl⟩
theorem is_image_putList_api_Entry : Is Tryz.prog 128 (c_image_putList_api_Entry 99) := ⟨by kernel_rfl, by kernel_rfl⟩
theorem is_image_putEntry : Is Tryz.prog 129 (c_image_putEntry 101 102) := ⟨by kernel_rfl, by kernel_rfl⟩
theorem is_pack_Ints : Is Tryz.prog 130 (c_pack_Ints 127 126) := ⟨by kernel_rfl, by kernel_rfl⟩
theorem is_pack_Reader_Left : Is Tryz.prog 131 (c_pack_Reader_Left) := ⟨by kernel_rfl, by kernel_rfl⟩
theorem is_pack_Reader_Bad : Is Tryz.prog 132 (c_pack_Reader_Bad) := ⟨by kernel_rfl, by kernel_rfl⟩
theorem is_pack_Reader_take : Is Tryz.prog 133 (c_pack_Reader_take 136) := ⟨by kernel_rfl, by kernel_rfl⟩
theorem is_image_listOf_api_Entry : Is Tryz.prog 134 (c_image_listOf_api_Entry 138) := ⟨by kernel_rfl, by kernel_rfl⟩
theorem is_image_source_entry : Is Tryz.prog 135 (c_image_source_entry 107 109) := ⟨by kernel_rfl, by kernel_rfl⟩
theorem is_pack_Reader_fail : Is Tryz.prog 136 (c_pack_Reader_fail) := ⟨by kernel_rfl, by kernel_rfl⟩
theorem is_image_getList_api_Entry : Is Tryz.prog 138 (c_image_getList_api_Entry 107 131 132) := ⟨by kernel_rfl, by kernel_rfl⟩

end Go.Proofs.YtodbhmdfmdfiaaaGreat
