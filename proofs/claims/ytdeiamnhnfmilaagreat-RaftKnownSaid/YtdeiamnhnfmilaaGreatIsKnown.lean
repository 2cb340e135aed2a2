/-
  What the functions of the program are.
-/
import Derived.Test.YtdeiamnhnfmilaaGreatChecked
import Derived.Test.YtdeiamnhnfmilaaGreatGlbLibC
import Derived.Test.YtdeiamnhnfmilaaGreatGlbCconf
import Derived.Test.YtdeiamnhnfmilaaGreatGlbCconfof
import Derived.Test.YtdeiamnhnfmilaaGreatGlbCflow
import Derived.Test.YtdeiamnhnfmilaaGreatGlbCglebelaw17
import Derived.Test.YtdeiamnhnfmilaaGreatGlbCimage
import Derived.Test.YtdeiamnhnfmilaaGreatGlbCpack
import Derived.Test.YtdeiamnhnfmilaaGreatGlbCquorum
import Derived.Test.YtdeiamnhnfmilaaGreatGlbCraft
import Derived.Test.YtdeiamnhnfmilaaGreatGlbCread
import Derived.Test.YtdeiamnhnfmilaaGreatGlbCrlog
import Derived.Test.YtdeiamnhnfmilaaGreatGlbCvote
import Derived.KernelRfl
namespace Go.Proofs.YtdeiamnhnfmilaaGreat
open Go Glb Go.Proofs
set_option maxRecDepth 100000
theorem is_glebelaw17_RaftKnown : Is Tryz.prog 3 (c_glebelaw17_RaftKnown 10 9 11 12 13 14 15 16 17 18 19 20) := ⟨by kernel_rfl, by kernel_rfl⟩
theorem is_raft_New : Is Tryz.prog 9 (c_raft_New 42 43) := ⟨by kernel_rfl, by kernel_rfl⟩
theorem is_glebelaw17_alone : Is Tryz.prog 10 (c_glebelaw17_alone) := ⟨by kernel_rfl, by kernel_rfl⟩
theorem is_raft_Raft_Tick : IsD Tryz.prog 11 (d_raft_Raft_Tick 44 45 47 46 48 49 50) := ⟨by kernel_rfl, by kernel_rfl⟩
theorem is_raft_Raft_Propose : Is Tryz.prog 12 (c_raft_Raft_Propose 51 49 44 52 47 46 53 45) := ⟨by kernel_rfl, by kernel_rfl⟩
theorem is_raft_Raft_Read : Is Tryz.prog 13 (c_raft_Raft_Read 54 44 47 46) := ⟨by kernel_rfl, by kernel_rfl⟩
theorem is_raft_Raft_Compact : Is Tryz.prog 14 (c_raft_Raft_Compact 55 54 44 56 45) := ⟨by kernel_rfl, by kernel_rfl⟩
theorem is_raft_Raft_Hard : Is Tryz.prog 15 (c_raft_Raft_Hard 42) := ⟨by kernel_rfl, by kernel_rfl⟩
theorem is_raft_Raft_Safe : Is Tryz.prog 16 (c_raft_Raft_Safe 57 46 58 40) := ⟨by kernel_rfl, by kernel_rfl⟩
theorem is_raft_Raft_Step : IsD Tryz.prog 17 (d_raft_Raft_Step 44 45 48 59 60 61 62 63 64 65 66) := ⟨by kernel_rfl, by kernel_rfl⟩
theorem is_raft_Raft_Leader : Is Tryz.prog 18 (c_raft_Raft_Leader) := ⟨by kernel_rfl, by kernel_rfl⟩
theorem is_raft_Raft_Role : Is Tryz.prog 19 (c_raft_Raft_Role) := ⟨by kernel_rfl, by kernel_rfl⟩
theorem is_glebelaw17_known : Is Tryz.prog 20 (c_glebelaw17_known 10 9 11 19 12 38) := ⟨by kernel_rfl, by kernel_rfl⟩
theorem is_rlog_Newer : Is Tryz.prog 31 (c_rlog_Newer 37) := ⟨by kernel_rfl, by kernel_rfl⟩
theorem is_rlog_Last : Is Tryz.prog 37 (c_rlog_Last) := ⟨by kernel_rfl, by kernel_rfl⟩
theorem is_raft_Raft_Commit : Is Tryz.prog 38 (c_raft_Raft_Commit) := ⟨by kernel_rfl, by kernel_rfl⟩
theorem is_quorum_Won : Is Tryz.prog 40 (c_quorum_Won 104) := ⟨by kernel_rfl, by kernel_rfl⟩
theorem is_raft_fresh : Is Tryz.prog 42 (c_raft_fresh 105 106 107) := ⟨by kernel_rfl, by kernel_rfl⟩
theorem is_vote_Timeout : Is Tryz.prog 43 (c_vote_Timeout) := ⟨by kernel_rfl, by kernel_rfl⟩
theorem is_raft_Raft_begin : Is Tryz.prog 44 (c_raft_Raft_begin) := ⟨by kernel_rfl, by kernel_rfl⟩
theorem is_raft_call_end : Is Tryz.prog 45 (c_raft_call_end 55 109 108 60 105) := ⟨by kernel_rfl, by kernel_rfl⟩
theorem is_raft_Raft_each : Is Tryz.prog 46 (c_raft_Raft_each) := ⟨by kernel_rfl, by kernel_rfl⟩
theorem is_raft_call_to : Is Tryz.prog 47 (c_raft_call_to 110 61) := ⟨by kernel_rfl, by kernel_rfl⟩
theorem is_raft_Raft_voter : Is Tryz.prog 48 (c_raft_Raft_voter 58 109 108) := ⟨by kernel_rfl, by kernel_rfl⟩
theorem is_raft_Raft_last : Is Tryz.prog 49 (c_raft_Raft_last 37) := ⟨by kernel_rfl, by kernel_rfl⟩
theorem is_raft_call_stand : Is Tryz.prog 50 (c_raft_call_stand 59 60 43 58 40 111 112 61) := ⟨by kernel_rfl, by kernel_rfl⟩
theorem is_image_GetConf : Is Tryz.prog 51 (c_image_GetConf 113 114 115 68) := ⟨by kernel_rfl, by kernel_rfl⟩
theorem is_raft_call_lay : Is Tryz.prog 52 (c_raft_call_lay 49 116 105 117 118) := ⟨by kernel_rfl, by kernel_rfl⟩
theorem is_raft_call_settle : Is Tryz.prog 53 (c_raft_call_settle 49 119 46 58 120 54) := ⟨by kernel_rfl, by kernel_rfl⟩
theorem is_rlog_Term : Is Tryz.prog 54 (c_rlog_Term 37) := ⟨by kernel_rfl, by kernel_rfl⟩
theorem is_conf_Of : IsR Tryz.prog false 55 (r_conf_Of 121 51 122) := ⟨by kernel_rfl, by kernel_rfl⟩
theorem is_raft_call_base : Is Tryz.prog 56 (c_raft_call_base 54 123 106 107 117) := ⟨by kernel_rfl, by kernel_rfl⟩
theorem is_raft_Raft_Safe_f1 : Is Tryz.prog 57 (c_raft_Raft_Safe_f1) := ⟨by kernel_rfl, by kernel_rfl⟩
theorem is_raft_Raft_now : Is Tryz.prog 58 (c_raft_Raft_now 55) := ⟨by kernel_rfl, by kernel_rfl⟩
theorem is_raft_call_term : Is Tryz.prog 59 (c_raft_call_term 117) := ⟨by kernel_rfl, by kernel_rfl⟩
theorem is_raft_Raft_follow : Is Tryz.prog 60 (c_raft_Raft_follow) := ⟨by kernel_rfl, by kernel_rfl⟩
theorem is_raft_call_send : Is Tryz.prog 61 (c_raft_call_send) := ⟨by kernel_rfl, by kernel_rfl⟩
theorem is_raft_call_asked : Is Tryz.prog 62 (c_raft_call_asked 124 59 61) := ⟨by kernel_rfl, by kernel_rfl⟩
theorem is_raft_call_voted : Is Tryz.prog 63 (c_raft_call_voted 108 48 58 40 111) := ⟨by kernel_rfl, by kernel_rfl⟩
theorem is_raft_call_heard : Is Tryz.prog 64 (c_raft_call_heard 126 125 127 53 49 47) := ⟨by kernel_rfl, by kernel_rfl⟩
theorem is_raft_call_append : Is Tryz.prog 65 (c_raft_call_append 128 54 49 116 105 117) := ⟨by kernel_rfl, by kernel_rfl⟩
theorem is_raft_call_restore : Is Tryz.prog 66 (c_raft_call_restore 128 113 129 51 130 56) := ⟨by kernel_rfl, by kernel_rfl⟩
theorem is_quorum_Check : Is Tryz.prog 68 (c_quorum_Check 132 133 134) := ⟨by kernel_rfl, by kernel_rfl⟩
theorem is_quorum_enough : Is Tryz.prog 104 (c_quorum_enough 177 134) := ⟨by kernel_rfl, by kernel_rfl⟩
theorem is_rlog_Slice : Is Tryz.prog 105 (c_rlog_Slice 37 178) := ⟨by kernel_rfl, by kernel_rfl⟩
theorem is_raft_freshConf : Is Tryz.prog 106 (c_raft_freshConf 122) := ⟨by kernel_rfl, by kernel_rfl⟩
theorem is_slices_Clone_byte_byte : Is Tryz.prog 107 (c_slices_Clone_byte_byte) := ⟨by kernel_rfl, by kernel_rfl⟩
theorem is_slices_Contains_int_int : Is Tryz.prog 108 (c_slices_Contains_int_int 179) := ⟨by kernel_rfl, by kernel_rfl⟩
theorem is_quorum_Voters : Is Tryz.prog 109 (c_quorum_Voters 180) := ⟨by kernel_rfl, by kernel_rfl⟩
theorem is_flow_Next : Is Tryz.prog 110 (c_flow_Next 175 181 54 105) := ⟨by kernel_rfl, by kernel_rfl⟩
theorem is_raft_call_lead : Is Tryz.prog 111 (c_raft_call_lead 49 118 52 47 46 53) := ⟨by kernel_rfl, by kernel_rfl⟩
theorem is_vote_Asks : Is Tryz.prog 112 (c_vote_Asks 37 109) := ⟨by kernel_rfl, by kernel_rfl⟩
theorem is_pack_Read : Is Tryz.prog 113 (c_pack_Read 107) := ⟨by kernel_rfl, by kernel_rfl⟩
theorem is_image_source_conf : Is Tryz.prog 114 (c_image_source_conf 182) := ⟨by kernel_rfl, by kernel_rfl⟩
theorem is_image_source_end : Is Tryz.prog 115 (c_image_source_end 130) := ⟨by kernel_rfl, by kernel_rfl⟩
theorem is_rlog_Append : Is Tryz.prog 116 (c_rlog_Append 37 178 54) := ⟨by kernel_rfl, by kernel_rfl⟩
theorem is_raft_call_tell : Is Tryz.prog 117 (c_raft_call_tell) := ⟨by kernel_rfl, by kernel_rfl⟩
theorem is_raft_Raft_meet : Is Tryz.prog 118 (c_raft_Raft_meet 58 183 184 185 125) := ⟨by kernel_rfl, by kernel_rfl⟩
theorem is_raft_call_settle_f1 : Is Tryz.prog 119 (c_raft_call_settle_f1) := ⟨by kernel_rfl, by kernel_rfl⟩
theorem is_quorum_Agreed : Is Tryz.prog 120 (c_quorum_Agreed 40) := ⟨by kernel_rfl, by kernel_rfl⟩
theorem is_slices_Backward_api_Entry_api_Entry : Is Tryz.prog 121 (c_slices_Backward_api_Entry_api_Entry 186) := ⟨by kernel_rfl, by kernel_rfl⟩
theorem is_slices_Clone_int_int : Is Tryz.prog 122 (c_slices_Clone_int_int) := ⟨by kernel_rfl, by kernel_rfl⟩
theorem is_rlog_Cut : Is Tryz.prog 123 (c_rlog_Cut 54 178) := ⟨by kernel_rfl, by kernel_rfl⟩
theorem is_vote_Grants : Is Tryz.prog 124 (c_vote_Grants 31) := ⟨by kernel_rfl, by kernel_rfl⟩
theorem is_slices_IndexFunc_api_Flow_api_Flow : Is Tryz.prog 125 (c_slices_IndexFunc_api_Flow_api_Flow) := ⟨by kernel_rfl, by kernel_rfl⟩
theorem is_raft_call_heard_f1 : Is Tryz.prog 126 (c_raft_call_heard_f1) := ⟨by kernel_rfl, by kernel_rfl⟩
theorem is_flow_Heard : Is Tryz.prog 127 (c_flow_Heard) := ⟨by kernel_rfl, by kernel_rfl⟩
theorem is_raft_call_answer : Is Tryz.prog 128 (c_raft_call_answer 61) := ⟨by kernel_rfl, by kernel_rfl⟩
theorem is_pack_Reader_Blob : Is Tryz.prog 129 (c_pack_Reader_Blob 188 187) := ⟨by kernel_rfl, by kernel_rfl⟩
theorem is_pack_Reader_End : Is Tryz.prog 130 (c_pack_Reader_End) := ⟨by kernel_rfl, by kernel_rfl⟩
theorem is_quorum_Check_f1 : Is Tryz.prog 132 (c_quorum_Check_f1 108) := ⟨by kernel_rfl, by kernel_rfl⟩
theorem is_quorum_rises : Is Tryz.prog 133 (c_quorum_rises) := ⟨by kernel_rfl, by kernel_rfl⟩
theorem is_quorum_count_int : Is Tryz.prog 134 (c_quorum_count_int) := ⟨by kernel_rfl, by kernel_rfl⟩
theorem is_image_PutConf : Is Tryz.prog 175 (c_image_PutConf 219) := ⟨by kernel_rfl, by kernel_rfl⟩
theorem is_quorum_enough_f1 : Is Tryz.prog 177 (c_quorum_enough_f1 108) := ⟨by kernel_rfl, by kernel_rfl⟩
theorem is_rlog_fresh : Is Tryz.prog 178 (c_rlog_fresh) := ⟨by kernel_rfl, by kernel_rfl⟩
theorem is_slices_Index_int_int : Is Tryz.prog 179 (c_slices_Index_int_int) := ⟨by kernel_rfl, by kernel_rfl⟩
theorem is_quorum_united : Is Tryz.prog 180 (c_quorum_united 227 228 229) := ⟨by kernel_rfl, by kernel_rfl⟩
theorem is_pack_Blob : Is Tryz.prog 181 (c_pack_Blob 231 230) := ⟨by kernel_rfl, by kernel_rfl⟩
theorem is_pack_Reader_Ints : Is Tryz.prog 182 (c_pack_Reader_Ints 188 232) := ⟨by kernel_rfl, by kernel_rfl⟩
theorem is_quorum_Members : Is Tryz.prog 183 (c_quorum_Members 180) := ⟨by kernel_rfl, by kernel_rfl⟩
theorem is_flow_New : Is Tryz.prog 184 (c_flow_New) := ⟨by kernel_rfl, by kernel_rfl⟩
theorem is_raft_Raft_meet_f1 : Is Tryz.prog 185 (c_raft_Raft_meet_f1) := ⟨by kernel_rfl, by kernel_rfl⟩
theorem is_slices_Backward_api_Entry_api_Entry_f1 : IsR Tryz.prog true 186 (y_slices_Backward_api_Entry_api_Entry_f1) := ⟨by kernel_rfl, by kernel_rfl⟩
theorem is_pack_Reader_take : Is Tryz.prog 187 (c_pack_Reader_take 232) := ⟨by kernel_rfl, by kernel_rfl⟩
theorem is_pack_Reader_Int : Is Tryz.prog 188 (c_pack_Reader_Int 187) := ⟨by kernel_rfl, by kernel_rfl⟩
theorem is_image_putConf : Is Tryz.prog 219 (c_image_putConf 252) := ⟨by kernel_rfl, by kernel_rfl⟩
theorem is_slices_Concat_int_int : Is Tryz.prog 227 (c_slices_Concat_int_int 254) := ⟨by kernel_rfl, by kernel_rfl⟩
theorem is_slices_Compact_int_int : Is Tryz.prog 229 (c_slices_Compact_int_int) := ⟨by kernel_rfl, by kernel_rfl⟩
theorem is_pack_number : Is Tryz.prog 230 (c_pack_number) := ⟨by kernel_rfl, by kernel_rfl⟩
theorem is_pack_room : Is Tryz.prog 231 (c_pack_room) := ⟨by kernel_rfl, by kernel_rfl⟩
theorem is_pack_Reader_fail : Is Tryz.prog 232 (c_pack_Reader_fail) := ⟨by kernel_rfl, by kernel_rfl⟩
theorem is_pack_Ints : Is Tryz.prog 252 (c_pack_Ints 231 230) := ⟨by kernel_rfl, by kernel_rfl⟩
theorem is_slices_Grow_int_int : Is Tryz.prog 254 (c_slices_Grow_int_int) := ⟨by kernel_rfl, by kernel_rfl⟩
end Go.Proofs.YtdeiamnhnfmilaaGreat
