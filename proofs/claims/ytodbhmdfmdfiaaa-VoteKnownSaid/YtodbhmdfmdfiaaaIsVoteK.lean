/-
  What the functions of the program are.
-/
import Derived.Test.YtodbhmdfmdfiaaaChecked
import Derived.Test.YtodbhmdfmdfiaaaGlbLibC
import Derived.Test.YtodbhmdfmdfiaaaGlbCglebekit
import Derived.Test.YtodbhmdfmdfiaaaGlbCgleberef10
import Derived.Test.YtodbhmdfmdfiaaaGlbCquorum
import Derived.Test.YtodbhmdfmdfiaaaGlbCrlog
import Derived.Test.YtodbhmdfmdfiaaaGlbCvote
import Derived.KernelRfl
namespace Go.Proofs.Ytodbhmdfmdfiaaa
open Go Glb Go.Proofs
set_option maxRecDepth 100000

theorem is_glebelaw14_VoteKnown : Is Try.prog 8 (c_glebelaw14_VoteKnown 34 36 35 37 38 39 40 27 41) := ⟨by kernel_rfl, by kernel_rfl⟩
theorem is_glebekit_BigConf : Is Try.prog 17 (c_glebekit_BigConf) := ⟨by kernel_rfl, by kernel_rfl⟩
theorem is_glebekit_CopyConf : Is Try.prog 19 (c_glebekit_CopyConf 52) := ⟨by kernel_rfl, by kernel_rfl⟩
theorem is_glebekit_SameBytes : Is Try.prog 20 (c_glebekit_SameBytes) := ⟨by kernel_rfl, by kernel_rfl⟩
theorem is_glebekit_SameConf : Is Try.prog 25 (c_glebekit_SameConf 63) := ⟨by kernel_rfl, by kernel_rfl⟩
theorem is_glebekit_Pick : Is Try.prog 27 (c_glebekit_Pick) := ⟨by kernel_rfl, by kernel_rfl⟩
theorem is_glebekit_CopyBytes : Is Try.prog 30 (c_glebekit_CopyBytes) := ⟨by kernel_rfl, by kernel_rfl⟩
theorem is_glebelaw14_seven : Is Try.prog 34 (c_glebelaw14_seven) := ⟨by kernel_rfl, by kernel_rfl⟩
theorem is_glebelaw14_VoteTells : Is Try.prog 35 (c_glebelaw14_VoteTells 78 41 79 80 81 40 82 83) := ⟨by kernel_rfl, by kernel_rfl⟩
theorem is_glebelaw14_asked : Is Try.prog 36 (c_glebelaw14_asked) := ⟨by kernel_rfl, by kernel_rfl⟩
theorem is_glebelaw14_VoteOnce : Is Try.prog 37 (c_glebelaw14_VoteOnce 78 41 80 40) := ⟨by kernel_rfl, by kernel_rfl⟩
theorem is_glebelaw14_VoteWhole : Is Try.prog 38 (c_glebelaw14_VoteWhole 78 41 40) := ⟨by kernel_rfl, by kernel_rfl⟩
theorem is_glebelaw14_VoteAsks : Is Try.prog 39 (c_glebelaw14_VoteAsks 78 17 41 79 19 84 85 86 83 25) := ⟨by kernel_rfl, by kernel_rfl⟩
theorem is_vote_Grants : Is Try.prog 40 (c_vote_Grants 87) := ⟨by kernel_rfl, by kernel_rfl⟩
theorem is_glebelaw14_works : Is Try.prog 41 (c_glebelaw14_works 80 34 36 40 84) := ⟨by kernel_rfl, by kernel_rfl⟩
theorem is_glebekit_BigEntries : Is Try.prog 43 (c_glebekit_BigEntries) := ⟨by kernel_rfl, by kernel_rfl⟩
theorem is_glebekit_CopyInts : Is Try.prog 52 (c_glebekit_CopyInts) := ⟨by kernel_rfl, by kernel_rfl⟩
theorem is_glebekit_SameInts : Is Try.prog 63 (c_glebekit_SameInts) := ⟨by kernel_rfl, by kernel_rfl⟩
theorem is_glebelaw14_long : Is Try.prog 78 (c_glebelaw14_long 43) := ⟨by kernel_rfl, by kernel_rfl⟩
theorem is_glebekit_CopyLog : Is Try.prog 79 (c_glebekit_CopyLog 112) := ⟨by kernel_rfl, by kernel_rfl⟩
theorem is_vote_Timeout : Is Try.prog 80 (c_vote_Timeout) := ⟨by kernel_rfl, by kernel_rfl⟩
theorem is_gleberef14_Timeout : Is Try.prog 81 (c_gleberef14_Timeout) := ⟨by kernel_rfl, by kernel_rfl⟩
theorem is_gleberef14_Grants : Is Try.prog 82 (c_gleberef14_Grants 113) := ⟨by kernel_rfl, by kernel_rfl⟩
theorem is_glebekit_SameLog : Is Try.prog 83 (c_glebekit_SameLog 114) := ⟨by kernel_rfl, by kernel_rfl⟩
theorem is_vote_Asks : Is Try.prog 84 (c_vote_Asks 89 115) := ⟨by kernel_rfl, by kernel_rfl⟩
theorem is_gleberef14_Asks : Is Try.prog 85 (c_gleberef14_Asks 116 113) := ⟨by kernel_rfl, by kernel_rfl⟩
theorem is_glebekit_SameMsgs : Is Try.prog 86 (c_glebekit_SameMsgs 117) := ⟨by kernel_rfl, by kernel_rfl⟩
theorem is_rlog_Newer : Is Try.prog 87 (c_rlog_Newer 89) := ⟨by kernel_rfl, by kernel_rfl⟩
theorem is_rlog_Last : Is Try.prog 89 (c_rlog_Last) := ⟨by kernel_rfl, by kernel_rfl⟩
theorem is_glebekit_CopyEntries : Is Try.prog 112 (c_glebekit_CopyEntries 30) := ⟨by kernel_rfl, by kernel_rfl⟩
theorem is_gleberef14_Last : Is Try.prog 113 (c_gleberef14_Last) := ⟨by kernel_rfl, by kernel_rfl⟩
theorem is_glebekit_SameEntries : Is Try.prog 114 (c_glebekit_SameEntries 130) := ⟨by kernel_rfl, by kernel_rfl⟩
theorem is_quorum_Voters : Is Try.prog 115 (c_quorum_Voters 131) := ⟨by kernel_rfl, by kernel_rfl⟩
theorem is_gleberef10_Voters : Is Try.prog 116 (c_gleberef10_Voters 132) := ⟨by kernel_rfl, by kernel_rfl⟩
theorem is_glebekit_SameMsg : Is Try.prog 117 (c_glebekit_SameMsg 114 20) := ⟨by kernel_rfl, by kernel_rfl⟩
theorem is_glebekit_SameEntry : Is Try.prog 130 (c_glebekit_SameEntry 20) := ⟨by kernel_rfl, by kernel_rfl⟩
theorem is_quorum_united : Is Try.prog 131 (c_quorum_united 134 135 136) := ⟨by kernel_rfl, by kernel_rfl⟩
theorem is_gleberef10_all : Is Try.prog 132 (c_gleberef10_all 137) := ⟨by kernel_rfl, by kernel_rfl⟩
theorem is_slices_Concat_int_int : Is Try.prog 134 (c_slices_Concat_int_int 138) := ⟨by kernel_rfl, by kernel_rfl⟩
theorem is_slices_Compact_int_int : Is Try.prog 136 (c_slices_Compact_int_int) := ⟨by kernel_rfl, by kernel_rfl⟩
theorem is_gleberef10_With : Is Try.prog 137 (c_gleberef10_With 141) := ⟨by kernel_rfl, by kernel_rfl⟩
theorem is_slices_Grow_int_int : Is Try.prog 138 (c_slices_Grow_int_int) := ⟨by kernel_rfl, by kernel_rfl⟩
theorem is_gleberef10_In : Is Try.prog 141 (c_gleberef10_In) := ⟨by kernel_rfl, by kernel_rfl⟩

end Go.Proofs.Ytodbhmdfmdfiaaa
