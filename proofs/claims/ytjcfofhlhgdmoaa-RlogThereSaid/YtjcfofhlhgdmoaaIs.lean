/-
  The functions that the statements of this seat reach are those that the library speaks of, each by computation.
-/
import Derived.Test.YtjcfofhlhgdmoaaChecked
import Derived.Test.YtjcfofhlhgdmoaaGlbEv
import Derived.Test.YtjcfofhlhgdmoaaGlbWp
import Derived.Test.YtjcfofhlhgdmoaaGlbTop
import Derived.Test.YtjcfofhlhgdmoaaGlbCglebekit
import Derived.Test.YtjcfofhlhgdmoaaGlbCrlog
import Derived.Test.YtjcfofhlhgdmoaaGlbCgleberef11
import Derived.Test.YtjcfofhlhgdmoaaGlbCglebelaw11
import Derived.KernelRfl
namespace Go.Proofs.Ytjcfofhlhgdmoaa
open Go Glb Go.Proofs
set_option maxRecDepth 100000

theorem is_glebelaw11_RlogThere : Is Try.prog 3 (c_glebelaw11_RlogThere 9 10 11 12 13 14 15 16) := ⟨by kernel_rfl, by kernel_rfl⟩
theorem is_glebelaw11_RlogLays : Is Try.prog 4 (c_glebelaw11_RlogLays 9 10 11 17 18 12 19 20 21 14 22 16) := ⟨by kernel_rfl, by kernel_rfl⟩
theorem is_glebelaw11_RlogOrder : Is Try.prog 5 (c_glebelaw11_RlogOrder 9 11 13 23) := ⟨by kernel_rfl, by kernel_rfl⟩
theorem is_glebelaw11_RlogAsks : Is Try.prog 6 (c_glebelaw11_RlogAsks 9 11 17 13 24 15 25 26 23 27 28 16 22 14) := ⟨by kernel_rfl, by kernel_rfl⟩
theorem is_glebelaw11_RlogCut : Is Try.prog 7 (c_glebelaw11_RlogCut 9 11 13 20 15 26 16) := ⟨by kernel_rfl, by kernel_rfl⟩
theorem is_glebelaw11_RlogKnown : Is Try.prog 8 (c_glebelaw11_RlogKnown 29 13 15 26 23 12 20 14 11) := ⟨by kernel_rfl, by kernel_rfl⟩
theorem is_glebelaw11_right : Is Try.prog 9 (c_glebelaw11_right 10) := ⟨by kernel_rfl, by kernel_rfl⟩
theorem is_glebekit_BigEntries : Is Try.prog 10 (c_glebekit_BigEntries) := ⟨by kernel_rfl, by kernel_rfl⟩
theorem is_glebelaw11_known : Is Try.prog 11 (c_glebelaw11_known 29 12 13) := ⟨by kernel_rfl, by kernel_rfl⟩
theorem is_rlog_Append : Is Try.prog 12 (c_rlog_Append 13 30 15) := ⟨by kernel_rfl, by kernel_rfl⟩
theorem is_rlog_Last : Is Try.prog 13 (c_rlog_Last) := ⟨by kernel_rfl, by kernel_rfl⟩
theorem is_glebekit_SameLog : Is Try.prog 14 (c_glebekit_SameLog 16) := ⟨by kernel_rfl, by kernel_rfl⟩
theorem is_rlog_Term : Is Try.prog 15 (c_rlog_Term 13) := ⟨by kernel_rfl, by kernel_rfl⟩
theorem is_glebekit_SameEntries : Is Try.prog 16 (c_glebekit_SameEntries 31) := ⟨by kernel_rfl, by kernel_rfl⟩
theorem is_glebekit_CopyLog : Is Try.prog 17 (c_glebekit_CopyLog 18) := ⟨by kernel_rfl, by kernel_rfl⟩
theorem is_glebekit_CopyEntries : Is Try.prog 18 (c_glebekit_CopyEntries 32) := ⟨by kernel_rfl, by kernel_rfl⟩
theorem is_gleberef11_Append : Is Try.prog 19 (c_gleberef11_Append 24 17 25 18 32) := ⟨by kernel_rfl, by kernel_rfl⟩
theorem is_rlog_Cut : Is Try.prog 20 (c_rlog_Cut 15 30) := ⟨by kernel_rfl, by kernel_rfl⟩
theorem is_gleberef11_Cut : Is Try.prog 21 (c_gleberef11_Cut 25 18) := ⟨by kernel_rfl, by kernel_rfl⟩
theorem is_glebekit_SpoilEntries : Is Try.prog 22 (c_glebekit_SpoilEntries 33) := ⟨by kernel_rfl, by kernel_rfl⟩
theorem is_rlog_Newer : Is Try.prog 23 (c_rlog_Newer 13) := ⟨by kernel_rfl, by kernel_rfl⟩
theorem is_gleberef11_Last : Is Try.prog 24 (c_gleberef11_Last) := ⟨by kernel_rfl, by kernel_rfl⟩
theorem is_gleberef11_Term : Is Try.prog 25 (c_gleberef11_Term 24) := ⟨by kernel_rfl, by kernel_rfl⟩
theorem is_rlog_Slice : Is Try.prog 26 (c_rlog_Slice 13 30) := ⟨by kernel_rfl, by kernel_rfl⟩
theorem is_gleberef11_Newer : Is Try.prog 27 (c_gleberef11_Newer 24) := ⟨by kernel_rfl, by kernel_rfl⟩
theorem is_gleberef11_Slice : Is Try.prog 28 (c_gleberef11_Slice 24 18) := ⟨by kernel_rfl, by kernel_rfl⟩
theorem is_glebelaw11_terms : Is Try.prog 29 (c_glebelaw11_terms) := ⟨by kernel_rfl, by kernel_rfl⟩
theorem is_rlog_fresh : Is Try.prog 30 (c_rlog_fresh) := ⟨by kernel_rfl, by kernel_rfl⟩
theorem is_glebekit_SameEntry : Is Try.prog 31 (c_glebekit_SameEntry 34) := ⟨by kernel_rfl, by kernel_rfl⟩
theorem is_glebekit_CopyBytes : Is Try.prog 32 (c_glebekit_CopyBytes) := ⟨by kernel_rfl, by kernel_rfl⟩
theorem is_glebekit_SpoilBytes : Is Try.prog 33 (c_glebekit_SpoilBytes) := ⟨by kernel_rfl, by kernel_rfl⟩
theorem is_glebekit_SameBytes : Is Try.prog 34 (c_glebekit_SameBytes) := ⟨by kernel_rfl, by kernel_rfl⟩
def tab_glebelaw11_known : Tab := [(11, c_glebelaw11_known 29 12 13), (29, c_glebelaw11_terms), (12, c_rlog_Append 13 30 15), (13, c_rlog_Last), (30, c_rlog_fresh), (15, c_rlog_Term 13)]
theorem tab_glebelaw11_known_ok : TabOk Try.prog tab_glebelaw11_known := TabOk.cons is_glebelaw11_known.1 is_glebelaw11_known.2 (TabOk.cons is_glebelaw11_terms.1 is_glebelaw11_terms.2 (TabOk.cons is_rlog_Append.1 is_rlog_Append.2 (TabOk.cons is_rlog_Last.1 is_rlog_Last.2 (TabOk.cons is_rlog_fresh.1 is_rlog_fresh.2 (TabOk.cons is_rlog_Term.1 is_rlog_Term.2 (TabOk.nil _))))))

end Go.Proofs.Ytjcfofhlhgdmoaa
