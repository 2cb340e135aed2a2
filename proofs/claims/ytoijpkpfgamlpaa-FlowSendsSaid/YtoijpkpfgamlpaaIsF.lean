/-
  What the functions of the program are.
-/
import Derived.Test.YtoijpkpfgamlpaaChecked
import Derived.Test.YtoijpkpfgamlpaaGlbEv
import Derived.Test.YtoijpkpfgamlpaaGlbWp
import Derived.Test.YtoijpkpfgamlpaaGlbTop
import Derived.Test.YtoijpkpfgamlpaaGlbCglebekit
import Derived.Test.YtoijpkpfgamlpaaGlbCrlog
import Derived.Test.YtoijpkpfgamlpaaGlbCgleberef11
import Derived.Test.YtoijpkpfgamlpaaGlbCpack
import Derived.Test.YtoijpkpfgamlpaaGlbCflow
import Derived.Test.YtoijpkpfgamlpaaGlbCgleberef15
import Derived.Test.YtoijpkpfgamlpaaGlbCglebelaw15
import Derived.KernelRfl
namespace Go.Proofs.Ytoijpkpfgamlpaa
open Go Glb Go.Proofs
set_option maxRecDepth 100000

theorem is_glebelaw15_FlowSends : Is Try.prog 5 (c_glebelaw15_FlowSends 22 23 24 25 26 28 27 29 30) := ⟨by kernel_rfl, by kernel_rfl⟩
theorem is_glebelaw15_FlowHears : Is Try.prog 7 (c_glebelaw15_FlowHears 22 33 24 34 32 35 36 37) := ⟨by kernel_rfl, by kernel_rfl⟩
theorem is_glebekit_CopyInts : Is Try.prog 20 (c_glebekit_CopyInts) := ⟨by kernel_rfl, by kernel_rfl⟩
theorem is_glebelaw15_placed : Is Try.prog 22 (c_glebelaw15_placed) := ⟨by kernel_rfl, by kernel_rfl⟩
theorem is_glebelaw15_right : Is Try.prog 23 (c_glebelaw15_right 51) := ⟨by kernel_rfl, by kernel_rfl⟩
theorem is_glebelaw15_known : Is Try.prog 24 (c_glebelaw15_known 31 32 26) := ⟨by kernel_rfl, by kernel_rfl⟩
theorem is_glebekit_CopyHard : Is Try.prog 25 (c_glebekit_CopyHard 52 41 53) := ⟨by kernel_rfl, by kernel_rfl⟩
theorem is_flow_Next : Is Try.prog 26 (c_flow_Next 55 54 56 57) := ⟨by kernel_rfl, by kernel_rfl⟩
theorem is_glebekit_SameMsg : Is Try.prog 27 (c_glebekit_SameMsg 58 59) := ⟨by kernel_rfl, by kernel_rfl⟩
theorem is_gleberef15_Next : Is Try.prog 28 (c_gleberef15_Next 61 60 62 63) := ⟨by kernel_rfl, by kernel_rfl⟩
theorem is_glebekit_SpoilMsgs : Is Try.prog 29 (c_glebekit_SpoilMsgs 64 65) := ⟨by kernel_rfl, by kernel_rfl⟩
theorem is_glebekit_SameHard : Is Try.prog 30 (c_glebekit_SameHard 66 49 59) := ⟨by kernel_rfl, by kernel_rfl⟩
theorem is_glebelaw15_example : Is Try.prog 31 (c_glebelaw15_example) := ⟨by kernel_rfl, by kernel_rfl⟩
theorem is_flow_Heard : Is Try.prog 32 (c_flow_Heard) := ⟨by kernel_rfl, by kernel_rfl⟩
theorem is_glebekit_BigMsg : Is Try.prog 33 (c_glebekit_BigMsg 67) := ⟨by kernel_rfl, by kernel_rfl⟩
theorem is_glebekit_CopyMsg : Is Try.prog 34 (c_glebekit_CopyMsg 68 53) := ⟨by kernel_rfl, by kernel_rfl⟩
theorem is_gleberef15_Heard : Is Try.prog 35 (c_gleberef15_Heard) := ⟨by kernel_rfl, by kernel_rfl⟩
theorem is_flow_New : Is Try.prog 36 (c_flow_New) := ⟨by kernel_rfl, by kernel_rfl⟩
theorem is_gleberef15_New : Is Try.prog 37 (c_gleberef15_New) := ⟨by kernel_rfl, by kernel_rfl⟩
theorem is_glebekit_CopyConf : Is Try.prog 41 (c_glebekit_CopyConf 20) := ⟨by kernel_rfl, by kernel_rfl⟩
theorem is_glebekit_SameInts : Is Try.prog 45 (c_glebekit_SameInts) := ⟨by kernel_rfl, by kernel_rfl⟩
theorem is_glebekit_SameConf : Is Try.prog 49 (c_glebekit_SameConf 45) := ⟨by kernel_rfl, by kernel_rfl⟩
theorem is_glebekit_BigHard : Is Try.prog 51 (c_glebekit_BigHard 67 79) := ⟨by kernel_rfl, by kernel_rfl⟩
theorem is_glebekit_CopyLog : Is Try.prog 52 (c_glebekit_CopyLog 68) := ⟨by kernel_rfl, by kernel_rfl⟩
theorem is_glebekit_CopyBytes : Is Try.prog 53 (c_glebekit_CopyBytes) := ⟨by kernel_rfl, by kernel_rfl⟩
theorem is_pack_Blob : Is Try.prog 54 (c_pack_Blob 81 80) := ⟨by kernel_rfl, by kernel_rfl⟩
theorem is_image_PutConf : Is Try.prog 55 (c_image_PutConf 82) := ⟨by kernel_rfl, by kernel_rfl⟩
theorem is_rlog_Term : Is Try.prog 56 (c_rlog_Term 83) := ⟨by kernel_rfl, by kernel_rfl⟩
theorem is_rlog_Slice : Is Try.prog 57 (c_rlog_Slice 83 84) := ⟨by kernel_rfl, by kernel_rfl⟩
theorem is_glebekit_SameEntries : Is Try.prog 58 (c_glebekit_SameEntries 85) := ⟨by kernel_rfl, by kernel_rfl⟩
theorem is_glebekit_SameBytes : Is Try.prog 59 (c_glebekit_SameBytes) := ⟨by kernel_rfl, by kernel_rfl⟩
theorem is_gleberef02_Blob : Is Try.prog 60 (c_gleberef02_Blob 86) := ⟨by kernel_rfl, by kernel_rfl⟩
theorem is_gleberef13_PutConf : Is Try.prog 61 (c_gleberef13_PutConf 87) := ⟨by kernel_rfl, by kernel_rfl⟩
theorem is_gleberef11_Term : Is Try.prog 62 (c_gleberef11_Term 88) := ⟨by kernel_rfl, by kernel_rfl⟩
theorem is_gleberef11_Slice : Is Try.prog 63 (c_gleberef11_Slice 88 68) := ⟨by kernel_rfl, by kernel_rfl⟩
theorem is_glebekit_SpoilEntries : Is Try.prog 64 (c_glebekit_SpoilEntries 65) := ⟨by kernel_rfl, by kernel_rfl⟩
theorem is_glebekit_SpoilBytes : Is Try.prog 65 (c_glebekit_SpoilBytes) := ⟨by kernel_rfl, by kernel_rfl⟩
theorem is_glebekit_SameLog : Is Try.prog 66 (c_glebekit_SameLog 58) := ⟨by kernel_rfl, by kernel_rfl⟩
theorem is_glebekit_BigEntries : Is Try.prog 67 (c_glebekit_BigEntries) := ⟨by kernel_rfl, by kernel_rfl⟩
theorem is_glebekit_CopyEntries : Is Try.prog 68 (c_glebekit_CopyEntries 53) := ⟨by kernel_rfl, by kernel_rfl⟩
theorem is_glebekit_BigConf : Is Try.prog 79 (c_glebekit_BigConf) := ⟨by kernel_rfl, by kernel_rfl⟩
theorem is_pack_number : Is Try.prog 80 (c_pack_number) := ⟨by kernel_rfl, by kernel_rfl⟩
theorem is_pack_room : Is Try.prog 81 (c_pack_room) := ⟨by kernel_rfl, by kernel_rfl⟩
theorem is_image_putConf : Is Try.prog 82 (c_image_putConf 94) := ⟨by kernel_rfl, by kernel_rfl⟩
theorem is_rlog_Last : Is Try.prog 83 (c_rlog_Last) := ⟨by kernel_rfl, by kernel_rfl⟩
theorem is_rlog_fresh : Is Try.prog 84 (c_rlog_fresh) := ⟨by kernel_rfl, by kernel_rfl⟩
theorem is_glebekit_SameEntry : Is Try.prog 85 (c_glebekit_SameEntry 59) := ⟨by kernel_rfl, by kernel_rfl⟩
theorem is_gleberef02_Int : Is Try.prog 86 (c_gleberef02_Int) := ⟨by kernel_rfl, by kernel_rfl⟩
theorem is_gleberef13_putConf : Is Try.prog 87 (c_gleberef13_putConf 95) := ⟨by kernel_rfl, by kernel_rfl⟩
theorem is_gleberef11_Last : Is Try.prog 88 (c_gleberef11_Last) := ⟨by kernel_rfl, by kernel_rfl⟩
theorem is_pack_Ints : Is Try.prog 94 (c_pack_Ints 81 80) := ⟨by kernel_rfl, by kernel_rfl⟩
theorem is_gleberef02_Ints : Is Try.prog 95 (c_gleberef02_Ints 86) := ⟨by kernel_rfl, by kernel_rfl⟩
def tab_glebelaw15_known : Tab := [(24, c_glebelaw15_known 31 32 26), (31, c_glebelaw15_example), (32, c_flow_Heard), (26, c_flow_Next 55 54 56 57), (55, c_image_PutConf 82), (82, c_image_putConf 94), (94, c_pack_Ints 81 80), (81, c_pack_room), (80, c_pack_number), (54, c_pack_Blob 81 80), (56, c_rlog_Term 83), (83, c_rlog_Last), (57, c_rlog_Slice 83 84), (84, c_rlog_fresh)]
theorem tab_glebelaw15_known_ok : TabOk Try.prog tab_glebelaw15_known := TabOk.cons is_glebelaw15_known.1 is_glebelaw15_known.2 (TabOk.cons is_glebelaw15_example.1 is_glebelaw15_example.2 (TabOk.cons is_flow_Heard.1 is_flow_Heard.2 (TabOk.cons is_flow_Next.1 is_flow_Next.2 (TabOk.cons is_image_PutConf.1 is_image_PutConf.2 (TabOk.cons is_image_putConf.1 is_image_putConf.2 (TabOk.cons is_pack_Ints.1 is_pack_Ints.2 (TabOk.cons is_pack_room.1 is_pack_room.2 (TabOk.cons is_pack_number.1 is_pack_number.2 (TabOk.cons is_pack_Blob.1 is_pack_Blob.2 (TabOk.cons is_rlog_Term.1 is_rlog_Term.2 (TabOk.cons is_rlog_Last.1 is_rlog_Last.2 (TabOk.cons is_rlog_Slice.1 is_rlog_Slice.2 (TabOk.cons is_rlog_fresh.1 is_rlog_fresh.2 (TabOk.nil _))))))))))))))

end Go.Proofs.Ytoijpkpfgamlpaa
