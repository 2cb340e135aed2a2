/-
  What the functions of the program are.
-/
import Derived.Test.YtdlklnoffbfjmaaChecked
import Derived.Test.YtdlklnoffbfjmaaGlbLibC
import Derived.Test.YtdlklnoffbfjmaaGlbCglebekit
import Derived.Test.YtdlklnoffbfjmaaGlbCglebelaw07
import Derived.Test.YtdlklnoffbfjmaaGlbCimage
import Derived.Test.YtdlklnoffbfjmaaGlbCjournal
import Derived.Test.YtdlklnoffbfjmaaGlbCpack
import Derived.Test.YtdlklnoffbfjmaaGlbCread
import Derived.Test.YtdlklnoffbfjmaaGlbCsector
import Derived.KernelRfl
namespace Go.Proofs.Ytdlklnoffbfjmaa
open Go Glb Go.Proofs
set_option maxRecDepth 100000

theorem is_glebelaw07_JournalKnown : Is Try.prog 4 (c_glebelaw07_JournalKnown 7 8 12 11 10 14 15 9) := ⟨by kernel_rfl, by kernel_rfl⟩
theorem is_sector_New : Is Try.prog 7 (c_sector_New) := ⟨by kernel_rfl, by kernel_rfl⟩
theorem is_journal_New : Is Try.prog 8 (c_journal_New 18) := ⟨by kernel_rfl, by kernel_rfl⟩
theorem is_glebelaw07_known : Is Try.prog 9 (c_glebelaw07_known 7 8 11 10 14 12 13) := ⟨by kernel_rfl, by kernel_rfl⟩
theorem is_journal_Journal_Room : Is Try.prog 10 (c_journal_Journal_Room) := ⟨by kernel_rfl, by kernel_rfl⟩
theorem is_journal_Journal_Append : IsR Try.prog false 11 (r_journal_Journal_Append 19 10 20 21 22) := ⟨by kernel_rfl, by kernel_rfl⟩
theorem is_journal_Scan : Is Try.prog 12 (c_journal_Scan 18 23) := ⟨by kernel_rfl, by kernel_rfl⟩
theorem is_glebekit_SameRows : Is Try.prog 13 (c_glebekit_SameRows 24) := ⟨by kernel_rfl, by kernel_rfl⟩
theorem is_journal_Journal_Count : Is Try.prog 14 (c_journal_Journal_Count) := ⟨by kernel_rfl, by kernel_rfl⟩
theorem is_sector_Disk_Read : Is Try.prog 15 (c_sector_Disk_Read 25 26) := ⟨by kernel_rfl, by kernel_rfl⟩
theorem is_journal_right : Is Try.prog 18 (c_journal_right 31) := ⟨by kernel_rfl, by kernel_rfl⟩
theorem is_journal_need : Is Try.prog 19 (c_journal_need) := ⟨by kernel_rfl, by kernel_rfl⟩
theorem is_journal_sectors : Is Try.prog 20 (c_journal_sectors 32) := ⟨by kernel_rfl, by kernel_rfl⟩
theorem is_sector_Disk_Write : Is Try.prog 21 (c_sector_Disk_Write 25 34 26) := ⟨by kernel_rfl, by kernel_rfl⟩
theorem is_sector_Disk_Flush : Is Try.prog 22 (c_sector_Disk_Flush 34 30) := ⟨by kernel_rfl, by kernel_rfl⟩
theorem is_journal_piece : Is Try.prog 23 (c_journal_piece 15 35 36) := ⟨by kernel_rfl, by kernel_rfl⟩
theorem is_glebekit_SameBytes : Is Try.prog 24 (c_glebekit_SameBytes) := ⟨by kernel_rfl, by kernel_rfl⟩
theorem is_sector_Disk_has : Is Try.prog 25 (c_sector_Disk_has) := ⟨by kernel_rfl, by kernel_rfl⟩
theorem is_bytes_Clone : Is Try.prog 26 (c_bytes_Clone) := ⟨by kernel_rfl, by kernel_rfl⟩
theorem is_sector_Disk_Dirty : Is Try.prog 30 (c_sector_Disk_Dirty 39 38) := ⟨by kernel_rfl, by kernel_rfl⟩
theorem is_sector_Disk_Len : Is Try.prog 31 (c_sector_Disk_Len) := ⟨by kernel_rfl, by kernel_rfl⟩
theorem is_journal_sectors_f1 : IsR Try.prog true 32 (y_journal_sectors_f1 19 33) := ⟨by kernel_rfl, by kernel_rfl⟩
theorem is_pack_Int : Is Try.prog 33 (c_pack_Int 41 40) := ⟨by kernel_rfl, by kernel_rfl⟩
theorem is_sector_Disk_spend : Is Try.prog 34 (c_sector_Disk_spend) := ⟨by kernel_rfl, by kernel_rfl⟩
theorem is_pack_Read : Is Try.prog 35 (c_pack_Read 42) := ⟨by kernel_rfl, by kernel_rfl⟩
theorem is_pack_Reader_Int : Is Try.prog 36 (c_pack_Reader_Int 43) := ⟨by kernel_rfl, by kernel_rfl⟩
theorem is_pack_number : Is Try.prog 40 (c_pack_number) := ⟨by kernel_rfl, by kernel_rfl⟩
theorem is_pack_room : Is Try.prog 41 (c_pack_room) := ⟨by kernel_rfl, by kernel_rfl⟩
theorem is_slices_Clone_byte_byte : Is Try.prog 42 (c_slices_Clone_byte_byte) := ⟨by kernel_rfl, by kernel_rfl⟩
theorem is_pack_Reader_take : Is Try.prog 43 (c_pack_Reader_take 47) := ⟨by kernel_rfl, by kernel_rfl⟩
theorem is_pack_Reader_fail : Is Try.prog 47 (c_pack_Reader_fail) := ⟨by kernel_rfl, by kernel_rfl⟩

end Go.Proofs.Ytdlklnoffbfjmaa
