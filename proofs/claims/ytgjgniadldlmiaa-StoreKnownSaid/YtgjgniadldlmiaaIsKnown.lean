/-
  What the functions of the program are.
-/
import Derived.Test.YtgjgniadldlmiaaChecked
import Derived.Test.YtgjgniadldlmiaaGlbLibC
import Derived.Test.YtgjgniadldlmiaaGlbCcheck
import Derived.Test.YtgjgniadldlmiaaGlbCglebekit
import Derived.Test.YtgjgniadldlmiaaGlbCglebelaw09
import Derived.Test.YtgjgniadldlmiaaGlbCimage
import Derived.Test.YtgjgniadldlmiaaGlbCjournal
import Derived.Test.YtgjgniadldlmiaaGlbCpack
import Derived.Test.YtgjgniadldlmiaaGlbCread
import Derived.Test.YtgjgniadldlmiaaGlbCsector
import Derived.Test.YtgjgniadldlmiaaGlbCstore
import Derived.KernelRfl
namespace Go.Proofs.Ytgjgniadldlmiaa
open Go Glb Go.Proofs
set_option maxRecDepth 100000

theorem is_glebelaw09_StoreKnown : IsR Try.prog false 5 (r_glebelaw09_StoreKnown 6 7 8 9 10 11 17 13 15 12) := ⟨by kernel_rfl, by kernel_rfl⟩
theorem is_sector_New : Is Try.prog 6 (c_sector_New) := ⟨by kernel_rfl, by kernel_rfl⟩
theorem is_store_Open : Is Try.prog 7 (c_store_Open 18 19 20 21 22) := ⟨by kernel_rfl, by kernel_rfl⟩
theorem is_store_Store_Renew : Is Try.prog 8 (c_store_Store_Renew 24 23 21 25) := ⟨by kernel_rfl, by kernel_rfl⟩
theorem is_store_Store_Append : Is Try.prog 9 (c_store_Store_Append 26 23) := ⟨by kernel_rfl, by kernel_rfl⟩
theorem is_store_Store_Epoch : Is Try.prog 10 (c_store_Store_Epoch) := ⟨by kernel_rfl, by kernel_rfl⟩
theorem is_store_Store_Count : Is Try.prog 11 (c_store_Store_Count 27) := ⟨by kernel_rfl, by kernel_rfl⟩
theorem is_glebelaw09_known : IsR Try.prog false 12 (r_glebelaw09_known 6 7 10 9 8 11 17 28) := ⟨by kernel_rfl, by kernel_rfl⟩
theorem is_sector_Disk_Arm : Is Try.prog 13 (c_sector_Disk_Arm) := ⟨by kernel_rfl, by kernel_rfl⟩
theorem is_sector_Disk_Crash : Is Try.prog 15 (c_sector_Disk_Crash 30) := ⟨by kernel_rfl, by kernel_rfl⟩
theorem is_glebekit_SameBytes : Is Try.prog 17 (c_glebekit_SameBytes) := ⟨by kernel_rfl, by kernel_rfl⟩
theorem is_sector_Disk_Len : Is Try.prog 18 (c_sector_Disk_Len) := ⟨by kernel_rfl, by kernel_rfl⟩
theorem is_sector_Disk_Down : Is Try.prog 19 (c_sector_Disk_Down) := ⟨by kernel_rfl, by kernel_rfl⟩
theorem is_check_Load : Is Try.prog 20 (c_check_Load 31 32) := ⟨by kernel_rfl, by kernel_rfl⟩
theorem is_store_Store_place : Is Try.prog 21 (c_store_Store_place 18) := ⟨by kernel_rfl, by kernel_rfl⟩
theorem is_journal_Scan : Is Try.prog 22 (c_journal_Scan 33 34) := ⟨by kernel_rfl, by kernel_rfl⟩
theorem is_store_Store_died : Is Try.prog 23 (c_store_Store_died) := ⟨by kernel_rfl, by kernel_rfl⟩
theorem is_check_Save : Is Try.prog 24 (c_check_Save 31 35 36 39) := ⟨by kernel_rfl, by kernel_rfl⟩
theorem is_journal_New : Is Try.prog 25 (c_journal_New 33) := ⟨by kernel_rfl, by kernel_rfl⟩
theorem is_journal_Journal_Append : IsR Try.prog false 26 (r_journal_Journal_Append 40 41 42 37 39) := ⟨by kernel_rfl, by kernel_rfl⟩
theorem is_journal_Journal_Count : Is Try.prog 27 (c_journal_Journal_Count) := ⟨by kernel_rfl, by kernel_rfl⟩
theorem is_glebekit_SameRows : Is Try.prog 28 (c_glebekit_SameRows 17) := ⟨by kernel_rfl, by kernel_rfl⟩
theorem is_sector_Disk_Dirty : Is Try.prog 30 (c_sector_Disk_Dirty 45 44) := ⟨by kernel_rfl, by kernel_rfl⟩
theorem is_check_may : Is Try.prog 31 (c_check_may 18) := ⟨by kernel_rfl, by kernel_rfl⟩
theorem is_check_whole : Is Try.prog 32 (c_check_whole 46) := ⟨by kernel_rfl, by kernel_rfl⟩
theorem is_journal_right : Is Try.prog 33 (c_journal_right 18) := ⟨by kernel_rfl, by kernel_rfl⟩
theorem is_journal_piece : Is Try.prog 34 (c_journal_piece 47 48 49) := ⟨by kernel_rfl, by kernel_rfl⟩
theorem is_check_pieces : Is Try.prog 35 (c_check_pieces) := ⟨by kernel_rfl, by kernel_rfl⟩
theorem is_check_Save_f1 : Is Try.prog 36 (c_check_Save_f1 38 37) := ⟨by kernel_rfl, by kernel_rfl⟩
theorem is_sector_Disk_Write : Is Try.prog 37 (c_sector_Disk_Write 50 51 52) := ⟨by kernel_rfl, by kernel_rfl⟩
theorem is_check_laid : Is Try.prog 38 (c_check_laid 53) := ⟨by kernel_rfl, by kernel_rfl⟩
theorem is_sector_Disk_Flush : Is Try.prog 39 (c_sector_Disk_Flush 51 30) := ⟨by kernel_rfl, by kernel_rfl⟩
theorem is_journal_need : Is Try.prog 40 (c_journal_need) := ⟨by kernel_rfl, by kernel_rfl⟩
theorem is_journal_Journal_Room : Is Try.prog 41 (c_journal_Journal_Room) := ⟨by kernel_rfl, by kernel_rfl⟩
theorem is_journal_sectors : Is Try.prog 42 (c_journal_sectors 54) := ⟨by kernel_rfl, by kernel_rfl⟩
theorem is_check_piece : Is Try.prog 46 (c_check_piece 47 48 49 58 59) := ⟨by kernel_rfl, by kernel_rfl⟩
theorem is_sector_Disk_Read : Is Try.prog 47 (c_sector_Disk_Read 50 52) := ⟨by kernel_rfl, by kernel_rfl⟩
theorem is_pack_Read : Is Try.prog 48 (c_pack_Read 60) := ⟨by kernel_rfl, by kernel_rfl⟩
theorem is_pack_Reader_Int : Is Try.prog 49 (c_pack_Reader_Int 61) := ⟨by kernel_rfl, by kernel_rfl⟩
theorem is_sector_Disk_has : Is Try.prog 50 (c_sector_Disk_has) := ⟨by kernel_rfl, by kernel_rfl⟩
theorem is_sector_Disk_spend : Is Try.prog 51 (c_sector_Disk_spend) := ⟨by kernel_rfl, by kernel_rfl⟩
theorem is_bytes_Clone : Is Try.prog 52 (c_bytes_Clone) := ⟨by kernel_rfl, by kernel_rfl⟩
theorem is_pack_Int : Is Try.prog 53 (c_pack_Int 63 62) := ⟨by kernel_rfl, by kernel_rfl⟩
theorem is_journal_sectors_f1 : IsR Try.prog true 54 (y_journal_sectors_f1 40 53) := ⟨by kernel_rfl, by kernel_rfl⟩
theorem is_pack_Reader_Bad : Is Try.prog 58 (c_pack_Reader_Bad) := ⟨by kernel_rfl, by kernel_rfl⟩
theorem is_pack_Reader_Left : Is Try.prog 59 (c_pack_Reader_Left) := ⟨by kernel_rfl, by kernel_rfl⟩
theorem is_slices_Clone_byte_byte : Is Try.prog 60 (c_slices_Clone_byte_byte) := ⟨by kernel_rfl, by kernel_rfl⟩
theorem is_pack_Reader_take : Is Try.prog 61 (c_pack_Reader_take 67) := ⟨by kernel_rfl, by kernel_rfl⟩
theorem is_pack_number : Is Try.prog 62 (c_pack_number) := ⟨by kernel_rfl, by kernel_rfl⟩
theorem is_pack_room : Is Try.prog 63 (c_pack_room) := ⟨by kernel_rfl, by kernel_rfl⟩
theorem is_pack_Reader_fail : Is Try.prog 67 (c_pack_Reader_fail) := ⟨by kernel_rfl, by kernel_rfl⟩

end Go.Proofs.Ytgjgniadldlmiaa
