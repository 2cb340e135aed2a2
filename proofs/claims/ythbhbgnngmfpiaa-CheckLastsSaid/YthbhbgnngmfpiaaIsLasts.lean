/-
  What the functions of the program are.
-/
import Derived.Test.YthbhbgnngmfpiaaChecked
import Derived.Test.YthbhbgnngmfpiaaGlbLibC
import Derived.Test.YthbhbgnngmfpiaaGlbCcheck
import Derived.Test.YthbhbgnngmfpiaaGlbCglebekit
import Derived.Test.YthbhbgnngmfpiaaGlbCglebelaw08
import Derived.Test.YthbhbgnngmfpiaaGlbCimage
import Derived.Test.YthbhbgnngmfpiaaGlbCpack
import Derived.Test.YthbhbgnngmfpiaaGlbCread
import Derived.Test.YthbhbgnngmfpiaaGlbCsector
import Derived.KernelRfl
namespace Go.Proofs.Ythbhbgnngmfpiaa
open Go Glb Go.Proofs
set_option maxRecDepth 100000

theorem is_glebelaw08_CheckLasts : Is Try.prog 5 (c_glebelaw08_CheckLasts 7 8 9 10 16 11 17 15 12 13) := ⟨by kernel_rfl, by kernel_rfl⟩
theorem is_glebelaw08_works : Is Try.prog 7 (c_glebelaw08_works 10 11 18 12 13) := ⟨by kernel_rfl, by kernel_rfl⟩
theorem is_glebelaw08_great : Is Try.prog 8 (c_glebelaw08_great) := ⟨by kernel_rfl, by kernel_rfl⟩
theorem is_glebekit_Pick : Is Try.prog 9 (c_glebekit_Pick) := ⟨by kernel_rfl, by kernel_rfl⟩
theorem is_sector_New : Is Try.prog 10 (c_sector_New) := ⟨by kernel_rfl, by kernel_rfl⟩
theorem is_check_Save : Is Try.prog 11 (c_check_Save 22 23 24 26) := ⟨by kernel_rfl, by kernel_rfl⟩
theorem is_check_Load : Is Try.prog 12 (c_check_Load 22 27) := ⟨by kernel_rfl, by kernel_rfl⟩
theorem is_glebekit_SameBytes : Is Try.prog 13 (c_glebekit_SameBytes) := ⟨by kernel_rfl, by kernel_rfl⟩
theorem is_sector_Disk_Write : Is Try.prog 14 (c_sector_Disk_Write 28 29 30) := ⟨by kernel_rfl, by kernel_rfl⟩
theorem is_sector_Disk_Crash : Is Try.prog 15 (c_sector_Disk_Crash 31) := ⟨by kernel_rfl, by kernel_rfl⟩
theorem is_sector_Disk_Arm : Is Try.prog 16 (c_sector_Disk_Arm) := ⟨by kernel_rfl, by kernel_rfl⟩
theorem is_sector_Disk_Down : Is Try.prog 17 (c_sector_Disk_Down) := ⟨by kernel_rfl, by kernel_rfl⟩
theorem is_glebekit_Row : Is Try.prog 18 (c_glebekit_Row) := ⟨by kernel_rfl, by kernel_rfl⟩
theorem is_check_may : Is Try.prog 22 (c_check_may 40) := ⟨by kernel_rfl, by kernel_rfl⟩
theorem is_check_pieces : Is Try.prog 23 (c_check_pieces) := ⟨by kernel_rfl, by kernel_rfl⟩
theorem is_check_Save_f1 : Is Try.prog 24 (c_check_Save_f1 25 14) := ⟨by kernel_rfl, by kernel_rfl⟩
theorem is_check_laid : Is Try.prog 25 (c_check_laid 41) := ⟨by kernel_rfl, by kernel_rfl⟩
theorem is_sector_Disk_Flush : Is Try.prog 26 (c_sector_Disk_Flush 29 31) := ⟨by kernel_rfl, by kernel_rfl⟩
theorem is_check_whole : Is Try.prog 27 (c_check_whole 42) := ⟨by kernel_rfl, by kernel_rfl⟩
theorem is_sector_Disk_has : Is Try.prog 28 (c_sector_Disk_has) := ⟨by kernel_rfl, by kernel_rfl⟩
theorem is_sector_Disk_spend : Is Try.prog 29 (c_sector_Disk_spend) := ⟨by kernel_rfl, by kernel_rfl⟩
theorem is_bytes_Clone : Is Try.prog 30 (c_bytes_Clone) := ⟨by kernel_rfl, by kernel_rfl⟩
theorem is_sector_Disk_Dirty : Is Try.prog 31 (c_sector_Disk_Dirty 44 43) := ⟨by kernel_rfl, by kernel_rfl⟩
theorem is_sector_Disk_Read : Is Try.prog 38 (c_sector_Disk_Read 28 30) := ⟨by kernel_rfl, by kernel_rfl⟩
theorem is_sector_Disk_Len : Is Try.prog 40 (c_sector_Disk_Len) := ⟨by kernel_rfl, by kernel_rfl⟩
theorem is_pack_Int : Is Try.prog 41 (c_pack_Int 59 58) := ⟨by kernel_rfl, by kernel_rfl⟩
theorem is_check_piece : Is Try.prog 42 (c_check_piece 38 60 61 62 63) := ⟨by kernel_rfl, by kernel_rfl⟩
theorem is_pack_number : Is Try.prog 58 (c_pack_number) := ⟨by kernel_rfl, by kernel_rfl⟩
theorem is_pack_room : Is Try.prog 59 (c_pack_room) := ⟨by kernel_rfl, by kernel_rfl⟩
theorem is_pack_Read : Is Try.prog 60 (c_pack_Read 74) := ⟨by kernel_rfl, by kernel_rfl⟩
theorem is_pack_Reader_Int : Is Try.prog 61 (c_pack_Reader_Int 75) := ⟨by kernel_rfl, by kernel_rfl⟩
theorem is_pack_Reader_Bad : Is Try.prog 62 (c_pack_Reader_Bad) := ⟨by kernel_rfl, by kernel_rfl⟩
theorem is_pack_Reader_Left : Is Try.prog 63 (c_pack_Reader_Left) := ⟨by kernel_rfl, by kernel_rfl⟩
theorem is_slices_Clone_byte_byte : Is Try.prog 74 (c_slices_Clone_byte_byte) := ⟨by kernel_rfl, by kernel_rfl⟩
theorem is_pack_Reader_take : Is Try.prog 75 (c_pack_Reader_take 83) := ⟨by kernel_rfl, by kernel_rfl⟩
theorem is_pack_Reader_fail : Is Try.prog 83 (c_pack_Reader_fail) := ⟨by kernel_rfl, by kernel_rfl⟩

end Go.Proofs.Ythbhbgnngmfpiaa
