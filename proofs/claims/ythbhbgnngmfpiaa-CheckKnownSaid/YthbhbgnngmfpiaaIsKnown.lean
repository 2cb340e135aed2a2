/-
  What the functions of the program are.
-/
import Derived.Test.YthbhbgnngmfpiaaChecked
import Derived.Test.YthbhbgnngmfpiaaGlbLibC
import Derived.Test.YthbhbgnngmfpiaaGlbCcheck
import Derived.Test.YthbhbgnngmfpiaaGlbCglebekit
import Derived.Test.YthbhbgnngmfpiaaGlbCglebelaw04
import Derived.Test.YthbhbgnngmfpiaaGlbCglebelaw08
import Derived.Test.YthbhbgnngmfpiaaGlbCgleberef04
import Derived.Test.YthbhbgnngmfpiaaGlbCgleberef08
import Derived.Test.YthbhbgnngmfpiaaGlbCimage
import Derived.Test.YthbhbgnngmfpiaaGlbCkit2
import Derived.Test.YthbhbgnngmfpiaaGlbCpack
import Derived.Test.YthbhbgnngmfpiaaGlbCread
import Derived.Test.YthbhbgnngmfpiaaGlbCref02r
import Derived.Test.YthbhbgnngmfpiaaGlbCsector
import Derived.KernelRfl
namespace Go.Proofs.Ythbhbgnngmfpiaa
open Go Glb Go.Proofs
set_option maxRecDepth 100000

theorem is_glebelaw08_CheckApart : Is Try.prog 4 (c_glebelaw08_CheckApart 7 10 11 9 14 12 13 15) := ⟨by kernel_rfl, by kernel_rfl⟩
theorem is_glebelaw08_CheckLasts : Is Try.prog 5 (c_glebelaw08_CheckLasts 7 8 9 10 16 11 17 15 12 13) := ⟨by kernel_rfl, by kernel_rfl⟩
theorem is_glebelaw08_CheckKnown : Is Try.prog 6 (c_glebelaw08_CheckKnown 18 19 20 21 7) := ⟨by kernel_rfl, by kernel_rfl⟩
theorem is_glebelaw08_works : Is Try.prog 7 (c_glebelaw08_works 10 11 18 12 13) := ⟨by kernel_rfl, by kernel_rfl⟩
theorem is_glebelaw08_great : Is Try.prog 8 (c_glebelaw08_great) := ⟨by kernel_rfl, by kernel_rfl⟩
theorem is_glebekit_Pick : Is Try.prog 9 (c_glebekit_Pick) := ⟨by kernel_rfl, by kernel_rfl⟩
theorem is_sector_New : Is Try.prog 10 (c_sector_New) := ⟨by kernel_rfl, by kernel_rfl⟩
theorem is_check_Save : Is Try.prog 11 (c_check_Save 22 23 24 26) := ⟨by kernel_rfl, by kernel_rfl⟩
theorem is_check_Load : Is Try.prog 12 (c_check_Load 22 27) := ⟨by kernel_rfl, by kernel_rfl⟩
theorem is_glebekit_SameBytes : Is Try.prog 13 (c_glebekit_SameBytes) := ⟨by kernel_rfl, by kernel_rfl⟩
theorem is_sector_Disk_Write : Is Try.prog 14 (c_sector_Disk_Write 28 29 30) := ⟨by kernel_rfl, by kernel_rfl⟩
theorem is_sector_Disk_Crash : Is Try.prog 15 (c_sector_Disk_Crash 31) := ⟨by kernel_rfl, by kernel_rfl⟩
theorem is_sector_Disk_Arm : Is Try.prog 16 (c_sector_Disk_Arm) := ⟨by kernel_rfl, by kernel_rfl⟩
theorem is_sector_Disk_Down : Is Try.prog 17 (c_sector_Disk_Down) := ⟨by kernel_rfl, by kernel_rfl⟩
theorem is_glebekit_Row : Is Try.prog 18 (c_glebekit_Row) := ⟨by kernel_rfl, by kernel_rfl⟩
theorem is_glebelaw08_CheckRuns : Is Try.prog 19 (c_glebelaw08_CheckRuns 10 32 33 7 34 35 36 37) := ⟨by kernel_rfl, by kernel_rfl⟩
theorem is_glebelaw08_knownTurned : Is Try.prog 20 (c_glebelaw08_knownTurned 10 18 11 38 39 19) := ⟨by kernel_rfl, by kernel_rfl⟩
theorem is_glebelaw08_knownCuts : Is Try.prog 21 (c_glebelaw08_knownCuts 18 5 4) := ⟨by kernel_rfl, by kernel_rfl⟩
theorem is_check_may : Is Try.prog 22 (c_check_may 40) := ⟨by kernel_rfl, by kernel_rfl⟩
theorem is_check_pieces : Is Try.prog 23 (c_check_pieces) := ⟨by kernel_rfl, by kernel_rfl⟩
theorem is_check_Save_f1 : Is Try.prog 24 (c_check_Save_f1 25 14) := ⟨by kernel_rfl, by kernel_rfl⟩
theorem is_check_laid : Is Try.prog 25 (c_check_laid 41) := ⟨by kernel_rfl, by kernel_rfl⟩
theorem is_sector_Disk_Flush : Is Try.prog 26 (c_sector_Disk_Flush 29 31) := ⟨by kernel_rfl, by kernel_rfl⟩
theorem is_check_whole : Is Try.prog 27 (c_check_whole 42) := ⟨by kernel_rfl, by kernel_rfl⟩
theorem is_sector_Disk_has : Is Try.prog 28 (c_sector_Disk_has) := ⟨by kernel_rfl, by kernel_rfl⟩
theorem is_sector_Disk_spend : Is Try.prog 29 (c_sector_Disk_spend) := ⟨by kernel_rfl, by kernel_rfl⟩
theorem is_bytes_Clone : Is Try.prog 30 (c_bytes_Clone) := ⟨by kernel_rfl, by kernel_rfl⟩
theorem is_sector_Disk_Dirty : Is Try.prog 31 (c_sector_Disk_Dirty 44 43) := ⟨by kernel_rfl, by kernel_rfl⟩
theorem is_gleberef04_New : Is Try.prog 32 (c_gleberef04_New) := ⟨by kernel_rfl, by kernel_rfl⟩
theorem is_glebelaw08_long : Is Try.prog 33 (c_glebelaw08_long) := ⟨by kernel_rfl, by kernel_rfl⟩
theorem is_glebelaw08_both : Is Try.prog 34 (c_glebelaw08_both 45 11 46 47 48 15 49 16 50 14 51 26 52) := ⟨by kernel_rfl, by kernel_rfl⟩
theorem is_glebelaw08_loads : Is Try.prog 35 (c_glebelaw08_loads 12 53 13 48) := ⟨by kernel_rfl, by kernel_rfl⟩
theorem is_glebelaw04_Looks : Is Try.prog 36 (c_glebelaw04_Looks 38 54 13 48 31 55 56 57 40 17) := ⟨by kernel_rfl, by kernel_rfl⟩
theorem is_glebelaw04_All : Is Try.prog 37 (c_glebelaw04_All 36) := ⟨by kernel_rfl, by kernel_rfl⟩
theorem is_sector_Disk_Read : Is Try.prog 38 (c_sector_Disk_Read 28 30) := ⟨by kernel_rfl, by kernel_rfl⟩
theorem is_glebekit_CopyBytes : Is Try.prog 39 (c_glebekit_CopyBytes) := ⟨by kernel_rfl, by kernel_rfl⟩
theorem is_sector_Disk_Len : Is Try.prog 40 (c_sector_Disk_Len) := ⟨by kernel_rfl, by kernel_rfl⟩
theorem is_pack_Int : Is Try.prog 41 (c_pack_Int 59 58) := ⟨by kernel_rfl, by kernel_rfl⟩
theorem is_check_piece : Is Try.prog 42 (c_check_piece 38 60 61 62 63) := ⟨by kernel_rfl, by kernel_rfl⟩
theorem is_glebekit_LentBytes : Is Try.prog 45 (c_glebekit_LentBytes) := ⟨by kernel_rfl, by kernel_rfl⟩
theorem is_gleberef08_Save : Is Try.prog 46 (c_gleberef08_Save 67 68 69 51 52) := ⟨by kernel_rfl, by kernel_rfl⟩
theorem is_glebekit_KeptBytes : Is Try.prog 47 (c_glebekit_KeptBytes 13) := ⟨by kernel_rfl, by kernel_rfl⟩
theorem is_glebekit_SpoilBytes : Is Try.prog 48 (c_glebekit_SpoilBytes) := ⟨by kernel_rfl, by kernel_rfl⟩
theorem is_gleberef04_Disk_Crash : Is Try.prog 49 (c_gleberef04_Disk_Crash 70) := ⟨by kernel_rfl, by kernel_rfl⟩
theorem is_gleberef04_Disk_Arm : Is Try.prog 50 (c_gleberef04_Disk_Arm) := ⟨by kernel_rfl, by kernel_rfl⟩
theorem is_gleberef04_Disk_Write : Is Try.prog 51 (c_gleberef04_Disk_Write 71 39 70) := ⟨by kernel_rfl, by kernel_rfl⟩
theorem is_gleberef04_Disk_Flush : Is Try.prog 52 (c_gleberef04_Disk_Flush 71 70) := ⟨by kernel_rfl, by kernel_rfl⟩
theorem is_gleberef08_Load : Is Try.prog 53 (c_gleberef08_Load 67 72) := ⟨by kernel_rfl, by kernel_rfl⟩
theorem is_gleberef04_Disk_Read : Is Try.prog 54 (c_gleberef04_Disk_Read 73 39) := ⟨by kernel_rfl, by kernel_rfl⟩
theorem is_gleberef04_Disk_Dirty : Is Try.prog 55 (c_gleberef04_Disk_Dirty) := ⟨by kernel_rfl, by kernel_rfl⟩
theorem is_glebekit_SameInts : Is Try.prog 56 (c_glebekit_SameInts) := ⟨by kernel_rfl, by kernel_rfl⟩
theorem is_glebekit_SpoilInts : Is Try.prog 57 (c_glebekit_SpoilInts) := ⟨by kernel_rfl, by kernel_rfl⟩
theorem is_pack_number : Is Try.prog 58 (c_pack_number) := ⟨by kernel_rfl, by kernel_rfl⟩
theorem is_pack_room : Is Try.prog 59 (c_pack_room) := ⟨by kernel_rfl, by kernel_rfl⟩
theorem is_pack_Read : Is Try.prog 60 (c_pack_Read 74) := ⟨by kernel_rfl, by kernel_rfl⟩
theorem is_pack_Reader_Int : Is Try.prog 61 (c_pack_Reader_Int 75) := ⟨by kernel_rfl, by kernel_rfl⟩
theorem is_pack_Reader_Bad : Is Try.prog 62 (c_pack_Reader_Bad) := ⟨by kernel_rfl, by kernel_rfl⟩
theorem is_pack_Reader_Left : Is Try.prog 63 (c_pack_Reader_Left) := ⟨by kernel_rfl, by kernel_rfl⟩
theorem is_gleberef08_May : Is Try.prog 67 (c_gleberef08_May) := ⟨by kernel_rfl, by kernel_rfl⟩
theorem is_gleberef08_Cut : Is Try.prog 68 (c_gleberef08_Cut) := ⟨by kernel_rfl, by kernel_rfl⟩
theorem is_gleberef08_Piece : Is Try.prog 69 (c_gleberef08_Piece 79) := ⟨by kernel_rfl, by kernel_rfl⟩
theorem is_gleberef04_put : Is Try.prog 70 (c_gleberef04_put) := ⟨by kernel_rfl, by kernel_rfl⟩
theorem is_gleberef04_Disk_Done : Is Try.prog 71 (c_gleberef04_Disk_Done) := ⟨by kernel_rfl, by kernel_rfl⟩
theorem is_gleberef08_Whole : Is Try.prog 72 (c_gleberef08_Whole 54 80 81 82) := ⟨by kernel_rfl, by kernel_rfl⟩
theorem is_gleberef04_find : Is Try.prog 73 (c_gleberef04_find) := ⟨by kernel_rfl, by kernel_rfl⟩
theorem is_slices_Clone_byte_byte : Is Try.prog 74 (c_slices_Clone_byte_byte) := ⟨by kernel_rfl, by kernel_rfl⟩
theorem is_pack_Reader_take : Is Try.prog 75 (c_pack_Reader_take 83) := ⟨by kernel_rfl, by kernel_rfl⟩
theorem is_gleberef02_Int : Is Try.prog 79 (c_gleberef02_Int) := ⟨by kernel_rfl, by kernel_rfl⟩
theorem is_gleberef02_Read : Is Try.prog 80 (c_gleberef02_Read) := ⟨by kernel_rfl, by kernel_rfl⟩
theorem is_gleberef02_Reader_Int : Is Try.prog 81 (c_gleberef02_Reader_Int 95) := ⟨by kernel_rfl, by kernel_rfl⟩
theorem is_gleberef08_Is : Is Try.prog 82 (c_gleberef08_Is 69) := ⟨by kernel_rfl, by kernel_rfl⟩
theorem is_pack_Reader_fail : Is Try.prog 83 (c_pack_Reader_fail) := ⟨by kernel_rfl, by kernel_rfl⟩
theorem is_gleberef02_Reader_Left : Is Try.prog 95 (c_gleberef02_Reader_Left) := ⟨by kernel_rfl, by kernel_rfl⟩

end Go.Proofs.Ythbhbgnngmfpiaa
