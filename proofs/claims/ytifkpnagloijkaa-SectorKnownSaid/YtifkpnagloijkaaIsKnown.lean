/-
  What the functions of the program are.
-/
import Derived.Test.YtifkpnagloijkaaChecked
import Derived.Test.YtifkpnagloijkaaGlbLibC
import Derived.Test.YtifkpnagloijkaaGlbCglebekit
import Derived.Test.YtifkpnagloijkaaGlbCglebelaw04
import Derived.Test.YtifkpnagloijkaaGlbCgleberef04
import Derived.Test.YtifkpnagloijkaaGlbCkit2
import Derived.Test.YtifkpnagloijkaaGlbCsector
import Derived.KernelRfl
namespace Go.Proofs.Ytifkpnagloijkaa
open Go Glb Go.Proofs
set_option maxRecDepth 100000

theorem is_glebelaw04_SectorCrashed : Is Try.prog 3 (c_glebelaw04_SectorCrashed 8 9 11 10 12 13 14 15 16 17 18 19 20) := ⟨by kernel_rfl, by kernel_rfl⟩
theorem is_glebelaw04_SectorRuns : Is Try.prog 4 (c_glebelaw04_SectorRuns 9 8 10 21 22 23 24) := ⟨by kernel_rfl, by kernel_rfl⟩
theorem is_glebelaw04_SectorFlushed : Is Try.prog 5 (c_glebelaw04_SectorFlushed 8 9 11 10 13 14 25 26 20 15 16) := ⟨by kernel_rfl, by kernel_rfl⟩
theorem is_glebelaw04_SectorFails : Is Try.prog 6 (c_glebelaw04_SectorFails 8 9 10 11 27 14 15 13 26 20 28) := ⟨by kernel_rfl, by kernel_rfl⟩
theorem is_glebelaw04_SectorKnown : Is Try.prog 7 (c_glebelaw04_SectorKnown 17 4 6 5 3 8) := ⟨by kernel_rfl, by kernel_rfl⟩
theorem is_glebelaw04_works : Is Try.prog 8 (c_glebelaw04_works 10 29 25 16 30 19 15) := ⟨by kernel_rfl, by kernel_rfl⟩
theorem is_glebelaw04_long : Is Try.prog 9 (c_glebelaw04_long) := ⟨by kernel_rfl, by kernel_rfl⟩
theorem is_sector_New : Is Try.prog 10 (c_sector_New) := ⟨by kernel_rfl, by kernel_rfl⟩
theorem is_glebekit_Pick : Is Try.prog 11 (c_glebekit_Pick) := ⟨by kernel_rfl, by kernel_rfl⟩
theorem is_sector_Disk_Len : Is Try.prog 12 (c_sector_Disk_Len) := ⟨by kernel_rfl, by kernel_rfl⟩
theorem is_glebelaw04_run : Is Try.prog 13 (c_glebelaw04_run 29 25 27 16) := ⟨by kernel_rfl, by kernel_rfl⟩
theorem is_glebelaw04_shown : Is Try.prog 14 (c_glebelaw04_shown 12 30 17) := ⟨by kernel_rfl, by kernel_rfl⟩
theorem is_sector_Disk_Dirty : Is Try.prog 15 (c_sector_Disk_Dirty 32 31) := ⟨by kernel_rfl, by kernel_rfl⟩
theorem is_sector_Disk_Crash : Is Try.prog 16 (c_sector_Disk_Crash 15) := ⟨by kernel_rfl, by kernel_rfl⟩
theorem is_glebekit_Row : Is Try.prog 17 (c_glebekit_Row) := ⟨by kernel_rfl, by kernel_rfl⟩
theorem is_glebelaw04_in : Is Try.prog 18 (c_glebelaw04_in) := ⟨by kernel_rfl, by kernel_rfl⟩
theorem is_glebekit_SameBytes : Is Try.prog 19 (c_glebekit_SameBytes) := ⟨by kernel_rfl, by kernel_rfl⟩
theorem is_glebekit_SameRows : Is Try.prog 20 (c_glebekit_SameRows 19) := ⟨by kernel_rfl, by kernel_rfl⟩
theorem is_gleberef04_New : Is Try.prog 21 (c_gleberef04_New) := ⟨by kernel_rfl, by kernel_rfl⟩
theorem is_glebelaw04_both : Is Try.prog 22 (c_glebelaw04_both 33 29 34 35 36 25 37 27 38 39 16 40 41) := ⟨by kernel_rfl, by kernel_rfl⟩
theorem is_glebelaw04_Looks : Is Try.prog 23 (c_glebelaw04_Looks 30 42 19 36 15 43 28 44 12 26) := ⟨by kernel_rfl, by kernel_rfl⟩
theorem is_glebelaw04_All : Is Try.prog 24 (c_glebelaw04_All 23) := ⟨by kernel_rfl, by kernel_rfl⟩
theorem is_sector_Disk_Flush : Is Try.prog 25 (c_sector_Disk_Flush 45 15) := ⟨by kernel_rfl, by kernel_rfl⟩
theorem is_sector_Disk_Down : Is Try.prog 26 (c_sector_Disk_Down) := ⟨by kernel_rfl, by kernel_rfl⟩
theorem is_sector_Disk_Arm : Is Try.prog 27 (c_sector_Disk_Arm) := ⟨by kernel_rfl, by kernel_rfl⟩
theorem is_glebekit_SameInts : Is Try.prog 28 (c_glebekit_SameInts) := ⟨by kernel_rfl, by kernel_rfl⟩
theorem is_sector_Disk_Write : Is Try.prog 29 (c_sector_Disk_Write 46 45 47) := ⟨by kernel_rfl, by kernel_rfl⟩
theorem is_sector_Disk_Read : Is Try.prog 30 (c_sector_Disk_Read 46 47) := ⟨by kernel_rfl, by kernel_rfl⟩
theorem is_glebekit_LentBytes : Is Try.prog 33 (c_glebekit_LentBytes) := ⟨by kernel_rfl, by kernel_rfl⟩
theorem is_gleberef04_Disk_Write : Is Try.prog 34 (c_gleberef04_Disk_Write 51 53 52) := ⟨by kernel_rfl, by kernel_rfl⟩
theorem is_glebekit_KeptBytes : Is Try.prog 35 (c_glebekit_KeptBytes 19) := ⟨by kernel_rfl, by kernel_rfl⟩
theorem is_glebekit_SpoilBytes : Is Try.prog 36 (c_glebekit_SpoilBytes) := ⟨by kernel_rfl, by kernel_rfl⟩
theorem is_gleberef04_Disk_Flush : Is Try.prog 37 (c_gleberef04_Disk_Flush 51 52) := ⟨by kernel_rfl, by kernel_rfl⟩
theorem is_gleberef04_Disk_Arm : Is Try.prog 38 (c_gleberef04_Disk_Arm) := ⟨by kernel_rfl, by kernel_rfl⟩
theorem is_glebekit_LentInts : Is Try.prog 39 (c_glebekit_LentInts) := ⟨by kernel_rfl, by kernel_rfl⟩
theorem is_gleberef04_Disk_Crash : Is Try.prog 40 (c_gleberef04_Disk_Crash 52) := ⟨by kernel_rfl, by kernel_rfl⟩
theorem is_glebekit_KeptInts : Is Try.prog 41 (c_glebekit_KeptInts 28) := ⟨by kernel_rfl, by kernel_rfl⟩
theorem is_gleberef04_Disk_Read : Is Try.prog 42 (c_gleberef04_Disk_Read 54 53) := ⟨by kernel_rfl, by kernel_rfl⟩
theorem is_gleberef04_Disk_Dirty : Is Try.prog 43 (c_gleberef04_Disk_Dirty) := ⟨by kernel_rfl, by kernel_rfl⟩
theorem is_glebekit_SpoilInts : Is Try.prog 44 (c_glebekit_SpoilInts) := ⟨by kernel_rfl, by kernel_rfl⟩
theorem is_sector_Disk_spend : Is Try.prog 45 (c_sector_Disk_spend) := ⟨by kernel_rfl, by kernel_rfl⟩
theorem is_sector_Disk_has : Is Try.prog 46 (c_sector_Disk_has) := ⟨by kernel_rfl, by kernel_rfl⟩
theorem is_bytes_Clone : Is Try.prog 47 (c_bytes_Clone) := ⟨by kernel_rfl, by kernel_rfl⟩
theorem is_gleberef04_Disk_Done : Is Try.prog 51 (c_gleberef04_Disk_Done) := ⟨by kernel_rfl, by kernel_rfl⟩
theorem is_gleberef04_put : Is Try.prog 52 (c_gleberef04_put) := ⟨by kernel_rfl, by kernel_rfl⟩
theorem is_glebekit_CopyBytes : Is Try.prog 53 (c_glebekit_CopyBytes) := ⟨by kernel_rfl, by kernel_rfl⟩
theorem is_gleberef04_find : Is Try.prog 54 (c_gleberef04_find) := ⟨by kernel_rfl, by kernel_rfl⟩

end Go.Proofs.Ytifkpnagloijkaa
