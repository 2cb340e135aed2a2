/-
  What the functions of the program are.
-/
import Derived.Test.YtifkpnagloijkaaChecked
import Derived.Test.YtifkpnagloijkaaGlbLibC
import Derived.Test.YtifkpnagloijkaaGlbCglebekit
import Derived.Test.YtifkpnagloijkaaGlbCglebelaw04
import Derived.Test.YtifkpnagloijkaaGlbCsector
import Derived.KernelRfl
namespace Go.Proofs.Ytifkpnagloijkaa
open Go Glb Go.Proofs
set_option maxRecDepth 100000

theorem is_glebelaw04_SectorCrashed : Is Try.prog 3 (c_glebelaw04_SectorCrashed 8 9 11 10 12 13 14 15 16 17 18 19 20) := ⟨by kernel_rfl, by kernel_rfl⟩
theorem is_glebelaw04_works : Is Try.prog 8 (c_glebelaw04_works 10 29 25 16 30 19 15) := ⟨by kernel_rfl, by kernel_rfl⟩
theorem is_glebelaw04_long : Is Try.prog 9 (c_glebelaw04_long) := ⟨by kernel_rfl, by kernel_rfl⟩
theorem is_sector_New : Is Try.prog 10 (c_sector_New) := ⟨by kernel_rfl, by kernel_rfl⟩
theorem is_glebekit_Pick : Is Try.prog 11 (c_glebekit_Pick) := ⟨by kernel_rfl, by kernel_rfl⟩
theorem is_sector_Disk_Len : Is Try.prog 12 (c_sector_Disk_Len) := ⟨by kernel_rfl, by kernel_rfl⟩
theorem is_glebelaw04_run : Is Try.prog 13 (c_glebelaw04_run 29 25 27 16) := ⟨by kernel_rfl, by kernel_rfl⟩
theorem is_glebelaw04_shown : Is Try.prog 14 (c_glebelaw04_shown 12 30 17) := ⟨by kernel_rfl, by kernel_rfl⟩
theorem is_sector_Disk_Dirty : Is Try.prog 15 (c_sector_Disk_Dirty 32 31) := ⟨by kernel_rfl, by kernel_rfl⟩
theorem is_sector_Disk_Crash : Is Try.prog 16 (c_sector_Disk_Crash 15) := ⟨by kernel_rfl, by kernel_rfl⟩
theorem is_glebekit_Row : Is Try.prog 17 (c_glebekit_Row) := ⟨by kernel_rfl, by kernel_rfl⟩
theorem is_glebelaw04_in : Is Try.prog 18 (c_glebelaw04_in) := ⟨by kernel_rfl, by kernel_rfl⟩
theorem is_glebekit_SameBytes : Is Try.prog 19 (c_glebekit_SameBytes) := ⟨by kernel_rfl, by kernel_rfl⟩
theorem is_glebekit_SameRows : Is Try.prog 20 (c_glebekit_SameRows 19) := ⟨by kernel_rfl, by kernel_rfl⟩
theorem is_sector_Disk_Flush : Is Try.prog 25 (c_sector_Disk_Flush 45 15) := ⟨by kernel_rfl, by kernel_rfl⟩
theorem is_sector_Disk_Arm : Is Try.prog 27 (c_sector_Disk_Arm) := ⟨by kernel_rfl, by kernel_rfl⟩
theorem is_sector_Disk_Write : Is Try.prog 29 (c_sector_Disk_Write 46 45 47) := ⟨by kernel_rfl, by kernel_rfl⟩
theorem is_sector_Disk_Read : Is Try.prog 30 (c_sector_Disk_Read 46 47) := ⟨by kernel_rfl, by kernel_rfl⟩
theorem is_sector_Disk_spend : Is Try.prog 45 (c_sector_Disk_spend) := ⟨by kernel_rfl, by kernel_rfl⟩
theorem is_sector_Disk_has : Is Try.prog 46 (c_sector_Disk_has) := ⟨by kernel_rfl, by kernel_rfl⟩
theorem is_bytes_Clone : Is Try.prog 47 (c_bytes_Clone) := ⟨by kernel_rfl, by kernel_rfl⟩

end Go.Proofs.Ytifkpnagloijkaa
