/-
  The awakening as the table computes it.
-/
import Derived.Test.YtbnaknakgbbadaaGreatDoorMd
import Derived.KernelRfl
section
set_option maxRecDepth 100000
namespace Ax
open Go
theorem awake_run : gaveV (callE tab3 100000 60 8 [] ⟨0, T.mk .none hd⟩) (.bool true) = true := by kernel_rfl
end Ax
end
