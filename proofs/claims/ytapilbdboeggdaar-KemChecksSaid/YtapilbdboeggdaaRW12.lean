/-
A part of the proof: printed walks of the functions that the law reaches, and plain laws over them.
-/
import Derived.Test.YtapilbdboeggdaaRW11
import Derived.Test.YtapilbdboeggdaaRW05
import Derived.Test.YtapilbdboeggdaaRW02
import Derived.KernelRfl
set_option maxRecDepth 1000000
set_option linter.unusedVariables false
set_option linter.unusedSimpArgs false
set_option maxHeartbeats 4000000
namespace Go.Proofs.YtapilbdboeggdaaR.Gx
open Go
theorem s00 : (i_ring_SampleNtt (rho0 ++ [0, 0])).map (·.2) = some 0 := by kernel_rfl
theorem s01 : (i_ring_SampleNtt (rho0 ++ [1, 0])).map (·.2) = some 0 := by kernel_rfl
theorem s02 : (i_ring_SampleNtt (rho0 ++ [2, 0])).map (·.2) = some 0 := by kernel_rfl
end Go.Proofs.YtapilbdboeggdaaR.Gx
