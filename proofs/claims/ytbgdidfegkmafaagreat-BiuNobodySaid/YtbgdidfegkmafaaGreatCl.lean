import Derived.Test.YtbgdidfegkmafaaGreatSn
namespace Go.Proofs.YtbgdidfegkmafaaGreat
open Go Go.AM Go.Proofs
set_option linter.unusedVariables false
set_option maxRecDepth 100000
set_option maxHeartbeats 4000000
set_option maxRecDepth 10000000
set_option maxHeartbeats 0
theorem busbarlaw22_one.closed : ∃ h1, Z 15 [] h00 = some (.bool true, h1) := by
  obtain ⟨h1, e⟩ := yes_some (b := true) (r := SN TS 1000000 15 [] h00) (by kernel_rfl)
  exact ⟨h1, SZ_le _ _ _ _ _ e⟩
theorem busbarlaw22_one.cspec : FaOk Tryz.prog 15 (.spec (closedF true)) := let ⟨_, e⟩ := busbarlaw22_one.closed; FaOk.spec (closed_ok Z_snd e)
end Go.Proofs.YtbgdidfegkmafaaGreat
