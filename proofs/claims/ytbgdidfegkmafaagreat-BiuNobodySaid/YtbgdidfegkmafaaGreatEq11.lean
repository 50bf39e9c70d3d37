import Derived.Test.YtbgdidfegkmafaaGreatTb
import Derived.Test.YtbgdidfegkmafaaGreatAmD
namespace Go.Proofs.YtbgdidfegkmafaaGreat
open Go Go.AM Go.Proofs
set_option linter.unusedVariables false
set_option maxRecDepth 100000
set_option maxHeartbeats 4000000
/- 285 cmp.isNaN[int] -/
noncomputable def cmp_isNaN.fs (env : Env) (J : JT) (x0 : V) (h : H) : Ans :=
 bnd (binE true .int x0 x0) fun t5_1 =>
 some (t5_1, h)
theorem cmp_isNaN.fe_eq (env : Env) (J : JT) (x0 : V) (h : H) : evF Tryz.prog env J 285 cmp_isNaN.an [x0] h = cmp_isNaN.fs env J x0 h := by kernel_rfl
theorem cmp_isNaN.eq {tb : Nat → Option Fa} (ht : tb 285 = some (.plain cmp_isNaN.an)) (x0 : V) (h : H) : Ei Tryz.prog tb 285 [x0] h = cmp_isNaN.fs (Ei Tryz.prog tb) (Ji Tryz.prog tb 285 cmp_isNaN.an) x0 h := (Ei_eq (an := cmp_isNaN.an) ht _ h).trans (cmp_isNaN.fe_eq _ _ x0 h)
noncomputable def cmp_isNaN.sf : Sf := ⟨fun env J vs h => match vs with | [x0] => cmp_isNaN.fs env J x0 h | _ => none, fun env J id vs h => none⟩
theorem cmp_isNaN.sfok {tb : Nat → Option Fa} (ht : tb 285 = some (.plain cmp_isNaN.an)) : SfOk Tryz.prog tb 285 cmp_isNaN.sf := SfOk.plain (an := cmp_isNaN.an) ht (fun env J vs h r he => by
  simp only [cmp_isNaN.sf] at he; split at he
  · rw [cmp_isNaN.fe_eq]; exact he
  · cases he) (fun env J id vs h r he => by simp only [cmp_isNaN.sf] at he; cases he)
end Go.Proofs.YtbgdidfegkmafaaGreat
