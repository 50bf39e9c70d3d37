/- BiuNobody: a unit that nobody made is off, and does nothing; for every input. -/
import Derived.Test.YtbgdidfegkmafaaGreatUc
import Derived.Test.YtbgdidfegkmafaaGreatAmE
import Derived.Test.YtbgdidfegkmafaaGreatRows
namespace Go.Proofs.YtbgdidfegkmafaaGreat.BiuNobody
open Go Go.AM Go.Proofs Go.RowKit
set_option maxRecDepth 100000
set_option maxHeartbeats 0
theorem own : ownKnob Tryz.prog.godebug = none := by kernel_rfl
theorem laidOut : laidOutB Tryz.prog = true := by kernel_rfl
theorem law (k1 k2 : IntKind) (l n : Int) : ∃ h1, Y 6 [.int k1 l, .int k2 n] h00 = some (.bool true, h1) := by
  obtain ⟨h1, e⟩ := yes_some (b := true) (r := SN US 1000 6 [.int k1 l, .int k2 n] h00) (by kernel_rfl)
  exact ⟨h1, SY_le _ _ _ _ _ e⟩
theorem ints (t : TypeId) (kd : IntKind) (h : desc Tryz.prog t = some (.int kd)) (v : V) (o : Ro Tryz.prog h00 1 t v) : ∃ n, v = .int kd n := by
  unfold Ro at o; rw [h] at o; obtain ⟨n, e, _⟩ := o; exact ⟨n, e⟩
theorem two {p : TypeId → V → Prop} {t1 t2 : TypeId} {vs : List V} (h : All2 p [t1, t2] vs) : ∃ v1 v2, vs = [v1, v2] ∧ p t1 v1 ∧ p t2 v2 := by
  cases vs with
  | nil => exact h.elim
  | cons v1 vs =>
    cases vs with
    | nil => exact h.2.elim
    | cons v2 vs =>
      cases vs with
      | nil => exact ⟨v1, v2, rfl, h.1, h.2.1⟩
      | cons v3 vs => exact h.2.2.elim
theorem lifted (os : Os) (started : os.Started) (H : Type) (enc : TypeId × Value → H) :
    ReturnsInHanded {} Tryz.checked os 6 .any (Rows.biuNobodySpec.pre6 enc Tryz.prog Tryz.f6 Rows.biuNobodyRow.domain false) (Rows.biuNobodySpec.post enc Tryz.prog Tryz.f6 false true false false) := by
  refine law_lifted (ts := [47, 3]) (tb := 4) own started (by kernel_rfl) Tryz.func6 (by rw [Tryz.params6]) (by kernel_rfl) (by kernel_rfl) (by kernel_rfl) laidOut (by decide +kernel) rfl ?_
    (ChangeSpec.witness6 (enc := enc) (C := Tryz.checked) false ⟨#[], #[.int .u8 0, .int .i64 0], []⟩ 8 (by kernel_rfl) (by kernel_rfl) (by kernel_rfl) (by kernel_rfl)) ?_
  · intro H ds hl
    cases ds with
    | nil => cases hl
    | cons d1 ds =>
      cases ds with
      | nil => cases hl
      | cons d2 ds =>
        cases ds with
        | nil => rfl
        | cons _ _ => cases hl
  · intro W base args ds ps hT hv hs
    refine calls_of_scalars Y_snd hT (by decide +kernel) hv hs ?_
    intro vs o
    obtain ⟨v1, v2, rfl, o1, o2⟩ := two o
    obtain ⟨l, rfl⟩ := ints 47 .u8 (by kernel_rfl) v1 o1
    obtain ⟨n, rfl⟩ := ints 3 .i64 (by kernel_rfl) v2 o2
    exact law _ _ l n
theorem over : Rows.biuNobodyRow.holds Tryz.pinned (OpenSpec.ofChange Rows.biuNobodySpec) :=
  OpenClaim.holds_of_wide 6 Tryz.f6 rfl rfl rfl rfl rfl rfl rfl ⟨rfl, rfl, rfl, rfl, rfl⟩ rfl rfl rfl rfl rfl (by kernel_rfl) Tryz.func6 (by kernel_rfl)
    (of_decide_eq_true (by kernel_rfl)) (by unfold Func.isWrapper; first | (rw [if_pos (by decide +kernel)]; kernel_rfl) | (rw [if_neg (by decide +kernel)]; exact ⟨rfl, rfl⟩))
    (fun os started H enc _ => lifted os started H enc)
end Go.Proofs.YtbgdidfegkmafaaGreat.BiuNobody
namespace Go.Proofs.YtbgdidfegkmafaaGreat
theorem biuNobody_holds : Rows.BiuNobodySaid := BiuNobody.over
#print axioms biuNobody_holds
end Go.Proofs.YtbgdidfegkmafaaGreat
