/-
  No cell of these rows narrows 'for every input' (looked for: loops, veiled, ifaces, maps, wideKeys, modest, calm, conditions, laid).
  DERIVED. THE GIVEN ROWS OF THIS SEAT. 10 by the template 'for every input the law returns true; each argument reads behind the call as it read before'; 0 by the template 'total and deterministic' (their statements: YtbgdidfegkmafaaGreatTotals.lean).
  GIVEN WITH THE SEED: the statements are not yours to turn. If you find one false, say at which input.
  Laid BY PROGRAM, IN A SANDBOX (cutbox-rows.mjs): the forced cells as the released guide's own fill.sh prints them over the translation 794f74638d319518… (all of the seat's roots in one cut). By AI agents, Wed Nov 11 2026. No macro, syntax, notation, axiom, sorry.
-/
import Derived.Test.YtbgdidfegkmafaaGreatChecked
import GoSem.Claim
import GoSem.ClaimJoined
import GoSem.ClaimMapViews
import Derived.JoinedTies
import Derived.KernelRfl
namespace Go.Proofs.YtbgdidfegkmafaaGreat
/- THE CELL 'sum', in the pinned program and in every row, IS THE sha256 OF THE DUMP (.gsa) THAT YtbgdidfegkmafaaGreatProg.lean LOADS. Nothing in Lean hashes anything: it is a label: what it is worth is what the hold of that sum in a sandbox is worth. -/
noncomputable def Tryz.pinned : Pinned := { name := "ytbgdidfegkmafaagreat", sum := "794f74638d319518c9fa22d08569213b920ff3414cfc9e6b087a1bb621440d55", checked := Tryz.checked }
namespace Rows
def none {H : Type} : Left H := { results := [], args := [] }

/-- 'busbarlaw22.BiuLost': WHATEVER THE INPUT: true; the input reads as it did. -/
def biuLostSpec : ChangeSpec := { name := "biuLost", fn := fun _ => fun
  | [d1, d2, d3] => { results := [.lit (.bool true)], args := [d1, d2, d3] }
  | _ => none }
def biuLostRow : OpenClaim := { program := "ytbgdidfegkmafaagreat", sum := "794f74638d319518c9fa22d08569213b920ff3414cfc9e6b087a1bb621440d55", func := "busbar/busbarlaw22.BiuLost", spec := "biuLost", unfollowed := true, recurses := true, plainKeys := false, apart := false }
def BiuLostSaid : Prop := biuLostRow.holds Tryz.pinned (OpenSpec.ofChange biuLostSpec)

/-- ITS FALSE NEIGHBOUR: 'it returns false'. Refute it at one input. -/
def biuLostWrong : ChangeSpec := { name := "biuLost", fn := fun _ => fun
  | [d1, d2, d3] => { results := [.lit (.bool false)], args := [d1, d2, d3] }
  | _ => none }
def BiuLostWrongFalsely : Prop := biuLostRow.holds Tryz.pinned (OpenSpec.ofChange biuLostWrong)

/-- 'busbarlaw22.BiuQuiet': WHATEVER THE INPUT: true; the input reads as it did. -/
def biuQuietSpec : ChangeSpec := { name := "biuQuiet", fn := fun _ => fun
  | [d1, d2, d3] => { results := [.lit (.bool true)], args := [d1, d2, d3] }
  | _ => none }
def biuQuietRow : OpenClaim := { program := "ytbgdidfegkmafaagreat", sum := "794f74638d319518c9fa22d08569213b920ff3414cfc9e6b087a1bb621440d55", func := "busbar/busbarlaw22.BiuQuiet", spec := "biuQuiet", unfollowed := true, recurses := true, plainKeys := false, apart := false }
def BiuQuietSaid : Prop := biuQuietRow.holds Tryz.pinned (OpenSpec.ofChange biuQuietSpec)

/-- ITS FALSE NEIGHBOUR: 'it returns false'. Refute it at one input. -/
def biuQuietWrong : ChangeSpec := { name := "biuQuiet", fn := fun _ => fun
  | [d1, d2, d3] => { results := [.lit (.bool false)], args := [d1, d2, d3] }
  | _ => none }
def BiuQuietWrongFalsely : Prop := biuQuietRow.holds Tryz.pinned (OpenSpec.ofChange biuQuietWrong)

/-- 'busbarlaw22.BiuTogether': WHATEVER THE INPUT: true; the input reads as it did. -/
def biuTogetherSpec : ChangeSpec := { name := "biuTogether", fn := fun _ => fun
  | [d1, d2, d3] => { results := [.lit (.bool true)], args := [d1, d2, d3] }
  | _ => none }
def biuTogetherRow : OpenClaim := { program := "ytbgdidfegkmafaagreat", sum := "794f74638d319518c9fa22d08569213b920ff3414cfc9e6b087a1bb621440d55", func := "busbar/busbarlaw22.BiuTogether", spec := "biuTogether", unfollowed := true, recurses := true, plainKeys := false, apart := false }
def BiuTogetherSaid : Prop := biuTogetherRow.holds Tryz.pinned (OpenSpec.ofChange biuTogetherSpec)

/-- ITS FALSE NEIGHBOUR: 'it returns false'. Refute it at one input. -/
def biuTogetherWrong : ChangeSpec := { name := "biuTogether", fn := fun _ => fun
  | [d1, d2, d3] => { results := [.lit (.bool false)], args := [d1, d2, d3] }
  | _ => none }
def BiuTogetherWrongFalsely : Prop := biuTogetherRow.holds Tryz.pinned (OpenSpec.ofChange biuTogetherWrong)

/-- 'busbarlaw22.BiuNobody': WHATEVER THE INPUT: true; the input reads as it did. -/
def biuNobodySpec : ChangeSpec := { name := "biuNobody", fn := fun _ => fun
  | [d1, d2] => { results := [.lit (.bool true)], args := [d1, d2] }
  | _ => none }
def biuNobodyRow : OpenClaim := { program := "ytbgdidfegkmafaagreat", sum := "794f74638d319518c9fa22d08569213b920ff3414cfc9e6b087a1bb621440d55", func := "busbar/busbarlaw22.BiuNobody", spec := "biuNobody", unfollowed := true, recurses := true, plainKeys := false, apart := false }
def BiuNobodySaid : Prop := biuNobodyRow.holds Tryz.pinned (OpenSpec.ofChange biuNobodySpec)

/-- ITS FALSE NEIGHBOUR: 'it returns false'. Refute it at one input. -/
def biuNobodyWrong : ChangeSpec := { name := "biuNobody", fn := fun _ => fun
  | [d1, d2] => { results := [.lit (.bool false)], args := [d1, d2] }
  | _ => none }
def BiuNobodyWrongFalsely : Prop := biuNobodyRow.holds Tryz.pinned (OpenSpec.ofChange biuNobodyWrong)

/-- 'busbarlaw22.BiuEnters': WHATEVER THE INPUT: true; the input reads as it did. -/
def biuEntersSpec : ChangeSpec := { name := "biuEnters", fn := fun _ => fun
  | [d1, d2, d3] => { results := [.lit (.bool true)], args := [d1, d2, d3] }
  | _ => none }
def biuEntersRow : OpenClaim := { program := "ytbgdidfegkmafaagreat", sum := "794f74638d319518c9fa22d08569213b920ff3414cfc9e6b087a1bb621440d55", func := "busbar/busbarlaw22.BiuEnters", spec := "biuEnters", unfollowed := true, recurses := true, plainKeys := false, apart := false }
def BiuEntersSaid : Prop := biuEntersRow.holds Tryz.pinned (OpenSpec.ofChange biuEntersSpec)

/-- ITS FALSE NEIGHBOUR: 'it returns false'. Refute it at one input. -/
def biuEntersWrong : ChangeSpec := { name := "biuEnters", fn := fun _ => fun
  | [d1, d2, d3] => { results := [.lit (.bool false)], args := [d1, d2, d3] }
  | _ => none }
def BiuEntersWrongFalsely : Prop := biuEntersRow.holds Tryz.pinned (OpenSpec.ofChange biuEntersWrong)

/-- 'busbarlaw23.PairGated': WHATEVER THE INPUT: true; the input reads as it did. -/
def pairGatedSpec : ChangeSpec := { name := "pairGated", fn := fun _ => fun
  | [d1, d2, d3] => { results := [.lit (.bool true)], args := [d1, d2, d3] }
  | _ => none }
def pairGatedRow : OpenClaim := { program := "ytbgdidfegkmafaagreat", sum := "794f74638d319518c9fa22d08569213b920ff3414cfc9e6b087a1bb621440d55", func := "busbar/busbarlaw23.PairGated", spec := "pairGated", unfollowed := true, recurses := true, plainKeys := false, apart := false }
def PairGatedSaid : Prop := pairGatedRow.holds Tryz.pinned (OpenSpec.ofChange pairGatedSpec)

/-- ITS FALSE NEIGHBOUR: 'it returns false'. Refute it at one input. -/
def pairGatedWrong : ChangeSpec := { name := "pairGated", fn := fun _ => fun
  | [d1, d2, d3] => { results := [.lit (.bool false)], args := [d1, d2, d3] }
  | _ => none }
def PairGatedWrongFalsely : Prop := pairGatedRow.holds Tryz.pinned (OpenSpec.ofChange pairGatedWrong)

/-- 'busbarlaw23.PairAlone': WHATEVER THE INPUT: true; the input reads as it did. -/
def pairAloneSpec : ChangeSpec := { name := "pairAlone", fn := fun _ => fun
  | [d1, d2, d3] => { results := [.lit (.bool true)], args := [d1, d2, d3] }
  | _ => none }
def pairAloneRow : OpenClaim := { program := "ytbgdidfegkmafaagreat", sum := "794f74638d319518c9fa22d08569213b920ff3414cfc9e6b087a1bb621440d55", func := "busbar/busbarlaw23.PairAlone", spec := "pairAlone", unfollowed := true, recurses := true, plainKeys := false, apart := false }
def PairAloneSaid : Prop := pairAloneRow.holds Tryz.pinned (OpenSpec.ofChange pairAloneSpec)

/-- ITS FALSE NEIGHBOUR: 'it returns false'. Refute it at one input. -/
def pairAloneWrong : ChangeSpec := { name := "pairAlone", fn := fun _ => fun
  | [d1, d2, d3] => { results := [.lit (.bool false)], args := [d1, d2, d3] }
  | _ => none }
def PairAloneWrongFalsely : Prop := pairAloneRow.holds Tryz.pinned (OpenSpec.ofChange pairAloneWrong)

/-- 'busbarlaw23.PairSilent': WHATEVER THE INPUT: true; the input reads as it did. -/
def pairSilentSpec : ChangeSpec := { name := "pairSilent", fn := fun _ => fun
  | [d1, d2, d3] => { results := [.lit (.bool true)], args := [d1, d2, d3] }
  | _ => none }
def pairSilentRow : OpenClaim := { program := "ytbgdidfegkmafaagreat", sum := "794f74638d319518c9fa22d08569213b920ff3414cfc9e6b087a1bb621440d55", func := "busbar/busbarlaw23.PairSilent", spec := "pairSilent", unfollowed := true, recurses := true, plainKeys := false, apart := false }
def PairSilentSaid : Prop := pairSilentRow.holds Tryz.pinned (OpenSpec.ofChange pairSilentSpec)

/-- ITS FALSE NEIGHBOUR: 'it returns false'. Refute it at one input. -/
def pairSilentWrong : ChangeSpec := { name := "pairSilent", fn := fun _ => fun
  | [d1, d2, d3] => { results := [.lit (.bool false)], args := [d1, d2, d3] }
  | _ => none }
def PairSilentWrongFalsely : Prop := pairSilentRow.holds Tryz.pinned (OpenSpec.ofChange pairSilentWrong)

/-- 'busbarlaw25.PlaneMakes': WHATEVER THE INPUT: true; the input reads as it did. -/
def planeMakesSpec : ChangeSpec := { name := "planeMakes", fn := fun _ => fun
  | [d] => { results := [.lit (.bool true)], args := [d] }
  | _ => none }
def planeMakesRow : OpenClaim := { program := "ytbgdidfegkmafaagreat", sum := "794f74638d319518c9fa22d08569213b920ff3414cfc9e6b087a1bb621440d55", func := "busbar/busbarlaw25.PlaneMakes", spec := "planeMakes", unfollowed := true, recurses := true, plainKeys := false, apart := false }
def PlaneMakesSaid : Prop := planeMakesRow.holds Tryz.pinned (OpenSpec.ofChange planeMakesSpec)

/-- ITS FALSE NEIGHBOUR: 'it returns false'. Refute it at one input. -/
def planeMakesWrong : ChangeSpec := { name := "planeMakes", fn := fun _ => fun
  | [d] => { results := [.lit (.bool false)], args := [d] }
  | _ => none }
def PlaneMakesWrongFalsely : Prop := planeMakesRow.holds Tryz.pinned (OpenSpec.ofChange planeMakesWrong)

/-- 'busbarlaw25.PlaneSync': WHATEVER THE INPUT: true; the input reads as it did. -/
def planeSyncSpec : ChangeSpec := { name := "planeSync", fn := fun _ => fun
  | [d] => { results := [.lit (.bool true)], args := [d] }
  | _ => none }
def planeSyncRow : OpenClaim := { program := "ytbgdidfegkmafaagreat", sum := "794f74638d319518c9fa22d08569213b920ff3414cfc9e6b087a1bb621440d55", func := "busbar/busbarlaw25.PlaneSync", spec := "planeSync", unfollowed := true, recurses := true, plainKeys := false, apart := false }
def PlaneSyncSaid : Prop := planeSyncRow.holds Tryz.pinned (OpenSpec.ofChange planeSyncSpec)

/-- ITS FALSE NEIGHBOUR: 'it returns false'. Refute it at one input. -/
def planeSyncWrong : ChangeSpec := { name := "planeSync", fn := fun _ => fun
  | [d] => { results := [.lit (.bool false)], args := [d] }
  | _ => none }
def PlaneSyncWrongFalsely : Prop := planeSyncRow.holds Tryz.pinned (OpenSpec.ofChange planeSyncWrong)

/- THE SECOND FORM. 'bulk': how many values and letters a reading holds, each counted each time it is reached (what is shared counts as often as it is met; a slice's spare places count too). A statement '..UptoSaid' is the law's where the arguments, and the package variables that the reading takes, are together of bulk at most 1048576: NARROWER than '..Said'. Prove '..Said' where nothing that the law and all that it calls make is longer than what came in: it says more and counts as full. Else prove '..UptoSaid'. A law counts once. -/
mutual
def uptoBulk {H : Type} : DataW H → Nat
  | .lit (.string bytes) => bytes.length + 1
  | .lit _ => 1
  | .nil => 1
  | .ptr d => uptoBulk d + 1
  | .slice elems spare => uptoBulkAll elems + uptoBulkAll spare + 1
  | .agg parts => uptoBulkAll parts + 1
  | .iface _ d => uptoBulk d + 1
  | .map entries => uptoBulkEntries entries + 1
  | .held _ => 1
def uptoBulkAll {H : Type} : List (DataW H) → Nat
  | [] => 0
  | d :: r => uptoBulk d + uptoBulkAll r
def uptoBulkEntries {H : Type} : List (Lit × DataW H) → Nat
  | [] => 0
  | x :: r => uptoBulkEntry x + uptoBulkEntries r
def uptoBulkEntry {H : Type} : Lit × DataW H → Nat
  | (.string bytes, d) => bytes.length + uptoBulk d + 1
  | (_, d) => uptoBulk d + 1
 end
def uptoSmall : (H : Type) → List (DataW H) → Bool := fun _ ds => decide (uptoBulkAll ds ≤ 1048576)
def OpenSpec.upto (s : _root_.Go.ChangeSpec) : _root_.Go.OpenSpec := { _root_.Go.OpenSpec.ofChange s with cond := some uptoSmall }

/-- 'busbarlaw22.BiuLost', WHERE WHAT IT READS IS OF BULK AT MOST 1048576: true; the input reads as it did. -/
def biuLostUptoRow : OpenClaim := { program := "ytbgdidfegkmafaagreat", sum := "794f74638d319518c9fa22d08569213b920ff3414cfc9e6b087a1bb621440d55", func := "busbar/busbarlaw22.BiuLost", spec := "biuLost", unfollowed := true, recurses := true, plainKeys := false, apart := false, narrowed := true }
def BiuLostUptoSaid : Prop := biuLostUptoRow.holds Tryz.pinned (OpenSpec.upto biuLostSpec)

/-- 'busbarlaw22.BiuQuiet', WHERE WHAT IT READS IS OF BULK AT MOST 1048576: true; the input reads as it did. -/
def biuQuietUptoRow : OpenClaim := { program := "ytbgdidfegkmafaagreat", sum := "794f74638d319518c9fa22d08569213b920ff3414cfc9e6b087a1bb621440d55", func := "busbar/busbarlaw22.BiuQuiet", spec := "biuQuiet", unfollowed := true, recurses := true, plainKeys := false, apart := false, narrowed := true }
def BiuQuietUptoSaid : Prop := biuQuietUptoRow.holds Tryz.pinned (OpenSpec.upto biuQuietSpec)

/-- 'busbarlaw22.BiuTogether', WHERE WHAT IT READS IS OF BULK AT MOST 1048576: true; the input reads as it did. -/
def biuTogetherUptoRow : OpenClaim := { program := "ytbgdidfegkmafaagreat", sum := "794f74638d319518c9fa22d08569213b920ff3414cfc9e6b087a1bb621440d55", func := "busbar/busbarlaw22.BiuTogether", spec := "biuTogether", unfollowed := true, recurses := true, plainKeys := false, apart := false, narrowed := true }
def BiuTogetherUptoSaid : Prop := biuTogetherUptoRow.holds Tryz.pinned (OpenSpec.upto biuTogetherSpec)

/-- 'busbarlaw22.BiuNobody', WHERE WHAT IT READS IS OF BULK AT MOST 1048576: true; the input reads as it did. -/
def biuNobodyUptoRow : OpenClaim := { program := "ytbgdidfegkmafaagreat", sum := "794f74638d319518c9fa22d08569213b920ff3414cfc9e6b087a1bb621440d55", func := "busbar/busbarlaw22.BiuNobody", spec := "biuNobody", unfollowed := true, recurses := true, plainKeys := false, apart := false, narrowed := true }
def BiuNobodyUptoSaid : Prop := biuNobodyUptoRow.holds Tryz.pinned (OpenSpec.upto biuNobodySpec)

/-- 'busbarlaw22.BiuEnters', WHERE WHAT IT READS IS OF BULK AT MOST 1048576: true; the input reads as it did. -/
def biuEntersUptoRow : OpenClaim := { program := "ytbgdidfegkmafaagreat", sum := "794f74638d319518c9fa22d08569213b920ff3414cfc9e6b087a1bb621440d55", func := "busbar/busbarlaw22.BiuEnters", spec := "biuEnters", unfollowed := true, recurses := true, plainKeys := false, apart := false, narrowed := true }
def BiuEntersUptoSaid : Prop := biuEntersUptoRow.holds Tryz.pinned (OpenSpec.upto biuEntersSpec)

/-- 'busbarlaw23.PairGated', WHERE WHAT IT READS IS OF BULK AT MOST 1048576: true; the input reads as it did. -/
def pairGatedUptoRow : OpenClaim := { program := "ytbgdidfegkmafaagreat", sum := "794f74638d319518c9fa22d08569213b920ff3414cfc9e6b087a1bb621440d55", func := "busbar/busbarlaw23.PairGated", spec := "pairGated", unfollowed := true, recurses := true, plainKeys := false, apart := false, narrowed := true }
def PairGatedUptoSaid : Prop := pairGatedUptoRow.holds Tryz.pinned (OpenSpec.upto pairGatedSpec)

/-- 'busbarlaw23.PairAlone', WHERE WHAT IT READS IS OF BULK AT MOST 1048576: true; the input reads as it did. -/
def pairAloneUptoRow : OpenClaim := { program := "ytbgdidfegkmafaagreat", sum := "794f74638d319518c9fa22d08569213b920ff3414cfc9e6b087a1bb621440d55", func := "busbar/busbarlaw23.PairAlone", spec := "pairAlone", unfollowed := true, recurses := true, plainKeys := false, apart := false, narrowed := true }
def PairAloneUptoSaid : Prop := pairAloneUptoRow.holds Tryz.pinned (OpenSpec.upto pairAloneSpec)

/-- 'busbarlaw23.PairSilent', WHERE WHAT IT READS IS OF BULK AT MOST 1048576: true; the input reads as it did. -/
def pairSilentUptoRow : OpenClaim := { program := "ytbgdidfegkmafaagreat", sum := "794f74638d319518c9fa22d08569213b920ff3414cfc9e6b087a1bb621440d55", func := "busbar/busbarlaw23.PairSilent", spec := "pairSilent", unfollowed := true, recurses := true, plainKeys := false, apart := false, narrowed := true }
def PairSilentUptoSaid : Prop := pairSilentUptoRow.holds Tryz.pinned (OpenSpec.upto pairSilentSpec)

/-- 'busbarlaw25.PlaneMakes', WHERE WHAT IT READS IS OF BULK AT MOST 1048576: true; the input reads as it did. -/
def planeMakesUptoRow : OpenClaim := { program := "ytbgdidfegkmafaagreat", sum := "794f74638d319518c9fa22d08569213b920ff3414cfc9e6b087a1bb621440d55", func := "busbar/busbarlaw25.PlaneMakes", spec := "planeMakes", unfollowed := true, recurses := true, plainKeys := false, apart := false, narrowed := true }
def PlaneMakesUptoSaid : Prop := planeMakesUptoRow.holds Tryz.pinned (OpenSpec.upto planeMakesSpec)

/-- 'busbarlaw25.PlaneSync', WHERE WHAT IT READS IS OF BULK AT MOST 1048576: true; the input reads as it did. -/
def planeSyncUptoRow : OpenClaim := { program := "ytbgdidfegkmafaagreat", sum := "794f74638d319518c9fa22d08569213b920ff3414cfc9e6b087a1bb621440d55", func := "busbar/busbarlaw25.PlaneSync", spec := "planeSync", unfollowed := true, recurses := true, plainKeys := false, apart := false, narrowed := true }
def PlaneSyncUptoSaid : Prop := planeSyncUptoRow.holds Tryz.pinned (OpenSpec.upto planeSyncSpec)

end Rows
end Go.Proofs.YtbgdidfegkmafaaGreat
