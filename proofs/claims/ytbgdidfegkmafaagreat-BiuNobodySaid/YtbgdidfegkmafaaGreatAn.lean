import Derived.Test.YtbgdidfegkmafaaGreatProg
import Derived.Test.YtbgdidfegkmafaaGreatAmD
namespace Go.Proofs.YtbgdidfegkmafaaGreat
open Go Go.AM Go.Proofs
set_option linter.unusedVariables false
set_option maxRecDepth 100000
set_option maxHeartbeats 4000000
/- 3 busbar/busbarlaw22.BiuLost -/
def busbarlaw22_BiuLost.an : An := (.n2 .leaf (.n2 (.n2 .leaf (.n2 (.n2 .leaf .leaf) .leaf)) (.n2 .leaf (.n2 (.n2 .leaf (.n2 (.n2 .leaf .leaf) .leaf)) (.n2 (.n2 .leaf (.n1 (.loop 0 [1, 7, 9] (.n2 (.n2 .leaf (.n2 .leaf .leaf)) (.n2 (.n1 .leaf) .leaf))))) (.join 3 [1, 7] (.n2 (.n2 .leaf (.n2 (.n2 .leaf .leaf) .leaf)) (.n2 (.n2 .leaf (.n1 (.loop 1 [1, 7, 10] (.n2 (.n2 .leaf (.n2 .leaf .leaf)) (.n2 (.n1 (.n2 .leaf (.n2 (.n2 .leaf (.n2 .leaf .leaf)) (.join 2 [1, 7, 10, 11] (.n2 .leaf (.n2 .leaf (.n2 (.n2 .leaf .leaf) .leaf))))))) .leaf))))) (.n2 .leaf .leaf)))))))))
/- 4 busbar/busbarlaw22.BiuQuiet -/
def busbarlaw22_BiuQuiet.an : An := (.n2 .leaf (.n2 (.n2 .leaf (.n2 (.n2 .leaf .leaf) .leaf)) (.n2 .leaf (.n2 .leaf (.n2 (.n2 .leaf (.n2 (.n2 .leaf .leaf) .leaf)) (.n2 (.n2 .leaf (.n2 (.n2 .leaf .leaf) .leaf)) (.n2 (.n2 .leaf (.n2 .leaf .leaf)) (.join 5 [1, 5, 7, 8] (.n2 (.n2 .leaf (.n2 .leaf .leaf)) (.join 4 [1, 5, 7, 8] (.n2 (.n2 .leaf (.n1 (.loop 0 [1, 5, 7, 8, 10] (.n2 (.n2 .leaf (.n2 .leaf .leaf)) (.n2 (.n1 (.n2 .leaf (.n2 .leaf (.n2 (.n2 .leaf (.n2 (.n2 .leaf (.n2 (.n2 .leaf .leaf) .leaf)) (.n2 .leaf (.n2 (.n2 .leaf .leaf) .leaf)))) (.join 2 [1, 5, 7, 8, 10, 11, 12, 13] (.n2 (.n2 .leaf (.n2 (.n2 .leaf .leaf) .leaf)) (.n2 (.n2 .leaf (.n2 .leaf .leaf)) (.join 1 [1, 5, 7, 8, 10, 13] (.n2 (.reg [.op 0, .op 1, .op 2, .op 3, .op 4, .op 5, .op 6, .op 7, .op 8, .op 9, .op 10, .op 11, .op 12, .op 13, .op 14, .op 15, .op 16, .op 17]) (.n2 .leaf (.n2 (.n2 .leaf .leaf) .leaf))))))))))) .leaf))))) (.join 3 [8] (.n2 .leaf (.n2 .leaf (.n2 .leaf .leaf)))))))))))))))
/- 5 busbar/busbarlaw22.BiuTogether -/
def busbarlaw22_BiuTogether.an : An := (.n2 .leaf (.n2 (.n2 .leaf (.n2 (.n2 .leaf .leaf) .leaf)) (.n2 .leaf (.n2 .leaf (.n2 .leaf (.n2 .leaf (.n2 (.n2 .leaf (.n2 (.n2 .leaf .leaf) .leaf)) (.n2 .leaf (.n2 (.n2 .leaf (.n1 (.loop 0 [1, 3, 8, 10, 12, 13, 14] (.n2 (.n2 .leaf (.n2 .leaf .leaf)) (.n2 (.n1 (.n2 .leaf (.n2 .leaf (.n2 .leaf (.n2 .leaf (.n2 .leaf (.n2 (.n2 .leaf (.n2 .leaf .leaf)) (.join 4 [1, 3, 8, 10, 12, 13, 14, 15, 16, 17, 19] (.n2 (.n2 .leaf (.n2 .leaf .leaf)) (.join 3 [1, 3, 8, 10, 12, 13, 14, 15, 17, 19] (.n2 .leaf (.n2 (.n2 .leaf (.n1 (.loop 1 [1, 3, 8, 10, 12, 13, 14, 15, 17, 19, 20, 21] (.n2 (.n2 .leaf (.n2 .leaf .leaf)) (.n2 (.n1 (.n2 .leaf (.n2 .leaf (.n2 (.n2 .leaf .leaf) .leaf)))) .leaf))))) (.join 2 [1, 3, 8, 10, 12, 13, 14, 15, 17, 19, 20] (.n2 .leaf (.n2 .leaf (.n2 (.n2 .leaf (.n2 (.n2 .leaf .leaf) .leaf)) (.n2 .leaf (.n2 .leaf (.n2 (.reg [.op 0, .op 3, .op 5, .op 8, .op 10, .op 11, .op 1, .chk 10, .op 2, .op 4, .op 6, .chk 10, .op 7, .op 9, .op 12, .op 13, .op 14]) (.n2 .leaf (.n2 (.n2 .leaf .leaf) .leaf))))))))))))))))))))) .leaf))))) (.n2 .leaf .leaf))))))))))
/- 6 busbar/busbarlaw22.BiuNobody -/
def busbarlaw22_BiuNobody.an : An := (.n2 .leaf (.n2 (.n2 .leaf (.n1 (.loop 0 [0, 1, 5] (.n2 (.n2 .leaf (.n2 .leaf .leaf)) (.n2 (.n1 (.n2 .leaf (.n2 (.n2 .leaf (.n2 .leaf .leaf)) (.join 1 [0, 1, 5, 6] (.n2 .leaf (.n2 .leaf (.n2 .leaf (.n2 .leaf (.n2 .leaf (.n2 .leaf (.n2 (.n2 .leaf .leaf) .leaf))))))))))) .leaf))))) (.join 2 [] (.n2 .leaf (.n2 .leaf (.n2 .leaf .leaf))))))
/- 7 busbar/busbarlaw22.BiuEnters -/
def busbarlaw22_BiuEnters.an : An := (.n2 .leaf (.n2 (.n2 .leaf (.n2 (.n2 .leaf .leaf) .leaf)) (.n2 .leaf (.n2 .leaf (.n2 .leaf (.n2 .leaf (.n2 (.n2 .leaf (.n2 (.n2 .leaf .leaf) .leaf)) (.n2 .leaf (.n2 (.n2 .leaf (.n1 (.loop 0 [1, 3, 8, 9, 11, 13] (.n2 (.n2 .leaf (.n2 .leaf .leaf)) (.n2 (.n1 .leaf) .leaf))))) (.join 4 [3, 8, 9, 11] (.n2 .leaf (.n2 .leaf (.n2 (.n2 .leaf (.n2 (.n2 .leaf .leaf) .leaf)) (.n2 .leaf (.n2 (.n2 .leaf (.n1 (.loop 1 [8, 9, 11, 14, 15] (.n2 (.n2 .leaf (.n2 .leaf .leaf)) (.n2 (.n1 (.n2 .leaf (.n2 .leaf (.n2 .leaf (.n2 (.n2 .leaf (.n2 .leaf .leaf)) (.join 2 [8, 9, 11, 14, 15, 18] (.n2 .leaf (.n2 .leaf (.n2 .leaf (.n2 .leaf (.n2 .leaf (.n2 (.n2 .leaf (.n2 (.n2 .leaf .leaf) .leaf)) (.n2 (.n2 .leaf (.n2 (.n2 (.n2 .leaf (.n2 (.n2 .leaf .leaf) .leaf)) .leaf) .leaf)) (.n2 .leaf (.n2 .leaf (.n2 (.n2 .leaf .leaf) .leaf)))))))))))))))) .leaf))))) (.join 3 [11] (.n2 .leaf .leaf)))))))))))))))))
/- 8 busbar/busbarlaw23.PairGated -/
def busbarlaw23_PairGated.an : An := (.n2 .leaf (.n2 (.n2 .leaf (.n2 (.n2 .leaf .leaf) .leaf)) (.n2 .leaf (.n2 .leaf (.n2 .leaf (.n2 (.n2 .leaf (.n2 (.n2 .leaf .leaf) .leaf)) (.n2 (.n2 .leaf (.n1 (.loop 0 [3, 4, 8, 9] (.n2 (.n2 .leaf (.n2 .leaf .leaf)) (.n2 (.n1 (.n2 .leaf (.n2 .leaf (.n2 .leaf (.n2 .leaf (.n2 .leaf (.n2 .leaf (.n2 .leaf (.n2 (.n2 .leaf (.n2 .leaf .leaf)) (.join 1 [3, 4, 8, 9, 10, 11, 12, 14, 15] (.n2 .leaf (.n2 (.n2 .leaf (.n2 (.n2 .leaf .leaf) .leaf)) (.n2 .leaf (.n2 .leaf (.n2 (.n2 .leaf .leaf) .leaf))))))))))))))) .leaf))))) (.n2 .leaf .leaf))))))))
/- 9 busbar/busbarlaw23.PairAlone -/
def busbarlaw23_PairAlone.an : An := (.n2 .leaf (.n2 (.n2 .leaf (.n2 (.n2 .leaf .leaf) .leaf)) (.n2 (.reg [.op 0, .op 1, .op 2, .op 3, .op 4, .op 5, .op 6, .op 7, .op 8, .op 9, .op 10]) (.n2 (.reg [.op 0, .op 1, .op 3, .op 4, .op 5, .op 6, .op 7, .op 8, .op 9, .op 10, .op 11, .op 2, .chk 4, .chk 8, .op 12, .op 13]) (.n2 (.n2 .leaf (.n2 (.n2 .leaf .leaf) .leaf)) (.n2 (.n2 .leaf (.n2 (.n2 .leaf .leaf) .leaf)) (.n2 .leaf (.n2 .leaf (.n2 (.n2 .leaf (.n1 (.loop 0 [1, 3, 7, 8, 9, 10, 11, 12] (.n2 (.n2 .leaf (.n2 .leaf .leaf)) (.n2 (.n1 (.n2 .leaf (.n2 .leaf (.n2 .leaf (.n2 (.n2 .leaf (.n1 (.loop 1 [1, 3, 7, 8, 9, 10, 11, 12, 13, 14, 15] (.n2 (.n2 .leaf (.n2 .leaf .leaf)) (.n2 (.n1 (.n2 .leaf (.n2 .leaf (.n2 (.n2 .leaf .leaf) .leaf)))) .leaf))))) (.join 4 [1, 3, 7, 8, 9, 10, 11, 12, 13, 14] (.n2 .leaf (.n2 .leaf (.n2 (.n2 (.reg [.op 0, .op 1, .op 2, .op 3, .op 4, .op 5, .op 6, .op 7, .op 8, .op 9, .op 10, .op 11, .op 12, .op 13, .op 14, .op 15, .op 16, .op 17, .op 18, .op 19, .op 20, .op 21, .op 22, .op 23, .op 24, .op 25, .op 26, .op 27, .op 28, .op 29, .op 30, .op 31, .op 32, .op 33, .op 34, .op 36, .op 37, .op 38, .op 35, .chk 37, .op 39, .op 40, .op 41, .op 42, .op 43, .op 44, .op 45, .op 46, .op 47, .op 48, .op 49, .op 50, .op 51, .op 52, .op 53, .op 54, .op 55, .op 56, .op 57, .op 58, .op 59, .op 60, .op 61, .op 62, .op 63]) (.n2 (.n2 .leaf .leaf) .leaf)) (.n2 .leaf (.n2 (.n2 .leaf (.n2 (.n2 .leaf .leaf) .leaf)) (.n2 .leaf (.n2 .leaf (.n1 (.loop 2 [1, 3, 7, 8, 9, 10, 11, 12, 20, 21] (.n2 (.n2 .leaf (.n2 .leaf .leaf)) (.n2 (.n1 (.n2 (.n2 .leaf (.n2 .leaf .leaf)) (.join 3 [1, 3, 7, 8, 9, 10, 11, 12, 20, 21] (.n2 .leaf (.n2 (.n2 .leaf .leaf) .leaf))))) .leaf))))))))))))))))) .leaf))))) (.n2 .leaf .leaf))))))))))
/- 10 busbar/busbarlaw23.PairSilent -/
def busbarlaw23_PairSilent.an : An := (.n2 .leaf (.n2 (.n2 .leaf (.n2 (.n2 .leaf .leaf) .leaf)) (.n2 .leaf (.n2 .leaf (.n2 (.n2 .leaf (.n2 (.n2 .leaf .leaf) .leaf)) (.n2 (.n2 .leaf (.n2 (.n2 .leaf .leaf) .leaf)) (.n2 .leaf (.n2 .leaf (.n2 .leaf (.n2 .leaf (.n2 (.n2 .leaf (.n1 (.loop 0 [1, 9, 10, 11] (.n2 (.n2 .leaf (.n2 .leaf .leaf)) (.n2 (.n1 (.n2 .leaf (.n2 (.n2 .leaf (.n2 (.n2 .leaf .leaf) .leaf)) .leaf))) .leaf))))) (.join 1 [9, 10] (.n2 .leaf .leaf)))))))))))))
/- 11 busbar/busbarlaw25.PlaneMakes -/
def busbarlaw25_PlaneMakes.an : An := (.n2 .leaf (.n2 (.n2 .leaf (.n2 (.n2 .leaf .leaf) .leaf)) (.n2 .leaf (.n2 .leaf (.n2 (.n2 .leaf (.n2 .leaf .leaf)) (.join 3 [1, 3, 4, 5] (.n2 (.n2 .leaf (.n2 .leaf .leaf)) (.join 2 [1, 3, 4, 5] (.n2 (.n2 .leaf (.n2 (.n2 .leaf .leaf) .leaf)) (.n2 (.n2 .leaf (.n2 (.n2 .leaf .leaf) .leaf)) (.n2 .leaf (.n2 (.n2 .leaf (.n1 (.loop 0 [1, 3, 6, 7] (.n2 (.n2 .leaf (.n2 .leaf .leaf)) (.n2 (.n1 (.n2 .leaf (.n2 .leaf (.n2 .leaf (.n2 (.n2 .leaf (.n2 (.n2 .leaf .leaf) .leaf)) (.n2 .leaf (.n2 .leaf .leaf))))))) .leaf))))) (.join 1 [1, 3, 6] (.n2 (.reg [.op 0, .op 3, .op 1, .op 2, .op 4, .op 5, .op 6, .op 8, .op 9, .op 10, .op 7, .chk 10, .op 11, .op 12, .op 13, .op 14, .op 15, .op 16, .op 17, .op 18, .op 19, .op 20, .op 21, .op 22, .op 23, .op 24, .op 25, .op 26, .op 27, .op 28, .op 29, .op 30, .op 31, .op 32, .op 33, .op 34, .op 35, .op 36, .op 39, .op 40, .op 37, .op 38, .op 41, .op 42, .op 43, .op 44, .op 45, .op 46]) .leaf))))))))))))))
/- 12 busbar/busbarlaw25.PlaneSync -/
def busbarlaw25_PlaneSync.an : An := (.n2 .leaf (.n2 .leaf (.n2 (.n2 .leaf (.n2 (.n2 .leaf .leaf) .leaf)) (.n2 .leaf (.n2 (.n2 .leaf (.n2 (.n2 .leaf .leaf) .leaf)) (.n2 .leaf (.n2 (.n2 .leaf (.n1 (.loop 0 [1, 4, 6, 7] (.n2 (.n2 .leaf (.n2 .leaf .leaf)) (.n2 (.n1 (.n2 .leaf (.n2 .leaf (.n2 (.n2 .leaf (.n2 (.n2 .leaf .leaf) .leaf)) (.n2 .leaf (.n1 (.loop 1 [1, 4, 6, 7, 8, 9] (.n2 (.n2 .leaf (.n2 .leaf .leaf)) (.n2 (.n1 (.n2 (.reg [.op 0, .op 1, .op 2, .op 3, .op 4, .op 5, .op 6, .op 7, .op 8, .op 9, .op 10, .op 11, .op 12, .op 13, .op 14, .op 18, .op 19, .op 20, .op 21, .op 15, .chk 21, .op 16, .chk 21, .op 17, .chk 21, .op 22, .op 23, .op 24, .op 25, .op 26, .op 27, .op 28, .op 29, .op 30, .op 31]) (.n2 (.n2 .leaf .leaf) .leaf))) .leaf))))))))) .leaf))))) (.n2 .leaf .leaf))))))))
/- 13 busbar/busbarlaw07.Few -/
def busbarlaw07_Few.an : An := (.n2 .leaf (.n2 (.n2 .leaf (.n1 (.loop 0 [1, 3] (.n2 (.n2 .leaf (.n2 .leaf .leaf)) (.n2 (.n1 (.n2 (.n2 .leaf (.n2 (.n2 .leaf .leaf) .leaf)) (.n2 .leaf (.n1 (.loop 1 [1, 3, 4] (.n2 (.n2 .leaf (.n2 .leaf .leaf)) (.n2 (.n1 (.n2 .leaf (.n2 (.n2 .leaf .leaf) .leaf))) .leaf))))))) .leaf))))) (.n2 .leaf .leaf)))
/- 14 busbar/valid.Check -/
def valid_Check.an : An := (.n2 .leaf (.n2 (.n2 .leaf (.n2 (.n2 .leaf .leaf) .leaf)) (.n2 (.n2 .leaf (.n1 (.loop 0 [1, 2, 15] (.n2 .leaf (.n2 (.n2 .leaf .leaf) (.n2 (.n1 (.n2 .leaf (.n2 .leaf (.n2 .leaf (.n2 (.n2 .leaf .leaf) .leaf))))) .leaf)))))) (.n2 .leaf .leaf))))
/- 15 busbar/busbarlaw22.one -/
def busbarlaw22_one.an : An := (.n2 .leaf (.n2 .leaf (.n2 (.n2 .leaf (.n2 (.n2 .leaf .leaf) .leaf)) (.n2 (.n2 .leaf (.n1 (.loop 0 [1, 3] (.n2 (.n2 .leaf (.n2 .leaf .leaf)) (.n2 (.n1 .leaf) .leaf))))) (.join 1 [1] (.n2 .leaf (.n2 .leaf .leaf)))))))
/- 16 busbar/biu.New -/
def biu_New.an : An := (.n2 .leaf (.n2 .leaf (.n2 (.n2 .leaf (.n2 (.n2 .leaf .leaf) .leaf)) (.n2 (.n2 .leaf (.n2 (.n2 .leaf .leaf) .leaf)) (.n2 (.reg [.op 0, .op 1, .op 2, .op 3, .chk 1, .op 4, .op 5, .op 6, .op 7]) .leaf)))))
/- 17 busbar/busbarlaw22.Program -/
def busbarlaw22_Program.an : An := (.n2 .leaf (.n2 .leaf (.n2 .leaf (.n2 .leaf (.n2 .leaf .leaf)))))
/- 18 (*busbar/biu.Biu).Join -/
def biu_Biu_Join.an : An := (.n2 .leaf (.n2 (.n1 (.n2 .leaf (.n2 (.n2 .leaf .leaf) (.n2 .leaf (.n2 (.n2 .leaf .leaf) .leaf))))) (.n2 .leaf (.n2 .leaf (.n2 .leaf .leaf)))))
/- 19 (*busbar/biu.Biu).Step -/
def biu_Biu_Step.as : List An := [.leaf, .leaf, (.n2 .leaf (.n2 (.n2 .leaf .leaf) .leaf)), .leaf, .leaf]
def biu_Biu_Step.ar : An := (.n2 (.n2 .leaf (.n2 (.n2 .leaf (.n2 .leaf .leaf)) .leaf)) (.n2 (.n2 .leaf (.n2 (.n2 .leaf .leaf) .leaf)) (.n2 (.n2 .leaf (.n1 (.n2 (.n2 .leaf (.n2 .leaf .leaf)) (.n2 .leaf (.n2 .leaf (.n2 (.n2 (.n2 .leaf (.n2 .leaf .leaf)) .leaf) (.n2 .leaf (.n2 .leaf .leaf)))))))) (.n2 .leaf .leaf))))
/- 20 (*busbar/biu.Biu).State -/
def biu_Biu_State.an : An := (.n2 .leaf (.n2 (.n2 .leaf (.n2 (.n2 .leaf .leaf) .leaf)) (.n2 .leaf .leaf)))
/- 21 (*busbar/biu.Biu).Power -/
def biu_Biu_Power.an : An := (.n1 (.n2 .leaf (.n2 .leaf (.n2 .leaf (.n2 (.n2 .leaf .leaf) (.n2 .leaf (.n2 (.n2 .leaf .leaf) .leaf)))))))
/- 22 (*busbar/biu.Biu).Intent -/
def biu_Biu_Intent.an : An := (.n2 .leaf (.n2 (.n2 .leaf (.n2 (.n2 .leaf .leaf) .leaf)) (.n2 .leaf (.n2 (.reg [.op 0, .op 2, .op 3, .op 4, .op 5, .op 6, .op 7, .op 8, .op 9, .op 10, .op 11, .op 13, .op 15, .op 16, .op 17, .op 18, .op 19, .op 20, .op 1, .chk 6, .chk 10, .chk 19, .op 12, .chk 19, .op 14, .chk 19, .op 21, .op 22, .op 23]) .leaf))))
/- 23 (*busbar/biu.Biu).Place -/
def biu_Biu_Place.an : An := (.n2 .leaf (.n2 (.n2 .leaf (.n2 (.n2 .leaf .leaf) .leaf)) (.n2 (.reg [.op 0, .op 1, .op 2, .op 3, .op 4, .op 5, .op 6, .op 7, .op 9, .op 8, .chk 3, .op 10, .chk 3, .op 11, .op 12, .op 13, .op 14]) .leaf)))
/- 24 busbar/busbarref22.Follows -/
def busbarref22_Follows.an : An := (.n2 .leaf (.n2 .leaf .leaf))
/- 25 (*busbar/biu.Biu).Version -/
def biu_Biu_Version.an : An := (.n2 .leaf (.n2 (.n2 .leaf (.n2 (.n2 .leaf .leaf) .leaf)) (.n2 .leaf .leaf)))
/- 26 (*busbar/biu.Biu).Slot -/
def biu_Biu_Slot.an : An := (.n2 .leaf (.n2 (.n2 .leaf (.n2 (.n2 .leaf .leaf) .leaf)) (.n2 (.reg [.op 0, .op 1, .op 2, .op 3, .op 4, .op 5, .op 6, .op 7, .op 8, .op 9, .op 10, .op 11, .op 12, .op 13, .op 14, .op 15, .op 16]) .leaf)))
/- 27 (*busbar/biu.Biu).Entered -/
def biu_Biu_Entered.an : An := (.n2 .leaf (.n2 (.n2 .leaf (.n2 (.n2 .leaf .leaf) .leaf)) (.n2 .leaf (.n2 .leaf (.n2 .leaf .leaf)))))
/- 28 (*busbar/biu.Biu).Now -/
def biu_Biu_Now.an : An := (.n2 .leaf (.n2 (.n2 .leaf (.n2 (.n2 .leaf .leaf) .leaf)) (.n2 (.reg [.op 0, .op 1, .op 2, .op 3, .op 4, .op 5, .op 6, .op 7, .op 8, .op 9, .op 10, .op 11, .op 12, .op 13, .op 14, .op 15, .op 16, .op 17, .op 18, .op 19, .op 20, .op 22, .op 23, .op 24, .op 25, .op 26, .op 21, .chk 3, .chk 13, .chk 26, .op 27, .op 28, .op 29]) (.n2 (.n2 (.reg [.op 0, .op 1, .op 2, .op 3, .op 4, .op 5, .op 6, .op 7, .op 8, .op 9, .op 10, .op 11, .op 12, .op 13]) (.n2 (.reg [.op 0, .op 1, .op 2, .op 3, .op 4, .op 5, .op 6, .op 7, .op 8, .op 9, .op 10, .op 11, .op 12, .op 13, .op 14, .op 15, .op 16]) .leaf)) (.n2 .leaf .leaf)))))
/- 29 (busbar/wires.Lines).Side -/
def wires_Lines_Side.an : An := (.n2 .leaf (.n2 .leaf .leaf))
/- 30 (*busbar/biu.Biu).Play -/
def biu_Biu_Play.an : An := (.n2 .leaf (.n2 .leaf (.n2 .leaf .leaf)))
/- 31 busbar/plan.Frame -/
def plan_Frame.an : An := (.n2 .leaf (.n2 (.n2 .leaf (.n2 (.n2 .leaf .leaf) .leaf)) (.n2 .leaf (.n2 (.n2 .leaf (.n1 (.loop 0 [5, 17, 18, 19] (.n2 .leaf (.n2 (.n2 .leaf .leaf) (.n2 (.n1 (.n2 .leaf .leaf)) .leaf)))))) (.n2 .leaf .leaf)))))
/- 32 busbar/busbarlaw22.lets -/
def busbarlaw22_lets.an : An := (.n2 .leaf (.n2 (.n2 .leaf .leaf) .leaf))
/- 33 busbar/wires.Or -/
def wires_Or.an : An := (.n2 .leaf (.n2 .leaf (.n2 (.n2 .leaf (.n1 (.loop 0 [3, 6, 7, 8] (.n2 .leaf (.n2 (.n2 .leaf .leaf) (.n2 (.n1 (.n2 .leaf .leaf)) .leaf)))))) (.n2 .leaf .leaf))))
/- 34 busbar/clock.Apart -/
def clock_Apart.an : An := (.n2 .leaf (.n2 (.n2 .leaf (.n2 (.n2 .leaf .leaf) .leaf)) (.n2 .leaf (.n2 (.n1 (.n2 .leaf (.n2 (.n2 .leaf .leaf) (.n2 .leaf (.n2 (.n2 .leaf .leaf) .leaf))))) (.n2 .leaf .leaf)))))
/- 35 (*busbar/biu.Biu).Clear -/
def biu_Biu_Clear.an : An := (.n2 .leaf (.n2 .leaf .leaf))
/- 36 (*busbar/biu.Biu).Passed -/
def biu_Biu_Passed.an : An := (.n2 .leaf (.n2 (.reg [.op 0, .op 1, .op 2, .op 3, .op 4, .op 5, .op 6, .op 7, .op 8, .op 9, .op 10, .op 11, .op 12, .op 13, .op 14, .op 15, .op 16, .op 17, .op 18, .op 21, .op 19, .chk 17, .op 20, .op 22, .op 23, .op 24, .op 25]) .leaf))
/- 37 (*busbar/biu.Biu).Role -/
def biu_Biu_Role.an : An := (.n2 .leaf (.n2 (.n2 .leaf (.n2 (.n2 .leaf .leaf) .leaf)) (.n2 .leaf .leaf)))
/- 38 busbar/busbarlaw22.Plain -/
def busbarlaw22_Plain.an : An := (.n2 .leaf (.n2 .leaf (.n2 .leaf .leaf)))
/- 39 busbar/busbarlaw23.one -/
def busbarlaw23_one.an : An := (.n2 .leaf (.n2 .leaf (.n2 .leaf (.n2 (.n2 .leaf (.n2 (.n2 .leaf .leaf) .leaf)) (.n2 .leaf (.n2 .leaf (.n2 .leaf (.n2 .leaf (.n2 .leaf .leaf)))))))))
/- 40 busbar/pair.New -/
def pair_New.an : An := (.n2 .leaf (.n2 .leaf (.n2 .leaf (.n2 (.n2 .leaf (.n2 (.n2 .leaf .leaf) .leaf)) (.n2 .leaf (.n2 (.n2 .leaf (.n1 (.loop 0 [3, 5, 6, 24] (.n2 .leaf (.n2 (.n2 .leaf .leaf) (.n2 (.n1 (.n2 .leaf (.reg [.op 0, .op 1, .op 2, .op 3, .op 4, .op 5, .op 6, .op 7, .op 8, .op 9, .op 14, .op 15, .op 10, .op 11, .op 12, .op 13, .op 16, .op 17]))) .leaf)))))) (.n2 .leaf .leaf)))))))
/- 41 busbar/busbarlaw23.Table -/
def busbarlaw23_Table.an : An := (.n2 .leaf (.n2 .leaf (.n2 .leaf (.n2 .leaf .leaf))))
/- 42 (*busbar/pair.Pair).Join -/
def pair_Pair_Join.an : An := (.n2 .leaf (.n2 .leaf (.n2 .leaf (.n2 .leaf .leaf))))
/- 43 (*busbar/pair.Pair).Ready -/
def pair_Pair_Ready.an : An := (.n2 .leaf .leaf)
/- 44 (*busbar/pair.Pair).Drive -/
def pair_Pair_Drive.an : An := (.n2 .leaf (.n2 .leaf (.n2 .leaf (.n2 .leaf (.n2 (.n2 .leaf (.n1 (.loop 0 [3, 7, 8, 13] (.n2 .leaf (.n2 (.n2 .leaf .leaf) (.n2 (.n1 (.n2 .leaf (.n2 .leaf (.n2 .leaf .leaf)))) .leaf)))))) (.n2 .leaf .leaf))))))
/- 45 (*busbar/pair.Pair).Unit -/
def pair_Pair_Unit.an : An := (.n2 .leaf (.n2 (.n2 .leaf (.n2 (.n2 .leaf .leaf) .leaf)) (.n2 (.n2 .leaf (.n2 (.n2 .leaf .leaf) .leaf)) (.n2 .leaf .leaf))))
/- 46 (busbar/plan.Slot).Pulse -/
def plan_Slot_Pulse.an : An := (.n2 .leaf (.n2 (.n2 .leaf (.n1 (.n2 .leaf (.n2 (.n2 (.reg [.op 0, .op 1, .op 2, .op 3, .op 4, .op 5, .op 6, .op 7]) .leaf) (.n2 (.n2 .leaf (.n2 .leaf .leaf)) (.join 0 [1, 5, 14] (.n2 (.n2 .leaf .leaf) (.n2 .leaf (.n2 (.n2 (.reg [.op 0, .op 1, .op 2, .op 3, .op 4]) .leaf) .leaf))))))))) (.n2 .leaf .leaf)))
/- 47 (*busbar/pair.Pair).Step -/
def pair_Pair_Step.an : An := (.n2 .leaf (.n2 (.n2 .leaf (.n2 .leaf .leaf)) (.n2 .leaf (.n2 .leaf (.n2 .leaf (.n2 .leaf (.n1 (.n2 .leaf (.n2 .leaf (.n2 .leaf (.n2 .leaf .leaf)))))))))))
/- 48 (*busbar/pair.Pair).Module -/
def pair_Pair_Module.an : An := (.n2 .leaf (.n2 (.n2 .leaf (.n2 (.n2 .leaf .leaf) .leaf)) (.n2 .leaf .leaf)))
/- 49 (*busbar/pair.Pair).Memory -/
def pair_Pair_Memory.an : An := (.n2 .leaf (.n2 (.n2 .leaf (.n2 (.n2 .leaf .leaf) .leaf)) (.n2 .leaf .leaf)))
/- 50 (*busbar/store.Store).Write -/
def store_Store_Write.an : An := (.n2 .leaf (.n2 (.n2 .leaf (.n2 .leaf (.n2 (.n2 .leaf .leaf) .leaf))) (.n2 .leaf (.n2 (.n2 .leaf (.n1 (.loop 0 [0, 1, 25, 26] (.n2 .leaf (.n2 (.n2 .leaf .leaf) (.n2 (.n1 (.n2 .leaf (.reg [.op 0, .op 1, .op 2, .op 3, .op 4, .op 5, .op 6, .op 7, .op 8, .op 9, .op 10, .op 12, .op 13, .op 11, .op 14, .op 15]))) .leaf)))))) (.n2 .leaf .leaf)))))
/- 51 (busbar/wires.Lines).Count -/
def wires_Lines_Count.an : An := (.n2 .leaf (.n2 .leaf .leaf))
/- 52 (busbar/plan.Slot).Begin -/
def plan_Slot_Begin.an : An := (.n2 .leaf (.n2 (.n2 .leaf (.n2 (.n2 .leaf .leaf) .leaf)) (.n2 .leaf .leaf)))
/- 53 (*busbar/pair.Pair).InSync -/
def pair_Pair_InSync.an : An := (.n2 .leaf (.n2 .leaf .leaf))
/- 54 (*busbar/pair.Pair).Dead -/
def pair_Pair_Dead.an : An := (.n2 .leaf (.n2 .leaf .leaf))
/- 55 (*busbar/pair.Pair).Events -/
def pair_Pair_Events.an : An := (.n2 .leaf (.n2 (.n2 .leaf (.n2 (.n2 .leaf .leaf) .leaf)) (.n2 .leaf (.n2 .leaf (.n2 .leaf .leaf)))))
/- 56 busbar/compile.Load -/
def compile_Load.an : An := (.n2 .leaf (.n2 .leaf (.n2 (.n2 .leaf (.n2 (.n2 .leaf .leaf) .leaf)) (.n2 .leaf (.n2 (.n2 .leaf (.n1 (.loop 0 [2, 4, 6, 22] (.n2 .leaf (.n2 (.n2 .leaf .leaf) (.n2 (.n1 (.n2 .leaf (.n2 .leaf (.n2 (.n2 .leaf (.n2 (.n2 .leaf .leaf) .leaf)) .leaf)))) .leaf)))))) (.n2 .leaf .leaf))))))
/- 57 (*busbar/pair.Pair).Power -/
def pair_Pair_Power.an : An := (.n2 .leaf (.n2 (.n2 .leaf (.n2 .leaf .leaf)) (.n2 .leaf (.n2 .leaf (.n2 (.n2 .leaf .leaf) .leaf)))))
/- 58 (*busbar/pair.Pair).Allow -/
def pair_Pair_Allow.an : An := (.n2 .leaf (.n2 .leaf .leaf))
/- 59 (*busbar/pair.Pair).Want -/
def pair_Pair_Want.an : An := (.n2 .leaf (.n2 .leaf .leaf))
/- 60 (*busbar/pair.Pair).Wants -/
def pair_Pair_Wants.an : An := (.n2 .leaf (.n2 .leaf .leaf))
/- 61 busbar/busbarlaw25.Few -/
def busbarlaw25_Few.an : An := (.n2 .leaf (.n2 (.n2 .leaf (.n2 (.n2 .leaf .leaf) .leaf)) (.n2 .leaf .leaf)))
/- 62 busbar/plane.New -/
def plane_New.an : An := (.n2 .leaf (.n2 (.n2 .leaf (.n2 .leaf (.n2 (.n2 .leaf .leaf) .leaf))) (.n2 .leaf (.n2 (.n2 .leaf (.n2 (.n2 .leaf .leaf) .leaf)) (.n2 (.reg [.op 0, .op 1, .op 3, .op 4, .op 2, .chk 4, .op 5, .op 6, .op 7, .op 8, .op 9]) (.n2 (.reg [.op 0, .op 1, .op 2, .op 3, .op 4, .chk 0, .op 5, .op 6, .op 7]) (.n2 (.n2 .leaf (.n1 (.loop 0 [1, 7, 40, 41, 42] (.n2 .leaf (.n2 (.n2 .leaf .leaf) (.n2 (.n1 (.n2 .leaf (.n2 (.n2 .leaf (.n2 .leaf .leaf)) (.join 2 [1, 7, 8, 9, 40, 41, 42] (.n2 .leaf (.n2 (.n2 .leaf (.n2 .leaf .leaf)) (.join 1 [1, 7, 10, 40, 41, 42] .leaf))))))) .leaf)))))) (.n2 .leaf .leaf))))))))
/- 63 (busbar/budget.Course).Check -/
def budget_Course_Check.an : An := (.n2 .leaf (.n2 (.n2 .leaf (.n2 .leaf (.n2 (.n2 .leaf .leaf) .leaf))) (.n2 .leaf (.n2 (.n2 .leaf (.n1 (.loop 0 [1, 6, 18, 19, 20] (.n2 .leaf (.n2 (.n2 .leaf .leaf) (.n2 (.n1 (.n2 .leaf (.n2 (.n1 (.n2 .leaf (.n2 (.n2 .leaf .leaf) (.n2 (.reg [.op 0, .op 1, .op 2, .op 3, .chk 0, .op 4, .op 5, .op 6]) (.n2 (.n2 .leaf .leaf) .leaf))))) (.reg [.op 0, .op 1, .op 3, .op 4, .op 7, .op 8, .op 2, .chk 4, .chk 8, .op 5, .chk 8, .op 6, .op 9, .op 10, .op 11])))) .leaf)))))) (.n2 .leaf .leaf)))))
/- 64 busbar/busbarlaw25.one -/
def busbarlaw25_one.an : An := (.n2 .leaf (.n2 .leaf (.n2 (.n2 .leaf (.n2 (.n2 .leaf .leaf) .leaf)) (.n2 .leaf (.n2 .leaf (.n2 .leaf .leaf))))))
/- 65 busbar/busbarref25.Bit -/
def busbarref25_Bit.an : An := (.n2 .leaf (.n2 .leaf .leaf))
/- 66 (*busbar/plane.Plane).Pair -/
def plane_Plane_Pair.an : An := (.n2 .leaf (.n2 (.n2 .leaf (.n2 (.n2 .leaf .leaf) .leaf)) (.n2 .leaf .leaf)))
/- 67 (*busbar/plane.Plane).Healthy -/
def plane_Plane_Healthy.an : An := (.n2 .leaf (.n2 .leaf .leaf))
/- 68 (*busbar/plane.Plane).Good -/
def plane_Plane_Good.an : An := (.n2 .leaf (.n2 .leaf (.n2 .leaf (.n2 .leaf .leaf))))
/- 69 (*busbar/plane.Plane).Modules -/
def plane_Plane_Modules.an : An := (.n2 .leaf (.n2 (.n2 .leaf (.n2 (.n2 .leaf .leaf) .leaf)) (.n2 .leaf .leaf)))
/- 70 (*busbar/plane.Plane).Tick -/
def plane_Plane_Tick.an : An := (.n2 .leaf (.n2 (.n2 .leaf (.n2 (.n2 .leaf .leaf) .leaf)) (.n2 .leaf .leaf)))
/- 71 (*busbar/plane.Plane).Lead -/
def plane_Plane_Lead.an : An := (.n2 .leaf (.n2 (.n2 .leaf (.n2 .leaf (.n2 (.n2 .leaf .leaf) .leaf))) (.n2 .leaf .leaf)))
/- 72 busbar/busbarlaw25.Clean -/
def busbarlaw25_Clean.an : An := (.n2 .leaf (.n2 (.n2 .leaf (.n2 (.n2 .leaf .leaf) .leaf)) (.n2 (.n2 .leaf (.n2 (.n2 .leaf .leaf) .leaf)) (.n2 .leaf (.n2 .leaf (.n2 .leaf (.n2 .leaf .leaf)))))))
/- 73 busbar/busbarlaw25.lasts -/
def busbarlaw25_lasts.an : An := (.n2 .leaf (.n2 .leaf .leaf))
/- 74 (*busbar/plane.Plane).Step -/
def plane_Plane_Step.an : An := (.n2 .leaf (.n2 (.n2 .leaf (.n2 .leaf .leaf)) (.n2 .leaf (.n2 .leaf (.n2 .leaf (.n2 (.reg [.op 0, .op 1, .op 2, .op 3, .op 4, .op 5, .op 6, .op 7, .op 8, .op 9, .op 10, .op 11, .op 12]) (.n2 .leaf .leaf)))))))
/- 75 (*busbar/plane.Plane).Apart -/
def plane_Plane_Apart.an : An := (.n2 .leaf (.n2 .leaf (.n2 (.n2 .leaf (.n2 (.n2 .leaf .leaf) .leaf)) (.n2 .leaf (.n2 .leaf (.n2 (.n2 .leaf (.n1 (.loop 0 [4, 5, 18, 19, 20] (.n2 .leaf (.n2 (.n2 .leaf .leaf) (.n2 (.n1 (.n2 .leaf (.n2 .leaf (.n1 (.loop 1 [4, 5, 7, 18, 19, 20, 27, 28, 29] (.n2 .leaf (.n2 (.n2 .leaf .leaf) (.n2 (.n1 (.n2 .leaf .leaf)) .leaf)))))))) .leaf)))))) (.n2 .leaf .leaf)))))))
/- 76 busbar/valid.frame -/
def valid_frame.an : An := (.n2 .leaf (.n1 (.n2 .leaf (.n2 (.n2 .leaf (.n2 (.n2 .leaf .leaf) .leaf)) (.n2 .leaf (.n2 (.n2 .leaf (.n1 (.loop 0 [1, 2, 6, 17, 18, 19] (.n2 .leaf (.n2 (.n2 .leaf .leaf) (.n2 (.n1 (.n2 .leaf (.n2 .leaf (.n1 (.n2 .leaf (.n2 (.n2 .leaf .leaf) (.n2 .leaf (.n2 .leaf .leaf)))))))) .leaf)))))) (.join 1 [1, 6] (.n2 (.n2 .leaf (.n2 (.n2 .leaf .leaf) .leaf)) (.n2 .leaf .leaf)))))))))
/- 77 busbar/delay.New -/
def delay_New.an : An := (.n2 .leaf (.n2 (.n2 .leaf (.n2 (.n2 .leaf .leaf) .leaf)) (.n2 .leaf .leaf)))
/- 78 busbar/runs.New -/
def runs_New.an : An := (.n2 .leaf (.n2 .leaf .leaf))
/- 79 busbar/compile.For -/
def compile_For.an : An := (.n2 .leaf (.n2 (.n2 .leaf (.n2 .leaf (.n2 (.n2 .leaf .leaf) .leaf))) (.n2 (.n2 .leaf (.n2 (.n2 .leaf .leaf) .leaf)) (.n2 (.reg [.op 0, .op 1, .op 2, .op 3, .op 5, .op 6, .op 7, .op 8, .op 4, .chk 7, .op 9, .op 10, .op 11]) (.n2 .leaf (.n2 (.n2 .leaf (.n2 .leaf .leaf)) (.join 0 [1, 4, 7, 8, 9] (.n2 .leaf (.n2 .leaf .leaf)))))))))
/- 80 (busbar/image.Image).Put -/
def image_Image_Put.an : An := (.n2 .leaf (.n2 (.n2 .leaf (.n2 (.n2 .leaf .leaf) .leaf)) (.n2 .leaf (.n2 (.reg [.op 0, .op 1, .op 2, .op 3, .op 5, .op 6, .op 7, .op 9, .op 10, .op 11, .op 4, .chk 7, .chk 10, .op 8, .chk 10, .op 12, .op 13]) (.n2 .leaf (.n2 .leaf .leaf))))))
/- 81 (*busbar/biu.Biu).none -/
def biu_Biu_none.an : An := (.n2 .leaf (.n2 .leaf .leaf))
/- 82 (*busbar/biu.Biu).anew -/
def biu_Biu_anew.an : An := (.n2 .leaf (.n2 .leaf .leaf))
/- 83 (*busbar/biu.Biu).frame -/
def biu_Biu_frame.an : An := (.n2 .leaf (.n2 .leaf (.n2 (.n2 .leaf (.n2 (.n2 .leaf .leaf) .leaf)) (.n2 .leaf (.n2 (.n2 .leaf (.n2 (.reg [.op 0, .op 1, .op 2, .op 3, .op 4, .op 5, .op 6, .op 7, .op 8, .op 9, .op 10, .chk 3, .op 11, .op 12]) .leaf)) (.n2 .leaf (.n2 .leaf .leaf)))))))
/- 84 (*busbar/delay.Delay).See -/
def delay_Delay_See.an : An := (.n2 .leaf (.n2 (.n2 .leaf (.n2 (.n2 .leaf .leaf) .leaf)) (.n2 (.reg [.op 0, .op 1, .op 2, .op 3, .op 4, .op 5, .op 6, .op 7, .op 8, .op 9, .op 10]) (.n2 (.reg [.op 0, .op 1, .op 2, .op 3, .op 4, .op 5, .op 6, .op 7, .op 8, .op 9]) (.n2 .leaf (.n2 (.n2 .leaf (.n2 (.n2 .leaf .leaf) .leaf)) (.n2 .leaf .leaf)))))))
/- 85 (*busbar/runs.Runs).See -/
def runs_Runs_See.an : An := (.n2 (.n2 .leaf (.n2 .leaf .leaf)) (.n2 .leaf (.n2 (.n2 .leaf (.n1 (.loop 0 [0, 1, 12] (.n2 .leaf (.n2 (.n2 .leaf .leaf) (.n2 (.n1 (.n2 .leaf (.n2 .leaf (.n2 (.reg [.op 0, .op 1, .op 2, .op 3, .op 4, .op 5, .op 6, .op 7, .op 8, .op 9, .op 10, .op 11, .op 12, .op 13]) .leaf)))) .leaf)))))) (.join 1 [0] (.reg [.op 0, .op 1, .op 2, .op 3, .op 4, .op 5, .op 6, .chk 4, .op 7, .op 8, .op 9, .op 10])))))
/- 86 (*busbar/biu.Biu).Step$1 -/
def biu_Biu_Step_1.an : An := (.n2 .leaf (.n2 .leaf .leaf))
/- 87 (*busbar/biu.Biu).follows -/
def biu_Biu_follows.an : An := (.n2 .leaf (.n2 .leaf .leaf))
/- 88 (*busbar/biu.Biu).tick -/
def biu_Biu_tick.an : An := (.n2 .leaf (.n2 .leaf (.n2 .leaf (.n2 (.reg [.op 0, .op 1, .op 2, .op 3, .op 4, .op 5, .op 6, .op 7, .op 8, .op 9, .op 10, .op 11, .op 12, .op 13, .op 14, .op 15, .op 16, .op 17]) (.n2 .leaf (.n2 (.n1 (.n2 .leaf (.n2 (.n2 .leaf (.n2 .leaf (.n2 .leaf .leaf))) (.n2 .leaf (.n2 (.n2 .leaf (.n2 .leaf (.n2 .leaf .leaf))) .leaf))))) (.n2 .leaf .leaf)))))))
/- 89 (*busbar/biu.Biu).listen -/
def biu_Biu_listen.an : An := (.n2 .leaf (.n2 (.n2 .leaf (.n2 (.n2 (.n2 .leaf (.n2 .leaf .leaf)) (.join 0 [0, 2] (.n2 .leaf .leaf))) .leaf)) (.n2 .leaf (.n2 (.n2 .leaf (.n2 .leaf .leaf)) (.n2 .leaf (.n2 (.n2 .leaf (.n2 .leaf .leaf)) (.join 2 [0, 3] (.n2 .leaf (.n2 .leaf (.n2 (.n2 .leaf (.n2 .leaf .leaf)) (.join 1 [0] .leaf)))))))))))
/- 90 (*busbar/biu.Biu).resync -/
def biu_Biu_resync.an : An := (.n2 .leaf (.n2 .leaf (.n2 .leaf (.n2 (.n2 .leaf (.n2 .leaf .leaf)) (.join 0 [0, 2, 5, 6] (.n1 (.n2 .leaf (.n2 .leaf (.n2 .leaf (.n2 (.n2 (.reg [.op 0, .op 1, .op 2, .op 3, .op 4, .op 7, .op 5, .chk 3, .op 6, .op 8, .op 9]) (.n2 .leaf .leaf)) (.n2 .leaf (.n2 (.n2 .leaf .leaf) .leaf))))))))))))
/- 91 (*busbar/biu.Biu).data -/
def biu_Biu_data.an : An := (.n2 .leaf (.n2 .leaf (.n2 .leaf (.n2 (.n2 .leaf (.n1 (.loop 0 [0, 1, 2, 6, 8, 9] (.n2 (.n2 .leaf (.n2 .leaf .leaf)) (.n2 (.n1 (.n2 (.n2 .leaf (.n2 .leaf .leaf)) (.n2 (.n2 .leaf (.n1 (.loop 1 [0, 1, 2, 6, 8, 9, 45, 46, 47] (.n2 .leaf (.n2 (.n2 .leaf .leaf) (.n2 (.n1 (.n2 .leaf (.n2 .leaf (.n2 .leaf (.n2 .leaf .leaf))))) .leaf)))))) (.join 2 [0, 1, 2, 6, 8, 9] (.reg [.op 0, .op 1, .op 2, .op 3, .op 4, .op 5, .op 6, .op 7, .op 8, .op 9, .op 10, .op 11, .op 12, .op 13, .op 14, .op 15, .op 16, .op 17, .op 18]))))) .leaf))))) (.join 3 [0] (.n2 .leaf (.n2 .leaf .leaf)))))))
/- 92 (*busbar/biu.Biu).pulse -/
def biu_Biu_pulse.an : An := (.n2 .leaf (.n2 .leaf (.n2 .leaf (.n2 .leaf .leaf))))
/- 93 busbar/gate.Drives -/
def gate_Drives.an : An := (.n2 .leaf (.n2 .leaf (.n2 (.n2 .leaf (.n2 .leaf .leaf)) (.join 0 [2, 3, 4, 5, 9] (.n2 (.n2 .leaf (.n2 .leaf .leaf)) (.n2 .leaf .leaf))))))
/- 94 busbar/gate.Opens -/
def gate_Opens.an : An := (.n2 .leaf (.n2 .leaf (.n2 (.n2 .leaf (.n2 .leaf (.n2 (.n2 .leaf .leaf) .leaf))) (.n2 .leaf .leaf))))
/- 95 (*busbar/clock.Clock).Pos -/
def clock_Clock_Pos.an : An := (.n2 .leaf (.n2 (.n2 .leaf (.n2 (.n2 .leaf .leaf) .leaf)) (.n2 .leaf .leaf)))
/- 96 (*busbar/active.Watch).Cand -/
def active_Watch_Cand.an : An := (.n2 .leaf (.n2 .leaf .leaf))
/- 97 busbar/major.Message -/
def major_Message.an : An := (.n2 .leaf (.n2 .leaf (.n2 (.n2 .leaf (.n1 (.loop 0 [0, 4, 12, 13] (.n2 .leaf (.n2 (.n2 .leaf .leaf) (.n2 (.n1 (.n2 .leaf (.n2 .leaf (.n2 (.n2 .leaf (.n2 (.n2 .leaf .leaf) .leaf)) .leaf)))) .leaf)))))) (.join 1 [4] (.n2 (.n2 .leaf (.n2 (.n2 .leaf .leaf) .leaf)) (.n2 .leaf .leaf))))))
/- 98 busbar/wires.Pulse -/
def wires_Pulse.an : An := (.n2 .leaf (.n2 (.n2 .leaf (.n2 (.n2 .leaf .leaf) .leaf)) (.n2 .leaf .leaf)))
/- 99 busbar/plan.is -/
def plan_is.an : An := (.n2 .leaf (.n2 .leaf .leaf))
/- 100 busbar/plan.start -/
def plan_start.an : An := (.n2 .leaf (.n2 .leaf .leaf))
/- 101 busbar/plan.Ticks -/
def plan_Ticks.an : An := (.n2 .leaf (.n2 .leaf .leaf))
/- 102 (*busbar/active.Watch).Clear -/
def active_Watch_Clear.an : An := (.n2 .leaf (.n2 .leaf .leaf))
/- 103 (*busbar/clock.Clock).Passed -/
def clock_Clock_Passed.an : An := (.n2 .leaf (.n2 (.n2 (.reg [.op 0, .op 1, .op 2, .op 3, .op 4, .op 5, .op 6, .op 7, .op 8, .op 9, .op 10, .op 11, .op 12, .op 13, .op 14, .op 15, .op 16, .op 17, .op 18, .op 19, .op 20, .op 21, .op 22, .op 23, .op 24, .op 25, .op 26, .op 27, .op 28, .op 29, .op 30, .op 31]) (.n2 (.n2 .leaf .leaf) .leaf)) (.n2 (.reg [.op 0, .op 1, .op 2, .op 3, .op 4, .op 5, .op 6, .op 7, .op 8, .op 9, .op 10, .op 11, .op 12, .op 13, .op 14, .op 15, .op 16, .op 17, .op 18, .op 19, .op 20, .op 21, .op 22, .op 23, .op 24, .op 25, .op 26, .op 27, .op 28, .op 29, .op 30, .op 31, .op 32, .op 33, .op 34, .op 35, .op 36, .op 37, .op 38, .op 39, .op 40, .op 41, .op 42, .op 43, .op 44]) .leaf)))
/- 104 busbar/busbarref23.Stale -/
def busbarref23_Stale.an : An := (.n2 .leaf (.n2 .leaf .leaf))
/- 105 busbar/store.New -/
def store_New.an : An := (.n2 .leaf (.n2 .leaf .leaf))
/- 106 (*busbar/pair.Pair).each -/
def pair_Pair_each.an : An := (.n2 (.n2 .leaf (.n2 .leaf .leaf)) (.n2 .leaf (.n1 (.loop 0 [1, 11, 12] (.n2 .leaf (.n2 (.n2 .leaf .leaf) (.n2 (.n1 (.n2 .leaf .leaf)) .leaf)))))))
/- 107 (*busbar/pair.Pair).Join$1 -/
def pair_Pair_Join_1.an : An := (.n2 .leaf (.n2 .leaf (.n2 .leaf .leaf)))
/- 108 (*busbar/pair.Pair).Ready$1 -/
def pair_Pair_Ready_1.an : An := (.n2 (.n2 .leaf (.n2 .leaf .leaf)) (.join 0 [0, 1, 2, 3] (.n2 .leaf (.n2 .leaf .leaf))))
/- 109 (*busbar/pair.Pair).begin -/
def pair_Pair_begin.an : An := (.n2 .leaf (.n2 .leaf (.n2 .leaf (.n2 (.n2 .leaf (.n2 .leaf .leaf)) (.n2 (.n2 .leaf (.n2 (.reg [.op 0, .op 1, .op 2, .op 4, .op 5, .op 6, .op 7, .op 13, .op 14, .op 15, .op 16, .op 3, .chk 7, .chk 16, .op 8, .op 9, .op 10, .op 11, .op 12, .op 17, .op 18, .op 19]) .leaf)) (.join 0 [1, 2, 10, 11] (.n2 .leaf .leaf)))))))
/- 110 (*busbar/pair.Pair).later -/
def pair_Pair_later.an : An := (.n2 .leaf (.n2 (.reg [.op 0, .op 2, .op 3, .op 4, .op 5, .op 6, .op 7, .op 1, .op 8, .op 9, .op 10, .op 11, .op 12, .op 13]) (.n2 (.n2 .leaf (.n2 .leaf .leaf)) (.n2 (.n2 .leaf (.n2 (.n2 (.n2 .leaf (.n2 (.n2 .leaf (.reg [.op 0, .op 1, .op 2, .op 3, .op 4, .op 5, .op 6, .op 7, .op 8, .op 9, .op 10, .op 11, .op 12, .op 13, .op 14, .op 15, .op 16])) .leaf)) (.join 1 [0, 1, 2, 3, 8, 10, 11, 12] (.n2 (.n2 .leaf (.n2 (.n2 (.reg [.op 0, .op 1, .op 2, .op 3, .op 4, .op 5, .op 6, .op 7, .chk 1, .chk 5, .op 8, .op 9, .chk 5, .op 10, .op 11]) .leaf) .leaf)) (.join 0 [0, 1, 2, 3, 8, 10, 11, 12] (.n2 .leaf (.n2 (.n2 .leaf (.reg [.op 0, .op 1, .op 2, .op 3, .op 5, .op 6, .op 7, .op 8, .op 9, .op 10, .op 11, .op 12, .op 13, .op 14, .op 4, .chk 8, .chk 10, .chk 14, .op 15, .op 16])) .leaf)))))) .leaf)) (.join 2 [0, 1, 2, 10, 11, 12] (.n2 .leaf (.n2 .leaf (.n2 (.n2 .leaf .leaf) .leaf))))))))
/- 111 (*busbar/pair.Pair).Drive$1 -/
def pair_Pair_Drive_1.an : An := (.n2 .leaf (.reg [.op 0, .op 1, .op 2, .op 3, .op 4, .op 5, .op 6, .op 7, .op 8, .op 9, .op 10, .op 11, .op 12, .op 13, .op 18, .op 19, .op 14, .chk 0, .op 15, .op 16, .op 17, .op 20, .op 21, .op 22, .op 23]))
/- 112 (busbar/fault.Fault).Drives -/
def fault_Fault_Drives.an : An := (.n2 .leaf (.n2 .leaf (.n2 (.n2 .leaf (.n2 (.n2 .leaf .leaf) .leaf)) (.n2 .leaf (.n2 (.n2 .leaf (.n2 .leaf .leaf)) (.join 0 [14, 16] (.n2 .leaf (.n2 .leaf .leaf))))))))
/- 113 (*busbar/pair.Pair).none -/
def pair_Pair_none.an : An := (.n2 .leaf (.n2 .leaf .leaf))
/- 114 (*busbar/pair.Pair).Step$1 -/
def pair_Pair_Step_1.an : An := (.n2 .leaf (.n2 (.reg [.op 0, .op 1, .op 2, .op 3, .op 4, .op 5, .op 6, .op 7, .op 8, .op 9, .op 10, .op 11, .op 12, .op 13, .op 14, .op 15]) (.n2 (.n2 .leaf (.n2 .leaf .leaf)) (.join 0 [1, 5, 6, 9] (.n2 .leaf (.n2 .leaf .leaf))))))
/- 115 (*busbar/pair.Pair).ended -/
def pair_Pair_ended.an : An := (.n2 .leaf (.n2 (.reg [.op 0, .op 1, .op 2, .op 3, .op 4, .op 5, .op 6]) (.n2 (.n2 .leaf (.n2 .leaf .leaf)) (.n2 (.reg [.op 0, .op 1, .op 2, .op 3, .op 4, .op 5, .op 6, .op 7, .op 9, .op 10, .op 8, .chk 4, .op 11, .op 12]) (.n2 .leaf (.n2 .leaf .leaf))))))
/- 116 (*busbar/pair.Pair).state -/
def pair_Pair_state.an : An := (.n2 .leaf (.n2 (.n2 .leaf (.n2 .leaf (.n2 .leaf .leaf))) (.join 0 [0, 1, 2, 6] (.n2 .leaf .leaf))))
/- 117 (*busbar/store.Store).check -/
def store_Store_check.an : An := (.n2 .leaf (.n2 (.n1 (.n2 .leaf (.n2 (.n2 .leaf .leaf) (.n2 .leaf (.n2 (.n2 .leaf .leaf) .leaf))))) (.n2 .leaf .leaf)))
/- 118 math/bits.OnesCount8 -/
def math_bits_OnesCount8.an : An := (.n2 .leaf (.n2 .leaf .leaf))
/- 119 busbar/image.Read -/
def image_Read.an : An := (.n2 .leaf (.n2 (.n2 .leaf (.n2 (.n2 .leaf .leaf) .leaf)) (.n2 .leaf (.n2 (.n2 .leaf (.n2 (.n2 .leaf .leaf) .leaf)) (.n2 (.reg [.op 0, .op 1, .op 2, .op 3, .op 4, .op 5, .op 6, .op 7, .op 8, .op 9, .op 10, .op 11]) (.n2 (.n2 .leaf (.n2 (.n2 .leaf .leaf) .leaf)) (.n2 (.reg [.op 0, .op 1, .op 2, .op 3, .op 4, .op 5, .op 7, .op 8, .op 11, .op 6, .chk 2, .op 9, .chk 2, .op 10, .op 12, .op 13, .op 14, .op 15]) (.n2 (.reg [.op 0, .op 1, .op 2, .op 3, .op 4]) (.n2 (.n2 .leaf (.n2 (.n2 .leaf .leaf) .leaf)) (.n2 .leaf .leaf))))))))))
/- 120 busbar/walk.Run -/
def walk_Run.an : An := (.n2 .leaf (.n2 .leaf (.n2 (.n2 .leaf (.n2 (.n2 .leaf .leaf) .leaf)) (.n2 (.n2 .leaf (.n2 (.n2 .leaf .leaf) .leaf)) (.n2 .leaf (.n2 .leaf (.n2 .leaf .leaf)))))))
/- 121 (*busbar/pair.Pair).Power$1 -/
def pair_Pair_Power_1.an : An := .leaf
/- 122 (*busbar/store.Store).Spoil -/
def store_Store_Spoil.an : An := (.n2 .leaf (.n2 .leaf (.n2 (.n2 .leaf (.n2 (.n2 .leaf (.n1 (.loop 0 [0, 1, 2, 7, 8] (.n2 (.n2 .leaf (.n2 .leaf .leaf)) (.n2 (.n1 (.reg [.op 0, .op 1, .op 2, .op 3, .op 4, .op 5, .op 6, .op 8, .op 9, .op 7, .op 10, .op 11])) .leaf))))) .leaf)) (.n2 .leaf .leaf))))
/- 123 (busbar/plane.Setup).check -/
def plane_Setup_check.an : An := (.n2 .leaf (.n2 (.n2 .leaf (.n2 .leaf (.n2 (.n2 .leaf .leaf) .leaf))) (.n2 (.n2 .leaf (.n2 (.n2 .leaf .leaf) .leaf)) (.n2 .leaf .leaf))))
/- 124 busbar/compile.All -/
def compile_All.an : An := (.n2 .leaf (.n2 .leaf (.n2 (.n2 .leaf (.n1 (.loop 0 [1, 4, 12, 13] (.n2 .leaf (.n2 (.n2 .leaf .leaf) (.n2 (.n1 (.n2 .leaf (.n2 .leaf (.n2 (.n2 .leaf (.n2 (.n2 .leaf .leaf) .leaf)) (.n2 .leaf (.n2 (.n2 .leaf (.n2 (.n2 .leaf .leaf) .leaf)) .leaf)))))) .leaf)))))) (.n2 .leaf .leaf))))
/- 125 busbar/plan.Clone -/
def plan_Clone.an : An := (.n2 .leaf (.n2 .leaf (.n2 (.n2 .leaf (.n1 (.loop 0 [2, 3, 12, 13] (.n2 .leaf (.n2 (.n2 .leaf .leaf) (.n2 (.n1 (.n2 .leaf (.n2 .leaf (.n1 (.loop 1 [2, 3, 4, 12, 13, 17, 18, 19] (.n2 .leaf (.n2 (.n2 .leaf .leaf) (.n2 (.n1 (.n2 .leaf (.n2 (.reg [.op 0, .op 1, .op 3, .op 4, .op 2, .chk 4, .op 5, .op 6, .op 7, .op 8, .op 9]) (.reg [.op 0, .op 1, .op 2, .op 3, .op 4, .op 5, .op 8, .op 6, .op 7, .op 9, .op 10])))) .leaf)))))))) .leaf)))))) (.n2 .leaf .leaf))))
/- 126 (busbar/budget.Course).Clone -/
def budget_Course_Clone.an : An := (.n2 .leaf (.n2 (.reg [.op 0, .op 1, .op 3, .op 4, .op 2, .chk 4, .op 5, .op 6, .op 7]) .leaf))
/- 127 busbar/bus.New -/
def bus_New.an : An := (.n2 .leaf (.n2 .leaf (.n2 (.reg [.op 0, .op 2, .op 1, .op 3, .op 4, .op 5, .op 6]) .leaf)))
/- 128 busbar/plane.bit -/
def plane_bit.an : An := (.n2 .leaf (.n2 .leaf .leaf))
/- 129 (busbar/plane.Setup).skew -/
def plane_Setup_skew.an : An := (.n2 .leaf (.n2 .leaf (.n2 .leaf .leaf)))
/- 130 (busbar/fault.Fault).Right -/
def fault_Fault_Right.an : An := (.n2 .leaf (.n2 (.n1 (.n2 .leaf (.n2 (.n2 .leaf .leaf) (.n2 .leaf (.n2 (.n2 .leaf .leaf) (.n2 .leaf (.n2 (.n2 .leaf .leaf) (.n2 .leaf (.n2 (.n2 .leaf .leaf) .leaf))))))))) (.n2 .leaf .leaf)))
/- 131 (busbar/budget.Slip).may -/
def budget_Slip_may.an : An := (.n2 .leaf (.n2 .leaf .leaf))
/- 132 (busbar/budget.Slip).near -/
def budget_Slip_near.an : An := (.n2 .leaf (.n2 .leaf .leaf))
/- 133 (busbar/budget.Slip).clock -/
def budget_Slip_clock.an : An := (.n2 .leaf (.n2 .leaf .leaf))
/- 134 (*busbar/plane.Plane).Next -/
def plane_Plane_Next.an : An := (.n2 .leaf (.n2 .leaf (.n2 (.n2 .leaf (.n2 (.n2 .leaf .leaf) .leaf)) (.n2 .leaf (.n2 (.n2 .leaf (.n1 (.loop 0 [0, 1, 7, 27, 28] (.n2 .leaf (.n2 (.n2 .leaf .leaf) (.n2 (.n1 (.n2 .leaf (.n2 .leaf (.n2 .leaf (.n2 .leaf (.n2 .leaf (.n2 (.n2 .leaf .leaf) .leaf))))))) .leaf)))))) (.n2 .leaf .leaf))))))
/- 135 (*busbar/store.Store).Read -/
def store_Store_Read.an : An := (.n2 .leaf (.n2 (.n2 .leaf (.n2 .leaf (.n2 (.n2 .leaf .leaf) .leaf))) (.n2 .leaf (.n2 .leaf (.n2 .leaf (.n2 (.n2 .leaf (.n1 (.loop 0 [0, 1, 10, 11, 30, 31] (.n2 .leaf (.n2 (.n2 .leaf .leaf) (.n2 (.n1 (.n2 .leaf .leaf)) .leaf)))))) (.n2 .leaf .leaf)))))))
/- 136 (busbar/budget.Course).Healthy -/
def budget_Course_Healthy.an : An := (.n2 .leaf (.n2 .leaf .leaf))
/- 137 (*busbar/plane.Plane).each -/
def plane_Plane_each.an : An := (.n2 .leaf (.n1 (.loop 0 [0, 1, 6, 7] (.n2 .leaf (.n2 (.n2 .leaf .leaf) (.n2 (.n1 (.n2 .leaf .leaf)) .leaf))))))
/- 138 (*busbar/plane.Plane).Good$1 -/
def plane_Plane_Good_1.an : An := (.n2 .leaf (.n2 .leaf .leaf))
/- 139 (*busbar/plane.Plane).none -/
def plane_Plane_none.an : An := (.n2 .leaf (.n2 .leaf .leaf))
/- 140 (busbar/budget.Course).Fit -/
def budget_Course_Fit.an : An := (.n2 .leaf (.n2 .leaf (.n2 (.n2 .leaf (.n2 .leaf .leaf)) (.join 1 [1, 2, 4, 5] (.n2 .leaf (.n2 (.n2 .leaf (.n1 (.loop 0 [1, 4, 5, 6, 21, 22, 23] (.n2 .leaf (.n2 (.n2 .leaf .leaf) (.n2 (.n1 (.n2 .leaf (.n2 (.reg [.op 0, .op 1, .op 2, .op 3, .op 4, .op 5, .op 6, .op 7, .chk 4, .op 8, .op 9, .op 10, .op 11]) (.n2 (.n2 .leaf (.reg [.op 0, .op 1, .op 3, .op 4, .op 7, .op 8, .op 2, .chk 4, .chk 8, .op 5, .chk 8, .op 6, .op 9, .op 10, .op 11])) .leaf)))) .leaf)))))) (.n2 .leaf .leaf)))))))
/- 141 (*busbar/plane.Plane).ready -/
def plane_Plane_ready.an : An := .leaf
/- 142 (*busbar/plane.Plane).drive -/
def plane_Plane_drive.an : An := (.reg [.op 0, .op 1, .op 2, .op 3, .op 4, .op 5, .op 6, .op 7, .op 8, .op 9, .op 10, .op 11, .op 12, .op 13, .op 14, .op 15, .op 16, .chk 3, .op 17])
/- 143 (*busbar/bus.Bus).Settle -/
def bus_Bus_Settle.an : An := (.n2 .leaf (.n2 (.n2 .leaf (.n2 (.n2 .leaf .leaf) .leaf)) (.n2 (.reg [.op 0, .op 1, .op 2, .op 3, .op 4, .op 5, .op 7, .op 6, .chk 1, .op 8, .op 9, .op 10, .op 11]) (.n2 (.reg [.op 0, .op 1, .op 2, .op 3, .op 4, .op 5, .op 6, .op 7, .op 8, .op 9, .op 10, .op 11, .op 12, .op 13, .op 14, .op 15]) (.n2 (.n2 .leaf (.n1 (.loop 0 [0, 39, 40] (.n2 .leaf (.n2 (.n2 .leaf .leaf) (.n2 (.n1 (.n2 .leaf .leaf)) .leaf)))))) (.n2 .leaf .leaf))))))
/- 144 (*busbar/plane.Plane).Step$1 -/
def plane_Plane_Step_1.an : An := (.reg [.op 0, .op 1, .op 2, .op 3, .op 4, .op 5, .op 6, .op 7, .op 8, .op 9, .op 10, .op 11, .op 13, .op 14, .op 15, .op 16, .op 17, .op 18, .op 12, .chk 1, .chk 2, .chk 5, .chk 13, .chk 15, .chk 18, .op 19, .chk 1, .chk 2, .chk 5, .op 20, .op 21])
/- 145 (busbar/budget.Course).At -/
def budget_Course_At.an : An := (.n2 .leaf (.n2 .leaf (.n2 (.n2 .leaf (.n1 (.loop 0 [1, 2, 3, 9, 13, 14, 15] (.n2 .leaf (.n2 (.n2 .leaf .leaf) (.n2 (.n1 (.n2 .leaf (.n2 .leaf (.n2 .leaf .leaf)))) .leaf)))))) (.n2 .leaf .leaf))))
/- 146 (*busbar/plane.Plane).places -/
def plane_Plane_places.an : An := (.n2 .leaf (.n2 .leaf (.n2 (.n2 .leaf (.n1 (.loop 0 [0, 5, 13, 14, 15] (.n2 .leaf (.n2 (.n2 .leaf .leaf) (.n2 (.n1 (.n2 .leaf (.n2 .leaf (.n1 (.loop 1 [0, 5, 7, 13, 14, 15, 19, 20, 21] (.n2 .leaf (.n2 (.n2 .leaf .leaf) (.n2 (.n1 (.n2 .leaf (.n2 .leaf (.n2 .leaf (.reg [.op 0, .op 1, .op 4, .op 6, .op 7, .op 8, .op 9, .op 10, .op 11, .op 14, .op 2, .chk 10, .op 3, .op 5, .op 12, .chk 10, .op 13, .op 15, .op 16, .op 17, .op 18, .op 19]))))) .leaf)))))))) .leaf)))))) (.n2 .leaf .leaf))))
/- 147 busbar/plane.apart -/
def plane_apart.an : An := (.n2 .leaf (.n2 (.n2 .leaf (.n2 (.n2 .leaf (.n2 .leaf .leaf)) .leaf)) (.n2 .leaf .leaf)))
/- 148 busbar/valid.Window -/
def valid_Window.an : An := (.n2 .leaf (.n2 (.n2 .leaf (.n1 (.n2 .leaf (.n2 (.n2 .leaf .leaf) (.n2 .leaf (.n2 (.n2 (.n2 .leaf (.n2 (.n2 .leaf .leaf) .leaf)) (.n2 .leaf .leaf)) (.n2 .leaf (.n2 (.n2 .leaf .leaf) .leaf)))))))) (.n2 .leaf .leaf)))
/- 149 slices.Max[[]int,int] -/
def slices_Max.an : An := (.n2 .leaf (.n2 (.n2 .leaf (.n2 .leaf .leaf)) (.join 1 [0] (.n2 .leaf (.n2 (.n2 .leaf (.n1 (.loop 0 [0, 3, 4] (.n2 (.n2 .leaf (.n2 .leaf .leaf)) (.n2 (.n1 .leaf) .leaf))))) (.n2 .leaf .leaf))))))
/- 150 busbar/valid.Spans -/
def valid_Spans.an : An := (.n2 .leaf (.n2 .leaf (.n2 (.n2 .leaf (.n2 (.n2 .leaf .leaf) .leaf)) (.n2 .leaf (.n2 .leaf (.n2 .leaf (.n2 (.n2 .leaf (.n1 (.loop 0 [1, 5, 6, 7, 27, 28, 29] (.n2 .leaf (.n2 (.n2 .leaf .leaf) (.n2 (.n1 (.n2 .leaf (.n2 (.n2 .leaf (.n2 .leaf .leaf)) (.n2 .leaf (.n2 (.n2 .leaf (.n2 .leaf .leaf)) .leaf))))) .leaf)))))) (.join 1 [1, 5, 6, 7] (.n2 .leaf (.n2 .leaf .leaf))))))))))
/- 151 busbar/compile.body -/
def compile_body.an : An := (.n2 .leaf (.n2 .leaf (.n2 (.n2 .leaf (.n1 (.loop 0 [1, 5, 8, 9, 10] (.n2 .leaf (.n2 (.n2 .leaf .leaf) (.n2 (.n1 (.n2 .leaf .leaf)) .leaf)))))) (.n2 .leaf .leaf))))
/- 152 bytes.Equal -/
def bytes_Equal.an : An := (.n2 .leaf (.n2 .leaf .leaf))
/- 153 busbar/compile.lay -/
def compile_lay.an : An := (.n2 .leaf (.n2 (.n2 .leaf (.n1 (.loop 0 [0, 9, 10, 11] (.n2 .leaf (.n2 (.n2 .leaf .leaf) (.n2 (.n1 (.n2 .leaf (.n2 .leaf .leaf))) .leaf)))))) (.n2 .leaf .leaf)))
/- 154 slices.Concat[[]byte,byte] -/
def slices_Concat.an : An := (.n2 .leaf (.n2 .leaf (.n2 (.n2 .leaf (.n1 (.loop 0 [0, 3, 9, 10, 11] (.n2 .leaf (.n2 (.n2 .leaf .leaf) (.n2 (.n1 (.n2 .leaf (.n2 .leaf (.n2 .leaf (.n2 .leaf .leaf))))) .leaf)))))) (.join 2 [0, 3] (.n2 .leaf (.n2 (.n2 .leaf (.n1 (.loop 1 [6, 25, 26, 27] (.n2 .leaf (.n2 (.n2 .leaf .leaf) (.n2 (.n1 (.n2 .leaf .leaf)) .leaf)))))) (.n2 .leaf .leaf)))))))
/- 155 (busbar/image.Image).Right -/
def image_Image_Right.an : An := (.n2 .leaf (.n2 .leaf .leaf))
/- 156 busbar/image.two -/
def image_two.an : An := (.n2 .leaf (.n2 .leaf .leaf))
/- 157 busbar/image.Sum -/
def image_Sum.an : An := (.n2 .leaf (.n2 .leaf (.n2 (.n2 .leaf (.n1 (.loop 0 [3, 9, 10, 11] (.n2 .leaf (.n2 (.n2 .leaf .leaf) (.n2 (.n1 (.n2 .leaf (.n2 .leaf (.n1 (.loop 1 [3, 9, 10, 11, 15, 16, 17] (.n2 .leaf (.n2 (.n2 .leaf .leaf) (.n2 (.n1 (.n2 .leaf (.n2 .leaf (.n2 .leaf (.n1 (.loop 2 [3, 9, 10, 11, 15, 16, 17, 26] (.n2 .leaf (.n2 (.n2 .leaf .leaf) (.n2 (.n1 (.n2 .leaf (.n2 .leaf (.n2 .leaf (.n2 .leaf .leaf))))) .leaf))))))))) .leaf)))))))) .leaf)))))) (.n2 .leaf .leaf))))
/- 158 (*busbar/delay.Delay).Clear -/
def delay_Delay_Clear.an : An := (.n2 .leaf (.n2 .leaf .leaf))
/- 159 busbar/clock.New -/
def clock_New.an : An := (.n2 .leaf (.n2 (.n2 .leaf (.n2 (.n2 .leaf .leaf) .leaf)) (.n2 .leaf .leaf)))
/- 160 (busbar/compile.Program).Long -/
def compile_Program_Long.an : An := (.n2 .leaf (.n2 .leaf (.n2 (.n2 .leaf (.n2 (.n2 .leaf (.n1 (.loop 0 [5, 17, 18, 19] (.n2 .leaf (.n2 (.n2 .leaf .leaf) (.n2 (.n1 (.n2 .leaf .leaf)) .leaf)))))) .leaf)) (.n2 .leaf .leaf))))
/- 161 (*busbar/clock.Clock).Enter -/
def clock_Clock_Enter.an : An := (.n2 .leaf (.n2 (.n1 (.n2 .leaf (.n2 (.n2 .leaf .leaf) (.n2 .leaf (.n2 (.n2 .leaf .leaf) .leaf))))) (.n2 .leaf (.n2 .leaf (.n2 .leaf .leaf)))))
/- 162 (*busbar/biu.Biu).begin -/
def biu_Biu_begin.an : An := (.n2 .leaf (.n2 (.reg [.op 0, .op 1, .op 2, .op 3, .op 4, .op 5, .op 6, .op 7, .op 8, .op 9, .op 10, .op 11, .op 12, .op 13, .op 14]) (.n2 (.reg [.op 0, .op 1, .op 4, .op 5, .op 6, .op 7, .op 8, .op 2, .chk 7, .op 3, .chk 7, .op 9, .op 10, .op 11, .op 12]) (.n2 .leaf (.n2 (.n2 .leaf (.n1 (.loop 0 [0, 4, 45, 46] (.n2 .leaf (.n2 (.n2 .leaf .leaf) (.n2 (.n1 (.reg [.op 0, .op 1, .op 2, .op 3, .op 4, .op 5, .op 6, .op 7, .op 8, .chk 5, .op 9, .op 10, .op 11, .op 12, .op 13, .op 14])) .leaf)))))) .leaf)))))
/- 163 (*busbar/delay.Delay).none -/
def delay_Delay_none.an : An := (.n2 .leaf (.n2 .leaf .leaf))
/- 164 (*busbar/runs.Runs).none -/
def runs_Runs_none.an : An := (.n2 .leaf (.n2 .leaf .leaf))
/- 165 (*busbar/runs.Runs).of -/
def runs_Runs_of.an : An := (.n2 .leaf (.n2 .leaf (.n2 .leaf (.n2 .leaf .leaf))))
/- 166 (busbar/wires.Lines).High -/
def wires_Lines_High.an : An := (.n2 .leaf (.n2 .leaf .leaf))
/- 167 (*busbar/clock.Clock).Frame -/
def clock_Clock_Frame.an : An := (.n2 .leaf (.n2 (.n2 .leaf (.n2 (.n2 .leaf .leaf) .leaf)) (.n2 .leaf .leaf)))
/- 168 (*busbar/clock.Clock).Tick -/
def clock_Clock_Tick.an : An := (.n2 (.n2 .leaf (.n2 .leaf .leaf)) (.n2 (.reg [.op 0, .op 1, .op 2, .op 3, .op 4, .op 5, .op 6, .op 7, .op 8, .op 9, .op 10, .op 11, .op 12, .op 13, .op 14, .op 15, .op 16, .op 17]) (.n2 (.n2 (.reg [.op 0, .op 1, .op 2, .op 3, .op 4, .op 5, .op 6]) (.n2 (.n2 (.reg [.op 0, .op 1, .op 2, .op 3, .op 4, .op 5, .op 6, .op 7, .op 8]) (.n2 (.reg [.op 0, .op 1, .op 2, .op 3, .op 4, .op 5, .op 6, .op 7, .op 8]) .leaf)) .leaf)) (.join 0 [0, 4] .leaf))))
/- 169 (*busbar/biu.Biu).wrap -/
def biu_Biu_wrap.an : An := (.n2 (.n2 .leaf (.n2 (.n2 .leaf (.reg [.op 0, .op 1, .op 2, .op 3, .op 4, .op 5, .op 6, .op 7, .op 9, .op 10, .op 11, .op 12, .op 13, .op 14, .op 15, .op 16, .op 8, .chk 3, .chk 12, .chk 16, .op 17, .chk 3, .op 18])) .leaf)) .leaf)
/- 170 (*busbar/runs.Runs).Run -/
def runs_Runs_Run.an : An := (.n2 .leaf (.n2 (.n2 .leaf (.n2 (.n2 .leaf .leaf) .leaf)) (.n2 .leaf .leaf)))
/- 171 (*busbar/runs.Runs).Rose -/
def runs_Runs_Rose.an : An := (.n2 .leaf (.n2 .leaf .leaf))
/- 172 (*busbar/clock.Clock).Set -/
def clock_Clock_Set.an : An := (.n2 (.n2 .leaf (.n2 .leaf .leaf)) (.n2 .leaf .leaf))
/- 173 (*busbar/active.Watch).See -/
def active_Watch_See.an : An := (.n2 .leaf (.n2 .leaf .leaf))
/- 174 busbar/serial.Look -/
def serial_Look.an : An := (.n2 .leaf (.n2 .leaf (.n2 .leaf (.n2 (.n1 (.n2 .leaf (.n2 (.n2 .leaf .leaf) (.n2 .leaf (.n2 (.n2 .leaf .leaf) .leaf))))) (.n2 .leaf .leaf)))))
/- 175 (*busbar/shift.Shift).Put -/
def shift_Shift_Put.an : An := (.n2 (.n2 .leaf (.n2 .leaf .leaf)) (.n2 .leaf (.n2 (.n2 .leaf (.n2 .leaf .leaf)) (.join 0 [0, 1, 3, 8] (.reg [.op 0, .op 1, .op 2, .op 3, .op 4, .op 5, .op 6, .op 9, .op 7, .chk 3, .op 8, .op 10, .op 11])))))
/- 176 (*busbar/check.Check).See -/
def check_Check_See.an : An := (.n2 .leaf (.n2 (.n2 .leaf (.n2 .leaf .leaf)) (.n2 (.n2 .leaf (.n2 .leaf (.n2 .leaf .leaf))) (.n2 .leaf (.n2 .leaf (.n2 .leaf (.n2 .leaf .leaf)))))))
/- 177 (*busbar/check.Check).Bad -/
def check_Check_Bad.an : An := (.n2 .leaf (.n2 .leaf .leaf))
/- 178 busbar/serial.Words -/
def serial_Words.an : An := (.n2 .leaf (.n2 .leaf (.n2 .leaf (.n2 (.n2 .leaf (.n2 (.n2 .leaf .leaf) .leaf)) (.n2 .leaf .leaf)))))
/- 179 busbar/serial.Pulse -/
def serial_Pulse.an : An := (.n2 .leaf (.n2 .leaf (.n2 (.n2 .leaf (.n2 (.n2 .leaf .leaf) .leaf)) (.n2 .leaf .leaf))))
/- 180 busbar/gate.Opens$1 -/
def gate_Opens_1.an : An := (.n2 .leaf (.n2 .leaf .leaf))
/- 181 busbar/word.Long -/
def word_Long.an : An := (.n2 .leaf (.n2 (.n2 .leaf (.n2 (.n2 .leaf .leaf) .leaf)) (.n2 .leaf .leaf)))
/- 182 (*busbar/clock.Clock).none -/
def clock_Clock_none.an : An := (.n2 .leaf (.n2 .leaf .leaf))
/- 183 (*busbar/active.Watch).when -/
def active_Watch_when.an : An := (.n2 .leaf (.n2 (.n2 .leaf (.n2 (.n2 .leaf .leaf) .leaf)) (.n2 .leaf .leaf)))
/- 184 (*busbar/active.Watch).Cand$1 -/
def active_Watch_Cand_1.an : An := (.n2 .leaf (.n2 .leaf .leaf))
/- 185 (*busbar/shift.Shift).Bits -/
def shift_Shift_Bits.an : An := (.n2 .leaf (.n2 (.n2 .leaf (.n2 (.n2 .leaf .leaf) .leaf)) (.n2 .leaf .leaf)))
/- 186 busbar/major.Of -/
def major_Of.an : An := (.n2 .leaf (.n2 (.n1 (.n2 .leaf (.n2 (.n2 .leaf .leaf) (.n2 .leaf (.n2 (.n2 .leaf .leaf) .leaf))))) (.n2 .leaf .leaf)))
/- 187 (*busbar/shift.Shift).Says -/
def shift_Shift_Says.an : An := (.n2 .leaf (.n2 (.n2 .leaf (.n1 (.loop 0 [0, 1, 4, 5, 7] (.n2 .leaf (.n2 (.n2 .leaf .leaf) (.n2 (.n1 (.n2 .leaf .leaf)) .leaf)))))) (.join 1 [4, 5] (.n2 (.reg [.op 0, .op 1, .op 2, .chk 1, .op 3]) .leaf))))
/- 188 busbar/word.Words -/
def word_Words.an : An := (.n2 .leaf (.n2 (.n2 .leaf (.n2 (.n2 .leaf .leaf) .leaf)) (.n2 .leaf (.n2 (.n2 .leaf (.n1 (.loop 0 [4, 15, 16, 17] (.n2 .leaf (.n2 (.n2 .leaf .leaf) (.n2 (.n1 (.n2 .leaf (.n2 .leaf (.n2 (.reg [.op 0, .op 1, .op 2, .op 3, .op 4, .op 5, .op 6, .op 7, .op 8, .op 9, .op 10, .op 11]) .leaf)))) .leaf)))))) (.n2 .leaf .leaf)))))
/- 189 busbar/wires.Y -/
def wires_Y.an : An := (.n2 .leaf (.n2 .leaf .leaf))
/- 190 busbar/wires.X -/
def wires_X.an : An := (.n2 .leaf (.n2 .leaf .leaf))
/- 191 (busbar/plan.Window).bits -/
def plan_Window_bits.an : An := (.n2 .leaf (.n2 (.n2 .leaf (.n1 (.n2 .leaf (.n2 (.n2 (.reg [.op 0, .op 1, .op 5, .op 2, .chk 5, .op 3, .op 4, .op 6, .op 7, .op 8, .op 9, .op 10]) .leaf) (.n2 .leaf (.n2 (.n2 .leaf .leaf) (.n2 .leaf (.n2 (.n2 .leaf .leaf) .leaf)))))))) (.n2 .leaf .leaf)))
/- 192 (*busbar/active.Watch).none -/
def active_Watch_none.an : An := (.n2 .leaf (.n2 .leaf .leaf))
/- 193 busbar/active.Decides -/
def active_Decides.an : An := (.n2 .leaf (.n2 .leaf (.n2 (.n2 .leaf (.n2 (.n2 .leaf .leaf) .leaf)) (.n2 .leaf .leaf))))
/- 194 (*busbar/pair.Pair).add -/
def pair_Pair_add.an : An := (.n2 .leaf (.n2 .leaf (.reg [.op 0, .op 1, .op 2, .op 3, .op 4, .op 5, .op 6, .op 7, .op 8, .op 9, .op 10])))
/- 195 (*busbar/pair.Pair).garbled -/
def pair_Pair_garbled.an : An := (.n2 .leaf (.n2 (.reg [.op 0, .op 1, .op 2, .op 3, .op 4, .op 6, .op 7, .op 8, .op 9, .op 10, .op 5, .chk 10, .op 11, .op 12, .op 13, .op 14, .op 15]) (.n2 .leaf .leaf)))
/- 196 (busbar/fault.Fault).At -/
def fault_Fault_At.an : An := (.n2 .leaf (.n2 (.n2 .leaf (.n2 (.n2 .leaf .leaf) .leaf)) (.n2 (.reg [.op 0, .op 1, .op 2, .op 3, .op 4, .op 5, .op 6, .op 7, .op 8, .op 9, .op 10, .op 11, .op 12, .op 13]) .leaf)))
/- 197 (busbar/fault.Fault).Of -/
def fault_Fault_Of.an : An := (.n2 .leaf (.n2 .leaf .leaf))
/- 198 (busbar/wires.Lines).Set -/
def wires_Lines_Set.an : An := (.n2 .leaf (.n2 (.n2 .leaf (.n2 (.n2 .leaf .leaf) .leaf)) (.n2 .leaf (.n2 (.n2 .leaf (.n2 .leaf .leaf)) (.n2 .leaf .leaf)))))
/- 199 (*busbar/pair.Pair).over -/
def pair_Pair_over.an : An := (.n2 .leaf (.n2 .leaf (.n2 .leaf (.n2 .leaf (.n1 (.n2 .leaf (.n2 .leaf (.n2 .leaf (.n2 (.n2 .leaf (.n2 .leaf .leaf)) (.n2 .leaf (.n2 (.n2 .leaf (.n2 (.n2 .leaf (.n2 .leaf .leaf)) (.join 0 [0, 8, 10, 11, 12] (.n2 (.n2 .leaf (.n2 (.n2 (.reg [.op 0, .op 1, .op 2, .op 3, .op 4, .op 5, .op 6, .op 7, .op 8]) (.reg [.op 0, .op 1, .op 2, .op 3, .op 4, .op 5, .chk 1, .chk 3, .op 6, .op 7, .chk 3, .op 8, .op 9])) (.n2 (.reg [.op 0, .op 1, .op 2, .op 3, .op 4, .op 5, .op 6, .op 7, .op 8]) .leaf))) .leaf)))) .leaf)))))))))))
/- 200 (*busbar/store.Store).none -/
def store_Store_none.an : An := (.n2 .leaf (.n2 .leaf .leaf))
/- 201 busbar/image.of -/
def image_of.an : An := (.n2 .leaf (.n2 (.reg [.op 0, .op 1, .op 2, .op 3, .op 4, .op 5, .op 6, .op 7, .op 8, .op 9, .op 10]) .leaf))
/- 202 bytes.HasPrefix -/
def bytes_HasPrefix.an : An := (.n2 .leaf (.n2 .leaf .leaf))
/- 203 busbar/walk.Windows -/
def walk_Windows.an : An := (.n2 .leaf (.n1 (.n2 (.n2 .leaf (.n2 (.n2 .leaf .leaf) .leaf)) (.n2 .leaf (.n2 .leaf (.n2 .leaf (.n2 .leaf (.n2 (.n2 .leaf (.n1 (.loop 0 [2, 6, 7, 8, 32] (.n2 .leaf (.n2 (.n2 .leaf .leaf) (.n2 (.n1 (.n2 .leaf (.n2 (.n1 (.n2 .leaf (.n2 (.n2 .leaf .leaf) (.n2 .leaf (.n2 (.n2 .leaf .leaf) .leaf))))) (.n2 (.n2 .leaf (.n2 .leaf (.n2 (.n2 .leaf .leaf) .leaf))) (.n2 .leaf (.n2 (.n2 .leaf (.n2 .leaf .leaf)) (.n2 (.n2 .leaf (.n2 .leaf .leaf)) .leaf))))))) .leaf)))))) (.n2 .leaf .leaf)))))))))
/- 204 busbar/plan.View -/
def plan_View.an : An := (.n2 .leaf (.n2 (.n2 .leaf (.n2 (.n2 .leaf .leaf) .leaf)) (.n2 .leaf (.n2 .leaf (.n2 (.n2 .leaf (.n1 (.loop 0 [2, 7, 8, 22, 23, 24] (.n2 .leaf (.n2 (.n2 .leaf .leaf) (.n2 (.n1 (.n2 .leaf (.n2 (.n2 .leaf (.n2 .leaf .leaf)) (.n2 .leaf .leaf)))) .leaf)))))) (.n2 .leaf .leaf))))))
/- 205 busbar/plan.copied -/
def plan_copied.an : An := (.n2 .leaf (.n2 .leaf (.n2 .leaf (.n2 .leaf .leaf))))
/- 206 (busbar/fault.Fault).Clone -/
def fault_Fault_Clone.an : An := (.n2 .leaf (.n2 .leaf (.n2 .leaf (.n2 .leaf (.n2 .leaf .leaf)))))
/- 207 slices.Clone[[]busbar/budget.Slip,busbar/budget.Slip] -/
def slices_Clone.an : An := (.n2 .leaf (.n2 (.n2 .leaf (.n2 (.n2 .leaf .leaf) .leaf)) (.n2 .leaf .leaf)))
/- 208 slices.ContainsFunc[[]int,int] -/
def slices_ContainsFunc.an : An := (.n2 .leaf (.n2 .leaf .leaf))
/- 209 (busbar/budget.Slip).near$1 -/
def budget_Slip_near_1.an : An := (.n2 .leaf (.n2 .leaf .leaf))
/- 210 (*busbar/bus.Bus).Put -/
def bus_Bus_Put.an : An := (.n2 .leaf (.n2 (.reg [.op 0, .op 1, .op 2, .op 3, .op 4, .op 5, .op 6, .op 7, .op 8, .op 9, .op 10, .op 11, .op 12, .op 13, .op 14, .op 15, .chk 3, .op 16, .op 17]) .leaf))
/- 211 (*busbar/bus.Bus).none -/
def bus_Bus_none.an : An := (.n2 .leaf (.n2 .leaf .leaf))
/- 212 (busbar/fault.Fault).Lines -/
def fault_Fault_Lines.an : An := (.n2 .leaf (.n2 .leaf (.n2 (.n2 .leaf (.n2 (.n2 .leaf .leaf) .leaf)) (.n2 (.n2 .leaf (.n1 (.n2 .leaf (.n2 (.n2 .leaf .leaf) (.n2 .leaf (.n2 (.n2 .leaf .leaf) .leaf)))))) (.n2 .leaf .leaf)))))
/- 213 busbar/valid.data -/
def valid_data.an : An := (.n2 .leaf (.n2 .leaf (.n2 (.n1 (.n2 .leaf (.n2 (.n2 .leaf .leaf) (.n2 .leaf (.n2 (.n2 .leaf .leaf) (.n2 .leaf (.n2 (.n2 .leaf .leaf) (.n2 .leaf (.n2 (.n2 .leaf .leaf) (.n2 .leaf (.n2 (.n2 .leaf .leaf) .leaf))))))))))) (.n2 .leaf .leaf))))
/- 214 busbar/compile.command -/
def compile_command.an : An := (.n2 .leaf (.n2 (.n2 .leaf (.n1 (.n2 .leaf (.n2 (.n2 .leaf .leaf) (.n2 .leaf (.n2 (.n2 .leaf .leaf) .leaf)))))) (.n2 .leaf (.n2 .leaf (.n2 (.n1 (.n2 .leaf (.n2 .leaf (.n2 .leaf (.n2 .leaf .leaf))))) (.n2 .leaf .leaf))))))
/- 215 (busbar/cmd.Command).Put -/
def cmd_Command_Put.an : An := (.n2 .leaf (.n2 (.n2 .leaf (.n2 (.n2 .leaf .leaf) .leaf)) (.n2 .leaf (.n2 (.n2 .leaf (.n1 (.loop 0 [1, 4, 14, 15, 16] (.n2 .leaf (.n2 (.n2 .leaf .leaf) (.n2 (.n1 (.n2 .leaf .leaf)) .leaf)))))) (.join 1 [1, 4] (.n2 (.n2 .leaf (.n2 .leaf .leaf)) (.n2 .leaf .leaf)))))))
/- 216 slices.Grow[[]byte,byte] -/
def slices_Grow.an : An := (.n2 .leaf (.n2 (.n2 .leaf (.n2 .leaf .leaf)) (.join 0 [0, 1] (.n2 (.n2 .leaf (.n2 .leaf (.n2 .leaf .leaf))) (.n2 .leaf .leaf)))))
/- 217 busbar/image.within -/
def image_within.an : An := (.n2 .leaf (.n2 .leaf .leaf))
/- 218 busbar/clock.fits -/
def clock_fits.an : An := (.n2 .leaf (.n2 .leaf .leaf))
/- 219 busbar/active.New -/
def active_New.an : An := (.n2 .leaf (.n2 .leaf .leaf))
/- 220 busbar/check.New -/
def check_New.an : An := (.n2 .leaf (.n2 .leaf .leaf))
/- 221 busbar/shift.New -/
def shift_New.an : An := (.n2 .leaf (.n2 .leaf (.n2 .leaf .leaf)))
/- 222 slices.Sort[[]int,int] -/
def slices_Sort.an : An := (.n2 .leaf .leaf)
/- 223 busbar/wires.is -/
def wires_is.an : An := (.n2 .leaf (.n2 .leaf .leaf))
/- 224 (*busbar/runs.Runs).when -/
def runs_Runs_when.an : An := (.n2 .leaf (.n2 (.n2 .leaf (.n2 (.n2 .leaf .leaf) .leaf)) (.n2 .leaf .leaf)))
/- 225 (*busbar/runs.Runs).Rose$1 -/
def runs_Runs_Rose_1.an : An := (.n2 .leaf (.n2 (.n2 .leaf (.n2 (.n2 .leaf .leaf) .leaf)) (.n2 .leaf .leaf)))
/- 226 busbar/active.From -/
def active_From.an : An := (.n2 .leaf (.n2 .leaf .leaf))
/- 227 busbar/serial.At -/
def serial_At.an : An := (.n2 .leaf (.n2 .leaf (.n2 (.n2 .leaf (.n2 (.n2 .leaf .leaf) .leaf)) (.n2 .leaf .leaf))))
/- 228 busbar/serial.Look$1 -/
def serial_Look_1.an : An := (.n2 .leaf (.n2 (.reg [.op 0, .op 1, .op 2, .op 3, .op 4, .op 5, .op 6, .op 7, .op 8, .op 9, .chk 3, .chk 5, .op 10, .op 11, .op 12]) .leaf))
/- 229 busbar/cell.Look -/
def cell_Look.an : An := (.n2 .leaf (.n2 (.n2 .leaf (.n2 (.n2 .leaf .leaf) .leaf)) (.n2 .leaf (.n2 (.n2 .leaf (.n2 .leaf .leaf)) (.n2 .leaf .leaf)))))
/- 230 (busbar/wires.Lines).Says -/
def wires_Lines_Says.an : An := (.n2 .leaf (.n2 (.n2 .leaf (.n1 (.loop 0 [0, 2, 4] (.n2 .leaf (.n2 (.n2 .leaf .leaf) (.n2 (.n1 (.n2 .leaf .leaf)) .leaf)))))) (.n2 .leaf .leaf)))
/- 231 (*busbar/check.Check).none -/
def check_Check_none.an : An := (.n2 .leaf (.n2 .leaf .leaf))
/- 232 (*busbar/check.Check).Wrong -/
def check_Check_Wrong.an : An := (.n2 .leaf (.n2 (.n2 .leaf (.n2 (.n2 .leaf .leaf) .leaf)) (.n2 .leaf .leaf)))
/- 233 busbar/word.Bit -/
def word_Bit.an : An := (.n2 .leaf (.n2 (.n2 .leaf (.n2 (.n2 .leaf .leaf) .leaf)) (.n2 .leaf .leaf)))
/- 234 busbar/wires.Drive -/
def wires_Drive.an : An := (.n2 .leaf (.n2 .leaf .leaf))
/- 235 busbar/cell.Level -/
def cell_Level.an : An := (.n2 .leaf (.n2 (.n1 (.n2 .leaf (.n2 (.n2 .leaf .leaf) (.n2 .leaf (.n2 (.n2 .leaf .leaf) .leaf))))) (.n2 .leaf .leaf)))
/- 236 (*busbar/active.Watch).First -/
def active_Watch_First.an : An := (.n2 .leaf (.n2 (.n2 .leaf (.n2 (.n2 .leaf .leaf) .leaf)) (.n2 .leaf .leaf)))
/- 237 (*busbar/shift.Shift).none -/
def shift_Shift_none.an : An := (.n2 .leaf (.n2 .leaf .leaf))
/- 238 busbar/major.votes -/
def major_votes.an : An := (.n2 .leaf (.n2 .leaf (.n2 (.n2 .leaf (.n1 (.loop 0 [2, 3, 4, 7, 9] (.n2 .leaf (.n2 (.n2 .leaf .leaf) (.n2 (.n1 (.n2 .leaf (.n2 .leaf (.n2 .leaf .leaf)))) .leaf)))))) (.n2 .leaf .leaf))))
/- 239 (*busbar/shift.Shift).Line -/
def shift_Shift_Line.an : An := (.n2 .leaf (.n2 (.n2 .leaf (.n2 (.n2 .leaf .leaf) .leaf)) (.n2 (.reg [.op 0, .op 1, .op 2, .op 3, .op 4, .op 5, .op 6, .op 7, .op 8, .op 9, .op 10, .op 11, .op 12, .op 13, .op 14, .op 15, .op 16, .op 17, .op 18, .chk 11, .chk 15, .op 19]) (.n2 (.n2 .leaf (.n2 (.n2 .leaf .leaf) .leaf)) (.n2 (.reg [.op 0, .op 1, .op 2, .op 3, .op 4, .op 5, .op 6, .op 7, .op 8, .op 9, .op 10, .op 11, .op 12]) .leaf)))))
/- 240 busbar/plan.cut -/
def plan_cut.an : An := (.n2 .leaf (.n2 .leaf .leaf))
/- 241 (busbar/plan.Window).many -/
def plan_Window_many.an : An := (.n2 .leaf (.n2 .leaf .leaf))
/- 242 (*busbar/store.Store).Frame -/
def store_Store_Frame.an : An := (.n2 (.n2 .leaf (.n2 .leaf .leaf)) (.n2 .leaf (.n1 (.loop 0 [0, 5] (.n2 .leaf (.n2 (.n2 .leaf .leaf) (.n2 (.n1 (.n2 .leaf (.n2 .leaf (.n2 (.reg [.op 0, .op 1, .op 2, .op 3, .op 4, .op 5, .op 6, .op 7, .op 8, .op 9, .op 10, .op 11, .op 12, .op 13]) .leaf)))) .leaf)))))))
/- 243 busbar/walk.Windows$1 -/
def walk_Windows_1.an : An := (.n2 .leaf (.n2 (.reg [.op 0, .op 1, .op 2, .op 3, .op 4, .op 5, .op 6, .op 7, .chk 0, .op 8, .op 9, .op 10, .op 11, .op 12, .chk 0, .op 13, .op 14, .op 15, .op 16]) (.n2 .leaf .leaf)))
/- 244 busbar/cmd.Read -/
def cmd_Read.an : An := (.n2 .leaf (.n2 (.n1 (.n2 .leaf (.n2 (.n2 .leaf .leaf) (.n2 .leaf (.n2 (.n2 .leaf .leaf) .leaf))))) (.n2 .leaf (.n2 (.n2 .leaf (.n2 (.n2 .leaf .leaf) .leaf)) (.n2 .leaf (.n2 .leaf (.n2 (.n2 .leaf (.n2 .leaf .leaf)) (.join 3 [1, 4, 7, 8, 9] (.n2 (.n2 .leaf (.n2 (.n2 .leaf .leaf) .leaf)) (.n2 (.n2 .leaf (.n1 (.loop 0 [1, 4, 7, 8, 9, 50, 51, 52] (.n2 .leaf (.n2 (.n2 .leaf .leaf) (.n2 (.n1 (.n2 .leaf .leaf)) .leaf)))))) (.join 2 [1, 4, 7, 8, 9] (.n2 (.n2 .leaf (.n2 (.reg [.op 0, .op 1, .op 2, .op 3, .op 4, .op 5, .op 6, .op 7, .op 8, .op 9, .op 10, .op 11]) .leaf)) (.join 1 [1, 4, 7, 9] (.n2 (.n2 .leaf (.n2 (.n2 .leaf .leaf) .leaf)) (.n2 .leaf .leaf)))))))))))))))
/- 245 (*busbar/walk.walker).turn -/
def walk_walker_turn.an : An := (.n2 .leaf (.n2 (.n2 .leaf (.n1 (.n2 .leaf (.n2 (.n2 (.n2 .leaf (.n2 (.n2 .leaf .leaf) .leaf)) (.n2 (.reg [.op 0, .op 1, .op 2, .op 3, .op 4, .op 5, .op 6, .op 7, .op 8, .op 9, .op 10, .op 11, .op 12, .op 13]) .leaf)) (.n2 .leaf (.n2 .leaf (.n2 .leaf (.n2 (.n2 .leaf (.n2 (.n2 .leaf (.n2 (.n2 .leaf .leaf) .leaf)) (.reg [.op 0, .op 1, .op 2, .op 3, .op 4, .op 5, .op 6, .op 7, .op 8, .op 9, .op 10, .op 11, .op 12, .op 13, .op 14, .op 15, .op 16, .op 17, .op 18, .op 19, .op 20]))) .leaf)))))))) (.n2 .leaf .leaf)))
/- 246 busbar/walk.window -/
def walk_window.an : An := (.n2 .leaf (.n2 (.reg [.op 0, .op 1, .op 2, .op 3, .op 4, .op 5, .op 6, .op 7, .chk 1, .chk 3, .op 8, .op 9, .op 10]) (.n2 (.n2 .leaf (.n1 (.n2 .leaf (.n2 (.n2 .leaf .leaf) (.n2 .leaf (.n2 (.n2 .leaf .leaf) (.n2 .leaf (.n2 (.n2 .leaf (.n2 .leaf .leaf)) (.n2 .leaf (.n2 (.n2 .leaf (.n2 .leaf .leaf)) (.n2 .leaf (.n2 (.n2 .leaf .leaf) .leaf)))))))))))) (.n2 .leaf .leaf))))
/- 247 (busbar/plan.Window).slot -/
def plan_Window_slot.an : An := (.n2 .leaf (.n2 (.reg [.op 0, .op 1, .op 2, .op 3, .op 4, .chk 1, .op 5, .op 6, .op 7]) (.n2 (.n2 .leaf (.n2 (.n2 (.reg [.op 0, .op 1, .op 3, .op 4, .op 5, .op 2, .chk 4, .chk 5, .op 6, .chk 4, .op 7, .op 8, .chk 4, .op 9, .op 10, .op 11, .op 12]) (.n2 .leaf .leaf)) .leaf)) (.n2 .leaf .leaf))))
/- 248 slices.IndexFunc[[]int,int] -/
def slices_IndexFunc.an : An := (.n2 .leaf (.n2 (.n2 .leaf (.n1 (.loop 0 [0, 1, 7, 8] (.n2 .leaf (.n2 (.n2 .leaf .leaf) (.n2 (.n1 (.n2 .leaf (.n2 .leaf (.n2 (.n2 .leaf .leaf) .leaf)))) .leaf)))))) (.n2 .leaf .leaf)))
/- 249 (*busbar/bus.Bus).is -/
def bus_Bus_is.an : An := (.n2 .leaf (.n2 .leaf .leaf))
/- 250 busbar/valid.named -/
def valid_named.an : An := (.n2 .leaf (.n2 (.n2 .leaf (.n2 (.n2 .leaf .leaf) .leaf)) (.n2 .leaf .leaf)))
/- 251 busbar/valid.twice -/
def valid_twice.an : An := (.n2 .leaf (.n2 (.n2 .leaf (.n1 (.loop 0 [0, 7, 8, 9] (.n2 .leaf (.n2 (.n2 .leaf .leaf) (.n2 (.n1 (.n2 .leaf (.n2 (.n2 .leaf (.n2 (.n2 .leaf .leaf) .leaf)) .leaf))) .leaf)))))) (.n2 .leaf .leaf)))
/- 252 slices.Index[[]int,int] -/
def slices_Index.an : An := (.n2 .leaf (.n2 (.n2 .leaf (.n1 (.loop 0 [0, 1, 7, 8] (.n2 .leaf (.n2 (.n2 .leaf .leaf) (.n2 (.n1 (.n2 .leaf (.n2 .leaf (.n2 (.n2 .leaf .leaf) .leaf)))) .leaf)))))) (.n2 .leaf .leaf)))
/- 253 slices.Contains[[]int,int] -/
def slices_Contains.an : An := (.n2 .leaf (.n2 .leaf .leaf))
/- 254 (busbar/cmd.Command).Clean -/
def cmd_Command_Clean.an : An := (.n2 .leaf (.n2 .leaf (.n2 .leaf (.n2 (.n2 .leaf (.n1 (.loop 0 [1, 2, 3, 4, 11, 12, 13] (.n2 .leaf (.n2 (.n2 .leaf .leaf) (.n2 (.n1 (.n2 .leaf .leaf)) .leaf)))))) (.join 1 [1, 2, 3] (.n2 (.n2 .leaf (.n2 .leaf .leaf)) (.n2 .leaf .leaf)))))))
/- 255 (busbar/cmd.Command).Right -/
def cmd_Command_Right.an : An := (.n2 .leaf (.n2 (.n2 .leaf (.n1 (.n2 (.n2 .leaf (.n2 .leaf (.n2 .leaf (.n2 .leaf .leaf)))) (.join 2 [1, 4, 5] (.n2 (.n2 .leaf .leaf) (.n2 (.n2 .leaf (.n2 .leaf (.n2 .leaf (.n2 .leaf .leaf)))) (.join 1 [1, 4, 9] (.n2 (.n2 .leaf .leaf) (.n2 .leaf (.n2 (.n2 .leaf .leaf) (.n2 (.n2 .leaf (.n2 .leaf .leaf)) (.join 0 [1, 20] (.n2 (.n2 .leaf .leaf) .leaf))))))))))))) (.n2 .leaf .leaf)))
/- 256 (*busbar/cmd.Command).bytes -/
def cmd_Command_bytes.an : An := (.n2 .leaf (.n2 (.n2 .leaf (.n1 (.n2 .leaf (.n2 (.n2 (.reg [.op 0, .op 1, .op 2, .op 3, .op 4, .op 5, .op 6, .op 7, .op 8, .op 9, .op 10, .op 11, .op 12, .op 13]) .leaf) (.n2 .leaf (.n2 (.n2 (.reg [.op 0, .op 1, .op 2, .op 3, .op 4, .op 5, .op 6, .op 7, .op 8, .op 9, .op 10]) .leaf) (.n2 .leaf (.n2 (.n2 (.reg [.op 0, .op 1, .op 2, .op 3, .op 4, .op 5, .op 6, .op 7]) .leaf) (.n2 .leaf (.n2 (.n2 .leaf .leaf) .leaf)))))))))) (.n2 .leaf .leaf)))
/- 257 (*busbar/cmd.Command).goes -/
def cmd_Command_goes.an : An := (.n2 .leaf (.n2 .leaf .leaf))
/- 258 busbar/active.To -/
def active_To.an : An := (.n2 .leaf (.n2 .leaf .leaf))
/- 259 slices.pdqsortOrdered[int] -/
def slices_pdqsortOrdered.an : An := (.n2 .leaf (.n2 .leaf (.n1 (.loop 0 [0, 1, 2, 3, 8, 9] (.n1 (.n2 .leaf (.n2 (.n2 .leaf (.n2 (.n2 .leaf .leaf) .leaf)) (.n2 (.n2 .leaf (.n2 (.n2 .leaf .leaf) .leaf)) (.n2 (.n2 .leaf (.n2 (.n2 .leaf .leaf) .leaf)) (.join 3 [0, 1, 2, 3, 8, 9, 10] (.n2 .leaf (.n2 (.n2 .leaf (.n2 (.n2 .leaf (.n2 .leaf .leaf)) .leaf)) (.join 2 [0, 1, 2, 3, 8, 9, 10, 11, 12] (.n2 (.n2 .leaf (.n2 (.n2 .leaf (.n2 .leaf .leaf)) .leaf)) (.join 1 [0, 1, 2, 3, 8, 9, 10, 11] (.n2 (.n2 (.reg [.op 0, .op 1, .op 2, .op 3, .op 4, .op 5, .op 6, .op 7, .op 8, .op 9, .op 10, .op 11, .op 12, .op 13, .op 14]) (.n2 (.n2 .leaf (.n2 .leaf .leaf)) .leaf)) (.n2 .leaf (.n2 .leaf (.n2 .leaf (.n2 .leaf (.n2 .leaf (.n2 (.n2 .leaf (.n2 .leaf .leaf)) (.n2 .leaf (.n2 .leaf .leaf))))))))))))))))))))))))
/- 260 math/bits.Len -/
def math_bits_Len.an : An := (.n2 .leaf (.n2 (.n2 (.n2 .leaf .leaf) .leaf) (.n2 .leaf .leaf)))
/- 261 busbar/serial.within -/
def serial_within.an : An := (.n2 .leaf (.n2 .leaf (.n2 (.n2 .leaf (.n2 (.n2 .leaf .leaf) .leaf)) (.n2 .leaf .leaf))))
/- 262 busbar/cell.Cell -/
def cell_Cell.an : An := (.n2 .leaf (.n2 (.n2 .leaf (.n2 (.n2 .leaf .leaf) .leaf)) (.n2 .leaf .leaf)))
/- 263 busbar/wires.lines -/
def wires_lines.an : An := (.n2 .leaf (.n2 (.n2 .leaf (.n2 (.n2 .leaf .leaf) .leaf)) (.n2 .leaf .leaf)))
/- 264 busbar/cell.Of -/
def cell_Of.an : An := (.n2 .leaf (.n2 (.n2 .leaf (.n2 (.n2 .leaf .leaf) .leaf)) (.n2 .leaf .leaf)))
/- 265 busbar/walk.from -/
def walk_from.an : An := (.n2 .leaf (.n2 .leaf (.n2 (.n2 .leaf (.n1 (.loop 0 [1, 2, 7, 12, 13] (.n2 .leaf (.n2 (.n2 .leaf .leaf) (.n2 (.n1 (.n2 .leaf (.n2 .leaf (.n2 .leaf (.n2 .leaf .leaf))))) .leaf)))))) (.n2 .leaf .leaf))))
/- 266 busbar/valid.named$1 -/
def valid_named_1.an : An := (.n2 .leaf (.n2 .leaf .leaf))
/- 267 (busbar/cmd.Command).message -/
def cmd_Command_message.an : An := (.n2 .leaf (.n2 (.n1 (.n2 .leaf (.n2 (.n2 .leaf .leaf) (.n2 .leaf (.n2 (.n2 .leaf .leaf) .leaf))))) (.n2 .leaf .leaf)))
/- 268 busbar/cmd.within -/
def cmd_within.an : An := (.n2 .leaf (.n2 .leaf .leaf))
/- 269 slices.insertionSortOrdered[int] -/
def slices_insertionSortOrdered.an : An := (.n2 .leaf (.n1 (.loop 0 [0, 1, 2, 6] (.n2 (.n2 .leaf (.n2 .leaf .leaf)) (.n2 (.n1 (.n2 .leaf (.n1 (.loop 1 [0, 1, 2, 6, 7] (.n2 (.n2 (.reg [.op 0, .op 1, .op 2, .op 3, .op 4, .op 5, .op 6, .op 7, .op 8, .op 9, .op 10, .op 11, .op 12, .op 13, .op 14]) (.n2 .leaf .leaf)) (.n2 (.n1 (.reg [.op 0, .op 1, .op 2, .op 3, .op 4, .op 5, .op 6, .op 7, .op 8, .op 9, .op 10, .op 11, .op 12, .op 13, .op 14, .op 15, .op 16, .op 17])) .leaf)))))) .leaf)))))
/- 270 slices.heapSortOrdered[int] -/
def slices_heapSortOrdered.an : An := (.n2 .leaf (.n2 .leaf (.n2 .leaf (.n2 (.n2 .leaf (.n1 (.loop 0 [0, 6, 7, 8, 9] (.n2 (.n2 .leaf (.n2 .leaf .leaf)) (.n2 (.n1 .leaf) .leaf))))) (.join 2 [0, 6, 7, 8] (.n2 .leaf (.n1 (.loop 1 [0, 6, 7, 10] (.n2 (.n2 .leaf (.n2 .leaf .leaf)) (.n2 (.n1 (.n2 (.reg [.op 0, .op 1, .op 2, .op 3, .op 4, .op 5, .op 6, .op 7, .op 8, .op 9, .op 10, .op 11, .op 12, .op 13, .op 14, .op 15, .op 16, .op 17, .op 18, .op 19]) .leaf)) .leaf))))))))))
/- 271 slices.breakPatternsOrdered[int] -/
def slices_breakPatternsOrdered.an : An := (.n2 .leaf (.n2 .leaf (.n2 (.n2 .leaf (.n2 .leaf (.n2 .leaf (.n1 (.loop 0 [0, 1, 6, 7, 8, 9] (.n2 (.n2 .leaf (.n2 .leaf .leaf)) (.n2 (.n1 (.n2 .leaf (.n2 (.n2 .leaf (.n2 .leaf .leaf)) (.join 1 [0, 1, 6, 7, 8, 9, 10] (.reg [.op 0, .op 1, .op 2, .op 3, .op 4, .op 5, .op 6, .op 7, .op 8, .op 9, .op 10, .op 11, .op 12, .op 13, .op 14, .op 15, .op 16, .op 17, .op 18, .op 19]))))) .leaf))))))) .leaf)))
/- 272 slices.choosePivotOrdered[int] -/
def slices_choosePivotOrdered.an : An := (.n2 .leaf (.n2 .leaf (.n2 .leaf (.n2 .leaf (.n2 .leaf (.n2 .leaf (.n2 (.n2 .leaf (.n2 (.n2 (.n2 .leaf (.n2 (.n2 .leaf (.n2 .leaf .leaf)) .leaf)) .leaf) .leaf)) (.join 0 [9, 11] (.n2 .leaf (.n1 (.n2 .leaf (.n2 (.n2 .leaf .leaf) (.n2 .leaf (.n2 (.n2 .leaf .leaf) (.n2 .leaf .leaf)))))))))))))))
/- 273 slices.reverseRangeOrdered[int] -/
def slices_reverseRangeOrdered.an : An := (.n2 .leaf (.n2 .leaf (.n1 (.loop 0 [0, 6, 7] (.n2 (.n2 .leaf (.n2 .leaf .leaf)) (.n1 (.n2 (.reg [.op 0, .op 1, .op 2, .op 3, .op 4, .op 5, .op 6, .op 7, .op 8, .op 9, .op 10, .op 11, .op 12, .op 13, .op 14, .op 15]) (.n2 .leaf .leaf))))))))
/- 274 slices.partialInsertionSortOrdered[int] -/
def slices_partialInsertionSortOrdered.an : An := (.n2 .leaf (.n2 .leaf (.n2 (.n2 .leaf (.n1 (.loop 0 [0, 1, 2, 7, 8] (.n2 (.n2 .leaf (.n2 .leaf .leaf)) (.n2 (.n1 (.n2 (.n1 (.loop 1 [0, 1, 2, 7, 8] (.n2 (.n2 (.reg [.op 0, .op 1, .op 2, .op 3, .op 4, .op 5, .op 6, .op 7, .op 8, .op 9, .op 10, .op 11, .op 12, .op 13, .op 14, .op 15]) (.n2 .leaf .leaf)) (.n1 .leaf)))) (.join 5 [0, 1, 2, 7, 8] (.n2 (.n2 .leaf (.n2 (.n2 .leaf .leaf) .leaf)) (.n2 (.n2 .leaf (.n2 (.n2 .leaf .leaf) .leaf)) (.n2 (.reg [.op 0, .op 1, .op 2, .op 3, .op 4, .op 5, .op 6, .op 7, .op 8, .op 9, .op 10, .op 11, .op 12, .op 13, .op 14, .op 15, .op 16, .op 17]) (.n2 (.n2 .leaf (.n2 (.n2 .leaf (.n1 (.loop 2 [0, 1, 2, 7, 8, 9] (.n2 (.n2 .leaf (.n2 .leaf .leaf)) (.n2 (.n1 (.n2 (.n2 (.reg [.op 0, .op 1, .op 2, .op 3, .op 4, .op 5, .op 6, .op 7, .op 8, .op 9, .op 10]) (.n2 .leaf .leaf)) (.reg [.op 0, .op 1, .op 2, .op 3, .op 4, .op 5, .op 6, .op 7, .op 8, .op 9, .op 10, .op 11, .op 12, .op 13, .op 14, .op 15, .op 16, .op 17]))) .leaf))))) .leaf)) (.join 4 [0, 1, 2, 7, 8] (.n2 .leaf (.n2 (.n2 .leaf (.n1 (.loop 3 [0, 1, 2, 7, 8, 10] (.n2 (.n2 .leaf (.n2 .leaf .leaf)) (.n2 (.n1 (.n2 (.n2 (.reg [.op 0, .op 1, .op 2, .op 3, .op 4, .op 5, .op 6, .op 7, .op 8, .op 9, .op 10]) (.n2 .leaf .leaf)) (.reg [.op 0, .op 1, .op 2, .op 3, .op 4, .op 5, .op 6, .op 7, .op 8, .op 9, .op 10, .op 11, .op 12, .op 13, .op 14, .op 15, .op 16, .op 17]))) .leaf))))) .leaf)))))))))) .leaf))))) (.n2 .leaf .leaf))))
/- 275 cmp.Less[int] -/
def cmp_Less.an : An := (.n2 .leaf (.n2 .leaf .leaf))
/- 276 slices.partitionEqualOrdered[int] -/
def slices_partitionEqualOrdered.an : An := (.n2 .leaf (.n2 (.reg [.op 0, .op 1, .op 2, .op 3, .op 4, .op 5, .op 6, .op 7, .op 8, .op 9, .op 10, .op 11, .op 12, .op 13, .op 14, .op 15]) (.n2 .leaf (.n2 (.n1 (.loop 0 [0, 1, 9, 10] (.n1 (.n2 (.n1 (.loop 1 [0, 1, 9, 10] (.n2 (.n2 (.reg [.op 0, .op 1, .op 2, .op 3, .op 4, .op 5, .op 6, .op 7, .op 8, .op 9, .op 10, .op 11, .op 12, .op 13, .op 14]) (.n2 .leaf .leaf)) (.n1 .leaf)))) (.join 4 [0, 1, 9, 10] (.n2 (.n1 (.loop 2 [0, 1, 9, 10] (.n2 (.n2 (.reg [.op 0, .op 1, .op 2, .op 3, .op 4, .op 5, .op 6, .op 7, .op 8, .op 9, .op 10, .op 11, .op 12, .op 13]) (.n2 .leaf .leaf)) (.n1 .leaf)))) (.join 3 [0, 1, 9, 10] (.n2 (.n2 .leaf (.n2 .leaf .leaf)) (.n2 (.reg [.op 0, .op 1, .op 2, .op 3, .op 4, .op 5, .op 6, .op 7, .op 8, .op 9, .op 10, .op 11, .op 12, .op 13, .op 14, .op 15]) (.n2 .leaf .leaf)))))))))) (.n2 .leaf .leaf)))))
/- 277 slices.partitionOrdered[int] -/
def slices_partitionOrdered.an : An := (.n2 .leaf (.n2 (.reg [.op 0, .op 1, .op 2, .op 3, .op 4, .op 5, .op 6, .op 7, .op 8, .op 9, .op 10, .op 11, .op 12, .op 13, .op 14, .op 15]) (.n2 .leaf (.n2 (.n1 (.loop 0 [0, 1, 10, 11] (.n2 (.n2 (.reg [.op 0, .op 1, .op 2, .op 3, .op 4, .op 5, .op 6, .op 7, .op 8, .op 9, .op 10, .op 11, .op 12, .op 13]) (.n2 .leaf .leaf)) (.n1 .leaf)))) (.join 9 [0, 1, 10, 11] (.n2 (.n1 (.loop 1 [0, 1, 10, 11] (.n2 (.n2 (.reg [.op 0, .op 1, .op 2, .op 3, .op 4, .op 5, .op 6, .op 7, .op 8, .op 9, .op 10, .op 11, .op 12, .op 13, .op 14]) (.n2 .leaf .leaf)) (.n1 .leaf)))) (.join 8 [0, 1, 10, 11] (.n2 (.n2 .leaf (.n2 (.n2 (.reg [.op 0, .op 1, .op 2, .op 3, .op 4, .op 5, .op 6, .op 7, .op 8, .op 9, .op 10, .op 11, .op 12, .op 13, .op 14, .op 15]) (.n2 .leaf .leaf)) .leaf)) (.n2 (.reg [.op 0, .op 1, .op 2, .op 3, .op 4, .op 5, .op 6, .op 7, .op 8, .op 9, .op 10, .op 11, .op 12, .op 13, .op 14, .op 15]) (.n2 .leaf (.n2 .leaf (.n2 (.n1 (.loop 2 [0, 1, 10, 11] (.n1 (.n2 (.n1 (.loop 3 [0, 1, 10, 11] (.n2 (.n2 (.reg [.op 0, .op 1, .op 2, .op 3, .op 4, .op 5, .op 6, .op 7, .op 8, .op 9, .op 10, .op 11, .op 12, .op 13]) (.n2 .leaf .leaf)) (.n1 .leaf)))) (.join 6 [0, 1, 10, 11] (.n2 (.n1 (.loop 4 [0, 1, 10, 11] (.n2 (.n2 (.reg [.op 0, .op 1, .op 2, .op 3, .op 4, .op 5, .op 6, .op 7, .op 8, .op 9, .op 10, .op 11, .op 12, .op 13, .op 14]) (.n2 .leaf .leaf)) (.n1 .leaf)))) (.join 5 [0, 1, 10, 11] (.n2 (.n2 .leaf (.n2 .leaf .leaf)) (.n2 (.reg [.op 0, .op 1, .op 2, .op 3, .op 4, .op 5, .op 6, .op 7, .op 8, .op 9, .op 10, .op 11, .op 12, .op 13, .op 14, .op 15]) (.n2 .leaf .leaf)))))))))) (.join 7 [0, 1, 11] (.n2 (.reg [.op 0, .op 1, .op 2, .op 3, .op 4, .op 5, .op 6, .op 7, .op 8, .op 9, .op 10, .op 11, .op 12, .op 13, .op 14, .op 15]) (.n2 .leaf .leaf)))))))))))))))
/- 278 math/bits.Len32 -/
def math_bits_Len32.an : An := (.n2 .leaf (.n2 (.n2 .leaf (.n2 (.n2 .leaf .leaf) .leaf)) (.join 1 [0, 2] (.n2 (.n2 .leaf (.n2 (.n2 .leaf .leaf) .leaf)) (.join 0 [0, 2] (.n2 .leaf .leaf))))))
/- 279 math/bits.Len64 -/
def math_bits_Len64.an : An := (.n2 .leaf (.n2 (.n2 .leaf (.n2 (.n2 .leaf .leaf) .leaf)) (.join 2 [0, 2] (.n2 (.n2 .leaf (.n2 (.n2 .leaf .leaf) .leaf)) (.join 1 [0, 2] (.n2 (.n2 .leaf (.n2 (.n2 .leaf .leaf) .leaf)) (.join 0 [0, 2] (.n2 .leaf .leaf))))))))
/- 280 slices.siftDownOrdered[int] -/
def slices_siftDownOrdered.an : An := (.n2 .leaf (.n1 (.loop 0 [0, 2, 3, 8] (.n1 (.n2 .leaf (.n2 (.n2 .leaf (.n2 .leaf .leaf)) (.n2 (.n2 (.reg [.op 0, .op 1, .op 2, .op 3, .op 4, .op 5, .op 6, .op 7, .op 8, .op 9, .op 10, .op 11, .op 12, .op 13, .op 14, .op 15, .op 16, .op 17, .op 18, .op 19]) (.n2 .leaf .leaf)) (.join 1 [0, 2, 3, 8, 9] (.n2 (.n2 (.reg [.op 0, .op 1, .op 2, .op 3, .op 4, .op 5, .op 6, .op 7, .op 8, .op 9, .op 10, .op 11, .op 12, .op 13]) (.n2 .leaf .leaf)) (.n2 (.reg [.op 0, .op 1, .op 2, .op 3, .op 4, .op 5, .op 6, .op 7, .op 8, .op 9, .op 10, .op 11, .op 12, .op 13, .op 14, .op 15, .op 16, .op 17, .op 18, .op 19, .op 20, .op 21, .op 22, .op 23]) .leaf))))))))))
/- 281 slices.nextPowerOfTwo -/
def slices_nextPowerOfTwo.an : An := (.n2 .leaf (.n2 .leaf .leaf))
/- 282 (*slices.xorshift).Next -/
def slices_xorshift_Next.an : An := (.n2 .leaf (.n2 (.reg [.op 0, .op 1, .op 2, .op 3, .op 4, .op 5, .op 6, .op 7, .op 8, .op 9]) (.n2 (.reg [.op 0, .op 1, .op 2, .op 3, .op 4, .op 5, .op 6, .op 7, .op 8, .op 9]) (.n2 (.reg [.op 0, .op 1, .op 2, .op 3, .op 4, .op 5, .op 6, .op 7, .op 8, .op 9]) (.n2 .leaf .leaf)))))
/- 283 slices.medianAdjacentOrdered[int] -/
def slices_medianAdjacentOrdered.an : An := (.n2 .leaf (.n2 .leaf .leaf))
/- 284 slices.medianOrdered[int] -/
def slices_medianOrdered.an : An := (.n2 .leaf (.n2 .leaf (.n2 .leaf (.n2 .leaf (.n2 .leaf .leaf)))))
/- 285 cmp.isNaN[int] -/
def cmp_isNaN.an : An := (.n2 .leaf (.n2 .leaf .leaf))
/- 286 slices.order2Ordered[int] -/
def slices_order2Ordered.an : An := (.n2 .leaf (.n2 (.n2 (.reg [.op 0, .op 1, .op 2, .op 3, .op 4, .op 5, .op 6, .op 7, .op 8]) (.n2 (.n2 .leaf (.n2 .leaf .leaf)) .leaf)) (.n2 .leaf .leaf)))
end Go.Proofs.YtbgdidfegkmafaaGreat
