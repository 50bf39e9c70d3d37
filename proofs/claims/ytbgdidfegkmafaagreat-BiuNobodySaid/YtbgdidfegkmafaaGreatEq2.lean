import Derived.Test.YtbgdidfegkmafaaGreatTb
import Derived.Test.YtbgdidfegkmafaaGreatAmD
namespace Go.Proofs.YtbgdidfegkmafaaGreat
open Go Go.AM Go.Proofs
set_option linter.unusedVariables false
set_option maxRecDepth 100000
set_option maxHeartbeats 4000000
/- 41 busbar/busbarlaw23.Table -/
noncomputable def busbarlaw23_Table.c1 (env : Env) (J : JT) (x5 : V) (h : H) : Ans :=
 bnd (ld (some 137) h x5) fun t16_11 =>
 bnd2 (env 80 [t16_11] h) fun t17_12 h_13 =>
 bnd (ext t17_12 0) fun t18_14 =>
 bnd (ext t17_12 1) fun t19_15 =>
 some (t18_14, h_13)
noncomputable def busbarlaw23_Table.c0 (env : Env) (J : JT) (x1 x2 : V) (h : H) : Ans :=
 bnd (ld (some 24) h x2) fun t10_3 =>
 bnd2 (env 79 [t10_3, x1] h) fun t12_4 h_5 =>
 bnd (ext t12_4 0) fun t13_6 =>
 bnd (ext t12_4 1) fun t14_7 =>
 bnd2 (al (some (some 137)) (zeroV Tryz.prog 138) h_5) fun t5_8 h_9 =>
 bnd (st (some 137) h_9 t5_8 t13_6) fun h_10 =>
 busbarlaw23_Table.c1 env J t5_8 h_10
noncomputable def busbarlaw23_Table.fs (env : Env) (J : JT) (x0 x1 : V) (h : H) : Ans :=
 bnd2 (box (some (some 24)) h x0) fun t2_1 h_2 =>
 busbarlaw23_Table.c0 env J x1 t2_1 h_2
theorem busbarlaw23_Table.fe_eq (env : Env) (J : JT) (x0 x1 : V) (h : H) : evF Tryz.prog env J 41 busbarlaw23_Table.an [x0, x1] h = busbarlaw23_Table.fs env J x0 x1 h := by kernel_rfl
theorem busbarlaw23_Table.eq {tb : Nat → Option Fa} (ht : tb 41 = some (.plain busbarlaw23_Table.an)) (x0 x1 : V) (h : H) : Ei Tryz.prog tb 41 [x0, x1] h = busbarlaw23_Table.fs (Ei Tryz.prog tb) (Ji Tryz.prog tb 41 busbarlaw23_Table.an) x0 x1 h := (Ei_eq (an := busbarlaw23_Table.an) ht _ h).trans (busbarlaw23_Table.fe_eq _ _ x0 x1 h)
noncomputable def busbarlaw23_Table.sf : Sf := ⟨fun env J vs h => match vs with | [x0, x1] => busbarlaw23_Table.fs env J x0 x1 h | _ => none, fun env J id vs h => none⟩
theorem busbarlaw23_Table.sfok {tb : Nat → Option Fa} (ht : tb 41 = some (.plain busbarlaw23_Table.an)) : SfOk Tryz.prog tb 41 busbarlaw23_Table.sf := SfOk.plain (an := busbarlaw23_Table.an) ht (fun env J vs h r he => by
  simp only [busbarlaw23_Table.sf] at he; split at he
  · rw [busbarlaw23_Table.fe_eq]; exact he
  · cases he) (fun env J id vs h r he => by simp only [busbarlaw23_Table.sf] at he; cases he)
/- 42 (*busbar/pair.Pair).Join -/
noncomputable def pair_Pair_Join.c1 (env : Env) (J : JT) (x0 x3 x5 : V) (h : H) : Ans :=
 bnd (mkFn (.func 107) [] [x3, x5]) fun t7_6 =>
 bnd2 (env 106 [x0, t7_6] h) fun t8_7 h_8 =>
 bnd (ld none h_8 x5) fun t9_9 =>
 some (t9_9, h_8)
noncomputable def pair_Pair_Join.c0 (env : Env) (J : JT) (x0 x3 : V) (h : H) : Ans :=
 bnd2 (al (some none) (zeroV Tryz.prog 28) h) fun t5_3 h_4 =>
 bnd (st none h_4 t5_3 (.int .i64 1)) fun h_5 =>
 pair_Pair_Join.c1 env J x0 x3 t5_3 h_5
noncomputable def pair_Pair_Join.fs (env : Env) (J : JT) (x0 x1 : V) (h : H) : Ans :=
 bnd2 (box (some none) h x1) fun t3_1 h_2 =>
 pair_Pair_Join.c0 env J x0 t3_1 h_2
theorem pair_Pair_Join.fe_eq (env : Env) (J : JT) (x0 x1 : V) (h : H) : evF Tryz.prog env J 42 pair_Pair_Join.an [x0, x1] h = pair_Pair_Join.fs env J x0 x1 h := by kernel_rfl
theorem pair_Pair_Join.eq {tb : Nat → Option Fa} (ht : tb 42 = some (.plain pair_Pair_Join.an)) (x0 x1 : V) (h : H) : Ei Tryz.prog tb 42 [x0, x1] h = pair_Pair_Join.fs (Ei Tryz.prog tb) (Ji Tryz.prog tb 42 pair_Pair_Join.an) x0 x1 h := (Ei_eq (an := pair_Pair_Join.an) ht _ h).trans (pair_Pair_Join.fe_eq _ _ x0 x1 h)
noncomputable def pair_Pair_Join.sf : Sf := ⟨fun env J vs h => match vs with | [x0, x1] => pair_Pair_Join.fs env J x0 x1 h | _ => none, fun env J id vs h => none⟩
theorem pair_Pair_Join.sfok {tb : Nat → Option Fa} (ht : tb 42 = some (.plain pair_Pair_Join.an)) : SfOk Tryz.prog tb 42 pair_Pair_Join.sf := SfOk.plain (an := pair_Pair_Join.an) ht (fun env J vs h r he => by
  simp only [pair_Pair_Join.sf] at he; split at he
  · rw [pair_Pair_Join.fe_eq]; exact he
  · cases he) (fun env J id vs h r he => by simp only [pair_Pair_Join.sf] at he; cases he)
/- 43 (*busbar/pair.Pair).Ready -/
noncomputable def pair_Pair_Ready.c0 (env : Env) (J : JT) (x2 x3 : V) (h : H) : Ans :=
 bnd (ld none h x2) fun t4_5 =>
 bnd (mkFn (.func 108) [] [x2, x3]) fun t5_6 =>
 bnd2 (env 106 [t4_5, t5_6] h) fun t6_7 h_8 =>
 some (.tup [], h_8)
noncomputable def pair_Pair_Ready.fs (env : Env) (J : JT) (x0 x1 : V) (h : H) : Ans :=
 bnd2 (box (some none) h x0) fun t2_1 h_2 =>
 bnd2 (box (some none) h_2 x1) fun t3_3 h_4 =>
 pair_Pair_Ready.c0 env J t2_1 t3_3 h_4
theorem pair_Pair_Ready.fe_eq (env : Env) (J : JT) (x0 x1 : V) (h : H) : evF Tryz.prog env J 43 pair_Pair_Ready.an [x0, x1] h = pair_Pair_Ready.fs env J x0 x1 h := by kernel_rfl
theorem pair_Pair_Ready.eq {tb : Nat → Option Fa} (ht : tb 43 = some (.plain pair_Pair_Ready.an)) (x0 x1 : V) (h : H) : Ei Tryz.prog tb 43 [x0, x1] h = pair_Pair_Ready.fs (Ei Tryz.prog tb) (Ji Tryz.prog tb 43 pair_Pair_Ready.an) x0 x1 h := (Ei_eq (an := pair_Pair_Ready.an) ht _ h).trans (pair_Pair_Ready.fe_eq _ _ x0 x1 h)
noncomputable def pair_Pair_Ready.sf : Sf := ⟨fun env J vs h => match vs with | [x0, x1] => pair_Pair_Ready.fs env J x0 x1 h | _ => none, fun env J id vs h => none⟩
theorem pair_Pair_Ready.sfok {tb : Nat → Option Fa} (ht : tb 43 = some (.plain pair_Pair_Ready.an)) : SfOk Tryz.prog tb 43 pair_Pair_Ready.sf := SfOk.plain (an := pair_Pair_Ready.an) ht (fun env J vs h r he => by
  simp only [pair_Pair_Ready.sf] at he; split at he
  · rw [pair_Pair_Ready.fe_eq]; exact he
  · cases he) (fun env J id vs h r he => by simp only [pair_Pair_Ready.sf] at he; cases he)
/- 44 (*busbar/pair.Pair).Drive -/
noncomputable def pair_Pair_Drive.c4 (env : Env) (J : JT) (x3 x7 x8 x13 : V) (h : H) : Ans :=
 J 0 [x3, x7, x8, x13] h
noncomputable def pair_Pair_Drive.c3 (env : Env) (J : JT) (x3 x7 x8 : V) (h : H) : Ans :=
 pair_Pair_Drive.c4 env J x3 x7 x8 (.int .i64 0) h
noncomputable def pair_Pair_Drive.c2 (env : Env) (J : JT) (x3 x7 : V) (h : H) : Ans :=
 pair_Pair_Drive.c3 env J x3 x7 (.int .u8 0) h
noncomputable def pair_Pair_Drive.c1 (env : Env) (J : JT) (x3 x4 x5 x7 : V) (h : H) : Ans :=
 bnd (ld none h x3) fun t10_9 =>
 bnd (mkFn (.func 111) [] [x4, x3, x5, x7]) fun t11_10 =>
 bnd2 (env 106 [t10_9, t11_10] h) fun t12_11 h_12 =>
 pair_Pair_Drive.c2 env J x3 x7 h_12
noncomputable def pair_Pair_Drive.c0 (env : Env) (J : JT) (x3 x4 x5 : V) (h : H) : Ans :=
 bnd2 (al (some (some 156)) (zeroV Tryz.prog 156) h) fun t7_7 h_8 =>
 pair_Pair_Drive.c1 env J x3 x4 x5 t7_7 h_8
noncomputable def pair_Pair_Drive.fs (env : Env) (J : JT) (x0 x1 x2 : V) (h : H) : Ans :=
 bnd2 (box (some none) h x0) fun t3_1 h_2 =>
 bnd2 (box (some (some 90)) h_2 x1) fun t4_3 h_4 =>
 bnd2 (box (some none) h_4 x2) fun t5_5 h_6 =>
 pair_Pair_Drive.c0 env J t3_1 t4_3 t5_5 h_6
theorem pair_Pair_Drive.fe_eq (env : Env) (J : JT) (x0 x1 x2 : V) (h : H) : evF Tryz.prog env J 44 pair_Pair_Drive.an [x0, x1, x2] h = pair_Pair_Drive.fs env J x0 x1 x2 h := by kernel_rfl
noncomputable def pair_Pair_Drive.c8 (env : Env) (J : JT) (x3 x7 x8 x9 x13 x19 : V) (h : H) : Ans :=
 cnd x19 (
 bnd (ld none h x3) fun t21_17 =>
 bnd (nilChk t21_17) fun t23_18 =>
 bnd (fieldA (some (some 162, (some 161))) t23_18 6) fun t24_19 =>
 bnd (indexA (.arr (some 161) 2 none) t24_19 x9) fun t25_20 =>
 bnd (ld none h t25_20) fun t26_21 =>
 bnd2 (bslc (some (47, none, 1)) (zeroV Tryz.prog 47) 2 [(0, x8), (1, t26_21)] h) fun t27_22 h_23 =>
 bnd2 (env 33 [t27_22] h_23) fun t28_24 h_25 =>
 bnd (bin .add x13 (.int .i64 1)) fun t29_26 =>
 J 0 [x3, x7, t28_24, t29_26] h_25) (
 bnd (bin .add x13 (.int .i64 1)) fun t29_27 =>
 J 0 [x3, x7, x8, t29_27] h)
noncomputable def pair_Pair_Drive.c7 (env : Env) (J : JT) (x3 x7 x8 x9 x13 : V) (h : H) : Ans :=
 bnd (bin .sub (.int .i64 1) x9) fun t17_14 =>
 bnd (indexA (.arr (some 156) 2 none) x7 t17_14) fun t18_15 =>
 bnd (ld none h t18_15) fun t19_16 =>
 pair_Pair_Drive.c8 env J x3 x7 x8 x9 x13 t19_16 h
noncomputable def pair_Pair_Drive.c6 (env : Env) (J : JT) (x3 x7 x8 x13 : V) (h : H) : Ans :=
 pair_Pair_Drive.c7 env J x3 x7 x8 x13 x13 h
noncomputable def pair_Pair_Drive.c5 (env : Env) (J : JT) (x3 x7 x8 x13 x14 : V) (h : H) : Ans :=
 cnd x14 (
 pair_Pair_Drive.c6 env J x3 x7 x8 x13 h) (
 some (x8, h))
noncomputable def pair_Pair_Drive.p0 (env : Env) (J : JT) (x3 x7 x8 x13 : V) (h : H) : Ans :=
 bnd (bin .lss x13 (.int .i64 2)) fun t14_13 =>
 pair_Pair_Drive.c5 env J x3 x7 x8 x13 t14_13 h
theorem pair_Pair_Drive.p0_eq (env : Env) (J : JT) (x3 x7 x8 x13 : V) (h : H) : evP Tryz.prog env J 44 pair_Pair_Drive.an 0 [x3, x7, x8, x13] h = pair_Pair_Drive.p0 env J x3 x7 x8 x13 h := by kernel_rfl
theorem pair_Pair_Drive.eq {tb : Nat → Option Fa} (ht : tb 44 = some (.plain pair_Pair_Drive.an)) (x0 x1 x2 : V) (h : H) : Ei Tryz.prog tb 44 [x0, x1, x2] h = pair_Pair_Drive.fs (Ei Tryz.prog tb) (Ji Tryz.prog tb 44 pair_Pair_Drive.an) x0 x1 x2 h := (Ei_eq (an := pair_Pair_Drive.an) ht _ h).trans (pair_Pair_Drive.fe_eq _ _ x0 x1 x2 h)
theorem pair_Pair_Drive.J0_eq {tb : Nat → Option Fa} (x3 x7 x8 x13 : V) (h : H) : Ji Tryz.prog tb 44 pair_Pair_Drive.an 0 [x3, x7, x8, x13] h = pair_Pair_Drive.p0 (Ei Tryz.prog tb) (Ji Tryz.prog tb 44 pair_Pair_Drive.an) x3 x7 x8 x13 h := (Ji_eq _ _ h).trans (pair_Pair_Drive.p0_eq _ _ x3 x7 x8 x13 h)
noncomputable def pair_Pair_Drive.sf : Sf := ⟨fun env J vs h => match vs with | [x0, x1, x2] => pair_Pair_Drive.fs env J x0 x1 x2 h | _ => none, fun env J id vs h => bif Nat.beq id 0 then (match vs with | [x3, x7, x8, x13] => pair_Pair_Drive.p0 env J x3 x7 x8 x13 h | _ => none) else (none)⟩
theorem pair_Pair_Drive.sfok {tb : Nat → Option Fa} (ht : tb 44 = some (.plain pair_Pair_Drive.an)) : SfOk Tryz.prog tb 44 pair_Pair_Drive.sf := SfOk.plain (an := pair_Pair_Drive.an) ht (fun env J vs h r he => by
  simp only [pair_Pair_Drive.sf] at he; split at he
  · rw [pair_Pair_Drive.fe_eq]; exact he
  · cases he) (fun env J id vs h r he => by
  simp only [pair_Pair_Drive.sf] at he
  cases hb : Nat.beq id 0
  case true =>
    rw [hb] at he; rw [Nat.eq_of_beq_eq_true hb]; simp only [cond_true] at he; split at he
    · rw [pair_Pair_Drive.p0_eq]; exact he
    · cases he
  rw [hb] at he; simp only [cond_false] at he; clear hb
  cases he)
/- 45 (*busbar/pair.Pair).Unit -/
noncomputable def pair_Pair_Unit.c3 (env : Env) (J : JT) (x0 : V) (h : H) : Ans :=
 bnd (nilChk x0) fun t14_7 =>
 bnd (fieldA (some (some 162, (some 155))) t14_7 1) fun t15_8 =>
 bnd (indexA (.arr (some 155) 2 none) t15_8 (.int .i64 0)) fun t16_9 =>
 bnd (ld none h t16_9) fun t17_10 =>
 some (t17_10, h)
noncomputable def pair_Pair_Unit.c2 (env : Env) (J : JT) (x0 x7 : V) (h : H) : Ans :=
 cnd x7 (
 bnd (nilChk x0) fun t9_3 =>
 bnd (fieldA (some (some 162, (some 155))) t9_3 1) fun t10_4 =>
 bnd (indexA (.arr (some 155) 2 none) t10_4 (.int .i64 1)) fun t11_5 =>
 bnd (ld none h t11_5) fun t12_6 =>
 some (t12_6, h)) (
 pair_Pair_Unit.c3 env J x0 h)
noncomputable def pair_Pair_Unit.c1 (env : Env) (J : JT) (x0 x1 : V) (h : H) : Ans :=
 pair_Pair_Unit.c2 env J x0 x1 h
noncomputable def pair_Pair_Unit.c0 (env : Env) (J : JT) (x0 x1 : V) (h : H) : Ans :=
 bnd2 (env 113 [x0] h) fun t6_1 h_2 =>
 cnd t6_1 (
 some (.nilp, h_2)) (
 pair_Pair_Unit.c1 env J x0 x1 h_2)
noncomputable def pair_Pair_Unit.fs (env : Env) (J : JT) (x0 x1 : V) (h : H) : Ans :=
 pair_Pair_Unit.c0 env J x0 x1 h
theorem pair_Pair_Unit.fe_eq (env : Env) (J : JT) (x0 x1 : V) (h : H) : evF Tryz.prog env J 45 pair_Pair_Unit.an [x0, x1] h = pair_Pair_Unit.fs env J x0 x1 h := by kernel_rfl
theorem pair_Pair_Unit.eq {tb : Nat → Option Fa} (ht : tb 45 = some (.plain pair_Pair_Unit.an)) (x0 x1 : V) (h : H) : Ei Tryz.prog tb 45 [x0, x1] h = pair_Pair_Unit.fs (Ei Tryz.prog tb) (Ji Tryz.prog tb 45 pair_Pair_Unit.an) x0 x1 h := (Ei_eq (an := pair_Pair_Unit.an) ht _ h).trans (pair_Pair_Unit.fe_eq _ _ x0 x1 h)
noncomputable def pair_Pair_Unit.sf : Sf := ⟨fun env J vs h => match vs with | [x0, x1] => pair_Pair_Unit.fs env J x0 x1 h | _ => none, fun env J id vs h => none⟩
theorem pair_Pair_Unit.sfok {tb : Nat → Option Fa} (ht : tb 45 = some (.plain pair_Pair_Unit.an)) : SfOk Tryz.prog tb 45 pair_Pair_Unit.sf := SfOk.plain (an := pair_Pair_Unit.an) ht (fun env J vs h r he => by
  simp only [pair_Pair_Unit.sf] at he; split at he
  · rw [pair_Pair_Unit.fe_eq]; exact he
  · cases he) (fun env J id vs h r he => by simp only [pair_Pair_Unit.sf] at he; cases he)
/- 46 (busbar/plan.Slot).Pulse -/
noncomputable def plan_Slot_Pulse.c2 (env : Env) (J : JT) (x1 x5 x6 : V) (h : H) : Ans :=
 cnd x6 (
 bnd (fieldA (some (some 58, none)) x1 2) fun t8_6 =>
 bnd (ld none h t8_6) fun t9_7 =>
 bnd (bin .sub t9_7 (.int .i64 80)) fun t10_8 =>
 bnd (fieldA (some (some 58, none)) x1 2) fun t11_9 =>
 bnd (ld none h t11_9) fun t12_10 =>
 bnd (bin .sub t12_10 (.int .i64 40)) fun t13_11 =>
 retV h [t10_8,t13_11]) (
 bnd (binE false .int x5 (.int .i64 2)) fun t15_12 =>
 cnd t15_12 (
 J 0 [x1, x5, t15_12] h) (
 bnd (binE false .int x5 (.int .i64 4)) fun t16_13 =>
 J 0 [x1, x5, t16_13] h))
noncomputable def plan_Slot_Pulse.c1 (env : Env) (J : JT) (x1 x5 : V) (h : H) : Ans :=
 bnd (binE false .int x5 (.int .i64 0)) fun t7_5 =>
 plan_Slot_Pulse.c2 env J x1 x5 t7_5 h
noncomputable def plan_Slot_Pulse.c0 (env : Env) (J : JT) (x1 : V) (h : H) : Ans :=
 bnd (fieldA (some (some 58, none)) x1 0) fun t4_3 =>
 bnd (ld none h t4_3) fun t5_4 =>
 plan_Slot_Pulse.c1 env J x1 t5_4 h
noncomputable def plan_Slot_Pulse.fs (env : Env) (J : JT) (x0 : V) (h : H) : Ans :=
 bnd2 (box (some (some 58)) h x0) fun t1_1 h_2 =>
 plan_Slot_Pulse.c0 env J t1_1 h_2
theorem plan_Slot_Pulse.fe_eq (env : Env) (J : JT) (x0 : V) (h : H) : evF Tryz.prog env J 46 plan_Slot_Pulse.an [x0] h = plan_Slot_Pulse.fs env J x0 h := by kernel_rfl
noncomputable def plan_Slot_Pulse.c3 (env : Env) (J : JT) (x1 x17 : V) (h : H) : Ans :=
 cnd x17 (
 bnd (fieldA (some (some 58, none)) x1 2) fun t19_15 =>
 bnd (ld none h t19_15) fun t20_16 =>
 bnd (bin .sub t20_16 (.int .i64 60)) fun t21_17 =>
 retV h [(.int .i64 60),t21_17]) (
 retV h [(.int .i64 0),(.int .i64 0)])
noncomputable def plan_Slot_Pulse.p0 (env : Env) (J : JT) (x1 x5 x14 : V) (h : H) : Ans :=
 cnd x14 (
 retV h [(.int .i64 40),(.int .i64 80)]) (
 bnd (binE false .int x5 (.int .i64 3)) fun t18_14 =>
 plan_Slot_Pulse.c3 env J x1 t18_14 h)
theorem plan_Slot_Pulse.p0_eq (env : Env) (J : JT) (x1 x5 x14 : V) (h : H) : evP Tryz.prog env J 46 plan_Slot_Pulse.an 0 [x1, x5, x14] h = plan_Slot_Pulse.p0 env J x1 x5 x14 h := by kernel_rfl
theorem plan_Slot_Pulse.eq {tb : Nat → Option Fa} (ht : tb 46 = some (.plain plan_Slot_Pulse.an)) (x0 : V) (h : H) : Ei Tryz.prog tb 46 [x0] h = plan_Slot_Pulse.fs (Ei Tryz.prog tb) (Ji Tryz.prog tb 46 plan_Slot_Pulse.an) x0 h := (Ei_eq (an := plan_Slot_Pulse.an) ht _ h).trans (plan_Slot_Pulse.fe_eq _ _ x0 h)
theorem plan_Slot_Pulse.J0_eq {tb : Nat → Option Fa} (x1 x5 x14 : V) (h : H) : Ji Tryz.prog tb 46 plan_Slot_Pulse.an 0 [x1, x5, x14] h = plan_Slot_Pulse.p0 (Ei Tryz.prog tb) (Ji Tryz.prog tb 46 plan_Slot_Pulse.an) x1 x5 x14 h := (Ji_eq _ _ h).trans (plan_Slot_Pulse.p0_eq _ _ x1 x5 x14 h)
noncomputable def plan_Slot_Pulse.sf : Sf := ⟨fun env J vs h => match vs with | [x0] => plan_Slot_Pulse.fs env J x0 h | _ => none, fun env J id vs h => bif Nat.beq id 0 then (match vs with | [x1, x5, x14] => plan_Slot_Pulse.p0 env J x1 x5 x14 h | _ => none) else (none)⟩
theorem plan_Slot_Pulse.sfok {tb : Nat → Option Fa} (ht : tb 46 = some (.plain plan_Slot_Pulse.an)) : SfOk Tryz.prog tb 46 plan_Slot_Pulse.sf := SfOk.plain (an := plan_Slot_Pulse.an) ht (fun env J vs h r he => by
  simp only [plan_Slot_Pulse.sf] at he; split at he
  · rw [plan_Slot_Pulse.fe_eq]; exact he
  · cases he) (fun env J id vs h r he => by
  simp only [plan_Slot_Pulse.sf] at he
  cases hb : Nat.beq id 0
  case true =>
    rw [hb] at he; rw [Nat.eq_of_beq_eq_true hb]; simp only [cond_true] at he; split at he
    · rw [plan_Slot_Pulse.p0_eq]; exact he
    · cases he
  rw [hb] at he; simp only [cond_false] at he; clear hb
  cases he)
/- 47 (*busbar/pair.Pair).Step -/
noncomputable def pair_Pair_Step.c7 (env : Env) (J : JT) (x4 x6 x33 : V) (h : H) : Ans :=
 cnd x33 (
 bnd (ld none h x4) fun t39_45 =>
 bnd (ld none h x6) fun t40_46 =>
 bnd2 (env 116 [t39_45, (.int .i64 5), t40_46] h) fun t41_47 h_48 =>
 some (.tup [], h_48)) (
 some (.tup [], h))
noncomputable def pair_Pair_Step.c6 (env : Env) (J : JT) (x4 x6 x8 x10 x24 : V) (h : H) : Ans :=
 cnd x24 (
 bnd (ld none h x4) fun t30_35 =>
 bnd (ld none h x6) fun t31_36 =>
 bnd2 (env 116 [t30_35, (.int .i64 4), t31_36] h) fun t32_37 h_38 =>
 some (.tup [], h_38)) (
 bnd2 (gd x8 true (some (x10, h)) h) fun t36_39 h_40 =>
 bnd2 (gd x8 true (bnd (un .not t36_39) fun t37_41 =>
 some (t37_41, h_40)) h_40) fun t37_42 h_43 =>
 bnd (pick x8 t37_42 (.bool false)) fun t38_44 =>
 pair_Pair_Step.c7 env J x4 x6 t38_44 h_43)
noncomputable def pair_Pair_Step.c5 (env : Env) (J : JT) (x4 x6 x8 x10 : V) (h : H) : Ans :=
 bnd2 (gd x10 true (some (x8, h)) h) fun t27_29 h_30 =>
 bnd2 (gd x10 true (bnd (un .not t27_29) fun t28_31 =>
 some (t28_31, h_30)) h_30) fun t28_32 h_33 =>
 bnd (pick x10 t28_32 (.bool false)) fun t29_34 =>
 pair_Pair_Step.c6 env J x4 x6 x8 x10 t29_34 h_33
noncomputable def pair_Pair_Step.c4 (env : Env) (J : JT) (x4 x6 x8 : V) (h : H) : Ans :=
 bnd (ld none h x4) fun t22_26 =>
 bnd2 (env 53 [t22_26] h) fun t23_27 h_28 =>
 pair_Pair_Step.c5 env J x4 x6 x8 t23_27 h_28
noncomputable def pair_Pair_Step.c3 (env : Env) (J : JT) (x4 x5 x6 x7 x8 x9 : V) (h : H) : Ans :=
 bnd (ld none h x4) fun t19_22 =>
 bnd (mkFn (.func 114) [] [x5, x9, x7, x4, x6]) fun t20_23 =>
 bnd2 (env 106 [t19_22, t20_23] h) fun t21_24 h_25 =>
 pair_Pair_Step.c4 env J x4 x6 x8 h_25
noncomputable def pair_Pair_Step.c2 (env : Env) (J : JT) (x4 x5 x6 x7 x8 : V) (h : H) : Ans :=
 bnd (ld none h x4) fun t15_15 =>
 bnd (nilChk t15_15) fun t16_16 =>
 bnd (fieldA (some (some 162, (some 161))) t16_16 6) fun t17_17 =>
 bnd (ld (some 161) h t17_17) fun t18_18 =>
 bnd2 (al (some (some 161)) (zeroV Tryz.prog 161) h) fun t9_19 h_20 =>
 bnd (st (some 161) h_20 t9_19 t18_18) fun h_21 =>
 pair_Pair_Step.c3 env J x4 x5 x6 x7 x8 t9_19 h_21
noncomputable def pair_Pair_Step.c1 (env : Env) (J : JT) (x4 x5 x6 x7 : V) (h : H) : Ans :=
 bnd (ld none h x4) fun t13_12 =>
 bnd2 (env 53 [t13_12] h) fun t14_13 h_14 =>
 pair_Pair_Step.c2 env J x4 x5 x6 x7 t14_13 h_14
noncomputable def pair_Pair_Step.c0 (env : Env) (J : JT) (x4 x5 x6 x7 : V) (h : H) : Ans :=
 bnd (ld none h x4) fun t11_9 =>
 bnd2 (env 113 [t11_9] h) fun t12_10 h_11 =>
 cnd t12_10 (
 some (.tup [], h_11)) (
 pair_Pair_Step.c1 env J x4 x5 x6 x7 h_11)
noncomputable def pair_Pair_Step.fs (env : Env) (J : JT) (x0 x1 x2 x3 : V) (h : H) : Ans :=
 bnd2 (box (some none) h x0) fun t4_1 h_2 =>
 bnd2 (box (some none) h_2 x1) fun t5_3 h_4 =>
 bnd2 (box (some none) h_4 x2) fun t6_5 h_6 =>
 bnd2 (box (some (some 68)) h_6 x3) fun t7_7 h_8 =>
 pair_Pair_Step.c0 env J t4_1 t5_3 t6_5 t7_7 h_8
theorem pair_Pair_Step.fe_eq (env : Env) (J : JT) (x0 x1 x2 x3 : V) (h : H) : evF Tryz.prog env J 47 pair_Pair_Step.an [x0, x1, x2, x3] h = pair_Pair_Step.fs env J x0 x1 x2 x3 h := by kernel_rfl
theorem pair_Pair_Step.eq {tb : Nat → Option Fa} (ht : tb 47 = some (.plain pair_Pair_Step.an)) (x0 x1 x2 x3 : V) (h : H) : Ei Tryz.prog tb 47 [x0, x1, x2, x3] h = pair_Pair_Step.fs (Ei Tryz.prog tb) (Ji Tryz.prog tb 47 pair_Pair_Step.an) x0 x1 x2 x3 h := (Ei_eq (an := pair_Pair_Step.an) ht _ h).trans (pair_Pair_Step.fe_eq _ _ x0 x1 x2 x3 h)
noncomputable def pair_Pair_Step.sf : Sf := ⟨fun env J vs h => match vs with | [x0, x1, x2, x3] => pair_Pair_Step.fs env J x0 x1 x2 x3 h | _ => none, fun env J id vs h => none⟩
theorem pair_Pair_Step.sfok {tb : Nat → Option Fa} (ht : tb 47 = some (.plain pair_Pair_Step.an)) : SfOk Tryz.prog tb 47 pair_Pair_Step.sf := SfOk.plain (an := pair_Pair_Step.an) ht (fun env J vs h r he => by
  simp only [pair_Pair_Step.sf] at he; split at he
  · rw [pair_Pair_Step.fe_eq]; exact he
  · cases he) (fun env J id vs h r he => by simp only [pair_Pair_Step.sf] at he; cases he)
/- 48 (*busbar/pair.Pair).Module -/
noncomputable def pair_Pair_Module.c1 (env : Env) (J : JT) (x0 : V) (h : H) : Ans :=
 bnd (nilChk x0) fun t6_3 =>
 bnd (fieldA (some (some 162, (some 38))) t6_3 0) fun t7_4 =>
 bnd (fieldA (some (some 38, none)) t7_4 0) fun t8_5 =>
 bnd (ld none h t8_5) fun t9_6 =>
 some (t9_6, h)
noncomputable def pair_Pair_Module.c0 (env : Env) (J : JT) (x0 : V) (h : H) : Ans :=
 bnd2 (env 113 [x0] h) fun t4_1 h_2 =>
 cnd t4_1 (
 some ((.int .i64 (-1)), h_2)) (
 pair_Pair_Module.c1 env J x0 h_2)
noncomputable def pair_Pair_Module.fs (env : Env) (J : JT) (x0 : V) (h : H) : Ans :=
 pair_Pair_Module.c0 env J x0 h
theorem pair_Pair_Module.fe_eq (env : Env) (J : JT) (x0 : V) (h : H) : evF Tryz.prog env J 48 pair_Pair_Module.an [x0] h = pair_Pair_Module.fs env J x0 h := by kernel_rfl
theorem pair_Pair_Module.eq {tb : Nat → Option Fa} (ht : tb 48 = some (.plain pair_Pair_Module.an)) (x0 : V) (h : H) : Ei Tryz.prog tb 48 [x0] h = pair_Pair_Module.fs (Ei Tryz.prog tb) (Ji Tryz.prog tb 48 pair_Pair_Module.an) x0 h := (Ei_eq (an := pair_Pair_Module.an) ht _ h).trans (pair_Pair_Module.fe_eq _ _ x0 h)
noncomputable def pair_Pair_Module.sf : Sf := ⟨fun env J vs h => match vs with | [x0] => pair_Pair_Module.fs env J x0 h | _ => none, fun env J id vs h => none⟩
theorem pair_Pair_Module.sfok {tb : Nat → Option Fa} (ht : tb 48 = some (.plain pair_Pair_Module.an)) : SfOk Tryz.prog tb 48 pair_Pair_Module.sf := SfOk.plain (an := pair_Pair_Module.an) ht (fun env J vs h r he => by
  simp only [pair_Pair_Module.sf] at he; split at he
  · rw [pair_Pair_Module.fe_eq]; exact he
  · cases he) (fun env J id vs h r he => by simp only [pair_Pair_Module.sf] at he; cases he)
/- 52 (busbar/plan.Slot).Begin -/
noncomputable def plan_Slot_Begin.c1 (env : Env) (J : JT) (x1 : V) (h : H) : Ans :=
 bnd (bin .mul (.int .i64 4) x1) fun t20_27 =>
 bnd (bin .add (.int .i64 2) t20_27) fun t21_28 =>
 bnd (bin .mul t21_28 (.int .i64 20)) fun t22_29 =>
 some (t22_29, h)
noncomputable def plan_Slot_Begin.c0 (env : Env) (J : JT) (x1 x2 : V) (h : H) : Ans :=
 bnd (fieldA (some (some 58, none)) x2 0) fun t5_3 =>
 bnd (ld none h t5_3) fun t6_4 =>
 bnd (binE true .int t6_4 (.int .i64 0)) fun t7_5 =>
 bnd2 (gd t7_5 false (some (x1, h)) h) fun t9_6 h_7 =>
 bnd2 (gd t7_5 false (bnd (bin .lss t9_6 (.int .i64 0)) fun t10_8 =>
 some (t10_8, h_7)) h_7) fun t10_9 h_10 =>
 bnd (pick t7_5 (.bool true) t10_9) fun t11_11 =>
 bnd2 (gd t11_11 false (some (x1, h_10)) h_10) fun t13_12 h_13 =>
 bnd2 (gd t11_11 false (bnd (fieldA (some (some 58, none)) x2 5) fun t14_14 =>
 some (t14_14, h_13)) h_13) fun t14_15 h_16 =>
 bnd2 (gd t11_11 false (bnd (ld none h_16 t14_15) fun t15_17 =>
 some (t15_17, h_16)) h_16) fun t15_18 h_19 =>
 bnd2 (gd t11_11 false (bnd (mxs [t15_18, (.int .i64 1)]) fun t16_20 =>
 some (t16_20, h_19)) h_19) fun t16_21 h_22 =>
 bnd2 (gd t11_11 false (bnd (bin .geq t13_12 t16_21) fun t17_23 =>
 some (t17_23, h_22)) h_22) fun t17_24 h_25 =>
 bnd (pick t11_11 (.bool true) t17_24) fun t18_26 =>
 cnd t18_26 (
 some ((.int .i64 0), h_25)) (
 plan_Slot_Begin.c1 env J x1 h_25)
noncomputable def plan_Slot_Begin.fs (env : Env) (J : JT) (x0 x1 : V) (h : H) : Ans :=
 bnd2 (box (some (some 58)) h x0) fun t2_1 h_2 =>
 plan_Slot_Begin.c0 env J x1 t2_1 h_2
theorem plan_Slot_Begin.fe_eq (env : Env) (J : JT) (x0 x1 : V) (h : H) : evF Tryz.prog env J 52 plan_Slot_Begin.an [x0, x1] h = plan_Slot_Begin.fs env J x0 x1 h := by kernel_rfl
theorem plan_Slot_Begin.eq {tb : Nat → Option Fa} (ht : tb 52 = some (.plain plan_Slot_Begin.an)) (x0 x1 : V) (h : H) : Ei Tryz.prog tb 52 [x0, x1] h = plan_Slot_Begin.fs (Ei Tryz.prog tb) (Ji Tryz.prog tb 52 plan_Slot_Begin.an) x0 x1 h := (Ei_eq (an := plan_Slot_Begin.an) ht _ h).trans (plan_Slot_Begin.fe_eq _ _ x0 x1 h)
noncomputable def plan_Slot_Begin.sf : Sf := ⟨fun env J vs h => match vs with | [x0, x1] => plan_Slot_Begin.fs env J x0 x1 h | _ => none, fun env J id vs h => none⟩
theorem plan_Slot_Begin.sfok {tb : Nat → Option Fa} (ht : tb 52 = some (.plain plan_Slot_Begin.an)) : SfOk Tryz.prog tb 52 plan_Slot_Begin.sf := SfOk.plain (an := plan_Slot_Begin.an) ht (fun env J vs h r he => by
  simp only [plan_Slot_Begin.sf] at he; split at he
  · rw [plan_Slot_Begin.fe_eq]; exact he
  · cases he) (fun env J id vs h r he => by simp only [plan_Slot_Begin.sf] at he; cases he)
/- 53 (*busbar/pair.Pair).InSync -/
noncomputable def pair_Pair_InSync.c0 (env : Env) (J : JT) (x0 : V) (h : H) : Ans :=
 bnd2 (env 113 [x0] h) fun t4_1 h_2 =>
 bnd (un .not t4_1) fun t5_3 =>
 bnd2 (gd t5_3 true (some (x0, h_2)) h_2) fun t7_4 h_5 =>
 bnd2 (gd t5_3 true (bnd (nilChk t7_4) fun t8_6 =>
 some (t8_6, h_5)) h_5) fun t8_7 h_8 =>
 bnd2 (gd t5_3 true (bnd (fieldA (some (some 162, (some 155))) t8_7 1) fun t9_9 =>
 some (t9_9, h_8)) h_8) fun t9_10 h_11 =>
 bnd2 (gd t5_3 true (bnd (indexA (.arr (some 155) 2 none) t9_10 (.int .i64 0)) fun t10_12 =>
 some (t10_12, h_11)) h_11) fun t10_13 h_14 =>
 bnd2 (gd t5_3 true (bnd (ld none h_14 t10_13) fun t11_15 =>
 some (t11_15, h_14)) h_14) fun t11_16 h_17 =>
 bnd2 (gd t5_3 true (bnd2 (env 20 [t11_16] h_17) fun t12_18 h_19 =>
 some (t12_18, h_19)) h_17) fun t12_20 h_21 =>
 bnd2 (gd t5_3 true (bnd (binE false .int t12_20 (.int .i64 3)) fun t13_22 =>
 some (t13_22, h_21)) h_21) fun t13_23 h_24 =>
 bnd (pick t5_3 t13_23 (.bool false)) fun t14_25 =>
 bnd2 (gd t14_25 true (some (x0, h_24)) h_24) fun t16_26 h_27 =>
 bnd2 (gd t14_25 true (bnd (nilChk t16_26) fun t17_28 =>
 some (t17_28, h_27)) h_27) fun t17_29 h_30 =>
 bnd2 (gd t14_25 true (bnd (fieldA (some (some 162, (some 155))) t17_29 1) fun t18_31 =>
 some (t18_31, h_30)) h_30) fun t18_32 h_33 =>
 bnd2 (gd t14_25 true (bnd (indexA (.arr (some 155) 2 none) t18_32 (.int .i64 1)) fun t19_34 =>
 some (t19_34, h_33)) h_33) fun t19_35 h_36 =>
 bnd2 (gd t14_25 true (bnd (ld none h_36 t19_35) fun t20_37 =>
 some (t20_37, h_36)) h_36) fun t20_38 h_39 =>
 bnd2 (gd t14_25 true (bnd2 (env 20 [t20_38] h_39) fun t21_40 h_41 =>
 some (t21_40, h_41)) h_39) fun t21_42 h_43 =>
 bnd2 (gd t14_25 true (bnd (binE false .int t21_42 (.int .i64 3)) fun t22_44 =>
 some (t22_44, h_43)) h_43) fun t22_45 h_46 =>
 bnd (pick t14_25 t22_45 (.bool false)) fun t23_47 =>
 some (t23_47, h_46)
noncomputable def pair_Pair_InSync.fs (env : Env) (J : JT) (x0 : V) (h : H) : Ans :=
 pair_Pair_InSync.c0 env J x0 h
theorem pair_Pair_InSync.fe_eq (env : Env) (J : JT) (x0 : V) (h : H) : evF Tryz.prog env J 53 pair_Pair_InSync.an [x0] h = pair_Pair_InSync.fs env J x0 h := by kernel_rfl
theorem pair_Pair_InSync.eq {tb : Nat → Option Fa} (ht : tb 53 = some (.plain pair_Pair_InSync.an)) (x0 : V) (h : H) : Ei Tryz.prog tb 53 [x0] h = pair_Pair_InSync.fs (Ei Tryz.prog tb) (Ji Tryz.prog tb 53 pair_Pair_InSync.an) x0 h := (Ei_eq (an := pair_Pair_InSync.an) ht _ h).trans (pair_Pair_InSync.fe_eq _ _ x0 h)
noncomputable def pair_Pair_InSync.sf : Sf := ⟨fun env J vs h => match vs with | [x0] => pair_Pair_InSync.fs env J x0 h | _ => none, fun env J id vs h => none⟩
theorem pair_Pair_InSync.sfok {tb : Nat → Option Fa} (ht : tb 53 = some (.plain pair_Pair_InSync.an)) : SfOk Tryz.prog tb 53 pair_Pair_InSync.sf := SfOk.plain (an := pair_Pair_InSync.an) ht (fun env J vs h r he => by
  simp only [pair_Pair_InSync.sf] at he; split at he
  · rw [pair_Pair_InSync.fe_eq]; exact he
  · cases he) (fun env J id vs h r he => by simp only [pair_Pair_InSync.sf] at he; cases he)
/- 56 busbar/compile.Load -/
noncomputable def compile_Load.c5 (env : Env) (J : JT) (x2 x4 x6 x22 : V) (h : H) : Ans :=
 J 0 [x2, x4, x6, x22] h
noncomputable def compile_Load.c4 (env : Env) (J : JT) (x2 x4 x6 : V) (h : H) : Ans :=
 compile_Load.c5 env J x2 x4 x6 (.int .i64 0) h
noncomputable def compile_Load.c3 (env : Env) (J : JT) (x2 x4 : V) (h : H) : Ans :=
 bnd (fieldA (some (some 137, none)) x4 0) fun t19_14 =>
 bnd (ld none h t19_14) fun t20_15 =>
 bnd (build (zeroV Tryz.prog 39) [(0, t20_15)]) fun t21_16 =>
 bnd2 (al (some (some 38)) (zeroV Tryz.prog 39) h) fun t6_17 h_18 =>
 bnd (st (some 38) h_18 t6_17 t21_16) fun h_19 =>
 compile_Load.c4 env J x2 x4 t6_17 h_19
noncomputable def compile_Load.c2 (env : Env) (J : JT) (x2 x4 x5 x16 : V) (h : H) : Ans :=
 cnd x16 (
 bnd (build (zeroV Tryz.prog 39) []) fun t17_11 =>
 bnd (st (some 38) h x2 t17_11) fun h_12 =>
 bnd (ld (some 38) h_12 x2) fun r_13 =>
 retV h_12 [r_13,x5]) (
 compile_Load.c3 env J x2 x4 h)
noncomputable def compile_Load.c1 (env : Env) (J : JT) (x2 x4 x5 : V) (h : H) : Ans :=
 bnd (binE true .int x5 (.int .i64 0)) fun t16_10 =>
 compile_Load.c2 env J x2 x4 x5 t16_10 h
noncomputable def compile_Load.c0 (env : Env) (J : JT) (x0 x2 : V) (h : H) : Ans :=
 bnd2 (env 119 [x0] h) fun t12_3 h_4 =>
 bnd (ext t12_3 0) fun t13_5 =>
 bnd (ext t12_3 1) fun t14_6 =>
 bnd2 (al (some (some 137)) (zeroV Tryz.prog 138) h_4) fun t4_7 h_8 =>
 bnd (st (some 137) h_8 t4_7 t13_5) fun h_9 =>
 compile_Load.c1 env J x2 t4_7 t14_6 h_9
noncomputable def compile_Load.fs (env : Env) (J : JT) (x0 : V) (h : H) : Ans :=
 bnd2 (al (some (some 38)) (zeroV Tryz.prog 39) h) fun t2_1 h_2 =>
 compile_Load.c0 env J x0 t2_1 h_2
theorem compile_Load.fe_eq (env : Env) (J : JT) (x0 : V) (h : H) : evF Tryz.prog env J 56 compile_Load.an [x0] h = compile_Load.fs env J x0 h := by kernel_rfl
noncomputable def compile_Load.c11 (env : Env) (J : JT) (x2 x4 x6 x7 x8 x22 : V) (h : H) : Ans :=
 bnd (fieldA (some (some 38, (some 37))) x6 1) fun t37_30 =>
 bnd (indexA (.arr (some 37) 2 none) t37_30 x7) fun t38_31 =>
 bnd (st none h t38_31 x8) fun h_32 =>
 bnd (bin .add x22 (.int .i64 1)) fun t39_33 =>
 J 0 [x2, x4, x6, t39_33] h_32
noncomputable def compile_Load.c10 (env : Env) (J : JT) (x2 x4 x6 x7 x8 x9 x22 x32 : V) (h : H) : Ans :=
 cnd x32 (
 bnd (build (zeroV Tryz.prog 39) []) fun t33_27 =>
 bnd (st (some 38) h x2 t33_27) fun h_28 =>
 bnd (ld (some 38) h_28 x2) fun r_29 =>
 retV h_28 [r_29,x9]) (
 compile_Load.c11 env J x2 x4 x6 x7 x8 x22 h)
noncomputable def compile_Load.c9 (env : Env) (J : JT) (x2 x4 x6 x7 x8 x9 x22 : V) (h : H) : Ans :=
 bnd (binE true .int x9 (.int .i64 0)) fun t32_26 =>
 compile_Load.c10 env J x2 x4 x6 x7 x8 x9 x22 t32_26 h
noncomputable def compile_Load.c8 (env : Env) (J : JT) (x2 x4 x6 x7 x22 : V) (h : H) : Ans :=
 bnd (ld (some 137) h x4) fun t26_21 =>
 bnd2 (env 120 [t26_21, x7] h) fun t28_22 h_23 =>
 bnd (ext t28_22 0) fun t29_24 =>
 bnd (ext t28_22 1) fun t30_25 =>
 compile_Load.c9 env J x2 x4 x6 x7 t29_24 t30_25 x22 h_23
noncomputable def compile_Load.c7 (env : Env) (J : JT) (x2 x4 x6 x22 : V) (h : H) : Ans :=
 compile_Load.c8 env J x2 x4 x6 x22 x22 h
noncomputable def compile_Load.c6 (env : Env) (J : JT) (x2 x4 x6 x22 x23 : V) (h : H) : Ans :=
 cnd x23 (
 compile_Load.c7 env J x2 x4 x6 x22 h) (
 bnd (ld (some 38) h x6) fun t40_34 =>
 bnd (st (some 38) h x2 t40_34) fun h_35 =>
 bnd (ld (some 38) h_35 x2) fun r_36 =>
 retV h_35 [r_36,(.int .i64 0)])
noncomputable def compile_Load.p0 (env : Env) (J : JT) (x2 x4 x6 x22 : V) (h : H) : Ans :=
 bnd (bin .lss x22 (.int .i64 2)) fun t23_20 =>
 compile_Load.c6 env J x2 x4 x6 x22 t23_20 h
theorem compile_Load.p0_eq (env : Env) (J : JT) (x2 x4 x6 x22 : V) (h : H) : evP Tryz.prog env J 56 compile_Load.an 0 [x2, x4, x6, x22] h = compile_Load.p0 env J x2 x4 x6 x22 h := by kernel_rfl
theorem compile_Load.eq {tb : Nat → Option Fa} (ht : tb 56 = some (.plain compile_Load.an)) (x0 : V) (h : H) : Ei Tryz.prog tb 56 [x0] h = compile_Load.fs (Ei Tryz.prog tb) (Ji Tryz.prog tb 56 compile_Load.an) x0 h := (Ei_eq (an := compile_Load.an) ht _ h).trans (compile_Load.fe_eq _ _ x0 h)
theorem compile_Load.J0_eq {tb : Nat → Option Fa} (x2 x4 x6 x22 : V) (h : H) : Ji Tryz.prog tb 56 compile_Load.an 0 [x2, x4, x6, x22] h = compile_Load.p0 (Ei Tryz.prog tb) (Ji Tryz.prog tb 56 compile_Load.an) x2 x4 x6 x22 h := (Ji_eq _ _ h).trans (compile_Load.p0_eq _ _ x2 x4 x6 x22 h)
noncomputable def compile_Load.sf : Sf := ⟨fun env J vs h => match vs with | [x0] => compile_Load.fs env J x0 h | _ => none, fun env J id vs h => bif Nat.beq id 0 then (match vs with | [x2, x4, x6, x22] => compile_Load.p0 env J x2 x4 x6 x22 h | _ => none) else (none)⟩
theorem compile_Load.sfok {tb : Nat → Option Fa} (ht : tb 56 = some (.plain compile_Load.an)) : SfOk Tryz.prog tb 56 compile_Load.sf := SfOk.plain (an := compile_Load.an) ht (fun env J vs h r he => by
  simp only [compile_Load.sf] at he; split at he
  · rw [compile_Load.fe_eq]; exact he
  · cases he) (fun env J id vs h r he => by
  simp only [compile_Load.sf] at he
  cases hb : Nat.beq id 0
  case true =>
    rw [hb] at he; rw [Nat.eq_of_beq_eq_true hb]; simp only [cond_true] at he; split at he
    · rw [compile_Load.p0_eq]; exact he
    · cases he
  rw [hb] at he; simp only [cond_false] at he; clear hb
  cases he)
/- 76 busbar/valid.frame -/
noncomputable def valid_frame.c4 (env : Env) (J : JT) (x1 x2 x6 x17 x18 x19 : V) (h : H) : Ans :=
 J 0 [x1, x2, x6, x17, x18, x19] h
noncomputable def valid_frame.c3 (env : Env) (J : JT) (x1 x2 x6 : V) (h : H) : Ans :=
 bnd (lenV .slc h x6) fun t18_8 =>
 valid_frame.c4 env J x1 x2 x6 x6 t18_8 (.int .i64 0) h
noncomputable def valid_frame.c2 (env : Env) (J : JT) (x1 x2 x6 : V) (h : H) : Ans :=
 valid_frame.c3 env J x1 x2 x6 h
noncomputable def valid_frame.c1 (env : Env) (J : JT) (x1 x2 x6 : V) (h : H) : Ans :=
 bnd (lenV .slc h x6) fun t15_6 =>
 bnd (bin .gtr t15_6 (.int .i64 32)) fun t16_7 =>
 cnd t16_7 (
 retV h [(.int .i64 (-1)),(.int .i64 3)]) (
 valid_frame.c2 env J x1 x2 x6 h)
noncomputable def valid_frame.c0 (env : Env) (J : JT) (x1 x2 : V) (h : H) : Ans :=
 bnd (fieldA (some (some 24, (some 23))) x2 1) fun t11_3 =>
 bnd (indexA (.arr (some 23) 2 none) t11_3 x1) fun t12_4 =>
 bnd (ld none h t12_4) fun t13_5 =>
 valid_frame.c1 env J x1 x2 t13_5 h
noncomputable def valid_frame.fs (env : Env) (J : JT) (x0 x1 : V) (h : H) : Ans :=
 bnd2 (box (some (some 24)) h x0) fun t2_1 h_2 =>
 valid_frame.c0 env J x1 t2_1 h_2
theorem valid_frame.fe_eq (env : Env) (J : JT) (x0 x1 : V) (h : H) : evF Tryz.prog env J 76 valid_frame.an [x0, x1] h = valid_frame.fs env J x0 x1 h := by kernel_rfl
noncomputable def valid_frame.c9 (env : Env) (J : JT) (x1 x2 x6 x7 x9 x17 x18 x19 x28 : V) (h : H) : Ans :=
 cnd x28 (
 retV h [x7,x9]) (
 bnd (lenV .slc h x6) fun t36_21 =>
 bnd (bin .sub t36_21 (.int .i64 1)) fun t37_22 =>
 bnd (binE false .int x7 t37_22) fun t38_23 =>
 cnd t38_23 (
 J 1 [x1, x6] h) (
 bnd (bin .add x19 (.int .i64 1)) fun t39_24 =>
 J 0 [x1, x2, x6, x17, x18, t39_24] h))
noncomputable def valid_frame.c8 (env : Env) (J : JT) (x1 x2 x6 x7 x9 x17 x18 x19 : V) (h : H) : Ans :=
 bnd (binE true .int x9 (.int .i64 0)) fun t30_20 =>
 valid_frame.c9 env J x1 x2 x6 x7 x9 x17 x18 x19 t30_20 h
noncomputable def valid_frame.c7 (env : Env) (J : JT) (x1 x2 x6 x7 x8 x17 x18 x19 : V) (h : H) : Ans :=
 bnd (ld (some 130) h x8) fun t24_15 =>
 bnd (fieldA (some (some 24, none)) x2 0) fun t25_16 =>
 bnd (ld none h t25_16) fun t26_17 =>
 bnd2 (env 148 [t24_15, t26_17] h) fun t27_18 h_19 =>
 valid_frame.c8 env J x1 x2 x6 x7 t27_18 x17 x18 x19 h_19
noncomputable def valid_frame.c6 (env : Env) (J : JT) (x1 x2 x6 x17 x18 x19 : V) (h : H) : Ans :=
 bnd (indexA (.slc (some 130)) x17 x19) fun t22_10 =>
 bnd (ld (some 130) h t22_10) fun t23_11 =>
 bnd2 (al (some (some 130)) (zeroV Tryz.prog 131) h) fun t8_12 h_13 =>
 bnd (st (some 130) h_13 t8_12 t23_11) fun h_14 =>
 valid_frame.c7 env J x1 x2 x6 x19 t8_12 x17 x18 x19 h_14
noncomputable def valid_frame.c5 (env : Env) (J : JT) (x1 x2 x6 x17 x18 x19 x20 : V) (h : H) : Ans :=
 cnd x20 (
 valid_frame.c6 env J x1 x2 x6 x17 x18 x19 h) (
 J 1 [x1, x6] h)
noncomputable def valid_frame.p0 (env : Env) (J : JT) (x1 x2 x6 x17 x18 x19 : V) (h : H) : Ans :=
 bnd (bin .lss x19 x18) fun t20_9 =>
 valid_frame.c5 env J x1 x2 x6 x17 x18 x19 t20_9 h
theorem valid_frame.p0_eq (env : Env) (J : JT) (x1 x2 x6 x17 x18 x19 : V) (h : H) : evP Tryz.prog env J 76 valid_frame.an 0 [x1, x2, x6, x17, x18, x19] h = valid_frame.p0 env J x1 x2 x6 x17 x18 x19 h := by kernel_rfl
noncomputable def valid_frame.p1 (env : Env) (J : JT) (x1 x6 : V) (h : H) : Ans :=
 bnd2 (env 150 [x6, x1] h) fun t42_25 h_26 =>
 bnd2 (env 149 [t42_25] h_26) fun t43_27 h_28 =>
 bnd (bin .gtr t43_27 (.int .i64 200)) fun t44_29 =>
 cnd t44_29 (
 retV h_28 [(.int .i64 (-1)),(.int .i64 16)]) (
 retV h_28 [(.int .i64 0),(.int .i64 0)])
theorem valid_frame.p1_eq (env : Env) (J : JT) (x1 x6 : V) (h : H) : evP Tryz.prog env J 76 valid_frame.an 1 [x1, x6] h = valid_frame.p1 env J x1 x6 h := by kernel_rfl
theorem valid_frame.eq {tb : Nat → Option Fa} (ht : tb 76 = some (.plain valid_frame.an)) (x0 x1 : V) (h : H) : Ei Tryz.prog tb 76 [x0, x1] h = valid_frame.fs (Ei Tryz.prog tb) (Ji Tryz.prog tb 76 valid_frame.an) x0 x1 h := (Ei_eq (an := valid_frame.an) ht _ h).trans (valid_frame.fe_eq _ _ x0 x1 h)
theorem valid_frame.J0_eq {tb : Nat → Option Fa} (x1 x2 x6 x17 x18 x19 : V) (h : H) : Ji Tryz.prog tb 76 valid_frame.an 0 [x1, x2, x6, x17, x18, x19] h = valid_frame.p0 (Ei Tryz.prog tb) (Ji Tryz.prog tb 76 valid_frame.an) x1 x2 x6 x17 x18 x19 h := (Ji_eq _ _ h).trans (valid_frame.p0_eq _ _ x1 x2 x6 x17 x18 x19 h)
theorem valid_frame.J1_eq {tb : Nat → Option Fa} (x1 x6 : V) (h : H) : Ji Tryz.prog tb 76 valid_frame.an 1 [x1, x6] h = valid_frame.p1 (Ei Tryz.prog tb) (Ji Tryz.prog tb 76 valid_frame.an) x1 x6 h := (Ji_eq _ _ h).trans (valid_frame.p1_eq _ _ x1 x6 h)
noncomputable def valid_frame.sf : Sf := ⟨fun env J vs h => match vs with | [x0, x1] => valid_frame.fs env J x0 x1 h | _ => none, fun env J id vs h => bif Nat.beq id 0 then (match vs with | [x1, x2, x6, x17, x18, x19] => valid_frame.p0 env J x1 x2 x6 x17 x18 x19 h | _ => none) else (bif Nat.beq id 1 then (match vs with | [x1, x6] => valid_frame.p1 env J x1 x6 h | _ => none) else (none))⟩
theorem valid_frame.sfok {tb : Nat → Option Fa} (ht : tb 76 = some (.plain valid_frame.an)) : SfOk Tryz.prog tb 76 valid_frame.sf := SfOk.plain (an := valid_frame.an) ht (fun env J vs h r he => by
  simp only [valid_frame.sf] at he; split at he
  · rw [valid_frame.fe_eq]; exact he
  · cases he) (fun env J id vs h r he => by
  simp only [valid_frame.sf] at he
  cases hb : Nat.beq id 0
  case true =>
    rw [hb] at he; rw [Nat.eq_of_beq_eq_true hb]; simp only [cond_true] at he; split at he
    · rw [valid_frame.p0_eq]; exact he
    · cases he
  rw [hb] at he; simp only [cond_false] at he; clear hb
  cases hb : Nat.beq id 1
  case true =>
    rw [hb] at he; rw [Nat.eq_of_beq_eq_true hb]; simp only [cond_true] at he; split at he
    · rw [valid_frame.p1_eq]; exact he
    · cases he
  rw [hb] at he; simp only [cond_false] at he; clear hb
  cases he)
/- 77 busbar/delay.New -/
noncomputable def delay_New.c0 (env : Env) (J : JT) (x0 : V) (h : H) : Ans :=
 bnd (bin .lss x0 (.int .i64 0)) fun t5_1 =>
 bnd2 (gd t5_1 false (some (x0, h)) h) fun t7_2 h_3 =>
 bnd2 (gd t5_1 false (bnd (bin .geq t7_2 (.int .i64 16)) fun t8_4 =>
 some (t8_4, h_3)) h_3) fun t8_5 h_6 =>
 bnd (pick t5_1 (.bool true) t8_5) fun t9_7 =>
 cnd t9_7 (
 retV h_6 [.nilp,(.int .i64 2)]) (
 bnd (build (zeroV Tryz.prog 217) [(0, (.bool true)), (1, x0)]) fun t11_8 =>
 bnd2 (box (some (some 216)) h_6 t11_8) fun t12_9 h_10 =>
 retV h_10 [t12_9,(.int .i64 0)])
noncomputable def delay_New.fs (env : Env) (J : JT) (x0 : V) (h : H) : Ans :=
 delay_New.c0 env J x0 h
theorem delay_New.fe_eq (env : Env) (J : JT) (x0 : V) (h : H) : evF Tryz.prog env J 77 delay_New.an [x0] h = delay_New.fs env J x0 h := by kernel_rfl
theorem delay_New.eq {tb : Nat → Option Fa} (ht : tb 77 = some (.plain delay_New.an)) (x0 : V) (h : H) : Ei Tryz.prog tb 77 [x0] h = delay_New.fs (Ei Tryz.prog tb) (Ji Tryz.prog tb 77 delay_New.an) x0 h := (Ei_eq (an := delay_New.an) ht _ h).trans (delay_New.fe_eq _ _ x0 h)
noncomputable def delay_New.sf : Sf := ⟨fun env J vs h => match vs with | [x0] => delay_New.fs env J x0 h | _ => none, fun env J id vs h => none⟩
theorem delay_New.sfok {tb : Nat → Option Fa} (ht : tb 77 = some (.plain delay_New.an)) : SfOk Tryz.prog tb 77 delay_New.sf := SfOk.plain (an := delay_New.an) ht (fun env J vs h r he => by
  simp only [delay_New.sf] at he; split at he
  · rw [delay_New.fe_eq]; exact he
  · cases he) (fun env J id vs h r he => by simp only [delay_New.sf] at he; cases he)
/- 78 busbar/runs.New -/
noncomputable def runs_New.fs (env : Env) (J : JT) (h : H) : Ans :=
 bnd (build (zeroV Tryz.prog 220) [(0, (.bool true))]) fun t1_1 =>
 bnd2 (box (some (some 219)) h t1_1) fun t2_2 h_3 =>
 some (t2_2, h_3)
theorem runs_New.fe_eq (env : Env) (J : JT) (h : H) : evF Tryz.prog env J 78 runs_New.an [] h = runs_New.fs env J  h := by kernel_rfl
theorem runs_New.eq {tb : Nat → Option Fa} (ht : tb 78 = some (.plain runs_New.an)) (h : H) : Ei Tryz.prog tb 78 [] h = runs_New.fs (Ei Tryz.prog tb) (Ji Tryz.prog tb 78 runs_New.an)  h := (Ei_eq (an := runs_New.an) ht _ h).trans (runs_New.fe_eq _ _  h)
noncomputable def runs_New.sf : Sf := ⟨fun env J vs h => match vs with | [] => runs_New.fs env J  h | _ => none, fun env J id vs h => none⟩
theorem runs_New.sfok {tb : Nat → Option Fa} (ht : tb 78 = some (.plain runs_New.an)) : SfOk Tryz.prog tb 78 runs_New.sf := SfOk.plain (an := runs_New.an) ht (fun env J vs h r he => by
  simp only [runs_New.sf] at he; split at he
  · rw [runs_New.fe_eq]; exact he
  · cases he) (fun env J id vs h r he => by simp only [runs_New.sf] at he; cases he)
end Go.Proofs.YtbgdidfegkmafaaGreat
