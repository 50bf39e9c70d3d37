import Derived.Test.YtbgdidfegkmafaaGreatTb
import Derived.Test.YtbgdidfegkmafaaGreatAmD
namespace Go.Proofs.YtbgdidfegkmafaaGreat
open Go Go.AM Go.Proofs
set_option linter.unusedVariables false
set_option maxRecDepth 100000
set_option maxHeartbeats 4000000
/- 171 (*busbar/runs.Runs).Rose -/
noncomputable def runs_Runs_Rose.c0 (env : Env) (J : JT) (x1 : V) (h : H) : Ans :=
 bnd (ld none h x1) fun t3_3 =>
 bnd (mkFn (.func 225) [] [x1]) fun t4_4 =>
 bnd2 (env 224 [t3_3, (.bool false), t4_4] h) fun t5_5 h_6 =>
 bnd (binE false .int t5_5 (.int .i64 1)) fun t6_7 =>
 some (t6_7, h_6)
noncomputable def runs_Runs_Rose.fs (env : Env) (J : JT) (x0 : V) (h : H) : Ans :=
 bnd2 (box (some none) h x0) fun t1_1 h_2 =>
 runs_Runs_Rose.c0 env J t1_1 h_2
theorem runs_Runs_Rose.fe_eq (env : Env) (J : JT) (x0 : V) (h : H) : evF Tryz.prog env J 171 runs_Runs_Rose.an [x0] h = runs_Runs_Rose.fs env J x0 h := by kernel_rfl
theorem runs_Runs_Rose.eq {tb : Nat → Option Fa} (ht : tb 171 = some (.plain runs_Runs_Rose.an)) (x0 : V) (h : H) : Ei Tryz.prog tb 171 [x0] h = runs_Runs_Rose.fs (Ei Tryz.prog tb) (Ji Tryz.prog tb 171 runs_Runs_Rose.an) x0 h := (Ei_eq (an := runs_Runs_Rose.an) ht _ h).trans (runs_Runs_Rose.fe_eq _ _ x0 h)
noncomputable def runs_Runs_Rose.sf : Sf := ⟨fun env J vs h => match vs with | [x0] => runs_Runs_Rose.fs env J x0 h | _ => none, fun env J id vs h => none⟩
theorem runs_Runs_Rose.sfok {tb : Nat → Option Fa} (ht : tb 171 = some (.plain runs_Runs_Rose.an)) : SfOk Tryz.prog tb 171 runs_Runs_Rose.sf := SfOk.plain (an := runs_Runs_Rose.an) ht (fun env J vs h r he => by
  simp only [runs_Runs_Rose.sf] at he; split at he
  · rw [runs_Runs_Rose.fe_eq]; exact he
  · cases he) (fun env J id vs h r he => by simp only [runs_Runs_Rose.sf] at he; cases he)
/- 179 busbar/serial.Pulse -/
noncomputable def serial_Pulse.c1 (env : Env) (J : JT) (x1 x2 x7 x8 : V) (h : H) : Ans :=
 bnd (bin .lss x2 x7) fun t16_8 =>
 bnd2 (gd t16_8 false (some (x2, h)) h) fun t18_9 h_10 =>
 bnd2 (gd t16_8 false (some (x8, h_10)) h_10) fun t19_11 h_12 =>
 bnd2 (gd t16_8 false (bnd (bin .geq t18_9 t19_11) fun t20_13 =>
 some (t20_13, h_12)) h_12) fun t20_14 h_15 =>
 bnd (pick t16_8 (.bool true) t20_14) fun t21_16 =>
 cnd t21_16 (
 some ((.int .u8 0), h_15)) (
 bnd2 (env 98 [x1] h_15) fun t23_17 h_18 =>
 some (t23_17, h_18))
noncomputable def serial_Pulse.c0 (env : Env) (J : JT) (x1 x2 x3 : V) (h : H) : Ans :=
 bnd (ld (some 58) h x3) fun t10_3 =>
 bnd2 (env 46 [t10_3] h) fun t11_4 h_5 =>
 bnd (ext t11_4 0) fun t12_6 =>
 bnd (ext t11_4 1) fun t13_7 =>
 serial_Pulse.c1 env J x1 x2 t12_6 t13_7 h_5
noncomputable def serial_Pulse.fs (env : Env) (J : JT) (x0 x1 x2 : V) (h : H) : Ans :=
 bnd2 (box (some (some 58)) h x0) fun t3_1 h_2 =>
 serial_Pulse.c0 env J x1 x2 t3_1 h_2
theorem serial_Pulse.fe_eq (env : Env) (J : JT) (x0 x1 x2 : V) (h : H) : evF Tryz.prog env J 179 serial_Pulse.an [x0, x1, x2] h = serial_Pulse.fs env J x0 x1 x2 h := by kernel_rfl
theorem serial_Pulse.eq {tb : Nat → Option Fa} (ht : tb 179 = some (.plain serial_Pulse.an)) (x0 x1 x2 : V) (h : H) : Ei Tryz.prog tb 179 [x0, x1, x2] h = serial_Pulse.fs (Ei Tryz.prog tb) (Ji Tryz.prog tb 179 serial_Pulse.an) x0 x1 x2 h := (Ei_eq (an := serial_Pulse.an) ht _ h).trans (serial_Pulse.fe_eq _ _ x0 x1 x2 h)
noncomputable def serial_Pulse.sf : Sf := ⟨fun env J vs h => match vs with | [x0, x1, x2] => serial_Pulse.fs env J x0 x1 x2 h | _ => none, fun env J id vs h => none⟩
theorem serial_Pulse.sfok {tb : Nat → Option Fa} (ht : tb 179 = some (.plain serial_Pulse.an)) : SfOk Tryz.prog tb 179 serial_Pulse.sf := SfOk.plain (an := serial_Pulse.an) ht (fun env J vs h r he => by
  simp only [serial_Pulse.sf] at he; split at he
  · rw [serial_Pulse.fe_eq]; exact he
  · cases he) (fun env J id vs h r he => by simp only [serial_Pulse.sf] at he; cases he)
/- 180 busbar/gate.Opens$1 -/
noncomputable def gate_Opens_1.c0 (env : Env) (J : JT) (x0 x1 x2 : V) (h : H) : Ans :=
 bnd (bin .gtr x1 x0) fun t8_1 =>
 bnd2 (gd t8_1 true (bnd (ld none h x2) fun t10_2 =>
 some (t10_2, h)) h) fun t10_3 h_4 =>
 bnd2 (gd t8_1 true (some (x0, h_4)) h_4) fun t11_5 h_6 =>
 bnd2 (gd t8_1 true (bnd (bin .sub t11_5 (.int .i64 4)) fun t12_7 =>
 some (t12_7, h_6)) h_6) fun t12_8 h_9 =>
 bnd2 (gd t8_1 true (bnd (bin .geq t10_3 t12_8) fun t13_10 =>
 some (t13_10, h_9)) h_9) fun t13_11 h_12 =>
 bnd (pick t8_1 t13_11 (.bool false)) fun t14_13 =>
 bnd2 (gd t14_13 true (bnd (ld none h_12 x2) fun t16_14 =>
 some (t16_14, h_12)) h_12) fun t16_15 h_16 =>
 bnd2 (gd t14_13 true (some (x1, h_16)) h_16) fun t17_17 h_18 =>
 bnd2 (gd t14_13 true (bnd (bin .add t17_17 (.int .i64 4)) fun t18_19 =>
 some (t18_19, h_18)) h_18) fun t18_20 h_21 =>
 bnd2 (gd t14_13 true (bnd (bin .lss t16_15 t18_20) fun t19_22 =>
 some (t19_22, h_21)) h_21) fun t19_23 h_24 =>
 bnd (pick t14_13 t19_23 (.bool false)) fun t20_25 =>
 some (t20_25, h_24)
noncomputable def gate_Opens_1.fs (env : Env) (J : JT) (x0 x1 x2 : V) (h : H) : Ans :=
 gate_Opens_1.c0 env J x0 x1 x2 h
theorem gate_Opens_1.fe_eq (env : Env) (J : JT) (x0 x1 x2 : V) (h : H) : evF Tryz.prog env J 180 gate_Opens_1.an [x0, x1, x2] h = gate_Opens_1.fs env J x0 x1 x2 h := by kernel_rfl
theorem gate_Opens_1.eq {tb : Nat → Option Fa} (ht : tb 180 = some (.plain gate_Opens_1.an)) (x0 x1 x2 : V) (h : H) : Ei Tryz.prog tb 180 [x0, x1, x2] h = gate_Opens_1.fs (Ei Tryz.prog tb) (Ji Tryz.prog tb 180 gate_Opens_1.an) x0 x1 x2 h := (Ei_eq (an := gate_Opens_1.an) ht _ h).trans (gate_Opens_1.fe_eq _ _ x0 x1 x2 h)
noncomputable def gate_Opens_1.sf : Sf := ⟨fun env J vs h => match vs with | [x0, x1, x2] => gate_Opens_1.fs env J x0 x1 x2 h | _ => none, fun env J id vs h => none⟩
theorem gate_Opens_1.sfok {tb : Nat → Option Fa} (ht : tb 180 = some (.plain gate_Opens_1.an)) : SfOk Tryz.prog tb 180 gate_Opens_1.sf := SfOk.plain (an := gate_Opens_1.an) ht (fun env J vs h r he => by
  simp only [gate_Opens_1.sf] at he; split at he
  · rw [gate_Opens_1.fe_eq]; exact he
  · cases he) (fun env J id vs h r he => by simp only [gate_Opens_1.sf] at he; cases he)
/- 182 (*busbar/clock.Clock).none -/
noncomputable def clock_Clock_none.c0 (env : Env) (J : JT) (x0 : V) (h : H) : Ans :=
 bnd (binE false .ptr x0 .nilp) fun t4_1 =>
 bnd2 (gd t4_1 false (some (x0, h)) h) fun t6_2 h_3 =>
 bnd2 (gd t4_1 false (bnd (nilChk t6_2) fun t7_4 =>
 some (t7_4, h_3)) h_3) fun t7_5 h_6 =>
 bnd2 (gd t4_1 false (bnd (fieldA (some (some 240, none)) t7_5 1) fun t8_7 =>
 some (t8_7, h_6)) h_6) fun t8_8 h_9 =>
 bnd2 (gd t4_1 false (bnd (ld none h_9 t8_8) fun t9_10 =>
 some (t9_10, h_9)) h_9) fun t9_11 h_12 =>
 bnd2 (gd t4_1 false (bnd (binE false .int t9_11 (.int .i64 0)) fun t10_13 =>
 some (t10_13, h_12)) h_12) fun t10_14 h_15 =>
 bnd (pick t4_1 (.bool true) t10_14) fun t11_16 =>
 some (t11_16, h_15)
noncomputable def clock_Clock_none.fs (env : Env) (J : JT) (x0 : V) (h : H) : Ans :=
 clock_Clock_none.c0 env J x0 h
theorem clock_Clock_none.fe_eq (env : Env) (J : JT) (x0 : V) (h : H) : evF Tryz.prog env J 182 clock_Clock_none.an [x0] h = clock_Clock_none.fs env J x0 h := by kernel_rfl
theorem clock_Clock_none.eq {tb : Nat → Option Fa} (ht : tb 182 = some (.plain clock_Clock_none.an)) (x0 : V) (h : H) : Ei Tryz.prog tb 182 [x0] h = clock_Clock_none.fs (Ei Tryz.prog tb) (Ji Tryz.prog tb 182 clock_Clock_none.an) x0 h := (Ei_eq (an := clock_Clock_none.an) ht _ h).trans (clock_Clock_none.fe_eq _ _ x0 h)
noncomputable def clock_Clock_none.sf : Sf := ⟨fun env J vs h => match vs with | [x0] => clock_Clock_none.fs env J x0 h | _ => none, fun env J id vs h => none⟩
theorem clock_Clock_none.sfok {tb : Nat → Option Fa} (ht : tb 182 = some (.plain clock_Clock_none.an)) : SfOk Tryz.prog tb 182 clock_Clock_none.sf := SfOk.plain (an := clock_Clock_none.an) ht (fun env J vs h r he => by
  simp only [clock_Clock_none.sf] at he; split at he
  · rw [clock_Clock_none.fe_eq]; exact he
  · cases he) (fun env J id vs h r he => by simp only [clock_Clock_none.sf] at he; cases he)
/- 191 (busbar/plan.Window).bits -/
noncomputable def plan_Window_bits.c3 (env : Env) (J : JT) (x1 x4 x17 : V) (h : H) : Ans :=
 cnd x17 (
 bnd (fieldA (some (some 130, none)) x1 1) fun t19_20 =>
 bnd (ld none h t19_20) fun t20_21 =>
 bnd2 (env 240 [t20_21, (.int .i64 1000)] h) fun t21_22 h_23 =>
 some (t21_22, h_23)) (
 bnd (binE false .int x4 (.int .i64 2)) fun t23_24 =>
 cnd t23_24 (
 some ((.int .i64 6), h)) (
 some ((.int .i64 0), h)))
noncomputable def plan_Window_bits.c2 (env : Env) (J : JT) (x1 x4 x5 : V) (h : H) : Ans :=
 cnd x5 (
 bnd (fieldA (some (some 130, none)) x1 2) fun t7_6 =>
 bnd (ld none h t7_6) fun t8_7 =>
 bnd (ld (some 130) h x1) fun t12_8 =>
 bnd2 (env 240 [t8_7, (.int .i64 8)] h) fun t9_9 h_10 =>
 bnd (ld (some 130) h_10 x1) fun t12_18 =>
 chkS t12_18 t12_8 (
 bnd (bin .mul (.int .i64 8) t9_9) fun t10_11 =>
 bnd (bin .add (.int .i64 10) t10_11) fun t11_12 =>
 bnd2 (env 241 [t12_8] h_10) fun t13_13 h_14 =>
 bnd (bin .sub t13_13 (.int .i64 1)) fun t14_15 =>
 bnd (bin .mul (.int .i64 4) t14_15) fun t15_16 =>
 bnd (bin .add t11_12 t15_16) fun t16_17 =>
 some (t16_17, h_14))) (
 bnd (binE false .int x4 (.int .i64 1)) fun t18_19 =>
 plan_Window_bits.c3 env J x1 x4 t18_19 h)
noncomputable def plan_Window_bits.c1 (env : Env) (J : JT) (x1 x4 : V) (h : H) : Ans :=
 bnd (binE false .int x4 (.int .i64 0)) fun t6_5 =>
 plan_Window_bits.c2 env J x1 x4 t6_5 h
noncomputable def plan_Window_bits.c0 (env : Env) (J : JT) (x1 : V) (h : H) : Ans :=
 bnd (fieldA (some (some 130, none)) x1 0) fun t3_3 =>
 bnd (ld none h t3_3) fun t4_4 =>
 plan_Window_bits.c1 env J x1 t4_4 h
noncomputable def plan_Window_bits.fs (env : Env) (J : JT) (x0 : V) (h : H) : Ans :=
 bnd2 (box (some (some 130)) h x0) fun t1_1 h_2 =>
 plan_Window_bits.c0 env J t1_1 h_2
theorem plan_Window_bits.fe_eq (env : Env) (J : JT) (x0 : V) (h : H) : evF Tryz.prog env J 191 plan_Window_bits.an [x0] h = plan_Window_bits.fs env J x0 h := by kernel_rfl
theorem plan_Window_bits.eq {tb : Nat → Option Fa} (ht : tb 191 = some (.plain plan_Window_bits.an)) (x0 : V) (h : H) : Ei Tryz.prog tb 191 [x0] h = plan_Window_bits.fs (Ei Tryz.prog tb) (Ji Tryz.prog tb 191 plan_Window_bits.an) x0 h := (Ei_eq (an := plan_Window_bits.an) ht _ h).trans (plan_Window_bits.fe_eq _ _ x0 h)
noncomputable def plan_Window_bits.sf : Sf := ⟨fun env J vs h => match vs with | [x0] => plan_Window_bits.fs env J x0 h | _ => none, fun env J id vs h => none⟩
theorem plan_Window_bits.sfok {tb : Nat → Option Fa} (ht : tb 191 = some (.plain plan_Window_bits.an)) : SfOk Tryz.prog tb 191 plan_Window_bits.sf := SfOk.plain (an := plan_Window_bits.an) ht (fun env J vs h r he => by
  simp only [plan_Window_bits.sf] at he; split at he
  · rw [plan_Window_bits.fe_eq]; exact he
  · cases he) (fun env J id vs h r he => by simp only [plan_Window_bits.sf] at he; cases he)
/- 196 (busbar/fault.Fault).At -/
noncomputable def fault_Fault_At.c1 (env : Env) (J : JT) (x1 x2 : V) (h : H) : Ans :=
 bnd (fieldA (some (some 90, none)) x2 5) fun t26_41 =>
 bnd (ld none h t26_41) fun t27_42 =>
 bnd (fieldA (some (some 90, none)) x2 4) fun t29_43 =>
 bnd (ld none h t29_43) fun t30_44 =>
 bnd (bin .sub x1 t30_44) fun t31_45 =>
 bnd (fieldA (some (some 90, none)) x2 5) fun t32_46 =>
 bnd (ld none h t32_46) fun t33_47 =>
 bnd (lenV .slc h t33_47) fun t34_48 =>
 bnd (bin .rem t31_45 t34_48) fun t35_49 =>
 bnd (indexA (.slc none) t27_42 t35_49) fun t36_50 =>
 bnd (ld none h t36_50) fun t37_51 =>
 retV h [t37_51,(.bool true)]
noncomputable def fault_Fault_At.c0 (env : Env) (J : JT) (x1 x2 : V) (h : H) : Ans :=
 bnd (fieldA (some (some 90, none)) x2 0) fun t6_3 =>
 bnd (ld none h t6_3) fun t7_4 =>
 bnd (binE true .int t7_4 (.int .i64 1)) fun t8_5 =>
 bnd2 (gd t8_5 true (bnd (fieldA (some (some 90, none)) x2 0) fun t10_6 =>
 some (t10_6, h)) h) fun t10_7 h_8 =>
 bnd2 (gd t8_5 true (bnd (ld none h_8 t10_7) fun t11_9 =>
 some (t11_9, h_8)) h_8) fun t11_10 h_11 =>
 bnd2 (gd t8_5 true (bnd (binE true .int t11_10 (.int .i64 2)) fun t12_12 =>
 some (t12_12, h_11)) h_11) fun t12_13 h_14 =>
 bnd (pick t8_5 t12_13 (.bool false)) fun t13_15 =>
 bnd2 (gd t13_15 false (some (x1, h_14)) h_14) fun t15_16 h_17 =>
 bnd2 (gd t13_15 false (bnd (fieldA (some (some 90, none)) x2 4) fun t16_18 =>
 some (t16_18, h_17)) h_17) fun t16_19 h_20 =>
 bnd2 (gd t13_15 false (bnd (ld none h_20 t16_19) fun t17_21 =>
 some (t17_21, h_20)) h_20) fun t17_22 h_23 =>
 bnd2 (gd t13_15 false (bnd (bin .lss t15_16 t17_22) fun t18_24 =>
 some (t18_24, h_23)) h_23) fun t18_25 h_26 =>
 bnd (pick t13_15 (.bool true) t18_25) fun t19_27 =>
 bnd2 (gd t19_27 false (bnd (fieldA (some (some 90, none)) x2 5) fun t21_28 =>
 some (t21_28, h_26)) h_26) fun t21_29 h_30 =>
 bnd2 (gd t19_27 false (bnd (ld none h_30 t21_29) fun t22_31 =>
 some (t22_31, h_30)) h_30) fun t22_32 h_33 =>
 bnd2 (gd t19_27 false (bnd (lenV .slc h_33 t22_32) fun t23_34 =>
 some (t23_34, h_33)) h_33) fun t23_35 h_36 =>
 bnd2 (gd t19_27 false (bnd (binE false .int t23_35 (.int .i64 0)) fun t24_37 =>
 some (t24_37, h_36)) h_36) fun t24_38 h_39 =>
 bnd (pick t19_27 (.bool true) t24_38) fun t25_40 =>
 cnd t25_40 (
 retV h_39 [(.int .u8 0),(.bool false)]) (
 fault_Fault_At.c1 env J x1 x2 h_39)
noncomputable def fault_Fault_At.fs (env : Env) (J : JT) (x0 x1 : V) (h : H) : Ans :=
 bnd2 (box (some (some 90)) h x0) fun t2_1 h_2 =>
 fault_Fault_At.c0 env J x1 t2_1 h_2
theorem fault_Fault_At.fe_eq (env : Env) (J : JT) (x0 x1 : V) (h : H) : evF Tryz.prog env J 196 fault_Fault_At.an [x0, x1] h = fault_Fault_At.fs env J x0 x1 h := by kernel_rfl
theorem fault_Fault_At.eq {tb : Nat → Option Fa} (ht : tb 196 = some (.plain fault_Fault_At.an)) (x0 x1 : V) (h : H) : Ei Tryz.prog tb 196 [x0, x1] h = fault_Fault_At.fs (Ei Tryz.prog tb) (Ji Tryz.prog tb 196 fault_Fault_At.an) x0 x1 h := (Ei_eq (an := fault_Fault_At.an) ht _ h).trans (fault_Fault_At.fe_eq _ _ x0 x1 h)
noncomputable def fault_Fault_At.sf : Sf := ⟨fun env J vs h => match vs with | [x0, x1] => fault_Fault_At.fs env J x0 x1 h | _ => none, fun env J id vs h => none⟩
theorem fault_Fault_At.sfok {tb : Nat → Option Fa} (ht : tb 196 = some (.plain fault_Fault_At.an)) : SfOk Tryz.prog tb 196 fault_Fault_At.sf := SfOk.plain (an := fault_Fault_At.an) ht (fun env J vs h r he => by
  simp only [fault_Fault_At.sf] at he; split at he
  · rw [fault_Fault_At.fe_eq]; exact he
  · cases he) (fun env J id vs h r he => by simp only [fault_Fault_At.sf] at he; cases he)
/- 201 busbar/image.of -/
noncomputable def image_of.c0 (env : Env) (J : JT) (x0 : V) (h : H) : Ans :=
 bnd (indexA (.slc none) x0 (.int .i64 0)) fun t4_1 =>
 bnd (ld none h t4_1) fun t5_2 =>
 bnd2 (conv (.int .i64) h t5_2) fun t6_3 h_4 =>
 bnd (bin .shl t6_3 (.int .u64 8)) fun t7_5 =>
 bnd (indexA (.slc none) x0 (.int .i64 1)) fun t9_6 =>
 bnd (ld none h_4 t9_6) fun t10_7 =>
 bnd2 (conv (.int .i64) h_4 t10_7) fun t11_8 h_9 =>
 bnd (bin .or t7_5 t11_8) fun t12_10 =>
 some (t12_10, h_9)
noncomputable def image_of.fs (env : Env) (J : JT) (x0 : V) (h : H) : Ans :=
 image_of.c0 env J x0 h
theorem image_of.fe_eq (env : Env) (J : JT) (x0 : V) (h : H) : evF Tryz.prog env J 201 image_of.an [x0] h = image_of.fs env J x0 h := by kernel_rfl
theorem image_of.eq {tb : Nat → Option Fa} (ht : tb 201 = some (.plain image_of.an)) (x0 : V) (h : H) : Ei Tryz.prog tb 201 [x0] h = image_of.fs (Ei Tryz.prog tb) (Ji Tryz.prog tb 201 image_of.an) x0 h := (Ei_eq (an := image_of.an) ht _ h).trans (image_of.fe_eq _ _ x0 h)
noncomputable def image_of.sf : Sf := ⟨fun env J vs h => match vs with | [x0] => image_of.fs env J x0 h | _ => none, fun env J id vs h => none⟩
theorem image_of.sfok {tb : Nat → Option Fa} (ht : tb 201 = some (.plain image_of.an)) : SfOk Tryz.prog tb 201 image_of.sf := SfOk.plain (an := image_of.an) ht (fun env J vs h r he => by
  simp only [image_of.sf] at he; split at he
  · rw [image_of.fe_eq]; exact he
  · cases he) (fun env J id vs h r he => by simp only [image_of.sf] at he; cases he)
/- 202 bytes.HasPrefix -/
noncomputable def bytes_HasPrefix.c0 (env : Env) (J : JT) (x0 x1 : V) (h : H) : Ans :=
 bnd (lenV .slc h x0) fun t6_1 =>
 bnd (lenV .slc h x1) fun t8_2 =>
 bnd (bin .geq t6_1 t8_2) fun t9_3 =>
 bnd2 (gd t9_3 true (some (x0, h)) h) fun t11_4 h_5 =>
 bnd2 (gd t9_3 true (some (x1, h_5)) h_5) fun t12_6 h_7 =>
 bnd2 (gd t9_3 true (bnd (lenV .slc h_7 t12_6) fun t13_8 =>
 some (t13_8, h_7)) h_7) fun t13_9 h_10 =>
 bnd2 (gd t9_3 true (bnd (slcV (.slc none) t11_4 none (some t13_9) none) fun t14_11 =>
 some (t14_11, h_10)) h_10) fun t14_12 h_13 =>
 bnd2 (gd t9_3 true (some (x1, h_13)) h_13) fun t15_14 h_15 =>
 bnd2 (gd t9_3 true (bnd2 (env 152 [t14_12, t15_14] h_15) fun t16_16 h_17 =>
 some (t16_16, h_17)) h_15) fun t16_18 h_19 =>
 bnd (pick t9_3 t16_18 (.bool false)) fun t17_20 =>
 some (t17_20, h_19)
noncomputable def bytes_HasPrefix.fs (env : Env) (J : JT) (x0 x1 : V) (h : H) : Ans :=
 bytes_HasPrefix.c0 env J x0 x1 h
theorem bytes_HasPrefix.fe_eq (env : Env) (J : JT) (x0 x1 : V) (h : H) : evF Tryz.prog env J 202 bytes_HasPrefix.an [x0, x1] h = bytes_HasPrefix.fs env J x0 x1 h := by kernel_rfl
theorem bytes_HasPrefix.eq {tb : Nat → Option Fa} (ht : tb 202 = some (.plain bytes_HasPrefix.an)) (x0 x1 : V) (h : H) : Ei Tryz.prog tb 202 [x0, x1] h = bytes_HasPrefix.fs (Ei Tryz.prog tb) (Ji Tryz.prog tb 202 bytes_HasPrefix.an) x0 x1 h := (Ei_eq (an := bytes_HasPrefix.an) ht _ h).trans (bytes_HasPrefix.fe_eq _ _ x0 x1 h)
noncomputable def bytes_HasPrefix.sf : Sf := ⟨fun env J vs h => match vs with | [x0, x1] => bytes_HasPrefix.fs env J x0 x1 h | _ => none, fun env J id vs h => none⟩
theorem bytes_HasPrefix.sfok {tb : Nat → Option Fa} (ht : tb 202 = some (.plain bytes_HasPrefix.an)) : SfOk Tryz.prog tb 202 bytes_HasPrefix.sf := SfOk.plain (an := bytes_HasPrefix.an) ht (fun env J vs h r he => by
  simp only [bytes_HasPrefix.sf] at he; split at he
  · rw [bytes_HasPrefix.fe_eq]; exact he
  · cases he) (fun env J id vs h r he => by simp only [bytes_HasPrefix.sf] at he; cases he)
/- 203 busbar/walk.Windows -/
noncomputable def walk_Windows.c6 (env : Env) (J : JT) (x2 x6 x7 x8 x32 : V) (h : H) : Ans :=
 J 0 [x2, x6, x7, x8, x32] h
noncomputable def walk_Windows.c5 (env : Env) (J : JT) (x2 x6 x7 x8 : V) (h : H) : Ans :=
 walk_Windows.c6 env J x2 x6 x7 x8 (.int .i64 0) h
noncomputable def walk_Windows.c4 (env : Env) (J : JT) (x2 x6 x7 x8 : V) (h : H) : Ans :=
 walk_Windows.c5 env J x2 x6 x7 x8 h
noncomputable def walk_Windows.c3 (env : Env) (J : JT) (x2 x6 x7 : V) (h : H) : Ans :=
 bnd (mkFn (.func 243) [] [x2, x6]) fun t31_28 =>
 walk_Windows.c4 env J x2 x6 x7 t31_28 h
noncomputable def walk_Windows.c2 (env : Env) (J : JT) (x2 x6 : V) (h : H) : Ans :=
 walk_Windows.c3 env J x2 x6 .nils h
noncomputable def walk_Windows.c1 (env : Env) (J : JT) (x1 x2 : V) (h : H) : Ans :=
 bnd (fieldA (some (some 137, (some 68))) x2 1) fun t26_19 =>
 bnd (indexA (.arr (some 68) 2 none) t26_19 x1) fun t27_20 =>
 bnd (ld none h t27_20) fun t28_21 =>
 bnd (build (zeroV Tryz.prog 300) [(0, t28_21)]) fun t29_22 =>
 bnd2 (box (some (some 299)) h t29_22) fun t30_23 h_24 =>
 bnd2 (al (some none) (zeroV Tryz.prog 298) h_24) fun t6_25 h_26 =>
 bnd (st none h_26 t6_25 t30_23) fun h_27 =>
 walk_Windows.c2 env J x2 t6_25 h_27
noncomputable def walk_Windows.c0 (env : Env) (J : JT) (x1 x2 : V) (h : H) : Ans :=
 bnd (ld (some 137) h x2) fun t14_3 =>
 bnd2 (env 155 [t14_3] h) fun t15_4 h_5 =>
 bnd (un .not t15_4) fun t16_6 =>
 bnd2 (gd t16_6 false (some (x1, h_5)) h_5) fun t18_7 h_8 =>
 bnd2 (gd t16_6 false (bnd (bin .lss t18_7 (.int .i64 0)) fun t19_9 =>
 some (t19_9, h_8)) h_8) fun t19_10 h_11 =>
 bnd (pick t16_6 (.bool true) t19_10) fun t20_12 =>
 bnd2 (gd t20_12 false (some (x1, h_11)) h_11) fun t22_13 h_14 =>
 bnd2 (gd t20_12 false (bnd (bin .geq t22_13 (.int .i64 2)) fun t23_15 =>
 some (t23_15, h_14)) h_14) fun t23_16 h_17 =>
 bnd (pick t20_12 (.bool true) t23_16) fun t24_18 =>
 cnd t24_18 (
 retV h_17 [.nils,(.int .i64 2)]) (
 walk_Windows.c1 env J x1 x2 h_17)
noncomputable def walk_Windows.fs (env : Env) (J : JT) (x0 x1 : V) (h : H) : Ans :=
 bnd2 (box (some (some 137)) h x0) fun t2_1 h_2 =>
 walk_Windows.c0 env J x1 t2_1 h_2
theorem walk_Windows.fe_eq (env : Env) (J : JT) (x0 x1 : V) (h : H) : evF Tryz.prog env J 203 walk_Windows.an [x0, x1] h = walk_Windows.fs env J x0 x1 h := by kernel_rfl
noncomputable def walk_Windows.c15 (env : Env) (J : JT) (x2 x6 x7 x8 x12 x32 : V) (h : H) : Ans :=
 bnd (ld (some 130) h x12) fun t67_60 =>
 bnd2 (bslc (some (131, (some 130), 80)) (zeroV Tryz.prog 131) 1 [(0, t67_60)] h) fun t68_61 h_62 =>
 bnd2 (app (some (131, (some 130), 80)) h_62 x7 t68_61) fun t69_63 h_64 =>
 bnd (bin .add x32 (.int .i64 1)) fun t70_65 =>
 J 0 [x2, x6, t69_63, x8, t70_65] h_64
noncomputable def walk_Windows.c14 (env : Env) (J : JT) (x2 x6 x7 x8 x12 x32 : V) (h : H) : Ans :=
 bnd (lenV .slc h x7) fun t64_58 =>
 bnd (bin .geq t64_58 (.int .i64 32)) fun t65_59 =>
 cnd t65_59 (
 retV h [.nils,(.int .i64 15)]) (
 walk_Windows.c15 env J x2 x6 x7 x8 x12 x32 h)
noncomputable def walk_Windows.c13 (env : Env) (J : JT) (x2 x6 x7 x8 x12 x13 x32 : V) (h : H) : Ans :=
 bnd (un .not x13) fun t62_56 =>
 cnd t62_56 (
 bnd (bin .add x32 (.int .i64 1)) fun t70_57 =>
 J 0 [x2, x6, x7, x8, t70_57] h) (
 walk_Windows.c14 env J x2 x6 x7 x8 x12 x32 h)
noncomputable def walk_Windows.c12 (env : Env) (J : JT) (x2 x6 x7 x8 x9 x32 : V) (h : H) : Ans :=
 bnd (ld (some 224) h x9) fun t55_46 =>
 bnd (fieldA (some (some 137, none)) x2 0) fun t56_47 =>
 bnd (ld none h t56_47) fun t57_48 =>
 bnd2 (env 246 [t55_46, t57_48] h) fun t58_49 h_50 =>
 bnd (ext t58_49 0) fun t59_51 =>
 bnd (ext t58_49 1) fun t60_52 =>
 bnd2 (al (some (some 130)) (zeroV Tryz.prog 131) h_50) fun t12_53 h_54 =>
 bnd (st (some 130) h_54 t12_53 t59_51) fun h_55 =>
 walk_Windows.c13 env J x2 x6 x7 x8 t12_53 t60_52 x32 h_55
noncomputable def walk_Windows.c11 (env : Env) (J : JT) (x2 x6 x7 x8 x9 x32 : V) (h : H) : Ans :=
 bnd (ld none h x6) fun t48_41 =>
 bnd (ld (some 224) h x9) fun t49_42 =>
 bnd2 (env 245 [t48_41, t49_42] h) fun t50_43 h_44 =>
 bnd (binE true .int t50_43 (.int .i64 0)) fun t52_45 =>
 cnd t52_45 (
 retV h_44 [.nils,t50_43]) (
 walk_Windows.c12 env J x2 x6 x7 x8 x9 x32 h_44)
noncomputable def walk_Windows.c10 (env : Env) (J : JT) (x2 x6 x7 x8 x9 x10 x32 x39 : V) (h : H) : Ans :=
 cnd x39 (
 retV h [.nils,x10]) (
 bnd (fieldA (some (some 224, none)) x9 0) fun t44_38 =>
 bnd (ld none h t44_38) fun t45_39 =>
 bnd (binE false .int t45_39 (.int .i64 0)) fun t46_40 =>
 cnd t46_40 (
 retV h [x7,(.int .i64 0)]) (
 walk_Windows.c11 env J x2 x6 x7 x8 x9 x32 h))
noncomputable def walk_Windows.c9 (env : Env) (J : JT) (x2 x6 x7 x8 x9 x10 x32 : V) (h : H) : Ans :=
 bnd (binE true .int x10 (.int .i64 0)) fun t41_37 =>
 walk_Windows.c10 env J x2 x6 x7 x8 x9 x10 x32 t41_37 h
noncomputable def walk_Windows.c8 (env : Env) (J : JT) (x2 x6 x7 x8 x32 : V) (h : H) : Ans :=
 bnd2 (callV env x8 [] h) fun t36_30 h_31 =>
 bnd (ext t36_30 0) fun t37_32 =>
 bnd (ext t36_30 1) fun t38_33 =>
 bnd2 (al (some (some 224)) (zeroV Tryz.prog 225) h_31) fun t9_34 h_35 =>
 bnd (st (some 224) h_35 t9_34 t37_32) fun h_36 =>
 walk_Windows.c9 env J x2 x6 x7 x8 t9_34 t38_33 x32 h_36
noncomputable def walk_Windows.c7 (env : Env) (J : JT) (x2 x6 x7 x8 x32 x33 : V) (h : H) : Ans :=
 cnd x33 (
 walk_Windows.c8 env J x2 x6 x7 x8 x32 h) (
 retV h [.nils,(.int .i64 15)])
noncomputable def walk_Windows.p0 (env : Env) (J : JT) (x2 x6 x7 x8 x32 : V) (h : H) : Ans :=
 bnd (bin .lss x32 (.int .i64 4096)) fun t33_29 =>
 walk_Windows.c7 env J x2 x6 x7 x8 x32 t33_29 h
theorem walk_Windows.p0_eq (env : Env) (J : JT) (x2 x6 x7 x8 x32 : V) (h : H) : evP Tryz.prog env J 203 walk_Windows.an 0 [x2, x6, x7, x8, x32] h = walk_Windows.p0 env J x2 x6 x7 x8 x32 h := by kernel_rfl
theorem walk_Windows.eq {tb : Nat → Option Fa} (ht : tb 203 = some (.plain walk_Windows.an)) (x0 x1 : V) (h : H) : Ei Tryz.prog tb 203 [x0, x1] h = walk_Windows.fs (Ei Tryz.prog tb) (Ji Tryz.prog tb 203 walk_Windows.an) x0 x1 h := (Ei_eq (an := walk_Windows.an) ht _ h).trans (walk_Windows.fe_eq _ _ x0 x1 h)
theorem walk_Windows.J0_eq {tb : Nat → Option Fa} (x2 x6 x7 x8 x32 : V) (h : H) : Ji Tryz.prog tb 203 walk_Windows.an 0 [x2, x6, x7, x8, x32] h = walk_Windows.p0 (Ei Tryz.prog tb) (Ji Tryz.prog tb 203 walk_Windows.an) x2 x6 x7 x8 x32 h := (Ji_eq _ _ h).trans (walk_Windows.p0_eq _ _ x2 x6 x7 x8 x32 h)
noncomputable def walk_Windows.sf : Sf := ⟨fun env J vs h => match vs with | [x0, x1] => walk_Windows.fs env J x0 x1 h | _ => none, fun env J id vs h => bif Nat.beq id 0 then (match vs with | [x2, x6, x7, x8, x32] => walk_Windows.p0 env J x2 x6 x7 x8 x32 h | _ => none) else (none)⟩
theorem walk_Windows.sfok {tb : Nat → Option Fa} (ht : tb 203 = some (.plain walk_Windows.an)) : SfOk Tryz.prog tb 203 walk_Windows.sf := SfOk.plain (an := walk_Windows.an) ht (fun env J vs h r he => by
  simp only [walk_Windows.sf] at he; split at he
  · rw [walk_Windows.fe_eq]; exact he
  · cases he) (fun env J id vs h r he => by
  simp only [walk_Windows.sf] at he
  cases hb : Nat.beq id 0
  case true =>
    rw [hb] at he; rw [Nat.eq_of_beq_eq_true hb]; simp only [cond_true] at he; split at he
    · rw [walk_Windows.p0_eq]; exact he
    · cases he
  rw [hb] at he; simp only [cond_false] at he; clear hb
  cases he)
/- 204 busbar/plan.View -/
noncomputable def plan_View.c4 (env : Env) (J : JT) (x2 x7 x8 x22 x23 x24 : V) (h : H) : Ans :=
 J 0 [x2, x7, x8, x22, x23, x24] h
noncomputable def plan_View.c3 (env : Env) (J : JT) (x1 x2 x3 x7 x8 : V) (h : H) : Ans :=
 bnd (fieldA (some (some 24, (some 23))) x3 1) fun t20_11 =>
 bnd (indexA (.arr (some 23) 2 none) t20_11 x1) fun t21_12 =>
 bnd (ld none h t21_12) fun t22_13 =>
 bnd (lenV .slc h t22_13) fun t23_14 =>
 plan_View.c4 env J x2 x7 x8 t22_13 t23_14 (.int .i64 0) h
noncomputable def plan_View.c2 (env : Env) (J : JT) (x1 x2 x3 x7 : V) (h : H) : Ans :=
 bnd (build (zeroV Tryz.prog 59) [(0, (.int .i64 3)), (2, x7), (6, (.int .i64 (-1)))]) fun t17_8 =>
 bnd2 (bslc (some (59, (some 58), 64)) (zeroV Tryz.prog 59) 1 [(0, t17_8)] h) fun t18_9 h_10 =>
 plan_View.c3 env J x1 x2 x3 x7 t18_9 h_10
noncomputable def plan_View.c1 (env : Env) (J : JT) (x1 x2 x3 : V) (h : H) : Ans :=
 bnd2 (env 100 [x1] h) fun t15_6 h_7 =>
 plan_View.c2 env J x1 x2 x3 t15_6 h_7
noncomputable def plan_View.c0 (env : Env) (J : JT) (x1 x2 x3 : V) (h : H) : Ans :=
 bnd2 (env 99 [x1] h) fun t12_3 h_4 =>
 bnd (un .not t12_3) fun t13_5 =>
 cnd t13_5 (
 some (.nils, h_4)) (
 plan_View.c1 env J x1 x2 x3 h_4)
noncomputable def plan_View.fs (env : Env) (J : JT) (x0 x1 x2 : V) (h : H) : Ans :=
 bnd2 (box (some (some 24)) h x0) fun t3_1 h_2 =>
 plan_View.c0 env J x1 x2 t3_1 h_2
theorem plan_View.fe_eq (env : Env) (J : JT) (x0 x1 x2 : V) (h : H) : evF Tryz.prog env J 204 plan_View.an [x0, x1, x2] h = plan_View.fs env J x0 x1 x2 h := by kernel_rfl
noncomputable def plan_View.c9 (env : Env) (J : JT) (x2 x7 x8 x10 x22 x23 x24 : V) (h : H) : Ans :=
 bnd (ld (some 130) h x10) fun t44_42 =>
 bnd2 (env 101 [t44_42] h) fun t45_43 h_44 =>
 bnd (bin .add x7 t45_43) fun t46_45 =>
 bnd (bin .add x24 (.int .i64 1)) fun t47_46 =>
 J 0 [x2, t46_45, x8, x22, x23, t47_46] h_44
noncomputable def plan_View.c8 (env : Env) (J : JT) (x2 x7 x8 x10 x22 x23 x24 : V) (h : H) : Ans :=
 bnd (ld (some 130) h x10) fun t37_35 =>
 bnd2 (env 247 [t37_35, x7, x2] h) fun t40_36 h_37 =>
 bnd2 (bslc (some (59, (some 58), 64)) (zeroV Tryz.prog 59) 1 [(0, t40_36)] h_37) fun t41_38 h_39 =>
 bnd2 (app (some (59, (some 58), 64)) h_39 x8 t41_38) fun t42_40 h_41 =>
 plan_View.c9 env J x2 x7 t42_40 x10 x22 x23 x24 h_41
noncomputable def plan_View.c7 (env : Env) (J : JT) (x2 x7 x8 x10 x22 x23 x24 : V) (h : H) : Ans :=
 bnd (fieldA (some (some 130, none)) x10 0) fun t28_21 =>
 bnd (ld none h t28_21) fun t29_22 =>
 bnd (bin .lss t29_22 (.int .i64 0)) fun t30_23 =>
 bnd2 (gd t30_23 false (bnd (fieldA (some (some 130, none)) x10 0) fun t32_24 =>
 some (t32_24, h)) h) fun t32_25 h_26 =>
 bnd2 (gd t30_23 false (bnd (ld none h_26 t32_25) fun t33_27 =>
 some (t33_27, h_26)) h_26) fun t33_28 h_29 =>
 bnd2 (gd t30_23 false (bnd (bin .gtr t33_28 (.int .i64 2)) fun t34_30 =>
 some (t34_30, h_29)) h_29) fun t34_31 h_32 =>
 bnd (pick t30_23 (.bool true) t34_31) fun t35_33 =>
 cnd t35_33 (
 bnd (bin .add x24 (.int .i64 1)) fun t47_34 =>
 J 0 [x2, x7, x8, x22, x23, t47_34] h_32) (
 plan_View.c8 env J x2 x7 x8 x10 x22 x23 x24 h_32)
noncomputable def plan_View.c6 (env : Env) (J : JT) (x2 x7 x8 x22 x23 x24 : V) (h : H) : Ans :=
 bnd (indexA (.slc (some 130)) x22 x24) fun t26_16 =>
 bnd (ld (some 130) h t26_16) fun t27_17 =>
 bnd2 (al (some (some 130)) (zeroV Tryz.prog 131) h) fun t10_18 h_19 =>
 bnd (st (some 130) h_19 t10_18 t27_17) fun h_20 =>
 plan_View.c7 env J x2 x7 x8 t10_18 x22 x23 x24 h_20
noncomputable def plan_View.c10 (env : Env) (J : JT) (x7 x8 : V) (h : H) : Ans :=
 bnd (build (zeroV Tryz.prog 59) [(0, (.int .i64 4)), (1, x7), (2, (.int .i64 120)), (6, (.int .i64 (-1)))]) fun t50_47 =>
 bnd2 (bslc (some (59, (some 58), 64)) (zeroV Tryz.prog 59) 1 [(0, t50_47)] h) fun t51_48 h_49 =>
 bnd2 (app (some (59, (some 58), 64)) h_49 x8 t51_48) fun t52_50 h_51 =>
 some (t52_50, h_51)
noncomputable def plan_View.c5 (env : Env) (J : JT) (x2 x7 x8 x22 x23 x24 x25 : V) (h : H) : Ans :=
 cnd x25 (
 plan_View.c6 env J x2 x7 x8 x22 x23 x24 h) (
 plan_View.c10 env J x7 x8 h)
noncomputable def plan_View.p0 (env : Env) (J : JT) (x2 x7 x8 x22 x23 x24 : V) (h : H) : Ans :=
 bnd (bin .lss x24 x23) fun t25_15 =>
 plan_View.c5 env J x2 x7 x8 x22 x23 x24 t25_15 h
theorem plan_View.p0_eq (env : Env) (J : JT) (x2 x7 x8 x22 x23 x24 : V) (h : H) : evP Tryz.prog env J 204 plan_View.an 0 [x2, x7, x8, x22, x23, x24] h = plan_View.p0 env J x2 x7 x8 x22 x23 x24 h := by kernel_rfl
theorem plan_View.eq {tb : Nat → Option Fa} (ht : tb 204 = some (.plain plan_View.an)) (x0 x1 x2 : V) (h : H) : Ei Tryz.prog tb 204 [x0, x1, x2] h = plan_View.fs (Ei Tryz.prog tb) (Ji Tryz.prog tb 204 plan_View.an) x0 x1 x2 h := (Ei_eq (an := plan_View.an) ht _ h).trans (plan_View.fe_eq _ _ x0 x1 x2 h)
theorem plan_View.J0_eq {tb : Nat → Option Fa} (x2 x7 x8 x22 x23 x24 : V) (h : H) : Ji Tryz.prog tb 204 plan_View.an 0 [x2, x7, x8, x22, x23, x24] h = plan_View.p0 (Ei Tryz.prog tb) (Ji Tryz.prog tb 204 plan_View.an) x2 x7 x8 x22 x23 x24 h := (Ji_eq _ _ h).trans (plan_View.p0_eq _ _ x2 x7 x8 x22 x23 x24 h)
noncomputable def plan_View.sf : Sf := ⟨fun env J vs h => match vs with | [x0, x1, x2] => plan_View.fs env J x0 x1 x2 h | _ => none, fun env J id vs h => bif Nat.beq id 0 then (match vs with | [x2, x7, x8, x22, x23, x24] => plan_View.p0 env J x2 x7 x8 x22 x23 x24 h | _ => none) else (none)⟩
theorem plan_View.sfok {tb : Nat → Option Fa} (ht : tb 204 = some (.plain plan_View.an)) : SfOk Tryz.prog tb 204 plan_View.sf := SfOk.plain (an := plan_View.an) ht (fun env J vs h r he => by
  simp only [plan_View.sf] at he; split at he
  · rw [plan_View.fe_eq]; exact he
  · cases he) (fun env J id vs h r he => by
  simp only [plan_View.sf] at he
  cases hb : Nat.beq id 0
  case true =>
    rw [hb] at he; rw [Nat.eq_of_beq_eq_true hb]; simp only [cond_true] at he; split at he
    · rw [plan_View.p0_eq]; exact he
    · cases he
  rw [hb] at he; simp only [cond_false] at he; clear hb
  cases he)
/- 208 slices.ContainsFunc[[]int,int] -/
noncomputable def slices_ContainsFunc.fs (env : Env) (J : JT) (x0 x1 : V) (h : H) : Ans :=
 bnd2 (env 248 [x0, x1] h) fun t7_1 h_2 =>
 bnd (bin .geq t7_1 (.int .i64 0)) fun t8_3 =>
 some (t8_3, h_2)
theorem slices_ContainsFunc.fe_eq (env : Env) (J : JT) (x0 x1 : V) (h : H) : evF Tryz.prog env J 208 slices_ContainsFunc.an [x0, x1] h = slices_ContainsFunc.fs env J x0 x1 h := by kernel_rfl
theorem slices_ContainsFunc.eq {tb : Nat → Option Fa} (ht : tb 208 = some (.plain slices_ContainsFunc.an)) (x0 x1 : V) (h : H) : Ei Tryz.prog tb 208 [x0, x1] h = slices_ContainsFunc.fs (Ei Tryz.prog tb) (Ji Tryz.prog tb 208 slices_ContainsFunc.an) x0 x1 h := (Ei_eq (an := slices_ContainsFunc.an) ht _ h).trans (slices_ContainsFunc.fe_eq _ _ x0 x1 h)
noncomputable def slices_ContainsFunc.sf : Sf := ⟨fun env J vs h => match vs with | [x0, x1] => slices_ContainsFunc.fs env J x0 x1 h | _ => none, fun env J id vs h => none⟩
theorem slices_ContainsFunc.sfok {tb : Nat → Option Fa} (ht : tb 208 = some (.plain slices_ContainsFunc.an)) : SfOk Tryz.prog tb 208 slices_ContainsFunc.sf := SfOk.plain (an := slices_ContainsFunc.an) ht (fun env J vs h r he => by
  simp only [slices_ContainsFunc.sf] at he; split at he
  · rw [slices_ContainsFunc.fe_eq]; exact he
  · cases he) (fun env J id vs h r he => by simp only [slices_ContainsFunc.sf] at he; cases he)
/- 213 busbar/valid.data -/
noncomputable def valid_data.c5 (env : Env) (J : JT) (x2 x5 x46 : V) (h : H) : Ans :=
 cnd x46 (
 some ((.int .i64 2), h)) (
 bnd (fieldA (some (some 130, none)) x2 5) fun t54_76 =>
 bnd (ld none h t54_76) fun t55_77 =>
 bnd2 (env 251 [x5, t55_77] h) fun t56_78 h_79 =>
 cnd t56_78 (
 some ((.int .i64 17), h_79)) (
 some ((.int .i64 0), h_79)))
noncomputable def valid_data.c4 (env : Env) (J : JT) (x1 x2 x5 x41 : V) (h : H) : Ans :=
 cnd x41 (
 some ((.int .i64 17), h)) (
 bnd (fieldA (some (some 130, none)) x2 5) fun t47_71 =>
 bnd (ld none h t47_71) fun t48_72 =>
 bnd2 (env 250 [t48_72, x1] h) fun t50_73 h_74 =>
 bnd (binE true .int t50_73 (.int .i64 0)) fun t51_75 =>
 valid_data.c5 env J x2 x5 t51_75 h_74)
noncomputable def valid_data.c3 (env : Env) (J : JT) (x1 x2 x5 x29 : V) (h : H) : Ans :=
 cnd x29 (
 some ((.int .i64 2), h)) (
 bnd (fieldA (some (some 130, none)) x2 4) fun t43_67 =>
 bnd (ld none h t43_67) fun t44_68 =>
 bnd2 (env 251 [x5, t44_68] h) fun t45_69 h_70 =>
 valid_data.c4 env J x1 x2 x5 t45_69 h_70)
noncomputable def valid_data.c2 (env : Env) (J : JT) (x1 x2 x5 x7 : V) (h : H) : Ans :=
 cnd x7 (
 some ((.int .i64 3), h)) (
 bnd (fieldA (some (some 130, none)) x2 4) fun t30_47 =>
 bnd (ld none h t30_47) fun t31_48 =>
 bnd (lenV .slc h t31_48) fun t32_49 =>
 bnd (bin .gtr t32_49 (.int .i64 4)) fun t33_50 =>
 bnd2 (gd t33_50 false (bnd (fieldA (some (some 130, none)) x2 4) fun t35_51 =>
 some (t35_51, h)) h) fun t35_52 h_53 =>
 bnd2 (gd t33_50 false (bnd (ld none h_53 t35_52) fun t36_54 =>
 some (t36_54, h_53)) h_53) fun t36_55 h_56 =>
 bnd2 (gd t33_50 false (some (x1, h_56)) h_56) fun t37_57 h_58 =>
 bnd2 (gd t33_50 false (bnd2 (env 250 [t36_55, t37_57] h_58) fun t38_59 h_60 =>
 some (t38_59, h_60)) h_58) fun t38_61 h_62 =>
 bnd2 (gd t33_50 false (bnd (binE true .int t38_61 (.int .i64 0)) fun t39_63 =>
 some (t39_63, h_62)) h_62) fun t39_64 h_65 =>
 bnd (pick t33_50 (.bool true) t39_64) fun t40_66 =>
 valid_data.c3 env J x1 x2 x5 t40_66 h_65)
noncomputable def valid_data.c1 (env : Env) (J : JT) (x1 x2 x5 : V) (h : H) : Ans :=
 bnd (fieldA (some (some 130, none)) x2 2) fun t8_5 =>
 bnd (ld none h t8_5) fun t9_6 =>
 bnd (bin .lss t9_6 (.int .i64 1)) fun t10_7 =>
 bnd2 (gd t10_7 false (bnd (fieldA (some (some 130, none)) x2 2) fun t12_8 =>
 some (t12_8, h)) h) fun t12_9 h_10 =>
 bnd2 (gd t10_7 false (bnd (ld none h_10 t12_9) fun t13_11 =>
 some (t13_11, h_10)) h_10) fun t13_12 h_13 =>
 bnd2 (gd t10_7 false (bnd (bin .gtr t13_12 (.int .i64 8)) fun t14_14 =>
 some (t14_14, h_13)) h_13) fun t14_15 h_16 =>
 bnd (pick t10_7 (.bool true) t14_15) fun t15_17 =>
 bnd2 (gd t15_17 false (bnd (fieldA (some (some 130, none)) x2 3) fun t17_18 =>
 some (t17_18, h_16)) h_16) fun t17_19 h_20 =>
 bnd2 (gd t15_17 false (bnd (ld none h_20 t17_19) fun t18_21 =>
 some (t18_21, h_20)) h_20) fun t18_22 h_23 =>
 bnd2 (gd t15_17 false (bnd (bin .lss t18_22 (.int .i64 0)) fun t19_24 =>
 some (t19_24, h_23)) h_23) fun t19_25 h_26 =>
 bnd (pick t15_17 (.bool true) t19_25) fun t20_27 =>
 bnd2 (gd t20_27 false (bnd (fieldA (some (some 130, none)) x2 3) fun t22_28 =>
 some (t22_28, h_26)) h_26) fun t22_29 h_30 =>
 bnd2 (gd t20_27 false (bnd (ld none h_30 t22_29) fun t23_31 =>
 some (t23_31, h_30)) h_30) fun t23_32 h_33 =>
 bnd2 (gd t20_27 false (bnd (fieldA (some (some 130, none)) x2 2) fun t24_34 =>
 some (t24_34, h_33)) h_33) fun t24_35 h_36 =>
 bnd2 (gd t20_27 false (bnd (ld none h_36 t24_35) fun t25_37 =>
 some (t25_37, h_36)) h_36) fun t25_38 h_39 =>
 bnd2 (gd t20_27 false (bnd (bin .sub (.int .i64 64) t25_38) fun t26_40 =>
 some (t26_40, h_39)) h_39) fun t26_41 h_42 =>
 bnd2 (gd t20_27 false (bnd (bin .gtr t23_32 t26_41) fun t27_43 =>
 some (t27_43, h_42)) h_42) fun t27_44 h_45 =>
 bnd (pick t20_27 (.bool true) t27_44) fun t28_46 =>
 valid_data.c2 env J x1 x2 x5 t28_46 h_45
noncomputable def valid_data.c0 (env : Env) (J : JT) (x1 x2 : V) (h : H) : Ans :=
 bnd2 (mkMap h) fun t6_3 h_4 =>
 valid_data.c1 env J x1 x2 t6_3 h_4
noncomputable def valid_data.fs (env : Env) (J : JT) (x0 x1 : V) (h : H) : Ans :=
 bnd2 (box (some (some 130)) h x0) fun t2_1 h_2 =>
 valid_data.c0 env J x1 t2_1 h_2
theorem valid_data.fe_eq (env : Env) (J : JT) (x0 x1 : V) (h : H) : evF Tryz.prog env J 213 valid_data.an [x0, x1] h = valid_data.fs env J x0 x1 h := by kernel_rfl
theorem valid_data.eq {tb : Nat → Option Fa} (ht : tb 213 = some (.plain valid_data.an)) (x0 x1 : V) (h : H) : Ei Tryz.prog tb 213 [x0, x1] h = valid_data.fs (Ei Tryz.prog tb) (Ji Tryz.prog tb 213 valid_data.an) x0 x1 h := (Ei_eq (an := valid_data.an) ht _ h).trans (valid_data.fe_eq _ _ x0 x1 h)
noncomputable def valid_data.sf : Sf := ⟨fun env J vs h => match vs with | [x0, x1] => valid_data.fs env J x0 x1 h | _ => none, fun env J id vs h => none⟩
theorem valid_data.sfok {tb : Nat → Option Fa} (ht : tb 213 = some (.plain valid_data.an)) : SfOk Tryz.prog tb 213 valid_data.sf := SfOk.plain (an := valid_data.an) ht (fun env J vs h r he => by
  simp only [valid_data.sf] at he; split at he
  · rw [valid_data.fe_eq]; exact he
  · cases he) (fun env J id vs h r he => by simp only [valid_data.sf] at he; cases he)
/- 214 busbar/compile.command -/
noncomputable def compile_command.c8 (env : Env) (J : JT) (x4 x5 : V) (h : H) : Ans :=
 bnd (ld (some 224) h x5) fun t41_37 =>
 bnd2 (env 254 [t41_37] h) fun t42_38 h_39 =>
 bnd (st (some 224) h_39 x4 t42_38) fun h_40 =>
 bnd (ld (some 224) h_40 x4) fun r_41 =>
 some (r_41, h_40)
noncomputable def compile_command.c9 (env : Env) (J : JT) (x4 x5 x35 : V) (h : H) : Ans :=
 cnd x35 (
 bnd (fieldA (some (some 224, none)) x5 0) fun t40_46 =>
 bnd (st none h t40_46 (.int .i64 2)) fun h_47 =>
 compile_command.c8 env J x4 x5 h_47) (
 compile_command.c8 env J x4 x5 h)
noncomputable def compile_command.c7 (env : Env) (J : JT) (x1 x2 x4 x5 x6 x29 : V) (h : H) : Ans :=
 cnd x29 (
 bnd (fieldA (some (some 224, none)) x5 0) fun t33_33 =>
 bnd (st none h t33_33 (.int .i64 1)) fun h_34 =>
 bnd (fieldA (some (some 224, none)) x5 3) fun t34_35 =>
 bnd (st none h_34 t34_35 x6) fun h_36 =>
 compile_command.c8 env J x4 x5 h_36) (
 bnd (fieldA (some (some 130, none)) x2 5) fun t36_42 =>
 bnd (ld none h t36_42) fun t37_43 =>
 bnd2 (env 253 [t37_43, x1] h) fun t39_44 h_45 =>
 compile_command.c9 env J x4 x5 t39_44 h_45)
noncomputable def compile_command.c6 (env : Env) (J : JT) (x1 x2 x4 x5 x6 : V) (h : H) : Ans :=
 bnd (bin .geq x6 (.int .i64 0)) fun t31_32 =>
 compile_command.c7 env J x1 x2 x4 x5 x6 t31_32 h
noncomputable def compile_command.c5 (env : Env) (J : JT) (x1 x2 x4 x5 : V) (h : H) : Ans :=
 bnd (fieldA (some (some 130, none)) x2 4) fun t25_28 =>
 bnd (ld none h t25_28) fun t26_29 =>
 bnd2 (env 252 [t26_29, x1] h) fun t28_30 h_31 =>
 compile_command.c6 env J x1 x2 x4 x5 t28_30 h_31
noncomputable def compile_command.c4 (env : Env) (J : JT) (x1 x2 x4 : V) (h : H) : Ans :=
 bnd (fieldA (some (some 130, none)) x2 2) fun t17_17 =>
 bnd (ld none h t17_17) fun t18_18 =>
 bnd (fieldA (some (some 130, none)) x2 3) fun t19_19 =>
 bnd (ld none h t19_19) fun t20_20 =>
 bnd (fieldA (some (some 130, none)) x2 4) fun t21_21 =>
 bnd (ld none h t21_21) fun t22_22 =>
 bnd (lenV .slc h t22_22) fun t23_23 =>
 bnd (build (zeroV Tryz.prog 225) [(0, (.int .i64 3)), (2, t18_18), (1, t20_20), (4, t23_23)]) fun t24_24 =>
 bnd2 (al (some (some 224)) (zeroV Tryz.prog 225) h) fun t5_25 h_26 =>
 bnd (st (some 224) h_26 t5_25 t24_24) fun h_27 =>
 compile_command.c5 env J x1 x2 x4 t5_25 h_27
noncomputable def compile_command.c3 (env : Env) (J : JT) (x1 x2 x4 x14 : V) (h : H) : Ans :=
 cnd x14 (
 bnd (build (zeroV Tryz.prog 225) [(0, (.int .i64 5))]) fun t16_14 =>
 bnd (st (some 224) h x4 t16_14) fun h_15 =>
 bnd (ld (some 224) h_15 x4) fun r_16 =>
 some (r_16, h_15)) (
 compile_command.c4 env J x1 x2 x4 h)
noncomputable def compile_command.c2 (env : Env) (J : JT) (x1 x2 x4 x8 x9 : V) (h : H) : Ans :=
 cnd x9 (
 bnd (fieldA (some (some 130, none)) x2 1) fun t11_8 =>
 bnd (ld none h t11_8) fun t12_9 =>
 bnd (build (zeroV Tryz.prog 225) [(0, (.int .i64 4)), (5, t12_9)]) fun t13_10 =>
 bnd (st (some 224) h x4 t13_10) fun h_11 =>
 bnd (ld (some 224) h_11 x4) fun r_12 =>
 some (r_12, h_11)) (
 bnd (binE false .int x8 (.int .i64 2)) fun t15_13 =>
 compile_command.c3 env J x1 x2 x4 t15_13 h)
noncomputable def compile_command.c1 (env : Env) (J : JT) (x1 x2 x4 x8 : V) (h : H) : Ans :=
 bnd (binE false .int x8 (.int .i64 1)) fun t10_7 =>
 compile_command.c2 env J x1 x2 x4 x8 t10_7 h
noncomputable def compile_command.c0 (env : Env) (J : JT) (x1 x2 x4 : V) (h : H) : Ans :=
 bnd (fieldA (some (some 130, none)) x2 0) fun t7_5 =>
 bnd (ld none h t7_5) fun t8_6 =>
 compile_command.c1 env J x1 x2 x4 t8_6 h
noncomputable def compile_command.fs (env : Env) (J : JT) (x0 x1 : V) (h : H) : Ans :=
 bnd2 (box (some (some 130)) h x0) fun t2_1 h_2 =>
 bnd2 (al (some (some 224)) (zeroV Tryz.prog 225) h_2) fun t4_3 h_4 =>
 compile_command.c0 env J x1 t2_1 t4_3 h_4
theorem compile_command.fe_eq (env : Env) (J : JT) (x0 x1 : V) (h : H) : evF Tryz.prog env J 214 compile_command.an [x0, x1] h = compile_command.fs env J x0 x1 h := by kernel_rfl
theorem compile_command.eq {tb : Nat → Option Fa} (ht : tb 214 = some (.plain compile_command.an)) (x0 x1 : V) (h : H) : Ei Tryz.prog tb 214 [x0, x1] h = compile_command.fs (Ei Tryz.prog tb) (Ji Tryz.prog tb 214 compile_command.an) x0 x1 h := (Ei_eq (an := compile_command.an) ht _ h).trans (compile_command.fe_eq _ _ x0 x1 h)
noncomputable def compile_command.sf : Sf := ⟨fun env J vs h => match vs with | [x0, x1] => compile_command.fs env J x0 x1 h | _ => none, fun env J id vs h => none⟩
theorem compile_command.sfok {tb : Nat → Option Fa} (ht : tb 214 = some (.plain compile_command.an)) : SfOk Tryz.prog tb 214 compile_command.sf := SfOk.plain (an := compile_command.an) ht (fun env J vs h r he => by
  simp only [compile_command.sf] at he; split at he
  · rw [compile_command.fe_eq]; exact he
  · cases he) (fun env J id vs h r he => by simp only [compile_command.sf] at he; cases he)
end Go.Proofs.YtbgdidfegkmafaaGreat
