import Derived.Test.YtbgdidfegkmafaaGreatTb
import Derived.Test.YtbgdidfegkmafaaGreatAmD
namespace Go.Proofs.YtbgdidfegkmafaaGreat
open Go Go.AM Go.Proofs
set_option linter.unusedVariables false
set_option maxRecDepth 100000
set_option maxHeartbeats 4000000
/- 79 busbar/compile.For -/
noncomputable def compile_For.c8 (env : Env) (J : JT) (x1 x4 x7 x8 x9 x40 : V) (h : H) : Ans :=
 cnd x40 (
 bnd (lenV .slc h x7) fun t43_42 =>
 bnd (bin .add x9 t43_42) fun t44_43 =>
 J 0 [x1, x4, x7, x8, t44_43] h) (
 J 0 [x1, x4, x7, .nils, x9] h)
noncomputable def compile_For.c7 (env : Env) (J : JT) (x1 x4 x7 x8 x9 : V) (h : H) : Ans :=
 bnd2 (env 152 [x7, x8] h) fun t39_39 h_40 =>
 bnd (un .not t39_39) fun t40_41 =>
 compile_For.c8 env J x1 x4 x7 x8 x9 t40_41 h_40
noncomputable def compile_For.c6 (env : Env) (J : JT) (x1 x4 x7 x8 : V) (h : H) : Ans :=
 compile_For.c7 env J x1 x4 x7 x8 (.int .i64 8) h
noncomputable def compile_For.c5 (env : Env) (J : JT) (x1 x2 x4 : V) (h : H) : Ans :=
 bnd (fieldA (some (some 24, (some 23))) x2 1) fun t27_29 =>
 bnd (indexA (.arr (some 23) 2 none) t27_29 (.int .i64 0)) fun t28_30 =>
 bnd (ld none h t28_30) fun t29_31 =>
 bnd (fieldA (some (some 24, (some 23))) x2 1) fun t32_32 =>
 bnd (indexA (.arr (some 23) 2 none) t32_32 (.int .i64 1)) fun t33_33 =>
 bnd (ld none h t33_33) fun t34_34 =>
 bnd2 (env 151 [t29_31, x1] h) fun t31_35 h_36 =>
 bnd (ld none h_36 t33_33) fun t34_44 =>
 chkS t34_44 t34_34 (
 bnd2 (env 151 [t34_34, x1] h_36) fun t36_37 h_38 =>
 compile_For.c6 env J x1 x4 t31_35 t36_37 h_38)
noncomputable def compile_For.c4 (env : Env) (J : JT) (x1 x2 x4 x25 : V) (h : H) : Ans :=
 cnd x25 (
 bnd (build (zeroV Tryz.prog 138) []) fun t26_26 =>
 bnd (st (some 137) h x4 t26_26) fun h_27 =>
 bnd (ld (some 137) h_27 x4) fun r_28 =>
 retV h_27 [r_28,(.int .i64 2)]) (
 compile_For.c5 env J x1 x2 x4 h)
noncomputable def compile_For.c3 (env : Env) (J : JT) (x1 x2 x4 : V) (h : H) : Ans :=
 bnd (bin .lss x1 (.int .i64 0)) fun t19_13 =>
 bnd2 (gd t19_13 false (some (x1, h)) h) fun t21_14 h_15 =>
 bnd2 (gd t19_13 false (bnd (fieldA (some (some 24, none)) x2 0) fun t22_16 =>
 some (t22_16, h_15)) h_15) fun t22_17 h_18 =>
 bnd2 (gd t19_13 false (bnd (ld none h_18 t22_17) fun t23_19 =>
 some (t23_19, h_18)) h_18) fun t23_20 h_21 =>
 bnd2 (gd t19_13 false (bnd (bin .geq t21_14 t23_20) fun t24_22 =>
 some (t24_22, h_21)) h_21) fun t24_23 h_24 =>
 bnd (pick t19_13 (.bool true) t24_23) fun t25_25 =>
 compile_For.c4 env J x1 x2 x4 t25_25 h_24
noncomputable def compile_For.c2 (env : Env) (J : JT) (x1 x2 x4 x6 x15 : V) (h : H) : Ans :=
 cnd x15 (
 bnd (build (zeroV Tryz.prog 138) []) fun t16_10 =>
 bnd (st (some 137) h x4 t16_10) fun h_11 =>
 bnd (ld (some 137) h_11 x4) fun r_12 =>
 retV h_11 [r_12,x6]) (
 compile_For.c3 env J x1 x2 x4 h)
noncomputable def compile_For.c1 (env : Env) (J : JT) (x1 x2 x4 x6 : V) (h : H) : Ans :=
 bnd (binE true .int x6 (.int .i64 0)) fun t15_9 =>
 compile_For.c2 env J x1 x2 x4 x6 t15_9 h
noncomputable def compile_For.c0 (env : Env) (J : JT) (x1 x2 x4 : V) (h : H) : Ans :=
 bnd (ld (some 24) h x2) fun t11_5 =>
 bnd2 (env 14 [t11_5] h) fun t12_6 h_7 =>
 bnd (fieldV (some (some 29, none)) t12_6 2) fun t13_8 =>
 compile_For.c1 env J x1 x2 x4 t13_8 h_7
noncomputable def compile_For.fs (env : Env) (J : JT) (x0 x1 : V) (h : H) : Ans :=
 bnd2 (box (some (some 24)) h x0) fun t2_1 h_2 =>
 bnd2 (al (some (some 137)) (zeroV Tryz.prog 138) h_2) fun t4_3 h_4 =>
 compile_For.c0 env J x1 t2_1 t4_3 h_4
theorem compile_For.fe_eq (env : Env) (J : JT) (x0 x1 : V) (h : H) : evF Tryz.prog env J 79 compile_For.an [x0, x1] h = compile_For.fs env J x0 x1 h := by kernel_rfl
noncomputable def compile_For.c9 (env : Env) (J : JT) (x1 x4 x7 x8 x10 : V) (h : H) : Ans :=
 bnd (build (zeroV Tryz.prog 68) [(0, (.int .i64 0)), (1, (.int .i64 4))]) fun t53_53 =>
 bnd2 (bslc (some (42, none, 24)) (zeroV Tryz.prog 42) 3 [(0, x10), (1, x7), (2, x8)] h) fun t57_54 h_55 =>
 bnd2 (env 154 [t57_54] h_55) fun t58_56 h_57 =>
 bnd (build (zeroV Tryz.prog 138) [(0, x1), (1, t53_53), (2, t58_56)]) fun t59_58 =>
 bnd (st (some 137) h_57 x4 t59_58) fun h_59 =>
 bnd (ld (some 137) h_59 x4) fun r_60 =>
 retV h_59 [r_60,(.int .i64 0)]
noncomputable def compile_For.p0 (env : Env) (J : JT) (x1 x4 x7 x8 x9 : V) (h : H) : Ans :=
 bnd (build (zeroV Tryz.prog 225) [(0, (.int .i64 6)), (6, (.int .i64 8))]) fun t45_45 =>
 bnd (build (zeroV Tryz.prog 225) []) fun t46_46 =>
 bnd (build (zeroV Tryz.prog 225) [(0, (.int .i64 6)), (6, x9)]) fun t48_47 =>
 bnd (build (zeroV Tryz.prog 225) []) fun t49_48 =>
 bnd2 (bslc (some (225, (some 224), 56)) (zeroV Tryz.prog 225) 4 [(0, t45_45), (1, t46_46), (2, t48_47), (3, t49_48)] h) fun t50_49 h_50 =>
 bnd2 (env 153 [.nils, t50_49] h_50) fun t51_51 h_52 =>
 compile_For.c9 env J x1 x4 x7 x8 t51_51 h_52
theorem compile_For.p0_eq (env : Env) (J : JT) (x1 x4 x7 x8 x9 : V) (h : H) : evP Tryz.prog env J 79 compile_For.an 0 [x1, x4, x7, x8, x9] h = compile_For.p0 env J x1 x4 x7 x8 x9 h := by kernel_rfl
theorem compile_For.eq {tb : Nat → Option Fa} (ht : tb 79 = some (.plain compile_For.an)) (x0 x1 : V) (h : H) : Ei Tryz.prog tb 79 [x0, x1] h = compile_For.fs (Ei Tryz.prog tb) (Ji Tryz.prog tb 79 compile_For.an) x0 x1 h := (Ei_eq (an := compile_For.an) ht _ h).trans (compile_For.fe_eq _ _ x0 x1 h)
theorem compile_For.J0_eq {tb : Nat → Option Fa} (x1 x4 x7 x8 x9 : V) (h : H) : Ji Tryz.prog tb 79 compile_For.an 0 [x1, x4, x7, x8, x9] h = compile_For.p0 (Ei Tryz.prog tb) (Ji Tryz.prog tb 79 compile_For.an) x1 x4 x7 x8 x9 h := (Ji_eq _ _ h).trans (compile_For.p0_eq _ _ x1 x4 x7 x8 x9 h)
noncomputable def compile_For.sf : Sf := ⟨fun env J vs h => match vs with | [x0, x1] => compile_For.fs env J x0 x1 h | _ => none, fun env J id vs h => bif Nat.beq id 0 then (match vs with | [x1, x4, x7, x8, x9] => compile_For.p0 env J x1 x4 x7 x8 x9 h | _ => none) else (none)⟩
theorem compile_For.sfok {tb : Nat → Option Fa} (ht : tb 79 = some (.plain compile_For.an)) : SfOk Tryz.prog tb 79 compile_For.sf := SfOk.plain (an := compile_For.an) ht (fun env J vs h r he => by
  simp only [compile_For.sf] at he; split at he
  · rw [compile_For.fe_eq]; exact he
  · cases he) (fun env J id vs h r he => by
  simp only [compile_For.sf] at he
  cases hb : Nat.beq id 0
  case true =>
    rw [hb] at he; rw [Nat.eq_of_beq_eq_true hb]; simp only [cond_true] at he; split at he
    · rw [compile_For.p0_eq]; exact he
    · cases he
  rw [hb] at he; simp only [cond_false] at he; clear hb
  cases he)
/- 80 (busbar/image.Image).Put -/
noncomputable def image_Image_Put.c4 (env : Env) (J : JT) (x4 : V) (h : H) : Ans :=
 bnd2 (bslc (some (42, none, 24)) (zeroV Tryz.prog 42) 1 [(0, x4)] h) fun t34_38 h_39 =>
 bnd2 (env 157 [t34_38] h_39) fun t35_40 h_41 =>
 bnd2 (conv (.int .i64) h_41 t35_40) fun t36_42 h_43 =>
 bnd2 (env 156 [x4, t36_42] h_43) fun t37_44 h_45 =>
 retV h_45 [t37_44,(.int .i64 0)]
noncomputable def image_Image_Put.c3 (env : Env) (J : JT) (x1 x4 : V) (h : H) : Ans :=
 bnd (fieldA (some (some 137, none)) x1 2) fun t29_34 =>
 bnd (ld none h t29_34) fun t30_35 =>
 bnd2 (app (some (5, none, 1)) h x4 t30_35) fun t31_36 h_37 =>
 image_Image_Put.c4 env J t31_36 h_37
noncomputable def image_Image_Put.c2 (env : Env) (J : JT) (x1 x4 : V) (h : H) : Ans :=
 bnd (fieldA (some (some 137, (some 68))) x1 1) fun t16_19 =>
 bnd (indexA (.arr (some 68) 2 none) t16_19 (.int .i64 0)) fun t17_20 =>
 bnd (ld none h t17_20) fun t18_21 =>
 bnd (fieldA (some (some 137, (some 68))) x1 1) fun t20_22 =>
 bnd (indexA (.arr (some 68) 2 none) t20_22 (.int .i64 1)) fun t21_23 =>
 bnd (ld none h t21_23) fun t22_24 =>
 bnd (fieldA (some (some 137, none)) x1 2) fun t24_25 =>
 bnd (ld none h t24_25) fun t25_26 =>
 bnd (lenV .slc h t25_26) fun t26_27 =>
 bnd2 (env 156 [x4, t18_21] h) fun t19_28 h_29 =>
 bnd (ld none h_29 t21_23) fun t22_48 =>
 chkS t22_48 t22_24 (
 bnd (ld none h_29 t24_25) fun t25_47 =>
 chkS t25_47 t25_26 (
 bnd2 (env 156 [t19_28, t22_24] h_29) fun t23_30 h_31 =>
 bnd (ld none h_31 t24_25) fun t25_46 =>
 chkS t25_46 t25_26 (
 bnd2 (env 156 [t23_30, t26_27] h_31) fun t27_32 h_33 =>
 image_Image_Put.c3 env J x1 t27_32 h_33)))
noncomputable def image_Image_Put.c1 (env : Env) (J : JT) (x1 : V) (h : H) : Ans :=
 bnd2 (bslc (some (5, none, 1)) (zeroV Tryz.prog 5) 2 [(0, (.int .u8 84)), (1, (.int .u8 49))] h) fun t8_7 h_8 =>
 bnd2 (conv .sl2 h_8 t8_7) fun t9_9 h_10 =>
 bnd (fieldA (some (some 137, none)) x1 0) fun t10_11 =>
 bnd (ld none h_10 t10_11) fun t11_12 =>
 bnd2 (conv (.int .u8) h_10 t11_12) fun t12_13 h_14 =>
 bnd2 (bslc (some (5, none, 1)) (zeroV Tryz.prog 5) 1 [(0, t12_13)] h_14) fun t13_15 h_16 =>
 bnd2 (app (some (5, none, 1)) h_16 t9_9 t13_15) fun t14_17 h_18 =>
 image_Image_Put.c2 env J x1 t14_17 h_18
noncomputable def image_Image_Put.c0 (env : Env) (J : JT) (x1 : V) (h : H) : Ans :=
 bnd (ld (some 137) h x1) fun t5_3 =>
 bnd2 (env 155 [t5_3] h) fun t6_4 h_5 =>
 bnd (un .not t6_4) fun t7_6 =>
 cnd t7_6 (
 retV h_5 [.nils,(.int .i64 2)]) (
 image_Image_Put.c1 env J x1 h_5)
noncomputable def image_Image_Put.fs (env : Env) (J : JT) (x0 : V) (h : H) : Ans :=
 bnd2 (box (some (some 137)) h x0) fun t1_1 h_2 =>
 image_Image_Put.c0 env J t1_1 h_2
theorem image_Image_Put.fe_eq (env : Env) (J : JT) (x0 : V) (h : H) : evF Tryz.prog env J 80 image_Image_Put.an [x0] h = image_Image_Put.fs env J x0 h := by kernel_rfl
theorem image_Image_Put.eq {tb : Nat → Option Fa} (ht : tb 80 = some (.plain image_Image_Put.an)) (x0 : V) (h : H) : Ei Tryz.prog tb 80 [x0] h = image_Image_Put.fs (Ei Tryz.prog tb) (Ji Tryz.prog tb 80 image_Image_Put.an) x0 h := (Ei_eq (an := image_Image_Put.an) ht _ h).trans (image_Image_Put.fe_eq _ _ x0 h)
noncomputable def image_Image_Put.sf : Sf := ⟨fun env J vs h => match vs with | [x0] => image_Image_Put.fs env J x0 h | _ => none, fun env J id vs h => none⟩
theorem image_Image_Put.sfok {tb : Nat → Option Fa} (ht : tb 80 = some (.plain image_Image_Put.an)) : SfOk Tryz.prog tb 80 image_Image_Put.sf := SfOk.plain (an := image_Image_Put.an) ht (fun env J vs h r he => by
  simp only [image_Image_Put.sf] at he; split at he
  · rw [image_Image_Put.fe_eq]; exact he
  · cases he) (fun env J id vs h r he => by simp only [image_Image_Put.sf] at he; cases he)
/- 81 (*busbar/biu.Biu).none -/
noncomputable def biu_Biu_none.c0 (env : Env) (J : JT) (x0 : V) (h : H) : Ans :=
 bnd (binE false .ptr x0 .nilp) fun t4_1 =>
 bnd2 (gd t4_1 false (some (x0, h)) h) fun t6_2 h_3 =>
 bnd2 (gd t4_1 false (bnd (nilChk t6_2) fun t7_4 =>
 some (t7_4, h_3)) h_3) fun t7_5 h_6 =>
 bnd2 (gd t4_1 false (bnd (fieldA (some (some 84, none)) t7_5 0) fun t8_7 =>
 some (t8_7, h_6)) h_6) fun t8_8 h_9 =>
 bnd2 (gd t4_1 false (bnd (ld none h_9 t8_8) fun t9_10 =>
 some (t9_10, h_9)) h_9) fun t9_11 h_12 =>
 bnd2 (gd t4_1 false (bnd (un .not t9_11) fun t10_13 =>
 some (t10_13, h_12)) h_12) fun t10_14 h_15 =>
 bnd (pick t4_1 (.bool true) t10_14) fun t11_16 =>
 some (t11_16, h_15)
noncomputable def biu_Biu_none.fs (env : Env) (J : JT) (x0 : V) (h : H) : Ans :=
 biu_Biu_none.c0 env J x0 h
theorem biu_Biu_none.fe_eq (env : Env) (J : JT) (x0 : V) (h : H) : evF Tryz.prog env J 81 biu_Biu_none.an [x0] h = biu_Biu_none.fs env J x0 h := by kernel_rfl
theorem biu_Biu_none.eq {tb : Nat → Option Fa} (ht : tb 81 = some (.plain biu_Biu_none.an)) (x0 : V) (h : H) : Ei Tryz.prog tb 81 [x0] h = biu_Biu_none.fs (Ei Tryz.prog tb) (Ji Tryz.prog tb 81 biu_Biu_none.an) x0 h := (Ei_eq (an := biu_Biu_none.an) ht _ h).trans (biu_Biu_none.fe_eq _ _ x0 h)
noncomputable def biu_Biu_none.sf : Sf := ⟨fun env J vs h => match vs with | [x0] => biu_Biu_none.fs env J x0 h | _ => none, fun env J id vs h => none⟩
theorem biu_Biu_none.sfok {tb : Nat → Option Fa} (ht : tb 81 = some (.plain biu_Biu_none.an)) : SfOk Tryz.prog tb 81 biu_Biu_none.sf := SfOk.plain (an := biu_Biu_none.an) ht (fun env J vs h r he => by
  simp only [biu_Biu_none.sf] at he; split at he
  · rw [biu_Biu_none.fe_eq]; exact he
  · cases he) (fun env J id vs h r he => by simp only [biu_Biu_none.sf] at he; cases he)
/- 82 (*busbar/biu.Biu).anew -/
noncomputable def biu_Biu_anew.c1 (env : Env) (J : JT) (x0 : V) (h : H) : Ans :=
 bnd (build (zeroV Tryz.prog 83) []) fun t12_11 =>
 bnd (nilChk x0) fun t13_12 =>
 bnd (fieldA (some (some 84, (some 82))) t13_12 11) fun t14_13 =>
 bnd (st (some 82) h t14_13 t12_11) fun h_14 =>
 some (.tup [], h_14)
noncomputable def biu_Biu_anew.c0 (env : Env) (J : JT) (x0 : V) (h : H) : Ans :=
 bnd2 (env 78 [] h) fun t8_6 h_7 =>
 bnd (nilChk x0) fun t9_8 =>
 bnd (fieldA (some (some 84, none)) t9_8 4) fun t10_9 =>
 bnd (st none h_7 t10_9 t8_6) fun h_10 =>
 biu_Biu_anew.c1 env J x0 h_10
noncomputable def biu_Biu_anew.fs (env : Env) (J : JT) (x0 : V) (h : H) : Ans :=
 bnd (nilChk x0) fun t3_1 =>
 bnd (fieldA (some (some 84, none)) t3_1 3) fun t4_2 =>
 bnd (ld none h t4_2) fun t5_3 =>
 bnd2 (env 158 [t5_3] h) fun t6_4 h_5 =>
 biu_Biu_anew.c0 env J x0 h_5
theorem biu_Biu_anew.fe_eq (env : Env) (J : JT) (x0 : V) (h : H) : evF Tryz.prog env J 82 biu_Biu_anew.an [x0] h = biu_Biu_anew.fs env J x0 h := by kernel_rfl
theorem biu_Biu_anew.eq {tb : Nat → Option Fa} (ht : tb 82 = some (.plain biu_Biu_anew.an)) (x0 : V) (h : H) : Ei Tryz.prog tb 82 [x0] h = biu_Biu_anew.fs (Ei Tryz.prog tb) (Ji Tryz.prog tb 82 biu_Biu_anew.an) x0 h := (Ei_eq (an := biu_Biu_anew.an) ht _ h).trans (biu_Biu_anew.fe_eq _ _ x0 h)
noncomputable def biu_Biu_anew.sf : Sf := ⟨fun env J vs h => match vs with | [x0] => biu_Biu_anew.fs env J x0 h | _ => none, fun env J id vs h => none⟩
theorem biu_Biu_anew.sfok {tb : Nat → Option Fa} (ht : tb 82 = some (.plain biu_Biu_anew.an)) : SfOk Tryz.prog tb 82 biu_Biu_anew.sf := SfOk.plain (an := biu_Biu_anew.an) ht (fun env J vs h r he => by
  simp only [biu_Biu_anew.sf] at he; split at he
  · rw [biu_Biu_anew.fe_eq]; exact he
  · cases he) (fun env J id vs h r he => by simp only [biu_Biu_anew.sf] at he; cases he)
/- 83 (*busbar/biu.Biu).frame -/
noncomputable def biu_Biu_frame.c4 (env : Env) (J : JT) (x0 x1 x2 x8 x31 : V) (h : H) : Ans :=
 cnd x31 (
 bnd (nilChk x0) fun t33_18 =>
 bnd (fieldA (some (some 84, none)) t33_18 5) fun t34_19 =>
 bnd (ld none h t34_19) fun t35_20 =>
 bnd (nilChk x0) fun t38_21 =>
 bnd (fieldA (some (some 84, (some 38))) t38_21 2) fun t39_22 =>
 bnd (ld (some 38) h t39_22) fun t40_23 =>
 bnd2 (env 160 [t40_23, x1] h) fun t42_24 h_25 =>
 bnd (ld none h_25 t34_19) fun t35_30 =>
 chkS t35_30 t35_20 (
 bnd2 (env 161 [t35_20, x2, t42_24] h_25) fun t43_26 h_27 =>
 bnd2 (env 162 [x0, (.int .i64 0)] h_27) fun t45_28 h_29 =>
 some (t43_26, h_29))) (
 bnd2 (env 162 [x0, (.int .i64 0)] h) fun t45_31 h_32 =>
 some (x8, h_32))
noncomputable def biu_Biu_frame.c3 (env : Env) (J : JT) (x0 x1 x2 x8 : V) (h : H) : Ans :=
 bnd (bin .gtr x2 (.int .i64 0)) fun t31_17 =>
 biu_Biu_frame.c4 env J x0 x1 x2 x8 t31_17 h
noncomputable def biu_Biu_frame.c2 (env : Env) (J : JT) (x0 x1 x2 x7 x8 : V) (h : H) : Ans :=
 bnd (nilChk x0) fun t26_11 =>
 bnd (fieldA (some (some 84, none)) t26_11 5) fun t27_12 =>
 bnd (st none h t27_12 x7) fun h_13 =>
 bnd (nilChk x0) fun t28_14 =>
 bnd (fieldA (some (some 84, none)) t28_14 7) fun t29_15 =>
 bnd (st none h_13 t29_15 x1) fun h_16 =>
 biu_Biu_frame.c3 env J x0 x1 x2 x8 h_16
noncomputable def biu_Biu_frame.c1 (env : Env) (J : JT) (x0 x1 x2 x7 x8 : V) (h : H) : Ans :=
 bnd (binE true .int x8 (.int .i64 0)) fun t20_10 =>
 cnd t20_10 (
 some (x8, h)) (
 biu_Biu_frame.c2 env J x0 x1 x2 x7 x8 h)
noncomputable def biu_Biu_frame.c0 (env : Env) (J : JT) (x0 x1 x2 : V) (h : H) : Ans :=
 bnd (nilChk x0) fun t11_1 =>
 bnd (fieldA (some (some 84, (some 38))) t11_1 2) fun t12_2 =>
 bnd (ld (some 38) h t12_2) fun t13_3 =>
 bnd2 (env 160 [t13_3, x1] h) fun t15_4 h_5 =>
 bnd2 (env 159 [t15_4] h_5) fun t16_6 h_7 =>
 bnd (ext t16_6 0) fun t17_8 =>
 bnd (ext t16_6 1) fun t18_9 =>
 biu_Biu_frame.c1 env J x0 x1 x2 t17_8 t18_9 h_7
noncomputable def biu_Biu_frame.fs (env : Env) (J : JT) (x0 x1 x2 : V) (h : H) : Ans :=
 biu_Biu_frame.c0 env J x0 x1 x2 h
theorem biu_Biu_frame.fe_eq (env : Env) (J : JT) (x0 x1 x2 : V) (h : H) : evF Tryz.prog env J 83 biu_Biu_frame.an [x0, x1, x2] h = biu_Biu_frame.fs env J x0 x1 x2 h := by kernel_rfl
theorem biu_Biu_frame.eq {tb : Nat → Option Fa} (ht : tb 83 = some (.plain biu_Biu_frame.an)) (x0 x1 x2 : V) (h : H) : Ei Tryz.prog tb 83 [x0, x1, x2] h = biu_Biu_frame.fs (Ei Tryz.prog tb) (Ji Tryz.prog tb 83 biu_Biu_frame.an) x0 x1 x2 h := (Ei_eq (an := biu_Biu_frame.an) ht _ h).trans (biu_Biu_frame.fe_eq _ _ x0 x1 x2 h)
noncomputable def biu_Biu_frame.sf : Sf := ⟨fun env J vs h => match vs with | [x0, x1, x2] => biu_Biu_frame.fs env J x0 x1 x2 h | _ => none, fun env J id vs h => none⟩
theorem biu_Biu_frame.sfok {tb : Nat → Option Fa} (ht : tb 83 = some (.plain biu_Biu_frame.an)) : SfOk Tryz.prog tb 83 biu_Biu_frame.sf := SfOk.plain (an := biu_Biu_frame.an) ht (fun env J vs h r he => by
  simp only [biu_Biu_frame.sf] at he; split at he
  · rw [biu_Biu_frame.fe_eq]; exact he
  · cases he) (fun env J id vs h r he => by simp only [biu_Biu_frame.sf] at he; cases he)
/- 84 (*busbar/delay.Delay).See -/
noncomputable def delay_Delay_See.c5 (env : Env) (J : JT) (x0 x5 : V) (h : H) : Ans :=
 bnd (bin .rem x5 (.int .i64 16)) fun t38_26 =>
 bnd (nilChk x0) fun t39_27 =>
 bnd (fieldA (some (some 216, (some 215))) t39_27 3) fun t40_28 =>
 bnd (indexA (.arr (some 215) 16 none) t40_28 t38_26) fun t41_29 =>
 bnd (ld none h t41_29) fun t42_30 =>
 some (t42_30, h)
noncomputable def delay_Delay_See.c4 (env : Env) (J : JT) (x0 x5 : V) (h : H) : Ans :=
 bnd (bin .lss x5 (.int .i64 0)) fun t35_25 =>
 cnd t35_25 (
 some ((.int .u8 0), h)) (
 delay_Delay_See.c5 env J x0 x5 h)
noncomputable def delay_Delay_See.c3 (env : Env) (J : JT) (x0 x5 : V) (h : H) : Ans :=
 bnd (nilChk x0) fun t28_18 =>
 bnd (fieldA (some (some 216, none)) t28_18 2) fun t29_19 =>
 bnd (ld none h t29_19) fun t30_20 =>
 bnd (bin .add t30_20 (.int .i64 1)) fun t31_21 =>
 bnd (nilChk x0) fun t32_22 =>
 bnd (fieldA (some (some 216, none)) t32_22 2) fun t33_23 =>
 bnd (st none h t33_23 t31_21) fun h_24 =>
 delay_Delay_See.c4 env J x0 x5 h_24
noncomputable def delay_Delay_See.c2 (env : Env) (J : JT) (x0 : V) (h : H) : Ans :=
 bnd (nilChk x0) fun t19_11 =>
 bnd (fieldA (some (some 216, none)) t19_11 2) fun t20_12 =>
 bnd (ld none h t20_12) fun t21_13 =>
 bnd (nilChk x0) fun t23_14 =>
 bnd (fieldA (some (some 216, none)) t23_14 1) fun t24_15 =>
 bnd (ld none h t24_15) fun t25_16 =>
 bnd (bin .sub t21_13 t25_16) fun t26_17 =>
 delay_Delay_See.c3 env J x0 t26_17 h
noncomputable def delay_Delay_See.c1 (env : Env) (J : JT) (x0 x1 : V) (h : H) : Ans :=
 bnd (nilChk x0) fun t10_3 =>
 bnd (fieldA (some (some 216, none)) t10_3 2) fun t11_4 =>
 bnd (ld none h t11_4) fun t12_5 =>
 bnd (bin .rem t12_5 (.int .i64 16)) fun t13_6 =>
 bnd (nilChk x0) fun t15_7 =>
 bnd (fieldA (some (some 216, (some 215))) t15_7 3) fun t16_8 =>
 bnd (indexA (.arr (some 215) 16 none) t16_8 t13_6) fun t17_9 =>
 bnd (st none h t17_9 x1) fun h_10 =>
 delay_Delay_See.c2 env J x0 h_10
noncomputable def delay_Delay_See.c0 (env : Env) (J : JT) (x0 x1 : V) (h : H) : Ans :=
 bnd2 (env 163 [x0] h) fun t7_1 h_2 =>
 cnd t7_1 (
 some ((.int .u8 0), h_2)) (
 delay_Delay_See.c1 env J x0 x1 h_2)
noncomputable def delay_Delay_See.fs (env : Env) (J : JT) (x0 x1 : V) (h : H) : Ans :=
 delay_Delay_See.c0 env J x0 x1 h
theorem delay_Delay_See.fe_eq (env : Env) (J : JT) (x0 x1 : V) (h : H) : evF Tryz.prog env J 84 delay_Delay_See.an [x0, x1] h = delay_Delay_See.fs env J x0 x1 h := by kernel_rfl
theorem delay_Delay_See.eq {tb : Nat → Option Fa} (ht : tb 84 = some (.plain delay_Delay_See.an)) (x0 x1 : V) (h : H) : Ei Tryz.prog tb 84 [x0, x1] h = delay_Delay_See.fs (Ei Tryz.prog tb) (Ji Tryz.prog tb 84 delay_Delay_See.an) x0 x1 h := (Ei_eq (an := delay_Delay_See.an) ht _ h).trans (delay_Delay_See.fe_eq _ _ x0 x1 h)
noncomputable def delay_Delay_See.sf : Sf := ⟨fun env J vs h => match vs with | [x0, x1] => delay_Delay_See.fs env J x0 x1 h | _ => none, fun env J id vs h => none⟩
theorem delay_Delay_See.sfok {tb : Nat → Option Fa} (ht : tb 84 = some (.plain delay_Delay_See.an)) : SfOk Tryz.prog tb 84 delay_Delay_See.sf := SfOk.plain (an := delay_Delay_See.an) ht (fun env J vs h r he => by
  simp only [delay_Delay_See.sf] at he; split at he
  · rw [delay_Delay_See.fe_eq]; exact he
  · cases he) (fun env J id vs h r he => by simp only [delay_Delay_See.sf] at he; cases he)
/- 85 (*busbar/runs.Runs).See -/
noncomputable def runs_Runs_See.c2 (env : Env) (J : JT) (x0 x1 x12 : V) (h : H) : Ans :=
 J 0 [x0, x1, x12] h
noncomputable def runs_Runs_See.c1 (env : Env) (J : JT) (x0 x1 : V) (h : H) : Ans :=
 runs_Runs_See.c2 env J x0 x1 (.int .i64 0) h
noncomputable def runs_Runs_See.c0 (env : Env) (J : JT) (x0 x1 : V) (h : H) : Ans :=
 bnd2 (env 165 [x0] h) fun t9_3 h_4 =>
 bnd (nilChk x0) fun t10_5 =>
 bnd (fieldA (some (some 219, none)) t10_5 2) fun t11_6 =>
 bnd (st none h_4 t11_6 t9_3) fun h_7 =>
 runs_Runs_See.c1 env J x0 x1 h_7
noncomputable def runs_Runs_See.fs (env : Env) (J : JT) (x0 x1 : V) (h : H) : Ans :=
 bnd2 (env 164 [x0] h) fun t6_1 h_2 =>
 cnd t6_1 (
 some (.tup [], h_2)) (
 runs_Runs_See.c0 env J x0 x1 h_2)
theorem runs_Runs_See.fe_eq (env : Env) (J : JT) (x0 x1 : V) (h : H) : evF Tryz.prog env J 85 runs_Runs_See.an [x0, x1] h = runs_Runs_See.fs env J x0 x1 h := by kernel_rfl
noncomputable def runs_Runs_See.c6 (env : Env) (J : JT) (x0 x1 x4 x12 x17 : V) (h : H) : Ans :=
 cnd x17 (
 bnd (nilChk x0) fun t22_11 =>
 bnd (fieldA (some (some 219, (some 218))) t22_11 1) fun t23_12 =>
 bnd (indexA (.arr (some 218) 4 none) t23_12 x4) fun t24_13 =>
 bnd (ld none h t24_13) fun t25_14 =>
 bnd (bin .add t25_14 (.int .i64 1)) fun t26_15 =>
 bnd (mns [t26_15, (.int .i64 1073741824)]) fun t27_16 =>
 bnd (nilChk x0) fun t28_17 =>
 bnd (fieldA (some (some 219, (some 218))) t28_17 1) fun t29_18 =>
 bnd (indexA (.arr (some 218) 4 none) t29_18 x4) fun t30_19 =>
 bnd (st none h t30_19 t27_16) fun h_20 =>
 bnd (bin .add x12 (.int .i64 1)) fun t36_21 =>
 J 0 [x0, x1, t36_21] h_20) (
 bnd (nilChk x0) fun t33_22 =>
 bnd (fieldA (some (some 219, (some 218))) t33_22 1) fun t34_23 =>
 bnd (indexA (.arr (some 218) 4 none) t34_23 x4) fun t35_24 =>
 bnd (st none h t35_24 (.int .i64 0)) fun h_25 =>
 bnd (bin .add x12 (.int .i64 1)) fun t36_26 =>
 J 0 [x0, x1, t36_26] h_25)
noncomputable def runs_Runs_See.c5 (env : Env) (J : JT) (x0 x1 x4 x12 : V) (h : H) : Ans :=
 bnd2 (env 166 [x1, x4] h) fun t17_9 h_10 =>
 runs_Runs_See.c6 env J x0 x1 x4 x12 t17_9 h_10
noncomputable def runs_Runs_See.c4 (env : Env) (J : JT) (x0 x1 x12 : V) (h : H) : Ans :=
 runs_Runs_See.c5 env J x0 x1 x12 x12 h
noncomputable def runs_Runs_See.c3 (env : Env) (J : JT) (x0 x1 x12 x13 : V) (h : H) : Ans :=
 cnd x13 (
 runs_Runs_See.c4 env J x0 x1 x12 h) (
 J 1 [x0] h)
noncomputable def runs_Runs_See.p0 (env : Env) (J : JT) (x0 x1 x12 : V) (h : H) : Ans :=
 bnd (bin .lss x12 (.int .i64 4)) fun t13_8 =>
 runs_Runs_See.c3 env J x0 x1 x12 t13_8 h
theorem runs_Runs_See.p0_eq (env : Env) (J : JT) (x0 x1 x12 : V) (h : H) : evP Tryz.prog env J 85 runs_Runs_See.an 0 [x0, x1, x12] h = runs_Runs_See.p0 env J x0 x1 x12 h := by kernel_rfl
noncomputable def runs_Runs_See.p1 (env : Env) (J : JT) (x0 : V) (h : H) : Ans :=
 bnd (nilChk x0) fun t39_27 =>
 bnd (fieldA (some (some 219, none)) t39_27 3) fun t40_28 =>
 bnd (ld none h t40_28) fun t41_29 =>
 bnd2 (env 165 [x0] h) fun t43_30 h_31 =>
 bnd (ld none h_31 t40_28) fun t41_36 =>
 chkS t41_36 t41_29 (
 bnd (mxs [t41_29, t43_30]) fun t44_32 =>
 bnd (nilChk x0) fun t45_33 =>
 bnd (fieldA (some (some 219, none)) t45_33 3) fun t46_34 =>
 bnd (st none h_31 t46_34 t44_32) fun h_35 =>
 some (.tup [], h_35))
theorem runs_Runs_See.p1_eq (env : Env) (J : JT) (x0 : V) (h : H) : evP Tryz.prog env J 85 runs_Runs_See.an 1 [x0] h = runs_Runs_See.p1 env J x0 h := by kernel_rfl
theorem runs_Runs_See.eq {tb : Nat → Option Fa} (ht : tb 85 = some (.plain runs_Runs_See.an)) (x0 x1 : V) (h : H) : Ei Tryz.prog tb 85 [x0, x1] h = runs_Runs_See.fs (Ei Tryz.prog tb) (Ji Tryz.prog tb 85 runs_Runs_See.an) x0 x1 h := (Ei_eq (an := runs_Runs_See.an) ht _ h).trans (runs_Runs_See.fe_eq _ _ x0 x1 h)
theorem runs_Runs_See.J0_eq {tb : Nat → Option Fa} (x0 x1 x12 : V) (h : H) : Ji Tryz.prog tb 85 runs_Runs_See.an 0 [x0, x1, x12] h = runs_Runs_See.p0 (Ei Tryz.prog tb) (Ji Tryz.prog tb 85 runs_Runs_See.an) x0 x1 x12 h := (Ji_eq _ _ h).trans (runs_Runs_See.p0_eq _ _ x0 x1 x12 h)
theorem runs_Runs_See.J1_eq {tb : Nat → Option Fa} (x0 : V) (h : H) : Ji Tryz.prog tb 85 runs_Runs_See.an 1 [x0] h = runs_Runs_See.p1 (Ei Tryz.prog tb) (Ji Tryz.prog tb 85 runs_Runs_See.an) x0 h := (Ji_eq _ _ h).trans (runs_Runs_See.p1_eq _ _ x0 h)
noncomputable def runs_Runs_See.sf : Sf := ⟨fun env J vs h => match vs with | [x0, x1] => runs_Runs_See.fs env J x0 x1 h | _ => none, fun env J id vs h => bif Nat.beq id 0 then (match vs with | [x0, x1, x12] => runs_Runs_See.p0 env J x0 x1 x12 h | _ => none) else (bif Nat.beq id 1 then (match vs with | [x0] => runs_Runs_See.p1 env J x0 h | _ => none) else (none))⟩
theorem runs_Runs_See.sfok {tb : Nat → Option Fa} (ht : tb 85 = some (.plain runs_Runs_See.an)) : SfOk Tryz.prog tb 85 runs_Runs_See.sf := SfOk.plain (an := runs_Runs_See.an) ht (fun env J vs h r he => by
  simp only [runs_Runs_See.sf] at he; split at he
  · rw [runs_Runs_See.fe_eq]; exact he
  · cases he) (fun env J id vs h r he => by
  simp only [runs_Runs_See.sf] at he
  cases hb : Nat.beq id 0
  case true =>
    rw [hb] at he; rw [Nat.eq_of_beq_eq_true hb]; simp only [cond_true] at he; split at he
    · rw [runs_Runs_See.p0_eq]; exact he
    · cases he
  rw [hb] at he; simp only [cond_false] at he; clear hb
  cases hb : Nat.beq id 1
  case true =>
    rw [hb] at he; rw [Nat.eq_of_beq_eq_true hb]; simp only [cond_true] at he; split at he
    · rw [runs_Runs_See.p1_eq]; exact he
    · cases he
  rw [hb] at he; simp only [cond_false] at he; clear hb
  cases he)
/- 86 (*busbar/biu.Biu).Step$1 -/
noncomputable def biu_Biu_Step_1.c0 (env : Env) (J : JT) (x0 x1 x2 x3 x5 : V) (h : H) : Ans :=
 cnd x5 (
 bnd (ld none h x0) fun t7_4 =>
 bnd (ld none h x1) fun t8_5 =>
 bnd2 (env 88 [t7_4, t8_5] h) fun t9_6 h_7 =>
 bnd (ext t9_6 0) fun t10_8 =>
 bnd (ext t9_6 1) fun t11_9 =>
 bnd (st (some 43) h_7 x2 t10_8) fun h_10 =>
 bnd (st none h_10 x3 t11_9) fun h_11 =>
 some (.tup [], h_11)) (
 some (.tup [], h))
noncomputable def biu_Biu_Step_1.fs (env : Env) (J : JT) (x0 x1 x2 x3 : V) (h : H) : Ans :=
 bnd (ld none h x0) fun t4_1 =>
 bnd2 (env 87 [t4_1] h) fun t5_2 h_3 =>
 biu_Biu_Step_1.c0 env J x0 x1 x2 x3 t5_2 h_3
theorem biu_Biu_Step_1.fe_eq (env : Env) (J : JT) (x0 x1 x2 x3 : V) (h : H) : evF Tryz.prog env J 86 biu_Biu_Step_1.an [x0, x1, x2, x3] h = biu_Biu_Step_1.fs env J x0 x1 x2 x3 h := by kernel_rfl
theorem biu_Biu_Step_1.eq {tb : Nat → Option Fa} (ht : tb 86 = some (.plain biu_Biu_Step_1.an)) (x0 x1 x2 x3 : V) (h : H) : Ei Tryz.prog tb 86 [x0, x1, x2, x3] h = biu_Biu_Step_1.fs (Ei Tryz.prog tb) (Ji Tryz.prog tb 86 biu_Biu_Step_1.an) x0 x1 x2 x3 h := (Ei_eq (an := biu_Biu_Step_1.an) ht _ h).trans (biu_Biu_Step_1.fe_eq _ _ x0 x1 x2 x3 h)
noncomputable def biu_Biu_Step_1.sf : Sf := ⟨fun env J vs h => match vs with | [x0, x1, x2, x3] => biu_Biu_Step_1.fs env J x0 x1 x2 x3 h | _ => none, fun env J id vs h => none⟩
theorem biu_Biu_Step_1.sfok {tb : Nat → Option Fa} (ht : tb 86 = some (.plain biu_Biu_Step_1.an)) : SfOk Tryz.prog tb 86 biu_Biu_Step_1.sf := SfOk.plain (an := biu_Biu_Step_1.an) ht (fun env J vs h r he => by
  simp only [biu_Biu_Step_1.sf] at he; split at he
  · rw [biu_Biu_Step_1.fe_eq]; exact he
  · cases he) (fun env J id vs h r he => by simp only [biu_Biu_Step_1.sf] at he; cases he)
/- 87 (*busbar/biu.Biu).follows -/
noncomputable def biu_Biu_follows.c0 (env : Env) (J : JT) (x0 : V) (h : H) : Ans :=
 bnd2 (env 81 [x0] h) fun t4_1 h_2 =>
 bnd (un .not t4_1) fun t5_3 =>
 bnd2 (gd t5_3 true (some (x0, h_2)) h_2) fun t7_4 h_5 =>
 bnd2 (gd t5_3 true (bnd (nilChk t7_4) fun t8_6 =>
 some (t8_6, h_5)) h_5) fun t8_7 h_8 =>
 bnd2 (gd t5_3 true (bnd (fieldA (some (some 84, none)) t8_7 6) fun t9_9 =>
 some (t9_9, h_8)) h_8) fun t9_10 h_11 =>
 bnd2 (gd t5_3 true (bnd (ld none h_11 t9_10) fun t10_12 =>
 some (t10_12, h_11)) h_11) fun t10_13 h_14 =>
 bnd2 (gd t5_3 true (bnd (binE false .int t10_13 (.int .i64 2)) fun t11_15 =>
 some (t11_15, h_14)) h_14) fun t11_16 h_17 =>
 bnd2 (gd t5_3 true (some (t11_16, h_17)) h_17) fun t12_18 h_19 =>
 bnd2 (gd t12_18 false (some (x0, h_19)) h_19) fun t13_20 h_21 =>
 bnd2 (gd t12_18 false (bnd (nilChk t13_20) fun t14_22 =>
 some (t14_22, h_21)) h_21) fun t14_23 h_24 =>
 bnd2 (gd t12_18 false (bnd (fieldA (some (some 84, none)) t14_23 6) fun t15_25 =>
 some (t15_25, h_24)) h_24) fun t15_26 h_27 =>
 bnd2 (gd t12_18 false (bnd (ld none h_27 t15_26) fun t16_28 =>
 some (t16_28, h_27)) h_27) fun t16_29 h_30 =>
 bnd2 (gd t12_18 false (bnd (binE false .int t16_29 (.int .i64 3)) fun t17_31 =>
 some (t17_31, h_30)) h_30) fun t17_32 h_33 =>
 bnd2 (gd t5_3 true (bnd (pick t12_18 (.bool true) t17_32) fun t18_34 =>
 some (t18_34, h_33)) h_33) fun t18_35 h_36 =>
 bnd (pick t5_3 t18_35 (.bool false)) fun t19_37 =>
 some (t19_37, h_36)
noncomputable def biu_Biu_follows.fs (env : Env) (J : JT) (x0 : V) (h : H) : Ans :=
 biu_Biu_follows.c0 env J x0 h
theorem biu_Biu_follows.fe_eq (env : Env) (J : JT) (x0 : V) (h : H) : evF Tryz.prog env J 87 biu_Biu_follows.an [x0] h = biu_Biu_follows.fs env J x0 h := by kernel_rfl
theorem biu_Biu_follows.eq {tb : Nat → Option Fa} (ht : tb 87 = some (.plain biu_Biu_follows.an)) (x0 : V) (h : H) : Ei Tryz.prog tb 87 [x0] h = biu_Biu_follows.fs (Ei Tryz.prog tb) (Ji Tryz.prog tb 87 biu_Biu_follows.an) x0 h := (Ei_eq (an := biu_Biu_follows.an) ht _ h).trans (biu_Biu_follows.fe_eq _ _ x0 h)
noncomputable def biu_Biu_follows.sf : Sf := ⟨fun env J vs h => match vs with | [x0] => biu_Biu_follows.fs env J x0 h | _ => none, fun env J id vs h => none⟩
theorem biu_Biu_follows.sfok {tb : Nat → Option Fa} (ht : tb 87 = some (.plain biu_Biu_follows.an)) : SfOk Tryz.prog tb 87 biu_Biu_follows.sf := SfOk.plain (an := biu_Biu_follows.an) ht (fun env J vs h r he => by
  simp only [biu_Biu_follows.sf] at he; split at he
  · rw [biu_Biu_follows.fe_eq]; exact he
  · cases he) (fun env J id vs h r he => by simp only [biu_Biu_follows.sf] at he; cases he)
/- 88 (*busbar/biu.Biu).tick -/
noncomputable def biu_Biu_tick.c6 (env : Env) (J : JT) (x0 x4 x10 : V) (h : H) : Ans :=
 bnd2 (env 169 [x0] h) fun t56_42 h_43 =>
 bnd (ld (some 43) h_43 x10) fun t57_44 =>
 bnd (st (some 43) h_43 x4 t57_44) fun h_45 =>
 bnd (ld (some 43) h_45 x4) fun r_46 =>
 retV h_45 [r_46,(.bool true)]
noncomputable def biu_Biu_tick.c8 (env : Env) (J : JT) (x0 x4 x11 : V) (h : H) : Ans :=
 bnd (nilChk x0) fun t72_68 =>
 bnd (fieldA (some (some 84, none)) t72_68 8) fun t73_69 =>
 bnd (ld none h t73_69) fun t74_70 =>
 bnd (bin .add t74_70 (.int .i64 1)) fun t75_71 =>
 bnd2 (env 162 [x0, t75_71] h) fun t76_72 h_73 =>
 bnd (ld (some 43) h_73 x11) fun t77_74 =>
 bnd (st (some 43) h_73 x4 t77_74) fun h_75 =>
 bnd (ld (some 43) h_75 x4) fun r_76 =>
 retV h_75 [r_76,(.bool true)]
noncomputable def biu_Biu_tick.c7 (env : Env) (J : JT) (x0 x4 x58 : V) (h : H) : Ans :=
 cnd x58 (
 bnd2 (env 28 [x0] h) fun t69_63 h_64 =>
 bnd2 (al (some (some 43)) (zeroV Tryz.prog 44) h_64) fun t11_65 h_66 =>
 bnd (st (some 43) h_66 t11_65 t69_63) fun h_67 =>
 biu_Biu_tick.c8 env J x0 x4 t11_65 h_67) (
 bnd (build (zeroV Tryz.prog 44) [(0, (.int .i64 (-1))), (2, (.int .i64 (-1)))]) fun t78_77 =>
 bnd (st (some 43) h x4 t78_77) fun h_78 =>
 bnd (ld (some 43) h_78 x4) fun r_79 =>
 retV h_78 [r_79,(.bool false)])
noncomputable def biu_Biu_tick.c5 (env : Env) (J : JT) (x0 x4 x7 x9 x45 : V) (h : H) : Ans :=
 cnd x45 (
 bnd2 (env 28 [x0] h) fun t54_37 h_38 =>
 bnd2 (al (some (some 43)) (zeroV Tryz.prog 44) h_38) fun t10_39 h_40 =>
 bnd (st (some 43) h_40 t10_39 t54_37) fun h_41 =>
 biu_Biu_tick.c6 env J x0 x4 t10_39 h_41) (
 bnd (un .not x7) fun t60_47 =>
 bnd2 (gd t60_47 true (some (x9, h)) h) fun t62_48 h_49 =>
 bnd2 (gd t60_47 true (some (x0, h_49)) h_49) fun t63_50 h_51 =>
 bnd2 (gd t60_47 true (bnd2 (env 26 [t63_50] h_51) fun t64_52 h_53 =>
 some (t64_52, h_53)) h_51) fun t64_54 h_55 =>
 bnd2 (gd t60_47 true (bnd (fieldV (some (some 58, none)) t64_54 2) fun t65_56 =>
 some (t65_56, h_55)) h_55) fun t65_57 h_58 =>
 bnd2 (gd t60_47 true (bnd (bin .geq t62_48 t65_57) fun t66_59 =>
 some (t66_59, h_58)) h_58) fun t66_60 h_61 =>
 bnd (pick t60_47 t66_60 (.bool false)) fun t67_62 =>
 biu_Biu_tick.c7 env J x0 x4 t67_62 h_61)
noncomputable def biu_Biu_tick.c4 (env : Env) (J : JT) (x0 x4 x6 x7 x9 : V) (h : H) : Ans :=
 bnd (nilChk x0) fun t47_31 =>
 bnd (fieldA (some (some 84, none)) t47_31 5) fun t48_32 =>
 bnd (ld none h t48_32) fun t49_33 =>
 bnd2 (env 167 [t49_33] h) fun t50_34 h_35 =>
 bnd (binE true .int t50_34 x6) fun t52_36 =>
 biu_Biu_tick.c5 env J x0 x4 x7 x9 t52_36 h_35
noncomputable def biu_Biu_tick.c3 (env : Env) (J : JT) (x0 x4 x6 x7 : V) (h : H) : Ans :=
 bnd2 (env 23 [x0] h) fun t42_27 h_28 =>
 bnd (ext t42_27 0) fun t43_29 =>
 bnd (ext t42_27 1) fun t44_30 =>
 biu_Biu_tick.c4 env J x0 x4 x6 x7 t44_30 h_28
noncomputable def biu_Biu_tick.c2 (env : Env) (J : JT) (x0 x4 x6 : V) (h : H) : Ans :=
 bnd (nilChk x0) fun t24_13 =>
 bnd (fieldA (some (some 84, none)) t24_13 8) fun t25_14 =>
 bnd (ld none h t25_14) fun t26_15 =>
 bnd (nilChk x0) fun t29_16 =>
 bnd (fieldA (some (some 84, none)) t29_16 7) fun t30_17 =>
 bnd (ld none h t30_17) fun t31_18 =>
 bnd (nilChk x0) fun t32_19 =>
 bnd (fieldA (some (some 84, (some 38))) t32_19 2) fun t33_20 =>
 bnd (fieldA (some (some 38, (some 37))) t33_20 1) fun t34_21 =>
 bnd (indexA (.arr (some 37) 2 none) t34_21 t31_18) fun t35_22 =>
 bnd (ld none h t35_22) fun t36_23 =>
 bnd (lenV .slc h t36_23) fun t37_24 =>
 bnd (bin .sub t37_24 (.int .i64 1)) fun t38_25 =>
 bnd (binE false .int t26_15 t38_25) fun t39_26 =>
 biu_Biu_tick.c3 env J x0 x4 x6 t39_26 h
noncomputable def biu_Biu_tick.c1 (env : Env) (J : JT) (x0 x1 x4 x6 : V) (h : H) : Ans :=
 bnd (nilChk x0) fun t18_8 =>
 bnd (fieldA (some (some 84, none)) t18_8 5) fun t19_9 =>
 bnd (ld none h t19_9) fun t20_10 =>
 bnd2 (env 168 [t20_10, x1] h) fun t22_11 h_12 =>
 biu_Biu_tick.c2 env J x0 x4 x6 h_12
noncomputable def biu_Biu_tick.c0 (env : Env) (J : JT) (x0 x1 x4 : V) (h : H) : Ans :=
 bnd (nilChk x0) fun t13_3 =>
 bnd (fieldA (some (some 84, none)) t13_3 5) fun t14_4 =>
 bnd (ld none h t14_4) fun t15_5 =>
 bnd2 (env 167 [t15_5] h) fun t16_6 h_7 =>
 biu_Biu_tick.c1 env J x0 x1 x4 t16_6 h_7
noncomputable def biu_Biu_tick.fs (env : Env) (J : JT) (x0 x1 : V) (h : H) : Ans :=
 bnd2 (al (some (some 43)) (zeroV Tryz.prog 44) h) fun t4_1 h_2 =>
 biu_Biu_tick.c0 env J x0 x1 t4_1 h_2
theorem biu_Biu_tick.fe_eq (env : Env) (J : JT) (x0 x1 : V) (h : H) : evF Tryz.prog env J 88 biu_Biu_tick.an [x0, x1] h = biu_Biu_tick.fs env J x0 x1 h := by kernel_rfl
theorem biu_Biu_tick.eq {tb : Nat → Option Fa} (ht : tb 88 = some (.plain biu_Biu_tick.an)) (x0 x1 : V) (h : H) : Ei Tryz.prog tb 88 [x0, x1] h = biu_Biu_tick.fs (Ei Tryz.prog tb) (Ji Tryz.prog tb 88 biu_Biu_tick.an) x0 x1 h := (Ei_eq (an := biu_Biu_tick.an) ht _ h).trans (biu_Biu_tick.fe_eq _ _ x0 x1 h)
noncomputable def biu_Biu_tick.sf : Sf := ⟨fun env J vs h => match vs with | [x0, x1] => biu_Biu_tick.fs env J x0 x1 h | _ => none, fun env J id vs h => none⟩
theorem biu_Biu_tick.sfok {tb : Nat → Option Fa} (ht : tb 88 = some (.plain biu_Biu_tick.an)) : SfOk Tryz.prog tb 88 biu_Biu_tick.sf := SfOk.plain (an := biu_Biu_tick.an) ht (fun env J vs h r he => by
  simp only [biu_Biu_tick.sf] at he; split at he
  · rw [biu_Biu_tick.fe_eq]; exact he
  · cases he) (fun env J id vs h r he => by simp only [biu_Biu_tick.sf] at he; cases he)
/- 90 (*busbar/biu.Biu).resync -/
noncomputable def biu_Biu_resync.c2 (env : Env) (J : JT) (x0 x2 x5 x6 : V) (h : H) : Ans :=
 bnd (nilChk x0) fun t19_11 =>
 bnd (fieldA (some (some 84, none)) t19_11 6) fun t20_12 =>
 bnd (ld none h t20_12) fun t21_13 =>
 bnd (binE false .int t21_13 (.int .i64 2)) fun t22_14 =>
 cnd t22_14 (
 J 0 [x0, x2, x5, (.int .i64 18)] h) (
 J 0 [x0, x2, x5, x6] h)
noncomputable def biu_Biu_resync.c1 (env : Env) (J : JT) (x0 x2 x5 : V) (h : H) : Ans :=
 biu_Biu_resync.c2 env J x0 x2 x5 (.int .i64 6) h
noncomputable def biu_Biu_resync.c0 (env : Env) (J : JT) (x0 x2 : V) (h : H) : Ans :=
 bnd2 (env 23 [x0] h) fun t15_7 h_8 =>
 bnd (ext t15_7 0) fun t16_9 =>
 bnd (ext t15_7 1) fun t17_10 =>
 biu_Biu_resync.c1 env J x0 x2 t17_10 h_8
noncomputable def biu_Biu_resync.fs (env : Env) (J : JT) (x0 : V) (h : H) : Ans :=
 bnd2 (env 26 [x0] h) fun t9_1 h_2 =>
 bnd2 (env 46 [t9_1] h_2) fun t10_3 h_4 =>
 bnd (ext t10_3 0) fun t11_5 =>
 bnd (ext t10_3 1) fun t12_6 =>
 biu_Biu_resync.c0 env J x0 t11_5 h_4
theorem biu_Biu_resync.fe_eq (env : Env) (J : JT) (x0 : V) (h : H) : evF Tryz.prog env J 90 biu_Biu_resync.an [x0] h = biu_Biu_resync.fs env J x0 h := by kernel_rfl
noncomputable def biu_Biu_resync.c6 (env : Env) (J : JT) (x0 : V) (h : H) : Ans :=
 bnd (nilChk x0) fun t64_63 =>
 bnd (fieldA (some (some 84, none)) t64_63 6) fun t65_64 =>
 bnd (st none h t65_64 (.int .i64 3)) fun h_65 =>
 some (.tup [], h_65)
noncomputable def biu_Biu_resync.c5 (env : Env) (J : JT) (x0 : V) (h : H) : Ans :=
 bnd (nilChk x0) fun t60_59 =>
 bnd (fieldA (some (some 84, (some 80))) t60_59 10) fun t61_60 =>
 bnd (fieldA (some (some 80, none)) t61_60 6) fun t62_61 =>
 bnd (st none h t62_61 (.bool true)) fun h_62 =>
 biu_Biu_resync.c6 env J x0 h_62
noncomputable def biu_Biu_resync.c8 (env : Env) (J : JT) (x0 : V) (h : H) : Ans :=
 bnd (build (zeroV Tryz.prog 83) []) fun t76_72 =>
 bnd (nilChk x0) fun t77_73 =>
 bnd (fieldA (some (some 84, (some 82))) t77_73 11) fun t78_74 =>
 bnd (st (some 82) h t78_74 t76_72) fun h_75 =>
 some (.tup [], h_75)
noncomputable def biu_Biu_resync.c7 (env : Env) (J : JT) (x0 x66 : V) (h : H) : Ans :=
 cnd x66 (
 bnd (nilChk x0) fun t73_69 =>
 bnd (fieldA (some (some 84, none)) t73_69 6) fun t74_70 =>
 bnd (st none h t74_70 (.int .i64 1)) fun h_71 =>
 biu_Biu_resync.c8 env J x0 h_71) (
 some (.tup [], h))
noncomputable def biu_Biu_resync.c4 (env : Env) (J : JT) (x0 x2 x5 x6 x29 : V) (h : H) : Ans :=
 cnd x29 (
 bnd (nilChk x0) fun t50_50 =>
 bnd (fieldA (some (some 84, none)) t50_50 5) fun t51_51 =>
 bnd (ld none h t51_51) fun t52_52 =>
 bnd2 (env 26 [x0] h) fun t54_53 h_54 =>
 bnd (ld none h_54 t51_51) fun t52_66 =>
 chkS t52_66 t52_52 (
 bnd (fieldV (some (some 58, none)) t54_53 1) fun t55_55 =>
 bnd (bin .add t55_55 x2) fun t57_56 =>
 bnd2 (env 172 [t52_52, t57_56] h_54) fun t58_57 h_58 =>
 biu_Biu_resync.c5 env J x0 h_58)) (
 bnd (bin .add x2 x6) fun t70_67 =>
 bnd (bin .gtr x5 t70_67) fun t71_68 =>
 biu_Biu_resync.c7 env J x0 t71_68 h)
noncomputable def biu_Biu_resync.c3 (env : Env) (J : JT) (x0 x2 x5 x6 x23 : V) (h : H) : Ans :=
 cnd x23 (
 some (.tup [], h)) (
 bnd (nilChk x0) fun t31_19 =>
 bnd (fieldA (some (some 84, none)) t31_19 4) fun t32_20 =>
 bnd (ld none h t32_20) fun t33_21 =>
 bnd2 (env 171 [t33_21] h) fun t34_22 h_23 =>
 bnd2 (gd t34_22 true (some (x5, h_23)) h_23) fun t36_24 h_25 =>
 bnd2 (gd t34_22 true (some (x2, h_25)) h_25) fun t37_26 h_27 =>
 bnd2 (gd t34_22 true (some (x6, h_27)) h_27) fun t38_28 h_29 =>
 bnd2 (gd t34_22 true (bnd (bin .sub t37_26 t38_28) fun t39_30 =>
 some (t39_30, h_29)) h_29) fun t39_31 h_32 =>
 bnd2 (gd t34_22 true (bnd (bin .geq t36_24 t39_31) fun t40_33 =>
 some (t40_33, h_32)) h_32) fun t40_34 h_35 =>
 bnd (pick t34_22 t40_34 (.bool false)) fun t41_36 =>
 bnd2 (gd t41_36 true (some (x5, h_35)) h_35) fun t43_37 h_38 =>
 bnd2 (gd t41_36 true (some (x2, h_38)) h_38) fun t44_39 h_40 =>
 bnd2 (gd t41_36 true (some (x6, h_40)) h_40) fun t45_41 h_42 =>
 bnd2 (gd t41_36 true (bnd (bin .add t44_39 t45_41) fun t46_43 =>
 some (t46_43, h_42)) h_42) fun t46_44 h_45 =>
 bnd2 (gd t41_36 true (bnd (bin .leq t43_37 t46_44) fun t47_46 =>
 some (t47_46, h_45)) h_45) fun t47_47 h_48 =>
 bnd (pick t41_36 t47_47 (.bool false)) fun t48_49 =>
 biu_Biu_resync.c4 env J x0 x2 x5 x6 t48_49 h_48)
noncomputable def biu_Biu_resync.p0 (env : Env) (J : JT) (x0 x2 x5 x6 : V) (h : H) : Ans :=
 bnd (nilChk x0) fun t25_15 =>
 bnd (fieldA (some (some 84, (some 80))) t25_15 10) fun t26_16 =>
 bnd (fieldA (some (some 80, none)) t26_16 6) fun t27_17 =>
 bnd (ld none h t27_17) fun t28_18 =>
 biu_Biu_resync.c3 env J x0 x2 x5 x6 t28_18 h
theorem biu_Biu_resync.p0_eq (env : Env) (J : JT) (x0 x2 x5 x6 : V) (h : H) : evP Tryz.prog env J 90 biu_Biu_resync.an 0 [x0, x2, x5, x6] h = biu_Biu_resync.p0 env J x0 x2 x5 x6 h := by kernel_rfl
theorem biu_Biu_resync.eq {tb : Nat → Option Fa} (ht : tb 90 = some (.plain biu_Biu_resync.an)) (x0 : V) (h : H) : Ei Tryz.prog tb 90 [x0] h = biu_Biu_resync.fs (Ei Tryz.prog tb) (Ji Tryz.prog tb 90 biu_Biu_resync.an) x0 h := (Ei_eq (an := biu_Biu_resync.an) ht _ h).trans (biu_Biu_resync.fe_eq _ _ x0 h)
theorem biu_Biu_resync.J0_eq {tb : Nat → Option Fa} (x0 x2 x5 x6 : V) (h : H) : Ji Tryz.prog tb 90 biu_Biu_resync.an 0 [x0, x2, x5, x6] h = biu_Biu_resync.p0 (Ei Tryz.prog tb) (Ji Tryz.prog tb 90 biu_Biu_resync.an) x0 x2 x5 x6 h := (Ji_eq _ _ h).trans (biu_Biu_resync.p0_eq _ _ x0 x2 x5 x6 h)
noncomputable def biu_Biu_resync.sf : Sf := ⟨fun env J vs h => match vs with | [x0] => biu_Biu_resync.fs env J x0 h | _ => none, fun env J id vs h => bif Nat.beq id 0 then (match vs with | [x0, x2, x5, x6] => biu_Biu_resync.p0 env J x0 x2 x5 x6 h | _ => none) else (none)⟩
theorem biu_Biu_resync.sfok {tb : Nat → Option Fa} (ht : tb 90 = some (.plain biu_Biu_resync.an)) : SfOk Tryz.prog tb 90 biu_Biu_resync.sf := SfOk.plain (an := biu_Biu_resync.an) ht (fun env J vs h r he => by
  simp only [biu_Biu_resync.sf] at he; split at he
  · rw [biu_Biu_resync.fe_eq]; exact he
  · cases he) (fun env J id vs h r he => by
  simp only [biu_Biu_resync.sf] at he
  cases hb : Nat.beq id 0
  case true =>
    rw [hb] at he; rw [Nat.eq_of_beq_eq_true hb]; simp only [cond_true] at he; split at he
    · rw [biu_Biu_resync.p0_eq]; exact he
    · cases he
  rw [hb] at he; simp only [cond_false] at he; clear hb
  cases he)
end Go.Proofs.YtbgdidfegkmafaaGreat
