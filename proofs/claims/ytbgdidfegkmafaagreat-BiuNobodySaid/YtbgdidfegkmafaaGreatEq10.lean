import Derived.Test.YtbgdidfegkmafaaGreatTb
import Derived.Test.YtbgdidfegkmafaaGreatAmD
namespace Go.Proofs.YtbgdidfegkmafaaGreat
open Go Go.AM Go.Proofs
set_option linter.unusedVariables false
set_option maxRecDepth 100000
set_option maxHeartbeats 4000000
/- 258 busbar/active.To -/
noncomputable def active_To.c0 (env : Env) (J : JT) (x1 : V) (h : H) : Ans :=
 bnd (fieldA (some (some 58, none)) x1 5) fun t3_3 =>
 bnd (ld none h t3_3) fun t4_4 =>
 bnd (mns [t4_4, (.int .i64 1000)]) fun t5_5 =>
 bnd (mxs [(.int .i64 1), t5_5]) fun t6_6 =>
 bnd (bin .mul (.int .i64 80) t6_6) fun t7_7 =>
 some (t7_7, h)
noncomputable def active_To.fs (env : Env) (J : JT) (x0 : V) (h : H) : Ans :=
 bnd2 (box (some (some 58)) h x0) fun t1_1 h_2 =>
 active_To.c0 env J t1_1 h_2
theorem active_To.fe_eq (env : Env) (J : JT) (x0 : V) (h : H) : evF Tryz.prog env J 258 active_To.an [x0] h = active_To.fs env J x0 h := by kernel_rfl
theorem active_To.eq {tb : Nat → Option Fa} (ht : tb 258 = some (.plain active_To.an)) (x0 : V) (h : H) : Ei Tryz.prog tb 258 [x0] h = active_To.fs (Ei Tryz.prog tb) (Ji Tryz.prog tb 258 active_To.an) x0 h := (Ei_eq (an := active_To.an) ht _ h).trans (active_To.fe_eq _ _ x0 h)
noncomputable def active_To.sf : Sf := ⟨fun env J vs h => match vs with | [x0] => active_To.fs env J x0 h | _ => none, fun env J id vs h => none⟩
theorem active_To.sfok {tb : Nat → Option Fa} (ht : tb 258 = some (.plain active_To.an)) : SfOk Tryz.prog tb 258 active_To.sf := SfOk.plain (an := active_To.an) ht (fun env J vs h r he => by
  simp only [active_To.sf] at he; split at he
  · rw [active_To.fe_eq]; exact he
  · cases he) (fun env J id vs h r he => by simp only [active_To.sf] at he; cases he)
/- 259 slices.pdqsortOrdered[int] -/
noncomputable def slices_pdqsortOrdered.c1 (env : Env) (J : JT) (x0 x1 x2 x3 x8 x9 : V) (h : H) : Ans :=
 J 0 [x0, x1, x2, x3, x8, x9] h
noncomputable def slices_pdqsortOrdered.c0 (env : Env) (J : JT) (x0 x1 x2 x3 x8 : V) (h : H) : Ans :=
 slices_pdqsortOrdered.c1 env J x0 x1 x2 x3 x8 (.bool true) h
noncomputable def slices_pdqsortOrdered.fs (env : Env) (J : JT) (x0 x1 x2 x3 : V) (h : H) : Ans :=
 slices_pdqsortOrdered.c0 env J x0 x1 x2 x3 (.bool true) h
theorem slices_pdqsortOrdered.fe_eq (env : Env) (J : JT) (x0 x1 x2 x3 : V) (h : H) : evF Tryz.prog env J 259 slices_pdqsortOrdered.an [x0, x1, x2, x3] h = slices_pdqsortOrdered.fs env J x0 x1 x2 x3 h := by kernel_rfl
noncomputable def slices_pdqsortOrdered.c5 (env : Env) (J : JT) (x0 x1 x2 x3 x8 x9 x10 x35 : V) (h : H) : Ans :=
 cnd x35 (
 bnd2 (env 271 [x0, x1, x2] h) fun t39_9 h_10 =>
 bnd (bin .sub x3 (.int .i64 1)) fun t41_11 =>
 J 3 [x0, x1, x2, t41_11, x8, x9, x10] h_10) (
 J 3 [x0, x1, x2, x3, x8, x9, x10] h)
noncomputable def slices_pdqsortOrdered.c4 (env : Env) (J : JT) (x0 x1 x2 x3 x8 x9 x10 : V) (h : H) : Ans :=
 bnd (un .not x8) fun t35_8 =>
 slices_pdqsortOrdered.c5 env J x0 x1 x2 x3 x8 x9 x10 t35_8 h
noncomputable def slices_pdqsortOrdered.c3 (env : Env) (J : JT) (x0 x1 x2 x3 x8 x9 x10 : V) (h : H) : Ans :=
 bnd (binE false .int x3 (.int .i64 0)) fun t29_5 =>
 cnd t29_5 (
 bnd2 (env 270 [x0, x1, x2] h) fun t33_6 h_7 =>
 some (.tup [], h_7)) (
 slices_pdqsortOrdered.c4 env J x0 x1 x2 x3 x8 x9 x10 h)
noncomputable def slices_pdqsortOrdered.c2 (env : Env) (J : JT) (x0 x1 x2 x3 x8 x9 x10 : V) (h : H) : Ans :=
 bnd (bin .leq x10 (.int .i64 12)) fun t23_2 =>
 cnd t23_2 (
 bnd2 (env 269 [x0, x1, x2] h) fun t27_3 h_4 =>
 some (.tup [], h_4)) (
 slices_pdqsortOrdered.c3 env J x0 x1 x2 x3 x8 x9 x10 h)
noncomputable def slices_pdqsortOrdered.p0 (env : Env) (J : JT) (x0 x1 x2 x3 x8 x9 : V) (h : H) : Ans :=
 bnd (bin .sub x2 x1) fun t21_1 =>
 slices_pdqsortOrdered.c2 env J x0 x1 x2 x3 x8 x9 t21_1 h
theorem slices_pdqsortOrdered.p0_eq (env : Env) (J : JT) (x0 x1 x2 x3 x8 x9 : V) (h : H) : evP Tryz.prog env J 259 slices_pdqsortOrdered.an 0 [x0, x1, x2, x3, x8, x9] h = slices_pdqsortOrdered.p0 env J x0 x1 x2 x3 x8 x9 h := by kernel_rfl
noncomputable def slices_pdqsortOrdered.c8 (env : Env) (J : JT) (x0 x1 x2 x3 x8 x9 x10 x11 : V) (h : H) : Ans :=
 bnd (bin .sub x2 (.int .i64 1)) fun t56_19 =>
 bnd (bin .sub x11 x1) fun t59_20 =>
 bnd (bin .sub t56_19 t59_20) fun t60_21 =>
 J 2 [x0, x1, x2, x3, x8, x9, x10, t60_21, (.int .i64 1)] h
noncomputable def slices_pdqsortOrdered.c7 (env : Env) (J : JT) (x0 x1 x2 x3 x8 x9 x10 x11 x12 x50 : V) (h : H) : Ans :=
 cnd x50 (
 bnd2 (env 273 [x0, x1, x2] h) fun t54_17 h_18 =>
 slices_pdqsortOrdered.c8 env J x0 x1 x2 x3 x8 x9 x10 x11 h_18) (
 J 2 [x0, x1, x2, x3, x8, x9, x10, x11, x12] h)
noncomputable def slices_pdqsortOrdered.c6 (env : Env) (J : JT) (x0 x1 x2 x3 x8 x9 x10 x11 x12 : V) (h : H) : Ans :=
 bnd (binE false .int x12 (.int .i64 2)) fun t50_16 =>
 slices_pdqsortOrdered.c7 env J x0 x1 x2 x3 x8 x9 x10 x11 x12 t50_16 h
noncomputable def slices_pdqsortOrdered.p3 (env : Env) (J : JT) (x0 x1 x2 x3 x8 x9 x10 : V) (h : H) : Ans :=
 bnd2 (env 272 [x0, x1, x2] h) fun t46_12 h_13 =>
 bnd (ext t46_12 0) fun t47_14 =>
 bnd (ext t46_12 1) fun t48_15 =>
 slices_pdqsortOrdered.c6 env J x0 x1 x2 x3 x8 x9 x10 t47_14 t48_15 h_13
theorem slices_pdqsortOrdered.p3_eq (env : Env) (J : JT) (x0 x1 x2 x3 x8 x9 x10 : V) (h : H) : evP Tryz.prog env J 259 slices_pdqsortOrdered.an 3 [x0, x1, x2, x3, x8, x9, x10] h = slices_pdqsortOrdered.p3 env J x0 x1 x2 x3 x8 x9 x10 h := by kernel_rfl
noncomputable def slices_pdqsortOrdered.c9 (env : Env) (J : JT) (x0 x1 x2 x3 x8 x9 x10 x11 x68 : V) (h : H) : Ans :=
 cnd x68 (
 bnd2 (env 274 [x0, x1, x2] h) fun t72_31 h_32 =>
 cnd t72_31 (
 some (.tup [], h_32)) (
 J 1 [x0, x1, x2, x3, x8, x9, x10, x11] h_32)) (
 J 1 [x0, x1, x2, x3, x8, x9, x10, x11] h)
noncomputable def slices_pdqsortOrdered.p2 (env : Env) (J : JT) (x0 x1 x2 x3 x8 x9 x10 x11 x12 : V) (h : H) : Ans :=
 bnd2 (gd x8 true (some (x9, h)) h) fun t63_22 h_23 =>
 bnd (pick x8 t63_22 (.bool false)) fun t64_24 =>
 bnd2 (gd t64_24 true (some (x12, h_23)) h_23) fun t66_25 h_26 =>
 bnd2 (gd t64_24 true (bnd (binE false .int t66_25 (.int .i64 1)) fun t67_27 =>
 some (t67_27, h_26)) h_26) fun t67_28 h_29 =>
 bnd (pick t64_24 t67_28 (.bool false)) fun t68_30 =>
 slices_pdqsortOrdered.c9 env J x0 x1 x2 x3 x8 x9 x10 x11 t68_30 h_29
theorem slices_pdqsortOrdered.p2_eq (env : Env) (J : JT) (x0 x1 x2 x3 x8 x9 x10 x11 x12 : V) (h : H) : evP Tryz.prog env J 259 slices_pdqsortOrdered.an 2 [x0, x1, x2, x3, x8, x9, x10, x11, x12] h = slices_pdqsortOrdered.p2 env J x0 x1 x2 x3 x8 x9 x10 x11 x12 h := by kernel_rfl
noncomputable def slices_pdqsortOrdered.c15 (env : Env) (J : JT) (x0 x1 x2 x3 x9 x14 x16 x17 x18 x113 : V) (h : H) : Ans :=
 cnd x113 (
 bnd (bin .geq x16 x18) fun t116_75 =>
 bnd2 (env 259 [x0, x1, x14, x3] h) fun t121_76 h_77 =>
 bnd (bin .add x14 (.int .i64 1)) fun t123_78 =>
 J 0 [x0, t123_78, x2, x3, t116_75, x9] h_77) (
 bnd (bin .geq x17 x18) fun t126_79 =>
 bnd (bin .add x14 (.int .i64 1)) fun t129_80 =>
 bnd2 (env 259 [x0, t129_80, x2, x3] h) fun t132_81 h_82 =>
 J 0 [x0, x1, x14, x3, t126_79, x9] h_82)
noncomputable def slices_pdqsortOrdered.c14 (env : Env) (J : JT) (x0 x1 x2 x3 x9 x14 x16 x17 x18 : V) (h : H) : Ans :=
 bnd (bin .lss x16 x17) fun t113_74 =>
 slices_pdqsortOrdered.c15 env J x0 x1 x2 x3 x9 x14 x16 x17 x18 t113_74 h
noncomputable def slices_pdqsortOrdered.c13 (env : Env) (J : JT) (x0 x1 x2 x3 x9 x10 x14 x16 x17 : V) (h : H) : Ans :=
 bnd (bin .quo x10 (.int .i64 8)) fun t110_73 =>
 slices_pdqsortOrdered.c14 env J x0 x1 x2 x3 x9 x14 x16 x17 t110_73 h
noncomputable def slices_pdqsortOrdered.c12 (env : Env) (J : JT) (x0 x1 x2 x3 x9 x10 x14 : V) (h : H) : Ans :=
 bnd (bin .sub x14 x1) fun t105_71 =>
 bnd (bin .sub x2 x14) fun t108_72 =>
 slices_pdqsortOrdered.c13 env J x0 x1 x2 x3 x9 x10 x14 t105_71 t108_72 h
noncomputable def slices_pdqsortOrdered.c11 (env : Env) (J : JT) (x0 x1 x2 x3 x10 x14 x15 : V) (h : H) : Ans :=
 slices_pdqsortOrdered.c12 env J x0 x1 x2 x3 x15 x10 x14 h
noncomputable def slices_pdqsortOrdered.c10 (env : Env) (J : JT) (x0 x1 x2 x3 x10 x11 : V) (h : H) : Ans :=
 bnd2 (env 277 [x0, x1, x2, x11] h) fun t99_67 h_68 =>
 bnd (ext t99_67 0) fun t100_69 =>
 bnd (ext t99_67 1) fun t101_70 =>
 slices_pdqsortOrdered.c11 env J x0 x1 x2 x3 x10 t100_69 t101_70 h_68
noncomputable def slices_pdqsortOrdered.p1 (env : Env) (J : JT) (x0 x1 x2 x3 x8 x9 x10 x11 : V) (h : H) : Ans :=
 bnd (bin .gtr x1 (.int .i64 0)) fun t74_33 =>
 bnd2 (gd t74_33 true (some (x0, h)) h) fun t76_34 h_35 =>
 bnd2 (gd t74_33 true (some (x1, h_35)) h_35) fun t77_36 h_37 =>
 bnd2 (gd t74_33 true (bnd (bin .sub t77_36 (.int .i64 1)) fun t78_38 =>
 some (t78_38, h_37)) h_37) fun t78_39 h_40 =>
 bnd2 (gd t74_33 true (bnd (indexA (.slc none) t76_34 t78_39) fun t79_41 =>
 some (t79_41, h_40)) h_40) fun t79_42 h_43 =>
 bnd2 (gd t74_33 true (bnd (ld none h_43 t79_42) fun t80_44 =>
 some (t80_44, h_43)) h_43) fun t80_45 h_46 =>
 bnd2 (gd t74_33 true (some (x0, h_46)) h_46) fun t81_47 h_48 =>
 bnd2 (gd t74_33 true (some (x11, h_48)) h_48) fun t82_49 h_50 =>
 bnd2 (gd t74_33 true (bnd (indexA (.slc none) t81_47 t82_49) fun t83_51 =>
 some (t83_51, h_50)) h_50) fun t83_52 h_53 =>
 bnd2 (gd t74_33 true (bnd (ld none h_53 t83_52) fun t84_54 =>
 some (t84_54, h_53)) h_53) fun t84_55 h_56 =>
 bnd2 (gd t74_33 true (bnd2 (env 275 [t80_45, t84_55] h_56) fun t85_57 h_58 =>
 some (t85_57, h_58)) h_56) fun t85_59 h_60 =>
 bnd2 (gd t74_33 true (bnd (un .not t85_59) fun t86_61 =>
 some (t86_61, h_60)) h_60) fun t86_62 h_63 =>
 bnd (pick t74_33 t86_62 (.bool false)) fun t87_64 =>
 cnd t87_64 (
 bnd2 (env 276 [x0, x1, x2, x11] h_63) fun t92_65 h_66 =>
 J 0 [x0, t92_65, x2, x3, x8, x9] h_66) (
 slices_pdqsortOrdered.c10 env J x0 x1 x2 x3 x10 x11 h_63)
theorem slices_pdqsortOrdered.p1_eq (env : Env) (J : JT) (x0 x1 x2 x3 x8 x9 x10 x11 : V) (h : H) : evP Tryz.prog env J 259 slices_pdqsortOrdered.an 1 [x0, x1, x2, x3, x8, x9, x10, x11] h = slices_pdqsortOrdered.p1 env J x0 x1 x2 x3 x8 x9 x10 x11 h := by kernel_rfl
theorem slices_pdqsortOrdered.eq {tb : Nat → Option Fa} (ht : tb 259 = some (.plain slices_pdqsortOrdered.an)) (x0 x1 x2 x3 : V) (h : H) : Ei Tryz.prog tb 259 [x0, x1, x2, x3] h = slices_pdqsortOrdered.fs (Ei Tryz.prog tb) (Ji Tryz.prog tb 259 slices_pdqsortOrdered.an) x0 x1 x2 x3 h := (Ei_eq (an := slices_pdqsortOrdered.an) ht _ h).trans (slices_pdqsortOrdered.fe_eq _ _ x0 x1 x2 x3 h)
theorem slices_pdqsortOrdered.J0_eq {tb : Nat → Option Fa} (x0 x1 x2 x3 x8 x9 : V) (h : H) : Ji Tryz.prog tb 259 slices_pdqsortOrdered.an 0 [x0, x1, x2, x3, x8, x9] h = slices_pdqsortOrdered.p0 (Ei Tryz.prog tb) (Ji Tryz.prog tb 259 slices_pdqsortOrdered.an) x0 x1 x2 x3 x8 x9 h := (Ji_eq _ _ h).trans (slices_pdqsortOrdered.p0_eq _ _ x0 x1 x2 x3 x8 x9 h)
theorem slices_pdqsortOrdered.J3_eq {tb : Nat → Option Fa} (x0 x1 x2 x3 x8 x9 x10 : V) (h : H) : Ji Tryz.prog tb 259 slices_pdqsortOrdered.an 3 [x0, x1, x2, x3, x8, x9, x10] h = slices_pdqsortOrdered.p3 (Ei Tryz.prog tb) (Ji Tryz.prog tb 259 slices_pdqsortOrdered.an) x0 x1 x2 x3 x8 x9 x10 h := (Ji_eq _ _ h).trans (slices_pdqsortOrdered.p3_eq _ _ x0 x1 x2 x3 x8 x9 x10 h)
theorem slices_pdqsortOrdered.J2_eq {tb : Nat → Option Fa} (x0 x1 x2 x3 x8 x9 x10 x11 x12 : V) (h : H) : Ji Tryz.prog tb 259 slices_pdqsortOrdered.an 2 [x0, x1, x2, x3, x8, x9, x10, x11, x12] h = slices_pdqsortOrdered.p2 (Ei Tryz.prog tb) (Ji Tryz.prog tb 259 slices_pdqsortOrdered.an) x0 x1 x2 x3 x8 x9 x10 x11 x12 h := (Ji_eq _ _ h).trans (slices_pdqsortOrdered.p2_eq _ _ x0 x1 x2 x3 x8 x9 x10 x11 x12 h)
theorem slices_pdqsortOrdered.J1_eq {tb : Nat → Option Fa} (x0 x1 x2 x3 x8 x9 x10 x11 : V) (h : H) : Ji Tryz.prog tb 259 slices_pdqsortOrdered.an 1 [x0, x1, x2, x3, x8, x9, x10, x11] h = slices_pdqsortOrdered.p1 (Ei Tryz.prog tb) (Ji Tryz.prog tb 259 slices_pdqsortOrdered.an) x0 x1 x2 x3 x8 x9 x10 x11 h := (Ji_eq _ _ h).trans (slices_pdqsortOrdered.p1_eq _ _ x0 x1 x2 x3 x8 x9 x10 x11 h)
noncomputable def slices_pdqsortOrdered.sf : Sf := ⟨fun env J vs h => match vs with | [x0, x1, x2, x3] => slices_pdqsortOrdered.fs env J x0 x1 x2 x3 h | _ => none, fun env J id vs h => bif Nat.beq id 0 then (match vs with | [x0, x1, x2, x3, x8, x9] => slices_pdqsortOrdered.p0 env J x0 x1 x2 x3 x8 x9 h | _ => none) else (bif Nat.beq id 3 then (match vs with | [x0, x1, x2, x3, x8, x9, x10] => slices_pdqsortOrdered.p3 env J x0 x1 x2 x3 x8 x9 x10 h | _ => none) else (bif Nat.beq id 2 then (match vs with | [x0, x1, x2, x3, x8, x9, x10, x11, x12] => slices_pdqsortOrdered.p2 env J x0 x1 x2 x3 x8 x9 x10 x11 x12 h | _ => none) else (bif Nat.beq id 1 then (match vs with | [x0, x1, x2, x3, x8, x9, x10, x11] => slices_pdqsortOrdered.p1 env J x0 x1 x2 x3 x8 x9 x10 x11 h | _ => none) else (none))))⟩
theorem slices_pdqsortOrdered.sfok {tb : Nat → Option Fa} (ht : tb 259 = some (.plain slices_pdqsortOrdered.an)) : SfOk Tryz.prog tb 259 slices_pdqsortOrdered.sf := SfOk.plain (an := slices_pdqsortOrdered.an) ht (fun env J vs h r he => by
  simp only [slices_pdqsortOrdered.sf] at he; split at he
  · rw [slices_pdqsortOrdered.fe_eq]; exact he
  · cases he) (fun env J id vs h r he => by
  simp only [slices_pdqsortOrdered.sf] at he
  cases hb : Nat.beq id 0
  case true =>
    rw [hb] at he; rw [Nat.eq_of_beq_eq_true hb]; simp only [cond_true] at he; split at he
    · rw [slices_pdqsortOrdered.p0_eq]; exact he
    · cases he
  rw [hb] at he; simp only [cond_false] at he; clear hb
  cases hb : Nat.beq id 3
  case true =>
    rw [hb] at he; rw [Nat.eq_of_beq_eq_true hb]; simp only [cond_true] at he; split at he
    · rw [slices_pdqsortOrdered.p3_eq]; exact he
    · cases he
  rw [hb] at he; simp only [cond_false] at he; clear hb
  cases hb : Nat.beq id 2
  case true =>
    rw [hb] at he; rw [Nat.eq_of_beq_eq_true hb]; simp only [cond_true] at he; split at he
    · rw [slices_pdqsortOrdered.p2_eq]; exact he
    · cases he
  rw [hb] at he; simp only [cond_false] at he; clear hb
  cases hb : Nat.beq id 1
  case true =>
    rw [hb] at he; rw [Nat.eq_of_beq_eq_true hb]; simp only [cond_true] at he; split at he
    · rw [slices_pdqsortOrdered.p1_eq]; exact he
    · cases he
  rw [hb] at he; simp only [cond_false] at he; clear hb
  cases he)
/- 260 math/bits.Len -/
noncomputable def math_bits_Len.c0 (env : Env) (J : JT) (x0 : V) (h : H) : Ans :=
 cnd (.bool false) (
 bnd2 (conv (.int .u32) h x0) fun t4_1 h_2 =>
 bnd2 (env 278 [t4_1] h_2) fun t5_3 h_4 =>
 some (t5_3, h_4)) (
 bnd2 (env 279 [x0] h) fun t7_5 h_6 =>
 some (t7_5, h_6))
noncomputable def math_bits_Len.fs (env : Env) (J : JT) (x0 : V) (h : H) : Ans :=
 math_bits_Len.c0 env J x0 h
theorem math_bits_Len.fe_eq (env : Env) (J : JT) (x0 : V) (h : H) : evF Tryz.prog env J 260 math_bits_Len.an [x0] h = math_bits_Len.fs env J x0 h := by kernel_rfl
theorem math_bits_Len.eq {tb : Nat → Option Fa} (ht : tb 260 = some (.plain math_bits_Len.an)) (x0 : V) (h : H) : Ei Tryz.prog tb 260 [x0] h = math_bits_Len.fs (Ei Tryz.prog tb) (Ji Tryz.prog tb 260 math_bits_Len.an) x0 h := (Ei_eq (an := math_bits_Len.an) ht _ h).trans (math_bits_Len.fe_eq _ _ x0 h)
noncomputable def math_bits_Len.sf : Sf := ⟨fun env J vs h => match vs with | [x0] => math_bits_Len.fs env J x0 h | _ => none, fun env J id vs h => none⟩
theorem math_bits_Len.sfok {tb : Nat → Option Fa} (ht : tb 260 = some (.plain math_bits_Len.an)) : SfOk Tryz.prog tb 260 math_bits_Len.sf := SfOk.plain (an := math_bits_Len.an) ht (fun env J vs h r he => by
  simp only [math_bits_Len.sf] at he; split at he
  · rw [math_bits_Len.fe_eq]; exact he
  · cases he) (fun env J id vs h r he => by simp only [math_bits_Len.sf] at he; cases he)
/- 265 busbar/walk.from -/
noncomputable def walk_from.c2 (env : Env) (J : JT) (x1 x2 x7 x12 x13 : V) (h : H) : Ans :=
 J 0 [x1, x2, x7, x12, x13] h
noncomputable def walk_from.c1 (env : Env) (J : JT) (x1 x2 x7 : V) (h : H) : Ans :=
 bnd (lenV .slc h x7) fun t12_3 =>
 walk_from.c2 env J x1 x2 x7 t12_3 (.int .i64 0) h
noncomputable def walk_from.c0 (env : Env) (J : JT) (x0 x1 x2 : V) (h : H) : Ans :=
 bnd2 (mslc (some (3, none, 8)) (zeroV Tryz.prog 3) x0 x0 h) fun t10_1 h_2 =>
 walk_from.c1 env J x1 x2 t10_1 h_2
noncomputable def walk_from.fs (env : Env) (J : JT) (x0 x1 x2 : V) (h : H) : Ans :=
 walk_from.c0 env J x0 x1 x2 h
theorem walk_from.fe_eq (env : Env) (J : JT) (x0 x1 x2 : V) (h : H) : evF Tryz.prog env J 265 walk_from.an [x0, x1, x2] h = walk_from.fs env J x0 x1 x2 h := by kernel_rfl
noncomputable def walk_from.c7 (env : Env) (J : JT) (x1 x2 x7 x8 x12 x13 x23 : V) (h : H) : Ans :=
 cnd x23 (
 bnd (indexA (.slc none) x7 x8) fun t27_9 =>
 bnd (st none h t27_9 x2) fun h_10 =>
 bnd (bin .add x13 (.int .i64 1)) fun t28_11 =>
 J 0 [x1, x2, x7, x12, t28_11] h_10) (
 bnd (bin .add x13 (.int .i64 1)) fun t28_12 =>
 J 0 [x1, x2, x7, x12, t28_12] h)
noncomputable def walk_from.c6 (env : Env) (J : JT) (x1 x2 x7 x8 x12 x13 : V) (h : H) : Ans :=
 bnd (binE false .int x8 x1) fun t23_8 =>
 walk_from.c7 env J x1 x2 x7 x8 x12 x13 t23_8 h
noncomputable def walk_from.c5 (env : Env) (J : JT) (x1 x2 x7 x8 x12 x13 : V) (h : H) : Ans :=
 bnd (bin .sub (.int .i64 (-1)) x8) fun t19_5 =>
 bnd (indexA (.slc none) x7 x8) fun t20_6 =>
 bnd (st none h t20_6 t19_5) fun h_7 =>
 walk_from.c6 env J x1 x2 x7 x8 x12 x13 h_7
noncomputable def walk_from.c4 (env : Env) (J : JT) (x1 x2 x7 x12 x13 : V) (h : H) : Ans :=
 walk_from.c5 env J x1 x2 x7 x13 x12 x13 h
noncomputable def walk_from.c3 (env : Env) (J : JT) (x1 x2 x7 x12 x13 x14 : V) (h : H) : Ans :=
 cnd x14 (
 walk_from.c4 env J x1 x2 x7 x12 x13 h) (
 some (x7, h))
noncomputable def walk_from.p0 (env : Env) (J : JT) (x1 x2 x7 x12 x13 : V) (h : H) : Ans :=
 bnd (bin .lss x13 x12) fun t14_4 =>
 walk_from.c3 env J x1 x2 x7 x12 x13 t14_4 h
theorem walk_from.p0_eq (env : Env) (J : JT) (x1 x2 x7 x12 x13 : V) (h : H) : evP Tryz.prog env J 265 walk_from.an 0 [x1, x2, x7, x12, x13] h = walk_from.p0 env J x1 x2 x7 x12 x13 h := by kernel_rfl
theorem walk_from.eq {tb : Nat → Option Fa} (ht : tb 265 = some (.plain walk_from.an)) (x0 x1 x2 : V) (h : H) : Ei Tryz.prog tb 265 [x0, x1, x2] h = walk_from.fs (Ei Tryz.prog tb) (Ji Tryz.prog tb 265 walk_from.an) x0 x1 x2 h := (Ei_eq (an := walk_from.an) ht _ h).trans (walk_from.fe_eq _ _ x0 x1 x2 h)
theorem walk_from.J0_eq {tb : Nat → Option Fa} (x1 x2 x7 x12 x13 : V) (h : H) : Ji Tryz.prog tb 265 walk_from.an 0 [x1, x2, x7, x12, x13] h = walk_from.p0 (Ei Tryz.prog tb) (Ji Tryz.prog tb 265 walk_from.an) x1 x2 x7 x12 x13 h := (Ji_eq _ _ h).trans (walk_from.p0_eq _ _ x1 x2 x7 x12 x13 h)
noncomputable def walk_from.sf : Sf := ⟨fun env J vs h => match vs with | [x0, x1, x2] => walk_from.fs env J x0 x1 x2 h | _ => none, fun env J id vs h => bif Nat.beq id 0 then (match vs with | [x1, x2, x7, x12, x13] => walk_from.p0 env J x1 x2 x7 x12 x13 h | _ => none) else (none)⟩
theorem walk_from.sfok {tb : Nat → Option Fa} (ht : tb 265 = some (.plain walk_from.an)) : SfOk Tryz.prog tb 265 walk_from.sf := SfOk.plain (an := walk_from.an) ht (fun env J vs h r he => by
  simp only [walk_from.sf] at he; split at he
  · rw [walk_from.fe_eq]; exact he
  · cases he) (fun env J id vs h r he => by
  simp only [walk_from.sf] at he
  cases hb : Nat.beq id 0
  case true =>
    rw [hb] at he; rw [Nat.eq_of_beq_eq_true hb]; simp only [cond_true] at he; split at he
    · rw [walk_from.p0_eq]; exact he
    · cases he
  rw [hb] at he; simp only [cond_false] at he; clear hb
  cases he)
/- 266 busbar/valid.named$1 -/
noncomputable def valid_named_1.c0 (env : Env) (J : JT) (x0 x1 : V) (h : H) : Ans :=
 bnd (bin .lss x0 (.int .i64 0)) fun t5_1 =>
 bnd2 (gd t5_1 false (some (x0, h)) h) fun t7_2 h_3 =>
 bnd2 (gd t5_1 false (bnd (ld none h_3 x1) fun t8_4 =>
 some (t8_4, h_3)) h_3) fun t8_5 h_6 =>
 bnd2 (gd t5_1 false (bnd (bin .geq t7_2 t8_5) fun t9_7 =>
 some (t9_7, h_6)) h_6) fun t9_8 h_9 =>
 bnd (pick t5_1 (.bool true) t9_8) fun t10_10 =>
 some (t10_10, h_9)
noncomputable def valid_named_1.fs (env : Env) (J : JT) (x0 x1 : V) (h : H) : Ans :=
 valid_named_1.c0 env J x0 x1 h
theorem valid_named_1.fe_eq (env : Env) (J : JT) (x0 x1 : V) (h : H) : evF Tryz.prog env J 266 valid_named_1.an [x0, x1] h = valid_named_1.fs env J x0 x1 h := by kernel_rfl
theorem valid_named_1.eq {tb : Nat → Option Fa} (ht : tb 266 = some (.plain valid_named_1.an)) (x0 x1 : V) (h : H) : Ei Tryz.prog tb 266 [x0, x1] h = valid_named_1.fs (Ei Tryz.prog tb) (Ji Tryz.prog tb 266 valid_named_1.an) x0 x1 h := (Ei_eq (an := valid_named_1.an) ht _ h).trans (valid_named_1.fe_eq _ _ x0 x1 h)
noncomputable def valid_named_1.sf : Sf := ⟨fun env J vs h => match vs with | [x0, x1] => valid_named_1.fs env J x0 x1 h | _ => none, fun env J id vs h => none⟩
theorem valid_named_1.sfok {tb : Nat → Option Fa} (ht : tb 266 = some (.plain valid_named_1.an)) : SfOk Tryz.prog tb 266 valid_named_1.sf := SfOk.plain (an := valid_named_1.an) ht (fun env J vs h r he => by
  simp only [valid_named_1.sf] at he; split at he
  · rw [valid_named_1.fe_eq]; exact he
  · cases he) (fun env J id vs h r he => by simp only [valid_named_1.sf] at he; cases he)
/- 267 (busbar/cmd.Command).message -/
noncomputable def cmd_Command_message.c2 (env : Env) (J : JT) (x1 : V) (h : H) : Ans :=
 bnd (fieldA (some (some 224, none)) x1 0) fun t27_48 =>
 bnd (ld none h t27_48) fun t28_49 =>
 bnd (binE true .int t28_49 (.int .i64 1)) fun t29_50 =>
 bnd2 (gd t29_50 false (bnd (fieldA (some (some 224, none)) x1 3) fun t31_51 =>
 some (t31_51, h)) h) fun t31_52 h_53 =>
 bnd2 (gd t29_50 false (bnd (ld none h_53 t31_52) fun t32_54 =>
 some (t32_54, h_53)) h_53) fun t32_55 h_56 =>
 bnd2 (gd t29_50 false (bnd (fieldA (some (some 224, none)) x1 4) fun t33_57 =>
 some (t33_57, h_56)) h_56) fun t33_58 h_59 =>
 bnd2 (gd t29_50 false (bnd (ld none h_59 t33_58) fun t34_60 =>
 some (t34_60, h_59)) h_59) fun t34_61 h_62 =>
 bnd2 (gd t29_50 false (bnd (bin .sub t34_61 (.int .i64 1)) fun t35_63 =>
 some (t35_63, h_62)) h_62) fun t35_64 h_65 =>
 bnd2 (gd t29_50 false (bnd2 (env 268 [t32_55, (.int .i64 0), t35_64] h_65) fun t36_66 h_67 =>
 some (t36_66, h_67)) h_65) fun t36_68 h_69 =>
 bnd (pick t29_50 (.bool true) t36_68) fun t37_70 =>
 some (t37_70, h_69)
noncomputable def cmd_Command_message.c1 (env : Env) (J : JT) (x1 x3 : V) (h : H) : Ans :=
 cnd x3 (
 some ((.bool false), h)) (
 bnd (fieldA (some (some 224, none)) x1 0) fun t15_22 =>
 bnd (ld none h t15_22) fun t16_23 =>
 bnd (binE true .int t16_23 (.int .i64 3)) fun t17_24 =>
 bnd2 (gd t17_24 true (bnd (fieldA (some (some 224, none)) x1 1) fun t19_25 =>
 some (t19_25, h)) h) fun t19_26 h_27 =>
 bnd2 (gd t17_24 true (bnd (ld none h_27 t19_26) fun t20_28 =>
 some (t20_28, h_27)) h_27) fun t20_29 h_30 =>
 bnd2 (gd t17_24 true (bnd (fieldA (some (some 224, none)) x1 2) fun t21_31 =>
 some (t21_31, h_30)) h_30) fun t21_32 h_33 =>
 bnd2 (gd t17_24 true (bnd (ld none h_33 t21_32) fun t22_34 =>
 some (t22_34, h_33)) h_33) fun t22_35 h_36 =>
 bnd2 (gd t17_24 true (bnd (bin .sub (.int .i64 64) t22_35) fun t23_37 =>
 some (t23_37, h_36)) h_36) fun t23_38 h_39 =>
 bnd2 (gd t17_24 true (bnd2 (env 268 [t20_29, (.int .i64 0), t23_38] h_39) fun t24_40 h_41 =>
 some (t24_40, h_41)) h_39) fun t24_42 h_43 =>
 bnd2 (gd t17_24 true (bnd (un .not t24_42) fun t25_44 =>
 some (t25_44, h_43)) h_43) fun t25_45 h_46 =>
 bnd (pick t17_24 t25_45 (.bool false)) fun t26_47 =>
 cnd t26_47 (
 some ((.bool false), h_46)) (
 cmd_Command_message.c2 env J x1 h_46))
noncomputable def cmd_Command_message.c0 (env : Env) (J : JT) (x1 : V) (h : H) : Ans :=
 bnd (fieldA (some (some 224, none)) x1 2) fun t4_3 =>
 bnd (ld none h t4_3) fun t5_4 =>
 bnd2 (env 268 [t5_4, (.int .i64 1), (.int .i64 8)] h) fun t6_5 h_6 =>
 bnd (un .not t6_5) fun t7_7 =>
 bnd2 (gd t7_7 false (bnd (fieldA (some (some 224, none)) x1 4) fun t9_8 =>
 some (t9_8, h_6)) h_6) fun t9_9 h_10 =>
 bnd2 (gd t7_7 false (bnd (ld none h_10 t9_9) fun t10_11 =>
 some (t10_11, h_10)) h_10) fun t10_12 h_13 =>
 bnd2 (gd t7_7 false (bnd2 (env 268 [t10_12, (.int .i64 1), (.int .i64 4)] h_13) fun t11_14 h_15 =>
 some (t11_14, h_15)) h_13) fun t11_16 h_17 =>
 bnd2 (gd t7_7 false (bnd (un .not t11_16) fun t12_18 =>
 some (t12_18, h_17)) h_17) fun t12_19 h_20 =>
 bnd (pick t7_7 (.bool true) t12_19) fun t13_21 =>
 cmd_Command_message.c1 env J x1 t13_21 h_20
noncomputable def cmd_Command_message.fs (env : Env) (J : JT) (x0 : V) (h : H) : Ans :=
 bnd2 (box (some (some 224)) h x0) fun t1_1 h_2 =>
 cmd_Command_message.c0 env J t1_1 h_2
theorem cmd_Command_message.fe_eq (env : Env) (J : JT) (x0 : V) (h : H) : evF Tryz.prog env J 267 cmd_Command_message.an [x0] h = cmd_Command_message.fs env J x0 h := by kernel_rfl
theorem cmd_Command_message.eq {tb : Nat → Option Fa} (ht : tb 267 = some (.plain cmd_Command_message.an)) (x0 : V) (h : H) : Ei Tryz.prog tb 267 [x0] h = cmd_Command_message.fs (Ei Tryz.prog tb) (Ji Tryz.prog tb 267 cmd_Command_message.an) x0 h := (Ei_eq (an := cmd_Command_message.an) ht _ h).trans (cmd_Command_message.fe_eq _ _ x0 h)
noncomputable def cmd_Command_message.sf : Sf := ⟨fun env J vs h => match vs with | [x0] => cmd_Command_message.fs env J x0 h | _ => none, fun env J id vs h => none⟩
theorem cmd_Command_message.sfok {tb : Nat → Option Fa} (ht : tb 267 = some (.plain cmd_Command_message.an)) : SfOk Tryz.prog tb 267 cmd_Command_message.sf := SfOk.plain (an := cmd_Command_message.an) ht (fun env J vs h r he => by
  simp only [cmd_Command_message.sf] at he; split at he
  · rw [cmd_Command_message.fe_eq]; exact he
  · cases he) (fun env J id vs h r he => by simp only [cmd_Command_message.sf] at he; cases he)
/- 268 busbar/cmd.within -/
noncomputable def cmd_within.c0 (env : Env) (J : JT) (x0 x1 x2 : V) (h : H) : Ans :=
 bnd (bin .geq x0 x1) fun t9_1 =>
 bnd2 (gd t9_1 true (some (x0, h)) h) fun t11_2 h_3 =>
 bnd2 (gd t9_1 true (some (x2, h_3)) h_3) fun t12_4 h_5 =>
 bnd2 (gd t9_1 true (bnd (bin .leq t11_2 t12_4) fun t13_6 =>
 some (t13_6, h_5)) h_5) fun t13_7 h_8 =>
 bnd (pick t9_1 t13_7 (.bool false)) fun t14_9 =>
 some (t14_9, h_8)
noncomputable def cmd_within.fs (env : Env) (J : JT) (x0 x1 x2 : V) (h : H) : Ans :=
 cmd_within.c0 env J x0 x1 x2 h
theorem cmd_within.fe_eq (env : Env) (J : JT) (x0 x1 x2 : V) (h : H) : evF Tryz.prog env J 268 cmd_within.an [x0, x1, x2] h = cmd_within.fs env J x0 x1 x2 h := by kernel_rfl
theorem cmd_within.eq {tb : Nat → Option Fa} (ht : tb 268 = some (.plain cmd_within.an)) (x0 x1 x2 : V) (h : H) : Ei Tryz.prog tb 268 [x0, x1, x2] h = cmd_within.fs (Ei Tryz.prog tb) (Ji Tryz.prog tb 268 cmd_within.an) x0 x1 x2 h := (Ei_eq (an := cmd_within.an) ht _ h).trans (cmd_within.fe_eq _ _ x0 x1 x2 h)
noncomputable def cmd_within.sf : Sf := ⟨fun env J vs h => match vs with | [x0, x1, x2] => cmd_within.fs env J x0 x1 x2 h | _ => none, fun env J id vs h => none⟩
theorem cmd_within.sfok {tb : Nat → Option Fa} (ht : tb 268 = some (.plain cmd_within.an)) : SfOk Tryz.prog tb 268 cmd_within.sf := SfOk.plain (an := cmd_within.an) ht (fun env J vs h r he => by
  simp only [cmd_within.sf] at he; split at he
  · rw [cmd_within.fe_eq]; exact he
  · cases he) (fun env J id vs h r he => by simp only [cmd_within.sf] at he; cases he)
/- 269 slices.insertionSortOrdered[int] -/
noncomputable def slices_insertionSortOrdered.c0 (env : Env) (J : JT) (x0 x1 x2 x6 : V) (h : H) : Ans :=
 J 0 [x0, x1, x2, x6] h
noncomputable def slices_insertionSortOrdered.fs (env : Env) (J : JT) (x0 x1 x2 : V) (h : H) : Ans :=
 bnd (bin .add x1 (.int .i64 1)) fun t9_1 =>
 slices_insertionSortOrdered.c0 env J x0 x1 x2 t9_1 h
theorem slices_insertionSortOrdered.fe_eq (env : Env) (J : JT) (x0 x1 x2 : V) (h : H) : evF Tryz.prog env J 269 slices_insertionSortOrdered.an [x0, x1, x2] h = slices_insertionSortOrdered.fs env J x0 x1 x2 h := by kernel_rfl
noncomputable def slices_insertionSortOrdered.c2 (env : Env) (J : JT) (x0 x1 x2 x6 x7 : V) (h : H) : Ans :=
 J 1 [x0, x1, x2, x6, x7] h
noncomputable def slices_insertionSortOrdered.c1 (env : Env) (J : JT) (x0 x1 x2 x6 : V) (h : H) : Ans :=
 slices_insertionSortOrdered.c2 env J x0 x1 x2 x6 x6 h
noncomputable def slices_insertionSortOrdered.p0 (env : Env) (J : JT) (x0 x1 x2 x6 : V) (h : H) : Ans :=
 bnd (bin .lss x6 x2) fun t12_2 =>
 cnd t12_2 (
 slices_insertionSortOrdered.c1 env J x0 x1 x2 x6 h) (
 some (.tup [], h))
theorem slices_insertionSortOrdered.p0_eq (env : Env) (J : JT) (x0 x1 x2 x6 : V) (h : H) : evP Tryz.prog env J 269 slices_insertionSortOrdered.an 0 [x0, x1, x2, x6] h = slices_insertionSortOrdered.p0 env J x0 x1 x2 x6 h := by kernel_rfl
noncomputable def slices_insertionSortOrdered.c3 (env : Env) (J : JT) (x0 x1 x2 x6 x7 : V) (h : H) : Ans :=
 bnd (bin .sub x7 (.int .i64 1)) fun t37_32 =>
 bnd (bin .sub x7 (.int .i64 1)) fun t40_33 =>
 bnd (indexA (.slc none) x0 t40_33) fun t41_34 =>
 bnd (ld none h t41_34) fun t42_35 =>
 bnd (indexA (.slc none) x0 x7) fun t45_36 =>
 bnd (ld none h t45_36) fun t46_37 =>
 bnd (indexA (.slc none) x0 x7) fun t47_38 =>
 bnd (st none h t47_38 t42_35) fun h_39 =>
 bnd (indexA (.slc none) x0 t37_32) fun t48_40 =>
 bnd (st none h_39 t48_40 t46_37) fun h_41 =>
 bnd (bin .sub x7 (.int .i64 1)) fun t32_42 =>
 J 1 [x0, x1, x2, x6, t32_42] h_41
noncomputable def slices_insertionSortOrdered.p1 (env : Env) (J : JT) (x0 x1 x2 x6 x7 : V) (h : H) : Ans :=
 bnd (bin .gtr x7 x1) fun t18_3 =>
 bnd2 (gd t18_3 true (some (x0, h)) h) fun t20_4 h_5 =>
 bnd2 (gd t18_3 true (some (x7, h_5)) h_5) fun t21_6 h_7 =>
 bnd2 (gd t18_3 true (bnd (indexA (.slc none) t20_4 t21_6) fun t22_8 =>
 some (t22_8, h_7)) h_7) fun t22_9 h_10 =>
 bnd2 (gd t18_3 true (bnd (ld none h_10 t22_9) fun t23_11 =>
 some (t23_11, h_10)) h_10) fun t23_12 h_13 =>
 bnd2 (gd t18_3 true (some (x0, h_13)) h_13) fun t24_14 h_15 =>
 bnd2 (gd t18_3 true (some (x7, h_15)) h_15) fun t25_16 h_17 =>
 bnd2 (gd t18_3 true (bnd (bin .sub t25_16 (.int .i64 1)) fun t26_18 =>
 some (t26_18, h_17)) h_17) fun t26_19 h_20 =>
 bnd2 (gd t18_3 true (bnd (indexA (.slc none) t24_14 t26_19) fun t27_21 =>
 some (t27_21, h_20)) h_20) fun t27_22 h_23 =>
 bnd2 (gd t18_3 true (bnd (ld none h_23 t27_22) fun t28_24 =>
 some (t28_24, h_23)) h_23) fun t28_25 h_26 =>
 bnd2 (gd t18_3 true (bnd2 (env 275 [t23_12, t28_25] h_26) fun t29_27 h_28 =>
 some (t29_27, h_28)) h_26) fun t29_29 h_30 =>
 bnd (pick t18_3 t29_29 (.bool false)) fun t30_31 =>
 cnd t30_31 (
 slices_insertionSortOrdered.c3 env J x0 x1 x2 x6 x7 h_30) (
 bnd (bin .add x6 (.int .i64 1)) fun t14_43 =>
 J 0 [x0, x1, x2, t14_43] h_30)
theorem slices_insertionSortOrdered.p1_eq (env : Env) (J : JT) (x0 x1 x2 x6 x7 : V) (h : H) : evP Tryz.prog env J 269 slices_insertionSortOrdered.an 1 [x0, x1, x2, x6, x7] h = slices_insertionSortOrdered.p1 env J x0 x1 x2 x6 x7 h := by kernel_rfl
theorem slices_insertionSortOrdered.eq {tb : Nat → Option Fa} (ht : tb 269 = some (.plain slices_insertionSortOrdered.an)) (x0 x1 x2 : V) (h : H) : Ei Tryz.prog tb 269 [x0, x1, x2] h = slices_insertionSortOrdered.fs (Ei Tryz.prog tb) (Ji Tryz.prog tb 269 slices_insertionSortOrdered.an) x0 x1 x2 h := (Ei_eq (an := slices_insertionSortOrdered.an) ht _ h).trans (slices_insertionSortOrdered.fe_eq _ _ x0 x1 x2 h)
theorem slices_insertionSortOrdered.J0_eq {tb : Nat → Option Fa} (x0 x1 x2 x6 : V) (h : H) : Ji Tryz.prog tb 269 slices_insertionSortOrdered.an 0 [x0, x1, x2, x6] h = slices_insertionSortOrdered.p0 (Ei Tryz.prog tb) (Ji Tryz.prog tb 269 slices_insertionSortOrdered.an) x0 x1 x2 x6 h := (Ji_eq _ _ h).trans (slices_insertionSortOrdered.p0_eq _ _ x0 x1 x2 x6 h)
theorem slices_insertionSortOrdered.J1_eq {tb : Nat → Option Fa} (x0 x1 x2 x6 x7 : V) (h : H) : Ji Tryz.prog tb 269 slices_insertionSortOrdered.an 1 [x0, x1, x2, x6, x7] h = slices_insertionSortOrdered.p1 (Ei Tryz.prog tb) (Ji Tryz.prog tb 269 slices_insertionSortOrdered.an) x0 x1 x2 x6 x7 h := (Ji_eq _ _ h).trans (slices_insertionSortOrdered.p1_eq _ _ x0 x1 x2 x6 x7 h)
noncomputable def slices_insertionSortOrdered.sf : Sf := ⟨fun env J vs h => match vs with | [x0, x1, x2] => slices_insertionSortOrdered.fs env J x0 x1 x2 h | _ => none, fun env J id vs h => bif Nat.beq id 0 then (match vs with | [x0, x1, x2, x6] => slices_insertionSortOrdered.p0 env J x0 x1 x2 x6 h | _ => none) else (bif Nat.beq id 1 then (match vs with | [x0, x1, x2, x6, x7] => slices_insertionSortOrdered.p1 env J x0 x1 x2 x6 x7 h | _ => none) else (none))⟩
theorem slices_insertionSortOrdered.sfok {tb : Nat → Option Fa} (ht : tb 269 = some (.plain slices_insertionSortOrdered.an)) : SfOk Tryz.prog tb 269 slices_insertionSortOrdered.sf := SfOk.plain (an := slices_insertionSortOrdered.an) ht (fun env J vs h r he => by
  simp only [slices_insertionSortOrdered.sf] at he; split at he
  · rw [slices_insertionSortOrdered.fe_eq]; exact he
  · cases he) (fun env J id vs h r he => by
  simp only [slices_insertionSortOrdered.sf] at he
  cases hb : Nat.beq id 0
  case true =>
    rw [hb] at he; rw [Nat.eq_of_beq_eq_true hb]; simp only [cond_true] at he; split at he
    · rw [slices_insertionSortOrdered.p0_eq]; exact he
    · cases he
  rw [hb] at he; simp only [cond_false] at he; clear hb
  cases hb : Nat.beq id 1
  case true =>
    rw [hb] at he; rw [Nat.eq_of_beq_eq_true hb]; simp only [cond_true] at he; split at he
    · rw [slices_insertionSortOrdered.p1_eq]; exact he
    · cases he
  rw [hb] at he; simp only [cond_false] at he; clear hb
  cases he)
/- 275 cmp.Less[int] -/
noncomputable def cmp_Less.c0 (env : Env) (J : JT) (x0 x1 : V) (h : H) : Ans :=
 bnd2 (env 285 [x0] h) fun t6_1 h_2 =>
 bnd2 (gd t6_1 true (some (x1, h_2)) h_2) fun t8_3 h_4 =>
 bnd2 (gd t6_1 true (bnd2 (env 285 [t8_3] h_4) fun t9_5 h_6 =>
 some (t9_5, h_6)) h_4) fun t9_7 h_8 =>
 bnd2 (gd t6_1 true (bnd (un .not t9_7) fun t10_9 =>
 some (t10_9, h_8)) h_8) fun t10_10 h_11 =>
 bnd (pick t6_1 t10_10 (.bool false)) fun t11_12 =>
 bnd2 (gd t11_12 false (some (x0, h_11)) h_11) fun t13_13 h_14 =>
 bnd2 (gd t11_12 false (some (x1, h_14)) h_14) fun t14_15 h_16 =>
 bnd2 (gd t11_12 false (bnd (bin .lss t13_13 t14_15) fun t15_17 =>
 some (t15_17, h_16)) h_16) fun t15_18 h_19 =>
 bnd (pick t11_12 (.bool true) t15_18) fun t16_20 =>
 some (t16_20, h_19)
noncomputable def cmp_Less.fs (env : Env) (J : JT) (x0 x1 : V) (h : H) : Ans :=
 cmp_Less.c0 env J x0 x1 h
theorem cmp_Less.fe_eq (env : Env) (J : JT) (x0 x1 : V) (h : H) : evF Tryz.prog env J 275 cmp_Less.an [x0, x1] h = cmp_Less.fs env J x0 x1 h := by kernel_rfl
theorem cmp_Less.eq {tb : Nat → Option Fa} (ht : tb 275 = some (.plain cmp_Less.an)) (x0 x1 : V) (h : H) : Ei Tryz.prog tb 275 [x0, x1] h = cmp_Less.fs (Ei Tryz.prog tb) (Ji Tryz.prog tb 275 cmp_Less.an) x0 x1 h := (Ei_eq (an := cmp_Less.an) ht _ h).trans (cmp_Less.fe_eq _ _ x0 x1 h)
noncomputable def cmp_Less.sf : Sf := ⟨fun env J vs h => match vs with | [x0, x1] => cmp_Less.fs env J x0 x1 h | _ => none, fun env J id vs h => none⟩
theorem cmp_Less.sfok {tb : Nat → Option Fa} (ht : tb 275 = some (.plain cmp_Less.an)) : SfOk Tryz.prog tb 275 cmp_Less.sf := SfOk.plain (an := cmp_Less.an) ht (fun env J vs h r he => by
  simp only [cmp_Less.sf] at he; split at he
  · rw [cmp_Less.fe_eq]; exact he
  · cases he) (fun env J id vs h r he => by simp only [cmp_Less.sf] at he; cases he)
/- 279 math/bits.Len64 -/
noncomputable def math_bits_Len64.c0 (env : Env) (J : JT) (x0 x2 : V) (h : H) : Ans :=
 bnd (bin .geq x0 (.int .u64 4294967296)) fun t4_1 =>
 cnd t4_1 (
 bnd (bin .shr x0 (.int .u64 32)) fun t6_2 =>
 J 2 [t6_2, (.int .i64 32)] h) (
 J 2 [x0, x2] h)
noncomputable def math_bits_Len64.fs (env : Env) (J : JT) (x0 : V) (h : H) : Ans :=
 math_bits_Len64.c0 env J x0 (.int .i64 0) h
theorem math_bits_Len64.fe_eq (env : Env) (J : JT) (x0 : V) (h : H) : evF Tryz.prog env J 279 math_bits_Len64.an [x0] h = math_bits_Len64.fs env J x0 h := by kernel_rfl
noncomputable def math_bits_Len64.c1 (env : Env) (J : JT) (x0 x2 x8 : V) (h : H) : Ans :=
 cnd x8 (
 bnd (bin .shr x0 (.int .u64 16)) fun t10_4 =>
 bnd (bin .add x2 (.int .i64 16)) fun t12_5 =>
 J 1 [t10_4, t12_5] h) (
 J 1 [x0, x2] h)
noncomputable def math_bits_Len64.p2 (env : Env) (J : JT) (x0 x2 : V) (h : H) : Ans :=
 bnd (bin .geq x0 (.int .u64 65536)) fun t8_3 =>
 math_bits_Len64.c1 env J x0 x2 t8_3 h
theorem math_bits_Len64.p2_eq (env : Env) (J : JT) (x0 x2 : V) (h : H) : evP Tryz.prog env J 279 math_bits_Len64.an 2 [x0, x2] h = math_bits_Len64.p2 env J x0 x2 h := by kernel_rfl
noncomputable def math_bits_Len64.c2 (env : Env) (J : JT) (x0 x2 x14 : V) (h : H) : Ans :=
 cnd x14 (
 bnd (bin .shr x0 (.int .u64 8)) fun t16_7 =>
 bnd (bin .add x2 (.int .i64 8)) fun t18_8 =>
 J 0 [t16_7, t18_8] h) (
 J 0 [x0, x2] h)
noncomputable def math_bits_Len64.p1 (env : Env) (J : JT) (x0 x2 : V) (h : H) : Ans :=
 bnd (bin .geq x0 (.int .u64 256)) fun t14_6 =>
 math_bits_Len64.c2 env J x0 x2 t14_6 h
theorem math_bits_Len64.p1_eq (env : Env) (J : JT) (x0 x2 : V) (h : H) : evP Tryz.prog env J 279 math_bits_Len64.an 1 [x0, x2] h = math_bits_Len64.p1 env J x0 x2 h := by kernel_rfl
noncomputable def math_bits_Len64.p0 (env : Env) (J : JT) (x0 x2 : V) (h : H) : Ans :=
 bnd2 (conv (.int .u8) h x0) fun t21_9 h_10 =>
 bnd (indexV .str (.str [0, 1, 2, 2, 3, 3, 3, 3, 4, 4, 4, 4, 4, 4, 4, 4, 5, 5, 5, 5, 5, 5, 5, 5, 5, 5, 5, 5, 5, 5, 5, 5, 6, 6, 6, 6, 6, 6, 6, 6, 6, 6, 6, 6, 6, 6, 6, 6, 6, 6, 6, 6, 6, 6, 6, 6, 6, 6, 6, 6, 6, 6, 6, 6, 7, 7, 7, 7, 7, 7, 7, 7, 7, 7, 7, 7, 7, 7, 7, 7, 7, 7, 7, 7, 7, 7, 7, 7, 7, 7, 7, 7, 7, 7, 7, 7, 7, 7, 7, 7, 7, 7, 7, 7, 7, 7, 7, 7, 7, 7, 7, 7, 7, 7, 7, 7, 7, 7, 7, 7, 7, 7, 7, 7, 7, 7, 7, 7, 8, 8, 8, 8, 8, 8, 8, 8, 8, 8, 8, 8, 8, 8, 8, 8, 8, 8, 8, 8, 8, 8, 8, 8, 8, 8, 8, 8, 8, 8, 8, 8, 8, 8, 8, 8, 8, 8, 8, 8, 8, 8, 8, 8, 8, 8, 8, 8, 8, 8, 8, 8, 8, 8, 8, 8, 8, 8, 8, 8, 8, 8, 8, 8, 8, 8, 8, 8, 8, 8, 8, 8, 8, 8, 8, 8, 8, 8, 8, 8, 8, 8, 8, 8, 8, 8, 8, 8, 8, 8, 8, 8, 8, 8, 8, 8, 8, 8, 8, 8, 8, 8, 8, 8, 8, 8, 8, 8, 8, 8, 8, 8, 8, 8, 8, 8, 8, 8, 8, 8, 8, 8, 8, 8, 8, 8, 8, 8]) t21_9) fun t22_11 =>
 bnd2 (conv (.int .i64) h_10 t22_11) fun t23_12 h_13 =>
 bnd (bin .add x2 t23_12) fun t24_14 =>
 some (t24_14, h_13)
theorem math_bits_Len64.p0_eq (env : Env) (J : JT) (x0 x2 : V) (h : H) : evP Tryz.prog env J 279 math_bits_Len64.an 0 [x0, x2] h = math_bits_Len64.p0 env J x0 x2 h := by kernel_rfl
theorem math_bits_Len64.eq {tb : Nat → Option Fa} (ht : tb 279 = some (.plain math_bits_Len64.an)) (x0 : V) (h : H) : Ei Tryz.prog tb 279 [x0] h = math_bits_Len64.fs (Ei Tryz.prog tb) (Ji Tryz.prog tb 279 math_bits_Len64.an) x0 h := (Ei_eq (an := math_bits_Len64.an) ht _ h).trans (math_bits_Len64.fe_eq _ _ x0 h)
theorem math_bits_Len64.J2_eq {tb : Nat → Option Fa} (x0 x2 : V) (h : H) : Ji Tryz.prog tb 279 math_bits_Len64.an 2 [x0, x2] h = math_bits_Len64.p2 (Ei Tryz.prog tb) (Ji Tryz.prog tb 279 math_bits_Len64.an) x0 x2 h := (Ji_eq _ _ h).trans (math_bits_Len64.p2_eq _ _ x0 x2 h)
theorem math_bits_Len64.J1_eq {tb : Nat → Option Fa} (x0 x2 : V) (h : H) : Ji Tryz.prog tb 279 math_bits_Len64.an 1 [x0, x2] h = math_bits_Len64.p1 (Ei Tryz.prog tb) (Ji Tryz.prog tb 279 math_bits_Len64.an) x0 x2 h := (Ji_eq _ _ h).trans (math_bits_Len64.p1_eq _ _ x0 x2 h)
theorem math_bits_Len64.J0_eq {tb : Nat → Option Fa} (x0 x2 : V) (h : H) : Ji Tryz.prog tb 279 math_bits_Len64.an 0 [x0, x2] h = math_bits_Len64.p0 (Ei Tryz.prog tb) (Ji Tryz.prog tb 279 math_bits_Len64.an) x0 x2 h := (Ji_eq _ _ h).trans (math_bits_Len64.p0_eq _ _ x0 x2 h)
noncomputable def math_bits_Len64.sf : Sf := ⟨fun env J vs h => match vs with | [x0] => math_bits_Len64.fs env J x0 h | _ => none, fun env J id vs h => bif Nat.beq id 2 then (match vs with | [x0, x2] => math_bits_Len64.p2 env J x0 x2 h | _ => none) else (bif Nat.beq id 1 then (match vs with | [x0, x2] => math_bits_Len64.p1 env J x0 x2 h | _ => none) else (bif Nat.beq id 0 then (match vs with | [x0, x2] => math_bits_Len64.p0 env J x0 x2 h | _ => none) else (none)))⟩
theorem math_bits_Len64.sfok {tb : Nat → Option Fa} (ht : tb 279 = some (.plain math_bits_Len64.an)) : SfOk Tryz.prog tb 279 math_bits_Len64.sf := SfOk.plain (an := math_bits_Len64.an) ht (fun env J vs h r he => by
  simp only [math_bits_Len64.sf] at he; split at he
  · rw [math_bits_Len64.fe_eq]; exact he
  · cases he) (fun env J id vs h r he => by
  simp only [math_bits_Len64.sf] at he
  cases hb : Nat.beq id 2
  case true =>
    rw [hb] at he; rw [Nat.eq_of_beq_eq_true hb]; simp only [cond_true] at he; split at he
    · rw [math_bits_Len64.p2_eq]; exact he
    · cases he
  rw [hb] at he; simp only [cond_false] at he; clear hb
  cases hb : Nat.beq id 1
  case true =>
    rw [hb] at he; rw [Nat.eq_of_beq_eq_true hb]; simp only [cond_true] at he; split at he
    · rw [math_bits_Len64.p1_eq]; exact he
    · cases he
  rw [hb] at he; simp only [cond_false] at he; clear hb
  cases hb : Nat.beq id 0
  case true =>
    rw [hb] at he; rw [Nat.eq_of_beq_eq_true hb]; simp only [cond_true] at he; split at he
    · rw [math_bits_Len64.p0_eq]; exact he
    · cases he
  rw [hb] at he; simp only [cond_false] at he; clear hb
  cases he)
end Go.Proofs.YtbgdidfegkmafaaGreat
