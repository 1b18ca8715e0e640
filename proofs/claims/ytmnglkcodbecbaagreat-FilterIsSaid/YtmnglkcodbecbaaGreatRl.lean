/- The reference's Feed as a summary. -/
import Derived.Test.YtmnglkcodbecbaaGreatRk
namespace Go.Proofs.YtmnglkcodbecbaaGreat
open Go Go.RowKit Go.Proofs Go.Sx
set_option linter.unusedVariables false
set_option linter.unusedSimpArgs false
set_option linter.constructorNameAsVariable false
set_option maxRecDepth 1000000
set_option maxHeartbeats 100000000
noncomputable def S25v (G : C20 → T29 → S5 → T30) : Summ := fun args => match args with
  | [.v (.agg [.int .i64 a0_0, .int .i64 a0_1, .int .i64 a0_2, .int .i64 a0_3, .int .i64 a0_4, .int .i64 a0_5, .int .i64 a0_6, .int .i64 a0_7, .int .i64 a0_8, .int .i64 a0_9, .bool a0_10, .int .i64 a0_11, .int .i64 a0_12, .int .i64 a0_13, .int .i64 a0_14, .int .i64 a0_15, .bool a0_16, .int .i64 a0_17, .int .i64 a0_18, .int .i64 a0_19, .int .i64 a0_20, .int .i64 a0_21, .bool a0_22, .int .i64 a0_23, .int .i64 a0_24, .int .i64 a0_25, .int .i64 a0_26, .int .i64 a0_27, .bool a0_28]), .v (.agg [.int .i64 a1_0, .int .i64 a1_1, .int .i64 a1_2, .int .i64 a1_3, .int .i64 a1_4, .int .i64 a1_5, .int .i64 a1_6, .int .i64 a1_7, .int .i64 a1_8, .int .i64 a1_9, .int .i64 a1_10, .int .i64 a1_11, .int .i64 a1_12, .int .i64 a1_13, .int .i64 a1_14, .int .i64 a1_15, .int .i64 a1_16, .int .i64 a1_17, .int .i64 a1_18, .int .i64 a1_19]), .v (.agg [.int .i64 a2_0, .int .i64 a2_1, .int .i64 a2_2, .int .i64 a2_3, .int .i64 a2_4])] => some (g24 (G (a1_0.val, a1_1.val, a1_2.val, a1_3.val, a1_4.val, a1_5.val, a1_6.val, a1_7.val, a1_8.val, a1_9.val, a1_10.val, a1_11.val, a1_12.val, a1_13.val, a1_14.val, a1_15.val, a1_16.val, a1_17.val, a1_18.val, a1_19.val) (a0_0.val, a0_1.val, a0_2.val, a0_3.val, a0_4.val, a0_5.val, a0_6.val, a0_7.val, a0_8.val, a0_9.val, a0_10.val, a0_11.val, a0_12.val, a0_13.val, a0_14.val, a0_15.val, a0_16.val, a0_17.val, a0_18.val, a0_19.val, a0_20.val, a0_21.val, a0_22.val, a0_23.val, a0_24.val, a0_25.val, a0_26.val, a0_27.val, a0_28.val) (a2_0.val, a2_1.val, a2_2.val, a2_3.val, a2_4.val)))
  | _ => none
theorem S25_ok : SummFn Go.Proofs.Tryz.prog 25 (S25v feed) := by
  intro fs r h w vs hv
  unfold S25v at h
  split at h
  · rename_i a0_0 a0_1 a0_2 a0_3 a0_4 a0_5 a0_6 a0_7 a0_8 a0_9 a0_10 a0_11 a0_12 a0_13 a0_14 a0_15 a0_16 a0_17 a0_18 a0_19 a0_20 a0_21 a0_22 a0_23 a0_24 a0_25 a0_26 a0_27 a0_28 a1_0 a1_1 a1_2 a1_3 a1_4 a1_5 a1_6 a1_7 a1_8 a1_9 a1_10 a1_11 a1_12 a1_13 a1_14 a1_15 a1_16 a1_17 a1_18 a1_19 a2_0 a2_1 a2_2 a2_3 a2_4
    cases h
    have hr : relL noLab [g60 (a0_0.val, a0_1.val, a0_2.val, a0_3.val, a0_4.val, a0_5.val, a0_6.val, a0_7.val, a0_8.val, a0_9.val, a0_10.val, a0_11.val, a0_12.val, a0_13.val, a0_14.val, a0_15.val, a0_16.val, a0_17.val, a0_18.val, a0_19.val, a0_20.val, a0_21.val, a0_22.val, a0_23.val, a0_24.val, a0_25.val, a0_26.val, a0_27.val, a0_28.val), svC (a1_0.val, a1_1.val, a1_2.val, a1_3.val, a1_4.val, a1_5.val, a1_6.val, a1_7.val, a1_8.val, a1_9.val, a1_10.val, a1_11.val, a1_12.val, a1_13.val, a1_14.val, a1_15.val, a1_16.val, a1_17.val, a1_18.val, a1_19.val), .agg [.int .i64 (.sym a2_0.val), .int .i64 (.sym a2_1.val), .int .i64 (.sym a2_2.val), .int .i64 (.sym a2_3.val), .int .i64 (.sym a2_4.val)]] vs := symifyL_rel _ _ (SArels_v (xs := [.agg [.int .i64 a0_0, .int .i64 a0_1, .int .i64 a0_2, .int .i64 a0_3, .int .i64 a0_4, .int .i64 a0_5, .int .i64 a0_6, .int .i64 a0_7, .int .i64 a0_8, .int .i64 a0_9, .bool a0_10, .int .i64 a0_11, .int .i64 a0_12, .int .i64 a0_13, .int .i64 a0_14, .int .i64 a0_15, .bool a0_16, .int .i64 a0_17, .int .i64 a0_18, .int .i64 a0_19, .int .i64 a0_20, .int .i64 a0_21, .bool a0_22, .int .i64 a0_23, .int .i64 a0_24, .int .i64 a0_25, .int .i64 a0_26, .int .i64 a0_27, .bool a0_28], .agg [.int .i64 a1_0, .int .i64 a1_1, .int .i64 a1_2, .int .i64 a1_3, .int .i64 a1_4, .int .i64 a1_5, .int .i64 a1_6, .int .i64 a1_7, .int .i64 a1_8, .int .i64 a1_9, .int .i64 a1_10, .int .i64 a1_11, .int .i64 a1_12, .int .i64 a1_13, .int .i64 a1_14, .int .i64 a1_15, .int .i64 a1_16, .int .i64 a1_17, .int .i64 a1_18, .int .i64 a1_19], .agg [.int .i64 a2_0, .int .i64 a2_1, .int .i64 a2_2, .int .i64 a2_3, .int .i64 a2_4]]) hv)
    exact call25 (a0_0.val, a0_1.val, a0_2.val, a0_3.val, a0_4.val, a0_5.val, a0_6.val, a0_7.val, a0_8.val, a0_9.val, a0_10.val, a0_11.val, a0_12.val, a0_13.val, a0_14.val, a0_15.val, a0_16.val, a0_17.val, a0_18.val, a0_19.val, a0_20.val, a0_21.val, a0_22.val, a0_23.val, a0_24.val, a0_25.val, a0_26.val, a0_27.val, a0_28.val) (a1_0.val, a1_1.val, a1_2.val, a1_3.val, a1_4.val, a1_5.val, a1_6.val, a1_7.val, a1_8.val, a1_9.val, a1_10.val, a1_11.val, a1_12.val, a1_13.val, a1_14.val, a1_15.val, a1_16.val, a1_17.val, a1_18.val, a1_19.val) a2_0.val a2_1.val a2_2.val a2_3.val a2_4.val w vs hr
  · cases h
theorem S24f_ok : SummFn Go.Proofs.Tryz.prog 24 (S25v feed) := by
  intro fs r h
  unfold S25v at h
  split at h
  · cases h; exact S24_ok _ _ rfl
  · cases h
end Go.Proofs.YtmnglkcodbecbaaGreat
