/- The reference's Feed as a summary. -/
import Derived.Test.YtdchdajjhofmnaaGreatRk
namespace Go.Proofs.YtdchdajjhofmnaaGreat
open Go Go.RowKit Go.Proofs Go.Sx
set_option linter.unusedVariables false
set_option linter.unusedSimpArgs false
set_option linter.constructorNameAsVariable false
set_option maxRecDepth 1000000
set_option maxHeartbeats 100000000
noncomputable def S25v (G : C20 → T29 → S5 → T30) : Summ := fun args => match args with
 | [.v (.agg [.int .i64 I0, .int .i64 I1, .int .i64 I2, .int .i64 I3, .int .i64 I4, .int .i64 I5, .int .i64 I6, .int .i64 I7, .int .i64 I8, .int .i64 I9, .bool I10, .int .i64 I11, .int .i64 I12, .int .i64 I13, .int .i64 I14, .int .i64 I15, .bool I16, .int .i64 I17, .int .i64 I18, .int .i64 I19, .int .i64 I20, .int .i64 I21, .bool I22, .int .i64 I23, .int .i64 I24, .int .i64 I25, .int .i64 I26, .int .i64 I27, .bool I28]), .v (.agg [.int .i64 Z0, .int .i64 Z1, .int .i64 Z2, .int .i64 Z3, .int .i64 Z4, .int .i64 Z5, .int .i64 Z6, .int .i64 Z7, .int .i64 Z8, .int .i64 Z9, .int .i64 Z10, .int .i64 Z11, .int .i64 Z12, .int .i64 Z13, .int .i64 Z14, .int .i64 Z15, .int .i64 Z16, .int .i64 Z17, .int .i64 Z18, .int .i64 Z19]), .v (.agg [.int .i64 J0, .int .i64 J1, .int .i64 J2, .int .i64 J3, .int .i64 J4])] => some (g59 (G (Z0.val, Z1.val, Z2.val, Z3.val, Z4.val, Z5.val, Z6.val, Z7.val, Z8.val, Z9.val, Z10.val, Z11.val, Z12.val, Z13.val, Z14.val, Z15.val, Z16.val, Z17.val, Z18.val, Z19.val) (I0.val, I1.val, I2.val, I3.val, I4.val, I5.val, I6.val, I7.val, I8.val, I9.val, I10.val, I11.val, I12.val, I13.val, I14.val, I15.val, I16.val, I17.val, I18.val, I19.val, I20.val, I21.val, I22.val, I23.val, I24.val, I25.val, I26.val, I27.val, I28.val) (J0.val, J1.val, J2.val, J3.val, J4.val)))
 | _ => none
theorem S61_ok : SummFn Go.Proofs.Tryz.prog 61 (S25v feed) := by
 intro fs r h w vs hv
 unfold S25v at h
 split at h
 ·rename_i I0 I1 I2 I3 I4 I5 I6 I7 I8 I9 I10 I11 I12 I13 I14 I15 I16 I17 I18 I19 I20 I21 I22 I23 I24 I25 I26 I27 I28 Z0 Z1 Z2 Z3 Z4 Z5 Z6 Z7 Z8 Z9 Z10 Z11 Z12 Z13 Z14 Z15 Z16 Z17 Z18 Z19 J0 J1 J2 J3 J4
  cases h
  have hr : relL noLab [g54 (I0.val, I1.val, I2.val, I3.val, I4.val, I5.val, I6.val, I7.val, I8.val, I9.val, I10.val, I11.val, I12.val, I13.val, I14.val, I15.val, I16.val, I17.val, I18.val, I19.val, I20.val, I21.val, I22.val, I23.val, I24.val, I25.val, I26.val, I27.val, I28.val), svC (Z0.val, Z1.val, Z2.val, Z3.val, Z4.val, Z5.val, Z6.val, Z7.val, Z8.val, Z9.val, Z10.val, Z11.val, Z12.val, Z13.val, Z14.val, Z15.val, Z16.val, Z17.val, Z18.val, Z19.val), .agg [iv J0.val, iv J1.val, iv J2.val, iv J3.val, iv J4.val]] vs := symifyL_rel _ _ (SArels_v (xs := [.agg [.int .i64 I0, .int .i64 I1, .int .i64 I2, .int .i64 I3, .int .i64 I4, .int .i64 I5, .int .i64 I6, .int .i64 I7, .int .i64 I8, .int .i64 I9, .bool I10, .int .i64 I11, .int .i64 I12, .int .i64 I13, .int .i64 I14, .int .i64 I15, .bool I16, .int .i64 I17, .int .i64 I18, .int .i64 I19, .int .i64 I20, .int .i64 I21, .bool I22, .int .i64 I23, .int .i64 I24, .int .i64 I25, .int .i64 I26, .int .i64 I27, .bool I28], .agg [.int .i64 Z0, .int .i64 Z1, .int .i64 Z2, .int .i64 Z3, .int .i64 Z4, .int .i64 Z5, .int .i64 Z6, .int .i64 Z7, .int .i64 Z8, .int .i64 Z9, .int .i64 Z10, .int .i64 Z11, .int .i64 Z12, .int .i64 Z13, .int .i64 Z14, .int .i64 Z15, .int .i64 Z16, .int .i64 Z17, .int .i64 Z18, .int .i64 Z19], .agg [.int .i64 J0, .int .i64 J1, .int .i64 J2, .int .i64 J3, .int .i64 J4]]) hv)
  exact call25 (I0.val, I1.val, I2.val, I3.val, I4.val, I5.val, I6.val, I7.val, I8.val, I9.val, I10.val, I11.val, I12.val, I13.val, I14.val, I15.val, I16.val, I17.val, I18.val, I19.val, I20.val, I21.val, I22.val, I23.val, I24.val, I25.val, I26.val, I27.val, I28.val) (Z0.val, Z1.val, Z2.val, Z3.val, Z4.val, Z5.val, Z6.val, Z7.val, Z8.val, Z9.val, Z10.val, Z11.val, Z12.val, Z13.val, Z14.val, Z15.val, Z16.val, Z17.val, Z18.val, Z19.val) J0.val J1.val J2.val J3.val J4.val w vs hr
 ·cases h
theorem S24f_ok : SummFn Go.Proofs.Tryz.prog 59 (S25v feed) := by
 intro fs r h
 unfold S25v at h
 split at h
 ·cases h; exact S59_ok _ _ rfl
 ·cases h
end Go.Proofs.YtdchdajjhofmnaaGreat
