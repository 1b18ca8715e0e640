/- The document's example: a quarter of a turn, bit by bit: what each move comes to, and the whole. -/
import Derived.Test.YtmnglkcodbecbaaGreatGk
namespace Go.Proofs.YtmnglkcodbecbaaGreat
open Go Go.Sx
theorem mv0 : f19 (4294967296) (0) (0) (0) 0 0 0 false 0 0 4294967296 67108864 = (4294836231, 0, 0, 33553408, 0, 0, 0, false) := by kernel_rfl
theorem mv1 : f19 (4294836231) (0) (0) (33553408) 0 0 0 false 0 0 4294967296 67108864 = (4294443041, 0, 0, 67104768, 0, 0, 0, false) := by kernel_rfl
theorem mv2 : f19 (4294443041) (0) (0) (67104768) 0 0 0 false 0 0 4294967296 67108864 = (4293787750, 0, 0, 100652033, 0, 0, 0, false) := by kernel_rfl
theorem mv3 : f19 (4293787750) (0) (0) (100652033) 0 0 0 false 0 0 4294967296 67108864 = (4292870400, 0, 0, 134193155, 0, 0, 0, false) := by kernel_rfl
theorem mv4 : f19 (4292870400) (0) (0) (134193155) 0 0 0 false 0 0 4294967296 67108864 = (4291691046, 0, 0, 167726086, 0, 0, 0, false) := by kernel_rfl
theorem mv5 : f19 (4291691046) (0) (0) (167726086) 0 0 0 false 0 0 4294967296 67108864 = (4290249760, 0, 0, 201248781, 0, 0, 0, false) := by kernel_rfl
theorem mv6 : f19 (4290249760) (0) (0) (201248781) 0 0 0 false 0 0 4294967296 67108864 = (4288546630, 0, 0, 234759193, 0, 0, 0, false) := by kernel_rfl
theorem mv7 : f19 (4288546630) (0) (0) (234759193) 0 0 0 false 0 0 4294967296 67108864 = (4286581760, 0, 0, 268255277, 0, 0, 0, false) := by kernel_rfl
theorem mv8 : f19 (4286581760) (0) (0) (268255277) 0 0 0 false 0 0 4294967296 67108864 = (4284355269, 0, 0, 301734989, 0, 0, 0, false) := by kernel_rfl
theorem mv9 : f19 (4284355269) (0) (0) (301734989) 0 0 0 false 0 0 4294967296 67108864 = (4281867295, 0, 0, 335196285, 0, 0, 0, false) := by kernel_rfl
theorem mv10 : f19 (4281867295) (0) (0) (335196285) 0 0 0 false 0 0 4294967296 67108864 = (4279117987, 0, 0, 368637123, 0, 0, 0, false) := by kernel_rfl
theorem mv11 : f19 (4279117987) (0) (0) (368637123) 0 0 0 false 0 0 4294967296 67108864 = (4276107515, 0, 0, 402055463, 0, 0, 0, false) := by kernel_rfl
theorem mv12 : f19 (4276107515) (0) (0) (402055463) 0 0 0 false 0 0 4294967296 67108864 = (4272836062, 0, 0, 435449264, 0, 0, 0, false) := by kernel_rfl
theorem mv13 : f19 (4272836062) (0) (0) (435449264) 0 0 0 false 0 0 4294967296 67108864 = (4269303828, 0, 0, 468816489, 0, 0, 0, false) := by kernel_rfl
theorem mv14 : f19 (4269303828) (0) (0) (468816489) 0 0 0 false 0 0 4294967296 67108864 = (4265511028, 0, 0, 502155101, 0, 0, 0, false) := by kernel_rfl
theorem mv15 : f19 (4265511028) (0) (0) (502155101) 0 0 0 false 0 0 4294967296 67108864 = (4261457894, 0, 0, 535463065, 0, 0, 0, false) := by kernel_rfl
end Go.Proofs.YtmnglkcodbecbaaGreat
namespace Go.Proofs.YtmnglkcodbecbaaGreat
open Go Go.Sx
theorem mv16 : f19 (4261457894) (0) (0) (535463065) 0 0 0 false 0 0 4294967296 67108864 = (4257144673, 0, 0, 568738348, 0, 0, 0, false) := by kernel_rfl
theorem mv17 : f19 (4257144673) (0) (0) (568738348) 0 0 0 false 0 0 4294967296 67108864 = (4252571629, 0, 0, 601978920, 0, 0, 0, false) := by kernel_rfl
theorem mv18 : f19 (4252571629) (0) (0) (601978920) 0 0 0 false 0 0 4294967296 67108864 = (4247739040, 0, 0, 635182752, 0, 0, 0, false) := by kernel_rfl
theorem mv19 : f19 (4247739040) (0) (0) (635182752) 0 0 0 false 0 0 4294967296 67108864 = (4242647201, 0, 0, 668347817, 0, 0, 0, false) := by kernel_rfl
theorem mv20 : f19 (4242647201) (0) (0) (668347817) 0 0 0 false 0 0 4294967296 67108864 = (4237296424, 0, 0, 701472091, 0, 0, 0, false) := by kernel_rfl
theorem mv21 : f19 (4237296424) (0) (0) (701472091) 0 0 0 false 0 0 4294967296 67108864 = (4231687034, 0, 0, 734553553, 0, 0, 0, false) := by kernel_rfl
theorem mv22 : f19 (4231687034) (0) (0) (734553553) 0 0 0 false 0 0 4294967296 67108864 = (4225819375, 0, 0, 767590183, 0, 0, 0, false) := by kernel_rfl
theorem mv23 : f19 (4225819375) (0) (0) (767590183) 0 0 0 false 0 0 4294967296 67108864 = (4219693804, 0, 0, 800579965, 0, 0, 0, false) := by kernel_rfl
theorem mv24 : f19 (4219693804) (0) (0) (800579965) 0 0 0 false 0 0 4294967296 67108864 = (4213310695, 0, 0, 833520886, 0, 0, 0, false) := by kernel_rfl
theorem mv25 : f19 (4213310695) (0) (0) (833520886) 0 0 0 false 0 0 4294967296 67108864 = (4206670438, 0, 0, 866410935, 0, 0, 0, false) := by kernel_rfl
theorem mv26 : f19 (4206670438) (0) (0) (866410935) 0 0 0 false 0 0 4294967296 67108864 = (4199773437, 0, 0, 899248105, 0, 0, 0, false) := by kernel_rfl
theorem mv27 : f19 (4199773437) (0) (0) (899248105) 0 0 0 false 0 0 4294967296 67108864 = (4192620115, 0, 0, 932030392, 0, 0, 0, false) := by kernel_rfl
theorem mv28 : f19 (4192620115) (0) (0) (932030392) 0 0 0 false 0 0 4294967296 67108864 = (4185210907, 0, 0, 964755795, 0, 0, 0, false) := by kernel_rfl
theorem mv29 : f19 (4185210907) (0) (0) (964755795) 0 0 0 false 0 0 4294967296 67108864 = (4177546265, 0, 0, 997422317, 0, 0, 0, false) := by kernel_rfl
theorem mv30 : f19 (4177546265) (0) (0) (997422317) 0 0 0 false 0 0 4294967296 67108864 = (4169626658, 0, 0, 1030027964, 0, 0, 0, false) := by kernel_rfl
theorem mv31 : f19 (4169626658) (0) (0) (1030027964) 0 0 0 false 0 0 4294967296 67108864 = (4161452569, 0, 0, 1062570746, 0, 0, 0, false) := by kernel_rfl
end Go.Proofs.YtmnglkcodbecbaaGreat
namespace Go.Proofs.YtmnglkcodbecbaaGreat
open Go Go.Sx
theorem mv32 : f19 (4161452569) (0) (0) (1062570746) 0 0 0 false 0 0 4294967296 67108864 = (4153024497, 0, 0, 1095048676, 0, 0, 0, false) := by kernel_rfl
theorem mv33 : f19 (4153024497) (0) (0) (1095048676) 0 0 0 false 0 0 4294967296 67108864 = (4144342956, 0, 0, 1127459773, 0, 0, 0, false) := by kernel_rfl
theorem mv34 : f19 (4144342956) (0) (0) (1127459773) 0 0 0 false 0 0 4294967296 67108864 = (4135408476, 0, 0, 1159802058, 0, 0, 0, false) := by kernel_rfl
theorem mv35 : f19 (4135408476) (0) (0) (1159802058) 0 0 0 false 0 0 4294967296 67108864 = (4126221602, 0, 0, 1192073558, 0, 0, 0, false) := by kernel_rfl
theorem mv36 : f19 (4126221602) (0) (0) (1192073558) 0 0 0 false 0 0 4294967296 67108864 = (4116782895, 0, 0, 1224272303, 0, 0, 0, false) := by kernel_rfl
theorem mv37 : f19 (4116782895) (0) (0) (1224272303) 0 0 0 false 0 0 4294967296 67108864 = (4107092931, 0, 0, 1256396328, 0, 0, 0, false) := by kernel_rfl
theorem mv38 : f19 (4107092931) (0) (0) (1256396328) 0 0 0 false 0 0 4294967296 67108864 = (4097152302, 0, 0, 1288443672, 0, 0, 0, false) := by kernel_rfl
theorem mv39 : f19 (4097152302) (0) (0) (1288443672) 0 0 0 false 0 0 4294967296 67108864 = (4086961613, 0, 0, 1320412379, 0, 0, 0, false) := by kernel_rfl
theorem mv40 : f19 (4086961613) (0) (0) (1320412379) 0 0 0 false 0 0 4294967296 67108864 = (4076521488, 0, 0, 1352300498, 0, 0, 0, false) := by kernel_rfl
theorem mv41 : f19 (4076521488) (0) (0) (1352300498) 0 0 0 false 0 0 4294967296 67108864 = (4065832563, 0, 0, 1384106083, 0, 0, 0, false) := by kernel_rfl
theorem mv42 : f19 (4065832563) (0) (0) (1384106083) 0 0 0 false 0 0 4294967296 67108864 = (4054895490, 0, 0, 1415827193, 0, 0, 0, false) := by kernel_rfl
theorem mv43 : f19 (4054895490) (0) (0) (1415827193) 0 0 0 false 0 0 4294967296 67108864 = (4043710938, 0, 0, 1447461892, 0, 0, 0, false) := by kernel_rfl
theorem mv44 : f19 (4043710938) (0) (0) (1447461892) 0 0 0 false 0 0 4294967296 67108864 = (4032279588, 0, 0, 1479008249, 0, 0, 0, false) := by kernel_rfl
theorem mv45 : f19 (4032279588) (0) (0) (1479008249) 0 0 0 false 0 0 4294967296 67108864 = (4020602139, 0, 0, 1510464338, 0, 0, 0, false) := by kernel_rfl
theorem mv46 : f19 (4020602139) (0) (0) (1510464338) 0 0 0 false 0 0 4294967296 67108864 = (4008679303, 0, 0, 1541828240, 0, 0, 0, false) := by kernel_rfl
theorem mv47 : f19 (4008679303) (0) (0) (1541828240) 0 0 0 false 0 0 4294967296 67108864 = (3996511808, 0, 0, 1573098041, 0, 0, 0, false) := by kernel_rfl
end Go.Proofs.YtmnglkcodbecbaaGreat
namespace Go.Proofs.YtmnglkcodbecbaaGreat
open Go Go.Sx
theorem mv48 : f19 (3996511808) (0) (0) (1573098041) 0 0 0 false 0 0 4294967296 67108864 = (3984100396, 0, 0, 1604271832, 0, 0, 0, false) := by kernel_rfl
theorem mv49 : f19 (3984100396) (0) (0) (1604271832) 0 0 0 false 0 0 4294967296 67108864 = (3971445826, 0, 0, 1635347710, 0, 0, 0, false) := by kernel_rfl
theorem mv50 : f19 (3971445826) (0) (0) (1635347710) 0 0 0 false 0 0 4294967296 67108864 = (3958548868, 0, 0, 1666323779, 0, 0, 0, false) := by kernel_rfl
theorem mv51 : f19 (3958548868) (0) (0) (1666323779) 0 0 0 false 0 0 4294967296 67108864 = (3945410311, 0, 0, 1697198148, 0, 0, 0, false) := by kernel_rfl
theorem mv52 : f19 (3945410311) (0) (0) (1697198148) 0 0 0 false 0 0 4294967296 67108864 = (3932030957, 0, 0, 1727968933, 0, 0, 0, false) := by kernel_rfl
theorem mv53 : f19 (3932030957) (0) (0) (1727968933) 0 0 0 false 0 0 4294967296 67108864 = (3918411621, 0, 0, 1758634256, 0, 0, 0, false) := by kernel_rfl
theorem mv54 : f19 (3918411621) (0) (0) (1758634256) 0 0 0 false 0 0 4294967296 67108864 = (3904553135, 0, 0, 1789192246, 0, 0, 0, false) := by kernel_rfl
theorem mv55 : f19 (3904553135) (0) (0) (1789192246) 0 0 0 false 0 0 4294967296 67108864 = (3890456345, 0, 0, 1819641037, 0, 0, 0, false) := by kernel_rfl
theorem mv56 : f19 (3890456345) (0) (0) (1819641037) 0 0 0 false 0 0 4294967296 67108864 = (3876122112, 0, 0, 1849978771, 0, 0, 0, false) := by kernel_rfl
theorem mv57 : f19 (3876122112) (0) (0) (1849978771) 0 0 0 false 0 0 4294967296 67108864 = (3861551309, 0, 0, 1880203597, 0, 0, 0, false) := by kernel_rfl
theorem mv58 : f19 (3861551309) (0) (0) (1880203597) 0 0 0 false 0 0 4294967296 67108864 = (3846744827, 0, 0, 1910313669, 0, 0, 0, false) := by kernel_rfl
theorem mv59 : f19 (3846744827) (0) (0) (1910313669) 0 0 0 false 0 0 4294967296 67108864 = (3831703569, 0, 0, 1940307150, 0, 0, 0, false) := by kernel_rfl
theorem mv60 : f19 (3831703569) (0) (0) (1940307150) 0 0 0 false 0 0 4294967296 67108864 = (3816428453, 0, 0, 1970182210, 0, 0, 0, false) := by kernel_rfl
theorem mv61 : f19 (3816428453) (0) (0) (1970182210) 0 0 0 false 0 0 4294967296 67108864 = (3800920411, 0, 0, 1999937025, 0, 0, 0, false) := by kernel_rfl
theorem mv62 : f19 (3800920411) (0) (0) (1999937025) 0 0 0 false 0 0 4294967296 67108864 = (3785180391, 0, 0, 2029569779, 0, 0, 0, false) := by kernel_rfl
theorem mv63 : f19 (3785180391) (0) (0) (2029569779) 0 0 0 false 0 0 4294967296 67108864 = (3769209351, 0, 0, 2059078664, 0, 0, 0, false) := by kernel_rfl
end Go.Proofs.YtmnglkcodbecbaaGreat
namespace Go.Proofs.YtmnglkcodbecbaaGreat
open Go Go.Sx Go.RowKit Go.Proofs
set_option maxRecDepth 1000000
abbrev Q4 := Int × Int × Int × Int
def stepQ (a b : Q4) : Prop := f19 a.1 a.2.1 a.2.2.1 a.2.2.2 0 0 0 false 0 0 4294967296 67108864 = (b.1, b.2.1, b.2.2.1, b.2.2.2, 0, 0, 0, false)
def stepsQ : List Q4 → Prop
  | a :: b :: l => stepQ a b ∧ stepsQ (b :: l)
  | _ => True
def lookQ (q0 q1 q2 q3 : Int) : List Q4 → Option Q4
  | a :: b :: l => if a.1 == q0 && (a.2.1 == q1 && (a.2.2.1 == q2 && a.2.2.2 == q3)) then some b else lookQ q0 q1 q2 q3 (b :: l)
  | _ => none
theorem lookQ_ok {q0 q1 q2 q3 : Int} : ∀ {l : List Q4} {b : Q4}, stepsQ l → lookQ q0 q1 q2 q3 l = some b → stepQ (q0, q1, q2, q3) b
  | [], _, _, h => by simp [lookQ] at h
  | [_], _, _, h => by simp [lookQ] at h
  | a :: c :: l, b, hs, h => by
    simp only [lookQ] at h
    split at h
    · rename_i e
      simp only [Bool.and_eq_true, beq_iff_eq] at e
      simp only [Option.some.injEq] at h; subst h
      have : a = (q0, q1, q2, q3) := by rw [← e.1, ← e.2.1, ← e.2.2.1, ← e.2.2.2]
      rw [← this]; exact hs.1
    · exact lookQ_ok hs.2 h
def tabQ : List Q4 := [(4294967296, 0, 0, 0), (4294836231, 0, 0, 33553408), (4294443041, 0, 0, 67104768), (4293787750, 0, 0, 100652033), (4292870400, 0, 0, 134193155), (4291691046, 0, 0, 167726086), (4290249760, 0, 0, 201248781), (4288546630, 0, 0, 234759193), (4286581760, 0, 0, 268255277), (4284355269, 0, 0, 301734989), (4281867295, 0, 0, 335196285), (4279117987, 0, 0, 368637123), (4276107515, 0, 0, 402055463), (4272836062, 0, 0, 435449264), (4269303828, 0, 0, 468816489), (4265511028, 0, 0, 502155101), (4261457894, 0, 0, 535463065), (4257144673, 0, 0, 568738348), (4252571629, 0, 0, 601978920), (4247739040, 0, 0, 635182752), (4242647201, 0, 0, 668347817), (4237296424, 0, 0, 701472091), (4231687034, 0, 0, 734553553), (4225819375, 0, 0, 767590183), (4219693804, 0, 0, 800579965), (4213310695, 0, 0, 833520886), (4206670438, 0, 0, 866410935), (4199773437, 0, 0, 899248105), (4192620115, 0, 0, 932030392), (4185210907, 0, 0, 964755795), (4177546265, 0, 0, 997422317), (4169626658, 0, 0, 1030027964), (4161452569, 0, 0, 1062570746), (4153024497, 0, 0, 1095048676), (4144342956, 0, 0, 1127459773), (4135408476, 0, 0, 1159802058), (4126221602, 0, 0, 1192073558), (4116782895, 0, 0, 1224272303), (4107092931, 0, 0, 1256396328), (4097152302, 0, 0, 1288443672), (4086961613, 0, 0, 1320412379), (4076521488, 0, 0, 1352300498), (4065832563, 0, 0, 1384106083), (4054895490, 0, 0, 1415827193), (4043710938, 0, 0, 1447461892), (4032279588, 0, 0, 1479008249), (4020602139, 0, 0, 1510464338), (4008679303, 0, 0, 1541828240), (3996511808, 0, 0, 1573098041), (3984100396, 0, 0, 1604271832), (3971445826, 0, 0, 1635347710), (3958548868, 0, 0, 1666323779), (3945410311, 0, 0, 1697198148), (3932030957, 0, 0, 1727968933), (3918411621, 0, 0, 1758634256), (3904553135, 0, 0, 1789192246), (3890456345, 0, 0, 1819641037), (3876122112, 0, 0, 1849978771), (3861551309, 0, 0, 1880203597), (3846744827, 0, 0, 1910313669), (3831703569, 0, 0, 1940307150), (3816428453, 0, 0, 1970182210), (3800920411, 0, 0, 1999937025), (3785180391, 0, 0, 2029569779), (3769209351, 0, 0, 2059078664)]
theorem tabQ_ok : stepsQ tabQ := ⟨mv0, mv1, mv2, mv3, mv4, mv5, mv6, mv7, mv8, mv9, mv10, mv11, mv12, mv13, mv14, mv15, mv16, mv17, mv18, mv19, mv20, mv21, mv22, mv23, mv24, mv25, mv26, mv27, mv28, mv29, mv30, mv31, mv32, mv33, mv34, mv35, mv36, mv37, mv38, mv39, mv40, mv41, mv42, mv43, mv44, mv45, mv46, mv47, mv48, mv49, mv50, mv51, mv52, mv53, mv54, mv55, mv56, mv57, mv58, mv59, mv60, mv61, mv62, mv63, trivial⟩
/-- turn.Move where it is told by the table -/
noncomputable def S31T : Summ
  | [.v (.agg [.int .i64 (.lit q0), .int .i64 (.lit q1), .int .i64 (.lit q2), .int .i64 (.lit q3), .int .i64 (.lit w0), .int .i64 (.lit w1), .int .i64 (.lit w2), .bool (.lit b)]), .v (.agg [.int .i64 (.lit v0), .int .i64 (.lit v1), .int .i64 (.lit v2)]), .v (.int .i64 (.lit d))] =>
    if (w0 == 0 && (w1 == 0 && (w2 == 0 && !b))) && (v0 == 0 && (v1 == 0 && (v2 == 4294967296 && d == 67108864))) then
      match lookQ q0 q1 q2 q3 tabQ with
      | some r => some (.agg [.int .i64 (.lit r.1), .int .i64 (.lit r.2.1), .int .i64 (.lit r.2.2.1), .int .i64 (.lit r.2.2.2), .int .i64 (.lit 0), .int .i64 (.lit 0), .int .i64 (.lit 0), .bool (.lit false)])
      | none => none
    else none
  | _ => none
theorem S31T_ok : SummFn Go.Proofs.Tryz.prog 19 S31T := by
  intro fs r h w vs hv
  unfold S31T at h
  split at h
  · rename_i q0 q1 q2 q3 w0 w1 w2 b v0 v1 v2 d
    split at h
    · rename_i hc
      simp only [Bool.and_eq_true, beq_iff_eq, Bool.not_eq_true'] at hc
      obtain ⟨⟨rfl, rfl, rfl, rfl⟩, rfl, rfl, rfl, rfl⟩ := hc
      split at h
      · rename_i q hq
        simp only [Option.some.injEq] at h; subst h
        have hs := lookQ_ok tabQ_ok hq
        have h0 := S19_ok _ _ rfl w vs hv
        unfold stepQ at hs
        simp only [SI.val_lit, SB.val] at h0 hs
        rw [hs] at h0
        refine h0.mono ?_
        rintro e w' ⟨⟨v, rfl, hv⟩, hb⟩
        refine ⟨⟨v, rfl, ?_⟩, hb⟩
        simpa only [g19, SV.rel, relL_cons, relL_nil, SI.val, SB.val] using hv
      · cases h
    · cases h
  · cases h
noncomputable def f12 : Bool := true
def g12 (p : Bool) : SV := .bool (.sym p)
noncomputable def S12 : Summ
  | [] => some (g12 (f12))
  | _ => none
theorem S12_ok : SummFn Go.Proofs.Tryz.prog 12 S12 := by
  have ev : (symCall ⟨Go.Proofs.Tryz.prog, [(19, S31T), (21, S21), (13, S13), (17, S17)], 3, 215, true, [], [], []⟩ 30 12 [] []).out = ((g12 (f12)).toV) := by
    kernel_rfl
  intro fs r h w vs hv
  unfold S12 at h
  split at h
  · cases h
    exact sx_calls (envOkU' (S := [(19, S31T), (21, S21), (13, S13), (17, S17)]) (HS := []) (US := []) (NS := []) (j := true) ⟨S31T_ok, S21_ok, S13_ok, S17_ok, trivial⟩ trivial trivial trivial) 30 12 [] vs (symifyL_rel _ _ (SArels_v (xs := []) hv)) (by kernel_rfl) rfl ev w
  · cases h
end Go.Proofs.YtmnglkcodbecbaaGreat
