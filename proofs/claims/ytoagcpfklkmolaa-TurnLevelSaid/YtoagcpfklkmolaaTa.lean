/- A quarter of a turn, bit by bit: what each move comes to, part 0. -/
import Derived.Test.YtoagcpfklkmolaaGk
namespace Go.Proofs.Ytoagcpfklkmolaa
open Go Go.Sx
theorem mv0 : f31 (4294967296) (0) (0) (0) 0 0 0 false 0 0 4294967296 67108864 = (4294836231, 0, 0, 33553408, 0, 0, 0, false) := by kernel_rfl
theorem mv1 : f31 (4294836231) (0) (0) (33553408) 0 0 0 false 0 0 4294967296 67108864 = (4294443041, 0, 0, 67104768, 0, 0, 0, false) := by kernel_rfl
theorem mv2 : f31 (4294443041) (0) (0) (67104768) 0 0 0 false 0 0 4294967296 67108864 = (4293787750, 0, 0, 100652033, 0, 0, 0, false) := by kernel_rfl
theorem mv3 : f31 (4293787750) (0) (0) (100652033) 0 0 0 false 0 0 4294967296 67108864 = (4292870400, 0, 0, 134193155, 0, 0, 0, false) := by kernel_rfl
theorem mv4 : f31 (4292870400) (0) (0) (134193155) 0 0 0 false 0 0 4294967296 67108864 = (4291691046, 0, 0, 167726086, 0, 0, 0, false) := by kernel_rfl
theorem mv5 : f31 (4291691046) (0) (0) (167726086) 0 0 0 false 0 0 4294967296 67108864 = (4290249760, 0, 0, 201248781, 0, 0, 0, false) := by kernel_rfl
theorem mv6 : f31 (4290249760) (0) (0) (201248781) 0 0 0 false 0 0 4294967296 67108864 = (4288546630, 0, 0, 234759193, 0, 0, 0, false) := by kernel_rfl
theorem mv7 : f31 (4288546630) (0) (0) (234759193) 0 0 0 false 0 0 4294967296 67108864 = (4286581760, 0, 0, 268255277, 0, 0, 0, false) := by kernel_rfl
theorem mv8 : f31 (4286581760) (0) (0) (268255277) 0 0 0 false 0 0 4294967296 67108864 = (4284355269, 0, 0, 301734989, 0, 0, 0, false) := by kernel_rfl
theorem mv9 : f31 (4284355269) (0) (0) (301734989) 0 0 0 false 0 0 4294967296 67108864 = (4281867295, 0, 0, 335196285, 0, 0, 0, false) := by kernel_rfl
theorem mv10 : f31 (4281867295) (0) (0) (335196285) 0 0 0 false 0 0 4294967296 67108864 = (4279117987, 0, 0, 368637123, 0, 0, 0, false) := by kernel_rfl
theorem mv11 : f31 (4279117987) (0) (0) (368637123) 0 0 0 false 0 0 4294967296 67108864 = (4276107515, 0, 0, 402055463, 0, 0, 0, false) := by kernel_rfl
theorem mv12 : f31 (4276107515) (0) (0) (402055463) 0 0 0 false 0 0 4294967296 67108864 = (4272836062, 0, 0, 435449264, 0, 0, 0, false) := by kernel_rfl
theorem mv13 : f31 (4272836062) (0) (0) (435449264) 0 0 0 false 0 0 4294967296 67108864 = (4269303828, 0, 0, 468816489, 0, 0, 0, false) := by kernel_rfl
theorem mv14 : f31 (4269303828) (0) (0) (468816489) 0 0 0 false 0 0 4294967296 67108864 = (4265511028, 0, 0, 502155101, 0, 0, 0, false) := by kernel_rfl
theorem mv15 : f31 (4265511028) (0) (0) (502155101) 0 0 0 false 0 0 4294967296 67108864 = (4261457894, 0, 0, 535463065, 0, 0, 0, false) := by kernel_rfl
end Go.Proofs.Ytoagcpfklkmolaa
