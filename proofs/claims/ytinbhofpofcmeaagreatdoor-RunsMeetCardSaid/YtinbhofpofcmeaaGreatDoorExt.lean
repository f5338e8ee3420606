/- The contracts of the three functions of the library that are taken from the kit. -/
import Derived.Test.YtinbhofpofcmeaaGreatDoorTab
import Derived.Test.YtinbhofpofcmeaaGreatDoorAbStd
import Derived.Test.YtinbhofpofcmeaaGreatDoorLays
namespace Go.Proofs.YtinbhofpofcmeaaGreatDoor
open Go.Ab
set_option maxRecDepth 100000
theorem ext_130 : SoundF S.P S.glob 130 index1_M := index1_ok Tryz.lays219 ⟨Tryz.f130, _, Tryz.func130, rfl, by kernel_rfl⟩
theorem ext_43 : SoundF S.P S.glob 43 itoa_M := itoa_ok (g := 3) Tryz.laysM171 ⟨Tryz.f43, _, Tryz.func43, rfl, by kernel_rfl⟩ (by kernel_rfl) rfl
theorem ext_50 : SoundF S.P S.glob 50 atoi_M := atoi_ok (g1 := 1) (g2 := 2) rfl Tryz.laysC172 ⟨Tryz.f50, _, Tryz.func50, rfl, by kernel_rfl⟩ rfl rfl rfl rfl
end Go.Proofs.YtinbhofpofcmeaaGreatDoor
