import Derived.Shelf.SlLaysF0
import Derived.Test.YtcmhmlnkhmefbaaProg
import Derived.KernelRfl
namespace Go.Proofs.Ytcmhmlnkhmefbaa
open Go.Shelf
set_option maxRecDepth 100000
def Ek:Go.Shelf.Ren:=⟨fun|6=>63|15=>69|14=>68|28=>83|29=>84|20=>75|21=>76|22=>77|23=>78|24=>79|25=>80|26=>81|27=>82|46=>90|47=>91|48=>92|49=>93|50=>94|57=>99|n=>n,fun|22=>26|24=>93|25=>133|3=>3|39=>142|0=>0|53=>157|55=>159|4=>4|46=>151|45=>150|50=>48|5=>5|9=>9|66=>168|70=>172|76=>180|77=>181|n=>n,fun|n=>n⟩
theorem QB:Go.Proofs.SlLaysF0.n6 Try.prog Ek where
 mixed:=by kernel_rfl
 f6:=⟨ "slices.SortFunc[[]transit/api.Footpath,transit/api.Footpath]",by decide,Try.func63.trans (congrArg some (by kernel_rfl))⟩
 f14:=⟨ "slices.pdqsortCmpFunc[transit/api.Footpath]",by decide,Try.func68.trans (congrArg some (by kernel_rfl))⟩
 f15:=Try.func69.trans (congrArg some (by kernel_rfl))
 f20:=⟨ "slices.insertionSortCmpFunc[transit/api.Footpath]",by decide,Try.func75.trans (congrArg some (by kernel_rfl))⟩
 f21:=⟨ "slices.heapSortCmpFunc[transit/api.Footpath]",by decide,Try.func76.trans (congrArg some (by kernel_rfl))⟩
 f22:=⟨ "slices.breakPatternsCmpFunc[transit/api.Footpath]",by decide,Try.func77.trans (congrArg some (by kernel_rfl))⟩
 f23:=⟨ "slices.choosePivotCmpFunc[transit/api.Footpath]",by decide,Try.func78.trans (congrArg some (by kernel_rfl))⟩
 f24:=⟨ "slices.reverseRangeCmpFunc[transit/api.Footpath]",by decide,Try.func79.trans (congrArg some (by kernel_rfl))⟩
 f25:=⟨ "slices.partialInsertionSortCmpFunc[transit/api.Footpath]",by decide,Try.func80.trans (congrArg some (by kernel_rfl))⟩
 f26:=⟨ "slices.partitionEqualCmpFunc[transit/api.Footpath]",by decide,Try.func81.trans (congrArg some (by kernel_rfl))⟩
 f27:=⟨ "slices.partitionCmpFunc[transit/api.Footpath]",by decide,Try.func82.trans (congrArg some (by kernel_rfl))⟩
 f28:=Try.func83.trans (congrArg some (by kernel_rfl))
 f29:=Try.func84.trans (congrArg some (by kernel_rfl))
 f46:=⟨ "slices.siftDownCmpFunc[transit/api.Footpath]",by decide,Try.func90.trans (congrArg some (by kernel_rfl))⟩
 f47:=Try.func91.trans (congrArg some (by kernel_rfl))
 f48:=Try.func92.trans (congrArg some (by kernel_rfl))
 f49:=⟨ "slices.medianAdjacentCmpFunc[transit/api.Footpath]",by decide,Try.func93.trans (congrArg some (by kernel_rfl))⟩
 f50:=⟨ "slices.medianCmpFunc[transit/api.Footpath]",by decide,Try.func94.trans (congrArg some (by kernel_rfl))⟩
 f57:=⟨ "slices.order2CmpFunc[transit/api.Footpath]",by decide,Try.func99.trans (congrArg some (by kernel_rfl))⟩
 t0:=Try.underlying0
 a0:=Try.isAgg0
 z0:=Try.sizeOf0
 v0:=Try.zeroValue0
 t3:=Try.underlying3
 a3:=Try.isAgg3
 z3:=Try.sizeOf3
 v3:=Try.zeroValue3
 t4:=Try.underlying4
 a4:=Try.isAgg4
 z4:=Try.sizeOf4
 v4:=Try.zeroValue4
 t5:=Try.underlying5
 a5:=Try.isAgg5
 z5:=Try.sizeOf5
 v5:=Try.zeroValue5
 t9:=Try.underlying9
 a9:=Try.isAgg9
 z9:=Try.sizeOf9
 v9:=Try.zeroValue9
 t22:=Try.underlying26
 a22:=Try.isAgg26
 z22:=Try.sizeOf26
 v22:=Try.zeroValue26
 t25:=Try.underlying133
 a25:=Try.isAgg133
 z25:=Try.sizeOf133
 v25:=Try.zeroValue133
 t39:=Try.underlying142
 a39:=Try.isAgg142
 z39:=Try.sizeOf142
 v39:=Try.zeroValue142
 t45:=Try.underlying150
 a45:=Try.isAgg150
 z45:=Try.sizeOf150
 v45:=Try.zeroValue150
 t46:=Try.underlying151
 a46:=Try.isAgg151
 z46:=Try.sizeOf151
 v46:=Try.zeroValue151
 t50:=Try.underlying48
 a50:=Try.isAgg48
 z50:=Try.sizeOf48
 v50:=Try.zeroValue48
 t53:=Try.underlying157
 a53:=Try.isAgg157
 z53:=Try.sizeOf157
 v53:=Try.zeroValue157
 t55:=Try.underlying159
 a55:=Try.isAgg159
 z55:=Try.sizeOf159
 v55:=Try.zeroValue159
 t66:=Try.underlying168
 a66:=Try.isAgg168
 z66:=Try.sizeOf168
 v66:=Try.zeroValue168
 t70:=Try.underlying172
 a70:=Try.isAgg172
 z70:=Try.sizeOf172
 v70:=Try.zeroValue172
 t76:=Try.underlying180
 a76:=Try.isAgg180
 z76:=Try.sizeOf180
 v76:=Try.zeroValue180
 t77:=Try.underlying181
 a77:=Try.isAgg181
 z77:=Try.sizeOf181
 v77:=Try.zeroValue181
end Go.Proofs.Ytcmhmlnkhmefbaa
