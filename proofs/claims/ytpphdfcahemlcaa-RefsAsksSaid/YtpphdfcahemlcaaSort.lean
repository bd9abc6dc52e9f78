/- The library's own sort of whole numbers is laid at this program. -/
import Derived.Shelf.SortG.Plain
import Derived.Shelf.SortG.SortNone
import Derived.Test.YtpphdfcahemlcaaProg
set_option linter.unusedSimpArgs false
set_option linter.unusedVariables false
set_option linter.unusedSectionVars false
set_option linter.unnecessarySimpa false
/- The library's own sort of whole numbers, at this program. -/
namespace Go.Proofs
open Go.Shelf
def Try.sortI_ren : Go.Shelf.Ren := ⟨fun | 53 => 76 | 64 => 95 | 63 => 98 | 78 => 117 | 79 => 118 | 70 => 119 | 71 => 120 | 72 => 121 | 73 => 122 | 74 => 123 | 75 => 124 | 59 => 125 | 76 => 126 | 77 => 127 | 88 => 143 | 89 => 139 | 90 => 140 | 91 => 144 | 92 => 145 | 68 => 96 | 96 => 152 | n => n, fun | 22 => 29 | 23 => 3 | 3 => 3 | 51 => 146 | 0 => 0 | 67 => 168 | 69 => 170 | 4 => 4 | 61 => 162 | 60 => 161 | 44 => 133 | 5 => 5 | 9 => 9 | 75 => 184 | 79 => 188 | 83 => 201 | 84 => 202 | n => n, fun n => n⟩
theorem Try.sortI : SlLaysN.n53 Try.prog Try.sortI_ren := {
  mixed := by kernel_rfl
  f53 := ⟨Try.f76.name, by decide, Try.func76.trans (congrArg some (by kernel_rfl))⟩
  f59 := ⟨Try.f125.name, by decide, Try.func125.trans (congrArg some (by kernel_rfl))⟩
  f63 := ⟨Try.f98.name, by decide, Try.func98.trans (congrArg some (by kernel_rfl))⟩
  f64 := Try.func95.trans (congrArg some (by kernel_rfl))
  f68 := ⟨Try.f96.name, by decide, Try.func96.trans (congrArg some (by kernel_rfl))⟩
  f70 := ⟨Try.f119.name, by decide, Try.func119.trans (congrArg some (by kernel_rfl))⟩
  f71 := ⟨Try.f120.name, by decide, Try.func120.trans (congrArg some (by kernel_rfl))⟩
  f72 := ⟨Try.f121.name, by decide, Try.func121.trans (congrArg some (by kernel_rfl))⟩
  f73 := ⟨Try.f122.name, by decide, Try.func122.trans (congrArg some (by kernel_rfl))⟩
  f74 := ⟨Try.f123.name, by decide, Try.func123.trans (congrArg some (by kernel_rfl))⟩
  f75 := ⟨Try.f124.name, by decide, Try.func124.trans (congrArg some (by kernel_rfl))⟩
  f76 := ⟨Try.f126.name, by decide, Try.func126.trans (congrArg some (by kernel_rfl))⟩
  f77 := ⟨Try.f127.name, by decide, Try.func127.trans (congrArg some (by kernel_rfl))⟩
  f78 := Try.func117.trans (congrArg some (by kernel_rfl))
  f79 := Try.func118.trans (congrArg some (by kernel_rfl))
  f88 := ⟨Try.f143.name, by decide, Try.func143.trans (congrArg some (by kernel_rfl))⟩
  f89 := Try.func139.trans (congrArg some (by kernel_rfl))
  f90 := Try.func140.trans (congrArg some (by kernel_rfl))
  f91 := ⟨Try.f144.name, by decide, Try.func144.trans (congrArg some (by kernel_rfl))⟩
  f92 := ⟨Try.f145.name, by decide, Try.func145.trans (congrArg some (by kernel_rfl))⟩
  f96 := ⟨Try.f152.name, by decide, Try.func152.trans (congrArg some (by kernel_rfl))⟩
  t0 := Try.underlying0
  a0 := Try.isAgg0
  z0 := Try.sizeOf0
  v0 := Try.zeroValue0
  t3 := Try.underlying3
  a3 := Try.isAgg3
  z3 := Try.sizeOf3
  v3 := Try.zeroValue3
  t4 := Try.underlying4
  a4 := Try.isAgg4
  z4 := Try.sizeOf4
  v4 := Try.zeroValue4
  t5 := Try.underlying5
  a5 := Try.isAgg5
  z5 := Try.sizeOf5
  v5 := Try.zeroValue5
  t9 := Try.underlying9
  a9 := Try.isAgg9
  z9 := Try.sizeOf9
  v9 := Try.zeroValue9
  t22 := Try.underlying29
  a22 := Try.isAgg29
  z22 := Try.sizeOf29
  v22 := Try.zeroValue29
  t23 := Try.underlying3
  a23 := Try.isAgg3
  z23 := Try.sizeOf3
  v23 := Try.zeroValue3
  t44 := Try.underlying133
  a44 := Try.isAgg133
  z44 := Try.sizeOf133
  v44 := Try.zeroValue133
  t51 := Try.underlying146
  a51 := Try.isAgg146
  z51 := Try.sizeOf146
  v51 := Try.zeroValue146
  t60 := Try.underlying161
  a60 := Try.isAgg161
  z60 := Try.sizeOf161
  v60 := Try.zeroValue161
  t61 := Try.underlying162
  a61 := Try.isAgg162
  z61 := Try.sizeOf162
  v61 := Try.zeroValue162
  t67 := Try.underlying168
  a67 := Try.isAgg168
  z67 := Try.sizeOf168
  v67 := Try.zeroValue168
  t69 := Try.underlying170
  a69 := Try.isAgg170
  z69 := Try.sizeOf170
  v69 := Try.zeroValue170
  t75 := Try.underlying184
  a75 := Try.isAgg184
  z75 := Try.sizeOf184
  v75 := Try.zeroValue184
  t79 := Try.underlying188
  a79 := Try.isAgg188
  z79 := Try.sizeOf188
  v79 := Try.zeroValue188
  t83 := Try.underlying201
  a83 := Try.isAgg201
  z83 := Try.sizeOf201
  v83 := Try.zeroValue201
  t84 := Try.underlying202
  a84 := Try.isAgg202
  z84 := Try.sizeOf202
  v84 := Try.zeroValue202 }
end Go.Proofs
