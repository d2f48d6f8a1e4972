/- strings.Join, out of the kit's shelf, at this program. No condition. -/
import Derived.Test.YtamgknnmocnamaaDoorProg
import Derived.Shelf.Strings.OnBuilder
import Derived.KernelRfl
namespace Go.Cg.Law
open Go.Proofs
def ren : Shelf.Ren where
  f := fun x => match x with
    | 156 => 104
    | 165 => 106
    | 166 => 107
    | 169 => 108
    | 240 => 109
    | 241 => 110
    | 276 => 111
    | 277 => 112
    | n => n
  t := fun x => match x with
    | 31 => 26
    | 9 => 9
    | 3 => 3
    | 4 => 4
    | 0 => 0
    | 20 => 20
    | 72 => 181
    | 76 => 183
    | 70 => 179
    | 37 => 59
    | 75 => 30
    | 127 => 156
    | 164 => 185
    | 5 => 5
    | 80 => 40
    | n => n
  g := fun n => n
theorem lf156 : Tryd.f104 = Body.n156 ren := by kernel_rfl
theorem lf165 : Tryd.f106 = Body.n165 ren := by kernel_rfl
theorem lf166 : Tryd.f107 = Body.n166 ren := by kernel_rfl
theorem lf169 : Tryd.f108 = Body.n169 ren := by kernel_rfl
theorem lf240 : Tryd.f109 = Body.n240 ren := by kernel_rfl
theorem lf241 : Tryd.f110 = Body.n241 ren := by kernel_rfl
theorem lf276 : Tryd.f111 = Body.n276 ren := by kernel_rfl
theorem lf277 : Tryd.f112 = Body.n277 ren := by kernel_rfl
theorem lays : Lays.n156 Tryd.prog ren where
  mixed := by kernel_rfl
  f156 := Tryd.func104.trans (congrArg some lf156)
  f165 := Tryd.func106.trans (congrArg some lf165)
  f166 := Tryd.func107.trans (congrArg some lf166)
  f169 := Tryd.func108.trans (congrArg some lf169)
  f240 := Tryd.func109.trans (congrArg some lf240)
  f241 := Tryd.func110.trans (congrArg some lf241)
  f276 := Tryd.func111.trans (congrArg some lf276)
  f277 := Tryd.func112.trans (congrArg some lf277)
  t0 := Tryd.underlying0
  a0 := Tryd.isAgg0
  z0 := Tryd.sizeOf0
  v0 := Tryd.zeroValue0
  t3 := Tryd.underlying3
  a3 := Tryd.isAgg3
  z3 := Tryd.sizeOf3
  v3 := Tryd.zeroValue3
  t4 := Tryd.underlying4
  a4 := Tryd.isAgg4
  z4 := Tryd.sizeOf4
  v4 := Tryd.zeroValue4
  t9 := Tryd.underlying9
  a9 := Tryd.isAgg9
  z9 := Tryd.sizeOf9
  v9 := Tryd.zeroValue9
  t20 := Tryd.underlying20
  a20 := Tryd.isAgg20
  z20 := Tryd.sizeOf20
  v20 := Tryd.zeroValue20
  t31 := Tryd.underlying26
  a31 := Tryd.isAgg26
  z31 := Tryd.sizeOf26
  v31 := Tryd.zeroValue26
  t37 := Tryd.underlying59
  a37 := Tryd.isAgg59
  z37 := Tryd.sizeOf59
  v37 := Tryd.zeroValue59
  t70 := Tryd.underlying179
  a70 := Tryd.isAgg179
  z70 := Tryd.sizeOf179
  v70 := Tryd.zeroValue179
  t72 := Tryd.underlying181
  a72 := Tryd.isAgg181
  z72 := Tryd.sizeOf181
  v72 := Tryd.zeroValue181
  t75 := Tryd.underlying30
  a75 := Tryd.isAgg30
  z75 := Tryd.sizeOf30
  v75 := Tryd.zeroValue30
  t76 := Tryd.underlying183
  a76 := Tryd.isAgg183
  z76 := Tryd.sizeOf183
  v76 := Tryd.zeroValue183
  t127 := Tryd.underlying156
  a127 := Tryd.isAgg156
  z127 := Tryd.sizeOf156
  v127 := Tryd.zeroValue156
  t164 := Tryd.underlying185
  a164 := Tryd.isAgg185
  z164 := Tryd.sizeOf185
  v164 := Tryd.zeroValue185
theorem extra : Builder.Extra Tryd.prog ren where
  sizeBuilder := by kernel_rfl
  liesBuilder := by kernel_rfl
  t5 := Tryd.underlying5
  a5 := Tryd.isAgg5
  z5 := Tryd.sizeOf5
  v5 := Tryd.zeroValue5
  infoByte := by kernel_rfl
  cellsByte := by kernel_rfl
  sizeByte := by kernel_rfl
  neB5 := by decide
end Go.Cg.Law
