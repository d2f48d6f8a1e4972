/- strings.Join, out of the kit's shelf, at this program. No condition. -/
import Derived.Test.YtkbpbhflndliaaaGreatDoorProg
import Derived.Shelf.Strings.OnBuilder
import Derived.KernelRfl
namespace Go.Cg.Law
open Go.Proofs
def ren : Shelf.Ren where
  f := fun x => match x with
    | 156 => 391
    | 165 => 213
    | 166 => 214
    | 169 => 216
    | 240 => 258
    | 241 => 259
    | 276 => 310
    | 277 => 311
    | n => n
  t := fun x => match x with
    | 31 => 28
    | 9 => 9
    | 3 => 3
    | 4 => 4
    | 0 => 0
    | 20 => 20
    | 72 => 378
    | 76 => 355
    | 70 => 376
    | 37 => 45
    | 75 => 88
    | 127 => 418
    | 164 => 463
    | 5 => 5
    | 80 => 271
    | n => n
  g := fun n => n
theorem lf156 : Tryz.f391 = Body.n156 ren := by kernel_rfl
theorem lf165 : Tryz.f213 = Body.n165 ren := by kernel_rfl
theorem lf166 : Tryz.f214 = Body.n166 ren := by kernel_rfl
theorem lf169 : Tryz.f216 = Body.n169 ren := by kernel_rfl
theorem lf240 : Tryz.f258 = Body.n240 ren := by kernel_rfl
theorem lf241 : Tryz.f259 = Body.n241 ren := by kernel_rfl
theorem lf276 : Tryz.f310 = Body.n276 ren := by kernel_rfl
theorem lf277 : Tryz.f311 = Body.n277 ren := by kernel_rfl
theorem lays : Lays.n156 Tryz.prog ren where
  mixed := by kernel_rfl
  f156 := Tryz.func391.trans (congrArg some lf156)
  f165 := Tryz.func213.trans (congrArg some lf165)
  f166 := Tryz.func214.trans (congrArg some lf166)
  f169 := Tryz.func216.trans (congrArg some lf169)
  f240 := Tryz.func258.trans (congrArg some lf240)
  f241 := Tryz.func259.trans (congrArg some lf241)
  f276 := Tryz.func310.trans (congrArg some lf276)
  f277 := Tryz.func311.trans (congrArg some lf277)
  t0 := Tryz.underlying0
  a0 := Tryz.isAgg0
  z0 := Tryz.sizeOf0
  v0 := Tryz.zeroValue0
  t3 := Tryz.underlying3
  a3 := Tryz.isAgg3
  z3 := Tryz.sizeOf3
  v3 := Tryz.zeroValue3
  t4 := Tryz.underlying4
  a4 := Tryz.isAgg4
  z4 := Tryz.sizeOf4
  v4 := Tryz.zeroValue4
  t9 := Tryz.underlying9
  a9 := Tryz.isAgg9
  z9 := Tryz.sizeOf9
  v9 := Tryz.zeroValue9
  t20 := Tryz.underlying20
  a20 := Tryz.isAgg20
  z20 := Tryz.sizeOf20
  v20 := Tryz.zeroValue20
  t31 := Tryz.underlying28
  a31 := Tryz.isAgg28
  z31 := Tryz.sizeOf28
  v31 := Tryz.zeroValue28
  t37 := Tryz.underlying45
  a37 := Tryz.isAgg45
  z37 := Tryz.sizeOf45
  v37 := Tryz.zeroValue45
  t70 := Tryz.underlying376
  a70 := Tryz.isAgg376
  z70 := Tryz.sizeOf376
  v70 := Tryz.zeroValue376
  t72 := Tryz.underlying378
  a72 := Tryz.isAgg378
  z72 := Tryz.sizeOf378
  v72 := Tryz.zeroValue378
  t75 := Tryz.underlying88
  a75 := Tryz.isAgg88
  z75 := Tryz.sizeOf88
  v75 := Tryz.zeroValue88
  t76 := Tryz.underlying355
  a76 := Tryz.isAgg355
  z76 := Tryz.sizeOf355
  v76 := Tryz.zeroValue355
  t127 := Tryz.underlying418
  a127 := Tryz.isAgg418
  z127 := Tryz.sizeOf418
  v127 := Tryz.zeroValue418
  t164 := Tryz.underlying463
  a164 := Tryz.isAgg463
  z164 := Tryz.sizeOf463
  v164 := Tryz.zeroValue463
theorem extra : Builder.Extra Tryz.prog ren where
  sizeBuilder := by kernel_rfl
  liesBuilder := by kernel_rfl
  t5 := Tryz.underlying5
  a5 := Tryz.isAgg5
  z5 := Tryz.sizeOf5
  v5 := Tryz.zeroValue5
  infoByte := by kernel_rfl
  cellsByte := by kernel_rfl
  sizeByte := by kernel_rfl
  neB5 := by decide
end Go.Cg.Law
