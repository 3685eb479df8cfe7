/- strings.Trim at the cutset "01": its answer is the string without the digits 0 and 1 at both ends; for every string. The conditions: none but Go's own greatest length. (Written for this claim: the numbers by the kit's own command in a scratch text, told here as plain terms.) -/
import Derived.Test.YtkmhjgejficclaaDoorProg
import Derived.KernelRfl
import Derived.Shelf.Lay
import Derived.Shelf.Strings.SlTrimAscii
namespace Go.Proofs.YtkmhjgejficclaaDoor
open Go.Shelf Go.RowKit
def Tryd.lays160_ren : Ren where
  f := fun x => match x with
    | 160 => 20
    | 232 => 38
    | 231 => 37
    | 227 => 39
    | 234 => 41
    | 233 => 40
    | 236 => 43
    | 235 => 42
    | 228 => 52
    | 271 => 55
    | 151 => 54
    | 197 => 53
    | 120 => 60
    | 152 => 59
    | 260 => 58
    | 137 => 61
    | 119 => 62
    | 224 => 63
    | 225 => 64
    | 217 => 65
    | 266 => 66
    | n => n
  t := fun x => match x with
    | 9 => 9
    | 4 => 4
    | 3 => 3
    | 5 => 5
    | 117 => 59
    | 116 => 58
    | 0 => 0
    | 124 => 62
    | 21 => 21
    | 105 => 70
    | 46 => 75
    | 119 => 76
    | 139 => 79
    | 138 => 78
    | n => n
  g := fun x => match x with
    | 3 => 0
    | 4 => 1
    | n => n
theorem Tryd.lays160 : Lays.n160 Tryd.prog Tryd.lays160_ren where
  mixed := by kernel_rfl
  f119 := Tryd.func62.trans (by kernel_rfl)
  f120 := Tryd.func60.trans (by kernel_rfl)
  f137 := Tryd.func61.trans (by kernel_rfl)
  f151 := Tryd.func54.trans (by kernel_rfl)
  f152 := Tryd.func59.trans (by kernel_rfl)
  f160 := Tryd.func20.trans (by kernel_rfl)
  f197 := Tryd.func53.trans (by kernel_rfl)
  f217 := Tryd.func65.trans (by kernel_rfl)
  f224 := Tryd.func63.trans (by kernel_rfl)
  f225 := Tryd.func64.trans (by kernel_rfl)
  f227 := Tryd.func39.trans (by kernel_rfl)
  f228 := Tryd.func52.trans (by kernel_rfl)
  f231 := Tryd.func37.trans (by kernel_rfl)
  f232 := Tryd.func38.trans (by kernel_rfl)
  f233 := Tryd.func40.trans (by kernel_rfl)
  f234 := Tryd.func41.trans (by kernel_rfl)
  f235 := Tryd.func42.trans (by kernel_rfl)
  f236 := Tryd.func43.trans (by kernel_rfl)
  f260 := Tryd.func58.trans (by kernel_rfl)
  f266 := Tryd.func66.trans (by kernel_rfl)
  f271 := Tryd.func55.trans (by kernel_rfl)
  t0 := Tryd.underlying0
  a0 := Tryd.isAgg0
  z0 := Tryd.sizeOf0
  v0 := Tryd.zeroValue0
  t3 := Tryd.underlying3
  a3 := Tryd.isAgg3
  z3 := Tryd.sizeOf3
  v3 := Tryd.zeroValue3
  t4 := Tryd.underlying4
  a4 := Tryd.isAgg4
  z4 := Tryd.sizeOf4
  v4 := Tryd.zeroValue4
  t5 := Tryd.underlying5
  a5 := Tryd.isAgg5
  z5 := Tryd.sizeOf5
  v5 := Tryd.zeroValue5
  t9 := Tryd.underlying9
  a9 := Tryd.isAgg9
  z9 := Tryd.sizeOf9
  v9 := Tryd.zeroValue9
  t21 := Tryd.underlying21
  a21 := Tryd.isAgg21
  z21 := Tryd.sizeOf21
  v21 := Tryd.zeroValue21
  t46 := Tryd.underlying75
  a46 := Tryd.isAgg75
  z46 := Tryd.sizeOf75
  v46 := Tryd.zeroValue75
  t105 := Tryd.underlying70
  a105 := Tryd.isAgg70
  z105 := Tryd.sizeOf70
  v105 := Tryd.zeroValue70
  t116 := Tryd.underlying58
  a116 := Tryd.isAgg58
  z116 := Tryd.sizeOf58
  t117 := Tryd.underlying59
  a117 := Tryd.isAgg59
  z117 := Tryd.sizeOf59
  v117 := Tryd.zeroValue59
  t119 := Tryd.underlying76
  a119 := Tryd.isAgg76
  z119 := Tryd.sizeOf76
  t124 := Tryd.underlying62
  a124 := Tryd.isAgg62
  z124 := Tryd.sizeOf62
  v124 := Tryd.zeroValue62
  t138 := Tryd.underlying78
  a138 := Tryd.isAgg78
  z138 := Tryd.sizeOf78
  v138 := Tryd.zeroValue78
  t139 := Tryd.underlying79
  a139 := Tryd.isAgg79
  z139 := Tryd.sizeOf79
  v139 := Tryd.zeroValue79
  g3 := by kernel_rfl
  g4 := by kernel_rfl
theorem Tryd.trim01 (s : ByteArray) (w : World) (hs : s.size ≤ 9223372036854775807) :
    Calls Tryd.prog 20 #[.string s, .string ⟨#[48, 49]⟩] w fun e w' => e = .returned (.string ⟨(Lib.trimS s.data.toList [48, 49]).toArray⟩) ∧ Below w.heap.size w w' :=
  Any.strings_Trim_laid Tryd.lays160 (by kernel_rfl) s ⟨#[48, 49]⟩ w hs (by decide) (ascii_of_all (by decide))
end Go.Proofs.YtkmhjgejficclaaDoor
