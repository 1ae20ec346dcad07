/-
  Contracts of Go's library at this program, laid by the kit's tool in plain words.
-/
import Derived.Shelf.Strings.Builder1
import Derived.Shelf.Strings.Builder2
import Derived.Shelf.Strings.OnBuilder
import Derived.Shelf.Small.Bits
import Derived.Shelf.Small.Strs
import Derived.Shelf.Strconv.Itoa0
import Derived.Shelf.Sort.Plain
import Derived.Ground.Names2Prog
import Derived.Shelf.Slices.Clone
import Derived.Shelf.Slices.In.SortNone
import Derived.Ground.SlsfProg
import Derived.Shelf.SlSortCmp.Insertion
import Derived.Shelf.SlSortCmp.SiftDown1
import Derived.Shelf.SlSortCmp.HeapSort1
import Derived.Shelf.SlSortCmp.Insertion1
import Derived.Shelf.SlSortCmp.Median1
import Derived.Shelf.SlSortCmp.Pivot1
import Derived.Shelf.SlSortCmp.ReverseRange1
import Derived.Shelf.SlSortCmp.PartialInsertion1
import Derived.Shelf.SlSortCmp.PartitionEqual1
import Derived.Shelf.SlSortCmp.Partition1
import Derived.Shelf.SlSortCmp.Pdq1
import Derived.Shelf.SlSortCmp.Whole1
import Derived.Shelf.SlSortCmp.NoneTotal
import Derived.Shelf.SlLaysF0
import Derived.Test.YtmkojdfiadbeeaaGreatProg
namespace Go.Proofs
open Go.Shelf Tryz
theorem kF {α : Type} {x : Option α} {a b : α} (h : x = some a) (e : a = b:=by kernel_rfl) : x = some b:=e ▸ h
def Tryz.lays156_ren : Go.Shelf.Ren:=⟨fun|156=>67|165=>112|166=>113|169=>114|240=>168|241=>169|276=>218|277=>219 | n=>n, fun|31=>26|9=>9|3=>3|4=>4|0=>0|20=>20|72=>152|76=>156|70=>149|37=>150|75=>155|127=>211|164=>248|5=>5|80=>158 | n=>n, fun | n=>n⟩
theorem Tryz.lays156 : Go.Proofs.Lays.n156 Tryz.prog Tryz.lays156_ren:={
 mixed:=by kernel_rfl
 f156:=kF func67
 f165:=kF func112
 f166:=kF func113
 f169:=kF func114
 f240:=kF func168
 f241:=kF func169
 f276:=kF func218
 f277:=kF func219
 t0:=underlying0
 a0:=isAgg0
 z0:=sizeOf0
 v0:=zeroValue0
 t3:=underlying3
 a3:=isAgg3
 z3:=sizeOf3
 v3:=zeroValue3
 t4:=underlying4
 a4:=isAgg4
 z4:=sizeOf4
 v4:=zeroValue4
 t9:=underlying9
 a9:=isAgg9
 z9:=sizeOf9
 v9:=zeroValue9
 t20:=underlying20
 a20:=isAgg20
 z20:=sizeOf20
 v20:=zeroValue20
 t31:=underlying26
 a31:=isAgg26
 z31:=sizeOf26
 v31:=zeroValue26
 t37:=underlying150
 a37:=isAgg150
 z37:=sizeOf150
 v37:=zeroValue150
 t70:=underlying149
 a70:=isAgg149
 z70:=sizeOf149
 v70:=zeroValue149
 t72:=underlying152
 a72:=isAgg152
 z72:=sizeOf152
 v72:=zeroValue152
 t75:=underlying155
 a75:=isAgg155
 z75:=sizeOf155
 v75:=zeroValue155
 t76:=underlying156
 a76:=isAgg156
 z76:=sizeOf156
 v76:=zeroValue156
 t127:=underlying211
 a127:=isAgg211
 z127:=sizeOf211
 v127:=zeroValue211
 t164:=underlying248
 a164:=isAgg248
 z164:=sizeOf248
 v164:=zeroValue248 }
theorem Tryz.Builder_Extra_156 : Builder.Extra Tryz.prog Tryz.lays156_ren:={
 sizeBuilder:=by kernel_rfl
 liesBuilder:=by kernel_rfl
 t5:=underlying5
 a5:=isAgg5
 z5:=sizeOf5
 v5:=zeroValue5
 infoByte:=by kernel_rfl
 cellsByte:=by kernel_rfl
 sizeByte:=by kernel_rfl
 neB5:=by decide }
open Go.RowKit in
theorem Tryz.strings_Join_none (a : Option Addr) (c : Nat) (sep : ByteArray) (w : World) :
   Calls Tryz.prog 67 #[.slice a 0 c, .string sep] w fun e w'=>e = .returned (.string ⟨#[]⟩) ∧ w' = w:=Any.strings_Join_none Tryz.lays156 Tryz.Builder_Extra_156 a c sep w
open Go.RowKit in
theorem Tryz.strings_Join (bk o c : Nat) (xs : List ByteArray) (sep : ByteArray) (w : World) (hcells : ∀ (j : Nat) x, xs[j]? = some x → w.cell? ⟨bk, o + j, none⟩ = some (.string x)) (hbk : bk < w.heap.size) (hN : xs.length ≤ 140737488355328) (hcap : xs.length ≤ c) (hlen : (Lib.join (xs.map (·.data.toList)) sep.data.toList).length ≤ 140737488355328) :
   Calls Tryz.prog 67 #[.slice (some ⟨bk, o, none⟩) xs.length c, .string sep] w fun e w'=>e = .returned (.string ⟨(Lib.join (xs.map (·.data.toList)) sep.data.toList).toArray⟩) ∧ Below w.heap.size w w':=Any.strings_Join Tryz.lays156 Tryz.Builder_Extra_156 bk o c xs sep w hcells hbk hN hcap hlen
def Tryz.laysNm216_ren : Go.Shelf.Ren:=⟨fun|16=>68 | n=>n, fun|24=>26|9=>9|4=>4 | n=>n, fun | n=>n⟩
theorem Tryz.laysNm216 : Go.Proofs.Lays2.n16 Tryz.prog Tryz.laysNm216_ren:={
 mixed:=by kernel_rfl
 f16:=kF func68
 t4:=underlying4
 a4:=isAgg4
 z4:=sizeOf4
 v4:=zeroValue4
 t9:=underlying9
 a9:=isAgg9
 z9:=sizeOf9
 v9:=zeroValue9
 t24:=underlying26
 a24:=isAgg26
 z24:=sizeOf26
 v24:=zeroValue26
 i9:=by kernel_rfl }
open Go.RowKit Go.Lib in
theorem Tryz.slices_Clone_string (b off n c : Nat) (zs : List ByteArray) (w : World) (hz : n ≤ zs.length) (hbig : n * 16 ≤ 140737488355328) (hc : ∀ j, j < zs.length → w.cell? ⟨b, off + j, none⟩ = some (.string (zs.getD j ByteArray.empty))) :
   Calls Tryz.prog 68 #[.slice (some ⟨b, off, none⟩) n c] w fun e w'=>∃ v', e = .returned v' ∧ w'.ownsRow w.heap.size 9 1 v' n ((zs.take n).map (Value.string)) ∧ v' ≠ .slice none 0 0 ∧ Below w.heap.size w w':=Any.slices_Clone_string Tryz.laysNm216 b off n c zs w hz hbig hc
open Go.RowKit Go.Lib in
theorem Tryz.slices_Clone_string_nil (n c : Nat) (w : World) :
   Calls Tryz.prog 68 #[.slice none n c] w fun e w'=>e = .returned (.slice none 0 0) ∧ w' = w:=Any.slices_Clone_string_nil Tryz.laysNm216 n c w
open Go.RowKit Go.Lib in
theorem Tryz.slices_Clone_string_zero (a : Addr) (c : Nat) (w : World) :
   Calls Tryz.prog 68 #[.slice (some a) 0 c] w fun e w'=>∃ v', e = .returned v' ∧ w'.ownsRow w.heap.size 9 1 v' 0 [] ∧ v' ≠ .slice none 0 0 ∧ Below w.heap.size w w':=Any.slices_Clone_string_zero Tryz.laysNm216 a c w
def Tryz.sortVarL_ren : Go.Shelf.Ren:=⟨fun|6=>70|15=>107|14=>115|28=>156|29=>157|20=>170|21=>171|22=>172|23=>173|24=>174|25=>175|26=>176|27=>177|46=>220|47=>210|48=>211|49=>221|50=>222|57=>255 | n=>n, fun|22=>22|24=>28|25=>118|3=>3|39=>145|0=>0|53=>202|55=>204|4=>4|46=>196|45=>195|50=>107|5=>5|9=>9|66=>240|70=>244|76=>277|77=>278 | n=>n, fun | n=>n⟩
theorem Tryz.sortVarL : Go.Proofs.SlLaysF0.n6 Tryz.prog Tryz.sortVarL_ren:={
 mixed:=by kernel_rfl
 f6:=⟨Tryz.f70.name, by decide, kF func70⟩
 f14:=⟨Tryz.f115.name, by decide, kF func115⟩
 f15:=kF func107
 f20:=⟨Tryz.f170.name, by decide, kF func170⟩
 f21:=⟨Tryz.f171.name, by decide, kF func171⟩
 f22:=⟨Tryz.f172.name, by decide, kF func172⟩
 f23:=⟨Tryz.f173.name, by decide, kF func173⟩
 f24:=⟨Tryz.f174.name, by decide, kF func174⟩
 f25:=⟨Tryz.f175.name, by decide, kF func175⟩
 f26:=⟨Tryz.f176.name, by decide, kF func176⟩
 f27:=⟨Tryz.f177.name, by decide, kF func177⟩
 f28:=kF func156
 f29:=kF func157
 f46:=⟨Tryz.f220.name, by decide, kF func220⟩
 f47:=kF func210
 f48:=kF func211
 f49:=⟨Tryz.f221.name, by decide, kF func221⟩
 f50:=⟨Tryz.f222.name, by decide, kF func222⟩
 f57:=⟨Tryz.f255.name, by decide, kF func255⟩
 t0:=underlying0
 a0:=isAgg0
 z0:=sizeOf0
 v0:=zeroValue0
 t3:=underlying3
 a3:=isAgg3
 z3:=sizeOf3
 v3:=zeroValue3
 t4:=underlying4
 a4:=isAgg4
 z4:=sizeOf4
 v4:=zeroValue4
 t5:=underlying5
 a5:=isAgg5
 z5:=sizeOf5
 v5:=zeroValue5
 t9:=underlying9
 a9:=isAgg9
 z9:=sizeOf9
 v9:=zeroValue9
 t22:=underlying22
 a22:=isAgg22
 z22:=sizeOf22
 v22:=zeroValue22
 t25:=underlying118
 a25:=isAgg118
 z25:=sizeOf118
 v25:=zeroValue118
 t39:=underlying145
 a39:=isAgg145
 z39:=sizeOf145
 v39:=zeroValue145
 t45:=underlying195
 a45:=isAgg195
 z45:=sizeOf195
 v45:=zeroValue195
 t46:=underlying196
 a46:=isAgg196
 z46:=sizeOf196
 v46:=zeroValue196
 t50:=underlying107
 a50:=isAgg107
 z50:=sizeOf107
 v50:=zeroValue107
 t53:=underlying202
 a53:=isAgg202
 z53:=sizeOf202
 v53:=zeroValue202
 t55:=underlying204
 a55:=isAgg204
 z55:=sizeOf204
 v55:=zeroValue204
 t66:=underlying240
 a66:=isAgg240
 z66:=sizeOf240
 v66:=zeroValue240
 t70:=underlying244
 a70:=isAgg244
 z70:=sizeOf244
 v70:=zeroValue244
 t76:=underlying277
 a76:=isAgg277
 z76:=sizeOf277
 v76:=zeroValue277
 t77:=underlying278
 a77:=isAgg278
 z77:=sizeOf278
 v77:=zeroValue278 }
end Go.Proofs
