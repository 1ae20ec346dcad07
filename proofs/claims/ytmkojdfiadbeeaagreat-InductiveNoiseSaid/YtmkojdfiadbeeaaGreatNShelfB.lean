/-
  Contracts of Go's library at this program, laid by the kit's tool in plain words.
-/
import Derived.Shelf.Strings.Builder1
import Derived.Shelf.Strings.Builder2
import Derived.Shelf.Strings.OnBuilder
import Derived.Shelf.Small.Bits
import Derived.Shelf.Small.Strs
import Derived.Shelf.Strconv.Itoa0
import Derived.Shelf.Sort.Plain
import Derived.Ground.Names2Prog
import Derived.Shelf.Slices.Clone
import Derived.Shelf.Slices.In.SortNone
import Derived.Ground.SlsfProg
import Derived.Shelf.SlSortCmp.Insertion
import Derived.Shelf.SlSortCmp.SiftDown1
import Derived.Shelf.SlSortCmp.HeapSort1
import Derived.Shelf.SlSortCmp.Insertion1
import Derived.Shelf.SlSortCmp.Median1
import Derived.Shelf.SlSortCmp.Pivot1
import Derived.Shelf.SlSortCmp.ReverseRange1
import Derived.Shelf.SlSortCmp.PartialInsertion1
import Derived.Shelf.SlSortCmp.PartitionEqual1
import Derived.Shelf.SlSortCmp.Partition1
import Derived.Shelf.SlSortCmp.Pdq1
import Derived.Shelf.SlSortCmp.Whole1
import Derived.Shelf.SlSortCmp.NoneTotal
import Derived.Test.YtmkojdfiadbeeaaGreatProg
namespace Go.Proofs
open Go.Shelf Tryz
theorem kFB {α : Type} {x : Option α} {a b : α} (h : x = some a) (e : a = b:=by kernel_rfl) : x = some b:=e ▸ h
def Tryz.lays189_ren : Go.Shelf.Ren:=⟨fun|189=>60|125=>107|257=>110|128=>156|129=>157|294=>159|295=>160|296=>161|297=>162|298=>163|299=>164|216=>165|300=>166|301=>167|328=>214|329=>210|330=>211|331=>215|332=>216|215=>217|343=>254 | n=>n, fun|28=>90|3=>3|46=>145|0=>0|51=>202|53=>204|4=>4|183=>196|182=>195|131=>107|5=>5|9=>9|218=>240|222=>244|228=>277|229=>278 | n=>n, fun | n=>n⟩
theorem Tryz.lays189 : Go.Proofs.Lays.n189 Tryz.prog Tryz.lays189_ren:={
 mixed:=by kernel_rfl
 f125:=kFB func107
 f128:=kFB func156
 f129:=kFB func157
 f189:=kFB func60
 f215:=kFB func217
 f216:=kFB func165
 f257:=kFB func110
 f294:=kFB func159
 f295:=kFB func160
 f296:=kFB func161
 f297:=kFB func162
 f298:=kFB func163
 f299:=kFB func164
 f300:=kFB func166
 f301:=kFB func167
 f328:=kFB func214
 f329:=kFB func210
 f330:=kFB func211
 f331:=kFB func215
 f332:=kFB func216
 f343:=kFB func254
 t0:=underlying0
 a0:=isAgg0
 z0:=sizeOf0
 v0:=zeroValue0
 t3:=underlying3
 a3:=isAgg3
 z3:=sizeOf3
 v3:=zeroValue3
 t4:=underlying4
 a4:=isAgg4
 z4:=sizeOf4
 v4:=zeroValue4
 t5:=underlying5
 a5:=isAgg5
 z5:=sizeOf5
 v5:=zeroValue5
 t9:=underlying9
 a9:=isAgg9
 z9:=sizeOf9
 v9:=zeroValue9
 t28:=underlying90
 a28:=isAgg90
 z28:=sizeOf90
 v28:=zeroValue90
 t46:=underlying145
 a46:=isAgg145
 z46:=sizeOf145
 v46:=zeroValue145
 t51:=underlying202
 a51:=isAgg202
 z51:=sizeOf202
 v51:=zeroValue202
 t53:=underlying204
 a53:=isAgg204
 z53:=sizeOf204
 v53:=zeroValue204
 t131:=underlying107
 a131:=isAgg107
 z131:=sizeOf107
 v131:=zeroValue107
 t182:=underlying195
 a182:=isAgg195
 z182:=sizeOf195
 v182:=zeroValue195
 t183:=underlying196
 a183:=isAgg196
 z183:=sizeOf196
 v183:=zeroValue196
 t218:=underlying240
 a218:=isAgg240
 z218:=sizeOf240
 v218:=zeroValue240
 t222:=underlying244
 a222:=isAgg244
 z222:=sizeOf244
 v222:=zeroValue244
 t228:=underlying277
 a228:=isAgg277
 z228:=sizeOf277
 v228:=zeroValue277
 t229:=underlying278
 a229:=isAgg278
 z229:=sizeOf278
 v229:=zeroValue278 }
open Go.Sort Go.RowKit in
theorem Tryz.slices_Sort_int (blk off cap : Nat) (zs : List Int) (w : World) (hH : Holds (Value.int .i64) w blk off zs.toArray) (hblk : blk < w.heap.size) (hsz : zs.length < 4611686018427387904) :
   Calls Tryz.prog 60 #[.slice (some ⟨blk, off, none⟩) zs.length cap] w fun e w' =>
     e = .returned (.tuple #[]) ∧ ∃ n os, w' = grow (putRow (Value.int .i64) (Sort.ahead w n) blk off (zs.mergeSort fun x y=>decide (x ≤ y)).toArray) os:=Any.slices_Sort_int Tryz.lays189 blk off cap zs w hH hblk hsz
def Tryz.laysNm215_ren : Go.Shelf.Ren:=⟨fun|15=>59 | n=>n, fun|22=>90|3=>3|4=>4 | n=>n, fun | n=>n⟩
theorem Tryz.laysNm215 : Go.Proofs.Lays2.n15 Tryz.prog Tryz.laysNm215_ren:={
 mixed:=by kernel_rfl
 f15:=kFB func59
 t3:=underlying3
 a3:=isAgg3
 z3:=sizeOf3
 v3:=zeroValue3
 t4:=underlying4
 a4:=isAgg4
 z4:=sizeOf4
 v4:=zeroValue4
 t22:=underlying90
 a22:=isAgg90
 z22:=sizeOf90
 v22:=zeroValue90
 i3:=by kernel_rfl }
open Go.RowKit Go.Lib in
theorem Tryz.slices_Clone_int (b off n c : Nat) (zs : List Int) (w : World) (hz : n ≤ zs.length) (hbig : n * 8 ≤ 140737488355328) (hc : ∀ j, j < zs.length → w.cell? ⟨b, off + j, none⟩ = some (.int .i64 (zs.getD j 0))) :
   Calls Tryz.prog 59 #[.slice (some ⟨b, off, none⟩) n c] w fun e w'=>∃ v', e = .returned v' ∧ w'.ownsRow w.heap.size 3 1 v' n ((zs.take n).map (Value.int .i64)) ∧ v' ≠ .slice none 0 0 ∧ Below w.heap.size w w':=Any.slices_Clone_int Tryz.laysNm215 b off n c zs w hz hbig hc
open Go.RowKit Go.Lib in
theorem Tryz.slices_Clone_int_nil (n c : Nat) (w : World) :
   Calls Tryz.prog 59 #[.slice none n c] w fun e w'=>e = .returned (.slice none 0 0) ∧ w' = w:=Any.slices_Clone_int_nil Tryz.laysNm215 n c w
open Go.RowKit Go.Lib in
theorem Tryz.slices_Clone_int_zero (a : Addr) (c : Nat) (w : World) :
   Calls Tryz.prog 59 #[.slice (some a) 0 c] w fun e w'=>∃ v', e = .returned v' ∧ w'.ownsRow w.heap.size 3 1 v' 0 [] ∧ v' ≠ .slice none 0 0 ∧ Below w.heap.size w w':=Any.slices_Clone_int_zero Tryz.laysNm215 a c w
open Go.RowKit Go.Sort in
theorem Tryz.slices_Sort_int_none (p : Option Addr) (cap : Nat) (w : World) :
   Calls Tryz.prog 60 #[.slice p 0 cap] w fun e w'=>e = .returned (.tuple #[]) ∧ w' = w:=Any.slices_Sort_int_none Tryz.lays189 p cap w
def Tryz.laysSlF6_f53_ren : Go.Shelf.Ren:=⟨fun|6=>53|15=>107|14=>106|28=>156|29=>157|20=>148|21=>149|22=>150|23=>151|24=>152|25=>153|26=>154|27=>155|46=>209|47=>210|48=>211|49=>212|50=>213|57=>253 | n=>n, fun|22=>88|24=>90|25=>99|3=>3|39=>145|0=>0|53=>202|55=>204|4=>4|46=>196|45=>195|50=>107|5=>5|9=>9|66=>240|70=>244|76=>277|77=>278 | n=>n, fun | n=>n⟩
theorem Tryz.laysSlF6_f53 : Go.Proofs.SlLaysF.n6 Tryz.prog Tryz.laysSlF6_f53_ren:={
 mixed:=by kernel_rfl
 f6:=⟨Tryz.f53.name, by decide, kFB func53⟩
 f14:=⟨Tryz.f106.name, by decide, kFB func106⟩
 f15:=kFB func107
 f20:=⟨Tryz.f148.name, by decide, kFB func148⟩
 f21:=⟨Tryz.f149.name, by decide, kFB func149⟩
 f22:=⟨Tryz.f150.name, by decide, kFB func150⟩
 f23:=⟨Tryz.f151.name, by decide, kFB func151⟩
 f24:=⟨Tryz.f152.name, by decide, kFB func152⟩
 f25:=⟨Tryz.f153.name, by decide, kFB func153⟩
 f26:=⟨Tryz.f154.name, by decide, kFB func154⟩
 f27:=⟨Tryz.f155.name, by decide, kFB func155⟩
 f28:=kFB func156
 f29:=kFB func157
 f46:=⟨Tryz.f209.name, by decide, kFB func209⟩
 f47:=kFB func210
 f48:=kFB func211
 f49:=⟨Tryz.f212.name, by decide, kFB func212⟩
 f50:=⟨Tryz.f213.name, by decide, kFB func213⟩
 f57:=⟨Tryz.f253.name, by decide, kFB func253⟩
 t0:=underlying0
 a0:=isAgg0
 z0:=sizeOf0
 v0:=zeroValue0
 t3:=underlying3
 a3:=isAgg3
 z3:=sizeOf3
 v3:=zeroValue3
 t4:=underlying4
 a4:=isAgg4
 z4:=sizeOf4
 v4:=zeroValue4
 t5:=underlying5
 a5:=isAgg5
 z5:=sizeOf5
 v5:=zeroValue5
 t9:=underlying9
 a9:=isAgg9
 z9:=sizeOf9
 v9:=zeroValue9
 t22:=underlying88
 a22:=isAgg88
 z22:=sizeOf88
 v22:=zeroValue88
 a24:=isAgg90
 z24:=sizeOf90
 t25:=underlying99
 a25:=isAgg99
 z25:=sizeOf99
 v25:=zeroValue99
 t39:=underlying145
 a39:=isAgg145
 z39:=sizeOf145
 v39:=zeroValue145
 t45:=underlying195
 a45:=isAgg195
 z45:=sizeOf195
 v45:=zeroValue195
 t46:=underlying196
 a46:=isAgg196
 z46:=sizeOf196
 v46:=zeroValue196
 t50:=underlying107
 a50:=isAgg107
 z50:=sizeOf107
 v50:=zeroValue107
 t53:=underlying202
 a53:=isAgg202
 z53:=sizeOf202
 v53:=zeroValue202
 t55:=underlying204
 a55:=isAgg204
 z55:=sizeOf204
 v55:=zeroValue204
 t66:=underlying240
 a66:=isAgg240
 z66:=sizeOf240
 v66:=zeroValue240
 t70:=underlying244
 a70:=isAgg244
 z70:=sizeOf244
 v70:=zeroValue244
 t76:=underlying277
 a76:=isAgg277
 z76:=sizeOf277
 v76:=zeroValue277
 t77:=underlying278
 a77:=isAgg278
 z77:=sizeOf278
 v77:=zeroValue278 }
open Go.RowKit Go.Lib Go.Sort in
theorem Tryz.slices_SortFunc {α : Type} [Inhabited α] (enc : α → Value) (h1 : OneCell enc) (cf : α → α → Int) (hO : SWO (ltOf cf)) (g : Nat) (cb : Array Value) (blk off cap : Nat) (d : Array α) (w : World) (eg : ∀ args w, (callFunc g args).run Tryz.prog w = .ok (.enter g args) w) (hcmp : CmpLays1 Tryz.prog g cb enc cf blk off d.size w) (hH : Holds enc w blk off d) (hblk : blk < w.heap.size) (hsz : d.size < 4611686018427387904) :
   Calls Tryz.prog 53 #[.slice (some ⟨blk, off, none⟩) d.size cap, .func (.func g) #[] cb] w fun e w' =>
     e = .returned (.tuple #[]) ∧ ∃ d' n os, PermIn 0 d.size d d' ∧ SortedIn (ltOf cf) 0 d.size d' ∧ w' = sortWorld enc w blk off n d' os:=Any.slices_SortFunc Tryz.laysSlF6_f53 enc h1 cf hO g cb blk off cap d w eg hcmp hH hblk hsz
def Tryz.laysSlF06_f53_ren : Go.Shelf.Ren:=⟨fun|6=>53|15=>107|14=>106|28=>156|29=>157|20=>148|21=>149|22=>150|23=>151|24=>152|25=>153|26=>154|27=>155|46=>209|47=>210|48=>211|49=>212|50=>213|57=>253 | n=>n, fun|22=>88|24=>90|25=>99|3=>3|39=>145|0=>0|53=>202|55=>204|4=>4|46=>196|45=>195|50=>107|5=>5|9=>9|66=>240|70=>244|76=>277|77=>278 | n=>n, fun | n=>n⟩
theorem Tryz.laysSlF06_f53 : Go.Proofs.SlLaysF0.n6 Tryz.prog Tryz.laysSlF06_f53_ren:={
 mixed:=by kernel_rfl
 f6:=⟨Tryz.f53.name, by decide, kFB func53⟩
 f14:=⟨Tryz.f106.name, by decide, kFB func106⟩
 f15:=kFB func107
 f20:=⟨Tryz.f148.name, by decide, kFB func148⟩
 f21:=⟨Tryz.f149.name, by decide, kFB func149⟩
 f22:=⟨Tryz.f150.name, by decide, kFB func150⟩
 f23:=⟨Tryz.f151.name, by decide, kFB func151⟩
 f24:=⟨Tryz.f152.name, by decide, kFB func152⟩
 f25:=⟨Tryz.f153.name, by decide, kFB func153⟩
 f26:=⟨Tryz.f154.name, by decide, kFB func154⟩
 f27:=⟨Tryz.f155.name, by decide, kFB func155⟩
 f28:=kFB func156
 f29:=kFB func157
 f46:=⟨Tryz.f209.name, by decide, kFB func209⟩
 f47:=kFB func210
 f48:=kFB func211
 f49:=⟨Tryz.f212.name, by decide, kFB func212⟩
 f50:=⟨Tryz.f213.name, by decide, kFB func213⟩
 f57:=⟨Tryz.f253.name, by decide, kFB func253⟩
 t0:=underlying0
 a0:=isAgg0
 z0:=sizeOf0
 v0:=zeroValue0
 t3:=underlying3
 a3:=isAgg3
 z3:=sizeOf3
 v3:=zeroValue3
 t4:=underlying4
 a4:=isAgg4
 z4:=sizeOf4
 v4:=zeroValue4
 t5:=underlying5
 a5:=isAgg5
 z5:=sizeOf5
 v5:=zeroValue5
 t9:=underlying9
 a9:=isAgg9
 z9:=sizeOf9
 v9:=zeroValue9
 t22:=underlying88
 a22:=isAgg88
 z22:=sizeOf88
 v22:=zeroValue88
 t25:=underlying99
 a25:=isAgg99
 z25:=sizeOf99
 v25:=zeroValue99
 t39:=underlying145
 a39:=isAgg145
 z39:=sizeOf145
 v39:=zeroValue145
 t45:=underlying195
 a45:=isAgg195
 z45:=sizeOf195
 v45:=zeroValue195
 t46:=underlying196
 a46:=isAgg196
 z46:=sizeOf196
 v46:=zeroValue196
 t50:=underlying107
 a50:=isAgg107
 z50:=sizeOf107
 v50:=zeroValue107
 t53:=underlying202
 a53:=isAgg202
 z53:=sizeOf202
 v53:=zeroValue202
 t55:=underlying204
 a55:=isAgg204
 z55:=sizeOf204
 v55:=zeroValue204
 t66:=underlying240
 a66:=isAgg240
 z66:=sizeOf240
 v66:=zeroValue240
 t70:=underlying244
 a70:=isAgg244
 z70:=sizeOf244
 v70:=zeroValue244
 t76:=underlying277
 a76:=isAgg277
 z76:=sizeOf277
 v76:=zeroValue277
 t77:=underlying278
 a77:=isAgg278
 z77:=sizeOf278
 v77:=zeroValue278 }
open Go.RowKit Go.Lib Go.Sort in
theorem Tryz.slices_SortFunc_none {α : Type} [Inhabited α] (p : Option Addr) (cap : Nat) (fv : Value) (w : World) :
   Calls Tryz.prog 53 #[.slice p 0 cap, fv] w fun e w'=>e = .returned (.tuple #[]) ∧ w' = w:=AnyF.slices_SortFunc_none Tryz.laysSlF06_f53 p cap fv w
end Go.Proofs
