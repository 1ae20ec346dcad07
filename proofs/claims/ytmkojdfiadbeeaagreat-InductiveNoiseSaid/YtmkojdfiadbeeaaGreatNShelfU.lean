/-
  Contracts of Go's library at this program, laid by the kit's tool in plain words.
-/
import Derived.Test.YtmkojdfiadbeeaaGreatNShelfB
namespace Go.Proofs
open Go.Shelf Tryz
theorem kFU {α : Type} {x : Option α} {a b : α} (h : x = some a) (e : a = b:=by kernel_rfl) : x = some b:=e ▸ h
def Tryz.lays190_ren : Go.Shelf.Ren:=⟨fun|190=>180|125=>107|258=>224|128=>156|129=>157|302=>256|303=>257|304=>258|305=>259|306=>260|307=>261|308=>262|309=>263|310=>264|333=>279|329=>210|330=>211|334=>280|335=>281|336=>198|344=>287 | n=>n, fun|31=>26|9=>9|3=>3|46=>145|0=>0|51=>202|53=>204|4=>4|183=>196|182=>195|131=>107|5=>5|218=>240|222=>244|228=>277|229=>278 | n=>n, fun | n=>n⟩
theorem Tryz.lays190 : Go.Proofs.Lays.n190 Tryz.prog Tryz.lays190_ren:={
 mixed:=by kernel_rfl
 f125:=kFU func107
 f128:=kFU func156
 f129:=kFU func157
 f190:=kFU func180
 f258:=kFU func224
 f302:=kFU func256
 f303:=kFU func257
 f304:=kFU func258
 f305:=kFU func259
 f306:=kFU func260
 f307:=kFU func261
 f308:=kFU func262
 f309:=kFU func263
 f310:=kFU func264
 f329:=kFU func210
 f330:=kFU func211
 f333:=kFU func279
 f334:=kFU func280
 f335:=kFU func281
 f336:=kFU func198
 f344:=kFU func287
 t0:=underlying0
 a0:=isAgg0
 z0:=sizeOf0
 v0:=zeroValue0
 t3:=underlying3
 a3:=isAgg3
 z3:=sizeOf3
 v3:=zeroValue3
 t4:=underlying4
 a4:=isAgg4
 z4:=sizeOf4
 v4:=zeroValue4
 t5:=underlying5
 a5:=isAgg5
 z5:=sizeOf5
 v5:=zeroValue5
 t9:=underlying9
 a9:=isAgg9
 z9:=sizeOf9
 v9:=zeroValue9
 t31:=underlying26
 a31:=isAgg26
 z31:=sizeOf26
 v31:=zeroValue26
 t46:=underlying145
 a46:=isAgg145
 z46:=sizeOf145
 v46:=zeroValue145
 t51:=underlying202
 a51:=isAgg202
 z51:=sizeOf202
 v51:=zeroValue202
 t53:=underlying204
 a53:=isAgg204
 z53:=sizeOf204
 v53:=zeroValue204
 t131:=underlying107
 a131:=isAgg107
 z131:=sizeOf107
 v131:=zeroValue107
 t182:=underlying195
 a182:=isAgg195
 z182:=sizeOf195
 v182:=zeroValue195
 t183:=underlying196
 a183:=isAgg196
 z183:=sizeOf196
 v183:=zeroValue196
 t218:=underlying240
 a218:=isAgg240
 z218:=sizeOf240
 v218:=zeroValue240
 t222:=underlying244
 a222:=isAgg244
 z222:=sizeOf244
 v222:=zeroValue244
 t228:=underlying277
 a228:=isAgg277
 z228:=sizeOf277
 v228:=zeroValue277
 t229:=underlying278
 a229:=isAgg278
 z229:=sizeOf278
 v229:=zeroValue278 }
open Go.Sort Go.RowKit in
theorem Tryz.slices_Sort_string (blk off cap : Nat) (ss : List (List UInt8)) (w : World) (hH : Holds encStr w blk off ss.toArray) (hblk : blk < w.heap.size) (hsz : ss.length < 4611686018427387904) :
   Calls Tryz.prog 180 #[.slice (some ⟨blk, off, none⟩) ss.length cap] w fun e w' =>
     e = .returned (.tuple #[]) ∧ ∃ n os, w' = grow (putRow encStr (Sort.ahead w n) blk off (ss.mergeSort fun x y=>decide (x ≤ y)).toArray) os:=Any.slices_Sort_string Tryz.lays190 blk off cap ss w hH hblk hsz
open Go.RowKit Go.Sort in
theorem Tryz.slices_Sort_string_none (p : Option Addr) (cap : Nat) (w : World) :
   Calls Tryz.prog 180 #[.slice p 0 cap] w fun e w'=>e = .returned (.tuple #[]) ∧ w' = w:=Any.slices_Sort_string_none Tryz.lays190 p cap w
end Go.Proofs
