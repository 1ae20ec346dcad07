/-
  Contracts of Go's library at this program, laid by the kit's tool in plain words.
-/
import Derived.Ground.GgzProg
import Derived.Shelf.SlIter.Nil
import Derived.Shelf.SlIter.Sorted
import Derived.Test.YtmkojdfiadbeeaaGreatProg
namespace Go.Proofs
open Go.Shelf Tryz
def Tryz.keysA_ren : Go.Shelf.Ren:=⟨fun|7=>119|10=>181 | n=>n, fun|23=>162|26=>9|3=>4|28=>165|0=>0|27=>164|33=>58|4=>4 | n=>n, fun | n=>n⟩
theorem Tryz.keysA : Go.Proofs.SlLaysZ.n7 Tryz.prog Tryz.keysA_ren:={
 mixed:=by kernel_rfl
 f7:=⟨Tryz.f119.name, by decide, func119.trans (congrArg some (by kernel_rfl))⟩
 f10:=⟨Tryz.f181.name, by decide, func181.trans (congrArg some (by kernel_rfl))⟩
 t0:=underlying0
 a0:=isAgg0
 z0:=sizeOf0
 v0:=zeroValue0
 t4:=underlying4
 a4:=isAgg4
 z4:=sizeOf4
 v4:=zeroValue4
 t23:=underlying162
 a23:=isAgg162
 z23:=sizeOf162
 v23:=zeroValue162
 t26:=underlying9
 a26:=isAgg9
 z26:=sizeOf9
 v26:=zeroValue9
 t27:=underlying164
 a27:=isAgg164
 z27:=sizeOf164
 v27:=zeroValue164
 t28:=underlying165
 a28:=isAgg165
 z28:=sizeOf165
 v28:=zeroValue165
 t33:=underlying58
 a33:=isAgg58
 z33:=sizeOf58
 v33:=zeroValue58 }
def Tryz.sortedA_ren : Go.Shelf.Ren:=⟨fun|6=>118|8=>179|9=>180|11=>223|13=>107|12=>224|23=>156|24=>157|14=>256|15=>257|16=>258|17=>259|18=>260|19=>261|20=>262|21=>263|22=>264|25=>279|26=>210|27=>211|28=>280|29=>281|30=>198|31=>287 | n=>n, fun|26=>9|28=>165|24=>26|0=>0|3=>3|37=>145|48=>202|50=>204|4=>4|40=>196|39=>195|45=>107|5=>5|9=>9|51=>240|55=>244|57=>277|58=>278|33=>58 | n=>n, fun | n=>n⟩
theorem Tryz.sortedA : Go.Proofs.SlLaysZ.n6 Tryz.prog Tryz.sortedA_ren:={
 mixed:=by kernel_rfl
 f6:=⟨Tryz.f118.name, by decide, func118.trans (congrArg some (by kernel_rfl))⟩
 f8:=⟨Tryz.f179.name, by decide, func179.trans (congrArg some (by kernel_rfl))⟩
 f11:=⟨Tryz.f223.name, by decide, func223.trans (congrArg some (by kernel_rfl))⟩
 t0:=underlying0
 a0:=isAgg0
 z0:=sizeOf0
 v0:=zeroValue0
 t24:=underlying26
 a24:=isAgg26
 z24:=sizeOf26
 v24:=zeroValue26
 t26:=underlying9
 a26:=isAgg9
 z26:=sizeOf9
 v26:=zeroValue9
 t28:=underlying165
 a28:=isAgg165
 z28:=sizeOf165
 v28:=zeroValue165
 i26:=by kernel_rfl }
end Go.Proofs
