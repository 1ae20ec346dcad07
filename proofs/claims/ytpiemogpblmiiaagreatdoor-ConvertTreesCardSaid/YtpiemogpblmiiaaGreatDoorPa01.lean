/-
  Walks of functions and plain laws of the chapter, as the claim needs them.
-/
import Derived.KernelRfl
import Derived.WalkKit
import Derived.WalkSpells
import Derived.WalkLawsBesides
import Derived.Handy
import Derived.BigQuiet
import Derived.Lib.Hide
import Derived.OrdersHeld
import Derived.Maps.AppendAt
import Derived.Lib.LaidTab
import Derived.Lib.ItoaNum
import Derived.Laws.Cells
import Derived.Laws.MakeOwn
import Derived.Laws.OwnMore
import Derived.Great.BuildSlice
import Derived.Laws.Tables
theorem kR {α:Sort _} {a b:α} (e:a=b:=by kernel_rfl):a=b:=e
theorem oM {P:Prop} (e:P:=by omega):P:=e
theorem dC {P:Prop} (e:P:=by decide):P:=e
theorem sM {P:Prop} (e:P:=by simp):P:=e
theorem bN {P:Prop} {a b:Bool} (h:a=b) (e:(a==b)=false:=by exact rfl):P:=by subst h;simp at e
set_option linter.all false
def Xa:= @Nat.le_of_ble_eq_true
def Xb:= @Nat.le_refl
def Xc:= @List.length_cons
def Xd:= @List.mem_of_getElem?
def Xe:= @List.length_map
def Xf:= @Bool.and_eq_true
def Xg:= @List.length_append
def Xh:= @Nat.zero_le
def Xi:= @List.length_set
def Xj:= @List.all_eq_true
def Xk:= @List.length_nil
def Xl:= @List.length_take
def Xm:= @Nat.lt_or_ge
def Xn:= @List.mem_cons
def Xo:= @List.getElem?_map
def Xp:= @List.flatMap_cons
def Xq:= @List.mem_map
def Xr:= @List.mem_singleton
def Xs:= @List.take_of_length_le
def Xt:= @List.flatMap_append
def Xu:= @List.length_singleton
def Xv:= @Nat.zero_add
def Xw:= @List.length_drop
def Xx:= @List.getElem?_eq_getElem
def Xy:= @List.drop_drop
def Xz:= @List.getElem?_eq_some_iff
def XA:= @List.length_replicate
def XB:= @List.flatMap_nil
def XC:= @List.append_assoc
def XD:= @List.mem_cons_self
def XE:= @Nat.eq_of_beq_eq_true
def XF:= @Nat.mul_one
def XG:= @Nat.le_trans
def XH:= @List.all_cons
def XI:= @List.mem_cons_of_mem
def XJ:= @Nat.min_eq_left
def XK:= @List.eq_nil_of_length_eq_zero
def XL:= @Nat.add_zero
def XM:= @List.map_cons
def XN:= @List.drop_eq_getElem_cons
def XO:= @Bool.or_eq_true
def XP:= @List.take_succ_cons
def XQ:= @List.pairwise_cons
def XR:= @Array.getD_eq_getD_getElem?
def XS:= @Option.map_eq_some_iff
def XT:= @List.getElem?_drop
def XU:= @List.all_nil
def XV:= @Bool.false_ne_true
def XW:= @List.mem_append
def XX:= @Array.getElem?_eq_none
def XY:= @Nat.add_mul
def XZ:= @List.drop_eq_nil_of_le
def X0:= @List.getElem?_append_right
def X1:= @List.flatMap_singleton
def X2:= @List.map_append
def X3:= @Nat.le_succ
def X4:= @Int.toNat_natCast
def X5:= @List.getElem?_take_of_lt
def X6:= @Array.toArray_toList
def X7:= @Array.toList_map
def X8:= @List.getElem?_of_mem
def X9:= @Nat.succ_mul
def X':= @List.getElem?_set_self
def Va:= @List.getElem?_set_ne
def Vb:= @List.map_nil
def Vc:= @List.append_nil
def Vd:= @Nat.sub_zero
def Ve:= @Nat.mul_le_mul_right
def Vf:= @List.mem_range
def Vg:= @Bool.eq_iff_iff
def Vh:= @Bool.or_eq_false_iff
def Vi:= @List.contains_iff_mem
def Vj:= @List.mem_filter
def Vk:= @Nat.add_assoc
def Vl:= @Bool.false_eq_true
def Vm:= @List.cons_append
def Vn:= @List.getElem?_eq_none
def Vo:= @List.tail_cons
def Vp:= @Nat.sub_self
def Vq:= @List.getElem?_cons_zero
def Vr:= @Nat.zero_mul
def Vs:= @List.drop_zero
def Vt:= @List.foldl_cons
def Vu:= @Array.getElem?_append_left
def Vv:= @Bool.not_true
def Vw:= @List.take_append_drop
def Vx:= @List.map_map
def Vy:= @List.set_append_right
def Vz:= @List.take_length
def VA:= @List.getElem?_append_left
def VB:= @List.map_toArray
def VC:= @List.take_zero
def VE:= @List.pairwise_singleton
def VF:= @List.takeWhile_cons
def VG:= @List.zipIdx_cons
def VH:= @List.nil_append
def VI:= @Nat.one_pos
def VJ:= @Bool.and_true
def VK:= @Bool.true_and
def VL:= @Bool.and_false
def VM:= @Option.map_some
def VN:= @List.ext_getElem?
def VO:= @Nat.mul_comm
def VP:= @List.range_succ
def VQ:= @List.any_eq_true
def VS:= @List.length_filter_le
def VT:= @List.length_eraseIdx_le
def VU:= @List.getElem_of_mem
def VV:= @Option.getD_some
def VW:= @List.size_toArray
def VX:= @Nat.le_add_right
def VY:= @List.flatten_cons
def VZ:= @Nat.not_lt_zero
def V3:= @List.pairwise_append
def V4:= @List.filter_append
def V5:= @List.getElem?_replicate
def V6:= @List.take_succ_eq_append_getElem
def V7:= @List.take_set_of_le
def V8:= @List.mem_flatMap
def V9:= @Array.length_toList
def V':= @Option.isSome_iff_exists
def Ua:= @Nat.min_eq_right
def Ub:= @List.take_sublist
def Uc:= @List.map_singleton
def Ud:= @Nat.add_sub_cancel_left
def Ue:= @List.findIdx?_eq_none_iff
def Uf:= @List.findIdx?_eq_some_iff_getElem
def Ug:= @Array.toList_setIfInBounds
def Uh:= @Array.setIfInBounds_comm
def Ui:= @Array.getElem?_setIfInBounds
def Uj:= @List.isPrefixOf_iff_prefix
def Uk:= @List.getElem?_eq_none_iff
def Ul:= @decide_eq_true_eq
def Um:= @decide_eq_true
def Un:= @decide_eq_false
def Uo:= @if_neg
def Up:= @if_pos
def Uq:= @absurd
def Ur:= @of_decide_eq_true
namespace Go.Cb
open Go.RowKit
abbrev Ext (w w':World):Prop:=Below w.heap.size w w'
theorem Ext.rfl' (w:World):Ext w w:=Below.refl _ _
theorem Ext.alloc (w:World) (o:Obj):Ext w (w.alloc o):=(Below.refl _ _).alloc (Xb _) o
theorem Ext.drew (w:World):Ext w w.drew:=(Below.refl _ _).drew
structure More where
 objs:Array Obj
 drawn:Nat
instance:Inhabited More:=⟨⟨#[],0⟩⟩
abbrev Mut:=Nat→Prop
structure Chg (M:Mut) (w w':World):Prop where
 os:w'.os=w.os
 tape:w'.tape=w.tape
 output:w'.output=w.output
 size:w.heap.size≤w'.heap.size
 block:∀k,k<w.heap.size→¬M k→w'.heap[k]? =w.heap[k]?
theorem Chg.rfl' (M:Mut) (w:World):Chg M w w:=⟨rfl,rfl,rfl,Xb _,fun _ _ _=>rfl⟩
theorem Ext.chg {M:Mut} {w w':World} (h:Ext w w'):Chg M w w':=⟨h.os,h.tape,h.output,h.size,fun k hk _=>Below.block h k hk⟩
theorem Chg.ext {M:Mut} {w w':World} (h:Chg M w w') (hM:∀b,b<w.heap.size→¬M b):Ext w w':=⟨h.os,h.tape,h.output,h.size,fun k hk=>h.block k hk (hM k hk)⟩
theorem Chg.tr {M N:Mut} {a b c:World} (h:Chg M a b) (k:Chg N b c) (hN:∀i,N i→M i∨a.heap.size≤i):Chg M a c:=
 ⟨k.os.trans h.os,k.tape.trans h.tape,k.output.trans h.output,XG h.size k.size,fun i hi hm=>
  (k.block i (Nat.lt_of_lt_of_le hi h.size) (fun hn=>(hN i hn).elim hm oM)).trans (h.block i hi hm)⟩
theorem Chg.tr' {M:Mut} {a b c:World} (h:Chg M a b) (k:Chg M b c):Chg M a c:=h.tr k fun _ h=> .inl h
theorem Chg.wid {M N:Mut} {a b:World} (h:Chg M a b) (hN:∀i,M i→N i∨a.heap.size≤i):Chg N a b:=
 ⟨h.os,h.tape,h.output,h.size,fun i hi hn=>h.block i hi fun hm=>(hN i hm).elim hn oM⟩
theorem Chg.grown {w w':World} {row:Option Nat} (h:w.grownBy w' row):Chg (fun b=>row=some b) w w':=
 ⟨h.os,h.tape,h.output,h.size,fun k hk hm=>h.block k hk (fun e=>hm e.symm)⟩
theorem Chg.setCell (w:World) (p:Addr) (u:Value):Chg (fun b=>b=p.block) w (w.setCell p u):=
 ⟨rfl,rfl,rfl,by simp [World.setCell],fun k _ hm=>Below.heap_setCell _ _ _ _ hm⟩
def Cell (M:Mut) (w:World) (b o:Nat) (v:Value):Prop:=w.cell? ⟨b,o,none⟩=some v∧¬M b
abbrev Elt (α:Type):=Mut→World→Nat→Nat→α→Prop
abbrev Rd (α:Type):=Mut→World→Value→α→Prop
structure Elt.Mono {α:Type} (E:Elt α):Prop where
 mv:∀{M w w' b o x},E M w b o x→Chg M w w'→E M w' b o x
 re:∀{M N w b o x},E M w b o x→(∀i,N i→M i∨w.heap.size≤i)→E N w b o x
structure Rd.Mono {α:Type} (R:Rd α):Prop where
 mv:∀{M w w' v x},R M w v x→Chg M w w'→R M w' v x
 re:∀{M N w v x},R M w v x→(∀i,N i→M i∨w.heap.size≤i)→R N w v x
structure Var where
 acts:List ByteArray
 count:Int
structure Cut where
 kind:Int
 parts:List (List ByteArray)
theorem Zw {α:Type} {l:List α} {i:Nat} (h:i<l.length):∃x,l[i]? =some x:=⟨l[i],by simp [h]⟩
def idx {α:Type} (p:α→Bool) (l:List α):Int:=match l.findIdx? p with|some i=>i|none=> -1
theorem R1 {α:Type} (p:α→Bool) (l:List α):decide (0≤idx p l)=l.any p:=by
 unfold idx
 cases h:l.findIdx? p with
 |none=>rw [Ue] at h;symm;simpa using h
 |some i=>rw [Uf] at h;obtain ⟨hi,hp,_⟩:=h;symm;simp;exact ⟨_,List.getElem_mem hi,hp⟩
theorem TM {α:Type} {p:α→Bool} {l:List α} {k:Nat} {x:α} (h:∀i y,i<k→l[i]? =some y→p y=false) (hx:l[k]? =some x) (hp:p x=true):idx p l=k:=by
 unfold idx
 obtain ⟨hk,rfl⟩:=Xz.1 hx
 have:l.findIdx? p=some k:=by
  rw [Uf];exact ⟨hk,hp,fun j hj=>by simp [h j _ hj (Xx oM)]⟩
 rw [this]
theorem TN {α:Type} {p:α→Bool} {l:List α} (h:∀i y,i<l.length→l[i]? =some y→p y=false):idx p l= -1:=by
 unfold idx
 have:l.findIdx? p=none:=by
  rw [Ue];intro x hx;obtain ⟨i,hi,rfl⟩:=VU hx;exact h i _ hi (Xx hi)
 rw [this]
set_option linter.all false
section
variable {P:Program} {ops:Array Oper} {Q:Exit→Act→World→Prop} {md:Region.Mode} {C:World→Prop} {z:Nat}
def O0 (Q:Exit→Act→World→Prop):Exit→Act→World→Prop
 | .normal,a,w=>Q .normal a w
 |_,_,_=>False
theorem HH {Q':Exit→Act→World→Prop} {o:Oper} {a:Act} {w:World} {K:Act→World→Prop} (h:o.wp P a w K (O0 Q')):o.wp P a w K Q:=by
 unfold Oper.wp at*
 generalize (execOp a.eval o).run P w=r at*
 cases r with
 | ok n w'=>
   cases n<;>simp only [Oper.upon] at h ⊢<;>try exact h
   refine Calls.mono h fun e w'' he=>?_
   cases e with
   |returned u=>exact he
   |panicked c=>exact he.elim
   |outgrown=>obtain ⟨_,_,hf⟩:=he;exact hf.elim
 | halt x w'=>
   cases x<;>simp only [Oper.upon] at h ⊢;exact h.elim
theorem Co {i:Nat} {a:Act} {w:World} {K:Act→World→Prop} (h:wpOp P ops (O0 Q) i K a w):wpOp P ops Q i K a w:=by
 unfold wpOp at*
 split
 · rename_i ho;simp only [ho] at h;exact h
 · rename_i o ho;simp only [ho] at h;split
   · rename_i hw;simp only [hw,if_true] at h;rcases h with h|⟨_,_,_,hf⟩
     · exact .inl (HH h)
     · exact hf.elim
   · rename_i hw;simp only [hw] at h;exact h
def YieldsC (P:Program) (ops:Array Oper) (C:World→Prop) (o:Oper) (v:Value) (a:Act):Prop:=
 (Region.wanted o (yielded ops a.tmps)=true∧∀w,C w→(execOp a.eval o).run P w= .ok (.value v) w)∨
 (Region.wanted o (yielded ops a.tmps)=false∧v=undef)
theorem YieldsC.ifS {o:Oper} {v:Value} {a:Act} (h:YieldsC P ops C o v a):YieldsIf P ops C o v a:=h
theorem KY {Q':Exit→Act→World→Prop} {k:Nat} {o:Oper} (ho:ops[k]? =some o) {a:Act} {w:World} {K:Act→World→Prop} (hK:∀a w,Q' .normal a w→K a w) (h:wpList P ops (O0 Q') [o] a w):wpOp P ops (O0 Q) k K a w:=by
 unfold wpOp
 simp only [ho]
 unfold wpList at h
 split
 · rename_i hw;rw [Up hw] at h;rcases h with h|⟨_,_,_,hf⟩
   · exact .inl (HH (Oper.wp_mono (fun a w h=>hK a w h) h))
   · exact hf.elim
 · rename_i hw;rw [Uo hw] at h;exact hK _ _ h
def HI (md:Region.Mode) (ops:Array Oper) (z i:Nat):Bool:=match ops[z]? with
 |some oz=>oz.after.any fun e=>Region.binds md e&&e.on==i
 |none=>false
end
section
variable {P:Program} {ops:Array Oper} {Q:Exit→Act→World→Prop} {md:Region.Mode} {C:World→Prop} {z:Nat}
end
end Go.Cb
namespace Go.En
open Go.RowKit Go.Cb
set_option linter.all false
inductive PV where
 |val (v:Value)
 |sl (n:Nat) (cs:List PV)
 |sptr (off:Nat) (cs:List PV)
 |smap (es:List (Value×Value))
 |smapS (ks:List Value) (ps:List PV)
 |own (e k n:Nat) (cs:List PV)
 |omap (es:List (Value×Value))
 |obox (e k:Nat) (cs:List PV)
 |agg (ps:List PV)
 |tup (ps:List PV)
 |fn (f:Nat) (ps:List PV)
 |oblk (v:Value) (r:Nat) (o:Obj) (sh:List (Nat×Obj))
instance:Inhabited PV:=⟨.val (.bool false)⟩
abbrev BS:=Nat→Prop
def kvOf (es:Array MapEntry):List (Value×Value):=es.toList.map fun x=>(x.key,x.val)
def WfM (es:Array MapEntry) (clock:Nat):Prop:=(∀x∈es.toList,x.born<clock)∧(es.toList.map (·.born)).Nodup
inductive Shr (M:BS) (w:World):Value→PV→Prop
 |val (v:Value):Shr M w v (.val v)
 |emp (a:Option Addr) (c:Nat) (hc:c≤maxLen) (ha:a=none→c=0):Shr M w (.slice a 0 c) (.sl 0 [])
 | sl (b off n c:Nat) (cs:List PV) (vs:Nat→Value) (hn:n≤c) (hc:c≤maxLen)
    (hcell:∀i:Nat,i<cs.length→w.cell? ⟨b,off+i,none⟩=some (vs i)∧¬M b) (hT:∀(i:Nat) (p:PV),cs[i]? =some p→Shr M w (vs i) p):Shr M w (.slice (some ⟨b,off,none⟩) n c) (.sl n cs)
 | sptr (b off j:Nat) (cs:List PV) (vs:Nat→Value)
    (hcell:∀i:Nat,i<cs.length→w.cell? ⟨b,off+i,none⟩=some (vs i)∧¬M b) (hT:∀(i:Nat) (p:PV),cs[i]? =some p→Shr M w (vs i) p):Shr M w (.pointer (some ⟨b,off+j,none⟩)) (.sptr j cs)
 |smap (b:Nat) (es:Array MapEntry) (clock:Nat) (hM:¬M b) (h:w.heap[b]? =some (.map es clock)) (hW:WfM es clock):Shr M w (.map (some b)) (.smap (kvOf es))
 |smapS (b:Nat) (es:Array MapEntry) (clock:Nat) (ps:List PV) (hM:¬M b) (h:w.heap[b]? =some (.map es clock)) (hW:WfM es clock) (hl:es.toList.length=ps.length) (hT:∀(i:Nat) (e:MapEntry) (p:PV),es.toList[i]? =some e→ps[i]? =some p→Shr M w e.val p):Shr M w (.map (some b)) (.smapS (es.toList.map (·.key)) ps)
 |agg (vs:List Value) (ps:List PV) (hl:vs.length=ps.length) (h:∀(i:Nat) (v:Value) (p:PV),vs[i]? =some v→ps[i]? =some p→Shr M w v p):Shr M w (.agg vs.toArray) (.agg ps)
 |tup (vs:List Value) (ps:List PV) (hl:vs.length=ps.length) (h:∀(i:Nat) (v:Value) (p:PV),vs[i]? =some v→ps[i]? =some p→Shr M w v p):Shr M w (.tuple vs.toArray) (.tup ps)
 |fn (f:Nat) (vs:List Value) (ps:List PV) (hl:vs.length=ps.length) (h:∀(i:Nat) (v:Value) (p:PV),vs[i]? =some v→ps[i]? =some p→Shr M w v p):Shr M w (.func (.func f) #[] vs.toArray) (.fn f ps)
theorem KZ {w:World} {b:Nat} {o:Obj} (h:w.heap[b]? =some o):b<w.heap.size:=by
 rcases Xm b w.heap.size with h1|h1
 · exact h1
 · rw [XX h1] at h;cases h
theorem TO {N:BS} {w w':World} {b o:Nat} {v:Value} (hc:Chg N w w') (hN:¬N b) (h:w.cell? ⟨b,o,none⟩=some v):w'.cell? ⟨b,o,none⟩=some v:=
 (World.cell?_of_block (w:=w) (a:=⟨b,o,none⟩) (hc.block b (World.block_lt_of_cell? _ _ h) hN)).trans h
theorem Shr.to {M M' N:BS} {w w':World} (hc:Chg N w w') (hN:∀b,b<w.heap.size→N b→M b) (hM:∀b,b<w.heap.size→M' b→M b) {v:Value} {p:PV} (h:Shr M w v p):Shr M' w' v p:=by
 have key:∀{b o:Nat} {v:Value},(w.cell? ⟨b,o,none⟩=some v∧¬M b)→(w'.cell? ⟨b,o,none⟩=some v∧¬M' b):=fun {b o v} h=>by
  have hlt:=World.block_lt_of_cell? _ _ h.1;exact ⟨TO hc (fun hn=>h.2 (hN _ hlt hn)) h.1,fun hm=>h.2 (hM _ hlt hm)⟩
 induction h with
 |val v=>exact .val v
 |emp a c hc ha=>exact .emp a c hc ha
 |sl b off n c cs vs hn hc' hcell hT ih=>exact .sl b off n c cs vs hn hc' (fun i hi=>key (hcell i hi)) ih
 |sptr b off j cs vs hcell hT ih=>exact .sptr b off j cs vs (fun i hi=>key (hcell i hi)) ih
 | smap b es clock hMb h hW=>
   have hlt:=KZ h;exact .smap b es clock (fun hm=>hMb (hM b hlt hm)) ((hc.block b hlt (fun hn=>hMb (hN b hlt hn))).trans h) hW
 | smapS b es clock ps hMb h hW hl hT ih=>
   have hlt:=KZ h;exact .smapS b es clock ps (fun hm=>hMb (hM b hlt hm)) ((hc.block b hlt (fun hn=>hMb (hN b hlt hn))).trans h) hW hl ih
 |agg vs ps hl h ih=>exact .agg vs ps hl ih
 |tup vs ps hl h ih=>exact .tup vs ps hl ih
 |fn f vs ps hl h ih=>exact .fn f vs ps hl ih
theorem Shr.anti {M M':BS} {w:World} (hM:∀b,b<w.heap.size→M' b→M b) {v:Value} {p:PV} (h:Shr M w v p):Shr M' w v p:=h.to (Chg.rfl' (fun _=>False) w) (fun _ _ h=>h.elim) hM
theorem Shr.up {M:BS} {w w':World} (hc:Ext w w') {v:Value} {p:PV} (h:Shr M w v p):Shr M w' v p:=h.to (hc.chg (M:=fun _=>False)) (fun _ _ h=>h.elim) (fun _ _ h=>h)
inductive Tr (M:BS) (w:World):Value→PV→BS→Prop
 |shr {v:Value} {p:PV} {F:BS} (h:Shr M w v p) (hF:∀b,¬F b):Tr M w v p F
 | own {v:Value} {e k n:Nat} {cs:List PV} {F:BS} (xs:List Value) (Fs:Nat→BS) (hrow:w.ownsRow 0 e k v n xs) (hl:cs.length=xs.length)
    (hT:∀(i:Nat) (x:Value) (p:PV),xs[i]? =some x→cs[i]? =some p→Tr M w x p (Fs i))
    (hd:∀i j b,i<cs.length→j<cs.length→i≠j→Fs i b→¬Fs j b) (hb:∀i b,i<cs.length→Fs i b→v.ownBlock≠some b)
    (hF:∀b,F b↔(v.ownBlock=some b∨∃i,i<cs.length∧Fs i b)):Tr M w v (.own e k n cs) F
 |omap {F:BS} (b:Nat) (es:Array MapEntry) (clock:Nat) (h:w.heap[b]? =some (.map es clock)) (hF:∀x,F x↔x=b) (hW:WfM es clock):Tr M w (.map (some b)) (.omap (kvOf es)) F
 |obox {e k:Nat} {cs:List PV} {F:BS} (g cap:Nat) (h:Tr M w (.slice (some ⟨g,0,none⟩) 1 cap) (.own e k 1 cs) F):Tr M w (.pointer (some ⟨g,0,none⟩)) (.obox e k cs) F
 | agg {ps:List PV} {F:BS} (vs:List Value) (Fs:Nat→BS) (hl:vs.length=ps.length) (h:∀(i:Nat) (v:Value) (p:PV),vs[i]? =some v→ps[i]? =some p→Tr M w v p (Fs i))
    (hd:∀i j b,i<ps.length→j<ps.length→i≠j→Fs i b→¬Fs j b) (hF:∀b,F b↔∃i,i<ps.length∧Fs i b):Tr M w (.agg vs.toArray) (.agg ps) F
 | tup {ps:List PV} {F:BS} (vs:List Value) (Fs:Nat→BS) (hl:vs.length=ps.length) (h:∀(i:Nat) (v:Value) (p:PV),vs[i]? =some v→ps[i]? =some p→Tr M w v p (Fs i))
    (hd:∀i j b,i<ps.length→j<ps.length→i≠j→Fs i b→¬Fs j b) (hF:∀b,F b↔∃i,i<ps.length∧Fs i b):Tr M w (.tuple vs.toArray) (.tup ps) F
 |oblk {v:Value} {o:Obj} {sh:List (Nat×Obj)} {F:BS} (r:Nat) (h1:v.oneCell'=true) (h:w.heap[r]? =some o) (hs:∀p∈sh,w.heap[p.1]? =some p.2∧¬M p.1) (hF:∀x,F x↔x=r):Tr M w v (.oblk v r o sh) F
theorem ZgF {N:BS} {w w':World} {e k n:Nat} {v:Value} {xs:List Value} (hc:Chg N w w') (h:w.ownsRow 0 e k v n xs) (hN:∀b,v.ownBlock=some b→¬N b):w'.ownsRow 0 e k v n xs:=by
 refine ⟨h.1,?_⟩
 rcases h.2 with h2|⟨g,cap,cur,h2,hg,hh,h4⟩
 · exact .inl h2
 · refine .inr ⟨g,cap,cur,h2,hg,?_,h4⟩;rw [hc.block g (KZ hh) (hN g (by subst h2;rfl))];exact hh
theorem YJ {α β:Type} {l:List α} {m:List β} {i:Nat} {x:α} (h:l[i]? =some x) (hl:l.length=m.length):∃y,m[i]? =some y:=by
 have:=(Xz.1 h).1
 exact ⟨m[i]'oM,sM⟩
theorem YL {α:Type} {l:List α} {i:Nat} (h:i<l.length):∃y,l[i]? =some y:=⟨l[i],sM⟩
theorem Zg {α:Type} {l:List α} {i:Nat} {x:α} (h:l[i]? =some x):i<l.length:=(Xz.1 h).1
theorem Tr.lt {M:BS} {w:World} {v:Value} {p:PV} {F:BS} (h:Tr M w v p F):∀b,F b→b<w.heap.size:=by
 induction h with
 |shr h hF=>exact fun b hb=>(hF b hb).elim
 | @own v e k n cs F xs Fs hrow hl hT hd hb hF ih=>
   intro b hFb;rcases (hF b).1 hFb with h|⟨i,hi,h⟩
   · exact (hrow.lt b h).2
   · obtain ⟨p,hp⟩:=YL hi;obtain ⟨x,hx⟩:=YJ hp hl;exact ih i x p hx hp b h
 |omap b es clock h hF=>intro x hx;rw [(hF x).1 hx];exact KZ h
 |oblk r h1 h hs hF=>intro x hx;rw [(hF x).1 hx];exact KZ h
 |obox g cap h ih=>exact ih
 | @agg ps F vs Fs hl h hd hF ih=>
   intro b hFb;obtain ⟨i,hi,h⟩:=(hF b).1 hFb;obtain ⟨p,hp⟩:=YL hi;obtain ⟨x,hx⟩:=YJ hp hl.symm;exact ih i x p hx hp b h
 | @tup ps F vs Fs hl h hd hF ih=>
   intro b hFb;obtain ⟨i,hi,h⟩:=(hF b).1 hFb;obtain ⟨p,hp⟩:=YL hi;obtain ⟨x,hx⟩:=YJ hp hl.symm;exact ih i x p hx hp b h
theorem Tr.to {M M' N:BS} {w w':World} (hc:Chg N w w') (hM:∀b,b<w.heap.size→M' b→M b) {v:Value} {p:PV} {F:BS} (h:Tr M w v p F):
 (∀b,b<w.heap.size→N b→M b)→(∀b,F b→¬N b)→Tr M' w' v p F:=by
 induction h with
 |shr h hF=>exact fun hN _=> .shr (h.to hc hN hM) hF
 | @own v e k n cs F xs Fs hrow hl hT hd hb hF ih=>
   intro hN hNF;refine .own xs Fs (ZgF hc hrow fun b h=>hNF b ((hF b).2 (.inl h))) hl (fun i x p hx hp=>?_) hd hb hF;exact ih i x p hx hp hN fun b h=>hNF b ((hF b).2 (.inr ⟨i,Zg hp,h⟩))
 | omap b es clock h hF hW=>
   intro hN hNF;exact .omap b es clock ((hc.block b (KZ h) (hNF b ((hF b).2 rfl))).trans h) hF hW
 | oblk r h1 h hs hF=>
   intro hN hNF;exact .oblk r h1 ((hc.block r (KZ h) (hNF r ((hF r).2 rfl))).trans h) (fun p hp=>⟨(hc.block p.1 (KZ (hs p hp).1) (fun hn=>(hs p hp).2 (hN _ (KZ (hs p hp).1) hn))).trans (hs p hp).1,fun hm=>(hs p hp).2 (hM _ (KZ (hs p hp).1) hm)⟩) hF
 |obox g cap h ih=>exact fun hN hNF=> .obox g cap (ih hN hNF)
 | @agg ps F vs Fs hl h hd hF ih=>
   intro hN hNF;exact .agg vs Fs hl (fun i v p hv hp=>ih i v p hv hp hN fun b h=>hNF b ((hF b).2 ⟨i,Zg hp,h⟩)) hd hF
 | @tup ps F vs Fs hl h hd hF ih=>
   intro hN hNF;exact .tup vs Fs hl (fun i v p hv hp=>ih i v p hv hp hN fun b h=>hNF b ((hF b).2 ⟨i,Zg hp,h⟩)) hd hF
theorem Tr.anti {M M':BS} {w:World} (hM:∀b,b<w.heap.size→M' b→M b) {v:Value} {p:PV} {F:BS} (h:Tr M w v p F):Tr M' w v p F:=
 h.to (Chg.rfl' (fun _=>False) w) hM (fun _ _ h=>h.elim) (fun _ _ h=>h)
theorem Tr.up {M:BS} {w w':World} (hc:Ext w w') {v:Value} {p:PV} {F:BS} (h:Tr M w v p F):Tr M w' v p F:=
 h.to (hc.chg (M:=fun _=>False)) (fun _ _ h=>h) (fun _ _ h=>h.elim) (fun _ _ h=>h)
mutual
def share:PV→PV
 | .val v=> .val v
 | .sl n cs=> .sl n cs
 | .sptr o cs=> .sptr o cs
 | .smap es=> .smap es
 | .smapS ks ps=> .smapS ks ps
 | .own _ _ n cs=> .sl n (WW cs)
 | .omap es=> .smap es
 | .obox _ _ cs=> .sptr 0 (WW cs)
 | .agg ps=> .agg (WW ps)
 | .tup ps=> .tup (WW ps)
 | .fn f ps=> .fn f ps
 | .oblk v _ _ _=> .val v
def WW:List PV→List PV
 |[]=>[]
 |p::l=>share p::WW l
end
theorem Yf:∀l:List PV,WW l=l.map share
 |[]=>by simp [WW]
 |p::l=>by simp [WW,Yf l]
theorem Shr.share {M:BS} {w:World} {v:Value} {p:PV} (h:Shr M w v p):Shr M w v (share p):=by
 induction h with
 |val v=>exact .val v
 |emp a c hc ha=>exact .emp a c hc ha
 |sl b off n c cs vs hn hc' hcell hT ih=>exact .sl b off n c cs vs hn hc' hcell hT
 |sptr b off j cs vs hcell hT ih=>exact .sptr b off j cs vs hcell hT
 |smap b es clock hMb h hW=>exact .smap b es clock hMb h hW
 |smapS b es clock ps hMb h hW hl hT ih=>exact .smapS b es clock ps hMb h hW hl hT
 | agg vs ps hl h ih=>
   rw [En.share];refine .agg vs _ (by rw [Yf,Xe];exact hl) fun i v p hv hp=>?_;rw [Yf,Xo,XS] at hp;obtain ⟨q,hq,rfl⟩:=hp;exact ih i v q hv hq
 | tup vs ps hl h ih=>
   rw [En.share];refine .tup vs _ (by rw [Yf,Xe];exact hl) fun i v p hv hp=>?_;rw [Yf,Xo,XS] at hp;obtain ⟨q,hq,rfl⟩:=hp;exact ih i v q hv hq
 |fn f vs ps hl h ih=>exact .fn f vs ps hl h
theorem YZ {w:World} {e k n:Nat} {v:Value} {xs:List Value} (h:w.ownsRow 0 e k v n xs):(v= .slice none 0 0∧n=0∧xs=[])∨∃g cap,v= .slice (some ⟨g,0,none⟩) n cap∧n≤cap∧cap≤maxLen∧g<w.heap.size:=by
 rcases h.2 with ⟨h2,h3⟩|⟨g,cap,cur,h2,hg,hh,h4,h5,_⟩
 · exact .inl ⟨h2,h3,XK (by rw [h.1,h3,Vr])⟩
 · exact .inr ⟨g,cap,h2,h4,h5,KZ hh⟩
theorem WK {w:World} {e k n g cap:Nat} {xs:List Value} (h:w.ownsRow 0 e k (.slice (some ⟨g,0,none⟩) n cap) n xs) {i:Nat} {x:Value} (hx:xs[i]? =some x):w.cell? ⟨g,i,none⟩=some x:=by
 rw [h.cellAt i (by rw [←h.1];exact Zg hx)];exact hx
theorem Tr.share {M:BS} {w:World} {v:Value} {p:PV} {F:BS} (h:Tr M w v p F) {M':BS} (hM:∀b,b<w.heap.size→M' b→M b):(∀b,F b→¬M' b)→Shr M' w v (share p):=by
 induction h with
 |shr h hF'=>exact fun _=>(h.anti hM).share
 | @own v e k n cs F xs Fs hrow hl hT hd hb hF' ih=>
   intro hF;rw [En.share];rcases YZ hrow with ⟨rfl,rfl,rfl⟩|⟨g,cap,rfl,h1,h2,_⟩
   · have:cs=[]:=XK (by simpa using hl);subst this;exact .emp none 0 (by unfold maxLen;omega) (fun _=>rfl)
   · refine .sl g 0 n cap _ (fun i=>(xs[i]?).getD undef) h1 h2 (fun i hi=>?_) (fun i p hp=>?_)
     · rw [Yf,Xe] at hi;obtain ⟨x,hx⟩:=YL (show i<xs.length by omega);refine ⟨?_,hF g ((hF' g).2 (.inl rfl))⟩;rw [Xv,WK hrow hx,hx];rfl
     · rw [Yf,Xo,XS] at hp;obtain ⟨q,hq,rfl⟩:=hp;obtain ⟨x,hx⟩:=YJ hq hl;simp only [hx,VV];exact ih i x q hx hq fun b hb'=>hF b ((hF' b).2 (.inr ⟨i,Zg hq,hb'⟩))
 |omap b es clock h hF' hW=>exact fun hF=> .smap b es clock (hF b ((hF' b).2 rfl)) h hW
 |oblk r h1 h hs hF'=>exact fun _=> .val _
 | @obox e k cs F g cap h ih=>
   intro hF;have h1:=ih hF;rw [En.share] at h1;rw [En.share];generalize hcs:WW cs=cs' at h1 ⊢
   cases h1 with
   |sl _ _ _ _ _ vs hn hc hcell hT=>exact .sptr g 0 0 cs' vs hcell hT
 | @agg ps F vs Fs hl h hd hF' ih=>
   intro hF;rw [En.share];refine .agg vs _ (by rw [Yf,Xe];exact hl) fun i v p hv hp=>?_;rw [Yf,Xo,XS] at hp;obtain ⟨q,hq,rfl⟩:=hp;exact ih i v q hv hq fun b hb=>hF b ((hF' b).2 ⟨i,Zg hq,hb⟩)
 | @tup ps F vs Fs hl h hd hF' ih=>
   intro hF;rw [En.share];refine .tup vs _ (by rw [Yf,Xe];exact hl) fun i v p hv hp=>?_;rw [Yf,Xo,XS] at hp;obtain ⟨q,hq,rfl⟩:=hp;exact ih i v q hv hq fun b hb=>hF b ((hF' b).2 ⟨i,Zg hq,hb⟩)
def lk {α:Type}:List (Nat×α)→Nat→Option α
 |[],_=>none
 |(k,x)::l,t=>cond (Nat.beq k t) (some x) (lk l t)
def del {α:Type} (t:Nat):List (Nat×α)→List (Nat×α)
 |[]=>[]
 |(k,x)::l=>cond (Nat.beq k t) (del t l) ((k,x)::del t l)
def put {α:Type} (t:Nat) (x:α) (l:List (Nat×α)):List (Nat×α):=(t,x)::l
theorem Ls {α:Type} (t:Nat):∀l:List (Nat×α),lk (del t l) t=none
 |[]=>rfl
 | (k,x)::l=>by
   unfold del
   cases h:Nat.beq k t
   · simp only [cond_false,lk,h];exact Ls t l
   · exact Ls t l
theorem LY {α:Type} {t s:Nat} (hts:t≠s):∀l:List (Nat×α),lk (del t l) s=lk l s
 |[]=>rfl
 | (k, x)::l=>by
   unfold del
   cases h:Nat.beq k t
   · simp only [cond_false,lk];rw [LY hts l]
   · have:k=t:=XE h;subst this;have h2:Nat.beq k s=false:=by
      cases h3:Nat.beq k s
      · rfl
      · exact Uq (XE h3) hts
     simp only [cond_true,lk,h2,cond_false];exact LY hts l
theorem YY {α:Type} {t s:Nat} {l:List (Nat×α)} {x:α} (h:lk (del t l) s=some x):t≠s∧lk l s=some x:=by
 by_cases hts:t=s
 · subst hts;rw [Ls] at h;cases h
 · rw [LY hts] at h;exact ⟨hts,h⟩
theorem YH {α:Type} (t:Nat) (x:α) (l:List (Nat×α)):lk (put t x l) t=some x:=by
 simp [put,lk]
theorem YR {α:Type} {t s:Nat} (h:t≠s) (x:α) (l:List (Nat×α)):lk (put t x l) s=lk l s:=by
 have:Nat.beq t s=false:=by
  cases h3:Nat.beq t s
  · rfl
  · exact Uq (XE h3) h
 simp only [put,lk,this,cond_false]
theorem YS {α:Type} {t s:Nat} {l:List (Nat×α)} {x y:α} (h:lk (put t x l) s=some y):(t=s∧x=y)∨(t≠s∧lk l s=some y):=by
 by_cases hts:t=s
 · subst hts;rw [YH] at h;cases h;exact .inl ⟨rfl,rfl⟩
 · rw [YR hts] at h;exact .inr ⟨hts,h⟩
abbrev Ent:=Value×PV
structure St where
 slots:List (Nat×Ent)
 heap:List (Nat×Ent)
structure Ctx where
 w0:World
 M0:BS
 N0:BS
 nt:Nat
 dr:Prop
 df:List Deferred
def ZhU:Option Nat:=some 3
def TabW (w:World) (M N:BS):Prop:=∀g,ZhU=some g→(∃ty at',w.heap[g]? =some (.cells (Go.Lib.pow10Tab.map fun z=>Value.int .u64 z).toArray ty at'))∧¬M g∧¬N g
def Ziy:Option Nat:=none
def ErrW (w:World) (M N:BS):Prop:=∀g,Ziy=some g→(∃ev ty at',w.heap[g]? =some (.cells #[ev] ty at')∧(ev= .nilIface∨∃te pe,ev= .iface te pe))∧¬M g∧¬N g
structure M0k (w:World) (M N:BS) (dr:Prop):Prop where
 m:∀b,M b→b<w.heap.size∧¬N b
 tb:¬dr→TabW w M N
 er:¬dr→ErrW w M N
theorem M0k.up {w:World} {M N:BS} {dr dr':Prop} (h:M0k w M N dr) (hd:dr→dr'):M0k w M N dr':=⟨h.m,fun hn=>h.tb fun h=>hn (hd h),fun hn=>h.er fun h=>hn (hd h)⟩
theorem M0k.true (w:World):M0k w (fun _=>False) (fun _=>False) True:=⟨fun _ h=>h.elim,fun h=>Uq trivial h,fun h=>Uq trivial h⟩
def mof (c:Ctx) (h:List (Nat×Ent)) (F:Nat→BS):BS:=fun b=>c.M0 b∨∃l x,lk h l=some x∧F l b
structure HeapF (c:Ctx) (h:List (Nat×Ent)) (F:Nat→BS) (w:World):Prop where
 tr:∀l v p,lk h l=some (v,p)→Tr (mof c h F) w v p (F l)
 lo:∀l x b,lk h l=some x→F l b→c.w0.heap.size≤b∨c.N0 b
 dj:∀l l' x x' b,l≠l'→lk h l=some x→lk h l'=some x'→F l b→¬F l' b
 m0:M0k c.w0 c.M0 c.N0 c.dr
 ext:Chg c.N0 c.w0 w
 dw:c.dr→c.w0.drawn≤w.drawn
structure HoldsF (c:Ctx) (st:St) (F:Nat→BS) (a:Act) (w:World):Prop extends HeapF c st.heap F w where
 sl:∀t v p,lk st.slots t=some (v,p)→a.tmps[t]? =some v∧Shr (mof c st.heap F) w v p
 size:a.tmps.size=c.nt
 df:a.defers=c.df
def Holds (c:Ctx) (st:St) (a:Act) (w:World):Prop:=∃F,HoldsF c st F a w
theorem HeapF.apart {c:Ctx} {h:List (Nat×Ent)} {F:Nat→BS} {w:World} (H:HeapF c h F w) {b l:Nat} {x:Ent} (hb:c.M0 b) (hl:lk h l=some x):¬F l b:=fun hF=>by
 have h1:=H.m0.m b hb
 rcases H.lo l x b hl hF with h2|h2
 · omega
 · exact h1.2 h2
theorem HeapF.lt {c:Ctx} {h:List (Nat×Ent)} {F:Nat→BS} {w:World} (H:HeapF c h F w) {b:Nat} (hb:mof c h F b):b<w.heap.size:=by
 rcases hb with h1|⟨l,⟨v,p⟩,h1,h2⟩
 · exact Nat.lt_of_lt_of_le (H.m0.m b h1).1 H.ext.size
 · exact (H.tr l v p h1).lt b h2
theorem HeapF.mok {c:Ctx} {h:List (Nat×Ent)} {F:Nat→BS} {w:World} (H:HeapF c h F w):M0k w (mof c h F) (fun _=>False) c.dr:=
 ⟨fun b hb=>⟨H.lt hb,fun h=>h⟩,fun hn g hg=>by
  obtain ⟨⟨ty,at',h1⟩,h2,h3⟩:=H.m0.tb hn g hg;have hlt:=KZ h1;refine ⟨⟨ty,at',(H.ext.block g hlt h3).trans h1⟩,?_,fun h=>h⟩;rintro (h4|⟨l,x,h4,h5⟩)
  · exact h2 h4
  · rcases H.lo l x g h4 h5 with h6|h6
    · omega
    · exact h3 h6,fun hn g hg=>by
  obtain ⟨⟨ev,ty,at',h1,hev⟩,h2,h3⟩:=H.m0.er hn g hg;have hlt:=KZ h1;refine ⟨⟨ev,ty,at',(H.ext.block g hlt h3).trans h1,hev⟩,?_,fun h=>h⟩;rintro (h4|⟨l,x,h4,h5⟩)
  · exact h2 h4
  · rcases H.lo l x g h4 h5 with h6|h6
    · omega
    · exact h3 h6⟩
theorem M0k.none {w:World} {M:BS} {dr:Prop} (h:M0k w M (fun _=>False) dr):M0k w (fun _=>False) (fun _=>False) dr:=⟨fun _ h=>h.elim,fun hn g hg=>⟨(h.tb hn g hg).1,fun h=>h,fun h=>h⟩,fun hn g hg=>⟨(h.er hn g hg).1,fun h=>h,fun h=>h⟩⟩
theorem HeapF.change {c:Ctx} {h:List (Nat×Ent)} {F:Nat→BS} {w:World} (H:HeapF c h F w) (T:Nat→Prop) {h':List (Nat×Ent)} {F':Nat→BS} {w':World}
 (hch:Chg (fun b=>∃l x,T l∧lk h l=some x∧F l b) w w')
 (hsame:∀l x,¬T l→lk h' l=some x→lk h l=some x∧F' l=F l)
 (hF:∀l x b,T l→lk h' l=some x→F' l b→(∃l0 x0,T l0∧lk h l0=some x0∧F l0 b)∨w.heap.size≤b)
 (hnew:(∀b,b<w.heap.size→mof c h' F' b→mof c h F b)→∀l v p,T l→lk h' l=some (v,p)→Tr (mof c h' F') w' v p (F' l))
 (hdj:∀l l' x x' b,T l→T l'→l≠l'→lk h' l=some x→lk h' l'=some x'→F' l b→¬F' l' b) (hdw:c.dr→w.drawn≤w'.drawn):
 HeapF c h' F' w'∧(∀b,b<w.heap.size→mof c h' F' b→mof c h F b)∧(∀b,(∃l x,T l∧lk h l=some x∧F l b)→mof c h F b):=by
 have hmono:∀b,b<w.heap.size→mof c h' F' b→mof c h F b:=by
  rintro b hb (h1|⟨l,x,h1,h2⟩)
  · exact .inl h1
  · by_cases hT:T l
    · rcases hF l x b hT h1 h2 with ⟨l0,x0,_,h3,h4⟩|h3
      · exact .inr ⟨l0,x0,h3,h4⟩
      · omega
    · obtain ⟨h3,h4⟩:=hsame l x hT h1;exact .inr ⟨l,x,h3,by rw [←h4];exact h2⟩
 have hNm:∀b,(∃l x,T l∧lk h l=some x∧F l b)→mof c h F b:=fun b ⟨l,x,_,h1,h2⟩=> .inr ⟨l,x,h1,h2⟩
 have hBw:c.w0.heap.size≤w.heap.size:=H.ext.size
 refine ⟨⟨fun l v p hl=>?_,fun l x b hl hb=>?_,fun l l' x x' b hne hl hl' hb hb'=>?_,H.m0,?_,fun h=>XG (H.dw h) (hdw h)⟩,hmono,hNm⟩
 · by_cases hT:T l
   · exact hnew hmono l v p hT hl
   · obtain ⟨h3,h4⟩:=hsame l _ hT hl;rw [h4];refine (H.tr l v p h3).to hch hmono (fun b _ h=>hNm b h) fun b hb ⟨l0,x0,h5,h6,h7⟩=>?_;exact H.dj l l0 _ _ b (fun e=>hT (e▸h5)) h3 h6 hb h7
 · by_cases hT:T l
   · rcases hF l x b hT hl hb with ⟨l0,x0,_,h3,h4⟩|h3
     · exact H.lo l0 x0 b h3 h4
     · exact .inl oM
   · obtain ⟨h3,h4⟩:=hsame l x hT hl;exact H.lo l x b h3 (by rw [←h4];exact hb)
 · have aux:∀l l' x x',T l→¬T l'→lk h' l=some x→lk h' l'=some x'→F' l b→F' l' b→False:=fun l l' x x' hT hT' hl hl' hb hb'=>by
    obtain ⟨h3,h4⟩:=hsame l' x' hT' hl';rw [h4] at hb';rcases hF l x b hT hl hb with ⟨l0,x0,h5,h6,h7⟩|h5
    · exact H.dj l0 l' _ _ b (fun e=>hT' (e▸h5)) h6 h3 h7 hb'
    · have:=(H.tr l' _ _ h3).lt b hb';omega
   by_cases hT:T l
   · by_cases hT':T l'
     · exact hdj l l' x x' b hT hT' hne hl hl' hb hb'
     · exact aux l l' x x' hT hT' hl hl' hb hb'
   · by_cases hT':T l'
     · exact aux l' l x' x hT' hT hl' hl hb' hb
     · obtain ⟨h3,h4⟩:=hsame l x hT hl;obtain ⟨h5,h6⟩:=hsame l' x' hT' hl';exact H.dj l l' x x' b hne h3 h5 (by rw [←h4];exact hb) (by rw [←h6];exact hb')
 · exact H.ext.tr hch fun b ⟨l,x,_,h1,h2⟩=>(H.lo l x b h1 h2).symm
theorem HoldsF.change {c:Ctx} {st:St} {F:Nat→BS} {a:Act} {w:World} (H:HoldsF c st F a w) (T:Nat→Prop) {h':List (Nat×Ent)} {F':Nat→BS} {w':World} {d:Nat} {v:Value} {p:PV} (hd:d<c.nt)
 (hch:Chg (fun b=>∃l x,T l∧lk st.heap l=some x∧F l b) w w')
 (hsame:∀l x,¬T l→lk h' l=some x→lk st.heap l=some x∧F' l=F l)
 (hF:∀l x b,T l→lk h' l=some x→F' l b→(∃l0 x0,T l0∧lk st.heap l0=some x0∧F l0 b)∨w.heap.size≤b)
 (hnew:(∀b,b<w.heap.size→mof c h' F' b→mof c st.heap F b)→∀l v p,T l→lk h' l=some (v,p)→Tr (mof c h' F') w' v p (F' l))
 (hdj:∀l l' x x' b,T l→T l'→l≠l'→lk h' l=some x→lk h' l'=some x'→F' l b→¬F' l' b)
 (hv:(∀b,b<w.heap.size→mof c h' F' b→mof c st.heap F b)→Shr (mof c h' F') w' v p) (hdw:c.dr→w.drawn≤w'.drawn:=by first|exact fun _=>Xb _|exact fun _=>X3 _|assumption):
 HoldsF c ⟨put d (v,p) st.slots,h'⟩ F' (a.put (some d) v) w':=by
 obtain ⟨H1,hm,hN⟩:=H.toHeapF.change T hch hsame hF hnew hdj hdw
 refine ⟨H1,fun t u q ht=>?_,by simp [Act.put,H.size],H.df⟩
 rcases YS ht with ⟨rfl,he⟩|⟨hne,he⟩
 · cases he;exact ⟨by simp [Act.put,H.size,hd],hv hm⟩
 · obtain ⟨h1,h2⟩:=H.sl t u q he;exact ⟨by simp [Act.put,hne,h1],h2.to hch (fun b _ h=>hN b h) hm⟩
theorem HoldsF.change0 {c:Ctx} {st:St} {F:Nat→BS} {a:Act} {w:World} (H:HoldsF c st F a w) (T:Nat→Prop) {h':List (Nat×Ent)} {F':Nat→BS} {w':World}
 (hch:Chg (fun b=>∃l x,T l∧lk st.heap l=some x∧F l b) w w')
 (hsame:∀l x,¬T l→lk h' l=some x→lk st.heap l=some x∧F' l=F l)
 (hF:∀l x b,T l→lk h' l=some x→F' l b→(∃l0 x0,T l0∧lk st.heap l0=some x0∧F l0 b)∨w.heap.size≤b)
 (hnew:(∀b,b<w.heap.size→mof c h' F' b→mof c st.heap F b)→∀l v p,T l→lk h' l=some (v,p)→Tr (mof c h' F') w' v p (F' l))
 (hdj:∀l l' x x' b,T l→T l'→l≠l'→lk h' l=some x→lk h' l'=some x'→F' l b→¬F' l' b) (hdw:c.dr→w.drawn≤w'.drawn:=by first|exact fun _=>Xb _|exact fun _=>X3 _|assumption):
 HoldsF c ⟨st.slots,h'⟩ F' a w':=by
 obtain ⟨H1,hm,hN⟩:=H.toHeapF.change T hch hsame hF hnew hdj hdw
 refine ⟨H1,fun t u q ht=>?_,H.size,H.df⟩
 obtain ⟨h1,h2⟩:=H.sl t u q ht
 exact ⟨h1,h2.to hch (fun b _ h=>hN b h) hm⟩
def Sub:List (Nat×Ent)→List (Nat×Ent)→Prop
 |[],_=>True
 |(t,x)::l,m=>lk m t=some x∧Sub l m
theorem Sub.lk {l m:List (Nat×Ent)}:Sub l m→∀{t x},lk l t=some x→lk m t=some x:=by
 induction l with
 |nil=>intro _ t x h;simp [En.lk] at h
 | cons y l ih=>
   obtain ⟨k,y⟩:=y;intro h t x ht;simp only [En.lk] at ht
   cases hb:Nat.beq k t
   · rw [hb] at ht;exact ih h.2 ht
   · rw [hb] at ht;have:k=t:=XE hb;subst this
     cases ht;exact h.1
theorem HoldsF.less {c:Ctx} {st st':St} {F:Nat→BS} {a:Act} {w:World} (H:HoldsF c st F a w) (hs:∀t x,En.lk st'.slots t=some x→En.lk st.slots t=some x) (hh:∀t x,En.lk st'.heap t=some x→En.lk st.heap t=some x):HoldsF c st' F a w:=by
 have hm:∀b,mof c st'.heap F b→mof c st.heap F b:=by
  rintro b (h|⟨l,x,h1,h2⟩)
  · exact .inl h
  · exact .inr ⟨l,x,hh l x h1,h2⟩
 exact ⟨⟨fun l v p h=>(H.tr l v p (hh _ _ h)).anti fun b _=>hm b,fun l x b h=>H.lo l x b (hh _ _ h),fun l l' x x' b hne h h'=>H.dj l l' x x' b hne (hh _ _ h) (hh _ _ h'),H.m0,H.ext,H.dw⟩,
  fun t v p h=>⟨(H.sl t v p (hs _ _ h)).1,(H.sl t v p (hs _ _ h)).2.anti fun b _=>hm b⟩,H.size,H.df⟩
theorem Holds.weaken {c:Ctx} {st st':St} {a:Act} {w:World} (H:Holds c st a w) (hs:Sub st'.slots st.slots) (hh:Sub st'.heap st.heap):Holds c st' a w:=by
 obtain ⟨F,H⟩:=H
 have hm:∀b,mof c st'.heap F b→mof c st.heap F b:=by
  rintro b (h|⟨l,x,h1,h2⟩)
  · exact .inl h
  · exact .inr ⟨l,x,hh.lk h1,h2⟩
 exact ⟨F,⟨⟨fun l v p h=>(H.tr l v p (hh.lk h)).anti fun b _=>hm b,fun l x b h=>H.lo l x b (hh.lk h),fun l l' x x' b hne h h'=>H.dj l l' x x' b hne (hh.lk h) (hh.lk h'),H.m0,H.ext,H.dw⟩,
  fun t v p h=>⟨(H.sl t v p (hs.lk h)).1,(H.sl t v p (hs.lk h)).2.anti fun b _=>hm b⟩,H.size,H.df⟩⟩
theorem HoldsF.up {c:Ctx} {st:St} {F:Nat→BS} {a:Act} {w w':World} (H:HoldsF c st F a w) (hx:Ext w w') (hdw:c.dr→w.drawn≤w'.drawn:=by first|exact fun _=>Xb _|exact fun _=>X3 _|assumption):HoldsF c st F a w':=
 ⟨⟨fun l v p h=>(H.tr l v p h).up hx,H.lo,H.dj,H.m0,H.ext.tr' hx.chg,fun h=>XG (H.dw h) (hdw h)⟩,fun t v p h=>⟨(H.sl t v p h).1,(H.sl t v p h).2.up hx⟩,H.size,H.df⟩
theorem HoldsF.put {c:Ctx} {st:St} {F:Nat→BS} {a:Act} {w:World} (H:HoldsF c st F a w) {d:Nat} {v:Value} {p:PV} (hd:d<c.nt) (hv:Shr (mof c st.heap F) w v p):
 HoldsF c ⟨En.put d (v,p) st.slots,st.heap⟩ F (a.put (some d) v) w:=by
 refine ⟨H.toHeapF,fun t u q ht=>?_,by simp [Act.put,H.size],H.df⟩
 rcases YS ht with ⟨rfl,he⟩|⟨hne,he⟩
 · cases he;exact ⟨by simp [Act.put,H.size,hd],hv⟩
 · obtain ⟨h1,h2⟩:=H.sl t u q he;exact ⟨by simp [Act.put,hne,h1],h2⟩
structure RdF (M:BS) (st:St) (F:Nat→BS) (a:Act) (w:World):Prop where
 tr:∀l v p,lk st.heap l=some (v,p)→Tr M w v p (F l)
 sl:∀t v p,lk st.slots t=some (v,p)→a.tmps[t]? =some v∧Shr M w v p
theorem HoldsF.rd {c:Ctx} {st:St} {F:Nat→BS} {a:Act} {w:World} (H:HoldsF c st F a w):RdF (mof c st.heap F) st F a w:=⟨H.tr,H.sl⟩
theorem RdF.to {M N:BS} {st:St} {F:Nat→BS} {a:Act} {w W:World} (H:RdF M st F a w) (hc:Chg N w W) (hN:∀b,N b→M b) (hF:∀l x b,lk st.heap l=some x→F l b→¬N b):RdF M st F a W:=
 ⟨fun l v p h=>(H.tr l v p h).to hc (fun _ _ h=>h) (fun b _ h=>hN b h) (fun b hb=>hF l _ b h hb),fun t v p h=>⟨(H.sl t v p h).1,(H.sl t v p h).2.to hc (fun b _ h=>hN b h) (fun _ _ h=>h)⟩⟩
def YE (P:Program) (st:St) (o:Oper) (V:Value→Prop) (p:PV):Prop:=∀M F a w,RdF M st F a w→∃v,V v∧Shr M w v p∧
 ∀N W,Chg N w W→(∀b,N b→M b)→(∀l x b,lk st.heap l=some x→F l b→¬N b)→(execOp a.eval o).run P W= .ok (.value v) W
theorem YE.exact {P:Program} {st:St} {o:Oper} {v:Value} {p:PV} (h:∀M F a w,RdF M st F a w→Shr M w v p∧(execOp a.eval o).run P w= .ok (.value v) w):YE P st o (· =v) p:=
 fun M F a w H=>⟨v,rfl,(h M F a w H).1,fun N W hc hN hF=>(h M F a W (H.to hc hN hF)).2⟩
def ev (slots:List (Nat×Ent)):Operand→Option Ent
 | .tmp t=>lk slots t
 | .const v=>some (v, .val v)
 | .func f=>some (.func (.func f) #[] #[], .fn f [])
 | .global _=>none
theorem RdF.ev {M:BS} {st:St} {F:Nat→BS} {a:Act} {w:World} (H:RdF M st F a w) {x:Operand} {v:Value} {p:PV} (h:ev st.slots x=some (v,p)):a.eval x=v∧Shr M w v p:=by
 cases x with
 | tmp t=>
   obtain ⟨h1,h2⟩:=H.sl t v p h;exact ⟨by simp [Act.eval,XR,h1],h2⟩
 |const u=>simp [En.ev] at h;obtain ⟨rfl,rfl⟩:=h;exact ⟨rfl, .val _⟩
 |func f=>simp [En.ev] at h;obtain ⟨rfl,rfl⟩:=h;exact ⟨rfl, .fn f [] [] rfl (fun i v p h=>by simp at h)⟩
 |global g=>simp [En.ev] at h
theorem y1 {P:Program} {st:St} {o:Oper} {x:Operand} {v u:Value} {p q:PV} (hx:ev st.slots x=some (v,p)) (hq:∀M w,Shr M w v p→Shr M w u q) (h:∀(ρ:Operand→Value) w,ρ x=v→(execOp ρ o).run P w= .ok (.value u) w):YE P st o (· =u) q:=
 .exact fun M F a w H=>⟨hq M w (H.ev hx).2,h _ w (H.ev hx).1⟩
theorem y2 {P:Program} {st:St} {o:Oper} {x y:Operand} {v v' u:Value} {p p':PV} (hx:ev st.slots x=some (v,p)) (hy:ev st.slots y=some (v',p')) (h:∀(ρ:Operand→Value) w,ρ x=v→ρ y=v'→(execOp ρ o).run P w= .ok (.value u) w):YE P st o (· =u) (.val u):=
 .exact fun M F a w H=>⟨.val _,h _ w (H.ev hx).1 (H.ev hy).1⟩
theorem ZgG {P:Program} {st:St} {o:Oper} {x:Operand} {v:Value} {p:PV} (ho:o.op= .move x) (hx:ev st.slots x=some (v,p)):YE P st o (· =v) p:=
 y1 hx (fun _ _ h=>h) fun ρ w h=>by simp [execOp,ho,h]
theorem Zck {P:Program} {st:St} {o:Oper} {x:Operand} {v:Value} {p:PV} (ho:o.op= .assign x) (hx:ev st.slots x=some (v,p)):YE P st o (· =v) p:=
 y1 hx (fun _ _ h=>h) fun ρ w h=>by simp [execOp,ho,h]
theorem ZgH {P:Program} {st:St} {o:Oper} {c x y:Operand} {b:Bool} {q:PV} {v:Value} {p:PV} (ho:o.op= .pick c x y) (hc:ev st.slots c=some (.bool b,q)) (hx:ev st.slots (if b then x else y)=some (v,p)):YE P st o (· =v) p:=
 .exact fun M F a w H=>⟨(H.ev hx).2,by
  have h1:=(H.ev hc).1;have h2:=(H.ev hx).1;simp [execOp,ho,h1,asBool]
  cases b<;>simpa using h2⟩
theorem ZhV {P:Program} {st:St} {o:Oper} {x:Operand} {t:TypeId} {b:Bool} {q:PV} (ho:o.op= .unOp .not t x) (hx:ev st.slots x=some (.bool b,q)):YE P st o (· = .bool (!b)) (.val (.bool (!b))):=
 y1 hx (fun _ _ _=> .val _) fun ρ w h=>by simp [execOp,ho,h,Op.unary]
section bin
variable {P:Program} {st:St} {o:Oper} {x y:Operand} {t t':TypeId} {q q':PV}
theorem ZhW {k:IntKind} {a b:Int} (ho:o.op= .binOp .lss t x y t') (hx:ev st.slots x=some (.int k a,q)) (hy:ev st.slots y=some (.int k b,q')):YE P st o (· = .bool (decide (a<b))) (.val (.bool (decide (a<b)))):=
 y2 hx hy fun ρ w h1 h2=>by simp [execOp,ho,h1,h2,eqGuard,binOp,Op.intCmp]
theorem ZhX {k:IntKind} {a b:Int} (ho:o.op= .binOp .leq t x y t') (hx:ev st.slots x=some (.int k a,q)) (hy:ev st.slots y=some (.int k b,q')):YE P st o (· = .bool (decide (a≤b))) (.val (.bool (decide (a≤b)))):=
 y2 hx hy fun ρ w h1 h2=>by simp [execOp,ho,h1,h2,eqGuard,binOp,Op.intCmp]
theorem ZhY {k:IntKind} {a b:Int} (ho:o.op= .binOp .gtr t x y t') (hx:ev st.slots x=some (.int k a,q)) (hy:ev st.slots y=some (.int k b,q')):YE P st o (· = .bool (decide (b<a))) (.val (.bool (decide (b<a)))):=
 y2 hx hy fun ρ w h1 h2=>by simp [execOp,ho,h1,h2,eqGuard,binOp,Op.intCmp]
theorem ZhZ {k:IntKind} {a b:Int} (ho:o.op= .binOp .geq t x y t') (hx:ev st.slots x=some (.int k a,q)) (hy:ev st.slots y=some (.int k b,q')):YE P st o (· = .bool (decide (b≤a))) (.val (.bool (decide (b≤a)))):=
 y2 hx hy fun ρ w h1 h2=>by simp [execOp,ho,h1,h2,eqGuard,binOp,Op.intCmp]
theorem Zh0 {k:IntKind} {a b:Int} (ho:o.op= .binOp .eql t x y t') (hx:ev st.slots x=some (.int k a,q)) (hy:ev st.slots y=some (.int k b,q')):YE P st o (· = .bool (decide (a=b))) (.val (.bool (decide (a=b)))):=
 y2 hx hy fun ρ w h1 h2=>by simp [execOp,ho,h1,h2,eqGuard,binOp,Op.intCmp];rfl
theorem Zh1 {k:IntKind} {a b:Int} (ho:o.op= .binOp .neq t x y t') (hx:ev st.slots x=some (.int k a,q)) (hy:ev st.slots y=some (.int k b,q')):YE P st o (· = .bool (decide (a≠b))) (.val (.bool (decide (a≠b)))):=
 y2 hx hy fun ρ w h1 h2=>by
  simp [execOp,ho,h1,h2,eqGuard,binOp,Op.intCmp,bne];rfl
theorem Zgo {a b:Int} (ho:o.op= .binOp .add t x y t') (hx:ev st.slots x=some (.int .i64 a,q)) (hy:ev st.slots y=some (.int .i64 b,q')) (h1: -9223372036854775808≤a+b) (h2:a+b≤9223372036854775807):YE P st o (· = .int .i64 (a+b)) (.val (.int .i64 (a+b))):=
 y2 hx hy fun ρ w h3 h4=>by
  simp [execOp,ho,h3,h4,eqGuard,binOp,Op.intArith];exact IntWalk.i64_in _ oM
theorem Zgp {a b:Int} (ho:o.op= .binOp .sub t x y t') (hx:ev st.slots x=some (.int .i64 a,q)) (hy:ev st.slots y=some (.int .i64 b,q')) (h1: -9223372036854775808≤a-b) (h2:a-b≤9223372036854775807):YE P st o (· = .int .i64 (a-b)) (.val (.int .i64 (a-b))):=
 y2 hx hy fun ρ w h3 h4=>by
  simp [execOp,ho,h3,h4,eqGuard,binOp,Op.intArith];exact IntWalk.i64_in _ oM
theorem Zh2 {a b:Int} (ho:o.op= .binOp .mul t x y t') (hx:ev st.slots x=some (.int .i64 a,q)) (hy:ev st.slots y=some (.int .i64 b,q')) (h1: -9223372036854775808≤a*b) (h2:a*b≤9223372036854775807):YE P st o (· = .int .i64 (a*b)) (.val (.int .i64 (a*b))):=
 y2 hx hy fun ρ w h3 h4=>by
  simp [execOp,ho,h3,h4,eqGuard,binOp,Op.intArith];exact IntWalk.i64_in _ oM
theorem ZgI {a b:ByteArray} (ho:o.op= .binOp .eql t x y t') (hx:ev st.slots x=some (.string a,q)) (hy:ev st.slots y=some (.string b,q')):YE P st o (· = .bool (a.toList==b.toList)) (.val (.bool (a.toList==b.toList))):=
 y2 hx hy fun ρ w h1 h2=>by simp [execOp,ho,h1,h2,eqGuard,binOp,Op.stringOp]
theorem ZgJ {a b:ByteArray} (ho:o.op= .binOp .neq t x y t') (hx:ev st.slots x=some (.string a,q)) (hy:ev st.slots y=some (.string b,q')):YE P st o (· = .bool (!(a.toList==b.toList))) (.val (.bool (!(a.toList==b.toList)))):=
 y2 hx hy fun ρ w h1 h2=>by simp [execOp,ho,h1,h2,eqGuard,binOp,Op.stringOp]
theorem ζx (hu:P.underlying t=some .bool) (a b:Bool) (w:World):(Op.equal t (.bool a) (.bool b)).run P w= .ok (a==b) w:=by
 unfold Op.equal Op.maxDepth
 rw [show (10000:Nat)=9999+1 from rfl,Op.equalIn]
 simp [run_underlying hu]
theorem ZgK {a b:Bool} (hu:P.underlying t=some .bool) (ho:o.op= .binOp .eql t x y t') (hx:ev st.slots x=some (.bool a,q)) (hy:ev st.slots y=some (.bool b,q')):YE P st o (· = .bool (a==b)) (.val (.bool (a==b))):=
 y2 hx hy fun ρ w h1 h2=>by simp [execOp,ho,h1,h2,eqGuard,binOp,ζx hu]
theorem ZgL {a b:Bool} (hu:P.underlying t=some .bool) (ho:o.op= .binOp .neq t x y t') (hx:ev st.slots x=some (.bool a,q)) (hy:ev st.slots y=some (.bool b,q')):YE P st o (· = .bool (!(a==b))) (.val (.bool (!(a==b)))):=
 y2 hx hy fun ρ w h1 h2=>by simp [execOp,ho,h1,h2,eqGuard,binOp,ζx hu]
theorem Zex {s:ByteArray} {i:Int} {c:UInt8} {k:IntKind} (hu:P.underlying t=some .string) (ho:o.op= .index t x y) (hx:ev st.slots x=some (.string s,q)) (hy:ev st.slots y=some (.int k i,q')) (hi:0≤i) (hc:s.data[i.toNat]? =some c):YE P st o (· = .int .u8 c.toNat) (.val (.int .u8 c.toNat)):=
 y2 hx hy fun ρ w h1 h2=>by
  have:s[i.toNat]? =some c:=by
   rw [←hc];show (if h:i.toNat<s.size then some (s.get i.toNat h) else none)=_;split
   · rename_i h;rw [Array.getElem?_eq_getElem (show i.toNat<s.data.size from h)];rfl
   · rename_i h;rw [XX (Nat.le_of_not_lt h)]
  simp [execOp,ho,h1,h2,Instr.index,asIntOf,run_underlying hu,hi,this]
end bin
theorem Zcl {P:Program} {st:St} {o:Oper} {x:Operand} {s d:TypeId} {k k':IntKind} {a:Int} {q:PV} {ds:TypeDesc} (hs:P.underlying s=some ds) (hd:P.underlying d=some (.int k')) (ho:o.op= .convert s d x) (hx:ev st.slots x=some (.int k a,q)) (hw:k'.wrap a=a):YE P st o (· = .int k' a) (.val (.int k' a)):=
 y1 hx (fun _ _ _=> .val _) fun ρ w h=>by
  simp [execOp,ho,h,convert,run_underlying hs,run_underlying hd,Conv.intToInt,hw]
theorem ZgM {P:Program} {st:St} {o:Oper} {x:Operand} {t:TypeId} {s:ByteArray} {q:PV} (ht:P.underlying t=some .string) (ho:o.op= .call {callee:= .builtin .len,args:= #[x],argTypes:= #[t]}) (hx:ev st.slots x=some (.string s,q)):YE P st o (· = .int .i64 s.size) (.val (.int .i64 s.size)):=
 y1 hx (fun _ _ _=> .val _) fun ρ w h=>by
  simp [execOp,ho,h,resolve,invoke,builtin,Builtin.len_,run_underlying ht,goInt]
theorem ZaS {P:Program} {st:St} {o:Oper} {x:Operand} {i:Nat} {vs:List Value} {ps:List PV} {v:Value} {p:PV} (ho:o.op= .extract x i) (hx:ev st.slots x=some (.tuple vs.toArray, .tup ps)) (hv:vs[i]? =some v) (hp:ps[i]? =some p):YE P st o (· =v) p:=
 .exact fun M F a w H=>by
  obtain ⟨h1,h2⟩:=H.ev hx;generalize hu:Value.tuple vs.toArray=u at h2
  cases h2 with
  | tup vs' ps' hl h=>
    (have:vs'=vs:=by injection hu with hu;simpa using hu.symm);subst this;refine ⟨h i v p hv hp,?_⟩;simp [execOp,ho,h1,Instr.extract,hv]
def sbase:Value→Value
 | .slice (some a) _ _=> .pointer (some a)
 |v=>v
def padd:Value→Nat→Value
 | .pointer (some a),j=> .pointer (some ⟨a.block,a.off+j,none⟩)
 |v,_=>v
theorem Y0 (b o j:Nat):(⟨b,o,none⟩:Addr).add j=⟨b,o+j,none⟩:=by
 unfold Addr.add;split
 · rename_i h;rw [h,XL]
 · rfl
def isSh:PV→Bool
 | .val _| .sl _ _| .sptr _ _| .smap _| .smapS _ _| .fn _ _=>true
 |_=>false
def vOf:PV→Value→Prop
 | .val v=>fun u=>u=v
 |_=>fun _=>True
theorem Tr.sh {M:BS} {w:World} {v:Value} {p:PV} {F:BS} (h:Tr M w v p F) (hp:isSh p=true):Shr M w v p:=by
 cases h with
 |shr h _=>exact h
 |_=>simp [isSh] at hp
theorem Shr.vOf {M:BS} {w:World} {v:Value} {p:PV} (h:Shr M w v p):vOf p v:=by
 cases h with
 |val v=>exact rfl
 |_=>exact trivial
theorem Tr.row {M:BS} {w:World} {h:Value} {e k n:Nat} {cs:List PV} {F:BS} (H:Tr M w h (.own e k n cs) F):∃(xs:List Value) (Fs:Nat→BS),w.ownsRow 0 e k h n xs∧cs.length=xs.length∧
 (∀(i:Nat) (x:Value) (p:PV),xs[i]? =some x→cs[i]? =some p→Tr M w x p (Fs i))∧(∀i j b,i<cs.length→j<cs.length→i≠j→Fs i b→¬Fs j b)∧(∀i b,i<cs.length→Fs i b→h.ownBlock≠some b)∧
 (∀b,F b↔(h.ownBlock=some b∨∃i,i<cs.length∧Fs i b)):=by
 cases H with
 |shr h _=>cases h
 |own xs Fs hrow hl hT hd hb hF=>exact ⟨xs,Fs,hrow,hl,hT,hd,hb,hF⟩
def SlT (P:Program) (t e k:Nat):Bool:=(match P.underlying t with|some (.slice e')=>Nat.beq e' e|_=>false)&&(match P.info? e with|some i=>Nat.beq i.size k|none=>false)
theorem SlT.und {P:Program} {t e k:Nat} (h:SlT P t e k=true):P.underlying t=some (.slice e):=by
 simp only [SlT,Xf] at h
 have h1:=h.1
 split at h1
 · rename_i e' he;rw [he,XE h1]
 · cases h1
theorem SlT.size {P:Program} {t e k:Nat} (h:SlT P t e k=true) (w:World):(sizeOf e).run P w= .ok k w:=by
 simp only [SlT,Xf] at h
 have h1:=h.2
 split at h1
 · rename_i i hi;have:=XE h1;simp [sizeOf,typeInfo,hi,this]
 · cases h1
def NoAgg (P:Program) (t:Nat):Bool:=match P.underlying t with
 |some (.struct _)|some (.array _ _)|none=>false
 |some _=>true
theorem NoAgg.run {P:Program} {t:Nat} (h:NoAgg P t=true) (w:World):(isAgg t).run P w= .ok false w:=by
 unfold NoAgg at h
 unfold isAgg
 cases hu:P.underlying t with
 |none=>rw [hu] at h;simp at h
 | some d=>
   rw [hu] at h;simp only [Sem.run_bind,run_underlying hu,Result.andThen_ok]
   cases d<;>simp at h ⊢
def Zh3 (P:Program) (t:Nat):Bool:=match P.underlying t with|some (.struct _)=>true|_=>false
def AggT (P:Program) (t k:Nat):Bool:=(match P.underlying t with|some (.struct _)=>true|some (.array _ _)=>true|_=>false)&&(match P.info? t with|some i=>Nat.beq i.size k|none=>false)
theorem AggT.run {P:Program} {t k:Nat} (h:AggT P t k=true) (w:World):(isAgg t).run P w= .ok true w:=by
 simp only [AggT,Xf] at h
 have h1:=h.1
 split at h1
 · rename_i fs hf;simp [isAgg,run_underlying hf]
 · rename_i fs e hf;simp [isAgg,run_underlying hf]
 · cases h1
theorem AggT.size {P:Program} {t k:Nat} (h:AggT P t k=true) (w:World):(sizeOf t).run P w= .ok k w:=by
 simp only [AggT,Xf] at h
 have h1:=h.2
 split at h1
 · rename_i i hi;have:=XE h1;simp [sizeOf,typeInfo,hi,this]
 · cases h1
def FldT (P:Program) (s f o:Nat):Bool:=match P.underlying s with
 | some (.struct fs)=>match fs[f]? with
   |some fd=>Nat.beq fd.offset o&&(match P.info? fd.type with|some i=> !Nat.beq i.size 0|none=>false)
   |none=>false
 |_=>false
theorem FldT.run {P:Program} {s f o:Nat} (h:FldT P s f o=true) (b i:Nat) (w:World):(Instr.fieldAt s (.pointer (some ⟨b,i,none⟩)) f).run P w= .ok (.pointer (some ⟨b,i+o,none⟩)) w:=by
 unfold FldT at h
 split at h
 · rename_i fs hfs;split at h
   · rename_i fd hfd;rw [Xf] at h;obtain ⟨h1,h2⟩:=h;split at h2
     · rename_i inf hi;have ho:=XE h1;(have hz:inf.size≠0:=fun hz=>by rw [hz] at h2;simp at h2);simp [Instr.fieldAt,run_underlying hfs,hfd,Instr.sureAddr,fieldPlace,sizeOf,typeInfo,hi,hz,Y0,ho]
     · cases h2
   · cases h
 · cases h
section
variable {P:Program} {st:St} {o:Oper}
theorem Lu {t e k:Nat} (hT:SlT P t e k=true) {b off n c:Nat} {kd:IntKind} {i:Int} (h0:0≤i) (h1:i<n) (w:World):(Instr.indexAt t (.slice (some ⟨b,off,none⟩) n c) (.int kd i)).run P w= .ok (.pointer (some ⟨b,off+i.toNat*k,none⟩)) w:=by
 simp [Instr.indexAt,asIntOf,run_underlying (SlT.und hT),h0,h1,SlT.size hT,Y0]
theorem O1 {t e k n:Nat} {x y:Operand} {v:Value} {cs:List PV} {q:PV} {kd:IntKind} {i:Int} (hT:SlT P t e k=true) (ho:o.op= .indexAddr t x y) (hx:ev st.slots x=some (v, .sl n cs)) (hy:ev st.slots y=some (.int kd i,q)) (h0:0≤i) (h1:i<n):
 YE P st o (· =padd (sbase v) (i.toNat*k)) (.sptr (i.toNat*k) cs):=
 .exact fun M F a w H=>by
  obtain ⟨hv,hs⟩:=H.ev hx;have hi:=(H.ev hy).1
  cases hs with
  |emp a c=>simp at h1;omega
  | sl b off n c cs vs hn hc hcell hT'=>
    refine ⟨.sptr b off (i.toNat*k) cs vs hcell hT',?_⟩;simp [execOp,ho,hv,hi,Lu hT h0 h1,sbase,padd]
theorem Cp {t e k n:Nat} {x y:Operand} {v:Value} {cs:List PV} {q:PV} {kd:IntKind} {i:Nat} (hT:SlT P t e k=true) (ho:o.op= .indexAddr t x y) (hx:ev st.slots x=some (v, .sl n cs)) (hy:ev st.slots y=some (.int kd (i:Int),q)) (h1:i<n):
 YE P st o (· =padd (sbase v) (i*k)) (.sptr (i*k) cs):=by
 have:=O1 hT ho hx hy oM oM
 rw [X4] at this
 exact this
theorem Jq {M:BS} {w:World} {h:Value} {e k n:Nat} {cs:List PV} {F:BS} (H:Tr M w h (.own e k n cs) F) (hn:0<n):∃g cap,h= .slice (some ⟨g,0,none⟩) n cap∧n≤cap∧cap≤maxLen∧g<w.heap.size:=by
 obtain ⟨xs,Fs,hrow,_⟩:=H.row
 rcases YZ hrow with ⟨_,h0,_⟩|h1
 · omega
 · exact h1
theorem O2 {t e k e' k' n:Nat} {x y:Operand} {h:Value} {p q:PV} {cs:List PV} {kd:IntKind} {i:Int} (l:Nat) (hT:SlT P t e k=true) (ho:o.op= .indexAddr t x y) (hx:ev st.slots x=some (h,p)) (hy:ev st.slots y=some (.int kd i,q)) (hl:lk st.heap l=some (h, .own e' k' n cs)) (h0:0≤i) (h1:i<n):
 YE P st o (· =padd (sbase h) (i.toNat*k)) (.val (padd (sbase h) (i.toNat*k))):=
 .exact fun M F a w H=>by
  have hv:=(H.ev hx).1;have hi:=(H.ev hy).1;obtain ⟨g,cap,rfl,_⟩:=Jq (H.tr l _ _ hl) oM;refine ⟨.val _,?_⟩;simp [execOp,ho,hv,hi,Lu hT h0 h1,sbase,padd]
theorem Cq {t e k e' k' n:Nat} {x y:Operand} {h:Value} {p q:PV} {cs:List PV} {kd:IntKind} {i:Nat} (l:Nat) (hT:SlT P t e k=true) (ho:o.op= .indexAddr t x y) (hx:ev st.slots x=some (h,p)) (hy:ev st.slots y=some (.int kd (i:Int),q)) (hl:lk st.heap l=some (h, .own e' k' n cs)) (h1:i<n):
 YE P st o (· =padd (sbase h) (i*k)) (.val (padd (sbase h) (i*k))):=by
 have:=O2 l hT ho hx hy hl oM oM
 rw [X4] at this
 exact this
theorem ZaT {s f fo j:Nat} {x:Operand} {v:Value} {cs:List PV} (hT:FldT P s f fo=true) (ho:o.op= .fieldAddr s x f) (hx:ev st.slots x=some (v, .sptr j cs)):
 YE P st o (· =padd v fo) (.sptr (j+fo) cs):=
 .exact fun M F a w H=>by
  obtain ⟨hv,hs⟩:=H.ev hx
  cases hs with
  | sptr b off j cs vs hcell hT'=>
    refine ⟨?_,?_⟩
    · have:=Shr.sptr (M:=M) (w:=w) b off (j+fo) cs vs hcell hT';rw [←Vk] at this;exact this
    · simp [execOp,ho,hv,FldT.run hT,padd]
theorem ZaU {s f fo j e k n:Nat} {x:Operand} {h:Value} {p:PV} {cs:List PV} (l:Nat) (hT:FldT P s f fo=true) (ho:o.op= .fieldAddr s x f) (hx:ev st.slots x=some (padd (sbase h) j,p)) (hl:lk st.heap l=some (h, .own e k n cs)) (hn:0<n):
 YE P st o (· =padd (sbase h) (j+fo)) (.val (padd (sbase h) (j+fo))):=
 .exact fun M F a w H=>by
  have hv:=(H.ev hx).1;obtain ⟨g,cap,rfl,_⟩:=Jq (H.tr l _ _ hl) hn;refine ⟨.val _,?_⟩;simp only [sbase,padd] at hv ⊢;simp [execOp,ho,hv,FldT.run hT,Vk]
theorem Zcm {t j:Nat} {x:Operand} {v:Value} {cs:List PV} {p:PV} (hT:NoAgg P t=true) (ho:o.op= .load t x) (hx:ev st.slots x=some (v, .sptr j cs)) (hp:cs[j]? =some p):
 YE P st o (vOf p) p:=fun M F a w H=>by
 obtain ⟨hv,hs⟩:=H.ev hx
 cases hs with
 | sptr b off j cs vs hcell hT'=>
   have hS:=hT' j p hp;obtain ⟨hc1,hc2⟩:=hcell j (Zg hp);refine ⟨vs j,hS.vOf,hS,fun N W hch hN hF=>?_⟩;have:=TO hch (fun hn=>hc2 (hN _ hn)) hc1;simp [execOp,ho,hv,Instr.loadAt,Instr.sureAddr,loadVar,NoAgg.run hT,load,Sem.run,this]
theorem Zcn {t j e k n:Nat} {x:Operand} {h:Value} {q:PV} {cs:List PV} {p:PV} (l:Nat) (hT:NoAgg P t=true) (ho:o.op= .load t x) (hx:ev st.slots x=some (padd (sbase h) j,q)) (hl:lk st.heap l=some (h, .own e k n cs)) (hp:cs[j]? =some p) (hsh:isSh p=true):
 YE P st o (vOf p) p:=fun M F a w H=>by
 have hv:=(H.ev hx).1
 obtain ⟨xs,Fs,hrow,hlen,hTr,hd,hb,hF'⟩:=(H.tr l _ _ hl).row
 have hj:=Zg hp
 rcases YZ hrow with ⟨_,_,rfl⟩|⟨g,cap,rfl,h1,h2,h3⟩
 · simp at hlen;rw [hlen] at hj;simp at hj
 obtain ⟨y,hy⟩:=YJ hp hlen
 have hS:=(hTr j y p hy hp).sh hsh
 refine ⟨y,hS.vOf,hS,fun N W hch hN hF=>?_⟩
 have:=TO hch (hF l _ g hl ((hF' g).2 (.inl rfl))) (WK hrow hy)
 simp only [sbase,padd,Xv] at hv
 simp [execOp,ho,hv,Instr.loadAt,Instr.sureAddr,loadVar,NoAgg.run hT,load,Sem.run,this]
theorem ZaV {t k j:Nat} {x:Operand} {v:Value} {cs:List PV} (hT:AggT P t k=true) (ho:o.op= .load t x) (hx:ev st.slots x=some (v, .sptr j cs)) (hp:j+k≤cs.length):
 YE P st o (fun _=>True) (.agg ((cs.drop j).take k)):=fun M F a w H=>by
 obtain ⟨hv,hs⟩:=H.ev hx
 cases hs with
 | sptr b off j cs vs hcell hT'=>
   refine ⟨.agg ((List.range k).map fun i=>vs (j+i)).toArray,trivial, .agg _ _ (by simp;omega) (fun i u p hu hp'=>?_),fun N W hch hN hF=>?_⟩
   · (have hi:i<k:=by have:=Zg hu;simpa using this);simp [hi] at hu;subst hu;rw [X5 hi,XT] at hp';exact hT' _ p hp'
   · have hcl:∀i u,((List.range k).map fun i=>vs (j+i))[i]? =some u→W.cell? ((⟨b,off+j,none⟩:Addr).add i)=some u:=fun i u hu=>by
      (have hi:i<k:=by have:=Zg hu;simpa using this);simp [hi] at hu;subst hu;obtain ⟨hc1,hc2⟩:=hcell (j+i) oM;rw [Y0,Vk];exact TO hch (fun hn=>hc2 (hN _ hn)) hc1
     have:=run_loadCells_list (P:=P) (w:=W) ⟨b,off+j,none⟩ _ hcl;simp only [Xe,List.length_range] at this;simp [execOp,ho,hv,Instr.loadAt,Instr.sureAddr,loadVar,AggT.run hT,AggT.size hT,this]
theorem ZaW {t k j e k' n:Nat} {x:Operand} {h:Value} {q:PV} {cs:List PV} (l:Nat) (hT:AggT P t k=true) (ho:o.op= .load t x) (hx:ev st.slots x=some (padd (sbase h) j,q)) (hl:lk st.heap l=some (h, .own e k' n cs)) (hp:j+k≤cs.length) (hsh:((cs.drop j).take k).all isSh=true) (hk:0<k):
 YE P st o (fun _=>True) (.agg ((cs.drop j).take k)):=fun M F a w H=>by
 have hv:=(H.ev hx).1
 obtain ⟨xs,Fs,hrow,hlen,hTr,hd,hb,hF'⟩:=(H.tr l _ _ hl).row
 rcases YZ hrow with ⟨_,_,rfl⟩|⟨g,cap,rfl,h1,h2,h3⟩
 · simp at hlen;rw [hlen] at hp;simp at hp;omega
 refine ⟨.agg ((xs.drop j).take k).toArray,trivial, .agg _ _ (by simp;omega) (fun i u p hu hp'=>?_),fun N W hch hN hF=>?_⟩
 · have hi:i<k:=by have:=Zg hu;simp at this;omega
   have hps:=Xj.1 hsh p (Xd hp');rw [X5 hi,XT] at hp' hu;exact (hTr _ u p hu hp').sh hps
 · have hcl:∀i u,((xs.drop j).take k)[i]? =some u→W.cell? ((⟨g,0+j,none⟩:Addr).add i)=some u:=fun i u hu=>by
    (have hi:i<k:=by have:=Zg hu;simp at this;omega);rw [X5 hi,XT] at hu;rw [Y0,Xv];exact TO hch (hF l _ g hl ((hF' g).2 (.inl rfl))) (WK hrow hu)
   have:=run_loadCells_list (P:=P) (w:=W) ⟨g,0+j,none⟩ _ hcl;rw [show ((xs.drop j).take k).length=k by simp;omega] at this;simp only [sbase,padd,Xv] at hv this;simp [execOp,ho,hv,Instr.loadAt,Instr.sureAddr,loadVar,AggT.run hT,AggT.size hT,this]
theorem ZaX {t e k n:Nat} {x:Operand} {v:Value} {cs:List PV} (hT:SlT P t e k=true) (ho:o.op= .call {callee:= .builtin .len,args:= #[x],argTypes:= #[t]}) (hx:ev st.slots x=some (v, .sl n cs)):YE P st o (· = .int .i64 n) (.val (.int .i64 n)):=
 .exact fun M F a w H=>by
  obtain ⟨hv,hs⟩:=H.ev hx
  cases hs with
  |emp a c=>exact ⟨.val _,by simp [execOp,ho,hv,resolve,invoke,builtin,Builtin.len_,run_underlying (SlT.und hT),goInt]⟩
  |sl b off n c cs vs hn hc hcell hT'=>exact ⟨.val _,by simp [execOp,ho,hv,resolve,invoke,builtin,Builtin.len_,run_underlying (SlT.und hT),goInt]⟩
theorem ZaY {t e k e' k' n:Nat} {x:Operand} {h:Value} {p:PV} {cs:List PV} (l:Nat) (hT:SlT P t e k=true) (ho:o.op= .call {callee:= .builtin .len,args:= #[x],argTypes:= #[t]}) (hx:ev st.slots x=some (h,p)) (hl:lk st.heap l=some (h, .own e' k' n cs)):YE P st o (· = .int .i64 n) (.val (.int .i64 n)):=
 .exact fun M F a w H=>by
  have hv:=(H.ev hx).1;obtain ⟨xs,Fs,hrow,hlen,_⟩:=(H.tr l _ _ hl).row;rcases YZ hrow with ⟨rfl,rfl,_⟩|⟨g,cap,rfl,h1,h2,h3⟩
  · exact ⟨.val _,by simp [execOp,ho,hv,resolve,invoke,builtin,Builtin.len_,run_underlying (SlT.und hT),goInt]⟩
  · exact ⟨.val _,by simp [execOp,ho,hv,resolve,invoke,builtin,Builtin.len_,run_underlying (SlT.und hT),goInt]⟩
end
def aL (P:Program) (c:Ctx) (ops:Array Oper) (Q:Exit→Act→World→Prop) (l:List Oper) (st:St):Prop:=∀a w,Holds c st a w→wpList P ops Q l a w
def Z7 (ops:Array Oper) (slots:List (Nat×Ent)) (o:Oper):Option Bool:=match o.guard with
 |none=>some true
 | some (j,want)=>match (ops[j]?).bind (·.dst) with
   | some d=>match lk slots d with
     |some (.bool b,_)=>some (b==want)
     |some (.tuple _,_)=>some false
     |_=>none
   |none=>none
theorem Kw {M:BS} {sL hP:List (Nat×Ent)} {F:Nat→BS} {a:Act} {w:World} (H:RdF M (⟨sL,hP⟩:St) F a w) {ops:Array Oper} {o:Oper} {b:Bool} (h:Z7 ops sL o=some b):Region.wanted o (yielded ops a.tmps)=b:=by
 unfold Z7 at h
 unfold Region.wanted
 split at h
 · rename_i hg;rw [hg];cases h;rfl
 · rename_i j want hg;rw [hg];split at h
   · rename_i d hd;split at h
     · rename_i b' q hq
       cases h;have:=(H.sl d _ _ hq).1;simp only [yielded,hd,Option.bind_some,this];simp
     · rename_i b' q hq
       cases h;have:=(H.sl d _ _ hq).1;simp only [yielded,hd,Option.bind_some,this];rfl
     · cases h
   · cases h
section
variable {P:Program} {c:Ctx} {ops:Array Oper} {Q:Exit→Act→World→Prop} {rest:List Oper} {sL hP:List (Nat×Ent)} {o:Oper}
theorem Zey (d:Nat) (hw:Z7 ops sL o=some false) (hd:o.dst=some d) (hn:d<c.nt) (k:aL P c ops Q rest ⟨put d (undef, .val undef) sL,hP⟩):aL P c ops Q (o::rest) (⟨sL,hP⟩:St):=fun a w ⟨F,H⟩=>by
 have h1:=Kw H.rd hw
 unfold wpList
 rw [h1,Uo sM,hd]
 exact k _ _ ⟨F,H.put hn (.val _)⟩
theorem Y8 (hw:Z7 ops sL o=some true) (h:∀a w F,HoldsF c (⟨sL,hP⟩:St) F a w→o.wp P a w (wpList P ops Q rest) Q):aL P c ops Q (o::rest) (⟨sL,hP⟩:St):=fun a w ⟨F,H⟩=>by
 have h1:=Kw H.rd hw
 unfold wpList
 rw [h1,Up rfl]
 exact .inl (h a w F H)
theorem Zh4 {V:Value→Prop} {p:PV} (d:Nat) (hw:Z7 ops sL o=some true) (hd:o.dst=some d) (hn:d<c.nt) (hy:YE P (⟨sL,hP⟩:St) o V p) (k:∀v,V v→aL P c ops Q rest ⟨put d (v,p) sL,hP⟩):aL P c ops Q (o::rest) (⟨sL,hP⟩:St):=
 Y8 hw fun a w F H=>by
  obtain ⟨v,hV,hS,hr⟩:=hy _ F a w H.rd;have:=hr (fun _=>False) w (Chg.rfl' _ _) (fun _ h=>h.elim) (fun _ _ _ _ _ h=>h);unfold Oper.wp;rw [this,Oper.upon_value,hd];exact k v hV _ _ ⟨F,H.put hn hS⟩
theorem Ziz {v:Value} {p:PV} (d:Nat) (hw:Z7 ops sL o=some true) (hd:o.dst=some d) (hn:d<c.nt) (hy:YE P (⟨sL,hP⟩:St) o (· =v) p) (k:aL P c ops Q rest ⟨put d (v,p) sL,hP⟩):aL P c ops Q (o::rest) (⟨sL,hP⟩:St):=
 Zh4 d hw hd hn hy fun u hu=>by cases hu;exact k
theorem HJ {l:List Oper} (t:Nat) {b:Bool} {q:PV} (hx:lk sL t=some (.bool b,q)) (ht:b=true→aL P c ops Q l ⟨put t (.bool true, .val (.bool true)) sL,hP⟩) (hf:b=false→aL P c ops Q l ⟨put t (.bool false, .val (.bool false)) sL,hP⟩):aL P c ops Q l (⟨sL,hP⟩:St):=fun a w ⟨F,H⟩=>by
 have key:HoldsF c ⟨put t (.bool b, .val (.bool b)) sL,hP⟩ F a w:=⟨H.toHeapF,fun s u r hs=>by
  rcases YS hs with ⟨rfl,e⟩|⟨_,e⟩
  · cases e;exact ⟨(H.sl _ _ _ hx).1, .val _⟩
  · exact H.sl s u r e,H.size,H.df⟩
 cases b
 · exact hf rfl a w ⟨F,key⟩
 · exact ht rfl a w ⟨F,key⟩
theorem Wh {F:Nat→BS} {a:Act} {w:World} (H:HoldsF c (⟨sL,hP⟩:St) F a w) {l d:Nat} {vs:List Value} {ps:List PV} {e k n cap:Nat} {cur:Array Value} {v:Value} (hl:lk hP l=none) (hd:d<c.nt)
 (hvs:vs.length=ps.length) (hsh:∀(i:Nat) (x:Value) (q:PV),vs[i]? =some x→ps[i]? =some q→Shr (mof c hP F) w x q)
 (hn:vs.length=n*k) (hcap:n≤cap) (hcm:cap≤maxLen) (hcs:cur.size=cap*k) (htk:cur.toList.take (n*k)=vs):
 ∃F',HoldsF c ⟨put d (v, .val v) sL,put l (.slice (some ⟨w.heap.size,0,none⟩) n cap, .own e k n ps) hP⟩ F' (a.put (some d) v) (w.alloc (.cells cur e)):=by
 refine ⟨fun l'=>if l'=l then (fun b=>b=w.heap.size) else F l',?_⟩
 have hx:Ext w (w.alloc (.cells cur e)):=Ext.alloc _ _
 refine H.change (fun l'=>l'=l) hd (hx.chg) (fun l' x hne hx'=>?_) (fun l' x b hT hx' hb=>?_) (fun hm l' u q hT hx'=>?_) (fun l1 l2 _ _ _ h1 h2 hne=>Uq (h1.trans h2.symm) hne) (fun hm=> .val _)
 · rcases YS hx' with ⟨e1,_⟩|⟨_,e1⟩
   · exact Uq e1.symm hne
   · exact ⟨e1,by simp [hne]⟩
 · subst hT;simp only [if_true] at hb;exact .inr (by rw [hb];exact Xb _)
 · subst hT;rcases YS hx' with ⟨_,e1⟩|⟨e1,_⟩
   · cases e1;simp only [if_true];refine .own vs (fun _ _=>False) ⟨hn, .inr ⟨w.heap.size,cap,cur,rfl,Xh _,?_,hcap,hcm,hcs,htk⟩⟩ hvs.symm (fun i x q hx1 hq=>?_) (fun _ _ _ _ _ _ h=>h.elim) (fun _ _ _ h=>h.elim) (fun b=>?_)
     · show (w.heap.push _)[w.heap.size]? =_;simp
     · exact .shr ((hsh i x q hx1 hq).to (hx.chg (M:=fun _=>False)) (fun _ _ h=>h.elim) hm) (fun _ h=>h)
     · simp [Value.ownBlock,eq_comm]
   · exact Uq rfl e1
theorem WH {v:Value} (h:v.oneCell'=true):v.cells= #[v]:=by cases v<;>first|rfl|(simp [Value.oneCell'] at h)
def one:PV→Bool
 | .val v=>v.oneCell'
 | .sl _ _| .sptr _ _| .smap _| .smapS _ _| .fn _ _=>true
 |_=>false
theorem Shr.one {M:BS} {w:World} {v:Value} {p:PV} (h:Shr M w v p) (hp:one p=true):v.oneCell'=true:=by
 cases h with
 |val v=>exact hp
 |agg=>simp [En.one] at hp
 |tup=>simp [En.one] at hp
 |_=>rfl
theorem Zez {t:TypeId} {x:Operand} {v:Value} {p:PV} (d:Nat) (hw:Z7 ops sL o=some true) (hd:o.dst=some d) (hn:d<c.nt) (ho:o.op= .box t x) (hx:ev sL x=some (v,p)) (h1:one p=true) (hl:lk hP d=none)
 (k:∀h:Value,aL P c ops Q rest ⟨put d (padd (sbase h) 0, .val (padd (sbase h) 0)) sL,put d (h, .own t 1 1 [p]) hP⟩):aL P c ops Q (o::rest) (⟨sL,hP⟩:St):=
 Y8 hw fun a w F H=>by
  obtain ⟨hv,hS⟩:=H.rd.ev hx;obtain ⟨F',H'⟩:=Wh (e:=t) (k:=1) (n:=1) (cap:=1) (cur:= #[v]) (v:= .pointer (some ⟨w.heap.size,0,none⟩)) H hl hn (vs:=[v]) (ps:=[p]) rfl (fun i y q hy hq=>by
   match i with
   |0=>simp at hy hq;subst hy hq;exact hS
   |i+1=>simp at hy) rfl (Xb _) (by unfold maxLen;omega) rfl rfl
  unfold Oper.wp execOp;simp [ho,hv,Instr.box,newVar,newRow,newObj,Sem.run,WH (hS.one h1),hd,Oper.upon];exact k (.slice (some ⟨w.heap.size,0,none⟩) 1 1) _ _ ⟨F',H'⟩
theorem ZeA {t:TypeId} {x:Operand} {v:Value} {ps:List PV} (d m:Nat) (hw:Z7 ops sL o=some true) (hd:o.dst=some d) (hn:d<c.nt) (ho:o.op= .box t x) (hx:ev sL x=some (v, .agg ps)) (hm:ps.length=m) (hl:lk hP d=none)
 (k:∀h:Value,aL P c ops Q rest ⟨put d (padd (sbase h) 0, .val (padd (sbase h) 0)) sL,put d (h, .own t m 1 ps) hP⟩):aL P c ops Q (o::rest) (⟨sL,hP⟩:St):=
 Y8 hw fun a w F H=>by
  obtain ⟨hv,hS⟩:=H.rd.ev hx
  cases hS with
  | agg vs ps hlen hT=>
    obtain ⟨F',H'⟩:=Wh (e:=t) (k:=m) (n:=1) (cap:=1) (cur:=vs.toArray) (v:= .pointer (some ⟨w.heap.size,0,none⟩)) H hl hn (vs:=vs) (ps:=ps) hlen hT oM (Xb _) (by unfold maxLen;omega) (by simp;omega) (Xs (by simp;omega));unfold Oper.wp execOp;simp [ho,hv,Instr.box,newVar,newRow,newObj,Sem.run,Value.cells,hd,Oper.upon];exact k (.slice (some ⟨w.heap.size,0,none⟩) 1 1) _ _ ⟨F',H'⟩
def ZeroT (P:Program) (t:Nat) (z:Value):Prop:=(P.info? t).map (fun i=>i.zero)=some (some z)
theorem ZeroT.run {t:Nat} {z:Value} (h:ZeroT P t z) (w:World):(zeroValue t).run P w= .ok z w:=by
 unfold ZeroT at h
 rw [XS] at h
 obtain ⟨i,h1,h2⟩:=h
 simp [zeroValue,typeInfo,h1,h2]
theorem Zco {t:TypeId} {z:Value} (zs:List Value) (m:Nat) (d:Nat) (hw:Z7 ops sL o=some true) (hd:o.dst=some d) (hn:d<c.nt) (ho:o.op= .alloc t) (hz:ZeroT P t z) (hzs:z.cells=zs.toArray) (hm:zs.length=m) (hl:lk hP d=none)
 (k:∀h:Value,aL P c ops Q rest ⟨put d (padd (sbase h) 0, .val (padd (sbase h) 0)) sL,put d (h, .own t m 1 (zs.map .val)) hP⟩):aL P c ops Q (o::rest) (⟨sL,hP⟩:St):=
 Y8 hw fun a w F H=>by
  obtain ⟨F',H'⟩:=Wh (e:=t) (k:=m) (n:=1) (cap:=1) (cur:=zs.toArray) (v:= .pointer (some ⟨w.heap.size,0,none⟩)) H hl hn (vs:=zs) (ps:=zs.map .val) sM (fun i y q hy hq=>by
   rw [Xo,hy] at hq;simp at hq;subst hq;exact .val _) oM (Xb _) (by unfold maxLen;omega) (by simp;omega) (Xs (by simp;omega))
  unfold Oper.wp execOp;simp [ho,Instr.alloc,hz.run,newVar,newRow,newObj,Sem.run,hzs,hd,Oper.upon];exact k (.slice (some ⟨w.heap.size,0,none⟩) 1 1) _ _ ⟨F',H'⟩
structure ElT (P:Program) (t e k bytes:Nat) (z:Value):Prop where
 ht:P.underlying t=some (.slice e)
 hi:(P.info? e).map (fun i=>(i.zero,i.size,i.bytes))=some (some z,k,bytes)
 hz:z.cells.size=k
 hk:0<k
theorem ElT.info {t e k bytes:Nat} {z:Value} (h:ElT P t e k bytes z):∃i,P.info? e=some i∧i.zero=some z∧i.size=k∧i.bytes=bytes:=by
 have:=h.hi
 rw [XS] at this
 obtain ⟨i,h1,h2⟩:=this
 simp only [Prod.mk.injEq] at h2
 exact ⟨i,h1,h2⟩
theorem ZeB {t e bytes:Nat} {z:Value} {x y:Operand} {n:Nat} {q q':PV} (d:Nat) (hT:ElT P t e 1 bytes z) (hw:Z7 ops sL o=some true) (hd:o.dst=some d) (hn:d<c.nt) (ho:o.op= .makeSlice t x y) (hx:ev sL x=some (.int .i64 n,q)) (hy:ev sL y=some (.int .i64 n,q')) (hl:lk hP d=none)
 (hb:bytes*n≤281474976710656) (hn2:n≤9223372036854775807) (hz1:z.oneCell'=true)
 (k:∀h:Value,h.oneCell'=true→aL P c ops Q rest ⟨put d (h, .val h) sL,put d (h, .own e 1 n (List.replicate n (.val z))) hP⟩):aL P c ops Q (o::rest) (⟨sL,hP⟩:St):=
 Y8 hw fun a w F H=>by
  obtain ⟨i,hi1,hi2,hi3,hi4⟩:=hT.info;have hzc:z.cells= #[z]:=WH hz1;have hbn:((i.bytes:Nat):Int)*(n:Int)≤281474976710656:=by rw [hi4,←Int.natCast_mul];omega
  have hr:=run_make (P:=P) w t e i z hT.ht hi1 hi2 .i64 .i64 (n:Int) (n:Int) oM oM hbn oM;rw [hi3,hzc,X4,XF] at hr;obtain ⟨F',H'⟩:=Wh (e:=e) (k:=1) (n:=n) (cap:=n) (cur:=madeCells #[z] n) (v:= .slice (some ⟨w.heap.size,0,none⟩) n n) H hl hn (vs:=List.replicate n z) (ps:=List.replicate n (.val z)) sM (fun j u p hu hp=>by
   have h1:=Xd hu;have h2:=Xd hp;rw [List.eq_of_mem_replicate h1,List.eq_of_mem_replicate h2];exact .val _) sM (Xb _) (by unfold maxLen;omega) (by rw [size_madeCells,XF]) (by rw [toList_madeCells_one];simp)
  unfold Oper.wp execOp;simp only [ho,(H.rd.ev hx).1,(H.rd.ev hy).1,Sem.run_bind,hr,Result.andThen_ok];simp only [Sem.run_pure,Oper.upon,hd];exact k _ rfl _ _ ⟨F',H'⟩
theorem ZeC {t e kk bytes:Nat} {z:Value} (d:Nat) (hT:ElT P t e kk bytes z) (hw:Z7 ops sL o=some true) (hd:o.dst=some d) (hn:d<c.nt) (ho:o.op= .buildSlice t 0 #[]) (hl:lk hP d=none)
 (k:∀h:Value,h.oneCell'=true→aL P c ops Q rest ⟨put d (h, .val h) sL,put d (h, .own e kk 0 []) hP⟩):aL P c ops Q (o::rest) (⟨sL,hP⟩:St):=
 Y8 hw fun a w F H=>by
  obtain ⟨i,hi1,hi2,hi3,hi4⟩:=hT.info;obtain ⟨F',H'⟩:=Wh (e:=e) (k:=kk) (n:=0) (cap:=0) (cur:= #[]) (v:= .slice (some ⟨w.heap.size,0,none⟩) 0 0) H hl hn (vs:=[]) (ps:=[]) rfl sM sM (Xb _) (by unfold maxLen;omega) sM sM;unfold Oper.wp execOp;simp [ho,Instr.buildSlice,run_underlying hT.ht,sizeOf,typeInfo,hi1,Instr.fill,newRow,newObj,Sem.run,hd,Oper.upon,show Array.range 0= #[] from rfl];exact k (.slice (some ⟨w.heap.size,0,none⟩) 0 0) rfl _ _ ⟨F',H'⟩
end
section
variable {P:Program} {c:Ctx} {ops:Array Oper} {Q:Exit→Act→World→Prop} {rest:List Oper} {sL hP:List (Nat×Ent)} {o:Oper}
theorem ζy {M M':BS} {w w':World} {h:Value} {e k n j:Nat} {cs:List PV} {p:PV} {F:BS} {u:Value} {g cap:Nat} (H:Tr M w h (.own e k n cs) F) (hh:h= .slice (some ⟨g,0,none⟩) n cap) (hj:j<cs.length) (hw':w'=w.setCell ⟨g,j,none⟩ u)
 (hM:∀b,b<w.heap.size→M' b→M b) (hFM:∀b,F b→M b) (hS:Shr M w u p):∃F',Tr M' w' h (.own e k n (cs.set j p)) F'∧(∀b,F' b→F b):=by
 subst hh hw'
 obtain ⟨xs,Fs,hrow,hlen,hT,hd,hb,hF⟩:=H.row
 have hst:=hrow.stored j u
 have hch:Chg (fun b=>b=g) w (w.setCell ⟨g,j,none⟩ u):=Chg.setCell w ⟨g,j,none⟩ u
 have hgF:F g:=(hF g).2 (.inl rfl)
 refine ⟨fun b=>b=g∨∃i,i<(cs.set j p).length∧(if i=j then False else Fs i b),?_,?_⟩
 · refine .own (xs.set j u) (fun i b=>if i=j then False else Fs i b) hst.1 (by simpa using hlen) (fun i x q hx hq=>?_) (fun i i' b hi hi' hne h1 h2=>?_) (fun i b hi h1=>?_) (fun b=>by simp [Value.ownBlock,eq_comm])
   · by_cases hij:i=j
     · subst hij;rw [X' oM] at hx;rw [X' hj] at hq
       cases hx;cases hq;refine .shr (hS.to hch (fun b _ h=>by cases h;exact hFM g hgF) hM) (fun b hb'=>by simp at hb')
     · rw [Va (Ne.symm hij)] at hx hq;simp only [hij,if_false];exact (hT i x q hx hq).to hch hM (fun b _ h=>by cases h;exact hFM g hgF) (fun b hb' he=>hb i b (Zg hq) hb' (by cases he;rfl))
   · simp only [Xi] at hi hi';split at h1
     · exact h1
     · split at h2
       · exact h2
       · exact hd i i' b hi hi' hne h1 h2
   · simp only [Xi] at hi;split at h1
     · exact h1.elim
     · exact hb i b hi h1
 · rintro b (rfl|⟨i,hi,h1⟩)
   · exact hgF
   · simp only [Xi] at hi;split at h1
     · exact h1.elim
     · exact (hF b).2 (.inr ⟨i,hi,h1⟩)
theorem LZ {F:Nat→BS} {a:Act} {w:World} (H:HoldsF c (⟨sL,hP⟩:St) F a w) {l j e k n g cap:Nat} {h:Value} {cs:List PV} {p:PV} {u:Value} (hl:lk hP l=some (h, .own e k n cs)) (hh:h= .slice (some ⟨g,0,none⟩) n cap) (hj:j<cs.length) (hS:Shr (mof c hP F) w u p):
 ∃F',HoldsF c ⟨sL,put l (h, .own e k n (cs.set j p)) hP⟩ F' a (w.setCell ⟨g,j,none⟩ u):=by
 have hTr:=H.tr l _ _ hl
 have hgF:F l g:=by
  obtain ⟨xs,Fs,hrow,hlen,hT,hd,hb,hF⟩:=hTr.row;exact (hF g).2 (.inl (by subst hh;rfl))
 have hFM:∀b,F l b→mof c hP F b:=fun b hb=> .inr ⟨l,_,hl,hb⟩
 obtain ⟨F1,hT1,hsub⟩:=ζy (M':=mof c hP F) hTr hh hj rfl (fun _ _ h=>h) hFM hS
 refine ⟨fun l'=>if l'=l then F1 else F l',?_⟩
 have hch:Chg (fun b=>∃l' x,l'=l∧lk hP l'=some x∧F l' b) w (w.setCell ⟨g,j,none⟩ u):=(Chg.setCell w ⟨g,j,none⟩ u).wid fun b hb=> .inl ⟨l,_,rfl,hl,by cases hb;exact hgF⟩
 refine H.change0 (fun l'=>l'=l) hch (fun l' x hne hx=>?_) (fun l' x b hT hx hb=>?_) (fun hm l' v q hT hx=>?_) (fun l1 l2 _ _ _ h1 h2 hne=>Uq (h1.trans h2.symm) hne)
 · rcases YS hx with ⟨e1,_⟩|⟨_,e1⟩
   · exact Uq e1.symm hne
   · exact ⟨e1,by simp [hne]⟩
 · subst hT;simp only [if_true] at hb;exact .inl ⟨l',_,rfl,hl,hsub b hb⟩
 · subst hT;rcases YS hx with ⟨_,e1⟩|⟨e1,_⟩
   · cases e1;simp only [if_true];obtain ⟨F2,hT2,hs2⟩:=ζy (M':=mof c (put l' (h, .own e k n (cs.set j p)) hP) fun x=>if x=l' then F1 else F x) hTr hh hj rfl hm hFM hS;refine hT1.anti fun b hb hmb=>?_;rcases hmb with h1|⟨l0,x0,h1,h2⟩
     · exact .inl h1
     · by_cases h0:l0=l'
       · subst h0;simp only [if_true] at h2;exact hFM b (hsub b h2)
       · simp only [h0,if_false] at h2;rcases YS h1 with ⟨e1,_⟩|⟨_,e1⟩
         · exact Uq e1.symm h0
         · exact .inr ⟨l0,x0,e1,h2⟩
   · exact Uq rfl e1
theorem ZgN {t j e kk n:Nat} {x y:Operand} {h v:Value} {q p:PV} {cs:List PV} (l:Nat) (hw:Z7 ops sL o=some true) (hd:o.dst=none) (hT:NoAgg P t=true) (hsz:(P.info? t).map (·.size)=some 1) (ho:o.op= .store t x y)
 (hx:ev sL x=some (padd (sbase h) j,q)) (hy:ev sL y=some (v,p)) (h1:one p=true) (hl:lk hP l=some (h, .own e kk n cs)) (hj:j<cs.length)
 (k:aL P c ops Q rest ⟨sL,put l (h, .own e kk n (cs.set j p)) hP⟩):aL P c ops Q (o::rest) (⟨sL,hP⟩:St):=
 Y8 hw fun a w F H=>by
  have hxv:=(H.rd.ev hx).1;obtain ⟨hyv,hS⟩:=H.rd.ev hy;obtain ⟨xs,Fs,hrow,hlen,_⟩:=(H.tr l _ _ hl).row;rcases YZ hrow with ⟨_,_,rfl⟩|⟨g,cap,hh,hc1,hc2,hc3⟩
  · simp at hlen;rw [hlen] at hj;simp at hj
  obtain ⟨F',H'⟩:=LZ H hl hh hj hS;subst hh;simp only [sbase,padd,Xv] at hxv;obtain ⟨z,hz⟩:=YL (show j<xs.length by omega);have hcell:=WK hrow hz;have hfr:=hrow.frozenAt j;have hsize:(sizeOf t).run P w= .ok 1 w:=by
   rw [XS] at hsz;obtain ⟨i,hi1,hi2⟩:=hsz;simp [sizeOf,typeInfo,hi1,hi2]
  have hone:=hS.one h1;unfold Oper.wp execOp;simp [ho,hxv,hyv,Instr.storeAt,Instr.sureAddr,storeVar,WH hone,hsize,storeCells,run_store _ _ _ _ _ hone,Y0,hcell,hfr,Oper.upon,hd,Act.put];exact k _ _ ⟨F',H'⟩
def Kx:List PV→Nat→List PV→List PV
 |cs,_,[]=>cs
 |cs,j,p::ps=>Kx (cs.set j p) (j+1) ps
theorem Gy:∀(ps cs:List PV) (j:Nat),(Kx cs j ps).length=cs.length
 |[],_,_=>rfl
 |p::ps,cs,j=>by rw [Kx,Gy];simp
theorem Ru {l e k n g cap : Nat} {h:Value} {y:Operand} {V:Value} {ps0:List PV} {a:Act} (hh:h= .slice (some ⟨g,0,none⟩) n cap) (hy:ev sL y=some (V, .agg ps0)) (hone:ps0.all one=true):
 ∀ (m i j:Nat) (cs:List PV) (w:World) (F:Nat→BS) (hp:List (Nat×Ent)),HoldsF c ⟨sL,hp⟩ F a w→lk hp l=some (h, .own e k n cs)→i+m=ps0.length→j+i+m≤cs.length→
  ∀vs:List Value,V= .agg vs.toArray→∃w' F' hp',(storeCells ⟨g,j,none⟩ (vs.drop i) i).run P w= .ok () w'∧HoldsF c ⟨sL,hp'⟩ F' a w'∧lk hp' l=some (h, .own e k n (Kx cs (j+i) (ps0.drop i)))∧∀l',l'≠l→lk hp' l'=lk hp l'
 | 0, i, j, cs, w, F, hp, H,hl,hi,hj,vs,hV=>by
   have hvl : vs.length = ps0.length:=by
    obtain ⟨_,hS⟩:=H.rd.ev hy;subst hV;generalize hu:Value.agg vs.toArray=u at hS
    cases hS with
    | agg vs' ps' hl' _ => injection hu with hu;have:vs'=vs:=by simpa using hu.symm
                           subst this;exact hl'
   refine ⟨w,F,hp,?_,H,?_,fun _ _=>rfl⟩
   · rw [XZ oM];rfl
   · rw [XZ (by omega:ps0.length≤i)];exact hl
 | m + 1,i,j,cs,w,F,hp,H,hl,hi,hj,vs,hV=>by
   obtain ⟨_,hS⟩:=H.rd.ev hy;have hi':i<ps0.length:=oM;obtain ⟨p,hp'⟩:=YL hi';have hSp:∃v,vs[i]? =some v∧Shr (mof c hp F) w v p:=by
    subst hV;generalize hu:Value.agg vs.toArray=u at hS
    cases hS with
    | agg vs' ps' hl' hT=>
      injection hu with hu;(have:vs'=vs:=by simpa using hu.symm);subst this;obtain ⟨v,hv⟩:=YJ hp' hl'.symm;exact ⟨v,hv,hT i v p hv hp'⟩
   obtain ⟨v,hv,hSv⟩:=hSp;have h1:one p=true:=Xj.1 hone p (Xd hp');obtain ⟨F1,H1⟩:=LZ H hl hh (show j+i<cs.length by omega) hSv;obtain ⟨w',F',hp2,hr,H2,hl2,hsame⟩:=Ru hh hy hone m (i+1) j (cs.set (j+i) p) _ F1 _ H1 (YH _ _ _) oM (by simp;omega) vs hV;refine ⟨w',F',hp2,?_,H2,?_,fun l' hne=>by rw [hsame l' hne,YR (Ne.symm hne)]⟩
   · obtain ⟨xs,Fs,hrow,hlen,_⟩:=(H.tr l _ _ hl).row;subst hh;obtain ⟨z,hz⟩:=YL (show j+i<xs.length by omega);have hcell:=WK hrow hz;have hfr:=hrow.frozenAt (j+i);rw [XN (Zg hv),show vs[i]'(Zg hv)=v from (Xz.1 hv).2,storeCells];simp only [Sem.run_bind,run_store _ _ _ _ _ (hSv.one h1),Y0,hcell,hfr,Vl,if_false,Result.andThen_ok];exact hr
   · rw [hl2,XN hi',show ps0[i]'hi'=p from (Xz.1 hp').2,Kx,Vk]
theorem ZgO {t j e kk n m:Nat} {x y:Operand} {h V:Value} {q:PV} {ps cs:List PV} (l:Nat) (hw:Z7 ops sL o=some true) (hd:o.dst=none) (hT:AggT P t m=true) (ho:o.op= .store t x y)
 (hx:ev sL x=some (padd (sbase h) j,q)) (hy:ev sL y=some (V, .agg ps)) (hm:ps.length=m) (h1:ps.all one=true) (hl:lk hP l=some (h, .own e kk n cs)) (hj:j+m≤cs.length) (hm0:0<m)
 (k:aL P c ops Q rest ⟨sL,put l (h, .own e kk n (Kx cs j ps)) hP⟩):aL P c ops Q (o::rest) (⟨sL,hP⟩:St):=
 Y8 hw fun a w F H=>by
  have hxv:=(H.rd.ev hx).1;obtain ⟨hyv,hS⟩:=H.rd.ev hy;obtain ⟨xs,Fs,hrow,hlen,_⟩:=(H.tr l _ _ hl).row;rcases YZ hrow with ⟨_,_,rfl⟩|⟨g,cap,hh,hc1,hc2,hc3⟩
  · simp at hlen;rw [hlen] at hj;simp at hj;omega
  cases hS with
  | agg vs ps hvl hTT=>
    obtain ⟨w',F',hp',hr,H',hl',hsame⟩:=Ru (P:=P) hh hy h1 ps.length 0 j cs w F hP H hl oM oM vs rfl;subst hh;simp only [sbase,padd,Xv] at hxv;simp only [Vs,XL] at hr hl';(have hsz:(Value.agg vs.toArray).cells.size=m:=by show vs.toArray.size=m;rw [VW];omega);unfold Oper.wp execOp;simp [ho,hxv,hyv,Instr.storeAt,Instr.sureAddr,storeVar,Value.cells,AggT.size hT,hvl,hm,hr,Oper.upon,hd,Act.put];refine k _ _ ⟨F',H'.less (fun _ _ h=>h) fun t x hx=>?_⟩;rcases YS hx with ⟨rfl,rfl⟩|⟨hne,e1⟩
    · exact hl'
    · show lk hp' t=_;rw [hsame t (Ne.symm hne)];exact e1
def Gs:PV→Bool
 | .val v=>v.oneCell'
 | .agg _| .tup _=>false
 |_=>true
theorem Tr.cellOne {M:BS} {w:World} {v:Value} {p:PV} {F:BS} (h:Tr M w v p F) (hp:Gs p=true):v.oneCell'=true:=by
 cases h with
 | shr h _=>
   cases h with
   |val v=>exact hp
   |agg=>simp [Gs] at hp
   |tup=>simp [Gs] at hp
   |_=>rfl
 |own xs Fs hrow=>rcases YZ hrow with ⟨rfl,_⟩|⟨g,cap,rfl,_⟩<;>rfl
 |omap=>rfl
 |oblk r h1=>exact h1
 |obox=>rfl
 |agg=>simp [Gs] at hp
 |tup=>simp [Gs] at hp
theorem ZaZ {t ty e kk bytes n m:Nat} {z:Value} {x y:Operand} {h h2:Value} {q q2:PV} {cs cs2:List PV} (l l2 d:Nat) (hT:ElT P t e kk bytes z) (hw:Z7 ops sL o=some true) (hd:o.dst=some d) (hn:d<c.nt) (hty:o.type=ty)
 (ho:o.op= .call {callee:= .builtin .append,args:= #[x,y],argTypes:= #[t,t]}) (hx:ev sL x=some (h,q)) (hy:ev sL y=some (h2,q2)) (hll:Nat.beq l l2=false) (hl:lk hP l=some (h, .own e kk n cs)) (hl2:lk hP l2=some (h2, .own e kk m cs2)) (hdl:lk (del l2 (del l hP)) d=none) (hm:0<m)
 (hok:cs2.all Gs=true) (hlen:n+m≤9223372036854775807) (hb:(n+m)*bytes≤140737488355328)
 (hdr:¬c.dr) (k:∀h':Value,h'.oneCell'=true→aL P c ops Q rest ⟨put d (h', .val h') sL,put d (h', .own e kk (n+m) (cs++cs2)) (del l2 (del l hP))⟩):aL P c ops Q (o::rest) (⟨sL,hP⟩:St):=
 Y8 hw fun a w F H=>by
  have hne:l≠l2:=fun e=>by subst e;simp at hll
  have hxv:=(H.rd.ev hx).1;have hyv:=(H.rd.ev hy).1;have hT1:=H.tr l _ _ hl;have hT2:=H.tr l2 _ _ hl2;obtain ⟨xs,Fs,hrow,hlen1,hTc,hdd,hbb,hFF⟩:=hT1.row;obtain ⟨xs2,Fs2,hrow2,hlen2,hTc2,hdd2,hbb2,hFF2⟩:=hT2.row;obtain ⟨g2,cap2,rfl,_,_,_⟩:=Jq hT2 hm;obtain ⟨i,hi1,hi2,hi3,hi4⟩:=hT.info;obtain ⟨v',w',hr,hown,hg,_,hblk⟩:=run_append_own_at (P:=P) w 0 t o.type e i z kk bytes hT.ht hi1 hi2 hi3 hi4 hT.hz hT.hk h n xs hrow ⟨g2,0,none⟩ m cap2 xs2 hrow2.1
   (fun j u hu=>by rw [Y0,Xv];exact WK hrow2 hu)
   (fun u hu=>by
     obtain ⟨j,hj,rfl⟩:=VU hu;obtain ⟨p,hp⟩:=YL (show j<cs2.length by omega);exact (hTc2 j _ p (Xx hj) hp).cellOne (Xj.1 hok p (Xd hp)))
   (by unfold maxLen;exact hlen) hb (Xh _)
  have hch:Chg (fun b=>h.ownBlock=some b) w w':=(Chg.grown hg).wid fun b hb=> .inl hb;have hF1:∀b,h.ownBlock=some b→F l b:=fun b hb=>(hFF b).2 (.inl hb);have hv1:v'.oneCell'=true:=by rcases YZ hown with ⟨rfl,_⟩|⟨g,cap,rfl,_⟩<;>rfl
  have hcslen:cs.length=xs.length:=hlen1;let Fn:Nat→BS:=fun j b=>if j<cs.length then Fs j b else Fs2 (j-cs.length) b;let Fd:BS:=fun b=>v'.ownBlock=some b∨∃j,j<(cs++cs2).length∧Fn j b;have hFd:∀b,Fd b→(F l b∨F l2 b)∨w.heap.size≤b:=by
   rintro b (h1|⟨j,hj,h1⟩)
   · rcases hblk with h2|h2
     · exact .inl (.inl (hF1 b (by rw [←h2];exact h1)))
     · rw [h2] at h1;cases h1;exact .inr (Xb _)
   · simp only [Fn] at h1;split at h1
     · exact .inl (.inl ((hFF b).2 (.inr ⟨j,by assumption,h1⟩)))
     · exact .inl (.inr ((hFF2 b).2 (.inr ⟨j-cs.length,by simp at hj;omega,h1⟩)))
  have key :HoldsF c ⟨put d (v', .val v') sL,put d (v', .own e kk (n+m) (cs++cs2)) (del l2 (del l hP))⟩ (fun l'=>if l'=d then Fd else F l') (a.put (some d) v') w':=by
   refine H.change (fun l'=>l'=l∨l'=l2∨l'=d) hn (hch.wid fun b hb=> .inl ⟨l,_, .inl rfl,hl,hF1 b hb⟩) (fun l' x hnT hx'=>?_) (fun l' x b hTl hx' hb'=>?_) (fun hmm l' u p hTl hx'=>?_) (fun l1 l2' x1 x2 b h1 h2 hne' hx1 hx2=>?_) (fun _=> .val _) (fun h=>(hdr h).elim)
   · rcases YS hx' with ⟨e1,_⟩|⟨_,e1⟩
     · exact Uq (.inr (.inr e1.symm)) hnT
     · have h3:=(YY (YY e1).2).2;refine ⟨h3,?_⟩;have:l'≠d:=fun e2=>hnT (.inr (.inr e2));simp [this]
   · rcases YS hx' with ⟨e1,_⟩|⟨hne2,e1⟩
     · subst e1;simp only [if_true] at hb';rcases hFd b hb' with (h1|h1)|h1
       · exact .inl ⟨l,_, .inl rfl,hl,h1⟩
       · exact .inl ⟨l2,_, .inr (.inl rfl),hl2,h1⟩
       · exact .inr h1
     · obtain ⟨n1,h3⟩:=YY e1;obtain ⟨n2,h4⟩:=YY h3;rcases hTl with h5|h5|h5
       · exact Uq h5.symm n2
       · exact Uq h5.symm n1
       · exact Uq h5.symm hne2
   · rcases YS hx' with ⟨e1,e2⟩|⟨hne2,e1⟩
     · cases e2;subst e1;simp only [if_true];refine .own (xs++xs2) Fn hown (by simp;omega) (fun j y p hy' hp'=>?_) (fun j1 j2 b hj1 hj2 hne' h1 h2=>?_) (fun j b hj h1=>?_) (fun b=>Iff.rfl)
       · simp only [Fn];rcases Xm j cs.length with hj|hj
         · rw [VA hj] at hp';rw [VA oM] at hy';simp only [hj,if_true];exact (hTc j y p hy' hp').to hch hmm (fun b _ hb'=> .inr ⟨l,_,hl,hF1 b hb'⟩) (fun b hb' he=>hbb j b hj hb' he)
         · rw [X0 hj] at hp';rw [X0 oM,←hcslen] at hy';simp only [show ¬j<cs.length by omega,if_false];exact (hTc2 (j-cs.length) y p hy' hp').to hch hmm (fun b _ hb'=> .inr ⟨l,_,hl,hF1 b hb'⟩) (fun b hb' he=>H.dj l l2 _ _ b hne hl hl2 (hF1 b he) ((hFF2 b).2 (.inr ⟨_,Zg hp',hb'⟩)))
       · simp only [Fn] at h1 h2;simp only [Xg] at hj1 hj2;split at h1
         · split at h2
           · exact hdd j1 j2 b (by assumption) (by assumption) hne' h1 h2
           · exact H.dj l l2 _ _ b hne hl hl2 ((hFF b).2 (.inr ⟨j1,by assumption,h1⟩)) ((hFF2 b).2 (.inr ⟨_,oM,h2⟩))
         · split at h2
           · exact H.dj l l2 _ _ b hne hl hl2 ((hFF b).2 (.inr ⟨j2,by assumption,h2⟩)) ((hFF2 b).2 (.inr ⟨_,oM,h1⟩))
           · exact hdd2 (j1-cs.length) (j2-cs.length) b oM oM oM h1 h2
       · simp only [Fn] at h1;simp only [Xg] at hj;intro hbk;have hlt:b<w.heap.size∧(F l b∨F l2 b):=by
          split at h1
          · have:=(hFF b).2 (.inr ⟨j,by assumption,h1⟩);exact ⟨hT1.lt b this, .inl this⟩
          · have:=(hFF2 b).2 (.inr ⟨j-cs.length,oM,h1⟩);exact ⟨hT2.lt b this, .inr this⟩
         rcases hblk with h3|h3
         · rw [h3] at hbk;split at h1
           · exact hbb j b (by assumption) h1 hbk
           · exact H.dj l l2 _ _ b hne hl hl2 (hF1 b hbk) ((hFF2 b).2 (.inr ⟨j-cs.length,oM,h1⟩))
         · rw [h3] at hbk;cases hbk;omega
     · obtain ⟨n1,h3⟩:=YY e1;obtain ⟨n2,h4⟩:=YY h3;rcases hTl with h5|h5|h5
       · exact Uq h5.symm n2
       · exact Uq h5.symm n1
       · exact Uq h5.symm hne2
   · have aux:∀l' x,(l'=l∨l'=l2∨l'=d)→lk (put d (v', .own e kk (n+m) (cs++cs2)) (del l2 (del l hP))) l'=some x→l'=d:=fun l' x hTl hx'=>by
      rcases YS hx' with ⟨e1,_⟩|⟨hne2,e1⟩
      · exact e1.symm
      · obtain ⟨n1,h3⟩:=YY e1;obtain ⟨n2,h4⟩:=YY h3;rcases hTl with h5|h5|h5
        · exact Uq h5.symm n2
        · exact Uq h5.symm n1
        · exact h5
     exact Uq ((aux l1 x1 h1 hx1).trans (aux l2' x2 h2 hx2).symm) hne'
  unfold Oper.wp execOp;simp only [ho,resolve,invoke,builtin,Sem.run_bind,Sem.run_pure,Result.andThen_ok,VB,XM,Vb,hxv,hyv,hr,Oper.upon,hd];exact k v' hv1 _ _ ⟨_,key⟩
end
def Lo {ι:Type} (st:St) (S:ι→St):Prop:=∀c a w,Holds c st a w→∃i,Holds c (S i) a w
section
variable {P:Program} {c:Ctx} {ops:Array Oper} {Q:Exit→Act→World→Prop} {rest:List Oper} {sL hP:List (Nat×Ent)} {o:Oper}
theorem Zp {ι:Type} {S:ι→St} {l:List Oper} (h:Lo (⟨sL,hP⟩:St) S) (k:∀i,aL P c ops Q l (S i)):aL P c ops Q l (⟨sL,hP⟩:St):=fun a w H=>let ⟨i,hi⟩:=h c a w H;k i a w hi
theorem HoldsF.retell {F:Nat→BS} {a:Act} {w:World} (H:HoldsF c (⟨sL,hP⟩:St) F a w) {h':List (Nat×Ent)} {F':Nat→BS} (T:Nat→Prop)
 (hsame:∀l x,¬T l→lk h' l=some x→lk hP l=some x∧F' l=F l)
 (hF:∀l x b,T l→lk h' l=some x→F' l b→∃l0 x0,T l0∧lk hP l0=some x0∧F l0 b)
 (hnew:(∀b,b<w.heap.size→mof c h' F' b→mof c hP F b)→∀l v p,T l→lk h' l=some (v,p)→Tr (mof c h' F') w v p (F' l))
 (hdj:∀l l' x x' b,T l→T l'→l≠l'→lk h' l=some x→lk h' l'=some x'→F' l b→¬F' l' b):HoldsF c ⟨sL,h'⟩ F' a w:=
 H.change0 T (Chg.rfl' _ _) hsame (fun l x b h1 h2 h3=> .inl (hF l x b h1 h2 h3)) hnew hdj
theorem focus {l l' j e k n:Nat} {h:Value} {cs:List PV} {p:PV} (hl:lk hP l=some (h, .own e k n cs)) (hp:cs[j]? =some p) (hl':lk hP l'=none):
 Lo (⟨sL,hP⟩:St) (fun v:Value=>⟨sL,put l' (v,p) (put l (h, .own e k n (cs.set j (.val v))) hP)⟩):=fun c a w ⟨F,H⟩=>by
 have hne:l'≠l:=fun e=>by subst e;rw [hl] at hl';cases hl'
 have hTr:=H.tr l _ _ hl
 obtain ⟨xs,Fs,hrow,hlen,hT,hd,hb,hF⟩:=hTr.row
 have hj:=Zg hp
 obtain ⟨v,hv⟩:=YJ hp hlen
 have hFj:∀b,Fs j b→F l b:=fun b hb'=>(hF b).2 (.inr ⟨j,hj,hb'⟩)
 refine ⟨v,fun x=>if x=l' then Fs j else if x=l then (fun b=>h.ownBlock=some b∨∃i,i<cs.length∧i≠j∧Fs i b) else F x,?_⟩
 refine H.retell (fun x=>x=l∨x=l') (fun x y hnT hx=>?_) (fun x y b hTx hx hb'=>?_) (fun hmm x u q hTx hx=>?_) (fun x1 x2 y1 y2 b h1 h2 hne' hx1 hx2 hb1 hb2=>?_)
 · have n1:x≠l:=fun e=>hnT (.inl e);have n2:x≠l':=fun e=>hnT (.inr e);rw [YR (Ne.symm n2),YR (Ne.symm n1)] at hx;exact ⟨hx,by simp [n1,n2]⟩
 · refine ⟨l,_, .inl rfl,hl,?_⟩;rcases hTx with rfl|rfl
   · simp only [Ne.symm hne,if_false,if_true] at hb';rcases hb' with h1|⟨i,hi,_,h1⟩
     · exact (hF b).2 (.inl h1)
     · exact (hF b).2 (.inr ⟨i,hi,h1⟩)
   · simp only [if_true] at hb';exact hFj b hb'
 · rcases hTx with rfl|rfl
   · rw [YR hne,YH] at hx
     cases hx;simp only [Ne.symm hne,if_false,if_true];refine .own xs (fun i b=>if i=j then False else Fs i b) hrow (by simpa using hlen) (fun i x q hx9 hq=>?_) (fun i i' b hi hi' hne' h1 h2=>?_) (fun i b hi h1=>?_) (fun b=>?_)
     · by_cases hij:i=j
       · subst hij;rw [X' hj] at hq
         cases hq;rw [hv] at hx9;cases hx9;exact .shr (.val _) (fun b h=>by simp at h)
       · rw [Va (Ne.symm hij)] at hq;simp only [hij,if_false];exact (hT i x q hx9 hq).anti hmm
     · simp only [Xi] at hi hi';split at h1
       · exact h1
       · split at h2
         · exact h2
         · exact hd i i' b hi hi' hne' h1 h2
     · simp only [Xi] at hi;split at h1
       · exact h1.elim
       · exact hb i b hi h1
     · simp only [Xi];constructor
       · rintro (h1|⟨i,hi,hij,h1⟩)
         · exact .inl h1
         · exact .inr ⟨i,hi,by simp [hij,h1]⟩
       · rintro (h1|⟨i,hi,h1⟩)
         · exact .inl h1
         · split at h1
           · exact h1.elim
           · exact .inr ⟨i,hi,by assumption,h1⟩
   · rw [YH] at hx
     cases hx;simp only [if_true];exact (hT j _ _ hv hp).anti hmm
 · rcases h1 with rfl|rfl
   · rcases h2 with rfl|rfl
     · exact hne' rfl
     · simp only [Ne.symm hne,if_false,if_true] at hb1 hb2;rcases hb1 with h3|⟨i,hi,hij,h3⟩
       · exact hb j b hj hb2 h3
       · exact hd i j b hi hj hij h3 hb2
   · rcases h2 with rfl|rfl
     · simp only [Ne.symm hne,if_false,if_true] at hb1 hb2;rcases hb2 with h3|⟨i,hi,hij,h3⟩
       · exact hb j b hj hb1 h3
       · exact hd i j b hi hj hij h3 hb1
     · exact hne' rfl
theorem HK {l l' j e k n:Nat} {h v:Value} {cs:List PV} {p:PV} (hl:lk hP l=some (h, .own e k n cs)) (hp:cs[j]? =some (.val v)) (hl':lk hP l'=some (v,p)) (hne0:Nat.beq l l'=false):
 Lo (⟨sL,hP⟩:St) (fun _:Unit=>⟨sL,put l (h, .own e k n (cs.set j p)) (del l' hP)⟩):=fun c a w ⟨F,H⟩=>by
 have hne:l≠l':=fun e=>by subst e;simp at hne0
 have hTr:=H.tr l _ _ hl
 have hTr':=H.tr l' _ _ hl'
 obtain ⟨xs,Fs,hrow,hlen,hT,hd,hb,hF⟩:=hTr.row
 have hj:=Zg hp
 obtain ⟨v0,hv⟩:=YJ hp hlen
 have hv0:v0=v:=((hT j _ _ hv hp).sh rfl).vOf
 subst hv0
 have hFi:∀i b,i<cs.length→Fs i b→F l b:=fun i b hi hb'=>(hF b).2 (.inr ⟨i,hi,hb'⟩)
 refine ⟨(),fun x=>if x=l then (fun b=>h.ownBlock=some b∨∃i,i<cs.length∧(if i=j then F l' b else Fs i b)) else F x,?_⟩
 refine H.retell (fun x=>x=l∨x=l') (fun x y hnT hx=>?_) (fun x y b hTx hx hb'=>?_) (fun hmm x u q hTx hx=>?_) (fun x1 x2 y1 y2 b h1 h2 hne' hx1 hx2 hb1 hb2=>?_)
 · have n1:x≠l:=fun e=>hnT (.inl e);rw [YR (Ne.symm n1)] at hx;exact ⟨(YY hx).2,by simp [n1]⟩
 · rcases YS hx with ⟨rfl,_⟩|⟨n1,hx2⟩
   · simp only [if_true] at hb';rcases hb' with h1|⟨i,hi,h1⟩
     · exact ⟨l,_, .inl rfl,hl,(hF b).2 (.inl h1)⟩
     · split at h1
       · exact ⟨l',_, .inr rfl,hl',h1⟩
       · exact ⟨l,_, .inl rfl,hl,hFi i b hi h1⟩
   · rcases hTx with e1|e1
     · exact Uq e1.symm n1
     · exact Uq e1.symm (YY hx2).1
 · rcases YS hx with ⟨rfl,e1⟩|⟨n1,hx2⟩
   · cases e1;simp only [if_true];refine .own xs (fun i b=>if i=j then F l' b else Fs i b) hrow (by simpa using hlen) (fun i x q hx9 hq=>?_) (fun i i' b hi hi' hne' h1 h2=>?_) (fun i b hi h1=>?_) (fun b=>by simp only [Xi])
     · by_cases hij:i=j
       · subst hij;rw [X' hj] at hq
         cases hq;rw [hv] at hx9;cases hx9;simp only [if_true];exact hTr'.anti hmm
       · rw [Va (Ne.symm hij)] at hq;simp only [hij,if_false];exact (hT i x q hx9 hq).anti hmm
     · simp only [Xi] at hi hi';split at h1
       · split at h2
         · omega
         · exact H.dj l l' _ _ b hne hl hl' (hFi i' b hi' h2) h1
       · split at h2
         · exact H.dj l l' _ _ b hne hl hl' (hFi i b hi h1) h2
         · exact hd i i' b hi hi' hne' h1 h2
     · simp only [Xi] at hi;intro hbk;split at h1
       · exact H.dj l l' _ _ b hne hl hl' ((hF b).2 (.inl hbk)) h1
       · exact hb i b hi h1 hbk
   · rcases hTx with e1|e1
     · exact Uq e1.symm n1
     · exact Uq e1.symm (YY hx2).1
 · have aux:∀x y,(x=l∨x=l')→lk (put l (h, .own e k n (cs.set j p)) (del l' hP)) x=some y→x=l:=fun x y hTx hx=>by
    rcases YS hx with ⟨e1,_⟩|⟨n1,hx2⟩
    · exact e1.symm
    · rcases hTx with e1|e1
      · exact e1
      · exact Uq e1.symm (YY hx2).1
   exact Uq ((aux x1 y1 h1 hx1).trans (aux x2 y2 h2 hx2).symm) hne'
theorem WF (l e k:Nat) (hl:lk hP l=none):Lo (⟨sL,hP⟩:St) (fun _:Unit=>⟨sL,put l (.slice none 0 0, .own e k 0 []) hP⟩):=fun c a w ⟨F,H⟩=>by
 refine ⟨(),fun x=>if x=l then (fun _=>False) else F x,?_⟩
 refine H.retell (fun x=>x=l) (fun x y hnT hx=>?_) (fun x y b hTx hx hb'=>?_) (fun hmm x u q hTx hx=>?_) (fun x1 x2 y1 y2 b h1 h2 hne'=>Uq (h1.trans h2.symm) hne')
 · have n1:x≠l:=hnT;rw [YR (Ne.symm n1)] at hx;exact ⟨hx,by simp [n1]⟩
 · subst hTx;simp at hb'
 · subst hTx;rw [YH] at hx
   cases hx;simp only [if_true];exact .own [] (fun _ _=>False) (World.ownsRow_nil _ _ _ _) rfl sM sM sM (by simp [Value.ownBlock])
theorem freeze {l t:Nat} {v:Value} {p q:PV} (hl:lk hP l=some (v,p)) (ht:lk sL t=some (v,q)):Lo (⟨sL,hP⟩:St) (fun _:Unit=>⟨put t (v,share p) sL,del l hP⟩):=fun c a w ⟨F,H⟩=>by
 refine ⟨(),F,?_⟩
 have hm:∀b,mof c (del l hP) F b→mof c hP F b:=by
  rintro b (h|⟨l',x,h1,h2⟩)
  · exact .inl h
  · exact .inr ⟨l',x,(YY h1).2,h2⟩
 have H1:HoldsF c ⟨sL,del l hP⟩ F a w:=H.less (fun _ _ h=>h) (fun _ _ h=>(YY h).2)
 refine ⟨H1.toHeapF,fun s u r hs=>?_,H.size,H.df⟩
 rcases YS hs with ⟨rfl,e1⟩|⟨_,hs'⟩
 · cases e1;refine ⟨(H.sl t _ _ ht).1,(H.tr l _ _ hl).share (fun b _ h=>hm b h) fun b hb hmb=>?_⟩;rcases hmb with h1|⟨l',x,h1,h2⟩
   · exact H.apart h1 hl hb
   · exact H.dj l l' _ _ b (YY h1).1 hl (YY h1).2 hb h2
 · exact H1.sl s u r hs'
theorem Wl {l l' j e k n:Nat} {h v:Value} {cs:List PV} {p:PV} (hl:lk hP l=some (h, .own e k n cs)) (hp:cs[j]? =some (.val v)) (hl':lk hP l'=some (v,p)) (hne0:Nat.beq l l'=false):
 Lo (⟨sL,hP⟩:St) (fun _:Unit=>⟨sL,put l (h, .own e k n (cs.set j (share p))) (del l' hP)⟩):=fun c a w ⟨F,H⟩=>by
 have hne:l≠l':=fun e=>by subst e;simp at hne0
 have H1:HoldsF c ⟨sL,del l' hP⟩ F a w:=H.less (fun _ _ h=>h) (fun _ _ h=>(YY h).2)
 have hSv:Shr (mof c (del l' hP) F) w v (share p):=(H.tr l' _ _ hl').share (fun b _ h=>by
  rcases h with h|⟨l0,x,h1,h2⟩
  · exact .inl h
  · exact .inr ⟨l0,x,(YY h1).2,h2⟩) fun b hb hmb=>by
  rcases hmb with h1|⟨l0,x,h1,h2⟩
  · exact H.apart h1 hl' hb
  · exact H.dj l' l0 _ _ b (YY h1).1 hl' (YY h1).2 hb h2
 have hl1:lk (del l' hP) l=some (h, .own e k n cs):=by rw [LY (Ne.symm hne)];exact hl
 obtain ⟨xs,Fs,hrow,hlen,hT,hd,hb,hF⟩:=(H1.tr l _ _ hl1).row
 have hj:=Zg hp
 obtain ⟨v0,hv⟩:=YJ hp hlen
 have hv0:v0=v:=((hT j _ _ hv hp).sh rfl).vOf
 subst hv0
 refine ⟨(),fun x=>if x=l then (fun b=>h.ownBlock=some b∨∃i,i<cs.length∧(if i=j then False else Fs i b)) else F x,?_⟩
 · refine H1.retell (fun x=>x=l) (fun x y hnT hx=>?_) (fun x y b hTx hx hb'=>?_) (fun hmm x u q hTx hx=>?_) (fun x1 x2 y1 y2 b h1 h2 hne'=>Uq (h1.trans h2.symm) hne')
   · have n1:x≠l:=hnT;rw [YR (Ne.symm n1)] at hx;exact ⟨hx,by simp [n1]⟩
   · subst hTx;simp only [if_true] at hb';refine ⟨x,_,rfl,hl1,(hF b).2 ?_⟩;rcases hb' with h1|⟨i,hi,h1⟩
     · exact .inl h1
     · split at h1
       · exact h1.elim
       · exact .inr ⟨i,hi,h1⟩
   · subst hTx;rw [YH] at hx
     cases hx;simp only [if_true];refine .own xs (fun i b=>if i=j then False else Fs i b) hrow (by simpa using hlen) (fun i x q hx9 hq=>?_) (fun i i' b hi hi' hne' h1 h2=>?_) (fun i b hi h1=>?_) (fun b=>by simp only [Xi])
     · by_cases hij:i=j
       · subst hij;rw [X' hj] at hq
         cases hq;rw [hv] at hx9;cases hx9;exact .shr (hSv.anti hmm) (fun b h=>by simp at h)
       · rw [Va (Ne.symm hij)] at hq;simp only [hij,if_false];exact (hT i x q hx9 hq).anti hmm
     · simp only [Xi] at hi hi';split at h1
       · exact h1
       · split at h2
         · exact h2
         · exact hd i i' b hi hi' hne' h1 h2
     · simp only [Xi] at hi;split at h1
       · exact h1.elim
       · exact hb i b hi h1
end
section
variable {P:Program} {c:Ctx} {ops:Array Oper} {Q:Exit→Act→World→Prop} {rest:List Oper} {sL hP:List (Nat×Ent)} {o:Oper}
theorem HL:∀(l:List Value) (i:Nat) (cells:Array Value),cells.size=i+l.length→(l.zipIdx i).foldl (fun cs x=>cs.setIfInBounds (0+x.2) x.1) cells=(cells.toList.take i++l).toArray
 | [],i,cells,h=>by
   simp at h;simp only [List.zipIdx_nil,List.foldl_nil,Vc];rw [Xs (by simp;omega)]
 | x::l,i,cells,h=>by
   simp only [VG,Vt];simp at h;rw [HL l (i+1) _ (by simp;omega)];congr 1;rw [Xv,Ug,V6 (by simp;omega)];simp [V7]
theorem HM (k:Nat) (cells:Array Value) (v:Value) (hc:cells.size=k) (hv:v.cells.size=k):Instr.fill (fun i=>some (i*k,k)) cells [(0,v)]=some v.cells:=by
 simp only [Instr.fill,Vr]
 rw [Uo (by simp;omega)]
 congr 1
 rw [←Array.foldl_toList]
 have:=HL v.cells.toList 0 cells (by simp;omega)
 rw [Array.toList_zipIdx]
 simp only [VC,VH,X6] at this
 exact this
theorem O3:∀(vs:List Value) (i:Nat) (cells:Array Value),cells.size=i+vs.length→(∀v∈vs,v.oneCell'=true)→Instr.fill (fun i=>some (i*1,1)) cells ((vs.zipIdx i).map fun x=>(x.2,x.1))=some (cells.toList.take i++vs).toArray
 | [],i,cells,h,_=>by
   simp at h;simp only [List.zipIdx_nil,Vb,Instr.fill,Vc];rw [Xs (by simp;omega)]
 | v::vs,i,cells,h,h1=>by
   have hv:v.cells= #[v]:=WH (h1 v sM);simp at h;have hc:¬(v.cells.size≠1||decide (i*1+v.cells.size>cells.size))=true:=by rw [hv];simp;omega
   simp only [VG,XM,Instr.fill,hc,if_false];rw [hv];simp only [Array.zipIdx,XF];have:=O3 vs (i+1) (cells.setIfInBounds i v) (by simp;omega) (fun u hu=>h1 u (by simp [hu]));simp;simp at this;rw [this];congr 1;rw [V6 (by simp;omega)];simp [V7]
theorem ZeD {t e kk bytes:Nat} {z:Value} {x:Operand} {v:Value} {p:PV} (d:Nat) (hT:ElT P t e 1 bytes z) (hw:Z7 ops sL o=some true) (hd:o.dst=some d) (hn:d<c.nt) (ho:o.op= .buildSlice t 1 #[(0,x)]) (hx:ev sL x=some (v,p)) (h10:one p=true) (hl:lk hP d=none)
 (k:∀h:Value,h.oneCell'=true→aL P c ops Q rest ⟨put d (h, .val h) sL,put d (h, .own e 1 1 [p]) hP⟩):aL P c ops Q (o::rest) (⟨sL,hP⟩:St):=
 Y8 hw fun a w F H=>by
  obtain ⟨i,hi1,hi2,hi3,hi4⟩:=hT.info;obtain ⟨hv,hS⟩:=H.rd.ev hx;have h1:=hS.one h10;obtain ⟨F',H'⟩:=Wh (e:=e) (k:=1) (n:=1) (cap:=1) (cur:= #[v]) (v:= .slice (some ⟨w.heap.size,0,none⟩) 1 1) H hl hn (vs:=[v]) (ps:=[p]) rfl (fun i y q hy hq=>by
   match i with
   |0=>simp at hy hq;subst hy hq;exact hS
   |i+1=>simp at hy) rfl (Xb _) (by unfold maxLen;omega) rfl rfl
  have hf:=HM 1 ((Array.range (1*i.size)).map (z.cells[· % z.cells.size]!)) v (by simp [hi3]) (by rw [WH h1];rfl);have hr:=run_buildSlice (P:=P) w t e 1 #[(0,v)] v.cells i z hT.ht hi1 hi2 (by rw [hi3];decide) (by rw [hi3];decide) (by rw [hi3] at hf ⊢;exact hf);rw [WH h1] at hr;unfold Oper.wp execOp;simp only [ho,VB,XM,Vb,hv,Sem.run_bind,hr,Result.andThen_ok,Sem.run_pure,Oper.upon,hd];exact k (.slice (some ⟨w.heap.size,0,none⟩) 1 1) rfl _ _ ⟨F',H'⟩
theorem Zcp {t e kk bytes:Nat} {z:Value} {x:Operand} {v:Value} {ps:List PV} (d:Nat) (hT:ElT P t e kk bytes z) (hw:Z7 ops sL o=some true) (hd:o.dst=some d) (hn:d<c.nt) (ho:o.op= .buildSlice t 1 #[(0,x)]) (hx:ev sL x=some (v, .agg ps)) (hps:ps.length=kk) (hkb:kk≤1000) (hl:lk hP d=none)
 (k:∀h:Value,h.oneCell'=true→aL P c ops Q rest ⟨put d (h, .val h) sL,put d (h, .own e kk 1 ps) hP⟩):aL P c ops Q (o::rest) (⟨sL,hP⟩:St):=
 Y8 hw fun a w F H=>by
  obtain ⟨i,hi1,hi2,hi3,hi4⟩:=hT.info;obtain ⟨hv,hS⟩:=H.rd.ev hx;have hk0:=hT.hk;have hz0:=hT.hz
  cases hS with
  | agg vs ps hvl hTT=>
    obtain ⟨F',H'⟩:=Wh (e:=e) (k:=kk) (n:=1) (cap:=1) (cur:=vs.toArray) (v:= .slice (some ⟨w.heap.size,0,none⟩) 1 1) H hl hn (vs:=vs) (ps:=ps) hvl hTT oM (Xb _) (by unfold maxLen;omega) (by simp;omega) (Xs (by simp;omega));have hcs:(Value.agg vs.toArray).cells=vs.toArray:=rfl;have hf:=HM kk ((Array.range (1*i.size)).map (z.cells[· % z.cells.size]!)) (.agg vs.toArray) (by simp [hi3]) (by rw [hcs];simp;omega);have hr:=run_buildSlice (P:=P) w t e 1 #[(0, .agg vs.toArray)] vs.toArray i z hT.ht hi1 hi2 (by rw [hi3];omega) (by rw [hi3];omega) (by rw [hi3] at hf ⊢;exact hf);unfold Oper.wp execOp;simp only [ho,VB,XM,Vb,hv,Sem.run_bind,hr,Result.andThen_ok,Sem.run_pure,Oper.upon,hd];exact k (.slice (some ⟨w.heap.size,0,none⟩) 1 1) rfl _ _ ⟨F',H'⟩
def evL (slots:List (Nat×Ent)):List Operand→Option (List Ent)
 |[]=>some []
 | x::xs=>match ev slots x,evL slots xs with
   |some e,some l=>some (e::l)
   |_,_=>none
theorem KJ {M:BS} {F:Nat→BS} {a:Act} {w:World} (H:RdF M (⟨sL,hP⟩:St) F a w):∀{xs:List Operand} {es:List Ent},evL sL xs=some es→xs.map a.eval=es.map (·.1)∧∀(i:Nat) (x:Value) (q:PV),(es.map (·.1))[i]? =some x→(es.map (·.2))[i]? =some q→Shr M w x q
 |[],es,h=>by simp [evL] at h;subst h;simp
 | x ::xs,es,h=>by
   simp only [evL] at h;split at h
   · rename_i e l he hl
     cases h;obtain ⟨v,p⟩:=e;obtain ⟨h1,h2⟩:=KJ H hl;obtain ⟨h3,h4⟩:=H.ev he;refine ⟨by simp [h1,h3],fun i y q hy hq=>?_⟩
     cases i with
     |zero=>simp at hy hq;subst hy hq;exact h4
     |succ i=>exact h2 i y q (by simpa using hy) (by simpa using hq)
   · cases h
theorem ZeE {t e bytes m:Nat} {z:Value} {xs:List Operand} {parts:Array (Nat×Operand)} {es:List Ent} (d:Nat) (hT:ElT P t e 1 bytes z) (hw:Z7 ops sL o=some true) (hd:o.dst=some d) (hn:d<c.nt) (ho:o.op= .buildSlice t m parts) (hpt:parts=((xs.zipIdx).map fun x=>(x.2,x.1)).toArray) (hx:evL sL xs=some es) (h1:es.all (fun x=>one x.2)=true) (hm:es.length=m) (hm0:0<m) (hm1:m≤1000) (hl:lk hP d=none)
 (k:∀h:Value,h.oneCell'=true→aL P c ops Q rest ⟨put d (h, .val h) sL,put d (h, .own e 1 m (es.map (·.2))) hP⟩):aL P c ops Q (o::rest) (⟨sL,hP⟩:St):=
 Y8 hw fun a w F H=>by
  obtain ⟨i,hi1,hi2,hi3,hi4⟩:=hT.info;obtain ⟨he,hS⟩:=KJ H.rd hx;obtain ⟨F',H'⟩:=Wh (e:=e) (k:=1) (n:=m) (cap:=m) (cur:=(es.map (·.1)).toArray) (v:= .slice (some ⟨w.heap.size,0,none⟩) m m) H hl hn (vs:=es.map (·.1)) (ps:=es.map (·.2)) sM hS (by simp;omega) (Xb _) (by unfold maxLen;omega) (by simp;omega) (Xs (by simp;omega));have hf:=O3 (es.map (·.1)) 0 ((Array.range (m*i.size)).map (z.cells[· % z.cells.size]!)) (by simp [hi3];omega) (fun v hv=>by
   rw [Xq] at hv;obtain ⟨x,hx',rfl⟩:=hv;obtain ⟨i,hi,rfl⟩:=VU hx';exact (hS i _ _ (by simp [hi]) (by simp [hi])).one (Xj.1 h1 _ hx'))
  have hpe:(parts.map fun (i,x)=>(i,a.eval x)).toList=((es.map (·.1)).zipIdx 0).map fun x=>(x.2,x.1):=by
   rw [hpt,←he];simp [List.zipIdx_map]
  have hr:=run_buildSlice (P:=P) w t e m (parts.map fun (i,x)=>(i,a.eval x)) (es.map (·.1)).toArray i z hT.ht hi1 hi2 (by rw [hi3];omega) (by rw [hi3];omega) (by rw [hpe,hi3];rw [hi3] at hf;simpa using hf);unfold Oper.wp execOp;simp only [ho,Sem.run_bind,hr,Result.andThen_ok,Sem.run_pure,Oper.upon,hd];exact k (.slice (some ⟨w.heap.size,0,none⟩) m m) rfl _ _ ⟨F',H'⟩
def Y9 (P:Program) (t:Nat):Option (Value×List (Nat×Nat)):=match P.info? t,P.underlying t with
 | some i,some (.struct fs)=>match i.zero,fs.toList.mapM (fun f=>(P.info? f.type).map fun i=>(f.offset,i.size)) with
   |some z,some pl=>some (z,pl)
   |_,_=>none
 |_,_=>none
def RQ {α:Type} (offs:List Nat):List α→List (Nat×α)→List α
 |cs,[]=>cs
 |cs,(i,x)::r=>RQ offs (cs.set (offs.getD i 0) x) r
theorem Rv (offs:List Nat):∀(ps:List (Nat×Value)) (cs:List Value),(∀x∈ps,x.2.oneCell'=true)→(∀x∈ps,x.1<offs.length∧offs.getD x.1 0<cs.length)→Instr.fill ((offs.map fun o=>(o,1)).toArray[·]?) cs.toArray ps=some (RQ offs cs ps).toArray
 |[],cs,_,_=>rfl
 | (i,v)::ps,cs,h1,h2=>by
   have hv:v.cells= #[v]:=WH (h1 (i,v) sM);obtain ⟨hi,ho⟩:=h2 (i,v) sM;have hpl:(offs.map fun o=>(o,1)).toArray[i]? =some (offs.getD i 0,1):=by
    simp [List.getD,hi]
   have hc:¬(v.cells.size≠1||decide (offs.getD i 0+v.cells.size>cs.toArray.size))=true:=by rw [hv];simp at ho ⊢;omega
   simp only [Instr.fill,hpl,hc,if_false];rw [hv];have:=Rv offs ps (cs.set (offs.getD i 0) v) (fun x hx=>h1 x (by simp [hx])) (fun x hx=>by have:=h2 x (by simp [hx]);simpa using this);rw [RQ,←this];simp [Array.zipIdx]
theorem HN (M:BS) (w:World) (offs:List Nat):∀(es:List (Nat×Ent)) (vs:List Value) (ps:List PV),vs.length=ps.length→(∀(i:Nat) (x:Value) (q:PV),vs[i]? =some x→ps[i]? =some q→Shr M w x q)→(∀x∈es,Shr M w x.2.1 x.2.2)→
 (RQ offs vs (es.map fun x=>(x.1,x.2.1))).length=(RQ offs ps (es.map fun x=>(x.1,x.2.2))).length∧∀(i:Nat) (x:Value) (q:PV),(RQ offs vs (es.map fun x=>(x.1,x.2.1)))[i]? =some x→(RQ offs ps (es.map fun x=>(x.1,x.2.2)))[i]? =some q→Shr M w x q
 |[],vs,ps,hl,h,_=>⟨hl,h⟩
 | (j,v,p)::es,vs,ps,hl,h,he=>by
   refine HN M w offs es (vs.set (offs.getD j 0) v) (ps.set (offs.getD j 0) p) (by simpa using hl) (fun i x q hx hq=>?_) (fun x hx=>he x (by simp [hx]));by_cases hij:offs.getD j 0=i
   · subst hij;(have h1:offs.getD j 0<vs.length:=by have:=Zg hx;simpa using this);rw [X' h1] at hx;rw [X' oM] at hq
     cases hx;cases hq;exact he (j,v,p) sM
   · rw [Va hij] at hx hq;exact h i x q hx hq
def evP (slots:List (Nat×Ent)):List (Nat×Operand)→Option (List (Nat×Ent))
 |[]=>some []
 | (i,x)::xs=>match ev slots x,evP slots xs with
   |some e,some l=>some ((i,e)::l)
   |_,_=>none
theorem Pv {M:BS} {F:Nat→BS} {a:Act} {w:World} (H:RdF M (⟨sL,hP⟩:St) F a w):∀{xs:List (Nat×Operand)} {es:List (Nat×Ent)},evP sL xs=some es→(xs.map fun x=>(x.1,a.eval x.2))=(es.map fun x=>(x.1,x.2.1))∧∀x∈es,Shr M w x.2.1 x.2.2
 |[],es,h=>by simp [evP] at h;subst h;simp
 | (i,x)::xs,es,h=>by
   simp only [evP] at h;split at h
   · rename_i e l he hl
     cases h;obtain ⟨v,p⟩:=e;obtain ⟨h1,h2⟩:=Pv H hl;obtain ⟨h3,h4⟩:=H.ev he;refine ⟨by simp [h1,h3],fun y hy=>?_⟩;rcases Xn.1 hy with rfl|hy
     · exact h4
     · exact h2 y hy
   · cases h
theorem ZeF {t:Nat} {parts:Array (Nat×Operand)} {z:Value} {offs:List Nat} {zs:List Value} {es:List (Nat×Ent)} (hT:Y9 P t=some (z,offs.map fun o=>(o,1))) (hzs:z.cells=zs.toArray) (ho:o.op= .build t parts) (hx:evP sL parts.toList=some es)
 (h1:es.all (fun x=>one x.2.2)=true) (hin:es.all (fun x=>decide (x.1<offs.length)&&decide (offs.getD x.1 0<zs.length))=true):YE P (⟨sL,hP⟩:St) o (· = .agg (RQ offs zs (es.map fun x=>(x.1,x.2.1))).toArray) (.agg (RQ offs (zs.map .val) (es.map fun x=>(x.1,x.2.2)))):=
 .exact fun M F a w H=>by
  obtain ⟨h2,h3⟩:=Pv H hx;obtain ⟨h4,h5⟩:=HN M w offs es zs (zs.map .val) sM (fun i x q hx hq=>by
   rw [Xo,hx] at hq;simp at hq;subst hq;exact .val _) h3
  refine ⟨.agg _ _ h4 h5,?_⟩;have hb :P.built t ((parts.map fun (i,x)=>(i,a.eval x)).toList)=some (RQ offs zs (es.map fun x=>(x.1,x.2.1))).toArray:=by
   have hpe:(parts.map fun (i,x)=>(i,a.eval x)).toList=es.map fun x=>(x.1,x.2.1):=by rw [X7,←h2]
   rw [hpe];unfold Y9 at hT;split at hT
   · rename_i i fs hi hf;split at hT
     · rename_i z' pl hz hpl
       cases hT;unfold Program.built;simp only [hi,hf,hz,hpl,hzs];refine Rv offs _ zs (fun x hx=>?_) (fun x hx=>?_)
       · rw [Xq] at hx;obtain ⟨y,hy,rfl⟩:=hx;exact (h3 y hy).one (Xj.1 h1 y hy)
       · rw [Xq] at hx;obtain ⟨y,hy,rfl⟩:=hx;have:=Xj.1 hin y hy;simpa using this
     · cases hT
   · cases hT
  have:=run_build (P:=P) w t (parts.map fun (i,x)=>(i,a.eval x)) _ hb;simp [execOp,ho,this]
end
section
variable {P:Program} {c:Ctx} {ops:Array Oper} {Q:Exit→Act→World→Prop} {rest:List Oper} {sL hP:List (Nat×Ent)} {o:Oper}
def Zh5 (st:St) (v:Value) (m:Nat) (cs:List PV):Prop:=∀M F a w,RdF M st F a w→∃b off cp,v= .slice (some ⟨b,off,none⟩) m cp∧∀(i:Nat) (p:PV),cs[i]? =some p→∃x,w.cell? ⟨b,off+i,none⟩=some x∧Shr M w x p
theorem ZeG {x:Operand} {v:Value} {m:Nat} {cs:List PV} (hx:ev sL x=some (v, .sl m cs)) (hm:0<m):Zh5 (⟨sL,hP⟩:St) v m cs:=fun M F a w H=>by
 obtain ⟨_,hS⟩:=H.ev hx
 cases hS with
 |emp=>omega
 |sl b off n c cs vs hn hc hcell hT=>exact ⟨b,off,c,rfl,fun i p hp=>⟨vs i,(hcell i (Zg hp)).1,hT i p hp⟩⟩
theorem Cr {t e kk bytes n m:Nat} {z:Value} {x y:Operand} {h v2:Value} {q q2:PV} {cs cs2:List PV} (l d:Nat) (hT:ElT P t e kk bytes z) (hw:Z7 ops sL o=some true) (hd:o.dst=some d) (hn:d<c.nt)
 (ho:o.op= .call {callee:= .builtin .append,args:= #[x,y],argTypes:= #[t,t]}) (hx:ev sL x=some (h,q)) (hy:ev sL y=some (v2,q2)) (hl:lk hP l=some (h, .own e kk n cs)) (hsrc:Zh5 (⟨sL,hP⟩:St) v2 m cs2) (hlen2:cs2.length=m*kk) (hdl:lk (del l hP) d=none)
 (hok:cs2.all one=true) (hlen:n+m≤9223372036854775807) (hb:(n+m)*bytes≤140737488355328)
 (hdr:¬c.dr) (k:∀h':Value,h'.oneCell'=true→aL P c ops Q rest ⟨put d (h', .val h') sL,put d (h', .own e kk (n+m) (cs++cs2)) (del l hP)⟩):aL P c ops Q (o::rest) (⟨sL,hP⟩:St):=
 Y8 hw fun a w F H=>by
  have hxv:=(H.rd.ev hx).1;have hyv:=(H.rd.ev hy).1;have hT1:=H.tr l _ _ hl;obtain ⟨xs,Fs,hrow,hlen1,hTc,hdd,hbb,hFF⟩:=hT1.row;obtain ⟨b2,off2,cp2,rfl,hsr⟩:=hsrc _ F a w H.rd;obtain ⟨i,hi1,hi2,hi3,hi4⟩:=hT.info;have hex:∃xs2:List Value,xs2.length=cs2.length∧∀(j:Nat) (u:Value) (p:PV),xs2[j]? =some u→cs2[j]? =some p→w.cell? ⟨b2,off2+j,none⟩=some u∧Shr (mof c hP F) w u p:=by
   refine ⟨(List.range cs2.length).map fun j=>(w.cell? ⟨b2,off2+j,none⟩).getD undef,sM,fun j u p hu hp=>?_⟩;have hj:=Zg hp;simp [hj] at hu;obtain ⟨x,hx1,hx2⟩:=hsr j p hp;rw [hx1] at hu;simp at hu;subst hu;exact ⟨hx1,hx2⟩
  obtain ⟨xs2,hxl,hxs⟩:=hex;obtain ⟨v',w',hr,hown,hg,_,hblk⟩:=run_append_own_at (P:=P) w 0 t o.type e i z kk bytes hT.ht hi1 hi2 hi3 hi4 hT.hz hT.hk h n xs hrow ⟨b2,off2,none⟩ m cp2 xs2 oM
   (fun j u hu=>by
     obtain ⟨p,hp⟩:=YJ hu hxl;rw [Y0];exact (hxs j u p hu hp).1)
   (fun u hu=>by
     obtain ⟨j,hj,rfl⟩:=VU hu;obtain ⟨p,hp⟩:=YL (show j<cs2.length by omega);exact (hxs j _ p (Xx hj) hp).2.one (Xj.1 hok p (Xd hp)))
   (by unfold maxLen;exact hlen) hb (Xh _)
  have hch:Chg (fun b=>h.ownBlock=some b) w w':=(Chg.grown hg).wid fun b hb=> .inl hb;have hF1:∀b,h.ownBlock=some b→F l b:=fun b hb=>(hFF b).2 (.inl hb);have hv1:v'.oneCell'=true:=by rcases YZ hown with ⟨rfl,_⟩|⟨g,cap,rfl,_⟩<;>rfl
  let Fn:Nat→BS:=fun j b=>if j<cs.length then Fs j b else False;let Fd:BS:=fun b=>v'.ownBlock=some b∨∃j,j<(cs++cs2).length∧Fn j b;have hFd:∀b,Fd b→F l b∨w.heap.size≤b:=by
   rintro b (h1|⟨j,hj,h1⟩)
   · rcases hblk with h2|h2
     · exact .inl (hF1 b (by rw [←h2];exact h1))
     · rw [h2] at h1;cases h1;exact .inr (Xb _)
   · simp only [Fn] at h1;split at h1
     · exact .inl ((hFF b).2 (.inr ⟨j,by assumption,h1⟩))
     · exact h1.elim
  have key:HoldsF c ⟨put d (v', .val v') sL,put d (v', .own e kk (n+m) (cs++cs2)) (del l hP)⟩ (fun l'=>if l'=d then Fd else F l') (a.put (some d) v') w':=by
   have aux:∀l' x,(l'=l∨l'=d)→lk (put d (v', .own e kk (n+m) (cs++cs2)) (del l hP)) l'=some x→l'=d∧x=(v', .own e kk (n+m) (cs++cs2)):=fun l' x hTl hx'=>by
    rcases YS hx' with ⟨e1,e2⟩|⟨hne2,e1⟩
    · exact ⟨e1.symm,e2.symm⟩
    · rcases hTl with h5|h5
      · exact Uq h5.symm (YY e1).1
      · exact Uq h5.symm hne2
   refine H.change (fun l'=>l'=l∨l'=d) hn (hch.wid fun b hb=> .inl ⟨l,_, .inl rfl,hl,hF1 b hb⟩) (fun l' x hnT hx'=>?_) (fun l' x b hTl hx' hb'=>?_) (fun hmm l' u p hTl hx'=>?_) (fun l1 l2' x1 x2 b h1 h2 hne' hx1 hx2=>Uq ((aux l1 x1 h1 hx1).1.trans (aux l2' x2 h2 hx2).1.symm) hne') (fun _=> .val _) (fun h=>(hdr h).elim)
   · rcases YS hx' with ⟨e1,_⟩|⟨_,e1⟩
     · exact Uq (.inr e1.symm) hnT
     · refine ⟨(YY e1).2,?_⟩;have:l'≠d:=fun e2=>hnT (.inr e2);simp [this]
   · obtain ⟨rfl,_⟩:=aux l' x hTl hx';simp only [if_true] at hb';rcases hFd b hb' with h1|h1
     · exact .inl ⟨l,_, .inl rfl,hl,h1⟩
     · exact .inr h1
   · obtain ⟨rfl,e2⟩:=aux l' _ hTl hx'
     cases e2;simp only [if_true];refine .own (xs++xs2) Fn hown (by simp;omega) (fun j y p hy' hp'=>?_) (fun j1 j2 b hj1 hj2 hne' h1 h2=>?_) (fun j b hj h1=>?_) (fun b=>Iff.rfl)
     · simp only [Fn];rcases Xm j cs.length with hj|hj
       · rw [VA hj] at hp';rw [VA oM] at hy';simp only [hj,if_true];exact (hTc j y p hy' hp').to hch hmm (fun b _ hb'=> .inr ⟨l,_,hl,hF1 b hb'⟩) (fun b hb' he=>hbb j b hj hb' he)
       · rw [X0 hj] at hp';rw [X0 oM,←hlen1] at hy';simp only [show ¬j<cs.length by omega,if_false];exact .shr ((hxs (j-cs.length) y p hy' hp').2.to hch (fun b _ hb'=> .inr ⟨l,_,hl,hF1 b hb'⟩) hmm) (fun _ h=>h)
     · simp only [Fn] at h1 h2;split at h1
       · split at h2
         · exact hdd j1 j2 b (by assumption) (by assumption) hne' h1 h2
         · exact h2
       · exact h1
     · simp only [Fn] at h1;split at h1
       · rename_i hjl;intro hbk;have hlt:=hT1.lt b ((hFF b).2 (.inr ⟨j,hjl,h1⟩));rcases hblk with h3|h3
         · rw [h3] at hbk;exact hbb j b hjl h1 hbk
         · rw [h3] at hbk;cases hbk;omega
       · exact h1.elim
  unfold Oper.wp execOp;simp only [ho,resolve,invoke,builtin,Sem.run_bind,Sem.run_pure,Result.andThen_ok,VB,XM,Vb,hxv,hyv,hr,Oper.upon,hd];exact k v' hv1 _ _ ⟨_,key⟩
theorem ZeH {t e kk bytes n:Nat} {z:Value} {x y:Operand} {h v2:Value} {q:PV} {cs:List PV} (l d:Nat) (hT:ElT P t e kk bytes z) (hw:Z7 ops sL o=some true) (hd:o.dst=some d) (hn:d<c.nt)
 (ho:o.op= .call {callee:= .builtin .append,args:= #[x,y],argTypes:= #[t,t]}) (hx:ev sL x=some (h,q)) (hy:ev sL y=some (v2, .sl 0 [])) (hl:lk hP l=some (h, .own e kk n cs))
 (k:aL P c ops Q rest ⟨put d (h, .val h) sL,hP⟩):aL P c ops Q (o::rest) (⟨sL,hP⟩:St):=
 Y8 hw fun a w F H=>by
  have hxv:=(H.rd.ev hx).1;obtain ⟨hyv,hS⟩:=H.rd.ev hy;obtain ⟨i,hi1,hi2,hi3,hi4⟩:=hT.info;obtain ⟨xs,Fs,hrow,hlen1,hTc,hdd,hbb,hFF⟩:=(H.tr l _ _ hl).row;have hr:(Builtin.append_ #[t,t] o.type #[h,v2]).run P w= .ok h w:=by
   have hv2:∃ad cp,v2= .slice ad 0 cp:=by
    cases hS with
    |emp a c=>exact ⟨_,_,rfl⟩
    |sl b off n c cs vs=>exact ⟨_,_,rfl⟩
   obtain ⟨ad,cp,rfl⟩:=hv2;rcases YZ hrow with ⟨rfl,_,_⟩|⟨g,cap,rfl,h1,h2,h3⟩
   · cases ad<;>simp [Builtin.append_,run_underlying hT.ht,sizeOf,typeInfo,hi1,Builtin.lenOf,Builtin.firstCells,loadCells,loadCellsFrom]
   · cases ad<;>simp [Builtin.append_,run_underlying hT.ht,sizeOf,typeInfo,hi1,Builtin.lenOf,Builtin.firstCells,loadCells,loadCellsFrom,h1,storeCells]
  unfold Oper.wp execOp;simp only [ho,resolve,invoke,builtin,Sem.run_bind,Sem.run_pure,Result.andThen_ok,VB,XM,Vb,hxv,hyv,hr,Oper.upon,hd];exact k _ _ ⟨F,H.put hn (.val _)⟩
def slc (v:Value) (lo hi k:Nat):Value:=match v with
 | .slice a n cp=> .slice (if cp=lo then a else a.map (·.add (lo*k))) (hi-lo) (cp-lo)
 |v=>v
def bnd (slots:List (Nat×Ent)) (dflt:Nat):Option Operand→Option Nat
 |none=>some dflt
 | some x=>match ev slots x with
   |some (.int .i64 n,_)=>if 0≤n then some n.toNat else none
   |_=>none
theorem ζz {t e k:Nat} (hT:SlT P t e k=true) {a:Act} {M:BS} {F:Nat→BS} {w:World} (H:RdF M (⟨sL,hP⟩:St) F a w) {lo hi:Option Operand} {i j n cp:Nat} {ad:Option Addr} (hlo:bnd sL 0 lo=some i) (hhi:bnd sL n hi=some j) (hij:i≤j) (hj:j≤n) (hn:n≤cp):
 (Instr.sliceAt t (.slice ad n cp) (lo.map a.eval) (hi.map a.eval) none).run P w= .ok (slc (.slice ad n cp) i j k) w:=by
 have key:∀{x:Option Operand} {dflt r:Nat},bnd sL dflt x=some r→(x=none∧r=dflt)∨∃y,x=some y∧a.eval y= .int .i64 r:=fun {x dflt r} h=>by
  cases x with
  |none=>simp [bnd] at h;exact .inl ⟨rfl,h.symm⟩
  | some y=>
    simp only [bnd] at h;split at h
    · rename_i m q hq;split at h
      · rename_i h0
        cases h;refine .inr ⟨y,rfl,?_⟩;rw [(H.ev hq).1,Int.toNat_of_nonneg h0]
      · cases h
    · cases h
 have hjc:j≤cp:=oM
 have hr:(Instr.slice t (.slice ad n cp) (lo.map a.eval) (hi.map a.eval) none).run P w= .ok (slc (.slice ad n cp) i j k) w:=by
  rcases key hlo with ⟨rfl,rfl⟩|⟨y,rfl,hy⟩
  · rcases key hhi with ⟨rfl,rfl⟩|⟨y',rfl,hy'⟩
    · simp [Instr.slice,run_underlying (SlT.und hT),Instr.sliceBounds,SlT.size hT,slc]
    · simp [Instr.slice,run_underlying (SlT.und hT),Instr.sliceBounds,Instr.sliceBound,asIntOf,SlT.size hT,slc,hy',hjc]
  · rcases key hhi with ⟨rfl,rfl⟩|⟨y',rfl,hy'⟩
    · simp [Instr.slice,run_underlying (SlT.und hT),Instr.sliceBounds,Instr.sliceBound,asIntOf,SlT.size hT,slc,hy,hij]
    · simp [Instr.slice,run_underlying (SlT.und hT),Instr.sliceBounds,Instr.sliceBound,asIntOf,SlT.size hT,slc,hy,hy',hjc,hij]
 unfold Instr.sliceAt
 simp only [Sem.run_bind,run_underlying (SlT.und hT),Result.andThen_ok]
 exact hr
theorem Kc {t e k e' k' n i j:Nat} {x:Operand} {lo hi:Option Operand} {h:Value} {q:PV} {cs:List PV} (l:Nat) (hT:SlT P t e k=true) (ho:o.op= .slice t x lo hi none) (hx:ev sL x=some (h,q)) (hl:lk hP l=some (h, .own e' k' n cs)) (hlo:bnd sL 0 lo=some i) (hhi:bnd sL n hi=some j) (hij:i≤j) (hj:j≤n):
 YE P (⟨sL,hP⟩:St) o (· =slc h i j k) (.val (slc h i j k)):=
 .exact fun M F a w H=>by
  have hv:=(H.ev hx).1;obtain ⟨xs,Fs,hrow,hlen,_⟩:=(H.tr l _ _ hl).row;refine ⟨.val _,?_⟩;rcases YZ hrow with ⟨rfl,rfl,_⟩|⟨g,cap,rfl,h1,h2,h3⟩
  · simp [execOp,ho,hv,ζz hT H hlo hhi hij hj (Xb _)]
  · simp [execOp,ho,hv,ζz hT H hlo hhi hij hj h1]
end
def aC (P:Program) (c:Ctx) (code:Code) (Q:Exit→Act→World→Prop) (st:St):Prop:=∀a w,Holds c st a w→code.wp P Q a w
def aN (c:Ctx) (Q:Exit→Act→World→Prop) (st:St):Prop:=∀a w,Holds c st a w→Q .normal a w
def aX (c:Ctx) (Q:Exit→Act→World→Prop) (id:Nat) (st:St):Prop:=∀a w,Holds c st a w→Q (.exit id) a w
def aR (c:Ctx) (Q:Exit→Act→World→Prop) (st:St):Prop:=∀a w,Holds c st a w→Q .ret a w
section
variable {P:Program} {c:Ctx} {Q:Exit→Act→World→Prop} {sL hP:List (Nat×Ent)}
theorem DK {x y:Code} (h:aC P c x (Exit.then (y.wp P Q) Q) (⟨sL,hP⟩:St)):aC P c (x.seq y) Q (⟨sL,hP⟩:St):=fun a w H=>wp_seq (h a w H)
theorem Zm {id:Nat} {l:List Oper} (h:aL P c l.toArray Q l (⟨sL,hP⟩:St)):aC P c (.region id l.toArray false) Q (⟨sL,hP⟩:St):=fun a w H=>wp_region_lit (h a w H)
theorem Zh {ops:Array Oper} (h:aN c Q (⟨sL,hP⟩:St)):aL P c ops Q [] (⟨sL,hP⟩:St):=h
theorem R2 (h:aN c Q (⟨sL,hP⟩:St)):aC P c .skip Q (⟨sL,hP⟩:St):=fun a w H=>wp_skip (h a w H)
theorem R3 {x:Operand} {t e:Code} {b:Bool} {q:PV} (hx:ev sL x=some (.bool b,q)) (ht:b=true→aC P c t Q (⟨sL,hP⟩:St)) (hf:b=false→aC P c e Q (⟨sL,hP⟩:St)):aC P c (.cond x t e) Q (⟨sL,hP⟩:St):=fun a w H=>
 wp_cond_split (H.elim fun F H=>(H.rd.ev hx).1) (fun h=>ht h a w H) (fun h=>hf h a w H)
theorem TP {id:Nat} {x:Code} (h:aC P c x (Exit.inBlock id Q) (⟨sL,hP⟩:St)):aC P c (.block id x) Q (⟨sL,hP⟩:St):=fun a w H=>wp_block (h a w H)
theorem R4 {id:Nat} (h:aX c Q id (⟨sL,hP⟩:St)):aC P c (.exit id) Q (⟨sL,hP⟩:St):=fun a w H=>wp_exit (h a w H)
theorem DL (h:aR c Q (⟨sL,hP⟩:St)):aC P c .ret Q (⟨sL,hP⟩:St):=fun a w H=>wp_ret (h a w H)
theorem Zz {ι:Type} {S:ι→St} {x:Code} (h:Lo (⟨sL,hP⟩:St) S) (k:∀i,aC P c x Q (S i)):aC P c x Q (⟨sL,hP⟩:St):=fun a w H=>let ⟨i,hi⟩:=h c a w H;k i a w hi
theorem K0 {ι:Type} {S:ι→St} (h:Lo (⟨sL,hP⟩:St) S) (k:∀i,aN c Q (S i)):aN c Q (⟨sL,hP⟩:St):=fun a w H=>let ⟨i,hi⟩:=h c a w H;k i a w hi
theorem Wm {ι:Type} {S:ι→St} (h:Lo (⟨sL,hP⟩:St) S) (k:∀i,aR c Q (S i)):aR c Q (⟨sL,hP⟩:St):=fun a w H=>let ⟨i,hi⟩:=h c a w H;k i a w hi
theorem R5 {y:Code} (h:aC P c y Q (⟨sL,hP⟩:St)):aN c (Exit.then (y.wp P Q) Q) (⟨sL,hP⟩:St):=h
theorem TQ {id:Nat} (h:aN c Q (⟨sL,hP⟩:St)):aN c (Exit.inBlock id Q) (⟨sL,hP⟩:St):=h
theorem R6 {K:Act→World→Prop} {id:Nat} (h:aX c Q id (⟨sL,hP⟩:St)):aX c (Exit.then K Q) id (⟨sL,hP⟩:St):=h
theorem TR {id:Nat} (h:aN c Q (⟨sL,hP⟩:St)):aX c (Exit.inBlock id Q) id (⟨sL,hP⟩:St):=fun a w H=>by simp only [Exit.inBlock,if_true];exact h a w H
theorem TS {id id':Nat} (hne:Nat.beq id' id=false) (h:aX c Q id' (⟨sL,hP⟩:St)):aX c (Exit.inBlock id Q) id' (⟨sL,hP⟩:St):=fun a w H=>by
 have:id'≠id:=fun e=>by subst e;simp at hne
 simp only [Exit.inBlock,this,if_false];exact h a w H
theorem R7 {K:Act→World→Prop} (h:aR c Q (⟨sL,hP⟩:St)):aR c (Exit.then K Q) (⟨sL,hP⟩:St):=h
theorem TU {id:Nat} (h:aR c Q (⟨sL,hP⟩:St)):aR c (Exit.inBlock id Q) (⟨sL,hP⟩:St):=h
theorem Tu (p:Nat→Prop) (h:∃n,p n):∃n,p n∧∀m,p m→n≤m:=by
 obtain ⟨n,hn⟩:=h
 induction n using Nat.strongRecOn with
 | _ n ih=>
   by_cases hm:∃m,m<n∧p m
   · obtain ⟨m,h1,h2⟩:=hm;exact ih m h1 h2
   · exact ⟨n,hn,fun m hp=>Nat.le_of_not_lt fun h=>hm ⟨m,h,hp⟩⟩
def Zgq {ι:Type} (c:Ctx) (I:ι→St) (μ:ι→Nat) (i:ι):Act→World→Prop:=fun a w=>∃j,μ j<μ i∧Holds c (I j) a w
theorem ZE {ι:Type} {x:Code} (I:ι→St) (μ:ι→Nat) (i0:ι) (h0:∀a w,Holds c (⟨sL,hP⟩:St) a w→Holds c (I i0) a w) (round:∀i,aC P c x (Exit.then (Zgq c I μ i) Q) (I i)):aC P c (.loop x) Q (⟨sL,hP⟩:St):=fun a w H=>by
 classical
 let μ':Act→World→Nat:=fun a w=>if h:∃n,∃i,Holds c (I i) a w∧μ i=n then Classical.choose (Tu _ h) else 0
 refine wp_loop (fun a w=>∃i,Holds c (I i) a w) μ' ⟨i0,h0 a w H⟩ ?_
 rintro a w ⟨i,hi⟩
 have hex:∃n,∃i,Holds c (I i) a w∧μ i=n:=⟨_,i,hi,rfl⟩
 obtain ⟨⟨i1,hi1,hmu⟩,_⟩:=Classical.choose_spec (Tu _ hex)
 have hμ:μ' a w=μ i1:=by simp only [μ',dif_pos hex];exact hmu.symm
 refine wp_mono (round i1 a w hi1) fun e a' w' hq=>?_
 cases e with
 | normal=>
   obtain ⟨j,hj,hH⟩:=hq;refine ⟨⟨j,hH⟩,?_⟩;have hex':∃n,∃i,Holds c (I i) a' w'∧μ i=n:=⟨_,j,hH,rfl⟩;have hle:=(Classical.choose_spec (Tu _ hex')).2 (μ j) ⟨j,hH,rfl⟩;have:μ' a' w'≤μ j:=by simp only [μ',dif_pos hex'];exact hle
   omega
 |_=>exact hq
theorem Zk {ι:Type} {I:ι→St} {μ:ι→Nat} {i:ι} (j:ι) (hμ:μ j<μ i) (hs:Sub (I j).slots sL) (hh:Sub (I j).heap hP):aN c (Exit.then (Zgq c I μ i) Q) (⟨sL,hP⟩:St):=fun a w H=>⟨j,hμ,H.weaken hs hh⟩
theorem ZgP {ι:Type} {S:ι→St} (i:ι) (hs:Sub (S i).slots sL) (hh:Sub (S i).heap hP):aN c (Exit.then (fun a w=>∃i,Holds c (S i) a w) Q) (⟨sL,hP⟩:St):=fun a w H=>⟨i,H.weaken hs hh⟩
def JI (c:Ctx) (R:PV→Prop) (e:Ending) (w':World):Prop:=∃v p F,e= .returned v∧R p∧Ext c.w0 w'∧Tr (fun b=>c.M0 b∨F b) w' v p F∧(∀b,F b→c.w0.heap.size≤b)∧(c.dr→c.w0.drawn≤w'.drawn)
def AFd (dd:Prop) (P:Program) (f:FuncId) (ps:List PV) (R:PV→Prop):Prop:=∀(M:BS) (w:World) (vs:List Value),M0k w M (fun _=>False) dd→vs.length=ps.length→(∀(i:Nat) (v:Value) (p:PV),vs[i]? =some v→ps[i]? =some p→Shr M w v p)→Calls P f vs.toArray w (JI ⟨w,M,fun _=>False,0,dd,[]⟩ R)
abbrev AF (P:Program) (f:FuncId) (ps:List PV) (R:PV→Prop):Prop:=AFd False P f ps R
abbrev AFg (P:Program) (f:FuncId) (ps:List PV) (R:PV→Prop):Prop:=AFd True P f ps R
theorem AFd.mono {dd:Prop} {f:FuncId} {ps:List PV} {R R':PV→Prop} (h:AFd dd P f ps R) (hR:∀p,R p→R' p):AFd dd P f ps R':=fun M w vs hM hl hv=>(h M w vs hM hl hv).mono fun e w' ⟨v,p,F,h1,h2,h3⟩=>⟨v,p,F,h1,hR p h2,h3⟩
theorem AF.mono {f:FuncId} {ps:List PV} {R R':PV→Prop} (h:AF P f ps R) (hR:∀p,R p→R' p):AF P f ps R':=AFd.mono h hR
theorem AFg.mono {f:FuncId} {ps:List PV} {R R':PV→Prop} (h:AFg P f ps R) (hR:∀p,R p→R' p):AFg P f ps R':=AFd.mono h hR
def Kn:Nat→List Value→List PV→List (Nat×Ent)
 |i,v::vs,p::ps=>(i,v,p)::Kn (i+1) vs ps
 |_,_,_=>[]
theorem Gd:∀(vs:List Value) (ps:List PV) (i t:Nat) (v:Value) (p:PV),lk (Kn i vs ps) t=some (v,p)→i≤t∧vs[t-i]? =some v∧ps[t-i]? =some p
 |[],_,_,_,_,_,h=>by simp [Kn,lk] at h
 |_::_,[],_,_,_,_,h=>by simp [Kn,lk] at h
 | u ::vs,q::ps,i,t,v,p,h=>by
   simp only [Kn,lk] at h
   cases hb:Nat.beq i t
   · rw [hb] at h;obtain ⟨h1,h2,h3⟩:=Gd vs ps (i+1) t v p h;have:t-i=(t-(i+1))+1:=oM;exact ⟨oM,by rw [this];simpa using h2,by rw [this];simpa using h3⟩
   · rw [hb] at h;have:i=t:=XE hb;subst this
     cases h;simp
theorem AFd.of_bodyS {dd:Prop} {f:FuncId} {fn:Func} {code:Code} {ps:List PV} {R:PV→Prop} (nt:Nat) (hf:P.funcs[f]? =some fn) (hb:fn.body=some code) (hnt:fn.ntmps=nt) (hn:ps.length≤nt)
 (h:∀(w0:World) (M0:BS) (vs:List Value),vs.length=ps.length→(∀(i:Nat) (v:Value) (p:PV),vs[i]? =some v→ps[i]? =some p→vOf p v)→(∀(i:Nat) (v:Value) (p:PV),vs[i]? =some v→ps[i]? =some p→Shr M0 w0 v p)→aC P ⟨w0,M0,fun _=>False,nt,dd,[]⟩ code (bodyPost P fn (JI ⟨w0,M0,fun _=>False,nt,dd,[]⟩ R)) ⟨Kn 0 vs ps,[]⟩):AFd dd P f ps R:=fun M w vs hM hl hv=>by
 subst hnt
 refine calls_of_wp hf hb ?_
 refine wp_mono (h w M vs hl (fun i v p h1 h2=>(hv i v p h1 h2).vOf) hv _ w ⟨fun _ _=>False,⟨⟨by simp [lk],by simp [lk],by simp [lk],hM,Chg.rfl' _ _,fun _=>Xb _⟩,fun t v p ht=>?_,?_,rfl⟩⟩) fun e a w' hq=>?_
 · obtain ⟨_,h1,h2⟩:=Gd vs ps 0 t v p ht;simp only [Vd] at h1 h2;refine ⟨?_,(hv t v p h1 h2).anti fun b _ hb=>?_⟩
   · have:=Zg h1;rw [Vu (by simpa using this)];simpa using h1
   · rcases hb with hb|⟨l,x,h3,_⟩
     · exact hb
     · simp [lk] at h3
 · simp;omega
 · cases e<;>exact hq
theorem AFd.of_body {dd:Prop} {f:FuncId} {fn:Func} {code:Code} {ps:List PV} {R:PV→Prop} (nt:Nat) (hf:P.funcs[f]? =some fn) (hb:fn.body=some code) (hnt:fn.ntmps=nt) (hn:ps.length≤nt)
 (h:∀(w0:World) (M0:BS) (vs:List Value),vs.length=ps.length→(∀(i:Nat) (v:Value) (p:PV),vs[i]? =some v→ps[i]? =some p→vOf p v)→aC P ⟨w0,M0,fun _=>False,nt,dd,[]⟩ code (bodyPost P fn (JI ⟨w0,M0,fun _=>False,nt,dd,[]⟩ R)) ⟨Kn 0 vs ps,[]⟩):AFd dd P f ps R:=AFd.of_bodyS nt hf hb hnt hn fun w0 M0 vs h1 h2 _=>h w0 M0 vs h1 h2
theorem AF.of_body {f:FuncId} {fn:Func} {code:Code} {ps:List PV} {R:PV→Prop} (nt:Nat) (hf:P.funcs[f]? =some fn) (hb:fn.body=some code) (hnt:fn.ntmps=nt) (hn:ps.length≤nt)
 (h:∀(w0:World) (M0:BS) (vs:List Value),vs.length=ps.length→(∀(i:Nat) (v:Value) (p:PV),vs[i]? =some v→ps[i]? =some p→vOf p v)→aC P ⟨w0,M0,fun _=>False,nt,False,[]⟩ code (bodyPost P fn (JI ⟨w0,M0,fun _=>False,nt,False,[]⟩ R)) ⟨Kn 0 vs ps,[]⟩):AF P f ps R:=AFd.of_body nt hf hb hnt hn h
theorem Zx {fn:Func} {R:PV→Prop} {t:Nat} {v:Value} {p:PV} (hr:fn.results= #[.tmp t]) (ht:lk sL t=some (v,p)) (hR:R p) (hN:∀b,¬c.N0 b:=by intro _ h;exact h) (hdf:c.df=[]:=by exact rfl):aR c (bodyPost P fn (JI c R)) (⟨sL,hP⟩:St):=fun a w ⟨F,H⟩=>by
 obtain ⟨h1,h2⟩:=H.sl t v p ht
 refine ⟨H.df.trans hdf,v,?_,v,p,fun _=>False,rfl,hR,H.ext.ext (fun b _=>hN b), .shr (h2.anti fun b _ hb=>?_) (fun _ h=>h),fun _ h=>h.elim,H.dw⟩
 · simp [results,hr,XR,h1]
 · rcases hb with hb|hb
   · exact .inl hb
   · exact hb.elim
theorem ζA {fn:Func} {R:PV→Prop} {t:Nat} {v:Value} {p q:PV} (l:Nat) (hr:fn.results= #[.tmp t]) (ht:lk sL t=some (v,q)) (hl:lk hP l=some (v,p)) (hR:R p) (hN:∀b,¬c.N0 b:=by intro _ h;exact h) (hdf:c.df=[]:=by exact rfl):aR c (bodyPost P fn (JI c R)) (⟨sL,hP⟩:St):=fun a w ⟨F,H⟩=>by
 obtain ⟨h1,h2⟩:=H.sl t v q ht
 refine ⟨H.df.trans hdf,v,?_,v,p,F l,rfl,hR,H.ext.ext (fun b _=>hN b),(H.tr l v p hl).anti fun b _ hb=>?_,fun b hb=>(H.lo l _ b hl hb).resolve_right (hN b),H.dw⟩
 · simp [results,hr,XR,h1]
 · rcases hb with hb|hb
   · exact .inl hb
   · exact .inr ⟨l,_,hl,hb⟩
theorem JD {fn:Func} {R:PV→Prop} {t s:Nat} {v u:Value} {p q:PV} (hr:fn.results= #[.tmp t, .tmp s]) (ht:lk sL t=some (v,p)) (hs:lk sL s=some (u,q)) (hR:R (.tup [p,q])) (hN:∀b,¬c.N0 b:=by intro _ h;exact h) (hdf:c.df=[]:=by exact rfl):aR c (bodyPost P fn (JI c R)) (⟨sL,hP⟩:St):=fun a w ⟨F,H⟩=>by
 obtain ⟨h1,h2⟩:=H.sl t v p ht
 obtain ⟨h3,h4⟩:=H.sl s u q hs
 have hM:∀b,b<w.heap.size→(c.M0 b∨False)→mof c hP F b:=fun b _ hb=>by
  rcases hb with hb|hb
  · exact .inl hb
  · exact hb.elim
 refine ⟨H.df.trans hdf, .tuple [v,u].toArray,?_,_,_,fun _=>False,rfl,hR,H.ext.ext (fun b _=>hN b), .shr (.tup [v,u] [p,q] rfl fun i x r hx hr=>?_) (fun _ h=>h),fun _ h=>h.elim,H.dw⟩
 · simp [results,hr,XR,h1,h3]
 · match i with
   |0=>simp at hx hr;subst hx hr;exact h2.anti hM
   |1=>simp at hx hr;subst hx hr;exact h4.anti hM
   |i+2=>simp at hx
def Reads (st:St) (v:Value) (q:PV):Prop:=∀M F a w,RdF M st F a w→Shr (fun _=>False) w v q
theorem Tv {x:Operand} {v:Value} {p:PV} (h:ev sL x=some (v,p)):Reads (⟨sL,hP⟩:St) v p:=fun M F a w H=>(H.ev h).2.anti fun _ _ h=>h.elim
theorem Za0 {l:Nat} {v:Value} {p:PV} (h:lk hP l=some (v,p)):Reads (⟨sL,hP⟩:St) v (share p):=fun M F a w H=>(H.tr l v p h).share (fun _ _ h=>h.elim) (fun _ _ h=>h)
theorem Za1 {l j e k n:Nat} {h:Value} {cs:List PV} (hl:lk hP l=some (h, .own e k n cs)) (hn:0<n):Reads (⟨sL,hP⟩:St) (padd (sbase h) j) (.sptr j (WW cs)):=fun M F a w H=>by
 have h1:=H.tr l _ _ hl
 obtain ⟨g,cap,rfl,_⟩:=Jq h1 hn
 have h2:=h1.share (M':=fun _=>False) (fun _ _ h=>h.elim) (fun _ _ h=>h)
 rw [share] at h2
 generalize WW cs=cs' at h2 ⊢
 cases h2 with
 |emp=>omega
 |sl _ _ _ _ _ vs _ _ hcell hT=>exact .sptr g 0 j cs' vs hcell hT
theorem HO {f:Nat} {vs:List Value} {ps:List PV} (hl:vs.length=ps.length) (h:∀(i:Nat) (v:Value) (p:PV),vs[i]? =some v→ps[i]? =some p→Reads (⟨sL,hP⟩:St) v p):Reads (⟨sL,hP⟩:St) (.func (.func f) #[] vs.toArray) (.fn f ps):=fun M F a w H=> .fn f vs ps hl fun i v p h1 h2=>h i v p h1 h2 M F a w H
def ZeI (st:St):List Operand→List PV→Prop
 |[],[]=>True
 |x::xs,p::ps=>(∃v q,ev st.slots x=some (v,q)∧Reads st v p)∧ZeI st xs ps
 |_,_=>False
theorem O4 {M:BS} {F:Nat→BS} {a:Act} {w:World} (H:RdF M (⟨sL,hP⟩:St) F a w):∀{xs:List Operand} {ps:List PV},ZeI (⟨sL,hP⟩:St) xs ps→(xs.map a.eval).length=ps.length∧∀(i:Nat) (x:Value) (q:PV),(xs.map a.eval)[i]? =some x→ps[i]? =some q→Shr (fun _=>False) w x q
 |[],[],_=>⟨rfl,sM⟩
 | x::xs,p::ps,⟨⟨v,q,h1,h2⟩,h3⟩=>by
   obtain ⟨h4,h5⟩:=O4 H h3;refine ⟨by simpa using h4,fun i y r hy hr=>?_⟩
   cases i with
   |zero=>simp at hy hr;subst hy hr;rw [(H.ev h1).1];exact h2 M F a w H
   |succ i=>exact h5 i y r (by simpa using hy) (by simpa using hr)
 |[],_::_,h=>h.elim
 |_::_,[],h=>h.elim
mutual
def nosh:PV→Bool
 | .val _=>true
 | .own _ _ _ cs=>Rw cs
 | .omap _=>true
 | .obox _ _ cs=>Rw cs
 | .agg ps=>Rw ps
 | .tup ps=>Rw ps
 |_=>false
def Rw:List PV→Bool
 |[]=>true
 |p::l=>nosh p&&Rw l
end
theorem JV:∀l:List PV,Rw l=l.all nosh
 |[]=>by simp [Rw]
 |p::l=>by simp [Rw,JV l]
theorem Shr.nosh {M M':BS} {w:World} {v:Value} {p:PV} (h:Shr M w v p):nosh p=true→Shr M' w v p:=by
 induction h with
 |val v=>exact fun _=> .val v
 | agg vs ps hl h ih=>
   intro hn;rw [En.nosh,JV,Xj] at hn;exact .agg vs ps hl fun i v p h1 h2=>ih i v p h1 h2 (hn p (Xd h2))
 | tup vs ps hl h ih=>
   intro hn;rw [En.nosh,JV,Xj] at hn;exact .tup vs ps hl fun i v p h1 h2=>ih i v p h1 h2 (hn p (Xd h2))
 |_=>intro hn;simp [En.nosh] at hn
theorem Tr.nosh {M M':BS} {w:World} {v:Value} {p:PV} {F:BS} (h:Tr M w v p F):nosh p=true→Tr M' w v p F:=by
 induction h with
 |shr h hF=>exact fun hn=> .shr (h.nosh hn) hF
 | own xs Fs hrow hl hT hd hb hF ih=>
   intro hn;rw [En.nosh,JV,Xj] at hn;exact .own xs Fs hrow hl (fun i x p h1 h2=>ih i x p h1 h2 (hn p (Xd h2))) hd hb hF
 |omap b es clock h hF hW=>exact fun _=> .omap b es clock h hF hW
 |oblk=>intro hn;simp [En.nosh] at hn
 | obox g cap h ih=>
   intro hn;exact .obox g cap (ih (by simpa [En.nosh] using hn))
 | agg vs Fs hl h hd hF ih=>
   intro hn;rw [En.nosh,JV,Xj] at hn;exact .agg vs Fs hl (fun i v p h1 h2=>ih i v p h1 h2 (hn p (Xd h2))) hd hF
 | tup vs Fs hl h hd hF ih=>
   intro hn;rw [En.nosh,JV,Xj] at hn;exact .tup vs Fs hl (fun i v p h1 h2=>ih i v p h1 h2 (hn p (Xd h2))) hd hF
def J3 (P:Program) (c:Ctx) (st:St) (o:Oper) (R:PV→Prop):Prop:=∀a w F,HoldsF c st F a w→∃f args,(execOp a.eval o).run P w= .ok (.enter f args) w∧
 Calls P f args w (fun e w'=>∃v p Fr,e= .returned v∧R p∧Ext w w'∧Tr (fun b=>mof c st.heap F b∨Fr b) w' v p Fr∧(∀b,Fr b→w.heap.size≤b)∧(c.dr→w.drawn≤w'.drawn))
section
variable {ops:Array Oper} {rest:List Oper} {o:Oper}
theorem AFd.calls {dd:Prop} {f:Nat} {ps:List PV} {R:PV→Prop} (hA:AFd dd P f ps R) {M:BS} {w:World} {vs:List Value} (hM:M0k w M (fun _=>False) dd) (hl:vs.length=ps.length) (hv:∀(i:Nat) (v:Value) (p:PV),vs[i]? =some v→ps[i]? =some p→Shr M w v p):
 Calls P f vs.toArray w (fun e w'=>∃v p Fr,e= .returned v∧R p∧Ext w w'∧Tr (fun b=>M b∨Fr b) w' v p Fr∧(∀b,Fr b→w.heap.size≤b)∧(dd→w.drawn≤w'.drawn)):=hA M w vs hM hl hv
theorem Zh6 {dd:Prop} {f:Nat} {xs:Array Operand} {ats:Array TypeId} {es:List Ent} {R:PV→Prop} (ho:o.op= .call {callee:= .value (.func f),args:=xs,argTypes:=ats}) (hc:∀args w,(callFunc f args).run P w= .ok (.enter f args) w) (hx:evL sL xs.toList=some es) (hA:AFd dd P f (es.map (·.2)) R) (hdd:c.dr→dd:=by first|exact id|exact fun h=>h.elim|exact fun _=>trivial):J3 P c (⟨sL,hP⟩:St) o R:=fun a w F H=>by
 obtain ⟨h1,h2⟩:=KJ H.rd hx
 obtain ⟨vs,hvs⟩:∃vs,vs=es.map (·.1):=⟨_,rfl⟩
 obtain ⟨ps,hps⟩:∃ps,ps=es.map (·.2):=⟨_,rfl⟩
 have hlen:vs.length=ps.length:=by rw [hvs,hps,Xe,Xe]
 rw [←hvs] at h1 h2
 rw [←hps] at h2 hA
 refine ⟨f,vs.toArray,?_,(hA.calls (H.mok.up hdd) hlen h2).mono fun e w' ⟨v,p,Fr,e1,e2,e3,e4,e5,e6⟩=>⟨v,p,Fr,e1,e2,e3,e4,e5,fun h=>e6 (hdd h)⟩⟩
 have:xs.map a.eval=vs.toArray:=by rw [←h1,←X7,X6]
 simp [execOp,ho,resolve,Deferred.ofValue,Act.eval,invoke,this,hc]
theorem Zh7 {dd:Prop} {f:Nat} {xs:Array Operand} {ats:Array TypeId} {ps:List PV} {R:PV→Prop} (ho:o.op= .call {callee:= .value (.func f),args:=xs,argTypes:=ats}) (hc:∀args w,(callFunc f args).run P w= .ok (.enter f args) w) (hx:ZeI (⟨sL,hP⟩:St) xs.toList ps) (hA:AFd dd P f ps R) (hR:∀p,R p→nosh p=true) (hdd:c.dr→dd:=by first|exact id|exact fun h=>h.elim|exact fun _=>trivial):J3 P c (⟨sL,hP⟩:St) o R:=fun a w F H=>by
 obtain ⟨h1,h2⟩:=O4 H.rd hx
 refine ⟨f,(xs.toList.map a.eval).toArray,?_,(hA (fun _=>False) w (xs.toList.map a.eval) (H.mok.none.up hdd) h1 h2).mono fun e w' ⟨v,p,Fr,e1,e2,e3,e4,e5,e6⟩=>⟨v,p,Fr,e1,e2,e3,e4.nosh (hR p e2),e5,fun h=>e6 (hdd h)⟩⟩
 have:xs.map a.eval=(xs.toList.map a.eval).toArray:=by rw [←X7,X6]
 simp [execOp,ho,resolve,Deferred.ofValue,Act.eval,invoke,this,hc]
theorem Jb {dd:Prop} {f:Nat} {x:Operand} {ps:List PV} {xs:Array Operand} {ats:Array TypeId} {es:List Ent} {R:PV→Prop} (ho:o.op= .call {callee:= .value x,args:=xs,argTypes:=ats}) (hf:∃v,ev sL x=some (v, .fn f ps)) (hc:∀args w,(callFunc f args).run P w= .ok (.enter f args) w) (hx:evL sL xs.toList=some es) (hA:AFd dd P f (es.map (·.2)++ps) R) (hdd:c.dr→dd:=by first|exact id|exact fun h=>h.elim|exact fun _=>trivial):J3 P c (⟨sL,hP⟩:St) o R:=fun a w F H=>by
 obtain ⟨h1,h2⟩:=KJ H.rd hx
 obtain ⟨v,hv⟩:=hf
 obtain ⟨h3,h4⟩:=H.rd.ev hv
 cases h4 with
 | fn f vs ps hl hT=>
   refine ⟨f,((es.map (·.1))++vs).toArray,?_,(hA (mof c hP F) w (es.map (·.1)++vs) (H.mok.up hdd) (by simp;exact hl) fun i v p hv hp=>?_).mono fun e w' ⟨v,p,Fr,e1,e2,e3,e4,e5,e6⟩=>⟨v,p,Fr,e1,e2,e3,e4,e5,fun h=>e6 (hdd h)⟩⟩
   · (have:xs.map a.eval=(es.map (·.1)).toArray:=by rw [←h1,←X7,X6]);simp [execOp,ho,resolve,h3,Deferred.ofValue,invoke,this,hc]
   · rcases Xm i es.length with hi|hi
     · rw [VA (by simpa using hi)] at hv hp;exact h2 i v p hv hp
     · rw [X0 (by simpa using hi)] at hv hp;simp only [Xe] at hv hp;exact hT _ v p hv hp
theorem Gz (hw:Z7 ops sL o=some true) {R:PV→Prop} (hC:J3 P c (⟨sL,hP⟩:St) o R)
 (k:∀a w F w' v p Fr,HoldsF c (⟨sL,hP⟩:St) F a w→R p→Ext w w'→Tr (fun b=>mof c hP F b∨Fr b) w' v p Fr→(∀b,Fr b→w.heap.size≤b)→(c.dr→w.drawn≤w'.drawn)→wpList P ops Q rest (a.put o.dst v) w'):aL P c ops Q (o::rest) (⟨sL,hP⟩:St):=
 Y8 hw fun a w F H=>by
  obtain ⟨f,args,hr,hcall⟩:=hC a w F H;unfold Oper.wp;rw [hr,Oper.upon_enter];refine hcall.mono fun e w' ⟨v,p,Fr,e1,e2,e3,e4,e5,e6⟩=>?_;subst e1;exact k a w F w' v p Fr H e2 e3 e4 e5 e6
theorem SP {F:Nat→BS} {a:Act} {w w':World} (H:HoldsF c (⟨sL,hP⟩:St) F a w) (hx:Ext w w') {d:Nat} {v:Value} {p:PV} (hd:d<c.nt) (hS:Shr (mof c hP F) w' v p) (hdw:c.dr→w.drawn≤w'.drawn:=by assumption):HoldsF c ⟨put d (v,p) sL,hP⟩ F (a.put (some d) v) w':=(H.up hx hdw).put hd hS
theorem Zh8 {R:PV→Prop} (d:Nat) (hw:Z7 ops sL o=some true) (hd:o.dst=some d) (hn:d<c.nt) (hC:J3 P c (⟨sL,hP⟩:St) o R) (k:∀p,R p→isSh p=true∧∀v,vOf p v→aL P c ops Q rest ⟨put d (v,p) sL,hP⟩):aL P c ops Q (o::rest) (⟨sL,hP⟩:St):=
 Gz hw hC fun a w F w' v p Fr H hR hx hT hlo hdw=>by
  obtain ⟨h1,h2⟩:=k p hR;have hS:=hT.sh h1;rw [hd];exact h2 v hS.vOf _ _ ⟨F,SP H hx hn (hS.anti fun b _ h=> .inl h)⟩
theorem Zh9 {R:PV→Prop} (d:Nat) (hw:Z7 ops sL o=some true) (hd:o.dst=some d) (hn:d<c.nt) (hl:lk hP d=none) (hC:J3 P c (⟨sL,hP⟩:St) o R) (k:∀p,R p→Gs p=true∧∀v,v.oneCell'=true→aL P c ops Q rest ⟨put d (v, .val v) sL,put d (v,p) hP⟩):aL P c ops Q (o::rest) (⟨sL,hP⟩:St):=
 Gz hw hC fun a w F w' v p Fr H hR hx hT hlo hdw=>by
  obtain ⟨h1,h2⟩:=k p hR;rw [hd];refine h2 v (hT.cellOne h1) _ _ ⟨fun l'=>if l'=d then Fr else F l',?_⟩;refine H.change (fun l'=>l'=d) hn (hx.chg) (fun l' x hne hx'=>?_) (fun l' x b hT' hx' hb=>?_) (fun hm l' u q hT' hx'=>?_) (fun l1 l2 _ _ _ h1 h2 hne=>Uq (h1.trans h2.symm) hne) (fun hm=> .val _)
  · rcases YS hx' with ⟨e1,_⟩|⟨_,e1⟩
    · exact Uq e1.symm hne
    · exact ⟨e1,by simp [hne]⟩
  · subst hT';simp only [if_true] at hb;exact .inr (hlo b hb)
  · subst hT';rw [YH] at hx'
    cases hx';simp only [if_true];refine hT.anti fun b hb hmb=>?_;rcases hmb with h1|⟨l0,x0,h1,h2⟩
    · exact .inl (.inl h1)
    · by_cases h0:l0=l'
      · simp only [h0,if_true] at h2;exact .inr h2
      · simp only [h0,if_false] at h2;rw [YR (Ne.symm h0)] at h1;exact .inl (.inr ⟨l0,x0,h1,h2⟩)
end
end
end Go.En
namespace Go.Cb
def KN (c:Int):Bool:=(decide (65≤c)&&decide (c≤90))||(decide (97≤c)&&decide (c≤122))
def Ge (c:Int):Bool:=KN c||(decide (48≤c)&&decide (c≤57))||c==95||c==45||c==46
def Ki (s:ByteArray):Bool:=decide (1≤s.size)&&decide (s.size≤40)&&KN (s.data[0]?.getD 0).toNat&&s.data.toList.all fun c=>Ge c.toNat
def Jc (a b:ByteArray):Bool:=Op.bytesLess a.toList b.toList
def Rx (a b:ByteArray):Bool:=a.toList==b.toList
def Wi (a b:ByteArray):Int:=if Jc a b then-1 else if Rx a b then 0 else 1
theorem Za2 (a b:ByteArray): -1≤Wi a b∧Wi a b≤1:=by
 unfold Wi;split
 · decide
 · split<;>decide
def Ko {α:Type} (r:α→α→Bool):List α→Bool
 |a::b::l=>r a b&&Ko r (b::l)
 |_=>true
theorem Tw {α:Type} (r:α→α→Bool):∀l:List α,Ko r l=true↔∀i x y,l[i]? =some x→l[i+1]? =some y→r x y=true
 |[]=>by simp [Ko]
 |[a]=>by simp [Ko]
 | a ::b::l=>by
   rw [Ko,Xf,Tw r (b::l)];constructor
   · rintro ⟨h1,h2⟩ i x y hx hy
     cases i with
     |zero=>simp at hx hy;subst hx hy;exact h1
     |succ i=>exact h2 i x y (by simpa using hx) (by simpa using hy)
   · intro h;exact ⟨h 0 a b rfl rfl,fun i x y hx hy=>h (i+1) x y (by simpa using hx) (by simpa using hy)⟩
theorem HP {α:Type} {r:α→α→Bool} {l:List α} {k:Nat} {x y:α} (hk:1≤k) (hy:l[k-1]? =some y) (hx:l[k]? =some x) (h:r y x=false):Ko r l=false:=by
 cases hc:Ko r l
 · rfl
 · have:=(Tw r l).1 hc (k-1) y x hy (by rw [Nat.sub_add_cancel hk];exact hx);rw [h] at this;cases this
theorem Cs {α:Type} {r:α→α→Bool} {l:List α} (h:∀j x y,1≤j→l[j-1]? =some y→l[j]? =some x→r y x=true):Ko r l=true:=
 (Tw r l).2 fun i x y hx hy=>h (i+1) y x oM hx hy
def ZgQ (p:List ByteArray) (s:ByteArray):Bool:=p.any fun x=>Rx x s
def SQ (parts:List (List ByteArray)) (s:ByteArray):Int:=idx (fun p=>ZgQ p s) parts
theorem Yo {α:Type} {l:List α} {k:Nat} {x:α} (h:l[k]? =some x):l.take (k+1)=l.take k++[x]:=by
 obtain ⟨hk,rfl⟩:=Xz.1 h
 rw [V6 hk]
open Go.RowKit
set_option linter.all false
abbrev VR (α:Type):=Mut→World→List Value→α→Prop
structure EV {α:Type} (k:Nat) (E:Elt α) (V:VR α):Prop where
 toE:∀{M w b o cs x},V M w cs x→(∀j u,cs[j]? =some u→Cell M w b (o+j) u)→E M w b o x
 ofE:∀{M w b o x},E M w b o x→∃cs,V M w cs x∧∀j u,cs[j]? =some u→Cell M w b (o+j) u
 len:∀{M w cs x},V M w cs x→cs.length=k
 one:∀{M w cs x},V M w cs x→∀u∈cs,u.oneCell'=true
 mv:∀{M w w' cs x},V M w cs x→Chg M w w'→V M w' cs x
 re:∀{M N w cs x},V M w cs x→(∀i,N i→M i∨w.heap.size≤i)→V N w cs x
structure ElemT (P:Program) (t e k bytes:Nat):Prop where
 ht:P.underlying t=some (.slice e)
 hi:∃i z,P.info? e=some i∧i.zero=some z∧i.size=k∧i.bytes=bytes∧z.cells.size=k
 hk:0<k
def ownOf (v:Value):Mut:=fun b=>v.ownBlock=some b
def Mut.or (M N:Mut):Mut:=fun b=>M b∨N b
def OwnL {α:Type} (base e k:Nat) (V:VR α) (M:Mut) (w:World) (v:Value) (l:List α):Prop:=
 (∀b,ownOf v b→¬M b)∧∃xs,w.ownsRow base e k v l.length xs∧∀i x,l[i]? =some x→V (M.or (ownOf v)) w ((xs.drop (i*k)).take k) x
structure Nest {α:Type} (base e k f e' k':Nat) (V:VR α) (M:Mut) (w:World) (v:Value) (cells:List Value) (rows:List (List α)):Prop where
 row:w.ownsRow base e k v rows.length cells
 own:∀i r,rows[i]? =some r→∃u,cells[i*k+f]? =some u∧OwnL base e' k' V M w u r
 sep:∀i j u u',i≠j→i<rows.length→j<rows.length→cells[i*k+f]? =some u→cells[j*k+f]? =some u'→∀b,ownOf u b→¬ownOf u' b
 sepv:∀i u,i<rows.length→cells[i*k+f]? =some u→∀b,ownOf u b→¬ownOf v b
structure Piece where
 part:Int
 word:List ByteArray
def Za3 (parts:List (List ByteArray)) (ps:List Piece) (s:ByteArray):Option (List Piece):=
 match ps[ps.length-1]? with
 |none=>some [⟨SQ parts s,[s]⟩]
 | some q=>if q.part=SQ parts s then some (ps.set (ps.length-1) ⟨q.part,q.word++[s]⟩)
   else if SQ parts s≠0∧q.part≠0 then none else some (ps++[⟨SQ parts s,[s]⟩])
theorem step_nil {parts:List (List ByteArray)} {s:ByteArray}:Za3 parts [] s=some (([]++[⟨SQ parts s,[]⟩]:List Piece).set 0 ⟨SQ parts s,[]++[s]⟩):=rfl
end Go.Cb
