/-
  Walks of functions and plain laws of the chapter, as the claim needs them.
-/
import Derived.KernelRfl
import Derived.WalkKit
import Derived.WalkSpells
import Derived.WalkLawsBesides
import Derived.Handy
import Derived.BigQuiet
import Derived.Lib.Hide
import Derived.OrdersHeld
import Derived.Maps.AppendAt
import Derived.Lib.LaidTab
import Derived.Lib.ItoaNum
import Derived.Laws.Cells
import Derived.Laws.MakeOwn
import Derived.Laws.OwnMore
import Derived.Great.BuildSlice
import Derived.Laws.Tables
set_option linter.all false
set_option maxRecDepth 100000
abbrev BA:=ByteArray
set_option maxHeartbeats 8000000
theorem kR {α:Sort _} {a b:α} (e:a=b:=by kernel_rfl):a=b:=e
theorem oM {P:Prop} (e:P:=by omega):P:=e
theorem dC {P:Prop} (e:P:=by decide):P:=e
theorem sM {P:Prop} (e:P:=by simp):P:=e
theorem Tx {P:Prop} (e:P:=by first|omega|exact Xa rfl|(simp only [Xl,Xz,Xb,Xp,Xf,XN,XF,Xv,XO];omega)):P:=e
theorem bN {P:Prop} {a b:Bool} (h:a=b) (e:(a==b)=false:=by exact rfl):P:=by subst h;simp at e
def Xa:= @Nat.le_of_ble_eq_true
def Xb:= @List.length_map
def Xc:= @List.mem_of_getElem?
def Xd:= @List.mem_append
def Xe:= @Nat.le_refl
def Xf:= @List.length_append
def Xg:= @Nat.zero_le
def Xh:= @List.mem_map
def Xi:= @Bool.and_eq_true
def Xj:= @List.map_cons
def Xk:= @List.mem_cons
def Xl:= @List.length_cons
def Xm:= @List.all_eq_true
def Xn:= @List.mem_singleton
def Xo:= @List.getElem?_map
def Xp:= @List.length_set
def Xq:= @List.take_of_length_le
def Xr:= @List.getElem?_eq_some_iff
def Xs:= @List.mem_cons_self
def Xt:= @List.map_map
def Xu:= @List.append_nil
def Xv:= @List.flatMap_cons
def Xw:= @List.mem_cons_of_mem
def Xx:= @List.getElem?_eq_getElem
def Xy:= @Nat.mul_one
def Xz:= @List.length_nil
def XA:= @List.append_assoc
def XB:= @List.eq_nil_of_length_eq_zero
def XC:= @List.map_append
def XD:= @Nat.lt_or_ge
def XE:= @Nat.zero_add
def XF:= @List.length_singleton
def XG:= @List.length_take
def XH:= @List.take_length
def XI:= @List.getElem?_set_self
def XJ:= @Nat.le_trans
def XK:= @Nat.eq_of_beq_eq_true
def XL:= @List.pairwise_cons
def XM:= @List.take_zero
def XN:= @List.length_replicate
def XO:= @List.flatMap_nil
def XP:= @Option.map_eq_some_iff
def XQ:= @List.nil_append
def XR:= @List.getElem?_of_mem
def XS:= @List.pairwise_iff_getElem
def XT:= @List.flatMap_append
def XU:= @List.drop_eq_nil_of_le
def XV:= @List.cons_append
def XW:= @List.flatten_cons
def XX:= @Array.length_toList
def XY:= @Int.toNat_natCast
def XZ:= @List.getElem?_set_ne
def X0:= @List.getElem?_append_left
def X1:= @Nat.add_mul
def X2:= @List.set_set
def X3:= @Bool.or_eq_true
def X4:= @List.any_eq_true
def X5:= @List.take_append_drop
def X6:= @List.nodup_nil
def X7:= @List.mem_flatMap
def X8:= @Nat.zero_mul
def X9:= @List.getElem?_take_of_lt
def X':= @List.getElem?_append_right
def Va:= @List.mem_range
def Vb:= @List.mem_flatten
def Vc:= @Nat.min_eq_left
def Vd:= @List.length_pos_iff
def Ve:= @List.getElem_mem
def Vf:= @List.drop_eq_getElem_cons
def Vg:= @List.foldl_cons
def Vh:= @List.mem_filter
def Vi:= @Nat.succ_mul
def Vj:= @Nat.succ_pos
def Vk:= @List.drop_zero
def Vl:= @List.map_nil
def Vm:= @Nat.sub_self
def Vn:= @Nat.mul_le_mul_right
def Vo:= @List.getElem?_eq_none
def Vp:= @List.foldl_append
def Vq:= @List.pairwise_map
def Vr:= @Array.getElem?_append_left
def Vs:= @Nat.one_pos
def Vt:= @List.nodup_cons
def Vu:= @List.pairwise_singleton
def Vv:= @Array.getElem?_eq_none
def Vw:= @Nat.add_assoc
def Vx:= @Nat.sub_zero
def Vy:= @List.exists_mem_of_ne_nil
def Vz:= @List.size_toArray
def VA:= @List.mem_of_mem_take
def VB:= @List.nodup_append
def VC:= @Nat.mul_comm
def VD:= @List.any_append
def VE:= @List.set_append_right
def VF:= @List.all_map
def VG:= @Nat.lt_trichotomy
def VH:= @List.flatten_append
def VI:= @Array.getD_eq_getD_getElem?
def VJ:= @List.getElem?_drop
def VK:= @Bool.false_eq_true
def VL:= @Array.toArray_toList
def VM:= @Bool.eq_iff_iff
def VN:= @Bool.eq_false_iff
def VO:= @List.getElem?_cons_succ
def VP:= @List.map_id
def VQ:= @Nat.le_succ
def VS:= @List.eq_of_mem_replicate
def VT:= @Array.toList_map
def VU:= @List.all_cons
def VV:= @Bool.and_true
def VW:= @Array.getElem?_modify
def VX:= @Nat.le_add_right
def VY:= @Nat.lt_of_lt_of_le
def VZ:= @Nat.add_zero
def V8:= @List.all_eq_false
def V9:= @List.mem_or_eq_of_mem_set
def V':= @Bool.false_or
def Ua:= @List.ext_getElem?
def Ub:= @Nat.eq_zero_or_pos
def Uc:= @Bool.or_eq_false_iff
def Ud:= @List.any_cons
def Ue:= @List.mergeSort_perm
def Uf:= @Array.getElem?_toList
def Ug:= @List.length_mergeSort
def Uh:= @List.length_attach
def Ui:= @List.nodup_iff_pairwise_ne
def Uj:= @List.getElem_of_mem
def Uk:= @Option.getD_some
def Ul:= @List.map_toArray
def Um:= @List.zipIdx_cons
def Un:= @Nat.div_add_mod
def Uo:= @Bool.true_and
def Up:= @List.map_set
def Uq:= @List.map_congr_left
def Ur:= @List.filter_cons_of_pos
def Us:= @List.filter_cons_of_neg
def Ut:= @Nat.not_lt_zero
def Uu:= @Nat.add_sub_cancel
def Uv:= @List.take_succ_cons
def Uw:= @List.map_flatMap
def Ux:= @Array.getElem?_setIfInBounds
def Uy:= @List.findIdx?_eq_some_iff_getElem
def Uz:= @List.zipIdx_nil
def UA:= @List.mem_of_mem_drop
def UB:= @List.length_drop
def UC:= @List.pairwise_mergeSort
def UD:= @List.filter_append
def UE:= @List.length_filter_le
def UF:= @List.any_eq_false
def UG:= @List.take_sublist
def UH:= @Nat.le_of_not_lt
def UI:= @List.length_range
def UJ:= @List.take_succ_eq_append_getElem
def UK:= @List.take_set_of_le
def UL:= @Nat.lt_succ_self
def UM:= @Array.toList_modify
def UN:= @List.modify_succ_cons
def UO:= @Array.getElem?_setIfInBounds_ne
def UP:= @Nat.div_lt_iff_lt_mul
def UQ:= @Bool.not_eq_true'
def UR:= @List.length_pos_of_mem
def US:= @List.pairwise_append
def UT:= @Array.toList_extract
def UU:= @List.extract_eq_take_drop
def UV:= @List.filter_cons
def UW:= @Array.toList_filter
def UX:= @List.append_cancel_right
def UY:= @List.isEmpty_iff
def UZ:= @List.zip_cons_cons
def U0:= @List.flatMap_singleton
def U1:= @Nat.min_eq_right
def U2:= @List.length_eq_one_iff
def U3:= @List.findIdx?_eq_none_iff
def U4:= @List.drop_append_of_le_length
def U5:= @List.getElem?_eq_none_iff
def U6:= @List.perm_ext_iff_of_nodup
def U7:= @Array.size_setIfInBounds
def U8:= @decide_eq_true_eq
def U9:= @decide_eq_true
def U':= @decide_eq_false
def Qa:= @if_neg
def Qb:= @if_pos
def Qc:= @absurd
def Qd:= @of_decide_eq_true
def Qe:= @of_decide_eq_false
namespace Go.Cb
open Go.RowKit
abbrev Ext (w w':World):Prop:=Below w.heap.size w w'
theorem Ext.rfl' (w:World):Ext w w:=Below.refl _ _
theorem Ext.alloc (w:World) (o:Obj):Ext w (w.alloc o):=(Below.refl _ _).alloc (Xe _) o
theorem Ext.drew (w:World):Ext w w.drew:=(Below.refl _ _).drew
theorem Ext.block {w w':World} (h:Ext w w') {b:Nat} {o:Obj} (hp:w.heap[b]? =some o):w'.heap[b]? =some o:=by
 have hlt:b<w.heap.size:=by
  rcases XD b w.heap.size with h1|h1
  · exact h1
  · rw [Vv h1] at hp;cases hp
 rw [Below.block h b hlt];exact hp
structure More where
 objs:Array Obj
 drawn:Nat
instance:Inhabited More:=⟨⟨#[],0⟩⟩
abbrev Mut:=Nat→Prop
structure Chg (M:Mut) (w w':World):Prop where
 os:w'.os=w.os
 tape:w'.tape=w.tape
 output:w'.output=w.output
 size:w.heap.size≤w'.heap.size
 block:∀k,k<w.heap.size→¬M k→w'.heap[k]? =w.heap[k]?
theorem Chg.rfl' (M:Mut) (w:World):Chg M w w:=⟨rfl,rfl,rfl,Xe _,fun _ _ _=>rfl⟩
theorem Ext.chg {M:Mut} {w w':World} (h:Ext w w'):Chg M w w':=⟨h.os,h.tape,h.output,h.size,fun k hk _=>Below.block h k hk⟩
theorem Chg.ext {M:Mut} {w w':World} (h:Chg M w w') (hM:∀b,b<w.heap.size→¬M b):Ext w w':=⟨h.os,h.tape,h.output,h.size,fun k hk=>h.block k hk (hM k hk)⟩
theorem Chg.tr {M N:Mut} {a b c:World} (h:Chg M a b) (k:Chg N b c) (hN:∀i,N i→M i∨a.heap.size≤i):Chg M a c:=
 ⟨k.os.trans h.os,k.tape.trans h.tape,k.output.trans h.output,XJ h.size k.size,fun i hi hm=>
  (k.block i (VY hi h.size) (fun hn=>(hN i hn).elim hm oM)).trans (h.block i hi hm)⟩
theorem Chg.tr' {M:Mut} {a b c:World} (h:Chg M a b) (k:Chg M b c):Chg M a c:=h.tr k fun _ h=> .inl h
theorem Chg.wid {M N:Mut} {a b:World} (h:Chg M a b) (hN:∀i,M i→N i∨a.heap.size≤i):Chg N a b:=
 ⟨h.os,h.tape,h.output,h.size,fun i hi hn=>h.block i hi fun hm=>(hN i hm).elim hn oM⟩
theorem Chg.grown {w w':World} {row:Option Nat} (h:w.grownBy w' row):Chg (fun b=>row=some b) w w':=
 ⟨h.os,h.tape,h.output,h.size,fun k hk hm=>h.block k hk (fun e=>hm e.symm)⟩
theorem Chg.setCell (w:World) (p:Addr) (u:Value):Chg (fun b=>b=p.block) w (w.setCell p u):=
 ⟨rfl,rfl,rfl,by simp [World.setCell],fun k _ hm=>Below.heap_setCell _ _ _ _ hm⟩
def Cell (M:Mut) (w:World) (b o:Nat) (v:Value):Prop:=w.cell? ⟨b,o,none⟩=some v∧¬M b
abbrev Elt (α:Type):=Mut→World→Nat→Nat→α→Prop
abbrev Rd (α:Type):=Mut→World→Value→α→Prop
structure Elt.Mono {α:Type} (E:Elt α):Prop where
 mv:∀{M w w' b o x},E M w b o x→Chg M w w'→E M w' b o x
 re:∀{M N w b o x},E M w b o x→(∀i,N i→M i∨w.heap.size≤i)→E N w b o x
structure Rd.Mono {α:Type} (R:Rd α):Prop where
 mv:∀{M w w' v x},R M w v x→Chg M w w'→R M w' v x
 re:∀{M N w v x},R M w v x→(∀i,N i→M i∨w.heap.size≤i)→R N w v x
structure Var where
 acts:List BA
 count:Int
structure Cut where
 kind:Int
 parts:List (List BA)
theorem get_some {α:Type} {l:List α} {i:Nat} (h:i<l.length):∃x,l[i]? =some x:=⟨l[i],by simp [h]⟩
def idx {α:Type} (p:α→Bool) (l:List α):Int:=match l.findIdx? p with|some i=>i|none=> -1
theorem Lo {α:Type} (p:α→Bool) (l:List α):decide (0≤idx p l)=l.any p:=by
 unfold idx
 cases h:l.findIdx? p with
 |none=>rw [U3] at h;symm;simpa using h
 |some i=>rw [Uy] at h;obtain ⟨hi,hp,_⟩:=h;symm;simp;exact ⟨_,Ve hi,hp⟩
theorem Lp {α:Type} {p:α→Bool} {l:List α} {k:Nat} {x:α} (h:∀i y,i<k→l[i]? =some y→p y=false) (hx:l[k]? =some x) (hp:p x=true):idx p l=k:=by
 unfold idx
 obtain ⟨hk,rfl⟩:=Xr.1 hx
 have:l.findIdx? p=some k:=by
  rw [Uy];exact ⟨hk,hp,fun j hj=>by simp [h j _ hj (Xx oM)]⟩
 rw [this]
theorem Lq {α:Type} {p:α→Bool} {l:List α} (h:∀i y,i<l.length→l[i]? =some y→p y=false):idx p l= -1:=by
 unfold idx
 have:l.findIdx? p=none:=by
  rw [U3];intro x hx;obtain ⟨i,hi,rfl⟩:=Uj hx;exact h i _ hi (Xx hi)
 rw [this]
section
variable {P:Program} {ops:Array Oper} {Q:Exit→Act→World→Prop} {md:Region.Mode} {C:World→Prop} {z:Nat}
def Zak (Q:Exit→Act→World→Prop):Exit→Act→World→Prop
 | .normal,a,w=>Q .normal a w
 |_,_,_=>False
theorem Zcs {Q':Exit→Act→World→Prop} {o:Oper} {a:Act} {w:World} {K:Act→World→Prop} (h:o.wp P a w K (Zak Q')):o.wp P a w K Q:=by
 unfold Oper.wp at*
 generalize (execOp a.eval o).run P w=r at*
 cases r with
 | ok n w'=>
   cases n<;>simp only [Oper.upon] at h ⊢<;>try exact h
   refine Calls.mono h fun e w'' he=>?_
   cases e with
   |returned u=>exact he
   |panicked c=>exact he.elim
   |outgrown=>obtain ⟨_,_,hf⟩:=he;exact hf.elim
 | halt x w'=>
   cases x<;>simp only [Oper.upon] at h ⊢;exact h.elim
theorem ZeK {i:Nat} {a:Act} {w:World} {K:Act→World→Prop} (h:wpOp P ops (Zak Q) i K a w):wpOp P ops Q i K a w:=by
 unfold wpOp at*
 split
 · rename_i ho;simp only [ho] at h;exact h
 · rename_i o ho;simp only [ho] at h;split
   · rename_i hw;simp only [hw,if_true] at h;rcases h with h|⟨_,_,_,hf⟩
     · exact .inl (Zcs h)
     · exact hf.elim
   · rename_i hw;simp only [hw] at h;exact h
def YieldsC (P:Program) (ops:Array Oper) (C:World→Prop) (o:Oper) (v:Value) (a:Act):Prop:=
 (Region.wanted o (yielded ops a.tmps)=true∧∀w,C w→(execOp a.eval o).run P w= .ok (.value v) w)∨
 (Region.wanted o (yielded ops a.tmps)=false∧v=undef)
theorem YieldsC.ifS {o:Oper} {v:Value} {a:Act} (h:YieldsC P ops C o v a):YieldsIf P ops C o v a:=h
theorem Lr {Q':Exit→Act→World→Prop} {k:Nat} {o:Oper} (ho:ops[k]? =some o) {a:Act} {w:World} {K:Act→World→Prop} (hK:∀a w,Q' .normal a w→K a w) (h:wpList P ops (Zak Q') [o] a w):wpOp P ops (Zak Q) k K a w:=by
 unfold wpOp
 simp only [ho]
 unfold wpList at h
 split
 · rename_i hw;rw [Qb hw] at h;rcases h with h|⟨_,_,_,hf⟩
   · exact .inl (Zcs (Oper.wp_mono (fun a w h=>hK a w h) h))
   · exact hf.elim
 · rename_i hw;rw [Qa hw] at h;exact hK _ _ h
def Zct (md:Region.Mode) (ops:Array Oper) (z i:Nat):Bool:=match ops[z]? with
 |some oz=>oz.after.any fun e=>Region.binds md e&&e.on==i
 |none=>false
end
section
variable {P:Program} {ops:Array Oper} {Q:Exit→Act→World→Prop} {md:Region.Mode} {C:World→Prop} {z:Nat}
end
end Go.Cb
namespace Go.En
open Go.RowKit Go.Cb
inductive PV where
 |val (v:Value)
 |sl (n:Nat) (cs:List PV)
 |sptr (off:Nat) (cs:List PV)
 |smap (es:List (Value×Value))
 |smapS (ks:List Value) (ps:List PV)
 |own (e k n:Nat) (cs:List PV)
 |omap (es:List (Value×Value))
 |obox (e k:Nat) (cs:List PV)
 |agg (ps:List PV)
 |tup (ps:List PV)
 |fn (f:Nat) (ps:List PV)
 |oblk (v:Value) (r:Nat) (o:Obj) (sh:List (Nat×Obj))
instance:Inhabited PV:=⟨.val (.bool false)⟩
abbrev BS:=Nat→Prop
def kvOf (es:Array MapEntry):List (Value×Value):=es.toList.map fun x=>(x.key,x.val)
def WfM (es:Array MapEntry) (clock:Nat):Prop:=(∀x∈es.toList,x.born<clock)∧(es.toList.map (·.born)).Nodup
inductive Shr (M:BS) (w:World):Value→PV→Prop
 |val (v:Value):Shr M w v (.val v)
 |emp (a:Option Addr) (c:Nat) (hc:c≤maxLen) (ha:a=none→c=0):Shr M w (.slice a 0 c) (.sl 0 [])
 | sl (b off n c:Nat) (cs:List PV) (vs:Nat→Value) (hn:n≤c) (hc:c≤maxLen)
    (hcell:∀i:Nat,i<cs.length→w.cell? ⟨b,off+i,none⟩=some (vs i)∧¬M b) (hT:∀(i:Nat) (p:PV),cs[i]? =some p→Shr M w (vs i) p):Shr M w (.slice (some ⟨b,off,none⟩) n c) (.sl n cs)
 | sptr (b off j:Nat) (cs:List PV) (vs:Nat→Value)
    (hcell:∀i:Nat,i<cs.length→w.cell? ⟨b,off+i,none⟩=some (vs i)∧¬M b) (hT:∀(i:Nat) (p:PV),cs[i]? =some p→Shr M w (vs i) p):Shr M w (.pointer (some ⟨b,off+j,none⟩)) (.sptr j cs)
 |smap (b:Nat) (es:Array MapEntry) (clock:Nat) (hM:¬M b) (h:w.heap[b]? =some (.map es clock)) (hW:WfM es clock):Shr M w (.map (some b)) (.smap (kvOf es))
 |smapS (b:Nat) (es:Array MapEntry) (clock:Nat) (ps:List PV) (hM:¬M b) (h:w.heap[b]? =some (.map es clock)) (hW:WfM es clock) (hl:es.toList.length=ps.length) (hT:∀(i:Nat) (e:MapEntry) (p:PV),es.toList[i]? =some e→ps[i]? =some p→Shr M w e.val p):Shr M w (.map (some b)) (.smapS (es.toList.map (·.key)) ps)
 |agg (vs:List Value) (ps:List PV) (hl:vs.length=ps.length) (h:∀(i:Nat) (v:Value) (p:PV),vs[i]? =some v→ps[i]? =some p→Shr M w v p):Shr M w (.agg vs.toArray) (.agg ps)
 |tup (vs:List Value) (ps:List PV) (hl:vs.length=ps.length) (h:∀(i:Nat) (v:Value) (p:PV),vs[i]? =some v→ps[i]? =some p→Shr M w v p):Shr M w (.tuple vs.toArray) (.tup ps)
 |fn (f:Nat) (vs:List Value) (ps:List PV) (hl:vs.length=ps.length) (h:∀(i:Nat) (v:Value) (p:PV),vs[i]? =some v→ps[i]? =some p→Shr M w v p):Shr M w (.func (.func f) #[] vs.toArray) (.fn f ps)
theorem Y8 {w:World} {b:Nat} {o:Obj} (h:w.heap[b]? =some o):b<w.heap.size:=by
 rcases XD b w.heap.size with h1|h1
 · exact h1
 · rw [Vv h1] at h;cases h
theorem Ry {N:BS} {w w':World} {b o:Nat} {v:Value} (hc:Chg N w w') (hN:¬N b) (h:w.cell? ⟨b,o,none⟩=some v):w'.cell? ⟨b,o,none⟩=some v:=
 (World.cell?_of_block (w:=w) (a:=⟨b,o,none⟩) (hc.block b (World.block_lt_of_cell? _ _ h) hN)).trans h
theorem Shr.to {M M' N:BS} {w w':World} (hc:Chg N w w') (hN:∀b,b<w.heap.size→N b→M b) (hM:∀b,b<w.heap.size→M' b→M b) {v:Value} {p:PV} (h:Shr M w v p):Shr M' w' v p:=by
 have key:∀{b o:Nat} {v:Value},(w.cell? ⟨b,o,none⟩=some v∧¬M b)→(w'.cell? ⟨b,o,none⟩=some v∧¬M' b):=fun {b o v} h=>by
  have hlt:=World.block_lt_of_cell? _ _ h.1;exact ⟨Ry hc (fun hn=>h.2 (hN _ hlt hn)) h.1,fun hm=>h.2 (hM _ hlt hm)⟩
 induction h with
 |val v=>exact .val v
 |emp a c hc ha=>exact .emp a c hc ha
 |sl b off n c cs vs hn hc' hcell hT ih=>exact .sl b off n c cs vs hn hc' (fun i hi=>key (hcell i hi)) ih
 |sptr b off j cs vs hcell hT ih=>exact .sptr b off j cs vs (fun i hi=>key (hcell i hi)) ih
 | smap b es clock hMb h hW=>
   have hlt:=Y8 h;exact .smap b es clock (fun hm=>hMb (hM b hlt hm)) ((hc.block b hlt (fun hn=>hMb (hN b hlt hn))).trans h) hW
 | smapS b es clock ps hMb h hW hl hT ih=>
   have hlt:=Y8 h;exact .smapS b es clock ps (fun hm=>hMb (hM b hlt hm)) ((hc.block b hlt (fun hn=>hMb (hN b hlt hn))).trans h) hW hl ih
 |agg vs ps hl h ih=>exact .agg vs ps hl ih
 |tup vs ps hl h ih=>exact .tup vs ps hl ih
 |fn f vs ps hl h ih=>exact .fn f vs ps hl ih
theorem Shr.anti {M M':BS} {w:World} (hM:∀b,b<w.heap.size→M' b→M b) {v:Value} {p:PV} (h:Shr M w v p):Shr M' w v p:=h.to (Chg.rfl' (fun _=>False) w) (fun _ _ h=>h.elim) hM
theorem Shr.up {M:BS} {w w':World} (hc:Ext w w') {v:Value} {p:PV} (h:Shr M w v p):Shr M w' v p:=h.to (hc.chg (M:=fun _=>False)) (fun _ _ h=>h.elim) (fun _ _ h=>h)
inductive Tr (M:BS) (w:World):Value→PV→BS→Prop
 |shr {v:Value} {p:PV} {F:BS} (h:Shr M w v p) (hF:∀b,¬F b):Tr M w v p F
 | own {v:Value} {e k n:Nat} {cs:List PV} {F:BS} (xs:List Value) (Fs:Nat→BS) (hrow:w.ownsRow 0 e k v n xs) (hl:cs.length=xs.length)
    (hT:∀(i:Nat) (x:Value) (p:PV),xs[i]? =some x→cs[i]? =some p→Tr M w x p (Fs i))
    (hd:∀i j b,i<cs.length→j<cs.length→i≠j→Fs i b→¬Fs j b) (hb:∀i b,i<cs.length→Fs i b→v.ownBlock≠some b)
    (hF:∀b,F b↔(v.ownBlock=some b∨∃i,i<cs.length∧Fs i b)):Tr M w v (.own e k n cs) F
 |omap {F:BS} (b:Nat) (es:Array MapEntry) (clock:Nat) (h:w.heap[b]? =some (.map es clock)) (hF:∀x,F x↔x=b) (hW:WfM es clock):Tr M w (.map (some b)) (.omap (kvOf es)) F
 |obox {e k:Nat} {cs:List PV} {F:BS} (g cap:Nat) (h:Tr M w (.slice (some ⟨g,0,none⟩) 1 cap) (.own e k 1 cs) F):Tr M w (.pointer (some ⟨g,0,none⟩)) (.obox e k cs) F
 | agg {ps:List PV} {F:BS} (vs:List Value) (Fs:Nat→BS) (hl:vs.length=ps.length) (h:∀(i:Nat) (v:Value) (p:PV),vs[i]? =some v→ps[i]? =some p→Tr M w v p (Fs i))
    (hd:∀i j b,i<ps.length→j<ps.length→i≠j→Fs i b→¬Fs j b) (hF:∀b,F b↔∃i,i<ps.length∧Fs i b):Tr M w (.agg vs.toArray) (.agg ps) F
 | tup {ps:List PV} {F:BS} (vs:List Value) (Fs:Nat→BS) (hl:vs.length=ps.length) (h:∀(i:Nat) (v:Value) (p:PV),vs[i]? =some v→ps[i]? =some p→Tr M w v p (Fs i))
    (hd:∀i j b,i<ps.length→j<ps.length→i≠j→Fs i b→¬Fs j b) (hF:∀b,F b↔∃i,i<ps.length∧Fs i b):Tr M w (.tuple vs.toArray) (.tup ps) F
 |oblk {v:Value} {o:Obj} {sh:List (Nat×Obj)} {F:BS} (r:Nat) (h1:v.oneCell'=true) (h:w.heap[r]? =some o) (hs:∀p∈sh,w.heap[p.1]? =some p.2∧¬M p.1) (hF:∀x,F x↔x=r):Tr M w v (.oblk v r o sh) F
theorem ZkP {N:BS} {w w':World} {e k n:Nat} {v:Value} {xs:List Value} (hc:Chg N w w') (h:w.ownsRow 0 e k v n xs) (hN:∀b,v.ownBlock=some b→¬N b):w'.ownsRow 0 e k v n xs:=by
 refine ⟨h.1,?_⟩
 rcases h.2 with h2|⟨g,cap,cur,h2,hg,hh,h4⟩
 · exact .inl h2
 · refine .inr ⟨g,cap,cur,h2,hg,?_,h4⟩;rw [hc.block g (Y8 hh) (hN g (by subst h2;rfl))];exact hh
theorem YB {α β:Type} {l:List α} {m:List β} {i:Nat} {x:α} (h:l[i]? =some x) (hl:l.length=m.length):∃y,m[i]? =some y:=by
 have:=(Xr.1 h).1
 exact ⟨m[i]'oM,sM⟩
theorem Yl {α:Type} {l:List α} {i:Nat} (h:i<l.length):∃y,l[i]? =some y:=⟨l[i],sM⟩
theorem Zd {α:Type} {l:List α} {i:Nat} {x:α} (h:l[i]? =some x):i<l.length:=(Xr.1 h).1
theorem Tr.lt {M:BS} {w:World} {v:Value} {p:PV} {F:BS} (h:Tr M w v p F):∀b,F b→b<w.heap.size:=by
 induction h with
 |shr h hF=>exact fun b hb=>(hF b hb).elim
 | @own v e k n cs F xs Fs hrow hl hT hd hb hF ih=>
   intro b hFb;rcases (hF b).1 hFb with h|⟨i,hi,h⟩
   · exact (hrow.lt b h).2
   · obtain ⟨p,hp⟩:=Yl hi;obtain ⟨x,hx⟩:=YB hp hl;exact ih i x p hx hp b h
 |omap b es clock h hF=>intro x hx;rw [(hF x).1 hx];exact Y8 h
 |oblk r h1 h hs hF=>intro x hx;rw [(hF x).1 hx];exact Y8 h
 |obox g cap h ih=>exact ih
 | @agg ps F vs Fs hl h hd hF ih=>
   intro b hFb;obtain ⟨i,hi,h⟩:=(hF b).1 hFb;obtain ⟨p,hp⟩:=Yl hi;obtain ⟨x,hx⟩:=YB hp hl.symm;exact ih i x p hx hp b h
 | @tup ps F vs Fs hl h hd hF ih=>
   intro b hFb;obtain ⟨i,hi,h⟩:=(hF b).1 hFb;obtain ⟨p,hp⟩:=Yl hi;obtain ⟨x,hx⟩:=YB hp hl.symm;exact ih i x p hx hp b h
theorem Tr.to {M M' N:BS} {w w':World} (hc:Chg N w w') (hM:∀b,b<w.heap.size→M' b→M b) {v:Value} {p:PV} {F:BS} (h:Tr M w v p F):
 (∀b,b<w.heap.size→N b→M b)→(∀b,F b→¬N b)→Tr M' w' v p F:=by
 induction h with
 |shr h hF=>exact fun hN _=> .shr (h.to hc hN hM) hF
 | @own v e k n cs F xs Fs hrow hl hT hd hb hF ih=>
   intro hN hNF;refine .own xs Fs (ZkP hc hrow fun b h=>hNF b ((hF b).2 (.inl h))) hl (fun i x p hx hp=>?_) hd hb hF;exact ih i x p hx hp hN fun b h=>hNF b ((hF b).2 (.inr ⟨i,Zd hp,h⟩))
 | omap b es clock h hF hW=>
   intro hN hNF;exact .omap b es clock ((hc.block b (Y8 h) (hNF b ((hF b).2 rfl))).trans h) hF hW
 | oblk r h1 h hs hF=>
   intro hN hNF;exact .oblk r h1 ((hc.block r (Y8 h) (hNF r ((hF r).2 rfl))).trans h) (fun p hp=>⟨(hc.block p.1 (Y8 (hs p hp).1) (fun hn=>(hs p hp).2 (hN _ (Y8 (hs p hp).1) hn))).trans (hs p hp).1,fun hm=>(hs p hp).2 (hM _ (Y8 (hs p hp).1) hm)⟩) hF
 |obox g cap h ih=>exact fun hN hNF=> .obox g cap (ih hN hNF)
 | @agg ps F vs Fs hl h hd hF ih=>
   intro hN hNF;exact .agg vs Fs hl (fun i v p hv hp=>ih i v p hv hp hN fun b h=>hNF b ((hF b).2 ⟨i,Zd hp,h⟩)) hd hF
 | @tup ps F vs Fs hl h hd hF ih=>
   intro hN hNF;exact .tup vs Fs hl (fun i v p hv hp=>ih i v p hv hp hN fun b h=>hNF b ((hF b).2 ⟨i,Zd hp,h⟩)) hd hF
theorem Tr.anti {M M':BS} {w:World} (hM:∀b,b<w.heap.size→M' b→M b) {v:Value} {p:PV} {F:BS} (h:Tr M w v p F):Tr M' w v p F:=
 h.to (Chg.rfl' (fun _=>False) w) hM (fun _ _ h=>h.elim) (fun _ _ h=>h)
theorem Tr.up {M:BS} {w w':World} (hc:Ext w w') {v:Value} {p:PV} {F:BS} (h:Tr M w v p F):Tr M w' v p F:=
 h.to (hc.chg (M:=fun _=>False)) (fun _ _ h=>h) (fun _ _ h=>h.elim) (fun _ _ h=>h)
mutual
def share:PV→PV
 | .val v=> .val v
 | .sl n cs=> .sl n cs
 | .sptr o cs=> .sptr o cs
 | .smap es=> .smap es
 | .smapS ks ps=> .smapS ks ps
 | .own _ _ n cs=> .sl n (YV cs)
 | .omap es=> .smap es
 | .obox _ _ cs=> .sptr 0 (YV cs)
 | .agg ps=> .agg (YV ps)
 | .tup ps=> .tup (YV ps)
 | .fn f ps=> .fn f ps
 | .oblk v _ _ _=> .val v
def YV:List PV→List PV
 |[]=>[]
 |p::l=>share p::YV l
end
theorem Z7:∀l:List PV,YV l=l.map share
 |[]=>by simp [YV]
 |p::l=>by simp [YV,Z7 l]
theorem Shr.share {M:BS} {w:World} {v:Value} {p:PV} (h:Shr M w v p):Shr M w v (share p):=by
 induction h with
 |val v=>exact .val v
 |emp a c hc ha=>exact .emp a c hc ha
 |sl b off n c cs vs hn hc' hcell hT ih=>exact .sl b off n c cs vs hn hc' hcell hT
 |sptr b off j cs vs hcell hT ih=>exact .sptr b off j cs vs hcell hT
 |smap b es clock hMb h hW=>exact .smap b es clock hMb h hW
 |smapS b es clock ps hMb h hW hl hT ih=>exact .smapS b es clock ps hMb h hW hl hT
 | agg vs ps hl h ih=>
   rw [En.share];refine .agg vs _ (by rw [Z7,Xb];exact hl) fun i v p hv hp=>?_;rw [Z7,Xo,XP] at hp;obtain ⟨q,hq,rfl⟩:=hp;exact ih i v q hv hq
 | tup vs ps hl h ih=>
   rw [En.share];refine .tup vs _ (by rw [Z7,Xb];exact hl) fun i v p hv hp=>?_;rw [Z7,Xo,XP] at hp;obtain ⟨q,hq,rfl⟩:=hp;exact ih i v q hv hq
 |fn f vs ps hl h ih=>exact .fn f vs ps hl h
theorem Wu {w:World} {e k n:Nat} {v:Value} {xs:List Value} (h:w.ownsRow 0 e k v n xs):(v= .slice none 0 0∧n=0∧xs=[])∨∃g cap,v= .slice (some ⟨g,0,none⟩) n cap∧n≤cap∧cap≤maxLen∧g<w.heap.size:=by
 rcases h.2 with ⟨h2,h3⟩|⟨g,cap,cur,h2,hg,hh,h4,h5,_⟩
 · exact .inl ⟨h2,h3,XB (by rw [h.1,h3,X8])⟩
 · exact .inr ⟨g,cap,h2,h4,h5,Y8 hh⟩
theorem KG {w:World} {e k n g cap:Nat} {xs:List Value} (h:w.ownsRow 0 e k (.slice (some ⟨g,0,none⟩) n cap) n xs) {i:Nat} {x:Value} (hx:xs[i]? =some x):w.cell? ⟨g,i,none⟩=some x:=by
 rw [h.cellAt i (by rw [←h.1];exact Zd hx)];exact hx
theorem Tr.share {M:BS} {w:World} {v:Value} {p:PV} {F:BS} (h:Tr M w v p F) {M':BS} (hM:∀b,b<w.heap.size→M' b→M b):(∀b,F b→¬M' b)→Shr M' w v (share p):=by
 induction h with
 |shr h hF'=>exact fun _=>(h.anti hM).share
 | @own v e k n cs F xs Fs hrow hl hT hd hb hF' ih=>
   intro hF;rw [En.share];rcases Wu hrow with ⟨rfl,rfl,rfl⟩|⟨g,cap,rfl,h1,h2,_⟩
   · have:cs=[]:=XB (by simpa using hl);subst this;exact .emp none 0 (by unfold maxLen;omega) (fun _=>rfl)
   · refine .sl g 0 n cap _ (fun i=>(xs[i]?).getD undef) h1 h2 (fun i hi=>?_) (fun i p hp=>?_)
     · rw [Z7,Xb] at hi;obtain ⟨x,hx⟩:=Yl (show i<xs.length by omega);refine ⟨?_,hF g ((hF' g).2 (.inl rfl))⟩;rw [XE,KG hrow hx,hx];rfl
     · rw [Z7,Xo,XP] at hp;obtain ⟨q,hq,rfl⟩:=hp;obtain ⟨x,hx⟩:=YB hq hl;simp only [hx,Uk];exact ih i x q hx hq fun b hb'=>hF b ((hF' b).2 (.inr ⟨i,Zd hq,hb'⟩))
 |omap b es clock h hF' hW=>exact fun hF=> .smap b es clock (hF b ((hF' b).2 rfl)) h hW
 |oblk r h1 h hs hF'=>exact fun _=> .val _
 | @obox e k cs F g cap h ih=>
   intro hF;have h1:=ih hF;rw [En.share] at h1;rw [En.share];generalize hcs:YV cs=cs' at h1 ⊢
   cases h1 with
   |sl _ _ _ _ _ vs hn hc hcell hT=>exact .sptr g 0 0 cs' vs hcell hT
 | @agg ps F vs Fs hl h hd hF' ih=>
   intro hF;rw [En.share];refine .agg vs _ (by rw [Z7,Xb];exact hl) fun i v p hv hp=>?_;rw [Z7,Xo,XP] at hp;obtain ⟨q,hq,rfl⟩:=hp;exact ih i v q hv hq fun b hb=>hF b ((hF' b).2 ⟨i,Zd hq,hb⟩)
 | @tup ps F vs Fs hl h hd hF' ih=>
   intro hF;rw [En.share];refine .tup vs _ (by rw [Z7,Xb];exact hl) fun i v p hv hp=>?_;rw [Z7,Xo,XP] at hp;obtain ⟨q,hq,rfl⟩:=hp;exact ih i v q hv hq fun b hb=>hF b ((hF' b).2 ⟨i,Zd hq,hb⟩)
def lk {α:Type}:List (Nat×α)→Nat→Option α
 |[],_=>none
 |(k,x)::l,t=>cond (Nat.beq k t) (some x) (lk l t)
def del {α:Type} (t:Nat):List (Nat×α)→List (Nat×α)
 |[]=>[]
 |(k,x)::l=>cond (Nat.beq k t) (del t l) ((k,x)::del t l)
def put {α:Type} (t:Nat) (x:α) (l:List (Nat×α)):List (Nat×α):=(t,x)::l
theorem Ty {α:Type} (t:Nat):∀l:List (Nat×α),lk (del t l) t=none
 |[]=>rfl
 | (k,x)::l=>by
   unfold del
   cases h:Nat.beq k t
   · simp only [cond_false,lk,h];exact Ty t l
   · exact Ty t l
theorem S6 {α:Type} {t s:Nat} (hts:t≠s):∀l:List (Nat×α),lk (del t l) s=lk l s
 |[]=>rfl
 | (k, x)::l=>by
   unfold del
   cases h:Nat.beq k t
   · simp only [cond_false,lk];rw [S6 hts l]
   · have:k=t:=XK h;subst this;have h2:Nat.beq k s=false:=by
      cases h3:Nat.beq k s
      · rfl
      · exact Qc (XK h3) hts
     simp only [cond_true,lk,h2,cond_false];exact S6 hts l
theorem YC {α:Type} {t s:Nat} {l:List (Nat×α)} {x:α} (h:lk (del t l) s=some x):t≠s∧lk l s=some x:=by
 by_cases hts:t=s
 · subst hts;rw [Ty] at h;cases h
 · rw [S6 hts] at h;exact ⟨hts,h⟩
theorem ZJ {α:Type} (t:Nat) (x:α) (l:List (Nat×α)):lk (put t x l) t=some x:=by
 simp [put,lk]
theorem ZY {α:Type} {t s:Nat} (h:t≠s) (x:α) (l:List (Nat×α)):lk (put t x l) s=lk l s:=by
 have:Nat.beq t s=false:=by
  cases h3:Nat.beq t s
  · rfl
  · exact Qc (XK h3) h
 simp only [put,lk,this,cond_false]
theorem ZZ {α:Type} {t s:Nat} {l:List (Nat×α)} {x y:α} (h:lk (put t x l) s=some y):(t=s∧x=y)∨(t≠s∧lk l s=some y):=by
 by_cases hts:t=s
 · subst hts;rw [ZJ] at h;cases h;exact .inl ⟨rfl,rfl⟩
 · rw [ZY hts] at h;exact .inr ⟨hts,h⟩
abbrev Ent:=Value×PV
structure St where
 slots:List (Nat×Ent)
 heap:List (Nat×Ent)
structure Ctx where
 w0:World
 M0:BS
 N0:BS
 nt:Nat
 dr:Prop
 df:List Deferred
def Zsh:Option Nat:=none
def TabW (w:World) (M N:BS):Prop:=∀g,Zsh=some g→(∃ty at',w.heap[g]? =some (.cells (Go.Lib.pow10Tab.map fun z=>Value.int .u64 z).toArray ty at'))∧¬M g∧¬N g
def Zsi:Option Nat:=none
def ErrW (w:World) (M N:BS):Prop:=∀g,Zsi=some g→(∃ev ty at',w.heap[g]? =some (.cells #[ev] ty at')∧(ev= .nilIface∨∃te pe,ev= .iface te pe))∧¬M g∧¬N g
structure M0k (w:World) (M N:BS) (dr:Prop):Prop where
 m:∀b,M b→b<w.heap.size∧¬N b
 tb:¬dr→TabW w M N
 er:¬dr→ErrW w M N
theorem M0k.up {w:World} {M N:BS} {dr dr':Prop} (h:M0k w M N dr) (hd:dr→dr'):M0k w M N dr':=⟨h.m,fun hn=>h.tb fun h=>hn (hd h),fun hn=>h.er fun h=>hn (hd h)⟩
theorem M0k.true (w:World):M0k w (fun _=>False) (fun _=>False) True:=⟨fun _ h=>h.elim,fun h=>Qc trivial h,fun h=>Qc trivial h⟩
def mof (c:Ctx) (h:List (Nat×Ent)) (F:Nat→BS):BS:=fun b=>c.M0 b∨∃l x,lk h l=some x∧F l b
structure HeapF (c:Ctx) (h:List (Nat×Ent)) (F:Nat→BS) (w:World):Prop where
 tr:∀l v p,lk h l=some (v,p)→Tr (mof c h F) w v p (F l)
 lo:∀l x b,lk h l=some x→F l b→c.w0.heap.size≤b∨c.N0 b
 dj:∀l l' x x' b,l≠l'→lk h l=some x→lk h l'=some x'→F l b→¬F l' b
 m0:M0k c.w0 c.M0 c.N0 c.dr
 ext:Chg c.N0 c.w0 w
 dw:c.dr→c.w0.drawn≤w.drawn
structure HoldsF (c:Ctx) (st:St) (F:Nat→BS) (a:Act) (w:World):Prop extends HeapF c st.heap F w where
 sl:∀t v p,lk st.slots t=some (v,p)→a.tmps[t]? =some v∧Shr (mof c st.heap F) w v p
 size:a.tmps.size=c.nt
 df:a.defers=c.df
def Holds (c:Ctx) (st:St) (a:Act) (w:World):Prop:=∃F,HoldsF c st F a w
theorem HeapF.apart {c:Ctx} {h:List (Nat×Ent)} {F:Nat→BS} {w:World} (H:HeapF c h F w) {b l:Nat} {x:Ent} (hb:c.M0 b) (hl:lk h l=some x):¬F l b:=fun hF=>by
 have h1:=H.m0.m b hb
 rcases H.lo l x b hl hF with h2|h2
 · omega
 · exact h1.2 h2
theorem HeapF.lt {c:Ctx} {h:List (Nat×Ent)} {F:Nat→BS} {w:World} (H:HeapF c h F w) {b:Nat} (hb:mof c h F b):b<w.heap.size:=by
 rcases hb with h1|⟨l,⟨v,p⟩,h1,h2⟩
 · exact VY (H.m0.m b h1).1 H.ext.size
 · exact (H.tr l v p h1).lt b h2
theorem HeapF.mok {c:Ctx} {h:List (Nat×Ent)} {F:Nat→BS} {w:World} (H:HeapF c h F w):M0k w (mof c h F) (fun _=>False) c.dr:=
 ⟨fun b hb=>⟨H.lt hb,fun h=>h⟩,fun hn g hg=>by
  obtain ⟨⟨ty,at',h1⟩,h2,h3⟩:=H.m0.tb hn g hg;have hlt:=Y8 h1;refine ⟨⟨ty,at',(H.ext.block g hlt h3).trans h1⟩,?_,fun h=>h⟩;rintro (h4|⟨l,x,h4,h5⟩)
  · exact h2 h4
  · rcases H.lo l x g h4 h5 with h6|h6
    · omega
    · exact h3 h6,fun hn g hg=>by
  obtain ⟨⟨ev,ty,at',h1,hev⟩,h2,h3⟩:=H.m0.er hn g hg;have hlt:=Y8 h1;refine ⟨⟨ev,ty,at',(H.ext.block g hlt h3).trans h1,hev⟩,?_,fun h=>h⟩;rintro (h4|⟨l,x,h4,h5⟩)
  · exact h2 h4
  · rcases H.lo l x g h4 h5 with h6|h6
    · omega
    · exact h3 h6⟩
theorem M0k.none {w:World} {M:BS} {dr:Prop} (h:M0k w M (fun _=>False) dr):M0k w (fun _=>False) (fun _=>False) dr:=⟨fun _ h=>h.elim,fun hn g hg=>⟨(h.tb hn g hg).1,fun h=>h,fun h=>h⟩,fun hn g hg=>⟨(h.er hn g hg).1,fun h=>h,fun h=>h⟩⟩
theorem HeapF.change {c:Ctx} {h:List (Nat×Ent)} {F:Nat→BS} {w:World} (H:HeapF c h F w) (T:Nat→Prop) {h':List (Nat×Ent)} {F':Nat→BS} {w':World}
 (hch:Chg (fun b=>∃l x,T l∧lk h l=some x∧F l b) w w')
 (hsame:∀l x,¬T l→lk h' l=some x→lk h l=some x∧F' l=F l)
 (hF:∀l x b,T l→lk h' l=some x→F' l b→(∃l0 x0,T l0∧lk h l0=some x0∧F l0 b)∨w.heap.size≤b)
 (hnew:(∀b,b<w.heap.size→mof c h' F' b→mof c h F b)→∀l v p,T l→lk h' l=some (v,p)→Tr (mof c h' F') w' v p (F' l))
 (hdj:∀l l' x x' b,T l→T l'→l≠l'→lk h' l=some x→lk h' l'=some x'→F' l b→¬F' l' b) (hdw:c.dr→w.drawn≤w'.drawn):
 HeapF c h' F' w'∧(∀b,b<w.heap.size→mof c h' F' b→mof c h F b)∧(∀b,(∃l x,T l∧lk h l=some x∧F l b)→mof c h F b):=by
 have hmono:∀b,b<w.heap.size→mof c h' F' b→mof c h F b:=by
  rintro b hb (h1|⟨l,x,h1,h2⟩)
  · exact .inl h1
  · by_cases hT:T l
    · rcases hF l x b hT h1 h2 with ⟨l0,x0,_,h3,h4⟩|h3
      · exact .inr ⟨l0,x0,h3,h4⟩
      · omega
    · obtain ⟨h3,h4⟩:=hsame l x hT h1;exact .inr ⟨l,x,h3,by rw [←h4];exact h2⟩
 have hNm:∀b,(∃l x,T l∧lk h l=some x∧F l b)→mof c h F b:=fun b ⟨l,x,_,h1,h2⟩=> .inr ⟨l,x,h1,h2⟩
 have hBw:c.w0.heap.size≤w.heap.size:=H.ext.size
 refine ⟨⟨fun l v p hl=>?_,fun l x b hl hb=>?_,fun l l' x x' b hne hl hl' hb hb'=>?_,H.m0,?_,fun h=>XJ (H.dw h) (hdw h)⟩,hmono,hNm⟩
 · by_cases hT:T l
   · exact hnew hmono l v p hT hl
   · obtain ⟨h3,h4⟩:=hsame l _ hT hl;rw [h4];refine (H.tr l v p h3).to hch hmono (fun b _ h=>hNm b h) fun b hb ⟨l0,x0,h5,h6,h7⟩=>?_;exact H.dj l l0 _ _ b (fun e=>hT (e▸h5)) h3 h6 hb h7
 · by_cases hT:T l
   · rcases hF l x b hT hl hb with ⟨l0,x0,_,h3,h4⟩|h3
     · exact H.lo l0 x0 b h3 h4
     · exact .inl oM
   · obtain ⟨h3,h4⟩:=hsame l x hT hl;exact H.lo l x b h3 (by rw [←h4];exact hb)
 · have aux:∀l l' x x',T l→¬T l'→lk h' l=some x→lk h' l'=some x'→F' l b→F' l' b→False:=fun l l' x x' hT hT' hl hl' hb hb'=>by
    obtain ⟨h3,h4⟩:=hsame l' x' hT' hl';rw [h4] at hb';rcases hF l x b hT hl hb with ⟨l0,x0,h5,h6,h7⟩|h5
    · exact H.dj l0 l' _ _ b (fun e=>hT' (e▸h5)) h6 h3 h7 hb'
    · have:=(H.tr l' _ _ h3).lt b hb';omega
   by_cases hT:T l
   · by_cases hT':T l'
     · exact hdj l l' x x' b hT hT' hne hl hl' hb hb'
     · exact aux l l' x x' hT hT' hl hl' hb hb'
   · by_cases hT':T l'
     · exact aux l' l x' x hT' hT hl' hl hb' hb
     · obtain ⟨h3,h4⟩:=hsame l x hT hl;obtain ⟨h5,h6⟩:=hsame l' x' hT' hl';exact H.dj l l' x x' b hne h3 h5 (by rw [←h4];exact hb) (by rw [←h6];exact hb')
 · exact H.ext.tr hch fun b ⟨l,x,_,h1,h2⟩=>(H.lo l x b h1 h2).symm
theorem HoldsF.change {c:Ctx} {st:St} {F:Nat→BS} {a:Act} {w:World} (H:HoldsF c st F a w) (T:Nat→Prop) {h':List (Nat×Ent)} {F':Nat→BS} {w':World} {d:Nat} {v:Value} {p:PV} (hd:d<c.nt)
 (hch:Chg (fun b=>∃l x,T l∧lk st.heap l=some x∧F l b) w w')
 (hsame:∀l x,¬T l→lk h' l=some x→lk st.heap l=some x∧F' l=F l)
 (hF:∀l x b,T l→lk h' l=some x→F' l b→(∃l0 x0,T l0∧lk st.heap l0=some x0∧F l0 b)∨w.heap.size≤b)
 (hnew:(∀b,b<w.heap.size→mof c h' F' b→mof c st.heap F b)→∀l v p,T l→lk h' l=some (v,p)→Tr (mof c h' F') w' v p (F' l))
 (hdj:∀l l' x x' b,T l→T l'→l≠l'→lk h' l=some x→lk h' l'=some x'→F' l b→¬F' l' b)
 (hv:(∀b,b<w.heap.size→mof c h' F' b→mof c st.heap F b)→Shr (mof c h' F') w' v p) (hdw:c.dr→w.drawn≤w'.drawn:=by first|exact fun _=>Xe _|exact fun _=>VQ _|assumption):
 HoldsF c ⟨put d (v,p) st.slots,h'⟩ F' (a.put (some d) v) w':=by
 obtain ⟨H1,hm,hN⟩:=H.toHeapF.change T hch hsame hF hnew hdj hdw
 refine ⟨H1,fun t u q ht=>?_,by simp [Act.put,H.size],H.df⟩
 rcases ZZ ht with ⟨rfl,he⟩|⟨hne,he⟩
 · cases he;exact ⟨by simp [Act.put,H.size,hd],hv hm⟩
 · obtain ⟨h1,h2⟩:=H.sl t u q he;exact ⟨by simp [Act.put,hne,h1],h2.to hch (fun b _ h=>hN b h) hm⟩
theorem HoldsF.change0 {c:Ctx} {st:St} {F:Nat→BS} {a:Act} {w:World} (H:HoldsF c st F a w) (T:Nat→Prop) {h':List (Nat×Ent)} {F':Nat→BS} {w':World}
 (hch:Chg (fun b=>∃l x,T l∧lk st.heap l=some x∧F l b) w w')
 (hsame:∀l x,¬T l→lk h' l=some x→lk st.heap l=some x∧F' l=F l)
 (hF:∀l x b,T l→lk h' l=some x→F' l b→(∃l0 x0,T l0∧lk st.heap l0=some x0∧F l0 b)∨w.heap.size≤b)
 (hnew:(∀b,b<w.heap.size→mof c h' F' b→mof c st.heap F b)→∀l v p,T l→lk h' l=some (v,p)→Tr (mof c h' F') w' v p (F' l))
 (hdj:∀l l' x x' b,T l→T l'→l≠l'→lk h' l=some x→lk h' l'=some x'→F' l b→¬F' l' b) (hdw:c.dr→w.drawn≤w'.drawn:=by first|exact fun _=>Xe _|exact fun _=>VQ _|assumption):
 HoldsF c ⟨st.slots,h'⟩ F' a w':=by
 obtain ⟨H1,hm,hN⟩:=H.toHeapF.change T hch hsame hF hnew hdj hdw
 refine ⟨H1,fun t u q ht=>?_,H.size,H.df⟩
 obtain ⟨h1,h2⟩:=H.sl t u q ht
 exact ⟨h1,h2.to hch (fun b _ h=>hN b h) hm⟩
def Sub:List (Nat×Ent)→List (Nat×Ent)→Prop
 |[],_=>True
 |(t,x)::l,m=>lk m t=some x∧Sub l m
theorem Sub.lk {l m:List (Nat×Ent)}:Sub l m→∀{t x},lk l t=some x→lk m t=some x:=by
 induction l with
 |nil=>intro _ t x h;simp [En.lk] at h
 | cons y l ih=>
   obtain ⟨k,y⟩:=y;intro h t x ht;simp only [En.lk] at ht
   cases hb:Nat.beq k t
   · rw [hb] at ht;exact ih h.2 ht
   · rw [hb] at ht;have:k=t:=XK hb;subst this
     cases ht;exact h.1
theorem HoldsF.less {c:Ctx} {st st':St} {F:Nat→BS} {a:Act} {w:World} (H:HoldsF c st F a w) (hs:∀t x,En.lk st'.slots t=some x→En.lk st.slots t=some x) (hh:∀t x,En.lk st'.heap t=some x→En.lk st.heap t=some x):HoldsF c st' F a w:=by
 have hm:∀b,mof c st'.heap F b→mof c st.heap F b:=by
  rintro b (h|⟨l,x,h1,h2⟩)
  · exact .inl h
  · exact .inr ⟨l,x,hh l x h1,h2⟩
 exact ⟨⟨fun l v p h=>(H.tr l v p (hh _ _ h)).anti fun b _=>hm b,fun l x b h=>H.lo l x b (hh _ _ h),fun l l' x x' b hne h h'=>H.dj l l' x x' b hne (hh _ _ h) (hh _ _ h'),H.m0,H.ext,H.dw⟩,
  fun t v p h=>⟨(H.sl t v p (hs _ _ h)).1,(H.sl t v p (hs _ _ h)).2.anti fun b _=>hm b⟩,H.size,H.df⟩
theorem Holds.weaken {c:Ctx} {st st':St} {a:Act} {w:World} (H:Holds c st a w) (hs:Sub st'.slots st.slots) (hh:Sub st'.heap st.heap):Holds c st' a w:=by
 obtain ⟨F,H⟩:=H
 have hm:∀b,mof c st'.heap F b→mof c st.heap F b:=by
  rintro b (h|⟨l,x,h1,h2⟩)
  · exact .inl h
  · exact .inr ⟨l,x,hh.lk h1,h2⟩
 exact ⟨F,⟨⟨fun l v p h=>(H.tr l v p (hh.lk h)).anti fun b _=>hm b,fun l x b h=>H.lo l x b (hh.lk h),fun l l' x x' b hne h h'=>H.dj l l' x x' b hne (hh.lk h) (hh.lk h'),H.m0,H.ext,H.dw⟩,
  fun t v p h=>⟨(H.sl t v p (hs.lk h)).1,(H.sl t v p (hs.lk h)).2.anti fun b _=>hm b⟩,H.size,H.df⟩⟩
theorem HoldsF.up {c:Ctx} {st:St} {F:Nat→BS} {a:Act} {w w':World} (H:HoldsF c st F a w) (hx:Ext w w') (hdw:c.dr→w.drawn≤w'.drawn:=by first|exact fun _=>Xe _|exact fun _=>VQ _|assumption):HoldsF c st F a w':=
 ⟨⟨fun l v p h=>(H.tr l v p h).up hx,H.lo,H.dj,H.m0,H.ext.tr' hx.chg,fun h=>XJ (H.dw h) (hdw h)⟩,fun t v p h=>⟨(H.sl t v p h).1,(H.sl t v p h).2.up hx⟩,H.size,H.df⟩
theorem HoldsF.put {c:Ctx} {st:St} {F:Nat→BS} {a:Act} {w:World} (H:HoldsF c st F a w) {d:Nat} {v:Value} {p:PV} (hd:d<c.nt) (hv:Shr (mof c st.heap F) w v p):
 HoldsF c ⟨En.put d (v,p) st.slots,st.heap⟩ F (a.put (some d) v) w:=by
 refine ⟨H.toHeapF,fun t u q ht=>?_,by simp [Act.put,H.size],H.df⟩
 rcases ZZ ht with ⟨rfl,he⟩|⟨hne,he⟩
 · cases he;exact ⟨by simp [Act.put,H.size,hd],hv⟩
 · obtain ⟨h1,h2⟩:=H.sl t u q he;exact ⟨by simp [Act.put,hne,h1],h2⟩
structure RdF (M:BS) (st:St) (F:Nat→BS) (a:Act) (w:World):Prop where
 tr:∀l v p,lk st.heap l=some (v,p)→Tr M w v p (F l)
 sl:∀t v p,lk st.slots t=some (v,p)→a.tmps[t]? =some v∧Shr M w v p
theorem HoldsF.rd {c:Ctx} {st:St} {F:Nat→BS} {a:Act} {w:World} (H:HoldsF c st F a w):RdF (mof c st.heap F) st F a w:=⟨H.tr,H.sl⟩
theorem RdF.to {M N:BS} {st:St} {F:Nat→BS} {a:Act} {w W:World} (H:RdF M st F a w) (hc:Chg N w W) (hN:∀b,N b→M b) (hF:∀l x b,lk st.heap l=some x→F l b→¬N b):RdF M st F a W:=
 ⟨fun l v p h=>(H.tr l v p h).to hc (fun _ _ h=>h) (fun b _ h=>hN b h) (fun b hb=>hF l _ b h hb),fun t v p h=>⟨(H.sl t v p h).1,(H.sl t v p h).2.to hc (fun b _ h=>hN b h) (fun _ _ h=>h)⟩⟩
def YE (P:Program) (st:St) (o:Oper) (V:Value→Prop) (p:PV):Prop:=∀M F a w,RdF M st F a w→∃v,V v∧Shr M w v p∧
 ∀N W,Chg N w W→(∀b,N b→M b)→(∀l x b,lk st.heap l=some x→F l b→¬N b)→(execOp a.eval o).run P W= .ok (.value v) W
theorem YE.exact {P:Program} {st:St} {o:Oper} {v:Value} {p:PV} (h:∀M F a w,RdF M st F a w→Shr M w v p∧(execOp a.eval o).run P w= .ok (.value v) w):YE P st o (· =v) p:=
 fun M F a w H=>⟨v,rfl,(h M F a w H).1,fun N W hc hN hF=>(h M F a W (H.to hc hN hF)).2⟩
def ev (slots:List (Nat×Ent)):Operand→Option Ent
 | .tmp t=>lk slots t
 | .const v=>some (v, .val v)
 | .func f=>some (.func (.func f) #[] #[], .fn f [])
 | .global _=>none
theorem RdF.ev {M:BS} {st:St} {F:Nat→BS} {a:Act} {w:World} (H:RdF M st F a w) {x:Operand} {v:Value} {p:PV} (h:ev st.slots x=some (v,p)):a.eval x=v∧Shr M w v p:=by
 cases x with
 | tmp t=>
   obtain ⟨h1,h2⟩:=H.sl t v p h;exact ⟨by simp [Act.eval,VI,h1],h2⟩
 |const u=>simp [En.ev] at h;obtain ⟨rfl,rfl⟩:=h;exact ⟨rfl, .val _⟩
 |func f=>simp [En.ev] at h;obtain ⟨rfl,rfl⟩:=h;exact ⟨rfl, .fn f [] [] rfl (fun i v p h=>by simp at h)⟩
 |global g=>simp [En.ev] at h
theorem y1 {P:Program} {st:St} {o:Oper} {x:Operand} {v u:Value} {p q:PV} (hx:ev st.slots x=some (v,p)) (hq:∀M w,Shr M w v p→Shr M w u q) (h:∀(ρ:Operand→Value) w,ρ x=v→(execOp ρ o).run P w= .ok (.value u) w):YE P st o (· =u) q:=
 .exact fun M F a w H=>⟨hq M w (H.ev hx).2,h _ w (H.ev hx).1⟩
theorem y2 {P:Program} {st:St} {o:Oper} {x y:Operand} {v v' u:Value} {p p':PV} (hx:ev st.slots x=some (v,p)) (hy:ev st.slots y=some (v',p')) (h:∀(ρ:Operand→Value) w,ρ x=v→ρ y=v'→(execOp ρ o).run P w= .ok (.value u) w):YE P st o (· =u) (.val u):=
 .exact fun M F a w H=>⟨.val _,h _ w (H.ev hx).1 (H.ev hy).1⟩
theorem Zqx {P:Program} {st:St} {o:Oper} {x:Operand} {v:Value} {p:PV} (ho:o.op= .move x) (hx:ev st.slots x=some (v,p)):YE P st o (· =v) p:=
 y1 hx (fun _ _ h=>h) fun ρ w h=>by simp [execOp,ho,h]
theorem ZkQ {P:Program} {st:St} {o:Oper} {x:Operand} {v:Value} {p:PV} (ho:o.op= .assign x) (hx:ev st.slots x=some (v,p)):YE P st o (· =v) p:=
 y1 hx (fun _ _ h=>h) fun ρ w h=>by simp [execOp,ho,h]
theorem Zqy {P:Program} {st:St} {o:Oper} {c x y:Operand} {b:Bool} {q:PV} {v:Value} {p:PV} (ho:o.op= .pick c x y) (hc:ev st.slots c=some (.bool b,q)) (hx:ev st.slots (if b then x else y)=some (v,p)):YE P st o (· =v) p:=
 .exact fun M F a w H=>⟨(H.ev hx).2,by
  have h1:=(H.ev hc).1;have h2:=(H.ev hx).1;simp [execOp,ho,h1,asBool]
  cases b<;>simpa using h2⟩
theorem ZrM {P:Program} {st:St} {o:Oper} {x:Operand} {t:TypeId} {b:Bool} {q:PV} (ho:o.op= .unOp .not t x) (hx:ev st.slots x=some (.bool b,q)):YE P st o (· = .bool (!b)) (.val (.bool (!b))):=
 y1 hx (fun _ _ _=> .val _) fun ρ w h=>by simp [execOp,ho,h,Op.unary]
section bin
variable {P:Program} {st:St} {o:Oper} {x y:Operand} {t t':TypeId} {q q':PV}
theorem ZrN {k:IntKind} {a b:Int} (ho:o.op= .binOp .lss t x y t') (hx:ev st.slots x=some (.int k a,q)) (hy:ev st.slots y=some (.int k b,q')):YE P st o (· = .bool (decide (a<b))) (.val (.bool (decide (a<b)))):=
 y2 hx hy fun ρ w h1 h2=>by simp [execOp,ho,h1,h2,eqGuard,binOp,Op.intCmp]
theorem ZrO {k:IntKind} {a b:Int} (ho:o.op= .binOp .leq t x y t') (hx:ev st.slots x=some (.int k a,q)) (hy:ev st.slots y=some (.int k b,q')):YE P st o (· = .bool (decide (a≤b))) (.val (.bool (decide (a≤b)))):=
 y2 hx hy fun ρ w h1 h2=>by simp [execOp,ho,h1,h2,eqGuard,binOp,Op.intCmp]
theorem ZrP {k:IntKind} {a b:Int} (ho:o.op= .binOp .gtr t x y t') (hx:ev st.slots x=some (.int k a,q)) (hy:ev st.slots y=some (.int k b,q')):YE P st o (· = .bool (decide (b<a))) (.val (.bool (decide (b<a)))):=
 y2 hx hy fun ρ w h1 h2=>by simp [execOp,ho,h1,h2,eqGuard,binOp,Op.intCmp]
theorem ZrQ {k:IntKind} {a b:Int} (ho:o.op= .binOp .geq t x y t') (hx:ev st.slots x=some (.int k a,q)) (hy:ev st.slots y=some (.int k b,q')):YE P st o (· = .bool (decide (b≤a))) (.val (.bool (decide (b≤a)))):=
 y2 hx hy fun ρ w h1 h2=>by simp [execOp,ho,h1,h2,eqGuard,binOp,Op.intCmp]
theorem ZrR {k:IntKind} {a b:Int} (ho:o.op= .binOp .eql t x y t') (hx:ev st.slots x=some (.int k a,q)) (hy:ev st.slots y=some (.int k b,q')):YE P st o (· = .bool (decide (a=b))) (.val (.bool (decide (a=b)))):=
 y2 hx hy fun ρ w h1 h2=>by simp [execOp,ho,h1,h2,eqGuard,binOp,Op.intCmp];rfl
theorem ZrS {k:IntKind} {a b:Int} (ho:o.op= .binOp .neq t x y t') (hx:ev st.slots x=some (.int k a,q)) (hy:ev st.slots y=some (.int k b,q')):YE P st o (· = .bool (decide (a≠b))) (.val (.bool (decide (a≠b)))):=
 y2 hx hy fun ρ w h1 h2=>by
  simp [execOp,ho,h1,h2,eqGuard,binOp,Op.intCmp,bne];rfl
theorem Zqj {a b:Int} (ho:o.op= .binOp .add t x y t') (hx:ev st.slots x=some (.int .i64 a,q)) (hy:ev st.slots y=some (.int .i64 b,q')) (h1: -9223372036854775808≤a+b) (h2:a+b≤9223372036854775807):YE P st o (· = .int .i64 (a+b)) (.val (.int .i64 (a+b))):=
 y2 hx hy fun ρ w h3 h4=>by
  simp [execOp,ho,h3,h4,eqGuard,binOp,Op.intArith];exact IntWalk.i64_in _ oM
theorem Zqk {a b:Int} (ho:o.op= .binOp .sub t x y t') (hx:ev st.slots x=some (.int .i64 a,q)) (hy:ev st.slots y=some (.int .i64 b,q')) (h1: -9223372036854775808≤a-b) (h2:a-b≤9223372036854775807):YE P st o (· = .int .i64 (a-b)) (.val (.int .i64 (a-b))):=
 y2 hx hy fun ρ w h3 h4=>by
  simp [execOp,ho,h3,h4,eqGuard,binOp,Op.intArith];exact IntWalk.i64_in _ oM
theorem ZrT {a b:Int} (ho:o.op= .binOp .mul t x y t') (hx:ev st.slots x=some (.int .i64 a,q)) (hy:ev st.slots y=some (.int .i64 b,q')) (h1: -9223372036854775808≤a*b) (h2:a*b≤9223372036854775807):YE P st o (· = .int .i64 (a*b)) (.val (.int .i64 (a*b))):=
 y2 hx hy fun ρ w h3 h4=>by
  simp [execOp,ho,h3,h4,eqGuard,binOp,Op.intArith];exact IntWalk.i64_in _ oM
theorem Zqz {a b:BA} (ho:o.op= .binOp .eql t x y t') (hx:ev st.slots x=some (.string a,q)) (hy:ev st.slots y=some (.string b,q')):YE P st o (· = .bool (a.toList==b.toList)) (.val (.bool (a.toList==b.toList))):=
 y2 hx hy fun ρ w h1 h2=>by simp [execOp,ho,h1,h2,eqGuard,binOp,Op.stringOp]
theorem ZqA {a b:BA} (ho:o.op= .binOp .neq t x y t') (hx:ev st.slots x=some (.string a,q)) (hy:ev st.slots y=some (.string b,q')):YE P st o (· = .bool (!(a.toList==b.toList))) (.val (.bool (!(a.toList==b.toList)))):=
 y2 hx hy fun ρ w h1 h2=>by simp [execOp,ho,h1,h2,eqGuard,binOp,Op.stringOp]
theorem ZqB {a b:BA} (ho:o.op= .binOp .lss t x y t') (hx:ev st.slots x=some (.string a,q)) (hy:ev st.slots y=some (.string b,q')):YE P st o (· = .bool (Op.bytesLess a.toList b.toList)) (.val (.bool (Op.bytesLess a.toList b.toList))):=
 y2 hx hy fun ρ w h1 h2=>by simp [execOp,ho,h1,h2,eqGuard,binOp,Op.stringOp]
theorem ZqC {a b:BA} (ho:o.op= .binOp .geq t x y t') (hx:ev st.slots x=some (.string a,q)) (hy:ev st.slots y=some (.string b,q')):YE P st o (· = .bool (!Op.bytesLess a.toList b.toList)) (.val (.bool (!Op.bytesLess a.toList b.toList))):=
 y2 hx hy fun ρ w h1 h2=>by simp [execOp,ho,h1,h2,eqGuard,binOp,Op.stringOp]
theorem ZqD {a b:BA} (ho:o.op= .binOp .gtr t x y t') (hx:ev st.slots x=some (.string a,q)) (hy:ev st.slots y=some (.string b,q')):YE P st o (· = .bool (!(Op.bytesLess a.toList b.toList||a.toList==b.toList))) (.val (.bool (!(Op.bytesLess a.toList b.toList||a.toList==b.toList)))):=
 y2 hx hy fun ρ w h1 h2=>by simp [execOp,ho,h1,h2,eqGuard,binOp,Op.stringOp]
theorem Zn6 (hu:P.underlying t=some .bool) (a b:Bool) (w:World):(Op.equal t (.bool a) (.bool b)).run P w= .ok (a==b) w:=by
 unfold Op.equal Op.maxDepth
 rw [show (10000:Nat)=9999+1 from rfl,Op.equalIn]
 simp [run_underlying hu]
theorem ZkR {a b:Bool} (hu:P.underlying t=some .bool) (ho:o.op= .binOp .eql t x y t') (hx:ev st.slots x=some (.bool a,q)) (hy:ev st.slots y=some (.bool b,q')):YE P st o (· = .bool (a==b)) (.val (.bool (a==b))):=
 y2 hx hy fun ρ w h1 h2=>by simp [execOp,ho,h1,h2,eqGuard,binOp,Zn6 hu]
theorem Zn7 {s:BA} {i:Int} {c:UInt8} {k:IntKind} (hu:P.underlying t=some .string) (ho:o.op= .index t x y) (hx:ev st.slots x=some (.string s,q)) (hy:ev st.slots y=some (.int k i,q')) (hi:0≤i) (hc:s.data[i.toNat]? =some c):YE P st o (· = .int .u8 c.toNat) (.val (.int .u8 c.toNat)):=
 y2 hx hy fun ρ w h1 h2=>by
  have:s[i.toNat]? =some c:=by
   rw [←hc];show (if h:i.toNat<s.size then some (s.get i.toNat h) else none)=_;split
   · rename_i h;rw [Array.getElem?_eq_getElem (show i.toNat<s.data.size from h)];rfl
   · rename_i h;rw [Vv (UH h)]
  simp [execOp,ho,h1,h2,Instr.index,asIntOf,run_underlying hu,hi,this]
end bin
theorem ZkS {P:Program} {st:St} {o:Oper} {x:Operand} {s d:TypeId} {k k':IntKind} {a:Int} {q:PV} {ds:TypeDesc} (hs:P.underlying s=some ds) (hd:P.underlying d=some (.int k')) (ho:o.op= .convert s d x) (hx:ev st.slots x=some (.int k a,q)) (hw:k'.wrap a=a):YE P st o (· = .int k' a) (.val (.int k' a)):=
 y1 hx (fun _ _ _=> .val _) fun ρ w h=>by
  simp [execOp,ho,h,convert,run_underlying hs,run_underlying hd,Conv.intToInt,hw]
theorem ZqE {P:Program} {st:St} {o:Oper} {x:Operand} {t:TypeId} {s:BA} {q:PV} (ht:P.underlying t=some .string) (ho:o.op= .call {callee:= .builtin .len,args:= #[x],argTypes:= #[t]}) (hx:ev st.slots x=some (.string s,q)):YE P st o (· = .int .i64 s.size) (.val (.int .i64 s.size)):=
 y1 hx (fun _ _ _=> .val _) fun ρ w h=>by
  simp [execOp,ho,h,resolve,invoke,builtin,Builtin.len_,run_underlying ht,goInt]
theorem Zh6 {P:Program} {st:St} {o:Oper} {x:Operand} {i:Nat} {vs:List Value} {ps:List PV} {v:Value} {p:PV} (ho:o.op= .extract x i) (hx:ev st.slots x=some (.tuple vs.toArray, .tup ps)) (hv:vs[i]? =some v) (hp:ps[i]? =some p):YE P st o (· =v) p:=
 .exact fun M F a w H=>by
  obtain ⟨h1,h2⟩:=H.ev hx;generalize hu:Value.tuple vs.toArray=u at h2
  cases h2 with
  | tup vs' ps' hl h=>
    (have:vs'=vs:=by injection hu with hu;simpa using hu.symm);subst this;refine ⟨h i v p hv hp,?_⟩;simp [execOp,ho,h1,Instr.extract,hv]
def Zr:Value→Value
 | .slice (some a) _ _=> .pointer (some a)
 |v=>v
def ZD:Value→Nat→Value
 | .pointer (some a),j=> .pointer (some ⟨a.block,a.off+j,none⟩)
 |v,_=>v
theorem WB (b o j:Nat):(⟨b,o,none⟩:Addr).add j=⟨b,o+j,none⟩:=by
 unfold Addr.add;split
 · rename_i h;rw [h,VZ]
 · rfl
def GU:PV→Bool
 | .val _| .sl _ _| .sptr _ _| .smap _| .smapS _ _| .fn _ _=>true
 |_=>false
def vOf:PV→Value→Prop
 | .val v=>fun u=>u=v
 |_=>fun _=>True
theorem Tr.sh {M:BS} {w:World} {v:Value} {p:PV} {F:BS} (h:Tr M w v p F) (hp:GU p=true):Shr M w v p:=by
 cases h with
 |shr h _=>exact h
 |_=>simp [GU] at hp
theorem Shr.vOf {M:BS} {w:World} {v:Value} {p:PV} (h:Shr M w v p):vOf p v:=by
 cases h with
 |val v=>exact rfl
 |_=>exact trivial
theorem Tr.row {M:BS} {w:World} {h:Value} {e k n:Nat} {cs:List PV} {F:BS} (H:Tr M w h (.own e k n cs) F):∃(xs:List Value) (Fs:Nat→BS),w.ownsRow 0 e k h n xs∧cs.length=xs.length∧
 (∀(i:Nat) (x:Value) (p:PV),xs[i]? =some x→cs[i]? =some p→Tr M w x p (Fs i))∧(∀i j b,i<cs.length→j<cs.length→i≠j→Fs i b→¬Fs j b)∧(∀i b,i<cs.length→Fs i b→h.ownBlock≠some b)∧
 (∀b,F b↔(h.ownBlock=some b∨∃i,i<cs.length∧Fs i b)):=by
 cases H with
 |shr h _=>cases h
 |own xs Fs hrow hl hT hd hb hF=>exact ⟨xs,Fs,hrow,hl,hT,hd,hb,hF⟩
def SlT (P:Program) (t e k:Nat):Bool:=(match P.underlying t with|some (.slice e')=>Nat.beq e' e|_=>false)&&(match P.info? e with|some i=>Nat.beq i.size k|none=>false)
theorem SlT.und {P:Program} {t e k:Nat} (h:SlT P t e k=true):P.underlying t=some (.slice e):=by
 simp only [SlT,Xi] at h
 have h1:=h.1
 split at h1
 · rename_i e' he;rw [he,XK h1]
 · cases h1
theorem SlT.size {P:Program} {t e k:Nat} (h:SlT P t e k=true) (w:World):(sizeOf e).run P w= .ok k w:=by
 simp only [SlT,Xi] at h
 have h1:=h.2
 split at h1
 · rename_i i hi;have:=XK h1;simp [sizeOf,typeInfo,hi,this]
 · cases h1
def NoAgg (P:Program) (t:Nat):Bool:=match P.underlying t with
 |some (.struct _)|some (.array _ _)|none=>false
 |some _=>true
theorem NoAgg.run {P:Program} {t:Nat} (h:NoAgg P t=true) (w:World):(isAgg t).run P w= .ok false w:=by
 unfold NoAgg at h
 unfold isAgg
 cases hu:P.underlying t with
 |none=>rw [hu] at h;simp at h
 | some d=>
   rw [hu] at h;simp only [Sem.run_bind,run_underlying hu,Result.andThen_ok]
   cases d<;>simp at h ⊢
def ZrU (P:Program) (t:Nat):Bool:=match P.underlying t with|some (.struct _)=>true|_=>false
def AggT (P:Program) (t k:Nat):Bool:=(match P.underlying t with|some (.struct _)=>true|some (.array _ _)=>true|_=>false)&&(match P.info? t with|some i=>Nat.beq i.size k|none=>false)
theorem AggT.run {P:Program} {t k:Nat} (h:AggT P t k=true) (w:World):(isAgg t).run P w= .ok true w:=by
 simp only [AggT,Xi] at h
 have h1:=h.1
 split at h1
 · rename_i fs hf;simp [isAgg,run_underlying hf]
 · rename_i fs e hf;simp [isAgg,run_underlying hf]
 · cases h1
theorem AggT.size {P:Program} {t k:Nat} (h:AggT P t k=true) (w:World):(sizeOf t).run P w= .ok k w:=by
 simp only [AggT,Xi] at h
 have h1:=h.2
 split at h1
 · rename_i i hi;have:=XK h1;simp [sizeOf,typeInfo,hi,this]
 · cases h1
def FldT (P:Program) (s f o:Nat):Bool:=match P.underlying s with
 | some (.struct fs)=>match fs[f]? with
   |some fd=>Nat.beq fd.offset o&&(match P.info? fd.type with|some i=> !Nat.beq i.size 0|none=>false)
   |none=>false
 |_=>false
theorem FldT.run {P:Program} {s f o:Nat} (h:FldT P s f o=true) (b i:Nat) (w:World):(Instr.fieldAt s (.pointer (some ⟨b,i,none⟩)) f).run P w= .ok (.pointer (some ⟨b,i+o,none⟩)) w:=by
 unfold FldT at h
 split at h
 · rename_i fs hfs;split at h
   · rename_i fd hfd;rw [Xi] at h;obtain ⟨h1,h2⟩:=h;split at h2
     · rename_i inf hi;have ho:=XK h1;(have hz:inf.size≠0:=fun hz=>by rw [hz] at h2;simp at h2);simp [Instr.fieldAt,run_underlying hfs,hfd,Instr.sureAddr,fieldPlace,sizeOf,typeInfo,hi,hz,WB,ho]
     · cases h2
   · cases h
 · cases h
section
variable {P:Program} {st:St} {o:Oper}
theorem SK {t e k:Nat} (hT:SlT P t e k=true) {b off n c:Nat} {kd:IntKind} {i:Int} (h0:0≤i) (h1:i<n) (w:World):(Instr.indexAt t (.slice (some ⟨b,off,none⟩) n c) (.int kd i)).run P w= .ok (.pointer (some ⟨b,off+i.toNat*k,none⟩)) w:=by
 simp [Instr.indexAt,asIntOf,run_underlying (SlT.und hT),h0,h1,SlT.size hT,WB]
theorem Zal {t e k n:Nat} {x y:Operand} {v:Value} {cs:List PV} {q:PV} {kd:IntKind} {i:Int} (hT:SlT P t e k=true) (ho:o.op= .indexAddr t x y) (hx:ev st.slots x=some (v, .sl n cs)) (hy:ev st.slots y=some (.int kd i,q)) (h0:0≤i) (h1:i<n):
 YE P st o (· =ZD (Zr v) (i.toNat*k)) (.sptr (i.toNat*k) cs):=
 .exact fun M F a w H=>by
  obtain ⟨hv,hs⟩:=H.ev hx;have hi:=(H.ev hy).1
  cases hs with
  |emp a c=>simp at h1;omega
  | sl b off n c cs vs hn hc hcell hT'=>
    refine ⟨.sptr b off (i.toNat*k) cs vs hcell hT',?_⟩;simp [execOp,ho,hv,hi,SK hT h0 h1,Zr,ZD]
theorem ZeL {t e k n:Nat} {x y:Operand} {v:Value} {cs:List PV} {q:PV} {kd:IntKind} {i:Nat} (hT:SlT P t e k=true) (ho:o.op= .indexAddr t x y) (hx:ev st.slots x=some (v, .sl n cs)) (hy:ev st.slots y=some (.int kd (i:Int),q)) (h1:i<n):
 YE P st o (· =ZD (Zr v) (i*k)) (.sptr (i*k) cs):=by
 have:=Zal hT ho hx hy oM oM
 rw [XY] at this
 exact this
theorem JV {M:BS} {w:World} {h:Value} {e k n:Nat} {cs:List PV} {F:BS} (H:Tr M w h (.own e k n cs) F) (hn:0<n):∃g cap,h= .slice (some ⟨g,0,none⟩) n cap∧n≤cap∧cap≤maxLen∧g<w.heap.size:=by
 obtain ⟨xs,Fs,hrow,_⟩:=H.row
 rcases Wu hrow with ⟨_,h0,_⟩|h1
 · omega
 · exact h1
theorem Zam {t e k e' k' n:Nat} {x y:Operand} {h:Value} {p q:PV} {cs:List PV} {kd:IntKind} {i:Int} (l:Nat) (hT:SlT P t e k=true) (ho:o.op= .indexAddr t x y) (hx:ev st.slots x=some (h,p)) (hy:ev st.slots y=some (.int kd i,q)) (hl:lk st.heap l=some (h, .own e' k' n cs)) (h0:0≤i) (h1:i<n):
 YE P st o (· =ZD (Zr h) (i.toNat*k)) (.val (ZD (Zr h) (i.toNat*k))):=
 .exact fun M F a w H=>by
  have hv:=(H.ev hx).1;have hi:=(H.ev hy).1;obtain ⟨g,cap,rfl,_⟩:=JV (H.tr l _ _ hl) oM;refine ⟨.val _,?_⟩;simp [execOp,ho,hv,hi,SK hT h0 h1,Zr,ZD]
theorem ZeM {t e k e' k' n:Nat} {x y:Operand} {h:Value} {p q:PV} {cs:List PV} {kd:IntKind} {i:Nat} (l:Nat) (hT:SlT P t e k=true) (ho:o.op= .indexAddr t x y) (hx:ev st.slots x=some (h,p)) (hy:ev st.slots y=some (.int kd (i:Int),q)) (hl:lk st.heap l=some (h, .own e' k' n cs)) (h1:i<n):
 YE P st o (· =ZD (Zr h) (i*k)) (.val (ZD (Zr h) (i*k))):=by
 have:=Zam l hT ho hx hy hl oM oM
 rw [XY] at this
 exact this
theorem Zh7 {s f fo j:Nat} {x:Operand} {v:Value} {cs:List PV} (hT:FldT P s f fo=true) (ho:o.op= .fieldAddr s x f) (hx:ev st.slots x=some (v, .sptr j cs)):
 YE P st o (· =ZD v fo) (.sptr (j+fo) cs):=
 .exact fun M F a w H=>by
  obtain ⟨hv,hs⟩:=H.ev hx
  cases hs with
  | sptr b off j cs vs hcell hT'=>
    refine ⟨?_,?_⟩
    · have:=Shr.sptr (M:=M) (w:=w) b off (j+fo) cs vs hcell hT';rw [←Vw] at this;exact this
    · simp [execOp,ho,hv,FldT.run hT,ZD]
theorem Zh8 {s f fo j e k n:Nat} {x:Operand} {h:Value} {p:PV} {cs:List PV} (l:Nat) (hT:FldT P s f fo=true) (ho:o.op= .fieldAddr s x f) (hx:ev st.slots x=some (ZD (Zr h) j,p)) (hl:lk st.heap l=some (h, .own e k n cs)) (hn:0<n):
 YE P st o (· =ZD (Zr h) (j+fo)) (.val (ZD (Zr h) (j+fo))):=
 .exact fun M F a w H=>by
  have hv:=(H.ev hx).1;obtain ⟨g,cap,rfl,_⟩:=JV (H.tr l _ _ hl) hn;refine ⟨.val _,?_⟩;simp only [Zr,ZD] at hv ⊢;simp [execOp,ho,hv,FldT.run hT,Vw]
theorem Zcu {t j:Nat} {x:Operand} {v:Value} {cs:List PV} {p:PV} (hT:NoAgg P t=true) (ho:o.op= .load t x) (hx:ev st.slots x=some (v, .sptr j cs)) (hp:cs[j]? =some p):
 YE P st o (vOf p) p:=fun M F a w H=>by
 obtain ⟨hv,hs⟩:=H.ev hx
 cases hs with
 | sptr b off j cs vs hcell hT'=>
   have hS:=hT' j p hp;obtain ⟨hc1,hc2⟩:=hcell j (Zd hp);refine ⟨vs j,hS.vOf,hS,fun N W hch hN hF=>?_⟩;have:=Ry hch (fun hn=>hc2 (hN _ hn)) hc1;simp [execOp,ho,hv,Instr.loadAt,Instr.sureAddr,loadVar,NoAgg.run hT,load,Sem.run,this]
theorem Zcv {t j e k n:Nat} {x:Operand} {h:Value} {q:PV} {cs:List PV} {p:PV} (l:Nat) (hT:NoAgg P t=true) (ho:o.op= .load t x) (hx:ev st.slots x=some (ZD (Zr h) j,q)) (hl:lk st.heap l=some (h, .own e k n cs)) (hp:cs[j]? =some p) (hsh:GU p=true):
 YE P st o (vOf p) p:=fun M F a w H=>by
 have hv:=(H.ev hx).1
 obtain ⟨xs,Fs,hrow,hlen,hTr,hd,hb,hF'⟩:=(H.tr l _ _ hl).row
 have hj:=Zd hp
 rcases Wu hrow with ⟨_,_,rfl⟩|⟨g,cap,rfl,h1,h2,h3⟩
 · simp at hlen;rw [hlen] at hj;simp at hj
 obtain ⟨y,hy⟩:=YB hp hlen
 have hS:=(hTr j y p hy hp).sh hsh
 refine ⟨y,hS.vOf,hS,fun N W hch hN hF=>?_⟩
 have:=Ry hch (hF l _ g hl ((hF' g).2 (.inl rfl))) (KG hrow hy)
 simp only [Zr,ZD,XE] at hv
 simp [execOp,ho,hv,Instr.loadAt,Instr.sureAddr,loadVar,NoAgg.run hT,load,Sem.run,this]
theorem Zh9 {t k j:Nat} {x:Operand} {v:Value} {cs:List PV} (hT:AggT P t k=true) (ho:o.op= .load t x) (hx:ev st.slots x=some (v, .sptr j cs)) (hp:j+k≤cs.length):
 YE P st o (fun _=>True) (.agg ((cs.drop j).take k)):=fun M F a w H=>by
 obtain ⟨hv,hs⟩:=H.ev hx
 cases hs with
 | sptr b off j cs vs hcell hT'=>
   refine ⟨.agg ((List.range k).map fun i=>vs (j+i)).toArray,trivial, .agg _ _ (by simp;omega) (fun i u p hu hp'=>?_),fun N W hch hN hF=>?_⟩
   · (have hi:i<k:=by have:=Zd hu;simpa using this);simp [hi] at hu;subst hu;rw [X9 hi,VJ] at hp';exact hT' _ p hp'
   · have hcl:∀i u,((List.range k).map fun i=>vs (j+i))[i]? =some u→W.cell? ((⟨b,off+j,none⟩:Addr).add i)=some u:=fun i u hu=>by
      (have hi:i<k:=by have:=Zd hu;simpa using this);simp [hi] at hu;subst hu;obtain ⟨hc1,hc2⟩:=hcell (j+i) oM;rw [WB,Vw];exact Ry hch (fun hn=>hc2 (hN _ hn)) hc1
     have:=run_loadCells_list (P:=P) (w:=W) ⟨b,off+j,none⟩ _ hcl;simp only [Xb,UI] at this;simp [execOp,ho,hv,Instr.loadAt,Instr.sureAddr,loadVar,AggT.run hT,AggT.size hT,this]
theorem Zia {t k j e k' n:Nat} {x:Operand} {h:Value} {q:PV} {cs:List PV} (l:Nat) (hT:AggT P t k=true) (ho:o.op= .load t x) (hx:ev st.slots x=some (ZD (Zr h) j,q)) (hl:lk st.heap l=some (h, .own e k' n cs)) (hp:j+k≤cs.length) (hsh:((cs.drop j).take k).all GU=true) (hk:0<k):
 YE P st o (fun _=>True) (.agg ((cs.drop j).take k)):=fun M F a w H=>by
 have hv:=(H.ev hx).1
 obtain ⟨xs,Fs,hrow,hlen,hTr,hd,hb,hF'⟩:=(H.tr l _ _ hl).row
 rcases Wu hrow with ⟨_,_,rfl⟩|⟨g,cap,rfl,h1,h2,h3⟩
 · simp at hlen;rw [hlen] at hp;simp at hp;omega
 refine ⟨.agg ((xs.drop j).take k).toArray,trivial, .agg _ _ (by simp;omega) (fun i u p hu hp'=>?_),fun N W hch hN hF=>?_⟩
 · have hi:i<k:=by have:=Zd hu;simp at this;omega
   have hps:=Xm.1 hsh p (Xc hp');rw [X9 hi,VJ] at hp' hu;exact (hTr _ u p hu hp').sh hps
 · have hcl:∀i u,((xs.drop j).take k)[i]? =some u→W.cell? ((⟨g,0+j,none⟩:Addr).add i)=some u:=fun i u hu=>by
    (have hi:i<k:=by have:=Zd hu;simp at this;omega);rw [X9 hi,VJ] at hu;rw [WB,XE];exact Ry hch (hF l _ g hl ((hF' g).2 (.inl rfl))) (KG hrow hu)
   have:=run_loadCells_list (P:=P) (w:=W) ⟨g,0+j,none⟩ _ hcl;rw [show ((xs.drop j).take k).length=k by simp;omega] at this;simp only [Zr,ZD,XE] at hv this;simp [execOp,ho,hv,Instr.loadAt,Instr.sureAddr,loadVar,AggT.run hT,AggT.size hT,this]
theorem Zib {t e k n:Nat} {x:Operand} {v:Value} {cs:List PV} (hT:SlT P t e k=true) (ho:o.op= .call {callee:= .builtin .len,args:= #[x],argTypes:= #[t]}) (hx:ev st.slots x=some (v, .sl n cs)):YE P st o (· = .int .i64 n) (.val (.int .i64 n)):=
 .exact fun M F a w H=>by
  obtain ⟨hv,hs⟩:=H.ev hx
  cases hs with
  |emp a c=>exact ⟨.val _,by simp [execOp,ho,hv,resolve,invoke,builtin,Builtin.len_,run_underlying (SlT.und hT),goInt]⟩
  |sl b off n c cs vs hn hc hcell hT'=>exact ⟨.val _,by simp [execOp,ho,hv,resolve,invoke,builtin,Builtin.len_,run_underlying (SlT.und hT),goInt]⟩
theorem Zic {t e k e' k' n:Nat} {x:Operand} {h:Value} {p:PV} {cs:List PV} (l:Nat) (hT:SlT P t e k=true) (ho:o.op= .call {callee:= .builtin .len,args:= #[x],argTypes:= #[t]}) (hx:ev st.slots x=some (h,p)) (hl:lk st.heap l=some (h, .own e' k' n cs)):YE P st o (· = .int .i64 n) (.val (.int .i64 n)):=
 .exact fun M F a w H=>by
  have hv:=(H.ev hx).1;obtain ⟨xs,Fs,hrow,hlen,_⟩:=(H.tr l _ _ hl).row;rcases Wu hrow with ⟨rfl,rfl,_⟩|⟨g,cap,rfl,h1,h2,h3⟩
  · exact ⟨.val _,by simp [execOp,ho,hv,resolve,invoke,builtin,Builtin.len_,run_underlying (SlT.und hT),goInt]⟩
  · exact ⟨.val _,by simp [execOp,ho,hv,resolve,invoke,builtin,Builtin.len_,run_underlying (SlT.und hT),goInt]⟩
end
def aL (P:Program) (c:Ctx) (ops:Array Oper) (Q:Exit→Act→World→Prop) (l:List Oper) (st:St):Prop:=∀a w,Holds c st a w→wpList P ops Q l a w
def ZP (ops:Array Oper) (slots:List (Nat×Ent)) (o:Oper):Option Bool:=match o.guard with
 |none=>some true
 | some (j,want)=>match (ops[j]?).bind (·.dst) with
   | some d=>match lk slots d with
     |some (.bool b,_)=>some (b==want)
     |some (.tuple _,_)=>some false
     |_=>none
   |none=>none
theorem LZ {M:BS} {sL hP:List (Nat×Ent)} {F:Nat→BS} {a:Act} {w:World} (H:RdF M (⟨sL,hP⟩:St) F a w) {ops:Array Oper} {o:Oper} {b:Bool} (h:ZP ops sL o=some b):Region.wanted o (yielded ops a.tmps)=b:=by
 unfold ZP at h
 unfold Region.wanted
 split at h
 · rename_i hg;rw [hg];cases h;rfl
 · rename_i j want hg;rw [hg];split at h
   · rename_i d hd;split at h
     · rename_i b' q hq
       cases h;have:=(H.sl d _ _ hq).1;simp only [yielded,hd,Option.bind_some,this];simp
     · rename_i b' q hq
       cases h;have:=(H.sl d _ _ hq).1;simp only [yielded,hd,Option.bind_some,this];rfl
     · cases h
   · cases h
section
variable {P:Program} {c:Ctx} {ops:Array Oper} {Q:Exit→Act→World→Prop} {rest:List Oper} {sL hP:List (Nat×Ent)} {o:Oper}
theorem Zn8 (d:Nat) (hw:ZP ops sL o=some false) (hd:o.dst=some d) (hn:d<c.nt) (k:aL P c ops Q rest ⟨put d (undef, .val undef) sL,hP⟩):aL P c ops Q (o::rest) (⟨sL,hP⟩:St):=fun a w ⟨F,H⟩=>by
 have h1:=LZ H.rd hw
 unfold wpList
 rw [h1,Qa sM,hd]
 exact k _ _ ⟨F,H.put hn (.val _)⟩
theorem Y4 (hw:ZP ops sL o=some true) (h:∀a w F,HoldsF c (⟨sL,hP⟩:St) F a w→o.wp P a w (wpList P ops Q rest) Q):aL P c ops Q (o::rest) (⟨sL,hP⟩:St):=fun a w ⟨F,H⟩=>by
 have h1:=LZ H.rd hw
 unfold wpList
 rw [h1,Qb rfl]
 exact .inl (h a w F H)
theorem ζ2 {V:Value→Prop} {p:PV} (d:Nat) (hw:ZP ops sL o=some true) (hd:o.dst=some d) (hn:d<c.nt) (hy:YE P (⟨sL,hP⟩:St) o V p) (k:∀v,V v→aL P c ops Q rest ⟨put d (v,p) sL,hP⟩):aL P c ops Q (o::rest) (⟨sL,hP⟩:St):=
 Y4 hw fun a w F H=>by
  obtain ⟨v,hV,hS,hr⟩:=hy _ F a w H.rd;have:=hr (fun _=>False) w (Chg.rfl' _ _) (fun _ h=>h.elim) (fun _ _ _ _ _ h=>h);unfold Oper.wp;rw [this,Oper.upon_value,hd];exact k v hV _ _ ⟨F,H.put hn hS⟩
theorem Zsj {v:Value} {p:PV} (d:Nat) (hw:ZP ops sL o=some true) (hd:o.dst=some d) (hn:d<c.nt) (hy:YE P (⟨sL,hP⟩:St) o (· =v) p) (k:aL P c ops Q rest ⟨put d (v,p) sL,hP⟩):aL P c ops Q (o::rest) (⟨sL,hP⟩:St):=
 ζ2 d hw hd hn hy fun u hu=>by cases hu;exact k
theorem Zcw {l:List Oper} (t:Nat) {b:Bool} {q:PV} (hx:lk sL t=some (.bool b,q)) (ht:b=true→aL P c ops Q l ⟨put t (.bool true, .val (.bool true)) sL,hP⟩) (hf:b=false→aL P c ops Q l ⟨put t (.bool false, .val (.bool false)) sL,hP⟩):aL P c ops Q l (⟨sL,hP⟩:St):=fun a w ⟨F,H⟩=>by
 have key:HoldsF c ⟨put t (.bool b, .val (.bool b)) sL,hP⟩ F a w:=⟨H.toHeapF,fun s u r hs=>by
  rcases ZZ hs with ⟨rfl,e⟩|⟨_,e⟩
  · cases e;exact ⟨(H.sl _ _ _ hx).1, .val _⟩
  · exact H.sl s u r e,H.size,H.df⟩
 cases b
 · exact hf rfl a w ⟨F,key⟩
 · exact ht rfl a w ⟨F,key⟩
theorem Kd {F:Nat→BS} {a:Act} {w:World} (H:HoldsF c (⟨sL,hP⟩:St) F a w) {l d:Nat} {vs:List Value} {ps:List PV} {e k n cap:Nat} {cur:Array Value} {v:Value} (hl:lk hP l=none) (hd:d<c.nt)
 (hvs:vs.length=ps.length) (hsh:∀(i:Nat) (x:Value) (q:PV),vs[i]? =some x→ps[i]? =some q→Shr (mof c hP F) w x q)
 (hn:vs.length=n*k) (hcap:n≤cap) (hcm:cap≤maxLen) (hcs:cur.size=cap*k) (htk:cur.toList.take (n*k)=vs):
 ∃F',HoldsF c ⟨put d (v, .val v) sL,put l (.slice (some ⟨w.heap.size,0,none⟩) n cap, .own e k n ps) hP⟩ F' (a.put (some d) v) (w.alloc (.cells cur e)):=by
 refine ⟨fun l'=>if l'=l then (fun b=>b=w.heap.size) else F l',?_⟩
 have hx:Ext w (w.alloc (.cells cur e)):=Ext.alloc _ _
 refine H.change (fun l'=>l'=l) hd (hx.chg) (fun l' x hne hx'=>?_) (fun l' x b hT hx' hb=>?_) (fun hm l' u q hT hx'=>?_) (fun l1 l2 _ _ _ h1 h2 hne=>Qc (h1.trans h2.symm) hne) (fun hm=> .val _)
 · rcases ZZ hx' with ⟨e1,_⟩|⟨_,e1⟩
   · exact Qc e1.symm hne
   · exact ⟨e1,by simp [hne]⟩
 · subst hT;simp only [if_true] at hb;exact .inr (by rw [hb];exact Xe _)
 · subst hT;rcases ZZ hx' with ⟨_,e1⟩|⟨e1,_⟩
   · cases e1;simp only [if_true];refine .own vs (fun _ _=>False) ⟨hn, .inr ⟨w.heap.size,cap,cur,rfl,Xg _,?_,hcap,hcm,hcs,htk⟩⟩ hvs.symm (fun i x q hx1 hq=>?_) (fun _ _ _ _ _ _ h=>h.elim) (fun _ _ _ h=>h.elim) (fun b=>?_)
     · show (w.heap.push _)[w.heap.size]? =_;simp
     · exact .shr ((hsh i x q hx1 hq).to (hx.chg (M:=fun _=>False)) (fun _ _ h=>h.elim) hm) (fun _ h=>h)
     · simp [Value.ownBlock,eq_comm]
   · exact Qc rfl e1
theorem Gd {v:Value} (h:v.oneCell'=true):v.cells= #[v]:=by cases v<;>first|rfl|(simp [Value.oneCell'] at h)
def one:PV→Bool
 | .val v=>v.oneCell'
 | .sl _ _| .sptr _ _| .smap _| .smapS _ _| .fn _ _=>true
 |_=>false
theorem Shr.one {M:BS} {w:World} {v:Value} {p:PV} (h:Shr M w v p) (hp:one p=true):v.oneCell'=true:=by
 cases h with
 |val v=>exact hp
 |agg=>simp [En.one] at hp
 |tup=>simp [En.one] at hp
 |_=>rfl
theorem Zn9 {t:TypeId} {x:Operand} {v:Value} {p:PV} (d:Nat) (hw:ZP ops sL o=some true) (hd:o.dst=some d) (hn:d<c.nt) (ho:o.op= .box t x) (hx:ev sL x=some (v,p)) (h1:one p=true) (hl:lk hP d=none)
 (k:∀h:Value,aL P c ops Q rest ⟨put d (ZD (Zr h) 0, .val (ZD (Zr h) 0)) sL,put d (h, .own t 1 1 [p]) hP⟩):aL P c ops Q (o::rest) (⟨sL,hP⟩:St):=
 Y4 hw fun a w F H=>by
  obtain ⟨hv,hS⟩:=H.rd.ev hx;obtain ⟨F',H'⟩:=Kd (e:=t) (k:=1) (n:=1) (cap:=1) (cur:= #[v]) (v:= .pointer (some ⟨w.heap.size,0,none⟩)) H hl hn (vs:=[v]) (ps:=[p]) rfl (fun i y q hy hq=>by
   match i with
   |0=>simp at hy hq;subst hy hq;exact hS
   |i+1=>simp at hy) rfl (Xe _) (by unfold maxLen;omega) rfl rfl
  unfold Oper.wp execOp;simp [ho,hv,Instr.box,newVar,newRow,newObj,Sem.run,Gd (hS.one h1),hd,Oper.upon];exact k (.slice (some ⟨w.heap.size,0,none⟩) 1 1) _ _ ⟨F',H'⟩
theorem Zoa {t:TypeId} {x:Operand} {v:Value} {ps:List PV} (d m:Nat) (hw:ZP ops sL o=some true) (hd:o.dst=some d) (hn:d<c.nt) (ho:o.op= .box t x) (hx:ev sL x=some (v, .agg ps)) (hm:ps.length=m) (hl:lk hP d=none)
 (k:∀h:Value,aL P c ops Q rest ⟨put d (ZD (Zr h) 0, .val (ZD (Zr h) 0)) sL,put d (h, .own t m 1 ps) hP⟩):aL P c ops Q (o::rest) (⟨sL,hP⟩:St):=
 Y4 hw fun a w F H=>by
  obtain ⟨hv,hS⟩:=H.rd.ev hx
  cases hS with
  | agg vs ps hlen hT=>
    obtain ⟨F',H'⟩:=Kd (e:=t) (k:=m) (n:=1) (cap:=1) (cur:=vs.toArray) (v:= .pointer (some ⟨w.heap.size,0,none⟩)) H hl hn (vs:=vs) (ps:=ps) hlen hT oM (Xe _) (by unfold maxLen;omega) (by simp;omega) (Xq (by simp;omega));unfold Oper.wp execOp;simp [ho,hv,Instr.box,newVar,newRow,newObj,Sem.run,Value.cells,hd,Oper.upon];exact k (.slice (some ⟨w.heap.size,0,none⟩) 1 1) _ _ ⟨F',H'⟩
def ZeroT (P:Program) (t:Nat) (z:Value):Prop:=(P.info? t).map (fun i=>i.zero)=some (some z)
theorem ZeroT.run {t:Nat} {z:Value} (h:ZeroT P t z) (w:World):(zeroValue t).run P w= .ok z w:=by
 unfold ZeroT at h
 rw [XP] at h
 obtain ⟨i,h1,h2⟩:=h
 simp [zeroValue,typeInfo,h1,h2]
theorem ZkT {t:TypeId} {z:Value} (zs:List Value) (m:Nat) (d:Nat) (hw:ZP ops sL o=some true) (hd:o.dst=some d) (hn:d<c.nt) (ho:o.op= .alloc t) (hz:ZeroT P t z) (hzs:z.cells=zs.toArray) (hm:zs.length=m) (hl:lk hP d=none)
 (k:∀h:Value,aL P c ops Q rest ⟨put d (ZD (Zr h) 0, .val (ZD (Zr h) 0)) sL,put d (h, .own t m 1 (zs.map .val)) hP⟩):aL P c ops Q (o::rest) (⟨sL,hP⟩:St):=
 Y4 hw fun a w F H=>by
  obtain ⟨F',H'⟩:=Kd (e:=t) (k:=m) (n:=1) (cap:=1) (cur:=zs.toArray) (v:= .pointer (some ⟨w.heap.size,0,none⟩)) H hl hn (vs:=zs) (ps:=zs.map .val) sM (fun i y q hy hq=>by
   rw [Xo,hy] at hq;simp at hq;subst hq;exact .val _) oM (Xe _) (by unfold maxLen;omega) (by simp;omega) (Xq (by simp;omega))
  unfold Oper.wp execOp;simp [ho,Instr.alloc,hz.run,newVar,newRow,newObj,Sem.run,hzs,hd,Oper.upon];exact k (.slice (some ⟨w.heap.size,0,none⟩) 1 1) _ _ ⟨F',H'⟩
structure ElT (P:Program) (t e k bytes:Nat) (z:Value):Prop where
 ht:P.underlying t=some (.slice e)
 hi:(P.info? e).map (fun i=>(i.zero,i.size,i.bytes))=some (some z,k,bytes)
 hz:z.cells.size=k
 hk:0<k
theorem ElT.info {t e k bytes:Nat} {z:Value} (h:ElT P t e k bytes z):∃i,P.info? e=some i∧i.zero=some z∧i.size=k∧i.bytes=bytes:=by
 have:=h.hi
 rw [XP] at this
 obtain ⟨i,h1,h2⟩:=this
 simp only [Prod.mk.injEq] at h2
 exact ⟨i,h1,h2⟩
theorem Zob {t e bytes:Nat} {z:Value} {x y:Operand} {n:Nat} {q q':PV} (d:Nat) (hT:ElT P t e 1 bytes z) (hw:ZP ops sL o=some true) (hd:o.dst=some d) (hn:d<c.nt) (ho:o.op= .makeSlice t x y) (hx:ev sL x=some (.int .i64 n,q)) (hy:ev sL y=some (.int .i64 n,q')) (hl:lk hP d=none)
 (hb:bytes*n≤281474976710656) (hn2:n≤9223372036854775807) (hz1:z.oneCell'=true)
 (k:∀h:Value,h.oneCell'=true→aL P c ops Q rest ⟨put d (h, .val h) sL,put d (h, .own e 1 n (List.replicate n (.val z))) hP⟩):aL P c ops Q (o::rest) (⟨sL,hP⟩:St):=
 Y4 hw fun a w F H=>by
  obtain ⟨i,hi1,hi2,hi3,hi4⟩:=hT.info;have hzc:z.cells= #[z]:=Gd hz1;have hbn:((i.bytes:Nat):Int)*(n:Int)≤281474976710656:=by rw [hi4,←Int.natCast_mul];omega
  have hr:=run_make (P:=P) w t e i z hT.ht hi1 hi2 .i64 .i64 (n:Int) (n:Int) oM oM hbn oM;rw [hi3,hzc,XY,Xy] at hr;obtain ⟨F',H'⟩:=Kd (e:=e) (k:=1) (n:=n) (cap:=n) (cur:=madeCells #[z] n) (v:= .slice (some ⟨w.heap.size,0,none⟩) n n) H hl hn (vs:=List.replicate n z) (ps:=List.replicate n (.val z)) sM (fun j u p hu hp=>by
   have h1:=Xc hu;have h2:=Xc hp;rw [VS h1,VS h2];exact .val _) sM (Xe _) (by unfold maxLen;omega) (by rw [size_madeCells,Xy]) (by rw [toList_madeCells_one];simp)
  unfold Oper.wp execOp;simp only [ho,(H.rd.ev hx).1,(H.rd.ev hy).1,Sem.run_bind,hr,Result.andThen_ok];simp only [Sem.run_pure,Oper.upon,hd];exact k _ rfl _ _ ⟨F',H'⟩
theorem Zoc {t e kk bytes:Nat} {z:Value} (d:Nat) (hT:ElT P t e kk bytes z) (hw:ZP ops sL o=some true) (hd:o.dst=some d) (hn:d<c.nt) (ho:o.op= .buildSlice t 0 #[]) (hl:lk hP d=none)
 (k:∀h:Value,h.oneCell'=true→aL P c ops Q rest ⟨put d (h, .val h) sL,put d (h, .own e kk 0 []) hP⟩):aL P c ops Q (o::rest) (⟨sL,hP⟩:St):=
 Y4 hw fun a w F H=>by
  obtain ⟨i,hi1,hi2,hi3,hi4⟩:=hT.info;obtain ⟨F',H'⟩:=Kd (e:=e) (k:=kk) (n:=0) (cap:=0) (cur:= #[]) (v:= .slice (some ⟨w.heap.size,0,none⟩) 0 0) H hl hn (vs:=[]) (ps:=[]) rfl sM sM (Xe _) (by unfold maxLen;omega) sM sM;unfold Oper.wp execOp;simp [ho,Instr.buildSlice,run_underlying hT.ht,sizeOf,typeInfo,hi1,Instr.fill,newRow,newObj,Sem.run,hd,Oper.upon,show Array.range 0= #[] from rfl];exact k (.slice (some ⟨w.heap.size,0,none⟩) 0 0) rfl _ _ ⟨F',H'⟩
end
section
variable {P:Program} {c:Ctx} {ops:Array Oper} {Q:Exit→Act→World→Prop} {rest:List Oper} {sL hP:List (Nat×Ent)} {o:Oper}
theorem Zgy {M M':BS} {w w':World} {h:Value} {e k n j:Nat} {cs:List PV} {p:PV} {F:BS} {u:Value} {g cap:Nat} (H:Tr M w h (.own e k n cs) F) (hh:h= .slice (some ⟨g,0,none⟩) n cap) (hj:j<cs.length) (hw':w'=w.setCell ⟨g,j,none⟩ u)
 (hM:∀b,b<w.heap.size→M' b→M b) (hFM:∀b,F b→M b) (hS:Shr M w u p):∃F',Tr M' w' h (.own e k n (cs.set j p)) F'∧(∀b,F' b→F b):=by
 subst hh hw'
 obtain ⟨xs,Fs,hrow,hlen,hT,hd,hb,hF⟩:=H.row
 have hst:=hrow.stored j u
 have hch:Chg (fun b=>b=g) w (w.setCell ⟨g,j,none⟩ u):=Chg.setCell w ⟨g,j,none⟩ u
 have hgF:F g:=(hF g).2 (.inl rfl)
 refine ⟨fun b=>b=g∨∃i,i<(cs.set j p).length∧(if i=j then False else Fs i b),?_,?_⟩
 · refine .own (xs.set j u) (fun i b=>if i=j then False else Fs i b) hst.1 (by simpa using hlen) (fun i x q hx hq=>?_) (fun i i' b hi hi' hne h1 h2=>?_) (fun i b hi h1=>?_) (fun b=>by simp [Value.ownBlock,eq_comm])
   · by_cases hij:i=j
     · subst hij;rw [XI oM] at hx;rw [XI hj] at hq
       cases hx;cases hq;refine .shr (hS.to hch (fun b _ h=>by cases h;exact hFM g hgF) hM) (fun b hb'=>by simp at hb')
     · rw [XZ (Ne.symm hij)] at hx hq;simp only [hij,if_false];exact (hT i x q hx hq).to hch hM (fun b _ h=>by cases h;exact hFM g hgF) (fun b hb' he=>hb i b (Zd hq) hb' (by cases he;rfl))
   · simp only [Xp] at hi hi';split at h1
     · exact h1
     · split at h2
       · exact h2
       · exact hd i i' b hi hi' hne h1 h2
   · simp only [Xp] at hi;split at h1
     · exact h1.elim
     · exact hb i b hi h1
 · rintro b (rfl|⟨i,hi,h1⟩)
   · exact hgF
   · simp only [Xp] at hi;split at h1
     · exact h1.elim
     · exact (hF b).2 (.inr ⟨i,hi,h1⟩)
theorem P9 {F:Nat→BS} {a:Act} {w:World} (H:HoldsF c (⟨sL,hP⟩:St) F a w) {l j e k n g cap:Nat} {h:Value} {cs:List PV} {p:PV} {u:Value} (hl:lk hP l=some (h, .own e k n cs)) (hh:h= .slice (some ⟨g,0,none⟩) n cap) (hj:j<cs.length) (hS:Shr (mof c hP F) w u p):
 ∃F',HoldsF c ⟨sL,put l (h, .own e k n (cs.set j p)) hP⟩ F' a (w.setCell ⟨g,j,none⟩ u):=by
 have hTr:=H.tr l _ _ hl
 have hgF:F l g:=by
  obtain ⟨xs,Fs,hrow,hlen,hT,hd,hb,hF⟩:=hTr.row;exact (hF g).2 (.inl (by subst hh;rfl))
 have hFM:∀b,F l b→mof c hP F b:=fun b hb=> .inr ⟨l,_,hl,hb⟩
 obtain ⟨F1,hT1,hsub⟩:=Zgy (M':=mof c hP F) hTr hh hj rfl (fun _ _ h=>h) hFM hS
 refine ⟨fun l'=>if l'=l then F1 else F l',?_⟩
 have hch:Chg (fun b=>∃l' x,l'=l∧lk hP l'=some x∧F l' b) w (w.setCell ⟨g,j,none⟩ u):=(Chg.setCell w ⟨g,j,none⟩ u).wid fun b hb=> .inl ⟨l,_,rfl,hl,by cases hb;exact hgF⟩
 refine H.change0 (fun l'=>l'=l) hch (fun l' x hne hx=>?_) (fun l' x b hT hx hb=>?_) (fun hm l' v q hT hx=>?_) (fun l1 l2 _ _ _ h1 h2 hne=>Qc (h1.trans h2.symm) hne)
 · rcases ZZ hx with ⟨e1,_⟩|⟨_,e1⟩
   · exact Qc e1.symm hne
   · exact ⟨e1,by simp [hne]⟩
 · subst hT;simp only [if_true] at hb;exact .inl ⟨l',_,rfl,hl,hsub b hb⟩
 · subst hT;rcases ZZ hx with ⟨_,e1⟩|⟨e1,_⟩
   · cases e1;simp only [if_true];obtain ⟨F2,hT2,hs2⟩:=Zgy (M':=mof c (put l' (h, .own e k n (cs.set j p)) hP) fun x=>if x=l' then F1 else F x) hTr hh hj rfl hm hFM hS;refine hT1.anti fun b hb hmb=>?_;rcases hmb with h1|⟨l0,x0,h1,h2⟩
     · exact .inl h1
     · by_cases h0:l0=l'
       · subst h0;simp only [if_true] at h2;exact hFM b (hsub b h2)
       · simp only [h0,if_false] at h2;rcases ZZ h1 with ⟨e1,_⟩|⟨_,e1⟩
         · exact Qc e1.symm h0
         · exact .inr ⟨l0,x0,e1,h2⟩
   · exact Qc rfl e1
theorem ZeN {t j e kk n:Nat} {x y:Operand} {h v:Value} {q p:PV} {cs:List PV} (l:Nat) (hw:ZP ops sL o=some true) (hd:o.dst=none) (hT:NoAgg P t=true) (hsz:(P.info? t).map (·.size)=some 1) (ho:o.op= .store t x y)
 (hx:ev sL x=some (ZD (Zr h) j,q)) (hy:ev sL y=some (v,p)) (h1:one p=true) (hl:lk hP l=some (h, .own e kk n cs)) (hj:j<cs.length)
 (k:aL P c ops Q rest ⟨sL,put l (h, .own e kk n (cs.set j p)) hP⟩):aL P c ops Q (o::rest) (⟨sL,hP⟩:St):=
 Y4 hw fun a w F H=>by
  have hxv:=(H.rd.ev hx).1;obtain ⟨hyv,hS⟩:=H.rd.ev hy;obtain ⟨xs,Fs,hrow,hlen,_⟩:=(H.tr l _ _ hl).row;rcases Wu hrow with ⟨_,_,rfl⟩|⟨g,cap,hh,hc1,hc2,hc3⟩
  · simp at hlen;rw [hlen] at hj;simp at hj
  obtain ⟨F',H'⟩:=P9 H hl hh hj hS;subst hh;simp only [Zr,ZD,XE] at hxv;obtain ⟨z,hz⟩:=Yl (show j<xs.length by omega);have hcell:=KG hrow hz;have hfr:=hrow.frozenAt j;have hsize:(sizeOf t).run P w= .ok 1 w:=by
   rw [XP] at hsz;obtain ⟨i,hi1,hi2⟩:=hsz;simp [sizeOf,typeInfo,hi1,hi2]
  have hone:=hS.one h1;unfold Oper.wp execOp;simp [ho,hxv,hyv,Instr.storeAt,Instr.sureAddr,storeVar,Gd hone,hsize,storeCells,run_store _ _ _ _ _ hone,WB,hcell,hfr,Oper.upon,hd,Act.put];exact k _ _ ⟨F',H'⟩
def Tz:List PV→Nat→List PV→List PV
 |cs,_,[]=>cs
 |cs,j,p::ps=>Tz (cs.set j p) (j+1) ps
theorem S7:∀(ps cs:List PV) (j:Nat),(Tz cs j ps).length=cs.length
 |[],_,_=>rfl
 |p::ps,cs,j=>by rw [Tz,S7];simp
theorem Ep {l e k n g cap : Nat} {h:Value} {y:Operand} {V:Value} {ps0:List PV} {a:Act} (hh:h= .slice (some ⟨g,0,none⟩) n cap) (hy:ev sL y=some (V, .agg ps0)) (hone:ps0.all one=true):
 ∀ (m i j:Nat) (cs:List PV) (w:World) (F:Nat→BS) (hp:List (Nat×Ent)),HoldsF c ⟨sL,hp⟩ F a w→lk hp l=some (h, .own e k n cs)→i+m=ps0.length→j+i+m≤cs.length→
  ∀vs:List Value,V= .agg vs.toArray→∃w' F' hp',(storeCells ⟨g,j,none⟩ (vs.drop i) i).run P w= .ok () w'∧HoldsF c ⟨sL,hp'⟩ F' a w'∧lk hp' l=some (h, .own e k n (Tz cs (j+i) (ps0.drop i)))∧∀l',l'≠l→lk hp' l'=lk hp l'
 | 0, i, j, cs, w, F, hp, H,hl,hi,hj,vs,hV=>by
   have hvl : vs.length = ps0.length:=by
    obtain ⟨_,hS⟩:=H.rd.ev hy;subst hV;generalize hu:Value.agg vs.toArray=u at hS
    cases hS with
    | agg vs' ps' hl' _ => injection hu with hu;have:vs'=vs:=by simpa using hu.symm
                           subst this;exact hl'
   refine ⟨w,F,hp,?_,H,?_,fun _ _=>rfl⟩
   · rw [XU oM];rfl
   · rw [XU (by omega:ps0.length≤i)];exact hl
 | m + 1,i,j,cs,w,F,hp,H,hl,hi,hj,vs,hV=>by
   obtain ⟨_,hS⟩:=H.rd.ev hy;have hi':i<ps0.length:=oM;obtain ⟨p,hp'⟩:=Yl hi';have hSp:∃v,vs[i]? =some v∧Shr (mof c hp F) w v p:=by
    subst hV;generalize hu:Value.agg vs.toArray=u at hS
    cases hS with
    | agg vs' ps' hl' hT=>
      injection hu with hu;(have:vs'=vs:=by simpa using hu.symm);subst this;obtain ⟨v,hv⟩:=YB hp' hl'.symm;exact ⟨v,hv,hT i v p hv hp'⟩
   obtain ⟨v,hv,hSv⟩:=hSp;have h1:one p=true:=Xm.1 hone p (Xc hp');obtain ⟨F1,H1⟩:=P9 H hl hh (show j+i<cs.length by omega) hSv;obtain ⟨w',F',hp2,hr,H2,hl2,hsame⟩:=Ep hh hy hone m (i+1) j (cs.set (j+i) p) _ F1 _ H1 (ZJ _ _ _) oM (by simp;omega) vs hV;refine ⟨w',F',hp2,?_,H2,?_,fun l' hne=>by rw [hsame l' hne,ZY (Ne.symm hne)]⟩
   · obtain ⟨xs,Fs,hrow,hlen,_⟩:=(H.tr l _ _ hl).row;subst hh;obtain ⟨z,hz⟩:=Yl (show j+i<xs.length by omega);have hcell:=KG hrow hz;have hfr:=hrow.frozenAt (j+i);rw [Vf (Zd hv),show vs[i]'(Zd hv)=v from (Xr.1 hv).2,storeCells];simp only [Sem.run_bind,run_store _ _ _ _ _ (hSv.one h1),WB,hcell,hfr,VK,if_false,Result.andThen_ok];exact hr
   · rw [hl2,Vf hi',show ps0[i]'hi'=p from (Xr.1 hp').2,Tz,Vw]
theorem ZqF {t j e kk n m:Nat} {x y:Operand} {h V:Value} {q:PV} {ps cs:List PV} (l:Nat) (hw:ZP ops sL o=some true) (hd:o.dst=none) (hT:AggT P t m=true) (ho:o.op= .store t x y)
 (hx:ev sL x=some (ZD (Zr h) j,q)) (hy:ev sL y=some (V, .agg ps)) (hm:ps.length=m) (h1:ps.all one=true) (hl:lk hP l=some (h, .own e kk n cs)) (hj:j+m≤cs.length) (hm0:0<m)
 (k:aL P c ops Q rest ⟨sL,put l (h, .own e kk n (Tz cs j ps)) hP⟩):aL P c ops Q (o::rest) (⟨sL,hP⟩:St):=
 Y4 hw fun a w F H=>by
  have hxv:=(H.rd.ev hx).1;obtain ⟨hyv,hS⟩:=H.rd.ev hy;obtain ⟨xs,Fs,hrow,hlen,_⟩:=(H.tr l _ _ hl).row;rcases Wu hrow with ⟨_,_,rfl⟩|⟨g,cap,hh,hc1,hc2,hc3⟩
  · simp at hlen;rw [hlen] at hj;simp at hj;omega
  cases hS with
  | agg vs ps hvl hTT=>
    obtain ⟨w',F',hp',hr,H',hl',hsame⟩:=Ep (P:=P) hh hy h1 ps.length 0 j cs w F hP H hl oM oM vs rfl;subst hh;simp only [Zr,ZD,XE] at hxv;simp only [Vk,VZ] at hr hl';(have hsz:(Value.agg vs.toArray).cells.size=m:=by show vs.toArray.size=m;rw [Vz];omega);unfold Oper.wp execOp;simp [ho,hxv,hyv,Instr.storeAt,Instr.sureAddr,storeVar,Value.cells,AggT.size hT,hvl,hm,hr,Oper.upon,hd,Act.put];refine k _ _ ⟨F',H'.less (fun _ _ h=>h) fun t x hx=>?_⟩;rcases ZZ hx with ⟨rfl,rfl⟩|⟨hne,e1⟩
    · exact hl'
    · show lk hp' t=_;rw [hsame t (Ne.symm hne)];exact e1
def L4:PV→Bool
 | .val v=>v.oneCell'
 | .agg _| .tup _=>false
 |_=>true
theorem Tr.cellOne {M:BS} {w:World} {v:Value} {p:PV} {F:BS} (h:Tr M w v p F) (hp:L4 p=true):v.oneCell'=true:=by
 cases h with
 | shr h _=>
   cases h with
   |val v=>exact hp
   |agg=>simp [L4] at hp
   |tup=>simp [L4] at hp
   |_=>rfl
 |own xs Fs hrow=>rcases Wu hrow with ⟨rfl,_⟩|⟨g,cap,rfl,_⟩<;>rfl
 |omap=>rfl
 |oblk r h1=>exact h1
 |obox=>rfl
 |agg=>simp [L4] at hp
 |tup=>simp [L4] at hp
theorem Zid {t ty e kk bytes n m:Nat} {z:Value} {x y:Operand} {h h2:Value} {q q2:PV} {cs cs2:List PV} (l l2 d:Nat) (hT:ElT P t e kk bytes z) (hw:ZP ops sL o=some true) (hd:o.dst=some d) (hn:d<c.nt) (hty:o.type=ty)
 (ho:o.op= .call {callee:= .builtin .append,args:= #[x,y],argTypes:= #[t,t]}) (hx:ev sL x=some (h,q)) (hy:ev sL y=some (h2,q2)) (hll:Nat.beq l l2=false) (hl:lk hP l=some (h, .own e kk n cs)) (hl2:lk hP l2=some (h2, .own e kk m cs2)) (hdl:lk (del l2 (del l hP)) d=none) (hm:0<m)
 (hok:cs2.all L4=true) (hlen:n+m≤9223372036854775807) (hb:(n+m)*bytes≤140737488355328)
 (hdr:¬c.dr) (k:∀h':Value,h'.oneCell'=true→aL P c ops Q rest ⟨put d (h', .val h') sL,put d (h', .own e kk (n+m) (cs++cs2)) (del l2 (del l hP))⟩):aL P c ops Q (o::rest) (⟨sL,hP⟩:St):=
 Y4 hw fun a w F H=>by
  have hne:l≠l2:=fun e=>by subst e;simp at hll
  have hxv:=(H.rd.ev hx).1;have hyv:=(H.rd.ev hy).1;have hT1:=H.tr l _ _ hl;have hT2:=H.tr l2 _ _ hl2;obtain ⟨xs,Fs,hrow,hlen1,hTc,hdd,hbb,hFF⟩:=hT1.row;obtain ⟨xs2,Fs2,hrow2,hlen2,hTc2,hdd2,hbb2,hFF2⟩:=hT2.row;obtain ⟨g2,cap2,rfl,_,_,_⟩:=JV hT2 hm;obtain ⟨i,hi1,hi2,hi3,hi4⟩:=hT.info;obtain ⟨v',w',hr,hown,hg,_,hblk⟩:=run_append_own_at (P:=P) w 0 t o.type e i z kk bytes hT.ht hi1 hi2 hi3 hi4 hT.hz hT.hk h n xs hrow ⟨g2,0,none⟩ m cap2 xs2 hrow2.1
   (fun j u hu=>by rw [WB,XE];exact KG hrow2 hu)
   (fun u hu=>by
     obtain ⟨j,hj,rfl⟩:=Uj hu;obtain ⟨p,hp⟩:=Yl (show j<cs2.length by omega);exact (hTc2 j _ p (Xx hj) hp).cellOne (Xm.1 hok p (Xc hp)))
   (by unfold maxLen;exact hlen) hb (Xg _)
  have hch:Chg (fun b=>h.ownBlock=some b) w w':=(Chg.grown hg).wid fun b hb=> .inl hb;have hF1:∀b,h.ownBlock=some b→F l b:=fun b hb=>(hFF b).2 (.inl hb);have hv1:v'.oneCell'=true:=by rcases Wu hown with ⟨rfl,_⟩|⟨g,cap,rfl,_⟩<;>rfl
  have hcslen:cs.length=xs.length:=hlen1;let Fn:Nat→BS:=fun j b=>if j<cs.length then Fs j b else Fs2 (j-cs.length) b;let Fd:BS:=fun b=>v'.ownBlock=some b∨∃j,j<(cs++cs2).length∧Fn j b;have hFd:∀b,Fd b→(F l b∨F l2 b)∨w.heap.size≤b:=by
   rintro b (h1|⟨j,hj,h1⟩)
   · rcases hblk with h2|h2
     · exact .inl (.inl (hF1 b (by rw [←h2];exact h1)))
     · rw [h2] at h1;cases h1;exact .inr (Xe _)
   · simp only [Fn] at h1;split at h1
     · exact .inl (.inl ((hFF b).2 (.inr ⟨j,by assumption,h1⟩)))
     · exact .inl (.inr ((hFF2 b).2 (.inr ⟨j-cs.length,by simp at hj;omega,h1⟩)))
  have key :HoldsF c ⟨put d (v', .val v') sL,put d (v', .own e kk (n+m) (cs++cs2)) (del l2 (del l hP))⟩ (fun l'=>if l'=d then Fd else F l') (a.put (some d) v') w':=by
   refine H.change (fun l'=>l'=l∨l'=l2∨l'=d) hn (hch.wid fun b hb=> .inl ⟨l,_, .inl rfl,hl,hF1 b hb⟩) (fun l' x hnT hx'=>?_) (fun l' x b hTl hx' hb'=>?_) (fun hmm l' u p hTl hx'=>?_) (fun l1 l2' x1 x2 b h1 h2 hne' hx1 hx2=>?_) (fun _=> .val _) (fun h=>(hdr h).elim)
   · rcases ZZ hx' with ⟨e1,_⟩|⟨_,e1⟩
     · exact Qc (.inr (.inr e1.symm)) hnT
     · have h3:=(YC (YC e1).2).2;refine ⟨h3,?_⟩;have:l'≠d:=fun e2=>hnT (.inr (.inr e2));simp [this]
   · rcases ZZ hx' with ⟨e1,_⟩|⟨hne2,e1⟩
     · subst e1;simp only [if_true] at hb';rcases hFd b hb' with (h1|h1)|h1
       · exact .inl ⟨l,_, .inl rfl,hl,h1⟩
       · exact .inl ⟨l2,_, .inr (.inl rfl),hl2,h1⟩
       · exact .inr h1
     · obtain ⟨n1,h3⟩:=YC e1;obtain ⟨n2,h4⟩:=YC h3;rcases hTl with h5|h5|h5
       · exact Qc h5.symm n2
       · exact Qc h5.symm n1
       · exact Qc h5.symm hne2
   · rcases ZZ hx' with ⟨e1,e2⟩|⟨hne2,e1⟩
     · cases e2;subst e1;simp only [if_true];refine .own (xs++xs2) Fn hown (by simp;omega) (fun j y p hy' hp'=>?_) (fun j1 j2 b hj1 hj2 hne' h1 h2=>?_) (fun j b hj h1=>?_) (fun b=>Iff.rfl)
       · simp only [Fn];rcases XD j cs.length with hj|hj
         · rw [X0 hj] at hp';rw [X0 oM] at hy';simp only [hj,if_true];exact (hTc j y p hy' hp').to hch hmm (fun b _ hb'=> .inr ⟨l,_,hl,hF1 b hb'⟩) (fun b hb' he=>hbb j b hj hb' he)
         · rw [X' hj] at hp';rw [X' oM,←hcslen] at hy';simp only [show ¬j<cs.length by omega,if_false];exact (hTc2 (j-cs.length) y p hy' hp').to hch hmm (fun b _ hb'=> .inr ⟨l,_,hl,hF1 b hb'⟩) (fun b hb' he=>H.dj l l2 _ _ b hne hl hl2 (hF1 b he) ((hFF2 b).2 (.inr ⟨_,Zd hp',hb'⟩)))
       · simp only [Fn] at h1 h2;simp only [Xf] at hj1 hj2;split at h1
         · split at h2
           · exact hdd j1 j2 b (by assumption) (by assumption) hne' h1 h2
           · exact H.dj l l2 _ _ b hne hl hl2 ((hFF b).2 (.inr ⟨j1,by assumption,h1⟩)) ((hFF2 b).2 (.inr ⟨_,oM,h2⟩))
         · split at h2
           · exact H.dj l l2 _ _ b hne hl hl2 ((hFF b).2 (.inr ⟨j2,by assumption,h2⟩)) ((hFF2 b).2 (.inr ⟨_,oM,h1⟩))
           · exact hdd2 (j1-cs.length) (j2-cs.length) b oM oM oM h1 h2
       · simp only [Fn] at h1;simp only [Xf] at hj;intro hbk;have hlt:b<w.heap.size∧(F l b∨F l2 b):=by
          split at h1
          · have:=(hFF b).2 (.inr ⟨j,by assumption,h1⟩);exact ⟨hT1.lt b this, .inl this⟩
          · have:=(hFF2 b).2 (.inr ⟨j-cs.length,oM,h1⟩);exact ⟨hT2.lt b this, .inr this⟩
         rcases hblk with h3|h3
         · rw [h3] at hbk;split at h1
           · exact hbb j b (by assumption) h1 hbk
           · exact H.dj l l2 _ _ b hne hl hl2 (hF1 b hbk) ((hFF2 b).2 (.inr ⟨j-cs.length,oM,h1⟩))
         · rw [h3] at hbk;cases hbk;omega
     · obtain ⟨n1,h3⟩:=YC e1;obtain ⟨n2,h4⟩:=YC h3;rcases hTl with h5|h5|h5
       · exact Qc h5.symm n2
       · exact Qc h5.symm n1
       · exact Qc h5.symm hne2
   · have aux:∀l' x,(l'=l∨l'=l2∨l'=d)→lk (put d (v', .own e kk (n+m) (cs++cs2)) (del l2 (del l hP))) l'=some x→l'=d:=fun l' x hTl hx'=>by
      rcases ZZ hx' with ⟨e1,_⟩|⟨hne2,e1⟩
      · exact e1.symm
      · obtain ⟨n1,h3⟩:=YC e1;obtain ⟨n2,h4⟩:=YC h3;rcases hTl with h5|h5|h5
        · exact Qc h5.symm n2
        · exact Qc h5.symm n1
        · exact h5
     exact Qc ((aux l1 x1 h1 hx1).trans (aux l2' x2 h2 hx2).symm) hne'
  unfold Oper.wp execOp;simp only [ho,resolve,invoke,builtin,Sem.run_bind,Sem.run_pure,Result.andThen_ok,Ul,Xj,Vl,hxv,hyv,hr,Oper.upon,hd];exact k v' hv1 _ _ ⟨_,key⟩
end
def J1 {ι:Type} (st:St) (S:ι→St):Prop:=∀c a w,Holds c st a w→∃i,Holds c (S i) a w
section
variable {P:Program} {c:Ctx} {ops:Array Oper} {Q:Exit→Act→World→Prop} {rest:List Oper} {sL hP:List (Nat×Ent)} {o:Oper}
theorem Zp {ι:Type} {S:ι→St} {l:List Oper} (h:J1 (⟨sL,hP⟩:St) S) (k:∀i,aL P c ops Q l (S i)):aL P c ops Q l (⟨sL,hP⟩:St):=fun a w H=>let ⟨i,hi⟩:=h c a w H;k i a w hi
theorem HoldsF.retell {F:Nat→BS} {a:Act} {w:World} (H:HoldsF c (⟨sL,hP⟩:St) F a w) {h':List (Nat×Ent)} {F':Nat→BS} (T:Nat→Prop)
 (hsame:∀l x,¬T l→lk h' l=some x→lk hP l=some x∧F' l=F l)
 (hF:∀l x b,T l→lk h' l=some x→F' l b→∃l0 x0,T l0∧lk hP l0=some x0∧F l0 b)
 (hnew:(∀b,b<w.heap.size→mof c h' F' b→mof c hP F b)→∀l v p,T l→lk h' l=some (v,p)→Tr (mof c h' F') w v p (F' l))
 (hdj:∀l l' x x' b,T l→T l'→l≠l'→lk h' l=some x→lk h' l'=some x'→F' l b→¬F' l' b):HoldsF c ⟨sL,h'⟩ F' a w:=
 H.change0 T (Chg.rfl' _ _) hsame (fun l x b h1 h2 h3=> .inl (hF l x b h1 h2 h3)) hnew hdj
theorem focus {l l' j e k n:Nat} {h:Value} {cs:List PV} {p:PV} (hl:lk hP l=some (h, .own e k n cs)) (hp:cs[j]? =some p) (hl':lk hP l'=none):
 J1 (⟨sL,hP⟩:St) (fun v:Value=>⟨sL,put l' (v,p) (put l (h, .own e k n (cs.set j (.val v))) hP)⟩):=fun c a w ⟨F,H⟩=>by
 have hne:l'≠l:=fun e=>by subst e;rw [hl] at hl';cases hl'
 have hTr:=H.tr l _ _ hl
 obtain ⟨xs,Fs,hrow,hlen,hT,hd,hb,hF⟩:=hTr.row
 have hj:=Zd hp
 obtain ⟨v,hv⟩:=YB hp hlen
 have hFj:∀b,Fs j b→F l b:=fun b hb'=>(hF b).2 (.inr ⟨j,hj,hb'⟩)
 refine ⟨v,fun x=>if x=l' then Fs j else if x=l then (fun b=>h.ownBlock=some b∨∃i,i<cs.length∧i≠j∧Fs i b) else F x,?_⟩
 refine H.retell (fun x=>x=l∨x=l') (fun x y hnT hx=>?_) (fun x y b hTx hx hb'=>?_) (fun hmm x u q hTx hx=>?_) (fun x1 x2 y1 y2 b h1 h2 hne' hx1 hx2 hb1 hb2=>?_)
 · have n1:x≠l:=fun e=>hnT (.inl e);have n2:x≠l':=fun e=>hnT (.inr e);rw [ZY (Ne.symm n2),ZY (Ne.symm n1)] at hx;exact ⟨hx,by simp [n1,n2]⟩
 · refine ⟨l,_, .inl rfl,hl,?_⟩;rcases hTx with rfl|rfl
   · simp only [Ne.symm hne,if_false,if_true] at hb';rcases hb' with h1|⟨i,hi,_,h1⟩
     · exact (hF b).2 (.inl h1)
     · exact (hF b).2 (.inr ⟨i,hi,h1⟩)
   · simp only [if_true] at hb';exact hFj b hb'
 · rcases hTx with rfl|rfl
   · rw [ZY hne,ZJ] at hx
     cases hx;simp only [Ne.symm hne,if_false,if_true];refine .own xs (fun i b=>if i=j then False else Fs i b) hrow (by simpa using hlen) (fun i x q hx9 hq=>?_) (fun i i' b hi hi' hne' h1 h2=>?_) (fun i b hi h1=>?_) (fun b=>?_)
     · by_cases hij:i=j
       · subst hij;rw [XI hj] at hq
         cases hq;rw [hv] at hx9;cases hx9;exact .shr (.val _) (fun b h=>by simp at h)
       · rw [XZ (Ne.symm hij)] at hq;simp only [hij,if_false];exact (hT i x q hx9 hq).anti hmm
     · simp only [Xp] at hi hi';split at h1
       · exact h1
       · split at h2
         · exact h2
         · exact hd i i' b hi hi' hne' h1 h2
     · simp only [Xp] at hi;split at h1
       · exact h1.elim
       · exact hb i b hi h1
     · simp only [Xp];constructor
       · rintro (h1|⟨i,hi,hij,h1⟩)
         · exact .inl h1
         · exact .inr ⟨i,hi,by simp [hij,h1]⟩
       · rintro (h1|⟨i,hi,h1⟩)
         · exact .inl h1
         · split at h1
           · exact h1.elim
           · exact .inr ⟨i,hi,by assumption,h1⟩
   · rw [ZJ] at hx
     cases hx;simp only [if_true];exact (hT j _ _ hv hp).anti hmm
 · rcases h1 with rfl|rfl
   · rcases h2 with rfl|rfl
     · exact hne' rfl
     · simp only [Ne.symm hne,if_false,if_true] at hb1 hb2;rcases hb1 with h3|⟨i,hi,hij,h3⟩
       · exact hb j b hj hb2 h3
       · exact hd i j b hi hj hij h3 hb2
   · rcases h2 with rfl|rfl
     · simp only [Ne.symm hne,if_false,if_true] at hb1 hb2;rcases hb2 with h3|⟨i,hi,hij,h3⟩
       · exact hb j b hj hb1 h3
       · exact hd i j b hi hj hij h3 hb1
     · exact hne' rfl
theorem fold {l l' j e k n:Nat} {h v:Value} {cs:List PV} {p:PV} (hl:lk hP l=some (h, .own e k n cs)) (hp:cs[j]? =some (.val v)) (hl':lk hP l'=some (v,p)) (hne0:Nat.beq l l'=false):
 J1 (⟨sL,hP⟩:St) (fun _:Unit=>⟨sL,put l (h, .own e k n (cs.set j p)) (del l' hP)⟩):=fun c a w ⟨F,H⟩=>by
 have hne:l≠l':=fun e=>by subst e;simp at hne0
 have hTr:=H.tr l _ _ hl
 have hTr':=H.tr l' _ _ hl'
 obtain ⟨xs,Fs,hrow,hlen,hT,hd,hb,hF⟩:=hTr.row
 have hj:=Zd hp
 obtain ⟨v0,hv⟩:=YB hp hlen
 have hv0:v0=v:=((hT j _ _ hv hp).sh rfl).vOf
 subst hv0
 have hFi:∀i b,i<cs.length→Fs i b→F l b:=fun i b hi hb'=>(hF b).2 (.inr ⟨i,hi,hb'⟩)
 refine ⟨(),fun x=>if x=l then (fun b=>h.ownBlock=some b∨∃i,i<cs.length∧(if i=j then F l' b else Fs i b)) else F x,?_⟩
 refine H.retell (fun x=>x=l∨x=l') (fun x y hnT hx=>?_) (fun x y b hTx hx hb'=>?_) (fun hmm x u q hTx hx=>?_) (fun x1 x2 y1 y2 b h1 h2 hne' hx1 hx2 hb1 hb2=>?_)
 · have n1:x≠l:=fun e=>hnT (.inl e);rw [ZY (Ne.symm n1)] at hx;exact ⟨(YC hx).2,by simp [n1]⟩
 · rcases ZZ hx with ⟨rfl,_⟩|⟨n1,hx2⟩
   · simp only [if_true] at hb';rcases hb' with h1|⟨i,hi,h1⟩
     · exact ⟨l,_, .inl rfl,hl,(hF b).2 (.inl h1)⟩
     · split at h1
       · exact ⟨l',_, .inr rfl,hl',h1⟩
       · exact ⟨l,_, .inl rfl,hl,hFi i b hi h1⟩
   · rcases hTx with e1|e1
     · exact Qc e1.symm n1
     · exact Qc e1.symm (YC hx2).1
 · rcases ZZ hx with ⟨rfl,e1⟩|⟨n1,hx2⟩
   · cases e1;simp only [if_true];refine .own xs (fun i b=>if i=j then F l' b else Fs i b) hrow (by simpa using hlen) (fun i x q hx9 hq=>?_) (fun i i' b hi hi' hne' h1 h2=>?_) (fun i b hi h1=>?_) (fun b=>by simp only [Xp])
     · by_cases hij:i=j
       · subst hij;rw [XI hj] at hq
         cases hq;rw [hv] at hx9;cases hx9;simp only [if_true];exact hTr'.anti hmm
       · rw [XZ (Ne.symm hij)] at hq;simp only [hij,if_false];exact (hT i x q hx9 hq).anti hmm
     · simp only [Xp] at hi hi';split at h1
       · split at h2
         · omega
         · exact H.dj l l' _ _ b hne hl hl' (hFi i' b hi' h2) h1
       · split at h2
         · exact H.dj l l' _ _ b hne hl hl' (hFi i b hi h1) h2
         · exact hd i i' b hi hi' hne' h1 h2
     · simp only [Xp] at hi;intro hbk;split at h1
       · exact H.dj l l' _ _ b hne hl hl' ((hF b).2 (.inl hbk)) h1
       · exact hb i b hi h1 hbk
   · rcases hTx with e1|e1
     · exact Qc e1.symm n1
     · exact Qc e1.symm (YC hx2).1
 · have aux:∀x y,(x=l∨x=l')→lk (put l (h, .own e k n (cs.set j p)) (del l' hP)) x=some y→x=l:=fun x y hTx hx=>by
    rcases ZZ hx with ⟨e1,_⟩|⟨n1,hx2⟩
    · exact e1.symm
    · rcases hTx with e1|e1
      · exact e1
      · exact Qc e1.symm (YC hx2).1
   exact Qc ((aux x1 y1 h1 hx1).trans (aux x2 y2 h2 hx2).symm) hne'
theorem Wr (l e k:Nat) (hl:lk hP l=none):J1 (⟨sL,hP⟩:St) (fun _:Unit=>⟨sL,put l (.slice none 0 0, .own e k 0 []) hP⟩):=fun c a w ⟨F,H⟩=>by
 refine ⟨(),fun x=>if x=l then (fun _=>False) else F x,?_⟩
 refine H.retell (fun x=>x=l) (fun x y hnT hx=>?_) (fun x y b hTx hx hb'=>?_) (fun hmm x u q hTx hx=>?_) (fun x1 x2 y1 y2 b h1 h2 hne'=>Qc (h1.trans h2.symm) hne')
 · have n1:x≠l:=hnT;rw [ZY (Ne.symm n1)] at hx;exact ⟨hx,by simp [n1]⟩
 · subst hTx;simp at hb'
 · subst hTx;rw [ZJ] at hx
   cases hx;simp only [if_true];exact .own [] (fun _ _=>False) (World.ownsRow_nil _ _ _ _) rfl sM sM sM (by simp [Value.ownBlock])
theorem freeze {l t:Nat} {v:Value} {p q:PV} (hl:lk hP l=some (v,p)) (ht:lk sL t=some (v,q)):J1 (⟨sL,hP⟩:St) (fun _:Unit=>⟨put t (v,share p) sL,del l hP⟩):=fun c a w ⟨F,H⟩=>by
 refine ⟨(),F,?_⟩
 have hm:∀b,mof c (del l hP) F b→mof c hP F b:=by
  rintro b (h|⟨l',x,h1,h2⟩)
  · exact .inl h
  · exact .inr ⟨l',x,(YC h1).2,h2⟩
 have H1:HoldsF c ⟨sL,del l hP⟩ F a w:=H.less (fun _ _ h=>h) (fun _ _ h=>(YC h).2)
 refine ⟨H1.toHeapF,fun s u r hs=>?_,H.size,H.df⟩
 rcases ZZ hs with ⟨rfl,e1⟩|⟨_,hs'⟩
 · cases e1;refine ⟨(H.sl t _ _ ht).1,(H.tr l _ _ hl).share (fun b _ h=>hm b h) fun b hb hmb=>?_⟩;rcases hmb with h1|⟨l',x,h1,h2⟩
   · exact H.apart h1 hl hb
   · exact H.dj l l' _ _ b (YC h1).1 hl (YC h1).2 hb h2
 · exact H1.sl s u r hs'
theorem YU {l l' j e k n:Nat} {h v:Value} {cs:List PV} {p:PV} (hl:lk hP l=some (h, .own e k n cs)) (hp:cs[j]? =some (.val v)) (hl':lk hP l'=some (v,p)) (hne0:Nat.beq l l'=false):
 J1 (⟨sL,hP⟩:St) (fun _:Unit=>⟨sL,put l (h, .own e k n (cs.set j (share p))) (del l' hP)⟩):=fun c a w ⟨F,H⟩=>by
 have hne:l≠l':=fun e=>by subst e;simp at hne0
 have H1:HoldsF c ⟨sL,del l' hP⟩ F a w:=H.less (fun _ _ h=>h) (fun _ _ h=>(YC h).2)
 have hSv:Shr (mof c (del l' hP) F) w v (share p):=(H.tr l' _ _ hl').share (fun b _ h=>by
  rcases h with h|⟨l0,x,h1,h2⟩
  · exact .inl h
  · exact .inr ⟨l0,x,(YC h1).2,h2⟩) fun b hb hmb=>by
  rcases hmb with h1|⟨l0,x,h1,h2⟩
  · exact H.apart h1 hl' hb
  · exact H.dj l' l0 _ _ b (YC h1).1 hl' (YC h1).2 hb h2
 have hl1:lk (del l' hP) l=some (h, .own e k n cs):=by rw [S6 (Ne.symm hne)];exact hl
 obtain ⟨xs,Fs,hrow,hlen,hT,hd,hb,hF⟩:=(H1.tr l _ _ hl1).row
 have hj:=Zd hp
 obtain ⟨v0,hv⟩:=YB hp hlen
 have hv0:v0=v:=((hT j _ _ hv hp).sh rfl).vOf
 subst hv0
 refine ⟨(),fun x=>if x=l then (fun b=>h.ownBlock=some b∨∃i,i<cs.length∧(if i=j then False else Fs i b)) else F x,?_⟩
 · refine H1.retell (fun x=>x=l) (fun x y hnT hx=>?_) (fun x y b hTx hx hb'=>?_) (fun hmm x u q hTx hx=>?_) (fun x1 x2 y1 y2 b h1 h2 hne'=>Qc (h1.trans h2.symm) hne')
   · have n1:x≠l:=hnT;rw [ZY (Ne.symm n1)] at hx;exact ⟨hx,by simp [n1]⟩
   · subst hTx;simp only [if_true] at hb';refine ⟨x,_,rfl,hl1,(hF b).2 ?_⟩;rcases hb' with h1|⟨i,hi,h1⟩
     · exact .inl h1
     · split at h1
       · exact h1.elim
       · exact .inr ⟨i,hi,h1⟩
   · subst hTx;rw [ZJ] at hx
     cases hx;simp only [if_true];refine .own xs (fun i b=>if i=j then False else Fs i b) hrow (by simpa using hlen) (fun i x q hx9 hq=>?_) (fun i i' b hi hi' hne' h1 h2=>?_) (fun i b hi h1=>?_) (fun b=>by simp only [Xp])
     · by_cases hij:i=j
       · subst hij;rw [XI hj] at hq
         cases hq;rw [hv] at hx9;cases hx9;exact .shr (hSv.anti hmm) (fun b h=>by simp at h)
       · rw [XZ (Ne.symm hij)] at hq;simp only [hij,if_false];exact (hT i x q hx9 hq).anti hmm
     · simp only [Xp] at hi hi';split at h1
       · exact h1
       · split at h2
         · exact h2
         · exact hd i i' b hi hi' hne' h1 h2
     · simp only [Xp] at hi;split at h1
       · exact h1.elim
       · exact hb i b hi h1
end
section
variable {P:Program} {c:Ctx} {ops:Array Oper} {Q:Exit→Act→World→Prop} {rest:List Oper} {sL hP:List (Nat×Ent)} {o:Oper}
theorem Zcx:∀(l:List Value) (i:Nat) (cells:Array Value),cells.size=i+l.length→(l.zipIdx i).foldl (fun cs x=>cs.setIfInBounds (0+x.2) x.1) cells=(cells.toList.take i++l).toArray
 | [],i,cells,h=>by
   simp at h;simp only [Uz,List.foldl_nil,Xu];rw [Xq (by simp;omega)]
 | x::l,i,cells,h=>by
   simp only [Um,Vg];simp at h;rw [Zcx l (i+1) _ (by simp;omega)];congr 1;rw [XE,Array.toList_setIfInBounds,UJ (by simp;omega)];simp [UK]
theorem Zcy (k:Nat) (cells:Array Value) (v:Value) (hc:cells.size=k) (hv:v.cells.size=k):Instr.fill (fun i=>some (i*k,k)) cells [(0,v)]=some v.cells:=by
 simp only [Instr.fill,X8]
 rw [Qa (by simp;omega)]
 congr 1
 rw [←Array.foldl_toList]
 have:=Zcx v.cells.toList 0 cells (by simp;omega)
 rw [Array.toList_zipIdx]
 simp only [XM,XQ,VL] at this
 exact this
theorem Zan:∀(vs:List Value) (i:Nat) (cells:Array Value),cells.size=i+vs.length→(∀v∈vs,v.oneCell'=true)→Instr.fill (fun i=>some (i*1,1)) cells ((vs.zipIdx i).map fun x=>(x.2,x.1))=some (cells.toList.take i++vs).toArray
 | [],i,cells,h,_=>by
   simp at h;simp only [Uz,Vl,Instr.fill,Xu];rw [Xq (by simp;omega)]
 | v::vs,i,cells,h,h1=>by
   have hv:v.cells= #[v]:=Gd (h1 v sM);simp at h;have hc:¬(v.cells.size≠1||decide (i*1+v.cells.size>cells.size))=true:=by rw [hv];simp;omega
   simp only [Um,Xj,Instr.fill,hc,if_false];rw [hv];simp only [Array.zipIdx,Xy];have:=Zan vs (i+1) (cells.setIfInBounds i v) (by simp;omega) (fun u hu=>h1 u (by simp [hu]));simp;simp at this;rw [this];congr 1;rw [UJ (by simp;omega)];simp [UK]
theorem Zod {t e kk bytes:Nat} {z:Value} {x:Operand} {v:Value} {p:PV} (d:Nat) (hT:ElT P t e 1 bytes z) (hw:ZP ops sL o=some true) (hd:o.dst=some d) (hn:d<c.nt) (ho:o.op= .buildSlice t 1 #[(0,x)]) (hx:ev sL x=some (v,p)) (h10:one p=true) (hl:lk hP d=none)
 (k:∀h:Value,h.oneCell'=true→aL P c ops Q rest ⟨put d (h, .val h) sL,put d (h, .own e 1 1 [p]) hP⟩):aL P c ops Q (o::rest) (⟨sL,hP⟩:St):=
 Y4 hw fun a w F H=>by
  obtain ⟨i,hi1,hi2,hi3,hi4⟩:=hT.info;obtain ⟨hv,hS⟩:=H.rd.ev hx;have h1:=hS.one h10;obtain ⟨F',H'⟩:=Kd (e:=e) (k:=1) (n:=1) (cap:=1) (cur:= #[v]) (v:= .slice (some ⟨w.heap.size,0,none⟩) 1 1) H hl hn (vs:=[v]) (ps:=[p]) rfl (fun i y q hy hq=>by
   match i with
   |0=>simp at hy hq;subst hy hq;exact hS
   |i+1=>simp at hy) rfl (Xe _) (by unfold maxLen;omega) rfl rfl
  have hf:=Zcy 1 ((Array.range (1*i.size)).map (z.cells[· % z.cells.size]!)) v (by simp [hi3]) (by rw [Gd h1];rfl);have hr:=run_buildSlice (P:=P) w t e 1 #[(0,v)] v.cells i z hT.ht hi1 hi2 (by rw [hi3];decide) (by rw [hi3];decide) (by rw [hi3] at hf ⊢;exact hf);rw [Gd h1] at hr;unfold Oper.wp execOp;simp only [ho,Ul,Xj,Vl,hv,Sem.run_bind,hr,Result.andThen_ok,Sem.run_pure,Oper.upon,hd];exact k (.slice (some ⟨w.heap.size,0,none⟩) 1 1) rfl _ _ ⟨F',H'⟩
theorem ZkU {t e kk bytes:Nat} {z:Value} {x:Operand} {v:Value} {ps:List PV} (d:Nat) (hT:ElT P t e kk bytes z) (hw:ZP ops sL o=some true) (hd:o.dst=some d) (hn:d<c.nt) (ho:o.op= .buildSlice t 1 #[(0,x)]) (hx:ev sL x=some (v, .agg ps)) (hps:ps.length=kk) (hkb:kk≤1000) (hl:lk hP d=none)
 (k:∀h:Value,h.oneCell'=true→aL P c ops Q rest ⟨put d (h, .val h) sL,put d (h, .own e kk 1 ps) hP⟩):aL P c ops Q (o::rest) (⟨sL,hP⟩:St):=
 Y4 hw fun a w F H=>by
  obtain ⟨i,hi1,hi2,hi3,hi4⟩:=hT.info;obtain ⟨hv,hS⟩:=H.rd.ev hx;have hk0:=hT.hk;have hz0:=hT.hz
  cases hS with
  | agg vs ps hvl hTT=>
    obtain ⟨F',H'⟩:=Kd (e:=e) (k:=kk) (n:=1) (cap:=1) (cur:=vs.toArray) (v:= .slice (some ⟨w.heap.size,0,none⟩) 1 1) H hl hn (vs:=vs) (ps:=ps) hvl hTT oM (Xe _) (by unfold maxLen;omega) (by simp;omega) (Xq (by simp;omega));have hcs:(Value.agg vs.toArray).cells=vs.toArray:=rfl;have hf:=Zcy kk ((Array.range (1*i.size)).map (z.cells[· % z.cells.size]!)) (.agg vs.toArray) (by simp [hi3]) (by rw [hcs];simp;omega);have hr:=run_buildSlice (P:=P) w t e 1 #[(0, .agg vs.toArray)] vs.toArray i z hT.ht hi1 hi2 (by rw [hi3];omega) (by rw [hi3];omega) (by rw [hi3] at hf ⊢;exact hf);unfold Oper.wp execOp;simp only [ho,Ul,Xj,Vl,hv,Sem.run_bind,hr,Result.andThen_ok,Sem.run_pure,Oper.upon,hd];exact k (.slice (some ⟨w.heap.size,0,none⟩) 1 1) rfl _ _ ⟨F',H'⟩
def evL (slots:List (Nat×Ent)):List Operand→Option (List Ent)
 |[]=>some []
 | x::xs=>match ev slots x,evL slots xs with
   |some e,some l=>some (e::l)
   |_,_=>none
theorem TA {M:BS} {F:Nat→BS} {a:Act} {w:World} (H:RdF M (⟨sL,hP⟩:St) F a w):∀{xs:List Operand} {es:List Ent},evL sL xs=some es→xs.map a.eval=es.map (·.1)∧∀(i:Nat) (x:Value) (q:PV),(es.map (·.1))[i]? =some x→(es.map (·.2))[i]? =some q→Shr M w x q
 |[],es,h=>by simp [evL] at h;subst h;simp
 | x ::xs,es,h=>by
   simp only [evL] at h;split at h
   · rename_i e l he hl
     cases h;obtain ⟨v,p⟩:=e;obtain ⟨h1,h2⟩:=TA H hl;obtain ⟨h3,h4⟩:=H.ev he;refine ⟨by simp [h1,h3],fun i y q hy hq=>?_⟩
     cases i with
     |zero=>simp at hy hq;subst hy hq;exact h4
     |succ i=>exact h2 i y q (by simpa using hy) (by simpa using hq)
   · cases h
theorem Zgz {t e bytes m:Nat} {z:Value} {xs:List Operand} {parts:Array (Nat×Operand)} {es:List Ent} (d:Nat) (hT:ElT P t e 1 bytes z) (hw:ZP ops sL o=some true) (hd:o.dst=some d) (hn:d<c.nt) (ho:o.op= .buildSlice t m parts) (hpt:parts=((xs.zipIdx).map fun x=>(x.2,x.1)).toArray) (hx:evL sL xs=some es) (h1:es.all (fun x=>one x.2)=true) (hm:es.length=m) (hm0:0<m) (hm1:m≤1000) (hl:lk hP d=none)
 (k:∀h:Value,h.oneCell'=true→aL P c ops Q rest ⟨put d (h, .val h) sL,put d (h, .own e 1 m (es.map (·.2))) hP⟩):aL P c ops Q (o::rest) (⟨sL,hP⟩:St):=
 Y4 hw fun a w F H=>by
  obtain ⟨i,hi1,hi2,hi3,hi4⟩:=hT.info;obtain ⟨he,hS⟩:=TA H.rd hx;obtain ⟨F',H'⟩:=Kd (e:=e) (k:=1) (n:=m) (cap:=m) (cur:=(es.map (·.1)).toArray) (v:= .slice (some ⟨w.heap.size,0,none⟩) m m) H hl hn (vs:=es.map (·.1)) (ps:=es.map (·.2)) sM hS (by simp;omega) (Xe _) (by unfold maxLen;omega) (by simp;omega) (Xq (by simp;omega));have hf:=Zan (es.map (·.1)) 0 ((Array.range (m*i.size)).map (z.cells[· % z.cells.size]!)) (by simp [hi3];omega) (fun v hv=>by
   rw [Xh] at hv;obtain ⟨x,hx',rfl⟩:=hv;obtain ⟨i,hi,rfl⟩:=Uj hx';exact (hS i _ _ (by simp [hi]) (by simp [hi])).one (Xm.1 h1 _ hx'))
  have hpe:(parts.map fun (i,x)=>(i,a.eval x)).toList=((es.map (·.1)).zipIdx 0).map fun x=>(x.2,x.1):=by
   rw [hpt,←he];simp [List.zipIdx_map]
  have hr:=run_buildSlice (P:=P) w t e m (parts.map fun (i,x)=>(i,a.eval x)) (es.map (·.1)).toArray i z hT.ht hi1 hi2 (by rw [hi3];omega) (by rw [hi3];omega) (by rw [hpe,hi3];rw [hi3] at hf;simpa using hf);unfold Oper.wp execOp;simp only [ho,Sem.run_bind,hr,Result.andThen_ok,Sem.run_pure,Oper.upon,hd];exact k (.slice (some ⟨w.heap.size,0,none⟩) m m) rfl _ _ ⟨F',H'⟩
def J2 (P:Program) (t:Nat):Option (Value×List (Nat×Nat)):=match P.info? t,P.underlying t with
 | some i,some (.struct fs)=>match i.zero,fs.toList.mapM (fun f=>(P.info? f.type).map fun i=>(f.offset,i.size)) with
   |some z,some pl=>some (z,pl)
   |_,_=>none
 |_,_=>none
def OT {α:Type} (offs:List Nat):List α→List (Nat×α)→List α
 |cs,[]=>cs
 |cs,(i,x)::r=>OT offs (cs.set (offs.getD i 0) x) r
theorem Er (offs:List Nat):∀(ps:List (Nat×Value)) (cs:List Value),(∀x∈ps,x.2.oneCell'=true)→(∀x∈ps,x.1<offs.length∧offs.getD x.1 0<cs.length)→Instr.fill ((offs.map fun o=>(o,1)).toArray[·]?) cs.toArray ps=some (OT offs cs ps).toArray
 |[],cs,_,_=>rfl
 | (i,v)::ps,cs,h1,h2=>by
   have hv:v.cells= #[v]:=Gd (h1 (i,v) sM);obtain ⟨hi,ho⟩:=h2 (i,v) sM;have hpl:(offs.map fun o=>(o,1)).toArray[i]? =some (offs.getD i 0,1):=by
    simp [List.getD,hi]
   have hc:¬(v.cells.size≠1||decide (offs.getD i 0+v.cells.size>cs.toArray.size))=true:=by rw [hv];simp at ho ⊢;omega
   simp only [Instr.fill,hpl,hc,if_false];rw [hv];have:=Er offs ps (cs.set (offs.getD i 0) v) (fun x hx=>h1 x (by simp [hx])) (fun x hx=>by have:=h2 x (by simp [hx]);simpa using this);rw [OT,←this];simp [Array.zipIdx]
theorem Zcz (M:BS) (w:World) (offs:List Nat):∀(es:List (Nat×Ent)) (vs:List Value) (ps:List PV),vs.length=ps.length→(∀(i:Nat) (x:Value) (q:PV),vs[i]? =some x→ps[i]? =some q→Shr M w x q)→(∀x∈es,Shr M w x.2.1 x.2.2)→
 (OT offs vs (es.map fun x=>(x.1,x.2.1))).length=(OT offs ps (es.map fun x=>(x.1,x.2.2))).length∧∀(i:Nat) (x:Value) (q:PV),(OT offs vs (es.map fun x=>(x.1,x.2.1)))[i]? =some x→(OT offs ps (es.map fun x=>(x.1,x.2.2)))[i]? =some q→Shr M w x q
 |[],vs,ps,hl,h,_=>⟨hl,h⟩
 | (j,v,p)::es,vs,ps,hl,h,he=>by
   refine Zcz M w offs es (vs.set (offs.getD j 0) v) (ps.set (offs.getD j 0) p) (by simpa using hl) (fun i x q hx hq=>?_) (fun x hx=>he x (by simp [hx]));by_cases hij:offs.getD j 0=i
   · subst hij;(have h1:offs.getD j 0<vs.length:=by have:=Zd hx;simpa using this);rw [XI h1] at hx;rw [XI oM] at hq
     cases hx;cases hq;exact he (j,v,p) sM
   · rw [XZ hij] at hx hq;exact h i x q hx hq
def evP (slots:List (Nat×Ent)):List (Nat×Operand)→Option (List (Nat×Ent))
 |[]=>some []
 | (i,x)::xs=>match ev slots x,evP slots xs with
   |some e,some l=>some ((i,e)::l)
   |_,_=>none
theorem ZcA {M:BS} {F:Nat→BS} {a:Act} {w:World} (H:RdF M (⟨sL,hP⟩:St) F a w):∀{xs:List (Nat×Operand)} {es:List (Nat×Ent)},evP sL xs=some es→(xs.map fun x=>(x.1,a.eval x.2))=(es.map fun x=>(x.1,x.2.1))∧∀x∈es,Shr M w x.2.1 x.2.2
 |[],es,h=>by simp [evP] at h;subst h;simp
 | (i,x)::xs,es,h=>by
   simp only [evP] at h;split at h
   · rename_i e l he hl
     cases h;obtain ⟨v,p⟩:=e;obtain ⟨h1,h2⟩:=ZcA H hl;obtain ⟨h3,h4⟩:=H.ev he;refine ⟨by simp [h1,h3],fun y hy=>?_⟩;rcases Xk.1 hy with rfl|hy
     · exact h4
     · exact h2 y hy
   · cases h
theorem Zoe {t:Nat} {parts:Array (Nat×Operand)} {z:Value} {offs:List Nat} {zs:List Value} {es:List (Nat×Ent)} (hT:J2 P t=some (z,offs.map fun o=>(o,1))) (hzs:z.cells=zs.toArray) (ho:o.op= .build t parts) (hx:evP sL parts.toList=some es)
 (h1:es.all (fun x=>one x.2.2)=true) (hin:es.all (fun x=>decide (x.1<offs.length)&&decide (offs.getD x.1 0<zs.length))=true):YE P (⟨sL,hP⟩:St) o (· = .agg (OT offs zs (es.map fun x=>(x.1,x.2.1))).toArray) (.agg (OT offs (zs.map .val) (es.map fun x=>(x.1,x.2.2)))):=
 .exact fun M F a w H=>by
  obtain ⟨h2,h3⟩:=ZcA H hx;obtain ⟨h4,h5⟩:=Zcz M w offs es zs (zs.map .val) sM (fun i x q hx hq=>by
   rw [Xo,hx] at hq;simp at hq;subst hq;exact .val _) h3
  refine ⟨.agg _ _ h4 h5,?_⟩;have hb :P.built t ((parts.map fun (i,x)=>(i,a.eval x)).toList)=some (OT offs zs (es.map fun x=>(x.1,x.2.1))).toArray:=by
   have hpe:(parts.map fun (i,x)=>(i,a.eval x)).toList=es.map fun x=>(x.1,x.2.1):=by rw [VT,←h2]
   rw [hpe];unfold J2 at hT;split at hT
   · rename_i i fs hi hf;split at hT
     · rename_i z' pl hz hpl
       cases hT;unfold Program.built;simp only [hi,hf,hz,hpl,hzs];refine Er offs _ zs (fun x hx=>?_) (fun x hx=>?_)
       · rw [Xh] at hx;obtain ⟨y,hy,rfl⟩:=hx;exact (h3 y hy).one (Xm.1 h1 y hy)
       · rw [Xh] at hx;obtain ⟨y,hy,rfl⟩:=hx;have:=Xm.1 hin y hy;simpa using this
     · cases hT
   · cases hT
  have:=run_build (P:=P) w t (parts.map fun (i,x)=>(i,a.eval x)) _ hb;simp [execOp,ho,this]
end
section
variable {P:Program} {c:Ctx} {ops:Array Oper} {Q:Exit→Act→World→Prop} {rest:List Oper} {sL hP:List (Nat×Ent)} {o:Oper}
def ZrV (st:St) (v:Value) (m:Nat) (cs:List PV):Prop:=∀M F a w,RdF M st F a w→∃b off cp,v= .slice (some ⟨b,off,none⟩) m cp∧∀(i:Nat) (p:PV),cs[i]? =some p→∃x,w.cell? ⟨b,off+i,none⟩=some x∧Shr M w x p
theorem Zof {x:Operand} {v:Value} {m:Nat} {cs:List PV} (hx:ev sL x=some (v, .sl m cs)) (hm:0<m):ZrV (⟨sL,hP⟩:St) v m cs:=fun M F a w H=>by
 obtain ⟨_,hS⟩:=H.ev hx
 cases hS with
 |emp=>omega
 |sl b off n c cs vs hn hc hcell hT=>exact ⟨b,off,c,rfl,fun i p hp=>⟨vs i,(hcell i (Zd hp)).1,hT i p hp⟩⟩
theorem ZeO {t e kk bytes n m:Nat} {z:Value} {x y:Operand} {h v2:Value} {q q2:PV} {cs cs2:List PV} (l d:Nat) (hT:ElT P t e kk bytes z) (hw:ZP ops sL o=some true) (hd:o.dst=some d) (hn:d<c.nt)
 (ho:o.op= .call {callee:= .builtin .append,args:= #[x,y],argTypes:= #[t,t]}) (hx:ev sL x=some (h,q)) (hy:ev sL y=some (v2,q2)) (hl:lk hP l=some (h, .own e kk n cs)) (hsrc:ZrV (⟨sL,hP⟩:St) v2 m cs2) (hlen2:cs2.length=m*kk) (hdl:lk (del l hP) d=none)
 (hok:cs2.all one=true) (hlen:n+m≤9223372036854775807) (hb:(n+m)*bytes≤140737488355328)
 (hdr:¬c.dr) (k:∀h':Value,h'.oneCell'=true→aL P c ops Q rest ⟨put d (h', .val h') sL,put d (h', .own e kk (n+m) (cs++cs2)) (del l hP)⟩):aL P c ops Q (o::rest) (⟨sL,hP⟩:St):=
 Y4 hw fun a w F H=>by
  have hxv:=(H.rd.ev hx).1;have hyv:=(H.rd.ev hy).1;have hT1:=H.tr l _ _ hl;obtain ⟨xs,Fs,hrow,hlen1,hTc,hdd,hbb,hFF⟩:=hT1.row;obtain ⟨b2,off2,cp2,rfl,hsr⟩:=hsrc _ F a w H.rd;obtain ⟨i,hi1,hi2,hi3,hi4⟩:=hT.info;have hex:∃xs2:List Value,xs2.length=cs2.length∧∀(j:Nat) (u:Value) (p:PV),xs2[j]? =some u→cs2[j]? =some p→w.cell? ⟨b2,off2+j,none⟩=some u∧Shr (mof c hP F) w u p:=by
   refine ⟨(List.range cs2.length).map fun j=>(w.cell? ⟨b2,off2+j,none⟩).getD undef,sM,fun j u p hu hp=>?_⟩;have hj:=Zd hp;simp [hj] at hu;obtain ⟨x,hx1,hx2⟩:=hsr j p hp;rw [hx1] at hu;simp at hu;subst hu;exact ⟨hx1,hx2⟩
  obtain ⟨xs2,hxl,hxs⟩:=hex;obtain ⟨v',w',hr,hown,hg,_,hblk⟩:=run_append_own_at (P:=P) w 0 t o.type e i z kk bytes hT.ht hi1 hi2 hi3 hi4 hT.hz hT.hk h n xs hrow ⟨b2,off2,none⟩ m cp2 xs2 oM
   (fun j u hu=>by
     obtain ⟨p,hp⟩:=YB hu hxl;rw [WB];exact (hxs j u p hu hp).1)
   (fun u hu=>by
     obtain ⟨j,hj,rfl⟩:=Uj hu;obtain ⟨p,hp⟩:=Yl (show j<cs2.length by omega);exact (hxs j _ p (Xx hj) hp).2.one (Xm.1 hok p (Xc hp)))
   (by unfold maxLen;exact hlen) hb (Xg _)
  have hch:Chg (fun b=>h.ownBlock=some b) w w':=(Chg.grown hg).wid fun b hb=> .inl hb;have hF1:∀b,h.ownBlock=some b→F l b:=fun b hb=>(hFF b).2 (.inl hb);have hv1:v'.oneCell'=true:=by rcases Wu hown with ⟨rfl,_⟩|⟨g,cap,rfl,_⟩<;>rfl
  let Fn:Nat→BS:=fun j b=>if j<cs.length then Fs j b else False;let Fd:BS:=fun b=>v'.ownBlock=some b∨∃j,j<(cs++cs2).length∧Fn j b;have hFd:∀b,Fd b→F l b∨w.heap.size≤b:=by
   rintro b (h1|⟨j,hj,h1⟩)
   · rcases hblk with h2|h2
     · exact .inl (hF1 b (by rw [←h2];exact h1))
     · rw [h2] at h1;cases h1;exact .inr (Xe _)
   · simp only [Fn] at h1;split at h1
     · exact .inl ((hFF b).2 (.inr ⟨j,by assumption,h1⟩))
     · exact h1.elim
  have key:HoldsF c ⟨put d (v', .val v') sL,put d (v', .own e kk (n+m) (cs++cs2)) (del l hP)⟩ (fun l'=>if l'=d then Fd else F l') (a.put (some d) v') w':=by
   have aux:∀l' x,(l'=l∨l'=d)→lk (put d (v', .own e kk (n+m) (cs++cs2)) (del l hP)) l'=some x→l'=d∧x=(v', .own e kk (n+m) (cs++cs2)):=fun l' x hTl hx'=>by
    rcases ZZ hx' with ⟨e1,e2⟩|⟨hne2,e1⟩
    · exact ⟨e1.symm,e2.symm⟩
    · rcases hTl with h5|h5
      · exact Qc h5.symm (YC e1).1
      · exact Qc h5.symm hne2
   refine H.change (fun l'=>l'=l∨l'=d) hn (hch.wid fun b hb=> .inl ⟨l,_, .inl rfl,hl,hF1 b hb⟩) (fun l' x hnT hx'=>?_) (fun l' x b hTl hx' hb'=>?_) (fun hmm l' u p hTl hx'=>?_) (fun l1 l2' x1 x2 b h1 h2 hne' hx1 hx2=>Qc ((aux l1 x1 h1 hx1).1.trans (aux l2' x2 h2 hx2).1.symm) hne') (fun _=> .val _) (fun h=>(hdr h).elim)
   · rcases ZZ hx' with ⟨e1,_⟩|⟨_,e1⟩
     · exact Qc (.inr e1.symm) hnT
     · refine ⟨(YC e1).2,?_⟩;have:l'≠d:=fun e2=>hnT (.inr e2);simp [this]
   · obtain ⟨rfl,_⟩:=aux l' x hTl hx';simp only [if_true] at hb';rcases hFd b hb' with h1|h1
     · exact .inl ⟨l,_, .inl rfl,hl,h1⟩
     · exact .inr h1
   · obtain ⟨rfl,e2⟩:=aux l' _ hTl hx'
     cases e2;simp only [if_true];refine .own (xs++xs2) Fn hown (by simp;omega) (fun j y p hy' hp'=>?_) (fun j1 j2 b hj1 hj2 hne' h1 h2=>?_) (fun j b hj h1=>?_) (fun b=>Iff.rfl)
     · simp only [Fn];rcases XD j cs.length with hj|hj
       · rw [X0 hj] at hp';rw [X0 oM] at hy';simp only [hj,if_true];exact (hTc j y p hy' hp').to hch hmm (fun b _ hb'=> .inr ⟨l,_,hl,hF1 b hb'⟩) (fun b hb' he=>hbb j b hj hb' he)
       · rw [X' hj] at hp';rw [X' oM,←hlen1] at hy';simp only [show ¬j<cs.length by omega,if_false];exact .shr ((hxs (j-cs.length) y p hy' hp').2.to hch (fun b _ hb'=> .inr ⟨l,_,hl,hF1 b hb'⟩) hmm) (fun _ h=>h)
     · simp only [Fn] at h1 h2;split at h1
       · split at h2
         · exact hdd j1 j2 b (by assumption) (by assumption) hne' h1 h2
         · exact h2
       · exact h1
     · simp only [Fn] at h1;split at h1
       · rename_i hjl;intro hbk;have hlt:=hT1.lt b ((hFF b).2 (.inr ⟨j,hjl,h1⟩));rcases hblk with h3|h3
         · rw [h3] at hbk;exact hbb j b hjl h1 hbk
         · rw [h3] at hbk;cases hbk;omega
       · exact h1.elim
  unfold Oper.wp execOp;simp only [ho,resolve,invoke,builtin,Sem.run_bind,Sem.run_pure,Result.andThen_ok,Ul,Xj,Vl,hxv,hyv,hr,Oper.upon,hd];exact k v' hv1 _ _ ⟨_,key⟩
theorem Zog {t e kk bytes n:Nat} {z:Value} {x y:Operand} {h v2:Value} {q:PV} {cs:List PV} (l d:Nat) (hT:ElT P t e kk bytes z) (hw:ZP ops sL o=some true) (hd:o.dst=some d) (hn:d<c.nt)
 (ho:o.op= .call {callee:= .builtin .append,args:= #[x,y],argTypes:= #[t,t]}) (hx:ev sL x=some (h,q)) (hy:ev sL y=some (v2, .sl 0 [])) (hl:lk hP l=some (h, .own e kk n cs))
 (k:aL P c ops Q rest ⟨put d (h, .val h) sL,hP⟩):aL P c ops Q (o::rest) (⟨sL,hP⟩:St):=
 Y4 hw fun a w F H=>by
  have hxv:=(H.rd.ev hx).1;obtain ⟨hyv,hS⟩:=H.rd.ev hy;obtain ⟨i,hi1,hi2,hi3,hi4⟩:=hT.info;obtain ⟨xs,Fs,hrow,hlen1,hTc,hdd,hbb,hFF⟩:=(H.tr l _ _ hl).row;have hr:(Builtin.append_ #[t,t] o.type #[h,v2]).run P w= .ok h w:=by
   have hv2:∃ad cp,v2= .slice ad 0 cp:=by
    cases hS with
    |emp a c=>exact ⟨_,_,rfl⟩
    |sl b off n c cs vs=>exact ⟨_,_,rfl⟩
   obtain ⟨ad,cp,rfl⟩:=hv2;rcases Wu hrow with ⟨rfl,_,_⟩|⟨g,cap,rfl,h1,h2,h3⟩
   · cases ad<;>simp [Builtin.append_,run_underlying hT.ht,sizeOf,typeInfo,hi1,Builtin.lenOf,Builtin.firstCells,loadCells,loadCellsFrom]
   · cases ad<;>simp [Builtin.append_,run_underlying hT.ht,sizeOf,typeInfo,hi1,Builtin.lenOf,Builtin.firstCells,loadCells,loadCellsFrom,h1,storeCells]
  unfold Oper.wp execOp;simp only [ho,resolve,invoke,builtin,Sem.run_bind,Sem.run_pure,Result.andThen_ok,Ul,Xj,Vl,hxv,hyv,hr,Oper.upon,hd];exact k _ _ ⟨F,H.put hn (.val _)⟩
def slc (v:Value) (lo hi k:Nat):Value:=match v with
 | .slice a n cp=> .slice (if cp=lo then a else a.map (·.add (lo*k))) (hi-lo) (cp-lo)
 |v=>v
def bnd (slots:List (Nat×Ent)) (dflt:Nat):Option Operand→Option Nat
 |none=>some dflt
 | some x=>match ev slots x with
   |some (.int .i64 n,_)=>if 0≤n then some n.toNat else none
   |_=>none
theorem EX {t e k:Nat} (hT:SlT P t e k=true) {a:Act} {M:BS} {F:Nat→BS} {w:World} (H:RdF M (⟨sL,hP⟩:St) F a w) {lo hi:Option Operand} {i j n cp:Nat} {ad:Option Addr} (hlo:bnd sL 0 lo=some i) (hhi:bnd sL n hi=some j) (hij:i≤j) (hj:j≤n) (hn:n≤cp):
 (Instr.sliceAt t (.slice ad n cp) (lo.map a.eval) (hi.map a.eval) none).run P w= .ok (slc (.slice ad n cp) i j k) w:=by
 have key:∀{x:Option Operand} {dflt r:Nat},bnd sL dflt x=some r→(x=none∧r=dflt)∨∃y,x=some y∧a.eval y= .int .i64 r:=fun {x dflt r} h=>by
  cases x with
  |none=>simp [bnd] at h;exact .inl ⟨rfl,h.symm⟩
  | some y=>
    simp only [bnd] at h;split at h
    · rename_i m q hq;split at h
      · rename_i h0
        cases h;refine .inr ⟨y,rfl,?_⟩;rw [(H.ev hq).1,Int.toNat_of_nonneg h0]
      · cases h
    · cases h
 have hjc:j≤cp:=oM
 have hr:(Instr.slice t (.slice ad n cp) (lo.map a.eval) (hi.map a.eval) none).run P w= .ok (slc (.slice ad n cp) i j k) w:=by
  rcases key hlo with ⟨rfl,rfl⟩|⟨y,rfl,hy⟩
  · rcases key hhi with ⟨rfl,rfl⟩|⟨y',rfl,hy'⟩
    · simp [Instr.slice,run_underlying (SlT.und hT),Instr.sliceBounds,SlT.size hT,slc]
    · simp [Instr.slice,run_underlying (SlT.und hT),Instr.sliceBounds,Instr.sliceBound,asIntOf,SlT.size hT,slc,hy',hjc]
  · rcases key hhi with ⟨rfl,rfl⟩|⟨y',rfl,hy'⟩
    · simp [Instr.slice,run_underlying (SlT.und hT),Instr.sliceBounds,Instr.sliceBound,asIntOf,SlT.size hT,slc,hy,hij]
    · simp [Instr.slice,run_underlying (SlT.und hT),Instr.sliceBounds,Instr.sliceBound,asIntOf,SlT.size hT,slc,hy,hy',hjc,hij]
 unfold Instr.sliceAt
 simp only [Sem.run_bind,run_underlying (SlT.und hT),Result.andThen_ok]
 exact hr
theorem Ge {t e k n i j:Nat} {x:Operand} {lo hi:Option Operand} {v:Value} {cs:List PV} (hT:SlT P t e k=true) (ho:o.op= .slice t x lo hi none) (hx:ev sL x=some (v, .sl n cs)) (hlo:bnd sL 0 lo=some i) (hhi:bnd sL n hi=some j) (hij:i≤j) (hj:j≤n) (hcs:cs.length=n*k):
 YE P (⟨sL,hP⟩:St) o (· =slc v i j k) (.sl (j-i) ((cs.drop (i*k)).take ((j-i)*k))):=
 .exact fun M F a w H=>by
  obtain ⟨hv,hs⟩:=H.ev hx
  cases hs with
  | emp ad cp hc ha=>
    have hi0:i=0:=oM;have hj0:j=0:=oM;subst hi0 hj0;refine ⟨?_,?_⟩
    · have:=Shr.emp (M:=M) (w:=w) (if cp=0 then ad else ad.map (·.add (0*k))) cp hc (fun h=>by
       split at h
       · assumption
       · cases ad with
         |none=>exact ha rfl
         |some _=>cases h)
      simpa [slc] using this
    · simp [execOp,ho,hv,EX hT H hlo hhi hij hj (Xg _)]
  | sl b off n cp cs vs hn hc hcell hT'=>
    refine ⟨?_,?_⟩
    · simp only [slc];by_cases hcp:cp=i
      · have hji:j=i:=oM;subst hji hcp;simp only [if_true,Vm,X8,XM];exact .sl b off 0 0 [] vs (Xe _) (by unfold maxLen;omega) sM sM
      · simp only [hcp,if_false,Option.map_some,WB];refine .sl b (off+i*k) (j-i) (cp-i) _ (fun m=>vs (i*k+m)) oM oM (fun m hm=>?_) (fun m p hp=>?_)
        · rw [Vw];refine hcell (i*k+m) ?_;simp at hm;omega
        · (have hm:m<(j-i)*k:=by have:=Zd hp;simp at this;omega);rw [X9 hm,VJ] at hp;exact hT' _ p hp
    · simp [execOp,ho,hv,EX hT H hlo hhi hij hj hn]
theorem L5 {t e k e' k' n i j:Nat} {x:Operand} {lo hi:Option Operand} {h:Value} {q:PV} {cs:List PV} (l:Nat) (hT:SlT P t e k=true) (ho:o.op= .slice t x lo hi none) (hx:ev sL x=some (h,q)) (hl:lk hP l=some (h, .own e' k' n cs)) (hlo:bnd sL 0 lo=some i) (hhi:bnd sL n hi=some j) (hij:i≤j) (hj:j≤n):
 YE P (⟨sL,hP⟩:St) o (· =slc h i j k) (.val (slc h i j k)):=
 .exact fun M F a w H=>by
  have hv:=(H.ev hx).1;obtain ⟨xs,Fs,hrow,hlen,_⟩:=(H.tr l _ _ hl).row;refine ⟨.val _,?_⟩;rcases Wu hrow with ⟨rfl,rfl,_⟩|⟨g,cap,rfl,h1,h2,h3⟩
  · simp [execOp,ho,hv,EX hT H hlo hhi hij hj (Xe _)]
  · simp [execOp,ho,hv,EX hT H hlo hhi hij hj h1]
end
def aC (P:Program) (c:Ctx) (code:Code) (Q:Exit→Act→World→Prop) (st:St):Prop:=∀a w,Holds c st a w→code.wp P Q a w
def aN (c:Ctx) (Q:Exit→Act→World→Prop) (st:St):Prop:=∀a w,Holds c st a w→Q .normal a w
def aX (c:Ctx) (Q:Exit→Act→World→Prop) (id:Nat) (st:St):Prop:=∀a w,Holds c st a w→Q (.exit id) a w
def aR (c:Ctx) (Q:Exit→Act→World→Prop) (st:St):Prop:=∀a w,Holds c st a w→Q .ret a w
section
variable {P:Program} {c:Ctx} {Q:Exit→Act→World→Prop} {sL hP:List (Nat×Ent)}
theorem Cg {x y:Code} (h:aC P c x (Exit.then (y.wp P Q) Q) (⟨sL,hP⟩:St)):aC P c (x.seq y) Q (⟨sL,hP⟩:St):=fun a w H=>wp_seq (h a w H)
theorem Zi {id:Nat} {l:List Oper} (h:aL P c l.toArray Q l (⟨sL,hP⟩:St)):aC P c (.region id l.toArray false) Q (⟨sL,hP⟩:St):=fun a w H=>wp_region_lit (h a w H)
theorem Ww {ops:Array Oper} (h:aN c Q (⟨sL,hP⟩:St)):aL P c ops Q [] (⟨sL,hP⟩:St):=h
theorem Dp (h:aN c Q (⟨sL,hP⟩:St)):aC P c .skip Q (⟨sL,hP⟩:St):=fun a w H=>wp_skip (h a w H)
theorem Yb {x:Operand} {t e:Code} {b:Bool} {q:PV} (hx:ev sL x=some (.bool b,q)) (ht:b=true→aC P c t Q (⟨sL,hP⟩:St)) (hf:b=false→aC P c e Q (⟨sL,hP⟩:St)):aC P c (.cond x t e) Q (⟨sL,hP⟩:St):=fun a w H=>
 wp_cond_split (H.elim fun F H=>(H.rd.ev hx).1) (fun h=>ht h a w H) (fun h=>hf h a w H)
theorem Pi {id:Nat} {x:Code} (h:aC P c x (Exit.inBlock id Q) (⟨sL,hP⟩:St)):aC P c (.block id x) Q (⟨sL,hP⟩:St):=fun a w H=>wp_block (h a w H)
theorem Dq {id:Nat} (h:aX c Q id (⟨sL,hP⟩:St)):aC P c (.exit id) Q (⟨sL,hP⟩:St):=fun a w H=>wp_exit (h a w H)
theorem Ch (h:aR c Q (⟨sL,hP⟩:St)):aC P c .ret Q (⟨sL,hP⟩:St):=fun a w H=>wp_ret (h a w H)
theorem Zq {ι:Type} {S:ι→St} {x:Code} (h:J1 (⟨sL,hP⟩:St) S) (k:∀i,aC P c x Q (S i)):aC P c x Q (⟨sL,hP⟩:St):=fun a w H=>let ⟨i,hi⟩:=h c a w H;k i a w hi
theorem Yq {ι:Type} {S:ι→St} (h:J1 (⟨sL,hP⟩:St) S) (k:∀i,aN c Q (S i)):aN c Q (⟨sL,hP⟩:St):=fun a w H=>let ⟨i,hi⟩:=h c a w H;k i a w hi
theorem Z5 {ι:Type} {S:ι→St} (h:J1 (⟨sL,hP⟩:St) S) (k:∀i,aR c Q (S i)):aR c Q (⟨sL,hP⟩:St):=fun a w H=>let ⟨i,hi⟩:=h c a w H;k i a w hi
theorem Dr {y:Code} (h:aC P c y Q (⟨sL,hP⟩:St)):aN c (Exit.then (y.wp P Q) Q) (⟨sL,hP⟩:St):=h
theorem Pj {id:Nat} (h:aN c Q (⟨sL,hP⟩:St)):aN c (Exit.inBlock id Q) (⟨sL,hP⟩:St):=h
theorem Dt {K:Act→World→Prop} {id:Nat} (h:aX c Q id (⟨sL,hP⟩:St)):aX c (Exit.then K Q) id (⟨sL,hP⟩:St):=h
theorem Pk {id:Nat} (h:aN c Q (⟨sL,hP⟩:St)):aX c (Exit.inBlock id Q) id (⟨sL,hP⟩:St):=fun a w H=>by simp only [Exit.inBlock,if_true];exact h a w H
theorem Pl {id id':Nat} (hne:Nat.beq id' id=false) (h:aX c Q id' (⟨sL,hP⟩:St)):aX c (Exit.inBlock id Q) id' (⟨sL,hP⟩:St):=fun a w H=>by
 have:id'≠id:=fun e=>by subst e;simp at hne
 simp only [Exit.inBlock,this,if_false];exact h a w H
theorem Du {K:Act→World→Prop} (h:aR c Q (⟨sL,hP⟩:St)):aR c (Exit.then K Q) (⟨sL,hP⟩:St):=h
theorem Pm {id:Nat} (h:aR c Q (⟨sL,hP⟩:St)):aR c (Exit.inBlock id Q) (⟨sL,hP⟩:St):=h
theorem OU (p:Nat→Prop) (h:∃n,p n):∃n,p n∧∀m,p m→n≤m:=by
 obtain ⟨n,hn⟩:=h
 induction n using Nat.strongRecOn with
 | _ n ih=>
   by_cases hm:∃m,m<n∧p m
   · obtain ⟨m,h1,h2⟩:=hm;exact ih m h1 h2
   · exact ⟨n,hn,fun m hp=>UH fun h=>hm ⟨m,h,hp⟩⟩
def ZgA {ι:Type} (c:Ctx) (I:ι→St) (μ:ι→Nat) (i:ι):Act→World→Prop:=fun a w=>∃j,μ j<μ i∧Holds c (I j) a w
theorem Y7 {ι:Type} {x:Code} (I:ι→St) (μ:ι→Nat) (i0:ι) (h0:∀a w,Holds c (⟨sL,hP⟩:St) a w→Holds c (I i0) a w) (round:∀i,aC P c x (Exit.then (ZgA c I μ i) Q) (I i)):aC P c (.loop x) Q (⟨sL,hP⟩:St):=fun a w H=>by
 classical
 let μ':Act→World→Nat:=fun a w=>if h:∃n,∃i,Holds c (I i) a w∧μ i=n then Classical.choose (OU _ h) else 0
 refine wp_loop (fun a w=>∃i,Holds c (I i) a w) μ' ⟨i0,h0 a w H⟩ ?_
 rintro a w ⟨i,hi⟩
 have hex:∃n,∃i,Holds c (I i) a w∧μ i=n:=⟨_,i,hi,rfl⟩
 obtain ⟨⟨i1,hi1,hmu⟩,_⟩:=Classical.choose_spec (OU _ hex)
 have hμ:μ' a w=μ i1:=by simp only [μ',dif_pos hex];exact hmu.symm
 refine wp_mono (round i1 a w hi1) fun e a' w' hq=>?_
 cases e with
 | normal=>
   obtain ⟨j,hj,hH⟩:=hq;refine ⟨⟨j,hH⟩,?_⟩;have hex':∃n,∃i,Holds c (I i) a' w'∧μ i=n:=⟨_,j,hH,rfl⟩;have hle:=(Classical.choose_spec (OU _ hex')).2 (μ j) ⟨j,hH,rfl⟩;have:μ' a' w'≤μ j:=by simp only [μ',dif_pos hex'];exact hle
   omega
 |_=>exact hq
theorem Zm {ι:Type} {I:ι→St} {μ:ι→Nat} {i:ι} (j:ι) (hμ:μ j<μ i) (hs:Sub (I j).slots sL) (hh:Sub (I j).heap hP):aN c (Exit.then (ZgA c I μ i) Q) (⟨sL,hP⟩:St):=fun a w H=>⟨j,hμ,H.weaken hs hh⟩
theorem Hy {ι:Type} {S:ι→St} (i:ι) (hs:Sub (S i).slots sL) (hh:Sub (S i).heap hP):aN c (Exit.then (fun a w=>∃i,Holds c (S i) a w) Q) (⟨sL,hP⟩:St):=fun a w H=>⟨i,H.weaken hs hh⟩
def Gy (c:Ctx) (R:PV→Prop) (e:Ending) (w':World):Prop:=∃v p F,e= .returned v∧R p∧Ext c.w0 w'∧Tr (fun b=>c.M0 b∨F b) w' v p F∧(∀b,F b→c.w0.heap.size≤b)∧(c.dr→c.w0.drawn≤w'.drawn)
def AFd (dd:Prop) (P:Program) (f:FuncId) (ps:List PV) (R:PV→Prop):Prop:=∀(M:BS) (w:World) (vs:List Value),M0k w M (fun _=>False) dd→vs.length=ps.length→(∀(i:Nat) (v:Value) (p:PV),vs[i]? =some v→ps[i]? =some p→Shr M w v p)→Calls P f vs.toArray w (Gy ⟨w,M,fun _=>False,0,dd,[]⟩ R)
abbrev AF (P:Program) (f:FuncId) (ps:List PV) (R:PV→Prop):Prop:=AFd False P f ps R
abbrev AFg (P:Program) (f:FuncId) (ps:List PV) (R:PV→Prop):Prop:=AFd True P f ps R
theorem AFd.mono {dd:Prop} {f:FuncId} {ps:List PV} {R R':PV→Prop} (h:AFd dd P f ps R) (hR:∀p,R p→R' p):AFd dd P f ps R':=fun M w vs hM hl hv=>(h M w vs hM hl hv).mono fun e w' ⟨v,p,F,h1,h2,h3⟩=>⟨v,p,F,h1,hR p h2,h3⟩
theorem AF.mono {f:FuncId} {ps:List PV} {R R':PV→Prop} (h:AF P f ps R) (hR:∀p,R p→R' p):AF P f ps R':=AFd.mono h hR
theorem AFg.mono {f:FuncId} {ps:List PV} {R R':PV→Prop} (h:AFg P f ps R) (hR:∀p,R p→R' p):AFg P f ps R':=AFd.mono h hR
def K1:Nat→List Value→List PV→List (Nat×Ent)
 |i,v::vs,p::ps=>(i,v,p)::K1 (i+1) vs ps
 |_,_,_=>[]
theorem Pn:∀(vs:List Value) (ps:List PV) (i t:Nat) (v:Value) (p:PV),lk (K1 i vs ps) t=some (v,p)→i≤t∧vs[t-i]? =some v∧ps[t-i]? =some p
 |[],_,_,_,_,_,h=>by simp [K1,lk] at h
 |_::_,[],_,_,_,_,h=>by simp [K1,lk] at h
 | u ::vs,q::ps,i,t,v,p,h=>by
   simp only [K1,lk] at h
   cases hb:Nat.beq i t
   · rw [hb] at h;obtain ⟨h1,h2,h3⟩:=Pn vs ps (i+1) t v p h;have:t-i=(t-(i+1))+1:=oM;exact ⟨oM,by rw [this];simpa using h2,by rw [this];simpa using h3⟩
   · rw [hb] at h;have:i=t:=XK hb;subst this
     cases h;simp
theorem AFd.of_bodyS {dd:Prop} {f:FuncId} {fn:Func} {code:Code} {ps:List PV} {R:PV→Prop} (nt:Nat) (hf:P.funcs[f]? =some fn) (hb:fn.body=some code) (hnt:fn.ntmps=nt) (hn:ps.length≤nt)
 (h:∀(w0:World) (M0:BS) (vs:List Value),vs.length=ps.length→(∀(i:Nat) (v:Value) (p:PV),vs[i]? =some v→ps[i]? =some p→vOf p v)→(∀(i:Nat) (v:Value) (p:PV),vs[i]? =some v→ps[i]? =some p→Shr M0 w0 v p)→aC P ⟨w0,M0,fun _=>False,nt,dd,[]⟩ code (bodyPost P fn (Gy ⟨w0,M0,fun _=>False,nt,dd,[]⟩ R)) ⟨K1 0 vs ps,[]⟩):AFd dd P f ps R:=fun M w vs hM hl hv=>by
 subst hnt
 refine calls_of_wp hf hb ?_
 refine wp_mono (h w M vs hl (fun i v p h1 h2=>(hv i v p h1 h2).vOf) hv _ w ⟨fun _ _=>False,⟨⟨by simp [lk],by simp [lk],by simp [lk],hM,Chg.rfl' _ _,fun _=>Xe _⟩,fun t v p ht=>?_,?_,rfl⟩⟩) fun e a w' hq=>?_
 · obtain ⟨_,h1,h2⟩:=Pn vs ps 0 t v p ht;simp only [Vx] at h1 h2;refine ⟨?_,(hv t v p h1 h2).anti fun b _ hb=>?_⟩
   · have:=Zd h1;rw [Vr (by simpa using this)];simpa using h1
   · rcases hb with hb|⟨l,x,h3,_⟩
     · exact hb
     · simp [lk] at h3
 · simp;omega
 · cases e<;>exact hq
theorem AFd.of_body {dd:Prop} {f:FuncId} {fn:Func} {code:Code} {ps:List PV} {R:PV→Prop} (nt:Nat) (hf:P.funcs[f]? =some fn) (hb:fn.body=some code) (hnt:fn.ntmps=nt) (hn:ps.length≤nt)
 (h:∀(w0:World) (M0:BS) (vs:List Value),vs.length=ps.length→(∀(i:Nat) (v:Value) (p:PV),vs[i]? =some v→ps[i]? =some p→vOf p v)→aC P ⟨w0,M0,fun _=>False,nt,dd,[]⟩ code (bodyPost P fn (Gy ⟨w0,M0,fun _=>False,nt,dd,[]⟩ R)) ⟨K1 0 vs ps,[]⟩):AFd dd P f ps R:=AFd.of_bodyS nt hf hb hnt hn fun w0 M0 vs h1 h2 _=>h w0 M0 vs h1 h2
theorem AF.of_body {f:FuncId} {fn:Func} {code:Code} {ps:List PV} {R:PV→Prop} (nt:Nat) (hf:P.funcs[f]? =some fn) (hb:fn.body=some code) (hnt:fn.ntmps=nt) (hn:ps.length≤nt)
 (h:∀(w0:World) (M0:BS) (vs:List Value),vs.length=ps.length→(∀(i:Nat) (v:Value) (p:PV),vs[i]? =some v→ps[i]? =some p→vOf p v)→aC P ⟨w0,M0,fun _=>False,nt,False,[]⟩ code (bodyPost P fn (Gy ⟨w0,M0,fun _=>False,nt,False,[]⟩ R)) ⟨K1 0 vs ps,[]⟩):AF P f ps R:=AFd.of_body nt hf hb hnt hn h
theorem AFg.of_body {f:FuncId} {fn:Func} {code:Code} {ps:List PV} {R:PV→Prop} (nt:Nat) (hf:P.funcs[f]? =some fn) (hb:fn.body=some code) (hnt:fn.ntmps=nt) (hn:ps.length≤nt)
 (h:∀(w0:World) (M0:BS) (vs:List Value),vs.length=ps.length→(∀(i:Nat) (v:Value) (p:PV),vs[i]? =some v→ps[i]? =some p→vOf p v)→aC P ⟨w0,M0,fun _=>False,nt,True,[]⟩ code (bodyPost P fn (Gy ⟨w0,M0,fun _=>False,nt,True,[]⟩ R)) ⟨K1 0 vs ps,[]⟩):AFg P f ps R:=AFd.of_body nt hf hb hnt hn h
theorem Zf {fn:Func} {R:PV→Prop} {t:Nat} {v:Value} {p:PV} (hr:fn.results= #[.tmp t]) (ht:lk sL t=some (v,p)) (hR:R p) (hN:∀b,¬c.N0 b:=by intro _ h;exact h) (hdf:c.df=[]:=by exact rfl):aR c (bodyPost P fn (Gy c R)) (⟨sL,hP⟩:St):=fun a w ⟨F,H⟩=>by
 obtain ⟨h1,h2⟩:=H.sl t v p ht
 refine ⟨H.df.trans hdf,v,?_,v,p,fun _=>False,rfl,hR,H.ext.ext (fun b _=>hN b), .shr (h2.anti fun b _ hb=>?_) (fun _ h=>h),fun _ h=>h.elim,H.dw⟩
 · simp [results,hr,VI,h1]
 · rcases hb with hb|hb
   · exact .inl hb
   · exact hb.elim
theorem K3 {fn:Func} {R:PV→Prop} {t:Nat} {v:Value} {p q:PV} (l:Nat) (hr:fn.results= #[.tmp t]) (ht:lk sL t=some (v,q)) (hl:lk hP l=some (v,p)) (hR:R p) (hN:∀b,¬c.N0 b:=by intro _ h;exact h) (hdf:c.df=[]:=by exact rfl):aR c (bodyPost P fn (Gy c R)) (⟨sL,hP⟩:St):=fun a w ⟨F,H⟩=>by
 obtain ⟨h1,h2⟩:=H.sl t v q ht
 refine ⟨H.df.trans hdf,v,?_,v,p,F l,rfl,hR,H.ext.ext (fun b _=>hN b),(H.tr l v p hl).anti fun b _ hb=>?_,fun b hb=>(H.lo l _ b hl hb).resolve_right (hN b),H.dw⟩
 · simp [results,hr,VI,h1]
 · rcases hb with hb|hb
   · exact .inl hb
   · exact .inr ⟨l,_,hl,hb⟩
theorem Z1 {fn:Func} {R:PV→Prop} {t s:Nat} {v u:Value} {p q:PV} (hr:fn.results= #[.tmp t, .tmp s]) (ht:lk sL t=some (v,p)) (hs:lk sL s=some (u,q)) (hR:R (.tup [p,q])) (hN:∀b,¬c.N0 b:=by intro _ h;exact h) (hdf:c.df=[]:=by exact rfl):aR c (bodyPost P fn (Gy c R)) (⟨sL,hP⟩:St):=fun a w ⟨F,H⟩=>by
 obtain ⟨h1,h2⟩:=H.sl t v p ht
 obtain ⟨h3,h4⟩:=H.sl s u q hs
 have hM:∀b,b<w.heap.size→(c.M0 b∨False)→mof c hP F b:=fun b _ hb=>by
  rcases hb with hb|hb
  · exact .inl hb
  · exact hb.elim
 refine ⟨H.df.trans hdf, .tuple [v,u].toArray,?_,_,_,fun _=>False,rfl,hR,H.ext.ext (fun b _=>hN b), .shr (.tup [v,u] [p,q] rfl fun i x r hx hr=>?_) (fun _ h=>h),fun _ h=>h.elim,H.dw⟩
 · simp [results,hr,VI,h1,h3]
 · match i with
   |0=>simp at hx hr;subst hx hr;exact h2.anti hM
   |1=>simp at hx hr;subst hx hr;exact h4.anti hM
   |i+2=>simp at hx
theorem ZeP {fn:Func} {R:PV→Prop} {t s:Nat} {v u:Value} {p q r:PV} (l:Nat) (hr:fn.results= #[.tmp t, .tmp s]) (ht:lk sL t=some (v,r)) (hl:lk hP l=some (v,p)) (hs:lk sL s=some (u,q)) (hR:R (.tup [p,q])) (hN:∀b,¬c.N0 b:=by intro _ h;exact h) (hdf:c.df=[]:=by exact rfl):aR c (bodyPost P fn (Gy c R)) (⟨sL,hP⟩:St):=fun a w ⟨F,H⟩=>by
 obtain ⟨h1,h2⟩:=H.sl t v r ht
 obtain ⟨h3,h4⟩:=H.sl s u q hs
 have hM:∀b,b<w.heap.size→(c.M0 b∨F l b)→mof c hP F b:=fun b _ hb=>by
  rcases hb with hb|hb
  · exact .inl hb
  · exact .inr ⟨l,_,hl,hb⟩
 refine ⟨H.df.trans hdf, .tuple [v,u].toArray,?_,_,_,F l,rfl,hR,H.ext.ext (fun b _=>hN b), .tup [v,u] (fun i=>if i=0 then F l else fun _=>False) rfl (fun i x r hx hr=>?_) (fun i j b hi hj hne h5 h6=>?_) (fun b=>?_),fun b hb=>(H.lo l _ b hl hb).resolve_right (hN b),H.dw⟩
 · simp [results,hr,VI,h1,h3]
 · match i with
   |0=>simp at hx hr;subst hx hr;exact (H.tr l v p hl).anti hM
   |1=>simp at hx hr;subst hx hr;exact .shr (h4.anti hM) (fun _ h=>h)
   |i+2=>simp at hx
 · split at h5
   · split at h6
     · omega
     · exact h6
   · exact h5
 · constructor
   · intro hb;exact ⟨0,sM,by simpa using hb⟩
   · rintro ⟨i,_,hb⟩;split at hb
     · exact hb
     · exact hb.elim
def OI (st:St) (v:Value) (q:PV):Prop:=∀M F a w,RdF M st F a w→Shr (fun _=>False) w v q
theorem L6 {x:Operand} {v:Value} {p:PV} (h:ev sL x=some (v,p)):OI (⟨sL,hP⟩:St) v p:=fun M F a w H=>(H.ev h).2.anti fun _ _ h=>h.elim
theorem Zie {l:Nat} {v:Value} {p:PV} (h:lk hP l=some (v,p)):OI (⟨sL,hP⟩:St) v (share p):=fun M F a w H=>(H.tr l v p h).share (fun _ _ h=>h.elim) (fun _ _ h=>h)
theorem Zao {l j e k n:Nat} {h:Value} {cs:List PV} (hl:lk hP l=some (h, .own e k n cs)) (hn:0<n):OI (⟨sL,hP⟩:St) (ZD (Zr h) j) (.sptr j (YV cs)):=fun M F a w H=>by
 have h1:=H.tr l _ _ hl
 obtain ⟨g,cap,rfl,_⟩:=JV h1 hn
 have h2:=h1.share (M':=fun _=>False) (fun _ _ h=>h.elim) (fun _ _ h=>h)
 rw [share] at h2
 generalize YV cs=cs' at h2 ⊢
 cases h2 with
 |emp=>omega
 |sl _ _ _ _ _ vs _ _ hcell hT=>exact .sptr g 0 j cs' vs hcell hT
theorem ZkV {f:Nat} {vs:List Value} {ps:List PV} (hl:vs.length=ps.length) (h:∀(i:Nat) (v:Value) (p:PV),vs[i]? =some v→ps[i]? =some p→OI (⟨sL,hP⟩:St) v p):OI (⟨sL,hP⟩:St) (.func (.func f) #[] vs.toArray) (.fn f ps):=fun M F a w H=> .fn f vs ps hl fun i v p h1 h2=>h i v p h1 h2 M F a w H
def Zoh (st:St):List Operand→List PV→Prop
 |[],[]=>True
 |x::xs,p::ps=>(∃v q,ev st.slots x=some (v,q)∧OI st v p)∧Zoh st xs ps
 |_,_=>False
theorem Zap {M:BS} {F:Nat→BS} {a:Act} {w:World} (H:RdF M (⟨sL,hP⟩:St) F a w):∀{xs:List Operand} {ps:List PV},Zoh (⟨sL,hP⟩:St) xs ps→(xs.map a.eval).length=ps.length∧∀(i:Nat) (x:Value) (q:PV),(xs.map a.eval)[i]? =some x→ps[i]? =some q→Shr (fun _=>False) w x q
 |[],[],_=>⟨rfl,sM⟩
 | x::xs,p::ps,⟨⟨v,q,h1,h2⟩,h3⟩=>by
   obtain ⟨h4,h5⟩:=Zap H h3;refine ⟨by simpa using h4,fun i y r hy hr=>?_⟩
   cases i with
   |zero=>simp at hy hr;subst hy hr;rw [(H.ev h1).1];exact h2 M F a w H
   |succ i=>exact h5 i y r (by simpa using hy) (by simpa using hr)
 |[],_::_,h=>h.elim
 |_::_,[],h=>h.elim
mutual
def nosh:PV→Bool
 | .val _=>true
 | .own _ _ _ cs=>Es cs
 | .omap _=>true
 | .obox _ _ cs=>Es cs
 | .agg ps=>Es ps
 | .tup ps=>Es ps
 |_=>false
def Es:List PV→Bool
 |[]=>true
 |p::l=>nosh p&&Es l
end
theorem T9:∀l:List PV,Es l=l.all nosh
 |[]=>by simp [Es]
 |p::l=>by simp [Es,T9 l]
theorem Shr.nosh {M M':BS} {w:World} {v:Value} {p:PV} (h:Shr M w v p):nosh p=true→Shr M' w v p:=by
 induction h with
 |val v=>exact fun _=> .val v
 | agg vs ps hl h ih=>
   intro hn;rw [En.nosh,T9,Xm] at hn;exact .agg vs ps hl fun i v p h1 h2=>ih i v p h1 h2 (hn p (Xc h2))
 | tup vs ps hl h ih=>
   intro hn;rw [En.nosh,T9,Xm] at hn;exact .tup vs ps hl fun i v p h1 h2=>ih i v p h1 h2 (hn p (Xc h2))
 |_=>intro hn;simp [En.nosh] at hn
theorem Tr.nosh {M M':BS} {w:World} {v:Value} {p:PV} {F:BS} (h:Tr M w v p F):nosh p=true→Tr M' w v p F:=by
 induction h with
 |shr h hF=>exact fun hn=> .shr (h.nosh hn) hF
 | own xs Fs hrow hl hT hd hb hF ih=>
   intro hn;rw [En.nosh,T9,Xm] at hn;exact .own xs Fs hrow hl (fun i x p h1 h2=>ih i x p h1 h2 (hn p (Xc h2))) hd hb hF
 |omap b es clock h hF hW=>exact fun _=> .omap b es clock h hF hW
 |oblk=>intro hn;simp [En.nosh] at hn
 | obox g cap h ih=>
   intro hn;exact .obox g cap (ih (by simpa [En.nosh] using hn))
 | agg vs Fs hl h hd hF ih=>
   intro hn;rw [En.nosh,T9,Xm] at hn;exact .agg vs Fs hl (fun i v p h1 h2=>ih i v p h1 h2 (hn p (Xc h2))) hd hF
 | tup vs Fs hl h hd hF ih=>
   intro hn;rw [En.nosh,T9,Xm] at hn;exact .tup vs Fs hl (fun i v p h1 h2=>ih i v p h1 h2 (hn p (Xc h2))) hd hF
def LU (P:Program) (c:Ctx) (st:St) (o:Oper) (R:PV→Prop):Prop:=∀a w F,HoldsF c st F a w→∃f args,(execOp a.eval o).run P w= .ok (.enter f args) w∧
 Calls P f args w (fun e w'=>∃v p Fr,e= .returned v∧R p∧Ext w w'∧Tr (fun b=>mof c st.heap F b∨Fr b) w' v p Fr∧(∀b,Fr b→w.heap.size≤b)∧(c.dr→w.drawn≤w'.drawn))
section
variable {ops:Array Oper} {rest:List Oper} {o:Oper}
theorem AFd.calls {dd:Prop} {f:Nat} {ps:List PV} {R:PV→Prop} (hA:AFd dd P f ps R) {M:BS} {w:World} {vs:List Value} (hM:M0k w M (fun _=>False) dd) (hl:vs.length=ps.length) (hv:∀(i:Nat) (v:Value) (p:PV),vs[i]? =some v→ps[i]? =some p→Shr M w v p):
 Calls P f vs.toArray w (fun e w'=>∃v p Fr,e= .returned v∧R p∧Ext w w'∧Tr (fun b=>M b∨Fr b) w' v p Fr∧(∀b,Fr b→w.heap.size≤b)∧(dd→w.drawn≤w'.drawn)):=hA M w vs hM hl hv
theorem Dv {dd:Prop} {f:Nat} {xs:Array Operand} {ats:Array TypeId} {es:List Ent} {R:PV→Prop} (ho:o.op= .call {callee:= .value (.func f),args:=xs,argTypes:=ats}) (hc:∀args w,(callFunc f args).run P w= .ok (.enter f args) w) (hx:evL sL xs.toList=some es) (hA:AFd dd P f (es.map (·.2)) R) (hdd:c.dr→dd:=by first|exact id|exact fun h=>h.elim|exact fun _=>trivial):LU P c (⟨sL,hP⟩:St) o R:=fun a w F H=>by
 obtain ⟨h1,h2⟩:=TA H.rd hx
 obtain ⟨vs,hvs⟩:∃vs,vs=es.map (·.1):=⟨_,rfl⟩
 obtain ⟨ps,hps⟩:∃ps,ps=es.map (·.2):=⟨_,rfl⟩
 have hlen:vs.length=ps.length:=by rw [hvs,hps,Xb,Xb]
 rw [←hvs] at h1 h2
 rw [←hps] at h2 hA
 refine ⟨f,vs.toArray,?_,(hA.calls (H.mok.up hdd) hlen h2).mono fun e w' ⟨v,p,Fr,e1,e2,e3,e4,e5,e6⟩=>⟨v,p,Fr,e1,e2,e3,e4,e5,fun h=>e6 (hdd h)⟩⟩
 have:xs.map a.eval=vs.toArray:=by rw [←h1,←VT,VL]
 simp [execOp,ho,resolve,Deferred.ofValue,Act.eval,invoke,this,hc]
theorem ZkW {dd:Prop} {f:Nat} {xs:Array Operand} {ats:Array TypeId} {ps:List PV} {R:PV→Prop} (ho:o.op= .call {callee:= .value (.func f),args:=xs,argTypes:=ats}) (hc:∀args w,(callFunc f args).run P w= .ok (.enter f args) w) (hx:Zoh (⟨sL,hP⟩:St) xs.toList ps) (hA:AFd dd P f ps R) (hR:∀p,R p→nosh p=true) (hdd:c.dr→dd:=by first|exact id|exact fun h=>h.elim|exact fun _=>trivial):LU P c (⟨sL,hP⟩:St) o R:=fun a w F H=>by
 obtain ⟨h1,h2⟩:=Zap H.rd hx
 refine ⟨f,(xs.toList.map a.eval).toArray,?_,(hA (fun _=>False) w (xs.toList.map a.eval) (H.mok.none.up hdd) h1 h2).mono fun e w' ⟨v,p,Fr,e1,e2,e3,e4,e5,e6⟩=>⟨v,p,Fr,e1,e2,e3,e4.nosh (hR p e2),e5,fun h=>e6 (hdd h)⟩⟩
 have:xs.map a.eval=(xs.toList.map a.eval).toArray:=by rw [←VT,VL]
 simp [execOp,ho,resolve,Deferred.ofValue,Act.eval,invoke,this,hc]
theorem LV {dd:Prop} {f:Nat} {x:Operand} {ps:List PV} {xs:Array Operand} {ats:Array TypeId} {es:List Ent} {R:PV→Prop} (ho:o.op= .call {callee:= .value x,args:=xs,argTypes:=ats}) (hf:∃v,ev sL x=some (v, .fn f ps)) (hc:∀args w,(callFunc f args).run P w= .ok (.enter f args) w) (hx:evL sL xs.toList=some es) (hA:AFd dd P f (es.map (·.2)++ps) R) (hdd:c.dr→dd:=by first|exact id|exact fun h=>h.elim|exact fun _=>trivial):LU P c (⟨sL,hP⟩:St) o R:=fun a w F H=>by
 obtain ⟨h1,h2⟩:=TA H.rd hx
 obtain ⟨v,hv⟩:=hf
 obtain ⟨h3,h4⟩:=H.rd.ev hv
 cases h4 with
 | fn f vs ps hl hT=>
   refine ⟨f,((es.map (·.1))++vs).toArray,?_,(hA (mof c hP F) w (es.map (·.1)++vs) (H.mok.up hdd) (by simp;exact hl) fun i v p hv hp=>?_).mono fun e w' ⟨v,p,Fr,e1,e2,e3,e4,e5,e6⟩=>⟨v,p,Fr,e1,e2,e3,e4,e5,fun h=>e6 (hdd h)⟩⟩
   · (have:xs.map a.eval=(es.map (·.1)).toArray:=by rw [←h1,←VT,VL]);simp [execOp,ho,resolve,h3,Deferred.ofValue,invoke,this,hc]
   · rcases XD i es.length with hi|hi
     · rw [X0 (by simpa using hi)] at hv hp;exact h2 i v p hv hp
     · rw [X' (by simpa using hi)] at hv hp;simp only [Xb] at hv hp;exact hT _ v p hv hp
theorem Si (hw:ZP ops sL o=some true) {R:PV→Prop} (hC:LU P c (⟨sL,hP⟩:St) o R)
 (k:∀a w F w' v p Fr,HoldsF c (⟨sL,hP⟩:St) F a w→R p→Ext w w'→Tr (fun b=>mof c hP F b∨Fr b) w' v p Fr→(∀b,Fr b→w.heap.size≤b)→(c.dr→w.drawn≤w'.drawn)→wpList P ops Q rest (a.put o.dst v) w'):aL P c ops Q (o::rest) (⟨sL,hP⟩:St):=
 Y4 hw fun a w F H=>by
  obtain ⟨f,args,hr,hcall⟩:=hC a w F H;unfold Oper.wp;rw [hr,Oper.upon_enter];refine hcall.mono fun e w' ⟨v,p,Fr,e1,e2,e3,e4,e5,e6⟩=>?_;subst e1;exact k a w F w' v p Fr H e2 e3 e4 e5 e6
theorem Hz {F:Nat→BS} {a:Act} {w w':World} (H:HoldsF c (⟨sL,hP⟩:St) F a w) (hx:Ext w w') {d:Nat} {v:Value} {p:PV} (hd:d<c.nt) (hS:Shr (mof c hP F) w' v p) (hdw:c.dr→w.drawn≤w'.drawn:=by assumption):HoldsF c ⟨put d (v,p) sL,hP⟩ F (a.put (some d) v) w':=(H.up hx hdw).put hd hS
theorem Ci {R:PV→Prop} (d:Nat) (hw:ZP ops sL o=some true) (hd:o.dst=some d) (hn:d<c.nt) (hC:LU P c (⟨sL,hP⟩:St) o R) (k:∀p,R p→GU p=true∧∀v,vOf p v→aL P c ops Q rest ⟨put d (v,p) sL,hP⟩):aL P c ops Q (o::rest) (⟨sL,hP⟩:St):=
 Si hw hC fun a w F w' v p Fr H hR hx hT hlo hdw=>by
  obtain ⟨h1,h2⟩:=k p hR;have hS:=hT.sh h1;rw [hd];exact h2 v hS.vOf _ _ ⟨F,Hz H hx hn (hS.anti fun b _ h=> .inl h)⟩
theorem Sj {R:PV→Prop} (d:Nat) (hw:ZP ops sL o=some true) (hd:o.dst=some d) (hn:d<c.nt) (hl:lk hP d=none) (hC:LU P c (⟨sL,hP⟩:St) o R) (k:∀p,R p→L4 p=true∧∀v,v.oneCell'=true→aL P c ops Q rest ⟨put d (v, .val v) sL,put d (v,p) hP⟩):aL P c ops Q (o::rest) (⟨sL,hP⟩:St):=
 Si hw hC fun a w F w' v p Fr H hR hx hT hlo hdw=>by
  obtain ⟨h1,h2⟩:=k p hR;rw [hd];refine h2 v (hT.cellOne h1) _ _ ⟨fun l'=>if l'=d then Fr else F l',?_⟩;refine H.change (fun l'=>l'=d) hn (hx.chg) (fun l' x hne hx'=>?_) (fun l' x b hT' hx' hb=>?_) (fun hm l' u q hT' hx'=>?_) (fun l1 l2 _ _ _ h1 h2 hne=>Qc (h1.trans h2.symm) hne) (fun hm=> .val _)
  · rcases ZZ hx' with ⟨e1,_⟩|⟨_,e1⟩
    · exact Qc e1.symm hne
    · exact ⟨e1,by simp [hne]⟩
  · subst hT';simp only [if_true] at hb;exact .inr (hlo b hb)
  · subst hT';rw [ZJ] at hx'
    cases hx';simp only [if_true];refine hT.anti fun b hb hmb=>?_;rcases hmb with h1|⟨l0,x0,h1,h2⟩
    · exact .inl (.inl h1)
    · by_cases h0:l0=l'
      · simp only [h0,if_true] at h2;exact .inr h2
      · simp only [h0,if_false] at h2;rw [ZY (Ne.symm h0)] at h1;exact .inl (.inr ⟨l0,x0,h1,h2⟩)
def Dw (l:Nat) (v:Value) (p:PV) (h:List (Nat×Ent)):List (Nat×Ent):=cond (GU p) h (put l (v,p) h)
def qq (p:PV) (v:Value):PV:=cond (GU p) p (.val v)
theorem ZgB {R:PV→Prop} (d l1 l2:Nat) (hw:ZP ops sL o=some true) (hd:o.dst=some d) (hn:d<c.nt) (hl1:lk hP l1=none) (hl2:lk hP l2=none) (hll:Nat.beq l1 l2=false) (hC:LU P c (⟨sL,hP⟩:St) o R)
 (k:∀p,R p→∃p1 p2,p= .tup [p1,p2]∧L4 p1=true∧L4 p2=true∧∀v1 v2,vOf p1 v1→vOf p2 v2→v1.oneCell'=true→v2.oneCell'=true→aL P c ops Q rest ⟨put d (.tuple [v1,v2].toArray, .tup [qq p1 v1,qq p2 v2]) sL,Dw l1 v1 p1 (Dw l2 v2 p2 hP)⟩):aL P c ops Q (o::rest) (⟨sL,hP⟩:St):=
 Si hw hC fun a w F w' v p Fr H hR hx hT hlo hdw=>by
  have hne:l1≠l2:=fun e=>by subst e;simp at hll
  obtain ⟨p1,p2,rfl,hc1,hc2,h2⟩:=k p hR;obtain ⟨v1,v2,F1,F2,rfl,hT1,hT2,hF1,hF2,hdj⟩:∃v1 v2 F1 F2,v= .tuple [v1,v2].toArray∧Tr (fun b=>mof c hP F b∨Fr b) w' v1 p1 F1∧Tr (fun b=>mof c hP F b∨Fr b) w' v2 p2 F2∧(∀b,F1 b→Fr b)∧(∀b,F2 b→Fr b)∧(∀b,F1 b→¬F2 b):=by
   cases hT with
   | shr hS hF=>
     cases hS with
     | tup vs ps hl hTT=>
       match vs,hl with
       |[v1,v2],_=>exact ⟨v1,v2,fun _=>False,fun _=>False,rfl, .shr (hTT 0 v1 p1 rfl rfl) (fun _ h=>h), .shr (hTT 1 v2 p2 rfl rfl) (fun _ h=>h),fun _ h=>h.elim,fun _ h=>h.elim,fun _ h=>h.elim⟩
   | tup vs Fs hl hTT hdd hF=>
     match vs,hl with
     |[v1,v2],_=>exact ⟨v1,v2,Fs 0,Fs 1,rfl,hTT 0 v1 p1 rfl rfl,hTT 1 v2 p2 rfl rfl,fun b hb=>(hF b).2 ⟨0,sM,hb⟩,fun b hb=>(hF b).2 ⟨1,sM,hb⟩,fun b h1 h2=>hdd 0 1 b sM sM oM h1 h2⟩
  have hv1:vOf p1 v1:=by
   cases hs:GU p1 with
   |true=>exact (hT1.sh hs).vOf
   |false=>cases p1<;>first|(simp [GU] at hs;done)|exact trivial
  have hv2:vOf p2 v2:=by
   cases hs:GU p2 with
   |true=>exact (hT2.sh hs).vOf
   |false=>cases p2<;>first|(simp [GU] at hs;done)|exact trivial
  rw [hd];refine h2 v1 v2 hv1 hv2 (hT1.cellOne hc1) (hT2.cellOne hc2) _ _ ⟨fun l'=>if l'=l1 then F1 else if l'=l2 then F2 else F l',?_⟩;have hlook:∀l' x,lk (Dw l1 v1 p1 (Dw l2 v2 p2 hP)) l'=some x→(l'=l1∧x=(v1,p1))∨(l'=l2∧x=(v2,p2))∨(l'≠l1∧l'≠l2∧lk hP l'=some x):=by
   intro l' x hx';have inner:∀x,lk (Dw l2 v2 p2 hP) l'=some x→(l'=l2∧x=(v2,p2))∨(l'≠l2∧lk hP l'=some x):=by
    intro x hx';unfold Dw at hx'
    cases hs:GU p2
    · rw [hs,cond_false] at hx';rcases ZZ hx' with ⟨e1,e2⟩|⟨e1,e2⟩
      · exact .inl ⟨e1.symm,e2.symm⟩
      · exact .inr ⟨Ne.symm e1,e2⟩
    · rw [hs,cond_true] at hx';exact .inr ⟨(fun e=>by rw [e,hl2] at hx';cases hx'),hx'⟩
   have outer:(l'=l1∧x=(v1,p1))∨(l'≠l1∧lk (Dw l2 v2 p2 hP) l'=some x):=by
    rw [Dw] at hx'
    cases hs:GU p1
    · rw [hs,cond_false] at hx';rcases ZZ hx' with ⟨e1,e2⟩|⟨e1,e2⟩
      · exact .inl ⟨e1.symm,e2.symm⟩
      · exact .inr ⟨Ne.symm e1,e2⟩
    · rw [hs,cond_true] at hx';refine .inr ⟨fun e=>?_,hx'⟩;rcases inner x hx' with ⟨e2,_⟩|⟨_,e2⟩
      · exact hne (e.symm.trans e2)
      · rw [e,hl1] at e2;cases e2
   rcases outer with h|⟨h1,h3⟩
   · exact .inl h
   · rcases inner x h3 with h4|⟨h4,h5⟩
     · exact .inr (.inl h4)
     · exact .inr (.inr ⟨h1,h4,h5⟩)
  have hmm:∀b,mof c (Dw l1 v1 p1 (Dw l2 v2 p2 hP)) (fun l'=>if l'=l1 then F1 else if l'=l2 then F2 else F l') b→mof c hP F b∨Fr b:=by
   rintro b (h1|⟨l0,x0,h1,h3⟩)
   · exact .inl (.inl h1)
   · rcases hlook l0 x0 h1 with ⟨rfl,_⟩|⟨rfl,_⟩|⟨e1,e2,e3⟩
     · simp only [if_true] at h3;exact .inr (hF1 b h3)
     · simp only [Ne.symm hne,if_false,if_true] at h3;exact .inr (hF2 b h3)
     · simp only [e1,e2,if_false] at h3;exact .inl (.inr ⟨l0,x0,e3,h3⟩)
  refine H.change (fun l'=>l'=l1∨l'=l2) hn (hx.chg) (fun l' x hnT hx'=>?_) (fun l' x b hT' hx' hb=>?_) (fun hm l' u q hT' hx'=>?_) (fun m1 m2 x1 x2 b h1 h2 hne' hx1 hx2 hb1 hb2=>?_) (fun hm=>?_)
  · rcases hlook l' x hx' with ⟨e1,_⟩|⟨e1,_⟩|⟨e1,e2,e3⟩
    · exact Qc (.inl e1) hnT
    · exact Qc (.inr e1) hnT
    · exact ⟨e3,by simp [e1,e2]⟩
  · rcases hT' with rfl|rfl
    · simp only [if_true] at hb;exact .inr (hlo b (hF1 b hb))
    · simp only [Ne.symm hne,if_false,if_true] at hb;exact .inr (hlo b (hF2 b hb))
  · rcases hlook l' _ hx' with ⟨rfl,e1⟩|⟨rfl,e1⟩|⟨e1,e2,e3⟩
    · cases e1;simp only [if_true];exact hT1.anti fun b _ h=>hmm b h
    · cases e1;simp only [Ne.symm hne,if_false,if_true];exact hT2.anti fun b _ h=>hmm b h
    · rcases hT' with h|h
      · exact Qc h e1
      · exact Qc h e2
  · rcases h1 with rfl|rfl
    · rcases h2 with rfl|rfl
      · exact hne' rfl
      · simp only [Ne.symm hne,if_false,if_true] at hb1 hb2;exact hdj b hb1 hb2
    · rcases h2 with rfl|rfl
      · simp only [Ne.symm hne,if_false,if_true] at hb1 hb2;exact hdj b hb2 hb1
      · exact hne' rfl
  · have q1:Shr (mof c (Dw l1 v1 p1 (Dw l2 v2 p2 hP)) (fun l'=>if l'=l1 then F1 else if l'=l2 then F2 else F l')) w' v1 (qq p1 v1):=by
     unfold qq
     cases hs:GU p1
     · exact .val _
     · exact (hT1.sh hs).anti fun b _ h=>hmm b h
    have q2:Shr (mof c (Dw l1 v1 p1 (Dw l2 v2 p2 hP)) (fun l'=>if l'=l1 then F1 else if l'=l2 then F2 else F l')) w' v2 (qq p2 v2):=by
     unfold qq
     cases hs:GU p2
     · exact .val _
     · exact (hT2.sh hs).anti fun b _ h=>hmm b h
    refine .tup [v1,v2] [qq p1 v1,qq p2 v2] rfl fun i x r hx' hr=>?_;match i with
    |0=>simp at hx' hr;subst hx' hr;exact q1
    |1=>simp at hx' hr;subst hx' hr;exact q2
    |i+2=>simp at hx'
end
end
end Go.En
namespace Go.Cb
def TX (c:Int):Bool:=(decide (65≤c)&&decide (c≤90))||(decide (97≤c)&&decide (c≤122))
def Po (c:Int):Bool:=TX c||(decide (48≤c)&&decide (c≤57))||c==95||c==45||c==46
def isName (s:BA):Bool:=decide (1≤s.size)&&decide (s.size≤40)&&TX (s.data[0]?.getD 0).toNat&&s.data.toList.all fun c=>Po c.toNat
def strLt (a b:BA):Bool:=Op.bytesLess a.toList b.toList
def Kv (a b:BA):Bool:=a.toList==b.toList
def Z0 (a b:BA):Int:=if strLt a b then-1 else if Kv a b then 0 else 1
def cmpStrs:List BA→List BA→Int
 |[],[]=>0
 |[],_::_=> -1
 |_::_,[]=>1
 |a::l,b::m=>if Z0 a b=0 then cmpStrs l m else Z0 a b
theorem Zif (a b:BA): -1≤Z0 a b∧Z0 a b≤1:=by
 unfold Z0;split
 · decide
 · split<;>decide
theorem Jw {α:Type} {l:List α} {k:Nat} {x:α} (h:l[k]? =some x):l.drop k=x::l.drop (k+1):=by
 obtain ⟨hk,rfl⟩:=Xr.1 h
 exact Vf hk
def K4 (x:Var):Bool:=decide (x.acts.length≤200)&&x.acts.all isName&&decide (1≤x.count)&&decide (x.count≤1048576)
def L8 (l:List Var) (i:Nat):Bool:=match l[i]? with
 |none=>true
 | some x=>K4 x&&(decide (i=0)||match l[i-1]? with
   |none=>true
   |some y=>decide (cmpStrs y.acts x.acts<0))
def validVars (l:List Var):Bool:=decide (l.length≤300)&&(List.range l.length).all (L8 l)
theorem ZcB {l:List Var} {x:Var} (h:l[0]? =some x):L8 l 0=K4 x:=by simp [L8,h]
theorem Cj {l:List Var} {k:Nat} {x y:Var} (h:l[k]? =some x) (hy:l[k-1]? =some y) (hk:0<k):L8 l k=(K4 x&&decide (cmpStrs y.acts x.acts<0)):=by
 have:decide (k=0)=false:=by simp;omega
 simp [L8,h,hy,this]
theorem Ck {l:List Var} {k:Nat} (hk:k<l.length) (h:L8 l k=false):validVars l=false:=by
 unfold validVars
 rw [Bool.and_eq_false_iff];right
 rw [V8]
 exact ⟨k,Va.2 hk,by rw [h];simp⟩
theorem ζ3 {l:List Var} (h3:l.length≤300) (h:∀j,j<l.length→L8 l j=true):validVars l=true:=by
 unfold validVars
 rw [Xi]
 exact ⟨by simpa using h3,by rw [Xm];exact fun j hj=>h j (Va.1 hj)⟩
def chainB {α:Type} (r:α→α→Bool):List α→Bool
 |a::b::l=>r a b&&chainB r (b::l)
 |_=>true
theorem J3 {α:Type} (r:α→α→Bool):∀l:List α,chainB r l=true↔∀i x y,l[i]? =some x→l[i+1]? =some y→r x y=true
 |[]=>by simp [chainB]
 |[a]=>by simp [chainB]
 | a ::b::l=>by
   rw [chainB,Xi,J3 r (b::l)];constructor
   · rintro ⟨h1,h2⟩ i x y hx hy
     cases i with
     |zero=>simp at hx hy;subst hx hy;exact h1
     |succ i=>exact h2 i x y (by simpa using hx) (by simpa using hy)
   · intro h;exact ⟨h 0 a b rfl rfl,fun i x y hx hy=>h (i+1) x y (by simpa using hx) (by simpa using hy)⟩
theorem Pq {α:Type} {r:α→α→Bool} {l:List α} {k:Nat} {x y:α} (hk:1≤k) (hy:l[k-1]? =some y) (hx:l[k]? =some x) (h:r y x=false):chainB r l=false:=by
 cases hc:chainB r l
 · rfl
 · have:=(J3 r l).1 hc (k-1) y x hy (by rw [Nat.sub_add_cancel hk];exact hx);rw [h] at this;cases this
theorem Rz {α:Type} {r:α→α→Bool} {l:List α} (h:∀j x y,1≤j→l[j-1]? =some y→l[j]? =some x→r y x=true):chainB r l=true:=
 (J3 r l).2 fun i x y hx hy=>h (i+1) y x oM hx hy
def hasStr (p:List BA) (s:BA):Bool:=p.any fun x=>Kv x s
def partOf (parts:List (List BA)) (s:BA):Int:=idx (fun p=>hasStr p s) parts
theorem ZeQ {α:Type} (p:α→Bool) (l:List α): -1≤idx p l∧idx p l<l.length:=by
 unfold idx
 cases h:l.findIdx? p with
 |none=>simp;omega
 |some i=>rw [Uy] at h;obtain ⟨hi,_⟩:=h;simp;omega
def Dx (x y:Var):Bool:=x.count==y.count&&decide (cmpStrs x.acts y.acts=0)
def K5:List Var→List Var→Bool
 |[],[]=>true
 |x::l,y::m=>Dx x y&&K5 l m
 |_,_=>false
theorem Dy:∀{l m:List Var},K5 l m=true→l.length=m.length
 |[],[],_=>rfl
 | x::l,y::m,h=>by
   rw [K5,Xi] at h;simp [Dy h.2]
 |[],_::_,h=>by simp [K5] at h
 |_::_,[],h=>by simp [K5] at h
theorem ζ4 {l m:List Var} {k:Nat} {x y:Var} (hx:l[k]? =some x) (hy:m[k]? =some y):K5 (l.drop k) (m.drop k)=(Dx x y&&K5 (l.drop (k+1)) (m.drop (k+1))):=by
 rw [Jw hx,Jw hy,K5]
def RA:List BA→List BA→Bool
 |_,[]=>true
 |seen,s::l=> !hasStr seen s&&RA (seen++[s]) l
def HA (l:List BA):Bool:= !l.isEmpty&&l.all isName&&chainB strLt l
def Lu:List BA→List (List BA)→Bool
 |_,[]=>true
 |seen,l::ps=>HA l&&RA seen l&&Lu (seen++l) ps
def WC (c:Cut):Bool:=decide (1≤c.kind)&&decide (c.kind≤4)&&decide (2≤c.parts.length)&&Lu [] c.parts
theorem Zw {α:Type} {l:List α} {k:Nat} {x:α} (h:l[k]? =some x):l.take (k+1)=l.take k++[x]:=by
 obtain ⟨hk,rfl⟩:=Xr.1 h
 rw [UJ hk]
theorem Zig {l:List (List BA)} {k:Nat} {p:List BA} (h:l[k]? =some p):(l.take (k+1)).flatten=(l.take k).flatten++p:=by
 rw [Zw h];simp
def Gz:List Var→List BA→Int→List Var
 |[],w,n=>[⟨w,n⟩]
 |x::l,w,n=>if cmpStrs x.acts w<0 then x::Gz l w n else if cmpStrs x.acts w=0 then ⟨w,x.count+n⟩::l else ⟨w,n⟩::x::l
open Go.RowKit
abbrev VR (α:Type):=Mut→World→List Value→α→Prop
structure EV {α:Type} (k:Nat) (E:Elt α) (V:VR α):Prop where
 toE:∀{M w b o cs x},V M w cs x→(∀j u,cs[j]? =some u→Cell M w b (o+j) u)→E M w b o x
 ofE:∀{M w b o x},E M w b o x→∃cs,V M w cs x∧∀j u,cs[j]? =some u→Cell M w b (o+j) u
 len:∀{M w cs x},V M w cs x→cs.length=k
 one:∀{M w cs x},V M w cs x→∀u∈cs,u.oneCell'=true
 mv:∀{M w w' cs x},V M w cs x→Chg M w w'→V M w' cs x
 re:∀{M N w cs x},V M w cs x→(∀i,N i→M i∨w.heap.size≤i)→V N w cs x
structure ElemT (P:Program) (t e k bytes:Nat):Prop where
 ht:P.underlying t=some (.slice e)
 hi:∃i z,P.info? e=some i∧i.zero=some z∧i.size=k∧i.bytes=bytes∧z.cells.size=k
 hk:0<k
def ownOf (v:Value):Mut:=fun b=>v.ownBlock=some b
def Mut.or (M N:Mut):Mut:=fun b=>M b∨N b
def OwnL {α:Type} (base e k:Nat) (V:VR α) (M:Mut) (w:World) (v:Value) (l:List α):Prop:=
 (∀b,ownOf v b→¬M b)∧∃xs,w.ownsRow base e k v l.length xs∧∀i x,l[i]? =some x→V (M.or (ownOf v)) w ((xs.drop (i*k)).take k) x
structure Nest {α:Type} (base e k f e' k':Nat) (V:VR α) (M:Mut) (w:World) (v:Value) (cells:List Value) (rows:List (List α)):Prop where
 row:w.ownsRow base e k v rows.length cells
 own:∀i r,rows[i]? =some r→∃u,cells[i*k+f]? =some u∧OwnL base e' k' V M w u r
 sep:∀i j u u',i≠j→i<rows.length→j<rows.length→cells[i*k+f]? =some u→cells[j*k+f]? =some u'→∀b,ownOf u b→¬ownOf u' b
 sepv:∀i u,i<rows.length→cells[i*k+f]? =some u→∀b,ownOf u b→¬ownOf v b
structure Piece where
 part:Int
 word:List BA
def G6 (parts:List (List BA)) (ps:List Piece) (s:BA):Option (List Piece):=
 match ps[ps.length-1]? with
 |none=>some [⟨partOf parts s,[s]⟩]
 | some q=>if q.part=partOf parts s then some (ps.set (ps.length-1) ⟨q.part,q.word++[s]⟩)
   else if partOf parts s≠0∧q.part≠0 then none else some (ps++[⟨partOf parts s,[s]⟩])
def Ji (parts:List (List BA)):List Piece→List BA→Option (List Piece)
 |ps,[]=>some ps
 | ps,s::l=>match G6 parts ps s with
   |none=>none
   |some ps'=>Ji parts ps' l
def endsB (ps:List Piece):Bool:=match ps[0]?,ps[ps.length-1]? with
 |some p,some q=>p.part==0&&q.part==0
 |_,_=>false
def S8 (parts:List (List BA)) (w:List BA):Option (List Piece):=
 if w=[] then some [⟨0,[]⟩] else match Ji parts [] w with
  |none=>none
  |some ps=>if endsB ps then some ps else none
def LW (ps:List Piece) (i:Nat) (s:BA):List Piece:=match ps[i]? with
 |some q=>ps.set i ⟨q.part,q.word++[s]⟩
 |none=>ps
def TU (kind:Int) (first:Bool) (p last:Int):Bool:=(kind==2&&decide (p<last))||(kind==1&& !first&&p !=last)
def WT (kind:Int) (parts:List (List BA)):Bool→Int→List Piece→List BA→Option (List Piece×Int)
 |_,last,ps,[]=>some (ps,last)
 |first,last,ps,s::l=>if TU kind first (partOf parts s) last then none else WT kind parts false (partOf parts s) (LW ps (partOf parts s).toNat s) l
def Jj (n:Nat):List Piece:=(List.range n).map fun (i:Nat)=>(⟨(i:Int),[]⟩:Piece)
def WU (c:Cut) (ws:List BA):Option (List Piece):=
 if c.kind=4 then S8 c.parts ws else match WT c.kind c.parts true 0 (Jj c.parts.length) ws with
  |none=>none
  |some (ps,last)=>if c.kind=1 then (if ws=[] then none else some ((ps.drop last.toNat).take 1)) else some ps
theorem Zih (ps:List Piece) (i:Nat) (s:BA):(LW ps i s).length=ps.length:=by
 unfold LW;split<;>simp
theorem RB {ps:List Piece} {i:Nat} {s:BA} {q:Piece} (h:ps[i]? =some q):LW ps i s=ps.set i ⟨q.part,q.word++[s]⟩:=by
 unfold LW;rw [h]
theorem RD (n:Nat):(Jj n).length=n:=by simp [Jj]
theorem ZcC {n:Nat} {p:Piece} (h:p∈Jj n):p.word=[]:=by
 simp [Jj] at h
 obtain ⟨i,_,rfl⟩:=h
 rfl
def GP (parts:List (List BA)) (l:List Var):Bool:=l.all fun x=>x.acts.all fun s=>decide (0≤partOf parts s)
def JI (cnt:Int) (out:List (List Var)) (p:Piece):List (List Var):=match out[p.part.toNat]? with
 |some r=>out.set p.part.toNat (Gz r p.word cnt)
 |none=>out
def KH (c:Cut):List (List Var)→List Var→Option (List (List Var))
 |out,[]=>some out
 | out,x::l=>match WU c x.acts with
   |none=>none
   |some ps=>KH c (ps.foldl (JI x.count) out) l
def bigVars (r:List Var):Bool:=r.any fun x=>decide (1048576<x.count)
def Jk (r:List Var):Bool:=decide (300<r.length)
def GA (l:List Var) (c:Cut):List (List Var)×Int:=
 if (validVars l&&WC c)=false then ([],1) else if GP c.parts l=false then ([],8) else match KH c (List.replicate c.parts.length []) l with
  |none=>([],19)
  |some out=>if out.any bigVars then ([],6) else if out.any Jk then ([],5) else (out,0)
def Cl (n m:Nat) (ps:List Piece):Prop:=ps.length≤m∧∀p∈ps,0≤p.part∧p.part<n
theorem HB (parts:List (List BA)) (s:BA):partOf parts s<parts.length:=(ZeQ _ _).2
theorem ZbC {parts:List (List BA)} {ps ps':List Piece} {s:BA} {m:Nat} (h:Cl parts.length m ps) (hs:0≤partOf parts s) (he:G6 parts ps s=some ps'):Cl parts.length (m+1) ps':=by
 unfold G6 at he
 have hlt:=HB parts s
 split at he
 · cases he;exact ⟨sM,fun p hp=>by simp at hp;subst hp;exact ⟨hs,hlt⟩⟩
 · rename_i q hq;have hqm:=h.2 q (Xc hq);split at he
   · cases he;refine ⟨by simp;have:=h.1;omega,fun p hp=>?_⟩;rcases V9 hp with h1|h1
     · exact h.2 p h1
     · rw [h1];exact hqm
   · split at he
     · cases he
     · cases he;refine ⟨by simp;have:=h.1;omega,fun p hp=>?_⟩;rcases Xd.1 hp with h1|h1
       · exact h.2 p h1
       · simp at h1;subst h1;exact ⟨hs,hlt⟩
theorem Et {parts:List (List BA)}:∀{ws:List BA} {ps ps':List Piece} {m:Nat},Cl parts.length m ps→(∀s∈ws,0≤partOf parts s)→Ji parts ps ws=some ps'→Cl parts.length (m+ws.length) ps'
 |[],ps,ps',m,h,_,he=>by simp [Ji] at he;subst he;simpa using h
 | s ::l,ps,ps',m,h,hs,he=>by
   rw [Ji] at he
   cases hst:G6 parts ps s with
   |none=>rw [hst] at he;cases he
   | some ps1=>
     rw [hst] at he;have:=Et (ZbC h (hs s sM) hst) (fun x hx=>hs x (by simp [hx])) he;refine ⟨by have:=this.1;simp at*;omega,this.2⟩
theorem ZcD {parts:List (List BA)} {ws:List BA} {ps:List Piece} (hn:0<parts.length) (hs:∀s∈ws,0≤partOf parts s) (he:S8 parts ws=some ps):Cl parts.length (ws.length+1) ps:=by
 unfold S8 at he
 split at he
 · cases he;exact ⟨sM,fun p hp=>by simp at hp;subst hp;exact ⟨sM,by simp;omega⟩⟩
 · cases hg:Ji parts [] ws with
   |none=>rw [hg] at he;cases he
   | some ps1=>
     rw [hg] at he;simp only [] at he;split at he
     · cases he;have:=Et (m:=0) ⟨sM,fun p hp=>by simp at hp⟩ hs hg;exact ⟨by have:=this.1;omega,this.2⟩
     · cases he
theorem ZkX {n m i:Nat} {ps:List Piece} {s:BA} (h:Cl n m ps):Cl n m (LW ps i s):=by
 unfold LW
 split
 · rename_i q hq;have hqm:=h.2 q (Xc hq);refine ⟨by simp;exact h.1,fun p hp=>?_⟩;rcases V9 hp with h1|h1
   · exact h.2 p h1
   · rw [h1];exact hqm
 · exact h
theorem Cm {kind:Int} {parts:List (List BA)} {n m:Nat}:∀{ws:List BA} {first:Bool} {last:Int} {ps:List Piece} {r:List Piece×Int},Cl n m ps→WT kind parts first last ps ws=some r→Cl n m r.1
 |[],_,_,ps,r,h,he=>by simp [WT] at he;subst he;exact h
 | s::l,first,last,ps,r,h,he=>by
   rw [WT] at he;split at he
   · cases he
   · exact Cm (ZkX h) he
theorem Zii (n:Nat):Cl n n (Jj n):=by
 refine ⟨by rw [RD];omega,fun p hp=>?_⟩
 simp [Jj] at hp
 obtain ⟨i,hi,rfl⟩:=hp
 exact ⟨sM,by simp;omega⟩
theorem ZeR {c:Cut} {ws:List BA} {ps:List Piece} (hn:0<c.parts.length) (hs:∀s∈ws,0≤partOf c.parts s) (he:WU c ws=some ps):Cl c.parts.length (ws.length+c.parts.length+1) ps:=by
 unfold WU at he
 split at he
 · have:=ZcD hn hs he;exact ⟨by have:=this.1;omega,this.2⟩
 · cases hg:WT c.kind c.parts true 0 (Jj c.parts.length) ws with
   |none=>rw [hg] at he;cases he
   | some r=>
     rw [hg] at he;have hok:=Cm (Zii c.parts.length) hg;obtain ⟨r1,r2⟩:=r;simp only [] at he;split at he
     · split at he
       · cases he
       · cases he;exact ⟨by simp;omega,fun p hp=>hok.2 p (UA (VA hp))⟩
     · cases he;exact ⟨by have:=hok.1;simp at this;omega,hok.2⟩
def RE (m:Nat) (out:List (List Var)):Prop:=∀r∈out,r.length≤m∧∀x∈r,0≤x.count∧x.count≤(m:Int)*1048576
theorem Zaq {m:Nat} {w:List BA} {n:Int} (hn0:0≤n) (hn1:n≤1048576):∀{r:List Var},(r.length≤m∧∀x∈r,0≤x.count∧x.count≤(m:Int)*1048576)→(Gz r w n).length≤r.length+1∧∀x∈Gz r w n,0≤x.count∧x.count≤((m+1:Nat):Int)*1048576
 | [],h=>by
   refine ⟨by simp [Gz],fun x hx=>?_⟩;simp [Gz] at hx;subst hx;exact ⟨hn0,by simp;omega⟩
 | y :: r,h=>by
   have hy:=h.2 y sM;have hr:∀x∈r,0≤x.count∧x.count≤((m+1:Nat):Int)*1048576:=fun x hx=>by have:=h.2 x (by simp [hx]);omega
   rw [Gz];split
   · have:=Zaq (m:=m) (w:=w) (n:=n) hn0 hn1 (r:=r) ⟨by have:=h.1;simp at this;omega,fun x hx=>h.2 x (by simp [hx])⟩;refine ⟨by have:=this.1;simp;omega,fun x hx=>?_⟩;rcases Xk.1 hx with rfl|hx
     · omega
     · exact this.2 x hx
   · split
     · refine ⟨sM,fun x hx=>?_⟩;rcases Xk.1 hx with rfl|hx
       · exact ⟨by simp;omega,by simp;omega⟩
       · exact hr x hx
     · refine ⟨sM,fun x hx=>?_⟩;rcases Xk.1 hx with rfl|hx
       · exact ⟨hn0,by simp;omega⟩
       · rcases Xk.1 hx with rfl|hx
         · omega
         · exact hr x hx
theorem ZcE {m:Nat} {n:Int} {out:List (List Var)} {p:Piece} (hn0:0≤n) (hn1:n≤1048576) (h:RE m out):RE (m+1) (JI n out p):=by
 unfold JI
 have hup:RE (m+1) out:=fun r hr=>⟨by have:=(h r hr).1;omega,fun x hx=>by have:=(h r hr).2 x hx;omega⟩
 split
 · rename_i r hr;intro r' hr';rcases V9 hr' with h1|h1
   · exact hup r' h1
   · rw [h1];have hrm:=h r (Xc hr);have:=Zaq (w:=p.word) hn0 hn1 hrm;exact ⟨by have:=this.1;omega,this.2⟩
 · exact hup
theorem ZbD (n:Int) (out:List (List Var)) (p:Piece):(JI n out p).length=out.length:=by
 unfold JI;split<;>simp
theorem ZeS (n:Nat):RE 0 (List.replicate n []):=fun r hr=>by
 have:=VS hr
 subst this
 exact ⟨sM,fun x hx=>by simp at hx⟩
theorem RF {l:List Var} {k:Nat} {x:Var} (h:validVars l=true) (hx:l[k]? =some x):K4 x=true:=by
 unfold validVars at h
 rw [Xi,Xm] at h
 have hk:=(Xr.1 hx).1
 have:=h.2 k (Va.2 hk)
 simp only [L8,hx,Xi] at this
 exact this.1
theorem ZcF {x:Var} (h:K4 x=true):1≤x.count∧x.count≤1048576:=by
 simp [K4] at h
 omega
end Go.Cb
