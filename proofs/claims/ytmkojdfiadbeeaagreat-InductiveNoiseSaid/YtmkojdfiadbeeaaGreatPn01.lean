/-
  Walks and laws.
-/
import Derived.KernelRfl
import Derived.WalkKit
import Derived.WalkSpells
import Derived.WalkLawsBesides
import Derived.Handy
import Derived.BigQuiet
import Derived.Lib.Hide
import Derived.OrdersHeld
import Derived.Maps.AppendAt
import Derived.Lib.LaidTab
import Derived.Lib.ItoaNum
import Derived.Laws.Cells
import Derived.Laws.MakeOwn
import Derived.Laws.OwnMore
import Derived.Great.BuildSlice
import Derived.Laws.Tables
set_option linter.all false
set_option maxRecDepth 100000
abbrev BA:=ByteArray
set_option maxHeartbeats 0
def kR {α:Sort _} {a b:α} (e:a=b:=by kernel_rfl):a=b:=e
def oM {P:Prop} (e:P:=by omega):P:=e
def dC {P:Prop} (e:P:=by decide):P:=e
def sM {P:Prop} (e:P:=by simp):P:=e
def Ll {P:Prop} (e:P:=by first|omega|exact Xa rfl|(simp only [Xh,Xw,Xc,Xm,Xe,XN,Xz,Xq,XP];omega)):P:=e
def bN {P:Prop} {a b:Bool} (h:a=b) (e:(a==b)=false:=by exact rfl):P:=by subst h;simp at e
def Xa:= @Nat.le_of_ble_eq_true
def Xb:= @List.mem_of_getElem?
def Xc:= @List.length_map
def Xd:= @Nat.le_refl
def Xe:= @List.length_append
def Xf:= @Bool.and_eq_true
def Xg:= @Nat.zero_le
def Xh:= @List.length_cons
def Xi:= @List.mem_cons
def Xj:= @List.all_eq_true
def Xk:= @List.getElem?_eq_some_iff
def Xl:= @List.getElem?_map
def Xm:= @List.length_set
def Xn:= @List.map_cons
def Xo:= @List.append_nil
def Xp:= @List.mem_map
def Xq:= @List.flatMap_cons
def Xr:= @List.getElem?_eq_getElem
def Xs:= @List.take_of_length_le
def Xt:= @List.mem_cons_of_mem
def Xu:= @List.mem_cons_self
def Xv:= @List.eq_nil_of_length_eq_zero
def Xw:= @List.length_nil
def Xx:= @List.take_length
def Xy:= @List.pairwise_cons
def Xz:= @List.length_singleton
def XA:= @List.length_take
def XB:= @List.map_map
def XC:= @Nat.zero_add
def XD:= @List.mem_append
def XE:= @List.mem_singleton
def XF:= @List.mem_filter
def XG:= @List.append_assoc
def XH:= @Int.toNat_natCast
def XI:= @Nat.le_trans
def XJ:= @Nat.mul_one
def XK:= @List.getElem?_set_self
def XL:= @Nat.lt_or_ge
def XM:= @List.getElem?_of_mem
def XN:= @List.length_replicate
def XO:= @List.drop_eq_nil_of_le
def XP:= @List.flatMap_nil
def XQ:= @List.mem_flatten
def XR:= @List.flatMap_append
def XS:= @List.flatten_cons
def XT:= @List.mem_range
def XU:= @Option.map_eq_some_iff
def XV:= @List.getElem?_cons_succ
def XW:= @List.pairwise_iff_getElem
def XX:= @List.map_append
def XY:= @List.nil_append
def XZ:= @List.flatten_append
def X0:= @Nat.eq_of_beq_eq_true
def X1:= @List.getElem?_take_of_lt
def X2:= @List.any_eq_true
def X3:= @Nat.add_mul
def X4:= @List.set_set
def X5:= @List.length_pos_iff
def X6:= @List.nodup_append
def X7:= @List.pairwise_map
def X8:= @Nat.zero_mul
def X9:= @List.getElem?_set_ne
def X':= @List.getElem?_eq_none
def Va:= @Array.length_toList
def Vb:= @Nat.min_eq_left
def Vc:= @Nat.succ_pos
def Vd:= @Bool.false_ne_true
def Ve:= @List.drop_eq_getElem_cons
def Vf:= @List.drop_zero
def Vg:= @Nat.sub_self
def Vh:= @List.cons_append
def Vi:= @Nat.one_pos
def Vj:= @Bool.or_eq_true
def Vk:= @List.nodup_cons
def Vl:= @List.length_filter_le
def Vm:= @List.getElem_mem
def Vn:= @List.getElem?_drop
def Vo:= @List.getElem?_append_left
def Vp:= @List.getElem?_append_right
def Vq:= @List.foldl_cons
def Vr:= @List.set_append_right
def Vs:= @List.filter_append
def Vt:= @Nat.succ_mul
def Vu:= @List.length_drop
def Vv:= @Nat.not_lt_zero
def Vw:= @List.take_append_drop
def Vx:= @Nat.mul_le_mul_right
def Vy:= @Nat.add_assoc
def Vz:= @List.map_nil
def VA:= @Nat.sub_zero
def VB:= @Nat.lt_trichotomy
def VC:= @List.sum_cons
def VD:= @Array.getElem?_eq_none
def VE:= @List.eq_of_mem_replicate
def VF:= @List.map_id
def VG:= @Bool.false_eq_true
def VH:= @Nat.mul_comm
def VI:= @Bool.eq_iff_iff
def VJ:= @Bool.and_false
def VK:= @List.all_map
def VL:= @List.mergeSort_perm
def VM:= @Nat.le_succ
def VN:= @Array.getD_eq_getD_getElem?
def VO:= @Nat.add_zero
def VP:= @List.length_range
def VQ:= @Array.getElem?_append_left
def VS:= @List.range_succ
def VT:= @List.ext_getElem?
def VU:= @List.filter_cons
def VV:= @List.map_congr_left
def VW:= @List.filter_cons_of_neg
def VX:= @Array.toArray_toList
def VY:= @Option.map_some
def VZ:= @List.mem_or_eq_of_mem_set
def V0:= @Nat.mod_lt
def V1:= @Nat.eq_zero_or_pos
def V2:= @List.perm_append_comm
def V3:= @List.length_mergeSort
def V4:= @List.filter_cons_of_pos
def V5:= @List.map_take
def V6:= @List.findIdx?_eq_some_iff_getElem
def V7:= @List.getElem_of_mem
def V8:= @Array.toList_map
def V9:= @List.all_eq_false
def V':= @List.mem_of_mem_take
def Ua:= @List.pairwise_singleton
def Ub:= @Nat.le_add_right
def Uc:= @Array.getElem?_toList
def Ud:= @List.flatMap_singleton
def Ue:= @List.foldl_append
def Uf:= @List.length_eq_one_iff
def Ug:= @List.pairwise_flatten
def Uh:= @List.length_attach
def Ui:= @List.flatten_singleton
def Uj:= @Int.le_refl
def Uk:= @Option.getD_some
def Ul:= @List.zipIdx_cons
def Um:= @List.take_zero
def Un:= @Bool.false_or
def Uo:= @Nat.div_add_mod
def Up:= @Bool.and_true
def Uq:= @Bool.true_and
def Ur:= @List.filter_eq_self
def Us:= @List.mem_flatMap
def Ut:= @Array.getElem?_modify
def Uu:= @List.map_set
def Uv:= @List.map_flatMap
def Uw:= @List.map_drop
def Ux:= @List.any_eq_false
def Uy:= @List.countP_cons
def Uz:= @List.size_toArray
def UA:= @List.map_toArray
def UB:= @List.zipIdx_nil
def UC:= @List.all_cons
def UD:= @Bool.or_eq_false_iff
def UE:= @List.any_append
def UF:= @List.take_succ_cons
def UG:= @List.pairwise_append
def UH:= @Bool.and_assoc
def UI:= @List.perm_append_singleton
def UJ:= @Nat.add_sub_cancel
def UK:= @List.getElem?_eq_none_iff
def UL:= @List.take_succ_eq_append_getElem
def UM:= @List.take_set_of_le
def UN:= @Nat.lt_succ_self
def UO:= @Array.toList_modify
def UP:= @List.modify_succ_cons
def UQ:= @Array.getElem?_setIfInBounds_ne
def UR:= @Nat.div_lt_iff_lt_mul
def US:= @Array.toList_extract
def UT:= @List.extract_eq_take_drop
def UU:= @Array.toList_filter
def UV:= @List.set_cons_succ
def UW:= @List.length_flatten
def UX:= @Nat.min_eq_right
def UY:= @List.take_sublist
def UZ:= @List.not_mem_nil
def U0:= @List.isEmpty_iff
def U1:= @List.set_cons_zero
def U2:= @Bool.not_eq_true
def U3:= @List.getLast?_cons_cons
def U4:= @List.mem_append_left
def U5:= @List.findIdx?_eq_none_iff
def U6:= @List.perm_ext_iff_of_nodup
def U7:= @Int.mul_le_mul_of_nonneg_right
def U8:= @List.getLast?_eq_getElem?
def U9:= @List.getElem?_cons_zero
def U':= @decide_eq_true_eq
def Qa:= @decide_eq_true
def Qb:= @decide_eq_false
def Qc:= @if_neg
def Qd:= @if_pos
def Qe:= @absurd
def Qf:= @of_decide_eq_true
def Qg:= @of_decide_eq_false
namespace Go.Cb
open Go.RowKit
abbrev Ext (w w':World):Prop:=Below w.heap.size w w'
def Ext.rfl' (w:World):Ext w w:=Below.refl _ _
def Ext.tr {a b c:World} (h:Ext a b) (k:Ext b c):Ext a c:=Below.trans h (k.mono h.size)
def Ext.alloc (w:World) (o:Obj):Ext w (w.alloc o):=(Below.refl _ _).alloc (Xd _) o
def Ext.drew (w:World):Ext w w.drew:=(Below.refl _ _).drew
def Ext.to_alloc {a w:World} (h:Ext a w) (o:Obj):Ext a (w.alloc o):=h.tr (Ext.alloc w o)
def Ext.block {w w':World} (h:Ext w w') {b:Nat} {o:Obj} (hp:w.heap[b]? =some o):w'.heap[b]? =some o:=by
 have hlt:b<w.heap.size:=by
  rcases XL b w.heap.size with h1|h1
  . exact h1
  rw [VD h1] at hp;cases hp
 rw [Below.block h b hlt];exact hp
structure More where
 objs:Array Obj
 drawn:Nat
instance:Inhabited More:=⟨⟨#[],0⟩⟩
abbrev Mut:=Nat->Prop
structure Chg (M:Mut) (w w':World):Prop where
 os:w'.os=w.os
 tape:w'.tape=w.tape
 output:w'.output=w.output
 size:w.heap.size<=w'.heap.size
 block:∀k,k<w.heap.size->¬M k->w'.heap[k]? =w.heap[k]?
def Chg.rfl' (M:Mut) (w:World):Chg M w w:=⟨rfl,rfl,rfl,Xd _,fun _ _ _=>rfl⟩
def Ext.chg {M:Mut} {w w':World} (h:Ext w w'):Chg M w w':=⟨h.os,h.tape,h.output,h.size,fun k hk _=>Below.block h k hk⟩
def Chg.ext {M:Mut} {w w':World} (h:Chg M w w') (hM:∀b,b<w.heap.size->¬M b):Ext w w':=⟨h.os,h.tape,h.output,h.size,fun k hk=>h.block k hk (hM k hk)⟩
def Chg.tr {M N:Mut} {a b c:World} (h:Chg M a b) (k:Chg N b c) (hN:∀i,N i->M i\/a.heap.size<=i):Chg M a c:=
 ⟨k.os.trans h.os,k.tape.trans h.tape,k.output.trans h.output,XI h.size k.size,fun i hi hm=>
  (k.block i (Nat.lt_of_lt_of_le hi h.size) (fun hn=>(hN i hn).elim hm oM)).trans (h.block i hi hm)⟩
def Chg.tr' {M:Mut} {a b c:World} (h:Chg M a b) (k:Chg M b c):Chg M a c:=h.tr k fun _ h=> .inl h
def Chg.wid {M N:Mut} {a b:World} (h:Chg M a b) (hN:∀i,M i->N i\/a.heap.size<=i):Chg N a b:=
 ⟨h.os,h.tape,h.output,h.size,fun i hi hn=>h.block i hi fun hm=>(hN i hm).elim hn oM⟩
def Chg.grown {w w':World} {row:Option Nat} (h:w.grownBy w' row):Chg (fun b=>row=some b) w w':=
 ⟨h.os,h.tape,h.output,h.size,fun k hk hm=>h.block k hk (fun e=>hm e.symm)⟩
def Chg.setCell (w:World) (p:Addr) (u:Value):Chg (fun b=>b=p.block) w (w.setCell p u):=
 ⟨rfl,rfl,rfl,by simp [World.setCell],fun k _ hm=>Below.heap_setCell _ _ _ _ hm⟩
def Cell (M:Mut) (w:World) (b o:Nat) (v:Value):Prop:=w.cell? ⟨b,o,none⟩=some v/\¬M b
def Cell.mv {M:Mut} {w w':World} {b o:Nat} {v:Value} (h:Cell M w b o v) (e:Chg M w w'):Cell M w' b o v:=by
 have hlt:b<w.heap.size:=World.block_lt_of_cell? _ _ h.1
 exact ⟨(World.cell?_of_block (w:=w) (a:=⟨b,o,none⟩) (e.block b hlt h.2)).trans h.1,h.2⟩
def Cell.re {M N:Mut} {w:World} {b o:Nat} {v:Value} (h:Cell M w b o v) (hN:∀i,N i->M i\/w.heap.size<=i):Cell N w b o v:=by
 have hlt:b<w.heap.size:=World.block_lt_of_cell? _ _ h.1
 exact ⟨h.1,fun hn=>(hN b hn).elim h.2 oM⟩
abbrev Elt (α:Type):=Mut->World->Nat->Nat->α->Prop
abbrev Rd (α:Type):=Mut->World->Value->α->Prop
structure Elt.Mono {α:Type} (E:Elt α):Prop where
 mv:∀{M w w' b o x},E M w b o x->Chg M w w'->E M w' b o x
 re:∀{M N w b o x},E M w b o x->(∀i,N i->M i\/w.heap.size<=i)->E N w b o x
structure Rd.Mono {α:Type} (R:Rd α):Prop where
 mv:∀{M w w' v x},R M w v x->Chg M w w'->R M w' v x
 re:∀{M N w v x},R M w v x->(∀i,N i->M i\/w.heap.size<=i)->R N w v x
def SlR {α:Type} (k:Nat) (E:Elt α):Rd (List α):=fun M w v l=>
 ∃a c,v= .slice a l.length c/\l.length<=c/\c<=9223372036854775807/\l.length<=140737488355328/\(a=none->c=0)/\∀i x,l[i]? =some x->∃b off,a=some ⟨b,off,none⟩/\E M w b (off+i*k) x
def SlR.mono {α:Type} {k:Nat} {E:Elt α} (hE:E.Mono):(SlR k E).Mono where
 mv:=by
  rintro M w w' v l ⟨a,c,rfl,h1,h2,h4,h5,h3⟩ h;exact ⟨a,c,rfl,h1,h2,h4,h5,fun i x hx=>let ⟨b,off,ha,he⟩:=h3 i x hx;⟨b,off,ha,hE.mv he h⟩⟩
 re:=by
  rintro M N w v l ⟨a,c,rfl,h1,h2,h4,h5,h3⟩ h;exact ⟨a,c,rfl,h1,h2,h4,h5,fun i x hx=>let ⟨b,off,ha,he⟩:=h3 i x hx;⟨b,off,ha,hE.re he h⟩⟩
def SlR.cases {α:Type} {k:Nat} {E:Elt α} {M:Mut} {w:World} {v:Value} {l:List α} (h:SlR k E M w v l):
 (∃a c,v= .slice a 0 c/\l=[]/\c<=9223372036854775807)\/
 (∃b off c,v= .slice (some ⟨b,off,none⟩) l.length c/\l.length<=c/\c<=9223372036854775807/\0<l.length/\∀i x,l[i]? =some x->E M w b (off+i*k) x):=by
 obtain ⟨a,c,rfl,h1,h2,h4,h5,h3⟩:=h
 cases l with
 |nil=>exact .inl ⟨a,c,rfl,rfl,h2⟩
 | cons x l=>
   obtain ⟨b,off,rfl,_⟩:=h3 0 x rfl;refine .inr ⟨b,off,c,rfl,h1,h2,sM,fun i y hy=>?_⟩;obtain ⟨b',off',he,hE⟩:=h3 i y hy
   cases he;exact hE
def SlR.len {α:Type} {k:Nat} {E:Elt α} {M:Mut} {w:World} {v:Value} {l:List α} (h:SlR k E M w v l):l.length<=140737488355328:=by
 obtain ⟨a,c,rfl,h1,h2,h4,h3⟩:=h;omega
def EStr:Elt BA:=fun M w b o s=>Cell M w b o (.string s)/\s.size<=140737488355328
def EStr.mono:EStr.Mono:=⟨fun ⟨h1,h2⟩ h=>⟨h1.mv h,h2⟩,fun ⟨h1,h2⟩ h=>⟨h1.re h,h2⟩⟩
abbrev Strs:Rd (List BA):=SlR 1 EStr
def Strs.mono:Strs.Mono:=SlR.mono EStr.mono
def Strs.up {M:Mut} {w w':World} {v:Value} {l:List BA} (h:Strs M w v l) (e:Ext w w'):Strs M w' v l:=Strs.mono.mv h e.chg
structure Var where
 acts:List BA
 count:Int
structure Cut where
 kind:Int
 parts:List (List BA)
def O7 {k:IntKind} {a b:Int} (h:a=b):Ending.returned (.int k a)= .returned (.int k b):=by rw [h]
def get_some {α:Type} {l:List α} {i:Nat} (h:i<l.length):∃x,l[i]? =some x:=⟨l[i],by simp [h]⟩
def idx {α:Type} (p:α->Bool) (l:List α):Int:=match l.findIdx? p with|some i=>i|none=> -1
def LS {α:Type} (p:α->Bool) (l:List α):decide (0<=idx p l)=l.any p:=by
 unfold idx
 cases h:l.findIdx? p with
 |none=>rw [U5] at h;symm;simpa using h
 |some i=>rw [V6] at h;obtain ⟨hi,hp,_⟩:=h;symm;simp;exact ⟨_,Vm hi,hp⟩
def Lb {α:Type} {p:α->Bool} {l:List α} {k:Nat} {x:α} (h:∀i y,i<k->l[i]? =some y->p y=false) (hx:l[k]? =some x) (hp:p x=true):idx p l=k:=by
 unfold idx
 obtain ⟨hk,rfl⟩:=Xk.1 hx
 have:l.findIdx? p=some k:=by
  rw [V6];exact ⟨hk,hp,fun j hj=>by simp [h j _ hj (Xr oM)]⟩
 rw [this]
def LU {α:Type} {p:α->Bool} {l:List α} (h:∀i y,i<l.length->l[i]? =some y->p y=false):idx p l= -1:=by
 unfold idx
 have:l.findIdx? p=none:=by
  rw [U5];intro x hx;obtain ⟨i,hi,rfl⟩:=V7 hx;exact h i _ hi (Xr hi)
 rw [this]
section
variable {P:Program} {ops:Array Oper} {Q:Exit->Act->World->Prop} {md:Region.Mode} {C:World->Prop} {z:Nat}
def ZbJ (Q:Exit->Act->World->Prop):Exit->Act->World->Prop
 | .normal,a,w=>Q .normal a w
 |_,_,_=>False
def Zd5 {Q':Exit->Act->World->Prop} {o:Oper} {a:Act} {w:World} {K:Act->World->Prop} (h:o.wp P a w K (ZbJ Q')):o.wp P a w K Q:=by
 unfold Oper.wp at*
 generalize (execOp a.eval o).run P w=r at*
 cases r with
 | ok n w'=>
   cases n<;>simp only [Oper.upon] at h ⊢<;>try exact h
   refine Calls.mono h fun e w'' he=>?_
   cases e with
   |returned u=>exact he
   |panicked c=>exact he.elim
   |outgrown=>obtain ⟨_,_,hf⟩:=he;exact hf.elim
 | halt x w'=>
   cases x<;>simp only [Oper.upon] at h ⊢;exact h.elim
def ZgF {i:Nat} {a:Act} {w:World} {K:Act->World->Prop} (h:wpOp P ops (ZbJ Q) i K a w):wpOp P ops Q i K a w:=by
 unfold wpOp at*
 split
 . rename_i ho;simp only [ho] at h;exact h
 rename_i o ho;simp only [ho] at h;split
 . rename_i hw;simp only [hw,if_true] at h;rcases h with h|⟨_,_,_,hf⟩
   . exact .inl (Zd5 h)
   exact hf.elim
 rename_i hw;simp only [hw] at h;exact h
def YieldsC (P:Program) (ops:Array Oper) (C:World->Prop) (o:Oper) (v:Value) (a:Act):Prop:=
 (Region.wanted o (yielded ops a.tmps)=true/\∀w,C w->(execOp a.eval o).run P w= .ok (.value v) w)\/
 (Region.wanted o (yielded ops a.tmps)=false/\v=undef)
def YieldsC.ifS {o:Oper} {v:Value} {a:Act} (h:YieldsC P ops C o v a):YieldsIf P ops C o v a:=h
def GL {Q':Exit->Act->World->Prop} {k:Nat} {o:Oper} (ho:ops[k]? =some o) {a:Act} {w:World} {K:Act->World->Prop} (hK:∀a w,Q' .normal a w->K a w) (h:wpList P ops (ZbJ Q') [o] a w):wpOp P ops (ZbJ Q) k K a w:=by
 unfold wpOp
 simp only [ho]
 unfold wpList at h
 split
 . rename_i hw;rw [Qd hw] at h;rcases h with h|⟨_,_,_,hf⟩
   . exact .inl (Zd5 (Oper.wp_mono (fun a w h=>hK a w h) h))
   exact hf.elim
 rename_i hw;rw [Qc hw] at h;exact hK _ _ h
def Zd6 (md:Region.Mode) (ops:Array Oper) (z i:Nat):Bool:=match ops[z]? with
 |some oz=>oz.after.any fun e=>Region.binds md e&&e.on==i
 |none=>false
end
section
variable {P:Program} {ops:Array Oper} {Q:Exit->Act->World->Prop} {md:Region.Mode} {C:World->Prop} {z:Nat}
end
end Go.Cb
namespace Go.En
open Go.RowKit Go.Cb
inductive PV where
 |val (v:Value)
 |sl (n:Nat) (cs:List PV)
 |sptr (off:Nat) (cs:List PV)
 |smap (es:List (Value×Value))
 |own (e k n:Nat) (cs:List PV)
 |omap (es:List (Value×Value))
 |obox (e k:Nat) (cs:List PV)
 |agg (ps:List PV)
 |tup (ps:List PV)
 |fn (f:Nat) (ps:List PV)
 |oblk (v:Value) (r:Nat) (o:Obj) (sh:List (Nat×Obj))
instance:Inhabited PV:=⟨.val (.bool false)⟩
abbrev BS:=Nat->Prop
def kvOf (es:Array MapEntry):List (Value×Value):=es.toList.map fun x=>(x.key,x.val)
def WfM (es:Array MapEntry) (clock:Nat):Prop:=(∀x∈es.toList,x.born<clock)/\(es.toList.map (·.born)).Nodup
inductive Shr (M:BS) (w:World):Value->PV->Prop
 |val (v:Value):Shr M w v (.val v)
 |emp (a:Option Addr) (c:Nat) (hc:c<=maxLen) (ha:a=none->c=0):Shr M w (.slice a 0 c) (.sl 0 [])
 | sl (b off n c:Nat) (cs:List PV) (vs:Nat->Value) (hn:n<=c) (hc:c<=maxLen)
    (hcell:∀i:Nat,i<cs.length->w.cell? ⟨b,off+i,none⟩=some (vs i)/\¬M b) (hT:∀(i:Nat) (p:PV),cs[i]? =some p->Shr M w (vs i) p):Shr M w (.slice (some ⟨b,off,none⟩) n c) (.sl n cs)
 | sptr (b off j:Nat) (cs:List PV) (vs:Nat->Value)
    (hcell:∀i:Nat,i<cs.length->w.cell? ⟨b,off+i,none⟩=some (vs i)/\¬M b) (hT:∀(i:Nat) (p:PV),cs[i]? =some p->Shr M w (vs i) p):Shr M w (.pointer (some ⟨b,off+j,none⟩)) (.sptr j cs)
 |smap (b:Nat) (es:Array MapEntry) (clock:Nat) (hM:¬M b) (h:w.heap[b]? =some (.map es clock)) (hW:WfM es clock):Shr M w (.map (some b)) (.smap (kvOf es))
 |agg (vs:List Value) (ps:List PV) (hl:vs.length=ps.length) (h:∀(i:Nat) (v:Value) (p:PV),vs[i]? =some v->ps[i]? =some p->Shr M w v p):Shr M w (.agg vs.toArray) (.agg ps)
 |tup (vs:List Value) (ps:List PV) (hl:vs.length=ps.length) (h:∀(i:Nat) (v:Value) (p:PV),vs[i]? =some v->ps[i]? =some p->Shr M w v p):Shr M w (.tuple vs.toArray) (.tup ps)
 |fn (f:Nat) (vs:List Value) (ps:List PV) (hl:vs.length=ps.length) (h:∀(i:Nat) (v:Value) (p:PV),vs[i]? =some v->ps[i]? =some p->Shr M w v p):Shr M w (.func (.func f) #[] vs.toArray) (.fn f ps)
def KV {w:World} {b:Nat} {o:Obj} (h:w.heap[b]? =some o):b<w.heap.size:=by
 rcases XL b w.heap.size with h1|h1
 . exact h1
 rw [VD h1] at h;cases h
def Py {N:BS} {w w':World} {b o:Nat} {v:Value} (hc:Chg N w w') (hN:¬N b) (h:w.cell? ⟨b,o,none⟩=some v):w'.cell? ⟨b,o,none⟩=some v:=
 (World.cell?_of_block (w:=w) (a:=⟨b,o,none⟩) (hc.block b (World.block_lt_of_cell? _ _ h) hN)).trans h
def Shr.to {M M' N:BS} {w w':World} (hc:Chg N w w') (hN:∀b,b<w.heap.size->N b->M b) (hM:∀b,b<w.heap.size->M' b->M b) {v:Value} {p:PV} (h:Shr M w v p):Shr M' w' v p:=by
 have key:∀{b o:Nat} {v:Value},(w.cell? ⟨b,o,none⟩=some v/\¬M b)->(w'.cell? ⟨b,o,none⟩=some v/\¬M' b):=fun {b o v} h=>by
  have hlt:=World.block_lt_of_cell? _ _ h.1;exact ⟨Py hc (fun hn=>h.2 (hN _ hlt hn)) h.1,fun hm=>h.2 (hM _ hlt hm)⟩
 induction h with
 |val v=>exact .val v
 |emp a c hc ha=>exact .emp a c hc ha
 |sl b off n c cs vs hn hc' hcell hT ih=>exact .sl b off n c cs vs hn hc' (fun i hi=>key (hcell i hi)) ih
 |sptr b off j cs vs hcell hT ih=>exact .sptr b off j cs vs (fun i hi=>key (hcell i hi)) ih
 | smap b es clock hMb h hW=>
   have hlt:=KV h;exact .smap b es clock (fun hm=>hMb (hM b hlt hm)) ((hc.block b hlt (fun hn=>hMb (hN b hlt hn))).trans h) hW
 |agg vs ps hl h ih=>exact .agg vs ps hl ih
 |tup vs ps hl h ih=>exact .tup vs ps hl ih
 |fn f vs ps hl h ih=>exact .fn f vs ps hl ih
def Shr.anti {M M':BS} {w:World} (hM:∀b,b<w.heap.size->M' b->M b) {v:Value} {p:PV} (h:Shr M w v p):Shr M' w v p:=h.to (Chg.rfl' (fun _=>False) w) (fun _ _ h=>h.elim) hM
def Shr.up {M:BS} {w w':World} (hc:Ext w w') {v:Value} {p:PV} (h:Shr M w v p):Shr M w' v p:=h.to (hc.chg (M:=fun _=>False)) (fun _ _ h=>h.elim) (fun _ _ h=>h)
inductive Tr (M:BS) (w:World):Value->PV->BS->Prop
 |shr {v:Value} {p:PV} {F:BS} (h:Shr M w v p) (hF:∀b,¬F b):Tr M w v p F
 | own {v:Value} {e k n:Nat} {cs:List PV} {F:BS} (xs:List Value) (Fs:Nat->BS) (hrow:w.ownsRow 0 e k v n xs) (hl:cs.length=xs.length)
    (hT:∀(i:Nat) (x:Value) (p:PV),xs[i]? =some x->cs[i]? =some p->Tr M w x p (Fs i))
    (hd:∀i j b,i<cs.length->j<cs.length->i≠j->Fs i b->¬Fs j b) (hb:∀i b,i<cs.length->Fs i b->v.ownBlock≠some b)
    (hF:∀b,F b↔(v.ownBlock=some b\/∃i,i<cs.length/\Fs i b)):Tr M w v (.own e k n cs) F
 |omap {F:BS} (b:Nat) (es:Array MapEntry) (clock:Nat) (h:w.heap[b]? =some (.map es clock)) (hF:∀x,F x↔x=b) (hW:WfM es clock):Tr M w (.map (some b)) (.omap (kvOf es)) F
 |obox {e k:Nat} {cs:List PV} {F:BS} (g cap:Nat) (h:Tr M w (.slice (some ⟨g,0,none⟩) 1 cap) (.own e k 1 cs) F):Tr M w (.pointer (some ⟨g,0,none⟩)) (.obox e k cs) F
 | agg {ps:List PV} {F:BS} (vs:List Value) (Fs:Nat->BS) (hl:vs.length=ps.length) (h:∀(i:Nat) (v:Value) (p:PV),vs[i]? =some v->ps[i]? =some p->Tr M w v p (Fs i))
    (hd:∀i j b,i<ps.length->j<ps.length->i≠j->Fs i b->¬Fs j b) (hF:∀b,F b↔∃i,i<ps.length/\Fs i b):Tr M w (.agg vs.toArray) (.agg ps) F
 | tup {ps:List PV} {F:BS} (vs:List Value) (Fs:Nat->BS) (hl:vs.length=ps.length) (h:∀(i:Nat) (v:Value) (p:PV),vs[i]? =some v->ps[i]? =some p->Tr M w v p (Fs i))
    (hd:∀i j b,i<ps.length->j<ps.length->i≠j->Fs i b->¬Fs j b) (hF:∀b,F b↔∃i,i<ps.length/\Fs i b):Tr M w (.tuple vs.toArray) (.tup ps) F
 |oblk {v:Value} {o:Obj} {sh:List (Nat×Obj)} {F:BS} (r:Nat) (h1:v.oneCell'=true) (h:w.heap[r]? =some o) (hs:∀p∈sh,w.heap[p.1]? =some p.2/\¬M p.1) (hF:∀x,F x↔x=r):Tr M w v (.oblk v r o sh) F
def ZrP {N:BS} {w w':World} {e k n:Nat} {v:Value} {xs:List Value} (hc:Chg N w w') (h:w.ownsRow 0 e k v n xs) (hN:∀b,v.ownBlock=some b->¬N b):w'.ownsRow 0 e k v n xs:=by
 refine ⟨h.1,?_⟩
 rcases h.2 with h2|⟨g,cap,cur,h2,hg,hh,h4⟩
 . exact .inl h2
 refine .inr ⟨g,cap,cur,h2,hg,?_,h4⟩;rw [hc.block g (KV hh) (hN g (by subst h2;rfl))];exact hh
def Wc {α β:Type} {l:List α} {m:List β} {i:Nat} {x:α} (h:l[i]? =some x) (hl:l.length=m.length):∃y,m[i]? =some y:=by
 have:=(Xk.1 h).1
 exact ⟨m[i]'oM,sM⟩
def YV {α:Type} {l:List α} {i:Nat} (h:i<l.length):∃y,l[i]? =some y:=⟨l[i],sM⟩
def Zd {α:Type} {l:List α} {i:Nat} {x:α} (h:l[i]? =some x):i<l.length:=(Xk.1 h).1
def Tr.lt {M:BS} {w:World} {v:Value} {p:PV} {F:BS} (h:Tr M w v p F):∀b,F b->b<w.heap.size:=by
 induction h with
 |shr h hF=>exact fun b hb=>(hF b hb).elim
 | @own v e k n cs F xs Fs hrow hl hT hd hb hF ih=>
   intro b hFb;rcases (hF b).1 hFb with h|⟨i,hi,h⟩
   . exact (hrow.lt b h).2
   obtain ⟨p,hp⟩:=YV hi;obtain ⟨x,hx⟩:=Wc hp hl;exact ih i x p hx hp b h
 |omap b es clock h hF=>intro x hx;rw [(hF x).1 hx];exact KV h
 |oblk r h1 h hs hF=>intro x hx;rw [(hF x).1 hx];exact KV h
 |obox g cap h ih=>exact ih
 | @agg ps F vs Fs hl h hd hF ih=>
   intro b hFb;obtain ⟨i,hi,h⟩:=(hF b).1 hFb;obtain ⟨p,hp⟩:=YV hi;obtain ⟨x,hx⟩:=Wc hp hl.symm;exact ih i x p hx hp b h
 | @tup ps F vs Fs hl h hd hF ih=>
   intro b hFb;obtain ⟨i,hi,h⟩:=(hF b).1 hFb;obtain ⟨p,hp⟩:=YV hi;obtain ⟨x,hx⟩:=Wc hp hl.symm;exact ih i x p hx hp b h
def Tr.to {M M' N:BS} {w w':World} (hc:Chg N w w') (hM:∀b,b<w.heap.size->M' b->M b) {v:Value} {p:PV} {F:BS} (h:Tr M w v p F):
 (∀b,b<w.heap.size->N b->M b)->(∀b,F b->¬N b)->Tr M' w' v p F:=by
 induction h with
 |shr h hF=>exact fun hN _=> .shr (h.to hc hN hM) hF
 | @own v e k n cs F xs Fs hrow hl hT hd hb hF ih=>
   intro hN hNF;refine .own xs Fs (ZrP hc hrow fun b h=>hNF b ((hF b).2 (.inl h))) hl (fun i x p hx hp=>?_) hd hb hF;exact ih i x p hx hp hN fun b h=>hNF b ((hF b).2 (.inr ⟨i,Zd hp,h⟩))
 | omap b es clock h hF hW=>
   intro hN hNF;exact .omap b es clock ((hc.block b (KV h) (hNF b ((hF b).2 rfl))).trans h) hF hW
 | oblk r h1 h hs hF=>
   intro hN hNF;exact .oblk r h1 ((hc.block r (KV h) (hNF r ((hF r).2 rfl))).trans h) (fun p hp=>⟨(hc.block p.1 (KV (hs p hp).1) (fun hn=>(hs p hp).2 (hN _ (KV (hs p hp).1) hn))).trans (hs p hp).1,fun hm=>(hs p hp).2 (hM _ (KV (hs p hp).1) hm)⟩) hF
 |obox g cap h ih=>exact fun hN hNF=> .obox g cap (ih hN hNF)
 | @agg ps F vs Fs hl h hd hF ih=>
   intro hN hNF;exact .agg vs Fs hl (fun i v p hv hp=>ih i v p hv hp hN fun b h=>hNF b ((hF b).2 ⟨i,Zd hp,h⟩)) hd hF
 | @tup ps F vs Fs hl h hd hF ih=>
   intro hN hNF;exact .tup vs Fs hl (fun i v p hv hp=>ih i v p hv hp hN fun b h=>hNF b ((hF b).2 ⟨i,Zd hp,h⟩)) hd hF
def Tr.anti {M M':BS} {w:World} (hM:∀b,b<w.heap.size->M' b->M b) {v:Value} {p:PV} {F:BS} (h:Tr M w v p F):Tr M' w v p F:=
 h.to (Chg.rfl' (fun _=>False) w) hM (fun _ _ h=>h.elim) (fun _ _ h=>h)
def Tr.up {M:BS} {w w':World} (hc:Ext w w') {v:Value} {p:PV} {F:BS} (h:Tr M w v p F):Tr M w' v p F:=
 h.to (hc.chg (M:=fun _=>False)) (fun _ _ h=>h) (fun _ _ h=>h.elim) (fun _ _ h=>h)
mutual
def share:PV->PV
 | .val v=> .val v
 | .sl n cs=> .sl n cs
 | .sptr o cs=> .sptr o cs
 | .smap es=> .smap es
 | .own _ _ n cs=> .sl n (Wi cs)
 | .omap es=> .smap es
 | .obox _ _ cs=> .sptr 0 (Wi cs)
 | .agg ps=> .agg (Wi ps)
 | .tup ps=> .tup (Wi ps)
 | .fn f ps=> .fn f ps
 | .oblk v _ _ _=> .val v
def Wi:List PV->List PV
 |[]=>[]
 |p::l=>share p::Wi l
end
def YG:∀l:List PV,Wi l=l.map share
 |[]=>by simp [Wi]
 |p::l=>by simp [Wi,YG l]
def Shr.share {M:BS} {w:World} {v:Value} {p:PV} (h:Shr M w v p):Shr M w v (share p):=by
 induction h with
 |val v=>exact .val v
 |emp a c hc ha=>exact .emp a c hc ha
 |sl b off n c cs vs hn hc' hcell hT ih=>exact .sl b off n c cs vs hn hc' hcell hT
 |sptr b off j cs vs hcell hT ih=>exact .sptr b off j cs vs hcell hT
 |smap b es clock hMb h hW=>exact .smap b es clock hMb h hW
 | agg vs ps hl h ih=>
   rw [En.share];refine .agg vs _ (by rw [YG,Xc];exact hl) fun i v p hv hp=>?_;rw [YG,Xl,XU] at hp;obtain ⟨q,hq,rfl⟩:=hp;exact ih i v q hv hq
 | tup vs ps hl h ih=>
   rw [En.share];refine .tup vs _ (by rw [YG,Xc];exact hl) fun i v p hv hp=>?_;rw [YG,Xl,XU] at hp;obtain ⟨q,hq,rfl⟩:=hp;exact ih i v q hv hq
 |fn f vs ps hl h ih=>exact .fn f vs ps hl h
def Kv {w:World} {e k n:Nat} {v:Value} {xs:List Value} (h:w.ownsRow 0 e k v n xs):(v= .slice none 0 0/\n=0/\xs=[])\/∃g cap,v= .slice (some ⟨g,0,none⟩) n cap/\n<=cap/\cap<=maxLen/\g<w.heap.size:=by
 rcases h.2 with ⟨h2,h3⟩|⟨g,cap,cur,h2,hg,hh,h4,h5,_⟩
 . exact .inl ⟨h2,h3,Xv (by rw [h.1,h3,X8])⟩
 exact .inr ⟨g,cap,h2,h4,h5,KV hh⟩
def JC {w:World} {e k n g cap:Nat} {xs:List Value} (h:w.ownsRow 0 e k (.slice (some ⟨g,0,none⟩) n cap) n xs) {i:Nat} {x:Value} (hx:xs[i]? =some x):w.cell? ⟨g,i,none⟩=some x:=by
 rw [h.cellAt i (by rw [<-h.1];exact Zd hx)];exact hx
def Tr.share {M:BS} {w:World} {v:Value} {p:PV} {F:BS} (h:Tr M w v p F) {M':BS} (hM:∀b,b<w.heap.size->M' b->M b):(∀b,F b->¬M' b)->Shr M' w v (share p):=by
 induction h with
 |shr h hF'=>exact fun _=>(h.anti hM).share
 | @own v e k n cs F xs Fs hrow hl hT hd hb hF' ih=>
   intro hF;rw [En.share];rcases Kv hrow with ⟨rfl,rfl,rfl⟩|⟨g,cap,rfl,h1,h2,_⟩
   . have:cs=[]:=Xv (by simpa using hl);subst this;exact .emp none 0 (by unfold maxLen;omega) (fun _=>rfl)
   refine .sl g 0 n cap _ (fun i=>(xs[i]?).getD undef) h1 h2 (fun i hi=>?_) (fun i p hp=>?_)
   . rw [YG,Xc] at hi;obtain ⟨x,hx⟩:=YV (show i<xs.length by omega);refine ⟨?_,hF g ((hF' g).2 (.inl rfl))⟩;rw [XC,JC hrow hx,hx];rfl
   rw [YG,Xl,XU] at hp;obtain ⟨q,hq,rfl⟩:=hp;obtain ⟨x,hx⟩:=Wc hq hl;simp only [hx,Uk];exact ih i x q hx hq fun b hb'=>hF b ((hF' b).2 (.inr ⟨i,Zd hq,hb'⟩))
 |omap b es clock h hF' hW=>exact fun hF=> .smap b es clock (hF b ((hF' b).2 rfl)) h hW
 |oblk r h1 h hs hF'=>exact fun _=> .val _
 | @obox e k cs F g cap h ih=>
   intro hF;have h1:=ih hF;rw [En.share] at h1;rw [En.share];generalize hcs:Wi cs=cs' at h1 ⊢
   cases h1 with
   |sl _ _ _ _ _ vs hn hc hcell hT=>exact .sptr g 0 0 cs' vs hcell hT
 | @agg ps F vs Fs hl h hd hF' ih=>
   intro hF;rw [En.share];refine .agg vs _ (by rw [YG,Xc];exact hl) fun i v p hv hp=>?_;rw [YG,Xl,XU] at hp;obtain ⟨q,hq,rfl⟩:=hp;exact ih i v q hv hq fun b hb=>hF b ((hF' b).2 ⟨i,Zd hq,hb⟩)
 | @tup ps F vs Fs hl h hd hF' ih=>
   intro hF;rw [En.share];refine .tup vs _ (by rw [YG,Xc];exact hl) fun i v p hv hp=>?_;rw [YG,Xl,XU] at hp;obtain ⟨q,hq,rfl⟩:=hp;exact ih i v q hv hq fun b hb=>hF b ((hF' b).2 ⟨i,Zd hq,hb⟩)
def lk {α:Type}:List (Nat×α)->Nat->Option α
 |[],_=>none
 |(k,x)::l,t=>cond (Nat.beq k t) (some x) (lk l t)
def del {α:Type} (t:Nat):List (Nat×α)->List (Nat×α)
 |[]=>[]
 |(k,x)::l=>cond (Nat.beq k t) (del t l) ((k,x)::del t l)
def put {α:Type} (t:Nat) (x:α) (l:List (Nat×α)):List (Nat×α):=(t,x)::l
def Of {α:Type} (t:Nat):∀l:List (Nat×α),lk (del t l) t=none
 |[]=>rfl
 | (k,x)::l=>by
   unfold del
   cases h:Nat.beq k t
   . simp only [cond_false,lk,h];exact Of t l
   exact Of t l
def RQ {α:Type} {t s:Nat} (hts:t≠s):∀l:List (Nat×α),lk (del t l) s=lk l s
 |[]=>rfl
 | (k, x)::l=>by
   unfold del
   cases h:Nat.beq k t
   . simp only [cond_false,lk];rw [RQ hts l]
   have:k=t:=X0 h;subst this;have h2:Nat.beq k s=false:=by
    cases h3:Nat.beq k s
    . rfl
    exact Qe (X0 h3) hts
   simp only [cond_true,lk,h2,cond_false];exact RQ hts l
def Wt {α:Type} {t s:Nat} {l:List (Nat×α)} {x:α} (h:lk (del t l) s=some x):t≠s/\lk l s=some x:=by
 by_cases hts:t=s
 . subst hts;rw [Of] at h;cases h
 rw [RQ hts] at h;exact ⟨hts,h⟩
def Z3 {α:Type} (t:Nat) (x:α) (l:List (Nat×α)):lk (put t x l) t=some x:=by
 simp [put,lk]
def Yy {α:Type} {t s:Nat} (h:t≠s) (x:α) (l:List (Nat×α)):lk (put t x l) s=lk l s:=by
 have:Nat.beq t s=false:=by
  cases h3:Nat.beq t s
  . rfl
  exact Qe (X0 h3) h
 simp only [put,lk,this,cond_false]
def YC {α:Type} {t s:Nat} {l:List (Nat×α)} {x y:α} (h:lk (put t x l) s=some y):(t=s/\x=y)\/(t≠s/\lk l s=some y):=by
 by_cases hts:t=s
 . subst hts;rw [Z3] at h;cases h;exact .inl ⟨rfl,rfl⟩
 rw [Yy hts] at h;exact .inr ⟨hts,h⟩
abbrev Ent:=Value×PV
structure St where
 slots:List (Nat×Ent)
 heap:List (Nat×Ent)
structure Ctx where
 w0:World
 M0:BS
 N0:BS
 nt:Nat
 dr:Prop
 df:List Deferred
def Ztv:Option Nat:=none
def TabW (w:World) (M N:BS):Prop:=∀g,Ztv=some g->(∃ty at',w.heap[g]? =some (.cells (Go.Lib.pow10Tab.map fun z=>Value.int .u64 z).toArray ty at'))/\¬M g/\¬N g
def Ztw:Option Nat:=none
def ErrW (w:World) (M N:BS):Prop:=∀g,Ztw=some g->(∃ev ty at',w.heap[g]? =some (.cells #[ev] ty at')/\(ev= .nilIface\/∃te pe,ev= .iface te pe))/\¬M g/\¬N g
structure M0k (w:World) (M N:BS) (dr:Prop):Prop where
 m:∀b,M b->b<w.heap.size/\¬N b
 tb:¬dr->TabW w M N
 er:¬dr->ErrW w M N
def M0k.up {w:World} {M N:BS} {dr dr':Prop} (h:M0k w M N dr) (hd:dr->dr'):M0k w M N dr':=⟨h.m,fun hn=>h.tb fun h=>hn (hd h),fun hn=>h.er fun h=>hn (hd h)⟩
def M0k.true (w:World):M0k w (fun _=>False) (fun _=>False) True:=⟨fun _ h=>h.elim,fun h=>Qe trivial h,fun h=>Qe trivial h⟩
def mof (c:Ctx) (h:List (Nat×Ent)) (F:Nat->BS):BS:=fun b=>c.M0 b\/∃l x,lk h l=some x/\F l b
structure HeapF (c:Ctx) (h:List (Nat×Ent)) (F:Nat->BS) (w:World):Prop where
 tr:∀l v p,lk h l=some (v,p)->Tr (mof c h F) w v p (F l)
 lo:∀l x b,lk h l=some x->F l b->c.w0.heap.size<=b\/c.N0 b
 dj:∀l l' x x' b,l≠l'->lk h l=some x->lk h l'=some x'->F l b->¬F l' b
 m0:M0k c.w0 c.M0 c.N0 c.dr
 ext:Chg c.N0 c.w0 w
 dw:c.dr->c.w0.drawn<=w.drawn
structure HoldsF (c:Ctx) (st:St) (F:Nat->BS) (a:Act) (w:World):Prop extends HeapF c st.heap F w where
 sl:∀t v p,lk st.slots t=some (v,p)->a.tmps[t]? =some v/\Shr (mof c st.heap F) w v p
 size:a.tmps.size=c.nt
 df:a.defers=c.df
def Holds (c:Ctx) (st:St) (a:Act) (w:World):Prop:=∃F,HoldsF c st F a w
def HeapF.apart {c:Ctx} {h:List (Nat×Ent)} {F:Nat->BS} {w:World} (H:HeapF c h F w) {b l:Nat} {x:Ent} (hb:c.M0 b) (hl:lk h l=some x):¬F l b:=fun hF=>by
 have h1:=H.m0.m b hb
 rcases H.lo l x b hl hF with h2|h2
 . omega
 exact h1.2 h2
def HeapF.lt {c:Ctx} {h:List (Nat×Ent)} {F:Nat->BS} {w:World} (H:HeapF c h F w) {b:Nat} (hb:mof c h F b):b<w.heap.size:=by
 rcases hb with h1|⟨l,⟨v,p⟩,h1,h2⟩
 . exact Nat.lt_of_lt_of_le (H.m0.m b h1).1 H.ext.size
 exact (H.tr l v p h1).lt b h2
def HeapF.mok {c:Ctx} {h:List (Nat×Ent)} {F:Nat->BS} {w:World} (H:HeapF c h F w):M0k w (mof c h F) (fun _=>False) c.dr:=
 ⟨fun b hb=>⟨H.lt hb,fun h=>h⟩,fun hn g hg=>by
  obtain ⟨⟨ty,at',h1⟩,h2,h3⟩:=H.m0.tb hn g hg;have hlt:=KV h1;refine ⟨⟨ty,at',(H.ext.block g hlt h3).trans h1⟩,?_,fun h=>h⟩;rintro (h4|⟨l,x,h4,h5⟩)
  . exact h2 h4
  . rcases H.lo l x g h4 h5 with h6|h6
    . omega
    exact h3 h6,fun hn g hg=>by
  obtain ⟨⟨ev,ty,at',h1,hev⟩,h2,h3⟩:=H.m0.er hn g hg;have hlt:=KV h1;refine ⟨⟨ev,ty,at',(H.ext.block g hlt h3).trans h1,hev⟩,?_,fun h=>h⟩;rintro (h4|⟨l,x,h4,h5⟩)
  . exact h2 h4
  . rcases H.lo l x g h4 h5 with h6|h6
    . omega
    . exact h3 h6⟩
def M0k.none {w:World} {M:BS} {dr:Prop} (h:M0k w M (fun _=>False) dr):M0k w (fun _=>False) (fun _=>False) dr:=⟨fun _ h=>h.elim,fun hn g hg=>⟨(h.tb hn g hg).1,fun h=>h,fun h=>h⟩,fun hn g hg=>⟨(h.er hn g hg).1,fun h=>h,fun h=>h⟩⟩
def HeapF.change {c:Ctx} {h:List (Nat×Ent)} {F:Nat->BS} {w:World} (H:HeapF c h F w) (T:Nat->Prop) {h':List (Nat×Ent)} {F':Nat->BS} {w':World}
 (hch:Chg (fun b=>∃l x,T l/\lk h l=some x/\F l b) w w')
 (hsame:∀l x,¬T l->lk h' l=some x->lk h l=some x/\F' l=F l)
 (hF:∀l x b,T l->lk h' l=some x->F' l b->(∃l0 x0,T l0/\lk h l0=some x0/\F l0 b)\/w.heap.size<=b)
 (hnew:(∀b,b<w.heap.size->mof c h' F' b->mof c h F b)->∀l v p,T l->lk h' l=some (v,p)->Tr (mof c h' F') w' v p (F' l))
 (hdj:∀l l' x x' b,T l->T l'->l≠l'->lk h' l=some x->lk h' l'=some x'->F' l b->¬F' l' b) (hdw:c.dr->w.drawn<=w'.drawn):
 HeapF c h' F' w'/\(∀b,b<w.heap.size->mof c h' F' b->mof c h F b)/\(∀b,(∃l x,T l/\lk h l=some x/\F l b)->mof c h F b):=by
 have hmono:∀b,b<w.heap.size->mof c h' F' b->mof c h F b:=by
  rintro b hb (h1|⟨l,x,h1,h2⟩)
  . exact .inl h1
  by_cases hT:T l
  . rcases hF l x b hT h1 h2 with ⟨l0,x0,_,h3,h4⟩|h3
    . exact .inr ⟨l0,x0,h3,h4⟩
    omega
  obtain ⟨h3,h4⟩:=hsame l x hT h1;exact .inr ⟨l,x,h3,by rw [<-h4];exact h2⟩
 have hNm:∀b,(∃l x,T l/\lk h l=some x/\F l b)->mof c h F b:=fun b ⟨l,x,_,h1,h2⟩=> .inr ⟨l,x,h1,h2⟩
 have hBw:c.w0.heap.size<=w.heap.size:=H.ext.size
 refine ⟨⟨fun l v p hl=>?_,fun l x b hl hb=>?_,fun l l' x x' b hne hl hl' hb hb'=>?_,H.m0,?_,fun h=>XI (H.dw h) (hdw h)⟩,hmono,hNm⟩
 . by_cases hT:T l
   . exact hnew hmono l v p hT hl
   obtain ⟨h3,h4⟩:=hsame l _ hT hl;rw [h4];refine (H.tr l v p h3).to hch hmono (fun b _ h=>hNm b h) fun b hb ⟨l0,x0,h5,h6,h7⟩=>?_;exact H.dj l l0 _ _ b (fun e=>hT (e▸h5)) h3 h6 hb h7
 . by_cases hT:T l
   . rcases hF l x b hT hl hb with ⟨l0,x0,_,h3,h4⟩|h3
     . exact H.lo l0 x0 b h3 h4
     exact .inl oM
   obtain ⟨h3,h4⟩:=hsame l x hT hl;exact H.lo l x b h3 (by rw [<-h4];exact hb)
 . have aux:∀l l' x x',T l->¬T l'->lk h' l=some x->lk h' l'=some x'->F' l b->F' l' b->False:=fun l l' x x' hT hT' hl hl' hb hb'=>by
    obtain ⟨h3,h4⟩:=hsame l' x' hT' hl';rw [h4] at hb';rcases hF l x b hT hl hb with ⟨l0,x0,h5,h6,h7⟩|h5
    . exact H.dj l0 l' _ _ b (fun e=>hT' (e▸h5)) h6 h3 h7 hb'
    have:=(H.tr l' _ _ h3).lt b hb';omega
   by_cases hT:T l
   . by_cases hT':T l'
     . exact hdj l l' x x' b hT hT' hne hl hl' hb hb'
     exact aux l l' x x' hT hT' hl hl' hb hb'
   by_cases hT':T l'
   . exact aux l' l x' x hT' hT hl' hl hb' hb
   obtain ⟨h3,h4⟩:=hsame l x hT hl;obtain ⟨h5,h6⟩:=hsame l' x' hT' hl';exact H.dj l l' x x' b hne h3 h5 (by rw [<-h4];exact hb) (by rw [<-h6];exact hb')
 exact H.ext.tr hch fun b ⟨l,x,_,h1,h2⟩=>(H.lo l x b h1 h2).symm
def HoldsF.change {c:Ctx} {st:St} {F:Nat->BS} {a:Act} {w:World} (H:HoldsF c st F a w) (T:Nat->Prop) {h':List (Nat×Ent)} {F':Nat->BS} {w':World} {d:Nat} {v:Value} {p:PV} (hd:d<c.nt)
 (hch:Chg (fun b=>∃l x,T l/\lk st.heap l=some x/\F l b) w w')
 (hsame:∀l x,¬T l->lk h' l=some x->lk st.heap l=some x/\F' l=F l)
 (hF:∀l x b,T l->lk h' l=some x->F' l b->(∃l0 x0,T l0/\lk st.heap l0=some x0/\F l0 b)\/w.heap.size<=b)
 (hnew:(∀b,b<w.heap.size->mof c h' F' b->mof c st.heap F b)->∀l v p,T l->lk h' l=some (v,p)->Tr (mof c h' F') w' v p (F' l))
 (hdj:∀l l' x x' b,T l->T l'->l≠l'->lk h' l=some x->lk h' l'=some x'->F' l b->¬F' l' b)
 (hv:(∀b,b<w.heap.size->mof c h' F' b->mof c st.heap F b)->Shr (mof c h' F') w' v p) (hdw:c.dr->w.drawn<=w'.drawn:=by first|exact fun _=>Xd _|exact fun _=>VM _|assumption):
 HoldsF c ⟨put d (v,p) st.slots,h'⟩ F' (a.put (some d) v) w':=by
 obtain ⟨H1,hm,hN⟩:=H.toHeapF.change T hch hsame hF hnew hdj hdw
 refine ⟨H1,fun t u q ht=>?_,by simp [Act.put,H.size],H.df⟩
 rcases YC ht with ⟨rfl,he⟩|⟨hne,he⟩
 . cases he;exact ⟨by simp [Act.put,H.size,hd],hv hm⟩
 obtain ⟨h1,h2⟩:=H.sl t u q he;exact ⟨by simp [Act.put,hne,h1],h2.to hch (fun b _ h=>hN b h) hm⟩
def HoldsF.change0 {c:Ctx} {st:St} {F:Nat->BS} {a:Act} {w:World} (H:HoldsF c st F a w) (T:Nat->Prop) {h':List (Nat×Ent)} {F':Nat->BS} {w':World}
 (hch:Chg (fun b=>∃l x,T l/\lk st.heap l=some x/\F l b) w w')
 (hsame:∀l x,¬T l->lk h' l=some x->lk st.heap l=some x/\F' l=F l)
 (hF:∀l x b,T l->lk h' l=some x->F' l b->(∃l0 x0,T l0/\lk st.heap l0=some x0/\F l0 b)\/w.heap.size<=b)
 (hnew:(∀b,b<w.heap.size->mof c h' F' b->mof c st.heap F b)->∀l v p,T l->lk h' l=some (v,p)->Tr (mof c h' F') w' v p (F' l))
 (hdj:∀l l' x x' b,T l->T l'->l≠l'->lk h' l=some x->lk h' l'=some x'->F' l b->¬F' l' b) (hdw:c.dr->w.drawn<=w'.drawn:=by first|exact fun _=>Xd _|exact fun _=>VM _|assumption):
 HoldsF c ⟨st.slots,h'⟩ F' a w':=by
 obtain ⟨H1,hm,hN⟩:=H.toHeapF.change T hch hsame hF hnew hdj hdw
 refine ⟨H1,fun t u q ht=>?_,H.size,H.df⟩
 obtain ⟨h1,h2⟩:=H.sl t u q ht
 exact ⟨h1,h2.to hch (fun b _ h=>hN b h) hm⟩
def Sub:List (Nat×Ent)->List (Nat×Ent)->Prop
 |[],_=>True
 |(t,x)::l,m=>lk m t=some x/\Sub l m
def Sub.lk {l m:List (Nat×Ent)}:Sub l m->∀{t x},lk l t=some x->lk m t=some x:=by
 induction l with
 |nil=>intro _ t x h;simp [En.lk] at h
 | cons y l ih=>
   obtain ⟨k,y⟩:=y;intro h t x ht;simp only [En.lk] at ht
   cases hb:Nat.beq k t
   . rw [hb] at ht;exact ih h.2 ht
   rw [hb] at ht;have:k=t:=X0 hb;subst this
   cases ht;exact h.1
def HoldsF.less {c:Ctx} {st st':St} {F:Nat->BS} {a:Act} {w:World} (H:HoldsF c st F a w) (hs:∀t x,En.lk st'.slots t=some x->En.lk st.slots t=some x) (hh:∀t x,En.lk st'.heap t=some x->En.lk st.heap t=some x):HoldsF c st' F a w:=by
 have hm:∀b,mof c st'.heap F b->mof c st.heap F b:=by
  rintro b (h|⟨l,x,h1,h2⟩)
  . exact .inl h
  exact .inr ⟨l,x,hh l x h1,h2⟩
 exact ⟨⟨fun l v p h=>(H.tr l v p (hh _ _ h)).anti fun b _=>hm b,fun l x b h=>H.lo l x b (hh _ _ h),fun l l' x x' b hne h h'=>H.dj l l' x x' b hne (hh _ _ h) (hh _ _ h'),H.m0,H.ext,H.dw⟩,
  fun t v p h=>⟨(H.sl t v p (hs _ _ h)).1,(H.sl t v p (hs _ _ h)).2.anti fun b _=>hm b⟩,H.size,H.df⟩
def Holds.weaken {c:Ctx} {st st':St} {a:Act} {w:World} (H:Holds c st a w) (hs:Sub st'.slots st.slots) (hh:Sub st'.heap st.heap):Holds c st' a w:=by
 obtain ⟨F,H⟩:=H
 have hm:∀b,mof c st'.heap F b->mof c st.heap F b:=by
  rintro b (h|⟨l,x,h1,h2⟩)
  . exact .inl h
  exact .inr ⟨l,x,hh.lk h1,h2⟩
 exact ⟨F,⟨⟨fun l v p h=>(H.tr l v p (hh.lk h)).anti fun b _=>hm b,fun l x b h=>H.lo l x b (hh.lk h),fun l l' x x' b hne h h'=>H.dj l l' x x' b hne (hh.lk h) (hh.lk h'),H.m0,H.ext,H.dw⟩,
  fun t v p h=>⟨(H.sl t v p (hs.lk h)).1,(H.sl t v p (hs.lk h)).2.anti fun b _=>hm b⟩,H.size,H.df⟩⟩
def HoldsF.up {c:Ctx} {st:St} {F:Nat->BS} {a:Act} {w w':World} (H:HoldsF c st F a w) (hx:Ext w w') (hdw:c.dr->w.drawn<=w'.drawn:=by first|exact fun _=>Xd _|exact fun _=>VM _|assumption):HoldsF c st F a w':=
 ⟨⟨fun l v p h=>(H.tr l v p h).up hx,H.lo,H.dj,H.m0,H.ext.tr' hx.chg,fun h=>XI (H.dw h) (hdw h)⟩,fun t v p h=>⟨(H.sl t v p h).1,(H.sl t v p h).2.up hx⟩,H.size,H.df⟩
def HoldsF.put {c:Ctx} {st:St} {F:Nat->BS} {a:Act} {w:World} (H:HoldsF c st F a w) {d:Nat} {v:Value} {p:PV} (hd:d<c.nt) (hv:Shr (mof c st.heap F) w v p):
 HoldsF c ⟨En.put d (v,p) st.slots,st.heap⟩ F (a.put (some d) v) w:=by
 refine ⟨H.toHeapF,fun t u q ht=>?_,by simp [Act.put,H.size],H.df⟩
 rcases YC ht with ⟨rfl,he⟩|⟨hne,he⟩
 . cases he;exact ⟨by simp [Act.put,H.size,hd],hv⟩
 obtain ⟨h1,h2⟩:=H.sl t u q he;exact ⟨by simp [Act.put,hne,h1],h2⟩
structure RdF (M:BS) (st:St) (F:Nat->BS) (a:Act) (w:World):Prop where
 tr:∀l v p,lk st.heap l=some (v,p)->Tr M w v p (F l)
 sl:∀t v p,lk st.slots t=some (v,p)->a.tmps[t]? =some v/\Shr M w v p
def HoldsF.rd {c:Ctx} {st:St} {F:Nat->BS} {a:Act} {w:World} (H:HoldsF c st F a w):RdF (mof c st.heap F) st F a w:=⟨H.tr,H.sl⟩
def RdF.to {M N:BS} {st:St} {F:Nat->BS} {a:Act} {w W:World} (H:RdF M st F a w) (hc:Chg N w W) (hN:∀b,N b->M b) (hF:∀l x b,lk st.heap l=some x->F l b->¬N b):RdF M st F a W:=
 ⟨fun l v p h=>(H.tr l v p h).to hc (fun _ _ h=>h) (fun b _ h=>hN b h) (fun b hb=>hF l _ b h hb),fun t v p h=>⟨(H.sl t v p h).1,(H.sl t v p h).2.to hc (fun b _ h=>hN b h) (fun _ _ h=>h)⟩⟩
def YE (P:Program) (st:St) (o:Oper) (V:Value->Prop) (p:PV):Prop:=∀M F a w,RdF M st F a w->∃v,V v/\Shr M w v p/\
 ∀N W,Chg N w W->(∀b,N b->M b)->(∀l x b,lk st.heap l=some x->F l b->¬N b)->(execOp a.eval o).run P W= .ok (.value v) W
def YE.exact {P:Program} {st:St} {o:Oper} {v:Value} {p:PV} (h:∀M F a w,RdF M st F a w->Shr M w v p/\(execOp a.eval o).run P w= .ok (.value v) w):YE P st o (· =v) p:=
 fun M F a w H=>⟨v,rfl,(h M F a w H).1,fun N W hc hN hF=>(h M F a W (H.to hc hN hF)).2⟩
def ev (slots:List (Nat×Ent)):Operand->Option Ent
 | .tmp t=>lk slots t
 | .const v=>some (v, .val v)
 | .func f=>some (.func (.func f) #[] #[], .fn f [])
 | .global _=>none
def RdF.ev {M:BS} {st:St} {F:Nat->BS} {a:Act} {w:World} (H:RdF M st F a w) {x:Operand} {v:Value} {p:PV} (h:ev st.slots x=some (v,p)):a.eval x=v/\Shr M w v p:=by
 cases x with
 | tmp t=>
   obtain ⟨h1,h2⟩:=H.sl t v p h;exact ⟨by simp [Act.eval,VN,h1],h2⟩
 |const u=>simp [En.ev] at h;obtain ⟨rfl,rfl⟩:=h;exact ⟨rfl, .val _⟩
 |func f=>simp [En.ev] at h;obtain ⟨rfl,rfl⟩:=h;exact ⟨rfl, .fn f [] [] rfl (fun i v p h=>by simp at h)⟩
 |global g=>simp [En.ev] at h
def y1 {P:Program} {st:St} {o:Oper} {x:Operand} {v u:Value} {p q:PV} (hx:ev st.slots x=some (v,p)) (hq:∀M w,Shr M w v p->Shr M w u q) (h:∀(ρ:Operand->Value) w,ρ x=v->(execOp ρ o).run P w= .ok (.value u) w):YE P st o (· =u) q:=
 .exact fun M F a w H=>⟨hq M w (H.ev hx).2,h _ w (H.ev hx).1⟩
def y2 {P:Program} {st:St} {o:Oper} {x y:Operand} {v v' u:Value} {p p':PV} (hx:ev st.slots x=some (v,p)) (hy:ev st.slots y=some (v',p')) (h:∀(ρ:Operand->Value) w,ρ x=v->ρ y=v'->(execOp ρ o).run P w= .ok (.value u) w):YE P st o (· =u) (.val u):=
 .exact fun M F a w H=>⟨.val _,h _ w (H.ev hx).1 (H.ev hy).1⟩
def ZrQ {P:Program} {st:St} {o:Oper} {x:Operand} {v:Value} {p:PV} (ho:o.op= .move x) (hx:ev st.slots x=some (v,p)):YE P st o (· =v) p:=
 y1 hx (fun _ _ h=>h) fun ρ w h=>by simp [execOp,ho,h]
def Zmv {P:Program} {st:St} {o:Oper} {x:Operand} {v:Value} {p:PV} (ho:o.op= .assign x) (hx:ev st.slots x=some (v,p)):YE P st o (· =v) p:=
 y1 hx (fun _ _ h=>h) fun ρ w h=>by simp [execOp,ho,h]
def ZrR {P:Program} {st:St} {o:Oper} {c x y:Operand} {b:Bool} {q:PV} {v:Value} {p:PV} (ho:o.op= .pick c x y) (hc:ev st.slots c=some (.bool b,q)) (hx:ev st.slots (if b then x else y)=some (v,p)):YE P st o (· =v) p:=
 .exact fun M F a w H=>⟨(H.ev hx).2,by
  have h1:=(H.ev hc).1;have h2:=(H.ev hx).1;simp [execOp,ho,h1,asBool]
  cases b<;>simpa using h2⟩
def ZsW {P:Program} {st:St} {o:Oper} {x:Operand} {t:TypeId} {b:Bool} {q:PV} (ho:o.op= .unOp .not t x) (hx:ev st.slots x=some (.bool b,q)):YE P st o (· = .bool (!b)) (.val (.bool (!b))):=
 y1 hx (fun _ _ _=> .val _) fun ρ w h=>by simp [execOp,ho,h,Op.unary]
def ZsX {P:Program} {st:St} {o:Oper} {x:Operand} {t:TypeId} {a:Int} {q:PV} (ho:o.op= .unOp .neg t x) (hx:ev st.slots x=some (.int .i64 a,q)) (h1: -9223372036854775807<=a) (h2:a<=9223372036854775807):YE P st o (· = .int .i64 (-a)) (.val (.int .i64 (-a))):=
 y1 hx (fun _ _ _=> .val _) fun ρ w h=>by
  simp [execOp,ho,h,Op.unary,Op.intArith,Result.andThen];exact IntWalk.i64_in _ oM
section bin
variable {P:Program} {st:St} {o:Oper} {x y:Operand} {t t':TypeId} {q q':PV}
def ZsY {k:IntKind} {a b:Int} (ho:o.op= .binOp .lss t x y t') (hx:ev st.slots x=some (.int k a,q)) (hy:ev st.slots y=some (.int k b,q')):YE P st o (· = .bool (decide (a<b))) (.val (.bool (decide (a<b)))):=
 y2 hx hy fun ρ w h1 h2=>by simp [execOp,ho,h1,h2,eqGuard,binOp,Op.intCmp]
def ZsZ {k:IntKind} {a b:Int} (ho:o.op= .binOp .leq t x y t') (hx:ev st.slots x=some (.int k a,q)) (hy:ev st.slots y=some (.int k b,q')):YE P st o (· = .bool (decide (a<=b))) (.val (.bool (decide (a<=b)))):=
 y2 hx hy fun ρ w h1 h2=>by simp [execOp,ho,h1,h2,eqGuard,binOp,Op.intCmp]
def Zs0 {k:IntKind} {a b:Int} (ho:o.op= .binOp .gtr t x y t') (hx:ev st.slots x=some (.int k a,q)) (hy:ev st.slots y=some (.int k b,q')):YE P st o (· = .bool (decide (b<a))) (.val (.bool (decide (b<a)))):=
 y2 hx hy fun ρ w h1 h2=>by simp [execOp,ho,h1,h2,eqGuard,binOp,Op.intCmp]
def Zs1 {k:IntKind} {a b:Int} (ho:o.op= .binOp .geq t x y t') (hx:ev st.slots x=some (.int k a,q)) (hy:ev st.slots y=some (.int k b,q')):YE P st o (· = .bool (decide (b<=a))) (.val (.bool (decide (b<=a)))):=
 y2 hx hy fun ρ w h1 h2=>by simp [execOp,ho,h1,h2,eqGuard,binOp,Op.intCmp]
def Zs2 {k:IntKind} {a b:Int} (ho:o.op= .binOp .eql t x y t') (hx:ev st.slots x=some (.int k a,q)) (hy:ev st.slots y=some (.int k b,q')):YE P st o (· = .bool (decide (a=b))) (.val (.bool (decide (a=b)))):=
 y2 hx hy fun ρ w h1 h2=>by simp [execOp,ho,h1,h2,eqGuard,binOp,Op.intCmp];rfl
def Zs3 {k:IntKind} {a b:Int} (ho:o.op= .binOp .neq t x y t') (hx:ev st.slots x=some (.int k a,q)) (hy:ev st.slots y=some (.int k b,q')):YE P st o (· = .bool (decide (a≠b))) (.val (.bool (decide (a≠b)))):=
 y2 hx hy fun ρ w h1 h2=>by
  simp [execOp,ho,h1,h2,eqGuard,binOp,Op.intCmp,bne];rfl
def Zru {a b:Int} (ho:o.op= .binOp .add t x y t') (hx:ev st.slots x=some (.int .i64 a,q)) (hy:ev st.slots y=some (.int .i64 b,q')) (h1: -9223372036854775808<=a+b) (h2:a+b<=9223372036854775807):YE P st o (· = .int .i64 (a+b)) (.val (.int .i64 (a+b))):=
 y2 hx hy fun ρ w h3 h4=>by
  simp [execOp,ho,h3,h4,eqGuard,binOp,Op.intArith];exact IntWalk.i64_in _ oM
def Zrv {a b:Int} (ho:o.op= .binOp .sub t x y t') (hx:ev st.slots x=some (.int .i64 a,q)) (hy:ev st.slots y=some (.int .i64 b,q')) (h1: -9223372036854775808<=a-b) (h2:a-b<=9223372036854775807):YE P st o (· = .int .i64 (a-b)) (.val (.int .i64 (a-b))):=
 y2 hx hy fun ρ w h3 h4=>by
  simp [execOp,ho,h3,h4,eqGuard,binOp,Op.intArith];exact IntWalk.i64_in _ oM
def Zrw {a b:Int} (ho:o.op= .binOp .mul t x y t') (hx:ev st.slots x=some (.int .i64 a,q)) (hy:ev st.slots y=some (.int .i64 b,q')) (h1: -9223372036854775808<=a*b) (h2:a*b<=9223372036854775807):YE P st o (· = .int .i64 (a*b)) (.val (.int .i64 (a*b))):=
 y2 hx hy fun ρ w h3 h4=>by
  simp [execOp,ho,h3,h4,eqGuard,binOp,Op.intArith];exact IntWalk.i64_in _ oM
def ZrS {a b:BA} (ho:o.op= .binOp .eql t x y t') (hx:ev st.slots x=some (.string a,q)) (hy:ev st.slots y=some (.string b,q')):YE P st o (· = .bool (a.toList==b.toList)) (.val (.bool (a.toList==b.toList))):=
 y2 hx hy fun ρ w h1 h2=>by simp [execOp,ho,h1,h2,eqGuard,binOp,Op.stringOp]
def ZrT {a b:BA} (ho:o.op= .binOp .neq t x y t') (hx:ev st.slots x=some (.string a,q)) (hy:ev st.slots y=some (.string b,q')):YE P st o (· = .bool (!(a.toList==b.toList))) (.val (.bool (!(a.toList==b.toList)))):=
 y2 hx hy fun ρ w h1 h2=>by simp [execOp,ho,h1,h2,eqGuard,binOp,Op.stringOp]
def ZrU {a b:BA} (ho:o.op= .binOp .lss t x y t') (hx:ev st.slots x=some (.string a,q)) (hy:ev st.slots y=some (.string b,q')):YE P st o (· = .bool (Op.bytesLess a.toList b.toList)) (.val (.bool (Op.bytesLess a.toList b.toList))):=
 y2 hx hy fun ρ w h1 h2=>by simp [execOp,ho,h1,h2,eqGuard,binOp,Op.stringOp]
def ZrV {a b:BA} (ho:o.op= .binOp .geq t x y t') (hx:ev st.slots x=some (.string a,q)) (hy:ev st.slots y=some (.string b,q')):YE P st o (· = .bool (!Op.bytesLess a.toList b.toList)) (.val (.bool (!Op.bytesLess a.toList b.toList))):=
 y2 hx hy fun ρ w h1 h2=>by simp [execOp,ho,h1,h2,eqGuard,binOp,Op.stringOp]
def ZrW {a b:BA} (ho:o.op= .binOp .gtr t x y t') (hx:ev st.slots x=some (.string a,q)) (hy:ev st.slots y=some (.string b,q')):YE P st o (· = .bool (!(Op.bytesLess a.toList b.toList||a.toList==b.toList))) (.val (.bool (!(Op.bytesLess a.toList b.toList||a.toList==b.toList)))):=
 y2 hx hy fun ρ w h1 h2=>by simp [execOp,ho,h1,h2,eqGuard,binOp,Op.stringOp]
def Zpv (hu:P.underlying t=some .bool) (a b:Bool) (w:World):(Op.equal t (.bool a) (.bool b)).run P w= .ok (a==b) w:=by
 unfold Op.equal Op.maxDepth
 rw [show (10000:Nat)=9999+1 from rfl,Op.equalIn]
 simp [run_underlying hu]
def ZrX {a b:Bool} (hu:P.underlying t=some .bool) (ho:o.op= .binOp .eql t x y t') (hx:ev st.slots x=some (.bool a,q)) (hy:ev st.slots y=some (.bool b,q')):YE P st o (· = .bool (a==b)) (.val (.bool (a==b))):=
 y2 hx hy fun ρ w h1 h2=>by simp [execOp,ho,h1,h2,eqGuard,binOp,Zpv hu]
def Zpw {s:BA} {i:Int} {c:UInt8} {k:IntKind} (hu:P.underlying t=some .string) (ho:o.op= .index t x y) (hx:ev st.slots x=some (.string s,q)) (hy:ev st.slots y=some (.int k i,q')) (hi:0<=i) (hc:s.data[i.toNat]? =some c):YE P st o (· = .int .u8 c.toNat) (.val (.int .u8 c.toNat)):=
 y2 hx hy fun ρ w h1 h2=>by
  have:s[i.toNat]? =some c:=by
   rw [<-hc];show (if h:i.toNat<s.size then some (s.get i.toNat h) else none)=_;split
   . rename_i h;rw [Array.getElem?_eq_getElem (show i.toNat<s.data.size from h)];rfl
   rename_i h;rw [VD (Nat.le_of_not_lt h)]
  simp [execOp,ho,h1,h2,Instr.index,asIntOf,run_underlying hu,hi,this]
end bin
def Zmw {P:Program} {st:St} {o:Oper} {x:Operand} {s d:TypeId} {k k':IntKind} {a:Int} {q:PV} {ds:TypeDesc} (hs:P.underlying s=some ds) (hd:P.underlying d=some (.int k')) (ho:o.op= .convert s d x) (hx:ev st.slots x=some (.int k a,q)) (hw:k'.wrap a=a):YE P st o (· = .int k' a) (.val (.int k' a)):=
 y1 hx (fun _ _ _=> .val _) fun ρ w h=>by
  simp [execOp,ho,h,convert,run_underlying hs,run_underlying hd,Conv.intToInt,hw]
def ZrY {P:Program} {st:St} {o:Oper} {x:Operand} {t:TypeId} {s:BA} {q:PV} (ht:P.underlying t=some .string) (ho:o.op= .call {callee:= .builtin .len,args:= #[x],argTypes:= #[t]}) (hx:ev st.slots x=some (.string s,q)):YE P st o (· = .int .i64 s.size) (.val (.int .i64 s.size)):=
 y1 hx (fun _ _ _=> .val _) fun ρ w h=>by
  simp [execOp,ho,h,resolve,invoke,builtin,Builtin.len_,run_underlying ht,goInt]
def ZjV {P:Program} {st:St} {o:Oper} {x:Operand} {i:Nat} {vs:List Value} {ps:List PV} {v:Value} {p:PV} (ho:o.op= .extract x i) (hx:ev st.slots x=some (.tuple vs.toArray, .tup ps)) (hv:vs[i]? =some v) (hp:ps[i]? =some p):YE P st o (· =v) p:=
 .exact fun M F a w H=>by
  obtain ⟨h1,h2⟩:=H.ev hx;generalize hu:Value.tuple vs.toArray=u at h2
  cases h2 with
  | tup vs' ps' hl h=>
    (have:vs'=vs:=by injection hu with hu;simpa using hu.symm);subst this;refine ⟨h i v p hv hp,?_⟩;simp [execOp,ho,h1,Instr.extract,hv]
def sbase:Value->Value
 | .slice (some a) _ _=> .pointer (some a)
 |v=>v
def padd:Value->Nat->Value
 | .pointer (some a),j=> .pointer (some ⟨a.block,a.off+j,none⟩)
 |v,_=>v
def Kk (b o j:Nat):(⟨b,o,none⟩:Addr).add j=⟨b,o+j,none⟩:=by
 unfold Addr.add;split
 . rename_i h;rw [h,VO]
 rfl
def isSh:PV->Bool
 | .val _| .sl _ _| .sptr _ _| .smap _| .fn _ _=>true
 |_=>false
def vOf:PV->Value->Prop
 | .val v=>fun u=>u=v
 |_=>fun _=>True
def Tr.sh {M:BS} {w:World} {v:Value} {p:PV} {F:BS} (h:Tr M w v p F) (hp:isSh p=true):Shr M w v p:=by
 cases h with
 |shr h _=>exact h
 |_=>simp [isSh] at hp
def Shr.vOf {M:BS} {w:World} {v:Value} {p:PV} (h:Shr M w v p):vOf p v:=by
 cases h with
 |val v=>exact rfl
 |_=>exact trivial
def Tr.row {M:BS} {w:World} {h:Value} {e k n:Nat} {cs:List PV} {F:BS} (H:Tr M w h (.own e k n cs) F):∃(xs:List Value) (Fs:Nat->BS),w.ownsRow 0 e k h n xs/\cs.length=xs.length/\
 (∀(i:Nat) (x:Value) (p:PV),xs[i]? =some x->cs[i]? =some p->Tr M w x p (Fs i))/\(∀i j b,i<cs.length->j<cs.length->i≠j->Fs i b->¬Fs j b)/\(∀i b,i<cs.length->Fs i b->h.ownBlock≠some b)/\
 (∀b,F b↔(h.ownBlock=some b\/∃i,i<cs.length/\Fs i b)):=by
 cases H with
 |shr h _=>cases h
 |own xs Fs hrow hl hT hd hb hF=>exact ⟨xs,Fs,hrow,hl,hT,hd,hb,hF⟩
def SlT (P:Program) (t e k:Nat):Bool:=(match P.underlying t with|some (.slice e')=>Nat.beq e' e|_=>false)&&(match P.info? e with|some i=>Nat.beq i.size k|none=>false)
def SlT.und {P:Program} {t e k:Nat} (h:SlT P t e k=true):P.underlying t=some (.slice e):=by
 simp only [SlT,Xf] at h
 have h1:=h.1
 split at h1
 . rename_i e' he;rw [he,X0 h1]
 cases h1
def SlT.size {P:Program} {t e k:Nat} (h:SlT P t e k=true) (w:World):(sizeOf e).run P w= .ok k w:=by
 simp only [SlT,Xf] at h
 have h1:=h.2
 split at h1
 . rename_i i hi;have:=X0 h1;simp [sizeOf,typeInfo,hi,this]
 cases h1
def NoAgg (P:Program) (t:Nat):Bool:=match P.underlying t with
 |some (.struct _)|some (.array _ _)|none=>false
 |some _=>true
def NoAgg.run {P:Program} {t:Nat} (h:NoAgg P t=true) (w:World):(isAgg t).run P w= .ok false w:=by
 unfold NoAgg at h
 unfold isAgg
 cases hu:P.underlying t with
 |none=>rw [hu] at h;simp at h
 | some d=>
   rw [hu] at h;simp only [Sem.run_bind,run_underlying hu,Result.andThen_ok]
   cases d<;>simp at h ⊢
def Zs4 (P:Program) (t:Nat):Bool:=match P.underlying t with|some (.struct _)=>true|_=>false
def AggT (P:Program) (t k:Nat):Bool:=(match P.underlying t with|some (.struct _)=>true|some (.array _ _)=>true|_=>false)&&(match P.info? t with|some i=>Nat.beq i.size k|none=>false)
def AggT.run {P:Program} {t k:Nat} (h:AggT P t k=true) (w:World):(isAgg t).run P w= .ok true w:=by
 simp only [AggT,Xf] at h
 have h1:=h.1
 split at h1
 . rename_i fs hf;simp [isAgg,run_underlying hf]
 . rename_i fs e hf;simp [isAgg,run_underlying hf]
 cases h1
def AggT.size {P:Program} {t k:Nat} (h:AggT P t k=true) (w:World):(sizeOf t).run P w= .ok k w:=by
 simp only [AggT,Xf] at h
 have h1:=h.2
 split at h1
 . rename_i i hi;have:=X0 h1;simp [sizeOf,typeInfo,hi,this]
 cases h1
def FldT (P:Program) (s f o:Nat):Bool:=match P.underlying s with
 | some (.struct fs)=>match fs[f]? with
   |some fd=>Nat.beq fd.offset o&&(match P.info? fd.type with|some i=> !Nat.beq i.size 0|none=>false)
   |none=>false
 |_=>false
def FldT.run {P:Program} {s f o:Nat} (h:FldT P s f o=true) (b i:Nat) (w:World):(Instr.fieldAt s (.pointer (some ⟨b,i,none⟩)) f).run P w= .ok (.pointer (some ⟨b,i+o,none⟩)) w:=by
 unfold FldT at h
 split at h
 . rename_i fs hfs;split at h
   . rename_i fd hfd;rw [Xf] at h;obtain ⟨h1,h2⟩:=h;split at h2
     . rename_i inf hi;have ho:=X0 h1;(have hz:inf.size≠0:=fun hz=>by rw [hz] at h2;simp at h2);simp [Instr.fieldAt,run_underlying hfs,hfd,Instr.sureAddr,fieldPlace,sizeOf,typeInfo,hi,hz,Kk,ho]
     cases h2
   cases h
 cases h
section
variable {P:Program} {st:St} {o:Oper}
def Ri {t e k:Nat} (hT:SlT P t e k=true) {b off n c:Nat} {kd:IntKind} {i:Int} (h0:0<=i) (h1:i<n) (w:World):(Instr.indexAt t (.slice (some ⟨b,off,none⟩) n c) (.int kd i)).run P w= .ok (.pointer (some ⟨b,off+i.toNat*k,none⟩)) w:=by
 simp [Instr.indexAt,asIntOf,run_underlying (SlT.und hT),h0,h1,SlT.size hT,Kk]
def ZbK {t e k n:Nat} {x y:Operand} {v:Value} {cs:List PV} {q:PV} {kd:IntKind} {i:Int} (hT:SlT P t e k=true) (ho:o.op= .indexAddr t x y) (hx:ev st.slots x=some (v, .sl n cs)) (hy:ev st.slots y=some (.int kd i,q)) (h0:0<=i) (h1:i<n):
 YE P st o (· =padd (sbase v) (i.toNat*k)) (.sptr (i.toNat*k) cs):=
 .exact fun M F a w H=>by
  obtain ⟨hv,hs⟩:=H.ev hx;have hi:=(H.ev hy).1
  cases hs with
  |emp a c=>simp at h1;omega
  | sl b off n c cs vs hn hc hcell hT'=>
    refine ⟨.sptr b off (i.toNat*k) cs vs hcell hT',?_⟩;simp [execOp,ho,hv,hi,Ri hT h0 h1,sbase,padd]
def ZgG {t e k n:Nat} {x y:Operand} {v:Value} {cs:List PV} {q:PV} {kd:IntKind} {i:Nat} (hT:SlT P t e k=true) (ho:o.op= .indexAddr t x y) (hx:ev st.slots x=some (v, .sl n cs)) (hy:ev st.slots y=some (.int kd (i:Int),q)) (h1:i<n):
 YE P st o (· =padd (sbase v) (i*k)) (.sptr (i*k) cs):=by
 have:=ZbK hT ho hx hy oM oM
 rw [XH] at this
 exact this
def GM {M:BS} {w:World} {h:Value} {e k n:Nat} {cs:List PV} {F:BS} (H:Tr M w h (.own e k n cs) F) (hn:0<n):∃g cap,h= .slice (some ⟨g,0,none⟩) n cap/\n<=cap/\cap<=maxLen/\g<w.heap.size:=by
 obtain ⟨xs,Fs,hrow,_⟩:=H.row
 rcases Kv hrow with ⟨_,h0,_⟩|h1
 . omega
 exact h1
def ZbL {t e k e' k' n:Nat} {x y:Operand} {h:Value} {p q:PV} {cs:List PV} {kd:IntKind} {i:Int} (l:Nat) (hT:SlT P t e k=true) (ho:o.op= .indexAddr t x y) (hx:ev st.slots x=some (h,p)) (hy:ev st.slots y=some (.int kd i,q)) (hl:lk st.heap l=some (h, .own e' k' n cs)) (h0:0<=i) (h1:i<n):
 YE P st o (· =padd (sbase h) (i.toNat*k)) (.val (padd (sbase h) (i.toNat*k))):=
 .exact fun M F a w H=>by
  have hv:=(H.ev hx).1;have hi:=(H.ev hy).1;obtain ⟨g,cap,rfl,_⟩:=GM (H.tr l _ _ hl) oM;refine ⟨.val _,?_⟩;simp [execOp,ho,hv,hi,Ri hT h0 h1,sbase,padd]
def ZgH {t e k e' k' n:Nat} {x y:Operand} {h:Value} {p q:PV} {cs:List PV} {kd:IntKind} {i:Nat} (l:Nat) (hT:SlT P t e k=true) (ho:o.op= .indexAddr t x y) (hx:ev st.slots x=some (h,p)) (hy:ev st.slots y=some (.int kd (i:Int),q)) (hl:lk st.heap l=some (h, .own e' k' n cs)) (h1:i<n):
 YE P st o (· =padd (sbase h) (i*k)) (.val (padd (sbase h) (i*k))):=by
 have:=ZbL l hT ho hx hy hl oM oM
 rw [XH] at this
 exact this
def ZjW {s f fo j:Nat} {x:Operand} {v:Value} {cs:List PV} (hT:FldT P s f fo=true) (ho:o.op= .fieldAddr s x f) (hx:ev st.slots x=some (v, .sptr j cs)):
 YE P st o (· =padd v fo) (.sptr (j+fo) cs):=
 .exact fun M F a w H=>by
  obtain ⟨hv,hs⟩:=H.ev hx
  cases hs with
  | sptr b off j cs vs hcell hT'=>
    refine ⟨?_,?_⟩
    . have:=Shr.sptr (M:=M) (w:=w) b off (j+fo) cs vs hcell hT';rw [<-Vy] at this;exact this
    simp [execOp,ho,hv,FldT.run hT,padd]
def ZjX {s f fo j e k n:Nat} {x:Operand} {h:Value} {p:PV} {cs:List PV} (l:Nat) (hT:FldT P s f fo=true) (ho:o.op= .fieldAddr s x f) (hx:ev st.slots x=some (padd (sbase h) j,p)) (hl:lk st.heap l=some (h, .own e k n cs)) (hn:0<n):
 YE P st o (· =padd (sbase h) (j+fo)) (.val (padd (sbase h) (j+fo))):=
 .exact fun M F a w H=>by
  have hv:=(H.ev hx).1;obtain ⟨g,cap,rfl,_⟩:=GM (H.tr l _ _ hl) hn;refine ⟨.val _,?_⟩;simp only [sbase,padd] at hv ⊢;simp [execOp,ho,hv,FldT.run hT,Vy]
def Zd7 {t j:Nat} {x:Operand} {v:Value} {cs:List PV} {p:PV} (hT:NoAgg P t=true) (ho:o.op= .load t x) (hx:ev st.slots x=some (v, .sptr j cs)) (hp:cs[j]? =some p):
 YE P st o (vOf p) p:=fun M F a w H=>by
 obtain ⟨hv,hs⟩:=H.ev hx
 cases hs with
 | sptr b off j cs vs hcell hT'=>
   have hS:=hT' j p hp;obtain ⟨hc1,hc2⟩:=hcell j (Zd hp);refine ⟨vs j,hS.vOf,hS,fun N W hch hN hF=>?_⟩;have:=Py hch (fun hn=>hc2 (hN _ hn)) hc1;simp [execOp,ho,hv,Instr.loadAt,Instr.sureAddr,loadVar,NoAgg.run hT,load,Sem.run,this]
def Zd8 {t j e k n:Nat} {x:Operand} {h:Value} {q:PV} {cs:List PV} {p:PV} (l:Nat) (hT:NoAgg P t=true) (ho:o.op= .load t x) (hx:ev st.slots x=some (padd (sbase h) j,q)) (hl:lk st.heap l=some (h, .own e k n cs)) (hp:cs[j]? =some p) (hsh:isSh p=true):
 YE P st o (vOf p) p:=fun M F a w H=>by
 have hv:=(H.ev hx).1
 obtain ⟨xs,Fs,hrow,hlen,hTr,hd,hb,hF'⟩:=(H.tr l _ _ hl).row
 have hj:=Zd hp
 rcases Kv hrow with ⟨_,_,rfl⟩|⟨g,cap,rfl,h1,h2,h3⟩
 . simp at hlen;rw [hlen] at hj;simp at hj
 obtain ⟨y,hy⟩:=Wc hp hlen
 have hS:=(hTr j y p hy hp).sh hsh
 refine ⟨y,hS.vOf,hS,fun N W hch hN hF=>?_⟩
 have:=Py hch (hF l _ g hl ((hF' g).2 (.inl rfl))) (JC hrow hy)
 simp only [sbase,padd,XC] at hv
 simp [execOp,ho,hv,Instr.loadAt,Instr.sureAddr,loadVar,NoAgg.run hT,load,Sem.run,this]
def ZjY {t k j:Nat} {x:Operand} {v:Value} {cs:List PV} (hT:AggT P t k=true) (ho:o.op= .load t x) (hx:ev st.slots x=some (v, .sptr j cs)) (hp:j+k<=cs.length):
 YE P st o (fun _=>True) (.agg ((cs.drop j).take k)):=fun M F a w H=>by
 obtain ⟨hv,hs⟩:=H.ev hx
 cases hs with
 | sptr b off j cs vs hcell hT'=>
   refine ⟨.agg ((List.range k).map fun i=>vs (j+i)).toArray,trivial, .agg _ _ (by simp;omega) (fun i u p hu hp'=>?_),fun N W hch hN hF=>?_⟩
   . (have hi:i<k:=by have:=Zd hu;simpa using this);simp [hi] at hu;subst hu;rw [X1 hi,Vn] at hp';exact hT' _ p hp'
   have hcl:∀i u,((List.range k).map fun i=>vs (j+i))[i]? =some u->W.cell? ((⟨b,off+j,none⟩:Addr).add i)=some u:=fun i u hu=>by
    (have hi:i<k:=by have:=Zd hu;simpa using this);simp [hi] at hu;subst hu;obtain ⟨hc1,hc2⟩:=hcell (j+i) oM;rw [Kk,Vy];exact Py hch (fun hn=>hc2 (hN _ hn)) hc1
   have:=run_loadCells_list (P:=P) (w:=W) ⟨b,off+j,none⟩ _ hcl;simp only [Xc,VP] at this;simp [execOp,ho,hv,Instr.loadAt,Instr.sureAddr,loadVar,AggT.run hT,AggT.size hT,this]
def ZjZ {t k j e k' n:Nat} {x:Operand} {h:Value} {q:PV} {cs:List PV} (l:Nat) (hT:AggT P t k=true) (ho:o.op= .load t x) (hx:ev st.slots x=some (padd (sbase h) j,q)) (hl:lk st.heap l=some (h, .own e k' n cs)) (hp:j+k<=cs.length) (hsh:((cs.drop j).take k).all isSh=true) (hk:0<k):
 YE P st o (fun _=>True) (.agg ((cs.drop j).take k)):=fun M F a w H=>by
 have hv:=(H.ev hx).1
 obtain ⟨xs,Fs,hrow,hlen,hTr,hd,hb,hF'⟩:=(H.tr l _ _ hl).row
 rcases Kv hrow with ⟨_,_,rfl⟩|⟨g,cap,rfl,h1,h2,h3⟩
 . simp at hlen;rw [hlen] at hp;simp at hp;omega
 refine ⟨.agg ((xs.drop j).take k).toArray,trivial, .agg _ _ (by simp;omega) (fun i u p hu hp'=>?_),fun N W hch hN hF=>?_⟩
 . have hi:i<k:=by have:=Zd hu;simp at this;omega
   have hps:=Xj.1 hsh p (Xb hp');rw [X1 hi,Vn] at hp' hu;exact (hTr _ u p hu hp').sh hps
 have hcl:∀i u,((xs.drop j).take k)[i]? =some u->W.cell? ((⟨g,0+j,none⟩:Addr).add i)=some u:=fun i u hu=>by
  (have hi:i<k:=by have:=Zd hu;simp at this;omega);rw [X1 hi,Vn] at hu;rw [Kk,XC];exact Py hch (hF l _ g hl ((hF' g).2 (.inl rfl))) (JC hrow hu)
 have:=run_loadCells_list (P:=P) (w:=W) ⟨g,0+j,none⟩ _ hcl;rw [show ((xs.drop j).take k).length=k by simp;omega] at this;simp only [sbase,padd,XC] at hv this;simp [execOp,ho,hv,Instr.loadAt,Instr.sureAddr,loadVar,AggT.run hT,AggT.size hT,this]
def Zj0 {t e k n:Nat} {x:Operand} {v:Value} {cs:List PV} (hT:SlT P t e k=true) (ho:o.op= .call {callee:= .builtin .len,args:= #[x],argTypes:= #[t]}) (hx:ev st.slots x=some (v, .sl n cs)):YE P st o (· = .int .i64 n) (.val (.int .i64 n)):=
 .exact fun M F a w H=>by
  obtain ⟨hv,hs⟩:=H.ev hx
  cases hs with
  |emp a c=>exact ⟨.val _,by simp [execOp,ho,hv,resolve,invoke,builtin,Builtin.len_,run_underlying (SlT.und hT),goInt]⟩
  |sl b off n c cs vs hn hc hcell hT'=>exact ⟨.val _,by simp [execOp,ho,hv,resolve,invoke,builtin,Builtin.len_,run_underlying (SlT.und hT),goInt]⟩
def Zj1 {t e k e' k' n:Nat} {x:Operand} {h:Value} {p:PV} {cs:List PV} (l:Nat) (hT:SlT P t e k=true) (ho:o.op= .call {callee:= .builtin .len,args:= #[x],argTypes:= #[t]}) (hx:ev st.slots x=some (h,p)) (hl:lk st.heap l=some (h, .own e' k' n cs)):YE P st o (· = .int .i64 n) (.val (.int .i64 n)):=
 .exact fun M F a w H=>by
  have hv:=(H.ev hx).1;obtain ⟨xs,Fs,hrow,hlen,_⟩:=(H.tr l _ _ hl).row;rcases Kv hrow with ⟨rfl,rfl,_⟩|⟨g,cap,rfl,h1,h2,h3⟩
  . exact ⟨.val _,by simp [execOp,ho,hv,resolve,invoke,builtin,Builtin.len_,run_underlying (SlT.und hT),goInt]⟩
  exact ⟨.val _,by simp [execOp,ho,hv,resolve,invoke,builtin,Builtin.len_,run_underlying (SlT.und hT),goInt]⟩
end
def aL (P:Program) (c:Ctx) (ops:Array Oper) (Q:Exit->Act->World->Prop) (l:List Oper) (st:St):Prop:=∀a w,Holds c st a w->wpList P ops Q l a w
def Yb (ops:Array Oper) (slots:List (Nat×Ent)) (o:Oper):Option Bool:=match o.guard with
 |none=>some true
 | some (j,want)=>match (ops[j]?).bind (·.dst) with
   | some d=>match lk slots d with
     |some (.bool b,_)=>some (b==want)
     |some (.tuple _,_)=>some false
     |_=>none
   |none=>none
def LA {M:BS} {sL hP:List (Nat×Ent)} {F:Nat->BS} {a:Act} {w:World} (H:RdF M (⟨sL,hP⟩:St) F a w) {ops:Array Oper} {o:Oper} {b:Bool} (h:Yb ops sL o=some b):Region.wanted o (yielded ops a.tmps)=b:=by
 unfold Yb at h
 unfold Region.wanted
 split at h
 . rename_i hg;rw [hg];cases h;rfl
 rename_i j want hg;rw [hg];split at h
 . rename_i d hd;split at h
   . rename_i b' q hq
     cases h;have:=(H.sl d _ _ hq).1;simp only [yielded,hd,Option.bind_some,this];simp
   . rename_i b' q hq
     cases h;have:=(H.sl d _ _ hq).1;simp only [yielded,hd,Option.bind_some,this];rfl
   cases h
 cases h
variable {P:Program} {c:Ctx} {ops:Array Oper} {Q:Exit->Act->World->Prop} {rest:List Oper} {sL hP:List (Nat×Ent)} {o:Oper}
def Zpx (d:Nat) (hw:Yb ops sL o=some false) (hd:o.dst=some d) (hn:d<c.nt) (k:aL P c ops Q rest ⟨put d (undef, .val undef) sL,hP⟩):aL P c ops Q (o::rest) (⟨sL,hP⟩:St):=fun a w ⟨F,H⟩=>by
 have h1:=LA H.rd hw
 unfold wpList
 rw [h1,Qc sM,hd]
 exact k _ _ ⟨F,H.put hn (.val _)⟩
def W1 (hw:Yb ops sL o=some true) (h:∀a w F,HoldsF c (⟨sL,hP⟩:St) F a w->o.wp P a w (wpList P ops Q rest) Q):aL P c ops Q (o::rest) (⟨sL,hP⟩:St):=fun a w ⟨F,H⟩=>by
 have h1:=LA H.rd hw
 unfold wpList
 rw [h1,Qd rfl]
 exact .inl (h a w F H)
def Zbu {V:Value->Prop} {p:PV} (d:Nat) (hw:Yb ops sL o=some true) (hd:o.dst=some d) (hn:d<c.nt) (hy:YE P (⟨sL,hP⟩:St) o V p) (k:∀v,V v->aL P c ops Q rest ⟨put d (v,p) sL,hP⟩):aL P c ops Q (o::rest) (⟨sL,hP⟩:St):=
 W1 hw fun a w F H=>by
  obtain ⟨v,hV,hS,hr⟩:=hy _ F a w H.rd;have:=hr (fun _=>False) w (Chg.rfl' _ _) (fun _ h=>h.elim) (fun _ _ _ _ _ h=>h);unfold Oper.wp;rw [this,Oper.upon_value,hd];exact k v hV _ _ ⟨F,H.put hn hS⟩
def Ztx {v:Value} {p:PV} (d:Nat) (hw:Yb ops sL o=some true) (hd:o.dst=some d) (hn:d<c.nt) (hy:YE P (⟨sL,hP⟩:St) o (· =v) p) (k:aL P c ops Q rest ⟨put d (v,p) sL,hP⟩):aL P c ops Q (o::rest) (⟨sL,hP⟩:St):=
 Zbu d hw hd hn hy fun u hu=>by cases hu;exact k
def Zd9 {l:List Oper} (t:Nat) {b:Bool} {q:PV} (hx:lk sL t=some (.bool b,q)) (ht:b=true->aL P c ops Q l ⟨put t (.bool true, .val (.bool true)) sL,hP⟩) (hf:b=false->aL P c ops Q l ⟨put t (.bool false, .val (.bool false)) sL,hP⟩):aL P c ops Q l (⟨sL,hP⟩:St):=fun a w ⟨F,H⟩=>by
 have key:HoldsF c ⟨put t (.bool b, .val (.bool b)) sL,hP⟩ F a w:=⟨H.toHeapF,fun s u r hs=>by
  rcases YC hs with ⟨rfl,e⟩|⟨_,e⟩
  . cases e;exact ⟨(H.sl _ _ _ hx).1, .val _⟩
  . exact H.sl s u r e,H.size,H.df⟩
 cases b
 . exact hf rfl a w ⟨F,key⟩
 exact ht rfl a w ⟨F,key⟩
def K0 {F:Nat->BS} {a:Act} {w:World} (H:HoldsF c (⟨sL,hP⟩:St) F a w) {l d:Nat} {vs:List Value} {ps:List PV} {e k n cap:Nat} {cur:Array Value} {v:Value} (hl:lk hP l=none) (hd:d<c.nt)
 (hvs:vs.length=ps.length) (hsh:∀(i:Nat) (x:Value) (q:PV),vs[i]? =some x->ps[i]? =some q->Shr (mof c hP F) w x q)
 (hn:vs.length=n*k) (hcap:n<=cap) (hcm:cap<=maxLen) (hcs:cur.size=cap*k) (htk:cur.toList.take (n*k)=vs):
 ∃F',HoldsF c ⟨put d (v, .val v) sL,put l (.slice (some ⟨w.heap.size,0,none⟩) n cap, .own e k n ps) hP⟩ F' (a.put (some d) v) (w.alloc (.cells cur e)):=by
 refine ⟨fun l'=>if l'=l then (fun b=>b=w.heap.size) else F l',?_⟩
 have hx:Ext w (w.alloc (.cells cur e)):=Ext.alloc _ _
 refine H.change (fun l'=>l'=l) hd hx.chg (fun l' x hne hx'=>?_) (fun l' x b hT hx' hb=>?_) (fun hm l' u q hT hx'=>?_) (fun l1 l2 _ _ _ h1 h2 hne=>Qe (h1.trans h2.symm) hne) (fun hm=> .val _)
 . rcases YC hx' with ⟨e1,_⟩|⟨_,e1⟩
   . exact Qe e1.symm hne
   exact ⟨e1,by simp [hne]⟩
 . subst hT;simp only [if_true] at hb;exact .inr (by rw [hb];exact Xd _)
 subst hT;rcases YC hx' with ⟨_,e1⟩|⟨e1,_⟩
 . cases e1;simp only [if_true];refine .own vs (fun _ _=>False) ⟨hn, .inr ⟨w.heap.size,cap,cur,rfl,Xg _,?_,hcap,hcm,hcs,htk⟩⟩ hvs.symm (fun i x q hx1 hq=>?_) (fun _ _ _ _ _ _ h=>h.elim) (fun _ _ _ h=>h.elim) (fun b=>?_)
   . show (w.heap.push _)[w.heap.size]? =_;simp
   . exact .shr ((hsh i x q hx1 hq).to (hx.chg (M:=fun _=>False)) (fun _ _ h=>h.elim) hm) (fun _ h=>h)
   simp [Value.ownBlock,eq_comm]
 exact Qe rfl e1
def Gb {v:Value} (h:v.oneCell'=true):v.cells= #[v]:=by cases v<;>first|rfl|(simp [Value.oneCell'] at h)
def one:PV->Bool
 | .val v=>v.oneCell'
 | .sl _ _| .sptr _ _| .smap _| .fn _ _=>true
 |_=>false
def Shr.one {M:BS} {w:World} {v:Value} {p:PV} (h:Shr M w v p) (hp:one p=true):v.oneCell'=true:=by
 cases h with
 |val v=>exact hp
 |agg=>simp [En.one] at hp
 |tup=>simp [En.one] at hp
 |_=>rfl
def Zpy {t:TypeId} {x:Operand} {v:Value} {p:PV} (d:Nat) (hw:Yb ops sL o=some true) (hd:o.dst=some d) (hn:d<c.nt) (ho:o.op= .box t x) (hx:ev sL x=some (v,p)) (h1:one p=true) (hl:lk hP d=none)
 (k:∀h:Value,aL P c ops Q rest ⟨put d (padd (sbase h) 0, .val (padd (sbase h) 0)) sL,put d (h, .own t 1 1 [p]) hP⟩):aL P c ops Q (o::rest) (⟨sL,hP⟩:St):=
 W1 hw fun a w F H=>by
  obtain ⟨hv,hS⟩:=H.rd.ev hx;obtain ⟨F',H'⟩:=K0 (e:=t) (k:=1) (n:=1) (cap:=1) (cur:= #[v]) (v:= .pointer (some ⟨w.heap.size,0,none⟩)) H hl hn (vs:=[v]) (ps:=[p]) rfl (fun i y q hy hq=>by
   match i with
   |0=>simp at hy hq;subst hy hq;exact hS
   |i+1=>simp at hy) rfl (Xd _) (by unfold maxLen;omega) rfl rfl
  unfold Oper.wp execOp;simp [ho,hv,Instr.box,newVar,newRow,newObj,Sem.run,Gb (hS.one h1),hd,Oper.upon];exact k (.slice (some ⟨w.heap.size,0,none⟩) 1 1) _ _ ⟨F',H'⟩
def Zpz {t:TypeId} {x:Operand} {v:Value} {ps:List PV} (d m:Nat) (hw:Yb ops sL o=some true) (hd:o.dst=some d) (hn:d<c.nt) (ho:o.op= .box t x) (hx:ev sL x=some (v, .agg ps)) (hm:ps.length=m) (hl:lk hP d=none)
 (k:∀h:Value,aL P c ops Q rest ⟨put d (padd (sbase h) 0, .val (padd (sbase h) 0)) sL,put d (h, .own t m 1 ps) hP⟩):aL P c ops Q (o::rest) (⟨sL,hP⟩:St):=
 W1 hw fun a w F H=>by
  obtain ⟨hv,hS⟩:=H.rd.ev hx
  cases hS with
  | agg vs ps hlen hT=>
    obtain ⟨F',H'⟩:=K0 (e:=t) (k:=m) (n:=1) (cap:=1) (cur:=vs.toArray) (v:= .pointer (some ⟨w.heap.size,0,none⟩)) H hl hn (vs:=vs) (ps:=ps) hlen hT oM (Xd _) (by unfold maxLen;omega) (by simp;omega) (Xs (by simp;omega));unfold Oper.wp execOp;simp [ho,hv,Instr.box,newVar,newRow,newObj,Sem.run,Value.cells,hd,Oper.upon];exact k (.slice (some ⟨w.heap.size,0,none⟩) 1 1) _ _ ⟨F',H'⟩
def ZeroT (P:Program) (t:Nat) (z:Value):Prop:=(P.info? t).map (fun i=>i.zero)=some (some z)
def ZeroT.run {t:Nat} {z:Value} (h:ZeroT P t z) (w:World):(zeroValue t).run P w= .ok z w:=by
 unfold ZeroT at h
 rw [XU] at h
 obtain ⟨i,h1,h2⟩:=h
 simp [zeroValue,typeInfo,h1,h2]
def Zmx {t:TypeId} {z:Value} (zs:List Value) (m:Nat) (d:Nat) (hw:Yb ops sL o=some true) (hd:o.dst=some d) (hn:d<c.nt) (ho:o.op= .alloc t) (hz:ZeroT P t z) (hzs:z.cells=zs.toArray) (hm:zs.length=m) (hl:lk hP d=none)
 (k:∀h:Value,aL P c ops Q rest ⟨put d (padd (sbase h) 0, .val (padd (sbase h) 0)) sL,put d (h, .own t m 1 (zs.map .val)) hP⟩):aL P c ops Q (o::rest) (⟨sL,hP⟩:St):=
 W1 hw fun a w F H=>by
  obtain ⟨F',H'⟩:=K0 (e:=t) (k:=m) (n:=1) (cap:=1) (cur:=zs.toArray) (v:= .pointer (some ⟨w.heap.size,0,none⟩)) H hl hn (vs:=zs) (ps:=zs.map .val) sM (fun i y q hy hq=>by
   rw [Xl,hy] at hq;simp at hq;subst hq;exact .val _) oM (Xd _) (by unfold maxLen;omega) (by simp;omega) (Xs (by simp;omega))
  unfold Oper.wp execOp;simp [ho,Instr.alloc,hz.run,newVar,newRow,newObj,Sem.run,hzs,hd,Oper.upon];exact k (.slice (some ⟨w.heap.size,0,none⟩) 1 1) _ _ ⟨F',H'⟩
structure ElT (P:Program) (t e k bytes:Nat) (z:Value):Prop where
 ht:P.underlying t=some (.slice e)
 hi:(P.info? e).map (fun i=>(i.zero,i.size,i.bytes))=some (some z,k,bytes)
 hz:z.cells.size=k
 hk:0<k
def ElT.info {t e k bytes:Nat} {z:Value} (h:ElT P t e k bytes z):∃i,P.info? e=some i/\i.zero=some z/\i.size=k/\i.bytes=bytes:=by
 have:=h.hi
 rw [XU] at this
 obtain ⟨i,h1,h2⟩:=this
 simp only [Prod.mk.injEq] at h2
 exact ⟨i,h1,h2⟩
def ZpA {t e bytes:Nat} {z:Value} {x y:Operand} {n:Nat} {q q':PV} (d:Nat) (hT:ElT P t e 1 bytes z) (hw:Yb ops sL o=some true) (hd:o.dst=some d) (hn:d<c.nt) (ho:o.op= .makeSlice t x y) (hx:ev sL x=some (.int .i64 n,q)) (hy:ev sL y=some (.int .i64 n,q')) (hl:lk hP d=none)
 (hb:bytes*n<=281474976710656) (hn2:n<=9223372036854775807) (hz1:z.oneCell'=true)
 (k:∀h:Value,h.oneCell'=true->aL P c ops Q rest ⟨put d (h, .val h) sL,put d (h, .own e 1 n (List.replicate n (.val z))) hP⟩):aL P c ops Q (o::rest) (⟨sL,hP⟩:St):=
 W1 hw fun a w F H=>by
  obtain ⟨i,hi1,hi2,hi3,hi4⟩:=hT.info;have hzc:z.cells= #[z]:=Gb hz1;have hbn:((i.bytes:Nat):Int)*(n:Int)<=281474976710656:=by rw [hi4,<-Int.natCast_mul];omega
  have hr:=run_make (P:=P) w t e i z hT.ht hi1 hi2 .i64 .i64 (n:Int) (n:Int) oM oM hbn oM;rw [hi3,hzc,XH,XJ] at hr;obtain ⟨F',H'⟩:=K0 (e:=e) (k:=1) (n:=n) (cap:=n) (cur:=madeCells #[z] n) (v:= .slice (some ⟨w.heap.size,0,none⟩) n n) H hl hn (vs:=List.replicate n z) (ps:=List.replicate n (.val z)) sM (fun j u p hu hp=>by
   have h1:=Xb hu;have h2:=Xb hp;rw [VE h1,VE h2];exact .val _) sM (Xd _) (by unfold maxLen;omega) (by rw [size_madeCells,XJ]) (by rw [toList_madeCells_one];simp)
  unfold Oper.wp execOp;simp only [ho,(H.rd.ev hx).1,(H.rd.ev hy).1,Sem.run_bind,hr,Result.andThen_ok];simp only [Sem.run_pure,Oper.upon,hd];exact k _ rfl _ _ ⟨F',H'⟩
def ZpB {t e kk bytes:Nat} {z:Value} (d:Nat) (hT:ElT P t e kk bytes z) (hw:Yb ops sL o=some true) (hd:o.dst=some d) (hn:d<c.nt) (ho:o.op= .buildSlice t 0 #[]) (hl:lk hP d=none)
 (k:∀h:Value,h.oneCell'=true->aL P c ops Q rest ⟨put d (h, .val h) sL,put d (h, .own e kk 0 []) hP⟩):aL P c ops Q (o::rest) (⟨sL,hP⟩:St):=
 W1 hw fun a w F H=>by
  obtain ⟨i,hi1,hi2,hi3,hi4⟩:=hT.info;obtain ⟨F',H'⟩:=K0 (e:=e) (k:=kk) (n:=0) (cap:=0) (cur:= #[]) (v:= .slice (some ⟨w.heap.size,0,none⟩) 0 0) H hl hn (vs:=[]) (ps:=[]) rfl sM sM (Xd _) (by unfold maxLen;omega) sM sM;unfold Oper.wp execOp;simp [ho,Instr.buildSlice,run_underlying hT.ht,sizeOf,typeInfo,hi1,Instr.fill,newRow,newObj,Sem.run,hd,Oper.upon,show Array.range 0= #[] from rfl];exact k (.slice (some ⟨w.heap.size,0,none⟩) 0 0) rfl _ _ ⟨F',H'⟩
def Zih {M M':BS} {w w':World} {h:Value} {e k n j:Nat} {cs:List PV} {p:PV} {F:BS} {u:Value} {g cap:Nat} (H:Tr M w h (.own e k n cs) F) (hh:h= .slice (some ⟨g,0,none⟩) n cap) (hj:j<cs.length) (hw':w'=w.setCell ⟨g,j,none⟩ u)
 (hM:∀b,b<w.heap.size->M' b->M b) (hFM:∀b,F b->M b) (hS:Shr M w u p):∃F',Tr M' w' h (.own e k n (cs.set j p)) F'/\(∀b,F' b->F b):=by
 subst hh hw'
 obtain ⟨xs,Fs,hrow,hlen,hT,hd,hb,hF⟩:=H.row
 have hst:=hrow.stored j u
 have hch:Chg (fun b=>b=g) w (w.setCell ⟨g,j,none⟩ u):=Chg.setCell w ⟨g,j,none⟩ u
 have hgF:F g:=(hF g).2 (.inl rfl)
 refine ⟨fun b=>b=g\/∃i,i<(cs.set j p).length/\(if i=j then False else Fs i b),?_,?_⟩
 . refine .own (xs.set j u) (fun i b=>if i=j then False else Fs i b) hst.1 (by simpa using hlen) (fun i x q hx hq=>?_) (fun i i' b hi hi' hne h1 h2=>?_) (fun i b hi h1=>?_) (fun b=>by simp [Value.ownBlock,eq_comm])
   . by_cases hij:i=j
     . subst hij;rw [XK oM] at hx;rw [XK hj] at hq
       cases hx;cases hq;refine .shr (hS.to hch (fun b _ h=>by cases h;exact hFM g hgF) hM) (fun b hb'=>by simp at hb')
     rw [X9 (Ne.symm hij)] at hx hq;simp only [hij,if_false];exact (hT i x q hx hq).to hch hM (fun b _ h=>by cases h;exact hFM g hgF) (fun b hb' he=>hb i b (Zd hq) hb' (by cases he;rfl))
   . simp only [Xm] at hi hi';split at h1
     . exact h1
     split at h2
     . exact h2
     exact hd i i' b hi hi' hne h1 h2
   simp only [Xm] at hi;split at h1
   . exact h1.elim
   exact hb i b hi h1
 rintro b (rfl|⟨i,hi,h1⟩)
 . exact hgF
 simp only [Xm] at hi;split at h1
 . exact h1.elim
 exact (hF b).2 (.inr ⟨i,hi,h1⟩)
def O8 {F:Nat->BS} {a:Act} {w:World} (H:HoldsF c (⟨sL,hP⟩:St) F a w) {l j e k n g cap:Nat} {h:Value} {cs:List PV} {p:PV} {u:Value} (hl:lk hP l=some (h, .own e k n cs)) (hh:h= .slice (some ⟨g,0,none⟩) n cap) (hj:j<cs.length) (hS:Shr (mof c hP F) w u p):
 ∃F',HoldsF c ⟨sL,put l (h, .own e k n (cs.set j p)) hP⟩ F' a (w.setCell ⟨g,j,none⟩ u):=by
 have hTr:=H.tr l _ _ hl
 have hgF:F l g:=by
  obtain ⟨xs,Fs,hrow,hlen,hT,hd,hb,hF⟩:=hTr.row;exact (hF g).2 (.inl (by subst hh;rfl))
 have hFM:∀b,F l b->mof c hP F b:=fun b hb=> .inr ⟨l,_,hl,hb⟩
 obtain ⟨F1,hT1,hsub⟩:=Zih (M':=mof c hP F) hTr hh hj rfl (fun _ _ h=>h) hFM hS
 refine ⟨fun l'=>if l'=l then F1 else F l',?_⟩
 have hch:Chg (fun b=>∃l' x,l'=l/\lk hP l'=some x/\F l' b) w (w.setCell ⟨g,j,none⟩ u):=(Chg.setCell w ⟨g,j,none⟩ u).wid fun b hb=> .inl ⟨l,_,rfl,hl,by cases hb;exact hgF⟩
 refine H.change0 (fun l'=>l'=l) hch (fun l' x hne hx=>?_) (fun l' x b hT hx hb=>?_) (fun hm l' v q hT hx=>?_) (fun l1 l2 _ _ _ h1 h2 hne=>Qe (h1.trans h2.symm) hne)
 . rcases YC hx with ⟨e1,_⟩|⟨_,e1⟩
   . exact Qe e1.symm hne
   exact ⟨e1,by simp [hne]⟩
 . subst hT;simp only [if_true] at hb;exact .inl ⟨l',_,rfl,hl,hsub b hb⟩
 subst hT;rcases YC hx with ⟨_,e1⟩|⟨e1,_⟩
 . cases e1;simp only [if_true];obtain ⟨F2,hT2,hs2⟩:=Zih (M':=mof c (put l' (h, .own e k n (cs.set j p)) hP) fun x=>if x=l' then F1 else F x) hTr hh hj rfl hm hFM hS;refine hT1.anti fun b hb hmb=>?_;rcases hmb with h1|⟨l0,x0,h1,h2⟩
   . exact .inl h1
   by_cases h0:l0=l'
   . subst h0;simp only [if_true] at h2;exact hFM b (hsub b h2)
   simp only [h0,if_false] at h2;rcases YC h1 with ⟨e1,_⟩|⟨_,e1⟩
   . exact Qe e1.symm h0
   exact .inr ⟨l0,x0,e1,h2⟩
 exact Qe rfl e1
def ZgI {t j e kk n:Nat} {x y:Operand} {h v:Value} {q p:PV} {cs:List PV} (l:Nat) (hw:Yb ops sL o=some true) (hd:o.dst=none) (hT:NoAgg P t=true) (hsz:(P.info? t).map (·.size)=some 1) (ho:o.op= .store t x y)
 (hx:ev sL x=some (padd (sbase h) j,q)) (hy:ev sL y=some (v,p)) (h1:one p=true) (hl:lk hP l=some (h, .own e kk n cs)) (hj:j<cs.length)
 (k:aL P c ops Q rest ⟨sL,put l (h, .own e kk n (cs.set j p)) hP⟩):aL P c ops Q (o::rest) (⟨sL,hP⟩:St):=
 W1 hw fun a w F H=>by
  have hxv:=(H.rd.ev hx).1;obtain ⟨hyv,hS⟩:=H.rd.ev hy;obtain ⟨xs,Fs,hrow,hlen,_⟩:=(H.tr l _ _ hl).row;rcases Kv hrow with ⟨_,_,rfl⟩|⟨g,cap,hh,hc1,hc2,hc3⟩
  . simp at hlen;rw [hlen] at hj;simp at hj
  obtain ⟨F',H'⟩:=O8 H hl hh hj hS;subst hh;simp only [sbase,padd,XC] at hxv;obtain ⟨z,hz⟩:=YV (show j<xs.length by omega);have hcell:=JC hrow hz;have hfr:=hrow.frozenAt j;have hsize:(sizeOf t).run P w= .ok 1 w:=by
   rw [XU] at hsz;obtain ⟨i,hi1,hi2⟩:=hsz;simp [sizeOf,typeInfo,hi1,hi2]
  have hone:=hS.one h1;unfold Oper.wp execOp;simp [ho,hxv,hyv,Instr.storeAt,Instr.sureAddr,storeVar,Gb hone,hsize,storeCells,run_store _ _ _ _ _ hone,Kk,hcell,hfr,Oper.upon,hd,Act.put];exact k _ _ ⟨F',H'⟩
def G7:List PV->Nat->List PV->List PV
 |cs,_,[]=>cs
 |cs,j,p::ps=>G7 (cs.set j p) (j+1) ps
def RR:∀(ps cs:List PV) (j:Nat),(G7 cs j ps).length=cs.length
 |[],_,_=>rfl
 |p::ps,cs,j=>by rw [G7,RR];simp
def Cs {l e k n g cap : Nat} {h:Value} {y:Operand} {V:Value} {ps0:List PV} {a:Act} (hh:h= .slice (some ⟨g,0,none⟩) n cap) (hy:ev sL y=some (V, .agg ps0)) (hone:ps0.all one=true):
 ∀ (m i j:Nat) (cs:List PV) (w:World) (F:Nat->BS) (hp:List (Nat×Ent)),HoldsF c ⟨sL,hp⟩ F a w->lk hp l=some (h, .own e k n cs)->i+m=ps0.length->j+i+m<=cs.length->
  ∀vs:List Value,V= .agg vs.toArray->∃w' F' hp',(storeCells ⟨g,j,none⟩ (vs.drop i) i).run P w= .ok () w'/\HoldsF c ⟨sL,hp'⟩ F' a w'/\lk hp' l=some (h, .own e k n (G7 cs (j+i) (ps0.drop i)))/\∀l',l'≠l->lk hp' l'=lk hp l'
 | 0, i, j, cs, w, F, hp, H,hl,hi,hj,vs,hV=>by
   have hvl : vs.length = ps0.length:=by
    obtain ⟨_,hS⟩:=H.rd.ev hy;subst hV;generalize hu:Value.agg vs.toArray=u at hS
    cases hS with
    | agg vs' ps' hl' _ => injection hu with hu;have:vs'=vs:=by simpa using hu.symm
                           subst this;exact hl'
   refine ⟨w,F,hp,?_,H,?_,fun _ _=>rfl⟩
   . rw [XO oM];rfl
   rw [XO (by omega:ps0.length<=i)];exact hl
 | m + 1,i,j,cs,w,F,hp,H,hl,hi,hj,vs,hV=>by
   obtain ⟨_,hS⟩:=H.rd.ev hy;have hi':i<ps0.length:=oM;obtain ⟨p,hp'⟩:=YV hi';have hSp:∃v,vs[i]? =some v/\Shr (mof c hp F) w v p:=by
    subst hV;generalize hu:Value.agg vs.toArray=u at hS
    cases hS with
    | agg vs' ps' hl' hT=>
      injection hu with hu;(have:vs'=vs:=by simpa using hu.symm);subst this;obtain ⟨v,hv⟩:=Wc hp' hl'.symm;exact ⟨v,hv,hT i v p hv hp'⟩
   obtain ⟨v,hv,hSv⟩:=hSp;have h1:one p=true:=Xj.1 hone p (Xb hp');obtain ⟨F1,H1⟩:=O8 H hl hh (show j+i<cs.length by omega) hSv;obtain ⟨w',F',hp2,hr,H2,hl2,hsame⟩:=Cs hh hy hone m (i+1) j (cs.set (j+i) p) _ F1 _ H1 (Z3 _ _ _) oM (by simp;omega) vs hV;refine ⟨w',F',hp2,?_,H2,?_,fun l' hne=>by rw [hsame l' hne,Yy (Ne.symm hne)]⟩
   . obtain ⟨xs,Fs,hrow,hlen,_⟩:=(H.tr l _ _ hl).row;subst hh;obtain ⟨z,hz⟩:=YV (show j+i<xs.length by omega);have hcell:=JC hrow hz;have hfr:=hrow.frozenAt (j+i);rw [Ve (Zd hv),show vs[i]'(Zd hv)=v from (Xk.1 hv).2,storeCells];simp only [Sem.run_bind,run_store _ _ _ _ _ (hSv.one h1),Kk,hcell,hfr,VG,if_false,Result.andThen_ok];exact hr
   rw [hl2,Ve hi',show ps0[i]'hi'=p from (Xk.1 hp').2,G7,Vy]
def ZrZ {t j e kk n m:Nat} {x y:Operand} {h V:Value} {q:PV} {ps cs:List PV} (l:Nat) (hw:Yb ops sL o=some true) (hd:o.dst=none) (hT:AggT P t m=true) (ho:o.op= .store t x y)
 (hx:ev sL x=some (padd (sbase h) j,q)) (hy:ev sL y=some (V, .agg ps)) (hm:ps.length=m) (h1:ps.all one=true) (hl:lk hP l=some (h, .own e kk n cs)) (hj:j+m<=cs.length) (hm0:0<m)
 (k:aL P c ops Q rest ⟨sL,put l (h, .own e kk n (G7 cs j ps)) hP⟩):aL P c ops Q (o::rest) (⟨sL,hP⟩:St):=
 W1 hw fun a w F H=>by
  have hxv:=(H.rd.ev hx).1;obtain ⟨hyv,hS⟩:=H.rd.ev hy;obtain ⟨xs,Fs,hrow,hlen,_⟩:=(H.tr l _ _ hl).row;rcases Kv hrow with ⟨_,_,rfl⟩|⟨g,cap,hh,hc1,hc2,hc3⟩
  . simp at hlen;rw [hlen] at hj;simp at hj;omega
  cases hS with
  | agg vs ps hvl hTT=>
    obtain ⟨w',F',hp',hr,H',hl',hsame⟩:=Cs (P:=P) hh hy h1 ps.length 0 j cs w F hP H hl oM oM vs rfl;subst hh;simp only [sbase,padd,XC] at hxv;simp only [Vf,VO] at hr hl';(have hsz:(Value.agg vs.toArray).cells.size=m:=by show vs.toArray.size=m;rw [Uz];omega);unfold Oper.wp execOp;simp [ho,hxv,hyv,Instr.storeAt,Instr.sureAddr,storeVar,Value.cells,AggT.size hT,hvl,hm,hr,Oper.upon,hd,Act.put];refine k _ _ ⟨F',H'.less (fun _ _ h=>h) fun t x hx=>?_⟩;rcases YC hx with ⟨rfl,rfl⟩|⟨hne,e1⟩
    . exact hl'
    show lk hp' t=_;rw [hsame t (Ne.symm hne)];exact e1
def Tm:PV->Bool
 | .val v=>v.oneCell'
 | .agg _| .tup _=>false
 |_=>true
def Tr.cellOne {M:BS} {w:World} {v:Value} {p:PV} {F:BS} (h:Tr M w v p F) (hp:Tm p=true):v.oneCell'=true:=by
 cases h with
 | shr h _=>
   cases h with
   |val v=>exact hp
   |agg=>simp [Tm] at hp
   |tup=>simp [Tm] at hp
   |_=>rfl
 |own xs Fs hrow=>rcases Kv hrow with ⟨rfl,_⟩|⟨g,cap,rfl,_⟩<;>rfl
 |omap=>rfl
 |oblk r h1=>exact h1
 |obox=>rfl
 |agg=>simp [Tm] at hp
 |tup=>simp [Tm] at hp
def Zj2 {t ty e kk bytes n m:Nat} {z:Value} {x y:Operand} {h h2:Value} {q q2:PV} {cs cs2:List PV} (l l2 d:Nat) (hT:ElT P t e kk bytes z) (hw:Yb ops sL o=some true) (hd:o.dst=some d) (hn:d<c.nt) (hty:o.type=ty)
 (ho:o.op= .call {callee:= .builtin .append,args:= #[x,y],argTypes:= #[t,t]}) (hx:ev sL x=some (h,q)) (hy:ev sL y=some (h2,q2)) (hll:Nat.beq l l2=false) (hl:lk hP l=some (h, .own e kk n cs)) (hl2:lk hP l2=some (h2, .own e kk m cs2)) (hdl:lk (del l2 (del l hP)) d=none) (hm:0<m)
 (hok:cs2.all Tm=true) (hlen:n+m<=9223372036854775807) (hb:(n+m)*bytes<=140737488355328)
 (hdr:¬c.dr) (k:∀h':Value,h'.oneCell'=true->aL P c ops Q rest ⟨put d (h', .val h') sL,put d (h', .own e kk (n+m) (cs++cs2)) (del l2 (del l hP))⟩):aL P c ops Q (o::rest) (⟨sL,hP⟩:St):=
 W1 hw fun a w F H=>by
  have hne:l≠l2:=fun e=>by subst e;simp at hll
  have hxv:=(H.rd.ev hx).1;have hyv:=(H.rd.ev hy).1;have hT1:=H.tr l _ _ hl;have hT2:=H.tr l2 _ _ hl2;obtain ⟨xs,Fs,hrow,hlen1,hTc,hdd,hbb,hFF⟩:=hT1.row;obtain ⟨xs2,Fs2,hrow2,hlen2,hTc2,hdd2,hbb2,hFF2⟩:=hT2.row;obtain ⟨g2,cap2,rfl,_,_,_⟩:=GM hT2 hm;obtain ⟨i,hi1,hi2,hi3,hi4⟩:=hT.info;obtain ⟨v',w',hr,hown,hg,_,hblk⟩:=run_append_own_at (P:=P) w 0 t o.type e i z kk bytes hT.ht hi1 hi2 hi3 hi4 hT.hz hT.hk h n xs hrow ⟨g2,0,none⟩ m cap2 xs2 hrow2.1
   (fun j u hu=>by rw [Kk,XC];exact JC hrow2 hu)
   (fun u hu=>by
     obtain ⟨j,hj,rfl⟩:=V7 hu;obtain ⟨p,hp⟩:=YV (show j<cs2.length by omega);exact (hTc2 j _ p (Xr hj) hp).cellOne (Xj.1 hok p (Xb hp)))
   (by unfold maxLen;exact hlen) hb (Xg _)
  have hch:Chg (fun b=>h.ownBlock=some b) w w':=(Chg.grown hg).wid fun b hb=> .inl hb;have hF1:∀b,h.ownBlock=some b->F l b:=fun b hb=>(hFF b).2 (.inl hb);have hv1:v'.oneCell'=true:=by rcases Kv hown with ⟨rfl,_⟩|⟨g,cap,rfl,_⟩<;>rfl
  have hcslen:cs.length=xs.length:=hlen1;let Fn:Nat->BS:=fun j b=>if j<cs.length then Fs j b else Fs2 (j-cs.length) b;let Fd:BS:=fun b=>v'.ownBlock=some b\/∃j,j<(cs++cs2).length/\Fn j b;have hFd:∀b,Fd b->(F l b\/F l2 b)\/w.heap.size<=b:=by
   rintro b (h1|⟨j,hj,h1⟩)
   . rcases hblk with h2|h2
     . exact .inl (.inl (hF1 b (by rw [<-h2];exact h1)))
     rw [h2] at h1;cases h1;exact .inr (Xd _)
   simp only [Fn] at h1;split at h1
   . exact .inl (.inl ((hFF b).2 (.inr ⟨j,by assumption,h1⟩)))
   exact .inl (.inr ((hFF2 b).2 (.inr ⟨j-cs.length,by simp at hj;omega,h1⟩)))
  have key :HoldsF c ⟨put d (v', .val v') sL,put d (v', .own e kk (n+m) (cs++cs2)) (del l2 (del l hP))⟩ (fun l'=>if l'=d then Fd else F l') (a.put (some d) v') w':=by
   refine H.change (fun l'=>l'=l\/l'=l2\/l'=d) hn (hch.wid fun b hb=> .inl ⟨l,_, .inl rfl,hl,hF1 b hb⟩) (fun l' x hnT hx'=>?_) (fun l' x b hTl hx' hb'=>?_) (fun hmm l' u p hTl hx'=>?_) (fun l1 l2' x1 x2 b h1 h2 hne' hx1 hx2=>?_) (fun _=> .val _) (fun h=>(hdr h).elim)
   . rcases YC hx' with ⟨e1,_⟩|⟨_,e1⟩
     . exact Qe (.inr (.inr e1.symm)) hnT
     have h3:=(Wt (Wt e1).2).2;refine ⟨h3,?_⟩;have:l'≠d:=fun e2=>hnT (.inr (.inr e2));simp [this]
   . rcases YC hx' with ⟨e1,_⟩|⟨hne2,e1⟩
     . subst e1;simp only [if_true] at hb';rcases hFd b hb' with (h1|h1)|h1
       . exact .inl ⟨l,_, .inl rfl,hl,h1⟩
       . exact .inl ⟨l2,_, .inr (.inl rfl),hl2,h1⟩
       exact .inr h1
     obtain ⟨n1,h3⟩:=Wt e1;obtain ⟨n2,h4⟩:=Wt h3;rcases hTl with h5|h5|h5
     . exact Qe h5.symm n2
     . exact Qe h5.symm n1
     exact Qe h5.symm hne2
   . rcases YC hx' with ⟨e1,e2⟩|⟨hne2,e1⟩
     . cases e2;subst e1;simp only [if_true];refine .own (xs++xs2) Fn hown (by simp;omega) (fun j y p hy' hp'=>?_) (fun j1 j2 b hj1 hj2 hne' h1 h2=>?_) (fun j b hj h1=>?_) (fun b=>Iff.rfl)
       . simp only [Fn];rcases XL j cs.length with hj|hj
         . rw [Vo hj] at hp';rw [Vo oM] at hy';simp only [hj,if_true];exact (hTc j y p hy' hp').to hch hmm (fun b _ hb'=> .inr ⟨l,_,hl,hF1 b hb'⟩) (fun b hb' he=>hbb j b hj hb' he)
         rw [Vp hj] at hp';rw [Vp oM,<-hcslen] at hy';simp only [show ¬j<cs.length by omega,if_false];exact (hTc2 (j-cs.length) y p hy' hp').to hch hmm (fun b _ hb'=> .inr ⟨l,_,hl,hF1 b hb'⟩) (fun b hb' he=>H.dj l l2 _ _ b hne hl hl2 (hF1 b he) ((hFF2 b).2 (.inr ⟨_,Zd hp',hb'⟩)))
       . simp only [Fn] at h1 h2;simp only [Xe] at hj1 hj2;split at h1
         . split at h2
           . exact hdd j1 j2 b (by assumption) (by assumption) hne' h1 h2
           exact H.dj l l2 _ _ b hne hl hl2 ((hFF b).2 (.inr ⟨j1,by assumption,h1⟩)) ((hFF2 b).2 (.inr ⟨_,oM,h2⟩))
         split at h2
         . exact H.dj l l2 _ _ b hne hl hl2 ((hFF b).2 (.inr ⟨j2,by assumption,h2⟩)) ((hFF2 b).2 (.inr ⟨_,oM,h1⟩))
         exact hdd2 (j1-cs.length) (j2-cs.length) b oM oM oM h1 h2
       simp only [Fn] at h1;simp only [Xe] at hj;intro hbk;have hlt:b<w.heap.size/\(F l b\/F l2 b):=by
        split at h1
        . have:=(hFF b).2 (.inr ⟨j,by assumption,h1⟩);exact ⟨hT1.lt b this, .inl this⟩
        have:=(hFF2 b).2 (.inr ⟨j-cs.length,oM,h1⟩);exact ⟨hT2.lt b this, .inr this⟩
       rcases hblk with h3|h3
       . rw [h3] at hbk;split at h1
         . exact hbb j b (by assumption) h1 hbk
         exact H.dj l l2 _ _ b hne hl hl2 (hF1 b hbk) ((hFF2 b).2 (.inr ⟨j-cs.length,oM,h1⟩))
       rw [h3] at hbk;cases hbk;omega
     obtain ⟨n1,h3⟩:=Wt e1;obtain ⟨n2,h4⟩:=Wt h3;rcases hTl with h5|h5|h5
     . exact Qe h5.symm n2
     . exact Qe h5.symm n1
     exact Qe h5.symm hne2
   have aux:∀l' x,(l'=l\/l'=l2\/l'=d)->lk (put d (v', .own e kk (n+m) (cs++cs2)) (del l2 (del l hP))) l'=some x->l'=d:=fun l' x hTl hx'=>by
    rcases YC hx' with ⟨e1,_⟩|⟨hne2,e1⟩
    . exact e1.symm
    obtain ⟨n1,h3⟩:=Wt e1;obtain ⟨n2,h4⟩:=Wt h3;rcases hTl with h5|h5|h5
    . exact Qe h5.symm n2
    . exact Qe h5.symm n1
    exact h5
   exact Qe ((aux l1 x1 h1 hx1).trans (aux l2' x2 h2 hx2).symm) hne'
  unfold Oper.wp execOp;simp only [ho,resolve,invoke,builtin,Sem.run_bind,Sem.run_pure,Result.andThen_ok,UA,Xn,Vz,hxv,hyv,hr,Oper.upon,hd];exact k v' hv1 _ _ ⟨_,key⟩
def Tn {ι:Type} (st:St) (S:ι->St):Prop:=∀c a w,Holds c st a w->∃i,Holds c (S i) a w
def Zz {ι:Type} {S:ι->St} {l:List Oper} (h:Tn (⟨sL,hP⟩:St) S) (k:∀i,aL P c ops Q l (S i)):aL P c ops Q l (⟨sL,hP⟩:St):=fun a w H=>let ⟨i,hi⟩:=h c a w H;k i a w hi
def HoldsF.retell {F:Nat->BS} {a:Act} {w:World} (H:HoldsF c (⟨sL,hP⟩:St) F a w) {h':List (Nat×Ent)} {F':Nat->BS} (T:Nat->Prop)
 (hsame:∀l x,¬T l->lk h' l=some x->lk hP l=some x/\F' l=F l)
 (hF:∀l x b,T l->lk h' l=some x->F' l b->∃l0 x0,T l0/\lk hP l0=some x0/\F l0 b)
 (hnew:(∀b,b<w.heap.size->mof c h' F' b->mof c hP F b)->∀l v p,T l->lk h' l=some (v,p)->Tr (mof c h' F') w v p (F' l))
 (hdj:∀l l' x x' b,T l->T l'->l≠l'->lk h' l=some x->lk h' l'=some x'->F' l b->¬F' l' b):HoldsF c ⟨sL,h'⟩ F' a w:=
 H.change0 T (Chg.rfl' _ _) hsame (fun l x b h1 h2 h3=> .inl (hF l x b h1 h2 h3)) hnew hdj
def focus {l l' j e k n:Nat} {h:Value} {cs:List PV} {p:PV} (hl:lk hP l=some (h, .own e k n cs)) (hp:cs[j]? =some p) (hl':lk hP l'=none):
 Tn (⟨sL,hP⟩:St) (fun v:Value=>⟨sL,put l' (v,p) (put l (h, .own e k n (cs.set j (.val v))) hP)⟩):=fun c a w ⟨F,H⟩=>by
 have hne:l'≠l:=fun e=>by subst e;rw [hl] at hl';cases hl'
 have hTr:=H.tr l _ _ hl
 obtain ⟨xs,Fs,hrow,hlen,hT,hd,hb,hF⟩:=hTr.row
 have hj:=Zd hp
 obtain ⟨v,hv⟩:=Wc hp hlen
 have hFj:∀b,Fs j b->F l b:=fun b hb'=>(hF b).2 (.inr ⟨j,hj,hb'⟩)
 refine ⟨v,fun x=>if x=l' then Fs j else if x=l then (fun b=>h.ownBlock=some b\/∃i,i<cs.length/\i≠j/\Fs i b) else F x,?_⟩
 refine H.retell (fun x=>x=l\/x=l') (fun x y hnT hx=>?_) (fun x y b hTx hx hb'=>?_) (fun hmm x u q hTx hx=>?_) (fun x1 x2 y1 y2 b h1 h2 hne' hx1 hx2 hb1 hb2=>?_)
 . have n1:x≠l:=fun e=>hnT (.inl e);have n2:x≠l':=fun e=>hnT (.inr e);rw [Yy (Ne.symm n2),Yy (Ne.symm n1)] at hx;exact ⟨hx,by simp [n1,n2]⟩
 . refine ⟨l,_, .inl rfl,hl,?_⟩;rcases hTx with rfl|rfl
   . simp only [Ne.symm hne,if_false,if_true] at hb';rcases hb' with h1|⟨i,hi,_,h1⟩
     . exact (hF b).2 (.inl h1)
     exact (hF b).2 (.inr ⟨i,hi,h1⟩)
   simp only [if_true] at hb';exact hFj b hb'
 . rcases hTx with rfl|rfl
   . rw [Yy hne,Z3] at hx
     cases hx;simp only [Ne.symm hne,if_false,if_true];refine .own xs (fun i b=>if i=j then False else Fs i b) hrow (by simpa using hlen) (fun i x q hx9 hq=>?_) (fun i i' b hi hi' hne' h1 h2=>?_) (fun i b hi h1=>?_) (fun b=>?_)
     . by_cases hij:i=j
       . subst hij;rw [XK hj] at hq
         cases hq;rw [hv] at hx9;cases hx9;exact .shr (.val _) (fun b h=>by simp at h)
       rw [X9 (Ne.symm hij)] at hq;simp only [hij,if_false];exact (hT i x q hx9 hq).anti hmm
     . simp only [Xm] at hi hi';split at h1
       . exact h1
       split at h2
       . exact h2
       exact hd i i' b hi hi' hne' h1 h2
     . simp only [Xm] at hi;split at h1
       . exact h1.elim
       exact hb i b hi h1
     simp only [Xm];constructor
     . rintro (h1|⟨i,hi,hij,h1⟩)
       . exact .inl h1
       exact .inr ⟨i,hi,by simp [hij,h1]⟩
     rintro (h1|⟨i,hi,h1⟩)
     . exact .inl h1
     split at h1
     . exact h1.elim
     exact .inr ⟨i,hi,by assumption,h1⟩
   rw [Z3] at hx
   cases hx;simp only [if_true];exact (hT j _ _ hv hp).anti hmm
 rcases h1 with rfl|rfl
 . rcases h2 with rfl|rfl
   . exact hne' rfl
   simp only [Ne.symm hne,if_false,if_true] at hb1 hb2;rcases hb1 with h3|⟨i,hi,hij,h3⟩
   . exact hb j b hj hb2 h3
   exact hd i j b hi hj hij h3 hb2
 rcases h2 with rfl|rfl
 . simp only [Ne.symm hne,if_false,if_true] at hb1 hb2;rcases hb2 with h3|⟨i,hi,hij,h3⟩
   . exact hb j b hj hb1 h3
   exact hd i j b hi hj hij h3 hb1
 exact hne' rfl
def To {l l' j e k n:Nat} {h v:Value} {cs:List PV} {p:PV} (hl:lk hP l=some (h, .own e k n cs)) (hp:cs[j]? =some (.val v)) (hl':lk hP l'=some (v,p)) (hne0:Nat.beq l l'=false):
 Tn (⟨sL,hP⟩:St) (fun _:Unit=>⟨sL,put l (h, .own e k n (cs.set j p)) (del l' hP)⟩):=fun c a w ⟨F,H⟩=>by
 have hne:l≠l':=fun e=>by subst e;simp at hne0
 have hTr:=H.tr l _ _ hl
 have hTr':=H.tr l' _ _ hl'
 obtain ⟨xs,Fs,hrow,hlen,hT,hd,hb,hF⟩:=hTr.row
 have hj:=Zd hp
 obtain ⟨v0,hv⟩:=Wc hp hlen
 have hv0:v0=v:=((hT j _ _ hv hp).sh rfl).vOf
 subst hv0
 have hFi:∀i b,i<cs.length->Fs i b->F l b:=fun i b hi hb'=>(hF b).2 (.inr ⟨i,hi,hb'⟩)
 refine ⟨(),fun x=>if x=l then (fun b=>h.ownBlock=some b\/∃i,i<cs.length/\(if i=j then F l' b else Fs i b)) else F x,?_⟩
 refine H.retell (fun x=>x=l\/x=l') (fun x y hnT hx=>?_) (fun x y b hTx hx hb'=>?_) (fun hmm x u q hTx hx=>?_) (fun x1 x2 y1 y2 b h1 h2 hne' hx1 hx2 hb1 hb2=>?_)
 . have n1:x≠l:=fun e=>hnT (.inl e);rw [Yy (Ne.symm n1)] at hx;exact ⟨(Wt hx).2,by simp [n1]⟩
 . rcases YC hx with ⟨rfl,_⟩|⟨n1,hx2⟩
   . simp only [if_true] at hb';rcases hb' with h1|⟨i,hi,h1⟩
     . exact ⟨l,_, .inl rfl,hl,(hF b).2 (.inl h1)⟩
     split at h1
     . exact ⟨l',_, .inr rfl,hl',h1⟩
     exact ⟨l,_, .inl rfl,hl,hFi i b hi h1⟩
   rcases hTx with e1|e1
   . exact Qe e1.symm n1
   exact Qe e1.symm (Wt hx2).1
 . rcases YC hx with ⟨rfl,e1⟩|⟨n1,hx2⟩
   . cases e1;simp only [if_true];refine .own xs (fun i b=>if i=j then F l' b else Fs i b) hrow (by simpa using hlen) (fun i x q hx9 hq=>?_) (fun i i' b hi hi' hne' h1 h2=>?_) (fun i b hi h1=>?_) (fun b=>by simp only [Xm])
     . by_cases hij:i=j
       . subst hij;rw [XK hj] at hq
         cases hq;rw [hv] at hx9;cases hx9;simp only [if_true];exact hTr'.anti hmm
       rw [X9 (Ne.symm hij)] at hq;simp only [hij,if_false];exact (hT i x q hx9 hq).anti hmm
     . simp only [Xm] at hi hi';split at h1
       . split at h2
         . omega
         exact H.dj l l' _ _ b hne hl hl' (hFi i' b hi' h2) h1
       split at h2
       . exact H.dj l l' _ _ b hne hl hl' (hFi i b hi h1) h2
       exact hd i i' b hi hi' hne' h1 h2
     simp only [Xm] at hi;intro hbk;split at h1
     . exact H.dj l l' _ _ b hne hl hl' ((hF b).2 (.inl hbk)) h1
     exact hb i b hi h1 hbk
   rcases hTx with e1|e1
   . exact Qe e1.symm n1
   exact Qe e1.symm (Wt hx2).1
 have aux:∀x y,(x=l\/x=l')->lk (put l (h, .own e k n (cs.set j p)) (del l' hP)) x=some y->x=l:=fun x y hTx hx=>by
  rcases YC hx with ⟨e1,_⟩|⟨n1,hx2⟩
  . exact e1.symm
  rcases hTx with e1|e1
  . exact e1
  exact Qe e1.symm (Wt hx2).1
 exact Qe ((aux x1 y1 h1 hx1).trans (aux x2 y2 h2 hx2).symm) hne'
def YO (l e k:Nat) (hl:lk hP l=none):Tn (⟨sL,hP⟩:St) (fun _:Unit=>⟨sL,put l (.slice none 0 0, .own e k 0 []) hP⟩):=fun c a w ⟨F,H⟩=>by
 refine ⟨(),fun x=>if x=l then (fun _=>False) else F x,?_⟩
 refine H.retell (fun x=>x=l) (fun x y hnT hx=>?_) (fun x y b hTx hx hb'=>?_) (fun hmm x u q hTx hx=>?_) (fun x1 x2 y1 y2 b h1 h2 hne'=>Qe (h1.trans h2.symm) hne')
 . have n1:x≠l:=hnT;rw [Yy (Ne.symm n1)] at hx;exact ⟨hx,by simp [n1]⟩
 . subst hTx;simp at hb'
 subst hTx;rw [Z3] at hx
 cases hx;simp only [if_true];exact .own [] (fun _ _=>False) (World.ownsRow_nil _ _ _ _) rfl sM sM sM (by simp [Value.ownBlock])
def freeze {l t:Nat} {v:Value} {p q:PV} (hl:lk hP l=some (v,p)) (ht:lk sL t=some (v,q)):Tn (⟨sL,hP⟩:St) (fun _:Unit=>⟨put t (v,share p) sL,del l hP⟩):=fun c a w ⟨F,H⟩=>by
 refine ⟨(),F,?_⟩
 have hm:∀b,mof c (del l hP) F b->mof c hP F b:=by
  rintro b (h|⟨l',x,h1,h2⟩)
  . exact .inl h
  exact .inr ⟨l',x,(Wt h1).2,h2⟩
 have H1:HoldsF c ⟨sL,del l hP⟩ F a w:=H.less (fun _ _ h=>h) (fun _ _ h=>(Wt h).2)
 refine ⟨H1.toHeapF,fun s u r hs=>?_,H.size,H.df⟩
 rcases YC hs with ⟨rfl,e1⟩|⟨_,hs'⟩
 . cases e1;refine ⟨(H.sl t _ _ ht).1,(H.tr l _ _ hl).share (fun b _ h=>hm b h) fun b hb hmb=>?_⟩;rcases hmb with h1|⟨l',x,h1,h2⟩
   . exact H.apart h1 hl hb
   exact H.dj l l' _ _ b (Wt h1).1 hl (Wt h1).2 hb h2
 exact H1.sl s u r hs'
def YD {l l' j e k n:Nat} {h v:Value} {cs:List PV} {p:PV} (hl:lk hP l=some (h, .own e k n cs)) (hp:cs[j]? =some (.val v)) (hl':lk hP l'=some (v,p)) (hne0:Nat.beq l l'=false):
 Tn (⟨sL,hP⟩:St) (fun _:Unit=>⟨sL,put l (h, .own e k n (cs.set j (share p))) (del l' hP)⟩):=fun c a w ⟨F,H⟩=>by
 have hne:l≠l':=fun e=>by subst e;simp at hne0
 have H1:HoldsF c ⟨sL,del l' hP⟩ F a w:=H.less (fun _ _ h=>h) (fun _ _ h=>(Wt h).2)
 have hSv:Shr (mof c (del l' hP) F) w v (share p):=(H.tr l' _ _ hl').share (fun b _ h=>by
  rcases h with h|⟨l0,x,h1,h2⟩
  . exact .inl h
  . exact .inr ⟨l0,x,(Wt h1).2,h2⟩) fun b hb hmb=>by
  rcases hmb with h1|⟨l0,x,h1,h2⟩
  . exact H.apart h1 hl' hb
  exact H.dj l' l0 _ _ b (Wt h1).1 hl' (Wt h1).2 hb h2
 have hl1:lk (del l' hP) l=some (h, .own e k n cs):=by rw [RQ (Ne.symm hne)];exact hl
 obtain ⟨xs,Fs,hrow,hlen,hT,hd,hb,hF⟩:=(H1.tr l _ _ hl1).row
 have hj:=Zd hp
 obtain ⟨v0,hv⟩:=Wc hp hlen
 have hv0:v0=v:=((hT j _ _ hv hp).sh rfl).vOf
 subst hv0
 refine ⟨(),fun x=>if x=l then (fun b=>h.ownBlock=some b\/∃i,i<cs.length/\(if i=j then False else Fs i b)) else F x,?_⟩
 refine H1.retell (fun x=>x=l) (fun x y hnT hx=>?_) (fun x y b hTx hx hb'=>?_) (fun hmm x u q hTx hx=>?_) (fun x1 x2 y1 y2 b h1 h2 hne'=>Qe (h1.trans h2.symm) hne')
 . have n1:x≠l:=hnT;rw [Yy (Ne.symm n1)] at hx;exact ⟨hx,by simp [n1]⟩
 . subst hTx;simp only [if_true] at hb';refine ⟨x,_,rfl,hl1,(hF b).2 ?_⟩;rcases hb' with h1|⟨i,hi,h1⟩
   . exact .inl h1
   split at h1
   . exact h1.elim
   exact .inr ⟨i,hi,h1⟩
 subst hTx;rw [Z3] at hx
 cases hx;simp only [if_true];refine .own xs (fun i b=>if i=j then False else Fs i b) hrow (by simpa using hlen) (fun i x q hx9 hq=>?_) (fun i i' b hi hi' hne' h1 h2=>?_) (fun i b hi h1=>?_) (fun b=>by simp only [Xm])
 . by_cases hij:i=j
   . subst hij;rw [XK hj] at hq
     cases hq;rw [hv] at hx9;cases hx9;exact .shr (hSv.anti hmm) (fun b h=>by simp at h)
   rw [X9 (Ne.symm hij)] at hq;simp only [hij,if_false];exact (hT i x q hx9 hq).anti hmm
 . simp only [Xm] at hi hi';split at h1
   . exact h1
   split at h2
   . exact h2
   exact hd i i' b hi hi' hne' h1 h2
 simp only [Xm] at hi;split at h1
 . exact h1.elim
 exact hb i b hi h1
def Zea:∀(l:List Value) (i:Nat) (cells:Array Value),cells.size=i+l.length->(l.zipIdx i).foldl (fun cs x=>cs.setIfInBounds (0+x.2) x.1) cells=(cells.toList.take i++l).toArray
 | [],i,cells,h=>by
   simp at h;simp only [UB,List.foldl_nil,Xo];rw [Xs (by simp;omega)]
 | x::l,i,cells,h=>by
   simp only [Ul,Vq];simp at h;rw [Zea l (i+1) _ (by simp;omega)];congr 1;rw [XC,Array.toList_setIfInBounds,UL (by simp;omega)];simp [UM]
def Zeb (k:Nat) (cells:Array Value) (v:Value) (hc:cells.size=k) (hv:v.cells.size=k):Instr.fill (fun i=>some (i*k,k)) cells [(0,v)]=some v.cells:=by
 simp only [Instr.fill,X8]
 rw [Qc (by simp;omega)]
 congr 1
 rw [<-Array.foldl_toList]
 have:=Zea v.cells.toList 0 cells (by simp;omega)
 rw [Array.toList_zipIdx]
 simp only [Um,XY,VX] at this
 exact this
def ZbM:∀(vs:List Value) (i:Nat) (cells:Array Value),cells.size=i+vs.length->(∀v∈vs,v.oneCell'=true)->Instr.fill (fun i=>some (i*1,1)) cells ((vs.zipIdx i).map fun x=>(x.2,x.1))=some (cells.toList.take i++vs).toArray
 | [],i,cells,h,_=>by
   simp at h;simp only [UB,Vz,Instr.fill,Xo];rw [Xs (by simp;omega)]
 | v::vs,i,cells,h,h1=>by
   have hv:v.cells= #[v]:=Gb (h1 v sM);simp at h;have hc:¬(v.cells.size≠1||decide (i*1+v.cells.size>cells.size))=true:=by rw [hv];simp;omega
   simp only [Ul,Xn,Instr.fill,hc,if_false];rw [hv];simp only [Array.zipIdx,XJ];have:=ZbM vs (i+1) (cells.setIfInBounds i v) (by simp;omega) (fun u hu=>h1 u (by simp [hu]));simp;simp at this;rw [this];congr 1;rw [UL (by simp;omega)];simp [UM]
def ZpC {t e kk bytes:Nat} {z:Value} {x:Operand} {v:Value} {p:PV} (d:Nat) (hT:ElT P t e 1 bytes z) (hw:Yb ops sL o=some true) (hd:o.dst=some d) (hn:d<c.nt) (ho:o.op= .buildSlice t 1 #[(0,x)]) (hx:ev sL x=some (v,p)) (h10:one p=true) (hl:lk hP d=none)
 (k:∀h:Value,h.oneCell'=true->aL P c ops Q rest ⟨put d (h, .val h) sL,put d (h, .own e 1 1 [p]) hP⟩):aL P c ops Q (o::rest) (⟨sL,hP⟩:St):=
 W1 hw fun a w F H=>by
  obtain ⟨i,hi1,hi2,hi3,hi4⟩:=hT.info;obtain ⟨hv,hS⟩:=H.rd.ev hx;have h1:=hS.one h10;obtain ⟨F',H'⟩:=K0 (e:=e) (k:=1) (n:=1) (cap:=1) (cur:= #[v]) (v:= .slice (some ⟨w.heap.size,0,none⟩) 1 1) H hl hn (vs:=[v]) (ps:=[p]) rfl (fun i y q hy hq=>by
   match i with
   |0=>simp at hy hq;subst hy hq;exact hS
   |i+1=>simp at hy) rfl (Xd _) (by unfold maxLen;omega) rfl rfl
  have hf:=Zeb 1 ((Array.range (1*i.size)).map (z.cells[· % z.cells.size]!)) v (by simp [hi3]) (by rw [Gb h1];rfl);have hr:=run_buildSlice (P:=P) w t e 1 #[(0,v)] v.cells i z hT.ht hi1 hi2 (by rw [hi3];decide) (by rw [hi3];decide) (by rw [hi3] at hf ⊢;exact hf);rw [Gb h1] at hr;unfold Oper.wp execOp;simp only [ho,UA,Xn,Vz,hv,Sem.run_bind,hr,Result.andThen_ok,Sem.run_pure,Oper.upon,hd];exact k (.slice (some ⟨w.heap.size,0,none⟩) 1 1) rfl _ _ ⟨F',H'⟩
def Zmy {t e kk bytes:Nat} {z:Value} {x:Operand} {v:Value} {ps:List PV} (d:Nat) (hT:ElT P t e kk bytes z) (hw:Yb ops sL o=some true) (hd:o.dst=some d) (hn:d<c.nt) (ho:o.op= .buildSlice t 1 #[(0,x)]) (hx:ev sL x=some (v, .agg ps)) (hps:ps.length=kk) (hkb:kk<=1000) (hl:lk hP d=none)
 (k:∀h:Value,h.oneCell'=true->aL P c ops Q rest ⟨put d (h, .val h) sL,put d (h, .own e kk 1 ps) hP⟩):aL P c ops Q (o::rest) (⟨sL,hP⟩:St):=
 W1 hw fun a w F H=>by
  obtain ⟨i,hi1,hi2,hi3,hi4⟩:=hT.info;obtain ⟨hv,hS⟩:=H.rd.ev hx;have hk0:=hT.hk;have hz0:=hT.hz
  cases hS with
  | agg vs ps hvl hTT=>
    obtain ⟨F',H'⟩:=K0 (e:=e) (k:=kk) (n:=1) (cap:=1) (cur:=vs.toArray) (v:= .slice (some ⟨w.heap.size,0,none⟩) 1 1) H hl hn (vs:=vs) (ps:=ps) hvl hTT oM (Xd _) (by unfold maxLen;omega) (by simp;omega) (Xs (by simp;omega));have hcs:(Value.agg vs.toArray).cells=vs.toArray:=rfl;have hf:=Zeb kk ((Array.range (1*i.size)).map (z.cells[· % z.cells.size]!)) (.agg vs.toArray) (by simp [hi3]) (by rw [hcs];simp;omega);have hr:=run_buildSlice (P:=P) w t e 1 #[(0, .agg vs.toArray)] vs.toArray i z hT.ht hi1 hi2 (by rw [hi3];omega) (by rw [hi3];omega) (by rw [hi3] at hf ⊢;exact hf);unfold Oper.wp execOp;simp only [ho,UA,Xn,Vz,hv,Sem.run_bind,hr,Result.andThen_ok,Sem.run_pure,Oper.upon,hd];exact k (.slice (some ⟨w.heap.size,0,none⟩) 1 1) rfl _ _ ⟨F',H'⟩
def evL (slots:List (Nat×Ent)):List Operand->Option (List Ent)
 |[]=>some []
 | x::xs=>match ev slots x,evL slots xs with
   |some e,some l=>some (e::l)
   |_,_=>none
def SE {M:BS} {F:Nat->BS} {a:Act} {w:World} (H:RdF M (⟨sL,hP⟩:St) F a w):∀{xs:List Operand} {es:List Ent},evL sL xs=some es->xs.map a.eval=es.map (·.1)/\∀(i:Nat) (x:Value) (q:PV),(es.map (·.1))[i]? =some x->(es.map (·.2))[i]? =some q->Shr M w x q
 |[],es,h=>by simp [evL] at h;subst h;simp
 | x ::xs,es,h=>by
   simp only [evL] at h;split at h
   . rename_i e l he hl
     cases h;obtain ⟨v,p⟩:=e;obtain ⟨h1,h2⟩:=SE H hl;obtain ⟨h3,h4⟩:=H.ev he;refine ⟨by simp [h1,h3],fun i y q hy hq=>?_⟩
     cases i with
     |zero=>simp at hy hq;subst hy hq;exact h4
     |succ i=>exact h2 i y q (by simpa using hy) (by simpa using hq)
   cases h
def Zii {t e bytes m:Nat} {z:Value} {xs:List Operand} {parts:Array (Nat×Operand)} {es:List Ent} (d:Nat) (hT:ElT P t e 1 bytes z) (hw:Yb ops sL o=some true) (hd:o.dst=some d) (hn:d<c.nt) (ho:o.op= .buildSlice t m parts) (hpt:parts=((xs.zipIdx).map fun x=>(x.2,x.1)).toArray) (hx:evL sL xs=some es) (h1:es.all (fun x=>one x.2)=true) (hm:es.length=m) (hm0:0<m) (hm1:m<=1000) (hl:lk hP d=none)
 (k:∀h:Value,h.oneCell'=true->aL P c ops Q rest ⟨put d (h, .val h) sL,put d (h, .own e 1 m (es.map (·.2))) hP⟩):aL P c ops Q (o::rest) (⟨sL,hP⟩:St):=
 W1 hw fun a w F H=>by
  obtain ⟨i,hi1,hi2,hi3,hi4⟩:=hT.info;obtain ⟨he,hS⟩:=SE H.rd hx;obtain ⟨F',H'⟩:=K0 (e:=e) (k:=1) (n:=m) (cap:=m) (cur:=(es.map (·.1)).toArray) (v:= .slice (some ⟨w.heap.size,0,none⟩) m m) H hl hn (vs:=es.map (·.1)) (ps:=es.map (·.2)) sM hS (by simp;omega) (Xd _) (by unfold maxLen;omega) (by simp;omega) (Xs (by simp;omega));have hf:=ZbM (es.map (·.1)) 0 ((Array.range (m*i.size)).map (z.cells[· % z.cells.size]!)) (by simp [hi3];omega) (fun v hv=>by
   rw [Xp] at hv;obtain ⟨x,hx',rfl⟩:=hv;obtain ⟨i,hi,rfl⟩:=V7 hx';exact (hS i _ _ (by simp [hi]) (by simp [hi])).one (Xj.1 h1 _ hx'))
  have hpe:(parts.map fun (i,x)=>(i,a.eval x)).toList=((es.map (·.1)).zipIdx 0).map fun x=>(x.2,x.1):=by
   rw [hpt,<-he];simp [List.zipIdx_map]
  have hr:=run_buildSlice (P:=P) w t e m (parts.map fun (i,x)=>(i,a.eval x)) (es.map (·.1)).toArray i z hT.ht hi1 hi2 (by rw [hi3];omega) (by rw [hi3];omega) (by rw [hpe,hi3];rw [hi3] at hf;simpa using hf);unfold Oper.wp execOp;simp only [ho,Sem.run_bind,hr,Result.andThen_ok,Sem.run_pure,Oper.upon,hd];exact k (.slice (some ⟨w.heap.size,0,none⟩) m m) rfl _ _ ⟨F',H'⟩
def Gk (P:Program) (t:Nat):Option (Value×List (Nat×Nat)):=match P.info? t,P.underlying t with
 | some i,some (.struct fs)=>match i.zero,fs.toList.mapM (fun f=>(P.info? f.type).map fun i=>(f.offset,i.size)) with
   |some z,some pl=>some (z,pl)
   |_,_=>none
 |_,_=>none
def RS {α:Type} (offs:List Nat):List α->List (Nat×α)->List α
 |cs,[]=>cs
 |cs,(i,x)::r=>RS offs (cs.set (offs.getD i 0) x) r
def Ct (offs:List Nat):∀(ps:List (Nat×Value)) (cs:List Value),(∀x∈ps,x.2.oneCell'=true)->(∀x∈ps,x.1<offs.length/\offs.getD x.1 0<cs.length)->Instr.fill ((offs.map fun o=>(o,1)).toArray[·]?) cs.toArray ps=some (RS offs cs ps).toArray
 |[],cs,_,_=>rfl
 | (i,v)::ps,cs,h1,h2=>by
   have hv:v.cells= #[v]:=Gb (h1 (i,v) sM);obtain ⟨hi,ho⟩:=h2 (i,v) sM;have hpl:(offs.map fun o=>(o,1)).toArray[i]? =some (offs.getD i 0,1):=by
    simp [List.getD,hi]
   have hc:¬(v.cells.size≠1||decide (offs.getD i 0+v.cells.size>cs.toArray.size))=true:=by rw [hv];simp at ho ⊢;omega
   simp only [Instr.fill,hpl,hc,if_false];rw [hv];have:=Ct offs ps (cs.set (offs.getD i 0) v) (fun x hx=>h1 x (by simp [hx])) (fun x hx=>by have:=h2 x (by simp [hx]);simpa using this);rw [RS,<-this];simp [Array.zipIdx]
def Zec (M:BS) (w:World) (offs:List Nat):∀(es:List (Nat×Ent)) (vs:List Value) (ps:List PV),vs.length=ps.length->(∀(i:Nat) (x:Value) (q:PV),vs[i]? =some x->ps[i]? =some q->Shr M w x q)->(∀x∈es,Shr M w x.2.1 x.2.2)->
 (RS offs vs (es.map fun x=>(x.1,x.2.1))).length=(RS offs ps (es.map fun x=>(x.1,x.2.2))).length/\∀(i:Nat) (x:Value) (q:PV),(RS offs vs (es.map fun x=>(x.1,x.2.1)))[i]? =some x->(RS offs ps (es.map fun x=>(x.1,x.2.2)))[i]? =some q->Shr M w x q
 |[],vs,ps,hl,h,_=>⟨hl,h⟩
 | (j,v,p)::es,vs,ps,hl,h,he=>by
   refine Zec M w offs es (vs.set (offs.getD j 0) v) (ps.set (offs.getD j 0) p) (by simpa using hl) (fun i x q hx hq=>?_) (fun x hx=>he x (by simp [hx]));by_cases hij:offs.getD j 0=i
   . subst hij;(have h1:offs.getD j 0<vs.length:=by have:=Zd hx;simpa using this);rw [XK h1] at hx;rw [XK oM] at hq
     cases hx;cases hq;exact he (j,v,p) sM
   rw [X9 hij] at hx hq;exact h i x q hx hq
def evP (slots:List (Nat×Ent)):List (Nat×Operand)->Option (List (Nat×Ent))
 |[]=>some []
 | (i,x)::xs=>match ev slots x,evP slots xs with
   |some e,some l=>some ((i,e)::l)
   |_,_=>none
def Zed {M:BS} {F:Nat->BS} {a:Act} {w:World} (H:RdF M (⟨sL,hP⟩:St) F a w):∀{xs:List (Nat×Operand)} {es:List (Nat×Ent)},evP sL xs=some es->(xs.map fun x=>(x.1,a.eval x.2))=(es.map fun x=>(x.1,x.2.1))/\∀x∈es,Shr M w x.2.1 x.2.2
 |[],es,h=>by simp [evP] at h;subst h;simp
 | (i,x)::xs,es,h=>by
   simp only [evP] at h;split at h
   . rename_i e l he hl
     cases h;obtain ⟨v,p⟩:=e;obtain ⟨h1,h2⟩:=Zed H hl;obtain ⟨h3,h4⟩:=H.ev he;refine ⟨by simp [h1,h3],fun y hy=>?_⟩;rcases Xi.1 hy with rfl|hy
     . exact h4
     exact h2 y hy
   cases h
def ZpD {t:Nat} {parts:Array (Nat×Operand)} {z:Value} {offs:List Nat} {zs:List Value} {es:List (Nat×Ent)} (hT:Gk P t=some (z,offs.map fun o=>(o,1))) (hzs:z.cells=zs.toArray) (ho:o.op= .build t parts) (hx:evP sL parts.toList=some es)
 (h1:es.all (fun x=>one x.2.2)=true) (hin:es.all (fun x=>decide (x.1<offs.length)&&decide (offs.getD x.1 0<zs.length))=true):YE P (⟨sL,hP⟩:St) o (· = .agg (RS offs zs (es.map fun x=>(x.1,x.2.1))).toArray) (.agg (RS offs (zs.map .val) (es.map fun x=>(x.1,x.2.2)))):=
 .exact fun M F a w H=>by
  obtain ⟨h2,h3⟩:=Zed H hx;obtain ⟨h4,h5⟩:=Zec M w offs es zs (zs.map .val) sM (fun i x q hx hq=>by
   rw [Xl,hx] at hq;simp at hq;subst hq;exact .val _) h3
  refine ⟨.agg _ _ h4 h5,?_⟩;have hb :P.built t ((parts.map fun (i,x)=>(i,a.eval x)).toList)=some (RS offs zs (es.map fun x=>(x.1,x.2.1))).toArray:=by
   have hpe:(parts.map fun (i,x)=>(i,a.eval x)).toList=es.map fun x=>(x.1,x.2.1):=by rw [V8,<-h2]
   rw [hpe];unfold Gk at hT;split at hT
   . rename_i i fs hi hf;split at hT
     . rename_i z' pl hz hpl
       cases hT;unfold Program.built;simp only [hi,hf,hz,hpl,hzs];refine Ct offs _ zs (fun x hx=>?_) (fun x hx=>?_)
       . rw [Xp] at hx;obtain ⟨y,hy,rfl⟩:=hx;exact (h3 y hy).one (Xj.1 h1 y hy)
       rw [Xp] at hx;obtain ⟨y,hy,rfl⟩:=hx;have:=Xj.1 hin y hy;simpa using this
     cases hT
   cases hT
  have:=run_build (P:=P) w t (parts.map fun (i,x)=>(i,a.eval x)) _ hb;simp [execOp,ho,this]
def Zs5 (st:St) (v:Value) (m:Nat) (cs:List PV):Prop:=∀M F a w,RdF M st F a w->∃b off cp,v= .slice (some ⟨b,off,none⟩) m cp/\∀(i:Nat) (p:PV),cs[i]? =some p->∃x,w.cell? ⟨b,off+i,none⟩=some x/\Shr M w x p
def ZpE {x:Operand} {v:Value} {m:Nat} {cs:List PV} (hx:ev sL x=some (v, .sl m cs)) (hm:0<m):Zs5 (⟨sL,hP⟩:St) v m cs:=fun M F a w H=>by
 obtain ⟨_,hS⟩:=H.ev hx
 cases hS with
 |emp=>omega
 |sl b off n c cs vs hn hc hcell hT=>exact ⟨b,off,c,rfl,fun i p hp=>⟨vs i,(hcell i (Zd hp)).1,hT i p hp⟩⟩
def ZgJ {t e kk bytes n m:Nat} {z:Value} {x y:Operand} {h v2:Value} {q q2:PV} {cs cs2:List PV} (l d:Nat) (hT:ElT P t e kk bytes z) (hw:Yb ops sL o=some true) (hd:o.dst=some d) (hn:d<c.nt)
 (ho:o.op= .call {callee:= .builtin .append,args:= #[x,y],argTypes:= #[t,t]}) (hx:ev sL x=some (h,q)) (hy:ev sL y=some (v2,q2)) (hl:lk hP l=some (h, .own e kk n cs)) (hsrc:Zs5 (⟨sL,hP⟩:St) v2 m cs2) (hlen2:cs2.length=m*kk) (hdl:lk (del l hP) d=none)
 (hok:cs2.all one=true) (hlen:n+m<=9223372036854775807) (hb:(n+m)*bytes<=140737488355328)
 (hdr:¬c.dr) (k:∀h':Value,h'.oneCell'=true->aL P c ops Q rest ⟨put d (h', .val h') sL,put d (h', .own e kk (n+m) (cs++cs2)) (del l hP)⟩):aL P c ops Q (o::rest) (⟨sL,hP⟩:St):=
 W1 hw fun a w F H=>by
  have hxv:=(H.rd.ev hx).1;have hyv:=(H.rd.ev hy).1;have hT1:=H.tr l _ _ hl;obtain ⟨xs,Fs,hrow,hlen1,hTc,hdd,hbb,hFF⟩:=hT1.row;obtain ⟨b2,off2,cp2,rfl,hsr⟩:=hsrc _ F a w H.rd;obtain ⟨i,hi1,hi2,hi3,hi4⟩:=hT.info;have hex:∃xs2:List Value,xs2.length=cs2.length/\∀(j:Nat) (u:Value) (p:PV),xs2[j]? =some u->cs2[j]? =some p->w.cell? ⟨b2,off2+j,none⟩=some u/\Shr (mof c hP F) w u p:=by
   refine ⟨(List.range cs2.length).map fun j=>(w.cell? ⟨b2,off2+j,none⟩).getD undef,sM,fun j u p hu hp=>?_⟩;have hj:=Zd hp;simp [hj] at hu;obtain ⟨x,hx1,hx2⟩:=hsr j p hp;rw [hx1] at hu;simp at hu;subst hu;exact ⟨hx1,hx2⟩
  obtain ⟨xs2,hxl,hxs⟩:=hex;obtain ⟨v',w',hr,hown,hg,_,hblk⟩:=run_append_own_at (P:=P) w 0 t o.type e i z kk bytes hT.ht hi1 hi2 hi3 hi4 hT.hz hT.hk h n xs hrow ⟨b2,off2,none⟩ m cp2 xs2 oM
   (fun j u hu=>by
     obtain ⟨p,hp⟩:=Wc hu hxl;rw [Kk];exact (hxs j u p hu hp).1)
   (fun u hu=>by
     obtain ⟨j,hj,rfl⟩:=V7 hu;obtain ⟨p,hp⟩:=YV (show j<cs2.length by omega);exact (hxs j _ p (Xr hj) hp).2.one (Xj.1 hok p (Xb hp)))
   (by unfold maxLen;exact hlen) hb (Xg _)
  have hch:Chg (fun b=>h.ownBlock=some b) w w':=(Chg.grown hg).wid fun b hb=> .inl hb;have hF1:∀b,h.ownBlock=some b->F l b:=fun b hb=>(hFF b).2 (.inl hb);have hv1:v'.oneCell'=true:=by rcases Kv hown with ⟨rfl,_⟩|⟨g,cap,rfl,_⟩<;>rfl
  let Fn:Nat->BS:=fun j b=>if j<cs.length then Fs j b else False;let Fd:BS:=fun b=>v'.ownBlock=some b\/∃j,j<(cs++cs2).length/\Fn j b;have hFd:∀b,Fd b->F l b\/w.heap.size<=b:=by
   rintro b (h1|⟨j,hj,h1⟩)
   . rcases hblk with h2|h2
     . exact .inl (hF1 b (by rw [<-h2];exact h1))
     rw [h2] at h1;cases h1;exact .inr (Xd _)
   simp only [Fn] at h1;split at h1
   . exact .inl ((hFF b).2 (.inr ⟨j,by assumption,h1⟩))
   exact h1.elim
  have key:HoldsF c ⟨put d (v', .val v') sL,put d (v', .own e kk (n+m) (cs++cs2)) (del l hP)⟩ (fun l'=>if l'=d then Fd else F l') (a.put (some d) v') w':=by
   have aux:∀l' x,(l'=l\/l'=d)->lk (put d (v', .own e kk (n+m) (cs++cs2)) (del l hP)) l'=some x->l'=d/\x=(v', .own e kk (n+m) (cs++cs2)):=fun l' x hTl hx'=>by
    rcases YC hx' with ⟨e1,e2⟩|⟨hne2,e1⟩
    . exact ⟨e1.symm,e2.symm⟩
    rcases hTl with h5|h5
    . exact Qe h5.symm (Wt e1).1
    exact Qe h5.symm hne2
   refine H.change (fun l'=>l'=l\/l'=d) hn (hch.wid fun b hb=> .inl ⟨l,_, .inl rfl,hl,hF1 b hb⟩) (fun l' x hnT hx'=>?_) (fun l' x b hTl hx' hb'=>?_) (fun hmm l' u p hTl hx'=>?_) (fun l1 l2' x1 x2 b h1 h2 hne' hx1 hx2=>Qe ((aux l1 x1 h1 hx1).1.trans (aux l2' x2 h2 hx2).1.symm) hne') (fun _=> .val _) (fun h=>(hdr h).elim)
   . rcases YC hx' with ⟨e1,_⟩|⟨_,e1⟩
     . exact Qe (.inr e1.symm) hnT
     refine ⟨(Wt e1).2,?_⟩;have:l'≠d:=fun e2=>hnT (.inr e2);simp [this]
   . obtain ⟨rfl,_⟩:=aux l' x hTl hx';simp only [if_true] at hb';rcases hFd b hb' with h1|h1
     . exact .inl ⟨l,_, .inl rfl,hl,h1⟩
     exact .inr h1
   obtain ⟨rfl,e2⟩:=aux l' _ hTl hx'
   cases e2;simp only [if_true];refine .own (xs++xs2) Fn hown (by simp;omega) (fun j y p hy' hp'=>?_) (fun j1 j2 b hj1 hj2 hne' h1 h2=>?_) (fun j b hj h1=>?_) (fun b=>Iff.rfl)
   . simp only [Fn];rcases XL j cs.length with hj|hj
     . rw [Vo hj] at hp';rw [Vo oM] at hy';simp only [hj,if_true];exact (hTc j y p hy' hp').to hch hmm (fun b _ hb'=> .inr ⟨l,_,hl,hF1 b hb'⟩) (fun b hb' he=>hbb j b hj hb' he)
     rw [Vp hj] at hp';rw [Vp oM,<-hlen1] at hy';simp only [show ¬j<cs.length by omega,if_false];exact .shr ((hxs (j-cs.length) y p hy' hp').2.to hch (fun b _ hb'=> .inr ⟨l,_,hl,hF1 b hb'⟩) hmm) (fun _ h=>h)
   . simp only [Fn] at h1 h2;split at h1
     . split at h2
       . exact hdd j1 j2 b (by assumption) (by assumption) hne' h1 h2
       exact h2
     exact h1
   simp only [Fn] at h1;split at h1
   . rename_i hjl;intro hbk;have hlt:=hT1.lt b ((hFF b).2 (.inr ⟨j,hjl,h1⟩));rcases hblk with h3|h3
     . rw [h3] at hbk;exact hbb j b hjl h1 hbk
     rw [h3] at hbk;cases hbk;omega
   exact h1.elim
  unfold Oper.wp execOp;simp only [ho,resolve,invoke,builtin,Sem.run_bind,Sem.run_pure,Result.andThen_ok,UA,Xn,Vz,hxv,hyv,hr,Oper.upon,hd];exact k v' hv1 _ _ ⟨_,key⟩
def ZpF {t e kk bytes n:Nat} {z:Value} {x y:Operand} {h v2:Value} {q:PV} {cs:List PV} (l d:Nat) (hT:ElT P t e kk bytes z) (hw:Yb ops sL o=some true) (hd:o.dst=some d) (hn:d<c.nt)
 (ho:o.op= .call {callee:= .builtin .append,args:= #[x,y],argTypes:= #[t,t]}) (hx:ev sL x=some (h,q)) (hy:ev sL y=some (v2, .sl 0 [])) (hl:lk hP l=some (h, .own e kk n cs))
 (k:aL P c ops Q rest ⟨put d (h, .val h) sL,hP⟩):aL P c ops Q (o::rest) (⟨sL,hP⟩:St):=
 W1 hw fun a w F H=>by
  have hxv:=(H.rd.ev hx).1;obtain ⟨hyv,hS⟩:=H.rd.ev hy;obtain ⟨i,hi1,hi2,hi3,hi4⟩:=hT.info;obtain ⟨xs,Fs,hrow,hlen1,hTc,hdd,hbb,hFF⟩:=(H.tr l _ _ hl).row;have hr:(Builtin.append_ #[t,t] o.type #[h,v2]).run P w= .ok h w:=by
   have hv2:∃ad cp,v2= .slice ad 0 cp:=by
    cases hS with
    |emp a c=>exact ⟨_,_,rfl⟩
    |sl b off n c cs vs=>exact ⟨_,_,rfl⟩
   obtain ⟨ad,cp,rfl⟩:=hv2;rcases Kv hrow with ⟨rfl,_,_⟩|⟨g,cap,rfl,h1,h2,h3⟩
   . cases ad<;>simp [Builtin.append_,run_underlying hT.ht,sizeOf,typeInfo,hi1,Builtin.lenOf,Builtin.firstCells,loadCells,loadCellsFrom]
   cases ad<;>simp [Builtin.append_,run_underlying hT.ht,sizeOf,typeInfo,hi1,Builtin.lenOf,Builtin.firstCells,loadCells,loadCellsFrom,h1,storeCells]
  unfold Oper.wp execOp;simp only [ho,resolve,invoke,builtin,Sem.run_bind,Sem.run_pure,Result.andThen_ok,UA,Xn,Vz,hxv,hyv,hr,Oper.upon,hd];exact k _ _ ⟨F,H.put hn (.val _)⟩
def slc (v:Value) (lo hi k:Nat):Value:=match v with
 | .slice a n cp=> .slice (if cp=lo then a else a.map (·.add (lo*k))) (hi-lo) (cp-lo)
 |v=>v
def bnd (slots:List (Nat×Ent)) (dflt:Nat):Option Operand->Option Nat
 |none=>some dflt
 | some x=>match ev slots x with
   |some (.int .i64 n,_)=>if 0<=n then some n.toNat else none
   |_=>none
def ζe {t e k:Nat} (hT:SlT P t e k=true) {a:Act} {M:BS} {F:Nat->BS} {w:World} (H:RdF M (⟨sL,hP⟩:St) F a w) {lo hi:Option Operand} {i j n cp:Nat} {ad:Option Addr} (hlo:bnd sL 0 lo=some i) (hhi:bnd sL n hi=some j) (hij:i<=j) (hj:j<=n) (hn:n<=cp):
 (Instr.sliceAt t (.slice ad n cp) (lo.map a.eval) (hi.map a.eval) none).run P w= .ok (slc (.slice ad n cp) i j k) w:=by
 have key:∀{x:Option Operand} {dflt r:Nat},bnd sL dflt x=some r->(x=none/\r=dflt)\/∃y,x=some y/\a.eval y= .int .i64 r:=fun {x dflt r} h=>by
  cases x with
  |none=>simp [bnd] at h;exact .inl ⟨rfl,h.symm⟩
  | some y=>
    simp only [bnd] at h;split at h
    . rename_i m q hq;split at h
      . rename_i h0
        cases h;refine .inr ⟨y,rfl,?_⟩;rw [(H.ev hq).1,Int.toNat_of_nonneg h0]
      cases h
    cases h
 have hjc:j<=cp:=oM
 have hr:(Instr.slice t (.slice ad n cp) (lo.map a.eval) (hi.map a.eval) none).run P w= .ok (slc (.slice ad n cp) i j k) w:=by
  rcases key hlo with ⟨rfl,rfl⟩|⟨y,rfl,hy⟩
  . rcases key hhi with ⟨rfl,rfl⟩|⟨y',rfl,hy'⟩
    . simp [Instr.slice,run_underlying (SlT.und hT),Instr.sliceBounds,SlT.size hT,slc]
    simp [Instr.slice,run_underlying (SlT.und hT),Instr.sliceBounds,Instr.sliceBound,asIntOf,SlT.size hT,slc,hy',hjc]
  rcases key hhi with ⟨rfl,rfl⟩|⟨y',rfl,hy'⟩
  . simp [Instr.slice,run_underlying (SlT.und hT),Instr.sliceBounds,Instr.sliceBound,asIntOf,SlT.size hT,slc,hy,hij]
  simp [Instr.slice,run_underlying (SlT.und hT),Instr.sliceBounds,Instr.sliceBound,asIntOf,SlT.size hT,slc,hy,hy',hjc,hij]
 unfold Instr.sliceAt
 simp only [Sem.run_bind,run_underlying (SlT.und hT),Result.andThen_ok]
 exact hr
def Wd {t e k n i j:Nat} {x:Operand} {lo hi:Option Operand} {v:Value} {cs:List PV} (hT:SlT P t e k=true) (ho:o.op= .slice t x lo hi none) (hx:ev sL x=some (v, .sl n cs)) (hlo:bnd sL 0 lo=some i) (hhi:bnd sL n hi=some j) (hij:i<=j) (hj:j<=n) (hcs:cs.length=n*k):
 YE P (⟨sL,hP⟩:St) o (· =slc v i j k) (.sl (j-i) ((cs.drop (i*k)).take ((j-i)*k))):=
 .exact fun M F a w H=>by
  obtain ⟨hv,hs⟩:=H.ev hx
  cases hs with
  | emp ad cp hc ha=>
    have hi0:i=0:=oM;have hj0:j=0:=oM;subst hi0 hj0;refine ⟨?_,?_⟩
    . have:=Shr.emp (M:=M) (w:=w) (if cp=0 then ad else ad.map (·.add (0*k))) cp hc (fun h=>by
       split at h
       . assumption
       cases ad with
       |none=>exact ha rfl
       |some _=>cases h)
      simpa [slc] using this
    simp [execOp,ho,hv,ζe hT H hlo hhi hij hj (Xg _)]
  | sl b off n cp cs vs hn hc hcell hT'=>
    refine ⟨?_,?_⟩
    . simp only [slc];by_cases hcp:cp=i
      . have hji:j=i:=oM;subst hji hcp;simp only [if_true,Vg,X8,Um];exact .sl b off 0 0 [] vs (Xd _) (by unfold maxLen;omega) sM sM
      simp only [hcp,if_false,VY,Kk];refine .sl b (off+i*k) (j-i) (cp-i) _ (fun m=>vs (i*k+m)) oM oM (fun m hm=>?_) (fun m p hp=>?_)
      . rw [Vy];refine hcell (i*k+m) ?_;simp at hm;omega
      (have hm:m<(j-i)*k:=by have:=Zd hp;simp at this;omega);rw [X1 hm,Vn] at hp;exact hT' _ p hp
    simp [execOp,ho,hv,ζe hT H hlo hhi hij hj hn]
def RU {t e k e' k' n i j:Nat} {x:Operand} {lo hi:Option Operand} {h:Value} {q:PV} {cs:List PV} (l:Nat) (hT:SlT P t e k=true) (ho:o.op= .slice t x lo hi none) (hx:ev sL x=some (h,q)) (hl:lk hP l=some (h, .own e' k' n cs)) (hlo:bnd sL 0 lo=some i) (hhi:bnd sL n hi=some j) (hij:i<=j) (hj:j<=n):
 YE P (⟨sL,hP⟩:St) o (· =slc h i j k) (.val (slc h i j k)):=
 .exact fun M F a w H=>by
  have hv:=(H.ev hx).1;obtain ⟨xs,Fs,hrow,hlen,_⟩:=(H.tr l _ _ hl).row;refine ⟨.val _,?_⟩;rcases Kv hrow with ⟨rfl,rfl,_⟩|⟨g,cap,rfl,h1,h2,h3⟩
  . simp [execOp,ho,hv,ζe hT H hlo hhi hij hj (Xd _)]
  simp [execOp,ho,hv,ζe hT H hlo hhi hij hj h1]
def aC (P:Program) (c:Ctx) (code:Code) (Q:Exit->Act->World->Prop) (st:St):Prop:=∀a w,Holds c st a w->code.wp P Q a w
def aN (c:Ctx) (Q:Exit->Act->World->Prop) (st:St):Prop:=∀a w,Holds c st a w->Q .normal a w
def aX (c:Ctx) (Q:Exit->Act->World->Prop) (id:Nat) (st:St):Prop:=∀a w,Holds c st a w->Q (.exit id) a w
def aR (c:Ctx) (Q:Exit->Act->World->Prop) (st:St):Prop:=∀a w,Holds c st a w->Q .ret a w
section
variable {P:Program} {c:Ctx} {Q:Exit->Act->World->Prop} {sL hP:List (Nat×Ent)}
def ζB {x y:Code} (h:aC P c x (Exit.then (y.wp P Q) Q) (⟨sL,hP⟩:St)):aC P c (x.seq y) Q (⟨sL,hP⟩:St):=fun a w H=>wp_seq (h a w H)
def Zp {id:Nat} {l:List Oper} (h:aL P c l.toArray Q l (⟨sL,hP⟩:St)):aC P c (.region id l.toArray false) Q (⟨sL,hP⟩:St):=fun a w H=>wp_region_lit (h a w H)
def WC {ops:Array Oper} (h:aN c Q (⟨sL,hP⟩:St)):aL P c ops Q [] (⟨sL,hP⟩:St):=h
def Hu (h:aN c Q (⟨sL,hP⟩:St)):aC P c .skip Q (⟨sL,hP⟩:St):=fun a w H=>wp_skip (h a w H)
def Yq {x:Operand} {t e:Code} {b:Bool} {q:PV} (hx:ev sL x=some (.bool b,q)) (ht:b=true->aC P c t Q (⟨sL,hP⟩:St)) (hf:b=false->aC P c e Q (⟨sL,hP⟩:St)):aC P c (.cond x t e) Q (⟨sL,hP⟩:St):=fun a w H=>
 wp_cond_split (H.elim fun F H=>(H.rd.ev hx).1) (fun h=>ht h a w H) (fun h=>hf h a w H)
def Og {id:Nat} {x:Code} (h:aC P c x (Exit.inBlock id Q) (⟨sL,hP⟩:St)):aC P c (.block id x) Q (⟨sL,hP⟩:St):=fun a w H=>wp_block (h a w H)
def Hv {id:Nat} (h:aX c Q id (⟨sL,hP⟩:St)):aC P c (.exit id) Q (⟨sL,hP⟩:St):=fun a w H=>wp_exit (h a w H)
def ζC (h:aR c Q (⟨sL,hP⟩:St)):aC P c .ret Q (⟨sL,hP⟩:St):=fun a w H=>wp_ret (h a w H)
def Zs {ι:Type} {S:ι->St} {x:Code} (h:Tn (⟨sL,hP⟩:St) S) (k:∀i,aC P c x Q (S i)):aC P c x Q (⟨sL,hP⟩:St):=fun a w H=>let ⟨i,hi⟩:=h c a w H;k i a w hi
def ZJ {ι:Type} {S:ι->St} (h:Tn (⟨sL,hP⟩:St) S) (k:∀i,aN c Q (S i)):aN c Q (⟨sL,hP⟩:St):=fun a w H=>let ⟨i,hi⟩:=h c a w H;k i a w hi
def YK {ι:Type} {S:ι->St} (h:Tn (⟨sL,hP⟩:St) S) (k:∀i,aR c Q (S i)):aR c Q (⟨sL,hP⟩:St):=fun a w H=>let ⟨i,hi⟩:=h c a w H;k i a w hi
def Hw {y:Code} (h:aC P c y Q (⟨sL,hP⟩:St)):aN c (Exit.then (y.wp P Q) Q) (⟨sL,hP⟩:St):=h
def Oh {id:Nat} (h:aN c Q (⟨sL,hP⟩:St)):aN c (Exit.inBlock id Q) (⟨sL,hP⟩:St):=h
def Hx {K:Act->World->Prop} {id:Nat} (h:aX c Q id (⟨sL,hP⟩:St)):aX c (Exit.then K Q) id (⟨sL,hP⟩:St):=h
def Oi {id:Nat} (h:aN c Q (⟨sL,hP⟩:St)):aX c (Exit.inBlock id Q) id (⟨sL,hP⟩:St):=fun a w H=>by simp only [Exit.inBlock,if_true];exact h a w H
def Oj {id id':Nat} (hne:Nat.beq id' id=false) (h:aX c Q id' (⟨sL,hP⟩:St)):aX c (Exit.inBlock id Q) id' (⟨sL,hP⟩:St):=fun a w H=>by
 have:id'≠id:=fun e=>by subst e;simp at hne
 simp only [Exit.inBlock,this,if_false];exact h a w H
def Hy {K:Act->World->Prop} (h:aR c Q (⟨sL,hP⟩:St)):aR c (Exit.then K Q) (⟨sL,hP⟩:St):=h
def Ol {id:Nat} (h:aR c Q (⟨sL,hP⟩:St)):aR c (Exit.inBlock id Q) (⟨sL,hP⟩:St):=h
def DZ (p:Nat->Prop) (h:∃n,p n):∃n,p n/\∀m,p m->n<=m:=by
 obtain ⟨n,hn⟩:=h
 induction n using Nat.strongRecOn with
 | _ n ih=>
   by_cases hm:∃m,m<n/\p m
   . obtain ⟨m,h1,h2⟩:=hm;exact ih m h1 h2
   exact ⟨n,hn,fun m hp=>Nat.le_of_not_lt fun h=>hm ⟨m,h,hp⟩⟩
def Zij {ι:Type} (c:Ctx) (I:ι->St) (μ:ι->Nat) (i:ι):Act->World->Prop:=fun a w=>∃j,μ j<μ i/\Holds c (I j) a w
def Y0 {ι:Type} {x:Code} (I:ι->St) (μ:ι->Nat) (i0:ι) (h0:∀a w,Holds c (⟨sL,hP⟩:St) a w->Holds c (I i0) a w) (round:∀i,aC P c x (Exit.then (Zij c I μ i) Q) (I i)):aC P c (.loop x) Q (⟨sL,hP⟩:St):=fun a w H=>by
 classical
 let μ':Act->World->Nat:=fun a w=>if h:∃n,∃i,Holds c (I i) a w/\μ i=n then Classical.choose (DZ _ h) else 0
 refine wp_loop (fun a w=>∃i,Holds c (I i) a w) μ' ⟨i0,h0 a w H⟩ ?_
 rintro a w ⟨i,hi⟩
 have hex:∃n,∃i,Holds c (I i) a w/\μ i=n:=⟨_,i,hi,rfl⟩
 obtain ⟨⟨i1,hi1,hmu⟩,_⟩:=Classical.choose_spec (DZ _ hex)
 have hμ:μ' a w=μ i1:=by simp only [μ',dif_pos hex];exact hmu.symm
 refine wp_mono (round i1 a w hi1) fun e a' w' hq=>?_
 cases e with
 | normal=>
   obtain ⟨j,hj,hH⟩:=hq;refine ⟨⟨j,hH⟩,?_⟩;have hex':∃n,∃i,Holds c (I i) a' w'/\μ i=n:=⟨_,j,hH,rfl⟩;have hle:=(Classical.choose_spec (DZ _ hex')).2 (μ j) ⟨j,hH,rfl⟩;have:μ' a' w'<=μ j:=by simp only [μ',dif_pos hex'];exact hle
   omega
 |_=>exact hq
def Zh {ι:Type} {I:ι->St} {μ:ι->Nat} {i:ι} (j:ι) (hμ:μ j<μ i) (hs:Sub (I j).slots sL) (hh:Sub (I j).heap hP):aN c (Exit.then (Zij c I μ i) Q) (⟨sL,hP⟩:St):=fun a w H=>⟨j,hμ,H.weaken hs hh⟩
def EA {ι:Type} {S:ι->St} (i:ι) (hs:Sub (S i).slots sL) (hh:Sub (S i).heap hP):aN c (Exit.then (fun a w=>∃i,Holds c (S i) a w) Q) (⟨sL,hP⟩:St):=fun a w H=>⟨i,H.weaken hs hh⟩
def Lc (c:Ctx) (R:PV->Prop) (e:Ending) (w':World):Prop:=∃v p F,e= .returned v/\R p/\Ext c.w0 w'/\Tr (fun b=>c.M0 b\/F b) w' v p F/\(∀b,F b->c.w0.heap.size<=b)/\(c.dr->c.w0.drawn<=w'.drawn)
def AFd (dd:Prop) (P:Program) (f:FuncId) (ps:List PV) (R:PV->Prop):Prop:=∀(M:BS) (w:World) (vs:List Value),M0k w M (fun _=>False) dd->vs.length=ps.length->(∀(i:Nat) (v:Value) (p:PV),vs[i]? =some v->ps[i]? =some p->Shr M w v p)->Calls P f vs.toArray w (Lc ⟨w,M,fun _=>False,0,dd,[]⟩ R)
abbrev AF (P:Program) (f:FuncId) (ps:List PV) (R:PV->Prop):Prop:=AFd False P f ps R
abbrev AFg (P:Program) (f:FuncId) (ps:List PV) (R:PV->Prop):Prop:=AFd True P f ps R
def AFd.mono {dd:Prop} {f:FuncId} {ps:List PV} {R R':PV->Prop} (h:AFd dd P f ps R) (hR:∀p,R p->R' p):AFd dd P f ps R':=fun M w vs hM hl hv=>(h M w vs hM hl hv).mono fun e w' ⟨v,p,F,h1,h2,h3⟩=>⟨v,p,F,h1,hR p h2,h3⟩
def AF.mono {f:FuncId} {ps:List PV} {R R':PV->Prop} (h:AF P f ps R) (hR:∀p,R p->R' p):AF P f ps R':=AFd.mono h hR
def AFg.mono {f:FuncId} {ps:List PV} {R R':PV->Prop} (h:AFg P f ps R) (hR:∀p,R p->R' p):AFg P f ps R':=AFd.mono h hR
def JD:Nat->List Value->List PV->List (Nat×Ent)
 |i,v::vs,p::ps=>(i,v,p)::JD (i+1) vs ps
 |_,_,_=>[]
def Cu:∀(vs:List Value) (ps:List PV) (i t:Nat) (v:Value) (p:PV),lk (JD i vs ps) t=some (v,p)->i<=t/\vs[t-i]? =some v/\ps[t-i]? =some p
 |[],_,_,_,_,_,h=>by simp [JD,lk] at h
 |_::_,[],_,_,_,_,h=>by simp [JD,lk] at h
 | u ::vs,q::ps,i,t,v,p,h=>by
   simp only [JD,lk] at h
   cases hb:Nat.beq i t
   . rw [hb] at h;obtain ⟨h1,h2,h3⟩:=Cu vs ps (i+1) t v p h;have:t-i=(t-(i+1))+1:=oM;exact ⟨oM,by rw [this];simpa using h2,by rw [this];simpa using h3⟩
   rw [hb] at h;have:i=t:=X0 hb;subst this
   cases h;simp
def AFd.of_bodyS {dd:Prop} {f:FuncId} {fn:Func} {code:Code} {ps:List PV} {R:PV->Prop} (nt:Nat) (hf:P.funcs[f]? =some fn) (hb:fn.body=some code) (hnt:fn.ntmps=nt) (hn:ps.length<=nt)
 (h:∀(w0:World) (M0:BS) (vs:List Value),vs.length=ps.length->(∀(i:Nat) (v:Value) (p:PV),vs[i]? =some v->ps[i]? =some p->vOf p v)->(∀(i:Nat) (v:Value) (p:PV),vs[i]? =some v->ps[i]? =some p->Shr M0 w0 v p)->aC P ⟨w0,M0,fun _=>False,nt,dd,[]⟩ code (bodyPost P fn (Lc ⟨w0,M0,fun _=>False,nt,dd,[]⟩ R)) ⟨JD 0 vs ps,[]⟩):AFd dd P f ps R:=fun M w vs hM hl hv=>by
 subst hnt
 refine calls_of_wp hf hb ?_
 refine wp_mono (h w M vs hl (fun i v p h1 h2=>(hv i v p h1 h2).vOf) hv _ w ⟨fun _ _=>False,⟨⟨by simp [lk],by simp [lk],by simp [lk],hM,Chg.rfl' _ _,fun _=>Xd _⟩,fun t v p ht=>?_,?_,rfl⟩⟩) fun e a w' hq=>?_
 . obtain ⟨_,h1,h2⟩:=Cu vs ps 0 t v p ht;simp only [VA] at h1 h2;refine ⟨?_,(hv t v p h1 h2).anti fun b _ hb=>?_⟩
   . have:=Zd h1;rw [VQ (by simpa using this)];simpa using h1
   rcases hb with hb|⟨l,x,h3,_⟩
   . exact hb
   simp [lk] at h3
 . simp;omega
 cases e<;>exact hq
def AFd.of_body {dd:Prop} {f:FuncId} {fn:Func} {code:Code} {ps:List PV} {R:PV->Prop} (nt:Nat) (hf:P.funcs[f]? =some fn) (hb:fn.body=some code) (hnt:fn.ntmps=nt) (hn:ps.length<=nt)
 (h:∀(w0:World) (M0:BS) (vs:List Value),vs.length=ps.length->(∀(i:Nat) (v:Value) (p:PV),vs[i]? =some v->ps[i]? =some p->vOf p v)->aC P ⟨w0,M0,fun _=>False,nt,dd,[]⟩ code (bodyPost P fn (Lc ⟨w0,M0,fun _=>False,nt,dd,[]⟩ R)) ⟨JD 0 vs ps,[]⟩):AFd dd P f ps R:=AFd.of_bodyS nt hf hb hnt hn fun w0 M0 vs h1 h2 _=>h w0 M0 vs h1 h2
def AF.of_body {f:FuncId} {fn:Func} {code:Code} {ps:List PV} {R:PV->Prop} (nt:Nat) (hf:P.funcs[f]? =some fn) (hb:fn.body=some code) (hnt:fn.ntmps=nt) (hn:ps.length<=nt)
 (h:∀(w0:World) (M0:BS) (vs:List Value),vs.length=ps.length->(∀(i:Nat) (v:Value) (p:PV),vs[i]? =some v->ps[i]? =some p->vOf p v)->aC P ⟨w0,M0,fun _=>False,nt,False,[]⟩ code (bodyPost P fn (Lc ⟨w0,M0,fun _=>False,nt,False,[]⟩ R)) ⟨JD 0 vs ps,[]⟩):AF P f ps R:=AFd.of_body nt hf hb hnt hn h
def AFg.of_body {f:FuncId} {fn:Func} {code:Code} {ps:List PV} {R:PV->Prop} (nt:Nat) (hf:P.funcs[f]? =some fn) (hb:fn.body=some code) (hnt:fn.ntmps=nt) (hn:ps.length<=nt)
 (h:∀(w0:World) (M0:BS) (vs:List Value),vs.length=ps.length->(∀(i:Nat) (v:Value) (p:PV),vs[i]? =some v->ps[i]? =some p->vOf p v)->aC P ⟨w0,M0,fun _=>False,nt,True,[]⟩ code (bodyPost P fn (Lc ⟨w0,M0,fun _=>False,nt,True,[]⟩ R)) ⟨JD 0 vs ps,[]⟩):AFg P f ps R:=AFd.of_body nt hf hb hnt hn h
def Zg {fn:Func} {R:PV->Prop} {t:Nat} {v:Value} {p:PV} (hr:fn.results= #[.tmp t]) (ht:lk sL t=some (v,p)) (hR:R p) (hN:∀b,¬c.N0 b:=by intro _ h;exact h) (hdf:c.df=[]:=by exact rfl):aR c (bodyPost P fn (Lc c R)) (⟨sL,hP⟩:St):=fun a w ⟨F,H⟩=>by
 obtain ⟨h1,h2⟩:=H.sl t v p ht
 refine ⟨H.df.trans hdf,v,?_,v,p,fun _=>False,rfl,hR,H.ext.ext (fun b _=>hN b), .shr (h2.anti fun b _ hb=>?_) (fun _ h=>h),fun _ h=>h.elim,H.dw⟩
 . simp [results,hr,VN,h1]
 rcases hb with hb|hb
 . exact .inl hb
 exact hb.elim
def Gm {fn:Func} {R:PV->Prop} {t:Nat} {v:Value} {p q:PV} (l:Nat) (hr:fn.results= #[.tmp t]) (ht:lk sL t=some (v,q)) (hl:lk hP l=some (v,p)) (hR:R p) (hN:∀b,¬c.N0 b:=by intro _ h;exact h) (hdf:c.df=[]:=by exact rfl):aR c (bodyPost P fn (Lc c R)) (⟨sL,hP⟩:St):=fun a w ⟨F,H⟩=>by
 obtain ⟨h1,h2⟩:=H.sl t v q ht
 refine ⟨H.df.trans hdf,v,?_,v,p,F l,rfl,hR,H.ext.ext (fun b _=>hN b),(H.tr l v p hl).anti fun b _ hb=>?_,fun b hb=>(H.lo l _ b hl hb).resolve_right (hN b),H.dw⟩
 . simp [results,hr,VN,h1]
 rcases hb with hb|hb
 . exact .inl hb
 exact .inr ⟨l,_,hl,hb⟩
def Y3 {fn:Func} {R:PV->Prop} {t s:Nat} {v u:Value} {p q:PV} (hr:fn.results= #[.tmp t, .tmp s]) (ht:lk sL t=some (v,p)) (hs:lk sL s=some (u,q)) (hR:R (.tup [p,q])) (hN:∀b,¬c.N0 b:=by intro _ h;exact h) (hdf:c.df=[]:=by exact rfl):aR c (bodyPost P fn (Lc c R)) (⟨sL,hP⟩:St):=fun a w ⟨F,H⟩=>by
 obtain ⟨h1,h2⟩:=H.sl t v p ht
 obtain ⟨h3,h4⟩:=H.sl s u q hs
 have hM:∀b,b<w.heap.size->(c.M0 b\/False)->mof c hP F b:=fun b _ hb=>by
  rcases hb with hb|hb
  . exact .inl hb
  exact hb.elim
 refine ⟨H.df.trans hdf, .tuple [v,u].toArray,?_,_,_,fun _=>False,rfl,hR,H.ext.ext (fun b _=>hN b), .shr (.tup [v,u] [p,q] rfl fun i x r hx hr=>?_) (fun _ h=>h),fun _ h=>h.elim,H.dw⟩
 . simp [results,hr,VN,h1,h3]
 match i with
 |0=>simp at hx hr;subst hx hr;exact h2.anti hM
 |1=>simp at hx hr;subst hx hr;exact h4.anti hM
 |i+2=>simp at hx
def ZgK {fn:Func} {R:PV->Prop} {t s:Nat} {v u:Value} {p q r:PV} (l:Nat) (hr:fn.results= #[.tmp t, .tmp s]) (ht:lk sL t=some (v,r)) (hl:lk hP l=some (v,p)) (hs:lk sL s=some (u,q)) (hR:R (.tup [p,q])) (hN:∀b,¬c.N0 b:=by intro _ h;exact h) (hdf:c.df=[]:=by exact rfl):aR c (bodyPost P fn (Lc c R)) (⟨sL,hP⟩:St):=fun a w ⟨F,H⟩=>by
 obtain ⟨h1,h2⟩:=H.sl t v r ht
 obtain ⟨h3,h4⟩:=H.sl s u q hs
 have hM:∀b,b<w.heap.size->(c.M0 b\/F l b)->mof c hP F b:=fun b _ hb=>by
  rcases hb with hb|hb
  . exact .inl hb
  exact .inr ⟨l,_,hl,hb⟩
 refine ⟨H.df.trans hdf, .tuple [v,u].toArray,?_,_,_,F l,rfl,hR,H.ext.ext (fun b _=>hN b), .tup [v,u] (fun i=>if i=0 then F l else fun _=>False) rfl (fun i x r hx hr=>?_) (fun i j b hi hj hne h5 h6=>?_) (fun b=>?_),fun b hb=>(H.lo l _ b hl hb).resolve_right (hN b),H.dw⟩
 . simp [results,hr,VN,h1,h3]
 . match i with
   |0=>simp at hx hr;subst hx hr;exact (H.tr l v p hl).anti hM
   |1=>simp at hx hr;subst hx hr;exact .shr (h4.anti hM) (fun _ h=>h)
   |i+2=>simp at hx
 . split at h5
   . split at h6
     . omega
     exact h6
   exact h5
 constructor
 . intro hb;exact ⟨0,sM,by simpa using hb⟩
 rintro ⟨i,_,hb⟩;split at hb
 . exact hb
 exact hb.elim
def Om (st:St) (v:Value) (q:PV):Prop:=∀M F a w,RdF M st F a w->Shr (fun _=>False) w v q
def Gr {x:Operand} {v:Value} {p:PV} (h:ev sL x=some (v,p)):Om (⟨sL,hP⟩:St) v p:=fun M F a w H=>(H.ev h).2.anti fun _ _ h=>h.elim
def EB {l:Nat} {v:Value} {p:PV} (h:lk hP l=some (v,p)):Om (⟨sL,hP⟩:St) v (share p):=fun M F a w H=>(H.tr l v p h).share (fun _ _ h=>h.elim) (fun _ _ h=>h)
def ZbN {l j e k n:Nat} {h:Value} {cs:List PV} (hl:lk hP l=some (h, .own e k n cs)) (hn:0<n):Om (⟨sL,hP⟩:St) (padd (sbase h) j) (.sptr j (Wi cs)):=fun M F a w H=>by
 have h1:=H.tr l _ _ hl
 obtain ⟨g,cap,rfl,_⟩:=GM h1 hn
 have h2:=h1.share (M':=fun _=>False) (fun _ _ h=>h.elim) (fun _ _ h=>h)
 rw [share] at h2
 generalize Wi cs=cs' at h2 ⊢
 cases h2 with
 |emp=>omega
 |sl _ _ _ _ _ vs _ _ hcell hT=>exact .sptr g 0 j cs' vs hcell hT
def Zmz {f:Nat} {vs:List Value} {ps:List PV} (hl:vs.length=ps.length) (h:∀(i:Nat) (v:Value) (p:PV),vs[i]? =some v->ps[i]? =some p->Om (⟨sL,hP⟩:St) v p):Om (⟨sL,hP⟩:St) (.func (.func f) #[] vs.toArray) (.fn f ps):=fun M F a w H=> .fn f vs ps hl fun i v p h1 h2=>h i v p h1 h2 M F a w H
def ZpG (st:St):List Operand->List PV->Prop
 |[],[]=>True
 |x::xs,p::ps=>(∃v q,ev st.slots x=some (v,q)/\Om st v p)/\ZpG st xs ps
 |_,_=>False
def ZbO {M:BS} {F:Nat->BS} {a:Act} {w:World} (H:RdF M (⟨sL,hP⟩:St) F a w):∀{xs:List Operand} {ps:List PV},ZpG (⟨sL,hP⟩:St) xs ps->(xs.map a.eval).length=ps.length/\∀(i:Nat) (x:Value) (q:PV),(xs.map a.eval)[i]? =some x->ps[i]? =some q->Shr (fun _=>False) w x q
 |[],[],_=>⟨rfl,sM⟩
 | x::xs,p::ps,⟨⟨v,q,h1,h2⟩,h3⟩=>by
   obtain ⟨h4,h5⟩:=ZbO H h3;refine ⟨by simpa using h4,fun i y r hy hr=>?_⟩
   cases i with
   |zero=>simp at hy hr;subst hy hr;rw [(H.ev h1).1];exact h2 M F a w H
   |succ i=>exact h5 i y r (by simpa using hy) (by simpa using hr)
 |[],_::_,h=>h.elim
 |_::_,[],h=>h.elim
mutual
def nosh:PV->Bool
 | .val _=>true
 | .own _ _ _ cs=>Cv cs
 | .omap _=>true
 | .obox _ _ cs=>Cv cs
 | .agg ps=>Cv ps
 | .tup ps=>Cv ps
 |_=>false
def Cv:List PV->Bool
 |[]=>true
 |p::l=>nosh p&&Cv l
end
def Sr:∀l:List PV,Cv l=l.all nosh
 |[]=>by simp [Cv]
 |p::l=>by simp [Cv,Sr l]
def Shr.nosh {M M':BS} {w:World} {v:Value} {p:PV} (h:Shr M w v p):nosh p=true->Shr M' w v p:=by
 induction h with
 |val v=>exact fun _=> .val v
 | agg vs ps hl h ih=>
   intro hn;rw [En.nosh,Sr,Xj] at hn;exact .agg vs ps hl fun i v p h1 h2=>ih i v p h1 h2 (hn p (Xb h2))
 | tup vs ps hl h ih=>
   intro hn;rw [En.nosh,Sr,Xj] at hn;exact .tup vs ps hl fun i v p h1 h2=>ih i v p h1 h2 (hn p (Xb h2))
 |_=>intro hn;simp [En.nosh] at hn
def Tr.nosh {M M':BS} {w:World} {v:Value} {p:PV} {F:BS} (h:Tr M w v p F):nosh p=true->Tr M' w v p F:=by
 induction h with
 |shr h hF=>exact fun hn=> .shr (h.nosh hn) hF
 | own xs Fs hrow hl hT hd hb hF ih=>
   intro hn;rw [En.nosh,Sr,Xj] at hn;exact .own xs Fs hrow hl (fun i x p h1 h2=>ih i x p h1 h2 (hn p (Xb h2))) hd hb hF
 |omap b es clock h hF hW=>exact fun _=> .omap b es clock h hF hW
 |oblk=>intro hn;simp [En.nosh] at hn
 | obox g cap h ih=>
   intro hn;exact .obox g cap (ih (by simpa [En.nosh] using hn))
 | agg vs Fs hl h hd hF ih=>
   intro hn;rw [En.nosh,Sr,Xj] at hn;exact .agg vs Fs hl (fun i v p h1 h2=>ih i v p h1 h2 (hn p (Xb h2))) hd hF
 | tup vs Fs hl h hd hF ih=>
   intro hn;rw [En.nosh,Sr,Xj] at hn;exact .tup vs Fs hl (fun i v p h1 h2=>ih i v p h1 h2 (hn p (Xb h2))) hd hF
def LV (P:Program) (c:Ctx) (st:St) (o:Oper) (R:PV->Prop):Prop:=∀a w F,HoldsF c st F a w->∃f args,(execOp a.eval o).run P w= .ok (.enter f args) w/\
 Calls P f args w (fun e w'=>∃v p Fr,e= .returned v/\R p/\Ext w w'/\Tr (fun b=>mof c st.heap F b\/Fr b) w' v p Fr/\(∀b,Fr b->w.heap.size<=b)/\(c.dr->w.drawn<=w'.drawn))
section
variable {ops:Array Oper} {rest:List Oper} {o:Oper}
def AFd.calls {dd:Prop} {f:Nat} {ps:List PV} {R:PV->Prop} (hA:AFd dd P f ps R) {M:BS} {w:World} {vs:List Value} (hM:M0k w M (fun _=>False) dd) (hl:vs.length=ps.length) (hv:∀(i:Nat) (v:Value) (p:PV),vs[i]? =some v->ps[i]? =some p->Shr M w v p):
 Calls P f vs.toArray w (fun e w'=>∃v p Fr,e= .returned v/\R p/\Ext w w'/\Tr (fun b=>M b\/Fr b) w' v p Fr/\(∀b,Fr b->w.heap.size<=b)/\(dd->w.drawn<=w'.drawn)):=hA M w vs hM hl hv
def Hz {dd:Prop} {f:Nat} {xs:Array Operand} {ats:Array TypeId} {es:List Ent} {R:PV->Prop} (ho:o.op= .call {callee:= .value (.func f),args:=xs,argTypes:=ats}) (hc:∀args w,(callFunc f args).run P w= .ok (.enter f args) w) (hx:evL sL xs.toList=some es) (hA:AFd dd P f (es.map (·.2)) R) (hdd:c.dr->dd:=by first|exact id|exact fun h=>h.elim|exact fun _=>trivial):LV P c (⟨sL,hP⟩:St) o R:=fun a w F H=>by
 obtain ⟨h1,h2⟩:=SE H.rd hx
 obtain ⟨vs,hvs⟩:∃vs,vs=es.map (·.1):=⟨_,rfl⟩
 obtain ⟨ps,hps⟩:∃ps,ps=es.map (·.2):=⟨_,rfl⟩
 have hlen:vs.length=ps.length:=by rw [hvs,hps,Xc,Xc]
 rw [<-hvs] at h1 h2
 rw [<-hps] at h2 hA
 refine ⟨f,vs.toArray,?_,(hA.calls (H.mok.up hdd) hlen h2).mono fun e w' ⟨v,p,Fr,e1,e2,e3,e4,e5,e6⟩=>⟨v,p,Fr,e1,e2,e3,e4,e5,fun h=>e6 (hdd h)⟩⟩
 have:xs.map a.eval=vs.toArray:=by rw [<-h1,<-V8,VX]
 simp [execOp,ho,resolve,Deferred.ofValue,Act.eval,invoke,this,hc]
def ZmA {dd:Prop} {f:Nat} {xs:Array Operand} {ats:Array TypeId} {ps:List PV} {R:PV->Prop} (ho:o.op= .call {callee:= .value (.func f),args:=xs,argTypes:=ats}) (hc:∀args w,(callFunc f args).run P w= .ok (.enter f args) w) (hx:ZpG (⟨sL,hP⟩:St) xs.toList ps) (hA:AFd dd P f ps R) (hR:∀p,R p->nosh p=true) (hdd:c.dr->dd:=by first|exact id|exact fun h=>h.elim|exact fun _=>trivial):LV P c (⟨sL,hP⟩:St) o R:=fun a w F H=>by
 obtain ⟨h1,h2⟩:=ZbO H.rd hx
 refine ⟨f,(xs.toList.map a.eval).toArray,?_,(hA (fun _=>False) w (xs.toList.map a.eval) (H.mok.none.up hdd) h1 h2).mono fun e w' ⟨v,p,Fr,e1,e2,e3,e4,e5,e6⟩=>⟨v,p,Fr,e1,e2,e3,e4.nosh (hR p e2),e5,fun h=>e6 (hdd h)⟩⟩
 have:xs.map a.eval=(xs.toList.map a.eval).toArray:=by rw [<-V8,VX]
 simp [execOp,ho,resolve,Deferred.ofValue,Act.eval,invoke,this,hc]
def LW {dd:Prop} {f:Nat} {x:Operand} {ps:List PV} {xs:Array Operand} {ats:Array TypeId} {es:List Ent} {R:PV->Prop} (ho:o.op= .call {callee:= .value x,args:=xs,argTypes:=ats}) (hf:∃v,ev sL x=some (v, .fn f ps)) (hc:∀args w,(callFunc f args).run P w= .ok (.enter f args) w) (hx:evL sL xs.toList=some es) (hA:AFd dd P f (es.map (·.2)++ps) R) (hdd:c.dr->dd:=by first|exact id|exact fun h=>h.elim|exact fun _=>trivial):LV P c (⟨sL,hP⟩:St) o R:=fun a w F H=>by
 obtain ⟨h1,h2⟩:=SE H.rd hx
 obtain ⟨v,hv⟩:=hf
 obtain ⟨h3,h4⟩:=H.rd.ev hv
 cases h4 with
 | fn f vs ps hl hT=>
   refine ⟨f,((es.map (·.1))++vs).toArray,?_,(hA (mof c hP F) w (es.map (·.1)++vs) (H.mok.up hdd) (by simp;exact hl) fun i v p hv hp=>?_).mono fun e w' ⟨v,p,Fr,e1,e2,e3,e4,e5,e6⟩=>⟨v,p,Fr,e1,e2,e3,e4,e5,fun h=>e6 (hdd h)⟩⟩
   . (have:xs.map a.eval=(es.map (·.1)).toArray:=by rw [<-h1,<-V8,VX]);simp [execOp,ho,resolve,h3,Deferred.ofValue,invoke,this,hc]
   rcases XL i es.length with hi|hi
   . rw [Vo (by simpa using hi)] at hv hp;exact h2 i v p hv hp
   rw [Vp (by simpa using hi)] at hv hp;simp only [Xc] at hv hp;exact hT _ v p hv hp
def SF (hw:Yb ops sL o=some true) {R:PV->Prop} (hC:LV P c (⟨sL,hP⟩:St) o R)
 (k:∀a w F w' v p Fr,HoldsF c (⟨sL,hP⟩:St) F a w->R p->Ext w w'->Tr (fun b=>mof c hP F b\/Fr b) w' v p Fr->(∀b,Fr b->w.heap.size<=b)->(c.dr->w.drawn<=w'.drawn)->wpList P ops Q rest (a.put o.dst v) w'):aL P c ops Q (o::rest) (⟨sL,hP⟩:St):=
 W1 hw fun a w F H=>by
  obtain ⟨f,args,hr,hcall⟩:=hC a w F H;unfold Oper.wp;rw [hr,Oper.upon_enter];refine hcall.mono fun e w' ⟨v,p,Fr,e1,e2,e3,e4,e5,e6⟩=>?_;subst e1;exact k a w F w' v p Fr H e2 e3 e4 e5 e6
def D2 {F:Nat->BS} {a:Act} {w w':World} (H:HoldsF c (⟨sL,hP⟩:St) F a w) (hx:Ext w w') {d:Nat} {v:Value} {p:PV} (hd:d<c.nt) (hS:Shr (mof c hP F) w' v p) (hdw:c.dr->w.drawn<=w'.drawn:=by assumption):HoldsF c ⟨put d (v,p) sL,hP⟩ F (a.put (some d) v) w':=(H.up hx hdw).put hd hS
def On {R:PV->Prop} (d:Nat) (hw:Yb ops sL o=some true) (hd:o.dst=some d) (hn:d<c.nt) (hC:LV P c (⟨sL,hP⟩:St) o R) (k:∀p,R p->isSh p=true/\∀v,vOf p v->aL P c ops Q rest ⟨put d (v,p) sL,hP⟩):aL P c ops Q (o::rest) (⟨sL,hP⟩:St):=
 SF hw hC fun a w F w' v p Fr H hR hx hT hlo hdw=>by
  obtain ⟨h1,h2⟩:=k p hR;have hS:=hT.sh h1;rw [hd];exact h2 v hS.vOf _ _ ⟨F,D2 H hx hn (hS.anti fun b _ h=> .inl h)⟩
def LX {R:PV->Prop} (d:Nat) (hw:Yb ops sL o=some true) (hd:o.dst=some d) (hn:d<c.nt) (hl:lk hP d=none) (hC:LV P c (⟨sL,hP⟩:St) o R) (k:∀p,R p->Tm p=true/\∀v,v.oneCell'=true->aL P c ops Q rest ⟨put d (v, .val v) sL,put d (v,p) hP⟩):aL P c ops Q (o::rest) (⟨sL,hP⟩:St):=
 SF hw hC fun a w F w' v p Fr H hR hx hT hlo hdw=>by
  obtain ⟨h1,h2⟩:=k p hR;rw [hd];refine h2 v (hT.cellOne h1) _ _ ⟨fun l'=>if l'=d then Fr else F l',?_⟩;refine H.change (fun l'=>l'=d) hn hx.chg (fun l' x hne hx'=>?_) (fun l' x b hT' hx' hb=>?_) (fun hm l' u q hT' hx'=>?_) (fun l1 l2 _ _ _ h1 h2 hne=>Qe (h1.trans h2.symm) hne) (fun hm=> .val _)
  . rcases YC hx' with ⟨e1,_⟩|⟨_,e1⟩
    . exact Qe e1.symm hne
    exact ⟨e1,by simp [hne]⟩
  . subst hT';simp only [if_true] at hb;exact .inr (hlo b hb)
  subst hT';rw [Z3] at hx'
  cases hx';simp only [if_true];refine hT.anti fun b hb hmb=>?_;rcases hmb with h1|⟨l0,x0,h1,h2⟩
  . exact .inl (.inl h1)
  by_cases h0:l0=l'
  . simp only [h0,if_true] at h2;exact .inr h2
  simp only [h0,if_false] at h2;rw [Yy (Ne.symm h0)] at h1;exact .inl (.inr ⟨l0,x0,h1,h2⟩)
def HA (l:Nat) (v:Value) (p:PV) (h:List (Nat×Ent)):List (Nat×Ent):=cond (isSh p) h (put l (v,p) h)
def qq (p:PV) (v:Value):PV:=cond (isSh p) p (.val v)
def Zik {R:PV->Prop} (d l1 l2:Nat) (hw:Yb ops sL o=some true) (hd:o.dst=some d) (hn:d<c.nt) (hl1:lk hP l1=none) (hl2:lk hP l2=none) (hll:Nat.beq l1 l2=false) (hC:LV P c (⟨sL,hP⟩:St) o R)
 (k:∀p,R p->∃p1 p2,p= .tup [p1,p2]/\Tm p1=true/\Tm p2=true/\∀v1 v2,vOf p1 v1->vOf p2 v2->v1.oneCell'=true->v2.oneCell'=true->aL P c ops Q rest ⟨put d (.tuple [v1,v2].toArray, .tup [qq p1 v1,qq p2 v2]) sL,HA l1 v1 p1 (HA l2 v2 p2 hP)⟩):aL P c ops Q (o::rest) (⟨sL,hP⟩:St):=
 SF hw hC fun a w F w' v p Fr H hR hx hT hlo hdw=>by
  have hne:l1≠l2:=fun e=>by subst e;simp at hll
  obtain ⟨p1,p2,rfl,hc1,hc2,h2⟩:=k p hR;obtain ⟨v1,v2,F1,F2,rfl,hT1,hT2,hF1,hF2,hdj⟩:∃v1 v2 F1 F2,v= .tuple [v1,v2].toArray/\Tr (fun b=>mof c hP F b\/Fr b) w' v1 p1 F1/\Tr (fun b=>mof c hP F b\/Fr b) w' v2 p2 F2/\(∀b,F1 b->Fr b)/\(∀b,F2 b->Fr b)/\(∀b,F1 b->¬F2 b):=by
   cases hT with
   | shr hS hF=>
     cases hS with
     | tup vs ps hl hTT=>
       match vs,hl with
       |[v1,v2],_=>exact ⟨v1,v2,fun _=>False,fun _=>False,rfl, .shr (hTT 0 v1 p1 rfl rfl) (fun _ h=>h), .shr (hTT 1 v2 p2 rfl rfl) (fun _ h=>h),fun _ h=>h.elim,fun _ h=>h.elim,fun _ h=>h.elim⟩
   | tup vs Fs hl hTT hdd hF=>
     match vs,hl with
     |[v1,v2],_=>exact ⟨v1,v2,Fs 0,Fs 1,rfl,hTT 0 v1 p1 rfl rfl,hTT 1 v2 p2 rfl rfl,fun b hb=>(hF b).2 ⟨0,sM,hb⟩,fun b hb=>(hF b).2 ⟨1,sM,hb⟩,fun b h1 h2=>hdd 0 1 b sM sM oM h1 h2⟩
  have hv1:vOf p1 v1:=by
   cases hs:isSh p1 with
   |true=>exact (hT1.sh hs).vOf
   |false=>cases p1<;>first|(simp [isSh] at hs;done)|exact trivial
  have hv2:vOf p2 v2:=by
   cases hs:isSh p2 with
   |true=>exact (hT2.sh hs).vOf
   |false=>cases p2<;>first|(simp [isSh] at hs;done)|exact trivial
  rw [hd];refine h2 v1 v2 hv1 hv2 (hT1.cellOne hc1) (hT2.cellOne hc2) _ _ ⟨fun l'=>if l'=l1 then F1 else if l'=l2 then F2 else F l',?_⟩;have hlook:∀l' x,lk (HA l1 v1 p1 (HA l2 v2 p2 hP)) l'=some x->(l'=l1/\x=(v1,p1))\/(l'=l2/\x=(v2,p2))\/(l'≠l1/\l'≠l2/\lk hP l'=some x):=by
   intro l' x hx';have inner:∀x,lk (HA l2 v2 p2 hP) l'=some x->(l'=l2/\x=(v2,p2))\/(l'≠l2/\lk hP l'=some x):=by
    intro x hx';unfold HA at hx'
    cases hs:isSh p2
    . rw [hs,cond_false] at hx';rcases YC hx' with ⟨e1,e2⟩|⟨e1,e2⟩
      . exact .inl ⟨e1.symm,e2.symm⟩
      exact .inr ⟨Ne.symm e1,e2⟩
    rw [hs,cond_true] at hx';exact .inr ⟨(fun e=>by rw [e,hl2] at hx';cases hx'),hx'⟩
   have outer:(l'=l1/\x=(v1,p1))\/(l'≠l1/\lk (HA l2 v2 p2 hP) l'=some x):=by
    rw [HA] at hx'
    cases hs:isSh p1
    . rw [hs,cond_false] at hx';rcases YC hx' with ⟨e1,e2⟩|⟨e1,e2⟩
      . exact .inl ⟨e1.symm,e2.symm⟩
      exact .inr ⟨Ne.symm e1,e2⟩
    rw [hs,cond_true] at hx';refine .inr ⟨fun e=>?_,hx'⟩;rcases inner x hx' with ⟨e2,_⟩|⟨_,e2⟩
    . exact hne (e.symm.trans e2)
    rw [e,hl1] at e2;cases e2
   rcases outer with h|⟨h1,h3⟩
   . exact .inl h
   rcases inner x h3 with h4|⟨h4,h5⟩
   . exact .inr (.inl h4)
   exact .inr (.inr ⟨h1,h4,h5⟩)
  have hmm:∀b,mof c (HA l1 v1 p1 (HA l2 v2 p2 hP)) (fun l'=>if l'=l1 then F1 else if l'=l2 then F2 else F l') b->mof c hP F b\/Fr b:=by
   rintro b (h1|⟨l0,x0,h1,h3⟩)
   . exact .inl (.inl h1)
   rcases hlook l0 x0 h1 with ⟨rfl,_⟩|⟨rfl,_⟩|⟨e1,e2,e3⟩
   . simp only [if_true] at h3;exact .inr (hF1 b h3)
   . simp only [Ne.symm hne,if_false,if_true] at h3;exact .inr (hF2 b h3)
   simp only [e1,e2,if_false] at h3;exact .inl (.inr ⟨l0,x0,e3,h3⟩)
  refine H.change (fun l'=>l'=l1\/l'=l2) hn hx.chg (fun l' x hnT hx'=>?_) (fun l' x b hT' hx' hb=>?_) (fun hm l' u q hT' hx'=>?_) (fun m1 m2 x1 x2 b h1 h2 hne' hx1 hx2 hb1 hb2=>?_) (fun hm=>?_)
  . rcases hlook l' x hx' with ⟨e1,_⟩|⟨e1,_⟩|⟨e1,e2,e3⟩
    . exact Qe (.inl e1) hnT
    . exact Qe (.inr e1) hnT
    exact ⟨e3,by simp [e1,e2]⟩
  . rcases hT' with rfl|rfl
    . simp only [if_true] at hb;exact .inr (hlo b (hF1 b hb))
    simp only [Ne.symm hne,if_false,if_true] at hb;exact .inr (hlo b (hF2 b hb))
  . rcases hlook l' _ hx' with ⟨rfl,e1⟩|⟨rfl,e1⟩|⟨e1,e2,e3⟩
    . cases e1;simp only [if_true];exact hT1.anti fun b _ h=>hmm b h
    . cases e1;simp only [Ne.symm hne,if_false,if_true];exact hT2.anti fun b _ h=>hmm b h
    rcases hT' with h|h
    . exact Qe h e1
    exact Qe h e2
  . rcases h1 with rfl|rfl
    . rcases h2 with rfl|rfl
      . exact hne' rfl
      simp only [Ne.symm hne,if_false,if_true] at hb1 hb2;exact hdj b hb1 hb2
    rcases h2 with rfl|rfl
    . simp only [Ne.symm hne,if_false,if_true] at hb1 hb2;exact hdj b hb2 hb1
    exact hne' rfl
  have q1:Shr (mof c (HA l1 v1 p1 (HA l2 v2 p2 hP)) (fun l'=>if l'=l1 then F1 else if l'=l2 then F2 else F l')) w' v1 (qq p1 v1):=by
   unfold qq
   cases hs:isSh p1
   . exact .val _
   exact (hT1.sh hs).anti fun b _ h=>hmm b h
  have q2:Shr (mof c (HA l1 v1 p1 (HA l2 v2 p2 hP)) (fun l'=>if l'=l1 then F1 else if l'=l2 then F2 else F l')) w' v2 (qq p2 v2):=by
   unfold qq
   cases hs:isSh p2
   . exact .val _
   exact (hT2.sh hs).anti fun b _ h=>hmm b h
  refine .tup [v1,v2] [qq p1 v1,qq p2 v2] rfl fun i x r hx' hr=>?_;match i with
  |0=>simp at hx' hr;subst hx' hr;exact q1
  |1=>simp at hx' hr;subst hx' hr;exact q2
  |i+2=>simp at hx'
end
end
end Go.En
namespace Go.Cb
def Sd (c:Int):Bool:=(decide (65<=c)&&decide (c<=90))||(decide (97<=c)&&decide (c<=122))
def Oo (c:Int):Bool:=Sd c||(decide (48<=c)&&decide (c<=57))||c==95||c==45||c==46
def isName (s:BA):Bool:=decide (1<=s.size)&&decide (s.size<=40)&&Sd (s.data[0]?.getD 0).toNat&&s.data.toList.all fun c=>Oo c.toNat
def strLt (a b:BA):Bool:=Op.bytesLess a.toList b.toList
def W7 (a b:BA):Bool:=a.toList==b.toList
def Yc (a b:BA):Int:=if strLt a b then-1 else if W7 a b then 0 else 1
def cmpStrs:List BA->List BA->Int
 |[],[]=>0
 |[],_::_=> -1
 |_::_,[]=>1
 |a::l,b::m=>if Yc a b=0 then cmpStrs l m else Yc a b
def Zj3 (a b:BA): -1<=Yc a b/\Yc a b<=1:=by
 unfold Yc;split
 . decide
 split<;>decide
def WO {α:Type} {l:List α} {k:Nat} {x:α} (h:l[k]? =some x):l.drop k=x::l.drop (k+1):=by
 obtain ⟨hk,rfl⟩:=Xk.1 h
 exact Ve hk
def Kc (x:Var):Bool:=decide (x.acts.length<=200)&&x.acts.all isName&&decide (1<=x.count)&&decide (x.count<=1048576)
def Lm (l:List Var) (i:Nat):Bool:=match l[i]? with
 |none=>true
 | some x=>Kc x&&(decide (i=0)||match l[i-1]? with
   |none=>true
   |some y=>decide (cmpStrs y.acts x.acts<0))
def validVars (l:List Var):Bool:=decide (l.length<=300)&&(List.range l.length).all (Lm l)
def Zee {l:List Var} {x:Var} (h:l[0]? =some x):Lm l 0=Kc x:=by simp [Lm,h]
def Pz {l:List Var} {k:Nat} {x y:Var} (h:l[k]? =some x) (hy:l[k-1]? =some y) (hk:0<k):Lm l k=(Kc x&&decide (cmpStrs y.acts x.acts<0)):=by
 have:decide (k=0)=false:=by simp;omega
 simp [Lm,h,hy,this]
def SG {l:List Var} {k:Nat} (hk:k<l.length) (h:Lm l k=false):validVars l=false:=by
 unfold validVars
 rw [Bool.and_eq_false_iff];right
 rw [V9]
 exact ⟨k,XT.2 hk,by rw [h];simp⟩
def RD {l:List Var} (h3:l.length<=300) (h:∀j,j<l.length->Lm l j=true):validVars l=true:=by
 unfold validVars
 rw [Xf]
 exact ⟨by simpa using h3,by rw [Xj];exact fun j hj=>h j (XT.1 hj)⟩
def chainB {α:Type} (r:α->α->Bool):List α->Bool
 |a::b::l=>r a b&&chainB r (b::l)
 |_=>true
def J0 {α:Type} (r:α->α->Bool):∀l:List α,chainB r l=true↔∀i x y,l[i]? =some x->l[i+1]? =some y->r x y=true
 |[]=>by simp [chainB]
 |[a]=>by simp [chainB]
 | a ::b::l=>by
   rw [chainB,Xf,J0 r (b::l)];constructor
   . rintro ⟨h1,h2⟩ i x y hx hy
     cases i with
     |zero=>simp at hx hy;subst hx hy;exact h1
     |succ i=>exact h2 i x y (by simpa using hx) (by simpa using hy)
   intro h;exact ⟨h 0 a b rfl rfl,fun i x y hx hy=>h (i+1) x y (by simpa using hx) (by simpa using hy)⟩
def Rj {α:Type} {r:α->α->Bool} {l:List α} {k:Nat} {x y:α} (hk:1<=k) (hy:l[k-1]? =some y) (hx:l[k]? =some x) (h:r y x=false):chainB r l=false:=by
 cases hc:chainB r l
 . rfl
 have:=(J0 r l).1 hc (k-1) y x hy (by rw [Nat.sub_add_cancel hk];exact hx);rw [h] at this;cases this
def SH {α:Type} {r:α->α->Bool} {l:List α} (h:∀j x y,1<=j->l[j-1]? =some y->l[j]? =some x->r y x=true):chainB r l=true:=
 (J0 r l).2 fun i x y hx hy=>h (i+1) y x oM hx hy
def hasStr (p:List BA) (s:BA):Bool:=p.any fun x=>W7 x s
def partOf (parts:List (List BA)) (s:BA):Int:=idx (fun p=>hasStr p s) parts
def ZgL {α:Type} (p:α->Bool) (l:List α): -1<=idx p l/\idx p l<l.length:=by
 unfold idx
 cases h:l.findIdx? p with
 |none=>simp;omega
 |some i=>rw [V6] at h;obtain ⟨hi,_⟩:=h;simp;omega
def JE:List BA->List BA->Bool
 |_,[]=>true
 |seen,s::l=> !hasStr seen s&&JE (seen++[s]) l
def LY (l:List BA):Bool:= !l.isEmpty&&l.all isName&&chainB strLt l
def Kd:List BA->List (List BA)->Bool
 |_,[]=>true
 |seen,l::ps=>LY l&&JE seen l&&Kd (seen++l) ps
def Y1 (c:Cut):Bool:=decide (1<=c.kind)&&decide (c.kind<=4)&&decide (2<=c.parts.length)&&Kd [] c.parts
def ZR {α:Type} {l:List α} {k:Nat} {x:α} (h:l[k]? =some x):l.take (k+1)=l.take k++[x]:=by
 obtain ⟨hk,rfl⟩:=Xk.1 h
 rw [UL hk]
def Zc4 (l:List (List BA)) (k:Nat):((l.take k).flatten).length<=l.flatten.length:=by
 have:l.flatten=(l.take k).flatten++(l.drop k).flatten:=by rw [<-XZ,Vw]
 rw [this,Xe]
 omega
def O9 {l:List (List BA)} {k:Nat} {p:List BA} (h:l[k]? =some p):(l.take (k+1)).flatten=(l.take k).flatten++p:=by
 rw [ZR h];simp
def YS:List Var->List BA->Int->List Var
 |[],w,n=>[⟨w,n⟩]
 |x::l,w,n=>if cmpStrs x.acts w<0 then x::YS l w n else if cmpStrs x.acts w=0 then ⟨w,x.count+n⟩::l else ⟨w,n⟩::x::l
def addVar_new {l:List Var} {w:List BA} {n:Int} {k:Nat} {x:Var} (h:YS l w n=l.take k++YS (l.drop k) w n) (hx:l[k]? =some x) (hc:0<cmpStrs x.acts w):
 YS l w n=l.take k++[⟨w,n⟩]++l.drop k:=by
 rw [h,WO hx,YS,Qc oM,Qc oM];simp
open Go.RowKit
abbrev VR (α:Type):=Mut->World->List Value->α->Prop
structure EV {α:Type} (k:Nat) (E:Elt α) (V:VR α):Prop where
 toE:∀{M w b o cs x},V M w cs x->(∀j u,cs[j]? =some u->Cell M w b (o+j) u)->E M w b o x
 ofE:∀{M w b o x},E M w b o x->∃cs,V M w cs x/\∀j u,cs[j]? =some u->Cell M w b (o+j) u
 len:∀{M w cs x},V M w cs x->cs.length=k
 one:∀{M w cs x},V M w cs x->∀u∈cs,u.oneCell'=true
 mv:∀{M w w' cs x},V M w cs x->Chg M w w'->V M w' cs x
 re:∀{M N w cs x},V M w cs x->(∀i,N i->M i\/w.heap.size<=i)->V N w cs x
structure ElemT (P:Program) (t e k bytes:Nat):Prop where
 ht:P.underlying t=some (.slice e)
 hi:∃i z,P.info? e=some i/\i.zero=some z/\i.size=k/\i.bytes=bytes/\z.cells.size=k
 hk:0<k
def ownOf (v:Value):Mut:=fun b=>v.ownBlock=some b
def Mut.or (M N:Mut):Mut:=fun b=>M b\/N b
def OwnL {α:Type} (base e k:Nat) (V:VR α) (M:Mut) (w:World) (v:Value) (l:List α):Prop:=
 (∀b,ownOf v b->¬M b)/\∃xs,w.ownsRow base e k v l.length xs/\∀i x,l[i]? =some x->V (M.or (ownOf v)) w ((xs.drop (i*k)).take k) x
structure Nest {α:Type} (base e k f e' k':Nat) (V:VR α) (M:Mut) (w:World) (v:Value) (cells:List Value) (rows:List (List α)):Prop where
 row:w.ownsRow base e k v rows.length cells
 own:∀i r,rows[i]? =some r->∃u,cells[i*k+f]? =some u/\OwnL base e' k' V M w u r
 sep:∀i j u u',i≠j->i<rows.length->j<rows.length->cells[i*k+f]? =some u->cells[j*k+f]? =some u'->∀b,ownOf u b->¬ownOf u' b
 sepv:∀i u,i<rows.length->cells[i*k+f]? =some u->∀b,ownOf u b->¬ownOf v b
structure Piece where
 part:Int
 word:List BA
def pieceStep (parts:List (List BA)) (ps:List Piece) (s:BA):Option (List Piece):=
 match ps[ps.length-1]? with
 |none=>some [⟨partOf parts s,[s]⟩]
 | some q=>if q.part=partOf parts s then some (ps.set (ps.length-1) ⟨q.part,q.word++[s]⟩)
   else if partOf parts s≠0/\q.part≠0 then none else some (ps++[⟨partOf parts s,[s]⟩])
def Wb (parts:List (List BA)):List Piece->List BA->Option (List Piece)
 |ps,[]=>some ps
 | ps,s::l=>match pieceStep parts ps s with
   |none=>none
   |some ps'=>Wb parts ps' l
def endsB (ps:List Piece):Bool:=match ps[0]?,ps[ps.length-1]? with
 |some p,some q=>p.part==0&&q.part==0
 |_,_=>false
def LZ (parts:List (List BA)) (w:List BA):Option (List Piece):=
 if w=[] then some [⟨0,[]⟩] else match Wb parts [] w with
  |none=>none
  |some ps=>if endsB ps then some ps else none
def Zbv {parts:List (List BA)} {ws:List BA} {ps ps':List Piece} {k:Nat} {s:BA} {l0:Option (List Piece)} (h:l0=Wb parts ps (ws.drop k)) (hs:ws[k]? =some s) (hp:pieceStep parts ps s=some ps'):l0=Wb parts ps' (ws.drop (k+1)):=by
 rw [h,WO hs,Wb,hp]
def Zbw {parts:List (List BA)} {ws:List BA} {ps:List Piece} {k:Nat} {s:BA} {l0:Option (List Piece)} (h:l0=Wb parts ps (ws.drop k)) (hs:ws[k]? =some s) (hp:pieceStep parts ps s=none):l0=none:=by
 rw [h,WO hs,Wb,hp]
def ZmB {parts:List (List BA)} {s:BA}:pieceStep parts [] s=some (([]++[⟨partOf parts s,[]⟩]:List Piece).set 0 ⟨partOf parts s,[]++[s]⟩):=rfl
def Zj4 {parts:List (List BA)} {ps:List Piece} {s:BA} {q:Piece} (hq:ps[ps.length-1]? =some q) (h:q.part=partOf parts s):pieceStep parts ps s=some (ps.set (ps.length-1) ⟨q.part,q.word++[s]⟩):=by
 unfold pieceStep;rw [hq];simp [h]
def ZmC {parts:List (List BA)} {ps:List Piece} {s:BA} {q:Piece} (hq:ps[ps.length-1]? =some q) (h:q.part≠partOf parts s) (h1:partOf parts s≠0) (h2:q.part≠0):pieceStep parts ps s=none:=by
 unfold pieceStep;rw [hq];simp [h,h1,h2]
def ZmD {parts:List (List BA)} {ps:List Piece} {s:BA} {q:Piece} (hq:ps[ps.length-1]? =some q) (h:q.part≠partOf parts s) (h1:¬(partOf parts s≠0/\q.part≠0)):
 pieceStep parts ps s=some ((ps++[(⟨partOf parts s,[]⟩:Piece)]).set ps.length ⟨partOf parts s,[]++[s]⟩):=by
 unfold pieceStep;rw [hq]
 simp only [h,if_false,h1]
 rw [Vr _ _ (Xd _)]
 simp
def Jz (ps:List Piece) (i:Nat) (s:BA):List Piece:=match ps[i]? with
 |some q=>ps.set i ⟨q.part,q.word++[s]⟩
 |none=>ps
def JZ (kind:Int) (first:Bool) (p last:Int):Bool:=(kind==2&&decide (p<last))||(kind==1&& !first&&p !=last)
def splitGo (kind:Int) (parts:List (List BA)):Bool->Int->List Piece->List BA->Option (List Piece×Int)
 |_,last,ps,[]=>some (ps,last)
 |first,last,ps,s::l=>if JZ kind first (partOf parts s) last then none else splitGo kind parts false (partOf parts s) (Jz ps (partOf parts s).toNat s) l
def initPs (n:Nat):List Piece:=(List.range n).map fun (i:Nat)=>(⟨(i:Int),[]⟩:Piece)
def Wh (c:Cut) (ws:List BA):Option (List Piece):=
 if c.kind=4 then LZ c.parts ws else match splitGo c.kind c.parts true 0 (initPs c.parts.length) ws with
  |none=>none
  |some (ps,last)=>if c.kind=1 then (if ws=[] then none else some ((ps.drop last.toNat).take 1)) else some ps
def EC (ps:List Piece) (i:Nat) (s:BA):(Jz ps i s).length=ps.length:=by
 unfold Jz;split<;>simp
def Tp {ps:List Piece} {i:Nat} {s:BA} {q:Piece} (h:ps[i]? =some q):Jz ps i s=ps.set i ⟨q.part,q.word++[s]⟩:=by
 unfold Jz;rw [h]
def Tq (n:Nat):(initPs n).length=n:=by simp [initPs]
def Zef (n:Nat):initPs (n+1)=initPs n++[⟨(n:Int),[]⟩]:=by simp [initPs,VS]
def Cw {n:Nat} {p:Piece} (h:p∈initPs n):p.word=[]:=by
 simp [initPs] at h
 obtain ⟨i,_,rfl⟩:=h
 rfl
def JB (parts:List (List BA)) (l:List Var):Bool:=l.all fun x=>x.acts.all fun s=>decide (0<=partOf parts s)
def putPiece (cnt:Int) (out:List (List Var)) (p:Piece):List (List Var):=match out[p.part.toNat]? with
 |some r=>out.set p.part.toNat (YS r p.word cnt)
 |none=>out
def splitAll (c:Cut):List (List Var)->List Var->Option (List (List Var))
 |out,[]=>some out
 | out,x::l=>match Wh c x.acts with
   |none=>none
   |some ps=>splitAll c (ps.foldl (putPiece x.count) out) l
def bigVars (r:List Var):Bool:=r.any fun x=>decide (1048576<x.count)
def Kl (r:List Var):Bool:=decide (300<r.length)
def KW (l:List Var) (c:Cut):List (List Var)×Int:=
 if (validVars l&&Y1 c)=false then ([],1) else if JB c.parts l=false then ([],8) else match splitAll c (List.replicate c.parts.length []) l with
  |none=>([],19)
  |some out=>if out.any bigVars then ([],6) else if out.any Kl then ([],5) else (out,0)
def ζD (n m:Nat) (ps:List Piece):Prop:=ps.length<=m/\∀p∈ps,0<=p.part/\p.part<n
def O' (parts:List (List BA)) (s:BA):partOf parts s<parts.length:=(ZgL _ _).2
def Zc5 {parts:List (List BA)} {ps ps':List Piece} {s:BA} {m:Nat} (h:ζD parts.length m ps) (hs:0<=partOf parts s) (he:pieceStep parts ps s=some ps'):ζD parts.length (m+1) ps':=by
 unfold pieceStep at he
 have hlt:=O' parts s
 split at he
 . cases he;exact ⟨sM,fun p hp=>by simp at hp;subst hp;exact ⟨hs,hlt⟩⟩
 rename_i q hq;have hqm:=h.2 q (Xb hq);split at he
 . cases he;refine ⟨by simp;have:=h.1;omega,fun p hp=>?_⟩;rcases VZ hp with h1|h1
   . exact h.2 p h1
   rw [h1];exact hqm
 split at he
 . cases he
 cases he;refine ⟨by simp;have:=h.1;omega,fun p hp=>?_⟩;rcases XD.1 hp with h1|h1
 . exact h.2 p h1
 simp at h1;subst h1;exact ⟨hs,hlt⟩
def Cx {parts:List (List BA)}:∀{ws:List BA} {ps ps':List Piece} {m:Nat},ζD parts.length m ps->(∀s∈ws,0<=partOf parts s)->Wb parts ps ws=some ps'->ζD parts.length (m+ws.length) ps'
 |[],ps,ps',m,h,_,he=>by simp [Wb] at he;subst he;simpa using h
 | s ::l,ps,ps',m,h,hs,he=>by
   rw [Wb] at he
   cases hst:pieceStep parts ps s with
   |none=>rw [hst] at he;cases he
   | some ps1=>
     rw [hst] at he;have:=Cx (Zc5 h (hs s sM) hst) (fun x hx=>hs x (by simp [hx])) he;refine ⟨by have:=this.1;simp at*;omega,this.2⟩
def Zeg {parts:List (List BA)} {ws:List BA} {ps:List Piece} (hn:0<parts.length) (hs:∀s∈ws,0<=partOf parts s) (he:LZ parts ws=some ps):ζD parts.length (ws.length+1) ps:=by
 unfold LZ at he
 split at he
 . cases he;exact ⟨sM,fun p hp=>by simp at hp;subst hp;exact ⟨sM,by simp;omega⟩⟩
 cases hg:Wb parts [] ws with
 |none=>rw [hg] at he;cases he
 | some ps1=>
   rw [hg] at he;simp only [] at he;split at he
   . cases he;have:=Cx (m:=0) ⟨sM,fun p hp=>by simp at hp⟩ hs hg;exact ⟨by have:=this.1;omega,this.2⟩
   cases he
def ZmE {n m i:Nat} {ps:List Piece} {s:BA} (h:ζD n m ps):ζD n m (Jz ps i s):=by
 unfold Jz
 split
 . rename_i q hq;have hqm:=h.2 q (Xb hq);refine ⟨by simp;exact h.1,fun p hp=>?_⟩;rcases VZ hp with h1|h1
   . exact h.2 p h1
   rw [h1];exact hqm
 exact h
def ζE {kind:Int} {parts:List (List BA)} {n m:Nat}:∀{ws:List BA} {first:Bool} {last:Int} {ps:List Piece} {r:List Piece×Int},ζD n m ps->splitGo kind parts first last ps ws=some r->ζD n m r.1
 |[],_,_,ps,r,h,he=>by simp [splitGo] at he;subst he;exact h
 | s::l,first,last,ps,r,h,he=>by
   rw [splitGo] at he;split at he
   . cases he
   exact ζE (ZmE h) he
def Zj5 (n:Nat):ζD n n (initPs n):=by
 refine ⟨by rw [Tq];omega,fun p hp=>?_⟩
 simp [initPs] at hp
 obtain ⟨i,hi,rfl⟩:=hp
 exact ⟨sM,by simp;omega⟩
def ζF {c:Cut} {ws:List BA} {ps:List Piece} (hn:0<c.parts.length) (hs:∀s∈ws,0<=partOf c.parts s) (he:Wh c ws=some ps):ζD c.parts.length (ws.length+c.parts.length+1) ps:=by
 unfold Wh at he
 split at he
 . have:=Zeg hn hs he;exact ⟨by have:=this.1;omega,this.2⟩
 cases hg:splitGo c.kind c.parts true 0 (initPs c.parts.length) ws with
 |none=>rw [hg] at he;cases he
 | some r=>
   rw [hg] at he;have hok:=ζE (Zj5 c.parts.length) hg;obtain ⟨r1,r2⟩:=r;simp only [] at he;split at he
   . split at he
     . cases he
     cases he;exact ⟨by simp;omega,fun p hp=>hok.2 p (List.mem_of_mem_drop (V' hp))⟩
   cases he;exact ⟨by have:=hok.1;simp at this;omega,hok.2⟩
def RowsOk (m:Nat) (out:List (List Var)):Prop:=∀r∈out,r.length<=m/\∀x∈r,0<=x.count/\x.count<=(m:Int)*1048576
def ZbP {m:Nat} {w:List BA} {n:Int} (hn0:0<=n) (hn1:n<=1048576):∀{r:List Var},(r.length<=m/\∀x∈r,0<=x.count/\x.count<=(m:Int)*1048576)->(YS r w n).length<=r.length+1/\∀x∈YS r w n,0<=x.count/\x.count<=((m+1:Nat):Int)*1048576
 | [],h=>by
   refine ⟨by simp [YS],fun x hx=>?_⟩;simp [YS] at hx;subst hx;exact ⟨hn0,by simp;omega⟩
 | y :: r,h=>by
   have hy:=h.2 y sM;have hr:∀x∈r,0<=x.count/\x.count<=((m+1:Nat):Int)*1048576:=fun x hx=>by have:=h.2 x (by simp [hx]);omega
   rw [YS];split
   . have:=ZbP (m:=m) (w:=w) (n:=n) hn0 hn1 (r:=r) ⟨by have:=h.1;simp at this;omega,fun x hx=>h.2 x (by simp [hx])⟩;refine ⟨by have:=this.1;simp;omega,fun x hx=>?_⟩;rcases Xi.1 hx with rfl|hx
     . omega
     exact this.2 x hx
   split
   . refine ⟨sM,fun x hx=>?_⟩;rcases Xi.1 hx with rfl|hx
     . exact ⟨by simp;omega,by simp;omega⟩
     exact hr x hx
   refine ⟨sM,fun x hx=>?_⟩;rcases Xi.1 hx with rfl|hx
   . exact ⟨hn0,by simp;omega⟩
   rcases Xi.1 hx with rfl|hx
   . omega
   exact hr x hx
def Cy {m:Nat} {n:Int} {out:List (List Var)} {p:Piece} (hn0:0<=n) (hn1:n<=1048576) (h:RowsOk m out):RowsOk (m+1) (putPiece n out p):=by
 unfold putPiece
 have hup:RowsOk (m+1) out:=fun r hr=>⟨by have:=(h r hr).1;omega,fun x hx=>by have:=(h r hr).2 x hx;omega⟩
 split
 . rename_i r hr;intro r' hr';rcases VZ hr' with h1|h1
   . exact hup r' h1
   rw [h1];have hrm:=h r (Xb hr);have:=ZbP (w:=p.word) hn0 hn1 hrm;exact ⟨by have:=this.1;omega,this.2⟩
 exact hup
def Zc6 (n:Int) (out:List (List Var)) (p:Piece):(putPiece n out p).length=out.length:=by
 unfold putPiece;split<;>simp
def ζG (n:Nat):RowsOk 0 (List.replicate n []):=fun r hr=>by
 have:=VE hr
 subst this
 exact ⟨sM,fun x hx=>by simp at hx⟩
def Se {l:List Var} {k:Nat} {x:Var} (h:validVars l=true) (hx:l[k]? =some x):Kc x=true:=by
 unfold validVars at h
 rw [Xf,Xj] at h
 have hk:=(Xk.1 hx).1
 have:=h.2 k (XT.2 hk)
 simp only [Lm,hx,Xf] at this
 exact this.1
def Zeh {x:Var} (h:Kc x=true):1<=x.count/\x.count<=1048576:=by
 simp [Kc] at h
 omega
