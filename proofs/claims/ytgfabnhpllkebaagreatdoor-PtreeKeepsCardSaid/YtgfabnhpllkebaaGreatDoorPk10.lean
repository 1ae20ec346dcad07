/-
  The engine: regions that draw their order, in which an operation may panic. No program in sight.
  The engine: what builders of strings want: pointers compared and seen as others, strings appended to bytes, strings seen in bytes. No program in sight.
  The engine: strings cut, structs built of structs, values in interfaces. No program in sight.
  Walks: the lexer of the program: letters, digits, lengths, symbols, literals, going on.
  Walks: the lexer of the program: symbols and literals.
  Process trees: their texts, in plain Lean.
  Walks: process trees: texts.
  Walks: reading a literal's text (package name).
  The engine: a struct in a box of its own with its place told, errors compared with nil, contracts out of the library's summaries. No program in sight.
  Walks: the lexer of the program: blanks and the next token.
  Walks: the lexer of the program: the next token.
  Walks: the lexer of the program: the tokens of a string.
  Process trees: a text is read as its tree. Plain Lean.
-/
import Derived.Lib.Builder
import Derived.Lib.UnsafeStr
import Derived.Lib.AppendStr
import Derived.Laws.Externs
import Derived.Laws.Slices
import Derived.WideLaws
import Derived.Test.YtgfabnhpllkebaaGreatDoorPk09
import Derived.Test.YtgfabnhpllkebaaGreatDoorPk08
import Derived.Test.YtgfabnhpllkebaaGreatDoorMShelfT
import Derived.Test.YtgfabnhpllkebaaGreatDoorPk01
namespace Go.En
open Go.RowKit Go.Cb
set_option linter.all false
def okN (Q:Exit→Act→World→Prop) (Pp:List PanicEntry→World→Prop):Exit→Act→World→Prop
 | .normal,a,w=>Q .normal a w
 | .panic ch,a,w=>a.defers=[]∧Pp ch w
 |_,_,_=>False
section
variable {P:Program} {ops:Array Oper} {Q:Exit→Act→World→Prop} {Pp:List PanicEntry→World→Prop} {md:Region.Mode} {C:World→Prop} {Z:Nat→Bool}
theorem ZDb {o:Oper} {a:Act} {w:World} {K:Act→World→Prop} (hP:∀ch a w,a.defers=[]→Pp ch w→Q (.panic ch) a w) (h:o.wp P a w K (okN Q Pp)):o.wp P a w K Q:=by
 unfold Oper.wp at*
 generalize (execOp a.eval o).run P w=r at*
 cases r with
 | ok n w'=>
   cases n<;>simp only [Oper.upon] at h ⊢<;>try exact h
   refine Calls.mono h fun e w'' he=>?_
   cases e with
   |returned u=>exact he
   |panicked c=>exact hP _ _ _ he.1 he.2
   |outgrown=>obtain ⟨_,_,hf⟩:=he;exact hf.elim
 | halt x w'=>
   cases x<;>simp only [Oper.upon] at h ⊢
   · exact hP _ _ _ h.1 h.2
theorem Zyl (hP:∀ch a w,a.defers=[]→Pp ch w→Q (.panic ch) a w) {i:Nat} {a:Act} {w:World} {K:Act→World→Prop} (h:wpOp P ops (okN Q Pp) i K a w):wpOp P ops Q i K a w:=by
 unfold wpOp at*
 split
 · rename_i ho;simp only [ho] at h;exact h
 · rename_i o ho;simp only [ho] at h;split
   · rename_i hw;simp only [hw,if_true] at h;rcases h with h|⟨_,_,_,hf⟩
     · exact .inl (ZDb hP h)
     · exact hf.elim
   · rename_i hw;simp only [hw] at h;exact h
def Zeo (P:Program) (md:Region.Mode) (ops:Array Oper) (Q:Exit→Act→World→Prop) (Pp:List PanicEntry→World→Prop) (C:World→Prop) (Z:Nat→Bool):Nat→Array Bool→Act→World→Prop
 |0,listed,a,w=>Region.ready md ops listed=[]∧Q .normal a w
 | fuel+1,listed,a,w=>
   (Region.ready md ops listed=[]→Q .normal a w)∧
   ∀i∈Region.ready md ops listed,wpOp P ops (okN Q Pp) i (fun a' w'=>(Z i=true∨C w')∧Zeo P md ops Q Pp C Z fuel (listed.setIfInBounds i true) a' w') a w
theorem Zkk (hP:∀ch a w,a.defers=[]→Pp ch w→Q (.panic ch) a w):∀(fuel:Nat) (listed:Array Bool) (a:Act) (w:World),Zeo P md ops Q Pp C Z fuel listed a w→wpAny P md ops Q fuel listed a w
 |0,_,_,_,h=>h
 |fuel+1,_,_,_,h=>⟨h.1,fun i hi=>Zyl hP (wpOp_mono (fun a' w' h'=>Zkk hP fuel _ a' w' h'.2) (h.2 i hi))⟩
theorem ZlD {i:Nat} {oi:Oper} {v:Value} (hi:ops[i]? =some oi) (hz:Zdx md ops Z i=true)
 (hsel:∀(j:Nat) (o:Oper) cs b,ops[j]? =some o→o.op≠ .select cs b):
 ∀ (fuel:Nat) (listed:Array Bool) (a:Act) (w:World),ClosedL md ops listed→
  (∀j oj,ops[j]? =some oj→j≠i→listed.getD j true=false→(∀e∈oj.after,Region.binds md e=true→e.on≠i)→oi.apart ops oj=true)→
  i∈Region.ready md ops listed→YieldsC P ops C oi v a→C w→
  Zeo P md ops Q Pp C Z fuel (listed.setIfInBounds i true) (a.put oi.dst v) w→Zeo P md ops Q Pp C Z (fuel+1) listed a w:=by
 intro fuel
 induction fuel with
 | zero=>
   intro listed a w _ _ hr hy hC H;refine ⟨fun h=>(by rw [h] at hr;cases hr),fun j hj=>?_⟩;by_cases hji:j=i
   · subst hji;exact YieldsIf.wpOp hi hy.ifS hC ⟨.inr hC,H⟩
   · have:=ready_mono hj hji;rw [H.1] at this
     cases this
 | succ fuel ih=>
   intro listed a w hcl hfree hr hy hC H;refine ⟨fun h=>(by rw [h] at hr;cases hr),fun j hj=>?_⟩;by_cases hji:j=i
   · subst hji;exact YieldsIf.wpOp hi hy.ifS hC ⟨.inr hC,H⟩
   · have h1:=H.2 j (ready_mono hj hji);obtain ⟨hjun,oj,hoj,hall⟩:=mem_ready.1 hj;have hnot:∀e∈oj.after,Region.binds md e=true→e.on≠i:=fun e he hb heq=>by
      have h1:=hall e he hb;have h0:=(mem_ready.1 hr).1;rw [heq] at h1;rcases Xq i listed.size with h'|h'
      · simp [h'] at h0 h1;rw [h0] at h1;cases h1
      · simp [XZ h'] at h1
     have hjz:Z j=false:=by
      cases hZ:Z j
      · rfl
      · exfalso;have hjs:j<ops.size:=by
         rcases Xq j ops.size with h'|h'
         · exact h'
         · rw [XZ h'] at hoj;cases hoj
        have:=Xy.1 hz j (Vk.2 hjs);rw [hZ] at this;simp only [Bool.not_true,Bool.false_or] at this;have h0:=(mem_ready.1 hr).1;have h1:=hcl.ready hj this;rcases Xq i listed.size with h'|h'
        · simp [h'] at h0 h1;rw [h0] at h1;cases h1
        · simp [XZ h'] at h1
     have h2:=wpOp_putIf hoj (hfree j oj hoj hji hjun hnot) (fun cs b=>hsel i oi cs b hi) (fun cs b=>hsel j oj cs b hoj) (fun c a w h=>⟨by have h0:=h.1;revert h0;cases oi.dst<;>exact id,h.2⟩) hy.ifS h1;have hfree':∀k ok,ops[k]? =some ok→k≠i→(listed.setIfInBounds j true).getD k true=false→
      (∀e∈ok.after,Region.binds md e=true→e.on≠i)→oi.apart ops ok=true:=fun k ok hk hki hun hno=>by
      refine hfree k ok hk hki ?_ hno;by_cases hjk:j=k
      · subst hjk;exact hjun
      · rw [getD_set_ne true hjk] at hun;exact hun
     refine wpOp_mono (fun a' w' h3=>?_) h2;obtain ⟨hy',hor,hK⟩:=h3;have hC':C w':=by
      rcases hor with h|h
      · rw [hjz] at h;cases h
      · exact h
     refine ⟨.inr hC',ih (listed.setIfInBounds j true) a' w' (hcl.set hj) hfree' (ready_mono hr (Ne.symm hji)) hy' hC' ?_⟩;rw [UC _ _ hji];exact hK
end
def aDp (P:Program) (c:Ctx) (ops:Array Oper) (Q:Exit→Act→World→Prop) (Pp:List PanicEntry→World→Prop) (Z:Nat→Bool) (K:List Nat) (fuel:Nat) (listed:Array Bool) (st:St):Prop:=
 ∀a w F,HoldsF c st F a w→∀C:World→Prop,(∀W,Chg (nK K st.heap F) w W→C W)→Zeo P .any ops Q Pp C Z fuel listed a w
section
variable {P:Program} {c:Ctx} {ops:Array Oper} {Q:Exit→Act→World→Prop} {Pp:List PanicEntry→World→Prop} {Z:Nat→Bool} {K:List Nat} {fuel:Nat} {listed:Array Bool} {sL hP:List (Nat×Ent)} {o:Oper}
theorem Zhk {C C':World→Prop} (h:∀w,C' w→C w):∀(fuel:Nat) (listed:Array Bool) (a:Act) (w:World),Zeo P .any ops Q Pp C' Z fuel listed a w→Zeo P .any ops Q Pp C Z fuel listed a w
 |0,_,_,_,H=>H
 |fuel+1,_,_,_,H=>⟨H.1,fun i hi=>wpOp_mono (fun a' w' h'=>⟨h'.1.imp id (h w'),Zhk h fuel _ a' w' h'.2⟩) (H.2 i hi)⟩
theorem ZlE {id:Nat} {l:List Oper} (Pp:List PanicEntry→World→Prop) (Z:Nat→Bool) (K:List Nat) (hm:P.follows .mixedOrders=true) (hPp:∀ch a w,a.defers=[]→Pp ch w→Q (.panic ch) a w) (h:aDp P c l.toArray Q Pp Z K l.length (Array.replicate l.length false) (⟨sL,hP⟩:St)):aC P c (.region id l.toArray true) Q (⟨sL,hP⟩:St):=fun a w ⟨F,H⟩=>by
 refine wp_region_any hm (Zkk (C:=fun _=>True) (Z:=Z) hPp _ _ _ _ ?_)
 have:=h a w.drew F (H.up (Ext.drew w)) (fun _=>True) (fun _ _=>trivial)
 simpa using this
theorem ZDc {V:Value→Prop} {p:PV} (i d:Nat) (ho:ops[i]? =some o) (hck:(Region.noSelect ops&&(Region.ready .any ops listed).contains i&&Region.free .any ops listed i&&Zdx .any ops Z i&&Zd8 .any ops listed)=true) (hw:ζ2 ops sL o=some true) (hd:o.dst=some d) (hn:d<c.nt) (hy:YE P ⟨sL,ZaP K hP⟩ o V p)
 (k:∀v,V v→aDp P c ops Q Pp Z K fuel (listed.setIfInBounds i true) ⟨put d (v,p) sL,hP⟩):aDp P c ops Q Pp Z K (fuel+1) listed (⟨sL,hP⟩:St):=fun a w F H C hC=>by
 simp only [Xe] at hck
 obtain ⟨⟨⟨⟨hs,hr⟩,hf⟩,hz⟩,hcl⟩:=hck
 obtain ⟨v,hV,hS,hrun⟩:=hy _ F a w (H.rdK K)
 refine Zhk hC _ _ _ _ ?_
 refine ZlD ho hz (Region.noSelect_spec hs) _ listed a w (Zha hcl) (Region.free_spec ho hf) (by simpa using hr) (v:=v) (.inl ⟨Zb5 H.rd hw,fun W hW=>?_⟩) (Chg.rfl' _ _) ?_
 · exact hrun _ W hW (fun b ⟨l,x,_,h1,h2⟩=> .inr ⟨l,x,h1,h2⟩) (fun l x b hl hFb ⟨l',x',h1,h2,h3⟩=>by
    obtain ⟨h4,h5⟩:=Zd0.1 hl;exact H.dj l l' _ _ b (fun e=>by rw [e,h1] at h4;cases h4) h5 h2 hFb h3)
 · rw [hd];exact k v hV _ w F (H.put hn hS) _ (fun W h=>h)
theorem ZDX {v:Value} {p:PV} (i d:Nat) (ho:ops[i]? =some o) (hck:(Region.noSelect ops&&(Region.ready .any ops listed).contains i&&Region.free .any ops listed i&&Zdx .any ops Z i&&Zd8 .any ops listed)=true) (hw:ζ2 ops sL o=some true) (hd:o.dst=some d) (hn:d<c.nt) (hy:YE P ⟨sL,ZaP K hP⟩ o (· =v) p)
 (k:aDp P c ops Q Pp Z K fuel (listed.setIfInBounds i true) ⟨put d (v,p) sL,hP⟩):aDp P c ops Q Pp Z K (fuel+1) listed (⟨sL,hP⟩:St):=ZDc i d ho hck hw hd hn hy fun u hu=>by cases hu;exact k
theorem xDp {v:Value} {p:PV} (i:Nat) (d:Nat) (ho:ops[i]? =some o) (hy:YE P ⟨sL,ZaP K hP⟩ o (· =v) p) (k:aDp P c ops Q Pp Z K fuel (listed.setIfInBounds i true) ⟨put d (v,p) sL,hP⟩) (hck:(Region.noSelect ops&&(Region.ready .any ops listed).contains i&&Region.free .any ops listed i&&Zdx .any ops Z i&&Zd8 .any ops listed)=true:=by kernel_rfl) (hw:ζ2 ops sL o=some true:=by exact rfl) (hd:o.dst=some d:=by exact rfl) (hn:d<c.nt:=by exact Xa rfl):aDp P c ops Q Pp Z K (fuel+1) listed (⟨sL,hP⟩:St):=
 ZDX i d ho hck hw hd hn hy k
theorem yDp {V:Value→Prop} {p:PV} (i:Nat) (d:Nat) (ho:ops[i]? =some o) (hy:YE P ⟨sL,ZaP K hP⟩ o V p) (k:∀v,V v→aDp P c ops Q Pp Z K fuel (listed.setIfInBounds i true) ⟨put d (v,p) sL,hP⟩) (hck:(Region.noSelect ops&&(Region.ready .any ops listed).contains i&&Region.free .any ops listed i&&Zdx .any ops Z i&&Zd8 .any ops listed)=true:=by kernel_rfl) (hw:ζ2 ops sL o=some true:=by exact rfl) (hd:o.dst=some d:=by exact rfl) (hn:d<c.nt:=by exact Xa rfl):aDp P c ops Q Pp Z K (fuel+1) listed (⟨sL,hP⟩:St):=
 ZDc i d ho hck hw hd hn hy k
theorem Znn {x:Operand} {t:TypeId} {v:Value} {q:PV} (i:Nat) (ho:ops[i]? =some o) (k:∀a w F,HoldsF c (⟨sL,hP⟩:St) F a w→Pp [{v:= .iface t v,recovered:=false}] w) (hr:Region.ready .any ops listed=[i]:=by kernel_rfl) (hw:ζ2 ops sL o=some true:=by exact rfl) (hop:o.op= .panic x:=by exact rfl) (hx:ev sL x=some (.iface t v,q):=by exact rfl) (hdf:c.df=[]:=by exact rfl):aDp P c ops Q Pp Z K (fuel+1) listed (⟨sL,hP⟩:St):=fun a w F H C hC=>
 ⟨(fun hn=>by rw [hr] at hn;cases hn),fun j hj=>by
   rw [hr] at hj;obtain rfl:j=i:=by simpa using hj
   have hxv:=(H.rd.ev hx).1;have h1:=Zb5 H.rd hw;unfold Go.wpOp;simp only [ho,h1,if_true];refine .inl ?_;unfold Oper.wp execOp;simp [hop,hxv,Instr.panic,goPanic,Sem.run,Oper.upon];exact ⟨H.df.trans hdf,k a w F H⟩⟩
def ZDx (P:Program) (c:Ctx) (ops:Array Oper) (Q:Exit→Act→World→Prop) (Pp:List PanicEntry→World→Prop) (Z:Nat→Bool) (fuel:Nat) (listed:Array Bool) (st:St):Prop:=
 ∀a w F,HoldsF c st F a w→∀C:World→Prop,Zeo P .any ops Q Pp C Z fuel listed a w
theorem Zgk {Q':Exit→Act→World→Prop} {k:Nat} (ho:ops[k]? =some o) {a:Act} {w:World} {K:Act→World→Prop} (hK:∀a w,Q' .normal a w→K a w) (h:wpList P ops (okN Q' Pp) [o] a w):wpOp P ops (okN Q Pp) k K a w:=by
 have key:∀{K':Act→World→Prop},o.wp P a w K' (okN Q' Pp)→(∀a w,K' a w→K a w)→o.wp P a w K (okN Q Pp):=fun {K'} h hK'=>by
  unfold Oper.wp at*;generalize (execOp a.eval o).run P w=r at*
  cases r with
  | ok n w'=>
    cases n<;>simp only [Oper.upon] at h ⊢<;>first|exact hK' _ _ h|exact h|skip
    · refine Calls.mono h fun e w'' he=>?_
      cases e with
      |returned u=>exact hK' _ _ he
      |panicked c=>exact he
      |outgrown=>obtain ⟨_,_,hf⟩:=he;exact hf.elim
    all_goals exact Rows.mono h fun _ _ h=>hK' _ _ h
  | halt x w'=>
    cases x<;>simp only [Oper.upon] at h ⊢
    · exact h
 unfold wpOp
 simp only [ho]
 unfold wpList at h
 split
 · rename_i hw;rw [if_pos hw] at h;rcases h with h|⟨_,_,_,hf⟩
   · exact .inl (key h fun a w h=>hK a w h)
   · exact hf.elim
 · rename_i hw;rw [if_neg hw] at h;exact hK _ _ h
theorem ZlF (i:Nat) (ho:ops[i]? =some o) (h:∀DQ:Exit→Act→World→Prop,(∀ch a w,a.defers=[]→Pp ch w→DQ (.panic ch) a w)→(∀st':St,ZDx P c ops Q Pp Z fuel (listed.setIfInBounds i true) st'→aN c DQ st')→aL P c ops DQ [o] (⟨sL,hP⟩:St)) (hr:Region.ready .any ops listed=[i]:=by kernel_rfl) (hZ:Z i=true:=by rfl):ZDx P c ops Q Pp Z (fuel+1) listed (⟨sL,hP⟩:St):=fun a w F H C=>
 ⟨(fun hn=>by rw [hr] at hn;cases hn),fun j hj=>by
   rw [hr] at hj;obtain rfl:j=i:=by simpa using hj
   refine Zgk (Q':=fun _ a' w'=>(Z j=true∨C w')∧Zeo P .any ops Q Pp C Z fuel (listed.setIfInBounds j true) a' w') ho (fun a' w' hq=>hq) ?_;exact h (okN (fun _ a' w'=>(Z j=true∨C w')∧Zeo P .any ops Q Pp C Z fuel (listed.setIfInBounds j true) a' w') Pp) (fun ch a w h1 h2=>⟨h1,h2⟩) (fun st' hN a' w' ⟨F',H'⟩=>⟨.inl hZ,hN a' w' F' H' C⟩) a w ⟨F,H⟩⟩
theorem Zym (hr:Region.ready .any ops listed=[]) (h:aN c Q (⟨sL,hP⟩:St)):ZDx P c ops Q Pp Z fuel listed (⟨sL,hP⟩:St):=fun a w F H C=>by
 cases fuel with
 |zero=>exact ⟨hr,h a w ⟨F,H⟩⟩
 |succ n=>exact ⟨fun _=>h a w ⟨F,H⟩,fun i hi=>by rw [hr] at hi;cases hi⟩
theorem Zyn (h:ZDx P c ops Q Pp Z fuel listed (⟨sL,hP⟩:St)):aDp P c ops Q Pp Z K fuel listed (⟨sL,hP⟩:St):=fun a w F H C _=>h a w F H C
end
def Zb4 (b:Nat):Value:= .slice (some ⟨b,0,none⟩) 1 1
def Zal (b:Nat):Value:=padd (sbase (Zb4 b)) 0
section
variable {P:Program} {st:St} {o:Oper} {x y:Operand} {q q':PV} {t t':TypeId}
theorem ZoV {w:World} {tp te:TypeId} {j:TypeInfo} (hp:P.underlying tp=some (.pointer te)) (hte:P.info? te=some j):(binOp .eql tp (.pointer none) (.pointer none)).run P w= .ok (.bool true) w:=by
 have h:∀d:Nat,(Op.equalIn (d+1) tp (.pointer none) (.pointer none)).run P w= .ok true w:=fun d=>by
  simp [Op.equalIn,run_underlying hp,sizeOf,typeInfo,hte]
 simp only [binOp]
 simp [Op.equal,Op.maxDepth,h 9999]
theorem Zno {w:World} {tp te:TypeId} {j:TypeInfo} (a:Addr) (hp:P.underlying tp=some (.pointer te)) (hte:P.info? te=some j):(binOp .eql tp (.pointer (some a)) (.pointer none)).run P w= .ok (.bool false) w:=by
 have h:∀d:Nat,(Op.equalIn (d+1) tp (.pointer (some a)) (.pointer none)).run P w= .ok false w:=fun d=>by
  simp [Op.equalIn,run_underlying hp,sizeOf,typeInfo,hte]
 simp only [binOp]
 simp [Op.equal,Op.maxDepth,h 9999]
theorem ZDd {te:TypeId} (hp:P.underlying t=some (.pointer te)) (hte:(P.info? te).isSome=true) (ho:o.op= .binOp .eql t x y t':=by exact rfl) (hx:ev st.slots x=some (.pointer none,q):=by exact rfl) (hy:ev st.slots y=some (.pointer none,q'):=by exact rfl):YE P st o (· = .bool true) (.val (.bool true)):=
 y2 hx hy fun ρ w h3 h4=>by
  obtain ⟨j,hj⟩:=Uy.1 hte;have:=ZoV (w:=w) hp hj;simp only [execOp,ho,h3,h4];simp [eqGuard,this]
theorem ZBq {te:TypeId} {b:Nat} (hp:P.underlying t=some (.pointer te)) (hte:(P.info? te).isSome=true) (ho:o.op= .binOp .eql t x y t':=by exact rfl) (hx:ev st.slots x=some (Zal b,q):=by exact rfl) (hy:ev st.slots y=some (.pointer none,q'):=by exact rfl):YE P st o (· = .bool false) (.val (.bool false)):=
 y2 hx hy fun ρ w h3 h4=>by
  obtain ⟨j,hj⟩:=Uy.1 hte;have:=Zno (w:=w) ⟨b,0,none⟩ hp hj;simp only [Zal,Zb4,sbase,padd,Vd] at h3;simp only [execOp,ho,h3,h4];simp [eqGuard,this]
theorem ZBr {te:TypeId} {b:Nat} (hp:P.underlying t=some (.pointer te)) (hte:(P.info? te).isSome=true) (ho:o.op= .binOp .neq t x y t':=by exact rfl) (hx:ev st.slots x=some (Zal b,q):=by exact rfl) (hy:ev st.slots y=some (Zal b,q'):=by exact rfl):YE P st o (· = .bool false) (.val (.bool false)):=
 y2 hx hy fun ρ w h3 h4=>by
  obtain ⟨j,hj⟩:=Uy.1 hte;have:=Lib.run_neq_ptr_same w ⟨b,0,none⟩ hp hj;simp only [Zal,Zb4,sbase,padd,Vd] at h3 h4;simp only [execOp,ho,h3,h4];simp [eqGuard,this]
theorem Zkl {M:BS} {w:World} {e k:Nat} {b:Nat} {cs:List PV} {F:BS} (H:Tr M w (Zb4 b) (.own e k 1 cs) F):w.shape? b=some (e,k):=by
 obtain ⟨xs,Fs,hrow,_⟩:=H.row
 rcases hrow.2 with ⟨h,_⟩|⟨g,cap,cur,h,_,hg,_,_,hsz,_⟩
 · cases h
 · unfold Zb4 at h
   cases h;rw [Nat.one_mul] at hsz;simp [World.shape?,hg,hsz]
theorem ZDY {s d te e k b:Nat} {cs:List PV} (l:Nat) (hs:P.underlying s=some (.pointer te)) (hd:P.underlying d=some .unsafePointer) (hte:(P.info? te).map (·.size)=some k) (hk:0<k) (ho:o.op= .convert s d x:=by exact rfl) (hx:ev st.slots x=some (Zal b,q):=by exact rfl) (hl:lk st.heap l=some (Zb4 b, .own e k 1 cs):=by exact rfl):YE P st o (· =Zal b) (.val (Zal b)):=
 .exact fun M F a w H=>by
  have hv:=(H.ev hx).1;obtain ⟨j,hj,hjs⟩:=XH.1 hte;have hsh:=Zkl (H.tr l _ _ hl);have hr:=Lib.run_to_unsafe w ⟨b,0,none⟩ hs hd hj (by omega) hsh hk;refine ⟨.val _,?_⟩;simp only [Zal,Zb4,sbase,padd,Vd] at hv ⊢;simp [execOp,ho,hv,hr]
theorem ZDZ {s d u e k b:Nat} {cs:List PV} (l:Nat) (hs:P.underlying s=some .unsafePointer) (hd:P.underlying d=some (.pointer u)) (hu:(P.info? u).isSome=true) (hlies:liesAt P P.depth e (k / P.cellsOf e) 0 u 1=true) (ho:o.op= .convert s d x:=by exact rfl) (hx:ev st.slots x=some (Zal b,q):=by exact rfl) (hl:lk st.heap l=some (Zb4 b, .own e k 1 cs):=by exact rfl):YE P st o (· =Zal b) (.val (Zal b)):=
 .exact fun M F a w H=>by
  have hv:=(H.ev hx).1;obtain ⟨j,hj⟩:=Uy.1 hu;have hsh:=Zkl (H.tr l _ _ hl);have hr:=Lib.run_from_unsafe w ⟨b,0,none⟩ hs hd hj hsh hlies;refine ⟨.val _,?_⟩;simp only [Zal,Zb4,sbase,padd,Vd] at hv ⊢;simp [execOp,ho,hv,hr]
theorem ZBs {f:Nat} {fn:Func} {xs:Array Operand} {ats:Array TypeId} {v:Value} (hf:P.funcs[f]? =some fn) (hname:(fn.name== "runtime.NumGoroutine")=false) (hb:fn.body.isNone=true) (hn:Extern.findNext fn=none) (he:Extern.find fn=some Extern.AbiNoEscape.same) (ho:o.op= .call {callee:= .value (.func f),args:=xs,argTypes:=ats}:=by exact rfl) (hx:evL st.slots xs.toList=some [(v, .val v)]:=by exact rfl):YE P st o (· =v) (.val v):=
 .exact fun M F a w H=>by
  obtain ⟨h1,_⟩:=Zb6 H hx;refine ⟨.val _,?_⟩;have hargs:xs.map a.eval= #[v]:=by
   rw [show (#[v]:Array Value)=([(v,PV.val v)].map (·.1)).toArray from rfl,←h1,←Vr,Vq]
  have:=run_callFunc_extern hf hname hb hn he #[v] w;rw [Lib.run_noEscape] at this;simp [execOp,ho,resolve,Act.eval,Deferred.ofValue,invoke,hargs,this,Result.andThen]
theorem ZDe {a b:ByteArray} (ho:o.op= .binOp .add t x y t':=by exact rfl) (hx:ev st.slots x=some (.string a,q):=by exact rfl) (hy:ev st.slots y=some (.string b,q'):=by exact rfl) (hs:(a.size:Int)+b.size≤9223372036854775807:=by omega):YE P st o (· = .string (a++b)) (.val (.string (a++b))):=
 y2 hx hy fun ρ w h3 h4=>by simp [execOp,ho,h3,h4,eqGuard,binOp,Op.stringOp];omega
theorem ZD0 {e n:Nat} {ats:Array TypeId} {h:Value} {cs:List PV} (l:Nat) (ho:o.op= .call {callee:= .builtin .unsafeSliceData,args:= #[x],argTypes:=ats}:=by exact rfl) (hx:ev st.slots x=some (h,q):=by exact rfl) (hl:lk st.heap l=some (h, .own e 1 n cs):=by exact rfl) (hn:0<n:=by omega):YE P st o (· =sbase h) (.val (sbase h)):=
 .exact fun M F a w H=>by
  have hv:=(H.ev hx).1;obtain ⟨g,cap,rfl,hc,_⟩:=Zds (H.tr l _ _ hl) hn;refine ⟨.val _,?_⟩;have:=Lib.run_unsafeSliceData_row (P:=P) w ats o.type ⟨g,0,none⟩ n cap (by omega);simp [execOp,ho,resolve,invoke,builtin,hv,this,sbase]
end
section
variable {P:Program} {c:Ctx} {ops:Array Oper} {Q:Exit→Act→World→Prop} {rest:List Oper} {sL hP:List (Nat×Ent)} {o:Oper}
theorem Zfd {t:TypeId} {z:Value} (zs:List Value) (m:Nat) (d:Nat) (hz:ZeroT P t z) (k:∀b:Nat,aL P c ops Q rest ⟨put d (Zal b, .val (Zal b)) sL,put d (Zb4 b, .own t m 1 (zs.map .val)) hP⟩) (hw:ζ2 ops sL o=some true:=by exact rfl) (hd:o.dst=some d:=by exact rfl) (hn:d<c.nt:=by exact Xa rfl) (ho:o.op= .alloc t:=by exact rfl) (hzs:z.cells=zs.toArray:=by exact rfl) (hm:zs.length=m:=by exact rfl) (hl:lk hP d=none:=by exact rfl):aL P c ops Q (o::rest) (⟨sL,hP⟩:St):=
 Zav hw fun a w F H=>by
  obtain ⟨F',H'⟩:=ZaO (e:=t) (k:=m) (n:=1) (cap:=1) (cur:=zs.toArray) (v:= .pointer (some ⟨w.heap.size,0,none⟩)) H hl hn (vs:=zs) (ps:=zs.map .val) (by simp) (fun i y q hy hq=>by
   rw [Xl,hy] at hq;simp at hq;subst hq;exact .val _) (by omega) (Xb _) (by unfold maxLen;omega) (by simp;omega) (Xn (by simp;omega))
  unfold Oper.wp execOp;simp [ho,Instr.alloc,hz.run,newVar,newRow,newObj,Sem.run,hzs,hd,Oper.upon];exact k w.heap.size _ _ ⟨F',H'⟩
theorem Zvx {w:World} {t u ty e:TypeId} {i:TypeInfo} (ht:P.underlying t=some (.slice e)) (hu:P.underlying u=some .string) (hi:P.info? e=some i) (hz:i.zero=some (.int .u8 0)) (hsize:i.size=1) (hby:i.bytes=1) {v:Value} {n:Nat} {xs:List Value} (hown:w.ownsRow 0 e 1 v n xs) (s:ByteArray) (hb:n+s.size≤140737488355328) {v':Value} {w':World} (hr:(Builtin.append_ #[t,u] ty #[v, .string s]).run P w= .ok v' w'):
 v'.ownBlock=v.ownBlock∨∀b,v'.ownBlock=some b→w.heap.size≤b:=by
 rcases hown.2 with ⟨rfl,rfl⟩|⟨g,cap,cur,rfl,hbg,hg,hnc,hcm,hcs,htake⟩
 · obtain ⟨v2,w2,h1,h2,_⟩:=Lib.run_append_own_string (P:=P) w w.heap.size t u ty e i ht hu hi hz hsize hby (.slice none 0 0) 0 xs ⟨hown.1, .inl ⟨rfl,rfl⟩⟩ s (by unfold maxLen;omega) (by omega) (Xb _);rw [h1] at hr
   cases hr;right
   intro b hb;rcases h2.2 with ⟨rfl,_⟩|⟨g,cap,cur,rfl,hbg,_⟩
   · cases hb
   · cases hb;exact hbg
 · by_cases hroom:n+s.size≤cap
   · (have hcs':cur.size=cap:=by simpa using hcs);have h1:=Lib.run_append_room_string (P:=P) w t u ty e i ht hu hi hsize g n cap cur hg s hroom (by omega);rw [h1] at hr
     cases hr;exact .inl rfl
   · (have hxl:xs.length=n:=by simpa using hown.1);have holds:∀j u,xs[j]? =some u→w.cell? ((⟨g,0,none⟩:Addr).add j)=some u:=hown.cells (g:=g) rfl;have h1:=Lib.run_append_grow_string (P:=P) w t u ty e i (.int .u8 0) ht hu hi hz ⟨g,0,none⟩ n cap xs (by rw [hsize];simpa using hxl) holds s (by omega) (by omega) (by rw [hby];exact growslice_fits (by omega) (by omega));rw [h1] at hr
     cases hr;right
     intro b hb
     cases hb;exact Xb _
theorem ZBt {t u e n:Nat} {x y:Operand} {h:Value} {q q2:PV} {bs:List UInt8} {s:ByteArray} (l d:Nat) (hT:ElT P t e 1 1 (.int .u8 0)) (hu:P.underlying u=some .string)
 (k:∀h':Value,h'.oneCell'=true→aL P c ops Q rest ⟨put d (h', .val h') sL,put d (h', .own e 1 (n+s.size) (bs.map ZaV++s.data.toList.map ZaV)) (del l hP)⟩)
 (hb:n+s.size≤140737488355328) (hw:ζ2 ops sL o=some true:=by exact rfl) (hd:o.dst=some d:=by exact rfl) (hn:d<c.nt:=by exact Xa rfl)
 (ho:o.op= .call {callee:= .builtin .append,args:= #[x,y],argTypes:= #[t,u]}:=by exact rfl) (hx:ev sL x=some (h,q):=by exact rfl) (hy:ev sL y=some (.string s,q2):=by exact rfl) (hl:lk hP l=some (h, .own e 1 n (bs.map ZaV)):=by exact rfl) (hdl:lk (del l hP) d=none:=by exact rfl) (hdr:¬c.dr:=by exact id):aL P c ops Q (o::rest) (⟨sL,hP⟩:St):=
 Zav hw fun a w F H=>by
  have hxv:=(H.rd.ev hx).1;have hyv:=(H.rd.ev hy).1;have hT1:=H.tr l _ _ hl;obtain ⟨xs,Fs,hrow,hlen1,hTc,hdd,hbb,hFF⟩:=hT1.row;obtain ⟨i,hi1,hi2,hi3,hi4⟩:=hT.info;obtain ⟨v',w',hr,hown,hg,_⟩:=Lib.run_append_own_string (P:=P) w 0 t u o.type e i hT.ht hu hi1 hi2 hi3 hi4 h n xs hrow s (by unfold maxLen;omega) hb (Xf _);have hblk:=Zvx hT.ht hu hi1 hi2 hi3 hi4 hrow s hb hr;have hch:Chg (fun b=>h.ownBlock=some b) w w':=(Chg.grown hg).wid fun b hb=> .inl hb;have hF1:∀b,h.ownBlock=some b→F l b:=fun b hb=>(hFF b).2 (.inl hb);have hv1:v'.oneCell'=true:=by rcases ZaD hown with ⟨rfl,_⟩|⟨g,cap,rfl,_⟩<;>rfl
  let Fn:Nat→BS:=fun j b=>if j<(bs.map ZaV).length then Fs j b else False;let Fd:BS:=fun b=>v'.ownBlock=some b∨∃j,j<(bs.map ZaV++s.data.toList.map ZaV).length∧Fn j b;have hFd:∀b,Fd b→F l b∨w.heap.size≤b:=by
   rintro b (h1|⟨j,hj,h1⟩)
   · rcases hblk with h2|h2
     · exact .inl (hF1 b (by rw [←h2];exact h1))
     · exact .inr (h2 b h1)
   · simp only [Fn] at h1;split at h1
     · exact .inl ((hFF b).2 (.inr ⟨j,by assumption,h1⟩))
     · exact h1.elim
  have key:HoldsF c ⟨put d (v', .val v') sL,put d (v', .own e 1 (n+s.size) (bs.map ZaV++s.data.toList.map ZaV)) (del l hP)⟩ (fun l'=>if l'=d then Fd else F l') (a.put (some d) v') w':=by
   have aux:∀l' x,(l'=l∨l'=d)→lk (put d (v', .own e 1 (n+s.size) (bs.map ZaV++s.data.toList.map ZaV)) (del l hP)) l'=some x→l'=d∧x=(v', .own e 1 (n+s.size) (bs.map ZaV++s.data.toList.map ZaV)):=fun l' x hTl hx'=>by
    rcases Zag hx' with ⟨e1,e2⟩|⟨hne2,e1⟩
    · exact ⟨e1.symm,e2.symm⟩
    · rcases hTl with h5|h5
      · exact absurd h5.symm (ZaH e1).1
      · exact absurd h5.symm hne2
   refine H.change (fun l'=>l'=l∨l'=d) hn (hch.wid fun b hb=> .inl ⟨l,_, .inl rfl,hl,hF1 b hb⟩) (fun l' x hnT hx'=>?_) (fun l' x b hTl hx' hb'=>?_) (fun hmm l' u p hTl hx'=>?_) (fun l1 l2' x1 x2 b h1 h2 hne' hx1 hx2=>absurd ((aux l1 x1 h1 hx1).1.trans (aux l2' x2 h2 hx2).1.symm) hne') (fun _=> .val _) (fun h=>(hdr h).elim)
   · rcases Zag hx' with ⟨e1,_⟩|⟨_,e1⟩
     · exact absurd (.inr e1.symm) hnT
     · refine ⟨(ZaH e1).2,?_⟩;have:l'≠d:=fun e2=>hnT (.inr e2);simp [this]
   · obtain ⟨rfl,_⟩:=aux l' x hTl hx';simp only [if_true] at hb';rcases hFd b hb' with h1|h1
     · exact .inl ⟨l,_, .inl rfl,hl,h1⟩
     · exact .inr h1
   · obtain ⟨rfl,e2⟩:=aux l' _ hTl hx'
     cases e2;simp only [if_true];refine .own (xs++Lib.strCells s) Fn hown (by rw [Xd,Xd,hlen1,Xh,Lib.strCells_length];simp) (fun j y p hy' hp'=>?_) (fun j1 j2 b hj1 hj2 hne' h1 h2=>?_) (fun j b hj h1=>?_) (fun b=>Iff.rfl)
     · simp only [Fn];rcases Xq j (bs.map ZaV).length with hj|hj
       · rw [X2 hj] at hp';rw [X2 (by omega)] at hy';simp only [hj,if_true];exact (hTc j y p hy' hp').to hch hmm (fun b _ hb'=> .inr ⟨l,_,hl,hF1 b hb'⟩) (fun b hb' he=>hbb j b hj hb' he)
       · rw [Vp hj] at hp';rw [Vp (by omega),←hlen1] at hy';simp only [show ¬j<(bs.map ZaV).length by omega,if_false];rw [Lib.strCells,Xl] at hy';rw [Xl] at hp'
         cases hc:s.data.toList[j-(bs.map ZaV).length]? with
         |none=>rw [hc] at hp';cases hp'
         |some z=>rw [hc] at hp' hy';cases hp';cases hy';exact .shr (.val _) (fun _ h=>h)
     · simp only [Fn] at h1 h2;split at h1
       · split at h2
         · exact hdd j1 j2 b (by assumption) (by assumption) hne' h1 h2
         · exact h2
       · exact h1
     · simp only [Fn] at h1;split at h1
       · rename_i hjl;intro hbk;have hlt:=hT1.lt b ((hFF b).2 (.inr ⟨j,hjl,h1⟩));rcases hblk with h3|h3
         · rw [h3] at hbk;exact hbb j b hjl h1 hbk
         · have:=h3 b hbk;omega
       · exact h1.elim
  unfold Oper.wp execOp;simp only [ho,resolve,invoke,builtin,Sem.run_bind,Sem.run_pure,Result.andThen_ok,VQ,Xu,XY,hxv,hyv,hr,Oper.upon,hd];exact k v' hv1 _ _ ⟨_,key⟩
theorem ZDf {pt it e n:Nat} {x y:Operand} {h:Value} {q q2:PV} {bs:List UInt8} (l d:Nat) (hp:P.underlying pt=some (.pointer e)) (hc:P.cellsOf e=1)
 (k:aL P c ops Q rest ⟨put d (.string ⟨bs.toArray⟩, .val (.string ⟨bs.toArray⟩)) sL,del l hP⟩) (h0:bs≠[]) (hnb:n=bs.length)
 (hw:ζ2 ops sL o=some true:=by exact rfl) (hd:o.dst=some d:=by exact rfl) (hn:d<c.nt:=by exact Xa rfl)
 (ho:o.op= .call {callee:= .builtin .unsafeString,args:= #[x,y],argTypes:= #[pt,it]}:=by exact rfl) (hx:ev sL x=some (sbase h,q):=by exact rfl) (hy:ev sL y=some (.int .i64 n,q2):=by exact rfl) (hl:lk hP l=some (h, .own e 1 n (bs.map ZaV)):=by exact rfl):aL P c ops Q (o::rest) (⟨sL,hP⟩:St):=
 Zav hw fun a w F H=>by
  subst hnb;have hxv:=(H.rd.ev hx).1;have hyv:=(H.rd.ev hy).1;have hT1:=H.tr l _ _ hl;obtain ⟨xs,Fs,hrow,hlen1,hTc,hdd,hbb,hFF⟩:=hT1.row;have hl0:bs.length≠0:=by simpa using h0
  have hxs:xs=Lib.byteCells bs:=Zk6 hlen1 hTc;subst hxs;rcases hrow.2 with ⟨_,h9⟩|⟨g,cap,cur,rfl,_,hg,hnc,hcm,hcs,htake⟩
  · exact absurd h9 hl0
  have hr:=Lib.run_unsafeString_row (P:=P) w pt it o.type e hp hc g cur.size (by simp [World.shape?,hg]) bs h0 (by omega) (by unfold maxLen at hcm;omega) (fun j z hz=>by
   rw [ZaY,Xx];exact Zbu hrow (by simp [Lib.byteCells,hz]))
  have hch:Chg (fun b=>b=g) w (w.freeze ⟨g,0,none⟩ bs.length):=by
   unfold World.freeze;rw [if_neg hl0];exact ⟨rfl,rfl,rfl,by simp,fun k hk hne=>by
    simp only [VT];rw [if_neg (fun e=>hne e.symm)]⟩
  have hFg:F l g:=(hFF g).2 (.inl rfl);have hdw:(w.freeze ⟨g,0,none⟩ bs.length).drawn=w.drawn:=by unfold World.freeze;rw [if_neg hl0]
  have key:HoldsF c ⟨put d (.string ⟨bs.toArray⟩, .val (.string ⟨bs.toArray⟩)) sL,del l hP⟩ F (a.put (some d) (.string ⟨bs.toArray⟩)) (w.freeze ⟨g,0,none⟩ bs.length):=by
   refine H.change (fun l'=>l'=l) hn (hch.wid fun b hb=> .inl ⟨l,_,rfl,hl,by rw [hb];exact hFg⟩) (fun l' x hnT hx'=>⟨(ZaH hx').2,rfl⟩) (fun l' x b hTl hx' hb'=>absurd hTl.symm (ZaH hx').1) (fun hmm l' u p hTl hx'=>absurd hTl.symm (ZaH hx').1) (fun l1 l2 _ _ _ h1 h2 hne=>absurd (h1.trans h2.symm) hne) (fun _=> .val _) (fun _=>by rw [hdw];exact Xb _)
  unfold Oper.wp execOp;simp only [sbase] at hxv;simp only [ho,resolve,invoke,builtin,Sem.run_bind,Sem.run_pure,Result.andThen_ok,VQ,Xu,XY,hxv,hyv,hr,Oper.upon,hd];exact k _ _ ⟨_,key⟩
end
section
variable {P:Program} {st:St} {o:Oper} {x y u:Operand} {q q' q2:PV} {t t':TypeId}
theorem ZBu {a:ByteArray} {k:IntKind} {i:Int} (hu:P.underlying t=some .string) (h0:0≤i) (h1:i≤a.size) (ho:o.op= .slice t x (some y) none none:=by exact rfl) (hx:ev st.slots x=some (.string a,q):=by exact rfl) (hy:ev st.slots y=some (.int k i,q'):=by exact rfl):YE P st o (· = .string (a.extract i.toNat a.size)) (.val (.string (a.extract i.toNat a.size))):=
 y2 hx hy fun ρ w h3 h4=>by simp [execOp,ho,h3,h4,run_sliceAt_string w t _ _ _ _ hu,run_slice_string_l w t a hu k i h0 h1]
theorem ZD1 {a:ByteArray} {k:IntKind} {i:Int} (hu:P.underlying t=some .string) (h0:0≤i) (h1:i≤a.size) (ho:o.op= .slice t x none (some y) none:=by exact rfl) (hx:ev st.slots x=some (.string a,q):=by exact rfl) (hy:ev st.slots y=some (.int k i,q'):=by exact rfl):YE P st o (· = .string (a.extract 0 i.toNat)) (.val (.string (a.extract 0 i.toNat))):=
 y2 hx hy fun ρ w h3 h4=>by simp [execOp,ho,h3,h4,run_sliceAt_string w t _ _ _ _ hu,run_slice_string_h w t a hu k i h0 h1]
theorem Zq0 {v:Value} (hu:(match P.underlying t with|some (.interface _)=>false|some _=>true|none=>false)=true) (ho:o.op= .makeInterface t x:=by exact rfl) (hx:ev st.slots x=some (v,q):=by exact rfl):YE P st o (· = .iface t v) (.val (.iface t v)):=
 .exact fun M F a w H=>by
  have e1:=(H.ev hx).1;refine ⟨.val _,?_⟩;simp only [execOp,ho,e1];unfold Instr.makeInterface
  cases h:P.underlying t with
  |none=>rw [h] at hu;cases hu
  |some d=>cases d<;>simp_all [run_underlying h]
theorem Zvy {M:BS} {w:World} {v:Value} {vs:List Value} (h:Shr M w v (.agg (vs.map .val))):v= .agg vs.toArray:=by
 generalize hp:PV.agg (vs.map .val)=p at h
 cases h with
 | agg us ps hl hV=>
   cases hp;congr 2;refine Vb fun i=>?_;rw [Xh] at hl
   cases h1:us[i]? with
   | none=>
     have:=V6.1 h1;rw [XI (by omega)]
   | some a=>
     have hi:=ζi h1;have h2:vs[i]? =some (vs[i]'(by omega)):=XE (by omega);have h3:=hV i a (.val (vs[i]'(by omega))) h1 (by rw [Xl,h2];rfl);rw [h2]
     cases h3;rfl
 |_=>cases hp
end
section
variable {P:Program} {c:Ctx} {ops:Array Oper} {Q:Exit→Act→World→Prop} {rest:List Oper} {sL hP:List (Nat×Ent)}
theorem ZzD {d:Nat} {v:Value} (vs:List Value) (hx:lk sL d=some (v, .agg (vs.map .val))) (k:v= .agg vs.toArray→aL P c ops Q rest (⟨sL,hP⟩:St)):aL P c ops Q rest (⟨sL,hP⟩:St):=fun a w ⟨F,H⟩=>k (Zvy (H.sl d v _ hx).2) a w ⟨F,H⟩
theorem Zvz {Pp:List PanicEntry→World→Prop} {Z:Nat→Bool} {K:List Nat} {fuel:Nat} {listed:Array Bool} {d:Nat} {v:Value} (vs:List Value) (hx:lk sL d=some (v, .agg (vs.map .val))) (k:v= .agg vs.toArray→aDp P c ops Q Pp Z K fuel listed (⟨sL,hP⟩:St)):aDp P c ops Q Pp Z K fuel listed (⟨sL,hP⟩:St):=fun a w F H=>k (Zvy (H.sl d v _ hx).2) a w F H
end
def Zi4:PV→List PV
 | .agg ps=>ps
 |p=>[p]
def spl {α:Type}:List α→Nat→List α→List α
 |cs,_,[]=>cs
 |cs,o,x::xs=>spl (cs.set o x) (o+1) xs
def Zwu {α:Type} (offs:List (Nat×Nat)):List α→List (Nat×List α)→List α
 |cs,[]=>cs
 |cs,(i,xs)::r=>Zwu offs (spl cs (offs.getD i (0,0)).1 xs) r
theorem Zfe {α:Type}:∀(xs cs:List α) (o:Nat),(spl cs o xs).length=cs.length
 |[],_,_=>rfl
 |x::xs,cs,o=>by rw [spl,Zfe xs,Xr]
def ZDy:PV→Bool
 | .agg _=>true
 |_=>false
def okP (offs:List (Nat×Nat)) (n:Nat) (e:Nat×Ent):Bool:=match offs[e.1]? with
 |some (o,k)=>decide ((Zi4 e.2.2).length=k)&&decide (o+k≤n)&&(one e.2.2||ZDy e.2.2)
 |none=>false
theorem Zq1 (off:Nat):∀(xs:List Value) (k:Nat) (cs:Array Value),((xs.zipIdx k).foldl (fun cs (c,j)=>cs.setIfInBounds (off+j) c) cs).toList=spl cs.toList (off+k) xs
 |[],_,_=>rfl
 | x::xs,k,cs=>by
   rw [VJ,VK,Zq1 off xs (k+1),spl,Uz];rfl
theorem ZzE (offs:List (Nat×Nat)):∀(ps:List (Nat×Value)) (cs:List Value),(∀x∈ps,∃o,offs[x.1]? =some (o,x.2.cells.size)∧o+x.2.cells.size≤cs.length)→Instr.fill (offs.toArray[·]?) cs.toArray ps=some (Zwu offs cs (ps.map fun x=>(x.1,x.2.cells.toList))).toArray
 |[],cs,_=>rfl
 | (i,v)::ps,cs,h=>by
   obtain ⟨o,h1,h2⟩:=h (i,v) (by simp);have hpl:offs.toArray[i]? =some (o,v.cells.size):=by simpa using h1
   have hc:¬(v.cells.size≠v.cells.size||decide (o+v.cells.size>cs.toArray.size))=true:=by simp at h2 ⊢;omega
   simp only [Instr.fill,hpl,hc,if_false];have e:(v.cells.zipIdx.foldl (fun cs (c,j)=>cs.setIfInBounds (o+j) c) cs.toArray)=(spl cs o v.cells.toList).toArray:=by
    apply Array.toList_inj.1;have:=Zq1 o v.cells.toList 0 cs.toArray;rw [←Array.foldl_toList,Array.toList_zipIdx];exact this
   rw [e];have hg:offs.getD i (0,0)=(o,v.cells.size):=by rw [List.getD_eq_getElem?_getD,h1];rfl
   have:=ZzE offs ps (spl cs o v.cells.toList) fun x hx=>by rw [Zfe];exact h x (by simp [hx])
   rw [this,Xu,Zwu,hg];rfl
theorem ZvA (M:BS) (w:World):∀(us:List Value) (qs:List PV) (vs:List Value) (ps:List PV) (o:Nat),us.length=qs.length→(∀(i:Nat) (x:Value) (q:PV),us[i]? =some x→qs[i]? =some q→Shr M w x q)→vs.length=ps.length→(∀(i:Nat) (x:Value) (q:PV),vs[i]? =some x→ps[i]? =some q→Shr M w x q)→
 ∀(i:Nat) (x:Value) (q:PV),(spl vs o us)[i]? =some x→(spl ps o qs)[i]? =some q→Shr M w x q
 |[],[],vs,ps,o,_,_,_,h=>h
 |[],_::_,_,_,_,h,_,_,_=>by simp at h
 |_::_,[],_,_,_,h,_,_,_=>by simp at h
 | a ::us,b::qs,vs,ps,o,hl,hu,hl2,h=>by
   rw [spl,spl];refine ZvA M w us qs _ _ _ (by simpa using hl) (fun i x q hx hq=>hu (i+1) x q (by simpa using hx) (by simpa using hq)) (by simpa using hl2) fun i x q hx hq=>?_;by_cases hij:o=i
   · subst hij;(have h1:o<vs.length:=by have:=ζi hx;simpa using this);rw [X1 h1] at hx;rw [X1 (by omega)] at hq
     cases hx;cases hq;exact hu 0 a b rfl rfl
   · rw [X' hij] at hx hq;exact h i x q hx hq
theorem Znp {M:BS} {w:World} {v:Value} {p:PV} (h:Shr M w v p) (hp:(one p||ZDy p)=true):v.cells.toList.length=(Zi4 p).length∧∀(i:Nat) (x:Value) (q:PV),v.cells.toList[i]? =some x→(Zi4 p)[i]? =some q→Shr M w x q:=by
 by_cases h1:one p=true
 · have hv:=h.one h1;have hc:v.cells.toList=[v]:=by rw [Zcq hv]
   have hpc:Zi4 p=[p]:=by cases p<;>first|rfl|cases h1
   rw [hc,hpc];refine ⟨rfl,fun i x q hx hq=>?_⟩;match i with
   |0=>cases hx;cases hq;exact h
   |i+1=>simp at hx
 · rw [XT] at hp;have hp:=hp.resolve_left h1
   cases h with
   |agg us ps hl hV=>exact ⟨hl,hV⟩
   |_=>cases hp
theorem Zq2 (M:BS) (w:World) (offs:List (Nat×Nat)):∀(es:List (Nat×Ent)) (vs:List Value) (ps:List PV),vs.length=ps.length→(∀(i:Nat) (x:Value) (q:PV),vs[i]? =some x→ps[i]? =some q→Shr M w x q)→(∀x∈es,Shr M w x.2.1 x.2.2∧(one x.2.2||ZDy x.2.2)=true)→
 (Zwu offs vs (es.map fun x=>(x.1,x.2.1.cells.toList))).length=(Zwu offs ps (es.map fun x=>(x.1,Zi4 x.2.2))).length∧∀(i:Nat) (x:Value) (q:PV),(Zwu offs vs (es.map fun x=>(x.1,x.2.1.cells.toList)))[i]? =some x→(Zwu offs ps (es.map fun x=>(x.1,Zi4 x.2.2)))[i]? =some q→Shr M w x q
 |[],vs,ps,hl,h,_=>⟨hl,h⟩
 | (j,v,p)::es,vs,ps,hl,h,he=>by
   obtain ⟨h1,h2⟩:=he (j,v,p) (by simp);obtain ⟨h3,h4⟩:=Znp h1 h2;exact Zq2 M w offs es _ _ (by rw [Zfe,Zfe];exact hl) (ZvA M w _ _ _ _ _ h3 h4 hl h) fun x hx=>he x (by simp [hx])
section
variable {P:Program} {sL hP:List (Nat×Ent)} {o:Oper}
theorem Zef {t:Nat} {parts:Array (Nat×Operand)} {z:Value} {offs:List (Nat×Nat)} {zs:List Value} {es:List (Nat×Ent)} (hT:ZaZ P t=some (z,offs)) (hzs:z.cells=zs.toArray:=by exact rfl) (ho:o.op= .build t parts:=by exact rfl) (hx:evP sL parts.toList=some es:=by exact rfl) (hok:es.all (okP offs zs.length)=true:=by exact rfl):YE P (⟨sL,hP⟩:St) o (fun _=>True) (.agg (Zwu offs (zs.map .val) (es.map fun x=>(x.1,Zi4 x.2.2)))):=fun M F a w H=>by
 obtain ⟨h2,h3⟩:=ZkE H hx
 have hok':∀x∈es,okP offs zs.length x=true:=fun x hx=>Xy.1 hok x hx
 have hag:∀x∈es,(one x.2.2||ZDy x.2.2)=true:=fun x hx=>by
  have:=hok' x hx;unfold okP at this;split at this
  · simp only [Xe] at this;exact this.2
  · cases this
 obtain ⟨h4,h5⟩:=Zq2 M w offs es zs (zs.map .val) (by simp) (fun i x q hx hq=>by
  rw [Xl,hx] at hq;simp at hq;subst hq;exact .val _) fun x hx=>⟨h3 x hx,hag x hx⟩
 refine ⟨.agg (Zwu offs zs (es.map fun x=>(x.1,x.2.1.cells.toList))).toArray,trivial, .agg _ _ h4 h5,fun N W _ _ _=>?_⟩
 have hb :P.built t ((parts.map fun (i,x)=>(i,a.eval x)).toList)=some (Zwu offs zs (es.map fun x=>(x.1,x.2.1.cells.toList))).toArray:=by
  have hpe:(parts.map fun (i,x)=>(i,a.eval x)).toList=es.map fun x=>(x.1,x.2.1):=by rw [Vr,←h2]
  rw [hpe];unfold ZaZ at hT;split at hT
  · rename_i i fs hi hf;split at hT
    · rename_i z' pl hz hpl
      cases hT;unfold Program.built;simp only [hi,hf,hz,hpl,hzs];have:=ZzE offs (es.map fun x=>(x.1,x.2.1)) zs fun x hx=>by
       rw [Xo] at hx;obtain ⟨y,hy,rfl⟩:=hx;have h6:=hok' y hy;have h7:=(Znp (h3 y hy) (hag y hy)).1;unfold okP at h6;split at h6
       · rename_i o k hok;simp only [Xe,decide_eq_true_eq] at h6;(have h8:y.2.1.cells.size=k:=by rw [←h6.1.1,←h7,X3]);exact ⟨o,by rw [h8];exact hok,by rw [h8];exact h6.1.2⟩
       · cases h6
      rw [this,XN];rfl
    · cases hT
  · cases hT
 have:=run_build (P:=P) W t (parts.map fun (i,x)=>(i,a.eval x)) _ hb
 simp only [execOp,ho]
 simp [this]
end
end Go.En
namespace Go.Proofs.YtgfabnhpllkebaaGreatDoor
open Go.RowKit Go.Cb Go.En
set_option linter.all false
set_option maxRecDepth 100000
theorem Zhl:FldT Tryz.prog 110 0 0=true:=by kernel_rfl
theorem ZeQ:FldT Tryz.prog 110 1 1=true:=by kernel_rfl
theorem ZeR:FldT Tryz.prog 221 0 0=true:=by kernel_rfl
theorem ZcE:FldT Tryz.prog 221 1 1=true:=by kernel_rfl
theorem Zgl:NoAgg Tryz.prog 3=true:=by kernel_rfl
theorem ZlG:NoAgg Tryz.prog 9=true:=by kernel_rfl
theorem ZlH:(Tryz.prog.info? 3).map (·.size)=some 1:=by kernel_rfl
theorem Zyo:(Tryz.prog.info? 9).map (·.size)=some 1:=by kernel_rfl
abbrev pB (l:List UInt8):PV:=Za3 (bst l)
theorem ZvB {l:List UInt8} {i:Nat} {c:UInt8} (h:l[i]? =some c):(bst l).data[i]? =some c:=by rw [ZfN,h]
theorem ZvC (l m:List UInt8):((bst l).toList==(bst m).toList)=decide (l=m):=by
 rw [Vl,decide_eq_true_eq]
 exact (Zcv (a:=bst l) (b:=bst m)).trans ⟨fun h=>ZBn h,fun h=>by rw [h]⟩
theorem ZDg {P:Program} {st:St} {o:Oper} {x y:Operand} {q q':PV} {t:TypeId} {l:List UInt8} {k:IntKind} {i:Int} (hu:P.underlying t=some .string) (ho:o.op= .slice t x (some y) none none:=by exact rfl) (hx:ev st.slots x=some (.string (bst l),q):=by exact rfl) (hy:ev st.slots y=some (.int k i,q'):=by exact rfl) (h0:0≤i:=by omega) (h1:i≤l.length:=by omega):YE P st o (· = .string (bst (l.drop i.toNat))) (pB (l.drop i.toNat)):=by
 have:=ZBu hu h0 (by rw [Zao];exact h1) ho hx hy
 rw [Zyf] at this
 exact this
theorem Zq3 {P:Program} {st:St} {o:Oper} {x y:Operand} {q q':PV} {t:TypeId} {l:List UInt8} {k:IntKind} {i:Int} (hu:P.underlying t=some .string) (ho:o.op= .slice t x none (some y) none:=by exact rfl) (hx:ev st.slots x=some (.string (bst l),q):=by exact rfl) (hy:ev st.slots y=some (.int k i,q'):=by exact rfl) (h0:0≤i:=by omega) (h1:i≤l.length:=by omega):YE P st o (· = .string (bst (l.take i.toNat))) (pB (l.take i.toNat)):=by
 have:=ZD1 hu h0 (by rw [Zao];exact h1) ho hx hy
 rw [Zyg] at this
 exact this
theorem Zeg {l:List UInt8} {i:Nat} (h:i<l.length):∃c,l[i]? =some c:=⟨l[i],XE h⟩
theorem ZgV (c:Int):AF Tryz.prog 219 [pU8 c] (· =ζ7 (ZcH c)):=by
 refine AF.of_body 17 Tryz.func219 rfl Tryz.ntmps219 (Xa rfl) ?_
 intro w0 M0 vs hl hv
 obtain ⟨v0,rfl⟩:=ZcP hl
 obtain rfl:=hv 0 _ _ rfl rfl
 clear hl hv
 refine nav ?_
 (refine ζa ?_<;>refine xL 2 ζc ?_<;>refine ζd ?_)
 (refine ζa ?_<;>refine xL 3 ζb (xL 4 Zcu (xL 5 ζb ?_))<;>(refine bLd 5 (fun hb5=>?_) (fun hb5=>?_)<;>(first|refine kL 6 ?_|refine xL 6 ζb ?_))<;>(first|refine kL 7 ?_|refine xL 7 ZgA ?_)<;>refine xL 8 ζv (xL 9 ζb ?_)<;>(first|refine xL 10 ζb ?_|(refine bLd 9 (fun hb9=>?_) (fun hb9=>?_)<;>(first|refine kL 10 ?_|refine xL 10 ζb ?_)))<;>(first|refine kL 11 ?_|refine xL 11 Zcu ?_)<;>(first|refine kL 12 ?_|refine xL 12 ζb ?_)<;>(first|refine kL 13 ?_|(refine bLd 12 (fun hb12=>?_) (fun hb12=>?_)<;>(first|refine kL 13 ?_|refine xL 13 ζb ?_)))<;>(first|refine kL 14 ?_|refine xL 14 ZgA ?_)<;>(first|refine kL 15 ?_|refine xL 15 ζv ?_)<;>refine xL 16 ζv (xL 2 ζc ?_)<;>refine ζd ?_)<;>(
  refine ζp (Tryz.results219) rfl (Zd1 ?_);simp only [ZcH,XT,Xe,decide_eq_true_eq,true_iff,false_iff,VA]<;>omega)
theorem Zi5 (c:UInt8):AF Tryz.prog 222 [pU8 c.toNat] (· =ζ7 (ZeO c)):=by
 refine AF.of_body 9 Tryz.func222 rfl Tryz.ntmps222 (Xa rfl) ?_
 intro w0 M0 vs hl hv
 obtain ⟨v0,rfl⟩:=ZcP hl
 obtain rfl:=hv 0 _ _ rfl rfl
 clear hl hv
 refine nav ?_
 (refine ζa ?_<;>refine xL 2 ζc ?_<;>refine ζd ?_)
 (refine ζa ?_<;>refine xL 3 ζb (xL 4 Zcu (xL 5 ζb ?_))<;>(refine bLd 5 (fun hb5=>?_) (fun hb5=>?_)<;>(first|refine kL 6 ?_|refine xL 6 ζb ?_))<;>(first|refine kL 7 ?_|refine xL 7 ZgA ?_)<;>refine xL 8 ζv (xL 2 ζc ?_)<;>refine ζd ?_)<;>(
  refine ζp (Tryz.results222) rfl (Zd1 ?_);simp only [ZeO,Xe,decide_eq_true_eq,true_iff,false_iff,VA]<;>omega)
theorem ZvD (c:UInt8):AF Tryz.prog 221 [pU8 c.toNat] (· =ζ7 (Zr7 c)):=by
 refine AF.of_body 21 Tryz.func221 rfl Tryz.ntmps221 (Xa rfl) ?_
 intro w0 M0 vs hl hv
 obtain ⟨v0,rfl⟩:=ZcP hl
 obtain rfl:=hv 0 _ _ rfl rfl
 clear hl hv
 refine nav ?_
 (refine ζa ?_<;>refine xL 2 ζc ?_<;>refine ζd ?_)
 (refine ζa ?_<;>refine xL 3 ζb ?_<;>(refine cS 4 (cA Tryz.call219 (ZgV c.toNat)) fun v4 h=>?_;cases h)<;>refine xL 5 ζb ?_<;>(refine bL 5 (fun hb5=>?_) (fun hb5=>?_)<;>(first|refine kL 6 ?_|refine xL 6 ζb ?_))<;>(first|refine kL 7 ?_|(refine cS 7 (cA Tryz.call222 (Zi5 c)) fun v7 h=>?_;cases h))<;>refine xL 8 ζv (xL 9 ζb ?_)<;>(first|refine kL 10 ?_|(refine bL 9 (fun hb9=>?_) (fun hb9=>?_)<;>(first|refine kL 10 ?_|refine xL 10 ζb ?_)))<;>(first|refine kL 11 ?_|refine xL 11 ζY ?_)<;>refine xL 12 ζv (xL 13 ζb ?_)<;>(first|refine kL 14 ?_|(refine bLd 13 (fun hb13=>?_) (fun hb13=>?_)<;>(first|refine kL 14 ?_|refine xL 14 ζb ?_)))<;>(first|refine kL 15 ?_|refine xL 15 ζY ?_)<;>refine xL 16 ζv (xL 17 ζb ?_)<;>(first|refine kL 18 ?_|(refine bLd 17 (fun hb17=>?_) (fun hb17=>?_)<;>(first|refine kL 18 ?_|refine xL 18 ζb ?_)))<;>(first|refine kL 19 ?_|refine xL 19 ζY ?_)<;>refine xL 20 ζv (xL 2 ζc ?_)<;>refine ζd ?_)<;>(
  refine ζp (Tryz.results221) rfl (Zd1 ?_);simp only [Zr7,ZfS,ZeO] at*;simp only [XT,Xe,decide_eq_true_eq,true_iff,false_iff,VA,beq_iff_eq] at* <;>simp_all<;>omega)
theorem ZvE {q:UInt8→Bool}:∀{l:List UInt8} {k:Nat} {c:UInt8},(∀(j:Nat) (d:UInt8),j<k→l[j]? =some d→q d=true)→l[k]? =some c→q c=false→(l.takeWhile q).length=k
 |[],k,c,_,h,_=>by simp at h
 |d::l,0,c,_,h,hc=>by simp at h;subst h;rw [V3,hc];rfl
 | d::l,k+1,c,h0,h,hc=>by
   rw [V3,h0 0 d (by omega) rfl];simp only [if_true,Xc];rw [ZvE (q:=q) (l:=l) (k:=k) (c:=c) (fun j e hj he=>h0 (j+1) e (by omega) (by simpa using he)) (by simpa using h) hc]
theorem ZzF {q:UInt8→Bool}:∀{l:List UInt8},(∀(j:Nat) (d:UInt8),l[j]? =some d→q d=true)→(l.takeWhile q).length=l.length
 |[],_=>rfl
 | d::l,h0=>by
   rw [V3,h0 0 d rfl];simp only [if_true,Xc];rw [ZzF (q:=q) (l:=l) fun j e he=>h0 (j+1) e (by simpa using he)]
theorem Zkm (f:Nat) (p:UInt8→Bool) (l:List UInt8) (hl:l.length≤1000000) (hc:∀args w,(callFunc f args).run Tryz.prog w= .ok (.enter f args) w) (hf:∀c,AF Tryz.prog f [pU8 c.toNat] (· =ζ7 (p c))):AF Tryz.prog 220 [pB l, .fn f []] (· =pInt (l.takeWhile p).length):=by
 have hsz:=Zao l
 refine AF.of_body 21 Tryz.func220 rfl Tryz.ntmps220 (Xa rfl) ?_
 intro w0 M0 vs hl hv
 obtain ⟨v0,v1,rfl⟩:=ZdW hl
 obtain rfl:=hv 0 _ _ rfl rfl
 clear hl hv
 refine nav ?_
 (refine ζa ?_<;>refine xL 4 ζc ?_<;>refine ζd ?_)
 (refine ζa ?_<;>refine xL 6 ζb (xL 7 (Zbe Tryz.underlying9) (xL 8 ζb ?_))<;>refine ζd ?_)
 refine ζD (ι:={k:Nat//k≤l.length∧∀j d,j<k→l[j]? =some d→p d=true}) (fun k=>⟨[(0,_,_),(1,_,_),(7,_,_),(8, .int .i64 k.1,pInt k.1)],[]⟩) (fun k=>l.length-k.1) ⟨0,Xf _,fun j d hj=>absurd hj (Nat.not_lt_zero _)⟩ (fun a w H=>H.weaken ⟨rfl,rfl,rfl,rfl,trivial⟩ trivial) ?_
 rintro ⟨k,hk,hp⟩
 dsimp only
 try dsimp only at hk hp
 refine nav ?_
 (refine ζa ?_<;>refine xL 9 ζP ?_<;>refine ζd ?_)
 (first|refine cCd ?_ ?_|refine cC ?_ ?_)<;>intro hb9
 · first
   |exact bN hb9
   | (
    obtain ⟨c,hcx⟩:=Zeg (show k<l.length by omega);have hcy:=ZvB hcx;refine nav ?_;(refine ζa ?_<;>refine xL 10 ζb (xL 5 ζc ?_)<;>refine ζd ?_)
    (refine ζa ?_<;>refine xL 11 ζb (xL 12 ζb (xL 13 ζb (xL 14 (Zbh Tryz.underlying9) ?_)))<;>(refine cS 15 (Zjr (f:=f) (ps:=[]) rfl ⟨_,rfl⟩ hc rfl (hf c)) fun v15 h=>?_;cases h)<;>refine xL 16 Zaw ?_<;>refine ζd ?_)
    (first|refine cCd ?_ ?_|refine cC ?_ ?_)<;>intro hb16
    · first
      |exact bN hb16
      | (
       refine nav ?_;(refine ζa ?_<;>refine xL 17 ζb (xL 4 ζc ?_)<;>refine ζd ?_)
       refine ζp (Tryz.results220) rfl ?_;rw [ZvE hp hcx (by simpa using hb16)])
    · first
      |exact bN hb16
      | (
       refine nav ?_;(refine ζa ?_<;>refine xL 18 ζM (xL 8 ζb ?_)<;>refine ζd ?_)
       refine ζh (
        ⟨k +1,by omega,fun j d hj hd=>by
         rcases Xq j k with h|h
         · exact hp j d h hd
         · (obtain rfl:j=k:=by omega);rw [hcx] at hd;cases hd;simpa using hb16⟩
        ) (by dsimp only;omega) ⟨rfl,rfl,rfl,rfl,trivial⟩ trivial))
 · first
   |exact bN hb9
   | (
    refine nav ?_;(refine ζa ?_<;>refine xL 19 ζb (xL 20 (Zbe Tryz.underlying9) (xL 4 ζc ?_))<;>refine ζd ?_)
    refine ζp (Tryz.results220) rfl ?_;rw [ZzF fun j d hd=>hp j d (by have:=ζi hd;omega) hd];try (rw [hsz];done))
theorem Zyp {l m:List UInt8} (h:m.length≤l.length):m.isPrefixOf l=decide (l.take m.length=m):=by
 rw [Vl,UG,decide_eq_true_eq,List.prefix_iff_eq_take]
 exact ⟨fun h=>h.symm,fun h=>h.symm⟩
theorem Zyq {l m:List UInt8} (h:¬m.length≤l.length):m.isPrefixOf l=false:=by
 cases h2:m.isPrefixOf l with
 |false=>rfl
 |true=>exact absurd (UG.1 h2).length_le h
theorem Zr9 (l m:List UInt8) (hl:l.length≤1000000) (hm:m.length≤1000000):AF Tryz.prog 283 [pB l,pB m] (· =ζ7 (m.isPrefixOf l)):=by
 have h1:=Zao l
 have h2:=Zao m
 refine AF.of_body 18 Tryz.func283 rfl Tryz.ntmps283 (Xa rfl) ?_
 intro w0 M0 vs hl hv
 obtain ⟨v0,v1,rfl⟩:=ZdW hl
 obtain rfl:=hv 0 _ _ rfl rfl
 obtain rfl:=hv 1 _ _ rfl rfl
 clear hl hv
 refine nav ?_
 (refine ζa ?_<;>refine xL 4 ζc ?_<;>refine ζd ?_)
 (refine ζa ?_<;>refine xL 5 ζb (xL 6 (Zbe Tryz.underlying9) (xL 7 ζb (xL 8 (Zbe Tryz.underlying9) (xL 9 Zcu (xL 10 ζb ?_)))))<;>(refine bLd 10 (fun hb10=>?_) (fun hb10=>?_)<;>(first|refine kL 11 ?_|refine xL 11 ζb ?_))<;>(first|refine kL 12 ?_|refine xL 12 ζb ?_)<;>(first|refine kL 13 ?_|refine xL 13 (Zbe Tryz.underlying9) ?_)<;>(first|refine kL 14 ?_|refine xL 14 (Zq3 Tryz.underlying9) ?_)<;>(first|refine kL 15 ?_|refine xL 15 ζb ?_)<;>(first|refine kL 16 ?_|refine xL 16 ZbI ?_)<;>refine xL 17 ζv (xL 4 ζc ?_)<;>refine ζd ?_)<;>(
  refine ζp (Tryz.results283) rfl ?_
  first
   |(rw [Zyq (by omega)];done)
   | (rw [Zyp (by omega),ZvC]
      simp only [h2,X8];done))
theorem Zi6 (l m:List UInt8) (hl:l.length≤1000000) (hm:m.length≤1000000):AF Tryz.prog 254 [pB l,pB m] (· =ζ7 (m.isPrefixOf l)):=by
 refine AF.of_body 8 Tryz.func254 rfl Tryz.ntmps254 (Xa rfl) ?_
 intro w0 M0 vs hl hv
 obtain ⟨v0,v1,rfl⟩:=ZdW hl
 obtain rfl:=hv 0 _ _ rfl rfl
 obtain rfl:=hv 1 _ _ rfl rfl
 clear hl hv
 refine nav ?_
 (refine ζa ?_<;>refine xL 4 ζc ?_<;>refine ζd ?_)
 (refine ζa ?_<;>refine xL 5 ζb (xL 6 ζb ?_)<;>(refine cS 7 (cA Tryz.call283 (Zr9 l m hl hm)) fun v7 h=>?_;cases h)<;>refine xL 4 ζc ?_<;>refine ζd ?_)
 exact ζp (Tryz.results254) rfl rfl
def RdH (b:Nat) (l:List UInt8) (p:Int×Int):List (Nat×Ent):=[(1000,Zb4 b, .own 221 3 1 [pB l,pInt p.1,pInt p.2])]
theorem ZvF {p:Int×Int} {l:List UInt8} {k:Nat} {c:UInt8} (h:l[k]? =some c):Za2 p (l.take (k+1))=adv (Za2 p (l.take k)) c:=by
 unfold Za2
 rw [ζU h,VN];rfl
theorem ZvG {p:Int×Int} (h1:0≤p.1) (h2:0≤p.2):∀l:List UInt8,0≤(Za2 p l).1∧0≤(Za2 p l).2∧(Za2 p l).1≤p.1+l.length∧(Za2 p l).2≤p.2+l.length+1
 |[]=>by simp only [Za2,List.foldl_nil,Xs];omega
 | c ::l=>by
   have hb:0≤(adv p c).1∧0≤(adv p c).2∧(adv p c).1≤p.1+1∧(adv p c).2≤p.2+1:=by
    unfold adv;split<;>simp only<;>omega
   have:=ZvG (p:=adv p c) hb.1 hb.2.1 l;rw [show Za2 p (c::l)=Za2 (adv p c) l from rfl,Xc];omega
theorem Zq4 (b:Nat) (l:List UInt8) (p:Int×Int) (n:Nat) (hn:n≤l.length) (hl:l.length≤1000000) (h1:0≤p.1) (h2:0≤p.2) (h3:p.1≤1000000) (h4:p.2≤1000000):AFh False Tryz.prog 180 [(0,Zal b, .val (Zal b)),(1, .int .i64 n,pInt n)] (RdH b l p) (fun _ _ h=>h=RdH b (l.drop n) (Za2 p (l.take n))):=by
 unfold RdH
 refine AFh.of_body 48 Tryz.func180 rfl Tryz.ntmps180 (Xa rfl) rfl ?_
 intro w0 M0 N0
 refine nav ?_
 (refine ζa ?_<;>refine xL 5 ζb (xL 6 ζb ?_)<;>refine ζd ?_)
 refine ζD (ι:={k:Nat//k≤n}) (fun k=>⟨[(0,_,_),(1,_,_),(5,_,_),(6, .int .i64 k.1,pInt k.1)],[(1000,Zb4 b, .own 221 3 1 [pB l,pInt (Za2 p (l.take k.1)).1,pInt (Za2 p (l.take k.1)).2])]⟩) (fun k=>n-k.1) ⟨0,Xf _⟩ (fun a w H=>H.weaken ⟨rfl,rfl,rfl,rfl,trivial⟩ ⟨rfl,trivial⟩) ?_
 rintro ⟨k,hk⟩
 dsimp only
 try dsimp only at hk
 have hb:=ZvG h1 h2 (l.take k)
 rw [Xt] at hb
 refine nav ?_
 (refine ζa ?_<;>refine xL 7 ζP ?_<;>refine ζd ?_)
 (first|refine cCd ?_ ?_|refine cC ?_ ?_)<;>intro hb7
 · first
   |exact bN hb7
   | (
    obtain ⟨c,hcx⟩:=Zeg (show k<l.length by omega);have hcy:=ZvB hcx;have hst:=ZvF (p:=p) hcx;refine nav ?_;(refine ζa ?_<;>refine xL 8 ζb (xL 4 ζc ?_)<;>refine ζd ?_)
    (refine ζa ?_<;>refine xL 9 ζb (xL 10 (ζQ 1000) (xL 11 (ζe 1000 ZcE) (xL 12 (ζe 1000 ZeQ) ?_)))<;>(refine yL 13 (ζk 1000 Zgl) fun v13 h=>?_;cases h)<;>refine xL 14 ζM (xL 15 (ζQ 1000) (xL 16 (ζe 1000 ZcE) (xL 17 (ζe 1000 ZeQ) ?_)))<;>refine Zb7 1000 Zgl ZlH ?_<;>refine ζd ?_)
    (refine ζa ?_<;>refine xL 18 ζb (xL 19 (ζQ 1000) (xL 20 (ζe 1000 ZeR) ?_))<;>(refine yL 21 (ζk 1000 ZlG) fun v21 h=>?_;cases h)<;>refine xL 22 ζb (xL 23 (Zbh Tryz.underlying9) (xL 24 ζY ?_))<;>refine ζd ?_)
    (first|refine cCd ?_ ?_|refine cC ?_ ?_)<;>intro hb24
    · first
      |exact bN hb24
      | (
       (have hd:Za2 p (l.take (k+1))=((Za2 p (l.take k)).1+1,1):=by rw [hst,adv,if_pos (by omega)]);refine ζC (ζI (l:=1000) (p':= .own 221 3 1 [pB l,pInt (Za2 p (l.take k)).1,pInt ((Za2 p (l.take k)).2+1)]) rfl rfl) fun _=>?_;refine nav ?_;(refine ζa ?_<;>refine xL 25 ζb (xL 26 (ζQ 1000) (xL 27 (ζe 1000 ZcE) (xL 28 (ζe 1000 Zhl) ?_)))<;>(refine yL 29 (ζk 1000 Zgl) fun v29 h=>?_;cases h)<;>refine xL 30 ζM (xL 31 (ζQ 1000) (xL 32 (ζe 1000 ZcE) (xL 33 (ζe 1000 Zhl) ?_)))<;>refine Zb7 1000 Zgl ZlH ?_<;>refine ζd ?_)
       (refine ζa ?_<;>refine xL 34 ζb (xL 35 (ζQ 1000) (xL 36 (ζe 1000 ZcE) (xL 37 (ζe 1000 ZeQ) ?_)))<;>refine Zb7 1000 Zgl ZlH ?_<;>refine ζd ?_)
       refine ζC (ζI (l:=1000) rfl (show PV.own 221 3 1 [pB l,pInt ((Za2 p (l.take k)).1+1),pInt 1]=PV.own 221 3 1 [pB l,pInt (Za2 p (l.take (k+1))).1,pInt (Za2 p (l.take (k+1))).2] by rw [hd])) fun _=>?_;(refine ζa ?_<;>refine xL 38 ζM (xL 6 ζb ?_)<;>refine ζd ?_)
       refine ζh (
        ⟨k+1,by omega⟩
        ) (by dsimp only;omega) ⟨rfl,rfl,rfl,rfl,trivial⟩ ⟨rfl,trivial⟩)
    · first
      |exact bN hb24
      | (
       (have hd:Za2 p (l.take (k+1))=((Za2 p (l.take k)).1,(Za2 p (l.take k)).2+1):=by rw [hst,adv,if_neg (by omega)]);refine ζC (ζI (l:=1000) rfl (show PV.own 221 3 1 [pB l,pInt (Za2 p (l.take k)).1,pInt ((Za2 p (l.take k)).2+1)]=PV.own 221 3 1 [pB l,pInt (Za2 p (l.take (k+1))).1,pInt (Za2 p (l.take (k+1))).2] by rw [hd])) fun _=>?_;refine nav ?_;(refine ζa ?_<;>refine xL 38 ζM (xL 6 ζb ?_)<;>refine ζd ?_)
       refine ζh (
        ⟨k+1,by omega⟩
        ) (by dsimp only;omega) ⟨rfl,rfl,rfl,rfl,trivial⟩ ⟨rfl,trivial⟩))
 · first
   |exact bN hb7
   | (
    (obtain rfl:k=n:=by omega);refine nav ?_;(refine ζa ?_<;>refine xL 39 ζb (xL 40 ζb (xL 41 (ζQ 1000) (xL 42 (ζe 1000 ZeR) ?_)))<;>(refine yL 43 (ζk 1000 ZlG) fun v43 h=>?_;cases h)<;>refine xL 44 ζb (xL 45 (ZDg Tryz.underlying9) (xL 46 (ζQ 1000) (xL 47 (ζe 1000 ZeR) ?_)))<;>refine Zb7 1000 ZlG Zyo ?_<;>refine ζd ?_)
    exact ZbT (RdH b (l.drop k) (Za2 p (l.take k))) (Tryz.results180) ⟨rfl,trivial⟩ rfl)
theorem ZvH:ElT Tryz.prog 27 9 1 16 (.string ByteArray.empty):=⟨Tryz.underlying27,by kernel_rfl,rfl,by decide⟩
theorem Zyr:NoAgg Tryz.prog 9=true:=by kernel_rfl
theorem Znq:SlT Tryz.prog 27 9 1=true:=by kernel_rfl
def ZD2:PV:= .sl 33 (syms.map pB)
set_option maxHeartbeats 4000000 in
theorem ZoW:AF Tryz.prog 258 [] (· =ZD2):=by
 refine AF.of_body 2 Tryz.func258 rfl Tryz.ntmps258 (Xa rfl) ?_
 intro w0 M0 vs hl hv
 obtain rfl:=XP hl
 clear hl hv
 refine nav ?_
 (refine ζa ?_<;>refine xL 0 ζc ?_<;>refine ζd ?_)
 (refine ζa ?_<;>(refine Zte (xs:=[_,_,_,_,_,_,_,_,_,_,_,_,_,_,_,_,_,_,_,_,_,_,_,_,_,_,_,_,_,_,_,_,_]) 1 ZvH fun h1 ho1=>?_;refine ζq (En.freeze (l:=1) (t:=1) rfl rfl) fun _=>?_)<;>refine xL 0 ζc ?_<;>refine ζd ?_)
 exact ζp (Tryz.results258) rfl rfl
theorem ZvI {α:Type} {q:α→Bool}:∀{l:List α} {k:Nat} {x:α},(∀(j:Nat) (y:α),j<k→l[j]? =some y→q y=false)→l[k]? =some x→q x=true→l.find? q=some x
 |[],k,x,_,h,_=>by simp at h
 |y::l,0,x,_,h,hx=>by simp at h;subst h;rw [List.find?_cons,hx]
 | y::l,k+1,x,h0,h,hx=>by
   rw [List.find?_cons,h0 0 y (by omega) rfl];exact ZvI (k:=k) (fun j z hj hz=>h0 (j+1) z (by omega) (by simpa using hz)) (by simpa using h) hx
theorem ZBv {α:Type} {q:α→Bool} {l:List α} (h:∀(j:Nat) (y:α),l[j]? =some y→q y=false):l.find? q=none:=by
 rw [List.find?_eq_none]
 intro x hx
 obtain ⟨j,hj⟩:=Vc hx
 rw [h j x hj];exact X7
theorem Zsa (l:List UInt8) (hl:l.length≤1000000):AF Tryz.prog 226 [pB l] (· = .tup [pB ((ZsN l).getD []),ζ7 (ZsN l).isSome]):=by
 have hsl:syms.length=33:=rfl
 refine AF.of_body 17 Tryz.func226 rfl Tryz.ntmps226 (Xa rfl) ?_
 intro w0 M0 vs hl hv
 obtain ⟨v0,rfl⟩:=ZcP hl
 obtain rfl:=hv 0 _ _ rfl rfl
 clear hl hv
 refine nav ?_
 (refine ζa ?_<;>refine xL 2 ζc (xL 3 ζc ?_)<;>refine ζd ?_)
 (refine ζa ?_<;>(refine cS 6 (cA (Tryz.call258) ZoW) fun v6 hv6=>?_;refine ζq (Zel (t:=6) (p':= .sl 33 (syms.map pB)) rfl rfl) fun _=>?_)<;>refine xL 7 (ζ9 Znq) (xL 8 ζb ?_)<;>refine ζd ?_)
 refine ζD (ι:={k:Nat//k≤33∧∀(j:Nat) (y:List UInt8),j<k→syms[j]? =some y→y.isPrefixOf l=false}) (fun k=>⟨[(0,_,_),(6,_,_),(7,_,_),(8, .int .i64 k.1,pInt k.1)],[]⟩) (fun k=>33-k.1) ⟨0,Xf _,fun j d hj=>absurd hj (Nat.not_lt_zero _)⟩ (fun a w H=>H.weaken ⟨rfl,rfl,rfl,rfl,trivial⟩ trivial) ?_
 rintro ⟨k,hk,hp⟩
 dsimp only
 try dsimp only at hk hp
 refine nav ?_
 (refine ζa ?_<;>refine xL 9 ζP ?_<;>refine ζd ?_)
 (first|refine cCd ?_ ?_|refine cC ?_ ?_)<;>intro hb9
 · first
   |exact bN hb9
   | (
    obtain ⟨x,hx⟩:=ζo (l:=syms) (i:=k) (by rw [hsl];omega);have e1:=Zbd (f:=pB) hx;have hxl:=ZqX (Xg hx);refine nav ?_;(refine ζa ?_<;>refine xL 10 (ζW Znq) ?_<;>(refine yL 11 (Zc6 Zyr) fun v11 h=>?_;cases h)<;>refine xL 5 ζc ?_<;>refine ζd ?_)
    (refine ζa ?_<;>refine xL 12 ζb (xL 13 ζb ?_)<;>(refine cS 14 (cA Tryz.call254 (Zi6 l x hl (by omega))) fun v14 h=>?_;cases h)<;>refine ζd ?_)
    (first|refine cCd ?_ ?_|refine cC ?_ ?_)<;>intro hb14
    · first
      |exact bN hb14
      | (
       refine nav ?_;(refine ζa ?_<;>refine xL 15 ζb (xL 2 ζc (xL 3 ζc ?_))<;>refine ζd ?_)
       refine Zcs (Tryz.results226) rfl rfl ?_;rw [show ZsN l=some x from ZvI hp hx hb14];rfl)
    · first
      |exact bN hb14
      | (
       refine nav ?_;(refine ζa ?_<;>refine xL 16 ζM (xL 8 ζb ?_)<;>refine ζd ?_)
       refine ζh (
        ⟨k +1,by omega,fun j y hj hy=>by
         rcases Xq j k with h|h
         · exact hp j y h hy
         · (obtain rfl:j=k:=by omega);rw [hx] at hy;cases hy;exact hb14⟩
        ) (by dsimp only;omega) ⟨rfl,rfl,rfl,rfl,trivial⟩ trivial))
 · first
   |exact bN hb9
   | (
    refine nav ?_;(refine ζa ?_<;>refine xL 2 ζc (xL 3 ζc ?_)<;>refine ζd ?_)
    refine Zcs (Tryz.results226) rfl rfl ?_;rw [show ZsN l=none from ZBv fun j y hy=>hp j y (by have:=ζi hy;rw [hsl] at this;omega) hy];rfl)
def ZlI (k:Nat) (pre:List UInt8):Lt→Lt
 | .ok n t=> .ok (n+k) (pre++t)
 | .err e=> .err e
theorem Zgm (k j:Nat) (p q:List UInt8) (x:Lt):ZlI k p (ZlI j q x)=ZlI (k+j) (p++q) x:=by
 cases x with
 |ok n t=>simp only [ZlI,Xw];rw [show n+j+k=n+(k+j) by omega]
 |err e=>rfl
theorem ZoX {c:UInt8} {m:List UInt8} (h:(c.toNat:Int)=34):ZbG (c::m)= .ok 1 []:=by
 rw [ZbG.eq_def];simp only;rw [if_pos (by omega)]
theorem ZvJ {c:UInt8} {m:List UInt8} (h0:¬(c.toNat:Int)=34) (h:(c.toNat:Int)<32∨126<(c.toNat:Int)):ZbG (c::m)= .err 3:=by
 rw [ZbG.eq_def];simp only;rw [if_neg (by omega),if_pos (by omega)]
theorem Zi7 {c:UInt8} {m:List UInt8} (h0:¬(c.toNat:Int)=34) (h1:¬(c.toNat:Int)<32) (h2:¬126<(c.toNat:Int)) (h:¬(c.toNat:Int)=92):ZbG (c::m)=ZlI 1 [c] (ZbG m):=by
 rw [ZbG.eq_def];simp only;rw [if_neg (by omega),if_neg (by omega),if_neg (by omega)]
 cases ZbG m<;>rfl
theorem ZlJ {c:UInt8} (h:(c.toNat:Int)=92):ZbG [c]= .err 4:=by
 rw [ZbG.eq_def];simp only;rw [if_neg (by omega),if_neg (by omega),if_pos (by omega)]
theorem ZoY {c d:UInt8} {m:List UInt8} (h:(c.toNat:Int)=92) (hd:(d.toNat:Int)=34∨(d.toNat:Int)=92):ZbG (c::d::m)=ZlI 2 [d] (ZbG m):=by
 rw [ZbG.eq_def];simp only;rw [if_neg (by omega),if_neg (by omega),if_pos (by omega),if_pos (by omega)]
 cases ZbG m<;>rfl
theorem Zq5 {c d:UInt8} {m:List UInt8} (h:(c.toNat:Int)=92) (hd:¬(d.toNat:Int)=34) (hd2:¬(d.toNat:Int)=92):ZbG (c::d::m)= .err 3:=by
 rw [ZbG.eq_def];simp only;rw [if_neg (by omega),if_neg (by omega),if_pos (by omega),if_neg (by omega)]
theorem Zgn {α:Type} {l:List α} {k:Nat} {x:α} (h:l[k]? =some x):l.drop k=x::l.drop (k+1):=by
 rw [Ve (ζi h),(XF.1 h).2]
theorem Zbl {α:Type} {l:List α} {k:Nat} (h:l.length≤k):l.drop k=[]:=Vo h
def ltP:Lt→PV
 | .ok n _=> .tup [pInt (n+1),pInt 0]
 | .err e=> .tup [pInt 0,pInt e]
theorem ZoZ (a : UInt8) (m :List UInt8) (hl:m.length≤100000):AF Tryz.prog 224 [pB (a::m)] (· =ltP (ZbG m)):=by
 have hsz:=Zao (a::m)
 rw [Xc] at hsz
 refine AF.of_body 50 Tryz.func224 rfl Tryz.ntmps224 (Xa rfl) ?_
 intro w0 M0 vs hl hv
 obtain ⟨v0,rfl⟩:=ZcP hl
 obtain rfl:=hv 0 _ _ rfl rfl
 clear hl hv
 refine nav ?_
 (refine ζa ?_<;>refine xL 2 ζc (xL 3 ζc ?_)<;>refine ζd ?_)
 (refine ζa ?_<;>refine xL 4 ζc ?_<;>refine ζd ?_)
 refine ζD (ι:={k:Nat//k≤m.length∧∃pre,ZbG m=ZlI k pre (ZbG (m.drop k))}) (fun k=>⟨[(0,_,_),(4, .int .i64 ((k.1:Int)+1),pInt ((k.1:Int)+1))],[]⟩) (fun k=>m.length-k.1) ⟨0,Xf _,[],by rw [Vv];cases ZbG m<;>rfl⟩ (fun a w H=>H.weaken ⟨rfl,rfl,trivial⟩ trivial) ?_
 rintro ⟨k,hk,pre,hp⟩
 dsimp only
 try dsimp only at hk hp
 refine nav ?_
 (refine ζa ?_<;>refine xL 5 ζb (xL 6 ζb (xL 7 (Zbe Tryz.underlying9) (xL 8 ζP ?_)))<;>refine ζd ?_)
 (first|refine cCd ?_ ?_|refine cC ?_ ?_)<;>intro hb8
 · first
   |exact bN hb8
   | (
    obtain ⟨c,hc⟩:=Zeg (l:=m) (i:=k) (by omega);have hcx:(bst (a::m)).data[((k:Int)+1).toNat]? =some c:=by
     rw [show ((k:Int)+1).toNat=k+1 by omega,ZfN];exact hc
    have hd:=Zgn hc;rw [hd] at hp;refine nav ?_;(refine ζa ?_<;>refine xL 12 ζb (xL 13 ζb ?_)<;>refine xL 14 (Zbh Tryz.underlying9 rfl rfl rfl (by omega) hcx) ?_<;>refine xL 15 ζY (xL 11 ζc ?_)<;>refine ζd ?_)
    (first|refine cCd ?_ ?_|refine cC ?_ ?_)<;>intro hb11
    · first
      |exact bN hb11
      | (
       refine nav ?_;(refine ζa ?_<;>refine xL 16 ζb (xL 17 ζM (xL 2 ζc (xL 3 ζc ?_)))<;>refine ζd ?_)
       refine Zcs (Tryz.results224) rfl rfl ?_;rw [hp,ZoX hb11];show PV.tup [pInt ((k:Int)+1+1),pInt 0]=PV.tup [pInt (((1+k:Nat):Int)+1),pInt 0];rw [show (((1+k:Nat):Int)+1)=(k:Int)+1+1 by omega])
    · first
      |exact bN hb11
      | (
       refine nav ?_;(refine ζa ?_ <;> refine xL 19 ζb (xL 20 ζb ?_)<;>refine xL 21 (Zbh Tryz.underlying9 rfl rfl rfl (by omega) hcx) ?_<;>refine xL 22 ζP (xL 23 ζb ?_)<;>(refine bLd 23 (fun hb23=>?_) (fun hb23=>?_)<;>(first|refine kL 24 ?_|refine xL 24 ζb ?_))<;>(first|refine kL 25 ?_|refine xL 25 ζb ?_)<;>(first|refine kL 26 ?_|refine kL 26 ?_|refine xL 26 (Zbh Tryz.underlying9 rfl rfl rfl (by omega) hcx) ?_)<;>(first|refine kL 27 ?_|refine xL 27 ZaQ ?_)<;>refine xL 28 ζv (xL 18 ζc ?_)<;>refine ζd ?_)<;>(
        (first|refine cCd ?_ ?_|refine cC ?_ ?_)<;>intro hb18
        · first
          |exact bN hb18
          | (
           refine nav ?_;(refine ζa ?_<;>refine xL 2 ζc (xL 3 ζc ?_)<;>refine ζd ?_)
           refine Zcs (Tryz.results224) rfl rfl ?_;rw [hp,ZvJ (by omega) (by omega)];rfl)
        · first
          |exact bN hb18
          | (
           refine nav ?_;(refine ζa ?_<;>refine xL 30 ζb (xL 31 ζb ?_)<;>refine xL 32 (Zbh Tryz.underlying9 rfl rfl rfl (by omega) hcx) ?_<;>refine xL 33 ζY (xL 29 ζc ?_)<;>refine ζd ?_)
           (first|refine cCd ?_ ?_|refine cC ?_ ?_)<;>intro hb29
           · first
             |exact bN hb29
             | (
              refine nav ?_;(refine ζa ?_<;>refine xL 34 ζb (xL 35 ζM (xL 4 ζc ?_))<;>refine ζd ?_)
              (refine ζa ?_<;>refine xL 36 ζb (xL 37 ζb (xL 38 (Zbe Tryz.underlying9) (xL 39 ζY ?_)))<;>refine ζd ?_)
              (first|refine cCd ?_ ?_|refine cC ?_ ?_)<;>intro hb39
              · first
                |exact bN hb39
                | (
                 refine nav ?_;(refine ζa ?_<;>refine xL 2 ζc (xL 3 ζc ?_)<;>refine ζd ?_)
                 refine Zcs (Tryz.results224) rfl rfl ?_;rw [hp,Zbl (show m.length≤k+1 by omega),ZlJ (by omega)];rfl)
              · first
                |exact bN hb39
                | (
                 obtain ⟨d,hdx⟩:=Zeg (l:=m) (i:=k+1) (by omega);have hdy:(bst (a::m)).data[((k:Int)+1+1).toNat]? =some d:=by
                  rw [show ((k:Int)+1+1).toNat=k+1+1 by omega,ZfN];exact hdx
                 have hd2:=Zgn hdx;rw [hd2] at hp;refine nav ?_;(refine ζa ?_<;>refine xL 40 ζb (xL 41 ζb ?_)<;>refine xL 42 (Zbh Tryz.underlying9 rfl rfl rfl (by omega) hdy) ?_<;>refine xL 43 ZaN (xL 44 ζb ?_)<;>(refine bLd 44 (fun hb44=>?_) (fun hb44=>?_)<;>(first|refine kL 45 ?_|refine xL 45 ζb ?_))<;>(first|refine kL 46 ?_|refine xL 46 ζb ?_)<;>(first|refine kL 47 ?_|refine kL 47 ?_|refine xL 47 (Zbh Tryz.underlying9 rfl rfl rfl (by omega) hdy) ?_)<;>(first|refine kL 48 ?_|refine xL 48 ZaN ?_)<;>refine xL 49 ζv ?_<;>refine ζd ?_)<;>(
                  (first|refine cCd ?_ ?_|refine cC ?_ ?_)<;>intro hb49
                  · first
                    |exact bN hb49
                    | (
                     refine nav ?_;(refine ζa ?_<;>refine xL 2 ζc (xL 3 ζc ?_)<;>refine ζd ?_)
                     refine Zcs (Tryz.results224) rfl rfl ?_;rw [hp,Zq5 (by omega) (by omega) (by omega)];rfl)
                  · first
                    |exact bN hb49
                    | (
                     rw [ZoY (by omega) (by omega),Zgm] at hp;refine nav ?_;(refine ζa ?_<;>refine xL 9 ζb (xL 10 ζM (xL 4 ζc ?_))<;>refine ζd ?_)
                     first
                      | (exact ζh (
                          ⟨k+2,by omega,_,hp⟩
                          ) (by dsimp only;omega) ⟨rfl,rfl,trivial⟩ trivial)
                      | (exact ζh (
                          ⟨k+1,by omega,_,hp⟩
                          ) (by dsimp only;omega) ⟨rfl,rfl,trivial⟩ trivial)))))
           · first
             |exact bN hb29
             | (
              rw [Zi7 (by omega) (by omega) (by omega) (by omega),Zgm] at hp;refine nav ?_;(refine ζa ?_<;>refine xL 9 ζb (xL 10 ζM (xL 4 ζc ?_))<;>refine ζd ?_)
              first
               | (exact ζh (
                   ⟨k+2,by omega,_,hp⟩
                   ) (by dsimp only;omega) ⟨rfl,rfl,trivial⟩ trivial)
               | (exact ζh (
                   ⟨k+1,by omega,_,hp⟩
                   ) (by dsimp only;omega) ⟨rfl,rfl,trivial⟩ trivial))))))
 · first
   |exact bN hb8
   | (
    refine nav ?_;(refine ζa ?_<;>refine xL 2 ζc (xL 3 ζc ?_)<;>refine ζd ?_)
    refine Zcs (Tryz.results224) rfl rfl ?_;rw [hp,Zbl (by omega)];rfl)
def Zb3 (op:Int):ByteArray:=if op=3 then ⟨#[115,101,113]⟩ else if op=4 then ⟨#[120,111,114]⟩ else if op=5 then ⟨#[97,110,100]⟩ else ⟨#[108,111,111,112]⟩
theorem Znr (op:Int):(Zb3 op).data.toList.length≤4:=by
 unfold Zb3
 split
 · decide
 · split
   · decide
   · split<;>decide
def ZcY:List (List UInt8)→List UInt8
 |[]=>[]
 |[x]=>x
 |x::y::m=>x++[44,32]++ZcY (y::m)
theorem Zns (x:List UInt8):∀m:List (List UInt8),ZcY (m++[x])=ZcY m++(if m=[] then [] else [44,32])++x
 |[]=>by simp [ZcY]
 |[y]=>by simp [ZcY]
 | y::z::m=>by
   have:=Zns x (z::m);simp only [Vj] at this ⊢;rw [ZcY,this,ZcY];simp
mutual
def Zda:Nd→List UInt8
 | .mk o a l=>if o=1 then a.data.toList else if o=2 then [40,41] else (Zb3 o).data.toList++[40]++ZcY (ZaJ l)++[41]
def ZaJ:List Nd→List (List UInt8)
 |[]=>[]
 |x::l=>Zda x::ZaJ l
end
theorem ZlK (l:List Nd):ZaJ l=l.map Zda:=by
 induction l with
 |nil=>rfl
 |cons x l ih=>rw [ZaJ,ih];rfl
theorem ZlL (m:List (List UInt8)) (n:List Nat) (h:m.map List.length=n):(ZcY m).length≤n.sum+2*n.length:=by
 subst h
 match m with
 |[]=>simp [ZcY]
 |[x]=>simp [ZcY]
 | x::y::m=>
   have:=ZlL (y::m) _ rfl;rw [ZcY];simp only [Xd,Xu,List.sum_cons,Xc,Xs,Xh] at this ⊢;omega
theorem Zys:∀t:Nd,okT t=true→(Zda t).length+2≤50*szT t:=Nd.ind fun o a l ih hok=>by
 obtain ⟨hr,hp⟩:=Zbt.1 hok
 have h40:=Zlx hr
 simp only [Nd.l,Nd.act] at hp h40
 have h1:(a.data.toList).length=a.size:=X3
 have h2:((ZaJ l).map List.length).sum+2*((ZaJ l).map List.length).length≤50*szL l:=by
  clear hok hr;induction l with
  |nil=>simp [ZaJ]
  | cons x l ih2=>
    have h3:=ih x (Xk ..) (hp x (Xk ..));have h4:=ih2 (fun y hy=>ih y (Xj _ hy)) (fun y hy=>hp y (Xj _ hy));rw [ZaJ,szL];simp only [Xu,List.sum_cons,Xc,Xh] at h4 ⊢;omega
 have h3:=ZlL (ZaJ l) _ rfl
 have h4:=Znr o
 rw [Zda,szT]
 split
 · omega
 · split
   · simp only [Xc,Xs];omega
   · simp only [Xd,Xc,Xs];omega
theorem ZBw:∀t:Nd,okT t=true→Zda t≠[]
 | .mk o a l,hok=>by
   have hr:=(Zbt.1 hok).1;rw [Zda];split
   · rename_i h1;unfold rightT at hr;rw [if_pos (show Nd.op (.mk o a l)=1 from h1)] at hr;simp only [Xe] at hr;intro h;have hs:a.size=0:=by
      (have:a.data.toList.length=0:=by rw [h];rfl);simpa using this
     have:=Zdc (s:=a) (.inl (by omega));rw [show ZcN a=true from hr.2] at this;cases this
   · split
     · intro h;cases h
     · intro h;have:=congrArg List.length h;simp at this
theorem Zsb {l:List Nd} {k:Nat} {x:Nd} (h:l[k]? =some x):ZcY (ZaJ (l.take (k+1)))=ZcY (ZaJ (l.take k))++(if k=0 then [] else [44,32])++Zda x:=by
 rw [ζU h,ZlK,XC,Xu,XY,Zns,←ZlK]
 have hk:=ζi h
 by_cases h0:k=0
 · subst h0;rfl
 · rw [if_neg h0,if_neg];intro he;have:=congrArg List.length he;rw [ZlK,Xh,Xt,Xs] at this;omega
theorem ZvK {l:List Nd} (hp:∀x∈l,okT x=true) (k:Nat):(ZcY (ZaJ (l.take k))).length≤50*szL (l.take k)∧szL (l.take k)≤szL l:=by
 have h2:∀m:List Nd,(∀x∈m,okT x=true)→((ZaJ m).map List.length).sum+2*((ZaJ m).map List.length).length≤50*szL m:=fun m=>by
  induction m with
  |nil=>intro _;simp [ZaJ]
  | cons x m ih2=>
    intro hm;have h3:=Zys x (hm x (Xk ..));have h4:=ih2 (fun y hy=>hm y (Xj _ hy));rw [ZaJ,szL];simp only [Xu,List.sum_cons,Xc,Xh] at h4 ⊢;omega
 have h3:=ZlL (ZaJ (l.take k)) _ rfl
 have h4:=h2 (l.take k) fun x hx=>hp x (VX hx)
 have h5:szL (l.take k)≤szL l:=by
  conv=>rhs;rw [←Vt k l]
  rw [ZcW];omega
 exact ⟨by omega,h5⟩
theorem ZBx {l:List Nd} {k:Nat} {x:Nd} (h:l[k]? =some x):szL (l.take k)+szT x≤szL l:=by
 rw [←ZhT h]
 conv=>rhs;rw [←Vt (k+1) l]
 rw [ZcW];omega
theorem ZcZ:AggT Tryz.prog 24 3=true:=by kernel_rfl
theorem Zsc:ElT Tryz.prog 170 5 1 1 (.int .u8 0):=⟨Tryz.underlying170,by kernel_rfl,rfl,by decide⟩
theorem Zdn:FldT Tryz.prog 172 0 0=true:=by kernel_rfl
theorem ZcF:FldT Tryz.prog 172 1 1=true:=by kernel_rfl
theorem Zi8:FldT Tryz.prog 24 0 0=true:=by kernel_rfl
theorem Zo0:FldT Tryz.prog 24 1 1=true:=by kernel_rfl
theorem Zo1:FldT Tryz.prog 24 2 2=true:=by kernel_rfl
theorem Zff:NoAgg Tryz.prog 169=true:=by kernel_rfl
theorem ZdS:NoAgg Tryz.prog 170=true:=by kernel_rfl
theorem ZvL:NoAgg Tryz.prog 22=true:=by kernel_rfl
theorem Zq6:NoAgg Tryz.prog 3=true:=by kernel_rfl
theorem Zyt:NoAgg Tryz.prog 9=true:=by kernel_rfl
theorem Zkn:SlT Tryz.prog 170 5 1=true:=by kernel_rfl
theorem Znt:SlT Tryz.prog 22 24 3=true:=by kernel_rfl
theorem Zsd:(Tryz.prog.info? 169).map (·.size)=some 1:=by kernel_rfl
theorem Zse:(Tryz.prog.info? 170).map (·.size)=some 1:=by kernel_rfl
theorem Zsf:ZeroT Tryz.prog 172 (.agg #[(.pointer none),(.slice none 0 0)]):=by unfold ZeroT;kernel_rfl
theorem ZvM:ZeroT Tryz.prog 24 (.agg #[(.int .i64 0),(.string ByteArray.empty),(.slice none 0 0)]):=by unfold ZeroT;kernel_rfl
def ByH (b:Nat) (p v:Value) (bs:List UInt8):List (Nat×Ent):=[(1000,Zb4 b, .own 172 2 1 [.val p, .val v]),(1001,v, .own 5 1 bs.length (bs.map ZaV))]
theorem ZvN {c:Ctx} {P:Program} {sL hP:List (Nat×Ent)} {fn:Func} {R:Value→PV→List (Nat×Ent)→Prop} {t s:Nat} {v u:Value} {p q:PV} (h:List (Nat×Ent)) (hr:fn.results= #[.tmp t, .tmp s]) (ht:lk sL t=some (v,p)) (hs:lk sL s=some (u,q)) (hsub:Sub h hP) (hR:R (.tuple #[v,u]) (.tup [p,q]) h) (hdf:c.df=[]:=by exact rfl):aR c (bodyPost P fn (Zrt c R)) (⟨sL,hP⟩:St):=fun a w ⟨F,H0⟩=>by
 have H:HoldsF c (⟨sL,h⟩:St) F a w:=H0.less (fun _ _ h=>h) fun t x hx=>hsub.lk hx
 obtain ⟨h1,h2⟩:=H.sl t v p ht
 obtain ⟨h3,h4⟩:=H.sl s u q hs
 refine ⟨H.df.trans hdf, .tuple #[v,u],?_, .tuple #[v,u], .tup [p,q],h,F,rfl,hR,H.toHeapF, .tup [v,u] [p,q] rfl fun i x r hx hr=>?_⟩
 · simp [results,hr,X0,h1,h3]
 · match i with
   |0=>cases hx;cases hr;exact h2
   |1=>cases hx;cases hr;exact h4
   |i+2=>simp at hx
theorem ZvO (b:Nat) (v:Value) (hv:v.oneCell'=true):AFh False Tryz.prog 230 [(0,Zal b, .val (Zal b))] [(1000,Zb4 b, .own 172 2 1 [.val (.pointer none), .val v])] (fun _ _ h=>h=[(1000,Zb4 b, .own 172 2 1 [.val (Zal b), .val v])]):=by
 refine AFh.of_body 20 Tryz.func230 rfl Tryz.ntmps230 (Xa rfl) rfl ?_
 intro w0 M0 N0
 refine nav ?_
 (refine ζa ?_<;>refine xL 2 ζb (xL 3 (ζQ 1000) (xL 4 (ζe 1000 Zdn) ?_))<;>(refine yL 5 (ζk 1000 Zff) fun v5 h=>?_;cases h)<;>refine xL 6 ((ZDd rfl rfl)) ?_<;>refine ζd ?_)
 refine cCt ?_
 refine nav ?_
 (refine ζa ?_<;>refine xL 7 ζb (xL 8 ζb ?_)<;>refine xL 9 ((ZDY (k:=2) 1000 rfl rfl rfl (by decide))) ?_<;>refine xL 10 ((ZBs rfl kR kR kR kR)) ?_<;>refine xL 11 ((ZDZ 1000 rfl rfl rfl kR)) ?_<;>refine xL 12 (ζQ 1000) (xL 13 (ζe 1000 Zdn) ?_)<;>refine Zb7 1000 Zff Zsd ?_<;>refine ζd ?_)
 exact ZbT [(1000,Zb4 b, .own 172 2 1 [.val (Zal b), .val v])] (Tryz.results230) ⟨rfl,trivial⟩ rfl
theorem ZvP (b:Nat) (v:Value) (hv:v.oneCell'=true):AFh False Tryz.prog 230 [(0,Zal b, .val (Zal b))] [(1000,Zb4 b, .own 172 2 1 [.val (Zal b), .val v])] (fun _ _ h=>h=[(1000,Zb4 b, .own 172 2 1 [.val (Zal b), .val v])]):=by
 refine AFh.of_body 20 Tryz.func230 rfl Tryz.ntmps230 (Xa rfl) rfl ?_
 intro w0 M0 N0
 refine nav ?_
 (refine ζa ?_<;>refine xL 2 ζb (xL 3 (ζQ 1000) (xL 4 (ζe 1000 Zdn) ?_))<;>(refine yL 5 (ζk 1000 Zff) fun v5 h=>?_;cases h)<;>refine xL 6 ((ZBq rfl rfl)) ?_<;>refine ζd ?_)
 refine cCf ?_
 refine nav ?_
 (refine ζa ?_<;>refine xL 14 ζb (xL 15 (ζQ 1000) (xL 16 (ζe 1000 Zdn) ?_))<;>(refine yL 17 (ζk 1000 Zff) fun v17 h=>?_;cases h)<;>refine xL 18 ζb ?_<;>refine xL 19 ((ZBr rfl rfl)) ?_<;>refine ζd ?_)
 refine cCf ?_
 refine nav ?_
 exact ZbT [(1000,Zb4 b, .own 172 2 1 [.val (Zal b), .val v])] (Tryz.results230) ⟨rfl,trivial⟩ rfl
theorem Znu (b:Nat) (p v:Value) (hp:p= .pointer none∨p=Zal b) (hv:v.oneCell'=true):AFh False Tryz.prog 230 [(0,Zal b, .val (Zal b))] [(1000,Zb4 b, .own 172 2 1 [.val p, .val v])] (fun _ _ h=>h=[(1000,Zb4 b, .own 172 2 1 [.val (Zal b), .val v])]):=by
 rcases hp with rfl|rfl
 · exact ZvO b v hv
 · exact ZvP b v hv
theorem ZeS (b:Nat) (p v:Value) (bs:List UInt8) (s:ByteArray) (hp:p= .pointer none∨p=Zal b) (hv:v.oneCell'=true) (hl:bs.length+s.size≤1000000000):AFh False Tryz.prog 183 [(0,Zal b, .val (Zal b)),(1, .string s,Za3 s)] (ByH b p v bs) (fun _ _ h=>∃v',v'.oneCell'=true∧h=ByH b (Zal b) v' (bs++s.data.toList)):=by
 have hone:En.one (PV.val v)=true:=hv
 have hsz:s.data.toList.length=s.size:=X3
 unfold ByH
 refine AFh.of_body 19 Tryz.func183 rfl Tryz.ntmps183 (Xa rfl) rfl ?_
 intro w0 M0 N0
 refine nav ?_
 (refine ζa ?_<;>refine xL 4 ζc (xL 5 ζc ?_)<;>refine ζd ?_)
 (refine ζa ?_<;>refine xL 6 ζb ?_<;>(refine Zaa [1001] 7 (Tryz.call230) (Znu b p v hp hv) (fun v7 p7 h7 hR7=>?_);subst hR7)<;>refine ζd ?_)
 (refine ζa ?_<;>refine xL 8 ζb (xL 9 ζb (xL 10 (ζQ 1000) (xL 11 (ζe 1000 ZcF) ?_)))<;>(refine yL 12 (ζk 1000 ZdS) fun v12 h=>?_;cases h)<;>refine xL 13 ζb ?_<;>(refine ZBt (n:=bs.length) (bs:=bs) (s:=s) 1001 14 Zsc rfl (fun h14 ho14=>?_) (by omega);have hone14:En.one (PV.val h14)=true:=ho14)<;>refine xL 15 (ζQ 1000) (xL 16 (ζe 1000 ZcF) ?_)<;>refine Zb7 1000 ZdS Zse ?_<;>refine ζd ?_)
 (refine ζa ?_<;>refine xL 17 ζb (xL 18 (Zbe Tryz.underlying9) (xL 4 ζc (xL 5 ζc ?_)))<;>refine ζd ?_)
 refine Zcr (ζJ (l:=14) 1001 rfl rfl) fun _=>?_
 refine ZvN [(1000,Zb4 b, .own 172 2 1 [.val (Zal b), .val h14]),(1001,h14, .own 5 1 (bs.length+s.size) (bs.map ZaV++s.data.toList.map ZaV))] (Tryz.results183) rfl rfl ⟨rfl,rfl,trivial⟩ ⟨h14,ho14,?_⟩
 rw [Xd,hsz,XC]
theorem ZBy (b:Nat) (p v:Value) (bs:List UInt8) (hv:v.oneCell'=true):AFh False Tryz.prog 130 [(0,Zal b, .val (Zal b))] (ByH b p v bs) (fun u q h=>u= .int .i64 bs.length∧q=pInt bs.length∧h=ByH b p v bs):=by
 have hone:En.one (PV.val v)=true:=hv
 unfold ByH
 refine AFh.of_body 8 Tryz.func130 rfl Tryz.ntmps130 (Xa rfl) rfl ?_
 intro w0 M0 N0
 refine nav ?_
 (refine ζa ?_<;>refine xL 2 ζc ?_<;>refine ζd ?_)
 (refine ζa ?_<;>refine xL 3 ζb (xL 4 (ζQ 1000) (xL 5 (ζe 1000 ZcF) ?_))<;>(refine yL 6 (ζk 1000 ZdS) fun v6 h=>?_;cases h)<;>refine xL 7 (Zbw 1001 Zkn) (xL 2 ζc ?_)<;>refine ζd ?_)
 exact ZfE (ByH b p v bs) (Tryz.results130) rfl ⟨rfl,rfl,trivial⟩ ⟨rfl,rfl,rfl⟩
theorem ZvQ (b:Nat) (p v:Value) (bs:List UInt8) (hne:bs≠[]) (hv:v.oneCell'=true):AFh False Tryz.prog 131 [(0,Zal b, .val (Zal b))] (ByH b p v bs) (fun u q h=>u= .string ⟨bs.toArray⟩∧q= .val u∧h=[]):=by
 have hone:En.one (PV.val v)=true:=hv
 have hnl:0<bs.length:=by cases bs with
  |nil=>exact absurd rfl hne
  |cons x l=>exact Nat.succ_pos _
 unfold ByH
 refine AFh.of_body 14 Tryz.func131 rfl Tryz.ntmps131 (Xa rfl) rfl ?_
 intro w0 M0 N0
 refine nav ?_
 (refine ζa ?_<;>refine xL 2 ζc ?_<;>refine ζd ?_)
 (refine ζV (fun i=>([10,11]:List Nat).elem i) [1000,1001] kR ?_<;>refine xDT 0 3 rfl ζb ?_<;>refine xDT 1 4 rfl (ζQ 1000) ?_<;>refine xDT 2 5 rfl (ζe 1000 ZcF) ?_<;>(refine yDT 3 6 rfl (ζk 1000 ZdS) fun v6 h=>?_;cases h)<;>refine xDT 4 7 rfl (ZD0 1001) ?_<;>refine xE 5 8 rfl ζb ?_<;>refine xE 6 9 rfl (ζQ 1000) ?_<;>refine xE 7 10 rfl (ζe 1000 ZcF) ?_<;>(refine yE 8 11 rfl (ζk 1000 ZdS) fun v11 h=>?_;cases h)<;>refine xE 9 12 rfl (Zbw 1001 Zkn) ?_<;>(refine ζj 10 kR ?_)<;>(refine Zf5 rfl rfl fun DQ back=>?_)<;>refine ZDf (n:=bs.length) (bs:=bs) 1001 13 rfl rfl ?_ hne rfl<;>refine ζf (back _ ?_)<;>(refine ZfI 11 kR rfl rfl fun DQ back=>?_)<;>refine xL 2 ζc ?_<;>refine ζf (back _ ?_)<;>refine ZiE kR (nav ?_)<;>try dsimp only)
 exact ZfE [] (Tryz.results131) rfl trivial ⟨rfl,rfl,rfl⟩
theorem ZvR (op:Int):AF Tryz.prog 184 [pInt op] (· =Za3 (Zb3 op)):=by
 refine AF.of_body 10 Tryz.func184 rfl Tryz.ntmps184 (Xa rfl) ?_
 intro w0 M0 vs hl hv
 obtain ⟨v0,rfl⟩:=ZcP hl
 obtain rfl:=hv 0 _ _ rfl rfl
 clear hl hv
 refine nav ?_
 (refine ζa ?_<;>refine xL 2 ζc ?_<;>refine ζd ?_)
 (refine ζa ?_<;>refine xL 3 ζb ?_<;>refine ζd ?_)
 (refine ζa ?_<;>refine xL 5 ζY (xL 4 ζc ?_)<;>refine ζd ?_)
 (first|refine cCd ?_ ?_|refine cC ?_ ?_)<;>intro hb4
 · first
   |exact bN hb4
   | (
    refine nav ?_;(refine ζa ?_<;>refine xL 2 ζc ?_<;>refine ζd ?_)
    refine ζp (Tryz.results184) rfl ?_;rw [Zb3,if_pos (by assumption)])
 · first
   |exact bN hb4
   | (
    refine nav ?_;(refine ζa ?_<;>refine xL 7 ζY (xL 6 ζc ?_)<;>refine ζd ?_)
    (first|refine cCd ?_ ?_|refine cC ?_ ?_)<;>intro hb6
    · first
      |exact bN hb6
      | (
       refine nav ?_;(refine ζa ?_<;>refine xL 2 ζc ?_<;>refine ζd ?_)
       refine ζp (Tryz.results184) rfl ?_;rw [Zb3,if_neg (by assumption),if_pos (by assumption)])
    · first
      |exact bN hb6
      | (
       refine nav ?_;(refine ζa ?_<;>refine xL 9 ζY (xL 8 ζc ?_)<;>refine ζd ?_)
       (first|refine cCd ?_ ?_|refine cC ?_ ?_)<;>intro hb8
       · first
         |exact bN hb8
         | (
          refine nav ?_;(refine ζa ?_<;>refine xL 2 ζc ?_<;>refine ζd ?_)
          refine ζp (Tryz.results184) rfl ?_;rw [Zb3,if_neg (by assumption),if_neg (by assumption),if_pos (by assumption)])
       · first
         |exact bN hb8
         | (
          refine nav ?_;(refine ζa ?_<;>refine xL 2 ζc ?_<;>refine ζd ?_)
          refine ζp (Tryz.results184) rfl ?_;rw [Zb3,if_neg (by assumption),if_neg (by assumption),if_neg (by assumption)])))
set_option maxHeartbeats 4000000 in
theorem Zyu : ∀t:Nd,okT t=true→∀(b:Nat) (p v V:Value) (bs:List UInt8),(p= .pointer none∨p=Zal b)→v.oneCell'=true→bs.length+100*szT t≤1000000000→AFh False Tryz.prog 129 [(0,Zal b, .val (Zal b)),(1,V,pTr t)] (ByH b p v bs) (fun _ _ h=>∃v',v'.oneCell'=true∧h=ByH b (Zal b) v' (bs++Zda t)):=Nd.ind fun o a l ih hok b p v V bs hpp hv hlen=>by
 obtain ⟨hr,hp⟩:=Zbt.1 hok
 have h40:=Zlx hr
 have hops:=ZcA hr
 have hsz:=Zhe (.mk o a l)
 simp only [Nd.l,Nd.act,Nd.op] at hp h40 hops hsz
 have e0:pTr (.mk o a l)= .agg [pInt o,Za3 a,Zce l]:=rfl
 rw [e0]
 have h41:(a.data.toList).length=a.size:=X3
 have hw4:=Znr o
 have hlz:=ZeL l
 unfold ByH
 refine AFh.of_body 42 Tryz.func129 rfl Tryz.ntmps129 (Xa rfl) rfl ?_
 intro w0 M0 N0
 refine nav ?_
 (refine ζa ?_<;>refine ζS 3 3 fun h3=>?_<;>refine ζd ?_)
 (refine ζa ?_<;>refine xL 6 (ζe 3 Zi8) ?_<;>(refine yL 7 (ζk 3 Zq6) fun v7 h=>?_;cases h)<;>refine ζd ?_)
 (refine ζa ?_<;>refine xL 9 ζY (xL 8 ζc ?_)<;>refine ζd ?_)
 (first|refine cCd ?_ ?_|refine cC ?_ ?_)<;>intro hb8
 · first
   |exact bN hb8
   | (
    refine nav ?_;(refine ζa ?_<;>refine xL 10 ζb (xL 11 (ζe 3 Zo0) ?_)<;>(refine yL 12 (ζk 3 Zyt) fun v12 h=>?_;cases h)<;>(refine ζ3 [(1000,Zb4 b,PV.own 172 2 1 [PV.val p,PV.val v]),(1001,v,PV.own 5 1 bs.length (bs.map ZaV))] ⟨rfl,rfl,trivial⟩ ?_;refine Zaa [] 13 (Tryz.call183) (ZeS b p v bs a hpp hv (by omega)) (fun v13 p13 h13 hR13=>?_);obtain ⟨w1,hw1,rfl⟩:=hR13;dsimp only [ByH])<;>refine ζd ?_)
    refine ZfX (ByH b (Zal b) w1 (bs++a.data.toList)) (Tryz.results129) ⟨rfl,rfl,trivial⟩ ⟨w1,hw1,?_⟩;rw [Zda,if_pos (by omega)];rfl)
 · first
   |exact bN hb8
   | (
    refine nav ?_;(refine ζa ?_<;>refine xL 15 ζY (xL 14 ζc ?_)<;>refine ζd ?_)
    (first|refine cCd ?_ ?_|refine cC ?_ ?_)<;>intro hb14
    · first
      |exact bN hb14
      | (
       refine nav ?_;(refine ζa ?_<;>refine xL 16 ζb ?_<;>(refine ζ3 [(1000,Zb4 b,PV.own 172 2 1 [PV.val p,PV.val v]),(1001,v,PV.own 5 1 bs.length (bs.map ZaV))] ⟨rfl,rfl,trivial⟩ ?_;refine Zaa [] 17 (Tryz.call183) (ZeS b p v bs ⟨#[40,41]⟩ hpp hv (by show bs.length+2≤_;omega)) (fun v17 p17 h17 hR17=>?_);obtain ⟨w1,hw1,rfl⟩:=hR17;dsimp only [ByH])<;>refine ζd ?_)
       refine ZfX (ByH b (Zal b) w1 (bs++[40,41])) (Tryz.results129) ⟨rfl,rfl,trivial⟩ ⟨w1,hw1,?_⟩;rw [Zda,if_neg (by omega),if_pos (by omega)];rfl)
    · first
      |exact bN hb14
      | (
       have ho2:¬o=1∧¬o=2:=⟨by omega,by omega⟩;have hj40:(⟨#[40]⟩:ByteArray).size=1:=rfl;have hw6:(Zb3 o).size≤4:=by
        have:(Zb3 o).data.toList.length=(Zb3 o).size:=X3;omega
       obtain ⟨B0,hB0⟩:∃B0,B0=bs++((Zb3 o).data.toList++[40]):=⟨_,rfl⟩;(have hB0l:B0.length≤bs.length+5:=by rw [hB0];simp only [Xd,Xc,Xs];omega);(have hwd:(Zb3 o++⟨#[40]⟩).data.toList=(Zb3 o).data.toList++[40]:=by rw [ByteArray.data_append,Array.toList_append]);have hws:(Zb3 o++⟨#[40]⟩).size≤5:=by
        have:(Zb3 o++⟨#[40]⟩).data.toList.length=(Zb3 o++⟨#[40]⟩).size:=X3;rw [←this,hwd,Xd];simp only [Xc,Xs];omega
       refine nav ?_;(refine ζa ?_<;>refine xL 18 ζb (xL 19 (ζe 3 Zi8) ?_)<;>(refine yL 20 (ζk 3 Zq6) fun v20 h=>?_;cases h)<;>(refine cS 21 (cA Tryz.call184 (ZvR o)) fun v21 h=>?_;cases h)<;>refine xL 22 ZDe ?_<;>(refine ζ3 [(1000,Zb4 b,PV.own 172 2 1 [PV.val p,PV.val v]),(1001,v,PV.own 5 1 bs.length (bs.map ZaV)),(3,_,_)] ⟨rfl,rfl,rfl,trivial⟩ ?_;refine Zaa [3] 23 (Tryz.call183) (ZeS b p v bs (Zb3 o++⟨#[40]⟩) hpp hv (by omega)) (fun v23 p23 h23 hR23=>?_);obtain ⟨w1,hw1,rfl⟩:=hR23;rw [hwd,←hB0];dsimp only [ByH])<;>refine ζd ?_)
       (refine ζa ?_<;>refine xL 24 (ζe 3 Zo1) ?_<;>(refine yL 25 (ζk 3 ZvL) fun v25 h=>?_;cases h)<;>refine xL 26 (ζ9 Znt) (xL 27 ζb ?_)<;>refine ζd ?_)
       refine ζC (ζI (l:=1001) rfl (show PV.own 5 1 B0.length (B0.map ZaV)= .own 5 1 (B0++ZcY (ZaJ (l.take 0))).length ((B0++ZcY (ZaJ (l.take 0))).map ZaV) by simp [ZaJ,ZcY])) fun _=>?_;refine ζD (ι:={q:Nat×Value//q.1≤l.length∧q.2.oneCell'=true}) (fun k=>⟨[(0,_,_),(25,_,_),(26,_,_),(27, .int .i64 k.1.1,pInt k.1.1)],[(1000,Zb4 b, .own 172 2 1 [PV.val (Zal b),PV.val k.1.2]),(1001,k.1.2, .own 5 1 (B0++ZcY (ZaJ (l.take k.1.1))).length ((B0++ZcY (ZaJ (l.take k.1.1))).map ZaV))]⟩) (fun k=>l.length-k.1.1) ⟨(0,w1),Xf _,hw1⟩ (fun a w H=>H.weaken ⟨rfl,rfl,rfl,rfl,trivial⟩ ⟨rfl,rfl,trivial⟩) ?_;rintro ⟨⟨k,u⟩,hk,hu⟩;dsimp only;dsimp only at hk hu;have htl:=ZvK hp k;refine nav ?_;(refine ζa ?_<;>refine xL 28 ζP ?_<;>refine ζd ?_)
       (first|refine cCd ?_ ?_|refine cC ?_ ?_)<;>intro hb28
       · first
         |exact bN hb28
         | (
          obtain ⟨x,hx⟩:=ζo (show k<l.length by omega);have e1:((ZaB l).drop (k*3)).take 3=[pInt x.op,Za3 x.act,Zce x.l]:=ζ4 hx;have e2:=Zak hx;have hxm:=Xg hx;have hxs:=Zea hxm;have hsn:=Zsb hx;have hsx:=ZBx hx;refine nav ?_;(refine ζa ?_<;>refine xL 29 ζb (xL 30 (ζW Znt) ?_)<;>(refine yL 31 (Zby ZcZ) fun v31 h=>?_;cases h)<;>refine ζs [(.int .i64 0),(.string ByteArray.empty),(.slice none 0 0)] 3 5 ZvM fun h5=>?_<;>refine xL 4 ζc ?_<;>refine ζt 5 ZcZ ?_<;>refine ζd ?_)
          (refine ζa ?_<;>refine xL 32 ζb (xL 33 ZaQ ?_)<;>refine ζd ?_)
          (first|refine cCd ?_ ?_|refine cC ?_ ?_)<;>intro hb33
          · first
            |exact bN hb33
            | (
             refine nav ?_;(refine ζa ?_<;>refine xL 34 ζb ?_<;>(refine ζ3 [(1000,Zb4 b,PV.own 172 2 1 [PV.val (Zal b),PV.val u]),(1001,u,PV.own 5 1 (B0++ZcY (ZaJ (l.take k))).length ((B0++ZcY (ZaJ (l.take k))).map ZaV)),(5,_,_)] ⟨rfl,rfl,rfl,trivial⟩ ?_;refine Zaa [5] 35 (Tryz.call183) (ZeS b (Zal b) u (B0++ZcY (ZaJ (l.take k))) ⟨#[44,32]⟩ (.inr rfl) hu (by rw [Xd];show _+2≤_;omega)) (fun v35 p35 h35 hR35=>?_);obtain ⟨w2,hw2,rfl⟩:=hR35;dsimp only [ByH])<;>refine ζd ?_)
             (refine ζa ?_<;>refine xL 36 ζb ?_<;>(refine yL 37 (ζm 5 ZcZ) fun v37 h=>?_;cases h)<;>(first|(refine ζ3 [(1000,Zb4 b,PV.own 172 2 1 [PV.val (Zal b),PV.val w2]),(1001,w2,PV.own 5 1 (B0++ZcY (ZaJ (l.take k))++[44,32]).length ((B0++ZcY (ZaJ (l.take k))++[44,32]).map ZaV))] ⟨rfl,rfl,trivial⟩ ?_;refine Zaa [] 38 (Tryz.call129) (ih x hxm (hp x hxm) b (Zal b) w2 _ (B0++ZcY (ZaJ (l.take k))++[44,32]) (.inr rfl) hw2 (by rw [Xd,Xd];simp only [Xc,Xs];omega)) (fun v38 p38 h38 hR38=>?_);obtain ⟨w3,hw3,rfl⟩:=hR38;rw [show B0++ZcY (ZaJ (l.take k))++[44,32]++Zda x=B0++ZcY (ZaJ (l.take (k+1))) by rw [hsn,if_neg (by omega)];simp only [Xw]];dsimp only [ByH])|(refine ζ3 [(1000,Zb4 b,PV.own 172 2 1 [PV.val (Zal b),PV.val u]),(1001,u,PV.own 5 1 (B0++ZcY (ZaJ (l.take k))).length ((B0++ZcY (ZaJ (l.take k))).map ZaV))] ⟨rfl,rfl,trivial⟩ ?_;refine Zaa [] 38 (Tryz.call129) (ih x hxm (hp x hxm) b (Zal b) u _ (B0++ZcY (ZaJ (l.take k))) (.inr rfl) hu (by rw [Xd];omega)) (fun v38 p38 h38 hR38=>?_);obtain ⟨w3,hw3,rfl⟩:=hR38;rw [show B0++ZcY (ZaJ (l.take k))++Zda x=B0++ZcY (ZaJ (l.take (k+1))) by rw [hsn,if_pos (by omega)];simp only [Xw,Vf]];dsimp only [ByH]))<;>refine ζd ?_)
             (refine ζa ?_<;>refine xL 39 ζM (xL 27 ζb ?_)<;>refine ζd ?_)
             refine ζh (
              ⟨(k+1,w3),ζi hx,hw3⟩
              ) (by dsimp only;omega) ⟨rfl,rfl,rfl,rfl,trivial⟩ ⟨rfl,rfl,trivial⟩)
          · first
            |exact bN hb33
            | (
             refine nav ?_;(refine ζa ?_<;>refine xL 36 ζb ?_<;>(refine yL 37 (ζm 5 ZcZ) fun v37 h=>?_;cases h)<;>(first|(refine ζ3 [(1000,Zb4 b,PV.own 172 2 1 [PV.val (Zal b),PV.val w2]),(1001,w2,PV.own 5 1 (B0++ZcY (ZaJ (l.take k))++[44,32]).length ((B0++ZcY (ZaJ (l.take k))++[44,32]).map ZaV))] ⟨rfl,rfl,trivial⟩ ?_;refine Zaa [] 38 (Tryz.call129) (ih x hxm (hp x hxm) b (Zal b) w2 _ (B0++ZcY (ZaJ (l.take k))++[44,32]) (.inr rfl) hw2 (by rw [Xd,Xd];simp only [Xc,Xs];omega)) (fun v38 p38 h38 hR38=>?_);obtain ⟨w3,hw3,rfl⟩:=hR38;rw [show B0++ZcY (ZaJ (l.take k))++[44,32]++Zda x=B0++ZcY (ZaJ (l.take (k+1))) by rw [hsn,if_neg (by omega)];simp only [Xw]];dsimp only [ByH])|(refine ζ3 [(1000,Zb4 b,PV.own 172 2 1 [PV.val (Zal b),PV.val u]),(1001,u,PV.own 5 1 (B0++ZcY (ZaJ (l.take k))).length ((B0++ZcY (ZaJ (l.take k))).map ZaV))] ⟨rfl,rfl,trivial⟩ ?_;refine Zaa [] 38 (Tryz.call129) (ih x hxm (hp x hxm) b (Zal b) u _ (B0++ZcY (ZaJ (l.take k))) (.inr rfl) hu (by rw [Xd];omega)) (fun v38 p38 h38 hR38=>?_);obtain ⟨w3,hw3,rfl⟩:=hR38;rw [show B0++ZcY (ZaJ (l.take k))++Zda x=B0++ZcY (ZaJ (l.take (k+1))) by rw [hsn,if_pos (by omega)];simp only [Xw,Vf]];dsimp only [ByH]))<;>refine ζd ?_)
             (refine ζa ?_<;>refine xL 39 ζM (xL 27 ζb ?_)<;>refine ζd ?_)
             refine ζh (
              ⟨(k+1,w3),ζi hx,hw3⟩
              ) (by dsimp only;omega) ⟨rfl,rfl,rfl,rfl,trivial⟩ ⟨rfl,rfl,trivial⟩))
       · first
         |exact bN hb28
         | (
          rw [Xn (show l.length≤k by omega)];rw [Xn (show l.length≤k by omega)] at htl;refine nav ?_;(refine ζa ?_<;>refine xL 40 ζb ?_<;>(refine ζ3 [(1000,Zb4 b,PV.own 172 2 1 [PV.val (Zal b),PV.val u]),(1001,u,PV.own 5 1 (B0++ZcY (ZaJ l)).length ((B0++ZcY (ZaJ l)).map ZaV))] ⟨rfl,rfl,trivial⟩ ?_;refine Zaa [] 41 (Tryz.call183) (ZeS b (Zal b) u (B0++ZcY (ZaJ l)) ⟨#[41]⟩ (.inr rfl) hu (by rw [Xd];show _+1≤_;omega)) (fun v41 p41 h41 hR41=>?_);obtain ⟨w4,hw4,rfl⟩:=hR41;dsimp only [ByH])<;>refine ζd ?_)
          refine ZbT (ByH b (Zal b) w4 (B0++ZcY (ZaJ l)++[41])) (Tryz.results129) ⟨rfl,rfl,trivial⟩ ⟨w4,hw4,?_⟩;have:bs++Zda (.mk o a l)=B0++ZcY (ZaJ l)++[41]:=by
           rw [Zda,if_neg ho2.1,if_neg ho2.2,hB0];simp only [Xw]
          rw [this];rfl)))
def Zyv (t:Nd):ByteArray×Int:=if Zen t=true then (if 16384<(Zda t).length then (ByteArray.empty,5) else (⟨(Zda t).toArray⟩,0)) else (ByteArray.empty,1)
theorem ZBz (t:Nd) (hf:FitT t):AF Tryz.prog 81 [pTr t] (· = .tup [Za3 (Zyv t).1,pInt (Zyv t).2]):=by
 refine AF.of_body 13 Tryz.func81 rfl Tryz.ntmps81 (Xa rfl) ?_
 intro w0 M0 vs hl hv
 obtain ⟨v0,rfl⟩:=ZcP hl
 clear hl hv
 have e0:pTr t= .agg [pInt t.op,Za3 t.act,Zce t.l]:=rfl
 rw [e0]
 refine nav ?_
 (refine ζa ?_<;>refine ζS 1 3 fun h1=>?_<;>refine xL 2 ζc (xL 3 ζc ?_)<;>refine ζd ?_)
 (refine ζa ?_<;>(refine yL 5 (ζm 1 ZcZ) fun v5 h=>?_;cases h)<;>(refine cS 6 (cA Tryz.call24 (Zgc t hf)) fun v6 h=>?_;cases h)<;>refine xL 7 Zaw ?_<;>refine ζd ?_)
 (first|refine cCd ?_ ?_|refine cC ?_ ?_)<;>intro hb7
 · first
   |exact bN hb7
   | (
    refine nav ?_;(refine ζa ?_<;>refine xL 2 ζc (xL 3 ζc ?_)<;>refine ζd ?_)
    refine Zcs (Tryz.results81) rfl rfl ?_;rw [show Zyv t=(ByteArray.empty,1) by unfold Zyv;rw [if_neg (by simpa using hb7)]];try rfl)
 · first
   |exact bN hb7
   | (
    (have hv:Zen t=true:=by simpa using hb7);have hok:=Zdh hv;have hsz:=Zf9 hv;have hne:=ZBw t hok;refine nav ?_;(refine ζa ?_<;>refine Zfd [.pointer none, .slice none 0 0] 2 4 Zsf fun b4=>?_<;>refine ζd ?_)
    refine ζC (Zek 1001 5 1 rfl) fun _=>?_;refine ζC (ζJ (l:=4) 1000 rfl rfl) fun _=>?_;(refine ζa ?_<;>(refine yL 8 (ζm 1 ZcZ) fun v8 h=>?_;cases h)<;>(refine ζ3 [(1000,Zb4 b4,PV.own 172 2 1 [PV.val (.pointer none),PV.val (.slice none 0 0)]),(1001, .slice none 0 0,PV.own 5 1 ([]:List UInt8).length (([]:List UInt8).map ZaV))] ⟨rfl,rfl,trivial⟩ ?_;refine Zaa [] 9 (Tryz.call129) (Zyu t hok b4 (.pointer none) (.slice none 0 0) _ [] (.inl rfl) rfl (by show 0+_≤_;omega)) (fun v9 p9 h9 hR9=>?_);obtain ⟨w1,hw1,rfl⟩:=hR9;rw [Vf];dsimp only [ByH])<;>refine ζd ?_)
    (refine ζa ?_<;>(refine Zaa [] 10 (Tryz.call130) (ZBy b4 (Zal b4) w1 (Zda t) hw1) ?_;rintro _ _ _ ⟨rfl,rfl,rfl⟩;dsimp only [ByH])<;>refine xL 11 ZaQ ?_<;>refine ζd ?_)
    (first|refine cCd ?_ ?_|refine cC ?_ ?_)<;>intro hb11
    · first
      |exact bN hb11
      | (
       refine nav ?_;(refine ζa ?_<;>refine xL 2 ζc (xL 3 ζc ?_)<;>refine ζd ?_)
       refine Zcs (Tryz.results81) rfl rfl ?_;rw [show Zyv t=(ByteArray.empty,5) by unfold Zyv;rw [if_pos hv,if_pos (by omega)]];try rfl)
    · first
      |exact bN hb11
      | (
       refine nav ?_;(refine ζa ?_<;>(refine Zaa [] 12 (Tryz.call131) (ZvQ b4 (Zal b4) w1 (Zda t) hne hw1) ?_;rintro _ _ _ ⟨rfl,rfl,rfl⟩)<;>refine xL 2 ζc (xL 3 ζc ?_)<;>refine ζd ?_)
       refine Zcs (Tryz.results81) rfl rfl ?_;rw [show Zyv t=(⟨(Zda t).toArray⟩,0) by unfold Zyv;rw [if_pos hv,if_neg (by omega)]];try rfl))
theorem Zko:ElT Tryz.prog 170 5 1 1 (.int .u8 0):=⟨Tryz.underlying170,by kernel_rfl,rfl,by decide⟩
theorem Zdo:FldT Tryz.prog 172 1 1=true:=by kernel_rfl
theorem Zhm:FldT Tryz.prog 297 0 0=true:=by kernel_rfl
theorem Zdp:FldT Tryz.prog 297 1 1=true:=by kernel_rfl
theorem Zfg:NoAgg Tryz.prog 170=true:=by kernel_rfl
theorem Zh4:NoAgg Tryz.prog 3=true:=by kernel_rfl
theorem Zq7:NoAgg Tryz.prog 9=true:=by kernel_rfl
theorem Zsg:SlT Tryz.prog 170 5 1=true:=by kernel_rfl
theorem Zsh:(Tryz.prog.info? 170).map (·.size)=some 1:=by kernel_rfl
theorem Zyw:(Tryz.prog.info? 3).map (·.size)=some 1:=by kernel_rfl
theorem Zsi:ZeroT Tryz.prog 172 (.agg #[(.pointer none),(.slice none 0 0)]):=by unfold ZeroT;kernel_rfl
theorem Zgo (b:Nat) (p v:Value) (bs:List UInt8) (s:UInt8) (hp:p= .pointer none∨p=Zal b) (hv:v.oneCell'=true) (hl:bs.length≤1000000000):AFh False Tryz.prog 285 [(0,Zal b, .val (Zal b)),(1, .int .u8 s.toNat,pU8 s.toNat)] (ByH b p v bs) (fun _ _ h=>∃v',v'.oneCell'=true∧h=ByH b (Zal b) v' (bs++[s])):=by
 have hone:En.one (PV.val v)=true:=hv
 have hbm:(bs.map ZaV).length=bs.length:=Xh ..
 unfold ByH
 refine AFh.of_body 17 Tryz.func285 rfl Tryz.ntmps285 (Xa rfl) rfl ?_
 intro w0 M0 N0
 refine nav ?_
 (refine ζa ?_<;>refine xL 4 ζc ?_<;>refine ζd ?_)
 (refine ζa ?_<;>refine xL 5 ζb ?_<;>(refine Zaa [1001] 6 (Tryz.call230) (Znu b p v hp hv) (fun v7 p7 h7 hR7=>?_);subst hR7)<;>refine ζd ?_)
 (refine ζa ?_<;>refine xL 7 ζb (xL 8 ζb (xL 9 (ζQ 1000) (xL 10 (ζe 1000 Zdo) ?_)))<;>(refine yL 11 (ζk 1000 Zfg) fun v11 h=>?_;cases h)<;>refine xL 12 ζb ?_<;>refine ζ6 (kk:=1) 13 Zko fun h13 ho13=>?_<;>(refine ZbH 1001 13 14 Zko fun h14 ho14=>?_;have hone14:En.one (PV.val h14)=true:=ho14)<;>refine xL 15 (ζQ 1000) (xL 16 (ζe 1000 Zdo) ?_)<;>refine Zb7 1000 Zfg Zsh ?_<;>refine ζd ?_)
 (refine ζa ?_<;>refine xL 4 ζc ?_<;>refine ζd ?_)
 refine Zcr (ζJ (l:=14) 1001 rfl rfl) fun _=>?_
 refine ZfE [(1000,Zb4 b, .own 172 2 1 [.val (Zal b), .val h14]),(1001,h14, .own 5 1 (bs.length+1) (bs.map ZaV++[ZaV s]))] (Tryz.results285) rfl ⟨rfl,rfl,trivial⟩ ⟨h14,ho14,?_⟩
 rw [Xd,XC]
 rfl
def ZsP (l:List UInt8):Bool:=l.all fun c=>decide (32≤c.toNat)&&decide (c.toNat≤126)
theorem ZBA {l:List UInt8} {k:Nat} {c:UInt8} (h:l[k]? =some c) (hc:(c.toNat:Int)<32∨126<(c.toNat:Int)):ZsP l=false:=by
 unfold ZsP
 rw [List.all_eq_false]
 refine ⟨c,Xg h,?_⟩
 simp only [Xe,decide_eq_true_eq]
 omega
theorem Zyx {l:List UInt8} (h:∀(j:Nat) (c:UInt8),l[j]? =some c→¬(c.toNat:Int)<32∧¬126<(c.toNat:Int)):ZsP l=true:=by
 unfold ZsP
 rw [Xy]
 intro c hc
 obtain ⟨j,hj⟩:=Vc hc
 have:=h j c hj
 simp only [Xe,decide_eq_true_eq]
 omega
theorem ZlM (l:List UInt8) (hl:l.length≤1000000):AF Tryz.prog 255 [pB l] (· =ζ7 (ZsP l)):=by
 have hsz:=Zao l
 refine AF.of_body 20 Tryz.func255 rfl Tryz.ntmps255 (Xa rfl) ?_
 intro w0 M0 vs hl hv
 obtain ⟨v0,rfl⟩:=ZcP hl
 obtain rfl:=hv 0 _ _ rfl rfl
 clear hl hv
 refine nav ?_
 (refine ζa ?_<;>refine xL 2 ζc ?_<;>refine ζd ?_)
 (refine ζa ?_<;>refine xL 4 ζb (xL 5 (Zbe Tryz.underlying9) (xL 6 ζb ?_))<;>refine ζd ?_)
 refine ζD (ι:={k:Nat//k≤l.length∧∀(j:Nat) (c:UInt8),j<k→l[j]? =some c→¬(c.toNat:Int)<32∧¬126<(c.toNat:Int)}) (fun k=>⟨[(0,_,_),(5,_,_),(6, .int .i64 k.1,pInt k.1)],[]⟩) (fun k=>l.length-k.1) ⟨0,Xf _,fun j d hj=>absurd hj (Nat.not_lt_zero _)⟩ (fun a w H=>H.weaken ⟨rfl,rfl,rfl,trivial⟩ trivial) ?_
 rintro ⟨k,hk,hp⟩
 dsimp only
 try dsimp only at hk hp
 refine nav ?_
 (refine ζa ?_<;>refine xL 7 ζP ?_<;>refine ζd ?_)
 (first|refine cCd ?_ ?_|refine cC ?_ ?_)<;>intro hb7
 · first
   |exact bN hb7
   | (
    obtain ⟨c,hcx⟩:=Zeg (show k<l.length by omega);have hcy:=ZvB hcx;refine nav ?_;(refine ζa ?_<;>refine xL 8 ζb (xL 3 ζc ?_)<;>refine ζd ?_)
    (refine ζa ?_<;>refine xL 9 ζb (xL 10 ζb (xL 11 (Zbh Tryz.underlying9) (xL 12 ζP (xL 13 ζb ?_))))<;>(refine bLd 13 (fun hb13=>?_) (fun hb13=>?_)<;>(first|refine kL 14 ?_|refine xL 14 ζb ?_))<;>(first|refine kL 15 ?_|refine xL 15 ζb ?_)<;>(first|refine kL 16 ?_|refine kL 16 ?_|refine xL 16 (Zbh Tryz.underlying9) ?_)<;>(first|refine kL 17 ?_|refine xL 17 ZaQ ?_)<;>refine xL 18 ζv ?_<;>refine ζd ?_)<;>(
     (first|refine cCd ?_ ?_|refine cC ?_ ?_)<;>intro hb18
     · first
       |exact bN hb18
       | (
        refine nav ?_;(refine ζa ?_<;>refine xL 2 ζc ?_<;>refine ζd ?_)
        refine ζp (Tryz.results255) rfl ?_;rw [ZBA hcx (by omega)])
     · first
       |exact bN hb18
       | (
        refine nav ?_;(refine ζa ?_<;>refine xL 19 ζM (xL 6 ζb ?_)<;>refine ζd ?_)
        refine ζh (
         ⟨k +1,by omega,fun j d hj hd=>by
          rcases Xq j k with h|h
          · exact hp j d h hd
          · (obtain rfl:j=k:=by omega);rw [hcx] at hd;cases hd;omega⟩
         ) (by dsimp only;omega) ⟨rfl,rfl,rfl,trivial⟩ trivial)))
 · first
   |exact bN hb7
   | (
    refine nav ?_;(refine ζa ?_<;>refine xL 2 ζc ?_<;>refine ζd ?_)
    refine ζp (Tryz.results255) rfl ?_;rw [Zyx fun j d hd=>hp j d (by have:=ζi hd;omega) hd])
def NrH (b:Nat) (l:List UInt8) (i:Nat):List (Nat×Ent):=[(1002,Zb4 b, .own 297 2 1 [pB l,pInt i])]
theorem ZlN (b:Nat) (l:List UInt8) (i:Nat) (hl:l.length≤1000000):AFh False Tryz.prog 257 [(0,Zal b, .val (Zal b))] (NrH b l i) (fun u q h=>u= .bool (decide (i<l.length))∧q=ζ7 (decide (i<l.length))∧h=NrH b l i):=by
 have hsz:=Zao l
 unfold NrH
 refine AFh.of_body 13 Tryz.func257 rfl Tryz.ntmps257 (Xa rfl) rfl ?_
 intro w0 M0 N0
 refine nav ?_
 (refine ζa ?_<;>refine xL 2 ζc ?_<;>refine ζd ?_)
 (refine ζV (fun i=>([]:List Nat).elem i) [1002] kR ?_<;>refine xD 0 3 rfl ζb ?_<;>refine xD 1 4 rfl (ζQ 1002) ?_<;>refine xD 2 5 rfl (ζe 1002 Zdp) ?_<;>(refine yD 3 6 rfl (ζk 1002 Zh4) fun v6 h=>?_;cases h)<;>refine xE 4 7 rfl ζb ?_<;>refine xE 5 8 rfl (ζQ 1002) ?_<;>refine xE 6 9 rfl (ζe 1002 Zhm) ?_<;>(refine yE 7 10 rfl (ζk 1002 Zq7) fun v10 h=>?_;cases h)<;>refine xE 8 11 rfl (Zbe Tryz.underlying9) ?_<;>refine xE 9 12 rfl ζP ?_<;>refine xE 10 2 rfl ζc ?_<;>refine Zae kR (nav ?_)<;>try dsimp only)
 have e:decide ((i:Int)<((bst l).size:Int))=decide (i<l.length):=by rw [hsz];exact decide_eq_decide.2 (by omega)
 exact ZfE (NrH b l i) (Tryz.results257) rfl ⟨rfl,trivial⟩ ⟨congrArg Value.bool e,congrArg ζ7 e,rfl⟩
theorem Zq8 (b:Nat) (l:List UInt8) (i:Nat) (c:UInt8) (hl:l.length≤1000000) (hc:l[i]? =some c):AFh False Tryz.prog 284 [(0,Zal b, .val (Zal b))] (NrH b l i) (fun u q h=>u= .int .u8 c.toNat∧q=pU8 c.toNat∧h=NrH b l (i+1)):=by
 have hi:=ζi hc
 have hcy:(bst l).data[((i:Int)+1-1).toNat]? =some c:=by
  rw [show ((i:Int)+1-1).toNat=i by omega,ZfN];exact hc
 unfold NrH
 refine AFh.of_body 20 Tryz.func284 rfl Tryz.ntmps284 (Xa rfl) rfl ?_
 intro w0 M0 N0
 refine nav ?_
 (refine ζa ?_<;>refine xL 2 ζc ?_<;>refine ζd ?_)
 (refine ζa ?_<;>refine xL 3 ζb (xL 4 (ζQ 1002) (xL 5 (ζe 1002 Zdp) ?_))<;>(refine yL 6 (ζk 1002 Zh4) fun v6 h=>?_;cases h)<;>refine xL 7 ζM (xL 8 (ζQ 1002) (xL 9 (ζe 1002 Zdp) ?_))<;>refine Zb7 1002 Zh4 Zyw ?_<;>refine ζd ?_)
 (refine ζV (fun i=>([]:List Nat).elem i) [1002] kR ?_<;>refine xD 0 10 rfl ζb ?_<;>refine xD 1 11 rfl (ζQ 1002) ?_<;>refine xD 2 12 rfl (ζe 1002 Zhm) ?_<;>(refine yD 3 13 rfl (ζk 1002 Zq7) fun v13 h=>?_;cases h)<;>refine xE 4 14 rfl ζb ?_<;>refine xE 5 15 rfl (ζQ 1002) ?_<;>refine xE 6 16 rfl (ζe 1002 Zdp) ?_<;>(refine yE 7 17 rfl (ζk 1002 Zh4) fun v17 h=>?_;cases h)<;>refine xE 8 18 rfl ZgB ?_<;>refine xE 9 19 rfl (Zbh Tryz.underlying9 rfl rfl rfl (by omega) hcy) ?_<;>refine xE 10 2 rfl ζc ?_<;>refine Zae kR (nav ?_)<;>try dsimp only)
 exact ZfE (NrH b l (i+1)) (Tryz.results284) rfl ⟨rfl,trivial⟩ ⟨rfl,rfl,rfl⟩
theorem ZDh {P:Program} {st:St} {o:Oper} {x:Operand} {q:PV} {ats:Array TypeId} (ho:o.op= .call {callee:= .builtin .unsafeSliceData,args:= #[x],argTypes:=ats}:=by exact rfl) (hx:ev st.slots x=some (.slice none 0 0,q):=by exact rfl):YE P st o (· = .pointer none) (.val (.pointer none)):=
 .exact fun M F a w H=>by
  have hv:=(H.ev hx).1;refine ⟨.val _,?_⟩;have:=Lib.run_unsafeSliceData_nil (P:=P) w ats o.type 0 0;simp [execOp,ho,resolve,invoke,builtin,hv,this]
theorem ZBB {P:Program} {st:St} {o:Oper} {x y:Operand} {q q':PV} {pt it:TypeId} (ho:o.op= .call {callee:= .builtin .unsafeString,args:= #[x,y],argTypes:= #[pt,it]}:=by exact rfl) (hx:ev st.slots x=some (.pointer none,q):=by exact rfl) (hy:ev st.slots y=some (.int .i64 0,q'):=by exact rfl):YE P st o (· = .string .empty) (.val (.string .empty)):=
 y2 hx hy fun ρ w h3 h4=>by
  have:=Lib.run_unsafeString_none (P:=P) w pt it o.type none;simp [execOp,ho,resolve,invoke,builtin,h3,h4,this]
theorem ZBC (b:Nat) (p:Value):AFh False Tryz.prog 131 [(0,Zal b, .val (Zal b))] (ByH b p (.slice none 0 0) []) (fun u q h=>u= .string ⟨#[]⟩∧q= .val u∧h=[]):=by
 unfold ByH
 refine AFh.of_body 14 Tryz.func131 rfl Tryz.ntmps131 (Xa rfl) rfl ?_
 intro w0 M0 N0
 refine nav ?_
 (refine ζa ?_<;>refine xL 2 ζc ?_<;>refine ζd ?_)
 (refine ζV (fun i=>([]:List Nat).elem i) [1000,1001] kR ?_<;>refine xD 0 3 rfl ζb ?_<;>refine xD 1 4 rfl (ζQ 1000) ?_<;>refine xD 2 5 rfl (ζe 1000 Zdo) ?_<;>(refine yD 3 6 rfl (ζk 1000 Zfg) fun v6 h=>?_;cases h)<;>refine xD 4 7 rfl ZDh ?_<;>refine xE 5 8 rfl ζb ?_<;>refine xE 6 9 rfl (ζQ 1000) ?_<;>refine xE 7 10 rfl (ζe 1000 Zdo) ?_<;>(refine yE 8 11 rfl (ζk 1000 Zfg) fun v11 h=>?_;cases h)<;>refine xE 9 12 rfl (ZwK (e:=5) (k:=1) Zsg) ?_<;>(refine ζj 10 kR ?_)<;>(refine ζg rfl fun w9 M9 N9 DQ back=>?_)<;>refine xL 13 ZBB ?_<;>refine ζf (back _ (nrm ?_))<;>refine xE 11 2 rfl ζc ?_<;>refine Zae kR (nav ?_)<;>try dsimp only)
 exact ZfE [] (Tryz.results131) rfl trivial ⟨rfl,rfl,rfl⟩
theorem AFh.imp {dd:Prop} {P:Program} {f:FuncId} {ar h:List (Nat×Ent)} {R R':Value→PV→List (Nat×Ent)→Prop} (H:AFh dd P f ar h R) (h1:∀v p h,R v p h→R' v p h):AFh dd P f ar h R':=fun M N w F HF hv=>(H M N w F HF hv).mono fun _ _ ⟨v',p,h',F',h3,h4,h5,h6⟩=>⟨v',p,h',F',h3,h1 _ _ _ h4,h5,h6⟩
def ByI (p v:Value) (b:Nat) (bs:List UInt8):Prop:=(p= .pointer none∨p=Zal b)∧v.oneCell'=true∧(bs=[]→v= .slice none 0 0)
theorem ZBD (b:Nat) (p v:Value) (bs:List UInt8) (h:ByI p v b bs):AFh False Tryz.prog 131 [(0,Zal b, .val (Zal b))] (ByH b p v bs) (fun u q h=>u= .string (bst bs)∧q=pB bs∧h=[]):=by
 by_cases h0:bs=[]
 · obtain rfl:=h.2.2 h0;subst h0;exact AFh.imp (ZBC b p) fun u q h ⟨h1,h2,h3⟩=>⟨h1,by rw [h2,h1];rfl,h3⟩
 · exact AFh.imp (ZvQ b p v bs h0 h.2.1) fun u q h ⟨h1,h2,h3⟩=>⟨h1,by rw [h2,h1];rfl,h3⟩
theorem Zo2 (b : Nat) (m:List UInt8) (n:Nat) (t:List UInt8) (hl:m.length≤100000) (hok:ZbG m= .ok n t):AFh False Tryz.prog 256 [(0,Zal b, .val (Zal b))] (NrH b (34::m) 1) (fun u q h=>u= .tuple #[.string (bst t), .int .i64 0]∧q= .tup [pB t,pInt 0]∧h=NrH b (34::m) (1+n)):=by
 have hlen:(34::m).length=m.length+1:=rfl
 unfold NrH
 refine AFh.of_body 35 Tryz.func256 rfl Tryz.ntmps256 (Xa rfl) rfl ?_
 intro w0 M0 N0
 refine nav ?_
 (refine ζa ?_<;>refine xL 2 ζc (xL 3 ζc ?_)<;>refine ζd ?_)
 (refine ζa ?_<;>refine Zfd [.pointer none, .slice none 0 0] 2 4 Zsi fun b4=>?_<;>refine ζd ?_)
 refine ζC (Zek 1001 5 1 rfl) fun _=>?_
 refine ζC (ζJ (l:=4) 1000 rfl rfl) fun _=>?_
 refine ζD (ι:={q:Nat×(Value×Value)×List UInt8//q.1≤m.length∧ZbG m=ZlI q.1 q.2.2 (ZbG (m.drop q.1))∧ByI q.2.1.1 q.2.1.2 b4 q.2.2∧q.2.2.length≤q.1}) (fun k=>⟨[(0,_,_),(4,_,_)],[(1002,Zb4 b, .own 297 2 1 [pB (34::m),pInt ((1+k.1.1:Nat):Int)]),(1000,Zb4 b4, .own 172 2 1 [.val k.1.2.1.1, .val k.1.2.1.2]),(1001,k.1.2.1.2, .own 5 1 k.1.2.2.length (k.1.2.2.map ZaV))]⟩) (fun k=>m.length-k.1.1) ⟨(0,(.pointer none, .slice none 0 0),[]),Xf _,by rw [Vv];cases ZbG m<;>rfl,⟨.inl rfl,rfl,fun _=>rfl⟩,Xb _⟩ (fun a w H=>H.weaken ⟨rfl,rfl,trivial⟩ ⟨rfl,rfl,rfl,trivial⟩) ?_
 rintro ⟨⟨k,⟨bp,bv⟩,pre⟩,hk,hp,hby,hpl⟩
 dsimp only
 dsimp only at hk hp hby hpl;have hone:En.one (PV.val bv)=true:=hby.2.1
 refine nav ?_
 (refine ζa ?_<;>refine xL 6 ζb ?_<;>(refine Zaa [1000,1001] 7 (Tryz.call257) (ZlN b (34::m) (1+k) (by omega)) ?_;rintro _ _ _ ⟨rfl,rfl,rfl⟩;dsimp only [NrH])<;>refine ζd ?_)
 (first|refine cCd ?_ ?_|refine cC ?_ ?_)<;>intro hb7
 · first
   |exact bN hb7
   | (
    (have hb7':1+k<m.length+1:=by simpa using hb7);obtain ⟨c,hc⟩:=Zeg (l:=m) (i:=k) (by omega);(have hcx:(34::m)[1+k]? =some c:=by rw [show 1+k=k+1 by omega];exact hc);have hd:=Zgn hc;rw [hd] at hp;refine nav ?_;(refine ζa ?_<;>refine xL 8 ζb ?_<;>(refine Zaa [1000,1001] 9 (Tryz.call284) (Zq8 b (34::m) (1+k) c (by omega) hcx) ?_;rintro _ _ _ ⟨rfl,rfl,rfl⟩;dsimp only [NrH])<;>refine xL 5 ζc ?_<;>refine ζd ?_)
    (refine ζa ?_<;>refine xL 11 ζb (xL 12 ζY (xL 10 ζc ?_))<;>refine ζd ?_)
    (first|refine cCd ?_ ?_|refine cC ?_ ?_)<;>intro hb10
    · first
      |exact bN hb10
      | (
       refine nav ?_;(refine ζa ?_<;>(refine Zaa [1002] 13 (Tryz.call131) (ZBD b4 bp bv pre hby) ?_;rintro _ _ _ ⟨rfl,rfl,rfl⟩)<;>refine xL 2 ζc (xL 3 ζc ?_)<;>refine ζd ?_)
       have he:=ZoX (m:=m.drop (k+1)) hb10;rw [he,hok] at hp;simp only [ZlI,XA,Lt.ok.injEq] at hp;obtain ⟨rfl,rfl⟩:=hp;refine ZvN [(1002,Zb4 b, .own 297 2 1 [pB (34::m),pInt ((1+k+1:Nat):Int)])] (Tryz.results256) rfl rfl ⟨rfl,trivial⟩ ⟨rfl,rfl,?_⟩;rw [show 1+(1+k)=1+k+1 by omega])
    · first
      |exact bN hb10
      | (
       have hpr:¬((c.toNat:Int)<32∨126<(c.toNat:Int)):=fun h=>by
        rw [ZvJ hb10 h,hok] at hp;cases hp
       refine nav ?_;(refine ζa ?_ <;>refine xL 15 ζb (xL 16 ζY (xL 17 ζb ?_))<;>(refine bLd 17 (fun hb17=>?_) (fun hb17=>?_)<;>(first|refine kL 18 ?_|refine xL 18 ζb ?_))<;>(first|refine kL 19 ?_|refine kL 19 ?_|(refine Zaa [1000,1001] 19 (Tryz.call257) (ZlN b (34::m) (1+k+1) (by omega)) ?_;rintro _ _ _ ⟨rfl,rfl,rfl⟩;dsimp only [NrH]))<;>(first|refine kL 20 ?_|refine xL 20 Zaw ?_)<;>refine xL 21 ζv (xL 14 ζc ?_)<;>refine ζd ?_)<;>(
        (first|refine cCd ?_ ?_|refine cC ?_ ?_)<;>intro hb14
        · first
          |exact bN hb14
          | (
           refine nav ?_;(refine ζa ?_<;>refine xL 2 ζc (xL 3 ζc ?_)<;>refine ζd ?_)
           exfalso;simp only [Bool.not_eq_true',decide_eq_false_iff_not] at*;rw [Zbl (show m.length≤k+1 by omega),ZlJ (by omega),hok] at hp
           cases hp)
        · first
          |exact bN hb14
          | (
           refine nav ?_;(refine ζa ?_<;>refine xL 23 ζb (xL 24 ζY (xL 22 ζc ?_))<;>refine ζd ?_)
           (first|refine cCd ?_ ?_|refine cC ?_ ?_)<;>intro hb22
           · first
             |exact bN hb22
             | (
              have hk1:k+1<m.length:=by
               rcases Xq (k+1) m.length with h|h
               · exact h
               · rw [Zbl h,ZlJ hb22,hok] at hp;cases hp
              obtain ⟨d,hdc⟩:=Zeg hk1;(have hdx:(34::m)[1+k+1]? =some d:=by rw [show 1+k+1=k+1+1 by omega];exact hdc);have hd2:=Zgn hdc;rw [hd2] at hp;refine nav ?_;(refine ζa ?_<;>refine xL 25 ζb ?_<;>(refine Zaa [1000,1001] 26 (Tryz.call284) (Zq8 b (34::m) (1+k+1) d (by omega) hdx) ?_;rintro _ _ _ ⟨rfl,rfl,rfl⟩;dsimp only [NrH])<;>refine xL 5 ζc ?_<;>refine ζd ?_)
              (refine ζa ?_<;>refine xL 27 ζb (xL 28 ZaN (xL 29 ζb ?_))<;>(refine bLd 29 (fun hb29=>?_) (fun hb29=>?_)<;>(first|refine kL 30 ?_|refine xL 30 ζb ?_))<;>(first|refine kL 31 ?_|refine xL 31 ZaN ?_)<;>refine xL 32 ζv ?_<;>refine ζd ?_)<;>(
               (first|refine cCd ?_ ?_|refine cC ?_ ?_)<;>intro hb32
               · first
                 |exact bN hb32
                 | (
                  refine nav ?_;(refine ζa ?_<;>refine xL 2 ζc (xL 3 ζc ?_)<;>refine ζd ?_)
                  exfalso;rw [Zq5 hb22 (by omega) (by omega),hok] at hp
                  cases hp)
               · first
                 |exact bN hb32
                 | (
                  rw [ZoY hb22 (by omega),Zgm] at hp;refine nav ?_;(refine ζa ?_<;>refine xL 33 ζb ?_<;>(first|(refine Zaa [1002] 34 (Tryz.call285) (Zgo b4 bp bv pre d hby.1 hby.2.1 (by omega)) (fun v34 p34 h34 hR34=>?_);obtain ⟨w2,hw2,rfl⟩:=hR34;dsimp only [ByH])|(refine Zaa [1002] 34 (Tryz.call285) (Zgo b4 bp bv pre c hby.1 hby.2.1 (by omega)) (fun v34 p34 h34 hR34=>?_);obtain ⟨w2,hw2,rfl⟩:=hR34;dsimp only [ByH]))<;>refine ζd ?_)
                  first
                   | (exact ζh (
                       ⟨(k+2,(Zal b4,w2),pre++[d]),by dsimp only;omega,hp,⟨.inr rfl,hw2,fun h=>by simp at h⟩,by simp only [Xd,Xc,Xs];omega⟩
                       ) (by dsimp only;omega) ⟨rfl,rfl,trivial⟩ ⟨rfl,rfl,rfl,trivial⟩)
                   | (exact ζh (
                       ⟨(k+1,(Zal b4,w2),pre++[c]),by dsimp only;omega,hp,⟨.inr rfl,hw2,fun h=>by simp at h⟩,by simp only [Xd,Xc,Xs];omega⟩
                       ) (by dsimp only;omega) ⟨rfl,rfl,trivial⟩ ⟨rfl,rfl,rfl,trivial⟩))))
           · first
             |exact bN hb22
             | (
              rw [Zi7 hb10 (by omega) (by omega) hb22,Zgm] at hp;refine nav ?_;(refine ζa ?_<;>refine xL 33 ζb ?_<;>(first|(refine Zaa [1002] 34 (Tryz.call285) (Zgo b4 bp bv pre d hby.1 hby.2.1 (by omega)) (fun v34 p34 h34 hR34=>?_);obtain ⟨w2,hw2,rfl⟩:=hR34;dsimp only [ByH])|(refine Zaa [1002] 34 (Tryz.call285) (Zgo b4 bp bv pre c hby.1 hby.2.1 (by omega)) (fun v34 p34 h34 hR34=>?_);obtain ⟨w2,hw2,rfl⟩:=hR34;dsimp only [ByH]))<;>refine ζd ?_)
              first
               | (exact ζh (
                   ⟨(k+2,(Zal b4,w2),pre++[d]),by dsimp only;omega,hp,⟨.inr rfl,hw2,fun h=>by simp at h⟩,by simp only [Xd,Xc,Xs];omega⟩
                   ) (by dsimp only;omega) ⟨rfl,rfl,trivial⟩ ⟨rfl,rfl,rfl,trivial⟩)
               | (exact ζh (
                   ⟨(k+1,(Zal b4,w2),pre++[c]),by dsimp only;omega,hp,⟨.inr rfl,hw2,fun h=>by simp at h⟩,by simp only [Xd,Xc,Xs];omega⟩
                   ) (by dsimp only;omega) ⟨rfl,rfl,trivial⟩ ⟨rfl,rfl,rfl,trivial⟩))))))
 · first
   |exact bN hb7
   | (
    refine nav ?_;(refine ζa ?_<;>refine xL 2 ζc (xL 3 ζc ?_)<;>refine ζd ?_)
    exfalso;(have hb7':¬1+k<m.length+1:=by simpa using hb7);rw [Zbl (by omega),hok] at hp
    cases hp)
end Go.Proofs.YtgfabnhpllkebaaGreatDoor
namespace Go.En
open Go.RowKit Go.Cb
set_option linter.all false
section
variable {P:Program} {c:Ctx} {ops:Array Oper} {Q:Exit→Act→World→Prop} {rest:List Oper} {sL hP:List (Nat×Ent)} {o:Oper}
theorem Zo3 {t:TypeId} {x:Operand} {v:Value} {ps:List PV} (d:Nat) (m:Nat) (k:∀b:Nat,aL P c ops Q rest ⟨put d (Zal b, .val (Zal b)) sL,put d (Zb4 b, .own t m 1 ps) hP⟩) (hw:ζ2 ops sL o=some true:=by exact rfl) (hd:o.dst=some d:=by exact rfl) (hn:d<c.nt:=by exact Xa rfl) (ho:o.op= .box t x:=by exact rfl) (hx:ev sL x=some (v, .agg ps):=by exact rfl) (hm:ps.length=m:=by exact rfl) (hl:lk hP d=none:=by exact rfl):aL P c ops Q (o::rest) (⟨sL,hP⟩:St):=
 Zav hw fun a w F H=>by
  obtain ⟨hv,hS⟩:=H.rd.ev hx
  cases hS with
  | agg vs ps hlen hT=>
    obtain ⟨F',H'⟩:=ZaO (e:=t) (k:=m) (n:=1) (cap:=1) (cur:=vs.toArray) (v:= .pointer (some ⟨w.heap.size,0,none⟩)) H hl hn (vs:=vs) (ps:=ps) hlen hT (by omega) (Xb _) (by unfold maxLen;omega) (by simp;omega) (Xn (by simp;omega));unfold Oper.wp execOp;simp [ho,hv,Instr.box,newVar,newRow,newObj,Sem.run,Value.cells,hd,Oper.upon];exact k w.heap.size _ _ ⟨F',H'⟩
end
section
variable {P:Program} {st:St} {o:Oper} {x y:Operand} {q q':PV} {t t':TypeId}
theorem ZvS (hu:P.underlying t=some (.interface (P.methodsAt t))) (ho:o.op= .binOp .neq t x (.const .nilIface) t':=by exact rfl) (hx:ev st.slots x=some (.nilIface,q):=by exact rfl):YE P st o (· = .bool false) (.val (.bool false)):=
 y2 hx (show ev st.slots (.const .nilIface)=some (.nilIface, .val .nilIface) from rfl) fun ρ w h3 h4=>by
  have:=run_neq_nil_nil w t hu;simp [execOp,ho,h3,h4,eqGuard_nil_constR,this]
theorem Zq9 {u:TypeId} {v:Value} (hu:P.underlying t=some (.interface (P.methodsAt t))) (ho:o.op= .binOp .neq t x y t':=by exact rfl) (hx:ev st.slots x=some (.iface u v,q):=by exact rfl) (hy:ev st.slots y=some (.nilIface,q'):=by exact rfl):YE P st o (· = .bool true) (.val (.bool true)):=
 y2 hx hy fun ρ w h3 h4=>by
  have:=run_neq_held_nil w t u v hu;simp only [execOp,ho,h3,h4]
  cases y<;>simp [eqGuard,this]
theorem AF.of_same {f:FuncId} {us:List Value} {v:Value} (h:∀w,Calls P f us.toArray w fun e w'=>e= .returned v∧w'=w):AF P f (us.map .val) (· = .val v):=fun M w vs hM hl hv=>by
 have hvs:vs=us:=by
  rw [Xh] at hl;refine Vb fun i=>?_
  cases h1:vs[i]? with
  | none=>
    have:=V6.1 h1;rw [XI (by omega)]
  | some a=>
    have hi:=ζi h1;have h2:us[i]? =some (us[i]'(by omega)):=XE (by omega);have h3:=hv i a (.val (us[i]'(by omega))) h1 (by rw [Xl,h2];rfl);rw [h2]
    cases h3;rfl
 subst hvs
 refine (h w).mono fun e w' ⟨h1,h2⟩=>?_
 subst h1 h2
 exact ⟨v, .val v,fun _=>False,rfl,rfl,Ext.rfl' _, .shr (.val _) (fun _ h=>h),fun _ h=>h.elim,fun h=>h.elim⟩
end
inductive ResR (P:Program) (sL hP:List (Nat×Ent)):ResultVar→PV→Prop
 |tmp {t:Nat} {v:Value} {p:PV} (ht:lk sL t=some (v,p)):ResR P sL hP (.tmp t) p
 |cell {t ty k e k' n:Nat} {h:Value} {q:PV} {cs:List PV} (l:Nat) (hT:AggT P ty k=true) (ht:lk sL t=some (padd (sbase h) 0,q)) (hl:lk hP l=some (h, .own e k' n cs)) (hp:k≤cs.length) (hk:0<k) (hsh:(cs.take k).all isSh=true):ResR P sL hP (.cell t ty) (.agg (cs.take k))
 |cell1 {t ty e k' n:Nat} {h:Value} {q p:PV} {cs:List PV} (l:Nat) (hT:NoAgg P ty=true) (ht:lk sL t=some (padd (sbase h) 0,q)) (hl:lk hP l=some (h, .own e k' n cs)) (hp:cs[0]? =some p) (hsh:isSh p=true):ResR P sL hP (.cell t ty) p
def ZzG (tmps:Array Value):ResultVar→Sem Value
 | .tmp t=>pure (tmps.getD t undef)
 | .cell a t=>do loadVar t (←asAddr (tmps.getD a undef))
section
variable {P:Program} {c:Ctx} {sL hP:List (Nat×Ent)}
theorem ZvT {F:Nat→BS} {a:Act} {w:World} (H:HoldsF c (⟨sL,hP⟩:St) F a w) {t ty l e k' n:Nat} {h:Value} {q p:PV} {cs:List PV} (hT:NoAgg P ty=true) (ht:lk sL t=some (padd (sbase h) 0,q)) (hl:lk hP l=some (h, .own e k' n cs)) (hp:cs[0]? =some p) (hsh:isSh p=true):
 ∃V A,(asAddr (a.tmps.getD t undef)).run P w= .ok A w∧(loadVar ty A).run P w= .ok V w∧Shr (mof c hP F) w V p:=by
 have hv:=(H.sl t _ _ ht).1
 obtain ⟨xs,Fs,hrow,hlen,hTr,hd,hb,hF'⟩:=(H.tr l _ _ hl).row
 have hj:=ζi hp
 rcases ZaD hrow with ⟨_,_,rfl⟩|⟨g,cap,rfl,h1,h2,h3⟩
 · simp at hlen;rw [hlen] at hj;simp at hj
 obtain ⟨y,hy⟩:=Zai hp hlen
 have hS:=(hTr 0 y p hy hp).sh hsh
 refine ⟨y,⟨g,0,none⟩,?_,?_,hS⟩
 · simp only [sbase,padd,Xx] at hv;simp [X0,hv,asAddr]
 · have:=Zbu hrow hy;simp [loadVar,NoAgg.run hT,load,Sem.run,this]
theorem ResR.run {r:ResultVar} {p:PV} {F:Nat→BS} {a:Act} {w:World} (hr:ResR P sL hP r p) (H:HoldsF c (⟨sL,hP⟩:St) F a w):∃V,(ZzG a.tmps r).run P w= .ok V w∧Shr (mof c hP F) w V p:=by
 cases hr with
 | tmp ht=>
   obtain ⟨h1,h2⟩:=H.sl _ _ _ ht;exact ⟨_,by simp [ZzG,X0,h1],h2⟩
 | cell l hT ht hl hp hk hsh=>
   obtain ⟨V,A,h0,h1,h2⟩:=ZfW H hT ht hl hp hk hsh;exact ⟨V,by simp only [X0] at h0;simp [ZzG,h0,h1],h2⟩
 | cell1 l hT ht hl hp hsh=>
   obtain ⟨V,A,h0,h1,h2⟩:=ZvT H hT ht hl hp hsh;exact ⟨V,by simp only [X0] at h0;simp [ZzG,h0,h1],h2⟩
theorem Zsj (fn:Func) (tmps:Array Value):results fn tmps=(do let vs ←fn.results.mapM (ZzG tmps);pure (if h:vs.size=1 then vs[0] else Value.tuple vs)):=by
 unfold results
 congr 1
theorem ZlO {fn:Func} {r0 r1 r2:ResultVar} {tmps:Array Value} {w:World} {V0 V1 V2:Value} (hr:fn.results= #[r0,r1,r2]) (h0:(ZzG tmps r0).run P w= .ok V0 w) (h1:(ZzG tmps r1).run P w= .ok V1 w) (h2:(ZzG tmps r2).run P w= .ok V2 w):(results fn tmps).run P w= .ok (.tuple #[V0,V1,V2]) w:=by
 rw [Zsj,hr]
 simp [h0,h1,h2]
theorem ZD3 {M:BS} {w:World} {V0 V1 V2:Value} {p0 p1 p2:PV} (h0:Shr M w V0 p0) (h1:Shr M w V1 p1) (h2:Shr M w V2 p2):Shr M w (.tuple #[V0,V1,V2]) (.tup [p0,p1,p2]):= .tup [V0,V1,V2] _ rfl fun i v q hv hq=>by
 match i with
 |0=>cases hv;cases hq;exact h0
 |1=>cases hv;cases hq;exact h1
 |2=>cases hv;cases hq;exact h2
 |i+3=>simp at hv
theorem ZBE {F:Nat→BS} {H':List (Nat×Ent)} (hsub:Sub H' hP) (b:Nat) (hb:mof c H' F b):mof c hP F b:=by
 rcases hb with hb|⟨l,x,h1,h2⟩
 · exact .inl hb
 · exact .inr ⟨l,x,hsub.lk h1,h2⟩
theorem ZfA {fn:Func} {R:Value→PV→List (Nat×Ent)→Prop} {r0 r1 r2:ResultVar} {p0 p1 p2:PV} (H':List (Nat×Ent)) (hr:fn.results= #[r0,r1,r2]) (h0:ResR P sL hP r0 p0) (h1:ResR P sL hP r1 p1) (h2:ResR P sL hP r2 p2) (hsub:Sub H' hP) (hR:∀V V1 V2:Value,vOf p1 V1→vOf p2 V2→R (.tuple #[V,V1,V2]) (.tup [p0,p1,p2]) H') (hdf:c.df=[]:=by exact rfl):aR c (bodyPost P fn (Zrt c R)) (⟨sL,hP⟩:St):=fun a w ⟨F,H⟩=>by
 obtain ⟨V0,g0,s0⟩:=h0.run H
 obtain ⟨V1,g1,s1⟩:=h1.run H
 obtain ⟨V2,g2,s2⟩:=h2.run H
 have H2:HoldsF c (⟨sL,H'⟩:St) F a w:=H.less (fun _ _ h=>h) fun t x hx=>hsub.lk hx
 exact ⟨H.df.trans hdf, .tuple #[V0,V1,V2],ZlO hr g0 g1 g2,_,_,H',F,rfl,hR _ _ _ s1.vOf s2.vOf,H2.toHeapF,(ZD3 s0 s1 s2).anti fun b _ hb=>ZBE hsub b hb⟩
theorem ZlP {fn:Func} {R:PV→Prop} {r0 r1 r2:ResultVar} {p0 p1 p2:PV} (hr:fn.results= #[r0,r1,r2]) (h0:ResR P sL hP r0 p0) (h1:ResR P sL hP r1 p1) (h2:ResR P sL hP r2 p2) (hR:R (.tup [p0,p1,p2])) (hN:∀b,¬c.N0 b:=by intro _ h;exact h) (hdf:c.df=[]:=by exact rfl):aR c (bodyPost P fn (ZfD c R)) (⟨sL,hP⟩:St):=fun a w ⟨F,H⟩=>by
 obtain ⟨V0,g0,s0⟩:=h0.run H
 obtain ⟨V1,g1,s1⟩:=h1.run H
 obtain ⟨V2,g2,s2⟩:=h2.run H
 refine ⟨H.df.trans hdf, .tuple #[V0,V1,V2],ZlO hr g0 g1 g2,_,_,fun _=>False,rfl,hR,H.ext.ext (fun b _=>hN b), .shr ((ZD3 s0 s1 s2).anti fun b _ hb=>?_) (fun _ h=>h),fun _ h=>h.elim,H.dw⟩
 rcases hb with hb|hb
 · exact .inl hb
 · exact hb.elim
end
end Go.En
namespace Go.Proofs.YtgfabnhpllkebaaGreatDoor
open Go.RowKit Go.Cb Go.En
set_option linter.all false
set_option maxRecDepth 100000
theorem ZaM:FldT Tryz.prog 221 0 0=true:=by kernel_rfl
theorem Zco:NoAgg Tryz.prog 9=true:=by kernel_rfl
theorem Zsk:ZaZ Tryz.prog 297=some ((.agg #[(.string ByteArray.empty),(.int .i64 0)]),([0,1]:List Nat).map fun o=>(o,1)):=by kernel_rfl
theorem Zo4 : ∀(m:List UInt8) {n:Nat} {t:List UInt8},ZbG m= .ok n t→ZsP (m.take n)=true
 |[],n,t,h=>by simp [ZbG] at h
 | [c], n,t,h=>by
   rw [ZbG.eq_def] at h;simp only at h;split at h
   · rename_i h34;cases h;simp [ZsP,h34]
   · split at h
     · cases h
     · split at h
       · cases h
       · simp [ZbG] at h
 | c :: d :: m,n,t,h=>by
   rw [ZbG.eq_def] at h;simp only at h;split at h
   · rename_i h34;cases h;simp [ZsP,h34]
   · split at h
     · cases h
     · rename_i hr;split at h
       · rename_i h92;split at h
         · rename_i hd
           cases h2:ZbG m with
           |err e=>rw [h2] at h;cases h
           | ok n2 t2=>
             rw [h2] at h;cases h;have:=Zo4 m h2;unfold ZsP at this ⊢;rw [show n2+2=n2+1+1 from rfl,Vz,Vz,XB,XB,this];simp only [XD,Xe,decide_eq_true_eq];omega
         · cases h
       · cases h2:ZbG (d::m) with
         |err e=>rw [h2] at h;cases h
         | ok n2 t2=>
           rw [h2] at h;cases h;have:=Zo4 (d::m) h2;unfold ZsP at this ⊢;rw [Vz,XB,this];simp only [XD,Xe,decide_eq_true_eq];omega
theorem Zo5 (m : List UInt8) (t:List UInt8) (hl:m.length≤16384) (hok:ZbG m= .ok m.length t):AF Tryz.prog 225 [pB (34::m)] (· = .tup [pB t,pInt 0]):=by
 have hsz:=Zao (34::m)
 have hlen:(34::m).length=m.length+1:=rfl
 have htl:=Zfc m hok
 have htz:=Zao t
 have hp1:ZsP (34::m)=true:=by
  have:=Zo4 m hok;rw [List.take_length] at this;unfold ZsP at this ⊢;rw [XB,this];rfl
 have hpre:[34].isPrefixOf (34::m)=true:=by simp [List.isPrefixOf]
 refine AF.of_body 38 Tryz.func225 rfl Tryz.ntmps225 (Xa rfl) ?_
 intro w0 M0 vs hl hv
 obtain ⟨v0,rfl⟩:=ZcP hl
 obtain rfl:=hv 0 _ _ rfl rfl
 clear hl hv
 refine nav ?_
 (refine ζa ?_<;>refine xL 2 ζc (xL 3 ζc ?_)<;>refine ζd ?_)
 (refine ζa ?_<;>refine xL 7 ζb (xL 8 (Zbe Tryz.underlying9) (xL 9 ZaQ ?_))<;>refine ζd ?_)
 (first|refine cCd ?_ ?_|refine cC ?_ ?_)<;>intro hb9
 · first
   |exact bN hb9
   | (
    refine nav ?_;(refine ζa ?_<;>refine xL 2 ζc (xL 3 ζc ?_)<;>refine ζd ?_)
    exfalso;first|omega|(simp at*;done)|(simp at*;omega))
 · first
   |exact bN hb9
   | (
    refine nav ?_;(refine ζa ?_ <;>refine xL 10 ζb ?_<;>(refine cS 11 (cA (Tryz.call254) (Zi6 (34::m) [34] (by omega) (by decide))) fun v11 hv11=>?_;cases hv11;rw [hpre])<;>refine xL 12 Zaw (xL 13 ζb (xL 14 ζb ?_))<;>(refine cS 15 (cA (Tryz.call255) (ZlM (34::m) (by omega))) fun v15 hv15=>?_;cases hv15;rw [hp1])<;>refine xL 16 Zaw (xL 17 ζv ?_)<;>refine ζd ?_)<;>(
     (first|refine cCd ?_ ?_|refine cC ?_ ?_)<;>intro hb17
     · first
       |exact bN hb17
       | (
        refine nav ?_;(refine ζa ?_<;>refine xL 2 ζc (xL 3 ζc ?_)<;>refine ζd ?_)
        exfalso;first|omega|(simp at*;done)|(simp at*;omega))
     · first
       |exact bN hb17
       | (
        refine nav ?_;(refine ζa ?_<;>refine xL 18 ζb (xL 19 (ζB Zsk) ?_)<;>refine Zo3 20 2 fun b20=>?_<;>refine xL 4 ζc ?_<;>refine ζd ?_)
        refine ζC (ζJ (l:=20) 1002 rfl rfl) fun _=>?_;(refine ζa ?_<;>refine xL 22 ζb ?_<;>(refine Zaa [] 23 (Tryz.call256) (Zo2 b20 m m.length t (by omega) hok) ?_;rintro _ _ _ ⟨rfl,rfl,rfl⟩;dsimp only [NrH])<;>refine xL 21 ζb (xL 24 ζl (xL 25 ζl (xL 5 ζc (xL 6 ζc ?_))))<;>refine ζd ?_)
        (refine ζa ?_<;>refine xL 27 ζb (xL 28 ZaN (xL 26 ζc ?_))<;>refine ζd ?_)
        (first|refine cCd ?_ ?_|refine cC ?_ ?_)<;>intro hb26
        · first
          |exact bN hb26
          | (
           refine nav ?_;(refine ζa ?_<;>refine xL 29 ζb (xL 2 ζc (xL 3 ζc ?_))<;>refine ζd ?_)
           exfalso;first|omega|(simp at*;done)|(simp at*;omega))
        · first
          |exact bN hb26
          | (
           refine nav ?_;(refine ζa ?_<;>refine xL 31 ζb ?_<;>(refine Zaa [] 32 (Tryz.call257) (ZlN b20 (34::m) (1+m.length) (by omega)) ?_;rintro _ _ _ ⟨rfl,rfl,rfl⟩;dsimp only [NrH])<;>refine xL 30 ζc ?_<;>refine ζd ?_)
           (first|refine cCd ?_ ?_|refine cC ?_ ?_)<;>intro hb30
           · first
             |exact bN hb30
             | (
              refine nav ?_;(refine ζa ?_<;>refine xL 2 ζc (xL 3 ζc ?_)<;>refine ζd ?_)
              exfalso;first|omega|(simp at*;done)|(simp at*;omega))
           · first
             |exact bN hb30
             | (
              refine nav ?_;(refine ζa ?_<;>refine xL 34 ζb (xL 35 (Zbe Tryz.underlying9) (xL 36 ZaQ (xL 33 ζc ?_)))<;>refine ζd ?_)
              (first|refine cCd ?_ ?_|refine cC ?_ ?_)<;>intro hb33
              · first
                |exact bN hb33
                | (
                 refine nav ?_;(refine ζa ?_<;>refine xL 2 ζc (xL 3 ζc ?_)<;>refine ζd ?_)
                 exfalso;first|omega|(simp at*;done)|(simp at*;omega))
              · first
                |exact bN hb33
                | (
                 refine nav ?_;(refine ζa ?_<;>refine xL 37 ζb (xL 2 ζc (xL 3 ζc ?_))<;>refine ζd ?_)
                 exact Zcs (Tryz.results225) rfl rfl rfl))))))
theorem Zfh (l:List UInt8):AF Tryz.prog 218 [pB l,Za3 ⟨#[10]⟩] (· =pInt (Lib.indexByte l 10)):=by
 have:=AF.of_same (P:=Tryz.prog) (f:=218) (us:=[.string (bst l), .string ⟨#[10]⟩]) (v:= .int .i64 (Lib.indexByte l 10)) fun w=>by
  have:=Tryz.strings_Index_one (bst l) 10 w;rw [Zfb] at this;exact this
 exact this
theorem Zi9:∀(m:List UInt8) (i:Int),Lib.indexByte m 10=i→(i<0→ZaU true m=m.length)∧(0≤i→i.toNat≤m.length∧ZaU true m=i.toNat+ZaU false (m.drop i.toNat))
 | [],i,h=>by
   rw [Lib.indexByte] at h;exact ⟨fun _=>rfl,fun h0=>by omega⟩
 | c :: m,i,h=>by
   rw [Lib.indexByte] at h;by_cases hc:c=10
   · subst hc;rw [if_pos (by simp)] at h;subst h;refine ⟨fun h0=>by omega,fun _=>⟨Xf _,?_⟩⟩;rw [Int.toNat_zero,Vv,ZaU,ZaU,if_pos (by decide)];simp
   · rw [if_neg (by simpa using hc)] at h;have hn:((c.toNat !=10))=true:=by
      rw [bne_iff_ne];intro h0;exact hc (UInt8.toNat_inj.1 h0)
     have hge:=Lib.indexByte_ge m 10;obtain ⟨h1,h2⟩:=Zi9 m _ rfl;rw [ZaU,hn,Xc];split at h
     · rename_i hlt;rw [beq_iff_eq] at hlt;subst h;refine ⟨fun _=>by rw [h1 (by omega)];omega,fun h0=>by omega⟩
     · rename_i hlt;rw [beq_iff_eq] at hlt;subst h;obtain ⟨h3,h4⟩:=h2 (by omega);refine ⟨fun h0=>by omega,fun _=>?_⟩;(have e:(Lib.indexByte m 10+1).toNat=(Lib.indexByte m 10).toNat+1:=by omega);rw [e,List.drop_succ_cons,h4];exact ⟨by omega,by omega⟩
theorem Zgp (l:List UInt8):((bst l).toList==ByteArray.toList {data:= #[]})=decide (l=[]):=ZvC l []
theorem Zra (p:Int×Int) (l:List UInt8) (n k:Nat):Za2 (Za2 p (l.take n)) ((l.drop n).take k)=Za2 p (l.take (n+k)):=Zyh p l n k
theorem Zsl (b : Nat) (l : List UInt8) (p:Int×Int) (hl:l.length≤100000) (h1:0≤p.1) (h2:0≤p.2) (h3:p.1≤100000) (h4:p.2≤100000):AFh False Tryz.prog 178 [(0,Zal b, .val (Zal b))] (RdH b l p) (fun _ _ h=>h=RdH b (l.drop (ZaU false l)) (Za2 p (l.take (ZaU false l)))):=by
 unfold RdH
 refine AFh.of_body 37 Tryz.func178 rfl Tryz.ntmps178 (Xa rfl) rfl ?_
 intro w0 M0 N0
 refine nav ?_
 refine ζD (ι:={n:Nat//n≤l.length∧n+ZaU false (l.drop n)=ZaU false l}) (fun k=>⟨[(0,_,_)],[(1000,Zb4 b, .own 221 3 1 [pB (l.drop k.1),pInt (Za2 p (l.take k.1)).1,pInt (Za2 p (l.take k.1)).2])]⟩) (fun k=>l.length-k.1) ⟨0,Xf _,by rw [Vv];omega⟩ (fun a w H=>H.weaken ⟨rfl,trivial⟩ ⟨rfl,trivial⟩) ?_
 rintro ⟨n,hn,hb⟩
 dsimp only
 try dsimp only at hn hb
 have hbd:=ZvG h1 h2 (l.take n)
 rw [Xt] at hbd
 have hdl:(l.drop n).length=l.length-n:=XQ ..
 have hsk:∀k,k≤(l.drop n).length→AFh False Tryz.prog 180 [(0,Zal b, .val (Zal b)),(1, .int .i64 k,pInt k)] (RdH b (l.drop n) (Za2 p (l.take n))) (fun _ _ h=>h=RdH b (l.drop (n+k)) (Za2 p (l.take (n+k)))):=fun k hk=>by
  have:=Zq4 b (l.drop n) (Za2 p (l.take n)) k hk (by omega) hbd.1 hbd.2.1 (by omega) (by omega);rw [XM,Zra] at this;exact this
 refine nav ?_
 (refine ζa ?_<;>refine xL 3 ζb (xL 4 (ζQ 1000) (xL 5 (ζe 1000 ZaM) ?_))<;>(refine yL 6 (ζk 1000 Zco) fun v6 h=>?_;cases h)<;>refine xL 7 Zy1 ?_<;>refine ζd ?_)
 (first|refine cCd ?_ ?_|refine cC ?_ ?_)<;>intro hb7
 · first
   |exact bN hb7
   | (
    have hne:l.drop n≠[]:=by
     intro h;rw [Zgp,h] at hb7;simp at hb7
    clear hb7;obtain ⟨c,m,hcm⟩:=List.exists_cons_of_ne_nil hne;(have hc0:(bst (l.drop n)).data[(0:Int).toNat]? =some c:=by rw [ZfN,hcm];rfl);(have hml:(l.drop n).length=m.length+1:=by rw [hcm];rfl);rw [hcm] at hb;refine nav ?_;(refine ζa ?_<;>refine xL 8 ζb (xL 9 (ζQ 1000) (xL 10 (ζe 1000 ZaM) ?_))<;>(refine yL 11 (ζk 1000 Zco) fun v11 h=>?_;cases h)<;>refine xL 12 (Zbh Tryz.underlying9 rfl rfl rfl (by omega) hc0) ?_<;>refine ζd ?_)
    (refine ζa ?_<;>refine xL 14 ζY (xL 13 ζc ?_)<;>refine ζd ?_)
    (first|refine cCd ?_ ?_|refine cC ?_ ?_)<;>intro hb13
    · first
      |exact bN hb13
      | (
       refine nav ?_;(first|refine cCd ?_ ?_|refine cC ?_ ?_)<;>intro hb13
       · first
         |exact bN hb13
         | (
          refine nav ?_;have hbl:Zhj c=true:=by
           unfold Zhj;simp only [XT,beq_iff_eq];omega
          rw [ZaU,if_pos hbl] at hb;(have hdm:l.drop (n+1)=m:=by rw [←XM,hcm];rfl);(refine ζa ?_<;>refine xL 18 ζb ?_<;>(refine Zaa [] 19 (Tryz.call180) (hsk 1 (by omega)) (fun v19 p19 h19 hR19=>?_);subst hR19;dsimp only [RdH])<;>refine ζd ?_)
          first
           | (exact ζh (
               ⟨n+1,by omega,by rw [hdm];omega⟩
               ) (by dsimp only;omega) ⟨rfl,trivial⟩ ⟨rfl,trivial⟩)
           | (exact ζh (
               ⟨n+j,by omega,by omega⟩
               ) (by dsimp only;omega) ⟨rfl,trivial⟩ ⟨rfl,trivial⟩))
       · first
         |exact bN hb13
         | (
          refine nav ?_;(refine ζa ?_<;>refine xL 21 ζY (xL 20 ζc ?_)<;>refine ζd ?_)
          (first|refine cCd ?_ ?_|refine cC ?_ ?_)<;>intro hb20
          · first
            |exact bN hb20
            | (
             refine nav ?_;have hnb:Zhj c=false:=by
              unfold Zhj;simp only [Vw,beq_eq_false_iff_ne];omega
             obtain ⟨hi1,hi2⟩:=Zi9 (c::m) _ rfl;rw [ZaU,if_neg (by rw [hnb];exact X7),if_pos (by omega)] at hb;have hct:ZaU true (c::m)=1+ZaU true m:=by
              rw [ZaU,show (c.toNat !=10)=true by rw [bne_iff_ne];omega]
             rw [hct] at hi1 hi2;have hne0:Lib.indexByte (c::m) 10≠0:=by
              have hge:=Lib.indexByte_ge m 10;rw [Lib.indexByte,if_neg (by rw [beq_iff_eq];intro h;subst h;exact absurd hb20 (by decide))];split
              · omega
              · rename_i h;rw [beq_iff_eq] at h;omega
             have hidx:AF Tryz.prog 218 [pB (l.drop n),Za3 ⟨#[10]⟩] (· =pInt (Lib.indexByte (c::m) 10)):=by
              rw [hcm];exact Zfh (c::m)
             (refine ζa ?_<;>refine xL 22 ζb (xL 23 (ζQ 1000) (xL 24 (ζe 1000 ZaM) ?_))<;>(refine yL 25 (ζk 1000 Zco) fun v25 h=>?_;cases h)<;>(refine cS 26 (cA Tryz.call218 (hidx)) fun v26 h=>?_;cases h)<;>refine xL 2 ζc ?_<;>refine ζd ?_)
             (refine ζa ?_<;>refine xL 27 ζb (xL 28 ζP ?_)<;>refine ζd ?_)
             (first|refine cCd ?_ ?_|refine cC ?_ ?_)<;>intro hb28
             · first
               |exact bN hb28
               | (
                refine nav ?_;(refine ζa ?_<;>refine xL 29 ζb (xL 30 (ζQ 1000) (xL 31 (ζe 1000 ZaM) ?_))<;>(refine yL 32 (ζk 1000 Zco) fun v32 h=>?_;cases h)<;>refine xL 33 (Zbe Tryz.underlying9) (xL 2 ζc ?_)<;>refine ζd ?_)
                obtain ⟨j,hj0,hj1,hj2,hj3⟩:∃j:Nat,1≤j∧j≤m.length+1∧n+j+ZaU false (l.drop (n+j))=ZaU false l∧(j:Int)=(if Lib.indexByte (c::m) 10<0 then ((m.length+1:Nat):Int) else Lib.indexByte (c::m) 10):=by
                 split
                 · rename_i hlt;have:=hi1 hlt;rw [Xc] at this;refine ⟨m.length+1,by omega,Xb _,?_,rfl⟩;rw [←XM,hcm,Zbl (by rw [Xc];exact Xb _),ZaU];omega
                 · rename_i hlt;obtain ⟨h5,h6⟩:=hi2 (by omega);rw [Xc] at h5;refine ⟨(Lib.indexByte (c::m) 10).toNat,by omega,h5,?_,by omega⟩;rw [←XM,hcm];omega
                have hskJ:∀i:Int,i=(j:Int)→AFh False Tryz.prog 180 [(0,Zal b, .val (Zal b)),(1, .int .i64 i,pInt i)] (RdH b (l.drop n) (Za2 p (l.take n))) (fun _ _ h=>h=RdH b (l.drop (n+j)) (Za2 p (l.take (n+j)))):=fun i hi=>by
                 subst hi;exact hsk j (by omega)
                (refine ζa ?_<;>refine xL 34 ζb (xL 35 ζb ?_)<;>(first|(refine Zaa [] 36 (Tryz.call180) (hskJ _ (show (Lib.indexByte (c::m) 10)=(j:Int) by rw [hj3,if_neg (by omega)])) (fun v36 p36 h36 hR36=>?_);subst hR36;dsimp only [RdH])|(refine Zaa [] 36 (Tryz.call180) (hskJ _ (show ((bst (l.drop n)).size:Int)=(j:Int) by rw [hj3,if_pos (by omega),Zao,hml])) (fun v36 p36 h36 hR36=>?_);subst hR36;dsimp only [RdH]))<;>refine ζd ?_)
                first
                 | (exact ζh (
                     ⟨n+1,by omega,by rw [hdm];omega⟩
                     ) (by dsimp only;omega) ⟨rfl,trivial⟩ ⟨rfl,trivial⟩)
                 | (exact ζh (
                     ⟨n+j,by omega,by omega⟩
                     ) (by dsimp only;omega) ⟨rfl,trivial⟩ ⟨rfl,trivial⟩))
             · first
               |exact bN hb28
               | (
                refine nav ?_;obtain ⟨j,hj0,hj1,hj2,hj3⟩:∃j:Nat,1≤j∧j≤m.length+1∧n+j+ZaU false (l.drop (n+j))=ZaU false l∧(j:Int)=(if Lib.indexByte (c::m) 10<0 then ((m.length+1:Nat):Int) else Lib.indexByte (c::m) 10):=by
                 split
                 · rename_i hlt;have:=hi1 hlt;rw [Xc] at this;refine ⟨m.length+1,by omega,Xb _,?_,rfl⟩;rw [←XM,hcm,Zbl (by rw [Xc];exact Xb _),ZaU];omega
                 · rename_i hlt;obtain ⟨h5,h6⟩:=hi2 (by omega);rw [Xc] at h5;refine ⟨(Lib.indexByte (c::m) 10).toNat,by omega,h5,?_,by omega⟩;rw [←XM,hcm];omega
                have hskJ:∀i:Int,i=(j:Int)→AFh False Tryz.prog 180 [(0,Zal b, .val (Zal b)),(1, .int .i64 i,pInt i)] (RdH b (l.drop n) (Za2 p (l.take n))) (fun _ _ h=>h=RdH b (l.drop (n+j)) (Za2 p (l.take (n+j)))):=fun i hi=>by
                 subst hi;exact hsk j (by omega)
                (refine ζa ?_<;>refine xL 34 ζb (xL 35 ζb ?_)<;>(first|(refine Zaa [] 36 (Tryz.call180) (hskJ _ (show (Lib.indexByte (c::m) 10)=(j:Int) by rw [hj3,if_neg (by omega)])) (fun v36 p36 h36 hR36=>?_);subst hR36;dsimp only [RdH])|(refine Zaa [] 36 (Tryz.call180) (hskJ _ (show ((bst (l.drop n)).size:Int)=(j:Int) by rw [hj3,if_pos (by omega),Zao,hml])) (fun v36 p36 h36 hR36=>?_);subst hR36;dsimp only [RdH]))<;>refine ζd ?_)
                first
                 | (exact ζh (
                     ⟨n+1,by omega,by rw [hdm];omega⟩
                     ) (by dsimp only;omega) ⟨rfl,trivial⟩ ⟨rfl,trivial⟩)
                 | (exact ζh (
                     ⟨n+j,by omega,by omega⟩
                     ) (by dsimp only;omega) ⟨rfl,trivial⟩ ⟨rfl,trivial⟩)))
          · first
            |exact bN hb20
            | (
             refine nav ?_;have hnb:Zhj c=false:=by
              unfold Zhj;simp only [Vw,beq_eq_false_iff_ne];omega
             rw [Zh3 hnb (by omega)] at hb;(have hb':ZaU false l=n:=by omega);refine ZfX (RdH b (l.drop n) (Za2 p (l.take n))) (Tryz.results178) ⟨rfl,trivial⟩ ?_;rw [hb'];rfl)))
    · first
      |exact bN hb13
      | (
       refine nav ?_;(refine ζa ?_<;>refine xL 15 ζY (xL 13 ζc ?_)<;>refine ζd ?_)
       (first|refine cCd ?_ ?_|refine cC ?_ ?_)<;>intro hb13
       · first
         |exact bN hb13
         | (
          refine nav ?_;(first|refine cCd ?_ ?_|refine cC ?_ ?_)<;>intro hb13
          · first
            |exact bN hb13
            | (
             refine nav ?_;have hbl:Zhj c=true:=by
              unfold Zhj;simp only [XT,beq_iff_eq];omega
             rw [ZaU,if_pos hbl] at hb;(have hdm:l.drop (n+1)=m:=by rw [←XM,hcm];rfl);(refine ζa ?_<;>refine xL 18 ζb ?_<;>(refine Zaa [] 19 (Tryz.call180) (hsk 1 (by omega)) (fun v19 p19 h19 hR19=>?_);subst hR19;dsimp only [RdH])<;>refine ζd ?_)
             first
              | (exact ζh (
                  ⟨n+1,by omega,by rw [hdm];omega⟩
                  ) (by dsimp only;omega) ⟨rfl,trivial⟩ ⟨rfl,trivial⟩)
              | (exact ζh (
                  ⟨n+j,by omega,by omega⟩
                  ) (by dsimp only;omega) ⟨rfl,trivial⟩ ⟨rfl,trivial⟩))
          · first
            |exact bN hb13
            | (
             refine nav ?_;(refine ζa ?_<;>refine xL 21 ζY (xL 20 ζc ?_)<;>refine ζd ?_)
             (first|refine cCd ?_ ?_|refine cC ?_ ?_)<;>intro hb20
             · first
               |exact bN hb20
               | (
                refine nav ?_;have hnb:Zhj c=false:=by
                 unfold Zhj;simp only [Vw,beq_eq_false_iff_ne];omega
                obtain ⟨hi1,hi2⟩:=Zi9 (c::m) _ rfl;rw [ZaU,if_neg (by rw [hnb];exact X7),if_pos (by omega)] at hb;have hct:ZaU true (c::m)=1+ZaU true m:=by
                 rw [ZaU,show (c.toNat !=10)=true by rw [bne_iff_ne];omega]
                rw [hct] at hi1 hi2;have hne0:Lib.indexByte (c::m) 10≠0:=by
                 have hge:=Lib.indexByte_ge m 10;rw [Lib.indexByte,if_neg (by rw [beq_iff_eq];intro h;subst h;exact absurd hb20 (by decide))];split
                 · omega
                 · rename_i h;rw [beq_iff_eq] at h;omega
                have hidx:AF Tryz.prog 218 [pB (l.drop n),Za3 ⟨#[10]⟩] (· =pInt (Lib.indexByte (c::m) 10)):=by
                 rw [hcm];exact Zfh (c::m)
                (refine ζa ?_<;>refine xL 22 ζb (xL 23 (ζQ 1000) (xL 24 (ζe 1000 ZaM) ?_))<;>(refine yL 25 (ζk 1000 Zco) fun v25 h=>?_;cases h)<;>(refine cS 26 (cA Tryz.call218 (hidx)) fun v26 h=>?_;cases h)<;>refine xL 2 ζc ?_<;>refine ζd ?_)
                (refine ζa ?_<;>refine xL 27 ζb (xL 28 ζP ?_)<;>refine ζd ?_)
                (first|refine cCd ?_ ?_|refine cC ?_ ?_)<;>intro hb28
                · first
                  |exact bN hb28
                  | (
                   refine nav ?_;(refine ζa ?_<;>refine xL 29 ζb (xL 30 (ζQ 1000) (xL 31 (ζe 1000 ZaM) ?_))<;>(refine yL 32 (ζk 1000 Zco) fun v32 h=>?_;cases h)<;>refine xL 33 (Zbe Tryz.underlying9) (xL 2 ζc ?_)<;>refine ζd ?_)
                   obtain ⟨j,hj0,hj1,hj2,hj3⟩:∃j:Nat,1≤j∧j≤m.length+1∧n+j+ZaU false (l.drop (n+j))=ZaU false l∧(j:Int)=(if Lib.indexByte (c::m) 10<0 then ((m.length+1:Nat):Int) else Lib.indexByte (c::m) 10):=by
                    split
                    · rename_i hlt;have:=hi1 hlt;rw [Xc] at this;refine ⟨m.length+1,by omega,Xb _,?_,rfl⟩;rw [←XM,hcm,Zbl (by rw [Xc];exact Xb _),ZaU];omega
                    · rename_i hlt;obtain ⟨h5,h6⟩:=hi2 (by omega);rw [Xc] at h5;refine ⟨(Lib.indexByte (c::m) 10).toNat,by omega,h5,?_,by omega⟩;rw [←XM,hcm];omega
                   have hskJ:∀i:Int,i=(j:Int)→AFh False Tryz.prog 180 [(0,Zal b, .val (Zal b)),(1, .int .i64 i,pInt i)] (RdH b (l.drop n) (Za2 p (l.take n))) (fun _ _ h=>h=RdH b (l.drop (n+j)) (Za2 p (l.take (n+j)))):=fun i hi=>by
                    subst hi;exact hsk j (by omega)
                   (refine ζa ?_<;>refine xL 34 ζb (xL 35 ζb ?_)<;>(first|(refine Zaa [] 36 (Tryz.call180) (hskJ _ (show (Lib.indexByte (c::m) 10)=(j:Int) by rw [hj3,if_neg (by omega)])) (fun v36 p36 h36 hR36=>?_);subst hR36;dsimp only [RdH])|(refine Zaa [] 36 (Tryz.call180) (hskJ _ (show ((bst (l.drop n)).size:Int)=(j:Int) by rw [hj3,if_pos (by omega),Zao,hml])) (fun v36 p36 h36 hR36=>?_);subst hR36;dsimp only [RdH]))<;>refine ζd ?_)
                   first
                    | (exact ζh (
                        ⟨n+1,by omega,by rw [hdm];omega⟩
                        ) (by dsimp only;omega) ⟨rfl,trivial⟩ ⟨rfl,trivial⟩)
                    | (exact ζh (
                        ⟨n+j,by omega,by omega⟩
                        ) (by dsimp only;omega) ⟨rfl,trivial⟩ ⟨rfl,trivial⟩))
                · first
                  |exact bN hb28
                  | (
                   refine nav ?_;obtain ⟨j,hj0,hj1,hj2,hj3⟩:∃j:Nat,1≤j∧j≤m.length+1∧n+j+ZaU false (l.drop (n+j))=ZaU false l∧(j:Int)=(if Lib.indexByte (c::m) 10<0 then ((m.length+1:Nat):Int) else Lib.indexByte (c::m) 10):=by
                    split
                    · rename_i hlt;have:=hi1 hlt;rw [Xc] at this;refine ⟨m.length+1,by omega,Xb _,?_,rfl⟩;rw [←XM,hcm,Zbl (by rw [Xc];exact Xb _),ZaU];omega
                    · rename_i hlt;obtain ⟨h5,h6⟩:=hi2 (by omega);rw [Xc] at h5;refine ⟨(Lib.indexByte (c::m) 10).toNat,by omega,h5,?_,by omega⟩;rw [←XM,hcm];omega
                   have hskJ:∀i:Int,i=(j:Int)→AFh False Tryz.prog 180 [(0,Zal b, .val (Zal b)),(1, .int .i64 i,pInt i)] (RdH b (l.drop n) (Za2 p (l.take n))) (fun _ _ h=>h=RdH b (l.drop (n+j)) (Za2 p (l.take (n+j)))):=fun i hi=>by
                    subst hi;exact hsk j (by omega)
                   (refine ζa ?_<;>refine xL 34 ζb (xL 35 ζb ?_)<;>(first|(refine Zaa [] 36 (Tryz.call180) (hskJ _ (show (Lib.indexByte (c::m) 10)=(j:Int) by rw [hj3,if_neg (by omega)])) (fun v36 p36 h36 hR36=>?_);subst hR36;dsimp only [RdH])|(refine Zaa [] 36 (Tryz.call180) (hskJ _ (show ((bst (l.drop n)).size:Int)=(j:Int) by rw [hj3,if_pos (by omega),Zao,hml])) (fun v36 p36 h36 hR36=>?_);subst hR36;dsimp only [RdH]))<;>refine ζd ?_)
                   first
                    | (exact ζh (
                        ⟨n+1,by omega,by rw [hdm];omega⟩
                        ) (by dsimp only;omega) ⟨rfl,trivial⟩ ⟨rfl,trivial⟩)
                    | (exact ζh (
                        ⟨n+j,by omega,by omega⟩
                        ) (by dsimp only;omega) ⟨rfl,trivial⟩ ⟨rfl,trivial⟩)))
             · first
               |exact bN hb20
               | (
                refine nav ?_;have hnb:Zhj c=false:=by
                 unfold Zhj;simp only [Vw,beq_eq_false_iff_ne];omega
                rw [Zh3 hnb (by omega)] at hb;(have hb':ZaU false l=n:=by omega);refine ZfX (RdH b (l.drop n) (Za2 p (l.take n))) (Tryz.results178) ⟨rfl,trivial⟩ ?_;rw [hb'];rfl)))
       · first
         |exact bN hb13
         | (
          refine nav ?_;(refine ζa ?_<;>refine xL 16 ζY (xL 13 ζc ?_)<;>refine ζd ?_)
          (first|refine cCd ?_ ?_|refine cC ?_ ?_)<;>intro hb13
          · first
            |exact bN hb13
            | (
             refine nav ?_;(first|refine cCd ?_ ?_|refine cC ?_ ?_)<;>intro hb13
             · first
               |exact bN hb13
               | (
                refine nav ?_;have hbl:Zhj c=true:=by
                 unfold Zhj;simp only [XT,beq_iff_eq];omega
                rw [ZaU,if_pos hbl] at hb;(have hdm:l.drop (n+1)=m:=by rw [←XM,hcm];rfl);(refine ζa ?_<;>refine xL 18 ζb ?_<;>(refine Zaa [] 19 (Tryz.call180) (hsk 1 (by omega)) (fun v19 p19 h19 hR19=>?_);subst hR19;dsimp only [RdH])<;>refine ζd ?_)
                first
                 | (exact ζh (
                     ⟨n+1,by omega,by rw [hdm];omega⟩
                     ) (by dsimp only;omega) ⟨rfl,trivial⟩ ⟨rfl,trivial⟩)
                 | (exact ζh (
                     ⟨n+j,by omega,by omega⟩
                     ) (by dsimp only;omega) ⟨rfl,trivial⟩ ⟨rfl,trivial⟩))
             · first
               |exact bN hb13
               | (
                refine nav ?_;(refine ζa ?_<;>refine xL 21 ζY (xL 20 ζc ?_)<;>refine ζd ?_)
                (first|refine cCd ?_ ?_|refine cC ?_ ?_)<;>intro hb20
                · first
                  |exact bN hb20
                  | (
                   refine nav ?_;have hnb:Zhj c=false:=by
                    unfold Zhj;simp only [Vw,beq_eq_false_iff_ne];omega
                   obtain ⟨hi1,hi2⟩:=Zi9 (c::m) _ rfl;rw [ZaU,if_neg (by rw [hnb];exact X7),if_pos (by omega)] at hb;have hct:ZaU true (c::m)=1+ZaU true m:=by
                    rw [ZaU,show (c.toNat !=10)=true by rw [bne_iff_ne];omega]
                   rw [hct] at hi1 hi2;have hne0:Lib.indexByte (c::m) 10≠0:=by
                    have hge:=Lib.indexByte_ge m 10;rw [Lib.indexByte,if_neg (by rw [beq_iff_eq];intro h;subst h;exact absurd hb20 (by decide))];split
                    · omega
                    · rename_i h;rw [beq_iff_eq] at h;omega
                   have hidx:AF Tryz.prog 218 [pB (l.drop n),Za3 ⟨#[10]⟩] (· =pInt (Lib.indexByte (c::m) 10)):=by
                    rw [hcm];exact Zfh (c::m)
                   (refine ζa ?_<;>refine xL 22 ζb (xL 23 (ζQ 1000) (xL 24 (ζe 1000 ZaM) ?_))<;>(refine yL 25 (ζk 1000 Zco) fun v25 h=>?_;cases h)<;>(refine cS 26 (cA Tryz.call218 (hidx)) fun v26 h=>?_;cases h)<;>refine xL 2 ζc ?_<;>refine ζd ?_)
                   (refine ζa ?_<;>refine xL 27 ζb (xL 28 ζP ?_)<;>refine ζd ?_)
                   (first|refine cCd ?_ ?_|refine cC ?_ ?_)<;>intro hb28
                   · first
                     |exact bN hb28
                     | (
                      refine nav ?_;(refine ζa ?_<;>refine xL 29 ζb (xL 30 (ζQ 1000) (xL 31 (ζe 1000 ZaM) ?_))<;>(refine yL 32 (ζk 1000 Zco) fun v32 h=>?_;cases h)<;>refine xL 33 (Zbe Tryz.underlying9) (xL 2 ζc ?_)<;>refine ζd ?_)
                      obtain ⟨j,hj0,hj1,hj2,hj3⟩:∃j:Nat,1≤j∧j≤m.length+1∧n+j+ZaU false (l.drop (n+j))=ZaU false l∧(j:Int)=(if Lib.indexByte (c::m) 10<0 then ((m.length+1:Nat):Int) else Lib.indexByte (c::m) 10):=by
                       split
                       · rename_i hlt;have:=hi1 hlt;rw [Xc] at this;refine ⟨m.length+1,by omega,Xb _,?_,rfl⟩;rw [←XM,hcm,Zbl (by rw [Xc];exact Xb _),ZaU];omega
                       · rename_i hlt;obtain ⟨h5,h6⟩:=hi2 (by omega);rw [Xc] at h5;refine ⟨(Lib.indexByte (c::m) 10).toNat,by omega,h5,?_,by omega⟩;rw [←XM,hcm];omega
                      have hskJ:∀i:Int,i=(j:Int)→AFh False Tryz.prog 180 [(0,Zal b, .val (Zal b)),(1, .int .i64 i,pInt i)] (RdH b (l.drop n) (Za2 p (l.take n))) (fun _ _ h=>h=RdH b (l.drop (n+j)) (Za2 p (l.take (n+j)))):=fun i hi=>by
                       subst hi;exact hsk j (by omega)
                      (refine ζa ?_<;>refine xL 34 ζb (xL 35 ζb ?_)<;>(first|(refine Zaa [] 36 (Tryz.call180) (hskJ _ (show (Lib.indexByte (c::m) 10)=(j:Int) by rw [hj3,if_neg (by omega)])) (fun v36 p36 h36 hR36=>?_);subst hR36;dsimp only [RdH])|(refine Zaa [] 36 (Tryz.call180) (hskJ _ (show ((bst (l.drop n)).size:Int)=(j:Int) by rw [hj3,if_pos (by omega),Zao,hml])) (fun v36 p36 h36 hR36=>?_);subst hR36;dsimp only [RdH]))<;>refine ζd ?_)
                      first
                       | (exact ζh (
                           ⟨n+1,by omega,by rw [hdm];omega⟩
                           ) (by dsimp only;omega) ⟨rfl,trivial⟩ ⟨rfl,trivial⟩)
                       | (exact ζh (
                           ⟨n+j,by omega,by omega⟩
                           ) (by dsimp only;omega) ⟨rfl,trivial⟩ ⟨rfl,trivial⟩))
                   · first
                     |exact bN hb28
                     | (
                      refine nav ?_;obtain ⟨j,hj0,hj1,hj2,hj3⟩:∃j:Nat,1≤j∧j≤m.length+1∧n+j+ZaU false (l.drop (n+j))=ZaU false l∧(j:Int)=(if Lib.indexByte (c::m) 10<0 then ((m.length+1:Nat):Int) else Lib.indexByte (c::m) 10):=by
                       split
                       · rename_i hlt;have:=hi1 hlt;rw [Xc] at this;refine ⟨m.length+1,by omega,Xb _,?_,rfl⟩;rw [←XM,hcm,Zbl (by rw [Xc];exact Xb _),ZaU];omega
                       · rename_i hlt;obtain ⟨h5,h6⟩:=hi2 (by omega);rw [Xc] at h5;refine ⟨(Lib.indexByte (c::m) 10).toNat,by omega,h5,?_,by omega⟩;rw [←XM,hcm];omega
                      have hskJ:∀i:Int,i=(j:Int)→AFh False Tryz.prog 180 [(0,Zal b, .val (Zal b)),(1, .int .i64 i,pInt i)] (RdH b (l.drop n) (Za2 p (l.take n))) (fun _ _ h=>h=RdH b (l.drop (n+j)) (Za2 p (l.take (n+j)))):=fun i hi=>by
                       subst hi;exact hsk j (by omega)
                      (refine ζa ?_<;>refine xL 34 ζb (xL 35 ζb ?_)<;>(first|(refine Zaa [] 36 (Tryz.call180) (hskJ _ (show (Lib.indexByte (c::m) 10)=(j:Int) by rw [hj3,if_neg (by omega)])) (fun v36 p36 h36 hR36=>?_);subst hR36;dsimp only [RdH])|(refine Zaa [] 36 (Tryz.call180) (hskJ _ (show ((bst (l.drop n)).size:Int)=(j:Int) by rw [hj3,if_pos (by omega),Zao,hml])) (fun v36 p36 h36 hR36=>?_);subst hR36;dsimp only [RdH]))<;>refine ζd ?_)
                      first
                       | (exact ζh (
                           ⟨n+1,by omega,by rw [hdm];omega⟩
                           ) (by dsimp only;omega) ⟨rfl,trivial⟩ ⟨rfl,trivial⟩)
                       | (exact ζh (
                           ⟨n+j,by omega,by omega⟩
                           ) (by dsimp only;omega) ⟨rfl,trivial⟩ ⟨rfl,trivial⟩)))
                · first
                  |exact bN hb20
                  | (
                   refine nav ?_;have hnb:Zhj c=false:=by
                    unfold Zhj;simp only [Vw,beq_eq_false_iff_ne];omega
                   rw [Zh3 hnb (by omega)] at hb;(have hb':ZaU false l=n:=by omega);refine ZfX (RdH b (l.drop n) (Za2 p (l.take n))) (Tryz.results178) ⟨rfl,trivial⟩ ?_;rw [hb'];rfl)))
          · first
            |exact bN hb13
            | (
             refine nav ?_;(refine ζa ?_<;>refine xL 17 ζY (xL 13 ζc ?_)<;>refine ζd ?_)
             (first|refine cCd ?_ ?_|refine cC ?_ ?_)<;>intro hb13
             · first
               |exact bN hb13
               | (
                refine nav ?_;have hbl:Zhj c=true:=by
                 unfold Zhj;simp only [XT,beq_iff_eq];omega
                rw [ZaU,if_pos hbl] at hb;(have hdm:l.drop (n+1)=m:=by rw [←XM,hcm];rfl);(refine ζa ?_<;>refine xL 18 ζb ?_<;>(refine Zaa [] 19 (Tryz.call180) (hsk 1 (by omega)) (fun v19 p19 h19 hR19=>?_);subst hR19;dsimp only [RdH])<;>refine ζd ?_)
                first
                 | (exact ζh (
                     ⟨n+1,by omega,by rw [hdm];omega⟩
                     ) (by dsimp only;omega) ⟨rfl,trivial⟩ ⟨rfl,trivial⟩)
                 | (exact ζh (
                     ⟨n+j,by omega,by omega⟩
                     ) (by dsimp only;omega) ⟨rfl,trivial⟩ ⟨rfl,trivial⟩))
             · first
               |exact bN hb13
               | (
                refine nav ?_;(refine ζa ?_<;>refine xL 21 ζY (xL 20 ζc ?_)<;>refine ζd ?_)
                (first|refine cCd ?_ ?_|refine cC ?_ ?_)<;>intro hb20
                · first
                  |exact bN hb20
                  | (
                   refine nav ?_;have hnb:Zhj c=false:=by
                    unfold Zhj;simp only [Vw,beq_eq_false_iff_ne];omega
                   obtain ⟨hi1,hi2⟩:=Zi9 (c::m) _ rfl;rw [ZaU,if_neg (by rw [hnb];exact X7),if_pos (by omega)] at hb;have hct:ZaU true (c::m)=1+ZaU true m:=by
                    rw [ZaU,show (c.toNat !=10)=true by rw [bne_iff_ne];omega]
                   rw [hct] at hi1 hi2;have hne0:Lib.indexByte (c::m) 10≠0:=by
                    have hge:=Lib.indexByte_ge m 10;rw [Lib.indexByte,if_neg (by rw [beq_iff_eq];intro h;subst h;exact absurd hb20 (by decide))];split
                    · omega
                    · rename_i h;rw [beq_iff_eq] at h;omega
                   have hidx:AF Tryz.prog 218 [pB (l.drop n),Za3 ⟨#[10]⟩] (· =pInt (Lib.indexByte (c::m) 10)):=by
                    rw [hcm];exact Zfh (c::m)
                   (refine ζa ?_<;>refine xL 22 ζb (xL 23 (ζQ 1000) (xL 24 (ζe 1000 ZaM) ?_))<;>(refine yL 25 (ζk 1000 Zco) fun v25 h=>?_;cases h)<;>(refine cS 26 (cA Tryz.call218 (hidx)) fun v26 h=>?_;cases h)<;>refine xL 2 ζc ?_<;>refine ζd ?_)
                   (refine ζa ?_<;>refine xL 27 ζb (xL 28 ζP ?_)<;>refine ζd ?_)
                   (first|refine cCd ?_ ?_|refine cC ?_ ?_)<;>intro hb28
                   · first
                     |exact bN hb28
                     | (
                      refine nav ?_;(refine ζa ?_<;>refine xL 29 ζb (xL 30 (ζQ 1000) (xL 31 (ζe 1000 ZaM) ?_))<;>(refine yL 32 (ζk 1000 Zco) fun v32 h=>?_;cases h)<;>refine xL 33 (Zbe Tryz.underlying9) (xL 2 ζc ?_)<;>refine ζd ?_)
                      obtain ⟨j,hj0,hj1,hj2,hj3⟩:∃j:Nat,1≤j∧j≤m.length+1∧n+j+ZaU false (l.drop (n+j))=ZaU false l∧(j:Int)=(if Lib.indexByte (c::m) 10<0 then ((m.length+1:Nat):Int) else Lib.indexByte (c::m) 10):=by
                       split
                       · rename_i hlt;have:=hi1 hlt;rw [Xc] at this;refine ⟨m.length+1,by omega,Xb _,?_,rfl⟩;rw [←XM,hcm,Zbl (by rw [Xc];exact Xb _),ZaU];omega
                       · rename_i hlt;obtain ⟨h5,h6⟩:=hi2 (by omega);rw [Xc] at h5;refine ⟨(Lib.indexByte (c::m) 10).toNat,by omega,h5,?_,by omega⟩;rw [←XM,hcm];omega
                      have hskJ:∀i:Int,i=(j:Int)→AFh False Tryz.prog 180 [(0,Zal b, .val (Zal b)),(1, .int .i64 i,pInt i)] (RdH b (l.drop n) (Za2 p (l.take n))) (fun _ _ h=>h=RdH b (l.drop (n+j)) (Za2 p (l.take (n+j)))):=fun i hi=>by
                       subst hi;exact hsk j (by omega)
                      (refine ζa ?_<;>refine xL 34 ζb (xL 35 ζb ?_)<;>(first|(refine Zaa [] 36 (Tryz.call180) (hskJ _ (show (Lib.indexByte (c::m) 10)=(j:Int) by rw [hj3,if_neg (by omega)])) (fun v36 p36 h36 hR36=>?_);subst hR36;dsimp only [RdH])|(refine Zaa [] 36 (Tryz.call180) (hskJ _ (show ((bst (l.drop n)).size:Int)=(j:Int) by rw [hj3,if_pos (by omega),Zao,hml])) (fun v36 p36 h36 hR36=>?_);subst hR36;dsimp only [RdH]))<;>refine ζd ?_)
                      first
                       | (exact ζh (
                           ⟨n+1,by omega,by rw [hdm];omega⟩
                           ) (by dsimp only;omega) ⟨rfl,trivial⟩ ⟨rfl,trivial⟩)
                       | (exact ζh (
                           ⟨n+j,by omega,by omega⟩
                           ) (by dsimp only;omega) ⟨rfl,trivial⟩ ⟨rfl,trivial⟩))
                   · first
                     |exact bN hb28
                     | (
                      refine nav ?_;obtain ⟨j,hj0,hj1,hj2,hj3⟩:∃j:Nat,1≤j∧j≤m.length+1∧n+j+ZaU false (l.drop (n+j))=ZaU false l∧(j:Int)=(if Lib.indexByte (c::m) 10<0 then ((m.length+1:Nat):Int) else Lib.indexByte (c::m) 10):=by
                       split
                       · rename_i hlt;have:=hi1 hlt;rw [Xc] at this;refine ⟨m.length+1,by omega,Xb _,?_,rfl⟩;rw [←XM,hcm,Zbl (by rw [Xc];exact Xb _),ZaU];omega
                       · rename_i hlt;obtain ⟨h5,h6⟩:=hi2 (by omega);rw [Xc] at h5;refine ⟨(Lib.indexByte (c::m) 10).toNat,by omega,h5,?_,by omega⟩;rw [←XM,hcm];omega
                      have hskJ:∀i:Int,i=(j:Int)→AFh False Tryz.prog 180 [(0,Zal b, .val (Zal b)),(1, .int .i64 i,pInt i)] (RdH b (l.drop n) (Za2 p (l.take n))) (fun _ _ h=>h=RdH b (l.drop (n+j)) (Za2 p (l.take (n+j)))):=fun i hi=>by
                       subst hi;exact hsk j (by omega)
                      (refine ζa ?_<;>refine xL 34 ζb (xL 35 ζb ?_)<;>(first|(refine Zaa [] 36 (Tryz.call180) (hskJ _ (show (Lib.indexByte (c::m) 10)=(j:Int) by rw [hj3,if_neg (by omega)])) (fun v36 p36 h36 hR36=>?_);subst hR36;dsimp only [RdH])|(refine Zaa [] 36 (Tryz.call180) (hskJ _ (show ((bst (l.drop n)).size:Int)=(j:Int) by rw [hj3,if_pos (by omega),Zao,hml])) (fun v36 p36 h36 hR36=>?_);subst hR36;dsimp only [RdH]))<;>refine ζd ?_)
                      first
                       | (exact ζh (
                           ⟨n+1,by omega,by rw [hdm];omega⟩
                           ) (by dsimp only;omega) ⟨rfl,trivial⟩ ⟨rfl,trivial⟩)
                       | (exact ζh (
                           ⟨n+j,by omega,by omega⟩
                           ) (by dsimp only;omega) ⟨rfl,trivial⟩ ⟨rfl,trivial⟩)))
                · first
                  |exact bN hb20
                  | (
                   refine nav ?_;have hnb:Zhj c=false:=by
                    unfold Zhj;simp only [Vw,beq_eq_false_iff_ne];omega
                   rw [Zh3 hnb (by omega)] at hb;(have hb':ZaU false l=n:=by omega);refine ZfX (RdH b (l.drop n) (Za2 p (l.take n))) (Tryz.results178) ⟨rfl,trivial⟩ ?_;rw [hb'];rfl))))))
 · first
   |exact bN hb7
   | (
    have he:l.drop n=[]:=by
     rw [Zgp] at hb7;simpa using hb7
    (have hb':ZaU false l=n:=by rw [he] at hb;simpa [ZaU] using hb.symm);refine nav ?_;refine ZbT (RdH b (l.drop n) (Za2 p (l.take n))) (Tryz.results178) ⟨rfl,trivial⟩ ?_;rw [hb'];rfl)
theorem Zo6:AggT Tryz.prog 110 2=true:=by kernel_rfl
theorem ζ5:AggT Tryz.prog 166 5=true:=by kernel_rfl
theorem ZcG:FldT Tryz.prog 166 0 0=true:=by kernel_rfl
theorem ZeT:FldT Tryz.prog 166 1 1=true:=by kernel_rfl
theorem Znv:FldT Tryz.prog 166 2 2=true:=by kernel_rfl
theorem Zau:FldT Tryz.prog 221 0 0=true:=by kernel_rfl
theorem Znw:FldT Tryz.prog 221 1 1=true:=by kernel_rfl
theorem Zfi:NoAgg Tryz.prog 3=true:=by kernel_rfl
theorem Zbm:NoAgg Tryz.prog 9=true:=by kernel_rfl
theorem Zsm:ZaZ Tryz.prog 166=some ((.agg #[(.int .i64 0),(.string ByteArray.empty),(.int .i64 0),(.int .i64 0),(.int .i64 0)]),[(0,1),(1,1),(2,1),(3,2)]):=by kernel_rfl
theorem Zfj:(Tryz.prog.info? 3).map (·.size)=some 1:=by kernel_rfl
theorem ZlQ:(Tryz.prog.info? 9).map (·.size)=some 1:=by kernel_rfl
theorem Zkp:ZeroT Tryz.prog 166 (.agg #[(.int .i64 0),(.string ByteArray.empty),(.int .i64 0),(.int .i64 0),(.int .i64 0)]):=by unfold ZeroT;kernel_rfl
def ZDz:Option (Nat×Value)→PV
 |none=> .val .nilIface
 |some (t,x)=> .val (.iface t x)
def Zyy (P:Program) (f:FuncId):Prop:=∀d:List UInt8,d≠[]→(∀c∈d,ZeO c=true)→d.length≤20000→AF P f [pB d] (fun p=>∃i:{i:Int×Option (Nat×Value)//(i.2=none∧i.1=Zi3 d∧Zi3 d≤9223372036854775807)∨(∃x,i.2=some x)∧9223372036854775807<Zi3 d},p= .tup [pInt i.1.1,ZDz i.1.2])
theorem ZBF {a:Int} (o:Option (Nat×Value)):shD (.tup [pInt a,ZDz o])=true:=by
 cases o with
 |none=>rfl
 |some x=>rfl
theorem Zyz {x:Int} {o:Option (Nat×Value)} {VD:Nat} (h:(((x,o):Int×Option (Nat×Value)).2=none∧((x,o):Int×Option (Nat×Value)).1=VD∧VD≤9223372036854775807)∨(∃y,((x,o):Int×Option (Nat×Value)).2=some y)∧9223372036854775807<VD):(o=none→x=(VD:Int))∧(o≠none→9223372036854775807<VD):=by
 rcases h with ⟨h1,h2,_⟩|⟨⟨y,h1⟩,h2⟩
 · exact ⟨fun _=>h2,fun h=>absurd h1 h⟩
 · exact ⟨fun h=>(by simp only at h1;rw [h] at h1;cases h1),fun _=>h2⟩
theorem Zrb {P:Program} {st:St} {o:Oper} {x y:Operand} {q q':PV} {t t':TypeId} {a b:Int} (B:Bool) (ho:o.op= .binOp .neq t x y t':=by exact rfl) (hx:ev st.slots x=some (.int .i64 a,q):=by exact rfl) (hy:ev st.slots y=some (.int .i64 b,q'):=by exact rfl) (hB:decide (a≠b)=B:=by decide):YE P st o (· = .bool B) (.val (.bool B)):=by
 subst hB
 exact ZaN ho hx hy
theorem Zh5 :∀{m:List UInt8} {e:Int},ZbG m= .err e→e=3∨e=4
 |[],e,h=>by simp [ZbG] at h;omega
 | [c], e,h=>by
   rw [ZbG.eq_def] at h;simp only at h;split at h
   · cases h
   · split at h
     · cases h;omega
     · split at h
       · cases h;omega
       · simp [ZbG] at h;omega
 | c :: d ::m,e,h=>by
   rw [ZbG.eq_def] at h;simp only at h;split at h
   · cases h
   · split at h
     · cases h;omega
     · split at h
       · split at h
         · cases h2:ZbG m with
           |err e2=>rw [h2] at h;cases h;exact Zh5 h2
           |ok n2 t2=>rw [h2] at h;cases h
         · cases h;omega
       · cases h2:ZbG (d::m) with
         |err e2=>rw [h2] at h;cases h;exact Zh5 h2
         |ok n2 t2=>rw [h2] at h;cases h
theorem ZvU {l:List UInt8} {e:Int} (h:ZjC l= .err e):e≠0:=by
 cases l with
 |nil=>cases h
 | cons c m =>
   rw [ZjC] at h;split at h
   · split at h
     · cases h;omega
     · cases h
   · split at h
     · split at h
       · cases h;omega
       · split at h
         · cases h;omega
         · cases h
     · split at h
       · cases h2:ZbG m with
         | err e2=>
           rw [h2] at h;cases h;have:=Zh5 h2;omega
         |ok n t=>rw [h2] at h;cases h
       · cases h2:ZsN (c::m) with
         |none=>rw [h2] at h;cases h;omega
         |some x=>rw [h2] at h;cases h
theorem ZlR : ∀(m:List UInt8) {n:Nat} {t:List UInt8},ZbG m= .ok n t→ZbG (m.take n)= .ok n t
 |[],n,t,h=>by simp [ZbG] at h
 | [c],n,t,h=>by
   have:=Zfc [c] h;rw [Xn (by simpa using this.1)];exact h
 | c :: d :: m,n,t,h=>by
   have h0:=h;rw [ZbG.eq_def] at h;simp only at h;split at h
   · rename_i h34;cases h;exact ZoX (by omega)
   · split at h
     · cases h
     · rename_i hr;split at h
       · rename_i h92;split at h
         · rename_i hd
           cases h2:ZbG m with
           |err e=>rw [h2] at h;cases h
           | ok n2 t2=>
             rw [h2] at h;cases h;have:=ZlR m h2;rw [show n2+2=n2+1+1 from rfl,Vz,Vz,ZoY (by omega) (by omega),this];rfl
         · cases h
       · rename_i h92
         cases h2:ZbG (d::m) with
         |err e=>rw [h2] at h;cases h
         | ok n2 t2=>
           rw [h2] at h;cases h;have:=ZlR (d::m) h2;rw [Vz,Zi7 (by omega) (by omega) (by omega) (by omega),this];rfl
def ZEm (p:Int×Int):Lx→PV
 | .ok kd tx n len=> .tup [.agg [pInt kd,pB tx,pInt n,pInt p.1,pInt p.2],pInt len,pInt 0]
 | .err e=> .tup [.agg [pInt 0,pB [],pInt 0,pInt p.1,pInt p.2],pInt 0,pInt e]
def ZEn (lx:Lx) (V:Value):Value:=match lx with
 | .ok _ _ _ len=> .tuple #[V, .int .i64 len, .int .i64 0]
 | .err e=> .tuple #[V, .int .i64 0, .int .i64 e]
theorem Zo7 (q:UInt8→Bool):∀l:List UInt8,l.take (l.takeWhile q).length=l.takeWhile q
 |[]=>rfl
 | c::l=>by
   rw [V3];split
   · rw [Xc,Vz,Zo7 q l]
   · rfl
theorem Zo8 (q:UInt8→Bool):∀l:List UInt8,l.drop (l.takeWhile q).length=l.dropWhile q
 |[]=>rfl
 | c::l=>by
   rw [V3,List.dropWhile_cons];split
   · rw [Xc,List.drop_succ_cons,Zo8 q l]
   · rfl
theorem ZzH {q:UInt8→Bool}:∀{l:List UInt8} {c:UInt8},c∈l.takeWhile q→q c=true
 | d ::l,c,h=>by
   rw [V3] at h;split at h
   · rename_i hd;rcases Xm.1 h with rfl|h
     · exact hd
     · exact ZzH h
   · cases h
theorem ZBG {q:UInt8→Bool} {l:List UInt8} {d:UInt8} (h:l[(l.takeWhile q).length]? =some d):(l.dropWhile q).head? =some d:=by
 rw [←Zo8,List.head?_drop];exact h
theorem ZBH {q:UInt8→Bool} {l:List UInt8} (h:¬(l.takeWhile q).length<l.length):l.dropWhile q=[]:=by
 rw [←Zo8];exact Zbl (by omega)
set_option maxHeartbeats 4000000 in
theorem ZyA (b : Nat) (l:List UInt8) (hA:(∃c∈l,ZeO c=true)→Zyy Tryz.prog 223) (p:Int×Int) (hl:l.length≤16384):AFh False Tryz.prog 179 [(0,Zal b, .val (Zal b))] (RdH b l p) (fun u q h=>(∃V,u=ZEn (ZjC l) V)∧q=ZEm p (ZjC l)∧h=RdH b l p):=by
 have hsz:=Zao l
 unfold RdH
 refine AFh.of_body 158 Tryz.func179 rfl Tryz.ntmps179 (Xa rfl) rfl ?_
 intro w0 M0 N0
 refine nav ?_
 (refine ζa ?_<;>refine ζs [(.int .i64 0),(.string ByteArray.empty),(.int .i64 0),(.int .i64 0),(.int .i64 0)] 5 2 Zkp fun h2=>?_<;>refine xL 3 ζc (xL 4 ζc ?_)<;>refine ζd ?_)
 (refine ζa ?_<;>refine xL 16 ζb (xL 17 (ζQ 1000) (xL 18 (ζe 1000 Znw) ?_))<;>(refine yL 19 (ζm 1000 Zo6) fun v19 h=>?_;cases h)<;>(refine yL 20 (Zef Zsm) fun v20 h=>?_;cases h)<;>refine Zfd [.int .i64 0, .string ByteArray.empty, .int .i64 0, .int .i64 0, .int .i64 0] 5 5 Zkp fun b5=>?_<;>refine ζt 5 ζ5 ?_<;>refine ζd ?_)
 refine ζC (ζI (l:=5) (p':= .own 166 5 1 [pInt 0,pB [],pInt 0,pInt p.1,pInt p.2]) rfl rfl) fun _=>?_
 (refine ζa ?_<;>refine xL 21 ζb (xL 22 (ζQ 1000) (xL 23 (ζe 1000 Zau) ?_))<;>(refine yL 24 (ζk 1000 Zbm) fun v24 h=>?_;cases h)<;>refine xL 25 ZbI ?_<;>refine ζd ?_)
 (first|refine cCd ?_ ?_|refine cC ?_ ?_)<;>intro hb25
 · first
   |exact bN hb25
   | (
    obtain rfl:l=[]:=by
     rw [Zgp] at hb25;simpa using hb25
    refine nav ?_;(refine ζa ?_<;>refine xL 26 (ζe 5 ZcG) ?_<;>refine Zb7 5 Zfi Zfj ?_<;>refine ζd ?_)
    (refine ζa ?_<;>(refine yL 27 (ζm 5 ζ5) fun v27 h=>?_;cases h)<;>refine ζt 2 ζ5 ?_<;>refine xL 3 ζc (xL 4 ζc ?_)<;>refine ζd ?_)
    refine ZfA (RdH b [] p) (Tryz.results179) (.cell (k:=5) 2 kR rfl rfl (Xa rfl) (by decide) rfl) (.tmp rfl) (.tmp rfl) ⟨rfl,trivial⟩ fun V V1 V2 h1 h2=>by cases h1;cases h2;exact ⟨⟨V,rfl⟩,rfl,rfl⟩)
 · first
   |exact bN hb25
   | (
    have hne:l≠[]:=by
     rintro rfl;rw [Zgp] at hb25;simp at hb25
    clear hb25;obtain ⟨c,m,rfl⟩:=List.exists_cons_of_ne_nil hne;(have hc0:(bst (c::m)).data[(0:Int).toNat]? =some c:=by rw [ZfN];rfl);have hcl:(c::m).length=m.length+1:=rfl;refine nav ?_;(refine ζa ?_<;>refine xL 28 ζb (xL 29 (ζQ 1000) (xL 30 (ζe 1000 Zau) ?_))<;>(refine yL 31 (ζk 1000 Zbm) fun v31 h=>?_;cases h)<;>refine xL 32 (Zbh Tryz.underlying9 rfl rfl rfl (by omega) hc0) ?_<;>refine xL 6 ζc ?_<;>refine ζd ?_)
    (refine ζa ?_<;>refine xL 34 ζb ?_<;>(refine cS 35 (cA Tryz.call219 (ZgV c.toNat)) fun v35 h=>?_;cases h)<;>refine xL 33 ζc ?_<;>refine ζd ?_)
    (first|refine cCd ?_ ?_|refine cC ?_ ?_)<;>intro hb33
    · first
      |exact bN hb33
      | (
       have hlb:Zwt c=true:=hb33;have htl:=Zyi Zr7 (c::m);refine nav ?_;(refine ζa ?_<;>refine xL 36 ζb (xL 37 (ζQ 1000) (xL 38 (ζe 1000 Zau) ?_))<;>(refine yL 39 (ζk 1000 Zbm) fun v39 h=>?_;cases h)<;>(refine cS 40 (cA Tryz.call220 (Zkm 221 Zr7 (c::m) (by omega) (Tryz.call221) ZvD)) fun v40 h=>?_;cases h)<;>refine xL 7 ζc ?_<;>refine ζd ?_)
       (refine ζa ?_<;>refine xL 41 ζb (xL 42 ZaQ ?_)<;>refine ζd ?_)
       (first|refine cCd ?_ ?_|refine cC ?_ ?_)<;>intro hb42
       · first
         |exact bN hb42
         | (
          refine nav ?_;(refine ζa ?_<;>(refine yL 43 (ζm 5 ζ5) fun v43 h=>?_;cases h)<;>refine ζt 2 ζ5 ?_<;>refine xL 3 ζc (xL 4 ζc ?_)<;>refine ζd ?_)
          refine ZfA (RdH b (c::m) p) (Tryz.results179) (.cell (k:=5) 2 kR rfl rfl (Xa rfl) (by decide) rfl) (.tmp rfl) (.tmp rfl) ⟨rfl,trivial⟩ fun V V1 V2 h1 h2=>?_
          cases h1;cases h2;rw [ZjC,if_pos hlb,if_pos (by omega)];exact ⟨⟨V,rfl⟩,rfl,rfl⟩)
       · first
         |exact bN hb42
         | (
          refine nav ?_;(refine ζV (fun i=>([]:List Nat).elem i) [1000] kR ?_<;>refine xD 0 44 rfl ζb ?_<;>refine xD 1 45 rfl (ζQ 1000) ?_<;>refine xD 2 46 rfl (ζe 1000 Zau) ?_<;>(refine yD 3 47 rfl (ζk 1000 Zbm) fun v47 h=>?_;cases h)<;>refine xD 4 48 rfl ζb ?_<;>refine xD 5 49 rfl (Zq3 Tryz.underlying9) ?_<;>refine xE 6 50 rfl (ζe 5 ZcG) ?_<;>(refine ζj 7 kR ?_)<;>(refine ζg rfl fun w9 M9 N9 DQ back=>?_)<;>refine Zb7 5 Zfi Zfj ?_<;>refine ζf (back _ (nrm ?_))<;>refine xE 8 51 rfl (ζe 5 ZeT) ?_<;>(refine ζj 9 kR ?_)<;>(refine ζg rfl fun w9 M9 N9 DQ back=>?_)<;>refine Zb7 5 Zbm ZlQ ?_<;>refine ζf (back _ (nrm ?_))<;>refine Zae kR (nav ?_)<;>try dsimp only)
          (refine ζa ?_<;>(refine yL 52 (ζm 5 ζ5) fun v52 h=>?_;cases h)<;>refine xL 53 ζb ?_<;>refine ζt 2 ζ5 ?_<;>refine xL 3 ζc (xL 4 ζc ?_)<;>refine ζd ?_)
          refine ZfA (RdH b (c::m) p) (Tryz.results179) (.cell (k:=5) 2 kR rfl rfl (Xa rfl) (by decide) rfl) (.tmp rfl) (.tmp rfl) ⟨rfl,trivial⟩ fun V V1 V2 h1 h2=>?_
          cases h1;cases h2;(have e:(c::m).take (((c::m).takeWhile Zr7).length:Int).toNat=(c::m).takeWhile Zr7:=by rw [X8,Zo7]);rw [e,ZjC,if_pos hlb,if_neg (by omega)];exact ⟨⟨V,rfl⟩,rfl,rfl⟩))
    · first
      |exact bN hb33
      | (
       have hlb:Zwt c=false:=hb33;refine nav ?_;(refine ζa ?_<;>refine xL 55 ζb ?_<;>(refine cS 56 (cA Tryz.call222 (Zi5 c)) fun v56 h=>?_;cases h)<;>refine xL 54 ζc ?_<;>refine ζd ?_)
       (first|refine cCd ?_ ?_|refine cC ?_ ?_)<;>intro hb54
       · first
         |exact bN hb54
         | (
          have hdb:ZeO c=true:=hb54;have htl:=Zyi ZeO (c::m);have hac:Zyy Tryz.prog 223:=hA ⟨c,Xk ..,hdb⟩;have hdne:(c::m).takeWhile ZeO≠[]:=by
           intro h;have:=Zvt (p:=ZeO) (m:=m) hdb;rw [h] at this;simp at this
          obtain ⟨nd,hnd⟩:∃nd,nd=((c::m).takeWhile ZeO).length:=⟨_,rfl⟩;obtain ⟨d,hd⟩:∃d,nd<(c::m).length→(c::m)[nd]? =some d:=by
           rcases Xq nd (c::m).length with h|h
           · exact ⟨_,fun _=>XE h⟩
           · exact ⟨0,fun h'=>by omega⟩
          have hdy:nd<(c::m).length→(bst (c::m)).data[((nd:Nat):Int).toNat]? =some d:=fun h=>by
           rw [ZfN,X8];exact hd h
          have hlex:ZjC (c::m)=(if ((c::m).dropWhile ZeO).head?.any (fun d=>Zwt d||d.toNat==95) then .err 3 else if 4503599627370496<Zi3 ((c::m).takeWhile ZeO) then .err 6 else .ok 2 [] (Zi3 ((c::m).takeWhile ZeO)) nd):=by
           rw [ZjC,if_neg (by rw [hlb];exact X7),if_pos hdb,hnd]
          have hany:((c::m).dropWhile ZeO).head?.any (fun d=>Zwt d||d.toNat==95)=(decide (nd<(c::m).length)&&(Zwt d||d.toNat==95)):=by
           by_cases h:nd<(c::m).length
           · rw [ZBG (d:=d) (by rw [←hnd];exact hd h),decide_eq_true h];rfl
           · rw [ZBH (by rw [←hnd];exact h),decide_eq_false h];rfl
          rw [←hnd] at htl;(have htk:(c::m).take (nd:Int).toNat=(c::m).takeWhile ZeO:=by rw [X8,hnd,Zo7]);have hlen:AF Tryz.prog 220 [pB (c::m), .fn 222 []] (· =pInt nd):=by
           rw [hnd];exact Zkm 222 ZeO (c::m) (by omega) (Tryz.call222) Zi5
          have hdg:AF Tryz.prog 223 [pB ((c::m).take (nd:Int).toNat)] (fun p=>∃i:{i:Int×Option (Nat×Value)//(i.2=none∧i.1=Zi3 ((c::m).takeWhile ZeO)∧Zi3 ((c::m).takeWhile ZeO)≤9223372036854775807)∨(∃x,i.2=some x)∧9223372036854775807<Zi3 ((c::m).takeWhile ZeO)},p= .tup [pInt i.1.1,ZDz i.1.2]):=by
           rw [htk];exact hac ((c::m).takeWhile ZeO) hdne (fun d hd=>ZzH hd) (by omega)
          generalize hVD:Zi3 ((c::m).takeWhile ZeO)=VD at hdg hlex;refine nav ?_;(refine ζa ?_<;>refine xL 57 ζb (xL 58 (ζQ 1000) (xL 59 (ζe 1000 Zau) ?_))<;>(refine yL 60 (ζk 1000 Zbm) fun v60 h=>?_;cases h)<;>(refine cS 61 (cA Tryz.call220 (hlen)) fun v61 h=>?_;cases h)<;>refine xL 8 ζc ?_<;>refine ζd ?_)
          (refine ζa ?_<;>refine xL 62 ζb (xL 63 ζb (xL 64 (ζQ 1000) (xL 65 (ζe 1000 Zau) ?_)))<;>(refine yL 66 (ζk 1000 Zbm) fun v66 h=>?_;cases h)<;>refine xL 67 (Zbe Tryz.underlying9) (xL 68 ζP (xL 69 ζb ?_))<;>(refine bLd 69 (fun hb69=>?_) (fun hb69=>?_)<;>(first|refine kL 70 ?_|refine xL 70 ζb ?_))<;>(first|refine kL 71 ?_|refine xL 71 (ζQ 1000) ?_)<;>(first|refine kL 72 ?_|refine xL 72 (ζe 1000 Zau) ?_)<;>(first|refine kL 73 ?_|(refine yL 73 (ζk 1000 Zbm) fun v73 h=>?_;cases h))<;>(first|refine kL 74 ?_|refine xL 74 ζb ?_)<;>(first|refine kL 75 ?_|refine kL 75 ?_|refine xL 75 (Zbh Tryz.underlying9 rfl rfl rfl (by omega) (hdy (by omega))) ?_)<;>(first|refine kL 76 ?_|refine kL 76 ?_|(refine cS 76 (cA (Tryz.call219) (ZgV d.toNat)) fun v76 h=>?_;cases h))<;>(first|refine kL 77 ?_|refine xL 77 ζb ?_)<;>(first|refine kL 78 ?_|(refine bL 77 (fun hb77=>?_) (fun hb77=>?_)<;>(first|refine kL 78 ?_|refine xL 78 ζb ?_)))<;>(first|refine kL 79 ?_|refine xL 79 (ζQ 1000) ?_)<;>(first|refine kL 80 ?_|refine xL 80 (ζe 1000 Zau) ?_)<;>(first|refine kL 81 ?_|(refine yL 81 (ζk 1000 Zbm) fun v81 h=>?_;cases h))<;>(first|refine kL 82 ?_|refine xL 82 ζb ?_)<;>(first|refine kL 83 ?_|refine kL 83 ?_|refine xL 83 (Zbh Tryz.underlying9 rfl rfl rfl (by omega) (hdy (by omega))) ?_)<;>(first|refine kL 84 ?_|refine xL 84 ζY ?_)<;>(first|refine kL 85 ?_|refine xL 85 ζv ?_)<;>refine xL 86 ζv ?_<;>refine ζd ?_)<;>(
           (first|refine cCd ?_ ?_|refine cC ?_ ?_)<;>intro hb86
           · first
             |exact bN hb86
             | (
              refine nav ?_;(refine ζa ?_<;>(refine yL 87 (ζm 5 ζ5) fun v87 h=>?_;cases h)<;>refine ζt 2 ζ5 ?_<;>refine xL 3 ζc (xL 4 ζc ?_)<;>refine ζd ?_)
              refine ZfA (RdH b (c::m) p) (Tryz.results179) (.cell (k:=5) 2 kR rfl rfl (Xa rfl) (by decide) rfl) (.tmp rfl) (.tmp rfl) ⟨rfl,trivial⟩ fun V V1 V2 h1 h2=>?_
              cases h1;cases h2;rw [hlex,if_pos (by rw [hany,decide_eq_true (by omega)];simp only [Bool.true_and,XT,beq_iff_eq];first|exact .inl hb77|exact .inr (by omega))];exact ⟨⟨V,rfl⟩,rfl,rfl⟩)
           · first
             |exact bN hb86
             | (
              refine nav ?_;have hno:((c::m).dropWhile ZeO).head?.any (fun d=>Zwt d||d.toNat==95)=false:=by
               rw [hany]
               first
                |(rw [decide_eq_false (by omega)];rfl)
                |(simp only [Bool.and_eq_false_iff,Vw,beq_eq_false_iff_ne];right;exact ⟨hb77,by omega⟩)
              rw [hno,if_neg X7] at hlex;(refine ζa ?_<;>refine xL 89 ζb (xL 90 (ζQ 1000) (xL 91 (ζe 1000 Zau) ?_))<;>(refine yL 92 (ζk 1000 Zbm) fun v92 h=>?_;cases h)<;>refine xL 93 ζb (xL 94 (Zq3 Tryz.underlying9) ?_)<;>(refine cPx 95 (cA (Tryz.call223) hdg) (fun i va95 vb95 hva95 hvb95=>?_) (fun i=>ZBF _);obtain ⟨⟨x,oo⟩,hi⟩:=i;have hv:(oo=none→x=(VD:Int))∧(oo≠none→9223372036854775807<VD):=Zyz hi;dsimp only at hva95 hvb95 ⊢;clear hi;rcases oo with _|⟨ot,ox⟩<;>(dsimp only [ZDz] at hva95 hvb95 ⊢;cases hva95;cases hvb95))<;>refine xL 88 ζb (xL 96 ζl (xL 97 ζl (xL 9 ζc (xL 10 ζc ?_))))<;>refine ζd ?_)<;>(
               (refine ζa ?_<;>refine xL 98 ζb ?_<;>(first|refine xL 99 (ZvS kR) ?_|refine xL 99 (Zq9 kR) ?_)<;>refine xL 100 ζb ?_<;>(first|refine kL 101 ?_|refine xL 101 ζb ?_)<;>(first|refine kL 102 ?_|refine xL 102 ZaQ ?_)<;>refine xL 103 ζv ?_<;>refine ζd ?_)<;>(
                (first|refine cCd ?_ ?_|refine cC ?_ ?_)<;>intro hb103
                · first
                  |exact bN hb103
                  | (
                   refine nav ?_;(refine ζa ?_<;>(refine yL 104 (ζm 5 ζ5) fun v104 h=>?_;cases h)<;>refine ζt 2 ζ5 ?_<;>refine xL 3 ζc (xL 4 ζc ?_)<;>refine ζd ?_)
                   refine ZfA (RdH b (c::m) p) (Tryz.results179) (.cell (k:=5) 2 kR rfl rfl (Xa rfl) (by decide) rfl) (.tmp rfl) (.tmp rfl) ⟨rfl,trivial⟩ fun V V1 V2 h1 h2=>?_
                   cases h1;cases h2;rw [hlex,if_pos (by first|(have:=hv.1 rfl;omega)|(have:=hv.2 (by simp);omega))];exact ⟨⟨V,rfl⟩,rfl,rfl⟩)
                · first
                  |exact bN hb103
                  | (
                   refine nav ?_;have hx:=hv.1 rfl;(refine ζa ?_<;>refine xL 105 ζb (xL 106 (ζe 5 ZcG) ?_)<;>refine Zb7 5 Zfi Zfj ?_<;>refine xL 107 (ζe 5 Znv) ?_<;>refine Zb7 5 Zfi Zfj ?_<;>refine ζd ?_)
                   (refine ζa ?_<;>(refine yL 108 (ζm 5 ζ5) fun v108 h=>?_;cases h)<;>refine xL 109 ζb ?_<;>refine ζt 2 ζ5 ?_<;>refine xL 3 ζc (xL 4 ζc ?_)<;>refine ζd ?_)
                   refine ZfA (RdH b (c::m) p) (Tryz.results179) (.cell (k:=5) 2 kR rfl rfl (Xa rfl) (by decide) rfl) (.tmp rfl) (.tmp rfl) ⟨rfl,trivial⟩ fun V V1 V2 h1 h2=>?_
                   cases h1;cases h2;rw [hlex,if_neg (by omega),hx];exact ⟨⟨V,rfl⟩,rfl,rfl⟩))))))
       · first
         |exact bN hb54
         | (
          have hdb:ZeO c=false:=hb54;refine nav ?_;(refine ζa ?_<;>refine xL 111 ζb (xL 112 ζY (xL 110 ζc ?_))<;>refine ζd ?_)
          (first|refine cCd ?_ ?_|refine cC ?_ ?_)<;>intro hb110
          · first
            |exact bN hb110
            | (
             have hc34:c=34:=UInt8.toNat_inj.1 (by have:(c.toNat:Int)=34:=hb110;show c.toNat=34;omega);have hlex:ZjC (c::m)=(match ZbG m with| .err e=> .err e| .ok n t=> .ok 3 t 0 (n+1)):=by
              rw [ZjC,if_neg (by rw [hlb];exact X7),if_neg (by rw [hdb];exact X7),if_pos (by rw [hc34];rfl)]
              cases ZbG m<;>rfl
             have hl118:=ZoZ c m (by omega);refine nav ?_;(refine ζa ?_<;>refine xL 114 ζb (xL 115 (ζQ 1000) (xL 116 (ζe 1000 Zau) ?_))<;>(refine yL 117 (ζk 1000 Zbm) fun v117 h=>?_;cases h)<;>(rcases hlt:ZbG m with ⟨n,t⟩|e<;>rw [hlt] at hl118 hlex<;>dsimp only [ltP] at hl118 hlex<;>(refine cP 118 (cA (Tryz.call224) hl118) fun va118 vb118 hva118 hvb118=>?_;cases hva118;cases hvb118)<;>(try (rcases Zh5 hlt with rfl|rfl)))<;>refine xL 113 ζb (xL 119 ζl (xL 120 ζl (xL 11 ζc (xL 12 ζc ?_))))<;>refine ζd ?_)<;>(
              (refine ζa ?_<;>refine xL 121 ζb ?_<;>(first|refine xL 122 (Zrb true) ?_|refine xL 122 (Zrb false) ?_)<;>refine ζd ?_)
              (first|refine cCd ?_ ?_|refine cC ?_ ?_)<;>intro hb122
              · first
                |exact bN hb122
                | (
                 refine nav ?_;(refine ζa ?_<;>(refine yL 123 (ζm 5 ζ5) fun v123 h=>?_;cases h)<;>refine xL 124 ζb ?_<;>refine ζt 2 ζ5 ?_<;>refine xL 3 ζc (xL 4 ζc ?_)<;>refine ζd ?_)
                 refine ZfA (RdH b (c::m) p) (Tryz.results179) (.cell (k:=5) 2 kR rfl rfl (Xa rfl) (by decide) rfl) (.tmp rfl) (.tmp rfl) ⟨rfl,trivial⟩ fun V V1 V2 h1 h2=>?_
                 cases h1;cases h2;rw [hlex];exact ⟨⟨V,rfl⟩,rfl,rfl⟩)
              · first
                |exact bN hb122
                | (
                 refine nav ?_;have hll:=Zfc m hlt;(have htk:(c::m).take ((n:Int)+1).toNat=34::m.take n:=by rw [show ((n:Int)+1).toNat=n+1 by omega,Vz,hc34]);have hun:AF Tryz.prog 225 [pB ((c::m).take ((n:Int)+1).toNat)] (· = .tup [pB t,pInt 0]):=by
                  rw [htk];refine Zo5 (m.take n) t (by rw [Xt];omega) ?_;rw [ZlR m hlt,Xt,XV hll.2.1]
                 (refine ζa ?_<;>refine xL 126 ζb (xL 127 (ζQ 1000) (xL 128 (ζe 1000 Zau) ?_))<;>(refine yL 129 (ζk 1000 Zbm) fun v129 h=>?_;cases h)<;>refine xL 130 ζb (xL 131 (Zq3 Tryz.underlying9) ?_)<;>(refine cP 132 (cA Tryz.call225 (hun)) fun va132 vb132 hva132 hvb132=>?_;cases hva132;cases hvb132)<;>refine xL 125 ζb (xL 133 ζl (xL 134 ζl (xL 13 ζc (xL 12 ζc ?_))))<;>refine ζd ?_)
                 (refine ζa ?_<;>refine xL 135 ζb (xL 136 (ζe 5 ZcG) ?_)<;>refine Zb7 5 Zfi Zfj ?_<;>refine xL 137 (ζe 5 ZeT) ?_<;>refine Zb7 5 Zbm ZlQ ?_<;>refine ζd ?_)
                 (refine ζa ?_<;>(refine yL 138 (ζm 5 ζ5) fun v138 h=>?_;cases h)<;>refine xL 139 ζb (xL 140 ζb ?_)<;>refine ζt 2 ζ5 ?_<;>refine xL 3 ζc (xL 4 ζc ?_)<;>refine ζd ?_)
                 refine ZfA (RdH b (c::m) p) (Tryz.results179) (.cell (k:=5) 2 kR rfl rfl (Xa rfl) (by decide) rfl) (.tmp rfl) (.tmp rfl) ⟨rfl,trivial⟩ fun V V1 V2 h1 h2=>?_
                 cases h1;cases h2;rw [hlex];exact ⟨⟨V,rfl⟩,rfl,rfl⟩)))
          · first
            |exact bN hb110
            | (
             have hlex:ZjC (c::m)=(match ZsN (c::m) with|some x=> .ok 4 x 0 x.length|none=> .err 3):=by
              rw [ZjC,if_neg (by rw [hlb];exact X7),if_neg (by rw [hdb];exact X7),if_neg (by omega)]
              cases ZsN (c::m)<;>rfl
             have hl146:=Zsa (c::m) (by omega);refine nav ?_;(refine ζa ?_<;>refine xL 142 ζb (xL 143 (ζQ 1000) (xL 144 (ζe 1000 Zau) ?_))<;>(refine yL 145 (ζk 1000 Zbm) fun v145 h=>?_;cases h)<;>(rcases hsy:ZsN (c::m) with _|x<;>rw [hsy] at hl146 hlex<;>dsimp only [Option.getD_none,Ua,Option.isSome_none,Option.isSome_some] at hl146 hlex<;>(refine cP 146 (cA (Tryz.call226) hl146) fun va146 vb146 hva146 hvb146=>?_;cases hva146;cases hvb146))<;>refine xL 141 ζb (xL 147 ζl (xL 148 ζl (xL 14 ζc (xL 15 ζc ?_))))<;>refine ζd ?_)<;>(
              (refine ζa ?_<;>refine xL 149 ζb (xL 150 Zaw ?_)<;>refine ζd ?_)
              (first|refine cCd ?_ ?_|refine cC ?_ ?_)<;>intro hb150
              · first
                |exact bN hb150
                | (
                 refine nav ?_;(refine ζa ?_<;>(refine yL 151 (ζm 5 ζ5) fun v151 h=>?_;cases h)<;>refine ζt 2 ζ5 ?_<;>refine xL 3 ζc (xL 4 ζc ?_)<;>refine ζd ?_)
                 refine ZfA (RdH b (c::m) p) (Tryz.results179) (.cell (k:=5) 2 kR rfl rfl (Xa rfl) (by decide) rfl) (.tmp rfl) (.tmp rfl) ⟨rfl,trivial⟩ fun V V1 V2 h1 h2=>?_
                 cases h1;cases h2;rw [hlex];exact ⟨⟨V,rfl⟩,rfl,rfl⟩)
              · first
                |exact bN hb150
                | (
                 refine nav ?_;(refine ζa ?_<;>refine xL 152 ζb (xL 153 (ζe 5 ZcG) ?_)<;>refine Zb7 5 Zfi Zfj ?_<;>refine xL 154 (ζe 5 ZeT) ?_<;>refine Zb7 5 Zbm ZlQ ?_<;>refine ζd ?_)
                 (refine ζa ?_<;>(refine yL 155 (ζm 5 ζ5) fun v155 h=>?_;cases h)<;>refine xL 156 ζb (xL 157 (Zbe Tryz.underlying9) ?_)<;>refine ζt 2 ζ5 ?_<;>refine xL 3 ζc (xL 4 ζc ?_)<;>refine ζd ?_)
                 refine ZfA (RdH b (c::m) p) (Tryz.results179) (.cell (k:=5) 2 kR rfl rfl (Xa rfl) (by decide) rfl) (.tmp rfl) (.tmp rfl) ⟨rfl,trivial⟩ fun V V1 V2 h1 h2=>?_
                 cases h1;cases h2;rw [hlex,←Zao x];exact ⟨⟨V,rfl⟩,rfl,rfl⟩))))))
theorem Zcj:AggT Tryz.prog 110 2=true:=by kernel_rfl
theorem Zja:AggT Tryz.prog 166 5=true:=by kernel_rfl
theorem Zkq:ElT Tryz.prog 162 166 5 48 (.agg #[(.int .i64 0),(.string ByteArray.empty),(.int .i64 0),(.int .i64 0),(.int .i64 0)]):=⟨Tryz.underlying162,by kernel_rfl,rfl,by decide⟩
theorem Zhn:FldT Tryz.prog 166 0 0=true:=by kernel_rfl
theorem Zho:FldT Tryz.prog 221 1 1=true:=by kernel_rfl
theorem Zrc:NoAgg Tryz.prog 3=true:=by kernel_rfl
theorem Zsn:SlT Tryz.prog 162 166 5=true:=by kernel_rfl
theorem Zso:ZaZ Tryz.prog 221=some ((.agg #[(.string ByteArray.empty),(.int .i64 0),(.int .i64 0)]),[(0,1),(1,2)]):=by kernel_rfl
theorem ZgW:ZaZ Tryz.prog 110=some ((.agg #[(.int .i64 0),(.int .i64 0)]),([0,1]:List Nat).map fun o=>(o,1)):=by kernel_rfl
theorem Zsp:ZeroT Tryz.prog 110 (.agg #[(.int .i64 0),(.int .i64 0)]):=by unfold ZeroT;kernel_rfl
theorem Zsq:ZeroT Tryz.prog 166 (.agg #[(.int .i64 0),(.string ByteArray.empty),(.int .i64 0),(.int .i64 0),(.int .i64 0)]):=by unfold ZeroT;kernel_rfl
def cTk (t:Tk):List PV:=[pInt t.kind,pB t.text,pInt t.n,pInt t.ln,pInt t.col]
def ZhB (l:List Tk):List PV:=l.flatMap cTk
def ZvV (l:List Tk):PV:= .sl l.length (ZhB l)
theorem ZvW (t:Tk):(cTk t).length=5:=rfl
theorem Zfk {l:List Tk} {k:Nat} {x:Tk} (h:l[k]? =some x):((ZhB l).drop (k*5)).take 5=cTk x:=Zad ZvW l k x h
theorem Zjb {l:List Tk} {k:Nat} {x:Tk} (h:l[k]? =some x):k*5+5≤(ZhB l).length:=ZaE ZvW h
theorem ZvX (l:List Tk) (t:Tk):ZhB (l++[t])=ZhB l++cTk t:=by unfold ZhB;rw [XX];simp
theorem ZvY (e n:Nat) (l:List Tk) (hn:n=l.length):share (.own e 5 n (ZhB l))=ZvV l:=by
 subst hn
 rw [share,Zac,ZhB,Uv]
 rfl
def tk3 (r:List Tk×(Int×Int)×Int):PV:= .tup [ZvV r.1, .agg [pInt r.2.1.1,pInt r.2.1.2],pInt r.2.2]
def ZBI (l:List UInt8):PV:=if 16384<l.length then tk3 ([],(0,0),5) else tk3 (toksB l (1,1) [])
theorem Zo9 {p:Int×Int} (h1:1≤p.1) (h2:1≤p.2):∀l:List UInt8,1≤(Za2 p l).1∧1≤(Za2 p l).2∧(Za2 p l).1≤p.1+l.length∧(Za2 p l).2≤p.2+l.length
 |[]=>by simp only [Za2,List.foldl_nil,Xs];omega
 | c ::l=>by
   have hb:1≤(adv p c).1∧1≤(adv p c).2∧(adv p c).1≤p.1+1∧(adv p c).2≤p.2+1:=by
    unfold adv;split<;>simp only<;>omega
   have:=Zo9 (p:=adv p c) hb.1 hb.2.1 l;rw [show Za2 p (c::l)=Za2 (adv p c) l from rfl,Xc];omega
structure TokI (l l':List UInt8) (p:Int×Int) (out:List Tk):Prop where
 eq:toksB l' p out=toksB l (1,1) []
 len:l'.length≤l.length
 suf:∀c∈l',c∈l
 a1:1≤p.1
 a2:p.1+l'.length≤1+l.length
 b1:1≤p.2
 b2:p.2+l'.length≤1+l.length
 out:out.length≤4000
set_option maxHeartbeats 4000000 in
theorem Zsr (l : List UInt8) (hA:(∃c∈l,ZeO c=true)→Zyy Tryz.prog 223) (hb:l.length≤1000000000):AF Tryz.prog 127 [pB l] (· =ZBI l):=by
 have hsz:=Zao l
 refine AF.of_body 57 Tryz.func127 rfl Tryz.ntmps127 (Xa rfl) ?_
 intro w0 M0 vs hl hv
 obtain ⟨v0,rfl⟩:=ZcP hl
 obtain rfl:=hv 0 _ _ rfl rfl
 clear hl hv
 refine nav ?_
 (refine ζa ?_<;>refine xL 2 ζc ?_<;>refine ζs [(.int .i64 0),(.int .i64 0)] 2 3 Zsp fun h3=>?_<;>refine xL 4 ζc ?_<;>refine ζd ?_)
 (refine ζa ?_<;>refine xL 10 ζb (xL 11 (Zbe Tryz.underlying9) (xL 12 ZaQ ?_))<;>refine ζd ?_)
 (first|refine cCd ?_ ?_|refine cC ?_ ?_)<;>intro hb12
 · first
   |exact bN hb12
   | (
    refine nav ?_;(refine ζa ?_<;>refine xL 13 (ζB ZgW) (xL 2 ζc ?_)<;>refine ζt 3 Zcj ?_<;>refine xL 4 ζc ?_<;>refine ζd ?_)
    refine Zcr (Zc9 (t:=2) (p':= .sl 0 []) rfl Rr.nil) fun _=>?_;refine ZlP (Tryz.results127) (.tmp rfl) (.cell (k:=2) 3 kR rfl rfl (Xa rfl) (by decide) rfl) (.tmp rfl) ?_;rw [ZBI,if_pos (by omega)];rfl)
 · first
   |exact bN hb12
   | (
    refine nav ?_;(refine ζa ?_<;>refine xL 14 ζb (xL 15 (ζB ZgW) ?_)<;>(refine yL 16 (Zef Zso) fun v16 h=>?_;cases h)<;>refine Zo3 17 3 fun b=>?_<;>refine xL 5 ζc ?_<;>refine ζd ?_)
    refine ζC (ζI (l:=17) (p':= .own 221 3 1 [pB l,pInt 1,pInt 1]) rfl rfl) fun _=>?_;refine ζC (ζJ (l:=17) 1000 rfl rfl) fun _=>?_;(refine ζa ?_<;>refine xL 6 ζc ?_<;>refine ζd ?_)
    refine ζC (Zek 200 166 5 rfl) fun _=>?_;refine ζD (ι:={q:(List UInt8×(Int×Int))×(Value×List Tk)//TokI l q.1.1 q.1.2 q.2.2∧q.2.1.oneCell'=true}) (fun k=>⟨[(3,_,_),(5,_,_),(6,k.1.2.1, .val k.1.2.1)],[(3,_,_),(1000,Zb4 b, .own 221 3 1 [pB k.1.1.1,pInt k.1.1.2.1,pInt k.1.1.2.2]),(200,k.1.2.1, .own 166 5 k.1.2.2.length (ZhB k.1.2.2))]⟩) (fun k=>k.1.1.1.length) ⟨((l,(1,1)),(.slice none 0 0,[])),⟨rfl,Xb _,fun _ h=>h,Int.le_refl 1,by dsimp only;omega,Int.le_refl 1,by dsimp only;omega,Xf _⟩,rfl⟩ (fun a w H=>H.weaken ⟨rfl,rfl,rfl,trivial⟩ ⟨rfl,rfl,rfl,trivial⟩) ?_;rintro ⟨⟨⟨l',p⟩,ov,out⟩,hI,hov⟩;dsimp only;dsimp only at hI hov;have hone:En.one (PV.val ov)=true:=hov;have hle:=hI.len;have ha1:=hI.a1;have ha2:=hI.a2;have hb1:=hI.b1;have hb2:=hI.b2;have hol:=hI.out;have heq:=hI.eq;rw [Zyj] at heq;obtain ⟨n,hn⟩:∃n,n=ZaU false l':=⟨_,rfl⟩;have hnl:=ZlB l' false;have hbd:=Zo9 ha1 hb1 (l'.take n);rw [Xt] at hbd;have hdl:(l'.drop n).length=l'.length-n:=XQ ..;have hblk:=Zsl b l' p (by omega) (by omega) (by omega) (by omega) (by omega);rw [←hn] at hblk heq hnl;obtain ⟨p1,hp1⟩:∃p1,p1=Za2 p (l'.take n):=⟨_,rfl⟩;rw [←hp1] at hblk hbd heq;have hnx:=ZyA b (l'.drop n) (fun ⟨c,hc,hd⟩=>hA ⟨c,hI.suf c (Ui hc),hd⟩) p1 (by omega);have hsk:∀k,k≤(l'.drop n).length→AFh False Tryz.prog 180 [(0,Zal b, .val (Zal b)),(1, .int .i64 k,pInt k)] (RdH b (l'.drop n) p1) (fun _ _ h=>h=RdH b (l'.drop (n+k)) (Za2 p (l'.take (n+k)))):=fun k hk=>by
     have:=Zq4 b (l'.drop n) p1 k hk (by omega) (by omega) (by omega) (by omega) (by omega);rw [XM,hp1,Zra,←hp1] at this;exact this
    refine nav ?_;(refine ζa ?_<;>refine xL 18 ζb ?_<;>(refine Zaa [3,200] 19 (Tryz.call178) hblk (fun v19 p19 h19 hR19=>?_);subst hR19;dsimp only [RdH])<;>refine ζd ?_)
    (refine ζa ?_<;>refine xL 21 ζb ?_<;>(rcases hlx:ZjC (l'.drop n) with ⟨kd,tx,nn,len⟩|e<;>rw [hlx] at hnx heq<;>dsimp only at heq<;>(refine Zaa [3,200] 22 (Tryz.call179) hnx ?_;rintro _ _ _ ⟨⟨V22,rfl⟩,rfl,rfl⟩;dsimp only [RdH,ZEn,ZEm])<;>(try (have he0:=ZvU hlx))<;>(try (have hlo:=ZlC hlx)))<;>refine xL 20 ζb (xL 23 ζl (xL 24 ζl (xL 25 ζl ?_)))<;>refine ζs [(.int .i64 0),(.string ByteArray.empty),(.int .i64 0),(.int .i64 0),(.int .i64 0)] 5 7 Zsq fun h7=>?_<;>refine ζt 7 Zja ?_<;>refine xL 8 ζc (xL 9 ζc ?_)<;>refine ζd ?_)<;>(
     (refine ζa ?_<;>refine xL 26 ζb ?_<;>(first|refine xL 27 (Zrb true rfl rfl rfl (decide_eq_true he0)) ?_|refine xL 27 (Zrb false) ?_)<;>refine ζd ?_)
     (first|refine cCd ?_ ?_|refine cC ?_ ?_)<;>intro hb27
     · first
       |exact bN hb27
       | (
        refine nav ?_;(refine ζV (fun i=>([]:List Nat).elem i) [1000] kR ?_<;>refine xD 0 28 rfl ζb ?_<;>refine xD 1 29 rfl (ζQ 1000) ?_<;>refine xD 2 30 rfl (ζe 1000 Zho) ?_<;>(refine yD 3 31 rfl (ζm 1000 Zcj) fun v31 h=>?_;cases h)<;>refine xD 4 32 rfl ζb ?_<;>refine xE 5 2 rfl ζc ?_<;>(refine ζj 6 kR ?_)<;>(refine ζg rfl fun w9 M9 N9 DQ back=>?_)<;>refine ζt 3 Zcj ?_<;>refine ζf (back _ (nrm ?_))<;>refine xE 7 4 rfl ζc ?_<;>refine Zae kR (nav ?_)<;>try dsimp only)
        refine Zcr (Zc9 (t:=2) (p':= .sl 0 []) rfl Rr.nil) fun _=>?_;refine ZlP (Tryz.results127) (.tmp rfl) (.cell (k:=2) 3 kR rfl rfl (Xa rfl) (by decide) rfl) (.tmp rfl) ?_;rw [ZBI,if_neg (by omega),←heq];rfl)
     · first
       |exact bN hb27
       | (
        refine nav ?_;(refine ζa ?_<;>refine xL 33 (ζe 7 Zhn) ?_<;>(refine yL 34 (ζk 7 Zrc) fun v34 h=>?_;cases h)<;>refine xL 35 ZaN (xL 36 ζb ?_)<;>(refine bLd 36 (fun hb36=>?_) (fun hb36=>?_)<;>(first|refine kL 37 ?_|refine xL 37 ζb ?_))<;>(first|refine kL 38 ?_|refine xL 38 (Zbw 200 Zsn) ?_)<;>(first|refine kL 39 ?_|refine xL 39 ζY ?_)<;>refine xL 40 ζv ?_<;>refine ζd ?_)<;>(
         (first|refine cCd ?_ ?_|refine cC ?_ ?_)<;>intro hb40
         · first
           |exact bN hb40
           | (
            refine nav ?_;(refine ζV (fun i=>([]:List Nat).elem i) [1000] kR ?_<;>refine xD 0 41 rfl ζb ?_<;>refine xD 1 42 rfl (ζQ 1000) ?_<;>refine xD 2 43 rfl (ζe 1000 Zho) ?_<;>(refine yD 3 44 rfl (ζm 1000 Zcj) fun v44 h=>?_;cases h)<;>refine xE 4 2 rfl ζc ?_<;>(refine ζj 5 kR ?_)<;>(refine ζg rfl fun w9 M9 N9 DQ back=>?_)<;>refine ζt 3 Zcj ?_<;>refine ζf (back _ (nrm ?_))<;>refine xE 6 4 rfl ζc ?_<;>refine Zae kR (nav ?_)<;>try dsimp only)
            refine Zcr (Zc9 (t:=2) (p':= .sl 0 []) rfl Rr.nil) fun _=>?_;refine ZlP (Tryz.results127) (.tmp rfl) (.cell (k:=2) 3 kR rfl rfl (Xa rfl) (by decide) rfl) (.tmp rfl) ?_;rw [if_pos ⟨by omega,by omega⟩] at heq;rw [ZBI,if_neg (by omega),←heq];rfl)
         · first
           |exact bN hb40
           | (
            refine nav ?_;rw [if_neg (by omega)] at heq;(refine ζa ?_<;>refine xL 45 ζb ?_<;>(refine yL 46 (ζm 7 Zja) fun v46 h=>?_;cases h)<;>refine Zbi 47 Zkq fun h47 ho47=>?_<;>(refine ZbH 200 47 48 Zkq fun h48 ho48=>?_;refine ζq (ζJ (l:=48) 200 rfl rfl) fun _=>?_;refine ζq (ζI (l:=200) rfl (show PV.own 166 5 (out.length+1) (ZhB out++cTk (Tk.mk kd tx nn p1.1 p1.2))= .own 166 5 (out++[Tk.mk kd tx nn p1.1 p1.2]).length (ZhB (out++[Tk.mk kd tx nn p1.1 p1.2])) by rw [ZvX,Xd];rfl)) fun _=>?_)<;>refine xL 6 ζc ?_<;>refine ζd ?_)
            (refine ζa ?_<;>refine xL 49 (ζe 7 Zhn) ?_<;>(refine yL 50 (ζk 7 Zrc) fun v50 h=>?_;cases h)<;>refine xL 51 ζY ?_<;>refine ζd ?_)
            (first|refine cCd ?_ ?_|refine cC ?_ ?_)<;>intro hb51
            · first
              |exact bN hb51
              | (
               refine nav ?_;(refine ζa ?_<;>refine xL 52 ζb (xL 53 (ζB ZgW) (xL 2 ζc ?_))<;>refine ζt 3 Zcj ?_<;>refine xL 4 ζc ?_<;>refine ζd ?_)
               refine Zcr (En.freeze (l:=200) (t:=2) rfl rfl) fun _=>?_;refine ZlP (Tryz.results127) (.tmp rfl) (.cell (k:=2) 3 kR rfl rfl (Xa rfl) (by decide) rfl) (.tmp rfl) ?_;rw [if_pos (by omega)] at heq;rw [ZBI,if_neg (by omega),←heq,ZvY _ _ _ rfl];rfl)
            · first
              |exact bN hb51
              | (
               rw [if_neg (by omega)] at heq;(have hlne:l'.drop n≠[]:=fun h=>by have:=hlo.endk.1 h;omega);have hl1:=hlo.pos hlne;have hl2:=hlo.le;have hbd2:=Zo9 ha1 hb1 (l'.take (n+len));rw [Xt] at hbd2;refine nav ?_;(refine ζa ?_<;>refine xL 54 ζb (xL 55 ζb ?_)<;>(refine Zaa [3,7,200] 56 (Tryz.call180) (hsk len hl2) (fun v56 p56 h56 hR56=>?_);subst hR56;dsimp only [RdH])<;>refine ζd ?_)
               refine ζh (
                ⟨((l'.drop (n+len),Za2 p (l'.take (n+len))),(h48,out++[Tk.mk kd tx nn p1.1 p1.2])),⟨heq,by dsimp only;rw [XQ];omega,fun c hc=>hI.suf c (Ui hc),hbd2.1,by dsimp only;rw [XQ];omega,hbd2.2.1,by dsimp only;rw [XQ];omega,by dsimp only;rw [Xd,Xz];omega⟩,ho48⟩
                ) (by dsimp only;rw [XQ];omega) ⟨rfl,rfl,rfl,trivial⟩ ⟨rfl,rfl,rfl,trivial⟩))))))
theorem ZvZ {o:Int} (h:o=3∨o=4∨o=5∨o=6):ZsO (Zb3 o).data.toList=o:=by
 rcases h with rfl|rfl|rfl|rfl<;>decide
theorem map_cons {α β:Type} {g:α→β} {l:List α} {b:β} {m:List β} (h:l.map g=b::m):∃a l',l=a::l'∧g a=b∧l'.map g=m:=by
 cases l with
 |nil=>cases h
 |cons a l'=>rw [Xu,List.cons.injEq] at h;exact ⟨a,l',rfl,h.1,h.2⟩
def awA:List UInt8:=[115,101,113,40,97,44,32,115,101,113,40,40,41,44,32,120,111,114,40,99,44,32,98,44,32,99,41,41,44,32,97,110,100,40,40,41,41,41]
def awB:List UInt8:=[108,111,111,112,40,108,111,111,112,40,97,44,32,98,41,44,32,40,41,41]
def awC:List UInt8:=[115,101,113,40,97]
def awD:List UInt8:=[108,111,111,112,40,97,41]
def awS:List UInt8:=[115,101,113,40,97,44,32,120,111,114,40,98,44,32,99,41,41]
theorem ZD4:(Zgj awA).2=((0,0),0):=by decide+kernel
theorem ZD5:Zda (ZaK (Zgj awA).1)=awS:=by decide+kernel
theorem ZD6:(Zgj awB).2=((0,0),0):=by decide+kernel
theorem ZD7:szT (ZaK (Zgj awB).1)=5:=by decide+kernel
theorem ZDi:Zen (ZaK (Zgj awB).1)=true:=by decide+kernel
theorem ZDj:Zen (ZaK (Zgj awA).1)=true:=by decide+kernel
theorem ZD8:(Zgj awC).2=((1,6),4):=by decide+kernel
theorem ZD9:(Zgj awD).2=((1,7),3):=by decide+kernel
end Go.Proofs.YtgfabnhpllkebaaGreatDoor
