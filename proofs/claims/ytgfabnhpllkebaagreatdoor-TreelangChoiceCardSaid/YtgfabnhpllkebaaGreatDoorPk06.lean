/-
  Walks: the reader of trees: a tree is read, or the token is thrown that cannot stand.
  The engine: deferred calls that recover. No program in sight.
  Walks: reading a whole list of tokens: the panic is caught.
  Walks: a text is parsed.
  The engine, last part: arguments of whatever shape, as they came in, read as plain data; and the frame of a law's row. No program in sight.
  The engine: arguments whose types lead back to themselves, read as plain data, by the depth of the reading. No program in sight.
  Process trees: how the arguments of the laws read; the examples of the chapter (layer 19).
  Walks: process trees: the reference's normal forms.
  Walks: process trees: the reference's normal forms, second part.
  The law PtreeNormal: Normal returns the normal form of the reference, or its error, whatever the tree.
  Process trees: turned trees have the same normal form; a normal form is its own, and has the tree's activities. Plain Lean.
  The engine: a cell that holds the value of a slot that is read as shared is read so too. No program in sight.
  The engine: a row of strings is sorted by the library. No program in sight.
  Process trees: the activities as a sorted list; parts of valid trees; valid trees are not great. Plain Lean.
  Walks: process trees: the activities.
  The keys of a map, sorted (maps.Keys, slices.Sorted): rules for a walk; the shelf's contracts.
  Plain laws: numbering things in the order in which they are met. No program in sight.
  Walks: directly-follows graphs: which are valid (package dfg).
  Plain laws: maps to numbers as lists; counts and pairs in order. No program in sight.
  Walks: comparing of counts and pairs where what is drawn only grows; dfg.list.
  Plain laws: what dfg.Make counts. No program in sight.
  Walks: dfg.newCounter, the counter's graph.
  Walks: slices.Clone and slices.DeleteFunc over counts and follows.
  Walks: slices.Clone over counts and follows; dfg.Threshold.
  Walks: automata: comparing moves, which automata are valid.
-/
import Derived.Recover
import Derived.WalkKit
import Derived.ProofKit
import Derived.OpenShut
import Derived.ShutString
import Derived.ChangeOld
import Derived.Below
import Derived.Carry
import Derived.Deep.Slices
import Derived.Sort.EncStr
import Derived.Test.YtgfabnhpllkebaaGreatDoorPk05
import Derived.Test.YtgfabnhpllkebaaGreatDoorPk02
import Derived.Test.YtgfabnhpllkebaaGreatDoorPk03
import Derived.Test.YtgfabnhpllkebaaGreatDoorMShelfU
import Derived.Test.YtgfabnhpllkebaaGreatDoorMShelfW
import Derived.Test.YtgfabnhpllkebaaGreatDoorPk04
import Derived.Test.YtgfabnhpllkebaaGreatDoorMShelfC
namespace Go.Proofs.YtgfabnhpllkebaaGreatDoor
open Go.RowKit Go.Cb Go.En
set_option linter.all false
set_option maxRecDepth 100000
theorem EndL.cons {l:List Tk} (h:EndL l):∃x m,l=x::m:=by
 cases l with
 |nil=>exact absurd rfl h.ne
 |cons x m=>exact ⟨x,m,rfl⟩
end Go.Proofs.YtgfabnhpllkebaaGreatDoor
namespace Go.En
open Go.RowKit Go.Cb
set_option linter.all false
section
variable {P:Program} {c:Ctx} {ops:Array Oper} {Q:Exit→Act→World→Prop} {rest:List Oper} {sL hP:List (Nat×Ent)} {o:Oper}
end
section
variable {P:Program}
def AFD (P:Program) (f:FuncId) (caps:List Value) (u u':FrameMode) (h h':List (Nat×Ent)):Prop:=
 ∀(M N:BS) (w:World) (F:Nat→BS),HeapF ⟨w,M,N,0,False,[]⟩ h F w→CallsD P f caps.toArray u w fun e um w'=>um=u'∧∃F',e= .returned (.tuple #[])∧HeapF ⟨w,M,N,0,False,[]⟩ h' F' w'
def ZAW (c:Ctx) (h':List (Nat×Ent)) (e:Exit) (a:Act) (w:World):Prop:=(e= .normal∨e= .ret)∧a.defers=[]∧∃F,HeapF c h' F w
theorem AFD.of_body {f:FuncId} {fn:Func} {rid:Nat} {o0 o1:Oper} {rest:Code} {caps:List Value} {u u':FrameMode} {h h':List (Nat×Ent)} (v:Value) (t0 t1 nt:Nat) (hf:P.funcs[f]? =some fn) (hb:fn.body=some (.seq (.region rid #[o0,o1] false) rest)) (hnt:fn.ntmps=nt) (hr:fn.results= #[]) (h0:o0.op= .call {callee:= .builtin .recover,args:= #[],argTypes:= #[]}) (g0:o0.guard=none) (d0:o0.dst=some t0) (h1:o1.op= .assign (.tmp t0)) (g1:o1.guard=none) (d1:o1.dst=some t1) (b0:t0<nt) (b1:t1<nt) (bc:caps.length≤nt)
 (hrc:∀(c₀:Frame) (cs:List Frame),c₀.mode=u→(match recoverD (c₀::cs) with|some (x,cs')=>x=v∧cs'={c₀ with mode:=u'}::cs|none=>v= .nilIface∧u'=u))
 (H:∀(w0:World) (M0 N0:BS),aC P ⟨w0,M0,N0,nt,False,[]⟩ rest (ZAW ⟨w0,M0,N0,nt,False,[]⟩ h') ⟨put t1 (v, .val v) (put t0 (v, .val v) (ZbK 0 caps (caps.map .val))),h⟩):AFD P f caps u u' h h':=fun M N w F HF=>by
 subst hnt
 refine callsD_of_wpS hf hb fun c₀ cs hu=>?_
 have hw0:∀y,Region.wanted o0 y=true:=fun y=>by unfold Region.wanted;rw [g0]
 have hw1:∀y,Region.wanted o1 y=true:=fun y=>by unfold Region.wanted;rw [g1]
 have hrun:∀(ρ:Operand→Value) w,(execOp ρ o0).run P w= .ok .recover w:=fun ρ w=>by simp [execOp,h0,resolve,invoke,builtin]
 have hHold:HoldsF ⟨w,M,N,fn.ntmps,False,[]⟩ ⟨ZbK 0 caps (caps.map .val),h⟩ F {tmps:=caps.toArray++Array.replicate (fn.ntmps-caps.toArray.size) undef,defers:=[]} w:=by
  refine ⟨HF.nt rfl rfl rfl id HF.m0,fun t v p ht=>?_,?_,rfl⟩
  · obtain ⟨_,g1,g2⟩:=ZeQ _ _ 0 t v p ht
    simp only [Nat.sub_zero] at g1 g2
    rw [List.getElem?_map,g1] at g2
    simp at g2
    subst g2
    refine ⟨?_, .val _⟩
    have:=ζe g1
    rw [Array.getElem?_append_left (by simpa using this)]
    simpa using g1
  · simp;omega
 generalize hA:({tmps:=caps.toArray++Array.replicate (fn.ntmps-caps.toArray.size) undef,defers:=[]}:Act)=A at hHold ⊢
 have H1:=hHold.put (d:=t0) (v:=v) (p:= .val v) b0 (.val _)
 have H2:=H1.put (d:=t1) (v:=v) (p:= .val v) b1 (.val _)
 refine wpS_seq (wpS_region ?_)
 have hrange:List.range (#[o0,o1]:Array Oper).size=[0,1]:=rfl
 rw [hrange]
 have hev:(A.put (some t0) v).eval (.tmp t0)=v:=by
  have:=(H1.sl t0 v (.val v) (by rw [ζQ])).1
  simp [Act.eval,Array.getD_eq_getD_getElem?,this]
 have hfin:∀cs1,cs1={c₀ with mode:=u'}::cs→rest.wpS P (bodyPostS P fn c₀ cs (fun e um w'=>um=u'∧∃F',e= .returned (.tuple #[])∧HeapF ⟨w,M,N,0,False,[]⟩ h' F' w')) ((A.put (some t0) v).put (some t1) v) cs1 w:=fun cs1 hcs=>by
  refine wpS_of_wp (wp_mono (H w M N _ w ⟨F,H2⟩) fun e a' w' ⟨he,hd,F',hF'⟩=>?_)
  have hres:(results fn a'.tmps).run P w'= .ok (.tuple #[]) w':=by simp [results,hr]
  have key:a'.defers=[]∧∃u'',cs1={c₀ with mode:=u''}::cs∧∃x,(results fn a'.tmps).run P w'= .ok x w'∧(u''=u'∧∃F',Ending.returned x= .returned (.tuple #[])∧HeapF ⟨w,M,N,0,False,[]⟩ h' F' w'):=
   ⟨hd,u',hcs,_,hres,rfl,F',rfl,hF'.nt rfl rfl rfl id hF'.m0⟩
  rcases he with rfl|rfl
  · exact key
  · exact key
 have hstep1:∀cs1,cs1={c₀ with mode:=u'}::cs→wpOpsS P #[o0,o1] (Exit.thenS (rest.wpS P (bodyPostS P fn c₀ cs (fun e um w'=>um=u'∧∃F',e= .returned (.tuple #[])∧HeapF ⟨w,M,N,0,False,[]⟩ h' F' w'))) (bodyPostS P fn c₀ cs (fun e um w'=>um=u'∧∃F',e= .returned (.tuple #[])∧HeapF ⟨w,M,N,0,False,[]⟩ h' F' w'))) [1] (A.put (some t0) v) cs1 w:=fun cs1 hcs=>by
  have hr1:(execOp (A.put (some t0) v).eval o1).run P w= .ok (.value v) w:=by simp only [execOp,h1];rw [hev];rfl
  simp only [wpOpsS,List.getElem?_toArray,List.getElem?_cons_succ,List.getElem?_cons_zero,hw1,if_true,hr1,Oper.upon,d1]
  exact hfin cs1 hcs
 have h00:=hrc c₀ cs hu
 rw [wpOpsS]
 simp only [List.getElem?_toArray,List.getElem?_cons_zero,hw0,if_true,hrun,d0]
 cases hrec:recoverD (c₀::cs) with
 | none=>
   rw [hrec] at h00
   obtain ⟨rfl,rfl⟩:=h00
   refine hstep1 _ ?_
   subst hu
   rfl
 | some x=>
   rw [hrec] at h00
   obtain ⟨x,cs'⟩:=x
   obtain ⟨rfl,h01⟩:=h00
   exact hstep1 _ h01
end
section
variable {P:Program} {c:Ctx} {sL hP:List (Nat×Ent)}
end
section
variable {P:Program} {c:Ctx} {sL hP:List (Nat×Ent)}
end
section
variable {P:Program} {c:Ctx} {ops:Array Oper} {Q:Exit→Act→World→Prop} {rest:List Oper} {sL hP:List (Nat×Ent)} {o:Oper}
end
end Go.En
namespace Go.Proofs.YtgfabnhpllkebaaGreatDoor
open Go.RowKit Go.Cb Go.En
set_option linter.all false
set_option maxRecDepth 100000
def z3:List PV:=[.val (.int .i64 0), .val (.string ByteArray.empty), .val (.slice none 0 0)]
end Go.Proofs.YtgfabnhpllkebaaGreatDoor
namespace Go.En
open Go.RowKit Go.Cb Go.WideShapes Go.ChangeShapes Go.ChangeAt Go.Deep
set_option linter.all false
theorem ZcQ {H:Type} (P:Program) (e:TypeId) {d:DataW H} {n:Nat}:∀{l:List (DataW H)},d∈l→n∈d.weights P e→n∈DataW.weightsAll P e l
 | x::l,h,hn=>by
   rw [DataW.weightsAll,List.mem_append]
   rcases List.mem_cons.1 h with rfl|h
   · exact .inl hn
   · exact .inr (ZcQ P e h hn)
theorem Zay {H:Type} (P:Program) {d:DataW H} {t:TypeId} {n:Nat}:∀{ts:List TypeId} {l:List (DataW H)} (i:Nat),ts[i]? =some t→l[i]? =some d→n∈d.weights P t→n∈DataW.weightsEach P ts l
 | t'::ts,x::l,0,h1,h2,hn=>by
   simp at h1 h2
   subst h1 h2
   rw [DataW.weightsEach,List.mem_append]
   exact .inl hn
 | t'::ts,x::l,i+1,h1,h2,hn=>by
   rw [DataW.weightsEach,List.mem_append]
   exact .inr (Zay P i (by simpa using h1) (by simpa using h2) hn)
structure Dec (P:Program) (t:TypeId) (k:Nat) {α:Type} (enc:α→List PV) (fit:α→Prop):Prop where
 size:P.cellsOf t=k
 len:∀a,(enc a).length=k
 dec:∀{H:Type} (e:TypeId×Value→H) (w:World) (spare:Nat→Bool) (held:Bool) (fuel:Nat) (cs:List Value) (x:DataW H×List MemPlace),DataW.trod e P w 0 spare held fuel t cs=some x→(∀n∈x.1.weights P t,n≤reachBytes)→
  ∃a,fit a∧cs.length=k∧∀(i:Nat) (v:Value) (p:PV),cs[i]? =some v→(enc a)[i]? =some p→Shr (fun _=>False) w v p
section
variable {P:Program} {t:TypeId}
theorem Zge {v u:Value} {p q:PV} {w:World} (h:Shr (fun _=>False) w v p) (i:Nat) (h1:[v][i]? =some u) (h2:[p][i]? =some q):Shr (fun _=>False) w u q:=by
 cases i with
 |zero=>simp at h1 h2;subst h1 h2;exact h
 |succ i=>simp at h1
theorem Zxm (ht:P.underlying t=some (.int .i64)) (hs:P.cellsOf t=1):Dec P t 1 (fun n:Int=>[pInt n]) (fun n=> -9223372036854775808≤n∧n≤9223372036854775807) where
 size:=hs
 len:=fun _=>rfl
 dec:=fun e w spare held fuel cs x h=>by
  intro hwt
  obtain ⟨n,rfl,_,hw⟩:=DataW.trod_int ht h
  refine ⟨n,?_,rfl,fun i v p h1 h2=>Zge (.val _) i h1 h2⟩
  simpa [Lit.wf,IntKind.min,IntKind.max,IntKind.signed,IntKind.bits] using hw
theorem ZrH (ht:P.underlying t=some .string) (hs:P.cellsOf t=1):Dec P t 1 (fun s:ByteArray=>[ZaS s]) (fun s=>s.size≤140737488355328) where
 size:=hs
 len:=fun _=>rfl
 dec:=fun e w spare held fuel cs x h=>by
  intro hwt
  obtain ⟨s,rfl,rfl,hw⟩:=DataW.trod_string ht h
  have hsz:s.size≤reachBytes:=hwt s.size (by show s.size∈DataW.weights P t (.lit (.string s.data.toList));rw [DataW.weights];exact List.mem_singleton.2 (by rw [Array.length_toList];rfl))
  exact ⟨s,by unfold reachBytes at hsz;omega,rfl,fun i v p h1 h2=>Zge (.val _) i h1 h2⟩
theorem ZrI {α:Type} {e k:Nat} {enc:α→List PV} {fit:α→Prop} (ht:P.underlying t=some (.slice e)) (hs:P.cellsOf t=1) (hk:0<k) (hby:0<P.bytesOf e) (D:Dec P e k enc fit):
 Dec P t 1 (fun l:List α=>[PV.sl l.length (l.flatMap enc)]) (fun l=>l.length≤140737488355328∧∀x∈l,fit x) where
 size:=hs
 len:=fun _=>rfl
 dec := fun en w spare held fuel cs x h=>by
  intro hwt
  rcases open_slice ht h with ⟨rfl,_⟩|⟨a,len,cap,m,n,Dt,Pl,rfl,_,hl,hm,hmm,rfl,hx⟩
  · exact ⟨[],⟨by simp,by simp⟩,rfl,fun i v p h1 h2=>Zge (.emp none 0 (by unfold maxLen;omega) (fun _=>rfl)) i h1 h2⟩
  · rcases Nat.eq_zero_or_pos len with h0|h0
    · subst h0
      exact ⟨[],⟨by simp,by simp⟩,rfl,fun i v p h1 h2=>Zge (.emp (some a) cap hm (fun h=>by cases h)) i h1 h2⟩
    have hlm:len≤m:=by rw [hmm];split<;>omega
    simp only [DataW.weights,ht] at hwt
    have hlen:len≤reachBytes:=by
     have:=hwt _ (List.mem_cons_self ..)
     simp only [List.length_map,List.length_range] at this
     exact Nat.le_trans (Nat.le_trans (Nat.le_add_right len _) (Nat.le_mul_of_pos_right _ hby)) this
    have hwi:∀i,i<len→∀n∈(Dt i).weights P e,n≤reachBytes:=fun i hi n hn=>hwt n (List.mem_cons_of_mem _ (List.mem_append.2 (.inl (ZcQ P e (List.mem_map.2 ⟨i,by simpa using hi,rfl⟩) hn))))
    have key:∀i:Nat,∃(y:α×(Nat→Value)),i<len→fit y.1∧∀(j:Nat) (p:PV),(enc y.1)[j]? =some p→w.cell? ((a.add (i*k)).add j)=some (y.2 j)∧Shr (fun _=>False) w (y.2 j) p:=fun i=>by
     obtain ⟨cs0,h10,h20⟩:=hx 0 (by omega)
     obtain ⟨y0,_⟩:=D.dec en w spare held n cs0 _ h20 (hwi 0 h0)
     by_cases hi:i<len
     · obtain ⟨cs',h1,h2⟩:=hx i (by omega)
       rw [D.size] at h1
       obtain ⟨_,hlen,hcell⟩:=World.cells?_some h1
       obtain ⟨y,hy,_,hS⟩:=D.dec en w spare held n cs' _ h2 (hwi i hi)
       refine ⟨(y,fun j=>(cs'[j]?).getD undef),fun _=>⟨hy,fun j p hp=>?_⟩⟩
       have hj:j<k:=by rw [←D.len y];exact ζe hp
       obtain ⟨u,hu⟩:=ζZ (show j<cs'.length by omega)
       have:=hcell j hj
       simp only [hu,Option.getD_some]
       exact ⟨by rw [this,hu],hS j u p hu hp⟩
     · exact ⟨(y0,fun _=>undef),fun h=>absurd h hi⟩
    obtain ⟨Y,hY⟩:=Classical.skolem.1 key
    have hspot:∃b off,a=⟨b,off,none⟩:=by
     obtain ⟨hf,hc⟩:=hY 0 h0
     obtain ⟨p,hp⟩:=ζZ (show 0<(enc (Y 0).1).length by rw [D.len];exact hk)
     have:=(hc 0 p hp).1
     obtain ⟨b,off,spot⟩:=a
     have hspot:spot=none:=by simpa [Addr.add] using World.cell?_spot this
     subst hspot
     exact ⟨b,off,rfl⟩
    obtain ⟨b,off,rfl⟩:=hspot
    have hflen:((List.range len).map fun i=>(Y i).1).length=len:=by simp
    refine ⟨(List.range len).map fun i=>(Y i).1,⟨by rw [hflen];unfold reachBytes at hlen;omega,fun x hx=>?_⟩,rfl,fun i v p h1 h2=>Zge ?_ i h1 h2⟩
    · obtain ⟨i,hi,rfl⟩:=List.mem_map.1 hx
      exact (hY i (by simpa using hi)).1
    · rw [hflen]
      have hat:∀(c:Nat) (p:PV),(((List.range len).map fun i=>(Y i).1).flatMap enc)[c]? =some p→c / k<len∧(enc (Y (c / k)).1)[c % k]? =some p:=fun c p hp=>by
       have hc:c<len*k:=by have:=ζe hp;rw [flat_len D.len,hflen] at this;exact this
       have hq:c / k<len:=Nat.div_lt_of_lt_mul (by rw [Nat.mul_comm];exact hc)
       have hget:((List.range len).map fun i=>(Y i).1)[c / k]? =some (Y (c / k)).1:=by simp [hq]
       have:=ZdK D.len hget (Nat.mod_lt c hk)
       rw [Nat.mul_comm,Nat.div_add_mod] at this
       exact ⟨hq,by rw [←this];exact hp⟩
      refine .sl b off len cap _ (fun c=>(Y (c / k)).2 (c % k)) hl hm (fun c hc=>⟨?_,fun h=>h⟩) (fun c p hp=>?_)
      · obtain ⟨p,hp⟩:=ζZ hc
        obtain ⟨hq,hp'⟩:=hat c p hp
        have:=((hY (c / k) hq).2 (c % k) p hp').1
        rw [Zav,Zav,Nat.add_assoc,Nat.mul_comm,Nat.div_add_mod] at this
        exact this
      · obtain ⟨hq,hp'⟩:=hat c p hp
        exact ((hY (c / k) hq).2 (c % k) p hp').2
theorem Zxn {α β:Type} {k:Nat} {enc:α→List PV} {enc':β→List PV} {fit:α→Prop} {fit':β→Prop} (g:α→β) (D:Dec P t k enc fit) (hl:∀b,(enc' b).length=k) (he:∀a,enc' (g a)=enc a) (h:∀a,fit a→fit' (g a)):Dec P t k enc' fit':=
 ⟨D.size,hl,fun e w s hd f cs x hx hy=>let ⟨a,h1,h2,h3⟩:=D.dec e w s hd f cs x hx hy;⟨g a,h a h1,h2,by rw [he];exact h3⟩⟩
section
variable {H:Type} {en:TypeId×Value→H} {w:World} {spare:Nat→Bool} {held:Bool} {r:Reach} {base:Nat} {v:Value} {d:DataW H} {ps:List MemPlace}
theorem ZpS (hT:NoAgg P t=true) (h:Value.okWide P w r base t v):v.cells= #[v]:=by
 unfold NoAgg at hT
 unfold Value.okWide at h
 cases v<;>first|rfl|skip
 rename_i cs
 exfalso
 cases hu:P.underlying t with
 |none=>rw [hu] at hT;simp at hT
 | some dd=>
   rw [hu] at hT h
   cases dd<;>simp_all [Cell.okWide,Cell.ok]
theorem ZBJ {α:Type} {f:α→PV} {fit:α→Prop} (D:Dec P t 1 (fun a=>[f a]) fit) (hT:NoAgg P t=true) (hv:Value.okWide P w r base t v) (h:DataW.Trod en P w 0 spare held t v d ps) (hwt:∀n∈d.weights P t,n≤reachBytes):∃a,fit a∧Shr (fun _=>False) w v (f a):=by
 obtain ⟨fuel,hf⟩:=h
 rw [ZpS hT hv] at hf
 obtain ⟨a,h1,_,h3⟩:=D.dec en w spare held fuel _ _ hf hwt
 exact ⟨a,h1,h3 0 v (f a) rfl rfl⟩
theorem ZBv {α:Type} {k:Nat} {enc:α→List PV} {fit:α→Prop} (D:Dec P t k enc fit) (hT:ZBj P t=true) (hv:Value.okWide P w r base t v) (h:DataW.Trod en P w 0 spare held t v d ps) (hwt:∀n∈d.weights P t,n≤reachBytes):∃a,fit a∧Shr (fun _=>False) w v (.agg (enc a)):=by
 obtain ⟨fuel,hf⟩:=h
 have:∃fs,P.underlying t=some (.struct fs):=by
  unfold ZBj at hT
  split at hT
  · rename_i fs hfs;exact ⟨fs,hfs⟩
  · cases hT
 obtain ⟨fs,hfs⟩:=this
 obtain ⟨cs,rfl,hsz⟩:=okWide_struct hfs hv
 obtain ⟨a,h1,h2,h3⟩:=D.dec en w spare held fuel _ _ hf hwt
 refine ⟨a,h1,?_⟩
 have:=Shr.agg (M:=fun _=>False) (w:=w) cs.toList (enc a) (by rw [D.len a];exact h2) h3
 simpa using this
end
theorem Zgf {H:Type} {enc:TypeId×Value→H} {P:Program} (hl:laidOutB P=true) {W W':World} (hb:Below W.heap.size W W'):∀{ts:List TypeId} {vs:List Value} {ds:List (DataW H)} {ps:List MemPlace},(ts.all fun t=>P.readableRec t&&decide (t<P.types.size))=true→
 DataW.TrodAll enc P W 0 (fun _=>true) true ts vs ds ps→DataW.TrodAll enc P W' 0 (fun b=>decide (b<W.heap.size)) true ts vs ds ps
 |[],[],[],ps,_,h=>h
 | t::ts,v::vs,d::ds,ps,ht,⟨p,q,h1,h2,h3⟩=>by
   rw [List.all_cons,Bool.and_eq_true,Bool.and_eq_true] at ht
   refine ⟨p,q,Below.trod hl ht.1.1 (of_decide_eq_true ht.1.2) h1 hb ?_,Zgf hl hb ht.2 h2,h3⟩
   obtain ⟨m,hm⟩:=h1
   exact DataW.trod_lt m _ _ _ hm
theorem AF.law {P:Program} {f:FuncId} {ps:List PV} (hA:AF P f ps (· = .val (.bool true))) {W:World} {vs:List Value} (hl:vs.length=ps.length) (hv:∀(i:Nat) (v:Value) (p:PV),vs[i]? =some v→ps[i]? =some p→Shr (fun _=>False) W v p) (hT:TabW W (fun _=>False) (fun _=>False)) (hE:ErrW W (fun _=>False) (fun _=>False):=by intro g hg;cases hg):
 Calls P f vs.toArray W fun e w'=>e= .returned (.bool true)∧Below W.heap.size W w':=
 (hA (fun _=>False) W vs ⟨fun _ h=>h.elim,fun _=>hT,fun _=>hE⟩ hl hv).mono fun e w' ⟨v,p,F,h1,h2,h3,h4,_⟩=>by
   subst h2
   have:=(h4.sh rfl).vOf
   subst this
   exact ⟨h1,h3⟩
end
def Zuu (P:Program) (t:TypeId) (k:Nat) {α:Type} (enc:α→List PV) (fit:α→Prop) (fuel:Nat):Prop:=
 ∀ {H:Type} (e:TypeId×Value→H) (w:World) (spare:Nat→Bool) (held:Bool) (cs:List Value) (x:DataW H×List MemPlace),DataW.trod e P w 0 spare held fuel t cs=some x→(∀n∈x.1.weights P t,n≤reachBytes)→
  ∃a,fit a∧cs.length=k∧∀(i:Nat) (v:Value) (p:PV),cs[i]? =some v→(enc a)[i]? =some p→Shr (fun _=>False) w v p
section
variable {P:Program} {t:TypeId}
theorem Dec.toF {α:Type} {k:Nat} {enc:α→List PV} {fit:α→Prop} (D:Dec P t k enc fit) (fuel:Nat):Zuu P t k enc fit fuel:=fun e w spare held cs x h hw=>D.dec e w spare held fuel cs x h hw
theorem ZfJ {H:Type} {α:Type} {e k o fuel:Nat} {enc:α→List PV} {fit:α→Prop} (hsz:P.cellsOf e=k) (hlen:∀a,(enc a).length=k) (D:Zuu P e k enc fit fuel) {en:TypeId×Value→H} {w:World} {spare:Nat→Bool} {held:Bool} {cs:List Value} {y:DataW H×List MemPlace}
 (h:DataW.trod en P w 0 spare held fuel e ((cs.drop o).take (P.cellsOf e))=some y) (hwt:∀n∈y.1.weights P e,n≤reachBytes):∃a,fit a∧∀(i:Nat) (v:Value) (p:PV),cs[o+i]? =some v→(enc a)[i]? =some p→Shr (fun _=>False) w v p:=by
 obtain ⟨a,h1,_,h3⟩:=D en w spare held _ y h hwt
 refine ⟨a,h1,fun i v p hv hp=>h3 i v p ?_ hp⟩
 have hi:i<k:=by rw [←hlen a];exact ζe hp
 rw [hsz,List.getElem?_take_of_lt hi,List.getElem?_drop];exact hv
theorem ZpT {α:Type} {e k fuel:Nat} {enc:α→List PV} {fit:α→Prop} (ht:P.underlying t=some (.slice e)) (hk:0<k) (hby:0<P.bytesOf e) (hsz:P.cellsOf e=k) (hln:∀a,(enc a).length=k) (D:∀n,n<fuel→Zuu P e k enc fit n):
 Zuu P t 1 (fun l:List α=>[PV.sl l.length (l.flatMap enc)]) (fun l=>l.length≤140737488355328∧∀x∈l,fit x) fuel:=fun en w spare held cs x h hwt=>by
 rcases DataW.trod_slice ht h with ⟨rfl,_⟩|⟨a,len,cap,elems,more,n,rfl,rfl,rfl,_,hl,hm,hel,hx,_,_⟩
 · exact ⟨[],⟨by simp,by simp⟩,rfl,fun i v p h1 h2=>Zge (.emp none 0 (by unfold maxLen;omega) (fun _=>rfl)) i h1 h2⟩
 · rcases Nat.eq_zero_or_pos len with h0|h0
   · subst h0
     exact ⟨[],⟨by simp,by simp⟩,rfl,fun i v p h1 h2=>Zge (.emp (some a) cap hm (fun h=>by cases h)) i h1 h2⟩
   simp only [DataW.weights,ht] at hwt
   have hlen:len≤reachBytes:=by
    have:=hwt _ (List.mem_cons_self ..)
    simp only [List.length_map,hel] at this
    exact Nat.le_trans (Nat.le_trans (Nat.le_add_right len _) (Nat.le_mul_of_pos_right _ hby)) this
   have hDn:Zuu P e k enc fit n:=D n (Nat.lt_succ_self n)
   have hone:∀i,i<len→∃(y:α×(Nat→Value)),fit y.1∧∀(j:Nat) (p:PV),(enc y.1)[j]? =some p→w.cell? ((a.add (i*k)).add j)=some (y.2 j)∧Shr (fun _=>False) w (y.2 j) p:=fun i hi=>by
    have h1:=hx i hi
    obtain ⟨z,hz⟩:=ζZ (show i<elems.length by omega)
    rw [hz] at h1
    obtain ⟨cs',h2,h3⟩:=Option.bind_eq_some_iff.1 h1
    rw [hsz] at h2
    obtain ⟨_,hlen',hcell⟩:=World.cells?_some h2
    obtain ⟨y,hy,_,hS⟩:=hDn en w spare held cs' _ h3 (fun m hm=>hwt m (List.mem_cons_of_mem _ (List.mem_append.2 (.inl (ZcQ P e (List.mem_map.2 ⟨z,List.mem_of_getElem? hz,rfl⟩) hm)))))
    refine ⟨(y,fun j=>(cs'[j]?).getD undef),hy,fun j p hp=>?_⟩
    have hj:j<k:=by rw [←hln y];exact ζe hp
    obtain ⟨u,hu⟩:=ζZ (show j<cs'.length by omega)
    have:=hcell j hj
    simp only [hu,Option.getD_some]
    exact ⟨by rw [this,hu],hS j u p hu hp⟩
   obtain ⟨y0,hy0⟩:=hone 0 h0
   have key:∀i:Nat,∃(y:α×(Nat→Value)),i<len→fit y.1∧∀(j:Nat) (p:PV),(enc y.1)[j]? =some p→w.cell? ((a.add (i*k)).add j)=some (y.2 j)∧Shr (fun _=>False) w (y.2 j) p:=fun i=>by
    by_cases hi:i<len
    · obtain ⟨y,hy⟩:=hone i hi;exact ⟨y,fun _=>hy⟩
    · exact ⟨y0,fun h=>absurd h hi⟩
   obtain ⟨Y,hY⟩:=Classical.skolem.1 key
   have hspot:∃b off,a=⟨b,off,none⟩:=by
    obtain ⟨hf,hc⟩:=hY 0 h0
    obtain ⟨p,hp⟩:=ζZ (show 0<(enc (Y 0).1).length by rw [hln];exact hk)
    have:=(hc 0 p hp).1
    obtain ⟨b,off,spot⟩:=a
    have hspot:spot=none:=by simpa [Addr.add] using World.cell?_spot this
    subst hspot
    exact ⟨b,off,rfl⟩
   obtain ⟨b,off,rfl⟩:=hspot
   have hflen:((List.range len).map fun i=>(Y i).1).length=len:=by simp
   refine ⟨(List.range len).map fun i=>(Y i).1,⟨by rw [hflen];unfold reachBytes at hlen;omega,fun x hx=>?_⟩,rfl,fun i v p h1 h2=>Zge ?_ i h1 h2⟩
   · obtain ⟨i,hi,rfl⟩:=List.mem_map.1 hx
     exact (hY i (by simpa using hi)).1
   · rw [hflen]
     have hat:∀(c:Nat) (p:PV),(((List.range len).map fun i=>(Y i).1).flatMap enc)[c]? =some p→c / k<len∧(enc (Y (c / k)).1)[c % k]? =some p:=fun c p hp=>by
      have hc:c<len*k:=by have:=ζe hp;rw [flat_len hln,hflen] at this;exact this
      have hq:c / k<len:=Nat.div_lt_of_lt_mul (by rw [Nat.mul_comm];exact hc)
      have hget:((List.range len).map fun i=>(Y i).1)[c / k]? =some (Y (c / k)).1:=by simp [hq]
      have:=ZdK hln hget (Nat.mod_lt c hk)
      rw [Nat.mul_comm,Nat.div_add_mod] at this
      exact ⟨hq,by rw [←this];exact hp⟩
     refine .sl b off len cap _ (fun c=>(Y (c / k)).2 (c % k)) hl hm (fun c hc=>⟨?_,fun h=>h⟩) (fun c p hp=>?_)
     · obtain ⟨p,hp⟩:=ζZ hc
       obtain ⟨hq,hp'⟩:=hat c p hp
       have:=((hY (c / k) hq).2 (c % k) p hp').1
       rw [Zav,Zav,Nat.add_assoc,Nat.mul_comm,Nat.div_add_mod] at this
       exact this
     · obtain ⟨hq,hp'⟩:=hat c p hp
       exact ((hY (c / k) hq).2 (c % k) p hp').2
end
end Go.En
namespace Go.Proofs.YtgfabnhpllkebaaGreatDoor
open Go.RowKit Go.Cb Go.En Go.ChangeShapes Go.WideShapes Go.ChangeAt
set_option linter.all false
set_option maxRecDepth 100000
theorem ZAX:Dec Tryz.prog 3 1 (fun n:Int=>[pInt n]) (fun n=> -9223372036854775808≤n∧n≤9223372036854775807):=Zxm Tryz.underlying3 (by kernel_rfl)
theorem ZAY:Dec Tryz.prog 9 1 (fun s:ByteArray=>[ZaS s]) (fun s=>s.size≤140737488355328):=ZrH Tryz.underlying9 (by kernel_rfl)
theorem ZrJ (fuel:Nat):Zuu Tryz.prog 24 3 cN FitT fuel:=by
 induction fuel using Nat.strongRecOn with
 | _ fuel ih=>
   intro H e w spare held cs x h hwt
   obtain ⟨xs,n,rfl,rfl,hlen,hxl,hf⟩:=DataW.trod_struct Tryz.underlying24 h
   simp only [DataW.weights,Tryz.underlying24] at hwt
   match xs,hxl with
   |[y0,y1,y2],_=>
   have g0:DataW.trod e Tryz.prog w 0 spare held n 3 ((cs.drop 0).take (Tryz.prog.cellsOf 3))=some y0:=hf 0 _ rfl
   have g1:DataW.trod e Tryz.prog w 0 spare held n 9 ((cs.drop 1).take (Tryz.prog.cellsOf 9))=some y1:=hf 1 _ rfl
   have g2:DataW.trod e Tryz.prog w 0 spare held n 22 ((cs.drop 2).take (Tryz.prog.cellsOf 22))=some y2:=hf 2 _ rfl
   have hD0:Zuu Tryz.prog 3 1 (fun n:Int=>[pInt n]) (fun n=> -9223372036854775808≤n∧n≤9223372036854775807) n:=Dec.toF ZAX n
   have hD1:Zuu Tryz.prog 9 1 (fun s:ByteArray=>[ZaS s]) (fun s=>s.size≤140737488355328) n:=Dec.toF ZAY n
   have hsl:Zuu Tryz.prog 22 1 (fun l:List Nd=>[PV.sl l.length (l.flatMap cN)]) (fun l=>l.length≤140737488355328∧∀x∈l,FitT x) n:=
    ZpT Tryz.underlying22 (by decide) (Nat.le_of_ble_eq_true (by kernel_rfl)) (by kernel_rfl) Zoa (fun m hm=>ih m (by omega))
   obtain ⟨a,ha,A⟩:=ZfJ (k:=1) (enc:=fun n:Int=>[pInt n]) (fit:=fun n:Int=> -9223372036854775808≤n∧n≤9223372036854775807) (by kernel_rfl) (fun _=>rfl) hD0 g0 (fun n hn=>hwt n (Zay Tryz.prog 0 rfl rfl hn))
   obtain ⟨b,hb,B⟩:=ZfJ (k:=1) (enc:=fun s:ByteArray=>[ZaS s]) (fit:=fun s:ByteArray=>s.size≤140737488355328) (by kernel_rfl) (fun _=>rfl) hD1 g1 (fun n hn=>hwt n (Zay Tryz.prog 1 rfl rfl hn))
   obtain ⟨l,hl,C⟩:=ZfJ (k:=1) (enc:=fun l:List Nd=>[PV.sl l.length (l.flatMap cN)]) (fit:=fun l:List Nd=>l.length≤140737488355328∧∀x∈l,FitT x) (by kernel_rfl) (fun _=>rfl) hsl g2 (fun n hn=>hwt n (Zay Tryz.prog 2 rfl rfl hn))
   refine ⟨.mk a b l, .mk _ hl.1 hb ha.1 ha.2 hl.2,by rw [hlen];kernel_rfl,fun i v p hv hp=>?_⟩
   match i with
   |0=>exact A 0 v p hv (by simpa [cN,Nd.op] using hp)
   |1=>exact B 0 v p hv (by simpa [cN,Nd.act] using hp)
   |2=>exact C 0 v p hv (by rw [←hp];show some _=some _;unfold ZbT;rw [ZgY];rfl)
   |i+3=>simp [cN] at hp
theorem ZzD:Dec Tryz.prog 24 3 cN FitT where
 size:=by kernel_rfl
 len:=Zoa
 dec:=fun e w spare held fuel cs x h hw=>ZrJ fuel e w spare held cs x h hw
open Go.RowKit Go.Cb Go.En
mutual
def Za5:Nd→List ByteArray
 | .mk o a l=>if o=1 then a::Ze1 l else Ze1 l
def Ze1:List Nd→List ByteArray
 |[]=>[]
 |x::l=>Za5 x++Ze1 l
end
theorem Zdq {l:List Nd} {s:ByteArray}:s∈Ze1 l↔∃x∈l,s∈Za5 x:=by
 induction l with
 |nil=>simp [Ze1]
 |cons x l ih=>rw [Ze1,List.mem_append,ih];simp
end Go.Proofs.YtgfabnhpllkebaaGreatDoor
namespace Go.En
open Go.RowKit Go.Cb
set_option linter.all false
section
variable {sL hP:List (Nat×Ent)}
end
open Go.RowKit Go.Cb Go.Proofs Go.Sort Go.ChangeShapes Go.WideShapes Go.ChangeAt
def Zxo (P:Program) (fs:Nat):Prop:=∀(blk cap:Nat) (zs:List (List UInt8)) (w:World),Go.Sort.Holds encStr w blk 0 zs.toArray→blk<w.heap.size→zs.length<4611686018427387904→
 Calls P fs #[.slice (some ⟨blk,0,none⟩) zs.length cap] w fun e w'=>e= .returned (.tuple #[])∧∃n os,w'=grow (putRow encStr (Go.Sort.ahead w n) blk 0 (zs.mergeSort fun x y=>decide (x≤y)).toArray) os
def Zxp (s:List UInt8):PV:= .val (encStr s)
section
variable {P:Program} {c:Ctx} {ops:Array Oper} {Q:Exit→Act→World→Prop} {rest:List Oper} {sL hP:List (Nat×Ent)} {o:Oper}
theorem Zuv {fs e d:Nat} {zs:List (List UInt8)} {h:Value} {q:PV} {x:Operand} {ats:Array TypeId} (l:Nat) (hS:Zxo P fs) (hc:∀args w,(callFunc fs args).run P w= .ok (.enter fs args) w)
 (kk:aL P c ops Q rest ⟨put d (.tuple #[], .val (.tuple #[])) sL,put l (h, .own e 1 zs.length ((zs.mergeSort fun x y=>decide (x≤y)).map Zxp)) hP⟩)
 (hn:0<zs.length) (hn2:zs.length<4611686018427387904:=by omega) (hw:ζX ops sL o=some true:=by exact rfl) (hd:o.dst=some d:=by exact rfl) (hdn:d<c.nt:=by exact Nat.le_of_ble_eq_true rfl) (ho:o.op= .call {callee:= .value (.func fs),args:= #[x],argTypes:=ats}:=by exact rfl) (hx:ev sL x=some (h,q):=by exact rfl) (hl:lk hP l=some (h, .own e 1 zs.length (zs.map Zxp)):=by exact rfl):aL P c ops Q (o::rest) (⟨sL,hP⟩:St):=
 Zas hw fun a w F H=>by
  have hxv:=(H.rd.ev hx).1
  have hTr:=H.tr l _ _ hl
  obtain ⟨xs,Fs,hrow,hlen,hT,hdj,hb,hF⟩:=hTr.row
  obtain ⟨blk,cap,hh,hc1,hc2,hc3⟩:=Zcr hTr hn
  have hblkF:F l blk:=(hF blk).2 (.inl (by rw [hh];rfl))
  have hxs:∀(j:Nat) (v:Value),xs[j]? =some v→∃z,zs[j]? =some z∧v=encStr z:=fun j v hv=>by
   obtain ⟨p,hp⟩:=ζ7 hv hlen.symm
   have h1:=hp
   rw [List.getElem?_map,Option.map_eq_some_iff] at h1
   obtain ⟨z,hz,rfl⟩:=h1
   exact ⟨z,hz,((hT j v _ hv hp).sh rfl).vOf⟩
  have hHold:Go.Sort.Holds encStr w blk 0 zs.toArray:=fun j hj=>by
   simp only [List.size_toArray] at hj
   have hrow':=hrow
   rw [hh] at hrow'
   obtain ⟨v,hv⟩:=ζZ (show j<xs.length by rw [←hlen,List.length_map];exact hj)
   obtain ⟨z,hz,rfl⟩:=hxs j v hv
   refine ⟨?_,by rw [Nat.zero_add];exact hrow'.frozenAt j⟩
   rw [Nat.zero_add,Za6 hrow' hv]
   have:zs.toArray[j]! =z:=by
    have hz':=(List.getElem?_eq_some_iff.1 hz).2
    simp [hj,hz']
   rw [this]
  have hcall:=hS blk cap zs w hHold hc3 hn2
  unfold Oper.wp
  have hrun:(execOp a.eval o).run P w= .ok (.enter fs #[h]) w:=by
   have hev:a.eval (.func fs)= .func (.func fs) #[] #[]:=rfl
   simp [execOp,ho,resolve,Deferred.ofValue,hev,invoke,hxv,hc]
  rw [hrun,Oper.upon_enter,hh]
  refine hcall.mono fun e' w' ⟨he',m,os,hw'⟩=>?_
  subst he'
  have hsl:(zs.mergeSort fun x y=>decide (x≤y)).length=zs.length:=List.length_mergeSort _
  generalize hsd:(zs.mergeSort fun x y=>decide (x≤y))=sd at hsl hw' kk
  have hch0:Chg (fun b=>b=blk) w w':=by
   rw [hw']
   refine ⟨rfl,rfl,rfl,?_,fun i hi hne=>?_⟩
   · simp [grow,putRow,mapBlock,Go.Sort.ahead]
   · have:(grow (putRow encStr (Go.Sort.ahead w m) blk 0 sd.toArray) os).heap=(w.heap.modify blk (onCells (putCells encStr 0 sd.toArray)))++os:=rfl
     rw [this,Array.getElem?_append_left (by simpa using hi),Array.getElem?_modify,if_neg (fun e=>hne e.symm)]
  rw [hd]
  refine kk _ _ ⟨fun l'=>if l'=l then (fun b=>b=blk) else F l',?_⟩
  refine H.change (fun l'=>l'=l) hdn (hch0.wid fun b hb'=> .inl ⟨l,_,rfl,hl,by rw [hb'];exact hblkF⟩) (fun l' z hne hz=>?_) (fun l' z b hT' hz hb'=>?_) (fun hmm l' u p hT' hz=>?_) (fun l1 l2 _ _ _ h1 h2 hne=>absurd (h1.trans h2.symm) hne) (fun _=> .val _) (fun _=>by rw [hw'];exact Nat.le_add_right _ _)
  · rcases Zaa hz with ⟨e1,_⟩|⟨_,e1⟩
    · exact absurd e1.symm hne
    · exact ⟨e1,by simp [hne]⟩
  · subst hT'
    simp only [if_true] at hb'
    exact .inl ⟨l',_,rfl,hl,by rw [hb'];exact hblkF⟩
  · subst hT'
    rw [ζQ] at hz
    cases hz
    simp only [if_true]
    rcases hrow.2 with ⟨e1,_⟩|⟨g',cap',cur,e1,_,e3,e4,e5,e6,e7⟩
    · rw [hh] at e1;cases e1
    · rw [hh] at e1
      cases e1
      have hlt:=ZaT e3
      refine .own (sd.map encStr) (fun _ _=>False) ⟨by rw [List.length_map,hsl,Nat.mul_one], .inr ⟨blk,cap,putCells encStr 0 sd.toArray cur,hh,Nat.zero_le _,?_,e4,e5,by simp [putCells];omega,?_⟩⟩ (by simp) (fun t v p hv hp=>?_) (fun _ _ _ _ _ _ h=>h.elim) (fun _ _ _ h=>h.elim) (fun b=>by rw [hh];simp [Value.ownBlock,eq_comm])
      · rw [hw']
        have:(grow (putRow encStr (Go.Sort.ahead w m) blk 0 sd.toArray) os).heap=(w.heap.modify blk (onCells (putCells encStr 0 sd.toArray)))++os:=rfl
        rw [this,Array.getElem?_append_left (by simpa using hlt),Array.getElem?_modify,if_pos rfl,e3]
        rfl
      · have:=ZgZ encStr sd.toArray cur (by simp only [List.size_toArray];rw [hsl,e6];omega)
        simp only [List.size_toArray] at this
        rw [Nat.mul_one,←hsl];exact this
      · rw [List.getElem?_map,Option.map_eq_some_iff] at hv hp
        obtain ⟨z,hz,rfl⟩:=hv
        obtain ⟨z',hz',rfl⟩:=hp
        rw [hz] at hz';cases hz'
        exact .shr (.val _) (fun _ h=>h)
theorem Zxq {fs e d:Nat} {zs:List (List UInt8)} {h:Value} {q:PV} {x:Operand} {ats:Array TypeId} (l:Nat) (hS:Zxo P fs) (hS0:ZkM P fs) (hc:∀args w,(callFunc fs args).run P w= .ok (.enter fs args) w)
 (kk:aL P c ops Q rest ⟨put d (.tuple #[], .val (.tuple #[])) sL,put l (h, .own e 1 zs.length ((zs.mergeSort fun x y=>decide (x≤y)).map Zxp)) hP⟩)
 (hn2:zs.length<4611686018427387904:=by omega) (hw:ζX ops sL o=some true:=by exact rfl) (hd:o.dst=some d:=by exact rfl) (hdn:d<c.nt:=by exact Nat.le_of_ble_eq_true rfl) (ho:o.op= .call {callee:= .value (.func fs),args:= #[x],argTypes:=ats}:=by exact rfl) (hx:ev sL x=some (h,q):=by exact rfl) (hl:lk hP l=some (h, .own e 1 zs.length (zs.map Zxp)):=by exact rfl):aL P c ops Q (o::rest) (⟨sL,hP⟩:St):=by
 rcases Nat.eq_zero_or_pos zs.length with h0|h0
 · have hz:zs=[]:=List.eq_nil_of_length_eq_zero h0
   subst hz
   refine Zjj l hS0 hc ?_ hw hd hdn ho hx hl
   exact ζq (fun c a w ⟨F,H⟩=>⟨(),F,H.less (fun _ _ h=>h) fun t x hx=>by
    rcases Zaa hx with ⟨rfl,e1⟩|⟨_,e1⟩
    · rw [←e1];simpa using hl
    · exact e1⟩) (fun _:Unit=>kk)
 · exact Zuv l hS hc kk h0 hn2 hw hd hdn ho hx hl
end
section
variable {P:Program} {c:Ctx} {ops:Array Oper} {Q:Exit→Act→World→Prop} {rest:List Oper} {st:St} {sL hP:List (Nat×Ent)} {o:Oper} {Z:Nat→Bool} {K:List Nat} {fuel:Nat} {listed:Array Bool}
end
end Go.En
namespace Go.Proofs.YtgfabnhpllkebaaGreatDoor
open Go.RowKit Go.Cb Go.En
set_option linter.all false
open Classical in
noncomputable def setK (ks:List ByteArray) (s:ByteArray):List ByteArray:=if s∈ks then ks else ks++[s]
noncomputable def colS (ks:List ByteArray) (l:List ByteArray):List ByteArray:=l.foldl setK ks
theorem Zuw (ks:List ByteArray) (s x:ByteArray):x∈setK ks s↔x∈ks∨x=s:=by
 unfold setK
 split
 · rename_i h
   exact ⟨.inl,fun h2=>h2.elim id fun e=>e▸h⟩
 · rw [List.mem_append,List.mem_singleton]
theorem Zxr {ks:List ByteArray} (h:ks.Nodup) (s:ByteArray):(setK ks s).Nodup:=by
 unfold setK
 split
 · exact h
 · rename_i hn
   exact List.nodup_append.2 ⟨h,List.pairwise_singleton _ s,fun a ha b hb e=>hn (by rw [List.mem_singleton] at hb;rw [←hb,←e];exact ha)⟩
theorem Ze9:∀(l ks:List ByteArray) (x:ByteArray),x∈colS ks l↔x∈ks∨x∈l
 |[],ks,x=>by simp [colS]
 | s::l,ks,x=>by
   show x∈colS (setK ks s) l↔_
   rw [Ze9 l,Zuw,List.mem_cons,or_assoc]
theorem ZfK:∀(l ks:List ByteArray),ks.Nodup→(colS ks l).Nodup
 |[],_,h=>h
 |s::l,ks,h=>ZfK l (setK ks s) (Zxr h s)
theorem Zfa (ks l m:List ByteArray):colS ks (l++m)=colS (colS ks l) m:=List.foldl_append
theorem Zjo:∀(l ks:List ByteArray),(colS ks l).length≤ks.length+l.length
 |[],ks=>Nat.le_refl _
 | s ::l,ks=>by
   show (colS (setK ks s) l).length≤_
   have h1:=Zjo l (setK ks s)
   have h2:(setK ks s).length≤ks.length+1:=by
    unfold setK
    split
    · omega
    · rw [List.length_append];simp
   rw [List.length_cons];omega
def ZdD (ks:List ByteArray):List (ByteArray×Value):=ks.map fun s=>(s, .bool true)
theorem Zoi (ks:List ByteArray) (s:ByteArray):Ze5 (skv (ZdD ks)) (.string s) (.bool true)=skv (ZdD (setK ks s)):=by
 rw [ZnY]
 congr 1
 unfold setK
 induction ks with
 |nil=>simp [ZdD,Zrb]
 | cons x ks ih=>
   unfold ZdD at ih ⊢
   rw [List.map_cons,Zrb]
   by_cases h:s=x
   · subst h;simp
   · simp only [h,if_false,Ne.symm h] at ih ⊢
     by_cases h2:s∈ks
     · simp [h2,h] at ih ⊢;exact ih
     · simp [h2,h] at ih ⊢;exact ih
def toB (s:ByteArray):List UInt8:=s.data.toList
def ofB (l:List UInt8):ByteArray:=⟨l.toArray⟩
theorem Zjp (s:ByteArray):ofB (toB s)=s:=by cases s;simp [ofB,toB]
theorem ZrK (l:List UInt8):toB (ofB l)=l:=by simp [ofB,toB]
def Zgg (ks:List ByteArray):List ByteArray:=((ks.map toB).mergeSort fun x y=>decide (x≤y)).map ofB
theorem Zux (ks:List ByteArray):((ks.map toB).mergeSort fun x y=>decide (x≤y)).map Zxp=(Zgg ks).map ZaS:=by
 unfold Zgg
 rw [List.map_map];rfl
theorem Zxs (ks:List ByteArray):(ks.map toB).map Zxp=ks.map ZaS:=by
 rw [List.map_map]
 refine List.map_congr_left fun s _=>?_
 show PV.val (.string (ofB (toB s)))=ZaS s
 rw [Zjp]
theorem Zfb (ks:List ByteArray):(Zgg ks).length=ks.length:=by unfold Zgg;simp
theorem ZrL {l m:List ByteArray} (h:l.Perm m):Zgg l=Zgg m:=by
 unfold Zgg
 congr 1
 have htr:∀a b c:List UInt8,decide (a≤b)=true→decide (b≤c)=true→decide (a≤c)=true:=fun a b c h1 h2=>by
  simp only [decide_eq_true_eq] at*;exact List.le_trans h1 h2
 have hto:∀a b:List UInt8,(decide (a≤b)||decide (b≤a))=true:=fun a b=>by
  simp only [Bool.or_eq_true,decide_eq_true_eq];exact List.le_total a b
 refine List.Perm.eq_of_pairwise (le:=fun x y=>decide (x≤y)=true) (fun a b _ _ h1 h2=>?_) (List.pairwise_mergeSort htr hto _) (List.pairwise_mergeSort htr hto _) (((List.mergeSort_perm _ _).trans (h.map toB)).trans (List.mergeSort_perm _ _).symm)
 simp only [decide_eq_true_eq] at h1 h2
 exact List.le_antisymm h1 h2
noncomputable def actR (t:Nd):List ByteArray×Int:=if ZcB t=true then (if (colS [] (Za5 t)).length≤40 then (Zgg (colS [] (Za5 t)),0) else ([],5)) else ([],1)
theorem ZrM {t:Nd} (h:rightT t=true):t.act.size≤40:=by
 unfold rightT at h
 split at h
 · simp only [Bool.and_eq_true] at h
   have:=h.2
   unfold ZaZ at this
   simp only [Bool.and_eq_true,decide_eq_true_eq] at this
   exact this.1.1.2
 · split at h
   · simp only [Bool.and_eq_true,decide_eq_true_eq] at h
     rw [h.2];exact Nat.zero_le _
   · split at h
     · simp only [Bool.and_eq_true,decide_eq_true_eq] at h
       rw [h.2];exact Nat.zero_le _
     · split at h
       · simp only [Bool.and_eq_true,decide_eq_true_eq] at h
         rw [h.2];exact Nat.zero_le _
       · cases h
set_option maxRecDepth 100000
theorem Zbu:AggT Tryz.prog 24 3=true:=by kernel_rfl
theorem ZkQ:ElT Tryz.prog 27 9 1 16 (.string ByteArray.empty):=⟨Tryz.underlying27,by kernel_rfl,rfl,by decide⟩
theorem ZmA:FldT Tryz.prog 24 0 0=true:=by kernel_rfl
theorem ZmB:FldT Tryz.prog 24 1 1=true:=by kernel_rfl
theorem Zg9:FldT Tryz.prog 24 2 2=true:=by kernel_rfl
theorem ZrN:MpT Tryz.prog 76 9 4 .string (.bool false):=⟨Tryz.underlying76,Tryz.underlying9, .inl rfl,by show ZeroT _ _ _;unfold ZeroT;kernel_rfl⟩
theorem ZkR:NoAgg Tryz.prog 22=true:=by kernel_rfl
theorem Zuy:NoAgg Tryz.prog 3=true:=by kernel_rfl
theorem Zuz:NoAgg Tryz.prog 9=true:=by kernel_rfl
theorem Zfc:SlT Tryz.prog 22 24 3=true:=by kernel_rfl
theorem ZkS:ZeroT Tryz.prog 24 (.agg #[(.int .i64 0),(.string ByteArray.empty),(.slice none 0 0)]):=by unfold ZeroT;kernel_rfl
theorem ZrO:Zxo Tryz.prog 75:=fun blk cap zs w hH hb hn=>Tryz.slices_Sort_string blk 0 cap zs w hH hb hn
theorem ZpU:ZkM Tryz.prog 75:=Tryz.slices_Sort_string_none
theorem Zfd {l:List Nd} {k:Nat} {x:Nd} (h:l[k]? =some x):Ze1 (l.take (k+1))=Ze1 (l.take k)++Za5 x:=by
 have e:∀m:List Nd,Ze1 m=m.flatMap Za5:=fun m=>by
  induction m with
  |nil=>rfl
  |cons y m ih=>rw [Ze1,ih,List.flatMap_cons]
 rw [e,e,ζH h,List.flatMap_append,List.flatMap_singleton]
set_option maxHeartbeats 4000000 in
theorem ZpV:∀(t:Nd),okT t=true→szT t≤1000000→∀(ks:List ByteArray) (m V:Value),AFh False Tryz.prog 74 [(0,m, .val m),(1,V,pTr t)] [(1000,m, .omap (skv (ZdD ks)))] (fun v q h=>h=[(1000,m, .omap (skv (ZdD (colS ks (Za5 t)))))]):=Nd.ind fun o a l ih hok hs ks m V=>by
 have e0:pTr (.mk o a l)= .agg [pInt o,ZaS a,ZbT l]:=rfl
 rw [e0]
 obtain ⟨hr,hp⟩:=ZbM.1 hok
 have hsz:=ZrE (.mk o a l)
 have hlz:=Zg8 l
 simp only [Nd.l,Nd.op] at hp hsz
 obtain ⟨K,hK⟩:∃K,K=if o=1 then setK ks a else ks:=⟨_,rfl⟩
 have hres:colS ks (Za5 (.mk o a l))=colS K (Ze1 l):=by
  rw [hK,Za5]
  split<;>rfl
 rw [hres]
 refine AFh.of_body 23 Tryz.func74 rfl Tryz.ntmps74 (Nat.le_of_ble_eq_true rfl) rfl ?_
 intro w0 M0 N0
 refine nav ?_
 (refine ζa ?_<;>refine ζE 3 3 fun h3=>?_<;>refine ζb (nav ?_)<;>try dsimp only)
 (refine ζa ?_<;>refine xL 6 (ζh 3 ZmA) ?_<;>(refine yL 7 (ζs 3 Zuy) fun v7 h=>?_;cases h)<;>refine xL 8 Zag ?_<;>refine ζb (nav ?_)<;>try dsimp only)
 (first|refine cCd ?_ ?_|refine cC ?_ ?_)<;>intro hb8
 · first
   |exact Bool.noConfusion hb8
   | (
    refine nav ?_
    (refine ζa ?_<;>refine xL 9 ζd ?_<;>refine xL 10 (ζh 3 ZmB) ?_<;>(refine yL 11 (ζs 3 Zuz) fun v11 h=>?_;cases h)<;>(refine ZgT 1000 ZrN ?_;rw [Zoi,show setK ks a=K by rw [hK,if_pos (by assumption)]])<;>refine ζb (nav ?_)<;>try dsimp only)
    (refine ζa ?_<;>refine xL 12 (ζh 3 Zg9) ?_<;>(refine yL 13 (ζs 3 ZkR) fun v13 h=>?_;cases h)<;>refine xL 14 (ζV Zfc) ?_<;>refine xL 15 ζd ?_<;>refine ζb (nav ?_)<;>try dsimp only)
    refine ζy (ι:={q:Nat×List ByteArray//q.1≤l.length∧q.2=colS K (Ze1 (l.take q.1))}) (fun k=>⟨[(0,_,_),(13,_,_),(14,_,_),(15, .int .i64 k.1.1,pInt k.1.1)],[(1000,m, .omap (skv (ZdD k.1.2)))]⟩) (fun k=>l.length-k.1.1) ⟨(0,K),Nat.zero_le _,by rw [List.take_zero];rfl⟩ (fun a w H=>H.weaken ⟨rfl,rfl,rfl,rfl,trivial⟩ ⟨rfl,trivial⟩) ?_
    rintro ⟨⟨i,S⟩,hi,hS⟩
    dsimp only
    dsimp only at hi hS
    refine nav ?_
    (refine ζa ?_<;>refine xL 16 ζS ?_<;>refine ζb (nav ?_)<;>try dsimp only)
    (first|refine cCd ?_ ?_|refine cC ?_ ?_)<;>intro hb16
    · first
      |exact Bool.noConfusion hb16
      | (
       obtain ⟨x,hx⟩:=ζm (show i<l.length by omega)
       have e1:((Zjh l).drop (i*3)).take 3=[pInt x.op,ZaS x.act,ZbT x.l]:=ZbX hx
       have e2:=Zc4 hx
       have hxm:=List.mem_of_getElem? hx
       have hxs:=ZdN hxm
       have hsn:=Zfd hx
       refine nav ?_
       (refine ζa ?_<;>refine xL 17 (ζJ Zfc) ?_<;>(refine yL 18 (Zbm Zbu) fun v18 h=>?_;cases h)<;>refine ζr [(.int .i64 0),(.string ByteArray.empty),(.slice none 0 0)] 3 5 ZkS fun h5=>?_<;>refine ζC 5 Zbu ?_<;>refine ζb (nav ?_)<;>try dsimp only)
       (refine ζa ?_<;>refine xL 19 ζd ?_<;>(refine yL 20 (ζp 5 Zbu) fun v20 h=>?_;cases h)<;>(refine Za4 [(1000,m, .omap (skv (ZdD S)))] ⟨rfl,trivial⟩ ?_;refine ZeG [] 21 (Tryz.call74) (ih x hxm (hp x hxm) (by omega) S m v20) (fun v21 p21 h21 hR21=>?_);subst hR21)<;>refine ζb (nav ?_)<;>try dsimp only)
       (refine ζa ?_<;>refine xL 22 ζM ?_<;>refine xL 15 ζd ?_<;>refine ζb (nav ?_)<;>try dsimp only)
       refine ζl (
        ⟨(i+1,colS S (Za5 x)),ζe hx,by dsimp only;rw [hsn,Zfa,←hS]⟩
        ) (by dsimp only;omega) ⟨rfl,rfl,rfl,rfl,trivial⟩ ⟨rfl,trivial⟩)
    · first
      |exact Bool.noConfusion hb16
      | (
       refine nav ?_
       have hS2:S=colS K (Ze1 l):=by rw [hS,List.take_of_length_le (by omega)]
       refine Zgc [(1000,m, .omap (skv (ZdD S)))] (Tryz.results74) ⟨rfl,trivial⟩ ?_
       rw [hS2]))
 · first
   |exact Bool.noConfusion hb8
   | (
    rw [show ks=K by rw [hK,if_neg (by assumption)]]
    refine nav ?_
    (refine ζa ?_<;>refine xL 12 (ζh 3 Zg9) ?_<;>(refine yL 13 (ζs 3 ZkR) fun v13 h=>?_;cases h)<;>refine xL 14 (ζV Zfc) ?_<;>refine xL 15 ζd ?_<;>refine ζb (nav ?_)<;>try dsimp only)
    refine ζy (ι:={q:Nat×List ByteArray//q.1≤l.length∧q.2=colS K (Ze1 (l.take q.1))}) (fun k=>⟨[(0,_,_),(13,_,_),(14,_,_),(15, .int .i64 k.1.1,pInt k.1.1)],[(1000,m, .omap (skv (ZdD k.1.2)))]⟩) (fun k=>l.length-k.1.1) ⟨(0,K),Nat.zero_le _,by rw [List.take_zero];rfl⟩ (fun a w H=>H.weaken ⟨rfl,rfl,rfl,rfl,trivial⟩ ⟨rfl,trivial⟩) ?_
    rintro ⟨⟨i,S⟩,hi,hS⟩
    dsimp only
    dsimp only at hi hS
    refine nav ?_
    (refine ζa ?_<;>refine xL 16 ζS ?_<;>refine ζb (nav ?_)<;>try dsimp only)
    (first|refine cCd ?_ ?_|refine cC ?_ ?_)<;>intro hb16
    · first
      |exact Bool.noConfusion hb16
      | (
       obtain ⟨x,hx⟩:=ζm (show i<l.length by omega)
       have e1:((Zjh l).drop (i*3)).take 3=[pInt x.op,ZaS x.act,ZbT x.l]:=ZbX hx
       have e2:=Zc4 hx
       have hxm:=List.mem_of_getElem? hx
       have hxs:=ZdN hxm
       have hsn:=Zfd hx
       refine nav ?_
       (refine ζa ?_<;>refine xL 17 (ζJ Zfc) ?_<;>(refine yL 18 (Zbm Zbu) fun v18 h=>?_;cases h)<;>refine ζr [(.int .i64 0),(.string ByteArray.empty),(.slice none 0 0)] 3 5 ZkS fun h5=>?_<;>refine ζC 5 Zbu ?_<;>refine ζb (nav ?_)<;>try dsimp only)
       (refine ζa ?_<;>refine xL 19 ζd ?_<;>(refine yL 20 (ζp 5 Zbu) fun v20 h=>?_;cases h)<;>(refine Za4 [(1000,m, .omap (skv (ZdD S)))] ⟨rfl,trivial⟩ ?_;refine ZeG [] 21 (Tryz.call74) (ih x hxm (hp x hxm) (by omega) S m v20) (fun v21 p21 h21 hR21=>?_);subst hR21)<;>refine ζb (nav ?_)<;>try dsimp only)
       (refine ζa ?_<;>refine xL 22 ζM ?_<;>refine xL 15 ζd ?_<;>refine ζb (nav ?_)<;>try dsimp only)
       refine ζl (
        ⟨(i+1,colS S (Za5 x)),ζe hx,by dsimp only;rw [hsn,Zfa,←hS]⟩
        ) (by dsimp only;omega) ⟨rfl,rfl,rfl,rfl,trivial⟩ ⟨rfl,trivial⟩)
    · first
      |exact Bool.noConfusion hb16
      | (
       refine nav ?_
       have hS2:S=colS K (Ze1 l):=by rw [hS,List.take_of_length_le (by omega)]
       refine Zgc [(1000,m, .omap (skv (ZdD S)))] (Tryz.results74) ⟨rfl,trivial⟩ ?_
       rw [hS2]))
def ZAZ:Value×Value→ByteArray
 |(.string s,_)=>s
 |_=>ByteArray.empty
theorem ZuA (ks:List ByteArray):(skv (ZdD ks)).map ZAZ=ks:=by
 unfold skv ZdD
 rw [List.map_map,List.map_map]
 exact (List.map_congr_left fun s _=>rfl).trans (List.map_id ks)
theorem ZuB {ks:List ByteArray} {k v:Value} (h:(k,v)∈skv (ZdD ks)):∃s,s∈ks∧k= .string s∧v= .bool true:=by
 unfold skv ZdD at h
 rw [List.map_map] at h
 obtain ⟨s,hs,e⟩:=List.mem_map.1 h
 cases e
 exact ⟨s,hs,rfl,rfl⟩
theorem Zoj (ks:List ByteArray):(skv (ZdD ks)).length=ks.length:=by unfold skv ZdD;rw [List.length_map,List.length_map]
theorem ZuC {es:Array MapEntry} {seen:Array Nat} {e:MapEntry} {clock:Nat} (hW:WfM es clock) (he:e∈(leftOf es seen).toList):(leftOf es (seen.push e.born)).size<(leftOf es seen).size:=by
 have h:=(ZkK hW he).length_eq
 rw [List.length_cons,Zjc,Zjc] at h
 omega
theorem ZuD {es:Array MapEntry} {seen:Array Nat} {e:MapEntry} (he:e∈(leftOf es seen).toList):(e.key,e.val)∈kvOf es:=List.mem_map.2 ⟨e,Zob he,rfl⟩
theorem Ziv (e n:Nat) (l:List ByteArray) (h:n=l.length):share (.own e 1 n (l.map ZaS))=Zao l:=by
 subst h
 rw [share,ζ3,List.map_map];rfl
set_option maxHeartbeats 4000000 in
theorem ZmC (t :Nd) (hf:FitT t):AF Tryz.prog 25 [pTr t] (· = .tup [Zao (actR t).1,pInt (actR t).2]):=by
 have e0:pTr t= .agg [pInt t.op,ZaS t.act,ZbT t.l]:=rfl
 have hV:=ZcI t hf
 rw [e0] at hV ⊢
 refine AF.of_body 30 Tryz.func25 rfl Tryz.ntmps25 (Nat.le_of_ble_eq_true rfl) ?_
 intro w0 M0 vs hl hv
 obtain ⟨v0,rfl⟩:=ZdL hl
 clear hl hv
 refine nav ?_
 (refine ζa ?_<;>refine ζE 1 3 fun h1=>?_<;>refine xL 2 ζc ?_<;>refine xL 3 ζc ?_<;>refine ζb (nav ?_)<;>try dsimp only)
 (refine ζa ?_<;>(refine yL 7 (ζp 1 Zbu) fun v7 h=>?_;cases h)<;>(refine cS 8 (cA Tryz.call24 (hV)) fun v8 h=>?_;cases h)<;>refine xL 9 Zak ?_<;>refine ζb (nav ?_)<;>try dsimp only)
 (first|refine cCd ?_ ?_|refine cC ?_ ?_)<;>intro hb9
 · first
   |exact Bool.noConfusion hb9
   | (
    refine nav ?_
    (refine ζa ?_<;>refine xL 2 ζc ?_<;>refine xL 3 ζc ?_<;>refine ζb (nav ?_)<;>try dsimp only)
    refine Za7 (Zcj (t:=2) rfl) fun _=>?_
    refine Za8 (Tryz.results25) rfl rfl ?_
    rw [show actR t=([],1) by unfold actR;rw [if_neg (by simpa using hb9)]];rfl)
 · first
   |exact Bool.noConfusion hb9
   | (
    have hv:ZcB t=true:=by simpa using hb9
    have hok:=Ze7 hv
    have hsz:=Zit hv
    obtain ⟨ks,hks⟩:∃ks,ks=colS [] (Za5 t):=⟨_,rfl⟩
    have hR:actR t=if ks.length≤40 then (Zgg ks,0) else ([],5):=by unfold actR;rw [if_pos hv,hks]
    have hnd:ks.Nodup:=by rw [hks];exact ZfK _ _ List.nodup_nil
    refine nav ?_
    (refine ζa ?_<;>refine ZeT 10 fun h10 ho10=>?_<;>refine xL 4 ζc ?_<;>refine ζb (nav ?_)<;>try dsimp only)
    refine ζv (ζD (l:=10) 1000 rfl rfl) fun _=>?_
    (refine ζa ?_<;>refine xL 11 ζd ?_<;>(refine yL 12 (ζp 1 Zbu) fun v12 h=>?_;cases h)<;>(refine Za4 [(1000,h10, .omap (skv (ZdD []))),(1,_,_)] ⟨rfl,rfl,trivial⟩ ?_;refine ZeG [1] 13 (Tryz.call74) (ZpV t hok (by omega) [] h10 v12) (fun v13 p13 h13 hR13=>?_);subst hR13;rw [←hks])<;>refine ζb (nav ?_)<;>try dsimp only)
    (refine ζa ?_<;>refine xL 14 ζd ?_<;>refine xL 15 (Zje 1000 Tryz.underlying76) ?_<;>refine xL 16 ZaH ?_<;>refine ζb (nav ?_)<;>try dsimp only)
    (first|refine cCd ?_ ?_|refine cC ?_ ?_)<;>intro hb16
    · first
      |exact Bool.noConfusion hb16
      | (
       refine nav ?_
       (refine ζa ?_<;>refine xL 2 ζc ?_<;>refine xL 3 ζc ?_<;>refine ζb (nav ?_)<;>try dsimp only)
       refine Za7 (Zcj (t:=2) rfl) fun _=>?_
       refine Za8 (Tryz.results25) rfl rfl ?_
       rw [Zoj] at hb16
       rw [hR,if_neg (by omega)];rfl)
    · first
      |exact Bool.noConfusion hb16
      | (
       rw [Zoj] at hb16
       rw [if_pos (by omega)] at hR
       refine nav ?_
       (refine ζa ?_<;>refine xL 5 ζc ?_<;>refine ζb (nav ?_)<;>try dsimp only)
       refine ζv (En.freeze (l:=1000) (t:=4) rfl rfl) fun _=>?_
       (refine ζa ?_<;>refine xL 17 ζd ?_<;>refine Zum 18 Tryz.underlying76 (fun b18 r18 c18 es18 hkv18 hWf18=>?_)<;>refine ζb (nav ?_)<;>try dsimp only)
       refine ζv (Zb2 200 9 1 rfl) fun _=>?_
       refine ζy (ι:={x:Value×Array Nat×List ByteArray//x.1.oneCell'=true∧(x.2.2++(kvOf (leftOf es18 x.2.1)).map ZAZ).Perm ks}) (fun k=>⟨[(18,_,_),(5,k.1.1, .val k.1.1)],[(18,itv r18,itP b18 r18 c18 es18 k.1.2.1),(200,k.1.1, .own 9 1 k.1.2.2.length (k.1.2.2.map ZaS))]⟩) (fun k=>(leftOf es18 k.1.2.1).size) ⟨(.slice none 0 0,#[],[]),rfl,by rw [Zun,←hkv18,ZuA];exact .refl _⟩ (fun a w H=>H.weaken ⟨rfl,rfl,trivial⟩ ⟨rfl,rfl,trivial⟩) ?_
       rintro ⟨⟨hov,seen,L⟩,ho,hp⟩
       dsimp only
       dsimp only at ho hp
       have hLl:L.length≤40:=by
        have:=hp.length_eq
        rw [List.length_append] at this;omega
       have hLm:(L.map ZaS).length=L.length:=List.length_map _
       refine nav ?_
       (refine ζa ?_<;>refine Zxb 18 19 hWf18 (fun hlf18=>?_) (fun e18 hle18=>?_)<;>refine xL 20 ζf ?_<;>refine ζb (nav ?_)<;>try dsimp only)<;>(
        (first|refine cCd ?_ ?_|refine cC ?_ ?_)<;>intro hb20
        · first
          |exact Bool.noConfusion hb20
          | (
           refine nav ?_
           (refine ζa ?_<;>refine xL 21 (Zxc 18 hWf18 (Zob hle18)) ?_<;>refine xL 22 ζf ?_<;>refine xL 6 ζc ?_<;>refine ζb (nav ?_)<;>try dsimp only)
           obtain ⟨s,hmem,hks,hvs⟩:=ZuB (hkv18▸ZuD hle18)
           rw [hks]
           (refine ζa ?_<;>refine xL 23 ζd ?_<;>refine xL 24 ζd ?_<;>refine ζI (kk:=1) 25 ZkQ fun h25 ho25=>?_<;>refine ζY 200 25 26 ZkQ fun h26 ho26=>?_<;>refine xL 5 ζc ?_<;>refine ζb (nav ?_)<;>try dsimp only)
           refine ZbJ (ζD (l:=26) 200 rfl rfl) fun _=>?_
           rw [show L.map ZaS++[_]=(L++[s]).map ZaS from (by rw [List.map_append];rfl),show L.length+1=(L++[s]).length by simp]
           refine ζl (
            ⟨(h26,seen.push e18.born,L++[s]),ho26,by
              refine .trans ?_ hp
              have h1:=(ZkK hWf18 hle18).map ZAZ
              rw [List.map_cons,hks,hvs] at h1
              show (L++[_]++_).Perm _
              rw [List.append_assoc]
              exact h1.symm.append_left L⟩
            ) (ZuC hWf18 hle18) ⟨rfl,rfl,trivial⟩ ⟨rfl,rfl,trivial⟩)
        · first
          |exact Bool.noConfusion hb20
          | (
           refine nav ?_
           have hp0:L.Perm ks:=by
            rw [hlf18] at hp
            have h1:kvOf (#[]:Array MapEntry)=[]:=rfl
            rw [h1,List.map_nil,List.append_nil] at hp
            exact hp
           have hLL:(L.map toB).length=L.length:=List.length_map _
           refine ζv (ζN (l:=200) (p':= .own 9 1 (L.map toB).length ((L.map toB).map Zxp)) rfl (by rw [Zxs,hLL])) fun _=>?_
           (refine ζa ?_<;>refine xL 27 ζd ?_<;>refine Zxq (zs:=L.map toB) 200 ZrO ZpU (Tryz.call75) ?_<;>refine ζb (nav ?_)<;>try dsimp only)
           rw [Zux,ZrL hp0]
           refine ζv (En.freeze (l:=200) (t:=5) rfl rfl) fun _=>?_
           rw [Ziv _ _ _ (by rw [Zfb,hLL,hp0.length_eq])]
           (refine ζa ?_<;>refine xL 29 ζd ?_<;>refine xL 2 ζc ?_<;>refine xL 3 ζc ?_<;>refine ζb (nav ?_)<;>try dsimp only)
           refine Za8 (Tryz.results25) rfl rfl ?_
           rw [hR]))))
def kyv (k1 g:Nat):Value:= .func (.func k1) #[] #[.pointer (some ⟨g,0,none⟩)]
def kyP (g b clock t:Nat) (es:Array MapEntry):PV:= .oblk (itv g) g (.cells #[.map (some b)] t) [(b, .map es clock)]
def kyE (g b clock t:Nat) (es:Array MapEntry):Ent:=(itv g,kyP g b clock t es)
def ZzE (P:Program) (f k1 t:Nat):Prop:=∀(b:Nat) (w:World),Calls P f #[.map (some b)] w fun e w'=>e= .returned (kyv k1 w.heap.size)∧w'=w.alloc (.cells #[.map (some b)] t)
def Zok (P:Program) (f k1 t T:Nat):Prop:=∀(g b clock:Nat) (es:Array MapEntry) (ks:List ByteArray) (w:World),w.heap[g]? =some (.cells #[.map (some b)] t)→w.heap[b]? =some (.map es clock)→WfM es clock→kvOf es=skv (ZdD ks)→ks.Nodup→ks.length≤1000000→(∀s∈ks,s.size≤140737488355328)→
 Calls P f #[kyv k1 g] w fun e w'=>∃v,e= .returned v∧w'.ownsRow w.heap.size T 1 v ks.length ((Zgg ks).map Value.string)∧Below w.heap.size w w'
section
variable {P:Program} {c:Ctx} {ops:Array Oper} {Q:Exit→Act→World→Prop} {rest:List Oper} {sL hP:List (Nat×Ent)} {o:Oper}
theorem ZzF {f k1 t:Nat} {x:Operand} {m:Value} {kv:List (Value×Value)} {ats:Array TypeId} (d:Nat) (hA:ZzE P f k1 t) (hc:∀args w,(callFunc f args).run P w= .ok (.enter f args) w)
 (k:∀(g b clock:Nat) (es:Array MapEntry),kv=kvOf es→WfM es clock→aL P c ops Q rest ⟨put d (kyv k1 g, .val (kyv k1 g)) sL,put d (kyE g b clock t es) hP⟩)
 (hw:ζX ops sL o=some true:=by exact rfl) (hd:o.dst=some d:=by exact rfl) (hn:d<c.nt:=by exact Nat.le_of_ble_eq_true rfl) (ho:o.op= .call {callee:= .value (.func f),args:= #[x],argTypes:=ats}:=by exact rfl) (hx:ev sL x=some (m, .smap kv):=by exact rfl) (hl:lk hP d=none:=by exact rfl):aL P c ops Q (o::rest) (⟨sL,hP⟩:St):=
 Zas hw fun a w F H=>by
  obtain ⟨hv,hS⟩:=H.rd.ev hx
  cases hS with
  | smap b es clock hM h hW=>
    have key:HoldsF c ⟨put d (kyv k1 w.heap.size, .val (kyv k1 w.heap.size)) sL,put d (kyE w.heap.size b clock t es) hP⟩ (fun l'=>if l'=d then (fun x=>x=w.heap.size) else F l') (a.put (some d) (kyv k1 w.heap.size)) (w.alloc (.cells #[.map (some b)] t)):=by
     refine H.change (fun l'=>l'=d) hn ((Ext.alloc _ _).chg) (fun l' x hne hx'=>?_) (fun l' x b' hT hx' hb=>?_) (fun hm l' u q hT hx'=>?_) (fun l1 l2 _ _ _ h1 h2 hne=>absurd (h1.trans h2.symm) hne) (fun hm=> .val _)
     · rcases Zaa hx' with ⟨e1,_⟩|⟨_,e1⟩
       · exact absurd e1.symm hne
       · exact ⟨e1,by simp [hne]⟩
     · subst hT
       simp only [if_true] at hb
       exact .inr (by rw [hb];exact Nat.le_refl _)
     · subst hT
       rw [ζQ] at hx'
       unfold kyE kyP at hx'
       cases hx'
       simp only [if_true]
       refine .oblk w.heap.size rfl ?_ (fun p hp=>?_) (fun x=>Iff.rfl)
       · show (w.heap.push _)[w.heap.size]? =_
         simp
       · rw [List.mem_singleton] at hp
         subst hp
         exact ⟨(Ext.alloc w _).block h,fun hb=>hM (hm b (ZaT h) hb)⟩
    have hrun:(execOp a.eval o).run P w= .ok (.enter f #[.map (some b)]) w:=by
     have hev:a.eval (.func f)= .func (.func f) #[] #[]:=rfl
     simp [execOp,ho,resolve,Deferred.ofValue,hev,invoke,hv,hc]
    unfold Oper.wp
    rw [hrun,Oper.upon_enter]
    refine (hA b w).mono fun e' w' ⟨he,hw'⟩=>?_
    subst he hw'
    rw [hd]
    exact k _ _ _ _ rfl hW _ _ ⟨_,key⟩
theorem ZrP {f k1 t T g b clock:Nat} {es:Array MapEntry} {q:PV} {x:Operand} {ats:Array TypeId} {ks:List ByteArray} (l d:Nat) (hA:Zok P f k1 t T) (hc:∀args w,(callFunc f args).run P w= .ok (.enter f args) w) (hdr:¬c.dr)
 (hW:WfM es clock) (hkv:kvOf es=skv (ZdD ks)) (hnd:ks.Nodup) (hlen:ks.length≤1000000) (hsz:∀s∈ks,s.size≤140737488355328)
 (k:∀v:Value,v.oneCell'=true→aL P c ops Q rest ⟨put d (v, .val v) sL,put d (v, .own T 1 ks.length ((Zgg ks).map ZaS)) hP⟩)
 (hw:ζX ops sL o=some true:=by exact rfl) (hd:o.dst=some d:=by exact rfl) (hn:d<c.nt:=by exact Nat.le_of_ble_eq_true rfl) (ho:o.op= .call {callee:= .value (.func f),args:= #[x],argTypes:=ats}:=by exact rfl) (hx:ev sL x=some (kyv k1 g,q):=by exact rfl) (hl:lk hP l=some (kyE g b clock t es):=by exact rfl) (hld:lk hP d=none:=by exact rfl):aL P c ops Q (o::rest) (⟨sL,hP⟩:St):=
 Zas hw fun a w F H=>by
  have hv:=(H.rd.ev hx).1
  obtain ⟨h,hs,hF⟩:=(H.tr l _ _ hl).blk
  obtain ⟨hb,_⟩:=hs (b, .map es clock) (by simp)
  dsimp only at hb
  have hrun:(execOp a.eval o).run P w= .ok (.enter f #[kyv k1 g]) w:=by
   have hev:a.eval (.func f)= .func (.func f) #[] #[]:=rfl
   simp [execOp,ho,resolve,Deferred.ofValue,hev,invoke,hv,hc]
  unfold Oper.wp
  rw [hrun,Oper.upon_enter]
  refine (hA g b clock es ks w h hb hW hkv hnd hlen hsz).mono fun e' w' ⟨v,he,hown,hbel⟩=>?_
  subst he
  rw [hd]
  have hone:v.oneCell'=true:=by
   rcases hown.2 with ⟨h1,_⟩|⟨g',cap',cur,e1,_⟩
   · rw [h1];rfl
   · rw [e1];rfl
  have hlow:∀b,v.ownBlock=some b→w.heap.size≤b:=fun b hb'=>by
   rcases hown.2 with ⟨h1,_⟩|⟨g',cap',cur,e1,e2,_⟩
   · rw [h1] at hb';simp [Value.ownBlock] at hb'
   · rw [e1] at hb';simp [Value.ownBlock] at hb';omega
  have hown0:w'.ownsRow 0 T 1 v ks.length ((Zgg ks).map Value.string):=by
   refine ⟨hown.1,?_⟩
   rcases hown.2 with h1|⟨g',cap,cur,e1,e2,r⟩
   · exact .inl h1
   · exact .inr ⟨g',cap,cur,e1,Nat.zero_le _,r⟩
  have hch:Chg (fun b=>∃l x,l=d∧lk hP l=some x∧F l b) w w':=⟨hbel.os,hbel.tape,hbel.output,hbel.size,fun i hi _=>hbel.block i hi⟩
  refine k v hone _ _ ⟨fun l'=>if l'=d then (fun b=>v.ownBlock=some b) else F l',H.change (fun l'=>l'=d) hn hch (fun l' x hne hx'=>?_) (fun l' x b' hT hx' hb=>?_) (fun hm l' u q hT hx'=>?_) (fun l1 l2 _ _ _ h1 h2 hne=>absurd (h1.trans h2.symm) hne) (fun hm=> .val _) (fun h=>absurd h hdr)⟩
  · rcases Zaa hx' with ⟨e1,_⟩|⟨_,e1⟩
    · exact absurd e1.symm hne
    · exact ⟨e1,by simp [hne]⟩
  · subst hT
    simp only [if_true] at hb
    exact .inr (hlow b' hb)
  · subst hT
    rw [ζQ] at hx'
    cases hx'
    simp only [if_true]
    refine .own ((Zgg ks).map Value.string) (fun _ _=>False) hown0 (by simp) (fun t v p hv hp=>?_) (fun _ _ _ _ _ _ h=>h.elim) (fun _ _ _ h=>h.elim) (fun b=>by simp)
    rw [List.getElem?_map,Option.map_eq_some_iff] at hv hp
    obtain ⟨b1,hb1,rfl⟩:=hv
    obtain ⟨b2,hb2,rfl⟩:=hp
    rw [hb1] at hb2;cases hb2
    exact .shr (.val _) (fun _ h=>h)
end
open Go.Maps Go.Sort Go.Shelf in
def rdK (_:Value):Option (DataW Unit×List MemPlace):=some (.lit (.bool true),[])
section
open Go.WideElems Go.MapKept Go.WideMaps
theorem ZzG {P:Program} {k:TypeId} (hk:P.underlying k=some .string) {s:ByteArray} (hs:s.size≤maxLen):rg P k rdK ⟨.string s, .bool true,0⟩=(.string s.data.toList, .lit (.bool true)):=by
 have:rd P k rdK ⟨.string s, .bool true,0⟩=some (.string s.data.toList, .lit (.bool true)):=rd_mk (R:=rdK) (val:= .bool true) (born:=0) (yv:=(.lit (.bool true),[])) (keyOf_string_mk hk hs) rfl
 exact rg_of this
theorem Zxt {P:Program} {k:TypeId} (hk:P.underlying k=some .string) {w:World} {b clock:Nat} {es:Array MapEntry} {ks:List ByteArray} (hb:w.heap[b]? =some (.map es clock)) (hW:WfM es clock) (hkv:kvOf es=skv (ZdD ks)) (hnd:ks.Nodup) (hlen:ks.length≤1000000) (hsz:∀s∈ks,s.size≤140737488355328):∃D0,w.ownsMap P k rdK b ks.length D0∧(strKeys D0).Perm (ks.map toB)∧Maps.size D0=ks.length:=by
 have hml:∀s∈ks,s.size≤maxLen:=fun s hs=>by have:=hsz s hs;unfold maxLen;omega
 have hkv2:es.toList.map (fun x=>(x.key,x.val))=ks.map fun s=>(Value.string s,Value.bool true):=by
  have:kvOf es=ks.map fun s=>(Value.string s,Value.bool true):=by rw [hkv];unfold skv ZdD;rw [List.map_map];rfl
  exact this
 have hsize:es.size=ks.length:=by have:=congrArg List.length hkv2;simpa using this
 have hrg:es.toList.map (rg P k rdK)=ks.map fun s=>(Lit.string s.data.toList,(.lit (.bool true):DataW Unit)):=by
  have h1:es.toList.map (rg P k rdK)=(es.toList.map fun x=>(x.key,x.val)).map fun p=>rg P k rdK ⟨p.1,p.2,0⟩:=by
   rw [List.map_map];rfl
  rw [h1,hkv2,List.map_map]
  exact List.map_congr_left fun s hs=>ZzG hk (hml s hs)
 have hread:∀x∈es.toList,∃y,rd P k rdK x=some y:=fun x hx=>by
  have:(x.key,x.val)∈es.toList.map (fun x=>(x.key,x.val)):=List.mem_map.2 ⟨x,hx,rfl⟩
  rw [hkv2] at this
  obtain ⟨s,hs,e⟩:=List.mem_map.1 this
  obtain ⟨xk,xv,xb⟩:=x
  cases e
  exact ⟨_,rd_mk (R:=rdK) (yv:=(.lit (.bool true),[])) (keyOf_string_mk hk (hml s hs)) rfl⟩
 refine ⟨.map ((es.toList.map (rg P k rdK)).foldr DataW.insert []),⟨es,clock,hb,⟨by rw [hsize];unfold maxLen;omega,?_,hread⟩,by rw [hsize];exact Nat.le_refl _,rfl⟩,?_,?_⟩
 · refine ⟨hW.1,hW.2,?_⟩
   have h3:es.toList.map (·.key)=ks.map Value.string:=by
    have:=congrArg (List.map Prod.fst) hkv2
    rw [List.map_map,List.map_map] at this
    exact this
   rw [h3]
   exact List.pairwise_map.2 (hnd.imp fun h e=>h (by cases e;rfl))
 · rw [hrg]
   have h2:=(WideShapes.sorted_perm (ks.map fun s=>(Lit.string s.data.toList,(.lit (.bool true):DataW Unit)))).map fun p=>strOf p.1
   rw [List.map_map] at h2
   exact h2
 · show List.length _=_
   rw [(WideShapes.sorted_perm _).length_eq,List.length_map,Array.length_toList,hsize]
end
theorem ZA0:ZzE Tryz.prog 50 95 76:=fun b w=>callsIn_wide.1 (AnyZ.keys_in (ρ:=Tryz.keysA_ren) Tryz.keysA Fence.wide 5 trivial rfl (some b) w)
theorem ZzH (m:Nat):AnyZ.SortsIn Tryz.prog Tryz.sortedA_ren Fence.wide m:=
 ⟨fun blk off cap ss W hH hblk hsz=>callsIn_wide.2 (Tryz.slices_Sort_string blk off cap ss W hH hblk hsz),fun p cap W=>callsIn_wide.2 (Tryz.slices_Sort_string_none p cap W)⟩
theorem ZuE:Zok Tryz.prog 49 95 76 9:=fun g b clock es ks w hg hb hW hkv hnd hlen hsz=>by
 obtain ⟨D0,hown,hperm,hsize⟩:=Zxt (P:=Tryz.prog) (k:=9) Tryz.underlying9 hb hW hkv hnd hlen hsz
 have hseq:SeqGives Fence.wide 2 Tryz.prog 95 #[.pointer (some ⟨g,0,none⟩)] encStr (fun ss=>ss.Perm (strKeys D0)) (Maps.size D0) w:=
  AnyZ.keys_gives (ρ:=Tryz.keysA_ren) {Tryz.keysA with} Fence.wide _ trivial rfl (by omega) g b _ D0 w (ZaT hg) (by simp [World.cell?,hg]) hown
 have cS:=AnyZ.sorted_in (ρ:=Tryz.sortedA_ren) Tryz.sortedA Fence.wide 5 trivial trivial trivial trivial rfl (by omega) (ZzH _) (Tryz.call75) 95 #[.pointer (some ⟨g,0,none⟩)] trivial (Tryz.call95) _ _ (by rw [hsize];unfold maxLen;omega) (by rw [hsize];omega) _ hseq
 refine (callsIn_wide.1 cS).mono ?_
 rintro e w' ⟨v,ss,rfl,hS,hrow,_,hbel⟩
 have hp:=hS.trans hperm
 refine ⟨v,rfl,?_,hbel⟩
 have e1:(ss.mergeSort fun x y=>decide (x≤y)).map encStr=(Zgg ks).map Value.string:=by
  rw [mergeSort_of_perm hp]
  unfold Zgg
  rw [List.map_map];rfl
 have e2:ss.length=ks.length:=by rw [hp.length_eq,List.length_map]
 rw [e1,e2] at hrow
 exact hrow
theorem ZbO {α:Type} {l m:List α} (h:l<+:m) {i:Nat} {x:α} (hx:l[i]? =some x):m[i]? =some x:=by
 obtain ⟨r,rfl⟩:=h
 rw [List.getElem?_append_left (ζe hx)];exact hx
section
variable {α κ:Type} [DecidableEq κ]
def posK (f:α→κ):List α→κ→Nat
 |[],_=>0
 |x::l,k=>if f x=k then 0 else posK f l k+1
theorem Zjq {f:α→κ}:∀{l:List α} {k:κ},posK f l k<l.length↔∃x∈l,f x=k
 |[],k=>by simp [posK]
 | x :: l,k=>by
   have:=Zjq (f:=f) (l:=l) (k:=k)
   rw [posK,List.length_cons]
   split
   · rename_i h
     exact ⟨fun _=>⟨x,List.mem_cons_self ..,h⟩,fun _=>by omega⟩
   · rename_i h
     rw [Nat.add_lt_add_iff_right,this]
     constructor
     · rintro ⟨y,h1,h2⟩;exact ⟨y,List.mem_cons_of_mem _ h1,h2⟩
     · rintro ⟨y,h1,h2⟩
       rcases List.mem_cons.1 h1 with rfl|h1
       · exact absurd h2 h
       · exact ⟨y,h1,h2⟩
theorem Zol {f:α→κ}:∀{l:List α} {k:κ} {x:α},l[posK f l k]? =some x→f x=k
 |[],k,x,h=>by simp [posK] at h
 | y ::l,k,x,h=>by
   rw [posK] at h
   split at h
   · rename_i h1
     simp only [List.getElem?_cons_zero,Option.some.injEq] at h
     subst h;exact h1
   · simp only [List.getElem?_cons_succ] at h
     exact Zol h
theorem Zha {f:α→κ} {l:List α} {k:κ} (h:posK f l k<l.length):∃x,l[posK f l k]? =some x∧f x=k:=by
 obtain ⟨x,hx⟩:=ζm h
 exact ⟨x,hx,Zol hx⟩
theorem Zgs {f:α→κ}:∀{l:List α} {k:κ} (m:List α),posK f l k<l.length→posK f (l++m) k=posK f l k
 |[],k,m,h=>by simp at h
 | x ::l,k,m,h=>by
   rw [List.cons_append,posK,posK]
   rw [posK] at h
   split
   · rfl
   · rename_i h1
     rw [if_neg h1,List.length_cons,Nat.add_lt_add_iff_right] at h
     rw [Zgs m h]
theorem Zjr {f:α→κ}:∀{l:List α} {x:α},¬posK f l (f x)<l.length→posK f (l++[x]) (f x)=l.length
 |[],x,_=>by simp [posK]
 | y ::l,x,h=>by
   rw [posK] at h
   rw [List.cons_append,posK]
   split
   · rename_i h1
     rw [if_pos h1,List.length_cons] at h;omega
   · rename_i h1
     rw [if_neg h1,List.length_cons,Nat.add_lt_add_iff_right] at h
     rw [Zjr h,List.length_cons]
theorem Zfe {κ':Type} [DecidableEq κ'] {f:α→κ} {g:α→κ'}:∀{l:List α} {k:κ} {k':κ'},(∀x∈l,f x=k↔g x=k')→posK f l k=posK g l k'
 |[],_,_,_=>rfl
 | x::l,k,k',h=>by
   rw [posK,posK,Zfe fun y hy=>h y (List.mem_cons_of_mem _ hy)]
   have h1:=h x (List.mem_cons_self ..)
   by_cases h2:f x=k
   · rw [if_pos h2,if_pos (h1.1 h2)]
   · rw [if_neg h2,if_neg fun h3=>h2 (h1.2 h3)]
theorem Zdr {f:α→κ}:∀{l:List α} {i:Nat} {x:α},(l.map f).Nodup→l[i]? =some x→posK f l (f x)=i
 |[],i,x,_,h=>by simp at h
 | y::l,0,x,_,h=>by
   simp only [List.getElem?_cons_zero,Option.some.injEq] at h
   subst h;rw [posK,if_pos rfl]
 | y::l,i+1,x,hn,h=>by
   simp only [List.getElem?_cons_succ] at h
   rw [List.map_cons,List.nodup_cons] at hn
   rw [posK,if_neg fun e=>hn.1 (by rw [e];exact List.mem_map_of_mem (List.mem_of_getElem? h)),Zdr hn.2 h]
def Zbv (f:α→κ):Nat→List α→List (κ×Value)
 |_,[]=>[]
 |off,x::l=>(f x, .int .i64 (off:Nat))::Zbv f (off+1) l
theorem Zff (f:α→κ):∀(l:List α) (off:Nat) (k:κ),Zf7 (Zbv f off l) k=if posK f l k<l.length then some (.int .i64 ((off+posK f l k:Nat):Int)) else none
 |[],off,k=>by simp [Zbv,Zf7,posK]
 | x :: l,off,k=>by
   rw [Zbv,Zf7,posK,Zff f l (off+1) k]
   by_cases h:f x=k
   · rw [if_pos h.symm,if_pos h,if_pos (by simp)];simp
   · rw [if_neg (fun e=>h e.symm),if_neg h,List.length_cons]
     by_cases h2:posK f l k<l.length
     · rw [if_pos h2,if_pos (by omega)]
       congr 3;omega
     · rw [if_neg h2,if_neg (by omega)]
theorem Zjs (f:α→κ) (x:α):∀(l:List α) (off:Nat),¬posK f l (f x)<l.length→Zrb (Zbv f off l) (f x) (.int .i64 ((off+l.length:Nat):Int))=Zbv f off (l++[x])
 |[],off,_=>by simp [Zbv,Zrb]
 | y ::l,off,h=>by
   rw [posK] at h
   split at h
   · rename_i h1
     rw [List.length_cons] at h;omega
   · rename_i h1
     rw [List.length_cons,Nat.add_lt_add_iff_right] at h
     rw [Zbv,Zrb,if_neg (fun e=>h1 e.symm),List.cons_append,Zbv,←Zjs f x l (off+1) h,List.length_cons]
     congr 4;omega
theorem Zom (f:α→κ):∀(l:List α) (off:Nat),(Zbv f off l).length=l.length
 |[],_=>rfl
 |x::l,off=>by rw [Zbv,List.length_cons,Zom f l,List.length_cons]
def visit (f:α→κ) (cap:Nat) (o:List α) (x:α):Option (List α×Nat):=
 if posK f o (f x)<o.length then some (o,posK f o (f x)) else if cap≤o.length then none else some (o++[x],o.length)
theorem Zbc {f:α→κ} {cap:Nat} {o:List α} {x:α} (h:posK f o (f x)<o.length):visit f cap o x=some (o,posK f o (f x)):=by unfold visit;rw [if_pos h]
theorem Zbd {f:α→κ} {cap:Nat} {o:List α} {x:α} (h:¬posK f o (f x)<o.length) (hc:o.length<cap):visit f cap o x=some (o++[x],o.length):=by unfold visit;rw [if_neg h,if_neg (by omega)]
theorem Zjt {f:α→κ} {cap:Nat} {o:List α} {x:α} (h:¬posK f o (f x)<o.length) (hc:cap≤o.length):visit f cap o x=none:=by unfold visit;rw [if_neg h,if_pos hc]
end
structure Srch (α κ:Type) where
 key:α→κ
 cap:Nat
 m:Nat
 step:Nat→α→Nat→α
section
variable {α κ:Type} [DecidableEq κ] (W:Srch α κ)
def Srch.row (i:Nat) (x:α) (o:List α):Nat→Option (List α×List Nat)
 |0=>some (o,[])
 |s+1=>(Srch.row i x o s).bind fun q=>(visit W.key W.cap q.1 (W.step i x s)).map fun v=>(v.1,q.2++[v.2])
def Srch.upto (x0:α):Nat→Option (List α×List (List Nat))
 |0=>some ([x0],[])
 | i+1=>(Srch.upto x0 i).bind fun q=>match q.1[i]? with
   |none=>some q
   |some x=>(W.row i x q.1 W.m).map fun v=>(v.1,q.2++[v.2])
def Srch.all (x0:α):Option (List α×List (List Nat)):=W.upto x0 W.cap
variable {W}
theorem Srch.row_snoc {i:Nat} {x:α} {o o' o'':List α} {r:List Nat} {s n:Nat} (h:W.row i x o s=some (o',r)) (hv:visit W.key W.cap o' (W.step i x s)=some (o'',n)):W.row i x o (s+1)=some (o'',r++[n]):=by
 rw [Srch.row,h,Option.bind_some,hv];rfl
theorem Srch.row_out {i:Nat} {x:α} {o o':List α} {r:List Nat} {s:Nat} (h:W.row i x o s=some (o',r)) (hv:visit W.key W.cap o' (W.step i x s)=none):W.row i x o (s+1)=none:=by
 rw [Srch.row,h,Option.bind_some,hv];rfl
theorem Srch.row_none {i:Nat} {x:α} {o:List α} {s:Nat} (h:W.row i x o s=none):∀t,W.row i x o (s+t)=none
 |0=>h
 |t+1=>by rw [←Nat.add_assoc,Srch.row,Srch.row_none h t];rfl
theorem Srch.upto_none {x0:α} {i:Nat} (h:W.upto x0 i=none):∀t,W.upto x0 (i+t)=none
 |0=>h
 |t+1=>by rw [←Nat.add_assoc,Srch.upto,Srch.upto_none h t];rfl
theorem Srch.upto_stop {x0:α} {i:Nat} {q:List α×List (List Nat)} (h:W.upto x0 i=some q) (hl:q.1.length≤i):∀t,W.upto x0 (i+t)=some q
 |0=>h
 |t+1=>by rw [←Nat.add_assoc,Srch.upto,Srch.upto_stop h hl t,Option.bind_some,List.getElem?_eq_none (by omega)]
theorem Srch.upto_snoc {x0 x:α} {i:Nat} {o o':List α} {rows:List (List Nat)} {r:List Nat} (h:W.upto x0 i=some (o,rows)) (hx:o[i]? =some x) (hr:W.row i x o W.m=some (o',r)):W.upto x0 (i+1)=some (o',rows++[r]):=by
 rw [Srch.upto,h,Option.bind_some];dsimp only;rw [hx];dsimp only;rw [hr];rfl
theorem Srch.upto_out {x0 x:α} {i:Nat} {o:List α} {rows:List (List Nat)} (h:W.upto x0 i=some (o,rows)) (hx:o[i]? =some x) (hr:W.row i x o W.m=none):W.upto x0 (i+1)=none:=by
 rw [Srch.upto,h,Option.bind_some];dsimp only;rw [hx];dsimp only;rw [hr];rfl
structure Srch.Met (W:Srch α κ) (P:α→Prop) (x0:α) (o:List α):Prop where
 zero:o[0]? =some x0
 cap:o.length≤W.cap
 nd:(o.map W.key).Nodup
 p:∀x∈o,P x
theorem Srch.Met.start {P:α→Prop} {x0:α} (hc:1≤W.cap) (hP:P x0):W.Met P x0 [x0]:=⟨rfl,hc,by simp,by simpa using hP⟩
theorem Srch.Met.pos {P:α→Prop} {x0:α} {o:List α} (h:W.Met P x0 o):0<o.length:=ζe h.zero
theorem Zhb {f:α→κ} {cap:Nat} {o o':List α} {x:α} {n:Nat} (h:visit f cap o x=some (o',n)):o<+:o'∧n<o'.length∧posK f o' (f x)=n:=by
 unfold visit at h
 split at h
 · rename_i h1
   cases h;exact ⟨List.prefix_refl _,h1,rfl⟩
 · rename_i h1
   split at h
   · cases h
   · cases h
     exact ⟨List.prefix_append _ _,by simp,Zjr h1⟩
theorem Srch.Met.visit {P:α→Prop} {x0 x:α} {o o':List α} {n:Nat} (h:W.Met P x0 o) (hx:P x) (hv:visit W.key W.cap o x=some (o',n)):W.Met P x0 o':=by
 unfold Go.Proofs.YtgfabnhpllkebaaGreatDoor.visit at hv
 split at hv
 · cases hv;exact h
 · rename_i h1
   split at hv
   · cases hv
   · rename_i h2
     cases hv
     refine ⟨?_,by rw [List.length_append,List.length_singleton];omega,?_,fun y hy=>?_⟩
     · rw [List.getElem?_append_left h.pos];exact h.zero
     · rw [List.map_append,List.nodup_append]
       refine ⟨h.nd,by simp,fun a ha b hb e=>h1 (Zjq.2 ?_)⟩
       subst e
       obtain ⟨y,hy,rfl⟩:=List.mem_map.1 ha
       simp at hb
       exact ⟨y,hy,hb⟩
     · rcases List.mem_append.1 hy with hy|hy
       · exact h.p y hy
       · rw [List.mem_singleton.1 hy];exact hx
theorem Srch.Met.row {P:α→Prop} {x0 x:α} {i:Nat} {o:List α} (h:W.Met P x0 o) (hx:∀s,s<W.m→P (W.step i x s)):∀{s:Nat} {o':List α} {r:List Nat},s≤W.m→W.row i x o s=some (o',r)→W.Met P x0 o'∧o<+:o'∧r.length=s∧∀(t n:Nat),r[t]? =some n→n<o'.length∧posK W.key o' (W.key (W.step i x t))=n
 | 0,o',r,_,hr=>by
   rw [Srch.row] at hr;cases hr
   exact ⟨h,List.prefix_refl _,rfl,fun t n ht=>by simp at ht⟩
 | s + 1,o',r,hs,hr=>by
   rw [Srch.row,Option.bind_eq_some_iff] at hr
   obtain ⟨⟨o1,r1⟩,h1,h2⟩:=hr
   obtain ⟨⟨o2,n⟩,h3,h4⟩:=Option.map_eq_some_iff.1 h2
   cases h4
   dsimp only at h3 ⊢
   obtain ⟨h5,h6,h7,h8⟩:=Srch.Met.row h hx (by omega) h1
   obtain ⟨h9,h10,h11⟩:=Zhb h3
   refine ⟨h5.visit (hx s (by omega)) h3,h6.trans h9,by rw [List.length_append,h7];rfl,fun t n' ht=>?_⟩
   rw [List.getElem?_append] at ht
   split at ht
   · obtain ⟨h12,h13⟩:=h8 t n' ht
     obtain ⟨e,rfl⟩:=h9
     refine ⟨by rw [List.length_append];omega,?_⟩
     rw [Zgs e (by rw [h13];exact h12)];exact h13
   · have h14:t=s:=by
      have:=ζe ht
      simp only [List.length_singleton] at this;omega
     subst h14
     rw [h7,Nat.sub_self] at ht
     simp only [List.getElem?_cons_zero,Option.some.injEq] at ht
     subst ht
     exact ⟨h10,h11⟩
structure Srch.Ok (W:Srch α κ) (P:α→Prop) (x0:α) (o:List α) (rows:List (List Nat)):Prop extends W.Met P x0 o where
 len:∀r∈rows,r.length=W.m
 to:∀(i:Nat) (x:α) (r:List Nat) (t n:Nat),o[i]? =some x→rows[i]? =some r→r[t]? =some n→n<o.length∧posK W.key o (W.key (W.step i x t))=n
theorem Srch.ok {P:α→Prop} {x0:α} (hc:1≤W.cap) (h0:P x0) (hP:∀i x s,P x→s<W.m→P (W.step i x s)):∀{i:Nat} {o:List α} {rows:List (List Nat)},W.upto x0 i=some (o,rows)→W.Ok P x0 o rows∧(i≤o.length→rows.length=i)∧(o.length≤i→rows.length=o.length)
 | 0,o,rows,h=>by
   rw [Srch.upto] at h;cases h
   exact ⟨⟨Srch.Met.start hc h0,by simp,by simp⟩,fun _=>rfl,fun h=>by simp at h⟩
 | i + 1, o,rows,h=>by
   rw [Srch.upto,Option.bind_eq_some_iff] at h
   obtain ⟨⟨o1,rows1⟩,h1,h2⟩:=h
   obtain ⟨h3,h4,h4'⟩:=Srch.ok hc h0 hP h1
   dsimp only at h2
   cases hx:o1[i]? with
   | none=>
     rw [hx] at h2;cases h2
     have:=List.getElem?_eq_none_iff.1 hx
     exact ⟨h3,fun h5=>by omega,fun _=>h4' this⟩
   | some x=>
     rw [hx] at h2
     obtain ⟨⟨o2,r⟩,h5,h6⟩:=Option.map_eq_some_iff.1 h2
     cases h6
     dsimp only
     have hil:=ζe hx
     have h4:=h4 (by omega)
     obtain ⟨h7,h8,h9,h10⟩:=h3.toMet.row (fun s hs=>hP i x s (h3.p x (List.mem_of_getElem? hx)) hs) (Nat.le_refl _) h5
     have hle:=h8.length_le
     refine ⟨⟨h7,fun r' hr'=>?_,fun j y r' t n hj hr' ht=>?_⟩,fun _=>by rw [List.length_append,h4];rfl,fun _=>by rw [List.length_append,h4,List.length_singleton];omega⟩
     · rcases List.mem_append.1 hr' with hr'|hr'
       · exact h3.len r' hr'
       · rw [List.mem_singleton.1 hr'];exact h9
     · rw [List.getElem?_append] at hr'
       split at hr'
       · rename_i hjl
         obtain ⟨z,hz⟩:=ζm (show j<o1.length by omega)
         have hzy:=ZbO h8 hz
         rw [hzy] at hj;cases hj
         obtain ⟨h12,h13⟩:=h3.to j y r' t n hz hr' ht
         obtain ⟨e,rfl⟩:=h8
         refine ⟨by rw [List.length_append];omega,?_⟩
         rw [Zgs e (by rw [h13];exact h12)];exact h13
       · have hj2:j=i:=by
          have:=ζe hr'
          simp only [List.length_singleton] at this;omega
         subst hj2
         rw [h4,Nat.sub_self] at hr'
         simp only [List.getElem?_cons_zero,Option.some.injEq] at hr'
         subst hr'
         have hzy:=ZbO h8 hx
         rw [hzy] at hj;cases hj
         exact h10 t n ht
theorem Srch.all_some {x0:α} {i:Nat} {q:List α×List (List Nat)} (h:W.upto x0 i=some q) (hl:q.1.length≤i) (hi:i≤W.cap):W.all x0=some q:=by
 have:=Srch.upto_stop h hl (W.cap-i)
 rw [show i+(W.cap-i)=W.cap by omega] at this
 exact this
theorem Srch.all_none {x0:α} {i:Nat} (h:W.upto x0 i=none) (hi:i≤W.cap):W.all x0=none:=by
 have:=Srch.upto_none h (W.cap-i)
 rw [show i+(W.cap-i)=W.cap by omega] at this
 exact this
theorem Srch.row_fails {i:Nat} {x:α} {o:List α} {s:Nat} (h:W.row i x o s=none) (hs:s≤W.m):W.row i x o W.m=none:=by
 have:=Srch.row_none h (W.m-s)
 rwa [show s+(W.m-s)=W.m by omega] at this
end
theorem ZpW (e n:Nat) (l:List ByteArray):share (.own e 1 n (l.map ZaS))= .sl n (l.map ZaS):=by
 rw [share,ζ3,List.map_map];rfl
def Zcd:List Int→Int
 |[]=>0
 |x::l=>if x=0 then Zcd l else x
section
variable {κ:Type} [DecidableEq κ]
def Zwn:List (κ×Int)→κ→Int
 |[],_=>0
 |x::l,k=>if k=x.1 then x.2 else Zwn l k
def Zon:List (κ×Int)→κ→Int→List (κ×Int)
 |[],k,v=>[(k,v)]
 |x::l,k,v=>if k=x.1 then (k,v)::l else x::Zon l k v
def ZzI (m:List (κ×Int)) (k:κ) (n:Int):List (κ×Int):=Zon m k (Zwn m k+n)
theorem ZrQ {m:List (κ×Int)} {k:κ} {v:Int}:∀x,x∈(Zon m k v).map (·.1)↔x=k∨x∈m.map (·.1):=by
 induction m with
 |nil=>intro x;simp [Zon]
 | cons y m ih=>
   intro x
   rw [Zon]
   split
   · rename_i e;subst e;simp
   · rw [List.map_cons,List.mem_cons,ih,List.map_cons,List.mem_cons]
     constructor
     · rintro (h|h|h)
       · exact .inr (.inl h)
       · exact .inl h
       · exact .inr (.inr h)
     · rintro (h|h|h)
       · exact .inr (.inl h)
       · exact .inl h
       · exact .inr (.inr h)
theorem ZpX {m:List (κ×Int)} {k:κ} {v:Int} (hn:(m.map (·.1)).Nodup):((Zon m k v).map (·.1)).Nodup:=by
 induction m with
 |nil=>simp [Zon]
 | cons y m ih=>
   rw [Zon]
   rw [List.map_cons,List.nodup_cons] at hn
   split
   · rename_i e
     rw [List.map_cons,List.nodup_cons];dsimp only;rw [e];exact hn
   · rename_i e
     rw [List.map_cons,List.nodup_cons]
     refine ⟨fun h=>?_,ih hn.2⟩
     rcases (ZrQ _).1 h with h|h
     · exact e h.symm
     · exact hn.1 h
theorem ZuF (m:List (κ×Int)) (k:κ) (v:Int):(Zon m k v).length≤m.length+1:=by
 induction m with
 |nil=>simp [Zon]
 |cons y m ih=>rw [Zon];split<;>simp<;>omega
end
end Go.Proofs.YtgfabnhpllkebaaGreatDoor
namespace Go.En
open Go.RowKit Go.Cb
theorem AFg.exact2 {P:Program} {g:Nat} {p q:PV} {x:Value} (h:AFg P g [p,q] (· = .val x)) {M:BS} {W:World} {u v:Value} (hu:Shr M W u p) (hv:Shr M W v q):
 Calls P g #[u,v] W fun e w'=>e= .returned x∧∃q os',w'=Go.Sort.grow (W.drewN q) os':=h.exact (vs:=[u,v]) rfl fun i a r h1 h2=>by
 match i with
 |0=>simp at h1 h2;subst h1 h2;exact hu
 |1=>simp at h1 h2;subst h1 h2;exact hv
 |i+2=>simp at h1
end Go.En
namespace Go.Proofs.YtgfabnhpllkebaaGreatDoor
open Go.RowKit Go.Cb Go.En
set_option linter.all false
set_option maxRecDepth 100000
theorem Zxu (l:List Int):AFg Tryz.prog 204 [pInts l] (· =pInt (Zcd l)):=by
 refine AFg.of_body 18 Tryz.func204 rfl Tryz.ntmps204 (Nat.le_of_ble_eq_true rfl) ?_
 intro w0 M0 vs hl hv
 obtain ⟨v0,rfl⟩:=ZdL hl
 clear hl hv
 refine Zba 0 rfl fun hlen=>?_
 refine nav ?_
 (refine ζa ?_<;>refine xL 2 ζc ?_<;>refine ζb (nav ?_)<;>try dsimp only)
 (refine ζa ?_<;>refine xL 3 ζc ?_<;>refine ζb (nav ?_)<;>try dsimp only)
 (refine ζa ?_<;>refine xL 6 ζd ?_<;>refine xL 7 (ζV ζn) ?_<;>refine xL 8 ζd ?_<;>refine ζb (nav ?_)<;>try dsimp only)
 refine ζy (ι:={k:Nat//k≤l.length∧Zcd l=Zcd (l.drop k)}) (fun k=>⟨[(3,_,_),(6,_,_),(7,_,_),(8, .int .i64 k.1,pInt k.1)],[]⟩) (fun k=>l.length-k.1) ⟨0,by omega,rfl⟩ (fun a w H=>H.weaken ⟨rfl,rfl,rfl,rfl,trivial⟩ trivial) ?_
 rintro ⟨k,hk,hp⟩
 dsimp only
 refine nav ?_
 (refine ζa ?_<;>refine xL 9 ζS ?_<;>refine ζb (nav ?_)<;>try dsimp only)
 (first|refine cCd ?_ ?_|refine cC ?_ ?_)<;>intro hb9
 · first
   |exact Bool.noConfusion hb9
   | (
    obtain ⟨x,hx⟩:=ζm (show k<l.length by omega)
    have e1:=Zaf (f:=pInt) hx
    have hs:Zcd (l.drop k)=if x=0 then Zcd (l.drop (k+1)) else x:=by rw [ZgM hx,Zcd]
    refine nav ?_
    (refine ζa ?_<;>refine xL 10 (ζJ ζn) ?_<;>(refine yL 11 (Za3 ζj) fun v11 h=>?_;cases h)<;>refine xL 5 ζc ?_<;>refine ζb (nav ?_)<;>try dsimp only)
    (refine ζa ?_<;>refine xL 12 ζd ?_<;>refine xL 13 ζd ?_<;>refine xL 14 ZaD ?_<;>refine ζb (nav ?_)<;>try dsimp only)
    (first|refine cCd ?_ ?_|refine cC ?_ ?_)<;>intro hb14
    · first
      |exact Bool.noConfusion hb14
      | (
       refine nav ?_
       (refine ζa ?_<;>refine xL 15 ζd ?_<;>refine xL 2 ζc ?_<;>refine ζb (nav ?_)<;>try dsimp only)
       refine ζt (Tryz.results204) rfl ?_
       rw [hp,hs,if_neg hb14])
    · first
      |exact Bool.noConfusion hb14
      | (
       refine nav ?_
       (refine ζa ?_<;>refine xL 16 ζM ?_<;>refine xL 8 ζd ?_<;>refine ζb (nav ?_)<;>try dsimp only)
       refine ζl (
        ⟨k+1,by omega,by rw [hp,hs,if_pos (by simpa using hb14)]⟩
        ) (by dsimp only;omega) ⟨rfl,rfl,rfl,rfl,trivial⟩ trivial))
 · first
   |exact Bool.noConfusion hb9
   | (
    refine nav ?_
    (refine ζa ?_<;>refine xL 17 ζd ?_<;>refine xL 2 ζc ?_<;>refine ζb (nav ?_)<;>try dsimp only)
    refine ζt (Tryz.results204) rfl ?_
    rw [hp,List.drop_eq_nil_of_le (by omega)];rfl)
structure M4 where
 a:List (ByteArray×Int)
 s:List (ByteArray×Int)
 f:List (ByteArray×Int)
 q:List (Pr×Int)
def ZdQ:List ByteArray→List Pr
 |a::b::l=>(a,b)::ZdQ (b::l)
 |_=>[]
section
variable {κ:Type} [DecidableEq κ]
def addAll (m:List (κ×Int)) (ks:List κ) (c:Int):List (κ×Int):=ks.foldl (fun m k=>ZzI m k c) m
structure MOk (m:List (κ×Int)) (b:Nat):Prop where
 nd:(m.map (·.1)).Nodup
 len:m.length≤b
 bd:∀x∈m,0≤x.2∧x.2≤b*1048576
theorem MOk.nil:MOk ([]:List (κ×Int)) 0:=⟨List.nodup_nil,Nat.le_refl _,fun x h=>by simp at h⟩
theorem MOk.mono {m:List (κ×Int)} {b b':Nat} (h:MOk m b) (hb:b≤b'):MOk m b':=⟨h.nd,Nat.le_trans h.len hb,fun x hx=>by
 have:=h.bd x hx
 have h2:(b:Int)*1048576≤b'*1048576:=by omega
 omega⟩
theorem MOk.get {m:List (κ×Int)} {b:Nat} (h:MOk m b) (k:κ):0≤Zwn m k∧Zwn m k≤b*1048576:=by
 have key:∀(m:List (κ×Int)),(∀x∈m,0≤x.2∧x.2≤(b:Int)*1048576)→0≤Zwn m k∧Zwn m k≤b*1048576:=fun m=>by
  induction m with
  |nil=>intro _;rw [Zwn];omega
  | cons x m ih=>
    intro h
    rw [Zwn]
    split
    · exact h x (by simp)
    · exact ih fun y hy=>h y (by simp [hy])
 exact key m h.bd
theorem Zoo {m:List (κ×Int)} {k:κ} {v:Int} {x:κ×Int} (h:x∈Zon m k v):x=(k,v)∨x∈m:=by
 induction m with
 |nil=>rw [Zon,List.mem_singleton] at h;exact .inl h
 | cons y m ih=>
   rw [Zon] at h
   split at h
   · rcases List.mem_cons.1 h with h|h
     · exact .inl h
     · exact .inr (by simp [h])
   · rcases List.mem_cons.1 h with h|h
     · exact .inr (by simp [h])
     · rcases ih h with h|h
       · exact .inl h
       · exact .inr (by simp [h])
theorem MOk.add {m:List (κ×Int)} {b:Nat} (h:MOk m b) {k:κ} {n:Int} (h0:0≤n) (h1:n≤1048576):MOk (ZzI m k n) (b+1):=by
 refine ⟨ZpX h.nd,Nat.le_trans (ZuF _ _ _) (Nat.succ_le_succ h.len),fun x hx=>?_⟩
 rcases Zoo hx with rfl|hx
 · have:=h.get k
   dsimp only
   omega
 · have:=h.bd x hx
   omega
theorem MOk.addAll {n:Int} (h0:0≤n) (h1:n≤1048576):∀{ks:List κ} {b:Nat} {m:List (κ×Int)},MOk m b→MOk (addAll m ks n) (b+ks.length)
 |[],b,m,h=>h
 | k::ks,b,m,h=>by
   have:=MOk.addAll h0 h1 (ks:=ks) (h.add (k:=k) h0 h1)
   rw [List.length_cons,show b+(ks.length+1)=b+1+ks.length by omega]
   exact this
theorem ZrR {m:List (κ×Int)} {k:κ} {n:Int} {p:κ→Prop} (h:∀x∈m,p x.1) (hk:p k):∀x∈ZzI m k n,p x.1:=fun x hx=>by
 rcases Zoo hx with rfl|hx
 · exact hk
 · exact h x hx
theorem Zhc {c:Int} {p:κ→Prop}:∀{ks:List κ} {m:List (κ×Int)},(∀x∈m,p x.1)→(∀k∈ks,p k)→∀x∈addAll m ks c,p x.1
 |[],m,h,_=>h
 |k::ks,m,h,hk=>Zhc (ks:=ks) (ZrR h (hk k (by simp))) fun y hy=>hk y (by simp [hy])
end
def mk1 (st:M4) (x:Var):M4:=⟨addAll st.a x.acts x.count,(match x.acts with|[]=>st.s|s::_=>ZzI st.s s x.count),(match x.acts.getLast? with|some s=>ZzI st.f s x.count|none=>st.f),addAll st.q (ZdQ x.acts) x.count⟩
def ZrS (l:List Var):M4:=l.foldl mk1 ⟨[],[],[],[]⟩
theorem ZpY {l:List Var} {k:Nat} {x:Var} (h:l[k]? =some x):ZrS (l.take (k+1))=mk1 (ZrS (l.take k)) x:=by
 unfold ZrS;rw [ζH h,List.foldl_append];rfl
theorem ZkT:∀l:List ByteArray,(ZdQ l).length≤l.length
 |[]=>Nat.le_refl _
 |[a]=>Nat.zero_le _
 |a::b::l=>by rw [ZdQ,List.length_cons,List.length_cons];have:=ZkT (b::l);omega
theorem ZkU:∀{l:List ByteArray} {p:Pr},p∈ZdQ l→p.1∈l∧p.2∈l
 |[],p,h=>by simp [ZdQ] at h
 |[a],p,h=>by simp [ZdQ] at h
 | a ::b::l,p,h=>by
   rw [ZdQ] at h
   rcases List.mem_cons.1 h with rfl|h
   · exact ⟨by simp,by simp⟩
   · have:=ZkU h
     exact ⟨List.mem_cons_of_mem _ this.1,List.mem_cons_of_mem _ this.2⟩
theorem ZrT {s:ByteArray} (h:ZaZ s=true):s.size≤40:=by
 unfold ZaZ at h
 simp only [Bool.and_eq_true,decide_eq_true_eq,List.all_eq_true] at h
 exact h.1.1.2
structure KOk (st:M4) (b:Nat):Prop where
 a:MOk st.a b
 s:MOk st.s b
 f:MOk st.f b
 q:MOk st.q b
 k:∀x∈st.q,prOk x.1
theorem KOk.step {st:M4} {b:Nat} {x:Var} (h:KOk st b) (hx:Zw1 x=true):KOk (mk1 st x) (b+200):=by
 unfold Zw1 at hx
 simp only [Bool.and_eq_true,decide_eq_true_eq,List.all_eq_true] at hx
 obtain ⟨⟨⟨h1,h2⟩,h3⟩,h4⟩:=hx
 have hp:=ZkT x.acts
 refine ⟨(h.a.addAll (by omega) h4).mono (by omega),?_,?_,(h.q.addAll (by omega) h4).mono (by omega),Zhc h.k fun k hk=>?_⟩
 · unfold mk1
   dsimp only
   split
   · exact h.s.mono (by omega)
   · exact (h.s.add (by omega) h4).mono (by omega)
 · unfold mk1
   dsimp only
   split
   · exact (h.f.add (by omega) h4).mono (by omega)
   · exact h.f.mono (by omega)
 · have:=ZkU hk
   have n1:=ZrT (h2 _ this.1)
   have n2:=ZrT (h2 _ this.2)
   exact ⟨by omega,by omega⟩
theorem KOk.all {l:List Var} (hl:∀x∈l,Zw1 x=true):∀k,k≤l.length→KOk (ZrS (l.take k)) (k*200)
 |0,_=>⟨MOk.nil,MOk.nil,MOk.nil,MOk.nil,fun x h=>by simp [ZrS] at h⟩
 | k+1,hk=>by
   obtain ⟨x,hx⟩:=ζm (show k<l.length by omega)
   rw [ZpY hx,Nat.add_mul]
   exact (KOk.all hl k (by omega)).step (hl x (List.mem_of_getElem? hx))
end Go.Proofs.YtgfabnhpllkebaaGreatDoor
namespace Go.En
open Go.RowKit Go.Cb
end Go.En
namespace Go.Proofs.YtgfabnhpllkebaaGreatDoor
open Go.RowKit Go.Cb Go.En
set_option linter.all false
set_option maxRecDepth 100000
theorem ZmD {α:Type}:∀(ps:List PV) (a b c:List PV) (j:Nat),a.length=j→b.length=ps.length→Zkr (a++b++c) j ps=a++ps++c
 | [],a,b,c,j,ha,hb=>by
   have:b=[]:=List.eq_nil_of_length_eq_zero hb
   subst this;rfl
 | p ::ps,a,x::b,c,j,ha,hb=>by
   rw [Zkr]
   have h1:(a++(x::b)++c).set j p=(a++[p])++b++c:=by
    subst ha
    rw [List.append_assoc,List.set_append_right _ _ (Nat.le_refl _),Nat.sub_self]
    simp
   rw [h1,ZmD (α:=α) ps (a++[p]) b c (j+1) (by simp [ha]) (by simpa using hb)]
   simp
def Zcv {α:Type} (p:α→Bool) (l:List α) (k:Nat):List α:=(l.take k).filter fun s=> !p s
theorem ZdR {α:Type} {p:α→Bool} {l:List α} {k:Nat} {x:α} (hx:l[k]? =some x) (h:p x=true):Zcv p l (k+1)=Zcv p l k:=by
 unfold Zcv;rw [ζH hx,List.filter_append];simp [h]
theorem Zju {α:Type} {p:α→Bool} {l:List α} {k:Nat} {x:α} (hx:l[k]? =some x) (h:p x=false):Zcv p l (k+1)=Zcv p l k++[x]:=by
 unfold Zcv;rw [ζH hx,List.filter_append];simp [h]
theorem Zgt {α:Type} (p:α→Bool) (l:List α) (k:Nat):(Zcv p l k).length≤k:=by
 unfold Zcv
 have h1:=List.length_filter_le (fun s=> !p s) (l.take k)
 rw [List.length_take] at h1
 omega
def Zmn {α:Type} (p:α→Bool) (l:List α) (k:Nat):List α:=Zcv p l k++l.drop (Zcv p l k).length
theorem Zxv {α:Type} {p:α→Bool} {l:List α} {k:Nat} {x:α} (hx:l[k]? =some x):(Zmn p l k)[k]? =some x:=by
 have h:=Zgt p l k
 unfold Zmn
 rw [List.getElem?_append_right h,List.getElem?_drop,show (Zcv p l k).length+(k-(Zcv p l k).length)=k by omega]
 exact hx
theorem ZuG {α:Type} (p:α→Bool) (l:List α) {k:Nat} (hk:k≤l.length):(Zmn p l k).length=l.length:=by
 have h:=Zgt p l k
 unfold Zmn
 rw [List.length_append,List.length_drop];omega
theorem ZuH {α:Type} {f:α→List PV} {m:Nat} (hf:∀x,(f x).length=m) {p:α→Bool} {l:List α} {k:Nat} {x:α} (hx:l[k]? =some x) (h:p x=false):
 Zkr ((Zmn p l k).flatMap f) ((Zcv p l k).length*m) (f x)=(Zmn p l (k+1)).flatMap f:=by
 have hl:=Zgt p l k
 have hlt:=ζe hx
 unfold Zmn
 rw [Zju hx h,List.length_append,List.length_singleton,List.drop_eq_getElem_cons (show (Zcv p l k).length<l.length by omega)]
 rw [List.flatMap_append,List.flatMap_cons,←List.append_assoc,ZmD (α:=α) _ _ _ _ _ (flat_len hf _) (by rw [hf,hf]),List.flatMap_append,List.flatMap_append]
 simp
theorem ZmE {α:Type} {p:α→Bool} {l:List α}:(idx p l= -1∧∀s∈l,p s=false)∨∃i x,idx p l=(i:Nat)∧l[i]? =some x∧p x=true∧∀j y,j<i→l[j]? =some y→p y=false:=by
 unfold idx
 cases h:l.findIdx? p with
 |none=>exact .inl ⟨rfl,by rw [List.findIdx?_eq_none_iff] at h;exact h⟩
 | some i=>
   rw [List.findIdx?_eq_some_iff_getElem] at h
   obtain ⟨hi,hp,hn⟩:=h
   exact .inr ⟨i,l[i],rfl,by simp,hp,fun j y hj hy=>by
    have:=hn j hj
    obtain ⟨hj',rfl⟩:=List.getElem?_eq_some_iff.1 hy
    simpa using this⟩
theorem ZrU {α:Type} {p:α→Bool} {l:List α} {k:Nat} (h:∀j y,j<k→l[j]? =some y→p y=false):Zcv p l k=l.take k:=by
 unfold Zcv
 rw [List.filter_eq_self]
 intro a ha
 obtain ⟨i,hi,rfl⟩:=List.getElem_of_mem ha
 rw [List.length_take] at hi
 have:=h i _ (by omega) (by rw [List.getElem?_eq_getElem (by omega:i<l.length)])
 simp [List.getElem_take,this]
theorem ζR:AggT Tryz.prog 93 3=true:=by kernel_rfl
theorem ζi:ElT Tryz.prog 36 3 1 8 (.int .i64 0):=⟨Tryz.underlying36,by kernel_rfl,rfl,by decide⟩
theorem ζP:FldT Tryz.prog 39 0 0=true:=by kernel_rfl
theorem ζ2:FldT Tryz.prog 39 1 1=true:=by kernel_rfl
theorem Zab:FldT Tryz.prog 39 2 2=true:=by kernel_rfl
theorem ζ9:FldT Tryz.prog 39 3 3=true:=by kernel_rfl
theorem ζw:FldT Tryz.prog 39 4 4=true:=by kernel_rfl
theorem Zac:FldT Tryz.prog 93 0 0=true:=by kernel_rfl
theorem Zal:FldT Tryz.prog 93 1 1=true:=by kernel_rfl
theorem ZaK:FldT Tryz.prog 93 2 2=true:=by kernel_rfl
theorem ζx:NoAgg Tryz.prog 36=true:=by kernel_rfl
theorem ζA:NoAgg Tryz.prog 37=true:=by kernel_rfl
theorem ζG:SlT Tryz.prog 37 93 3=true:=by kernel_rfl
theorem Zb5:ZeroT Tryz.prog 93 (.agg #[(.int .i64 0),(.int .i64 0),(.int .i64 0)]):=by unfold ZeroT;kernel_rfl
structure Mv where
 src:Int
 dst:Int
 sym:Int
structure Aut where
 n:Int
 syms:Int
 start:List Int
 fin:List Int
 moves:List Mv
def cMv (m:Mv):List PV:=[pInt m.src,pInt m.dst,pInt m.sym]
theorem ζ0 (m:Mv):(cMv m).length=3:=rfl
theorem Zxw (L:List Mv):(L.flatMap cMv).all En.one=true:=by rw [List.all_flatMap,List.all_eq_true];intro x _;rfl
def pMvs (l:List Mv):PV:= .sl l.length (l.flatMap cMv)
def ζW (a:Aut):PV:= .agg [pInt a.n,pInt a.syms,pInts a.start,pInts a.fin,pMvs a.moves]
def ZkV (a b:Int):Int:=if a<b then-1 else if b<a then 1 else 0
def ZeH (a b:Mv):Int:=Zcd [ZkV a.src b.src,ZkV a.sym b.sym,ZkV a.dst b.dst]
def ltI (a b:Int):Bool:=decide (a<b)
def ZfL (a b:Mv):Bool:=decide (ZeH a b<0)
def Zjv (n:Int) (l:List Int):Bool:=l.all (fun x=>decide (0≤x)&&decide (x<n))&&ZaU ltI l
def ZrV (a:Aut) (m:Mv):Bool:=decide (0≤m.src)&&decide (m.src<a.n)&&decide (0≤m.dst)&&decide (m.dst<a.n)&&decide (-1≤m.sym)&&decide (m.sym<a.syms)
def ζ5 (a:Aut):Bool:=decide (0≤a.n)&&decide (a.n≤2000)&&decide (0≤a.syms)&&decide (a.syms≤40)&&decide (a.moves.length≤20000)&&Zjv a.n a.start&&Zjv a.n a.fin&&a.moves.all (ZrV a)&&ZaU ZfL a.moves
theorem Ziw (s:Int):AFg Tryz.prog 237 [pInt s] (· =ζO false):=by
 refine AFg.of_body 6 Tryz.func237 rfl Tryz.ntmps237 (Nat.le_of_ble_eq_true rfl) ?_
 intro w0 M0 vs hl hv
 obtain ⟨v0,rfl⟩:=ZdL hl
 obtain rfl:=hv 0 _ _ rfl rfl
 clear hl hv
 refine nav ?_
 (refine ζa ?_<;>refine xL 2 ζc ?_<;>refine ζb (nav ?_)<;>try dsimp only)
 (refine ζa ?_<;>refine xL 3 ζd ?_<;>refine xL 4 ζd ?_<;>refine xL 5 ZaD ?_<;>refine xL 2 ζc ?_<;>refine ζb (nav ?_)<;>try dsimp only)
 refine ζt (Tryz.results237) rfl ?_
 simp
theorem Zjw (a b:Int):AFg Tryz.prog 205 [pInt a,pInt b] (· =pInt (ZkV a b)):=by
 refine AFg.of_body 20 Tryz.func205 rfl Tryz.ntmps205 (Nat.le_of_ble_eq_true rfl) ?_
 intro w0 M0 vs hl hv
 obtain ⟨v0,v1,rfl⟩:=Zb3 hl
 obtain rfl:=hv 0 _ _ rfl rfl
 obtain rfl:=hv 1 _ _ rfl rfl
 clear hl hv
 refine nav ?_
 (refine ζa ?_<;>refine xL 4 ζc ?_<;>refine ζb (nav ?_)<;>try dsimp only)
 (refine ζa ?_<;>refine xL 7 ζd ?_<;>(refine cS 8 (cA Tryz.call237 (Ziw a)) fun v8 h=>?_;cases h)<;>refine xL 5 ζc ?_<;>refine ζb (nav ?_)<;>try dsimp only)
 (refine ζa ?_<;>refine xL 9 ζd ?_<;>(refine cS 10 (cA Tryz.call237 (Ziw b)) fun v10 h=>?_;cases h)<;>refine xL 6 ζc ?_<;>refine ζb (nav ?_)<;>try dsimp only)
 (refine ζa ?_<;>refine xL 11 ζd ?_<;>refine ζb (nav ?_)<;>try dsimp only)
 refine cCf ?_
 refine nav ?_
 (refine ζa ?_<;>refine xL 13 ζd ?_<;>refine ζb (nav ?_)<;>try dsimp only)
 refine cCf ?_
 refine nav ?_
 (refine ζa ?_<;>refine xL 14 ζd ?_<;>refine xL 15 ζd ?_<;>refine xL 16 ζS ?_<;>refine ζb (nav ?_)<;>try dsimp only)
 (first|refine cCd ?_ ?_|refine cC ?_ ?_)<;>intro hb16
 · first
   |exact Bool.noConfusion hb16
   | (
    refine nav ?_
    (refine ζa ?_<;>refine xL 4 ζc ?_<;>refine ζb (nav ?_)<;>try dsimp only)
    refine ζt (Tryz.results205) rfl ?_
    rw [ZkV,if_pos hb16])
 · first
   |exact Bool.noConfusion hb16
   | (
    refine nav ?_
    (refine ζa ?_<;>refine xL 17 ζd ?_<;>refine xL 18 ζd ?_<;>refine xL 19 ZaH ?_<;>refine ζb (nav ?_)<;>try dsimp only)
    (first|refine cCd ?_ ?_|refine cC ?_ ?_)<;>intro hb19
    · first
      |exact Bool.noConfusion hb19
      | (
       refine nav ?_
       (refine ζa ?_<;>refine xL 4 ζc ?_<;>refine ζb (nav ?_)<;>try dsimp only)
       refine ζt (Tryz.results205) rfl ?_
       rw [ZkV,if_neg (by omega),if_pos (by omega)])
    · first
      |exact Bool.noConfusion hb19
      | (
       refine nav ?_
       (refine ζa ?_<;>refine xL 4 ζc ?_<;>refine ζb (nav ?_)<;>try dsimp only)
       refine ζt (Tryz.results205) rfl ?_
       rw [ZkV,if_neg (by omega),if_neg (by omega)]))
theorem Zhd (a b:Mv):AFg Tryz.prog 153 [.agg (cMv a), .agg (cMv b)] (· =pInt (ZeH a b)):=by
 refine AFg.of_body 22 Tryz.func153 rfl Tryz.ntmps153 (Nat.le_of_ble_eq_true rfl) ?_
 intro w0 M0 vs hl hv
 obtain ⟨v0,v1,rfl⟩:=Zb3 hl
 clear hl hv
 refine nav ?_
 (refine ζa ?_<;>refine ζE 2 3 fun h2=>?_<;>refine ζE 3 3 fun h3=>?_<;>refine xL 4 ζc ?_<;>refine ζb (nav ?_)<;>try dsimp only)
 (refine ζ4 (fun i=>([]:List Nat).elem i) [2,3] (by kernel_rfl) ?_<;>refine xD 0 5 rfl (ζh 2 Zac) ?_<;>(refine yD 1 6 rfl (ζs 2 ζj) fun v6 h=>?_;cases h)<;>refine xD 2 7 rfl (ζh 3 Zac) ?_<;>(refine yD 3 8 rfl (ζs 3 ζj) fun v8 h=>?_;cases h)<;>refine xD 5 10 rfl (ζh 2 ZaK) ?_<;>(refine yD 6 11 rfl (ζs 2 ζj) fun v11 h=>?_;cases h)<;>refine xD 7 12 rfl (ζh 3 ZaK) ?_<;>(refine yD 8 13 rfl (ζs 3 ζj) fun v13 h=>?_;cases h)<;>refine xD 10 15 rfl (ζh 2 Zal) ?_<;>(refine yD 11 16 rfl (ζs 2 ζj) fun v16 h=>?_;cases h)<;>refine xD 12 17 rfl (ζh 3 Zal) ?_<;>(refine yD 13 18 rfl (ζs 3 ζj) fun v18 h=>?_;cases h)<;>(refine ζo 4 (by kernel_rfl) ?_)<;>(refine ζk rfl fun w9 M9 N9 DQ back=>?_)<;>(refine cS 9 (cA Tryz.call205 (Zjw a.src b.src)) fun v9 h=>?_;cases h)<;>refine ζb (back _ (nrm ?_))<;>(refine ζo 9 (by kernel_rfl) ?_)<;>(refine ζk rfl fun w9 M9 N9 DQ back=>?_)<;>(refine cS 14 (cA Tryz.call205 (Zjw a.sym b.sym)) fun v14 h=>?_;cases h)<;>refine ζb (back _ (nrm ?_))<;>(refine ζo 14 (by kernel_rfl) ?_)<;>(refine ζk rfl fun w9 M9 N9 DQ back=>?_)<;>(refine cS 19 (cA Tryz.call205 (Zjw a.dst b.dst)) fun v19 h=>?_;cases h)<;>refine ζb (back _ (nrm ?_))<;>(refine ζo 15 (by kernel_rfl) ?_)<;>(refine ζk rfl fun w9 M9 N9 DQ back=>?_)<;>refine Zn2 (xs:=[_,_,_]) 20 ζi fun h20 ho20=>?_<;>refine ζb (back _ (nrm ?_))<;>(refine ζo 16 (by kernel_rfl) ?_)<;>(refine ζk rfl fun w9 M9 N9 DQ back=>?_)<;>(refine ζq (En.freeze (l:=20) (t:=20) rfl rfl) fun _=>?_;refine cS 21 (cA Tryz.call204 (Zxu [ZkV a.src b.src,ZkV a.sym b.sym,ZkV a.dst b.dst])) fun v21 h=>?_;cases h)<;>refine ζb (back _ (nrm ?_))<;>refine xE 17 4 rfl ζc ?_<;>refine ZaM (by kernel_rfl) (nav ?_)<;>try dsimp only)
 exact ζt Tryz.results153 rfl rfl
theorem ZkW (l:List Int) (n:Int):AF Tryz.prog 152 [pInts l,pInt n] (· =ζO (Zjv n l)):=by
 refine AF.of_body 35 Tryz.func152 rfl Tryz.ntmps152 (Nat.le_of_ble_eq_true rfl) ?_
 intro w0 M0 vs hl hv
 obtain ⟨v0,v1,rfl⟩:=Zb3 hl
 obtain rfl:=hv 1 _ _ rfl rfl
 clear hl hv
 refine Zba 0 rfl fun hlen=>?_
 refine nav ?_
 (refine ζa ?_<;>refine xL 4 ζc ?_<;>refine ζb (nav ?_)<;>try dsimp only)
 (refine ζa ?_<;>refine xL 7 ζd ?_<;>refine xL 8 (ζV ζn) ?_<;>refine xL 9 ζd ?_<;>refine ζb (nav ?_)<;>try dsimp only)
 refine ζy (ι:={k:Nat//k≤l.length∧∀j x,j<k→l[j]? =some x→(0≤x∧x<n)∧∀y,1≤j→l[j-1]? =some y→ltI y x=true}) (fun k=>⟨[(0,_,_),(1,_,_),(7,_,_),(8,_,_),(9, .int .i64 k.1,pInt k.1)],[]⟩) (fun k=>l.length-k.1) ⟨0,by omega,by omega⟩ (fun a w H=>H.weaken ⟨rfl,rfl,rfl,rfl,rfl,trivial⟩ trivial) ?_
 rintro ⟨k,hk,hp⟩
 dsimp only
 refine nav ?_
 (refine ζa ?_<;>refine xL 10 ζS ?_<;>refine ζb (nav ?_)<;>try dsimp only)
 (first|refine cCd ?_ ?_|refine cC ?_ ?_)<;>intro hb10
 · first
   |exact Bool.noConfusion hb10
   | (
    obtain ⟨x,hx⟩:=ζm (show k<l.length by omega)
    obtain ⟨y,hy⟩:=ζm (show k-1<l.length by omega)
    have e1:=Zaf (f:=pInt) hx
    have e2:(l.map pInt)[((k:Int)-1).toNat*1]? =some (pInt y):=by rw [show ((k:Int)-1).toNat*1=k-1 by omega];exact (by rw [List.getElem?_map,hy];rfl)
    refine nav ?_
    (refine ζa ?_<;>refine xL 11 ζd ?_<;>refine xL 12 (ζJ ζn) ?_<;>(refine yL 13 (Za3 ζj) fun v13 h=>?_;cases h)<;>refine xL 5 ζc ?_<;>refine xL 6 ζc ?_<;>refine ζb (nav ?_)<;>try dsimp only)
    (refine ζa ?_<;>refine xL 14 ζd ?_<;>refine xL 15 ζS ?_<;>refine xL 16 ζd ?_<;>(refine bLd 16 (fun hb16=>?_) (fun hb16=>?_)<;>(first|refine kL 17 ?_|refine xL 17 ζd ?_))<;>(first|refine kL 18 ?_|refine xL 18 ζd ?_)<;>(first|refine kL 19 ?_|refine xL 19 Zcc ?_)<;>refine xL 20 ζF ?_<;>refine xL 21 ζd ?_<;>(first|refine kL 22 ?_|(refine bLd 21 (fun hb21=>?_) (fun hb21=>?_)<;>(first|refine kL 22 ?_|refine xL 22 ζd ?_)))<;>(first|refine kL 23 ?_|refine xL 23 ZaH ?_)<;>(first|refine kL 24 ?_|refine xL 24 ζd ?_)<;>(first|refine kL 25 ?_|(refine bLd 24 (fun hb24=>?_) (fun hb24=>?_)<;>(first|refine kL 25 ?_|refine xL 25 ζd ?_)))<;>(first|refine kL 26 ?_|refine xL 26 ζd ?_)<;>(first|refine kL 27 ?_|refine xL 27 ZgQ ?_)<;>(first|refine kL 28 ?_|refine xL 28 (ZkB ζn) ?_)<;>(first|refine kL 29 ?_|(refine yL 29 (Za3 ζj) fun v29 h=>?_;cases h))<;>(first|refine kL 30 ?_|refine xL 30 ζd ?_)<;>(first|refine kL 31 ?_|refine xL 31 Zcc ?_)<;>(first|refine kL 32 ?_|refine xL 32 ζF ?_)<;>refine xL 33 ζF ?_<;>refine ζb (nav ?_)<;>try dsimp only)<;>(
     (first|refine cCd ?_ ?_|refine cC ?_ ?_)<;>intro hb33
     · first
       |exact Bool.noConfusion hb33
       | (
        refine nav ?_
        (refine ζa ?_<;>refine xL 4 ζc ?_<;>refine ζb (nav ?_)<;>try dsimp only)
        refine ζt (Tryz.results152) rfl ?_
        unfold Zjv
        first
         |rw [Zjg hx (by simp;omega)];rfl
         |rw [ZeS (by omega) hy hx (by unfold ltI;simpa using hb33),Bool.and_false])
     · first
       |exact Bool.noConfusion hb33
       | (
        refine nav ?_
        (refine ζa ?_<;>refine xL 34 ζM ?_<;>refine xL 9 ζd ?_<;>refine ζb (nav ?_)<;>try dsimp only)
        refine ζl (
         ⟨k + 1,by omega,fun j z hj hz=>by
          by_cases e:j=k
          · subst e;rw [hx] at hz;cases hz
            refine ⟨⟨by omega,by omega⟩,fun y' h1 hy'=>?_⟩
            rw [hy] at hy';cases hy'
            unfold ltI
            first
             |omega
             |(simp;omega)
          · exact hp j z (by omega) hz⟩
         ) (by dsimp only;omega) ⟨rfl,rfl,rfl,rfl,rfl,trivial⟩ trivial)))
 · first
   |exact Bool.noConfusion hb10
   | (
    refine nav ?_
    (refine ζa ?_<;>refine xL 4 ζc ?_<;>refine ζb (nav ?_)<;>try dsimp only)
    refine ζt (Tryz.results152) rfl ?_
    have h1:l.all (fun x=>decide (0≤x)&&decide (x<n))=true:=by
     rw [List.all_eq_true]
     intro z hz
     obtain ⟨j,hj,rfl⟩:=List.getElem_of_mem hz
     have h2:=(hp j _ (by omega) (List.getElem?_eq_getElem hj)).1
     simp [h2.1,h2.2]
    have h2:ZaU ltI l=true:=ZfD fun j x y h1 hy hx=>(hp j x (by have:=ζe hx;omega) hx).2 y h1 hy
    unfold Zjv
    rw [h1,h2];rfl)
theorem ZkX {a:Aut} (h:a.n<0∨2000<a.n∨a.syms<0∨40<a.syms∨20000<a.moves.length∨Zjv a.n a.start=false∨Zjv a.n a.fin=false∨a.moves.all (ZrV a)=false∨ZaU ZfL a.moves=false):ζ5 a=false:=by
 unfold ζ5
 rcases h with h|h|h|h|h|h|h|h|h
 · rw [decide_eq_false (by omega:¬0≤a.n)];simp
 · rw [decide_eq_false (by omega:¬a.n≤2000)];simp
 · rw [decide_eq_false (by omega:¬0≤a.syms)];simp
 · rw [decide_eq_false (by omega:¬a.syms≤40)];simp
 · rw [decide_eq_false (by omega:¬a.moves.length≤20000)];simp
 · rw [h];simp
 · rw [h];simp
 · rw [h];simp
 · rw [h];simp
theorem ZaI (a : Aut):AF Tryz.prog 107 [ζW a] (· =ζO (ζ5 a)):=by
 refine AF.of_body 103 Tryz.func107 rfl Tryz.ntmps107 (Nat.le_of_ble_eq_true rfl) ?_
 intro w0 M0 vs hl hv
 obtain ⟨v0,rfl⟩:=ZdL hl
 clear hl hv
 refine nav ?_
 (refine ζa ?_<;>refine ζE 1 5 fun h1=>?_<;>refine xL 2 ζc ?_<;>refine ζb (nav ?_)<;>try dsimp only)
 (refine ζa ?_ <;>refine xL 5 (ζh 1 ζP) ?_<;>(refine yL 6 (ζs 1 ζj) fun v6 h=>?_;cases h)<;>refine xL 7 ζS ?_<;>refine xL 8 ζd ?_<;>(refine bLd 8 (fun hb8=>?_) (fun hb8=>?_)<;>(first|refine kL 9 ?_|refine xL 9 (ζh 1 ζP) ?_))<;>(first|refine kL 10 ?_|(refine yL 10 (ζs 1 ζj) fun v10 h=>?_;cases h))<;>(first|refine kL 11 ?_|refine xL 11 ZaH ?_)<;>refine xL 12 ζF ?_<;>refine xL 13 ζd ?_<;>(first|refine kL 14 ?_|(refine bLd 13 (fun hb13=>?_) (fun hb13=>?_)<;>(first|refine kL 14 ?_|refine xL 14 (ζh 1 ζ2) ?_)))<;>(first|refine kL 15 ?_|(refine yL 15 (ζs 1 ζj) fun v15 h=>?_;cases h))<;>(first|refine kL 16 ?_|refine xL 16 ζS ?_)<;>refine xL 17 ζF ?_<;>refine xL 18 ζd ?_<;>(first|refine kL 19 ?_|(refine bLd 18 (fun hb18=>?_) (fun hb18=>?_)<;>(first|refine kL 19 ?_|refine xL 19 (ζh 1 ζ2) ?_)))<;>(first|refine kL 20 ?_|(refine yL 20 (ζs 1 ζj) fun v20 h=>?_;cases h))<;>(first|refine kL 21 ?_|refine xL 21 ZaH ?_)<;>refine xL 22 ζF ?_<;>refine xL 23 ζd ?_<;>(first|refine kL 24 ?_|(refine bLd 23 (fun hb23=>?_) (fun hb23=>?_)<;>(first|refine kL 24 ?_|refine xL 24 (ζh 1 ζw) ?_)))<;>(first|refine kL 25 ?_|(refine yL 25 (ζs 1 ζA) fun v25 h=>?_;cases h))<;>(first|refine kL 26 ?_|refine xL 26 (ζV ζG) ?_)<;>(first|refine kL 27 ?_|refine xL 27 ZaH ?_)<;>refine xL 28 ζF ?_<;>refine xL 29 ζd ?_<;>(first|refine kL 30 ?_|(refine bLd 29 (fun hb29=>?_) (fun hb29=>?_)<;>(first|refine kL 30 ?_|refine xL 30 (ζh 1 Zab) ?_)))<;>(first|refine kL 31 ?_|(refine yL 31 (ζs 1 ζx) fun v31 h=>?_;cases h))<;>(first|refine kL 32 ?_|refine xL 32 (ζh 1 ζP) ?_)<;>(first|refine kL 33 ?_|(refine yL 33 (ζs 1 ζj) fun v33 h=>?_;cases h))<;>(first|refine kL 34 ?_|(refine cS 34 (cA Tryz.call152 (ZkW a.start a.n)) fun v34 h=>?_;cases h))<;>(first|refine kL 35 ?_|refine xL 35 Zak ?_)<;>refine xL 36 ζF ?_<;>refine xL 37 ζd ?_<;>(first|refine kL 38 ?_|(refine bL 37 (fun hb37=>?_) (fun hb37=>?_)<;>(first|refine kL 38 ?_|refine xL 38 (ζh 1 ζ9) ?_)))<;>(first|refine kL 39 ?_|(refine yL 39 (ζs 1 ζx) fun v39 h=>?_;cases h))<;>(first|refine kL 40 ?_|refine xL 40 (ζh 1 ζP) ?_)<;>(first|refine kL 41 ?_|(refine yL 41 (ζs 1 ζj) fun v41 h=>?_;cases h))<;>(first|refine kL 42 ?_|(refine cS 42 (cA Tryz.call152 (ZkW a.fin a.n)) fun v42 h=>?_;cases h))<;>(first|refine kL 43 ?_|refine xL 43 Zak ?_)<;>refine xL 44 ζF ?_<;>refine ζb (nav ?_)<;>try dsimp only)<;>(
  (first|refine cCd ?_ ?_|refine cC ?_ ?_)<;>intro hb44
  · first
    |exact Bool.noConfusion hb44
    | (
     refine nav ?_
     (refine ζa ?_<;>refine xL 2 ζc ?_<;>refine ζb (nav ?_)<;>try dsimp only)
     refine ζt (Tryz.results107) rfl ?_
     first
      |(rw [ZkX (by omega)])
      |(rw [ZkX (.inr (.inr (.inr (.inr (.inr (.inl (by simpa using hb37)))))))])
      |(rw [ZkX (.inr (.inr (.inr (.inr (.inr (.inr (.inl (by simpa using hb44))))))))]))
  · first
    |exact Bool.noConfusion hb44
    | (
     refine nav ?_
     (refine ζa ?_<;>refine xL 45 (ζh 1 ζw) ?_<;>(refine yL 46 (ζs 1 ζA) fun v46 h=>?_;cases h)<;>refine xL 47 (ζV ζG) ?_<;>refine xL 48 ζd ?_<;>refine ζb (nav ?_)<;>try dsimp only)
     refine ζy (ι:={k:Nat//k≤a.moves.length∧∀j x,j<k→a.moves[j]? =some x→ZrV a x=true∧∀y,1≤j→a.moves[j-1]? =some y→ZfL y x=true}) (fun k=>⟨[(1,_,_),(45,_,_),(46,_,_),(47,_,_),(48, .int .i64 k.1,pInt k.1)],[(1,_,_)]⟩) (fun k=>a.moves.length-k.1) ⟨0,by omega,by omega⟩ (fun a w H=>H.weaken ⟨rfl,rfl,rfl,rfl,rfl,trivial⟩ ⟨rfl,trivial⟩) ?_
     rintro ⟨k,hk,hp⟩
     dsimp only
     refine nav ?_
     (refine ζa ?_<;>refine xL 49 ζS ?_<;>refine ζb (nav ?_)<;>try dsimp only)
     (first|refine cCd ?_ ?_|refine cC ?_ ?_)<;>intro hb49
     · first
       |exact Bool.noConfusion hb49
       | (
        obtain ⟨x,hx⟩:=ζm (show k<a.moves.length by omega)
        obtain ⟨y,hy⟩:=ζm (show k-1<a.moves.length by omega)
        have e1:=ζ8 ζ0 a.moves k x hx
        have e2:=Zaq ζ0 hx
        have e3:((a.moves.flatMap cMv).drop (((k:Int)-1).toNat*3)).take 3=cMv y:=by rw [show ((k:Int)-1).toNat*3=(k-1)*3 by omega];exact ζ8 ζ0 a.moves (k-1) y hy
        have e4:=Zaq ζ0 hy
        refine nav ?_
        (refine ζa ?_<;>refine xL 50 ζd ?_<;>refine xL 51 (ζJ ζG) ?_<;>(refine yL 52 (Zbm ζR) fun v52 h=>?_;cases h)<;>refine ζr [(.int .i64 0),(.int .i64 0),(.int .i64 0)] 3 4 Zb5 fun h4=>?_<;>refine xL 3 ζc ?_<;>refine ζC 4 ζR ?_<;>refine ζb (nav ?_)<;>try dsimp only)
        (refine ζ4 (fun i=>([]:List Nat).elem i) [1,4] (by kernel_rfl) ?_<;>refine xE 0 53 rfl (ζh 4 Zac) ?_<;>(refine yE 1 54 rfl (ζs 4 ζj) fun v54 h=>?_;cases h)<;>refine xE 2 55 rfl ζS ?_<;>refine xE 3 56 rfl ζd ?_<;>(refine bDd 56 (fun hb56=>?_) (fun hb56=>?_)<;>(first|refine kD 4 57 rfl ?_|refine xD 4 57 rfl (ζh 4 Zac) ?_))<;>(first|refine kD 5 58 rfl ?_|(refine yD 5 58 rfl (ζs 4 ζj) fun v58 h=>?_;cases h))<;>(first|refine kD 6 59 rfl ?_|refine xD 6 59 rfl (ζh 1 ζP) ?_)<;>(first|refine kD 7 60 rfl ?_|(refine yD 7 60 rfl (ζs 1 ζj) fun v60 h=>?_;cases h))<;>(first|refine kD 8 61 rfl ?_|refine xD 8 61 rfl Zcc ?_)<;>refine xE 9 62 rfl ζF ?_<;>refine xE 10 63 rfl ζd ?_<;>(first|refine kD 11 64 rfl ?_|(refine bDd 63 (fun hb63=>?_) (fun hb63=>?_)<;>(first|refine kD 11 64 rfl ?_|refine xD 11 64 rfl (ζh 4 Zal) ?_)))<;>(first|refine kD 12 65 rfl ?_|(refine yD 12 65 rfl (ζs 4 ζj) fun v65 h=>?_;cases h))<;>(first|refine kD 13 66 rfl ?_|refine xD 13 66 rfl ζS ?_)<;>refine xE 14 67 rfl ζF ?_<;>refine xE 15 68 rfl ζd ?_<;>(first|refine kD 16 69 rfl ?_|(refine bDd 68 (fun hb68=>?_) (fun hb68=>?_)<;>(first|refine kD 16 69 rfl ?_|refine xD 16 69 rfl (ζh 4 Zal) ?_)))<;>(first|refine kD 17 70 rfl ?_|(refine yD 17 70 rfl (ζs 4 ζj) fun v70 h=>?_;cases h))<;>(first|refine kD 18 71 rfl ?_|refine xD 18 71 rfl (ζh 1 ζP) ?_)<;>(first|refine kD 19 72 rfl ?_|(refine yD 19 72 rfl (ζs 1 ζj) fun v72 h=>?_;cases h))<;>(first|refine kD 20 73 rfl ?_|refine xD 20 73 rfl Zcc ?_)<;>refine xE 21 74 rfl ζF ?_<;>refine xE 22 75 rfl ζd ?_<;>(first|refine kD 23 76 rfl ?_|(refine bDd 75 (fun hb75=>?_) (fun hb75=>?_)<;>(first|refine kD 23 76 rfl ?_|refine xD 23 76 rfl (ζh 4 ZaK) ?_)))<;>(first|refine kD 24 77 rfl ?_|(refine yD 24 77 rfl (ζs 4 ζj) fun v77 h=>?_;cases h))<;>(first|refine kD 25 78 rfl ?_|refine xD 25 78 rfl ζS ?_)<;>refine xE 26 79 rfl ζF ?_<;>refine xE 27 80 rfl ζd ?_<;>(first|refine kD 28 81 rfl ?_|(refine bDd 80 (fun hb80=>?_) (fun hb80=>?_)<;>(first|refine kD 28 81 rfl ?_|refine xD 28 81 rfl (ζh 4 ZaK) ?_)))<;>(first|refine kD 29 82 rfl ?_|(refine yD 29 82 rfl (ζs 4 ζj) fun v82 h=>?_;cases h))<;>(first|refine kD 30 83 rfl ?_|refine xD 30 83 rfl (ζh 1 ζ2) ?_)<;>(first|refine kD 31 84 rfl ?_|(refine yD 31 84 rfl (ζs 1 ζj) fun v84 h=>?_;cases h))<;>(first|refine kD 32 85 rfl ?_|refine xD 32 85 rfl Zcc ?_)<;>refine xE 33 86 rfl ζF ?_<;>refine xE 34 87 rfl ζd ?_<;>(first|refine kD 35 88 rfl ?_|(refine bDd 87 (fun hb87=>?_) (fun hb87=>?_)<;>(first|refine kD 35 88 rfl ?_|refine xD 35 88 rfl ζd ?_)))<;>(first|refine kD 36 89 rfl ?_|refine xD 36 89 rfl ZaH ?_)<;>(first|refine kD 37 90 rfl ?_|refine xD 37 90 rfl ζd ?_)<;>(first|refine kD 38 91 rfl ?_|(refine bDd 90 (fun hb90=>?_) (fun hb90=>?_)<;>(first|refine kD 38 91 rfl ?_|refine xD 38 91 rfl (ζh 1 ζw) ?_)))<;>(first|refine kD 39 92 rfl ?_|(refine yD 39 92 rfl (ζs 1 ζA) fun v92 h=>?_;cases h))<;>(first|refine kD 40 93 rfl ?_|refine xD 40 93 rfl ζd ?_)<;>(first|refine kD 41 94 rfl ?_|refine xD 41 94 rfl ZgQ ?_)<;>(first|refine kD 42 95 rfl ?_|refine xD 42 95 rfl (ZkB ζG) ?_)<;>(first|refine kD 43 96 rfl ?_|(refine yD 43 96 rfl (Zbm ζR) fun v96 h=>?_;cases h))<;>(first|refine kD 44 97 rfl ?_|(refine yD 44 97 rfl (ζp 4 ζR) fun v97 h=>?_;cases h))<;>(refine ζo 45 (by kernel_rfl) ?_)<;>(refine ζk rfl fun w9 M9 N9 DQ back=>?_)<;>(first|refine kL 98 ?_|(refine cS 98 (cA Tryz.call153 ((Zhd y x).af)) fun v98 h=>?_;cases h))<;>refine ζb (back _ (nrm ?_))<;>(first|refine kD 46 99 rfl ?_|refine xD 46 99 rfl Zcc ?_)<;>(first|refine kD 47 100 rfl ?_|refine xD 47 100 rfl ζF ?_)<;>refine xE 48 101 rfl ζF ?_<;>refine ZaM (by kernel_rfl) (nav ?_)<;>try dsimp only)<;>(
         (first|refine cCd ?_ ?_|refine cC ?_ ?_)<;>intro hb101
         · first
           |exact Bool.noConfusion hb101
           | (
            refine nav ?_
            (refine ζa ?_<;>refine xL 2 ζc ?_<;>refine ζb (nav ?_)<;>try dsimp only)
            refine ζt (Tryz.results107) rfl ?_
            first
             |rw [ZkX (.inr (.inr (.inr (.inr (.inr (.inr (.inr (.inl (Zjg hx (show ZrV a x=false by unfold ZrV;simp only [Bool.and_eq_false_iff,decide_eq_false_iff_not];omega))))))))))]
             |rw [ZkX (.inr (.inr (.inr (.inr (.inr (.inr (.inr (.inr (ZeS (by omega) hy hx (show ZfL y x=false from decide_eq_false (by omega)))))))))))])
         · first
           |exact Bool.noConfusion hb101
           | (
            refine nav ?_
            (refine ζa ?_<;>refine xL 102 ζM ?_<;>refine xL 48 ζd ?_<;>refine ζb (nav ?_)<;>try dsimp only)
            refine ζl (
             ⟨k +1,by omega,fun j z hj hz=>by
              by_cases e:j=k
              · subst e;rw [hx] at hz;cases hz
                refine ⟨by unfold ZrV;simp only [Bool.and_eq_true,decide_eq_true_eq];omega,fun y' h1 hy'=>?_⟩
                rw [hy] at hy';cases hy'
                first|omega|exact decide_eq_true (by omega)
              · exact hp j z (by omega) hz⟩
             ) (by dsimp only;omega) ⟨rfl,rfl,rfl,rfl,rfl,trivial⟩ ⟨rfl,trivial⟩)))
     · first
       |exact Bool.noConfusion hb49
       | (
        refine nav ?_
        (refine ζa ?_<;>refine xL 2 ζc ?_<;>refine ζb (nav ?_)<;>try dsimp only)
        refine ζt (Tryz.results107) rfl ?_
        have h7:a.moves.all (ZrV a)=true:=Zri fun j x hj=>(hp j x (by have:=ζe hj;omega) hj).1
        have h8:ZaU ZfL a.moves=true:=ZfD fun j x y h1 hy hx=>(hp j x (by have:=ζe hx;omega) hx).2 y h1 hy
        have h1:Zjv a.n a.start=true:=by simpa using hb37
        have h2:Zjv a.n a.fin=true:=by simpa using hb44
        unfold ζ5
        rw [h1,h2,h7,h8,decide_eq_true (by omega:0≤a.n),decide_eq_true (by omega:a.n≤2000),decide_eq_true (by omega:0≤a.syms),decide_eq_true (by omega:a.syms≤40),decide_eq_true (by omega:a.moves.length≤20000)];rfl)))
end Go.Proofs.YtgfabnhpllkebaaGreatDoor
