/-
  Walks: the reader of trees: a tree is read, or the token is thrown that cannot stand.
  The engine: deferred calls that recover. No program in sight.
  Walks: reading a whole list of tokens: the panic is caught.
  Walks: a text is parsed.
  The engine, last part: arguments of whatever shape, as they came in, read as plain data; and the frame of a law's row. No program in sight.
  The engine: arguments whose types lead back to themselves, read as plain data, by the depth of the reading. No program in sight.
  Process trees: how the arguments of the laws read; the examples of the chapter (layer 19).
  Walks: process trees: the reference's normal forms.
  Walks: process trees: the reference's normal forms, second part.
  The law PtreeNormal: Normal returns the normal form of the reference, or its error, whatever the tree.
  Process trees: turned trees have the same normal form; a normal form is its own, and has the tree's activities. Plain Lean.
  The engine: a cell that holds the value of a slot that is read as shared is read so too. No program in sight.
  The engine: a row of strings is sorted by the library. No program in sight.
  Process trees: the activities as a sorted list; parts of valid trees; valid trees are not great. Plain Lean.
  Walks: process trees: the activities.
  The keys of a map, sorted (maps.Keys, slices.Sorted): rules for a walk; the shelf's contracts.
  Plain laws: numbering things in the order in which they are met. No program in sight.
  Walks: directly-follows graphs: which are valid (package dfg).
  Plain laws: maps to numbers as lists; counts and pairs in order. No program in sight.
  Walks: comparing of counts and pairs where what is drawn only grows; dfg.list.
  Plain laws: what dfg.Make counts. No program in sight.
  Walks: dfg.newCounter, the counter's graph.
  Walks: slices.Clone and slices.DeleteFunc over counts and follows.
  Walks: slices.Clone over counts and follows; dfg.Threshold.
  Walks: automata: comparing moves, which automata are valid.
-/
import Derived.Recover
import Derived.WalkKit
import Derived.ProofKit
import Derived.OpenShut
import Derived.ShutString
import Derived.ChangeOld
import Derived.Below
import Derived.Carry
import Derived.Deep.Slices
import Derived.Sort.EncStr
import Derived.Test.YtgfabnhpllkebaaGreatDoorPq05
import Derived.Test.YtgfabnhpllkebaaGreatDoorPq02
import Derived.Test.YtgfabnhpllkebaaGreatDoorPq03
import Derived.Test.YtgfabnhpllkebaaGreatDoorMShelfU
import Derived.Test.YtgfabnhpllkebaaGreatDoorMShelfW
import Derived.Test.YtgfabnhpllkebaaGreatDoorPq04
import Derived.Test.YtgfabnhpllkebaaGreatDoorMShelfC
import Derived.Test.YtgfabnhpllkebaaGreatDoorPq01
namespace Go.Proofs.YtgfabnhpllkebaaGreatDoor
open Go.RowKit Go.Cb Go.En
set_option linter.all false
set_option maxRecDepth 100000
end Go.Proofs.YtgfabnhpllkebaaGreatDoor
namespace Go.En
open Go.RowKit Go.Cb
set_option linter.all false
section
variable {P:Program} {c:Ctx} {ops:Array Oper} {Q:Exit→Act→World→Prop} {rest:List Oper} {sL hP:List (Nat×Ent)} {o:Oper}
end
section
variable {P:Program}
end
section
variable {P:Program} {c:Ctx} {sL hP:List (Nat×Ent)}
end
section
variable {P:Program} {c:Ctx} {sL hP:List (Nat×Ent)}
end
section
variable {P:Program} {c:Ctx} {ops:Array Oper} {Q:Exit→Act→World→Prop} {rest:List Oper} {sL hP:List (Nat×Ent)} {o:Oper}
end
end Go.En
namespace Go.Proofs.YtgfabnhpllkebaaGreatDoor
open Go.RowKit Go.Cb Go.En
set_option linter.all false
set_option maxRecDepth 100000
def z3:List PV:=[.val (.int .i64 0), .val (.string ByteArray.empty), .val (.slice none 0 0)]
end Go.Proofs.YtgfabnhpllkebaaGreatDoor
namespace Go.En
open Go.RowKit Go.Cb Go.WideShapes Go.ChangeShapes Go.ChangeAt Go.Deep
set_option linter.all false
theorem ZgQ {H:Type} (P:Program) (e:TypeId) {d:DataW H} {n:Nat}:∀{l:List (DataW H)},d∈l→n∈d.weights P e→n∈DataW.weightsAll P e l
 | x::l,h,hn=>by
   rw [DataW.weightsAll,Xs];rcases Xl.1 h with rfl|h
   · exact .inl hn
   · exact .inr (ZgQ P e h hn)
theorem ZbJ {H:Type} (P:Program) {d:DataW H} {t:TypeId} {n:Nat}:∀{ts:List TypeId} {l:List (DataW H)} (i:Nat),ts[i]? =some t→l[i]? =some d→n∈d.weights P t→n∈DataW.weightsEach P ts l
 | t'::ts,x::l,0,h1,h2,hn=>by
   simp at h1 h2;subst h1 h2;rw [DataW.weightsEach,Xs];exact .inl hn
 | t'::ts,x::l,i+1,h1,h2,hn=>by
   rw [DataW.weightsEach,Xs];exact .inr (ZbJ P i (by simpa using h1) (by simpa using h2) hn)
structure Dec (P:Program) (t:TypeId) (k:Nat) {α:Type} (enc:α→List PV) (fit:α→Prop):Prop where
 size:P.cellsOf t=k
 len:∀a,(enc a).length=k
 dec:∀{H:Type} (e:TypeId×Value→H) (w:World) (spare:Nat→Bool) (held:Bool) (fuel:Nat) (cs:List Value) (x:DataW H×List MemPlace),DataW.trod e P w 0 spare held fuel t cs=some x→(∀n∈x.1.weights P t,n≤reachBytes)→
  ∃a,fit a∧cs.length=k∧∀(i:Nat) (v:Value) (p:PV),cs[i]? =some v→(enc a)[i]? =some p→Shr (fun _=>False) w v p
section
variable {P:Program} {t:TypeId}
theorem Zji {v u:Value} {p q:PV} {w:World} (h:Shr (fun _=>False) w v p) (i:Nat) (h1:[v][i]? =some u) (h2:[p][i]? =some q):Shr (fun _=>False) w u q:=by
 cases i with
 |zero=>simp at h1 h2;subst h1 h2;exact h
 |succ i=>simp at h1
theorem ZAD (ht:P.underlying t=some (.int .i64)) (hs:P.cellsOf t=1):Dec P t 1 (fun n:Int=>[pInt n]) (fun n=> -9223372036854775808≤n∧n≤9223372036854775807) where
 size:=hs
 len:=fun _=>rfl
 dec:=fun e w spare held fuel cs x h=>by
  intro hwt;obtain ⟨n,rfl,_,hw⟩:=DataW.trod_int ht h;refine ⟨n,?_,rfl,fun i v p h1 h2=>Zji (.val _) i h1 h2⟩;simpa [Lit.wf,IntKind.min,IntKind.max,IntKind.signed,IntKind.bits] using hw
theorem ZAE (ht:P.underlying t=some .string) (hs:P.cellsOf t=1):Dec P t 1 (fun s:ByteArray=>[Zab s]) (fun s=>s.size≤140737488355328) where
 size:=hs
 len:=fun _=>rfl
 dec:=fun e w spare held fuel cs x h=>by
  intro hwt;obtain ⟨s,rfl,rfl,hw⟩:=DataW.trod_string ht h;have hsz:s.size≤reachBytes:=hwt s.size (by show s.size∈DataW.weights P t (.lit (.string s.data.toList));rw [DataW.weights];exact Xi.2 (by rw [Vo];rfl));exact ⟨s,by unfold reachBytes at hsz;omega,rfl,fun i v p h1 h2=>Zji (.val _) i h1 h2⟩
section
variable {H:Type} {en:TypeId×Value→H} {w:World} {spare:Nat→Bool} {held:Bool} {r:Reach} {base:Nat} {v:Value} {d:DataW H} {ps:List MemPlace}
theorem Zsz (hT:NoAgg P t=true) (h:Value.okWide P w r base t v):v.cells= #[v]:=by
 unfold NoAgg at hT
 unfold Value.okWide at h
 cases v<;>first|rfl|skip
 rename_i cs
 exfalso
 cases hu:P.underlying t with
 |none=>rw [hu] at hT;simp at hT
 | some dd=>
   rw [hu] at hT h
   cases dd<;>simp_all [Cell.okWide,Cell.ok]
theorem ZEv {α:Type} {f:α→PV} {fit:α→Prop} (D:Dec P t 1 (fun a=>[f a]) fit) (hT:NoAgg P t=true) (hv:Value.okWide P w r base t v) (h:DataW.Trod en P w 0 spare held t v d ps) (hwt:∀n∈d.weights P t,n≤reachBytes):∃a,fit a∧Shr (fun _=>False) w v (f a):=by
 obtain ⟨fuel,hf⟩:=h
 rw [Zsz hT hv] at hf
 obtain ⟨a,h1,_,h3⟩:=D.dec en w spare held fuel _ _ hf hwt
 exact ⟨a,h1,h3 0 v (f a) rfl rfl⟩
theorem ZEw {α:Type} {k:Nat} {enc:α→List PV} {fit:α→Prop} (D:Dec P t k enc fit) (hT:ZDS P t=true) (hv:Value.okWide P w r base t v) (h:DataW.Trod en P w 0 spare held t v d ps) (hwt:∀n∈d.weights P t,n≤reachBytes):∃a,fit a∧Shr (fun _=>False) w v (.agg (enc a)):=by
 obtain ⟨fuel,hf⟩:=h
 have:∃fs,P.underlying t=some (.struct fs):=by
  unfold ZDS at hT;split at hT
  · rename_i fs hfs;exact ⟨fs,hfs⟩
  · cases hT
 obtain ⟨fs,hfs⟩:=this
 obtain ⟨cs,rfl,hsz⟩:=okWide_struct hfs hv
 obtain ⟨a,h1,h2,h3⟩:=D.dec en w spare held fuel _ _ hf hwt
 refine ⟨a,h1,?_⟩
 have:=Shr.agg (M:=fun _=>False) (w:=w) cs.toList (enc a) (by rw [D.len a];exact h2) h3
 simpa using this
end
theorem ZiA {H:Type} {enc:TypeId×Value→H} {P:Program} (hl:laidOutB P=true) {W W':World} (hb:Below W.heap.size W W'):∀{ts:List TypeId} {vs:List Value} {ds:List (DataW H)} {ps:List MemPlace},(ts.all fun t=>P.readableRec t&&decide (t<P.types.size))=true→
 DataW.TrodAll enc P W 0 (fun _=>true) true ts vs ds ps→DataW.TrodAll enc P W' 0 (fun b=>decide (b<W.heap.size)) true ts vs ds ps
 |[],[],[],ps,_,h=>h
 | t::ts,v::vs,d::ds,ps,ht,⟨p,q,h1,h2,h3⟩=>by
   rw [XF,Xg,Xg] at ht;refine ⟨p,q,Below.trod hl ht.1.1 (of_decide_eq_true ht.1.2) h1 hb ?_,ZiA hl hb ht.2 h2,h3⟩;obtain ⟨m,hm⟩:=h1;exact DataW.trod_lt m _ _ _ hm
theorem AF.law {P:Program} {f:FuncId} {ps:List PV} (hA:AF P f ps (· = .val (.bool true))) {W:World} {vs:List Value} (hl:vs.length=ps.length) (hv:∀(i:Nat) (v:Value) (p:PV),vs[i]? =some v→ps[i]? =some p→Shr (fun _=>False) W v p) (hT:TabW W (fun _=>False) (fun _=>False)) (hE:ErrW W (fun _=>False) (fun _=>False):=by intro g hg;cases hg):
 Calls P f vs.toArray W fun e w'=>e= .returned (.bool true)∧Below W.heap.size W w':=
 (hA (fun _=>False) W vs ⟨fun _ h=>h.elim,fun _=>hT,fun _=>hE⟩ hl hv).mono fun e w' ⟨v,p,F,h1,h2,h3,h4,_⟩=>by
   subst h2;have:=(h4.sh rfl).vOf;subst this;exact ⟨h1,h3⟩
end
def ZoB (P:Program) (t:TypeId) (k:Nat) {α:Type} (enc:α→List PV) (fit:α→Prop) (fuel:Nat):Prop:=
 ∀ {H:Type} (e:TypeId×Value→H) (w:World) (spare:Nat→Bool) (held:Bool) (cs:List Value) (x:DataW H×List MemPlace),DataW.trod e P w 0 spare held fuel t cs=some x→(∀n∈x.1.weights P t,n≤reachBytes)→
  ∃a,fit a∧cs.length=k∧∀(i:Nat) (v:Value) (p:PV),cs[i]? =some v→(enc a)[i]? =some p→Shr (fun _=>False) w v p
section
variable {P:Program} {t:TypeId}
theorem Dec.toF {α:Type} {k:Nat} {enc:α→List PV} {fit:α→Prop} (D:Dec P t k enc fit) (fuel:Nat):ZoB P t k enc fit fuel:=fun e w spare held cs x h hw=>D.dec e w spare held fuel cs x h hw
theorem Zh1 {H:Type} {α:Type} {e k o fuel:Nat} {enc:α→List PV} {fit:α→Prop} (hsz:P.cellsOf e=k) (hlen:∀a,(enc a).length=k) (D:ZoB P e k enc fit fuel) {en:TypeId×Value→H} {w:World} {spare:Nat→Bool} {held:Bool} {cs:List Value} {y:DataW H×List MemPlace}
 (h:DataW.trod en P w 0 spare held fuel e ((cs.drop o).take (P.cellsOf e))=some y) (hwt:∀n∈y.1.weights P e,n≤reachBytes):∃a,fit a∧∀(i:Nat) (v:Value) (p:PV),cs[o+i]? =some v→(enc a)[i]? =some p→Shr (fun _=>False) w v p:=by
 obtain ⟨a,h1,_,h3⟩:=D en w spare held _ y h hwt
 refine ⟨a,h1,fun i v p hv hp=>h3 i v p ?_ hp⟩
 have hi:i<k:=by rw [←hlen a];exact ζg hp
 rw [hsz,XZ hi,Vv];exact hv
theorem ZsA {α:Type} {e k fuel:Nat} {enc:α→List PV} {fit:α→Prop} (ht:P.underlying t=some (.slice e)) (hk:0<k) (hby:0<P.bytesOf e) (hsz:P.cellsOf e=k) (hln:∀a,(enc a).length=k) (D:∀n,n<fuel→ZoB P e k enc fit n):
 ZoB P t 1 (fun l:List α=>[PV.sl l.length (l.flatMap enc)]) (fun l=>l.length≤140737488355328∧∀x∈l,fit x) fuel:=fun en w spare held cs x h hwt=>by
 rcases DataW.trod_slice ht h with ⟨rfl,_⟩|⟨a,len,cap,elems,more,n,rfl,rfl,rfl,_,hl,hm,hel,hx,_,_⟩
 · exact ⟨[],⟨by simp,by simp⟩,rfl,fun i v p h1 h2=>Zji (.emp none 0 (by unfold maxLen;omega) (fun _=>rfl)) i h1 h2⟩
 · rcases Va len with h0|h0
   · subst h0;exact ⟨[],⟨by simp,by simp⟩,rfl,fun i v p h1 h2=>Zji (.emp (some a) cap hm (fun h=>by cases h)) i h1 h2⟩
   simp only [DataW.weights,ht] at hwt;have hlen:len≤reachBytes:=by
    have:=hwt _ (Xk ..);simp only [Xf,hel] at this;exact XV (XV (VL len _) (Nat.le_mul_of_pos_right _ hby)) this
   have hDn:ZoB P e k enc fit n:=D n (Nat.lt_succ_self n);have hone:∀i,i<len→∃(y:α×(Nat→Value)),fit y.1∧∀(j:Nat) (p:PV),(enc y.1)[j]? =some p→w.cell? ((a.add (i*k)).add j)=some (y.2 j)∧Shr (fun _=>False) w (y.2 j) p:=fun i hi=>by
    have h1:=hx i hi;obtain ⟨z,hz⟩:=Zap (show i<elems.length by omega);rw [hz] at h1;obtain ⟨cs',h2,h3⟩:=XW.1 h1;rw [hsz] at h2;obtain ⟨_,hlen',hcell⟩:=World.cells?_some h2;obtain ⟨y,hy,_,hS⟩:=hDn en w spare held cs' _ h3 (fun m hm=>hwt m (Xn _ (Xs.2 (.inl (ZgQ P e (Xh.2 ⟨z,Xb hz,rfl⟩) hm)))));refine ⟨(y,fun j=>(cs'[j]?).getD undef),hy,fun j p hp=>?_⟩;(have hj:j<k:=by rw [←hln y];exact ζg hp);obtain ⟨u,hu⟩:=Zap (show j<cs'.length by omega);have:=hcell j hj;simp only [hu,Up];exact ⟨by rw [this,hu],hS j u p hu hp⟩
   obtain ⟨y0,hy0⟩:=hone 0 h0;have key:∀i:Nat,∃(y:α×(Nat→Value)),i<len→fit y.1∧∀(j:Nat) (p:PV),(enc y.1)[j]? =some p→w.cell? ((a.add (i*k)).add j)=some (y.2 j)∧Shr (fun _=>False) w (y.2 j) p:=fun i=>by
    by_cases hi:i<len
    · obtain ⟨y,hy⟩:=hone i hi;exact ⟨y,fun _=>hy⟩
    · exact ⟨y0,fun h=>absurd h hi⟩
   obtain ⟨Y,hY⟩:=Classical.skolem.1 key;have hspot:∃b off,a=⟨b,off,none⟩:=by
    obtain ⟨hf,hc⟩:=hY 0 h0;obtain ⟨p,hp⟩:=Zap (show 0<(enc (Y 0).1).length by rw [hln];exact hk);have:=(hc 0 p hp).1;obtain ⟨b,off,spot⟩:=a;(have hspot:spot=none:=by simpa [Addr.add] using World.cell?_spot this);subst hspot;exact ⟨b,off,rfl⟩
   obtain ⟨b,off,rfl⟩:=hspot;have hflen:((List.range len).map fun i=>(Y i).1).length=len:=by simp
   refine ⟨(List.range len).map fun i=>(Y i).1,⟨by rw [hflen];unfold reachBytes at hlen;omega,fun x hx=>?_⟩,rfl,fun i v p h1 h2=>Zji ?_ i h1 h2⟩
   · obtain ⟨i,hi,rfl⟩:=Xh.1 hx;exact (hY i (by simpa using hi)).1
   · rw [hflen];have hat:∀(c:Nat) (p:PV),(((List.range len).map fun i=>(Y i).1).flatMap enc)[c]? =some p→c / k<len∧(enc (Y (c / k)).1)[c % k]? =some p:=fun c p hp=>by
      (have hc:c<len*k:=by have:=ζg hp;rw [flat_len hln,hflen] at this;exact this);have hq:c / k<len:=Nat.div_lt_of_lt_mul (by rw [VK];exact hc);(have hget:((List.range len).map fun i=>(Y i).1)[c / k]? =some (Y (c / k)).1:=by simp [hq]);have:=ZfW hln hget (Nat.mod_lt c hk);rw [VK,Nat.div_add_mod] at this;exact ⟨hq,by rw [←this];exact hp⟩
     refine .sl b off len cap _ (fun c=>(Y (c / k)).2 (c % k)) hl hm (fun c hc=>⟨?_,fun h=>h⟩) (fun c p hp=>?_)
     · obtain ⟨p,hp⟩:=Zap hc;obtain ⟨hq,hp'⟩:=hat c p hp;have:=((hY (c / k) hq).2 (c % k) p hp').1;rw [Za9,Za9,XX,VK,Nat.div_add_mod] at this;exact this
     · obtain ⟨hq,hp'⟩:=hat c p hp;exact ((hY (c / k) hq).2 (c % k) p hp').2
end
end Go.En
namespace Go.Proofs.YtgfabnhpllkebaaGreatDoor
open Go.RowKit Go.Cb Go.En Go.ChangeShapes Go.WideShapes Go.ChangeAt
set_option linter.all false
set_option maxRecDepth 100000
theorem ZD8:Dec Tryz.prog 3 1 (fun n:Int=>[pInt n]) (fun n=> -9223372036854775808≤n∧n≤9223372036854775807):=ZAD Tryz.underlying3 kR
theorem ZD9:Dec Tryz.prog 9 1 (fun s:ByteArray=>[Zab s]) (fun s=>s.size≤140737488355328):=ZAE Tryz.underlying9 kR
theorem Zvp (fuel:Nat):ZoB Tryz.prog 24 3 cN FitT fuel:=by
 induction fuel using Nat.strongRecOn with
 | _ fuel ih=>
   intro H e w spare held cs x h hwt;obtain ⟨xs,n,rfl,rfl,hlen,hxl,hf⟩:=DataW.trod_struct Tryz.underlying24 h;simp only [DataW.weights,Tryz.underlying24] at hwt;match xs,hxl with
   |[y0,y1,y2],_=>
   have g0:DataW.trod e Tryz.prog w 0 spare held n 3 ((cs.drop 0).take (Tryz.prog.cellsOf 3))=some y0:=hf 0 _ rfl;have g1:DataW.trod e Tryz.prog w 0 spare held n 9 ((cs.drop 1).take (Tryz.prog.cellsOf 9))=some y1:=hf 1 _ rfl;have g2:DataW.trod e Tryz.prog w 0 spare held n 22 ((cs.drop 2).take (Tryz.prog.cellsOf 22))=some y2:=hf 2 _ rfl;have hD0:ZoB Tryz.prog 3 1 (fun n:Int=>[pInt n]) (fun n=> -9223372036854775808≤n∧n≤9223372036854775807) n:=Dec.toF ZD8 n;have hD1:ZoB Tryz.prog 9 1 (fun s:ByteArray=>[Zab s]) (fun s=>s.size≤140737488355328) n:=Dec.toF ZD9 n;have hsl:ZoB Tryz.prog 22 1 (fun l:List Nd=>[PV.sl l.length (l.flatMap cN)]) (fun l=>l.length≤140737488355328∧∀x∈l,FitT x) n:=
    ZsA Tryz.underlying22 (by decide) (Xa kR) kR Zfb (fun m hm=>ih m (by omega))
   obtain ⟨a,ha,A⟩:=Zh1 (k:=1) (enc:=fun n:Int=>[pInt n]) (fit:=fun n:Int=> -9223372036854775808≤n∧n≤9223372036854775807) kR (fun _=>rfl) hD0 g0 (fun n hn=>hwt n (ZbJ Tryz.prog 0 rfl rfl hn));obtain ⟨b,hb,B⟩:=Zh1 (k:=1) (enc:=fun s:ByteArray=>[Zab s]) (fit:=fun s:ByteArray=>s.size≤140737488355328) kR (fun _=>rfl) hD1 g1 (fun n hn=>hwt n (ZbJ Tryz.prog 1 rfl rfl hn));obtain ⟨l,hl,C⟩:=Zh1 (k:=1) (enc:=fun l:List Nd=>[PV.sl l.length (l.flatMap cN)]) (fit:=fun l:List Nd=>l.length≤140737488355328∧∀x∈l,FitT x) kR (fun _=>rfl) hsl g2 (fun n hn=>hwt n (ZbJ Tryz.prog 2 rfl rfl hn));refine ⟨.mk a b l, .mk _ hl.1 hb ha.1 ha.2 hl.2,by rw [hlen];kernel_rfl,fun i v p hv hp=>?_⟩;match i with
   |0=>exact A 0 v p hv (by simpa [cN,Nd.op] using hp)
   |1=>exact B 0 v p hv (by simpa [cN,Nd.act] using hp)
   |2=>exact C 0 v p hv (by rw [←hp];show some _=some _;unfold Zag;rw [ZaV];rfl)
   |i+3=>simp [cN] at hp
theorem ZEa:Dec Tryz.prog 24 3 cN FitT where
 size:=by kernel_rfl
 len:=Zfb
 dec:=fun e w spare held fuel cs x h hw=>Zvp fuel e w spare held cs x h hw
open Go.RowKit Go.Cb Go.En
theorem ZxI {m:List Nd} {k:Nat} (hk:k≤m.length):PV.sl (k-0) (((ζ3 m).drop (0*3)).take ((k-0)*3))=Zag (m.take k):=by
 unfold Zag
 rw [VU,X4,VQ,ZaV,ZhY Zfb,←ZaV,Xu,XU hk]
theorem Zlj {α β:Type} {f:α→List β} {m:Nat} (hf:∀x,(f x).length=m):∀(L:List α) (k:Nat),(L.flatMap f).drop (k*m)=(L.drop k).flatMap f
 |[],k=>by simp
 |x::L,0=>by simp
 | x::L,k+1=>by
   rw [List.drop_succ_cons,Xr,←Zlj hf L k,List.drop_append,List.drop_of_length_le (by rw [hf,X9];omega),hf,show (k+1)*m-m=k*m by rw [X9];omega,Vy]
theorem ZxJ {m:List Nd} {k:Nat} (hk:k≤m.length):PV.sl (m.length-k) (((ζ3 m).drop (k*3)).take ((m.length-k)*3))=Zag (m.drop k):=by
 unfold Zag
 rw [ZaV,Zlj Zfb,Xo (by rw [flat_len Zfb,Uf];omega),←ZaV,Uf]
def ZsB (t:Nd):Nd:=if Zbv t=true then (if Zbv (Zal t)=true then Zal t else nd0) else nd0
theorem ZAF {p q:PV} {r:PV} (h:Rr p q):Rr (.tup [p,r]) (.tup [q,r]):=Rr.tup rfl fun i a b ha hb=>by
 match i with
 |0=>cases ha;cases hb;exact h
 |1=>cases ha;cases hb;exact Rr.rfl' _
 |i+2=>simp at ha
theorem ZAG (t:Nd):Rr (Zh0 t).1 (pTr (ZsB t)):=by
 unfold Zh0 ZsB
 split
 · split
   · exact Rr.rfl' _
   · exact Zqd
 · exact Zqd
theorem ZAH (t:Nd):shD (.tup [(Zh0 t).1,pInt (Zh0 t).2])=true:=by
 unfold Zh0
 split
 · split<;>rfl
 · rfl
theorem ZxK {t:Nd} (hf:FitT t):FitT (ZsB t):=by
 unfold ZsB
 split
 · rename_i h;split
   · exact Zoz (ZdG h) (by have:=ZhX h;omega)
   · exact ZtN
 · exact ZtN
theorem ZDa {l:List Nd} (hl:∀x∈l,NF x) (hne:l≠[]):ZaR 4 l≠[]:=by
 cases l with
 |nil=>exact absurd rfl hne
 | cons x m=>
   unfold ZaR;rw [Xr];intro h;have h1:=(List.append_eq_nil_iff.1 h).1;by_cases hx:x.op=4
   · rw [if_pos hx] at h1;have hr:=(hl x (by simp)).n.rt;unfold rightT at hr;rw [if_neg (by omega),if_neg (by omega),if_pos (by omega),h1] at hr;simp at hr
   · rw [if_neg hx,if_pos (.inr rfl)] at h1;cases h1
mutual
def Zax:Nd→List ByteArray
 | .mk o a l=>if o=1 then a::Zct l else Zct l
def Zct:List Nd→List ByteArray
 |[]=>[]
 |x::l=>Zax x++Zct l
end
theorem ZaS {l:List Nd} {s:ByteArray}:s∈Zct l↔∃x∈l,s∈Zax x:=by
 induction l with
 |nil=>simp [Zct]
 |cons x l ih=>rw [Zct,Xs,ih];simp
theorem ZgR {x:Nd} (h:x.op≠1):Zax x=Zct x.l:=by
 obtain ⟨o,a,l⟩:=x
 rw [Zax,if_neg (show ¬o=1 from h)];rfl
theorem Zt3:Zax Zkp=[]:=rfl
theorem Zlk {x:Nd} (h:rightT x=true) (h2:x.op=2):Zax x=[]:=by
 unfold rightT at h
 rw [h2] at h
 simp at h
 rw [ZgR (by omega),h.1];rfl
theorem ZAI {op:Int} (ho:op=3∨op=4∨op=5) {l:List Nd} (hl:∀x∈l,rightT x=true) {s:ByteArray}:s∈Zct (ZaR op l)↔s∈Zct l:=by
 rw [ZaS,ZaS]
 unfold ZaR
 constructor
 · rintro ⟨y,hy,hs⟩;obtain ⟨x,hx,hy⟩:=XR.1 hy;refine ⟨x,hx,?_⟩;split at hy
   · rename_i h;rw [ZgR (by omega),ZaS];exact ⟨y,hy,hs⟩
   · split at hy
     · rw [Xi] at hy;subst hy;exact hs
     · cases hy
 · rintro ⟨x,hx,hs⟩;by_cases h1:x.op=op
   · rw [ZgR (by omega),ZaS] at hs;obtain ⟨y,hy,hs⟩:=hs;exact ⟨y,XR.2 ⟨x,hx,by rw [if_pos h1];exact hy⟩,hs⟩
   · by_cases h2:x.op≠2∨op=4
     · exact ⟨x,XR.2 ⟨x,hx,by rw [if_neg h1,if_pos h2];simp⟩,hs⟩
     · rw [Zlk (hl x hx) (by omega)] at hs;cases hs
theorem ZAJ {op:Int} (ho:op=3∨op=4∨op=5) {p:List Nd} {s:ByteArray}:s∈Zax (Zgy op p)↔s∈Zct p:=by
 match p with
 |[]=>rw [Zgy,Zt3,Zct]
 |[x]=>rw [Zgy,Zct,Zct,XB]
 |x::y::l=>rw [Zgy,ZgR (by simp only [Nd.op];omega)];rfl
theorem Zqr {op:Int} (ho:op=3∨op=4∨op=5) {l:List Nd} (hl:∀x∈l,rightT x=true) {s:ByteArray}:s∈Zax (Zfq op l)↔s∈Zct l:=by
 rw [Zfq,ZAJ ho,←ZAI ho hl,ZaS,ZaS]
 exact ⟨fun ⟨x,hx,hs⟩=>⟨x,Zhg.1 hx,hs⟩,fun ⟨x,hx,hs⟩=>⟨x,Zhg.2 hx,hs⟩⟩
theorem ZAK:∀(t:Nd),okT t=true→∀s,s∈Zax (Zal t)↔s∈Zax t:=Nd.ind fun o a l ih hok s=>by
 obtain ⟨hr,hp⟩:=Zbf.1 hok
 simp only [Nd.l] at hp
 have hnf:∀x∈ZbN l,NF x:=fun x hx=>by
  rw [Zf4] at hx;obtain ⟨y,hy,rfl⟩:=Xh.1 hx;exact Zsl y (hp y hy)
 have hL:s∈Zct (ZbN l)↔s∈Zct l:=by
  rw [ZaS,ZaS,Zf4];constructor
  · rintro ⟨y,hy,hs⟩;obtain ⟨x,hx,rfl⟩:=Xh.1 hy;exact ⟨x,hx,(ih x hx (hp x hx) s).1 hs⟩
  · rintro ⟨x,hx,hs⟩;exact ⟨Zal x,UC hx,(ih x hx (hp x hx) s).2 hs⟩
 have hops:=ZdH hr
 simp only [Nd.op] at hops
 rw [Zal]
 unfold Zkr
 by_cases h12:o=1∨o=2
 · rw [if_pos h12];have hl:l=[]:=by
    unfold rightT at hr;simp only [Nd.op,Nd.l,Nd.act] at hr;rcases h12 with rfl|rfl
    · simp at hr;exact hr.1
    · simp at hr;exact hr.1
   rw [hl]
 · rw [if_neg h12];by_cases h6:o=6
   · rw [if_pos h6];subst h6;obtain ⟨x,y,rfl⟩:∃x y,l=[x,y]:=by
      unfold rightT at hr;simp [Nd.op,Nd.l,Nd.act] at hr;match l,hr.1 with
      |[x,y],_=>exact ⟨x,y,rfl⟩
     rw [ZbN,ZbN,ZbN] at hL hnf ⊢;rw [ZgR (x:= .mk 6 a [x,y]) (by simp [Nd.op])];show _↔s∈Zct [x,y];rw [←hL,Zu2];have hF:=hnf (Zal x) (by simp);have hS:=hnf (Zal y) (by simp);generalize Zal x=F at hF ⊢;generalize Zal y=S at hS ⊢;have hE:∀p:Nd×Nd,rightT p.1=true→rightT p.2=true→(s∈Zax (Zkq p)↔s∈Zax p.1∨s∈Zax p.2):=fun p h1 h2=>by
      unfold Zkq;split
      · rename_i h;rw [Zt3,Zlk h1 h.1,Zlk h2 h.2];simp
      · rw [ZgR (by simp [Nd.op])];show s∈Zct [p.1,p.2]↔_;rw [ZaS];simp
     (have hSS:s∈Zct [F,S]↔s∈Zax F∨s∈Zax S:=by rw [ZaS];simp);rw [hSS];unfold Zcs;by_cases hf6:F.op=6
     · rw [if_pos hf6];obtain ⟨A,B,hAB,_⟩:=hF.n.lp hf6;rw [hAB];have hpp:=hF.p;rw [hAB] at hpp;have hB:=hpp B (by simp);rw [hE _ (hpp A (by simp)).n.rt (Zom (by omega) (fun z hz=>by
        simp only [Xl,VW,or_false] at hz;rcases hz with rfl|rfl
        · exact hB
        · exact hS)).n.rt,Zqr (by omega) (fun z hz=>by
        simp only [Xl,VW,or_false] at hz;rcases hz with rfl|rfl
        · exact hB.n.rt
        · exact hS.n.rt),ZgR (x:=F) (by omega),hAB,ZaS,ZaS]
       simp [or_assoc]
     · rw [if_neg hf6,hE _ hF.n.rt hS.n.rt]
   · rw [if_neg h6,Zqr (by omega) (fun x hx=>(hnf x hx).n.rt),hL,ZgR (by simp only [Nd.op];omega)];rfl
end Go.Proofs.YtgfabnhpllkebaaGreatDoor
namespace Go.En
open Go.RowKit Go.Cb
set_option linter.all false
section
variable {sL hP:List (Nat×Ent)}
end
open Go.RowKit Go.Cb Go.Proofs Go.Sort Go.ChangeShapes Go.WideShapes Go.ChangeAt
def ZxL (P:Program) (fs:Nat):Prop:=∀(blk cap:Nat) (zs:List (List UInt8)) (w:World),Go.Sort.Holds encStr w blk 0 zs.toArray→blk<w.heap.size→zs.length<4611686018427387904→
 Calls P fs #[.slice (some ⟨blk,0,none⟩) zs.length cap] w fun e w'=>e= .returned (.tuple #[])∧∃n os,w'=grow (putRow encStr (Go.Sort.ahead w n) blk 0 (zs.mergeSort fun x y=>decide (x≤y)).toArray) os
def ZsC (s:List UInt8):PV:= .val (encStr s)
section
variable {P:Program} {c:Ctx} {ops:Array Oper} {Q:Exit→Act→World→Prop} {rest:List Oper} {sL hP:List (Nat×Ent)} {o:Oper}
theorem ZxM {fs e d:Nat} {zs:List (List UInt8)} {h:Value} {q:PV} {x:Operand} {ats:Array TypeId} (l:Nat) (hS:ZxL P fs) (hc:∀args w,(callFunc fs args).run P w= .ok (.enter fs args) w)
 (kk:aL P c ops Q rest ⟨put d (.tuple #[], .val (.tuple #[])) sL,put l (h, .own e 1 zs.length ((zs.mergeSort fun x y=>decide (x≤y)).map ZsC)) hP⟩)
 (hn:0<zs.length) (hn2:zs.length<4611686018427387904:=by omega) (hw:ζZ ops sL o=some true:=by exact rfl) (hd:o.dst=some d:=by exact rfl) (hdn:d<c.nt:=by exact Xa rfl) (ho:o.op= .call {callee:= .value (.func fs),args:= #[x],argTypes:=ats}:=by exact rfl) (hx:ev sL x=some (h,q):=by exact rfl) (hl:lk hP l=some (h, .own e 1 zs.length (zs.map ZsC)):=by exact rfl):aL P c ops Q (o::rest) (⟨sL,hP⟩:St):=
 ZaG hw fun a w F H=>by
  have hxv:=(H.rd.ev hx).1;have hTr:=H.tr l _ _ hl;obtain ⟨xs,Fs,hrow,hlen,hT,hdj,hb,hF⟩:=hTr.row;obtain ⟨blk,cap,hh,hc1,hc2,hc3⟩:=Zdk hTr hn;have hblkF:F l blk:=(hF blk).2 (.inl (by rw [hh];rfl));have hxs:∀(j:Nat) (v:Value),xs[j]? =some v→∃z,zs[j]? =some z∧v=encStr z:=fun j v hv=>by
   obtain ⟨p,hp⟩:=Zar hv hlen.symm;have h1:=hp;rw [Xm,XC] at h1;obtain ⟨z,hz,rfl⟩:=h1;exact ⟨z,hz,((hT j v _ hv hp).sh rfl).vOf⟩
  have hHold:Go.Sort.Holds encStr w blk 0 zs.toArray:=fun j hj=>by
   simp only [Vk] at hj;have hrow':=hrow;rw [hh] at hrow';obtain ⟨v,hv⟩:=Zap (show j<xs.length by rw [←hlen,Xf];exact hj);obtain ⟨z,hz,rfl⟩:=hxs j v hv;refine ⟨?_,by rw [Xw];exact hrow'.frozenAt j⟩;rw [Xw,ZbM hrow' hv];have:zs.toArray[j]! =z:=by
    have hz':=(XI.1 hz).2;simp [hj,hz']
   rw [this]
  have hcall:=hS blk cap zs w hHold hc3 hn2;unfold Oper.wp;have hrun:(execOp a.eval o).run P w= .ok (.enter fs #[h]) w:=by
   have hev:a.eval (.func fs)= .func (.func fs) #[] #[]:=rfl;simp [execOp,ho,resolve,Deferred.ofValue,hev,invoke,hxv,hc]
  rw [hrun,Oper.upon_enter,hh];refine hcall.mono fun e' w' ⟨he',m,os,hw'⟩=>?_;subst he';have hsl:(zs.mergeSort fun x y=>decide (x≤y)).length=zs.length:=Uw _;generalize hsd:(zs.mergeSort fun x y=>decide (x≤y))=sd at hsl hw' kk;have hch0:Chg (fun b=>b=blk) w w':=by
   rw [hw'];refine ⟨rfl,rfl,rfl,?_,fun i hi hne=>?_⟩
   · simp [grow,putRow,mapBlock,Go.Sort.ahead]
   · have:(grow (putRow encStr (Go.Sort.ahead w m) blk 0 sd.toArray) os).heap=(w.heap.modify blk (onCells (putCells encStr 0 sd.toArray)))++os:=rfl;rw [this,Vm (by simpa using hi),VJ,if_neg (fun e=>hne e.symm)]
  rw [hd];refine kk _ _ ⟨fun l'=>if l'=l then (fun b=>b=blk) else F l',?_⟩;refine H.change (fun l'=>l'=l) hdn (hch0.wid fun b hb'=> .inl ⟨l,_,rfl,hl,by rw [hb'];exact hblkF⟩) (fun l' z hne hz=>?_) (fun l' z b hT' hz hb'=>?_) (fun hmm l' u p hT' hz=>?_) (fun l1 l2 _ _ _ h1 h2 hne=>absurd (h1.trans h2.symm) hne) (fun _=> .val _) (fun _=>by rw [hw'];exact VL _ _)
  · rcases Zak hz with ⟨e1,_⟩|⟨_,e1⟩
    · exact absurd e1.symm hne
    · exact ⟨e1,by simp [hne]⟩
  · subst hT';simp only [if_true] at hb';exact .inl ⟨l',_,rfl,hl,by rw [hb'];exact hblkF⟩
  · subst hT';rw [ζ9] at hz
    cases hz;simp only [if_true];rcases hrow.2 with ⟨e1,_⟩|⟨g',cap',cur,e1,_,e3,e4,e5,e6,e7⟩
    · rw [hh] at e1;cases e1
    · rw [hh] at e1
      cases e1;have hlt:=Za8 e3;refine .own (sd.map encStr) (fun _ _=>False) ⟨by rw [Xf,hsl,Xx], .inr ⟨blk,cap,putCells encStr 0 sd.toArray cur,hh,Xe _,?_,e4,e5,by simp [putCells];omega,?_⟩⟩ (by simp) (fun t v p hv hp=>?_) (fun _ _ _ _ _ _ h=>h.elim) (fun _ _ _ h=>h.elim) (fun b=>by rw [hh];simp [Value.ownBlock,eq_comm])
      · rw [hw'];have:(grow (putRow encStr (Go.Sort.ahead w m) blk 0 sd.toArray) os).heap=(w.heap.modify blk (onCells (putCells encStr 0 sd.toArray)))++os:=rfl;rw [this,Vm (by simpa using hlt),VJ,if_pos rfl,e3];rfl
      · have:=Zjf encStr sd.toArray cur (by simp only [Vk];rw [hsl,e6];omega);simp only [Vk] at this;rw [Xx,←hsl];exact this
      · rw [Xm,XC] at hv hp;obtain ⟨z,hz,rfl⟩:=hv;obtain ⟨z',hz',rfl⟩:=hp;rw [hz] at hz';cases hz';exact .shr (.val _) (fun _ h=>h)
theorem ZAL {fs e d:Nat} {zs:List (List UInt8)} {h:Value} {q:PV} {x:Operand} {ats:Array TypeId} (l:Nat) (hS:ZxL P fs) (hS0:Zk9 P fs) (hc:∀args w,(callFunc fs args).run P w= .ok (.enter fs args) w)
 (kk:aL P c ops Q rest ⟨put d (.tuple #[], .val (.tuple #[])) sL,put l (h, .own e 1 zs.length ((zs.mergeSort fun x y=>decide (x≤y)).map ZsC)) hP⟩)
 (hn2:zs.length<4611686018427387904:=by omega) (hw:ζZ ops sL o=some true:=by exact rfl) (hd:o.dst=some d:=by exact rfl) (hdn:d<c.nt:=by exact Xa rfl) (ho:o.op= .call {callee:= .value (.func fs),args:= #[x],argTypes:=ats}:=by exact rfl) (hx:ev sL x=some (h,q):=by exact rfl) (hl:lk hP l=some (h, .own e 1 zs.length (zs.map ZsC)):=by exact rfl):aL P c ops Q (o::rest) (⟨sL,hP⟩:St):=by
 rcases Va zs.length with h0|h0
 · have hz:zs=[]:=XO h0;subst hz;refine Zla l hS0 hc ?_ hw hd hdn ho hx hl;exact ζr (fun c a w ⟨F,H⟩=>⟨(),F,H.less (fun _ _ h=>h) fun t x hx=>by
    rcases Zak hx with ⟨rfl,e1⟩|⟨_,e1⟩
    · rw [←e1];simpa using hl
    · exact e1⟩) (fun _:Unit=>kk)
 · exact ZxM l hS hc kk h0 hn2 hw hd hdn ho hx hl
end
section
variable {P:Program} {c:Ctx} {ops:Array Oper} {Q:Exit→Act→World→Prop} {rest:List Oper} {st:St} {sL hP:List (Nat×Ent)} {o:Oper} {Z:Nat→Bool} {K:List Nat} {fuel:Nat} {listed:Array Bool}
end
end Go.En
namespace Go.Proofs.YtgfabnhpllkebaaGreatDoor
open Go.RowKit Go.Cb Go.En
set_option linter.all false
open Classical in
noncomputable def setK (ks:List ByteArray) (s:ByteArray):List ByteArray:=if s∈ks then ks else ks++[s]
noncomputable def colS (ks:List ByteArray) (l:List ByteArray):List ByteArray:=l.foldl setK ks
theorem ZxN (ks:List ByteArray) (s x:ByteArray):x∈setK ks s↔x∈ks∨x=s:=by
 unfold setK
 split
 · rename_i h;exact ⟨.inl,fun h2=>h2.elim id fun e=>e▸h⟩
 · rw [Xs,Xi]
theorem ZAM {ks:List ByteArray} (h:ks.Nodup) (s:ByteArray):(setK ks s).Nodup:=by
 unfold setK
 split
 · exact h
 · rename_i hn;exact VB.2 ⟨h,VC _ s,fun a ha b hb e=>hn (by rw [Xi] at hb;rw [←hb,←e];exact ha)⟩
theorem Zfw:∀(l ks:List ByteArray) (x:ByteArray),x∈colS ks l↔x∈ks∨x∈l
 |[],ks,x=>by simp [colS]
 | s::l,ks,x=>by
   show x∈colS (setK ks s) l↔_;rw [Zfw l,ZxN,Xl,or_assoc]
theorem Zf9:∀(l ks:List ByteArray),ks.Nodup→(colS ks l).Nodup
 |[],_,h=>h
 |s::l,ks,h=>Zf9 l (setK ks s) (ZAM h s)
theorem ZgS (ks l m:List ByteArray):colS ks (l++m)=colS (colS ks l) m:=VE
theorem ZiB:∀(l ks:List ByteArray),(colS ks l).length≤ks.length+l.length
 |[],ks=>Xd _
 | s ::l,ks=>by
   show (colS (setK ks s) l).length≤_;have h1:=ZiB l (setK ks s);have h2:(setK ks s).length≤ks.length+1:=by
    unfold setK;split
    · omega
    · rw [Xc];simp
   rw [Xj];omega
def Zcp (ks:List ByteArray):List (ByteArray×Value):=ks.map fun s=>(s, .bool true)
theorem Zqs (ks:List ByteArray) (s:ByteArray):Zdn (skv (Zcp ks)) (.string s) (.bool true)=skv (Zcp (setK ks s)):=by
 rw [ZpI]
 congr 1
 unfold setK
 induction ks with
 |nil=>simp [Zcp,ZkZ]
 | cons x ks ih=>
   unfold Zcp at ih ⊢;rw [Xq,ZkZ];by_cases h:s=x
   · subst h;simp
   · simp only [h,if_false,Ne.symm h] at ih ⊢;by_cases h2:s∈ks
     · simp [h2,h] at ih ⊢;exact ih
     · simp [h2,h] at ih ⊢;exact ih
def toB (s:ByteArray):List UInt8:=s.data.toList
def ofB (l:List UInt8):ByteArray:=⟨l.toArray⟩
theorem ZkJ (s:ByteArray):ofB (toB s)=s:=by cases s;simp [ofB,toB]
theorem Zt4 (l:List UInt8):toB (ofB l)=l:=by simp [ofB,toB]
def Zd1 (ks:List ByteArray):List ByteArray:=((ks.map toB).mergeSort fun x y=>decide (x≤y)).map ofB
theorem ZxO (ks:List ByteArray):((ks.map toB).mergeSort fun x y=>decide (x≤y)).map ZsC=(Zd1 ks).map Zab:=by
 unfold Zd1
 rw [XE];rfl
theorem ZAN (ks:List ByteArray):(ks.map toB).map ZsC=ks.map Zab:=by
 rw [XE]
 refine Vs fun s _=>?_
 show PV.val (.string (ofB (toB s)))=Zab s
 rw [ZkJ]
theorem ZgT (ks:List ByteArray):(Zd1 ks).length=ks.length:=by unfold Zd1;simp
theorem Zvq {l m:List ByteArray} (h:l.Perm m):Zd1 l=Zd1 m:=by
 unfold Zd1
 congr 1
 have htr:∀a b c:List UInt8,decide (a≤b)=true→decide (b≤c)=true→decide (a≤c)=true:=fun a b c h1 h2=>by
  simp only [decide_eq_true_eq] at*;exact List.le_trans h1 h2
 have hto:∀a b:List UInt8,(decide (a≤b)||decide (b≤a))=true:=fun a b=>by
  simp only [Vp,decide_eq_true_eq];exact List.le_total a b
 refine List.Perm.eq_of_pairwise (le:=fun x y=>decide (x≤y)=true) (fun a b _ _ h1 h2=>?_) (Uj htr hto _) (Uj htr hto _) (((Uk _ _).trans (h.map toB)).trans (Uk _ _).symm)
 simp only [decide_eq_true_eq] at h1 h2
 exact List.le_antisymm h1 h2
noncomputable def actR (t:Nd):List ByteArray×Int:=if Zbv t=true then (if (colS [] (Zax t)).length≤40 then (Zd1 (colS [] (Zax t)),0) else ([],5)) else ([],1)
theorem Zvr {t:Nd} (h:rightT t=true):t.act.size≤40:=by
 unfold rightT at h
 split at h
 · simp only [Xg] at h;have:=h.2;unfold ZcY at this;simp only [Xg,decide_eq_true_eq] at this;exact this.1.1.2
 · split at h
   · simp only [Xg,decide_eq_true_eq] at h;rw [h.2];exact Xe _
   · split at h
     · simp only [Xg,decide_eq_true_eq] at h;rw [h.2];exact Xe _
     · split at h
       · simp only [Xg,decide_eq_true_eq] at h;rw [h.2];exact Xe _
       · cases h
set_option maxRecDepth 100000
theorem Zcz:AggT Tryz.prog 24 3=true:=by kernel_rfl
theorem Znd:ElT Tryz.prog 27 9 1 16 (.string ByteArray.empty):=⟨Tryz.underlying27,by kernel_rfl,rfl,by decide⟩
theorem Zqt:FldT Tryz.prog 24 0 0=true:=by kernel_rfl
theorem Zqu:FldT Tryz.prog 24 1 1=true:=by kernel_rfl
theorem Zj5:FldT Tryz.prog 24 2 2=true:=by kernel_rfl
theorem Zvs:MpT Tryz.prog 76 9 4 .string (.bool false):=⟨Tryz.underlying76,Tryz.underlying9, .inl rfl,by show ZeroT _ _ _;unfold ZeroT;kernel_rfl⟩
theorem Zne:NoAgg Tryz.prog 22=true:=by kernel_rfl
theorem ZxP:NoAgg Tryz.prog 3=true:=by kernel_rfl
theorem ZxQ:NoAgg Tryz.prog 9=true:=by kernel_rfl
theorem Zho:SlT Tryz.prog 22 24 3=true:=by kernel_rfl
theorem Znf:ZeroT Tryz.prog 24 (.agg #[(.int .i64 0),(.string ByteArray.empty),(.slice none 0 0)]):=by unfold ZeroT;kernel_rfl
theorem Zvt:ZxL Tryz.prog 75:=fun blk cap zs w hH hb hn=>Tryz.slices_Sort_string blk 0 cap zs w hH hb hn
theorem ZsD:Zk9 Tryz.prog 75:=Tryz.slices_Sort_string_none
theorem Zhp {l:List Nd} {k:Nat} {x:Nd} (h:l[k]? =some x):Zct (l.take (k+1))=Zct (l.take k)++Zax x:=by
 have e:∀m:List Nd,Zct m=m.flatMap Zax:=fun m=>by
  induction m with
  |nil=>rfl
  |cons y m ih=>rw [Zct,ih,Xr]
 rw [e,e,ζQ h,XS,VD]
set_option maxHeartbeats 4000000 in
theorem ZsE:∀(t:Nd),okT t=true→szT t≤1000000→∀(ks:List ByteArray) (m V:Value),AFh False Tryz.prog 74 [(0,m, .val m),(1,V,pTr t)] [(1000,m, .omap (skv (Zcp ks)))] (fun v q h=>h=[(1000,m, .omap (skv (Zcp (colS ks (Zax t)))))]):=Nd.ind fun o a l ih hok hs ks m V=>by
 have e0:pTr (.mk o a l)= .agg [pInt o,Zab a,Zag l]:=rfl
 rw [e0]
 obtain ⟨hr,hp⟩:=Zbf.1 hok
 have hsz:=Zf8 (.mk o a l)
 have hlz:=Zef l
 simp only [Nd.l,Nd.op] at hp hsz
 obtain ⟨K,hK⟩:∃K,K=if o=1 then setK ks a else ks:=⟨_,rfl⟩
 have hres:colS ks (Zax (.mk o a l))=colS K (Zct l):=by
  rw [hK,Zax];split<;>rfl
 rw [hres]
 refine AFh.of_body 23 Tryz.func74 rfl Tryz.ntmps74 (Xa rfl) rfl ?_
 intro w0 M0 N0
 refine nav ?_
 (refine ζa ?_<;>refine ζH 3 3 fun h3=>?_<;>refine ζd ?_)
 (refine ζa ?_<;>refine xL 6 (ζh 3 Zqt) ?_<;>(refine yL 7 (ζq 3 ZxP) fun v7 h=>?_;cases h)<;>refine xL 8 ζ6 ?_<;>refine ζd ?_)
 (first|refine cCd ?_ ?_|refine cC ?_ ?_)<;>intro hb8
 · first
   |exact bN hb8
   | (
    refine nav ?_;(refine ζa ?_<;>refine xL 9 ζb (xL 10 (ζh 3 Zqu) ?_)<;>(refine yL 11 (ζq 3 ZxQ) fun v11 h=>?_;cases h)<;>(refine ZhU 1000 Zvs ?_;rw [Zqs,show setK ks a=K by rw [hK,if_pos (by assumption)]])<;>refine ζd ?_)
    (refine ζa ?_<;>refine xL 12 (ζh 3 Zj5) ?_<;>(refine yL 13 (ζq 3 Zne) fun v13 h=>?_;cases h)<;>refine xL 14 (ζU Zho) (xL 15 ζb ?_)<;>refine ζd ?_)
    refine ζy (ι:={q:Nat×List ByteArray//q.1≤l.length∧q.2=colS K (Zct (l.take q.1))}) (fun k=>⟨[(0,_,_),(13,_,_),(14,_,_),(15, .int .i64 k.1.1,pInt k.1.1)],[(1000,m, .omap (skv (Zcp k.1.2)))]⟩) (fun k=>l.length-k.1.1) ⟨(0,K),Xe _,by rw [Vx];rfl⟩ (fun a w H=>H.weaken ⟨rfl,rfl,rfl,rfl,trivial⟩ ⟨rfl,trivial⟩) ?_;rintro ⟨⟨i,S⟩,hi,hS⟩;dsimp only;dsimp only at hi hS;refine nav ?_;(refine ζa ?_<;>refine xL 16 ζK ?_<;>refine ζd ?_)
    (first|refine cCd ?_ ?_|refine cC ?_ ?_)<;>intro hb16
    · first
      |exact bN hb16
      | (
       obtain ⟨x,hx⟩:=ζm (show i<l.length by omega);have e1:((ζ3 l).drop (i*3)).take 3=[pInt x.op,Zab x.act,Zag x.l]:=ζ4 hx;have e2:=Zah hx;have hxm:=Xb hx;have hxs:=ZdT hxm;have hsn:=Zhp hx;refine nav ?_;(refine ζa ?_<;>refine xL 17 (ζI Zho) ?_<;>(refine yL 18 (ZaQ Zcz) fun v18 h=>?_;cases h)<;>refine ζs [(.int .i64 0),(.string ByteArray.empty),(.slice none 0 0)] 3 5 Znf fun h5=>?_<;>refine ζt 5 Zcz ?_<;>refine ζd ?_)
       (refine ζa ?_<;>refine xL 19 ζb ?_<;>(refine yL 20 (ζk 5 Zcz) fun v20 h=>?_;cases h)<;>(refine Zat [(1000,m, .omap (skv (Zcp S)))] ⟨rfl,trivial⟩ ?_;refine ZbO [] 21 (Tryz.call74) (ih x hxm (hp x hxm) (by omega) S m v20) (fun v21 p21 h21 hR21=>?_);subst hR21)<;>refine ζd ?_)
       (refine ζa ?_<;>refine xL 22 ζG (xL 15 ζb ?_)<;>refine ζd ?_)
       refine ζj (
        ⟨(i+1,colS S (Zax x)),ζg hx,by dsimp only;rw [hsn,ZgS,←hS]⟩
        ) (by dsimp only;omega) ⟨rfl,rfl,rfl,rfl,trivial⟩ ⟨rfl,trivial⟩)
    · first
      |exact bN hb16
      | (
       refine nav ?_;(have hS2:S=colS K (Zct l):=by rw [hS,Xo (by omega)]);refine Zcw [(1000,m, .omap (skv (Zcp S)))] (Tryz.results74) ⟨rfl,trivial⟩ ?_;rw [hS2]))
 · first
   |exact bN hb8
   | (
    rw [show ks=K by rw [hK,if_neg (by assumption)]];refine nav ?_;(refine ζa ?_<;>refine xL 12 (ζh 3 Zj5) ?_<;>(refine yL 13 (ζq 3 Zne) fun v13 h=>?_;cases h)<;>refine xL 14 (ζU Zho) (xL 15 ζb ?_)<;>refine ζd ?_)
    refine ζy (ι:={q:Nat×List ByteArray//q.1≤l.length∧q.2=colS K (Zct (l.take q.1))}) (fun k=>⟨[(0,_,_),(13,_,_),(14,_,_),(15, .int .i64 k.1.1,pInt k.1.1)],[(1000,m, .omap (skv (Zcp k.1.2)))]⟩) (fun k=>l.length-k.1.1) ⟨(0,K),Xe _,by rw [Vx];rfl⟩ (fun a w H=>H.weaken ⟨rfl,rfl,rfl,rfl,trivial⟩ ⟨rfl,trivial⟩) ?_;rintro ⟨⟨i,S⟩,hi,hS⟩;dsimp only;dsimp only at hi hS;refine nav ?_;(refine ζa ?_<;>refine xL 16 ζK ?_<;>refine ζd ?_)
    (first|refine cCd ?_ ?_|refine cC ?_ ?_)<;>intro hb16
    · first
      |exact bN hb16
      | (
       obtain ⟨x,hx⟩:=ζm (show i<l.length by omega);have e1:((ζ3 l).drop (i*3)).take 3=[pInt x.op,Zab x.act,Zag x.l]:=ζ4 hx;have e2:=Zah hx;have hxm:=Xb hx;have hxs:=ZdT hxm;have hsn:=Zhp hx;refine nav ?_;(refine ζa ?_<;>refine xL 17 (ζI Zho) ?_<;>(refine yL 18 (ZaQ Zcz) fun v18 h=>?_;cases h)<;>refine ζs [(.int .i64 0),(.string ByteArray.empty),(.slice none 0 0)] 3 5 Znf fun h5=>?_<;>refine ζt 5 Zcz ?_<;>refine ζd ?_)
       (refine ζa ?_<;>refine xL 19 ζb ?_<;>(refine yL 20 (ζk 5 Zcz) fun v20 h=>?_;cases h)<;>(refine Zat [(1000,m, .omap (skv (Zcp S)))] ⟨rfl,trivial⟩ ?_;refine ZbO [] 21 (Tryz.call74) (ih x hxm (hp x hxm) (by omega) S m v20) (fun v21 p21 h21 hR21=>?_);subst hR21)<;>refine ζd ?_)
       (refine ζa ?_<;>refine xL 22 ζG (xL 15 ζb ?_)<;>refine ζd ?_)
       refine ζj (
        ⟨(i+1,colS S (Zax x)),ζg hx,by dsimp only;rw [hsn,ZgS,←hS]⟩
        ) (by dsimp only;omega) ⟨rfl,rfl,rfl,rfl,trivial⟩ ⟨rfl,trivial⟩)
    · first
      |exact bN hb16
      | (
       refine nav ?_;(have hS2:S=colS K (Zct l):=by rw [hS,Xo (by omega)]);refine Zcw [(1000,m, .omap (skv (Zcp S)))] (Tryz.results74) ⟨rfl,trivial⟩ ?_;rw [hS2]))
def ZDb:Value×Value→ByteArray
 |(.string s,_)=>s
 |_=>ByteArray.empty
theorem ZxR (ks:List ByteArray):(skv (Zcp ks)).map ZDb=ks:=by
 unfold skv Zcp
 rw [XE,XE]
 exact (Vs fun s _=>rfl).trans (List.map_id ks)
theorem ZxS {ks:List ByteArray} {k v:Value} (h:(k,v)∈skv (Zcp ks)):∃s,s∈ks∧k= .string s∧v= .bool true:=by
 unfold skv Zcp at h
 rw [XE] at h
 obtain ⟨s,hs,e⟩:=Xh.1 h
 cases e
 exact ⟨s,hs,rfl,rfl⟩
theorem Zqv (ks:List ByteArray):(skv (Zcp ks)).length=ks.length:=by unfold skv Zcp;rw [Xf,Xf]
theorem ZxT {es:Array MapEntry} {seen:Array Nat} {e:MapEntry} {clock:Nat} (hW:WfM es clock) (he:e∈(leftOf es seen).toList):(leftOf es (seen.push e.born)).size<(leftOf es seen).size:=by
 have h:=(Zm5 hW he).length_eq
 rw [Xj,ZkY,ZkY] at h
 omega
theorem ZxU {es:Array MapEntry} {seen:Array Nat} {e:MapEntry} (he:e∈(leftOf es seen).toList):(e.key,e.val)∈kvOf es:=Xh.2 ⟨e,Zp8 he,rfl⟩
theorem Zll (e n:Nat) (l:List ByteArray) (h:n=l.length):share (.own e 1 n (l.map Zab))=ZaY l:=by
 subst h
 rw [share,Zai,XE];rfl
set_option maxHeartbeats 4000000 in
theorem ZAO (t :Nd) (hf:FitT t):AF Tryz.prog 25 [pTr t] (· = .tup [ZaY (actR t).1,pInt (actR t).2]):=by
 have e0:pTr t= .agg [pInt t.op,Zab t.act,Zag t.l]:=rfl
 have hV:=Zfs t hf
 rw [e0] at hV ⊢
 refine AF.of_body 30 Tryz.func25 rfl Tryz.ntmps25 (Xa rfl) ?_
 intro w0 M0 vs hl hv
 obtain ⟨v0,rfl⟩:=Zco hl
 clear hl hv
 refine nav ?_
 (refine ζa ?_<;>refine ζH 1 3 fun h1=>?_<;>refine xL 2 ζc (xL 3 ζc ?_)<;>refine ζd ?_)
 (refine ζa ?_<;>(refine yL 7 (ζk 1 Zcz) fun v7 h=>?_;cases h)<;>(refine cS 8 (cA Tryz.call24 (hV)) fun v8 h=>?_;cases h)<;>refine xL 9 Zav ?_<;>refine ζd ?_)
 (first|refine cCd ?_ ?_|refine cC ?_ ?_)<;>intro hb9
 · first
   |exact bN hb9
   | (
    refine nav ?_;(refine ζa ?_<;>refine xL 2 ζc (xL 3 ζc ?_)<;>refine ζd ?_)
    refine Za2 (Zc9 (t:=2) rfl) fun _=>?_;refine Zc8 (Tryz.results25) rfl rfl ?_;rw [show actR t=([],1) by unfold actR;rw [if_neg (by simpa using hb9)]];rfl)
 · first
   |exact bN hb9
   | (
    (have hv:Zbv t=true:=by simpa using hb9);have hok:=ZdG hv;have hsz:=ZhX hv;obtain ⟨ks,hks⟩:∃ks,ks=colS [] (Zax t):=⟨_,rfl⟩;(have hR:actR t=if ks.length≤40 then (Zd1 ks,0) else ([],5):=by unfold actR;rw [if_pos hv,hks]);(have hnd:ks.Nodup:=by rw [hks];exact Zf9 _ _ Vg);refine nav ?_;(refine ζa ?_<;>refine ZfZ 10 fun h10 ho10=>?_<;>refine xL 4 ζc ?_<;>refine ζd ?_)
    refine ζw (ζF (l:=10) 1000 rfl rfl) fun _=>?_;(refine ζa ?_<;>refine xL 11 ζb ?_<;>(refine yL 12 (ζk 1 Zcz) fun v12 h=>?_;cases h)<;>(refine Zat [(1000,h10, .omap (skv (Zcp []))),(1,_,_)] ⟨rfl,rfl,trivial⟩ ?_;refine ZbO [1] 13 (Tryz.call74) (ZsE t hok (by omega) [] h10 v12) (fun v13 p13 h13 hR13=>?_);subst hR13;rw [←hks])<;>refine ζd ?_)
    (refine ζa ?_<;>refine xL 14 ζb (xL 15 (ZkB 1000 Tryz.underlying76) (xL 16 ZaF ?_))<;>refine ζd ?_)
    (first|refine cCd ?_ ?_|refine cC ?_ ?_)<;>intro hb16
    · first
      |exact bN hb16
      | (
       refine nav ?_;(refine ζa ?_<;>refine xL 2 ζc (xL 3 ζc ?_)<;>refine ζd ?_)
       refine Za2 (Zc9 (t:=2) rfl) fun _=>?_;refine Zc8 (Tryz.results25) rfl rfl ?_;rw [Zqv] at hb16;rw [hR,if_neg (by omega)];rfl)
    · first
      |exact bN hb16
      | (
       rw [Zqv] at hb16;rw [if_pos (by omega)] at hR;refine nav ?_;(refine ζa ?_<;>refine xL 5 ζc ?_<;>refine ζd ?_)
       refine ζw (En.freeze (l:=1000) (t:=4) rfl rfl) fun _=>?_;(refine ζa ?_<;>refine xL 17 ζb ?_<;>refine Zw5 18 Tryz.underlying76 (fun b18 r18 c18 es18 hkv18 hWf18=>?_)<;>refine ζd ?_)
       refine ζw (ZbW 200 9 1 rfl) fun _=>?_;refine ζy (ι:={x:Value×Array Nat×List ByteArray//x.1.oneCell'=true∧(x.2.2++(kvOf (leftOf es18 x.2.1)).map ZDb).Perm ks}) (fun k=>⟨[(18,_,_),(5,k.1.1, .val k.1.1)],[(18,itv r18,itP b18 r18 c18 es18 k.1.2.1),(200,k.1.1, .own 9 1 k.1.2.2.length (k.1.2.2.map Zab))]⟩) (fun k=>(leftOf es18 k.1.2.1).size) ⟨(.slice none 0 0,#[],[]),rfl,by rw [Zw6,←hkv18,ZxR];exact .refl _⟩ (fun a w H=>H.weaken ⟨rfl,rfl,trivial⟩ ⟨rfl,rfl,trivial⟩) ?_;rintro ⟨⟨hov,seen,L⟩,ho,hp⟩;dsimp only;dsimp only at ho hp;have hLl:L.length≤40:=by
        have:=hp.length_eq;rw [Xc] at this;omega
       have hLm:(L.map Zab).length=L.length:=Xf _;refine nav ?_;(refine ζa ?_<;>refine ZAm 18 19 hWf18 (fun hlf18=>?_) (fun e18 hle18=>?_)<;>refine xL 20 ζl ?_<;>refine ζd ?_)<;>(
        (first|refine cCd ?_ ?_|refine cC ?_ ?_)<;>intro hb20
        · first
          |exact bN hb20
          | (
           refine nav ?_;(refine ζa ?_<;>refine xL 21 (ZAn 18 hWf18 (Zp8 hle18)) ?_<;>refine xL 22 ζl (xL 6 ζc ?_)<;>refine ζd ?_)
           obtain ⟨s,hmem,hks,hvs⟩:=ZxS (hkv18▸ZxU hle18);rw [hks];(refine ζa ?_<;>refine xL 23 ζb (xL 24 ζb ?_)<;>refine ζP (kk:=1) 25 Znd fun h25 ho25=>?_<;>refine ζ0 200 25 26 Znd fun h26 ho26=>?_<;>refine xL 5 ζc ?_<;>refine ζd ?_)
           refine Zbn (ζF (l:=26) 200 rfl rfl) fun _=>?_;rw [show L.map Zab++[_]=(L++[s]).map Zab from (by rw [Xy];rfl),show L.length+1=(L++[s]).length by simp];refine ζj (
            ⟨(h26,seen.push e18.born,L++[s]),ho26,by
              refine .trans ?_ hp;have h1:=(Zm5 hWf18 hle18).map ZDb;rw [Xq,hks,hvs] at h1;show (L++[_]++_).Perm _;rw [XA];exact h1.symm.append_left L⟩
            ) (ZxT hWf18 hle18) ⟨rfl,rfl,trivial⟩ ⟨rfl,rfl,trivial⟩)
        · first
          |exact bN hb20
          | (
           refine nav ?_;have hp0:L.Perm ks:=by
            rw [hlf18] at hp;have h1:kvOf (#[]:Array MapEntry)=[]:=rfl;rw [h1,X8,XB] at hp;exact hp
           have hLL:(L.map toB).length=L.length:=Xf _;refine ζw (ζM (l:=200) (p':= .own 9 1 (L.map toB).length ((L.map toB).map ZsC)) rfl (by rw [ZAN,hLL])) fun _=>?_;(refine ζa ?_<;>refine xL 27 ζb ?_<;>refine ZAL (zs:=L.map toB) 200 Zvt ZsD (Tryz.call75) ?_<;>refine ζd ?_)
           rw [ZxO,Zvq hp0];refine ζw (En.freeze (l:=200) (t:=5) rfl rfl) fun _=>?_;rw [Zll _ _ _ (by rw [ZgT,hLL,hp0.length_eq])];(refine ζa ?_<;>refine xL 29 ζb (xL 2 ζc (xL 3 ζc ?_))<;>refine ζd ?_)
           refine Zc8 (Tryz.results25) rfl rfl ?_;rw [hR]))))
def kyv (k1 g:Nat):Value:= .func (.func k1) #[] #[.pointer (some ⟨g,0,none⟩)]
def kyP (g b clock t:Nat) (es:Array MapEntry):PV:= .oblk (itv g) g (.cells #[.map (some b)] t) [(b, .map es clock)]
def kyE (g b clock t:Nat) (es:Array MapEntry):Ent:=(itv g,kyP g b clock t es)
def ZCk (P:Program) (f k1 t:Nat):Prop:=∀(b:Nat) (w:World),Calls P f #[.map (some b)] w fun e w'=>e= .returned (kyv k1 w.heap.size)∧w'=w.alloc (.cells #[.map (some b)] t)
def Zqw (P:Program) (f k1 t T:Nat):Prop:=∀(g b clock:Nat) (es:Array MapEntry) (ks:List ByteArray) (w:World),w.heap[g]? =some (.cells #[.map (some b)] t)→w.heap[b]? =some (.map es clock)→WfM es clock→kvOf es=skv (Zcp ks)→ks.Nodup→ks.length≤1000000→(∀s∈ks,s.size≤140737488355328)→
 Calls P f #[kyv k1 g] w fun e w'=>∃v,e= .returned v∧w'.ownsRow w.heap.size T 1 v ks.length ((Zd1 ks).map Value.string)∧Below w.heap.size w w'
section
variable {P:Program} {c:Ctx} {ops:Array Oper} {Q:Exit→Act→World→Prop} {rest:List Oper} {sL hP:List (Nat×Ent)} {o:Oper}
theorem ZDc {f k1 t:Nat} {x:Operand} {m:Value} {kv:List (Value×Value)} {ats:Array TypeId} (d:Nat) (hA:ZCk P f k1 t) (hc:∀args w,(callFunc f args).run P w= .ok (.enter f args) w)
 (k:∀(g b clock:Nat) (es:Array MapEntry),kv=kvOf es→WfM es clock→aL P c ops Q rest ⟨put d (kyv k1 g, .val (kyv k1 g)) sL,put d (kyE g b clock t es) hP⟩)
 (hw:ζZ ops sL o=some true:=by exact rfl) (hd:o.dst=some d:=by exact rfl) (hn:d<c.nt:=by exact Xa rfl) (ho:o.op= .call {callee:= .value (.func f),args:= #[x],argTypes:=ats}:=by exact rfl) (hx:ev sL x=some (m, .smap kv):=by exact rfl) (hl:lk hP d=none:=by exact rfl):aL P c ops Q (o::rest) (⟨sL,hP⟩:St):=
 ZaG hw fun a w F H=>by
  obtain ⟨hv,hS⟩:=H.rd.ev hx
  cases hS with
  | smap b es clock hM h hW=>
    have key:HoldsF c ⟨put d (kyv k1 w.heap.size, .val (kyv k1 w.heap.size)) sL,put d (kyE w.heap.size b clock t es) hP⟩ (fun l'=>if l'=d then (fun x=>x=w.heap.size) else F l') (a.put (some d) (kyv k1 w.heap.size)) (w.alloc (.cells #[.map (some b)] t)):=by
     refine H.change (fun l'=>l'=d) hn ((Ext.alloc _ _).chg) (fun l' x hne hx'=>?_) (fun l' x b' hT hx' hb=>?_) (fun hm l' u q hT hx'=>?_) (fun l1 l2 _ _ _ h1 h2 hne=>absurd (h1.trans h2.symm) hne) (fun hm=> .val _)
     · rcases Zak hx' with ⟨e1,_⟩|⟨_,e1⟩
       · exact absurd e1.symm hne
       · exact ⟨e1,by simp [hne]⟩
     · subst hT;simp only [if_true] at hb;exact .inr (by rw [hb];exact Xd _)
     · subst hT;rw [ζ9] at hx';unfold kyE kyP at hx'
       cases hx';simp only [if_true];refine .oblk w.heap.size rfl ?_ (fun p hp=>?_) (fun x=>Iff.rfl)
       · show (w.heap.push _)[w.heap.size]? =_;simp
       · rw [Xi] at hp;subst hp;exact ⟨(Ext.alloc w _).block h,fun hb=>hM (hm b (Za8 h) hb)⟩
    have hrun:(execOp a.eval o).run P w= .ok (.enter f #[.map (some b)]) w:=by
     have hev:a.eval (.func f)= .func (.func f) #[] #[]:=rfl;simp [execOp,ho,resolve,Deferred.ofValue,hev,invoke,hv,hc]
    unfold Oper.wp;rw [hrun,Oper.upon_enter];refine (hA b w).mono fun e' w' ⟨he,hw'⟩=>?_;subst he hw';rw [hd];exact k _ _ _ _ rfl hW _ _ ⟨_,key⟩
theorem Zvu {f k1 t T g b clock:Nat} {es:Array MapEntry} {q:PV} {x:Operand} {ats:Array TypeId} {ks:List ByteArray} (l d:Nat) (hA:Zqw P f k1 t T) (hc:∀args w,(callFunc f args).run P w= .ok (.enter f args) w) (hdr:¬c.dr)
 (hW:WfM es clock) (hkv:kvOf es=skv (Zcp ks)) (hnd:ks.Nodup) (hlen:ks.length≤1000000) (hsz:∀s∈ks,s.size≤140737488355328)
 (k:∀v:Value,v.oneCell'=true→aL P c ops Q rest ⟨put d (v, .val v) sL,put d (v, .own T 1 ks.length ((Zd1 ks).map Zab)) hP⟩)
 (hw:ζZ ops sL o=some true:=by exact rfl) (hd:o.dst=some d:=by exact rfl) (hn:d<c.nt:=by exact Xa rfl) (ho:o.op= .call {callee:= .value (.func f),args:= #[x],argTypes:=ats}:=by exact rfl) (hx:ev sL x=some (kyv k1 g,q):=by exact rfl) (hl:lk hP l=some (kyE g b clock t es):=by exact rfl) (hld:lk hP d=none:=by exact rfl):aL P c ops Q (o::rest) (⟨sL,hP⟩:St):=
 ZaG hw fun a w F H=>by
  have hv:=(H.rd.ev hx).1;obtain ⟨h,hs,hF⟩:=(H.tr l _ _ hl).blk;obtain ⟨hb,_⟩:=hs (b, .map es clock) (by simp);dsimp only at hb;have hrun:(execOp a.eval o).run P w= .ok (.enter f #[kyv k1 g]) w:=by
   have hev:a.eval (.func f)= .func (.func f) #[] #[]:=rfl;simp [execOp,ho,resolve,Deferred.ofValue,hev,invoke,hv,hc]
  unfold Oper.wp;rw [hrun,Oper.upon_enter];refine (hA g b clock es ks w h hb hW hkv hnd hlen hsz).mono fun e' w' ⟨v,he,hown,hbel⟩=>?_;subst he;rw [hd];have hone:v.oneCell'=true:=by
   rcases hown.2 with ⟨h1,_⟩|⟨g',cap',cur,e1,_⟩
   · rw [h1];rfl
   · rw [e1];rfl
  have hlow:∀b,v.ownBlock=some b→w.heap.size≤b:=fun b hb'=>by
   rcases hown.2 with ⟨h1,_⟩|⟨g',cap',cur,e1,e2,_⟩
   · rw [h1] at hb';simp [Value.ownBlock] at hb'
   · rw [e1] at hb';simp [Value.ownBlock] at hb';omega
  have hown0:w'.ownsRow 0 T 1 v ks.length ((Zd1 ks).map Value.string):=by
   refine ⟨hown.1,?_⟩;rcases hown.2 with h1|⟨g',cap,cur,e1,e2,r⟩
   · exact .inl h1
   · exact .inr ⟨g',cap,cur,e1,Xe _,r⟩
  have hch:Chg (fun b=>∃l x,l=d∧lk hP l=some x∧F l b) w w':=⟨hbel.os,hbel.tape,hbel.output,hbel.size,fun i hi _=>hbel.block i hi⟩;refine k v hone _ _ ⟨fun l'=>if l'=d then (fun b=>v.ownBlock=some b) else F l',H.change (fun l'=>l'=d) hn hch (fun l' x hne hx'=>?_) (fun l' x b' hT hx' hb=>?_) (fun hm l' u q hT hx'=>?_) (fun l1 l2 _ _ _ h1 h2 hne=>absurd (h1.trans h2.symm) hne) (fun hm=> .val _) (fun h=>absurd h hdr)⟩
  · rcases Zak hx' with ⟨e1,_⟩|⟨_,e1⟩
    · exact absurd e1.symm hne
    · exact ⟨e1,by simp [hne]⟩
  · subst hT;simp only [if_true] at hb;exact .inr (hlow b' hb)
  · subst hT;rw [ζ9] at hx'
    cases hx';simp only [if_true];refine .own ((Zd1 ks).map Value.string) (fun _ _=>False) hown0 (by simp) (fun t v p hv hp=>?_) (fun _ _ _ _ _ _ h=>h.elim) (fun _ _ _ h=>h.elim) (fun b=>by simp);rw [Xm,XC] at hv hp;obtain ⟨b1,hb1,rfl⟩:=hv;obtain ⟨b2,hb2,rfl⟩:=hp;rw [hb1] at hb2;cases hb2;exact .shr (.val _) (fun _ h=>h)
end
open Go.Maps Go.Sort Go.Shelf in
def rdK (_:Value):Option (DataW Unit×List MemPlace):=some (.lit (.bool true),[])
section
open Go.WideElems Go.MapKept Go.WideMaps
theorem ZDd {P:Program} {k:TypeId} (hk:P.underlying k=some .string) {s:ByteArray} (hs:s.size≤maxLen):rg P k rdK ⟨.string s, .bool true,0⟩=(.string s.data.toList, .lit (.bool true)):=by
 have:rd P k rdK ⟨.string s, .bool true,0⟩=some (.string s.data.toList, .lit (.bool true)):=rd_mk (R:=rdK) (val:= .bool true) (born:=0) (yv:=(.lit (.bool true),[])) (keyOf_string_mk hk hs) rfl
 exact rg_of this
theorem ZAP {P:Program} {k:TypeId} (hk:P.underlying k=some .string) {w:World} {b clock:Nat} {es:Array MapEntry} {ks:List ByteArray} (hb:w.heap[b]? =some (.map es clock)) (hW:WfM es clock) (hkv:kvOf es=skv (Zcp ks)) (hnd:ks.Nodup) (hlen:ks.length≤1000000) (hsz:∀s∈ks,s.size≤140737488355328):∃D0,w.ownsMap P k rdK b ks.length D0∧(strKeys D0).Perm (ks.map toB)∧Maps.size D0=ks.length:=by
 have hml:∀s∈ks,s.size≤maxLen:=fun s hs=>by have:=hsz s hs;unfold maxLen;omega
 have hkv2:es.toList.map (fun x=>(x.key,x.val))=ks.map fun s=>(Value.string s,Value.bool true):=by
  have:kvOf es=ks.map fun s=>(Value.string s,Value.bool true):=by rw [hkv];unfold skv Zcp;rw [XE];rfl
  exact this
 have hsize:es.size=ks.length:=by have:=congrArg List.length hkv2;simpa using this
 have hrg:es.toList.map (rg P k rdK)=ks.map fun s=>(Lit.string s.data.toList,(.lit (.bool true):DataW Unit)):=by
  have h1:es.toList.map (rg P k rdK)=(es.toList.map fun x=>(x.key,x.val)).map fun p=>rg P k rdK ⟨p.1,p.2,0⟩:=by
   rw [XE];rfl
  rw [h1,hkv2,XE];exact Vs fun s hs=>ZDd hk (hml s hs)
 have hread:∀x∈es.toList,∃y,rd P k rdK x=some y:=fun x hx=>by
  have:(x.key,x.val)∈es.toList.map (fun x=>(x.key,x.val)):=Xh.2 ⟨x,hx,rfl⟩;rw [hkv2] at this;obtain ⟨s,hs,e⟩:=Xh.1 this;obtain ⟨xk,xv,xb⟩:=x
  cases e;exact ⟨_,rd_mk (R:=rdK) (yv:=(.lit (.bool true),[])) (keyOf_string_mk hk (hml s hs)) rfl⟩
 refine ⟨.map ((es.toList.map (rg P k rdK)).foldr DataW.insert []),⟨es,clock,hb,⟨by rw [hsize];unfold maxLen;omega,?_,hread⟩,by rw [hsize];exact Xd _,rfl⟩,?_,?_⟩
 · refine ⟨hW.1,hW.2,?_⟩;have h3:es.toList.map (·.key)=ks.map Value.string:=by
    have:=congrArg (List.map Prod.fst) hkv2;rw [XE,XE] at this;exact this
   rw [h3];exact Ul.2 (hnd.imp fun h e=>h (by cases e;rfl))
 · rw [hrg];have h2:=(WideShapes.sorted_perm (ks.map fun s=>(Lit.string s.data.toList,(.lit (.bool true):DataW Unit)))).map fun p=>strOf p.1;rw [XE] at h2;exact h2
 · show List.length _=_;rw [(WideShapes.sorted_perm _).length_eq,Xf,Vo,hsize]
end
theorem ZEb:ZCk Tryz.prog 50 95 76:=fun b w=>callsIn_wide.1 (AnyZ.keys_in (ρ:=Tryz.keysA_ren) Tryz.keysA Fence.wide 5 trivial rfl (some b) w)
theorem ZDe (m:Nat):AnyZ.SortsIn Tryz.prog Tryz.sortedA_ren Fence.wide m:=
 ⟨fun blk off cap ss W hH hblk hsz=>callsIn_wide.2 (Tryz.slices_Sort_string blk off cap ss W hH hblk hsz),fun p cap W=>callsIn_wide.2 (Tryz.slices_Sort_string_none p cap W)⟩
theorem ZxV:Zqw Tryz.prog 49 95 76 9:=fun g b clock es ks w hg hb hW hkv hnd hlen hsz=>by
 obtain ⟨D0,hown,hperm,hsize⟩:=ZAP (P:=Tryz.prog) (k:=9) Tryz.underlying9 hb hW hkv hnd hlen hsz
 have hseq:SeqGives Fence.wide 2 Tryz.prog 95 #[.pointer (some ⟨g,0,none⟩)] encStr (fun ss=>ss.Perm (strKeys D0)) (Maps.size D0) w:=
  AnyZ.keys_gives (ρ:=Tryz.keysA_ren) {Tryz.keysA with} Fence.wide _ trivial rfl (by omega) g b _ D0 w (Za8 hg) (by simp [World.cell?,hg]) hown
 have cS:=AnyZ.sorted_in (ρ:=Tryz.sortedA_ren) Tryz.sortedA Fence.wide 5 trivial trivial trivial trivial rfl (by omega) (ZDe _) (Tryz.call75) 95 #[.pointer (some ⟨g,0,none⟩)] trivial (Tryz.call95) _ _ (by rw [hsize];unfold maxLen;omega) (by rw [hsize];omega) _ hseq
 refine (callsIn_wide.1 cS).mono ?_
 rintro e w' ⟨v,ss,rfl,hS,hrow,_,hbel⟩
 have hp:=hS.trans hperm
 refine ⟨v,rfl,?_,hbel⟩
 have e1:(ss.mergeSort fun x y=>decide (x≤y)).map encStr=(Zd1 ks).map Value.string:=by
  rw [mergeSort_of_perm hp];unfold Zd1;rw [XE];rfl
 have e2:ss.length=ks.length:=by rw [hp.length_eq,Xf]
 rw [e1,e2] at hrow
 exact hrow
theorem ZcA {α:Type} {l m:List α} (h:l<+:m) {i:Nat} {x:α} (hx:l[i]? =some x):m[i]? =some x:=by
 obtain ⟨r,rfl⟩:=h
 rw [Vc (ζg hx)];exact hx
section
variable {α κ:Type} [DecidableEq κ]
def posK (f:α→κ):List α→κ→Nat
 |[],_=>0
 |x::l,k=>if f x=k then 0 else posK f l k+1
theorem ZkK {f:α→κ}:∀{l:List α} {k:κ},posK f l k<l.length↔∃x∈l,f x=k
 |[],k=>by simp [posK]
 | x :: l,k=>by
   have:=ZkK (f:=f) (l:=l) (k:=k);rw [posK,Xj];split
   · rename_i h;exact ⟨fun _=>⟨x,Xk ..,h⟩,fun _=>by omega⟩
   · rename_i h;rw [UD,this];constructor
     · rintro ⟨y,h1,h2⟩;exact ⟨y,Xn _ h1,h2⟩
     · rintro ⟨y,h1,h2⟩;rcases Xl.1 h1 with rfl|h1
       · exact absurd h2 h
       · exact ⟨y,h1,h2⟩
theorem Zqx {f:α→κ}:∀{l:List α} {k:κ} {x:α},l[posK f l k]? =some x→f x=k
 |[],k,x,h=>by simp [posK] at h
 | y ::l,k,x,h=>by
   rw [posK] at h;split at h
   · rename_i h1;simp only [Vt,Option.some.injEq] at h;subst h;exact h1
   · simp only [VV] at h;exact Zqx h
theorem ZiC {f:α→κ} {l:List α} {k:κ} (h:posK f l k<l.length):∃x,l[posK f l k]? =some x∧f x=k:=by
 obtain ⟨x,hx⟩:=ζm h
 exact ⟨x,hx,Zqx hx⟩
theorem ZiD {f:α→κ}:∀{l:List α} {k:κ} (m:List α),posK f l k<l.length→posK f (l++m) k=posK f l k
 |[],k,m,h=>by simp at h
 | x ::l,k,m,h=>by
   rw [X1,posK,posK];rw [posK] at h;split
   · rfl
   · rename_i h1;rw [if_neg h1,Xj,UD] at h;rw [ZiD m h]
theorem Zlm {f:α→κ}:∀{l:List α} {x:α},¬posK f l (f x)<l.length→posK f (l++[x]) (f x)=l.length
 |[],x,_=>by simp [posK]
 | y ::l,x,h=>by
   rw [posK] at h;rw [X1,posK];split
   · rename_i h1;rw [if_pos h1,Xj] at h;omega
   · rename_i h1;rw [if_neg h1,Xj,UD] at h;rw [Zlm h,Xj]
theorem ZgU {κ':Type} [DecidableEq κ'] {f:α→κ} {g:α→κ'}:∀{l:List α} {k:κ} {k':κ'},(∀x∈l,f x=k↔g x=k')→posK f l k=posK g l k'
 |[],_,_,_=>rfl
 | x::l,k,k',h=>by
   rw [posK,posK,ZgU fun y hy=>h y (Xn _ hy)];have h1:=h x (Xk ..);by_cases h2:f x=k
   · rw [if_pos h2,if_pos (h1.1 h2)]
   · rw [if_neg h2,if_neg fun h3=>h2 (h1.2 h3)]
theorem ZeC {f:α→κ}:∀{l:List α} {i:Nat} {x:α},(l.map f).Nodup→l[i]? =some x→posK f l (f x)=i
 |[],i,x,_,h=>by simp at h
 | y::l,0,x,_,h=>by
   simp only [Vt,Option.some.injEq] at h;subst h;rw [posK,if_pos rfl]
 | y::l,i+1,x,hn,h=>by
   simp only [VV] at h;rw [Xq,Vf] at hn;rw [posK,if_neg fun e=>hn.1 (by rw [e];exact UC (Xb h)),ZeC hn.2 h]
def ZaT (f:α→κ):Nat→List α→List (κ×Value)
 |_,[]=>[]
 |off,x::l=>(f x, .int .i64 (off:Nat))::ZaT f (off+1) l
theorem ZgV (f:α→κ):∀(l:List α) (off:Nat) (k:κ),ZdW (ZaT f off l) k=if posK f l k<l.length then some (.int .i64 ((off+posK f l k:Nat):Int)) else none
 |[],off,k=>by simp [ZaT,ZdW,posK]
 | x :: l,off,k=>by
   rw [ZaT,ZdW,posK,ZgV f l (off+1) k];by_cases h:f x=k
   · rw [if_pos h.symm,if_pos h,if_pos (by simp)];simp
   · rw [if_neg (fun e=>h e.symm),if_neg h,Xj];by_cases h2:posK f l k<l.length
     · rw [if_pos h2,if_pos (by omega)];congr 3;omega
     · rw [if_neg h2,if_neg (by omega)]
theorem Zln (f:α→κ) (x:α):∀(l:List α) (off:Nat),¬posK f l (f x)<l.length→ZkZ (ZaT f off l) (f x) (.int .i64 ((off+l.length:Nat):Int))=ZaT f off (l++[x])
 |[],off,_=>by simp [ZaT,ZkZ]
 | y ::l,off,h=>by
   rw [posK] at h;split at h
   · rename_i h1;rw [Xj] at h;omega
   · rename_i h1;rw [Xj,UD] at h;rw [ZaT,ZkZ,if_neg (fun e=>h1 e.symm),X1,ZaT,←Zln f x l (off+1) h,Xj];congr 4;omega
theorem Zqy (f:α→κ):∀(l:List α) (off:Nat),(ZaT f off l).length=l.length
 |[],_=>rfl
 |x::l,off=>by rw [ZaT,Xj,Zqy f l,Xj]
def visit (f:α→κ) (cap:Nat) (o:List α) (x:α):Option (List α×Nat):=
 if posK f o (f x)<o.length then some (o,posK f o (f x)) else if cap≤o.length then none else some (o++[x],o.length)
theorem ZbY {f:α→κ} {cap:Nat} {o:List α} {x:α} (h:posK f o (f x)<o.length):visit f cap o x=some (o,posK f o (f x)):=by unfold visit;rw [if_pos h]
theorem ZbZ {f:α→κ} {cap:Nat} {o:List α} {x:α} (h:¬posK f o (f x)<o.length) (hc:o.length<cap):visit f cap o x=some (o++[x],o.length):=by unfold visit;rw [if_neg h,if_neg (by omega)]
theorem Zlo {f:α→κ} {cap:Nat} {o:List α} {x:α} (h:¬posK f o (f x)<o.length) (hc:cap≤o.length):visit f cap o x=none:=by unfold visit;rw [if_neg h,if_pos hc]
end
structure Srch (α κ:Type) where
 key:α→κ
 cap:Nat
 m:Nat
 step:Nat→α→Nat→α
section
variable {α κ:Type} [DecidableEq κ] (W:Srch α κ)
def Srch.row (i:Nat) (x:α) (o:List α):Nat→Option (List α×List Nat)
 |0=>some (o,[])
 |s+1=>(Srch.row i x o s).bind fun q=>(visit W.key W.cap q.1 (W.step i x s)).map fun v=>(v.1,q.2++[v.2])
def Srch.upto (x0:α):Nat→Option (List α×List (List Nat))
 |0=>some ([x0],[])
 | i+1=>(Srch.upto x0 i).bind fun q=>match q.1[i]? with
   |none=>some q
   |some x=>(W.row i x q.1 W.m).map fun v=>(v.1,q.2++[v.2])
def Srch.all (x0:α):Option (List α×List (List Nat)):=W.upto x0 W.cap
variable {W}
theorem Srch.row_snoc {i:Nat} {x:α} {o o' o'':List α} {r:List Nat} {s n:Nat} (h:W.row i x o s=some (o',r)) (hv:visit W.key W.cap o' (W.step i x s)=some (o'',n)):W.row i x o (s+1)=some (o'',r++[n]):=by
 rw [Srch.row,h,Vj,hv];rfl
theorem Srch.row_out {i:Nat} {x:α} {o o':List α} {r:List Nat} {s:Nat} (h:W.row i x o s=some (o',r)) (hv:visit W.key W.cap o' (W.step i x s)=none):W.row i x o (s+1)=none:=by
 rw [Srch.row,h,Vj,hv];rfl
theorem Srch.row_none {i:Nat} {x:α} {o:List α} {s:Nat} (h:W.row i x o s=none):∀t,W.row i x o (s+t)=none
 |0=>h
 |t+1=>by rw [←XX,Srch.row,Srch.row_none h t];rfl
theorem Srch.upto_none {x0:α} {i:Nat} (h:W.upto x0 i=none):∀t,W.upto x0 (i+t)=none
 |0=>h
 |t+1=>by rw [←XX,Srch.upto,Srch.upto_none h t];rfl
theorem Srch.upto_stop {x0:α} {i:Nat} {q:List α×List (List Nat)} (h:W.upto x0 i=some q) (hl:q.1.length≤i):∀t,W.upto x0 (i+t)=some q
 |0=>h
 |t+1=>by rw [←XX,Srch.upto,Srch.upto_stop h hl t,Vj,XN (by omega)]
theorem Srch.upto_snoc {x0 x:α} {i:Nat} {o o':List α} {rows:List (List Nat)} {r:List Nat} (h:W.upto x0 i=some (o,rows)) (hx:o[i]? =some x) (hr:W.row i x o W.m=some (o',r)):W.upto x0 (i+1)=some (o',rows++[r]):=by
 rw [Srch.upto,h,Vj];dsimp only;rw [hx];dsimp only;rw [hr];rfl
theorem Srch.upto_out {x0 x:α} {i:Nat} {o:List α} {rows:List (List Nat)} (h:W.upto x0 i=some (o,rows)) (hx:o[i]? =some x) (hr:W.row i x o W.m=none):W.upto x0 (i+1)=none:=by
 rw [Srch.upto,h,Vj];dsimp only;rw [hx];dsimp only;rw [hr];rfl
structure Srch.Met (W:Srch α κ) (P:α→Prop) (x0:α) (o:List α):Prop where
 zero:o[0]? =some x0
 cap:o.length≤W.cap
 nd:(o.map W.key).Nodup
 p:∀x∈o,P x
theorem Srch.Met.start {P:α→Prop} {x0:α} (hc:1≤W.cap) (hP:P x0):W.Met P x0 [x0]:=⟨rfl,hc,by simp,by simpa using hP⟩
theorem Srch.Met.pos {P:α→Prop} {x0:α} {o:List α} (h:W.Met P x0 o):0<o.length:=ζg h.zero
theorem Zjj {f:α→κ} {cap:Nat} {o o':List α} {x:α} {n:Nat} (h:visit f cap o x=some (o',n)):o<+:o'∧n<o'.length∧posK f o' (f x)=n:=by
 unfold visit at h
 split at h
 · rename_i h1
   cases h;exact ⟨Vu _,h1,rfl⟩
 · rename_i h1;split at h
   · cases h
   · cases h;exact ⟨Um _ _,by simp,Zlm h1⟩
theorem Srch.Met.visit {P:α→Prop} {x0 x:α} {o o':List α} {n:Nat} (h:W.Met P x0 o) (hx:P x) (hv:visit W.key W.cap o x=some (o',n)):W.Met P x0 o':=by
 unfold Go.Proofs.YtgfabnhpllkebaaGreatDoor.visit at hv
 split at hv
 · cases hv;exact h
 · rename_i h1;split at hv
   · cases hv
   · rename_i h2
     cases hv;refine ⟨?_,by rw [Xc,Xt];omega,?_,fun y hy=>?_⟩
     · rw [Vc h.pos];exact h.zero
     · rw [Xy,VB];refine ⟨h.nd,by simp,fun a ha b hb e=>h1 (ZkK.2 ?_)⟩;subst e;obtain ⟨y,hy,rfl⟩:=Xh.1 ha;simp at hb;exact ⟨y,hy,hb⟩
     · rcases Xs.1 hy with hy|hy
       · exact h.p y hy
       · rw [Xi.1 hy];exact hx
theorem Srch.Met.row {P:α→Prop} {x0 x:α} {i:Nat} {o:List α} (h:W.Met P x0 o) (hx:∀s,s<W.m→P (W.step i x s)):∀{s:Nat} {o':List α} {r:List Nat},s≤W.m→W.row i x o s=some (o',r)→W.Met P x0 o'∧o<+:o'∧r.length=s∧∀(t n:Nat),r[t]? =some n→n<o'.length∧posK W.key o' (W.key (W.step i x t))=n
 | 0,o',r,_,hr=>by
   rw [Srch.row] at hr;cases hr;exact ⟨h,Vu _,rfl,fun t n ht=>by simp at ht⟩
 | s + 1,o',r,hs,hr=>by
   rw [Srch.row,XW] at hr;obtain ⟨⟨o1,r1⟩,h1,h2⟩:=hr;obtain ⟨⟨o2,n⟩,h3,h4⟩:=XC.1 h2
   cases h4;dsimp only at h3 ⊢;obtain ⟨h5,h6,h7,h8⟩:=Srch.Met.row h hx (by omega) h1;obtain ⟨h9,h10,h11⟩:=Zjj h3;refine ⟨h5.visit (hx s (by omega)) h3,h6.trans h9,by rw [Xc,h7];rfl,fun t n' ht=>?_⟩;rw [VX] at ht;split at ht
   · obtain ⟨h12,h13⟩:=h8 t n' ht;obtain ⟨e,rfl⟩:=h9;refine ⟨by rw [Xc];omega,?_⟩;rw [ZiD e (by rw [h13];exact h12)];exact h13
   · have h14:t=s:=by
      have:=ζg ht;simp only [Xt] at this;omega
     subst h14;rw [h7,VA] at ht;simp only [Vt,Option.some.injEq] at ht;subst ht;exact ⟨h10,h11⟩
structure Srch.Ok (W:Srch α κ) (P:α→Prop) (x0:α) (o:List α) (rows:List (List Nat)):Prop extends W.Met P x0 o where
 len:∀r∈rows,r.length=W.m
 to:∀(i:Nat) (x:α) (r:List Nat) (t n:Nat),o[i]? =some x→rows[i]? =some r→r[t]? =some n→n<o.length∧posK W.key o (W.key (W.step i x t))=n
theorem Srch.ok {P:α→Prop} {x0:α} (hc:1≤W.cap) (h0:P x0) (hP:∀i x s,P x→s<W.m→P (W.step i x s)):∀{i:Nat} {o:List α} {rows:List (List Nat)},W.upto x0 i=some (o,rows)→W.Ok P x0 o rows∧(i≤o.length→rows.length=i)∧(o.length≤i→rows.length=o.length)
 | 0,o,rows,h=>by
   rw [Srch.upto] at h;cases h;exact ⟨⟨Srch.Met.start hc h0,by simp,by simp⟩,fun _=>rfl,fun h=>by simp at h⟩
 | i + 1, o,rows,h=>by
   rw [Srch.upto,XW] at h;obtain ⟨⟨o1,rows1⟩,h1,h2⟩:=h;obtain ⟨h3,h4,h4'⟩:=Srch.ok hc h0 hP h1;dsimp only at h2
   cases hx:o1[i]? with
   | none=>
     rw [hx] at h2;cases h2;have:=Uh.1 hx;exact ⟨h3,fun h5=>by omega,fun _=>h4' this⟩
   | some x=>
     rw [hx] at h2;obtain ⟨⟨o2,r⟩,h5,h6⟩:=XC.1 h2
     cases h6;dsimp only;have hil:=ζg hx;have h4:=h4 (by omega);obtain ⟨h7,h8,h9,h10⟩:=h3.toMet.row (fun s hs=>hP i x s (h3.p x (Xb hx)) hs) (Xd _) h5;have hle:=h8.length_le;refine ⟨⟨h7,fun r' hr'=>?_,fun j y r' t n hj hr' ht=>?_⟩,fun _=>by rw [Xc,h4];rfl,fun _=>by rw [Xc,h4,Xt];omega⟩
     · rcases Xs.1 hr' with hr'|hr'
       · exact h3.len r' hr'
       · rw [Xi.1 hr'];exact h9
     · rw [VX] at hr';split at hr'
       · rename_i hjl;obtain ⟨z,hz⟩:=ζm (show j<o1.length by omega);have hzy:=ZcA h8 hz;rw [hzy] at hj;cases hj;obtain ⟨h12,h13⟩:=h3.to j y r' t n hz hr' ht;obtain ⟨e,rfl⟩:=h8;refine ⟨by rw [Xc];omega,?_⟩;rw [ZiD e (by rw [h13];exact h12)];exact h13
       · have hj2:j=i:=by
          have:=ζg hr';simp only [Xt] at this;omega
         subst hj2;rw [h4,VA] at hr';simp only [Vt,Option.some.injEq] at hr';subst hr';have hzy:=ZcA h8 hx;rw [hzy] at hj;cases hj;exact h10 t n ht
theorem Srch.all_some {x0:α} {i:Nat} {q:List α×List (List Nat)} (h:W.upto x0 i=some q) (hl:q.1.length≤i) (hi:i≤W.cap):W.all x0=some q:=by
 have:=Srch.upto_stop h hl (W.cap-i)
 rw [show i+(W.cap-i)=W.cap by omega] at this
 exact this
theorem Srch.all_none {x0:α} {i:Nat} (h:W.upto x0 i=none) (hi:i≤W.cap):W.all x0=none:=by
 have:=Srch.upto_none h (W.cap-i)
 rw [show i+(W.cap-i)=W.cap by omega] at this
 exact this
theorem Srch.row_fails {i:Nat} {x:α} {o:List α} {s:Nat} (h:W.row i x o s=none) (hs:s≤W.m):W.row i x o W.m=none:=by
 have:=Srch.row_none h (W.m-s)
 rwa [show s+(W.m-s)=W.m by omega] at this
end
theorem ZsF (e n:Nat) (l:List ByteArray):share (.own e 1 n (l.map Zab))= .sl n (l.map Zab):=by
 rw [share,Zai,XE];rfl
def Zc5:List Int→Int
 |[]=>0
 |x::l=>if x=0 then Zc5 l else x
section
variable {κ:Type} [DecidableEq κ]
end
end Go.Proofs.YtgfabnhpllkebaaGreatDoor
namespace Go.En
open Go.RowKit Go.Cb
theorem AFg.exact2 {P:Program} {g:Nat} {p q:PV} {x:Value} (h:AFg P g [p,q] (· = .val x)) {M:BS} {W:World} {u v:Value} (hu:Shr M W u p) (hv:Shr M W v q):
 Calls P g #[u,v] W fun e w'=>e= .returned x∧∃q os',w'=Go.Sort.grow (W.drewN q) os':=h.exact (vs:=[u,v]) rfl fun i a r h1 h2=>by
 match i with
 |0=>simp at h1 h2;subst h1 h2;exact hu
 |1=>simp at h1 h2;subst h1 h2;exact hv
 |i+2=>simp at h1
end Go.En
namespace Go.Proofs.YtgfabnhpllkebaaGreatDoor
open Go.RowKit Go.Cb Go.En
set_option linter.all false
set_option maxRecDepth 100000
theorem ZAQ (l:List Int):AFg Tryz.prog 204 [pInts l] (· =pInt (Zc5 l)):=by
 refine AFg.of_body 18 Tryz.func204 rfl Tryz.ntmps204 (Xa rfl) ?_
 intro w0 M0 vs hl hv
 obtain ⟨v0,rfl⟩:=Zco hl
 clear hl hv
 refine Zb9 0 rfl fun hlen=>?_
 refine nav ?_
 (refine ζa ?_<;>refine xL 2 ζc ?_<;>refine ζd ?_)
 (refine ζa ?_<;>refine xL 3 ζc ?_<;>refine ζd ?_)
 (refine ζa ?_<;>refine xL 6 ζb (xL 7 (ζU ζu) (xL 8 ζb ?_))<;>refine ζd ?_)
 refine ζy (ι:={k:Nat//k≤l.length∧Zc5 l=Zc5 (l.drop k)}) (fun k=>⟨[(3,_,_),(6,_,_),(7,_,_),(8, .int .i64 k.1,pInt k.1)],[]⟩) (fun k=>l.length-k.1) ⟨0,by omega,rfl⟩ (fun a w H=>H.weaken ⟨rfl,rfl,rfl,rfl,trivial⟩ trivial) ?_
 rintro ⟨k,hk,hp⟩
 dsimp only
 refine nav ?_
 (refine ζa ?_<;>refine xL 9 ζK ?_<;>refine ζd ?_)
 (first|refine cCd ?_ ?_|refine cC ?_ ?_)<;>intro hb9
 · first
   |exact bN hb9
   | (
    obtain ⟨x,hx⟩:=ζm (show k<l.length by omega);have e1:=Zas (f:=pInt) hx;(have hs:Zc5 (l.drop k)=if x=0 then Zc5 (l.drop (k+1)) else x:=by rw [Zig hx,Zc5]);refine nav ?_;(refine ζa ?_<;>refine xL 10 (ζI ζu) ?_<;>(refine yL 11 (ZaE ζp) fun v11 h=>?_;cases h)<;>refine xL 5 ζc ?_<;>refine ζd ?_)
    (refine ζa ?_<;>refine xL 12 ζb (xL 13 ζb (xL 14 Zaz ?_))<;>refine ζd ?_)
    (first|refine cCd ?_ ?_|refine cC ?_ ?_)<;>intro hb14
    · first
      |exact bN hb14
      | (
       refine nav ?_;(refine ζa ?_<;>refine xL 15 ζb (xL 2 ζc ?_)<;>refine ζd ?_)
       refine ζx (Tryz.results204) rfl ?_;rw [hp,hs,if_neg hb14])
    · first
      |exact bN hb14
      | (
       refine nav ?_;(refine ζa ?_<;>refine xL 16 ζG (xL 8 ζb ?_)<;>refine ζd ?_)
       refine ζj (
        ⟨k+1,by omega,by rw [hp,hs,if_pos (by simpa using hb14)]⟩
        ) (by dsimp only;omega) ⟨rfl,rfl,rfl,rfl,trivial⟩ trivial))
 · first
   |exact bN hb9
   | (
    refine nav ?_;(refine ζa ?_<;>refine xL 17 ζb (xL 2 ζc ?_)<;>refine ζd ?_)
    refine ζx (Tryz.results204) rfl ?_;rw [hp,X0 (by omega)];rfl)
structure M4 where
 a:List (ByteArray×Int)
 s:List (ByteArray×Int)
 f:List (ByteArray×Int)
 q:List (Pr×Int)
section
variable {κ:Type} [DecidableEq κ]
structure MOk (m:List (κ×Int)) (b:Nat):Prop where
 nd:(m.map (·.1)).Nodup
 len:m.length≤b
 bd:∀x∈m,0≤x.2∧x.2≤b*1048576
end
structure KOk (st:M4) (b:Nat):Prop where
 a:MOk st.a b
 s:MOk st.s b
 f:MOk st.f b
 q:MOk st.q b
 k:∀x∈st.q,prOk x.1
end Go.Proofs.YtgfabnhpllkebaaGreatDoor
namespace Go.En
open Go.RowKit Go.Cb
end Go.En
namespace Go.Proofs.YtgfabnhpllkebaaGreatDoor
open Go.RowKit Go.Cb Go.En
set_option linter.all false
set_option maxRecDepth 100000
theorem ZoC {α:Type}:∀(ps:List PV) (a b c:List PV) (j:Nat),a.length=j→b.length=ps.length→ZdU (a++b++c) j ps=a++ps++c
 | [],a,b,c,j,ha,hb=>by
   have:b=[]:=XO hb;subst this;rfl
 | p ::ps,a,x::b,c,j,ha,hb=>by
   rw [ZdU];have h1:(a++(x::b)++c).set j p=(a++[p])++b++c:=by
    subst ha;rw [XA,Uz _ _ (Xd _),VA];simp
   rw [h1,ZoC (α:=α) ps (a++[p]) b c (j+1) (by simp [ha]) (by simpa using hb)];simp
def ZcB {α:Type} (p:α→Bool) (l:List α) (k:Nat):List α:=(l.take k).filter fun s=> !p s
theorem Zfx {α:Type} {p:α→Bool} {l:List α} {k:Nat} {x:α} (hx:l[k]? =some x) (h:p x=true):ZcB p l (k+1)=ZcB p l k:=by
 unfold ZcB;rw [ζQ hx,Vh];simp [h]
theorem Zlp {α:Type} {p:α→Bool} {l:List α} {k:Nat} {x:α} (hx:l[k]? =some x) (h:p x=false):ZcB p l (k+1)=ZcB p l k++[x]:=by
 unfold ZcB;rw [ζQ hx,Vh];simp [h]
theorem ZiE {α:Type} (p:α→Bool) (l:List α) (k:Nat):(ZcB p l k).length≤k:=by
 unfold ZcB
 have h1:=V9 (fun s=> !p s) (l.take k)
 rw [Xu] at h1
 omega
def ZhK {α:Type} (p:α→Bool) (l:List α) (k:Nat):List α:=ZcB p l k++l.drop (ZcB p l k).length
theorem ZAR {α:Type} {p:α→Bool} {l:List α} {k:Nat} {x:α} (hx:l[k]? =some x):(ZhK p l k)[k]? =some x:=by
 have h:=ZiE p l k
 unfold ZhK
 rw [Vl h,Vv,show (ZcB p l k).length+(k-(ZcB p l k).length)=k by omega]
 exact hx
theorem ZxW {α:Type} (p:α→Bool) (l:List α) {k:Nat} (hk:k≤l.length):(ZhK p l k).length=l.length:=by
 have h:=ZiE p l k
 unfold ZhK
 rw [Xc,Uf];omega
theorem ZxX {α:Type} {f:α→List PV} {m:Nat} (hf:∀x,(f x).length=m) {p:α→Bool} {l:List α} {k:Nat} {x:α} (hx:l[k]? =some x) (h:p x=false):
 ZdU ((ZhK p l k).flatMap f) ((ZcB p l k).length*m) (f x)=(ZhK p l (k+1)).flatMap f:=by
 have hl:=ZiE p l k
 have hlt:=ζg hx
 unfold ZhK
 rw [Zlp hx h,Xc,Xt,X7 (show (ZcB p l k).length<l.length by omega)]
 rw [XS,Xr,←XA,ZoC (α:=α) _ _ _ _ _ (flat_len hf _) (by rw [hf,hf]),XS,XS]
 simp
theorem ZoD {α:Type} {p:α→Bool} {l:List α}:(idx p l= -1∧∀s∈l,p s=false)∨∃i x,idx p l=(i:Nat)∧l[i]? =some x∧p x=true∧∀j y,j<i→l[j]? =some y→p y=false:=by
 unfold idx
 cases h:l.findIdx? p with
 |none=>exact .inl ⟨rfl,by rw [UI] at h;exact h⟩
 | some i=>
   rw [UJ] at h;obtain ⟨hi,hp,hn⟩:=h;exact .inr ⟨i,l[i],rfl,by simp,hp,fun j y hj hy=>by
    have:=hn j hj;obtain ⟨hj',rfl⟩:=XI.1 hy;simpa using this⟩
theorem Zvv {α:Type} {p:α→Bool} {l:List α} {k:Nat} (h:∀j y,j<k→l[j]? =some y→p y=false):ZcB p l k=l.take k:=by
 unfold ZcB
 rw [Uy]
 intro a ha
 obtain ⟨i,hi,rfl⟩:=VO ha
 rw [Xu] at hi
 have:=h i _ (by omega) (by rw [XM (by omega:i<l.length)])
 simp [List.getElem_take,this]
theorem ζ8:AggT Tryz.prog 93 3=true:=by kernel_rfl
theorem ζn:ElT Tryz.prog 36 3 1 8 (.int .i64 0):=⟨Tryz.underlying36,by kernel_rfl,rfl,by decide⟩
theorem ζ5:FldT Tryz.prog 39 0 0=true:=by kernel_rfl
theorem Zao:FldT Tryz.prog 39 1 1=true:=by kernel_rfl
theorem ZaJ:FldT Tryz.prog 39 2 2=true:=by kernel_rfl
theorem Zau:FldT Tryz.prog 39 3 3=true:=by kernel_rfl
theorem ζE:FldT Tryz.prog 39 4 4=true:=by kernel_rfl
theorem ZaB:FldT Tryz.prog 93 0 0=true:=by kernel_rfl
theorem ZaU:FldT Tryz.prog 93 1 1=true:=by kernel_rfl
theorem Zbq:FldT Tryz.prog 93 2 2=true:=by kernel_rfl
theorem ζD:NoAgg Tryz.prog 36=true:=by kernel_rfl
theorem ζO:NoAgg Tryz.prog 37=true:=by kernel_rfl
theorem ζR:SlT Tryz.prog 37 93 3=true:=by kernel_rfl
theorem Zdf:ZeroT Tryz.prog 93 (.agg #[(.int .i64 0),(.int .i64 0),(.int .i64 0)]):=by unfold ZeroT;kernel_rfl
structure Mv where
 src:Int
 dst:Int
 sym:Int
structure Aut where
 n:Int
 syms:Int
 start:List Int
 fin:List Int
 moves:List Mv
def cMv (m:Mv):List PV:=[pInt m.src,pInt m.dst,pInt m.sym]
theorem Zac (m:Mv):(cMv m).length=3:=rfl
theorem ZAS (L:List Mv):(L.flatMap cMv).all En.one=true:=by rw [List.all_flatMap,XD];intro x _;rfl
def pMvs (l:List Mv):PV:= .sl l.length (l.flatMap cMv)
def ζS (a:Aut):PV:= .agg [pInt a.n,pInt a.syms,pInts a.start,pInts a.fin,pMvs a.moves]
def ZgW (a b:Int):Int:=if a<b then-1 else if b<a then 1 else 0
def Zea (a b:Mv):Int:=Zc5 [ZgW a.src b.src,ZgW a.sym b.sym,ZgW a.dst b.dst]
def ltI (a b:Int):Bool:=decide (a<b)
def ZdK (a b:Mv):Bool:=decide (Zea a b<0)
def Zga (n:Int) (l:List Int):Bool:=l.all (fun x=>decide (0≤x)&&decide (x<n))&&Zbz ltI l
def Zlq (a:Aut) (m:Mv):Bool:=decide (0≤m.src)&&decide (m.src<a.n)&&decide (0≤m.dst)&&decide (m.dst<a.n)&&decide (-1≤m.sym)&&decide (m.sym<a.syms)
def Zaa (a:Aut):Bool:=decide (0≤a.n)&&decide (a.n≤2000)&&decide (0≤a.syms)&&decide (a.syms≤40)&&decide (a.moves.length≤20000)&&Zga a.n a.start&&Zga a.n a.fin&&a.moves.all (Zlq a)&&Zbz ZdK a.moves
theorem Zlr (s:Int):AFg Tryz.prog 237 [pInt s] (· =ζV false):=by
 refine AFg.of_body 6 Tryz.func237 rfl Tryz.ntmps237 (Xa rfl) ?_
 intro w0 M0 vs hl hv
 obtain ⟨v0,rfl⟩:=Zco hl
 obtain rfl:=hv 0 _ _ rfl rfl
 clear hl hv
 refine nav ?_
 (refine ζa ?_<;>refine xL 2 ζc ?_<;>refine ζd ?_)
 (refine ζa ?_<;>refine xL 3 ζb (xL 4 ζb (xL 5 Zaz (xL 2 ζc ?_)))<;>refine ζd ?_)
 refine ζx (Tryz.results237) rfl ?_
 simp
theorem Zls (a b:Int):AFg Tryz.prog 205 [pInt a,pInt b] (· =pInt (ZgW a b)):=by
 refine AFg.of_body 20 Tryz.func205 rfl Tryz.ntmps205 (Xa rfl) ?_
 intro w0 M0 vs hl hv
 obtain ⟨v0,v1,rfl⟩:=Zbl hl
 obtain rfl:=hv 0 _ _ rfl rfl
 obtain rfl:=hv 1 _ _ rfl rfl
 clear hl hv
 refine nav ?_
 (refine ζa ?_<;>refine xL 4 ζc ?_<;>refine ζd ?_)
 (refine ζa ?_<;>refine xL 7 ζb ?_<;>(refine cS 8 (cA Tryz.call237 (Zlr a)) fun v8 h=>?_;cases h)<;>refine xL 5 ζc ?_<;>refine ζd ?_)
 (refine ζa ?_<;>refine xL 9 ζb ?_<;>(refine cS 10 (cA Tryz.call237 (Zlr b)) fun v10 h=>?_;cases h)<;>refine xL 6 ζc ?_<;>refine ζd ?_)
 (refine ζa ?_<;>refine xL 11 ζb ?_<;>refine ζd ?_)
 refine cCf ?_
 refine nav ?_
 (refine ζa ?_<;>refine xL 13 ζb ?_<;>refine ζd ?_)
 refine cCf ?_
 refine nav ?_
 (refine ζa ?_<;>refine xL 14 ζb (xL 15 ζb (xL 16 ζK ?_))<;>refine ζd ?_)
 (first|refine cCd ?_ ?_|refine cC ?_ ?_)<;>intro hb16
 · first
   |exact bN hb16
   | (
    refine nav ?_;(refine ζa ?_<;>refine xL 4 ζc ?_<;>refine ζd ?_)
    refine ζx (Tryz.results205) rfl ?_;rw [ZgW,if_pos hb16])
 · first
   |exact bN hb16
   | (
    refine nav ?_;(refine ζa ?_<;>refine xL 17 ζb (xL 18 ζb (xL 19 ZaF ?_))<;>refine ζd ?_)
    (first|refine cCd ?_ ?_|refine cC ?_ ?_)<;>intro hb19
    · first
      |exact bN hb19
      | (
       refine nav ?_;(refine ζa ?_<;>refine xL 4 ζc ?_<;>refine ζd ?_)
       refine ζx (Tryz.results205) rfl ?_;rw [ZgW,if_neg (by omega),if_pos (by omega)])
    · first
      |exact bN hb19
      | (
       refine nav ?_;(refine ζa ?_<;>refine xL 4 ζc ?_<;>refine ζd ?_)
       refine ζx (Tryz.results205) rfl ?_;rw [ZgW,if_neg (by omega),if_neg (by omega)]))
theorem Zj6 (a b:Mv):AFg Tryz.prog 153 [.agg (cMv a), .agg (cMv b)] (· =pInt (Zea a b)):=by
 refine AFg.of_body 22 Tryz.func153 rfl Tryz.ntmps153 (Xa rfl) ?_
 intro w0 M0 vs hl hv
 obtain ⟨v0,v1,rfl⟩:=Zbl hl
 clear hl hv
 refine nav ?_
 (refine ζa ?_<;>refine ζH 2 3 fun h2=>?_<;>refine ζH 3 3 fun h3=>?_<;>refine xL 4 ζc ?_<;>refine ζd ?_)
 (refine ζY (fun i=>([]:List Nat).elem i) [2,3] kR ?_<;>refine xD 0 5 rfl (ζh 2 ZaB) ?_<;>(refine yD 1 6 rfl (ζq 2 ζp) fun v6 h=>?_;cases h)<;>refine xD 2 7 rfl (ζh 3 ZaB) ?_<;>(refine yD 3 8 rfl (ζq 3 ζp) fun v8 h=>?_;cases h)<;>refine xD 5 10 rfl (ζh 2 Zbq) ?_<;>(refine yD 6 11 rfl (ζq 2 ζp) fun v11 h=>?_;cases h)<;>refine xD 7 12 rfl (ζh 3 Zbq) ?_<;>(refine yD 8 13 rfl (ζq 3 ζp) fun v13 h=>?_;cases h)<;>refine xD 10 15 rfl (ζh 2 ZaU) ?_<;>(refine yD 11 16 rfl (ζq 2 ζp) fun v16 h=>?_;cases h)<;>refine xD 12 17 rfl (ζh 3 ZaU) ?_<;>(refine yD 13 18 rfl (ζq 3 ζp) fun v18 h=>?_;cases h)<;>(refine ζi 4 kR ?_)<;>(refine ζf rfl fun w9 M9 N9 DQ back=>?_)<;>(refine cS 9 (cA Tryz.call205 (Zls a.src b.src)) fun v9 h=>?_;cases h)<;>refine ζe (back _ (nrm ?_))<;>(refine ζi 9 kR ?_)<;>(refine ζf rfl fun w9 M9 N9 DQ back=>?_)<;>(refine cS 14 (cA Tryz.call205 (Zls a.sym b.sym)) fun v14 h=>?_;cases h)<;>refine ζe (back _ (nrm ?_))<;>(refine ζi 14 kR ?_)<;>(refine ζf rfl fun w9 M9 N9 DQ back=>?_)<;>(refine cS 19 (cA Tryz.call205 (Zls a.dst b.dst)) fun v19 h=>?_;cases h)<;>refine ζe (back _ (nrm ?_))<;>(refine ζi 15 kR ?_)<;>(refine ζf rfl fun w9 M9 N9 DQ back=>?_)<;>refine Zja (xs:=[_,_,_]) 20 ζn fun h20 ho20=>?_<;>refine ζe (back _ (nrm ?_))<;>(refine ζi 16 kR ?_)<;>(refine ζf rfl fun w9 M9 N9 DQ back=>?_)<;>(refine ζr (En.freeze (l:=20) (t:=20) rfl rfl) fun _=>?_;refine cS 21 (cA Tryz.call204 (ZAQ [ZgW a.src b.src,ZgW a.sym b.sym,ZgW a.dst b.dst])) fun v21 h=>?_;cases h)<;>refine ζe (back _ (nrm ?_))<;>refine xE 17 4 rfl ζc ?_<;>refine Zam kR (nav ?_)<;>try dsimp only)
 exact ζx Tryz.results153 rfl rfl
theorem Zng (l:List Int) (n:Int):AF Tryz.prog 152 [pInts l,pInt n] (· =ζV (Zga n l)):=by
 refine AF.of_body 35 Tryz.func152 rfl Tryz.ntmps152 (Xa rfl) ?_
 intro w0 M0 vs hl hv
 obtain ⟨v0,v1,rfl⟩:=Zbl hl
 obtain rfl:=hv 1 _ _ rfl rfl
 clear hl hv
 refine Zb9 0 rfl fun hlen=>?_
 refine nav ?_
 (refine ζa ?_<;>refine xL 4 ζc ?_<;>refine ζd ?_)
 (refine ζa ?_<;>refine xL 7 ζb (xL 8 (ζU ζu) (xL 9 ζb ?_))<;>refine ζd ?_)
 refine ζy (ι:={k:Nat//k≤l.length∧∀j x,j<k→l[j]? =some x→(0≤x∧x<n)∧∀y,1≤j→l[j-1]? =some y→ltI y x=true}) (fun k=>⟨[(0,_,_),(1,_,_),(7,_,_),(8,_,_),(9, .int .i64 k.1,pInt k.1)],[]⟩) (fun k=>l.length-k.1) ⟨0,by omega,by omega⟩ (fun a w H=>H.weaken ⟨rfl,rfl,rfl,rfl,rfl,trivial⟩ trivial) ?_
 rintro ⟨k,hk,hp⟩
 dsimp only
 refine nav ?_
 (refine ζa ?_<;>refine xL 10 ζK ?_<;>refine ζd ?_)
 (first|refine cCd ?_ ?_|refine cC ?_ ?_)<;>intro hb10
 · first
   |exact bN hb10
   | (
    obtain ⟨x,hx⟩:=ζm (show k<l.length by omega);obtain ⟨y,hy⟩:=ζm (show k-1<l.length by omega);have e1:=Zas (f:=pInt) hx;(have e2:(l.map pInt)[((k:Int)-1).toNat*1]? =some (pInt y):=by rw [show ((k:Int)-1).toNat*1=k-1 by omega];exact (by rw [Xm,hy];rfl));refine nav ?_;(refine ζa ?_<;>refine xL 11 ζb (xL 12 (ζI ζu) ?_)<;>(refine yL 13 (ZaE ζp) fun v13 h=>?_;cases h)<;>refine xL 5 ζc (xL 6 ζc ?_)<;>refine ζd ?_)
    (refine ζa ?_<;>refine xL 14 ζb (xL 15 ζK (xL 16 ζb ?_))<;>(refine bLd 16 (fun hb16=>?_) (fun hb16=>?_)<;>(first|refine kL 17 ?_|refine xL 17 ζb ?_))<;>(first|refine kL 18 ?_|refine xL 18 ζb ?_)<;>(first|refine kL 19 ?_|refine xL 19 ZcX ?_)<;>refine xL 20 ζJ (xL 21 ζb ?_)<;>(first|refine kL 22 ?_|(refine bLd 21 (fun hb21=>?_) (fun hb21=>?_)<;>(first|refine kL 22 ?_|refine xL 22 ζb ?_)))<;>(first|refine kL 23 ?_|refine xL 23 ZaF ?_)<;>(first|refine kL 24 ?_|refine xL 24 ζb ?_)<;>(first|refine kL 25 ?_|(refine bLd 24 (fun hb24=>?_) (fun hb24=>?_)<;>(first|refine kL 25 ?_|refine xL 25 ζb ?_)))<;>(first|refine kL 26 ?_|refine xL 26 ζb ?_)<;>(first|refine kL 27 ?_|refine xL 27 ZeX ?_)<;>(first|refine kL 28 ?_|refine xL 28 (Zk1 ζu) ?_)<;>(first|refine kL 29 ?_|(refine yL 29 (ZaE ζp) fun v29 h=>?_;cases h))<;>(first|refine kL 30 ?_|refine xL 30 ζb ?_)<;>(first|refine kL 31 ?_|refine xL 31 ZcX ?_)<;>(first|refine kL 32 ?_|refine xL 32 ζJ ?_)<;>refine xL 33 ζJ ?_<;>refine ζd ?_)<;>(
     (first|refine cCd ?_ ?_|refine cC ?_ ?_)<;>intro hb33
     · first
       |exact bN hb33
       | (
        refine nav ?_;(refine ζa ?_<;>refine xL 4 ζc ?_<;>refine ζd ?_)
        refine ζx (Tryz.results152) rfl ?_;unfold Zga
        first
         |rw [ZpQ hx (by simp;omega)];rfl
         |rw [ZjZ (by omega) hy hx (by unfold ltI;simpa using hb33),Bool.and_false])
     · first
       |exact bN hb33
       | (
        refine nav ?_;(refine ζa ?_<;>refine xL 34 ζG (xL 9 ζb ?_)<;>refine ζd ?_)
        refine ζj (
         ⟨k + 1,by omega,fun j z hj hz=>by
          by_cases e:j=k
          · subst e;rw [hx] at hz;cases hz;refine ⟨⟨by omega,by omega⟩,fun y' h1 hy'=>?_⟩;rw [hy] at hy';cases hy';unfold ltI
            first
             |omega
             |(simp;omega)
          · exact hp j z (by omega) hz⟩
         ) (by dsimp only;omega) ⟨rfl,rfl,rfl,rfl,rfl,trivial⟩ trivial)))
 · first
   |exact bN hb10
   | (
    refine nav ?_;(refine ζa ?_<;>refine xL 4 ζc ?_<;>refine ζd ?_)
    refine ζx (Tryz.results152) rfl ?_;have h1:l.all (fun x=>decide (0≤x)&&decide (x<n))=true:=by
     rw [XD];intro z hz;obtain ⟨j,hj,rfl⟩:=VO hz;have h2:=(hp j _ (by omega) (XM hj)).1;simp [h2.1,h2.2]
    have h2:Zbz ltI l=true:=ZkV fun j x y h1 hy hx=>(hp j x (by have:=ζg hx;omega) hx).2 y h1 hy;unfold Zga;rw [h1,h2];rfl)
theorem Zlt {a:Aut} (h:a.n<0∨2000<a.n∨a.syms<0∨40<a.syms∨20000<a.moves.length∨Zga a.n a.start=false∨Zga a.n a.fin=false∨a.moves.all (Zlq a)=false∨Zbz ZdK a.moves=false):Zaa a=false:=by
 unfold Zaa
 rcases h with h|h|h|h|h|h|h|h|h
 · rw [decide_eq_false (by omega:¬0≤a.n)];simp
 · rw [decide_eq_false (by omega:¬a.n≤2000)];simp
 · rw [decide_eq_false (by omega:¬0≤a.syms)];simp
 · rw [decide_eq_false (by omega:¬a.syms≤40)];simp
 · rw [decide_eq_false (by omega:¬a.moves.length≤20000)];simp
 · rw [h];simp
 · rw [h];simp
 · rw [h];simp
 · rw [h];simp
theorem Zbm (a : Aut):AF Tryz.prog 107 [ζS a] (· =ζV (Zaa a)):=by
 refine AF.of_body 103 Tryz.func107 rfl Tryz.ntmps107 (Xa rfl) ?_
 intro w0 M0 vs hl hv
 obtain ⟨v0,rfl⟩:=Zco hl
 clear hl hv
 refine nav ?_
 (refine ζa ?_<;>refine ζH 1 5 fun h1=>?_<;>refine xL 2 ζc ?_<;>refine ζd ?_)
 (refine ζa ?_ <;>refine xL 5 (ζh 1 ζ5) ?_<;>(refine yL 6 (ζq 1 ζp) fun v6 h=>?_;cases h)<;>refine xL 7 ζK (xL 8 ζb ?_)<;>(refine bLd 8 (fun hb8=>?_) (fun hb8=>?_)<;>(first|refine kL 9 ?_|refine xL 9 (ζh 1 ζ5) ?_))<;>(first|refine kL 10 ?_|(refine yL 10 (ζq 1 ζp) fun v10 h=>?_;cases h))<;>(first|refine kL 11 ?_|refine xL 11 ZaF ?_)<;>refine xL 12 ζJ (xL 13 ζb ?_)<;>(first|refine kL 14 ?_|(refine bLd 13 (fun hb13=>?_) (fun hb13=>?_)<;>(first|refine kL 14 ?_|refine xL 14 (ζh 1 Zao) ?_)))<;>(first|refine kL 15 ?_|(refine yL 15 (ζq 1 ζp) fun v15 h=>?_;cases h))<;>(first|refine kL 16 ?_|refine xL 16 ζK ?_)<;>refine xL 17 ζJ (xL 18 ζb ?_)<;>(first|refine kL 19 ?_|(refine bLd 18 (fun hb18=>?_) (fun hb18=>?_)<;>(first|refine kL 19 ?_|refine xL 19 (ζh 1 Zao) ?_)))<;>(first|refine kL 20 ?_|(refine yL 20 (ζq 1 ζp) fun v20 h=>?_;cases h))<;>(first|refine kL 21 ?_|refine xL 21 ZaF ?_)<;>refine xL 22 ζJ (xL 23 ζb ?_)<;>(first|refine kL 24 ?_|(refine bLd 23 (fun hb23=>?_) (fun hb23=>?_)<;>(first|refine kL 24 ?_|refine xL 24 (ζh 1 ζE) ?_)))<;>(first|refine kL 25 ?_|(refine yL 25 (ζq 1 ζO) fun v25 h=>?_;cases h))<;>(first|refine kL 26 ?_|refine xL 26 (ζU ζR) ?_)<;>(first|refine kL 27 ?_|refine xL 27 ZaF ?_)<;>refine xL 28 ζJ (xL 29 ζb ?_)<;>(first|refine kL 30 ?_|(refine bLd 29 (fun hb29=>?_) (fun hb29=>?_)<;>(first|refine kL 30 ?_|refine xL 30 (ζh 1 ZaJ) ?_)))<;>(first|refine kL 31 ?_|(refine yL 31 (ζq 1 ζD) fun v31 h=>?_;cases h))<;>(first|refine kL 32 ?_|refine xL 32 (ζh 1 ζ5) ?_)<;>(first|refine kL 33 ?_|(refine yL 33 (ζq 1 ζp) fun v33 h=>?_;cases h))<;>(first|refine kL 34 ?_|(refine cS 34 (cA Tryz.call152 (Zng a.start a.n)) fun v34 h=>?_;cases h))<;>(first|refine kL 35 ?_|refine xL 35 Zav ?_)<;>refine xL 36 ζJ (xL 37 ζb ?_)<;>(first|refine kL 38 ?_|(refine bL 37 (fun hb37=>?_) (fun hb37=>?_)<;>(first|refine kL 38 ?_|refine xL 38 (ζh 1 Zau) ?_)))<;>(first|refine kL 39 ?_|(refine yL 39 (ζq 1 ζD) fun v39 h=>?_;cases h))<;>(first|refine kL 40 ?_|refine xL 40 (ζh 1 ζ5) ?_)<;>(first|refine kL 41 ?_|(refine yL 41 (ζq 1 ζp) fun v41 h=>?_;cases h))<;>(first|refine kL 42 ?_|(refine cS 42 (cA Tryz.call152 (Zng a.fin a.n)) fun v42 h=>?_;cases h))<;>(first|refine kL 43 ?_|refine xL 43 Zav ?_)<;>refine xL 44 ζJ ?_<;>refine ζd ?_)<;>(
  (first|refine cCd ?_ ?_|refine cC ?_ ?_)<;>intro hb44
  · first
    |exact bN hb44
    | (
     refine nav ?_;(refine ζa ?_<;>refine xL 2 ζc ?_<;>refine ζd ?_)
     refine ζx (Tryz.results107) rfl ?_
     first
      |(rw [Zlt (by omega)])
      |(rw [Zlt (.inr (.inr (.inr (.inr (.inr (.inl (by simpa using hb37)))))))])
      |(rw [Zlt (.inr (.inr (.inr (.inr (.inr (.inr (.inl (by simpa using hb44))))))))]))
  · first
    |exact bN hb44
    | (
     refine nav ?_;(refine ζa ?_<;>refine xL 45 (ζh 1 ζE) ?_<;>(refine yL 46 (ζq 1 ζO) fun v46 h=>?_;cases h)<;>refine xL 47 (ζU ζR) (xL 48 ζb ?_)<;>refine ζd ?_)
     refine ζy (ι:={k:Nat//k≤a.moves.length∧∀j x,j<k→a.moves[j]? =some x→Zlq a x=true∧∀y,1≤j→a.moves[j-1]? =some y→ZdK y x=true}) (fun k=>⟨[(1,_,_),(45,_,_),(46,_,_),(47,_,_),(48, .int .i64 k.1,pInt k.1)],[(1,_,_)]⟩) (fun k=>a.moves.length-k.1) ⟨0,by omega,by omega⟩ (fun a w H=>H.weaken ⟨rfl,rfl,rfl,rfl,rfl,trivial⟩ ⟨rfl,trivial⟩) ?_;rintro ⟨k,hk,hp⟩;dsimp only;refine nav ?_;(refine ζa ?_<;>refine xL 49 ζK ?_<;>refine ζd ?_)
     (first|refine cCd ?_ ?_|refine cC ?_ ?_)<;>intro hb49
     · first
       |exact bN hb49
       | (
        obtain ⟨x,hx⟩:=ζm (show k<a.moves.length by omega);obtain ⟨y,hy⟩:=ζm (show k-1<a.moves.length by omega);have e1:=Zaq Zac a.moves k x hx;have e2:=ZaP Zac hx;(have e3:((a.moves.flatMap cMv).drop (((k:Int)-1).toNat*3)).take 3=cMv y:=by rw [show ((k:Int)-1).toNat*3=(k-1)*3 by omega];exact Zaq Zac a.moves (k-1) y hy);have e4:=ZaP Zac hy;refine nav ?_;(refine ζa ?_<;>refine xL 50 ζb (xL 51 (ζI ζR) ?_)<;>(refine yL 52 (ZaQ ζ8) fun v52 h=>?_;cases h)<;>refine ζs [(.int .i64 0),(.int .i64 0),(.int .i64 0)] 3 4 Zdf fun h4=>?_<;>refine xL 3 ζc ?_<;>refine ζt 4 ζ8 ?_<;>refine ζd ?_)
        (refine ζY (fun i=>([]:List Nat).elem i) [1,4] kR ?_<;>refine xE 0 53 rfl (ζh 4 ZaB) ?_<;>(refine yE 1 54 rfl (ζq 4 ζp) fun v54 h=>?_;cases h)<;>refine xE 2 55 rfl ζK ?_<;>refine xE 3 56 rfl ζb ?_<;>(refine bDd 56 (fun hb56=>?_) (fun hb56=>?_)<;>(first|refine kD 4 57 rfl ?_|refine xD 4 57 rfl (ζh 4 ZaB) ?_))<;>(first|refine kD 5 58 rfl ?_|(refine yD 5 58 rfl (ζq 4 ζp) fun v58 h=>?_;cases h))<;>(first|refine kD 6 59 rfl ?_|refine xD 6 59 rfl (ζh 1 ζ5) ?_)<;>(first|refine kD 7 60 rfl ?_|(refine yD 7 60 rfl (ζq 1 ζp) fun v60 h=>?_;cases h))<;>(first|refine kD 8 61 rfl ?_|refine xD 8 61 rfl ZcX ?_)<;>refine xE 9 62 rfl ζJ ?_<;>refine xE 10 63 rfl ζb ?_<;>(first|refine kD 11 64 rfl ?_|(refine bDd 63 (fun hb63=>?_) (fun hb63=>?_)<;>(first|refine kD 11 64 rfl ?_|refine xD 11 64 rfl (ζh 4 ZaU) ?_)))<;>(first|refine kD 12 65 rfl ?_|(refine yD 12 65 rfl (ζq 4 ζp) fun v65 h=>?_;cases h))<;>(first|refine kD 13 66 rfl ?_|refine xD 13 66 rfl ζK ?_)<;>refine xE 14 67 rfl ζJ ?_<;>refine xE 15 68 rfl ζb ?_<;>(first|refine kD 16 69 rfl ?_|(refine bDd 68 (fun hb68=>?_) (fun hb68=>?_)<;>(first|refine kD 16 69 rfl ?_|refine xD 16 69 rfl (ζh 4 ZaU) ?_)))<;>(first|refine kD 17 70 rfl ?_|(refine yD 17 70 rfl (ζq 4 ζp) fun v70 h=>?_;cases h))<;>(first|refine kD 18 71 rfl ?_|refine xD 18 71 rfl (ζh 1 ζ5) ?_)<;>(first|refine kD 19 72 rfl ?_|(refine yD 19 72 rfl (ζq 1 ζp) fun v72 h=>?_;cases h))<;>(first|refine kD 20 73 rfl ?_|refine xD 20 73 rfl ZcX ?_)<;>refine xE 21 74 rfl ζJ ?_<;>refine xE 22 75 rfl ζb ?_<;>(first|refine kD 23 76 rfl ?_|(refine bDd 75 (fun hb75=>?_) (fun hb75=>?_)<;>(first|refine kD 23 76 rfl ?_|refine xD 23 76 rfl (ζh 4 Zbq) ?_)))<;>(first|refine kD 24 77 rfl ?_|(refine yD 24 77 rfl (ζq 4 ζp) fun v77 h=>?_;cases h))<;>(first|refine kD 25 78 rfl ?_|refine xD 25 78 rfl ζK ?_)<;>refine xE 26 79 rfl ζJ ?_<;>refine xE 27 80 rfl ζb ?_<;>(first|refine kD 28 81 rfl ?_|(refine bDd 80 (fun hb80=>?_) (fun hb80=>?_)<;>(first|refine kD 28 81 rfl ?_|refine xD 28 81 rfl (ζh 4 Zbq) ?_)))<;>(first|refine kD 29 82 rfl ?_|(refine yD 29 82 rfl (ζq 4 ζp) fun v82 h=>?_;cases h))<;>(first|refine kD 30 83 rfl ?_|refine xD 30 83 rfl (ζh 1 Zao) ?_)<;>(first|refine kD 31 84 rfl ?_|(refine yD 31 84 rfl (ζq 1 ζp) fun v84 h=>?_;cases h))<;>(first|refine kD 32 85 rfl ?_|refine xD 32 85 rfl ZcX ?_)<;>refine xE 33 86 rfl ζJ ?_<;>refine xE 34 87 rfl ζb ?_<;>(first|refine kD 35 88 rfl ?_|(refine bDd 87 (fun hb87=>?_) (fun hb87=>?_)<;>(first|refine kD 35 88 rfl ?_|refine xD 35 88 rfl ζb ?_)))<;>(first|refine kD 36 89 rfl ?_|refine xD 36 89 rfl ZaF ?_)<;>(first|refine kD 37 90 rfl ?_|refine xD 37 90 rfl ζb ?_)<;>(first|refine kD 38 91 rfl ?_|(refine bDd 90 (fun hb90=>?_) (fun hb90=>?_)<;>(first|refine kD 38 91 rfl ?_|refine xD 38 91 rfl (ζh 1 ζE) ?_)))<;>(first|refine kD 39 92 rfl ?_|(refine yD 39 92 rfl (ζq 1 ζO) fun v92 h=>?_;cases h))<;>(first|refine kD 40 93 rfl ?_|refine xD 40 93 rfl ζb ?_)<;>(first|refine kD 41 94 rfl ?_|refine xD 41 94 rfl ZeX ?_)<;>(first|refine kD 42 95 rfl ?_|refine xD 42 95 rfl (Zk1 ζR) ?_)<;>(first|refine kD 43 96 rfl ?_|(refine yD 43 96 rfl (ZaQ ζ8) fun v96 h=>?_;cases h))<;>(first|refine kD 44 97 rfl ?_|(refine yD 44 97 rfl (ζk 4 ζ8) fun v97 h=>?_;cases h))<;>(refine ζi 45 kR ?_)<;>(refine ζf rfl fun w9 M9 N9 DQ back=>?_)<;>(first|refine kL 98 ?_|(refine cS 98 (cA Tryz.call153 ((Zj6 y x).af)) fun v98 h=>?_;cases h))<;>refine ζe (back _ (nrm ?_))<;>(first|refine kD 46 99 rfl ?_|refine xD 46 99 rfl ZcX ?_)<;>(first|refine kD 47 100 rfl ?_|refine xD 47 100 rfl ζJ ?_)<;>refine xE 48 101 rfl ζJ ?_<;>refine Zam kR (nav ?_)<;>try dsimp only)<;>(
         (first|refine cCd ?_ ?_|refine cC ?_ ?_)<;>intro hb101
         · first
           |exact bN hb101
           | (
            refine nav ?_;(refine ζa ?_<;>refine xL 2 ζc ?_<;>refine ζd ?_)
            refine ζx (Tryz.results107) rfl ?_
            first
             |rw [Zlt (.inr (.inr (.inr (.inr (.inr (.inr (.inr (.inl (ZpQ hx (show Zlq a x=false by unfold Zlq;simp only [Bool.and_eq_false_iff,decide_eq_false_iff_not];omega))))))))))]
             |rw [Zlt (.inr (.inr (.inr (.inr (.inr (.inr (.inr (.inr (ZjZ (by omega) hy hx (show ZdK y x=false from decide_eq_false (by omega)))))))))))])
         · first
           |exact bN hb101
           | (
            refine nav ?_;(refine ζa ?_<;>refine xL 102 ζG (xL 48 ζb ?_)<;>refine ζd ?_)
            refine ζj (
             ⟨k +1,by omega,fun j z hj hz=>by
              by_cases e:j=k
              · subst e;rw [hx] at hz;cases hz;refine ⟨by unfold Zlq;simp only [Xg,decide_eq_true_eq];omega,fun y' h1 hy'=>?_⟩;rw [hy] at hy';cases hy'
                first|omega|exact decide_eq_true (by omega)
              · exact hp j z (by omega) hz⟩
             ) (by dsimp only;omega) ⟨rfl,rfl,rfl,rfl,rfl,trivial⟩ ⟨rfl,trivial⟩)))
     · first
       |exact bN hb49
       | (
        refine nav ?_;(refine ζa ?_<;>refine xL 2 ζc ?_<;>refine ζd ?_)
        refine ζx (Tryz.results107) rfl ?_;have h7:a.moves.all (Zlq a)=true:=Zz9 fun j x hj=>(hp j x (by have:=ζg hj;omega) hj).1;have h8:Zbz ZdK a.moves=true:=ZkV fun j x y h1 hy hx=>(hp j x (by have:=ζg hx;omega) hx).2 y h1 hy;(have h1:Zga a.n a.start=true:=by simpa using hb37);(have h2:Zga a.n a.fin=true:=by simpa using hb44);unfold Zaa;rw [h1,h2,h7,h8,decide_eq_true (by omega:0≤a.n),decide_eq_true (by omega:a.n≤2000),decide_eq_true (by omega:0≤a.syms),decide_eq_true (by omega:a.syms≤40),decide_eq_true (by omega:a.moves.length≤20000)];rfl)))
end Go.Proofs.YtgfabnhpllkebaaGreatDoor
