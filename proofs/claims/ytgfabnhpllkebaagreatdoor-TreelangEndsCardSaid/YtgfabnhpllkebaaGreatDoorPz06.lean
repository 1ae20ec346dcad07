/-
  Walks of functions and plain laws of the chapter, as the claim needs them.
-/
import Derived.Recover
import Derived.WalkKit
import Derived.ProofKit
import Derived.OpenShut
import Derived.ShutString
import Derived.ChangeOld
import Derived.Below
import Derived.Carry
import Derived.Deep.Slices
import Derived.Sort.EncStr
import Derived.RangeFuncNested
import Derived.RangeFuncBound
import Derived.RangeFuncCalls
import Derived.RangeFuncLeaves
import Derived.Shelf.Abstract
import Derived.Shelf.RegionOpen
import Derived.OwnWalkIn
import Derived.TacticsInMore
import Derived.LoopNIn
import Derived.LoopIn
import Derived.Test.YtgfabnhpllkebaaGreatDoorPz05
import Derived.Test.YtgfabnhpllkebaaGreatDoorPz02
import Derived.Test.YtgfabnhpllkebaaGreatDoorPz03
import Derived.Test.YtgfabnhpllkebaaGreatDoorMShelfU
import Derived.Test.YtgfabnhpllkebaaGreatDoorMShelfW
import Derived.Test.YtgfabnhpllkebaaGreatDoorPz04
import Derived.Test.YtgfabnhpllkebaaGreatDoorMShelfC
import Derived.Test.YtgfabnhpllkebaaGreatDoorPz01
namespace Go.Proofs.YtgfabnhpllkebaaGreatDoor
open Go.RowKit Go.Cb Go.En Tryz
set_option linter.all false
set_option maxRecDepth 100000
end Go.Proofs.YtgfabnhpllkebaaGreatDoor
namespace Go.En
open Go.RowKit Go.Cb
set_option linter.all false
section
variable {P:Program} {c:Ctx} {ops:Array Oper} {Q:Exit→Act→World→Prop} {rest:List Oper} {sL hP:List (Nat×Ent)} {o:Oper}
end
section
variable {P:Program}
end
section
variable {P:Program} {c:Ctx} {sL hP:List (Nat×Ent)}
end
section
variable {P:Program} {c:Ctx} {sL hP:List (Nat×Ent)}
end
section
variable {P:Program} {c:Ctx} {ops:Array Oper} {Q:Exit→Act→World→Prop} {rest:List Oper} {sL hP:List (Nat×Ent)} {o:Oper}
end
end Go.En
namespace Go.Proofs.YtgfabnhpllkebaaGreatDoor
open Go.RowKit Go.Cb Go.En Tryz
set_option linter.all false
set_option maxRecDepth 100000
def z3:List PV:=[.val (.int .i64 0), .val (.string ByteArray.empty), .val (.slice none 0 0)]
end Go.Proofs.YtgfabnhpllkebaaGreatDoor
namespace Go.En
open Go.RowKit Go.Cb Go.WideShapes Go.ChangeShapes Go.ChangeAt Go.Deep
set_option linter.all false
theorem Tv {H:Type} (P:Program) (e:TypeId) {d:DataW H} {n:Nat}:∀{l:List (DataW H)},d∈l→n∈d.weights P e→n∈DataW.weightsAll P e l
 | x::l,h,hn=>by
   rw [DataW.weightsAll,Xh];rcases Xq.1 h with rfl|h
   · exact .inl hn
   · exact .inr (Tv P e h hn)
theorem W8 {H:Type} (P:Program) {d:DataW H} {t:TypeId} {n:Nat}:∀{ts:List TypeId} {l:List (DataW H)} (i:Nat),ts[i]? =some t→l[i]? =some d→n∈d.weights P t→n∈DataW.weightsEach P ts l
 | t'::ts,x::l,0,h1,h2,hn=>by
   simp at h1 h2;subst h1 h2;rw [DataW.weightsEach,Xh];exact .inl hn
 | t'::ts,x::l,i+1,h1,h2,hn=>by
   rw [DataW.weightsEach,Xh];exact .inr (W8 P i (by simpa using h1) (by simpa using h2) hn)
structure Dec (P:Program) (t:TypeId) (k:Nat) {α:Type} (enc:α→List PV) (fit:α→Prop):Prop where
 size:P.cellsOf t=k
 len:∀a,(enc a).length=k
 dec:∀{H:Type} (e:TypeId×Value→H) (w:World) (spare:Nat→Bool) (held:Bool) (fuel:Nat) (cs:List Value) (x:DataW H×List MemPlace),DataW.trod e P w 0 spare held fuel t cs=some x→(∀n∈x.1.weights P t,n≤reachBytes)→
  ∃a,fit a∧cs.length=k∧∀(i:Nat) (v:Value) (p:PV),cs[i]? =some v→(enc a)[i]? =some p→Shr (fun _=>False) w v p
section
variable {P:Program} {t:TypeId}
theorem Dm {v u:Value} {p q:PV} {w:World} (h:Shr (fun _=>False) w v p) (i:Nat) (h1:[v][i]? =some u) (h2:[p][i]? =some q):Shr (fun _=>False) w u q:=by
 cases i with
 |zero=>simp at h1 h2;subst h1 h2;exact h
 |succ i=>simp at h1
theorem ZjA (ht:P.underlying t=some (.int .i64)) (hs:P.cellsOf t=1):Dec P t 1 (fun n:Int=>[pInt n]) (fun n=> -9223372036854775808≤n∧n≤9223372036854775807) where
 size:=hs
 len:=fun _=>rfl
 dec:=fun e w spare held fuel cs x h=>by
  intro hwt;obtain ⟨n,rfl,_,hw⟩:=DataW.trod_int ht h;refine ⟨n,?_,rfl,fun i v p h1 h2=>Dm (.val _) i h1 h2⟩;simpa [Lit.wf,IntKind.min,IntKind.max,IntKind.signed,IntKind.bits] using hw
theorem ZjB (ht:P.underlying t=some .string) (hs:P.cellsOf t=1):Dec P t 1 (fun s:ByteArray=>[Z' s]) (fun s=>s.size≤140737488355328) where
 size:=hs
 len:=fun _=>rfl
 dec:=fun e w spare held fuel cs x h=>by
  intro hwt;obtain ⟨s,rfl,rfl,hw⟩:=DataW.trod_string ht h;have hsz:s.size≤reachBytes:=hwt s.size (by show s.size∈DataW.weights P t (.lit (.string s.data.toList));rw [DataW.weights];exact Xl.2 (by rw [Vm];rfl));exact ⟨s,by unfold reachBytes at hsz;omega,rfl,fun i v p h1 h2=>Dm (.val _) i h1 h2⟩
section
variable {H:Type} {en:TypeId×Value→H} {w:World} {spare:Nat→Bool} {held:Bool} {r:Reach} {base:Nat} {v:Value} {d:DataW H} {ps:List MemPlace}
theorem Zni {α:Type} {k:Nat} {enc:α→List PV} {fit:α→Prop} (D:Dec P t k enc fit) (hT:ZmD P t=true) (hv:Value.okWide P w r base t v) (h:DataW.Trod en P w 0 spare held t v d ps) (hwt:∀n∈d.weights P t,n≤reachBytes):∃a,fit a∧Shr (fun _=>False) w v (.agg (enc a)):=by
 obtain ⟨fuel,hf⟩:=h
 have:∃fs,P.underlying t=some (.struct fs):=by
  unfold ZmD at hT;split at hT
  · rename_i fs hfs;exact ⟨fs,hfs⟩
  · cases hT
 obtain ⟨fs,hfs⟩:=this
 obtain ⟨cs,rfl,hsz⟩:=okWide_struct hfs hv
 obtain ⟨a,h1,h2,h3⟩:=D.dec en w spare held fuel _ _ hf hwt
 refine ⟨a,h1,?_⟩
 have:=Shr.agg (M:=fun _=>False) (w:=w) cs.toList (enc a) (by rw [D.len a];exact h2) h3
 simpa using this
end
theorem Rf {H:Type} {enc:TypeId×Value→H} {P:Program} (hl:laidOutB P=true) {W W':World} (hb:Below W.heap.size W W'):∀{ts:List TypeId} {vs:List Value} {ds:List (DataW H)} {ps:List MemPlace},(ts.all fun t=>P.readableRec t&&decide (t<P.types.size))=true→
 DataW.TrodAll enc P W 0 (fun _=>true) true ts vs ds ps→DataW.TrodAll enc P W' 0 (fun b=>decide (b<W.heap.size)) true ts vs ds ps
 |[],[],[],ps,_,h=>h
 | t::ts,v::vs,d::ds,ps,ht,⟨p,q,h1,h2,h3⟩=>by
   rw [XD,Xe,Xe] at ht;refine ⟨p,q,Below.trod hl ht.1.1 (UV ht.1.2) h1 hb ?_,Rf hl hb ht.2 h2,h3⟩;obtain ⟨m,hm⟩:=h1;exact DataW.trod_lt m _ _ _ hm
theorem AF.law {P:Program} {f:FuncId} {ps:List PV} (hA:AF P f ps (· = .val (.bool true))) {W:World} {vs:List Value} (hl:vs.length=ps.length) (hv:∀(i:Nat) (v:Value) (p:PV),vs[i]? =some v→ps[i]? =some p→Shr (fun _=>False) W v p) (hT:TabW W (fun _=>False) (fun _=>False)) (hE:ErrW W (fun _=>False) (fun _=>False):=by intro g hg;cases hg):
 Calls P f vs.toArray W fun e w'=>e= .returned (.bool true)∧Below W.heap.size W w':=
 (hA (fun _=>False) W vs ⟨fun _ h=>h.elim,fun _=>hT,fun _=>hE⟩ hl hv).mono fun e w' ⟨v,p,F,h1,h2,h3,h4,_⟩=>by
   subst h2;have:=(h4.sh rfl).vOf;subst this;exact ⟨h1,h3⟩
end
def C0 (P:Program) (t:TypeId) (k:Nat) {α:Type} (enc:α→List PV) (fit:α→Prop) (fuel:Nat):Prop:=
 ∀ {H:Type} (e:TypeId×Value→H) (w:World) (spare:Nat→Bool) (held:Bool) (cs:List Value) (x:DataW H×List MemPlace),DataW.trod e P w 0 spare held fuel t cs=some x→(∀n∈x.1.weights P t,n≤reachBytes)→
  ∃a,fit a∧cs.length=k∧∀(i:Nat) (v:Value) (p:PV),cs[i]? =some v→(enc a)[i]? =some p→Shr (fun _=>False) w v p
section
variable {P:Program} {t:TypeId}
theorem Dec.toF {α:Type} {k:Nat} {enc:α→List PV} {fit:α→Prop} (D:Dec P t k enc fit) (fuel:Nat):C0 P t k enc fit fuel:=fun e w spare held cs x h hw=>D.dec e w spare held fuel cs x h hw
theorem Sy {H:Type} {α:Type} {e k o fuel:Nat} {enc:α→List PV} {fit:α→Prop} (hsz:P.cellsOf e=k) (hlen:∀a,(enc a).length=k) (D:C0 P e k enc fit fuel) {en:TypeId×Value→H} {w:World} {spare:Nat→Bool} {held:Bool} {cs:List Value} {y:DataW H×List MemPlace}
 (h:DataW.trod en P w 0 spare held fuel e ((cs.drop o).take (P.cellsOf e))=some y) (hwt:∀n∈y.1.weights P e,n≤reachBytes):∃a,fit a∧∀(i:Nat) (v:Value) (p:PV),cs[o+i]? =some v→(enc a)[i]? =some p→Shr (fun _=>False) w v p:=by
 obtain ⟨a,h1,_,h3⟩:=D en w spare held _ y h hwt
 refine ⟨a,h1,fun i v p hv hp=>h3 i v p ?_ hp⟩
 have hi:i<k:=by rw [←hlen a];exact Zf hp
 rw [hsz,X1 hi,Vo];exact hv
theorem Zct {α:Type} {e k fuel:Nat} {enc:α→List PV} {fit:α→Prop} (ht:P.underlying t=some (.slice e)) (hk:0<k) (hby:0<P.bytesOf e) (hsz:P.cellsOf e=k) (hln:∀a,(enc a).length=k) (D:∀n,n<fuel→C0 P e k enc fit n):
 C0 P t 1 (fun l:List α=>[PV.sl l.length (l.flatMap enc)]) (fun l=>l.length≤140737488355328∧∀x∈l,fit x) fuel:=fun en w spare held cs x h hwt=>by
 rcases DataW.trod_slice ht h with ⟨rfl,_⟩|⟨a,len,cap,elems,more,n,rfl,rfl,rfl,_,hl,hm,hel,hx,_,_⟩
 · exact ⟨[],⟨sM,sM⟩,rfl,fun i v p h1 h2=>Dm (.emp none 0 (by unfold maxLen;omega) (fun _=>rfl)) i h1 h2⟩
 · rcases Vb len with h0|h0
   · subst h0;exact ⟨[],⟨sM,sM⟩,rfl,fun i v p h1 h2=>Dm (.emp (some a) cap hm (fun h=>by cases h)) i h1 h2⟩
   simp only [DataW.weights,ht] at hwt;have hlen:len≤reachBytes:=by
    have:=hwt _ (Xi ..);simp only [Xd,hel] at this;exact X6 (X6 (Ue len _) (Nat.le_mul_of_pos_right _ hby)) this
   have hDn:C0 P e k enc fit n:=D n (Nat.lt_succ_self n);have hone:∀i,i<len→∃(y:α×(Nat→Value)),fit y.1∧∀(j:Nat) (p:PV),(enc y.1)[j]? =some p→w.cell? ((a.add (i*k)).add j)=some (y.2 j)∧Shr (fun _=>False) w (y.2 j) p:=fun i hi=>by
    have h1:=hx i hi;obtain ⟨z,hz⟩:=Yi (show i<elems.length by omega);rw [hz] at h1;obtain ⟨cs',h2,h3⟩:=XU.1 h1;rw [hsz] at h2;obtain ⟨_,hlen',hcell⟩:=World.cells?_some h2;obtain ⟨y,hy,_,hS⟩:=hDn en w spare held cs' _ h3 (fun m hm=>hwt m (Xn _ (Xh.2 (.inl (Tv P e (Xg.2 ⟨z,Xc hz,rfl⟩) hm)))));refine ⟨(y,fun j=>(cs'[j]?).getD undef),hy,fun j p hp=>?_⟩;(have hj:j<k:=by rw [←hln y];exact Zf hp);obtain ⟨u,hu⟩:=Yi (show j<cs'.length by omega);have:=hcell j hj;simp only [hu,V9];exact ⟨by rw [this,hu],hS j u p hu hp⟩
   obtain ⟨y0,hy0⟩:=hone 0 h0;have key:∀i:Nat,∃(y:α×(Nat→Value)),i<len→fit y.1∧∀(j:Nat) (p:PV),(enc y.1)[j]? =some p→w.cell? ((a.add (i*k)).add j)=some (y.2 j)∧Shr (fun _=>False) w (y.2 j) p:=fun i=>by
    by_cases hi:i<len
    · obtain ⟨y,hy⟩:=hone i hi;exact ⟨y,fun _=>hy⟩
    · exact ⟨y0,fun h=>UU h hi⟩
   obtain ⟨Y,hY⟩:=Classical.skolem.1 key;have hspot:∃b off,a=⟨b,off,none⟩:=by
    obtain ⟨hf,hc⟩:=hY 0 h0;obtain ⟨p,hp⟩:=Yi (show 0<(enc (Y 0).1).length by rw [hln];exact hk);have:=(hc 0 p hp).1;obtain ⟨b,off,spot⟩:=a;(have hspot:spot=none:=by simpa [Addr.add] using World.cell?_spot this);subst hspot;exact ⟨b,off,rfl⟩
   obtain ⟨b,off,rfl⟩:=hspot;have hflen:((List.range len).map fun i=>(Y i).1).length=len:=sM;refine ⟨(List.range len).map fun i=>(Y i).1,⟨by rw [hflen];unfold reachBytes at hlen;omega,fun x hx=>?_⟩,rfl,fun i v p h1 h2=>Dm ?_ i h1 h2⟩
   · obtain ⟨i,hi,rfl⟩:=Xg.1 hx;exact (hY i (by simpa using hi)).1
   · rw [hflen];have hat:∀(c:Nat) (p:PV),(((List.range len).map fun i=>(Y i).1).flatMap enc)[c]? =some p→c / k<len∧(enc (Y (c / k)).1)[c % k]? =some p:=fun c p hp=>by
      (have hc:c<len*k:=by have:=Zf hp;rw [flat_len hln,hflen] at this;exact this);have hq:c / k<len:=Nat.div_lt_of_lt_mul (by rw [VZ];exact hc);(have hget:((List.range len).map fun i=>(Y i).1)[c / k]? =some (Y (c / k)).1:=by simp [hq]);have:=LI hln hget (Nat.mod_lt c hk);rw [VZ,Nat.div_add_mod] at this;exact ⟨hq,by rw [←this];exact hp⟩
     refine .sl b off len cap _ (fun c=>(Y (c / k)).2 (c % k)) hl hm (fun c hc=>⟨?_,fun h=>h⟩) (fun c p hp=>?_)
     · obtain ⟨p,hp⟩:=Yi hc;obtain ⟨hq,hp'⟩:=hat c p hp;have:=((hY (c / k) hq).2 (c % k) p hp').1;rw [Y4,Y4,XV,VZ,Nat.div_add_mod] at this;exact this
     · obtain ⟨hq,hp'⟩:=hat c p hp;exact ((hY (c / k) hq).2 (c % k) p hp').2
end
end Go.En
namespace Go.Proofs.YtgfabnhpllkebaaGreatDoor
open Go.RowKit Go.Cb Go.En Go.ChangeShapes Go.WideShapes Go.ChangeAt Tryz
set_option linter.all false
set_option maxRecDepth 100000
theorem ZmV:Dec prog 3 1 (fun n:Int=>[pInt n]) (fun n=> -9223372036854775808≤n∧n≤9223372036854775807):=ZjA underlying3 kR
theorem ZmW:Dec prog 9 1 (fun s:ByteArray=>[Z' s]) (fun s=>s.size≤140737488355328):=ZjB underlying9 kR
theorem ZeU (fuel:Nat):C0 prog 24 3 cN FitT fuel:=by
 induction fuel using Nat.strongRecOn with
 | _ fuel ih=>
   intro H e w spare held cs x h hwt;obtain ⟨xs,n,rfl,rfl,hlen,hxl,hf⟩:=DataW.trod_struct underlying24 h;simp only [DataW.weights,underlying24] at hwt;match xs,hxl with
   |[y0,y1,y2],_=>
   have g0:DataW.trod e prog w 0 spare held n 3 ((cs.drop 0).take (prog.cellsOf 3))=some y0:=hf 0 _ rfl;have g1:DataW.trod e prog w 0 spare held n 9 ((cs.drop 1).take (prog.cellsOf 9))=some y1:=hf 1 _ rfl;have g2:DataW.trod e prog w 0 spare held n 22 ((cs.drop 2).take (prog.cellsOf 22))=some y2:=hf 2 _ rfl;have hD0:C0 prog 3 1 (fun n:Int=>[pInt n]) (fun n=> -9223372036854775808≤n∧n≤9223372036854775807) n:=Dec.toF ZmV n;have hD1:C0 prog 9 1 (fun s:ByteArray=>[Z' s]) (fun s=>s.size≤140737488355328) n:=Dec.toF ZmW n;have hsl:C0 prog 22 1 (fun l:List Nd=>[PV.sl l.length (l.flatMap cN)]) (fun l=>l.length≤140737488355328∧∀x∈l,FitT x) n:=
    Zct underlying22 dC (Xa kR) kR CV (fun m hm=>ih m oM)
   obtain ⟨a,ha,A⟩:=Sy (k:=1) (enc:=fun n:Int=>[pInt n]) (fit:=fun n:Int=> -9223372036854775808≤n∧n≤9223372036854775807) kR (fun _=>rfl) hD0 g0 (fun n hn=>hwt n (W8 prog 0 rfl rfl hn));obtain ⟨b,hb,B⟩:=Sy (k:=1) (enc:=fun s:ByteArray=>[Z' s]) (fit:=fun s:ByteArray=>s.size≤140737488355328) kR (fun _=>rfl) hD1 g1 (fun n hn=>hwt n (W8 prog 1 rfl rfl hn));obtain ⟨l,hl,C⟩:=Sy (k:=1) (enc:=fun l:List Nd=>[PV.sl l.length (l.flatMap cN)]) (fit:=fun l:List Nd=>l.length≤140737488355328∧∀x∈l,FitT x) kR (fun _=>rfl) hsl g2 (fun n hn=>hwt n (W8 prog 2 rfl rfl hn));refine ⟨.mk a b l, .mk _ hl.1 hb ha.1 ha.2 hl.2,by rw [hlen];kernel_rfl,fun i v p hv hp=>?_⟩;match i with
   |0=>exact A 0 v p hv (by simpa [cN,Nd.op] using hp)
   |1=>exact B 0 v p hv (by simpa [cN,Nd.act] using hp)
   |2=>exact C 0 v p hv (by rw [←hp];show some _=some _;unfold Wb;rw [S7];rfl)
   |i+3=>simp [cN] at hp
theorem ZmX:Dec prog 24 3 cN FitT where
 size:=by kernel_rfl
 len:=CV
 dec:=fun e w spare held fuel cs x h hw=>ZeU fuel e w spare held cs x h hw
open Go.RowKit Go.Cb Go.En
mutual
def Y6:Nd→List ByteArray
 | .mk o a l=>if o=1 then a::Gj l else Gj l
def Gj:List Nd→List ByteArray
 |[]=>[]
 |x::l=>Y6 x++Gj l
end
theorem Rh {l:List Nd} {s:ByteArray}:s∈Gj l↔∃x∈l,s∈Y6 x:=by
 induction l with
 |nil=>simp [Gj]
 |cons x l ih=>rw [Gj,Xh,ih];simp
end Go.Proofs.YtgfabnhpllkebaaGreatDoor
namespace Go.En
open Go.RowKit Go.Cb
set_option linter.all false
section
variable {sL hP:List (Nat×Ent)}
end
open Go.RowKit Go.Cb Go.Proofs Go.Sort Go.ChangeShapes Go.WideShapes Go.ChangeAt
def ZgR (P:Program) (fs:Nat):Prop:=∀(blk cap:Nat) (zs:List (List UInt8)) (w:World),Go.Sort.Holds encStr w blk 0 zs.toArray→blk<w.heap.size→zs.length<4611686018427387904→
 Calls P fs #[.slice (some ⟨blk,0,none⟩) zs.length cap] w fun e w'=>e= .returned (.tuple #[])∧∃n os,w'=grow (putRow encStr (Go.Sort.ahead w n) blk 0 (zs.mergeSort fun x y=>decide (x≤y)).toArray) os
def Zcu (s:List UInt8):PV:= .val (encStr s)
section
variable {P:Program} {c:Ctx} {ops:Array Oper} {Q:Exit→Act→World→Prop} {rest:List Oper} {sL hP:List (Nat×Ent)} {o:Oper}
theorem ZgS {fs e d:Nat} {zs:List (List UInt8)} {h:Value} {q:PV} {x:Operand} {ats:Array TypeId} (l:Nat) (hS:ZgR P fs) (hc:∀args w,(callFunc fs args).run P w= .ok (.enter fs args) w)
 (kk:aL P c ops Q rest ⟨put d (.tuple #[], .val (.tuple #[])) sL,put l (h, .own e 1 zs.length ((zs.mergeSort fun x y=>decide (x≤y)).map Zcu)) hP⟩)
 (hn:0<zs.length) (hn2:zs.length<4611686018427387904:=by omega) (hw:ZT ops sL o=some true:=by exact rfl) (hd:o.dst=some d:=by exact rfl) (hdn:d<c.nt:=by exact Xa rfl) (ho:o.op= .call {callee:= .value (.func fs),args:= #[x],argTypes:=ats}:=by exact rfl) (hx:ev sL x=some (h,q):=by exact rfl) (hl:lk hP l=some (h, .own e 1 zs.length (zs.map Zcu)):=by exact rfl):aL P c ops Q (o::rest) (⟨sL,hP⟩:St):=
 Yy hw fun a w F H=>by
  have hxv:=(H.rd.ev hx).1;have hTr:=H.tr l _ _ hl;obtain ⟨xs,Fs,hrow,hlen,hT,hdj,hb,hF⟩:=hTr.row;obtain ⟨blk,cap,hh,hc1,hc2,hc3⟩:=K3 hTr hn;have hblkF:F l blk:=(hF blk).2 (.inl (by rw [hh];rfl));have hxs:∀(j:Nat) (v:Value),xs[j]? =some v→∃z,zs[j]? =some z∧v=encStr z:=fun j v hv=>by
   obtain ⟨p,hp⟩:=Yh hv hlen.symm;have h1:=hp;rw [Xm,XA] at h1;obtain ⟨z,hz,rfl⟩:=h1;exact ⟨z,hz,((hT j v _ hv hp).sh rfl).vOf⟩
  have hHold:Go.Sort.Holds encStr w blk 0 zs.toArray:=fun j hj=>by
   simp only [X8] at hj;have hrow':=hrow;rw [hh] at hrow';obtain ⟨v,hv⟩:=Yi (show j<xs.length by rw [←hlen,Xd];exact hj);obtain ⟨z,hz,rfl⟩:=hxs j v hv;refine ⟨?_,by rw [Xv];exact hrow'.frozenAt j⟩;rw [Xv,Wq hrow' hv];have:zs.toArray[j]! =z:=by
    have hz':=(XM.1 hz).2;simp [hj,hz']
   rw [this]
  have hcall:=hS blk cap zs w hHold hc3 hn2;unfold Oper.wp;have hrun:(execOp a.eval o).run P w= .ok (.enter fs #[h]) w:=by
   have hev:a.eval (.func fs)= .func (.func fs) #[] #[]:=rfl;simp [execOp,ho,resolve,Deferred.ofValue,hev,invoke,hxv,hc]
  rw [hrun,Oper.upon_enter,hh];refine hcall.mono fun e' w' ⟨he',m,os,hw'⟩=>?_;subst he';have hsl:(zs.mergeSort fun x y=>decide (x≤y)).length=zs.length:=UA _;generalize hsd:(zs.mergeSort fun x y=>decide (x≤y))=sd at hsl hw' kk;have hch0:Chg (fun b=>b=blk) w w':=by
   rw [hw'];refine ⟨rfl,rfl,rfl,?_,fun i hi hne=>?_⟩
   · simp [grow,putRow,mapBlock,Go.Sort.ahead]
   · have:(grow (putRow encStr (Go.Sort.ahead w m) blk 0 sd.toArray) os).heap=(w.heap.modify blk (onCells (putCells encStr 0 sd.toArray)))++os:=rfl;rw [this,Vh (by simpa using hi),VG,US (fun e=>hne e.symm)]
  rw [hd];refine kk _ _ ⟨fun l'=>if l'=l then (fun b=>b=blk) else F l',?_⟩;refine H.change (fun l'=>l'=l) hdn (hch0.wid fun b hb'=> .inl ⟨l,_,rfl,hl,by rw [hb'];exact hblkF⟩) (fun l' z hne hz=>?_) (fun l' z b hT' hz hb'=>?_) (fun hmm l' u p hT' hz=>?_) (fun l1 l2 _ _ _ h1 h2 hne=>UU (h1.trans h2.symm) hne) (fun _=> .val _) (fun _=>by rw [hw'];exact Ue _ _)
  · rcases Ya hz with ⟨e1,_⟩|⟨_,e1⟩
    · exact UU e1.symm hne
    · exact ⟨e1,by simp [hne]⟩
  · subst hT';simp only [if_true] at hb';exact .inl ⟨l',_,rfl,hl,by rw [hb'];exact hblkF⟩
  · subst hT';rw [ZW] at hz
    cases hz;simp only [if_true];rcases hrow.2 with ⟨e1,_⟩|⟨g',cap',cur,e1,_,e3,e4,e5,e6,e7⟩
    · rw [hh] at e1;cases e1
    · rw [hh] at e1
      cases e1;have hlt:=Yu e3;refine .own (sd.map encStr) (fun _ _=>False) ⟨by rw [Xd,hsl,Xw], .inr ⟨blk,cap,putCells encStr 0 sd.toArray cur,hh,Xf _,?_,e4,e5,by simp [putCells];omega,?_⟩⟩ sM (fun t v p hv hp=>?_) (fun _ _ _ _ _ _ h=>h.elim) (fun _ _ _ h=>h.elim) (fun b=>by rw [hh];simp [Value.ownBlock,eq_comm])
      · rw [hw'];have:(grow (putRow encStr (Go.Sort.ahead w m) blk 0 sd.toArray) os).heap=(w.heap.modify blk (onCells (putCells encStr 0 sd.toArray)))++os:=rfl;rw [this,Vh (by simpa using hlt),VG,UT rfl,e3];rfl
      · have:=R3 encStr sd.toArray cur (by simp only [X8];rw [hsl,e6];omega);simp only [X8] at this;rw [Xw,←hsl];exact this
      · rw [Xm,XA] at hv hp;obtain ⟨z,hz,rfl⟩:=hv;obtain ⟨z',hz',rfl⟩:=hp;rw [hz] at hz';cases hz';exact .shr (.val _) (fun _ h=>h)
theorem ZjC {fs e d:Nat} {zs:List (List UInt8)} {h:Value} {q:PV} {x:Operand} {ats:Array TypeId} (l:Nat) (hS:ZgR P fs) (hS0:Dh P fs) (hc:∀args w,(callFunc fs args).run P w= .ok (.enter fs args) w)
 (kk:aL P c ops Q rest ⟨put d (.tuple #[], .val (.tuple #[])) sL,put l (h, .own e 1 zs.length ((zs.mergeSort fun x y=>decide (x≤y)).map Zcu)) hP⟩)
 (hn2:zs.length<4611686018427387904:=by omega) (hw:ZT ops sL o=some true:=by exact rfl) (hd:o.dst=some d:=by exact rfl) (hdn:d<c.nt:=by exact Xa rfl) (ho:o.op= .call {callee:= .value (.func fs),args:= #[x],argTypes:=ats}:=by exact rfl) (hx:ev sL x=some (h,q):=by exact rfl) (hl:lk hP l=some (h, .own e 1 zs.length (zs.map Zcu)):=by exact rfl):aL P c ops Q (o::rest) (⟨sL,hP⟩:St):=by
 rcases Vb zs.length with h0|h0
 · have hz:zs=[]:=XO h0;subst hz;refine Di l hS0 hc ?_ hw hd hdn ho hx hl;exact Zr (fun c a w ⟨F,H⟩=>⟨(),F,H.less (fun _ _ h=>h) fun t x hx=>by
    rcases Ya hx with ⟨rfl,e1⟩|⟨_,e1⟩
    · rw [←e1];simpa using hl
    · exact e1⟩) (fun _:Unit=>kk)
 · exact ZgS l hS hc kk h0 hn2 hw hd hdn ho hx hl
end
section
variable {P:Program} {c:Ctx} {ops:Array Oper} {Q:Exit→Act→World→Prop} {rest:List Oper} {st:St} {sL hP:List (Nat×Ent)} {o:Oper} {Z:Nat→Bool} {K:List Nat} {fuel:Nat} {listed:Array Bool}
end
end Go.En
namespace Go.Proofs.YtgfabnhpllkebaaGreatDoor
open Go.RowKit Go.Cb Go.En Tryz
set_option linter.all false
open Classical in
noncomputable def setK (ks:List ByteArray) (s:ByteArray):List ByteArray:=if s∈ks then ks else ks++[s]
noncomputable def colS (ks:List ByteArray) (l:List ByteArray):List ByteArray:=l.foldl setK ks
theorem Gk (ks:List ByteArray) (s x:ByteArray):x∈setK ks s↔x∈ks∨x=s:=by
 unfold setK
 split
 · rename_i h;exact ⟨.inl,fun h2=>h2.elim id fun e=>e▸h⟩
 · rw [Xh,Xl]
theorem OM {ks:List ByteArray} (h:ks.Nodup) (s:ByteArray):(setK ks s).Nodup:=by
 unfold setK
 split
 · exact h
 · rename_i hn;exact Vx.2 ⟨h,VI _ s,fun a ha b hb e=>hn (by rw [Xl] at hb;rw [←hb,←e];exact ha)⟩
theorem Gl:∀(l ks:List ByteArray) (x:ByteArray),x∈colS ks l↔x∈ks∨x∈l
 |[],ks,x=>by simp [colS]
 | s::l,ks,x=>by
   show x∈colS (setK ks s) l↔_;rw [Gl l,Gk,Xq,or_assoc]
theorem GK:∀(l ks:List ByteArray),ks.Nodup→(colS ks l).Nodup
 |[],_,h=>h
 |s::l,ks,h=>GK l (setK ks s) (OM h s)
theorem Tw (ks l m:List ByteArray):colS ks (l++m)=colS (colS ks l) m:=Vn
theorem Ri:∀(l ks:List ByteArray),(colS ks l).length≤ks.length+l.length
 |[],ks=>Xj _
 | s ::l,ks=>by
   show (colS (setK ks s) l).length≤_;have h1:=Ri l (setK ks s);have h2:(setK ks s).length≤ks.length+1:=by
    unfold setK;split
    · omega
    · rw [Xb];simp
   rw [Xk];omega
def Yf (ks:List ByteArray):List (ByteArray×Value):=ks.map fun s=>(s, .bool true)
theorem Tx (ks:List ByteArray) (s:ByteArray):K5 (skv (Yf ks)) (.string s) (.bool true)=skv (Yf (setK ks s)):=by
 rw [ζ4]
 congr 1
 unfold setK
 induction ks with
 |nil=>simp [Yf,O4]
 | cons x ks ih=>
   unfold Yf at ih ⊢;rw [Xp,O4];by_cases h:s=x
   · subst h;simp
   · simp only [h,if_false,Ne.symm h] at ih ⊢;by_cases h2:s∈ks
     · simp [h2,h] at ih ⊢;exact ih
     · simp [h2,h] at ih ⊢;exact ih
def toB (s:ByteArray):List UInt8:=s.data.toList
def ofB (l:List UInt8):ByteArray:=⟨l.toArray⟩
theorem ON (s:ByteArray):ofB (toB s)=s:=by cases s;simp [ofB,toB]
theorem ZdB (l:List UInt8):toB (ofB l)=l:=by simp [ofB,toB]
def K1 (ks:List ByteArray):List ByteArray:=((ks.map toB).mergeSort fun x y=>decide (x≤y)).map ofB
theorem ZgT (ks:List ByteArray):((ks.map toB).mergeSort fun x y=>decide (x≤y)).map Zcu=(K1 ks).map Z':=by
 unfold K1
 rw [XI];rfl
theorem ZjD (ks:List ByteArray):(ks.map toB).map Zcu=ks.map Z':=by
 rw [XI]
 refine VH fun s _=>?_
 show PV.val (.string (ofB (toB s)))=Z' s
 rw [ON]
theorem JK (ks:List ByteArray):(K1 ks).length=ks.length:=by unfold K1;simp
theorem Et {l m:List ByteArray} (h:l.Perm m):K1 l=K1 m:=by
 unfold K1
 congr 1
 have htr:∀a b c:List UInt8,decide (a≤b)=true→decide (b≤c)=true→decide (a≤c)=true:=fun a b c h1 h2=>by
  simp only [UP] at*;exact List.le_trans h1 h2
 have hto:∀a b:List UInt8,(decide (a≤b)||decide (b≤a))=true:=fun a b=>by
  simp only [X3,UP];exact List.le_total a b
 refine List.Perm.eq_of_pairwise (le:=fun x y=>decide (x≤y)=true) (fun a b _ _ h1 h2=>?_) (Uk htr hto _) (Uk htr hto _) (((Ul _ _).trans (h.map toB)).trans (Ul _ _).symm)
 simp only [UP] at h1 h2
 exact List.le_antisymm h1 h2
noncomputable def actR (t:Nd):List ByteArray×Int:=if Y3 t=true then (if (colS [] (Y6 t)).length≤40 then (K1 (colS [] (Y6 t)),0) else ([],5)) else ([],1)
theorem ZeV {l m:List ByteArray} (h:∀s,s∈l↔s∈m):(colS [] l).Perm (colS [] m):=
 (List.perm_ext_iff_of_nodup (GK l [] XN) (GK m [] XN)).2 fun s=>by rw [Gl,Gl,h]
theorem ZeW {t:Nd} (h:rightT t=true):t.act.size≤40:=by
 unfold rightT at h
 split at h
 · simp only [Xe] at h;have:=h.2;unfold KC at this;simp only [Xe,UP] at this;exact this.1.1.2
 · split at h
   · simp only [Xe,UP] at h;rw [h.2];exact Xf _
   · split at h
     · simp only [Xe,UP] at h;rw [h.2];exact Xf _
     · split at h
       · simp only [Xe,UP] at h;rw [h.2];exact Xf _
       · cases h
set_option maxRecDepth 100000
theorem Kn:AggT prog 24 3=true:=by kernel_rfl
theorem Eu:ElT prog 27 9 1 16 (.string ByteArray.empty):=⟨underlying27,by kernel_rfl,rfl,dC⟩
theorem Zap:FldT prog 24 0 0=true:=by kernel_rfl
theorem Zaq:FldT prog 24 1 1=true:=by kernel_rfl
theorem P1:FldT prog 24 2 2=true:=by kernel_rfl
theorem ZeX:MpT prog 76 9 4 .string (.bool false):=⟨underlying76,underlying9, .inl rfl,by show ZeroT _ _ _;unfold ZeroT;kernel_rfl⟩
theorem Ev:NoAgg prog 22=true:=by kernel_rfl
theorem ZgU:NoAgg prog 3=true:=by kernel_rfl
theorem ZgV:NoAgg prog 9=true:=by kernel_rfl
theorem TZ:SlT prog 22 24 3=true:=by kernel_rfl
theorem Ew:ZeroT prog 24 (.agg #[(.int .i64 0),(.string ByteArray.empty),(.slice none 0 0)]):=by unfold ZeroT;kernel_rfl
theorem ZeY:ZgR prog 75:=fun blk cap zs w hH hb hn=>Tryz.slices_Sort_string blk 0 cap zs w hH hb hn
theorem Zcv:Dh prog 75:=Tryz.slices_Sort_string_none
theorem T0 {l:List Nd} {k:Nat} {x:Nd} (h:l[k]? =some x):Gj (l.take (k+1))=Gj (l.take k)++Y6 x:=by
 have e:∀m:List Nd,Gj m=m.flatMap Y6:=fun m=>by
  induction m with
  |nil=>rfl
  |cons y m ih=>rw [Gj,ih,Xu]
 rw [e,e,ZE h,XR,V3]
set_option maxHeartbeats 4000000 in
theorem Zcw:∀(t:Nd),okT t=true→szT t≤1000000→∀(ks:List ByteArray) (m V:Value),AFh False prog 74 [(0,m, .val m),(1,V,pTr t)] [(1000,m, .omap (skv (Yf ks)))] (fun v q h=>h=[(1000,m, .omap (skv (Yf (colS ks (Y6 t)))))]):=Nd.ind fun o a l ih hok hs ks m V=>by
 have e0:pTr (.mk o a l)= .agg [pInt o,Z' a,Wb l]:=rfl
 rw [e0]
 obtain ⟨hr,hp⟩:=Wx.1 hok
 have hsz:=Zcr (.mk o a l)
 have hlz:=OL l
 simp only [Nd.l,Nd.op] at hp hsz
 obtain ⟨K,hK⟩:∃K,K=if o=1 then setK ks a else ks:=⟨_,rfl⟩
 have hres:colS ks (Y6 (.mk o a l))=colS K (Gj l):=by
  rw [hK,Y6];split<;>rfl
 rw [hres]
 refine AFh.of_body 23 func74 rfl ntmps74 (Xa rfl) rfl ?_
 intro w0 M0 N0
 refine Ze ?_
 (refine ZG 3 3 fun h3=>?_<;>refine Zg ?_)
 (refine xL 6 (Zd 3 Zap) ?_<;>(refine yL 7 (Zk 3 ZgU) fun v7 h=>?_;cases h)<;>refine xL 8 Z3 ?_<;>refine Zc ?_)
 refine cX ?_ ?_<;>intro hb8
 · first |exact bN hb8|(
 refine Ze ?_;(refine xL 9 Zb (xL 10 (Zd 3 Zaq) ?_)<;>(refine yL 11 (Zk 3 ZgV) fun v11 h=>?_;cases h)<;>(refine GU 1000 ZeX ?_;rw [Tx,show setK ks a=K by rw [hK,UT (by assumption)]])<;>refine Zg ?_)
 (refine xL 12 (Zd 3 P1) ?_<;>(refine yL 13 (Zk 3 Ev) fun v13 h=>?_;cases h)<;>refine xL 14 (ZR TZ) (xL 15 Zb ?_)<;>refine Zc ?_)
 refine ZD (ι:={q:Nat×List ByteArray//q.1≤l.length∧q.2=colS K (Gj (l.take q.1))}) (fun k=>⟨[(0,_,_),(13,_,_),(14,_,_),(15, .int .i64 k.1.1,pInt k.1.1)],[(1000,m, .omap (skv (Yf k.1.2)))]⟩) (fun k=>l.length-k.1.1) ⟨(0,K),Xf _,by rw [XQ];rfl⟩ (fun a w H=>H.weaken ⟨rfl,rfl,rfl,rfl,trivial⟩ ⟨rfl,trivial⟩) ?_;rintro ⟨⟨i,S⟩,hi,hS⟩;dsimp only;dsimp only at hi hS;refine Ze ?_;(refine xL 16 ZQ ?_<;>refine Zc ?_)
 refine cX ?_ ?_<;>intro hb16
 · first|exact bN hb16|(
 obtain ⟨x,hx⟩:=Zp (show i<l.length by omega);have e1:((K0 l).drop (i*3)).take 3=[pInt x.op,Z' x.act,Wb x.l]:=Wh hx;have e2:=W0 hx;have hxm:=Xc hx;have hxs:=KJ hxm;have hsn:=T0 hx;refine Ze ?_;(refine xL 17 (ZF TZ) ?_<;>(refine yL 18 (YI Kn) fun v18 h=>?_;cases h)<;>refine Zw [(.int .i64 0),(.string ByteArray.empty),(.slice none 0 0)] 3 5 Ew fun h5=>?_<;>refine ZA 5 Kn ?_<;>refine Zg ?_)
 (refine xL 19 Zb ?_<;>(refine yL 20 (Zs 5 Kn) fun v20 h=>?_;cases h)<;>(refine Wy [(1000,m, .omap (skv (Yf S)))] ⟨rfl,trivial⟩ ?_;refine WP [] 21 (call74) (ih x hxm (hp x hxm) oM S m v20) (fun v21 p21 h21 hR21=>?_);subst hR21)<;>refine Zg ?_)
 (refine xL 22 ZH (xL 15 Zb ?_)<;>refine Zc ?_)
 refine Zn (
  ⟨(i+1,colS S (Y6 x)),Zf hx,by dsimp only;rw [hsn,Tw,←hS]⟩
  ) (by dsimp only;omega) ⟨rfl,rfl,rfl,rfl,trivial⟩ ⟨rfl,trivial⟩)
 · first|exact bN hb16|(
 refine nav ?_;(have hS2:S=colS K (Gj l):=by rw [hS,Xo oM]);refine GW [(1000,m, .omap (skv (Yf S)))] (results74) ⟨rfl,trivial⟩ ?_;rw [hS2]))
 · first |exact bN hb8|(
 rw [show ks=K by rw [hK,US (by assumption)]];refine Ze ?_;(refine xL 12 (Zd 3 P1) ?_<;>(refine yL 13 (Zk 3 Ev) fun v13 h=>?_;cases h)<;>refine xL 14 (ZR TZ) (xL 15 Zb ?_)<;>refine Zc ?_)
 refine ZD (ι:={q:Nat×List ByteArray//q.1≤l.length∧q.2=colS K (Gj (l.take q.1))}) (fun k=>⟨[(0,_,_),(13,_,_),(14,_,_),(15, .int .i64 k.1.1,pInt k.1.1)],[(1000,m, .omap (skv (Yf k.1.2)))]⟩) (fun k=>l.length-k.1.1) ⟨(0,K),Xf _,by rw [XQ];rfl⟩ (fun a w H=>H.weaken ⟨rfl,rfl,rfl,rfl,trivial⟩ ⟨rfl,trivial⟩) ?_;rintro ⟨⟨i,S⟩,hi,hS⟩;dsimp only;dsimp only at hi hS;refine Ze ?_;(refine xL 16 ZQ ?_<;>refine Zc ?_)
 refine cX ?_ ?_<;>intro hb16
 · first|exact bN hb16|(
 obtain ⟨x,hx⟩:=Zp (show i<l.length by omega);have e1:((K0 l).drop (i*3)).take 3=[pInt x.op,Z' x.act,Wb x.l]:=Wh hx;have e2:=W0 hx;have hxm:=Xc hx;have hxs:=KJ hxm;have hsn:=T0 hx;refine Ze ?_;(refine xL 17 (ZF TZ) ?_<;>(refine yL 18 (YI Kn) fun v18 h=>?_;cases h)<;>refine Zw [(.int .i64 0),(.string ByteArray.empty),(.slice none 0 0)] 3 5 Ew fun h5=>?_<;>refine ZA 5 Kn ?_<;>refine Zg ?_)
 (refine xL 19 Zb ?_<;>(refine yL 20 (Zs 5 Kn) fun v20 h=>?_;cases h)<;>(refine Wy [(1000,m, .omap (skv (Yf S)))] ⟨rfl,trivial⟩ ?_;refine WP [] 21 (call74) (ih x hxm (hp x hxm) oM S m v20) (fun v21 p21 h21 hR21=>?_);subst hR21)<;>refine Zg ?_)
 (refine xL 22 ZH (xL 15 Zb ?_)<;>refine Zc ?_)
 refine Zn (
  ⟨(i+1,colS S (Y6 x)),Zf hx,by dsimp only;rw [hsn,Tw,←hS]⟩
  ) (by dsimp only;omega) ⟨rfl,rfl,rfl,rfl,trivial⟩ ⟨rfl,trivial⟩)
 · first|exact bN hb16|(
 refine nav ?_;(have hS2:S=colS K (Gj l):=by rw [hS,Xo oM]);refine GW [(1000,m, .omap (skv (Yf S)))] (results74) ⟨rfl,trivial⟩ ?_;rw [hS2]))
def ZlW:Value×Value→ByteArray
 |(.string s,_)=>s
 |_=>ByteArray.empty
theorem ZgW (ks:List ByteArray):(skv (Yf ks)).map ZlW=ks:=by
 unfold skv Yf
 rw [XI,XI]
 exact (VH fun s _=>rfl).trans (List.map_id ks)
theorem Zar {ks:List ByteArray} {k v:Value} (h:(k,v)∈skv (Yf ks)):∃s,s∈ks∧k= .string s∧v= .bool true:=by
 unfold skv Yf at h
 rw [XI] at h
 obtain ⟨s,hs,e⟩:=Xg.1 h
 cases e
 exact ⟨s,hs,rfl,rfl⟩
theorem Zas (ks:List ByteArray):(skv (Yf ks)).length=ks.length:=by unfold skv Yf;rw [Xd,Xd]
theorem ZgX {es:Array MapEntry} {seen:Array Nat} {e:MapEntry} {clock:Nat} (hW:WfM es clock) (he:e∈(leftOf es seen).toList):(leftOf es (seen.push e.born)).size<(leftOf es seen).size:=by
 have h:=(TY hW he).length_eq
 rw [Xk,O3,O3] at h
 omega
theorem ZgY {es:Array MapEntry} {seen:Array Nat} {e:MapEntry} (he:e∈(leftOf es seen).toList):(e.key,e.val)∈kvOf es:=Xg.2 ⟨e,S8 he,rfl⟩
theorem Dn (e n:Nat) (l:List ByteArray) (h:n=l.length):share (.own e 1 n (l.map Z'))=Yj l:=by
 subst h
 rw [share,Yb,XI];rfl
set_option maxHeartbeats 4000000 in
theorem ZjE (t :Nd) (hf:FitT t):AF prog 25 [pTr t] (· = .tup [Yj (actR t).1,pInt (actR t).2]):=by
 have e0:pTr t= .agg [pInt t.op,Z' t.act,Wb t.l]:=rfl
 have hV:=JJ t hf
 rw [e0] at hV ⊢
 refine AF.of_body 30 func25 rfl ntmps25 (Xa rfl) ?_
 intro w0 M0 vs hl hv
 obtain ⟨v0,rfl⟩:=WL hl
 clear hl hv
 refine Ze ?_
 (refine ZG 1 3 fun h1=>?_<;>refine xL 2 Za (xL 3 Za ?_)<;>refine Zg ?_)
 ((refine yL 7 (Zs 1 Kn) fun v7 h=>?_;cases h)<;>(refine cS 8 (cA call24 (hV)) fun v8 h=>?_;cases h)<;>refine xL 9 Yg ?_<;>refine Zc ?_)
 refine cX ?_ ?_<;>intro hb9
 · first|exact bN hb9|(
 refine Ze ?_;(refine xL 2 Za (xL 3 Za ?_)<;>refine Zc ?_)
 refine YR (W1 (t:=2) rfl) fun _=>?_;refine Wr (results25) rfl rfl ?_;rw [show actR t=([],1) by unfold actR;rw [US (by simpa using hb9)]];rfl)
 · first | exact bN hb9|(
 (have hv:Y3 t=true:=by simpa using hb9);have hok:=K' hv;have hsz:=GV hv;obtain ⟨ks,hks⟩:∃ks,ks=colS [] (Y6 t):=⟨_,rfl⟩;(have hR:actR t=if ks.length≤40 then (K1 ks,0) else ([],5):=by unfold actR;rw [UT hv,hks]);(have hnd:ks.Nodup:=by rw [hks];exact GK _ _ XN);refine Ze ?_;(refine JZ 10 fun h10 ho10=>?_<;>refine xL 4 Za ?_<;>refine Zc ?_)
 refine Zx (Zy (l:=10) 1000 rfl rfl) fun _=>?_;(refine Zt ?_<;>refine xL 11 Zb ?_<;>(refine yL 12 (Zs 1 Kn) fun v12 h=>?_;cases h)<;>(refine Wy [(1000,h10, .omap (skv (Yf []))),(1,_,_)] ⟨rfl,rfl,trivial⟩ ?_;refine WP [1] 13 (call74) (Zcw t hok oM [] h10 v12) (fun v13 p13 h13 hR13=>?_);subst hR13;rw [←hks])<;>refine Zg ?_)
 (refine xL 14 Zb (xL 15 (OG 1000 underlying76) (xL 16 YP ?_))<;>refine Zc ?_)
 refine cX ?_ ?_<;>intro hb16
 · first|exact bN hb16|(
 refine Ze ?_;(refine xL 2 Za (xL 3 Za ?_)<;>refine Zc ?_)
 refine YR (W1 (t:=2) rfl) fun _=>?_;refine Wr (results25) rfl rfl ?_;rw [Zas] at hb16;rw [hR,US oM];rfl)
 · first | exact bN hb16|(
 rw [Zas] at hb16;rw [UT oM] at hR;refine Ze ?_;(refine xL 5 Za ?_<;>refine Zc ?_)
 refine Zx (En.freeze (l:=1000) (t:=4) rfl rfl) fun _=>?_;(refine Zt ?_<;>refine xL 17 Zb ?_<;>refine Zag 18 underlying76 (fun b18 r18 c18 es18 hkv18 hWf18=>?_)<;>refine Zc ?_)
 refine Zx (KB 200 9 1 rfl) fun _=>?_;refine ZD (ι:={x:Value×Array Nat×List ByteArray//x.1.oneCell'=true∧(x.2.2++(kvOf (leftOf es18 x.2.1)).map ZlW).Perm ks}) (fun k=>⟨[(18,_,_),(5,k.1.1, .val k.1.1)],[(18,itv r18,itP b18 r18 c18 es18 k.1.2.1),(200,k.1.1, .own 9 1 k.1.2.2.length (k.1.2.2.map Z'))]⟩) (fun k=>(leftOf es18 k.1.2.1).size) ⟨(.slice none 0 0,#[],[]),rfl,by rw [Zah,←hkv18,ZgW];exact .refl _⟩ (fun a w H=>H.weaken ⟨rfl,rfl,trivial⟩ ⟨rfl,rfl,trivial⟩) ?_;rintro ⟨⟨hov,seen,L⟩,ho,hp⟩;dsimp only;dsimp only at ho hp;have hLl:L.length≤40:=by
  have:=hp.length_eq;rw [Xb] at this;omega
 have hLm:(L.map Z').length=L.length:=Xd _;refine Ze ?_;(refine Zdu 18 19 hWf18 (fun hlf18=>?_) (fun e18 hle18=>?_)<;>refine xL 20 Zi ?_<;>refine Zc ?_)<;>(
 refine cX ?_ ?_<;>intro hb20
 · first|exact bN hb20|(
 refine Ze ?_;(refine xL 21 (Zdv 18 hWf18 (S8 hle18)) ?_<;>refine xL 22 Zi (xL 6 Za ?_)<;>refine Zc ?_)
 obtain ⟨s,hmem,hks,hvs⟩:=Zar (hkv18▸ZgY hle18);rw [hks];(refine Zt ?_<;>refine xL 23 Zb (xL 24 Zb ?_)<;>refine ZJ (kk:=1) 25 Eu fun h25 ho25=>?_<;>refine ZU 200 25 26 Eu fun h26 ho26=>?_<;>refine xL 5 Za ?_<;>refine Zc ?_)
 refine WX (Zy (l:=26) 200 rfl rfl) fun _=>?_;rw [show L.map Z'++[_]=(L++[s]).map Z' from (by rw [Xr];rfl),show L.length+1=(L++[s]).length by simp];refine Zn (
  ⟨(h26,seen.push e18.born,L++[s]),ho26,by
    refine .trans ?_ hp;have h1:=(TY hWf18 hle18).map ZlW;rw [Xp,hks,hvs] at h1;show (L++[_]++_).Perm _;rw [Xz];exact h1.symm.append_left L⟩
  ) (ZgX hWf18 hle18) ⟨rfl,rfl,trivial⟩ ⟨rfl,rfl,trivial⟩)
 · first|exact bN hb20|(
 refine nav ?_;have hp0:L.Perm ks:=by
  rw [hlf18] at hp;have h1:kvOf (#[]:Array MapEntry)=[]:=rfl;rw [h1,Vg,Xy] at hp;exact hp
 have hLL:(L.map toB).length=L.length:=Xd _;refine Zx (ZP (l:=200) (p':= .own 9 1 (L.map toB).length ((L.map toB).map Zcu)) rfl (by rw [ZjD,hLL])) fun _=>?_;(refine Zt ?_<;>refine xL 27 Zb ?_<;>refine ZjC (zs:=L.map toB) 200 ZeY Zcv (call75) ?_<;>refine Zc ?_)
 rw [ZgT,Et hp0];refine Zx (En.freeze (l:=200) (t:=5) rfl rfl) fun _=>?_;rw [Dn _ _ _ (by rw [JK,hLL,hp0.length_eq])];(refine Zt ?_<;>refine xL 29 Zb (xL 2 Za (xL 3 Za ?_))<;>refine Zc ?_)
 refine Wr (results25) rfl rfl ?_;rw [hR]))))
def kyv (k1 g:Nat):Value:= .func (.func k1) #[] #[.pointer (some ⟨g,0,none⟩)]
def kyP (g b clock t:Nat) (es:Array MapEntry):PV:= .oblk (itv g) g (.cells #[.map (some b)] t) [(b, .map es clock)]
def kyE (g b clock t:Nat) (es:Array MapEntry):Ent:=(itv g,kyP g b clock t es)
def Zln (P:Program) (f k1 t:Nat):Prop:=∀(b:Nat) (w:World),Calls P f #[.map (some b)] w fun e w'=>e= .returned (kyv k1 w.heap.size)∧w'=w.alloc (.cells #[.map (some b)] t)
def Zat (P:Program) (f k1 t T:Nat):Prop:=∀(g b clock:Nat) (es:Array MapEntry) (ks:List ByteArray) (w:World),w.heap[g]? =some (.cells #[.map (some b)] t)→w.heap[b]? =some (.map es clock)→WfM es clock→kvOf es=skv (Yf ks)→ks.Nodup→ks.length≤1000000→(∀s∈ks,s.size≤140737488355328)→
 Calls P f #[kyv k1 g] w fun e w'=>∃v,e= .returned v∧w'.ownsRow w.heap.size T 1 v ks.length ((K1 ks).map Value.string)∧Below w.heap.size w w'
section
variable {P:Program} {c:Ctx} {ops:Array Oper} {Q:Exit→Act→World→Prop} {rest:List Oper} {sL hP:List (Nat×Ent)} {o:Oper}
theorem Zcx {f k1 t:Nat} {x:Operand} {m:Value} {kv:List (Value×Value)} {ats:Array TypeId} (d:Nat) (hA:Zln P f k1 t) (hc:∀args w,(callFunc f args).run P w= .ok (.enter f args) w)
 (k:∀(g b clock:Nat) (es:Array MapEntry),kv=kvOf es→WfM es clock→aL P c ops Q rest ⟨put d (kyv k1 g, .val (kyv k1 g)) sL,put d (kyE g b clock t es) hP⟩)
 (hw:ZT ops sL o=some true:=by exact rfl) (hd:o.dst=some d:=by exact rfl) (hn:d<c.nt:=by exact Xa rfl) (ho:o.op= .call {callee:= .value (.func f),args:= #[x],argTypes:=ats}:=by exact rfl) (hx:ev sL x=some (m, .smap kv):=by exact rfl) (hl:lk hP d=none:=by exact rfl):aL P c ops Q (o::rest) (⟨sL,hP⟩:St):=
 Yy hw fun a w F H=>by
  obtain ⟨hv,hS⟩:=H.rd.ev hx
  cases hS with
  | smap b es clock hM h hW=>
    have key:HoldsF c ⟨put d (kyv k1 w.heap.size, .val (kyv k1 w.heap.size)) sL,put d (kyE w.heap.size b clock t es) hP⟩ (fun l'=>if l'=d then (fun x=>x=w.heap.size) else F l') (a.put (some d) (kyv k1 w.heap.size)) (w.alloc (.cells #[.map (some b)] t)):=by
     refine H.change (fun l'=>l'=d) hn ((Ext.alloc _ _).chg) (fun l' x hne hx'=>?_) (fun l' x b' hT hx' hb=>?_) (fun hm l' u q hT hx'=>?_) (fun l1 l2 _ _ _ h1 h2 hne=>UU (h1.trans h2.symm) hne) (fun hm=> .val _)
     · rcases Ya hx' with ⟨e1,_⟩|⟨_,e1⟩
       · exact UU e1.symm hne
       · exact ⟨e1,by simp [hne]⟩
     · subst hT;simp only [if_true] at hb;exact .inr (by rw [hb];exact Xj _)
     · subst hT;rw [ZW] at hx';unfold kyE kyP at hx'
       cases hx';simp only [if_true];refine .oblk w.heap.size rfl ?_ (fun p hp=>?_) (fun x=>Iff.rfl)
       · show (w.heap.push _)[w.heap.size]? =_;simp
       · rw [Xl] at hp;subst hp;exact ⟨(Ext.alloc w _).block h,fun hb=>hM (hm b (Yu h) hb)⟩
    have hrun:(execOp a.eval o).run P w= .ok (.enter f #[.map (some b)]) w:=by
     have hev:a.eval (.func f)= .func (.func f) #[] #[]:=rfl;simp [execOp,ho,resolve,Deferred.ofValue,hev,invoke,hv,hc]
    unfold Oper.wp;rw [hrun,Oper.upon_enter];refine (hA b w).mono fun e' w' ⟨he,hw'⟩=>?_;subst he hw';rw [hd];exact k _ _ _ _ rfl hW _ _ ⟨_,key⟩
theorem R6 {f k1 t T g b clock:Nat} {es:Array MapEntry} {q:PV} {x:Operand} {ats:Array TypeId} {ks:List ByteArray} (l d:Nat) (hA:Zat P f k1 t T) (hc:∀args w,(callFunc f args).run P w= .ok (.enter f args) w) (hdr:¬c.dr)
 (hW:WfM es clock) (hkv:kvOf es=skv (Yf ks)) (hnd:ks.Nodup) (hlen:ks.length≤1000000) (hsz:∀s∈ks,s.size≤140737488355328)
 (k:∀v:Value,v.oneCell'=true→aL P c ops Q rest ⟨put d (v, .val v) sL,put d (v, .own T 1 ks.length ((K1 ks).map Z')) hP⟩)
 (hw:ZT ops sL o=some true:=by exact rfl) (hd:o.dst=some d:=by exact rfl) (hn:d<c.nt:=by exact Xa rfl) (ho:o.op= .call {callee:= .value (.func f),args:= #[x],argTypes:=ats}:=by exact rfl) (hx:ev sL x=some (kyv k1 g,q):=by exact rfl) (hl:lk hP l=some (kyE g b clock t es):=by exact rfl) (hld:lk hP d=none:=by exact rfl):aL P c ops Q (o::rest) (⟨sL,hP⟩:St):=
 Yy hw fun a w F H=>by
  have hv:=(H.rd.ev hx).1;obtain ⟨h,hs,hF⟩:=(H.tr l _ _ hl).blk;obtain ⟨hb,_⟩:=hs (b, .map es clock) sM;dsimp only at hb;have hrun:(execOp a.eval o).run P w= .ok (.enter f #[kyv k1 g]) w:=by
   have hev:a.eval (.func f)= .func (.func f) #[] #[]:=rfl;simp [execOp,ho,resolve,Deferred.ofValue,hev,invoke,hv,hc]
  unfold Oper.wp;rw [hrun,Oper.upon_enter];refine (hA g b clock es ks w h hb hW hkv hnd hlen hsz).mono fun e' w' ⟨v,he,hown,hbel⟩=>?_;subst he;rw [hd];have hone:v.oneCell'=true:=by
   rcases hown.2 with ⟨h1,_⟩|⟨g',cap',cur,e1,_⟩
   · rw [h1];rfl
   · rw [e1];rfl
  have hlow:∀b,v.ownBlock=some b→w.heap.size≤b:=fun b hb'=>by
   rcases hown.2 with ⟨h1,_⟩|⟨g',cap',cur,e1,e2,_⟩
   · rw [h1] at hb';simp [Value.ownBlock] at hb'
   · rw [e1] at hb';simp [Value.ownBlock] at hb';omega
  have hown0:w'.ownsRow 0 T 1 v ks.length ((K1 ks).map Value.string):=by
   refine ⟨hown.1,?_⟩;rcases hown.2 with h1|⟨g',cap,cur,e1,e2,r⟩
   · exact .inl h1
   · exact .inr ⟨g',cap,cur,e1,Xf _,r⟩
  have hch:Chg (fun b=>∃l x,l=d∧lk hP l=some x∧F l b) w w':=⟨hbel.os,hbel.tape,hbel.output,hbel.size,fun i hi _=>hbel.block i hi⟩;refine k v hone _ _ ⟨fun l'=>if l'=d then (fun b=>v.ownBlock=some b) else F l',H.change (fun l'=>l'=d) hn hch (fun l' x hne hx'=>?_) (fun l' x b' hT hx' hb=>?_) (fun hm l' u q hT hx'=>?_) (fun l1 l2 _ _ _ h1 h2 hne=>UU (h1.trans h2.symm) hne) (fun hm=> .val _) (fun h=>UU h hdr)⟩
  · rcases Ya hx' with ⟨e1,_⟩|⟨_,e1⟩
    · exact UU e1.symm hne
    · exact ⟨e1,by simp [hne]⟩
  · subst hT;simp only [if_true] at hb;exact .inr (hlow b' hb)
  · subst hT;rw [ZW] at hx'
    cases hx';simp only [if_true];refine .own ((K1 ks).map Value.string) (fun _ _=>False) hown0 sM (fun t v p hv hp=>?_) (fun _ _ _ _ _ _ h=>h.elim) (fun _ _ _ h=>h.elim) (fun b=>sM);rw [Xm,XA] at hv hp;obtain ⟨b1,hb1,rfl⟩:=hv;obtain ⟨b2,hb2,rfl⟩:=hp;rw [hb1] at hb2;cases hb2;exact .shr (.val _) (fun _ h=>h)
end
open Go.Maps Go.Sort Go.Shelf in
def rdK (_:Value):Option (DataW Unit×List MemPlace):=some (.lit (.bool true),[])
section
open Go.WideElems Go.MapKept Go.WideMaps
theorem ZlX {P:Program} {k:TypeId} (hk:P.underlying k=some .string) {s:ByteArray} (hs:s.size≤maxLen):rg P k rdK ⟨.string s, .bool true,0⟩=(.string s.data.toList, .lit (.bool true)):=by
 have:rd P k rdK ⟨.string s, .bool true,0⟩=some (.string s.data.toList, .lit (.bool true)):=rd_mk (R:=rdK) (val:= .bool true) (born:=0) (yv:=(.lit (.bool true),[])) (keyOf_string_mk hk hs) rfl
 exact rg_of this
theorem ZjF {P:Program} {k:TypeId} (hk:P.underlying k=some .string) {w:World} {b clock:Nat} {es:Array MapEntry} {ks:List ByteArray} (hb:w.heap[b]? =some (.map es clock)) (hW:WfM es clock) (hkv:kvOf es=skv (Yf ks)) (hnd:ks.Nodup) (hlen:ks.length≤1000000) (hsz:∀s∈ks,s.size≤140737488355328):∃D0,w.ownsMap P k rdK b ks.length D0∧(strKeys D0).Perm (ks.map toB)∧Maps.size D0=ks.length:=by
 have hml:∀s∈ks,s.size≤maxLen:=fun s hs=>by have:=hsz s hs;unfold maxLen;omega
 have hkv2:es.toList.map (fun x=>(x.key,x.val))=ks.map fun s=>(Value.string s,Value.bool true):=by
  have:kvOf es=ks.map fun s=>(Value.string s,Value.bool true):=by rw [hkv];unfold skv Yf;rw [XI];rfl
  exact this
 have hsize:es.size=ks.length:=by have:=congrArg List.length hkv2;simpa using this
 have hrg:es.toList.map (rg P k rdK)=ks.map fun s=>(Lit.string s.data.toList,(.lit (.bool true):DataW Unit)):=by
  have h1:es.toList.map (rg P k rdK)=(es.toList.map fun x=>(x.key,x.val)).map fun p=>rg P k rdK ⟨p.1,p.2,0⟩:=by
   rw [XI];rfl
  rw [h1,hkv2,XI];exact VH fun s hs=>ZlX hk (hml s hs)
 have hread:∀x∈es.toList,∃y,rd P k rdK x=some y:=fun x hx=>by
  have:(x.key,x.val)∈es.toList.map (fun x=>(x.key,x.val)):=Xg.2 ⟨x,hx,rfl⟩;rw [hkv2] at this;obtain ⟨s,hs,e⟩:=Xg.1 this;obtain ⟨xk,xv,xb⟩:=x
  cases e;exact ⟨_,rd_mk (R:=rdK) (yv:=(.lit (.bool true),[])) (keyOf_string_mk hk (hml s hs)) rfl⟩
 refine ⟨.map ((es.toList.map (rg P k rdK)).foldr DataW.insert []),⟨es,clock,hb,⟨by rw [hsize];unfold maxLen;omega,?_,hread⟩,by rw [hsize];exact Xj _,rfl⟩,?_,?_⟩
 · refine ⟨hW.1,hW.2,?_⟩;have h3:es.toList.map (·.key)=ks.map Value.string:=by
    have:=congrArg (List.map Prod.fst) hkv2;rw [XI,XI] at this;exact this
   rw [h3];exact Um.2 (hnd.imp fun h e=>h (by cases e;rfl))
 · rw [hrg];have h2:=(WideShapes.sorted_perm (ks.map fun s=>(Lit.string s.data.toList,(.lit (.bool true):DataW Unit)))).map fun p=>strOf p.1;rw [XI] at h2;exact h2
 · show List.length _=_;rw [(WideShapes.sorted_perm _).length_eq,Xd,Vm,hsize]
end
theorem ZgZ:Zln prog 50 95 76:=fun b w=>callsIn_wide.1 (AnyZ.keys_in (ρ:=Tryz.keysA_ren) Tryz.keysA Fence.wide 5 trivial rfl (some b) w)
theorem ZlY (m:Nat):AnyZ.SortsIn prog Tryz.sortedA_ren Fence.wide m:=
 ⟨fun blk off cap ss W hH hblk hsz=>callsIn_wide.2 (Tryz.slices_Sort_string blk off cap ss W hH hblk hsz),fun p cap W=>callsIn_wide.2 (Tryz.slices_Sort_string_none p cap W)⟩
theorem Do:Zat prog 49 95 76 9:=fun g b clock es ks w hg hb hW hkv hnd hlen hsz=>by
 obtain ⟨D0,hown,hperm,hsize⟩:=ZjF (P:=prog) (k:=9) underlying9 hb hW hkv hnd hlen hsz
 have hseq:SeqGives Fence.wide 2 prog 95 #[.pointer (some ⟨g,0,none⟩)] encStr (fun ss=>ss.Perm (strKeys D0)) (Maps.size D0) w:=
  AnyZ.keys_gives (ρ:=Tryz.keysA_ren) {Tryz.keysA with} Fence.wide _ trivial rfl oM g b _ D0 w (Yu hg) (by simp [World.cell?,hg]) hown
 have cS:=AnyZ.sorted_in (ρ:=Tryz.sortedA_ren) Tryz.sortedA Fence.wide 5 trivial trivial trivial trivial rfl oM (ZlY _) (call75) 95 #[.pointer (some ⟨g,0,none⟩)] trivial (call95) _ _ (by rw [hsize];unfold maxLen;omega) (by rw [hsize];omega) _ hseq
 refine (callsIn_wide.1 cS).mono ?_
 rintro e w' ⟨v,ss,rfl,hS,hrow,_,hbel⟩
 have hp:=hS.trans hperm
 refine ⟨v,rfl,?_,hbel⟩
 have e1:(ss.mergeSort fun x y=>decide (x≤y)).map encStr=(K1 ks).map Value.string:=by
  rw [mergeSort_of_perm hp];unfold K1;rw [XI];rfl
 have e2:ss.length=ks.length:=by rw [hp.length_eq,Xd]
 rw [e1,e2] at hrow
 exact hrow
open Go.RowKit Go.Shelf
attribute [local go_sem] Oper.semAt_some
def Zg0 (V:Nat→Nat→Value) (k:Nat):Array Value:= #[.int .i64 k, .agg #[V k 0,V k 1,V k 2,V k 3]]
def KE (n k:Nat):List Nat:=(List.range k).map fun j=>n-1-j
theorem P2 (n k:Nat):KE n (k+1)=KE n k++[n-1-k]:=by simp [KE,V4]
theorem Zcy (n k:Nat):(KE n k).length=k:=by simp [KE]
def KpB (Bs b:Nat) (W W':World):Prop:=∀(p:Addr) (v:Value),(p.block=Bs∨p.block=b)→W.cell? p=some v→W'.cell? p=some v
theorem KpB.trans {Bs b:Nat} {A B C:World} (h:KpB Bs b A B) (k:KpB Bs b B C):KpB Bs b A C:=fun p v hp hv=>k p v hp (h p v hp hv)
set_option maxHeartbeats 4000000 in
theorem Zg1 (n l Bs b off len cap:Nat) (V:Nat→Nat→Value) (hreach:len≤1000000) (hcap:cap≤maxLen) (hlc:len≤cap) (J Jx:List Nat→World→Prop)
 (hY:∀pre x W,x<len→J pre W→pre.length<len→YieldAt Fence.wide (n-1) prog l (Zg0 V x) W fun e W'=>
   (e= .returned (.bool true)∧J (pre++[x]) W'∧KpB Bs b W W')∨(e= .returned (.bool false)∧Jx (pre++[x]) W'))
 (W:World) (hBs:W.cell? ⟨Bs,0,none⟩=some (.slice (some ⟨b,off,none⟩) len cap)) (hc:∀k j,k<len→j<4→W.cell? ⟨b,off+k*4+j,none⟩=some (V k j)) (h0:J [] W):
 CallsIn Fence.wide n prog 173 #[.func (.yield l) #[] #[], .pointer (some ⟨Bs,0,none⟩)] W fun e W'=>(∃v,e= .returned v)∧
  ((∃ys,ys=KE len len∧J ys W')∨(∃pre,(∃k,k≤len∧pre=KE len k)∧Jx pre W')):=by
 refine callsIn_of_wp func173 rfl trivial ?_ rfl
 simp only [ntmps173,X8,Xk,XC,Nat.reduceAdd,Nat.reduceSub,Array.replicate_succ,Array.replicate_zero,List.push_toArray,List.append_toArray,Vp,XW]
 gi_wp2
 gi_loopw [3] (fun i wr=>∃k:Nat,k≤len∧i= .int .i64 ((len:Int)-1-k)∧J (KE len k) wr∧KpB Bs b W wr)
  (fun i _=>(intOf i+1).toNat)
 case atStart=>exact ⟨0,Xf _,sM,h0,fun _ _ _ h=>h⟩
 case round=>
  obtain ⟨k,hk,rfl,hJs,hnx⟩:=hrel;have hBx:wr.cell? ⟨Bs,0,none⟩=some (.slice (some ⟨b,off,none⟩) len cap):=hnx ⟨Bs,0,none⟩ _ (.inl rfl) hBs;by_cases hlt:k<len
  · obtain ⟨m,hmi,hm1,hm2⟩:∃m:Nat,(len:Int)-1-k=m∧m+k+1≤len∧len≤m+k+1:=⟨len-1-k,oM,oM,oM⟩;rw [hmi];clear hmi;have hcx:∀j,j<4→wr.cell? ⟨b,off+m*4+j,none⟩=some (V m j):=fun j hj=>hnx ⟨b,off+m*4+j,none⟩ _ (.inr rfl) (hc m j oM hj);have c0:wr.cell? ⟨b,off+m*4,none⟩=some (V m 0):=hcx 0 oM;have c1:=hcx 1 oM;have c2:=hcx 2 oM;have c3:=hcx 3 oM;obtain ⟨fn,tmps,assign,body,hy,hR⟩:=hY _ m wr oM hJs (by rw [Zcy];exact hlt);unfold Zg0 at hy;have hml:m<len:=oM;(have hdn:KE len k++[m]=KE len (k+1):=by rw [P2,show len-1-k=m by omega]);gi_wp2
    refine ⟨fun h=>UU h dC,?_⟩;refine hR.mono ?_;rintro e W3 (⟨rfl,hJ3,hk3⟩|⟨rfl,hJx3⟩)
    · gi_wp2
      go_roundw
      case rel=>exact ⟨k+1,oM,by simp;omega,by rw [←hdn];exact hJ3,hnx.trans hk3⟩
      case measure=>simp [intOf]
    · gi_wp2
      refine bodyPost_ret (results_none rfl _ _ _) rfl ?_;exact ⟨⟨_,rfl⟩, .inr ⟨_,⟨k+1,oM,hdn⟩,hJx3⟩⟩
  · obtain rfl:k=len:=oM;gi_wp2
    go_end0
    exact ⟨⟨_,rfl⟩, .inl ⟨_,rfl,hJs⟩⟩
theorem Zcz (n Bs b off len cap:Nat) (V:Nat→Nat→Value) (w:World) (hreach:len≤1000000) (hcap:cap≤maxLen) (hlc:len≤cap) (hb:b<w.heap.size) (hBs0:Bs<w.heap.size)
 (hBs:w.cell? ⟨Bs,0,none⟩=some (.slice (some ⟨b,off,none⟩) len cap)) (hc:∀k j,k<len→j<4→w.cell? ⟨b,off+k*4+j,none⟩=some (V k j)):
 SeqStopsK Fence.wide n prog 173 #[.pointer (some ⟨Bs,0,none⟩)] (fun x:{k:Nat//k<len}=>Zg0 V x.1) (KpB Bs b) (fun ys=>ys.map (·.1)=KE len len) (fun pre=>∃k,k≤len∧pre.map (·.1)=KE len k) len w:=fun l J Jx W hW _ _ hY h0=>by
 refine (Zg1 n l Bs b off len cap V hreach hcap hlc (fun l W=>∃l':List {k:Nat//k<len},l'.map (·.1)=l∧J l' W) (fun l W=>∃l':List {k:Nat//k<len},l'.map (·.1)=l∧Jx l' W) ?_ W ((hW.cell (p:=⟨Bs,0,none⟩) hBs0).trans hBs) (fun k j hk hj=>(hW.cell (p:=⟨b,off+k*4+j,none⟩) (by show b<_;omega)).trans (hc k j hk hj)) ⟨[],rfl,h0⟩).mono ?_
 · rintro pre x W hx ⟨l',rfl,hJ⟩ hlen;obtain ⟨fn,tmps,assign,body,hy,hR⟩:=hY l' ⟨x,hx⟩ W hJ (by rw [Xd] at hlen;exact hlen);refine ⟨fn,tmps,assign,body,hy,hR.mono ?_⟩;rintro e W' (⟨h1,h2,h3⟩|⟨h1,h2⟩)
   · exact .inl ⟨h1,⟨l'++[⟨x,hx⟩],sM,h2⟩,h3⟩
   · exact .inr ⟨h1,⟨l'++[⟨x,hx⟩],sM,h2⟩⟩
 · rintro e W' ⟨h1,h2⟩;refine ⟨h1,?_⟩;rcases h2 with ⟨ys,rfl,l',h3,h4⟩|⟨pre,⟨k,hk,rfl⟩,l',h3,h4⟩
   · exact .inl ⟨l',h3,h4⟩
   · exact .inr ⟨l',⟨k,hk,h3⟩,h4⟩
set_option maxHeartbeats 1000000 in
theorem ZmY (v:Value) (w:World) (hv:v.oneCell'=true):CallsIn Fence.wide 5 prog 124 #[v] w fun e w'=>e= .returned (.func (.func 173) #[] #[.pointer (some ⟨w.heap.size,0,none⟩)])∧w'=w.alloc (.cells #[v] 154):=by
 refine callsIn_of_wp func124 rfl trivial ?_ rfl
 simp only [ntmps124,X8,Xk,XC,Nat.reduceAdd,Nat.reduceSub,Array.replicate_succ,Array.replicate_zero,List.push_toArray,List.append_toArray,Vp,XW]
 gi_wp2
 exact ⟨rfl,_,by simp [results,show Tryz.f124.results= #[.tmp 2] from rfl],rfl,rfl⟩
theorem ZeZ:MpT prog 76 9 4 .string (.bool false):=⟨underlying76,underlying9, .inl rfl,by show ZeroT _ _ _;unfold ZeroT;kernel_rfl⟩
def Zg2 (g:Value) (ks ls:List ByteArray) (v:Value) (p:PV) (h:List (Nat×Ent)):Prop:=∃ms:List ByteArray,ms.Nodup∧(∀s,s∈ms↔s∈ks∨s∈ls)∧v= .tuple #[]∧p= .val (.tuple #[])∧h=[(1000,g, .omap (skv (Yf ms)))]
set_option maxHeartbeats 1000000 in
theorem ZjG (g u:Value) (ks ls:List ByteArray) (hn:ks.Nodup):AFh False prog 172 [(0,g, .val g),(1,u, .smap (skv (Yf ls)))] [(1000,g, .omap (skv (Yf ks)))] (Zg2 g ks ls):=by
 refine AFh.of_body 16 func172 rfl ntmps172 (Xa rfl) rfl ?_
 intro w0 M0 N0
 refine Ze ?_
 (refine xL 6 Zb ?_<;>refine Zag 7 underlying76 (fun b7 r7 c7 es7 hkv7 hWf7=>?_)<;>refine Zc ?_)
 refine ZD (ι:={q:Array Nat×List ByteArray//q.2.Nodup∧(∀s,s∈q.2→s∈ks∨s∈ls)∧(∀s,s∈ks→s∈q.2)∧∀s,s∈ls→s∈q.2∨(Value.string s,Value.bool true)∈kvOf (leftOf es7 q.1)}) (fun k=>⟨[(0,_,_),(7,_,_)],[(7,itv r7,itP b7 r7 c7 es7 k.1.1),(1000,g, .omap (skv (Yf k.1.2)))]⟩) (fun k=>(leftOf es7 k.1.1).size) ⟨(#[],ks),hn,fun s h=> .inl h,fun s h=>h,fun s h=> .inr (by rw [Zah,←hkv7];exact Xg.2 ⟨(s, .bool true),Xg.2 ⟨s,h,rfl⟩,rfl⟩)⟩ (fun a w H=>H.weaken ⟨rfl,rfl,trivial⟩ ⟨rfl,rfl,trivial⟩) ?_
 rintro ⟨⟨seen,K⟩,h1,h2,h3,h4⟩
 dsimp only
 dsimp only at h1 h2 h3 h4
 refine Ze ?_
 (refine Zdu 7 8 hWf7 (fun hlf7=>?_) (fun e7 hle7=>?_)<;>refine xL 9 Zi ?_<;>refine Zc ?_)<;>(
 refine cX ?_ ?_<;>intro hb9
 · first | exact bN hb9|(
 refine nav ?_;obtain ⟨s,hs,hks,hvs⟩:=Zar (ks:=ls) (hkv7▸Xg.2 ⟨e7,S8 hle7,rfl⟩:(e7.key,e7.val)∈skv (Yf ls));(refine Zt ?_<;>refine xL 10 (Zdv 7 hWf7 (S8 hle7)) ?_<;>refine xL 11 Zi (xL 12 Zi (xL 4 Za (xL 5 Za ?_)))<;>refine Zc ?_)
 rw [hks,hvs];(refine Zt ?_<;>refine xL 13 Zb (xL 14 Zb (xL 15 Zb ?_))<;>(refine GU 1000 ZeZ ?_;rw [Tx])<;>refine Zc ?_)
 refine Zn (
  ⟨(seen.push e7.born,setK K s),OM h1 s,fun t ht=>by
    rcases (Gk K s t).1 ht with ht|rfl
    · exact h2 t ht
    · exact .inr hs,fun t ht=>(Gk K s t).2 (.inl (h3 t ht)),fun t ht=>by
    rcases h4 t ht with h5|h5
    · exact .inl ((Gk K s t).2 (.inl h5))
    · have h6:=(TY hWf7 hle7).mem_iff.1 h5;rcases Xq.1 h6 with h7|h7
      · refine .inl ((Gk K s t).2 (.inr ?_));have h8:=congrArg Prod.fst h7;rw [hks] at h8;injection h8 with h8
      · exact .inr h7⟩
  ) (by have h9:=(TY hWf7 hle7).length_eq;unfold kvOf at h9;rw [Xk,Xd,Xd,Vm,Vm] at h9;dsimp only;omega) ⟨rfl,rfl,trivial⟩ ⟨rfl,rfl,trivial⟩)
 · first|exact bN hb9|(
 refine nav ?_;have hm:Zg2 g ks ls (.tuple #[]) (.val (.tuple #[])) [(1000,g, .omap (skv (Yf K)))]:=⟨K,h1,fun s=>⟨h2 s,fun h=>h.elim (h3 s) fun h=>(h4 s h).resolve_right (by rw [hlf7];simp [kvOf])⟩,rfl,rfl,rfl⟩;exact GW [(1000,g, .omap (skv (Yf K)))] (results172) ⟨rfl,trivial⟩ hm))
set_option maxHeartbeats 1000000 in
theorem KH (g u:Value) (ks ls:List ByteArray) (hn:ks.Nodup):AFh False prog 123 [(0,g, .val g),(1,u, .smap (skv (Yf ls)))] [(1000,g, .omap (skv (Yf ks)))] (Zg2 g ks ls):=by
 refine AFh.of_body 7 func123 rfl ntmps123 (Xa rfl) rfl ?_
 intro w0 M0 N0
 refine Ze ?_
 (refine xL 4 Zb (xL 5 Zb ?_)<;>(refine WP [] 6 (call172) (ZjG g u ks ls hn) (fun v6 p6 h6 hR6=>?_);obtain ⟨ms,m1,m2,rfl,rfl,rfl⟩:=hR6)<;>refine Zc ?_)
 exact GW [(1000,g, .omap (skv (Yf ms)))] (results123) ⟨rfl,trivial⟩ ⟨ms,m1,m2,rfl,rfl,rfl⟩
end Go.Proofs.YtgfabnhpllkebaaGreatDoor
namespace Go.En
open Go.RowKit Go.Cb
set_option linter.all false
section
variable {P:Program}
theorem AF.of_bodyM {f:FuncId} {fn:Func} {code:Code} {ps:List PV} {R:PV→Prop} (nt:Nat) (hf:P.funcs[f]? =some fn) (hb:fn.body=some code) (hnt:fn.ntmps=nt) (hn:ps.length≤nt)
 (h:∀(w0:World) (M0:BS) (vs:List Value),vs.length=ps.length→(∀(i:Nat) (v:Value) (p:PV),vs[i]? =some v→ps[i]? =some p→vOf p v)→aC P ⟨w0,M0,fun _=>False,nt,False,[]⟩ code (bodyPostM Fence.wide 9 P fn (GI ⟨w0,M0,fun _=>False,nt,False,[]⟩ R)) ⟨KG 0 vs ps,[]⟩):AF P f ps R:=fun M w vs hM hl hv=>by
 subst hnt
 refine (callsIn_wide (n:=9)).1 (callsIn_of_wp_marks hf hb trivial (wpIn_wide.2 ?_) rfl)
 refine wp_mono (h w M vs hl (fun i v p h1 h2=>(hv i v p h1 h2).vOf) _ w ⟨fun _ _=>False,⟨⟨by simp [lk],by simp [lk],by simp [lk],hM,Chg.rfl' _ _,fun _=>Xj _⟩,fun t v p ht=>?_,?_,rfl⟩⟩) fun e a w' hq=>?_
 · obtain ⟨_,h1,h2⟩:=To vs ps 0 t v p ht;simp only [VS] at h1 h2;refine ⟨?_,(hv t v p h1 h2).anti fun b _ hb=>?_⟩
   · have:=Zf h1;rw [Vh (by simpa using this)];simpa using h1
   · rcases hb with hb|⟨l,x,h3,_⟩
     · exact hb
     · simp [lk] at h3
 · simp;omega
 · cases e<;>exact hq
theorem Ex {c:Ctx} {fn:Func} {R:Ending→World→Prop} {st:St} (hdf:c.df=[]) (h:aR c (bodyPost P fn R) st):aR c (bodyPostM Fence.wide 9 P fn R) st:=fun a w H=>by
 have hd:a.defers=[]:=by obtain ⟨F,H⟩:=H;exact H.df.trans hdf
 obtain ⟨_,v,h1,h2⟩:=h a w H
 show LeavesInM Fence.wide 9 P fn a.tmps R a.defers .returning w
 rw [hd]
 exact ⟨v,h1,h2⟩
theorem T1 {w0:World} {M0 N0:BS} {nt:Nat} {dr:Prop} {fn:Func} {R:Ending→World→Prop} {sL hP:List (Nat×Ent)} {u v:Value} {D:Nat} (l:Nat) (hl:lk hP l=some (u, .oblk v D (.deferred (some [])) []))
 (h:aR ⟨w0,M0,N0,nt,dr,[]⟩ (bodyPost P fn R) (⟨sL,del l hP⟩:St)):aR ⟨w0,M0,N0,nt,dr,[{target:= .collected D,args:= #[]}]⟩ (bodyPostM Fence.wide 9 P fn R) (⟨sL,hP⟩:St):=fun a w ⟨F,H⟩=>by
 obtain ⟨hD,_,hF⟩:=(H.tr l _ _ hl).blk
 have hDl:=Yu hD
 have hch:Chg (fun b=>∃l' x,l'=l∧lk hP l'=some x∧F l' b) w (w.putObj D (.deferred none)):=by
  refine ⟨rfl,rfl,rfl,by simp [World.putObj],fun k hk hn=>?_⟩;have hne:D≠k:=fun e=>hn ⟨l,_,rfl,hl,(hF k).2 e.symm⟩;simp [World.putObj,VT,hne]
 have key:HoldsF ⟨w0,M0,N0,nt,dr,a.defers⟩ (⟨sL,del l hP⟩:St) F a (w.putObj D (.deferred none)):=by
  have H':HoldsF ⟨w0,M0,N0,nt,dr,a.defers⟩ (⟨sL,hP⟩:St) F a w:=⟨⟨H.tr,H.lo,H.dj,H.m0,H.ext,H.dw⟩,H.sl,H.size,rfl⟩;refine H'.change0 (fun l'=>l'=l) hch (fun l' x hne hx=>?_) (fun l' x b hT hx hb=>?_) (fun _ l' u q hT hx=>?_) (fun l1 l2 _ _ _ h1 h2 hne=>UU (h1.trans h2.symm) hne) (fun _=>Xj _)
  · exact ⟨(YQ hx).2,rfl⟩
  · subst hT;rw [JD] at hx;cases hx
  · subst hT;rw [JD] at hx;cases hx
 have hk:=h {a with defers:=[]} (w.putObj D (.deferred none)) ⟨F,⟨⟨key.tr,key.lo,key.dj,key.m0,key.ext,key.dw⟩,key.sl,key.size,rfl⟩⟩
 obtain ⟨_,v',h1,h2⟩:=hk
 show LeavesInM Fence.wide 9 P fn a.tmps R a.defers .returning w
 rw [show a.defers=[{target:= .collected D,args:= #[]}] from H.df]
 exact ⟨sM, .inl ⟨_,_,rfl,run_takeDeferred hD,⟨v',h1,h2⟩⟩⟩
theorem ZjH {n:Nat} {row:String} {args:Array Value} {w:World} {R:Value→World→Prop} (h:Rows P row args w R):RowsIn Fence.wide n P row args w R:=fun c cs _=>let ⟨v,w',r,s⟩:=h c cs;⟨v,w',r,stepsIn_wide.2 s⟩
theorem ZjI {r n:Nat} {o:Oper} {a:Act} {next:Act→World→Prop} {Q:Exit→Act→World→Prop} {res:Result Next} (h:o.upon P a next Q res):o.uponIn (Fence.wide.inRound r) n P a next Q res:=by
 cases res with
 | ok x w'=>
   cases x<;>first
    |exact h
    |exact ⟨fun h=>UU (show false=true from h) dC,(CallsIn.inRound r (callsIn_wide.2 h)).mono fun e w h=>by cases e<;>exact h⟩
    |exact ⟨fun h=>UU (show false=true from h) dC,fun c cs _=>ZjH (n:=n-1) h c cs (room_wide _)⟩
    |exact h.elim
 |halt x w'=>cases x<;>first|exact h|exact h.elim
theorem Ey {r n:Nat} {ops:Array Oper} {Q:Exit→Act→World→Prop} (hQ:¬LetsOut Q):∀(l:List Oper) (a:Act) (w:World),(∀o∈l,∀c,o.op≠ .defer c)→wpList P ops Q l a w→wpListIn (Fence.wide.inRound r) n P ops Q l a w
 |[],_,_,_,h=>h
 | o :: l, a,w,hd,h=>by
   have ih:=fun a w=>Ey (r:=r) (n:=n) (ops:=ops) hQ l a w fun o ho=>hd o (Xn _ ho);unfold wpListIn;unfold wpList at h;split
   · rename_i hw;rw [UT hw] at h;rcases h with h|⟨_,h⟩
     · refine ⟨fun _ _=>trivial,?_⟩;rw [Oper.semAt_eq _ _ _ (hd o (Xi ..))];have h1:o.upon P a (wpList P ops Q l) Q ((execOp a.eval o).run P w):=h;have h2:=ZjI (r:=r) (n:=n) h1;revert h2;generalize (execOp a.eval o).run P w=res;intro h2
       cases res with
       | ok x w'=>
         cases x<;>first
          |exact ih _ _ h2
          |exact ⟨h2.1,h2.2.mono fun e w'' he=>by cases e<;>first|exact ih _ _ he|exact he⟩
          |exact ⟨h2.1,h2.2.mono fun v w'' he=>ih _ _ he⟩
          |exact h2
       |halt x w'=>cases x<;>exact h2
     · exact UU h hQ
   · rename_i hw;rw [US hw] at h;exact ⟨fun _ _=>trivial,ih _ _ h⟩
def aCr (P:Program) (c:Ctx) (r n:Nat) (code:Code) (Q:Exit→Act→World→Prop) (st:St):Prop:=∀a w,Holds c st a w→code.wpIn (Fence.wide.inRound r) n P Q a w
theorem Sz {c:Ctx} {r n id:Nat} {l:List Oper} {Q:Exit→Act→World→Prop} {st:St} (hQ:¬LetsOut Q) (hd:∀o∈l,∀c,o.op≠ .defer c) (h:aL P c l.toArray Q l st):aCr P c r n (.region id l.toArray false) Q st:=fun a w H=>wpIn_region_lit (Ey hQ l a w hd (h a w H))
theorem ZdC {c:Ctx} {r n:Nat} {x y:Code} {Q:Exit→Act→World→Prop} {st:St} (h:aCr P c r n x (Exit.then (y.wpIn (Fence.wide.inRound r) n P Q) Q) st):aCr P c r n (x.seq y) Q st:=fun a w H=>wpIn_seq (h a w H)
theorem Zau {c:Ctx} {r n:Nat} {y:Code} {Q:Exit→Act→World→Prop} {st:St} (h:aCr P c r n y Q st):aN c (Exit.then (y.wpIn (Fence.wide.inRound r) n P Q) Q) st:=fun a w H=>h a w H
theorem Ze0 {c:Ctx} {r n id:Nat} {x:Code} {Q:Exit→Act→World→Prop} {st:St} (h:aCr P c r n x (Exit.inBlock id Q) st):aCr P c r n (.block id x) Q st:=fun a w H=>wpIn_block (h a w H)
theorem Zg3 {c:Ctx} {r n t:Nat} {x y:Code} {b:Bool} {p:PV} {Q:Exit→Act→World→Prop} {sL hP:List (Nat×Ent)} (ht:lk sL t=some (.bool b,p)) (h1:b=true→aCr P c r n x Q ⟨sL,hP⟩) (h2:b=false→aCr P c r n y Q ⟨sL,hP⟩):aCr P c r n (.cond (.tmp t) x y) Q ⟨sL,hP⟩:=fun a w H=>by
 have he:a.eval (.tmp t)= .bool b:=by
  obtain ⟨F,H'⟩:=H;exact (H'.rd.ev (x:= .tmp t) ht).1
 exact wpIn_cond_split he (fun hb=>h1 hb a w H) (fun hb=>h2 hb a w H)
theorem Zg4 {c:Ctx} {r n:Nat} {Q:Exit→Act→World→Prop} {st:St} (h:aN c Q st):aCr P c r n .skip Q st:=fun a w H=>wpIn_skip (h a w H)
theorem Zg5 {c:Ctx} {r n id:Nat} {Q:Exit→Act→World→Prop} {st:St} (h:aX c Q id st):aCr P c r n (.exit id) Q st:=fun a w H=>wpIn_exit (h a w H)
end
end Go.En
namespace Go.Proofs.YtgfabnhpllkebaaGreatDoor
open Go.RowKit Go.Cb Go.En Tryz
set_option linter.all false
theorem Ko {α:Type} {l m:List α} (h:l<+:m) {i:Nat} {x:α} (hx:l[i]? =some x):m[i]? =some x:=by
 obtain ⟨r,rfl⟩:=h
 rw [X9 (Zf hx)];exact hx
section
variable {α κ:Type} [DecidableEq κ]
def posK (f:α→κ):List α→κ→Nat
 |[],_=>0
 |x::l,k=>if f x=k then 0 else posK f l k+1
theorem OO {f:α→κ}:∀{l:List α} {k:κ},posK f l k<l.length↔∃x∈l,f x=k
 |[],k=>by simp [posK]
 | x :: l,k=>by
   have:=OO (f:=f) (l:=l) (k:=k);rw [posK,Xk];split
   · rename_i h;exact ⟨fun _=>⟨x,Xi ..,h⟩,fun _=>oM⟩
   · rename_i h;rw [UD,this];constructor
     · rintro ⟨y,h1,h2⟩;exact ⟨y,Xn _ h1,h2⟩
     · rintro ⟨y,h1,h2⟩;rcases Xq.1 h1 with rfl|h1
       · exact UU h2 h
       · exact ⟨y,h1,h2⟩
theorem Zav {f:α→κ}:∀{l:List α} {k:κ} {x:α},l[posK f l k]? =some x→f x=k
 |[],k,x,h=>by simp [posK] at h
 | y ::l,k,x,h=>by
   rw [posK] at h;split at h
   · rename_i h1;simp only [Vs,Option.some.injEq] at h;subst h;exact h1
   · simp only [Vr] at h;exact Zav h
theorem Rj {f:α→κ} {l:List α} {k:κ} (h:posK f l k<l.length):∃x,l[posK f l k]? =some x∧f x=k:=by
 obtain ⟨x,hx⟩:=Zp h
 exact ⟨x,hx,Zav hx⟩
theorem Rk {f:α→κ}:∀{l:List α} {k:κ} (m:List α),posK f l k<l.length→posK f (l++m) k=posK f l k
 |[],k,m,h=>by simp at h
 | x ::l,k,m,h=>by
   rw [XW,posK,posK];rw [posK] at h;split
   · rfl
   · rename_i h1;rw [US h1,Xk,UD] at h;rw [Rk m h]
theorem Dp {f:α→κ}:∀{l:List α} {x:α},¬posK f l (f x)<l.length→posK f (l++[x]) (f x)=l.length
 |[],x,_=>by simp [posK]
 | y ::l,x,h=>by
   rw [posK] at h;rw [XW,posK];split
   · rename_i h1;rw [UT h1,Xk] at h;omega
   · rename_i h1;rw [US h1,Xk,UD] at h;rw [Dp h,Xk]
theorem Ty {κ':Type} [DecidableEq κ'] {f:α→κ} {g:α→κ'}:∀{l:List α} {k:κ} {k':κ'},(∀x∈l,f x=k↔g x=k')→posK f l k=posK g l k'
 |[],_,_,_=>rfl
 | x::l,k,k',h=>by
   rw [posK,posK,Ty fun y hy=>h y (Xn _ hy)];have h1:=h x (Xi ..);by_cases h2:f x=k
   · rw [UT h2,UT (h1.1 h2)]
   · rw [US h2,US fun h3=>h2 (h1.2 h3)]
theorem Gm {f:α→κ}:∀{l:List α} {i:Nat} {x:α},(l.map f).Nodup→l[i]? =some x→posK f l (f x)=i
 |[],i,x,_,h=>by simp at h
 | y::l,0,x,_,h=>by
   simp only [Vs,Option.some.injEq] at h;subst h;rw [posK,UT rfl]
 | y::l,i+1,x,hn,h=>by
   simp only [Vr] at h;rw [Xp,Vc] at hn;rw [posK,US fun e=>hn.1 (by rw [e];exact List.mem_map_of_mem (Xc h)),Gm hn.2 h]
def YJ (f:α→κ):Nat→List α→List (κ×Value)
 |_,[]=>[]
 |off,x::l=>(f x, .int .i64 (off:Nat))::YJ f (off+1) l
theorem Tz (f:α→κ):∀(l:List α) (off:Nat) (k:κ),JF (YJ f off l) k=if posK f l k<l.length then some (.int .i64 ((off+posK f l k:Nat):Int)) else none
 |[],off,k=>by simp [YJ,JF,posK]
 | x :: l,off,k=>by
   rw [YJ,JF,posK,Tz f l (off+1) k];by_cases h:f x=k
   · rw [UT h.symm,UT h,UT sM];simp
   · rw [US (fun e=>h e.symm),US h,Xk];by_cases h2:posK f l k<l.length
     · rw [UT h2,UT oM];congr 3;omega
     · rw [US h2,US oM]
theorem Dq (f:α→κ) (x:α):∀(l:List α) (off:Nat),¬posK f l (f x)<l.length→O4 (YJ f off l) (f x) (.int .i64 ((off+l.length:Nat):Int))=YJ f off (l++[x])
 |[],off,_=>by simp [YJ,O4]
 | y ::l,off,h=>by
   rw [posK] at h;split at h
   · rename_i h1;rw [Xk] at h;omega
   · rename_i h1;rw [Xk,UD] at h;rw [YJ,O4,US (fun e=>h1 e.symm),XW,YJ,←Dq f x l (off+1) h,Xk];congr 4;omega
theorem Zaw (f:α→κ):∀(l:List α) (off:Nat),(YJ f off l).length=l.length
 |[],_=>rfl
 |x::l,off=>by rw [YJ,Xk,Zaw f l,Xk]
def visit (f:α→κ) (cap:Nat) (o:List α) (x:α):Option (List α×Nat):=
 if posK f o (f x)<o.length then some (o,posK f o (f x)) else if cap≤o.length then none else some (o++[x],o.length)
theorem WQ {f:α→κ} {cap:Nat} {o:List α} {x:α} (h:posK f o (f x)<o.length):visit f cap o x=some (o,posK f o (f x)):=by unfold visit;rw [UT h]
theorem WR {f:α→κ} {cap:Nat} {o:List α} {x:α} (h:¬posK f o (f x)<o.length) (hc:o.length<cap):visit f cap o x=some (o++[x],o.length):=by unfold visit;rw [US h,US oM]
theorem Dr {f:α→κ} {cap:Nat} {o:List α} {x:α} (h:¬posK f o (f x)<o.length) (hc:cap≤o.length):visit f cap o x=none:=by unfold visit;rw [US h,UT hc]
end
structure Srch (α κ:Type) where
 key:α→κ
 cap:Nat
 m:Nat
 step:Nat→α→Nat→α
section
variable {α κ:Type} [DecidableEq κ] (W:Srch α κ)
def Srch.row (i:Nat) (x:α) (o:List α):Nat→Option (List α×List Nat)
 |0=>some (o,[])
 |s+1=>(Srch.row i x o s).bind fun q=>(visit W.key W.cap q.1 (W.step i x s)).map fun v=>(v.1,q.2++[v.2])
def Srch.upto (x0:α):Nat→Option (List α×List (List Nat))
 |0=>some ([x0],[])
 | i+1=>(Srch.upto x0 i).bind fun q=>match q.1[i]? with
   |none=>some q
   |some x=>(W.row i x q.1 W.m).map fun v=>(v.1,q.2++[v.2])
def Srch.all (x0:α):Option (List α×List (List Nat)):=W.upto x0 W.cap
variable {W}
theorem Srch.row_snoc {i:Nat} {x:α} {o o' o'':List α} {r:List Nat} {s n:Nat} (h:W.row i x o s=some (o',r)) (hv:visit W.key W.cap o' (W.step i x s)=some (o'',n)):W.row i x o (s+1)=some (o'',r++[n]):=by
 rw [Srch.row,h,Vk,hv];rfl
theorem Srch.row_out {i:Nat} {x:α} {o o':List α} {r:List Nat} {s:Nat} (h:W.row i x o s=some (o',r)) (hv:visit W.key W.cap o' (W.step i x s)=none):W.row i x o (s+1)=none:=by
 rw [Srch.row,h,Vk,hv];rfl
theorem Srch.row_none {i:Nat} {x:α} {o:List α} {s:Nat} (h:W.row i x o s=none):∀t,W.row i x o (s+t)=none
 |0=>h
 |t+1=>by rw [←XV,Srch.row,Srch.row_none h t];rfl
theorem Srch.upto_none {x0:α} {i:Nat} (h:W.upto x0 i=none):∀t,W.upto x0 (i+t)=none
 |0=>h
 |t+1=>by rw [←XV,Srch.upto,Srch.upto_none h t];rfl
theorem Srch.upto_stop {x0:α} {i:Nat} {q:List α×List (List Nat)} (h:W.upto x0 i=some q) (hl:q.1.length≤i):∀t,W.upto x0 (i+t)=some q
 |0=>h
 |t+1=>by rw [←XV,Srch.upto,Srch.upto_stop h hl t,Vk,XL oM]
theorem Srch.upto_snoc {x0 x:α} {i:Nat} {o o':List α} {rows:List (List Nat)} {r:List Nat} (h:W.upto x0 i=some (o,rows)) (hx:o[i]? =some x) (hr:W.row i x o W.m=some (o',r)):W.upto x0 (i+1)=some (o',rows++[r]):=by
 rw [Srch.upto,h,Vk];dsimp only;rw [hx];dsimp only;rw [hr];rfl
theorem Srch.upto_out {x0 x:α} {i:Nat} {o:List α} {rows:List (List Nat)} (h:W.upto x0 i=some (o,rows)) (hx:o[i]? =some x) (hr:W.row i x o W.m=none):W.upto x0 (i+1)=none:=by
 rw [Srch.upto,h,Vk];dsimp only;rw [hx];dsimp only;rw [hr];rfl
structure Srch.Met (W:Srch α κ) (P:α→Prop) (x0:α) (o:List α):Prop where
 zero:o[0]? =some x0
 cap:o.length≤W.cap
 nd:(o.map W.key).Nodup
 p:∀x∈o,P x
theorem Srch.Met.start {P:α→Prop} {x0:α} (hc:1≤W.cap) (hP:P x0):W.Met P x0 [x0]:=⟨rfl,hc,sM,by simpa using hP⟩
theorem Srch.Met.pos {P:α→Prop} {x0:α} {o:List α} (h:W.Met P x0 o):0<o.length:=Zf h.zero
theorem R7 {f:α→κ} {cap:Nat} {o o':List α} {x:α} {n:Nat} (h:visit f cap o x=some (o',n)):o<+:o'∧n<o'.length∧posK f o' (f x)=n:=by
 unfold visit at h
 split at h
 · rename_i h1
   cases h;exact ⟨Vt _,h1,rfl⟩
 · rename_i h1;split at h
   · cases h
   · cases h;exact ⟨Un _ _,sM,Dp h1⟩
theorem Srch.Met.visit {P:α→Prop} {x0 x:α} {o o':List α} {n:Nat} (h:W.Met P x0 o) (hx:P x) (hv:visit W.key W.cap o x=some (o',n)):W.Met P x0 o':=by
 unfold Go.Proofs.YtgfabnhpllkebaaGreatDoor.visit at hv
 split at hv
 · cases hv;exact h
 · rename_i h1;split at hv
   · cases hv
   · rename_i h2
     cases hv;refine ⟨?_,by rw [Xb,Xs];omega,?_,fun y hy=>?_⟩
     · rw [X9 h.pos];exact h.zero
     · rw [Xr,Vx];refine ⟨h.nd,sM,fun a ha b hb e=>h1 (OO.2 ?_)⟩;subst e;obtain ⟨y,hy,rfl⟩:=Xg.1 ha;simp at hb;exact ⟨y,hy,hb⟩
     · rcases Xh.1 hy with hy|hy
       · exact h.p y hy
       · rw [Xl.1 hy];exact hx
theorem Srch.Met.row {P:α→Prop} {x0 x:α} {i:Nat} {o:List α} (h:W.Met P x0 o) (hx:∀s,s<W.m→P (W.step i x s)):∀{s:Nat} {o':List α} {r:List Nat},s≤W.m→W.row i x o s=some (o',r)→W.Met P x0 o'∧o<+:o'∧r.length=s∧∀(t n:Nat),r[t]? =some n→n<o'.length∧posK W.key o' (W.key (W.step i x t))=n
 | 0,o',r,_,hr=>by
   rw [Srch.row] at hr;cases hr;exact ⟨h,Vt _,rfl,fun t n ht=>by simp at ht⟩
 | s + 1,o',r,hs,hr=>by
   rw [Srch.row,XU] at hr;obtain ⟨⟨o1,r1⟩,h1,h2⟩:=hr;obtain ⟨⟨o2,n⟩,h3,h4⟩:=XA.1 h2
   cases h4;dsimp only at h3 ⊢;obtain ⟨h5,h6,h7,h8⟩:=Srch.Met.row h hx oM h1;obtain ⟨h9,h10,h11⟩:=R7 h3;refine ⟨h5.visit (hx s oM) h3,h6.trans h9,by rw [Xb,h7];rfl,fun t n' ht=>?_⟩;rw [VU] at ht;split at ht
   · obtain ⟨h12,h13⟩:=h8 t n' ht;obtain ⟨e,rfl⟩:=h9;refine ⟨by rw [Xb];omega,?_⟩;rw [Rk e (by rw [h13];exact h12)];exact h13
   · have h14:t=s:=by
      have:=Zf ht;simp only [Xs] at this;omega
     subst h14;rw [h7,VE] at ht;simp only [Vs,Option.some.injEq] at ht;subst ht;exact ⟨h10,h11⟩
structure Srch.Ok (W:Srch α κ) (P:α→Prop) (x0:α) (o:List α) (rows:List (List Nat)):Prop extends W.Met P x0 o where
 len:∀r∈rows,r.length=W.m
 to:∀(i:Nat) (x:α) (r:List Nat) (t n:Nat),o[i]? =some x→rows[i]? =some r→r[t]? =some n→n<o.length∧posK W.key o (W.key (W.step i x t))=n
theorem Srch.ok {P:α→Prop} {x0:α} (hc:1≤W.cap) (h0:P x0) (hP:∀i x s,P x→s<W.m→P (W.step i x s)):∀{i:Nat} {o:List α} {rows:List (List Nat)},W.upto x0 i=some (o,rows)→W.Ok P x0 o rows∧(i≤o.length→rows.length=i)∧(o.length≤i→rows.length=o.length)
 | 0,o,rows,h=>by
   rw [Srch.upto] at h;cases h;exact ⟨⟨Srch.Met.start hc h0,sM,sM⟩,fun _=>rfl,fun h=>by simp at h⟩
 | i + 1, o,rows,h=>by
   rw [Srch.upto,XU] at h;obtain ⟨⟨o1,rows1⟩,h1,h2⟩:=h;obtain ⟨h3,h4,h4'⟩:=Srch.ok hc h0 hP h1;dsimp only at h2
   cases hx:o1[i]? with
   | none=>
     rw [hx] at h2;cases h2;have:=Uh.1 hx;exact ⟨h3,fun h5=>oM,fun _=>h4' this⟩
   | some x=>
     rw [hx] at h2;obtain ⟨⟨o2,r⟩,h5,h6⟩:=XA.1 h2
     cases h6;dsimp only;have hil:=Zf hx;have h4:=h4 oM;obtain ⟨h7,h8,h9,h10⟩:=h3.toMet.row (fun s hs=>hP i x s (h3.p x (Xc hx)) hs) (Xj _) h5;have hle:=h8.length_le;refine ⟨⟨h7,fun r' hr'=>?_,fun j y r' t n hj hr' ht=>?_⟩,fun _=>by rw [Xb,h4];rfl,fun _=>by rw [Xb,h4,Xs];omega⟩
     · rcases Xh.1 hr' with hr'|hr'
       · exact h3.len r' hr'
       · rw [Xl.1 hr'];exact h9
     · rw [VU] at hr';split at hr'
       · rename_i hjl;obtain ⟨z,hz⟩:=Zp (show j<o1.length by omega);have hzy:=Ko h8 hz;rw [hzy] at hj;cases hj;obtain ⟨h12,h13⟩:=h3.to j y r' t n hz hr' ht;obtain ⟨e,rfl⟩:=h8;refine ⟨by rw [Xb];omega,?_⟩;rw [Rk e (by rw [h13];exact h12)];exact h13
       · have hj2:j=i:=by
          have:=Zf hr';simp only [Xs] at this;omega
         subst hj2;rw [h4,VE] at hr';simp only [Vs,Option.some.injEq] at hr';subst hr';have hzy:=Ko h8 hx;rw [hzy] at hj;cases hj;exact h10 t n ht
theorem Srch.all_some {x0:α} {i:Nat} {q:List α×List (List Nat)} (h:W.upto x0 i=some q) (hl:q.1.length≤i) (hi:i≤W.cap):W.all x0=some q:=by
 have:=Srch.upto_stop h hl (W.cap-i)
 rw [show i+(W.cap-i)=W.cap by omega] at this
 exact this
theorem Srch.all_none {x0:α} {i:Nat} (h:W.upto x0 i=none) (hi:i≤W.cap):W.all x0=none:=by
 have:=Srch.upto_none h (W.cap-i)
 rw [show i+(W.cap-i)=W.cap by omega] at this
 exact this
theorem Srch.row_fails {i:Nat} {x:α} {o:List α} {s:Nat} (h:W.row i x o s=none) (hs:s≤W.m):W.row i x o W.m=none:=by
 have:=Srch.row_none h (W.m-s)
 rwa [show s+(W.m-s)=W.m by omega] at this
end
set_option maxRecDepth 100000
theorem Jn (e n:Nat) (l:List ByteArray):share (.own e 1 n (l.map Z'))= .sl n (l.map Z'):=by
 rw [share,Yb,XI];rfl
def KL:List Int→Int
 |[]=>0
 |x::l=>if x=0 then KL l else x
section
variable {κ:Type} [DecidableEq κ]
end
end Go.Proofs.YtgfabnhpllkebaaGreatDoor
namespace Go.En
open Go.RowKit Go.Cb
theorem AFg.exact2 {P:Program} {g:Nat} {p q:PV} {x:Value} (h:AFg P g [p,q] (· = .val x)) {M:BS} {W:World} {u v:Value} (hu:Shr M W u p) (hv:Shr M W v q):
 Calls P g #[u,v] W fun e w'=>e= .returned x∧∃q os',w'=Go.Sort.grow (W.drewN q) os':=h.exact (vs:=[u,v]) rfl fun i a r h1 h2=>by
 match i with
 |0=>simp at h1 h2;subst h1 h2;exact hu
 |1=>simp at h1 h2;subst h1 h2;exact hv
 |i+2=>simp at h1
end Go.En
namespace Go.Proofs.YtgfabnhpllkebaaGreatDoor
open Go.RowKit Go.Cb Go.En Tryz
set_option linter.all false
set_option maxRecDepth 100000
theorem ZjJ (l:List Int):AFg prog 204 [pInts l] (· =pInt (KL l)):=by
 refine AFg.of_body 18 func204 rfl ntmps204 (Xa rfl) ?_
 intro w0 M0 vs hl hv
 obtain ⟨v0,rfl⟩:=WL hl
 clear hl hv
 refine WY 0 rfl fun hlen=>?_
 refine Ze ?_
 (refine xL 2 Za ?_<;>refine Zg ?_)
 (refine xL 3 Za ?_<;>refine Zg ?_)
 (refine xL 6 Zb (xL 7 (ZR Zu) (xL 8 Zb ?_))<;>refine Zc ?_)
 refine ZD (ι:={k:Nat//k≤l.length∧KL l=KL (l.drop k)}) (fun k=>⟨[(3,_,_),(6,_,_),(7,_,_),(8, .int .i64 k.1,pInt k.1)],[]⟩) (fun k=>l.length-k.1) ⟨0,oM,rfl⟩ (fun a w H=>H.weaken ⟨rfl,rfl,rfl,rfl,trivial⟩ trivial) ?_
 rintro ⟨k,hk,hp⟩
 dsimp only
 refine Ze ?_
 (refine xL 9 ZQ ?_<;>refine Zc ?_)
 refine cX ?_ ?_<;>intro hb9
 · first |exact bN hb9|(
 obtain ⟨x,hx⟩:=Zp (show k<l.length by omega);have e1:=Ym (f:=pInt) hx;(have hs:KL (l.drop k)=if x=0 then KL (l.drop (k+1)) else x:=by rw [SZ hx,KL]);refine Ze ?_;(refine xL 10 (ZF Zu) ?_<;>(refine yL 11 (Yo Zo) fun v11 h=>?_;cases h)<;>refine xL 5 Za ?_<;>refine Zg ?_)
 (refine xL 12 Zb (xL 13 Zb (xL 14 YH ?_))<;>refine Zc ?_)
 refine cX ?_ ?_<;>intro hb14
 · first|exact bN hb14|(
 refine Ze ?_;(refine xL 15 Zb (xL 2 Za ?_)<;>refine Zc ?_)
 refine Zv (results204) rfl ?_;rw [hp,hs,US hb14])
 · first|exact bN hb14|(
 refine Ze ?_;(refine xL 16 ZH (xL 8 Zb ?_)<;>refine Zc ?_)
 refine Zn (
  ⟨k+1,oM,by rw [hp,hs,UT (by simpa using hb14)]⟩
  ) (by dsimp only;omega) ⟨rfl,rfl,rfl,rfl,trivial⟩ trivial))
 · first|exact bN hb9|(
 refine Ze ?_;(refine xL 17 Zb (xL 2 Za ?_)<;>refine Zc ?_)
 refine Zv (results204) rfl ?_;rw [hp,Vu oM];rfl)
structure M4 where
 a:List (ByteArray×Int)
 s:List (ByteArray×Int)
 f:List (ByteArray×Int)
 q:List (Pr×Int)
section
variable {κ:Type} [DecidableEq κ]
structure MOk (m:List (κ×Int)) (b:Nat):Prop where
 nd:(m.map (·.1)).Nodup
 len:m.length≤b
 bd:∀x∈m,0≤x.2∧x.2≤b*1048576
end
structure KOk (st:M4) (b:Nat):Prop where
 a:MOk st.a b
 s:MOk st.s b
 f:MOk st.f b
 q:MOk st.q b
 k:∀x∈st.q,prOk x.1
end Go.Proofs.YtgfabnhpllkebaaGreatDoor
namespace Go.En
open Go.RowKit Go.Cb
end Go.En
namespace Go.Proofs.YtgfabnhpllkebaaGreatDoor
open Go.RowKit Go.Cb Go.En Tryz
set_option linter.all false
set_option maxRecDepth 100000
theorem C1 {α:Type}:∀(ps:List PV) (a b c:List PV) (j:Nat),a.length=j→b.length=ps.length→Tn (a++b++c) j ps=a++ps++c
 | [],a,b,c,j,ha,hb=>by
   have:b=[]:=XO hb;subst this;rfl
 | p ::ps,a,x::b,c,j,ha,hb=>by
   rw [Tn];have h1:(a++(x::b)++c).set j p=(a++[p])++b++c:=by
    subst ha;rw [Xz,List.set_append_right _ _ (Xj _),VE];simp
   rw [h1,C1 (α:=α) ps (a++[p]) b c (j+1) (by simp [ha]) (by simpa using hb)];simp
def Kp {α:Type} (p:α→Bool) (l:List α) (k:Nat):List α:=(l.take k).filter fun s=> !p s
theorem Lb {α:Type} {p:α→Bool} {l:List α} {k:Nat} {x:α} (hx:l[k]? =some x) (h:p x=true):Kp p l (k+1)=Kp p l k:=by
 unfold Kp;rw [ZE hx,Vd];simp [h]
theorem Ds {α:Type} {p:α→Bool} {l:List α} {k:Nat} {x:α} (hx:l[k]? =some x) (h:p x=false):Kp p l (k+1)=Kp p l k++[x]:=by
 unfold Kp;rw [ZE hx,Vd];simp [h]
theorem Rl {α:Type} (p:α→Bool) (l:List α) (k:Nat):(Kp p l k).length≤k:=by
 unfold Kp
 have h1:=VJ (fun s=> !p s) (l.take k)
 rw [Xx] at h1
 omega
def Sj {α:Type} (p:α→Bool) (l:List α) (k:Nat):List α:=Kp p l k++l.drop (Kp p l k).length
theorem ZjK {α:Type} {p:α→Bool} {l:List α} {k:Nat} {x:α} (hx:l[k]? =some x):(Sj p l k)[k]? =some x:=by
 have h:=Rl p l k
 unfold Sj
 rw [Vf h,Vo,show (Kp p l k).length+(k-(Kp p l k).length)=k by omega]
 exact hx
theorem Zg6 {α:Type} (p:α→Bool) (l:List α) {k:Nat} (hk:k≤l.length):(Sj p l k).length=l.length:=by
 have h:=Rl p l k
 unfold Sj
 rw [Xb,List.length_drop];omega
theorem Zg7 {α:Type} {f:α→List PV} {m:Nat} (hf:∀x,(f x).length=m) {p:α→Bool} {l:List α} {k:Nat} {x:α} (hx:l[k]? =some x) (h:p x=false):
 Tn ((Sj p l k).flatMap f) ((Kp p l k).length*m) (f x)=(Sj p l (k+1)).flatMap f:=by
 have hl:=Rl p l k
 have hlt:=Zf hx
 unfold Sj
 rw [Ds hx h,Xb,Xs,VC (show (Kp p l k).length<l.length by omega)]
 rw [XR,Xu,←Xz,C1 (α:=α) _ _ _ _ _ (flat_len hf _) (by rw [hf,hf]),XR,XR]
 simp
theorem C2 {α:Type} {p:α→Bool} {l:List α}:(idx p l= -1∧∀s∈l,p s=false)∨∃i x,idx p l=(i:Nat)∧l[i]? =some x∧p x=true∧∀j y,j<i→l[j]? =some y→p y=false:=by
 unfold idx
 cases h:l.findIdx? p with
 |none=>exact .inl ⟨rfl,by rw [UL] at h;exact h⟩
 | some i=>
   rw [UM] at h;obtain ⟨hi,hp,hn⟩:=h;exact .inr ⟨i,l[i],rfl,sM,hp,fun j y hj hy=>by
    have:=hn j hj;obtain ⟨hj',rfl⟩:=XM.1 hy;simpa using this⟩
theorem Ze1 {α:Type} {p:α→Bool} {l:List α} {k:Nat} (h:∀j y,j<k→l[j]? =some y→p y=false):Kp p l k=l.take k:=by
 unfold Kp
 rw [UC]
 intro a ha
 obtain ⟨i,hi,rfl⟩:=VM ha
 rw [Xx] at hi
 have:=h i _ oM (by rw [XX (by omega:i<l.length)])
 simp [List.getElem_take,this]
end Go.Proofs.YtgfabnhpllkebaaGreatDoor
