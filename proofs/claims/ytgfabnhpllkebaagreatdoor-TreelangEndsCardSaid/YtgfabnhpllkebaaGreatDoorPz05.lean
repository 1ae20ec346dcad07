/-
  Walks of functions and plain laws of the chapter, as the claim needs them.
-/
import Derived.WideLaws
import Derived.Test.YtgfabnhpllkebaaGreatDoorPz04
import Derived.Test.YtgfabnhpllkebaaGreatDoorPz03
import Derived.Test.YtgfabnhpllkebaaGreatDoorMShelfT
import Derived.Test.YtgfabnhpllkebaaGreatDoorPz01
namespace Go.Proofs.YtgfabnhpllkebaaGreatDoor
open Go.RowKit Go.Cb Go.En Tryz
set_option linter.all false
set_option maxRecDepth 100000
theorem Zcr (t:Nd):szT t=1+szL t.l:=by cases t;rw [szT];rfl
theorem OL (l:List Nd):l.length≤szL l:=by
 induction l with
 |nil=>exact Xj _
 |cons x l ih=>have:=Zdr x;rw [szL,Xk];omega
theorem ZeS {s:ByteArray} (h:KC s=true):s.size≤40:=by
 rcases XF 40 s.size with h1|h1
 · rw [LK (.inr h1)] at h;cases h
 · exact h1
theorem ZgP {t:Nd} (h:rightT t=true):t.act.size≤40:=by
 unfold rightT at h
 split at h
 · simp only [Xe] at h;exact ZeS h.2
 · split at h
   · simp only [Xe,UP] at h;rw [h.2];decide
   · split at h
     · simp only [Xe,UP] at h;rw [h.2];decide
     · split at h
       · simp only [Xe,UP] at h;rw [h.2];decide
       · cases h
theorem Zjz:∀t:Nd,okT t=true→szT t≤1000000→FitT t:=Nd.ind fun o a l ih hok hs=>by
 obtain ⟨h1,h2⟩:=Wx.1 hok
 have h3:=Zcr (.mk o a l)
 have h4:=OL l
 have h5:=ZgP h1
 have h6:=RY h1
 simp only [Nd.l,Nd.act,Nd.op] at h3 h5 h6 h2
 refine .mk _ (by show l.length≤_;omega) (by show a.size≤_;omega) (by show _≤o;omega) (by show o≤_;omega) fun x hx=>?_
 have h7:=KJ (show x∈l from hx)
 exact ih x hx (h2 x hx) oM
theorem ZlV:Rr (.agg [.val (.int .i64 2), .val (.string ByteArray.empty), .val (.slice none 0 0)]) (pTr ZmO):=Rr.agg rfl fun i a b ha hb=>by
 match i with
 |0=>cases ha;cases hb;exact Rr.rfl' _
 |1=>cases ha;cases hb;exact Rr.rfl' _
 |2=>cases ha;cases hb;exact Rr.nil
 |i+3=>simp at ha
end Go.Proofs.YtgfabnhpllkebaaGreatDoor
namespace Go.En
open Go.RowKit Go.Cb
set_option linter.all false
section
variable {P:Program} {c:Ctx} {ops:Array Oper} {Q:Exit→Act→World→Prop} {rest:List Oper} {sL hP:List (Nat×Ent)} {o:Oper}
end
section
variable {P:Program} {st:St} {o:Oper} {x y:Operand} {q q':PV} {t t':TypeId}
end
inductive ResR (P:Program) (sL hP:List (Nat×Ent)):ResultVar→PV→Prop
 |tmp {t:Nat} {v:Value} {p:PV} (ht:lk sL t=some (v,p)):ResR P sL hP (.tmp t) p
 |cell {t ty k e k' n:Nat} {h:Value} {q:PV} {cs:List PV} (l:Nat) (hT:AggT P ty k=true) (ht:lk sL t=some (padd (sbase h) 0,q)) (hl:lk hP l=some (h, .own e k' n cs)) (hp:k≤cs.length) (hk:0<k) (hsh:(cs.take k).all isSh=true):ResR P sL hP (.cell t ty) (.agg (cs.take k))
 |cell1 {t ty e k' n:Nat} {h:Value} {q p:PV} {cs:List PV} (l:Nat) (hT:NoAgg P ty=true) (ht:lk sL t=some (padd (sbase h) 0,q)) (hl:lk hP l=some (h, .own e k' n cs)) (hp:cs[0]? =some p) (hsh:isSh p=true):ResR P sL hP (.cell t ty) p
def Zao (tmps:Array Value):ResultVar→Sem Value
 | .tmp t=>pure (tmps.getD t undef)
 | .cell a t=>do loadVar t (←asAddr (tmps.getD a undef))
section
variable {P:Program} {c:Ctx} {sL hP:List (Nat×Ent)}
theorem ZeT {F:Nat→BS} {a:Act} {w:World} (H:HoldsF c (⟨sL,hP⟩:St) F a w) {t ty l e k' n:Nat} {h:Value} {q p:PV} {cs:List PV} (hT:NoAgg P ty=true) (ht:lk sL t=some (padd (sbase h) 0,q)) (hl:lk hP l=some (h, .own e k' n cs)) (hp:cs[0]? =some p) (hsh:isSh p=true):
 ∃V A,(asAddr (a.tmps.getD t undef)).run P w= .ok A w∧(loadVar ty A).run P w= .ok V w∧Shr (mof c hP F) w V p:=by
 have hv:=(H.sl t _ _ ht).1
 obtain ⟨xs,Fs,hrow,hlen,hTr,hd,hb,hF'⟩:=(H.tr l _ _ hl).row
 have hj:=Zf hp
 rcases YG hrow with ⟨_,_,rfl⟩|⟨g,cap,rfl,h1,h2,h3⟩
 · simp at hlen;rw [hlen] at hj;simp at hj
 obtain ⟨y,hy⟩:=Yh hp hlen
 have hS:=(hTr 0 y p hy hp).sh hsh
 refine ⟨y,⟨g,0,none⟩,?_,?_,hS⟩
 · simp only [sbase,padd,Xv] at hv;simp [X0,hv,asAddr]
 · have:=Wq hrow hy;simp [loadVar,NoAgg.run hT,load,Sem.run,this]
theorem ResR.run {r:ResultVar} {p:PV} {F:Nat→BS} {a:Act} {w:World} (hr:ResR P sL hP r p) (H:HoldsF c (⟨sL,hP⟩:St) F a w):∃V,(Zao a.tmps r).run P w= .ok V w∧Shr (mof c hP F) w V p:=by
 cases hr with
 | tmp ht=>
   obtain ⟨h1,h2⟩:=H.sl _ _ _ ht;exact ⟨_,by simp [Zao,X0,h1],h2⟩
 | cell l hT ht hl hp hk hsh=>
   obtain ⟨V,A,h0,h1,h2⟩:=G8 H hT ht hl hp hk hsh;exact ⟨V,by simp only [X0] at h0;simp [Zao,h0,h1],h2⟩
 | cell1 l hT ht hl hp hsh=>
   obtain ⟨V,A,h0,h1,h2⟩:=ZeT H hT ht hl hp hsh;exact ⟨V,by simp only [X0] at h0;simp [Zao,h0,h1],h2⟩
theorem Zcs (fn:Func) (tmps:Array Value):results fn tmps=(do let vs ←fn.results.mapM (Zao tmps);pure (if h:vs.size=1 then vs[0] else Value.tuple vs)):=by
 unfold results
 congr 1
theorem ZgQ {fn:Func} {r0 r1 r2:ResultVar} {tmps:Array Value} {w:World} {V0 V1 V2:Value} (hr:fn.results= #[r0,r1,r2]) (h0:(Zao tmps r0).run P w= .ok V0 w) (h1:(Zao tmps r1).run P w= .ok V1 w) (h2:(Zao tmps r2).run P w= .ok V2 w):(results fn tmps).run P w= .ok (.tuple #[V0,V1,V2]) w:=by
 rw [Zcs,hr]
 simp [h0,h1,h2]
theorem Znh {M:BS} {w:World} {V0 V1 V2:Value} {p0 p1 p2:PV} (h0:Shr M w V0 p0) (h1:Shr M w V1 p1) (h2:Shr M w V2 p2):Shr M w (.tuple #[V0,V1,V2]) (.tup [p0,p1,p2]):= .tup [V0,V1,V2] _ rfl fun i v q hv hq=>by
 match i with
 |0=>cases hv;cases hq;exact h0
 |1=>cases hv;cases hq;exact h1
 |2=>cases hv;cases hq;exact h2
 |i+3=>simp at hv
theorem Es {fn:Func} {R:PV→Prop} {r0 r1 r2:ResultVar} {p0 p1 p2:PV} (hr:fn.results= #[r0,r1,r2]) (h0:ResR P sL hP r0 p0) (h1:ResR P sL hP r1 p1) (h2:ResR P sL hP r2 p2) (hR:R (.tup [p0,p1,p2])) (hN:∀b,¬c.N0 b:=by intro _ h;exact h) (hdf:c.df=[]:=by exact rfl):aR c (bodyPost P fn (GI c R)) (⟨sL,hP⟩:St):=fun a w ⟨F,H⟩=>by
 obtain ⟨V0,g0,s0⟩:=h0.run H
 obtain ⟨V1,g1,s1⟩:=h1.run H
 obtain ⟨V2,g2,s2⟩:=h2.run H
 refine ⟨H.df.trans hdf, .tuple #[V0,V1,V2],ZgQ hr g0 g1 g2,_,_,fun _=>False,rfl,hR,H.ext.ext (fun b _=>hN b), .shr ((Znh s0 s1 s2).anti fun b _ hb=>?_) (fun _ h=>h),fun _ h=>h.elim,H.dw⟩
 rcases hb with hb|hb
 · exact .inl hb
 · exact hb.elim
end
end Go.En
namespace Go.Proofs.YtgfabnhpllkebaaGreatDoor
open Go.RowKit Go.Cb Go.En Tryz
set_option linter.all false
set_option maxRecDepth 100000
structure TokI (l l':List UInt8) (p:Int×Int) (out:List Tk):Prop where
 eq:toksB l' p out=toksB l (1,1) []
 len:l'.length≤l.length
 suf:∀c∈l',c∈l
 a1:1≤p.1
 a2:p.1+l'.length≤1+l.length
 b1:1≤p.2
 b2:p.2+l'.length≤1+l.length
 out:out.length≤4000
def tkP (t:Tk):Int×List UInt8:=(t.kind,t.text)
def Reads (ks:List (Int×List UInt8)) (x:Nd):Prop:=∀(toks m:List Tk) (f:Nat),toks.map tkP=ks→Zal m [40]=false→ks.length<f→rdT f (toks++m)= .ok x m
theorem map_cons {α β:Type} {g:α→β} {l:List α} {b:β} {m:List β} (h:l.map g=b::m):∃a l',l=a::l'∧g a=b∧l'.map g=m:=by
 cases l with
 |nil=>cases h
 |cons a l'=>rw [Xp,List.cons.injEq] at h;exact ⟨a,l',rfl,h.1,h.2⟩
end Go.Proofs.YtgfabnhpllkebaaGreatDoor
namespace Go.En
open Go.RowKit Go.Cb
set_option linter.all false
section
variable {P:Program} {c:Ctx} {sL hP:List (Nat×Ent)}
end
section
variable {P:Program} {c:Ctx} {ops:Array Oper} {Q:Exit→Act→World→Prop} {Pp:List PanicEntry→World→Prop} {Z:Nat→Bool} {K:List Nat} {fuel:Nat} {listed:Array Bool} {sL hP:List (Nat×Ent)} {o:Oper}
end
end Go.En
namespace Go.Proofs.YtgfabnhpllkebaaGreatDoor
open Go.RowKit Go.Cb Go.En Tryz
set_option linter.all false
set_option maxRecDepth 100000
end Go.Proofs.YtgfabnhpllkebaaGreatDoor
