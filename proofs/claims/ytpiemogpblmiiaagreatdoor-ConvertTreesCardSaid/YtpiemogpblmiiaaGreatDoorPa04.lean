/-
  Walks of functions and plain laws of the chapter, as the claim needs them.
-/
import Derived.Recover
import Derived.Lib.Builder
import Derived.Lib.UnsafeStr
import Derived.Lib.AppendStr
import Derived.Laws.Externs
import Derived.Laws.Slices
import Derived.Test.YtpiemogpblmiiaaGreatDoorPa03
import Derived.Test.YtpiemogpblmiiaaGreatDoorPa01
namespace Go.En
open Go.RowKit Go.Cb
set_option linter.all false
structure PiT (P:Program) (t ks s e:Nat) (z:Value):Prop where
 ht:P.underlying t=some (.map ks e)
 hu:P.underlying ks=some (.array 2 s)
 hs:P.underlying s=some (.int .i64)
 hk:P.keyType ks=true
 hk2:P.keyTypeAt 2 ks=true
 hti:P.tiled 2 ks=true
 hc2:P.cellsOf ks=2
 hc1:P.cellsOf s=1
 hf:∀a b:Int,(Value.agg #[.int .i64 a, .int .i64 b]).formed P ks=true
 hsz:∃n,P.types.size=n+1
 hz:ZeroT P e z
theorem PiT.law {P:Program} {t ks s e:Nat} {z:Value} (h:PiT P t ks s e z):WideMaps.KeyLaw P ks:=deep_law (m:=2) dC h.hk2 h.hti (by rw [h.hu])
section
variable {P:Program} {c:Ctx} {ops:Array Oper} {Q:Exit→Act→World→Prop} {rest:List Oper} {sL hP:List (Nat×Ent)} {o:Oper}
end
section
variable {P:Program} {sL hP:List (Nat×Ent)} {o:Oper}
end
theorem cPx {P:Program} {c:Ctx} {ops:Array Oper} {Q:Exit→Act→World→Prop} {rest:List Oper} {sL hP:List (Nat×Ent)} {o:Oper} {ι:Type} {p1 p2:ι→PV} (d:Nat) (hC:J3 P c (⟨sL,hP⟩:St) o (fun p=>∃i,p= .tup [p1 i,p2 i])) (k:∀i v1 v2,vOf (p1 i) v1→vOf (p2 i) v2→aL P c ops Q rest ⟨put d (.tuple [v1,v2].toArray, .tup [p1 i,p2 i]) sL,hP⟩) (hsh:∀i,shD (.tup [p1 i,p2 i])=true) (hw:Z7 ops sL o=some true:=by exact rfl) (hd:o.dst=some d:=by exact rfl) (hn:d<c.nt:=by exact Xa rfl):aL P c ops Q (o::rest) (⟨sL,hP⟩:St):=
 Gz hw hC fun a w F w' v p' Fr H hR hx hT hlo hdw=>by
  obtain ⟨i,rfl⟩:=hR;have hS:=hT.shD (hsh i);rw [hd];have hS':Shr (mof c hP F) w' v (.tup [p1 i,p2 i]):=hS.anti fun b _ h=> .inl h
  cases hS with
  | tup vs ps hl h=>
    match vs,hl,h,hS' with
    |[v1,v2],_,h,hS'=>exact k i v1 v2 (h 0 v1 _ rfl rfl).vOf (h 1 v2 _ rfl rfl).vOf _ _ ⟨F,SP H hx hn hS'⟩
section
variable {P:Program} {c:Ctx} {sL hP:List (Nat×Ent)}
theorem ζP {fn:Func} {R:PV→Prop} {t s r:Nat} {v u x:Value} {p q g:PV} (hr:fn.results= #[.tmp t, .tmp s, .tmp r]) (ht:lk sL t=some (v,p)) (hs:lk sL s=some (u,q)) (hx:lk sL r=some (x,g)) (hR:R (.tup [p,q,g])) (hN:∀b,¬c.N0 b:=by intro _ h;exact h) (hdf:c.df=[]:=by exact rfl):aR c (bodyPost P fn (JI c R)) (⟨sL,hP⟩:St):=fun a w ⟨F,H⟩=>by
 obtain ⟨h1,h2⟩:=H.sl t v p ht
 obtain ⟨h3,h4⟩:=H.sl s u q hs
 obtain ⟨h5,h6⟩:=H.sl r x g hx
 have hM:∀b,b<w.heap.size→(c.M0 b∨False)→mof c hP F b:=fun b _ hb=>by
  rcases hb with hb|hb
  · exact .inl hb
  · exact hb.elim
 refine ⟨H.df.trans hdf, .tuple [v,u,x].toArray,?_,_,_,fun _=>False,rfl,hR,H.ext.ext (fun b _=>hN b), .shr (.tup [v,u,x] [p,q,g] rfl fun i x r hx hr=>?_) (fun _ h=>h),fun _ h=>h.elim,H.dw⟩
 · simp [results,hr,XR,h1,h3,h5]
 · match i with
   |0=>simp at hx hr;subst hx hr;exact h2.anti hM
   |1=>simp at hx hr;subst hx hr;exact h4.anti hM
   |2=>simp at hx hr;subst hx hr;exact h6.anti hM
   |i+3=>simp at hx
end
theorem Zbn {P:Program} {c:Ctx} {ops:Array Oper} {Q:Exit→Act→World→Prop} {rest:List Oper} {sL hP:List (Nat×Ent)} {o:Oper} {p1 p2 p3:PV} (d:Nat) (hC:J3 P c (⟨sL,hP⟩:St) o (· = .tup [p1,p2,p3])) (k:∀v1 v2 v3,vOf p1 v1→vOf p2 v2→vOf p3 v3→aL P c ops Q rest ⟨put d (.tuple [v1,v2,v3].toArray, .tup [p1,p2,p3]) sL,hP⟩) (hsh:shD (.tup [p1,p2,p3])=true:=by exact rfl) (hw:Z7 ops sL o=some true:=by exact rfl) (hd:o.dst=some d:=by exact rfl) (hn:d<c.nt:=by exact Xa rfl):aL P c ops Q (o::rest) (⟨sL,hP⟩:St):=
 Gz hw hC fun a w F w' v p' Fr H hR hx hT hlo hdw=>by
  subst hR;have hS:=hT.shD hsh;rw [hd];have hS':Shr (mof c hP F) w' v (.tup [p1,p2,p3]):=hS.anti fun b _ h=> .inl h
  cases hS with
  | tup vs ps hl h=>
    match vs,hl,h,hS' with
    |[v1,v2,v3],_,h,hS'=>exact k v1 v2 v3 (h 0 v1 _ rfl rfl).vOf (h 1 v2 _ rfl rfl).vOf (h 2 v3 _ rfl rfl).vOf _ _ ⟨F,SP H hx hn hS'⟩
open Go.RowKit Go.Cb Go.Proofs Go.Sort
section
variable {P:Program} {c:Ctx} {ops:Array Oper} {Q:Exit→Act→World→Prop} {rest:List Oper} {sL hP:List (Nat×Ent)} {o:Oper}
end
section
variable {P:Program} {sL hP:List (Nat×Ent)} {o:Oper}
end
section
variable {P:Program} {c:Ctx} {sL hP:List (Nat×Ent)}
theorem T5 {fn:Func} {R:PV→Prop} {t ty s r k e k' n:Nat} {h u x:Value} {q p g:PV} {cs:List PV} (l:Nat) (hT:AggT P ty k=true) (hr:fn.results= #[.cell t ty, .tmp s, .tmp r]) (ht:lk sL t=some (padd (sbase h) 0,q)) (hl:lk hP l=some (h, .own e k' n cs)) (hs:lk sL s=some (u,p)) (hx:lk sL r=some (x,g)) (hp:k≤cs.length) (hk:0<k) (hsh:(cs.take k).all isSh=true) (hR:R (.tup [.agg (cs.take k),p,g])) (hN:∀b,¬c.N0 b:=by intro _ h;exact h) (hdf:c.df=[]:=by exact rfl):aR c (bodyPost P fn (JI c R)) (⟨sL,hP⟩:St):=fun a w ⟨F,H⟩=>by
 obtain ⟨V,A,h0,h1,h2⟩:=Lw H hT ht hl hp hk hsh
 obtain ⟨h3,h4⟩:=H.sl s _ _ hs
 obtain ⟨h5,h6⟩:=H.sl r _ _ hx
 have hM:∀b,b<w.heap.size→(c.M0 b∨False)→mof c hP F b:=fun b _ hb=>by
  rcases hb with hb|hb
  · exact .inl hb
  · exact hb.elim
 refine ⟨H.df.trans hdf, .tuple #[V,u,x],?_, .tuple #[V,u,x],_,fun _=>False,rfl,hR,H.ext.ext (fun b _=>hN b), .shr (.tup [V,u,x] _ rfl fun i v q' hv hq'=>?_) (fun _ h=>h),fun _ h=>h.elim,H.dw⟩
 · simp only [results,hr];simp at h0;simp [h0,h1,XR,h3,h5]
 · match i with
   |0=>simp at hv hq';subst hv hq';exact h2.anti hM
   |1=>simp at hv hq';subst hv hq';exact h4.anti hM
   |2=>simp at hv hq';subst hv hq';exact h6.anti hM
   |i+3=>simp at hv
end
section
variable {P:Program} {c:Ctx} {sL hP:List (Nat×Ent)}
theorem PK {fn:Func} {R:Value→PV→List (Nat×Ent)→Prop} {t ty k e k' n:Nat} {h:Value} {q:PV} {cs:List PV} (l:Nat) (H':List (Nat×Ent)) (hT:AggT P ty k=true) (hr:fn.results= #[.cell t ty]) (ht:lk sL t=some (padd (sbase h) 0,q)) (hl:lk hP l=some (h, .own e k' n cs)) (hp:k≤cs.length) (hk:0<k) (hsh:(cs.take k).all isSh=true) (hsub:Sub H' hP) (hR:∀V:Value,R V (.agg (cs.take k)) H') (hdf:c.df=[]:=by exact rfl):aR c (bodyPost P fn (RR c R)) (⟨sL,hP⟩:St):=fun a w ⟨F,H⟩=>by
 obtain ⟨V,A,h0,h1,h2⟩:=Lw H hT ht hl hp hk hsh
 have H2:HoldsF c (⟨sL,H'⟩:St) F a w:=H.less (fun _ _ h=>h) fun t x hx=>hsub.lk hx
 have hM:∀b,b<w.heap.size→mof c H' F b→mof c hP F b:=fun b _ hb=>by
  rcases hb with hb|⟨l,x,h1,h2⟩
  · exact .inl hb
  · exact .inr ⟨l,x,hsub.lk h1,h2⟩
 refine ⟨H.df.trans hdf,V,?_,V, .agg (cs.take k),H',F,rfl,hR _,H2.toHeapF,h2.anti hM⟩
 simp only [results,hr]
 simp at h0
 simp [h0,h1]
end
section
variable {P:Program} {st:St} {o:Oper}
theorem JW {t e k e' k' n a:Nat} {x y:Operand} {h:Value} {p q:PV} {cs:List PV} {kd:IntKind} {i:Int} (l:Nat) (hT:SlT P t e k=true) (ho:o.op= .indexAddr t x y) (hx:ev st.slots x=some (slc h a n k,p)) (hy:ev st.slots y=some (.int kd i,q)) (hl:lk st.heap l=some (h, .own e' k' n cs)) (h0:0≤i) (h1:(a:Int)+i<n) {m:Nat} (hm:m=(a+i.toNat)*k):
 YE P st o (· =padd (sbase h) m) (.val (padd (sbase h) m)):=
 .exact fun M F w' w H=>by
  subst hm;have hv:=(H.ev hx).1;have hi:=(H.ev hy).1;obtain ⟨g,cap,rfl,hc,_⟩:=Jq (H.tr l _ _ hl) oM;refine ⟨.val _,?_⟩;have hca:cap≠a:=oM;simp only [slc,hca,if_false,VM,Y0,Xv] at hv;simp [execOp,ho,hv,hi,Lu hT h0 (show i<((n-a:Nat):Int) by omega),sbase,padd,XY]
theorem De {t e k e' k' n a:Nat} {x:Operand} {h:Value} {p:PV} {cs:List PV} (l:Nat) (hT:SlT P t e k=true) (ho:o.op= .call {callee:= .builtin .len,args:= #[x],argTypes:= #[t]}) (hx:ev st.slots x=some (slc h a n k,p)) (hl:lk st.heap l=some (h, .own e' k' n cs)) {m:Nat} (hm:m=n-a):YE P st o (· = .int .i64 m) (.val (.int .i64 m)):=
 .exact fun M F w' w H=>by
  subst hm;have hv:=(H.ev hx).1;obtain ⟨xs,Fs,hrow,hlen,_⟩:=(H.tr l _ _ hl).row;rcases YZ hrow with ⟨rfl,rfl,_⟩|⟨g,cap,rfl,h1,h2,h3⟩
  · exact ⟨.val _,by simp [execOp,ho,hv,resolve,invoke,builtin,Builtin.len_,run_underlying (SlT.und hT),goInt,slc]⟩
  · exact ⟨.val _,by simp [execOp,ho,hv,resolve,invoke,builtin,Builtin.len_,run_underlying (SlT.und hT),goInt,slc]⟩
end
section
variable {P:Program} {c:Ctx} {Q:Exit→Act→World→Prop} {sL hP:List (Nat×Ent)}
end
section
variable {P:Program} {st:St} {o:Oper} {x y:Operand} {q q':PV} {t t':TypeId}
end
def DW (c:Ctx) (R:Value→PV→List (Nat×Ent)→Prop) (Rp:List PanicEntry→List (Nat×Ent)→Prop) (e:Ending) (w':World):Prop:=
 RR c R e w'∨∃ch h F,e= .panicked ch∧Rp ch h∧HeapF c h F w'
def AFp (dd:Prop) (P:Program) (f:FuncId) (ar h:List (Nat×Ent)) (R:Value→PV→List (Nat×Ent)→Prop) (Rp:List PanicEntry→List (Nat×Ent)→Prop):Prop:=
 ∀(M N:BS) (w:World) (F:Nat→BS),HeapF ⟨w,M,N,0,dd,[]⟩ h F w→(∀i x,lk ar i=some x→Shr (mof ⟨w,M,N,0,dd,[]⟩ h F) w x.1 x.2)→Calls P f (ar.map (·.2.1)).toArray w (DW ⟨w,M,N,0,dd,[]⟩ R Rp)
def aP (c:Ctx) (Q:Exit→Act→World→Prop) (ch:List PanicEntry) (st:St):Prop:=∀a w F,HoldsF c st F a w→Q (.panic ch) a w
section
variable {P:Program}
theorem AFp.of_body {dd:Prop} {f:FuncId} {fn:Func} {code:Code} {ar h:List (Nat×Ent)} {R:Value→PV→List (Nat×Ent)→Prop} {Rp:List PanicEntry→List (Nat×Ent)→Prop} (nt:Nat) (hf:P.funcs[f]? =some fn) (hb:fn.body=some code) (hnt:fn.ntmps=nt) (hn:ar.length≤nt) (ho:KB 0 ar=true)
 (H:∀(w0:World) (M0 N0:BS),aC P ⟨w0,M0,N0,nt,dd,[]⟩ code (bodyPost P fn (DW ⟨w0,M0,N0,nt,dd,[]⟩ R Rp)) ⟨ar,h⟩):AFp dd P f ar h R Rp:=fun M N w F HF hv=>by
 subst hnt
 refine calls_of_wp hf hb ?_
 refine wp_mono (H w M N _ w ⟨F,⟨HF.nt rfl rfl rfl id HF.m0,fun t v p ht=>?_,?_,rfl⟩⟩) fun e a w' hq=>?_
 · obtain ⟨_,h1⟩:=TF ar 0 t (v,p) ho ht;refine ⟨?_,hv t (v,p) ht⟩;simp only [Vd] at h1;have:=Zg h1;rw [Vu (by simpa using this)];simpa using h1
 · simp;omega
 · have key:∀e w',DW ⟨w,M,N,fn.ntmps,dd,[]⟩ R Rp e w'→DW ⟨w,M,N,0,dd,[]⟩ R Rp e w':=fun _ _ h=>by
    rcases h with ⟨v',p,h',F',h3,h4,h5,h6⟩|⟨ch,h',F',h3,h4,h5⟩
    · exact .inl ⟨v',p,h',F',h3,h4,h5.nt rfl rfl rfl id h5.m0,h6⟩
    · exact .inr ⟨ch,h',F',h3,h4,h5.nt rfl rfl rfl id h5.m0⟩
   cases e with
   |ret=>obtain ⟨h1,v,h2,h3⟩:=hq;exact ⟨h1,v,h2,key _ _ h3⟩
   |normal=>obtain ⟨h1,v,h2,h3⟩:=hq;exact ⟨h1,v,h2,key _ _ h3⟩
   |panic ch=>obtain ⟨h1,h3⟩:=hq;exact ⟨h1,key _ _ h3⟩
   |outgrown=>exact key _ _ hq
   |_=>exact hq.elim
end
section
variable {P:Program} {c:Ctx} {ops:Array Oper} {Q:Exit→Act→World→Prop} {rest:List Oper} {sL hP:List (Nat×Ent)} {o:Oper}
theorem Zg3 {fn:Func} {R:Value→PV→List (Nat×Ent)→Prop} {Rp:List PanicEntry→List (Nat×Ent)→Prop} (h:List (Nat×Ent)) (hr:fn.results= #[]) (hs:Sub h hP) (hR:R (.tuple #[]) (.val (.tuple #[])) h) (hdf:c.df=[]:=by exact rfl):aR c (bodyPost P fn (DW c R Rp)) (⟨sL,hP⟩:St):=fun a w ⟨F,H0⟩=>by
 have H:HoldsF c (⟨sL,h⟩:St) F a w:=H0.less (fun _ _ h=>h) fun t x hx=>hs.lk hx
 refine ⟨H.df.trans hdf, .tuple #[],?_, .inl ⟨.tuple #[], .val (.tuple #[]),h,F,rfl,hR,H.toHeapF, .val _⟩⟩
 simp [results,hr]
theorem Zg4 {fn:Func} {R:Value→PV→List (Nat×Ent)→Prop} {Rp:List PanicEntry→List (Nat×Ent)→Prop} (h:List (Nat×Ent)) (hr:fn.results= #[]) (hs:Sub h hP) (hR:R (.tuple #[]) (.val (.tuple #[])) h) (hdf:c.df=[]:=by exact rfl):aN c (bodyPost P fn (DW c R Rp)) (⟨sL,hP⟩:St):=Zg3 h hr hs hR hdf
theorem Ei {x:Operand} {t:TypeId} {v:Value} {q:PV} (k:aP c Q [{v:= .iface t v,recovered:=false}] (⟨sL,hP⟩:St)) (hw:Z7 ops sL o=some true:=by exact rfl) (ho:o.op= .panic x:=by exact rfl) (hx:ev sL x=some (.iface t v,q):=by exact rfl):aL P c ops Q (o::rest) (⟨sL,hP⟩:St):=
 Y8 hw fun a w F H=>by
  have hxv:=(H.rd.ev hx).1;unfold Oper.wp execOp;simp [ho,hxv,Instr.panic,goPanic,Sem.run,Oper.upon];exact k a w F H
theorem Zg5 {dd:Prop} {f:Nat} {ar:List (Nat×Ent)} {R:Value→PV→List (Nat×Ent)→Prop} {Rp:List PanicEntry→List (Nat×Ent)→Prop} (K:List Nat) (d:Nat) (hw:Z7 ops sL o=some true) (hd:o.dst=some d) (hn:d<c.nt)
 (hE:∀a w F,HoldsF c (⟨sL,hP⟩:St) F a w→(execOp a.eval o).run P w= .ok (.enter f (ar.map (·.2.1)).toArray) w∧∀(i:Nat) (x:Value) (q:PV),((ar.map (·.2)).map (·.1))[i]? =some x→((ar.map (·.2)).map (·.2))[i]? =some q→Shr (mof c hP F) w x q)
 (hA:AFp dd P f ar (Wr K hP) R Rp) (hio:KB 0 ar=true) (hdd:c.dr→dd)
 (k:∀v p h,R v p h→aL P c ops Q rest ⟨put d (v,p) sL,h++YM K hP⟩) (kp:∀ch h,Rp ch h→aP c Q ch ⟨[],h++YM K hP⟩):aL P c ops Q (o::rest) (⟨sL,hP⟩:St):=
 Y8 hw fun a w F H=>by
  obtain ⟨hr,h2⟩:=hE a w F H;have hfr:=H.frame K;have hin:∀b,mof ⟨w,fun b=>c.M0 b∨∃l x,K.elem l=true∧lk hP l=some x∧F l b,nK K hP F,c.nt,c.dr,c.df⟩ (Wr K hP) F b→mof c hP F b:=by
   rintro b ((h|⟨l,x,_,h1,h2⟩)|⟨l,x,h1,h2⟩)
   · exact .inl h
   · exact .inr ⟨l,x,h1,h2⟩
   · exact .inr ⟨l,x,(WS.1 h1).2,h2⟩
  have hcall:=hA (fun b=>c.M0 b∨∃l x,K.elem l=true∧lk hP l=some x∧F l b) (nK K hP F) w F
   ⟨hfr.tr,hfr.lo,hfr.dj,hfr.m0.up hdd,hfr.ext,fun _=>Xb _⟩
   (fun i x hi=>by
     obtain ⟨_,h3⟩:=Gi ar 0 i x hio hi;rw [Vd] at h3;exact (h2 i x.1 x.2 (by rw [Xo,Xo,h3];rfl) (by rw [Xo,Xo,h3];rfl)).anti fun b _ hb=>hin b hb)
  unfold Oper.wp;rw [hr,Oper.upon_enter];refine hcall.mono fun e w' he=>?_;rcases he with ⟨v,p,h,F',e1,e2,e3,e4⟩|⟨ch,h,F',e1,e2,e3⟩
  · subst e1;have hch:Chg (nK K hP F) w w':=e3.ext;have hlow:∀b,b<w.heap.size→mof ⟨w,fun b=>c.M0 b∨∃l x,K.elem l=true∧lk hP l=some x∧F l b,nK K hP F,0,dd,[]⟩ h F' b→mof c hP F b:=by
     rintro b hlt ((h1|⟨l,x,_,h1,h2⟩)|⟨l,x,h1,h2⟩)
     · exact .inl h1
     · exact .inr ⟨l,x,h1,h2⟩
     · rcases e3.lo l x b h1 h2 with h3|⟨l',x',_,h3,h4⟩
       · exact Uq hlt (by simp only at h3;omega)
       · exact .inr ⟨l',x',h3,h4⟩
    have H':HoldsF ⟨w,fun b=>c.M0 b∨∃l x,K.elem l=true∧lk hP l=some x∧F l b,nK K hP F,c.nt,c.dr,c.df⟩ (⟨put d (v,p) sL,h⟩:St) F' (a.put o.dst v) w':=by
     refine ⟨e3.nt rfl rfl rfl hdd hfr.m0,fun t u q ht=>?_,by rw [hd];simpa [Act.put] using H.size,by rw [hd];exact H.df⟩;rw [hd];rcases YS ht with ⟨rfl,e⟩|⟨hne,e⟩
     · cases e;refine ⟨?_,e4⟩;simp [Act.put,H.size,hn]
     · obtain ⟨h3,h4⟩:=H.sl t u q e;refine ⟨?_,h4.to hch (fun b _ ⟨l,x,_,h5,h6⟩=> .inr ⟨l,x,h5,h6⟩) (fun b hlt hb=>hlow b hlt hb)⟩;simpa [Act.put,Ui,hne] using h3
    obtain ⟨H2,_,_⟩:=H.unframe H';exact k v p h e2 _ _ ⟨_,H2⟩
  · subst e1;have H':HoldsF ⟨w,fun b=>c.M0 b∨∃l x,K.elem l=true∧lk hP l=some x∧F l b,nK K hP F,c.nt,c.dr,c.df⟩ (⟨[],h⟩:St) F' a w':=
     ⟨e3.nt rfl rfl rfl hdd hfr.m0,fun t u q ht=>by simp [lk] at ht,H.size,H.df⟩
    obtain ⟨H2,_,_⟩:=H.unframe H';exact kp ch h e2 _ _ _ H2
theorem Ej {dd:Prop} {f:Nat} {ar h0:List (Nat×Ent)} {R:Value→PV→List (Nat×Ent)→Prop} {Rp:List PanicEntry→List (Nat×Ent)→Prop} {xs:Array Operand} {ats:Array TypeId} (K:List Nat) (d:Nat) (hc:∀args w,(callFunc f args).run P w= .ok (.enter f args) w) (hA:AFp dd P f ar h0 R Rp)
 (k:∀v p h,R v p h→aL P c ops Q rest ⟨put d (v,p) sL,h++YM K hP⟩) (kp:∀ch h,Rp ch h→aP c Q ch ⟨[],h++YM K hP⟩) (hw:Z7 ops sL o=some true:=by exact rfl) (hd:o.dst=some d:=by exact rfl) (hn:d<c.nt:=by exact Xa rfl)
 (ho:o.op= .call {callee:= .value (.func f),args:=xs,argTypes:=ats}:=by exact rfl) (hx:evL sL xs.toList=some (ar.map (·.2)):=by exact rfl) (hh0:h0=Wr K hP:=by exact rfl) (hio:KB 0 ar=true:=by exact rfl) (hdd:c.dr→dd:=by first|exact id|exact fun h=>h.elim|exact fun _=>trivial):aL P c ops Q (o::rest) (⟨sL,hP⟩:St):=by
 subst hh0
 refine Zg5 K d hw hd hn (fun a w F H=>?_) hA hio hdd k kp
 obtain ⟨h1,h2⟩:=KJ H.rd hx
 refine ⟨?_,h2⟩
 have hargs:xs.map a.eval=(ar.map (·.2.1)).toArray:=by
  rw [show ar.map (·.2.1)=(ar.map (·.2)).map (·.1) by rw [Vx];rfl,←h1,←X7,X6]
 simp [execOp,ho,resolve,Act.eval,Deferred.ofValue,invoke,hargs,hc]
end
def okN (Q:Exit→Act→World→Prop) (Pp:List PanicEntry→World→Prop):Exit→Act→World→Prop
 | .normal,a,w=>Q .normal a w
 | .panic ch,a,w=>a.defers=[]∧Pp ch w
 |_,_,_=>False
section
variable {P:Program} {ops:Array Oper} {Q:Exit→Act→World→Prop} {Pp:List PanicEntry→World→Prop} {md:Region.Mode} {C:World→Prop} {Z:Nat→Bool}
theorem Zg6 {o:Oper} {a:Act} {w:World} {K:Act→World→Prop} (hP:∀ch a w,a.defers=[]→Pp ch w→Q (.panic ch) a w) (h:o.wp P a w K (okN Q Pp)):o.wp P a w K Q:=by
 unfold Oper.wp at*
 generalize (execOp a.eval o).run P w=r at*
 cases r with
 | ok n w'=>
   cases n<;>simp only [Oper.upon] at h ⊢<;>try exact h
   refine Calls.mono h fun e w'' he=>?_
   cases e with
   |returned u=>exact he
   |panicked c=>exact hP _ _ _ he.1 he.2
   |outgrown=>obtain ⟨_,_,hf⟩:=he;exact hf.elim
 | halt x w'=>
   cases x<;>simp only [Oper.upon] at h ⊢
   · exact hP _ _ _ h.1 h.2
theorem ZcQ (hP:∀ch a w,a.defers=[]→Pp ch w→Q (.panic ch) a w) {i:Nat} {a:Act} {w:World} {K:Act→World→Prop} (h:wpOp P ops (okN Q Pp) i K a w):wpOp P ops Q i K a w:=by
 unfold wpOp at*
 split
 · rename_i ho;simp only [ho] at h;exact h
 · rename_i o ho;simp only [ho] at h;split
   · rename_i hw;simp only [hw,if_true] at h;rcases h with h|⟨_,_,_,hf⟩
     · exact .inl (Zg6 hP h)
     · exact hf.elim
   · rename_i hw;simp only [hw] at h;exact h
def JF (P:Program) (md:Region.Mode) (ops:Array Oper) (Q:Exit→Act→World→Prop) (Pp:List PanicEntry→World→Prop) (C:World→Prop) (Z:Nat→Bool):Nat→Array Bool→Act→World→Prop
 |0,listed,a,w=>Region.ready md ops listed=[]∧Q .normal a w
 | fuel+1,listed,a,w=>
   (Region.ready md ops listed=[]→Q .normal a w)∧
   ∀i∈Region.ready md ops listed,wpOp P ops (okN Q Pp) i (fun a' w'=>(Z i=true∨C w')∧JF P md ops Q Pp C Z fuel (listed.setIfInBounds i true) a' w') a w
theorem PL (hP:∀ch a w,a.defers=[]→Pp ch w→Q (.panic ch) a w):∀(fuel:Nat) (listed:Array Bool) (a:Act) (w:World),JF P md ops Q Pp C Z fuel listed a w→wpAny P md ops Q fuel listed a w
 |0,_,_,_,h=>h
 |fuel+1,_,_,_,h=>⟨h.1,fun i hi=>ZcQ hP (wpOp_mono (fun a' w' h'=>PL hP fuel _ a' w' h'.2) (h.2 i hi))⟩
theorem OS {i:Nat} {oi:Oper} {v:Value} (hi:ops[i]? =some oi) (hz:Jt md ops Z i=true)
 (hsel:∀(j:Nat) (o:Oper) cs b,ops[j]? =some o→o.op≠ .select cs b):
 ∀ (fuel:Nat) (listed:Array Bool) (a:Act) (w:World),ClosedL md ops listed→
  (∀j oj,ops[j]? =some oj→j≠i→listed.getD j true=false→(∀e∈oj.after,Region.binds md e=true→e.on≠i)→oi.apart ops oj=true)→
  i∈Region.ready md ops listed→YieldsC P ops C oi v a→C w→
  JF P md ops Q Pp C Z fuel (listed.setIfInBounds i true) (a.put oi.dst v) w→JF P md ops Q Pp C Z (fuel+1) listed a w:=by
 intro fuel
 induction fuel with
 | zero=>
   intro listed a w _ _ hr hy hC H;refine ⟨fun h=>(by rw [h] at hr;cases hr),fun j hj=>?_⟩;by_cases hji:j=i
   · subst hji;exact YieldsIf.wpOp hi hy.ifS hC ⟨.inr hC,H⟩
   · have:=ready_mono hj hji;rw [H.1] at this
     cases this
 | succ fuel ih=>
   intro listed a w hcl hfree hr hy hC H;refine ⟨fun h=>(by rw [h] at hr;cases hr),fun j hj=>?_⟩;by_cases hji:j=i
   · subst hji;exact YieldsIf.wpOp hi hy.ifS hC ⟨.inr hC,H⟩
   · have h1:=H.2 j (ready_mono hj hji);obtain ⟨hjun,oj,hoj,hall⟩:=mem_ready.1 hj;have hnot:∀e∈oj.after,Region.binds md e=true→e.on≠i:=fun e he hb heq=>by
      have h1:=hall e he hb;have h0:=(mem_ready.1 hr).1;rw [heq] at h1;rcases Xm i listed.size with h'|h'
      · simp [h'] at h0 h1;rw [h0] at h1;cases h1
      · simp [XX h'] at h1
     have hjz:Z j=false:=by
      cases hZ:Z j
      · rfl
      · exfalso;have hjs:j<ops.size:=by
         rcases Xm j ops.size with h'|h'
         · exact h'
         · rw [XX h'] at hoj;cases hoj
        have:=Xj.1 hz j (Vf.2 hjs);rw [hZ] at this;simp only [Vv,Bool.false_or] at this;have h0:=(mem_ready.1 hr).1;have h1:=hcl.ready hj this;rcases Xm i listed.size with h'|h'
        · simp [h'] at h0 h1;rw [h0] at h1;cases h1
        · simp [XX h'] at h1
     have h2:=wpOp_putIf hoj (hfree j oj hoj hji hjun hnot) (fun cs b=>hsel i oi cs b hi) (fun cs b=>hsel j oj cs b hoj) (fun c a w h=>⟨by have h0:=h.1;revert h0;cases oi.dst<;>exact id,h.2⟩) hy.ifS h1;have hfree':∀k ok,ops[k]? =some ok→k≠i→(listed.setIfInBounds j true).getD k true=false→
      (∀e∈ok.after,Region.binds md e=true→e.on≠i)→oi.apart ops ok=true:=fun k ok hk hki hun hno=>by
      refine hfree k ok hk hki ?_ hno;by_cases hjk:j=k
      · subst hjk;exact hjun
      · rw [getD_set_ne true hjk] at hun;exact hun
     refine wpOp_mono (fun a' w' h3=>?_) h2;obtain ⟨hy',hor,hK⟩:=h3;have hC':C w':=by
      rcases hor with h|h
      · rw [hjz] at h;cases h
      · exact h
     refine ⟨.inr hC',ih (listed.setIfInBounds j true) a' w' (hcl.set hj) hfree' (ready_mono hr (Ne.symm hji)) hy' hC' ?_⟩;rw [Uh _ _ hji];exact hK
end
def aDp (P:Program) (c:Ctx) (ops:Array Oper) (Q:Exit→Act→World→Prop) (Pp:List PanicEntry→World→Prop) (Z:Nat→Bool) (K:List Nat) (fuel:Nat) (listed:Array Bool) (st:St):Prop:=
 ∀a w F,HoldsF c st F a w→∀C:World→Prop,(∀W,Chg (nK K st.heap F) w W→C W)→JF P .any ops Q Pp C Z fuel listed a w
section
variable {P:Program} {c:Ctx} {ops:Array Oper} {Q:Exit→Act→World→Prop} {Pp:List PanicEntry→World→Prop} {Z:Nat→Bool} {K:List Nat} {fuel:Nat} {listed:Array Bool} {sL hP:List (Nat×Ent)} {o:Oper}
theorem T6 {C C':World→Prop} (h:∀w,C' w→C w):∀(fuel:Nat) (listed:Array Bool) (a:Act) (w:World),JF P .any ops Q Pp C' Z fuel listed a w→JF P .any ops Q Pp C Z fuel listed a w
 |0,_,_,_,H=>H
 |fuel+1,_,_,_,H=>⟨H.1,fun i hi=>wpOp_mono (fun a' w' h'=>⟨h'.1.imp id (h w'),T6 h fuel _ a' w' h'.2⟩) (H.2 i hi)⟩
theorem PM {id:Nat} {l:List Oper} (Pp:List PanicEntry→World→Prop) (Z:Nat→Bool) (K:List Nat) (hm:P.follows .mixedOrders=true) (hPp:∀ch a w,a.defers=[]→Pp ch w→Q (.panic ch) a w) (h:aDp P c l.toArray Q Pp Z K l.length (Array.replicate l.length false) (⟨sL,hP⟩:St)):aC P c (.region id l.toArray true) Q (⟨sL,hP⟩:St):=fun a w ⟨F,H⟩=>by
 refine wp_region_any hm (PL (C:=fun _=>True) (Z:=Z) hPp _ _ _ _ ?_)
 have:=h a w.drew F (H.up (Ext.drew w)) (fun _=>True) (fun _ _=>trivial)
 simpa using this
theorem Zgx {V:Value→Prop} {p:PV} (i d:Nat) (ho:ops[i]? =some o) (hck:(Region.noSelect ops&&(Region.ready .any ops listed).contains i&&Region.free .any ops listed i&&Jt .any ops Z i&&JL .any ops listed)=true) (hw:Z7 ops sL o=some true) (hd:o.dst=some d) (hn:d<c.nt) (hy:YE P ⟨sL,YM K hP⟩ o V p)
 (k:∀v,V v→aDp P c ops Q Pp Z K fuel (listed.setIfInBounds i true) ⟨put d (v,p) sL,hP⟩):aDp P c ops Q Pp Z K (fuel+1) listed (⟨sL,hP⟩:St):=fun a w F H C hC=>by
 simp only [Xf] at hck
 obtain ⟨⟨⟨⟨hs,hr⟩,hf⟩,hz⟩,hcl⟩:=hck
 obtain ⟨v,hV,hS,hrun⟩:=hy _ F a w (H.rdK K)
 refine T6 hC _ _ _ _ ?_
 refine OS ho hz (Region.noSelect_spec hs) _ listed a w (T4 hcl) (Region.free_spec ho hf) (by simpa using hr) (v:=v) (.inl ⟨Kw H.rd hw,fun W hW=>?_⟩) (Chg.rfl' _ _) ?_
 · exact hrun _ W hW (fun b ⟨l,x,_,h1,h2⟩=> .inr ⟨l,x,h1,h2⟩) (fun l x b hl hFb ⟨l',x',h1,h2,h3⟩=>by
    obtain ⟨h4,h5⟩:=J4.1 hl;exact H.dj l l' _ _ b (fun e=>by rw [e,h1] at h4;cases h4) h5 h2 hFb h3)
 · rw [hd];exact k v hV _ w F (H.put hn hS) _ (fun W h=>h)
theorem Zif {v:Value} {p:PV} (i d:Nat) (ho:ops[i]? =some o) (hck:(Region.noSelect ops&&(Region.ready .any ops listed).contains i&&Region.free .any ops listed i&&Jt .any ops Z i&&JL .any ops listed)=true) (hw:Z7 ops sL o=some true) (hd:o.dst=some d) (hn:d<c.nt) (hy:YE P ⟨sL,YM K hP⟩ o (· =v) p)
 (k:aDp P c ops Q Pp Z K fuel (listed.setIfInBounds i true) ⟨put d (v,p) sL,hP⟩):aDp P c ops Q Pp Z K (fuel+1) listed (⟨sL,hP⟩:St):=Zgx i d ho hck hw hd hn hy fun u hu=>by cases hu;exact k
theorem xDp {v:Value} {p:PV} (i:Nat) (d:Nat) (ho:ops[i]? =some o) (hy:YE P ⟨sL,YM K hP⟩ o (· =v) p) (k:aDp P c ops Q Pp Z K fuel (listed.setIfInBounds i true) ⟨put d (v,p) sL,hP⟩) (hck:(Region.noSelect ops&&(Region.ready .any ops listed).contains i&&Region.free .any ops listed i&&Jt .any ops Z i&&JL .any ops listed)=true:=by kernel_rfl) (hw:Z7 ops sL o=some true:=by exact rfl) (hd:o.dst=some d:=by exact rfl) (hn:d<c.nt:=by exact Xa rfl):aDp P c ops Q Pp Z K (fuel+1) listed (⟨sL,hP⟩:St):=
 Zif i d ho hck hw hd hn hy k
theorem yDp {V:Value→Prop} {p:PV} (i:Nat) (d:Nat) (ho:ops[i]? =some o) (hy:YE P ⟨sL,YM K hP⟩ o V p) (k:∀v,V v→aDp P c ops Q Pp Z K fuel (listed.setIfInBounds i true) ⟨put d (v,p) sL,hP⟩) (hck:(Region.noSelect ops&&(Region.ready .any ops listed).contains i&&Region.free .any ops listed i&&Jt .any ops Z i&&JL .any ops listed)=true:=by kernel_rfl) (hw:Z7 ops sL o=some true:=by exact rfl) (hd:o.dst=some d:=by exact rfl) (hn:d<c.nt:=by exact Xa rfl):aDp P c ops Q Pp Z K (fuel+1) listed (⟨sL,hP⟩:St):=
 Zgx i d ho hck hw hd hn hy k
theorem Df {x:Operand} {t:TypeId} {v:Value} {q:PV} (i:Nat) (ho:ops[i]? =some o) (k:∀a w F,HoldsF c (⟨sL,hP⟩:St) F a w→Pp [{v:= .iface t v,recovered:=false}] w) (hr:Region.ready .any ops listed=[i]:=by kernel_rfl) (hw:Z7 ops sL o=some true:=by exact rfl) (hop:o.op= .panic x:=by exact rfl) (hx:ev sL x=some (.iface t v,q):=by exact rfl) (hdf:c.df=[]:=by exact rfl):aDp P c ops Q Pp Z K (fuel+1) listed (⟨sL,hP⟩:St):=fun a w F H C hC=>
 ⟨(fun hn=>by rw [hr] at hn;cases hn),fun j hj=>by
   rw [hr] at hj;obtain rfl:j=i:=by simpa using hj
   have hxv:=(H.rd.ev hx).1;have h1:=Kw H.rd hw;unfold Go.wpOp;simp only [ho,h1,if_true];refine .inl ?_;unfold Oper.wp execOp;simp [hop,hxv,Instr.panic,goPanic,Sem.run,Oper.upon];exact ⟨H.df.trans hdf,k a w F H⟩⟩
def Ze4 (P:Program) (c:Ctx) (ops:Array Oper) (Q:Exit→Act→World→Prop) (Pp:List PanicEntry→World→Prop) (Z:Nat→Bool) (fuel:Nat) (listed:Array Bool) (st:St):Prop:=
 ∀a w F,HoldsF c st F a w→∀C:World→Prop,JF P .any ops Q Pp C Z fuel listed a w
theorem Ts {Q':Exit→Act→World→Prop} {k:Nat} (ho:ops[k]? =some o) {a:Act} {w:World} {K:Act→World→Prop} (hK:∀a w,Q' .normal a w→K a w) (h:wpList P ops (okN Q' Pp) [o] a w):wpOp P ops (okN Q Pp) k K a w:=by
 have key:∀{K':Act→World→Prop},o.wp P a w K' (okN Q' Pp)→(∀a w,K' a w→K a w)→o.wp P a w K (okN Q Pp):=fun {K'} h hK'=>by
  unfold Oper.wp at*;generalize (execOp a.eval o).run P w=r at*
  cases r with
  | ok n w'=>
    cases n<;>simp only [Oper.upon] at h ⊢<;>first|exact hK' _ _ h|exact h|skip
    · refine Calls.mono h fun e w'' he=>?_
      cases e with
      |returned u=>exact hK' _ _ he
      |panicked c=>exact he
      |outgrown=>obtain ⟨_,_,hf⟩:=he;exact hf.elim
    all_goals exact Rows.mono h fun _ _ h=>hK' _ _ h
  | halt x w'=>
    cases x<;>simp only [Oper.upon] at h ⊢
    · exact h
 unfold wpOp
 simp only [ho]
 unfold wpList at h
 split
 · rename_i hw;rw [Up hw] at h;rcases h with h|⟨_,_,_,hf⟩
   · exact .inl (key h fun a w h=>hK a w h)
   · exact hf.elim
 · rename_i hw;rw [Uo hw] at h;exact hK _ _ h
theorem PN (i:Nat) (ho:ops[i]? =some o) (h:∀DQ:Exit→Act→World→Prop,(∀ch a w,a.defers=[]→Pp ch w→DQ (.panic ch) a w)→(∀st':St,Ze4 P c ops Q Pp Z fuel (listed.setIfInBounds i true) st'→aN c DQ st')→aL P c ops DQ [o] (⟨sL,hP⟩:St)) (hr:Region.ready .any ops listed=[i]:=by kernel_rfl) (hZ:Z i=true:=by rfl):Ze4 P c ops Q Pp Z (fuel+1) listed (⟨sL,hP⟩:St):=fun a w F H C=>
 ⟨(fun hn=>by rw [hr] at hn;cases hn),fun j hj=>by
   rw [hr] at hj;obtain rfl:j=i:=by simpa using hj
   refine Ts (Q':=fun _ a' w'=>(Z j=true∨C w')∧JF P .any ops Q Pp C Z fuel (listed.setIfInBounds j true) a' w') ho (fun a' w' hq=>hq) ?_;exact h (okN (fun _ a' w'=>(Z j=true∨C w')∧JF P .any ops Q Pp C Z fuel (listed.setIfInBounds j true) a' w') Pp) (fun ch a w h1 h2=>⟨h1,h2⟩) (fun st' hN a' w' ⟨F',H'⟩=>⟨.inl hZ,hN a' w' F' H' C⟩) a w ⟨F,H⟩⟩
theorem ZcR (hr:Region.ready .any ops listed=[]) (h:aN c Q (⟨sL,hP⟩:St)):Ze4 P c ops Q Pp Z fuel listed (⟨sL,hP⟩:St):=fun a w F H C=>by
 cases fuel with
 |zero=>exact ⟨hr,h a w ⟨F,H⟩⟩
 |succ n=>exact ⟨fun _=>h a w ⟨F,H⟩,fun i hi=>by rw [hr] at hi;cases hi⟩
theorem ZcS (h:Ze4 P c ops Q Pp Z fuel listed (⟨sL,hP⟩:St)):aDp P c ops Q Pp Z K fuel listed (⟨sL,hP⟩:St):=fun a w F H C _=>h a w F H C
end
def Yd (b:Nat):Value:= .slice (some ⟨b,0,none⟩) 1 1
def ZX (b:Nat):Value:=padd (sbase (Yd b)) 0
section
variable {P:Program} {st:St} {o:Oper} {x y:Operand} {q q':PV} {t t':TypeId}
theorem Ek {w:World} {tp te:TypeId} {j:TypeInfo} (hp:P.underlying tp=some (.pointer te)) (hte:P.info? te=some j):(binOp .eql tp (.pointer none) (.pointer none)).run P w= .ok (.bool true) w:=by
 have h:∀d:Nat,(Op.equalIn (d+1) tp (.pointer none) (.pointer none)).run P w= .ok true w:=fun d=>by
  simp [Op.equalIn,run_underlying hp,sizeOf,typeInfo,hte]
 simp only [binOp]
 simp [Op.equal,Op.maxDepth,h 9999]
theorem DX {w:World} {tp te:TypeId} {j:TypeInfo} (a:Addr) (hp:P.underlying tp=some (.pointer te)) (hte:P.info? te=some j):(binOp .eql tp (.pointer (some a)) (.pointer none)).run P w= .ok (.bool false) w:=by
 have h:∀d:Nat,(Op.equalIn (d+1) tp (.pointer (some a)) (.pointer none)).run P w= .ok false w:=fun d=>by
  simp [Op.equalIn,run_underlying hp,sizeOf,typeInfo,hte]
 simp only [binOp]
 simp [Op.equal,Op.maxDepth,h 9999]
theorem Zg7 {te:TypeId} (hp:P.underlying t=some (.pointer te)) (hte:(P.info? te).isSome=true) (ho:o.op= .binOp .eql t x y t':=by exact rfl) (hx:ev st.slots x=some (.pointer none,q):=by exact rfl) (hy:ev st.slots y=some (.pointer none,q'):=by exact rfl):YE P st o (· = .bool true) (.val (.bool true)):=
 y2 hx hy fun ρ w h3 h4=>by
  obtain ⟨j,hj⟩:=V'.1 hte;have:=Ek (w:=w) hp hj;simp only [execOp,ho,h3,h4];simp [eqGuard,this]
theorem Ze5 {te:TypeId} {b:Nat} (hp:P.underlying t=some (.pointer te)) (hte:(P.info? te).isSome=true) (ho:o.op= .binOp .eql t x y t':=by exact rfl) (hx:ev st.slots x=some (ZX b,q):=by exact rfl) (hy:ev st.slots y=some (.pointer none,q'):=by exact rfl):YE P st o (· = .bool false) (.val (.bool false)):=
 y2 hx hy fun ρ w h3 h4=>by
  obtain ⟨j,hj⟩:=V'.1 hte;have:=DX (w:=w) ⟨b,0,none⟩ hp hj;simp only [ZX,Yd,sbase,padd,XL] at h3;simp only [execOp,ho,h3,h4];simp [eqGuard,this]
theorem Ze6 {te:TypeId} {b:Nat} (hp:P.underlying t=some (.pointer te)) (hte:(P.info? te).isSome=true) (ho:o.op= .binOp .neq t x y t':=by exact rfl) (hx:ev st.slots x=some (ZX b,q):=by exact rfl) (hy:ev st.slots y=some (ZX b,q'):=by exact rfl):YE P st o (· = .bool false) (.val (.bool false)):=
 y2 hx hy fun ρ w h3 h4=>by
  obtain ⟨j,hj⟩:=V'.1 hte;have:=Lib.run_neq_ptr_same w ⟨b,0,none⟩ hp hj;simp only [ZX,Yd,sbase,padd,XL] at h3 h4;simp only [execOp,ho,h3,h4];simp [eqGuard,this]
theorem PO {M:BS} {w:World} {e k:Nat} {b:Nat} {cs:List PV} {F:BS} (H:Tr M w (Yd b) (.own e k 1 cs) F):w.shape? b=some (e,k):=by
 obtain ⟨xs,Fs,hrow,_⟩:=H.row
 rcases hrow.2 with ⟨h,_⟩|⟨g,cap,cur,h,_,hg,_,_,hsz,_⟩
 · cases h
 · unfold Yd at h
   cases h;rw [Nat.one_mul] at hsz;simp [World.shape?,hg,hsz]
theorem Zig {s d te e k b:Nat} {cs:List PV} (l:Nat) (hs:P.underlying s=some (.pointer te)) (hd:P.underlying d=some .unsafePointer) (hte:(P.info? te).map (·.size)=some k) (hk:0<k) (ho:o.op= .convert s d x:=by exact rfl) (hx:ev st.slots x=some (ZX b,q):=by exact rfl) (hl:lk st.heap l=some (Yd b, .own e k 1 cs):=by exact rfl):YE P st o (· =ZX b) (.val (ZX b)):=
 .exact fun M F a w H=>by
  have hv:=(H.ev hx).1;obtain ⟨j,hj,hjs⟩:=XS.1 hte;have hsh:=PO (H.tr l _ _ hl);have hr:=Lib.run_to_unsafe w ⟨b,0,none⟩ hs hd hj oM hsh hk;refine ⟨.val _,?_⟩;simp only [ZX,Yd,sbase,padd,XL] at hv ⊢;simp [execOp,ho,hv,hr]
theorem Zih {s d u e k b:Nat} {cs:List PV} (l:Nat) (hs:P.underlying s=some .unsafePointer) (hd:P.underlying d=some (.pointer u)) (hu:(P.info? u).isSome=true) (hlies:liesAt P P.depth e (k / P.cellsOf e) 0 u 1=true) (ho:o.op= .convert s d x:=by exact rfl) (hx:ev st.slots x=some (ZX b,q):=by exact rfl) (hl:lk st.heap l=some (Yd b, .own e k 1 cs):=by exact rfl):YE P st o (· =ZX b) (.val (ZX b)):=
 .exact fun M F a w H=>by
  have hv:=(H.ev hx).1;obtain ⟨j,hj⟩:=V'.1 hu;have hsh:=PO (H.tr l _ _ hl);have hr:=Lib.run_from_unsafe w ⟨b,0,none⟩ hs hd hj hsh hlies;refine ⟨.val _,?_⟩;simp only [ZX,Yd,sbase,padd,XL] at hv ⊢;simp [execOp,ho,hv,hr]
theorem Ze7 {f:Nat} {fn:Func} {xs:Array Operand} {ats:Array TypeId} {v:Value} (hf:P.funcs[f]? =some fn) (hname:(fn.name== "runtime.NumGoroutine")=false) (hb:fn.body.isNone=true) (hn:Extern.findNext fn=none) (he:Extern.find fn=some Extern.AbiNoEscape.same) (ho:o.op= .call {callee:= .value (.func f),args:=xs,argTypes:=ats}:=by exact rfl) (hx:evL st.slots xs.toList=some [(v, .val v)]:=by exact rfl):YE P st o (· =v) (.val v):=
 .exact fun M F a w H=>by
  obtain ⟨h1,_⟩:=KJ H hx;refine ⟨.val _,?_⟩;have hargs:xs.map a.eval= #[v]:=by
   rw [show (#[v]:Array Value)=([(v,PV.val v)].map (·.1)).toArray from rfl,←h1,←X7,X6]
  have:=run_callFunc_extern hf hname hb hn he #[v] w;rw [Lib.run_noEscape] at this;simp [execOp,ho,resolve,Act.eval,Deferred.ofValue,invoke,hargs,this,Result.andThen]
theorem Zii {e n:Nat} {ats:Array TypeId} {h:Value} {cs:List PV} (l:Nat) (ho:o.op= .call {callee:= .builtin .unsafeSliceData,args:= #[x],argTypes:=ats}:=by exact rfl) (hx:ev st.slots x=some (h,q):=by exact rfl) (hl:lk st.heap l=some (h, .own e 1 n cs):=by exact rfl) (hn:0<n:=by omega):YE P st o (· =sbase h) (.val (sbase h)):=
 .exact fun M F a w H=>by
  have hv:=(H.ev hx).1;obtain ⟨g,cap,rfl,hc,_⟩:=Jq (H.tr l _ _ hl) hn;refine ⟨.val _,?_⟩;have:=Lib.run_unsafeSliceData_row (P:=P) w ats o.type ⟨g,0,none⟩ n cap oM;simp [execOp,ho,resolve,invoke,builtin,hv,this,sbase]
end
section
variable {P:Program} {c:Ctx} {ops:Array Oper} {Q:Exit→Act→World→Prop} {rest:List Oper} {sL hP:List (Nat×Ent)} {o:Oper}
theorem LC {t:TypeId} {z:Value} (zs:List Value) (m:Nat) (d:Nat) (hz:ZeroT P t z) (k:∀b:Nat,aL P c ops Q rest ⟨put d (ZX b, .val (ZX b)) sL,put d (Yd b, .own t m 1 (zs.map .val)) hP⟩) (hw:Z7 ops sL o=some true:=by exact rfl) (hd:o.dst=some d:=by exact rfl) (hn:d<c.nt:=by exact Xa rfl) (ho:o.op= .alloc t:=by exact rfl) (hzs:z.cells=zs.toArray:=by exact rfl) (hm:zs.length=m:=by exact rfl) (hl:lk hP d=none:=by exact rfl):aL P c ops Q (o::rest) (⟨sL,hP⟩:St):=
 Y8 hw fun a w F H=>by
  obtain ⟨F',H'⟩:=Wh (e:=t) (k:=m) (n:=1) (cap:=1) (cur:=zs.toArray) (v:= .pointer (some ⟨w.heap.size,0,none⟩)) H hl hn (vs:=zs) (ps:=zs.map .val) sM (fun i y q hy hq=>by
   rw [Xo,hy] at hq;simp at hq;subst hq;exact .val _) oM (Xb _) (by unfold maxLen;omega) (by simp;omega) (Xs (by simp;omega))
  unfold Oper.wp execOp;simp [ho,Instr.alloc,hz.run,newVar,newRow,newObj,Sem.run,hzs,hd,Oper.upon];exact k w.heap.size _ _ ⟨F',H'⟩
theorem Zg8 {pt it e n:Nat} {x y:Operand} {h:Value} {q q2:PV} {bs:List UInt8} (l d:Nat) (hp:P.underlying pt=some (.pointer e)) (hc:P.cellsOf e=1)
 (k:aL P c ops Q rest ⟨put d (.string ⟨bs.toArray⟩, .val (.string ⟨bs.toArray⟩)) sL,del l hP⟩) (h0:bs≠[]) (hnb:n=bs.length)
 (hw:Z7 ops sL o=some true:=by exact rfl) (hd:o.dst=some d:=by exact rfl) (hn:d<c.nt:=by exact Xa rfl)
 (ho:o.op= .call {callee:= .builtin .unsafeString,args:= #[x,y],argTypes:= #[pt,it]}:=by exact rfl) (hx:ev sL x=some (sbase h,q):=by exact rfl) (hy:ev sL y=some (.int .i64 n,q2):=by exact rfl) (hl:lk hP l=some (h, .own e 1 n (bs.map Tq)):=by exact rfl):aL P c ops Q (o::rest) (⟨sL,hP⟩:St):=
 Y8 hw fun a w F H=>by
  subst hnb;have hxv:=(H.rd.ev hx).1;have hyv:=(H.rd.ev hy).1;have hT1:=H.tr l _ _ hl;obtain ⟨xs,Fs,hrow,hlen1,hTc,hdd,hbb,hFF⟩:=hT1.row;have hl0:bs.length≠0:=by simpa using h0
  have hxs:xs=Lib.byteCells bs:=ZcP hlen1 hTc;subst hxs;rcases hrow.2 with ⟨_,h9⟩|⟨g,cap,cur,rfl,_,hg,hnc,hcm,hcs,htake⟩
  · exact Uq h9 hl0
  have hr:=Lib.run_unsafeString_row (P:=P) w pt it o.type e hp hc g cur.size (by simp [World.shape?,hg]) bs h0 oM (by unfold maxLen at hcm;omega) (fun j z hz=>by
   rw [Y0,Xv];exact WK hrow (by simp [Lib.byteCells,hz]))
  have hch:Chg (fun b=>b=g) w (w.freeze ⟨g,0,none⟩ bs.length):=by
   unfold World.freeze;rw [Uo hl0];exact ⟨rfl,rfl,rfl,sM,fun k hk hne=>by
    simp only [Array.getElem?_modify];rw [Uo (fun e=>hne e.symm)]⟩
  have hFg:F l g:=(hFF g).2 (.inl rfl);have hdw:(w.freeze ⟨g,0,none⟩ bs.length).drawn=w.drawn:=by unfold World.freeze;rw [Uo hl0]
  have key:HoldsF c ⟨put d (.string ⟨bs.toArray⟩, .val (.string ⟨bs.toArray⟩)) sL,del l hP⟩ F (a.put (some d) (.string ⟨bs.toArray⟩)) (w.freeze ⟨g,0,none⟩ bs.length):=by
   refine H.change (fun l'=>l'=l) hn (hch.wid fun b hb=> .inl ⟨l,_,rfl,hl,by rw [hb];exact hFg⟩) (fun l' x hnT hx'=>⟨(YY hx').2,rfl⟩) (fun l' x b hTl hx' hb'=>Uq hTl.symm (YY hx').1) (fun hmm l' u p hTl hx'=>Uq hTl.symm (YY hx').1) (fun l1 l2 _ _ _ h1 h2 hne=>Uq (h1.trans h2.symm) hne) (fun _=> .val _) (fun _=>by rw [hdw];exact Xb _)
  unfold Oper.wp execOp;simp only [sbase] at hxv;simp only [ho,resolve,invoke,builtin,Sem.run_bind,Sem.run_pure,Result.andThen_ok,VB,XM,Vb,hxv,hyv,hr,Oper.upon,hd];exact k _ _ ⟨_,key⟩
end
section
variable {P:Program} {st:St} {o:Oper} {x y u:Operand} {q q' q2:PV} {t t':TypeId}
theorem Ze8 {a:ByteArray} {k:IntKind} {i:Int} (hu:P.underlying t=some .string) (h0:0≤i) (h1:i≤a.size) (ho:o.op= .slice t x (some y) none none:=by exact rfl) (hx:ev st.slots x=some (.string a,q):=by exact rfl) (hy:ev st.slots y=some (.int k i,q'):=by exact rfl):YE P st o (· = .string (a.extract i.toNat a.size)) (.val (.string (a.extract i.toNat a.size))):=
 y2 hx hy fun ρ w h3 h4=>by simp [execOp,ho,h3,h4,run_sliceAt_string w t _ _ _ _ hu,run_slice_string_l w t a hu k i h0 h1]
theorem Zij {a:ByteArray} {k:IntKind} {i:Int} (hu:P.underlying t=some .string) (h0:0≤i) (h1:i≤a.size) (ho:o.op= .slice t x none (some y) none:=by exact rfl) (hx:ev st.slots x=some (.string a,q):=by exact rfl) (hy:ev st.slots y=some (.int k i,q'):=by exact rfl):YE P st o (· = .string (a.extract 0 i.toNat)) (.val (.string (a.extract 0 i.toNat))):=
 y2 hx hy fun ρ w h3 h4=>by simp [execOp,ho,h3,h4,run_sliceAt_string w t _ _ _ _ hu,run_slice_string_h w t a hu k i h0 h1]
theorem DY {v:Value} (hu:(match P.underlying t with|some (.interface _)=>false|some _=>true|none=>false)=true) (ho:o.op= .makeInterface t x:=by exact rfl) (hx:ev st.slots x=some (v,q):=by exact rfl):YE P st o (· = .iface t v) (.val (.iface t v)):=
 .exact fun M F a w H=>by
  have e1:=(H.ev hx).1;refine ⟨.val _,?_⟩;simp only [execOp,ho,e1];unfold Instr.makeInterface
  cases h:P.underlying t with
  |none=>rw [h] at hu;cases hu
  |some d=>cases d<;>simp_all [run_underlying h]
theorem ζQ {M:BS} {w:World} {v:Value} {vs:List Value} (h:Shr M w v (.agg (vs.map .val))):v= .agg vs.toArray:=by
 generalize hp:PV.agg (vs.map .val)=p at h
 cases h with
 | agg us ps hl hV=>
   cases hp;congr 2;refine VN fun i=>?_;rw [Xe] at hl
   cases h1:us[i]? with
   | none=>
     have:=Uk.1 h1;rw [Vn oM]
   | some a=>
     have hi:=Zg h1;have h2:vs[i]? =some (vs[i]'oM):=Xx oM;have h3:=hV i a (.val (vs[i]'oM)) h1 (by rw [Xo,h2];rfl);rw [h2]
     cases h3;rfl
 |_=>cases hp
end
section
variable {P:Program} {c:Ctx} {ops:Array Oper} {Q:Exit→Act→World→Prop} {rest:List Oper} {sL hP:List (Nat×Ent)}
theorem ZcT {d:Nat} {v:Value} (vs:List Value) (hx:lk sL d=some (v, .agg (vs.map .val))) (k:v= .agg vs.toArray→aL P c ops Q rest (⟨sL,hP⟩:St)):aL P c ops Q rest (⟨sL,hP⟩:St):=fun a w ⟨F,H⟩=>k (ζQ (H.sl d v _ hx).2) a w ⟨F,H⟩
theorem ζR {Pp:List PanicEntry→World→Prop} {Z:Nat→Bool} {K:List Nat} {fuel:Nat} {listed:Array Bool} {d:Nat} {v:Value} (vs:List Value) (hx:lk sL d=some (v, .agg (vs.map .val))) (k:v= .agg vs.toArray→aDp P c ops Q Pp Z K fuel listed (⟨sL,hP⟩:St)):aDp P c ops Q Pp Z K fuel listed (⟨sL,hP⟩:St):=fun a w F H=>k (ζQ (H.sl d v _ hx).2) a w F H
end
def TH:PV→List PV
 | .agg ps=>ps
 |p=>[p]
def spl {α:Type}:List α→Nat→List α→List α
 |cs,_,[]=>cs
 |cs,o,x::xs=>spl (cs.set o x) (o+1) xs
def OT {α:Type} (offs:List (Nat×Nat)):List α→List (Nat×List α)→List α
 |cs,[]=>cs
 |cs,(i,xs)::r=>OT offs (spl cs (offs.getD i (0,0)).1 xs) r
theorem G6 {α:Type}:∀(xs cs:List α) (o:Nat),(spl cs o xs).length=cs.length
 |[],_,_=>rfl
 |x::xs,cs,o=>by rw [spl,G6 xs,Xi]
def Ze9:PV→Bool
 | .agg _=>true
 |_=>false
def okP (offs:List (Nat×Nat)) (n:Nat) (e:Nat×Ent):Bool:=match offs[e.1]? with
 |some (o,k)=>decide ((TH e.2.2).length=k)&&decide (o+k≤n)&&(one e.2.2||Ze9 e.2.2)
 |none=>false
theorem El (off:Nat):∀(xs:List Value) (k:Nat) (cs:Array Value),((xs.zipIdx k).foldl (fun cs (c,j)=>cs.setIfInBounds (off+j) c) cs).toList=spl cs.toList (off+k) xs
 |[],_,_=>rfl
 | x::xs,k,cs=>by
   rw [VG,Vt,El off xs (k+1),spl,Ug];rfl
theorem ZcU (offs:List (Nat×Nat)):∀(ps:List (Nat×Value)) (cs:List Value),(∀x∈ps,∃o,offs[x.1]? =some (o,x.2.cells.size)∧o+x.2.cells.size≤cs.length)→Instr.fill (offs.toArray[·]?) cs.toArray ps=some (OT offs cs (ps.map fun x=>(x.1,x.2.cells.toList))).toArray
 |[],cs,_=>rfl
 | (i,v)::ps,cs,h=>by
   obtain ⟨o,h1,h2⟩:=h (i,v) sM;have hpl:offs.toArray[i]? =some (o,v.cells.size):=by simpa using h1
   have hc:¬(v.cells.size≠v.cells.size||decide (o+v.cells.size>cs.toArray.size))=true:=by simp at h2 ⊢;omega
   simp only [Instr.fill,hpl,hc,if_false];have e:(v.cells.zipIdx.foldl (fun cs (c,j)=>cs.setIfInBounds (o+j) c) cs.toArray)=(spl cs o v.cells.toList).toArray:=by
    apply Array.toList_inj.1;have:=El o v.cells.toList 0 cs.toArray;rw [←Array.foldl_toList,Array.toList_zipIdx];exact this
   rw [e];have hg:offs.getD i (0,0)=(o,v.cells.size):=by rw [List.getD_eq_getElem?_getD,h1];rfl
   have:=ZcU offs ps (spl cs o v.cells.toList) fun x hx=>by rw [G6];exact h x (by simp [hx])
   rw [this,XM,OT,hg];rfl
theorem ζS (M:BS) (w:World):∀(us:List Value) (qs:List PV) (vs:List Value) (ps:List PV) (o:Nat),us.length=qs.length→(∀(i:Nat) (x:Value) (q:PV),us[i]? =some x→qs[i]? =some q→Shr M w x q)→vs.length=ps.length→(∀(i:Nat) (x:Value) (q:PV),vs[i]? =some x→ps[i]? =some q→Shr M w x q)→
 ∀(i:Nat) (x:Value) (q:PV),(spl vs o us)[i]? =some x→(spl ps o qs)[i]? =some q→Shr M w x q
 |[],[],vs,ps,o,_,_,_,h=>h
 |[],_::_,_,_,_,h,_,_,_=>by simp at h
 |_::_,[],_,_,_,h,_,_,_=>by simp at h
 | a ::us,b::qs,vs,ps,o,hl,hu,hl2,h=>by
   rw [spl,spl];refine ζS M w us qs _ _ _ (by simpa using hl) (fun i x q hx hq=>hu (i+1) x q (by simpa using hx) (by simpa using hq)) (by simpa using hl2) fun i x q hx hq=>?_;by_cases hij:o=i
   · subst hij;(have h1:o<vs.length:=by have:=Zg hx;simpa using this);rw [X' h1] at hx;rw [X' oM] at hq
     cases hx;cases hq;exact hu 0 a b rfl rfl
   · rw [Va hij] at hx hq;exact h i x q hx hq
theorem Dg {M:BS} {w:World} {v:Value} {p:PV} (h:Shr M w v p) (hp:(one p||Ze9 p)=true):v.cells.toList.length=(TH p).length∧∀(i:Nat) (x:Value) (q:PV),v.cells.toList[i]? =some x→(TH p)[i]? =some q→Shr M w x q:=by
 by_cases h1:one p=true
 · have hv:=h.one h1;have hc:v.cells.toList=[v]:=by rw [WH hv]
   have hpc:TH p=[p]:=by cases p<;>first|rfl|cases h1
   rw [hc,hpc];refine ⟨rfl,fun i x q hx hq=>?_⟩;match i with
   |0=>cases hx;cases hq;exact h
   |i+1=>simp at hx
 · rw [XO] at hp;have hp:=hp.resolve_left h1
   cases h with
   |agg us ps hl hV=>exact ⟨hl,hV⟩
   |_=>cases hp
theorem Em (M:BS) (w:World) (offs:List (Nat×Nat)):∀(es:List (Nat×Ent)) (vs:List Value) (ps:List PV),vs.length=ps.length→(∀(i:Nat) (x:Value) (q:PV),vs[i]? =some x→ps[i]? =some q→Shr M w x q)→(∀x∈es,Shr M w x.2.1 x.2.2∧(one x.2.2||Ze9 x.2.2)=true)→
 (OT offs vs (es.map fun x=>(x.1,x.2.1.cells.toList))).length=(OT offs ps (es.map fun x=>(x.1,TH x.2.2))).length∧∀(i:Nat) (x:Value) (q:PV),(OT offs vs (es.map fun x=>(x.1,x.2.1.cells.toList)))[i]? =some x→(OT offs ps (es.map fun x=>(x.1,TH x.2.2)))[i]? =some q→Shr M w x q
 |[],vs,ps,hl,h,_=>⟨hl,h⟩
 | (j,v,p)::es,vs,ps,hl,h,he=>by
   obtain ⟨h1,h2⟩:=he (j,v,p) sM;obtain ⟨h3,h4⟩:=Dg h1 h2;exact Em M w offs es _ _ (by rw [G6,G6];exact hl) (ζS M w _ _ _ _ _ h3 h4 hl h) fun x hx=>he x (by simp [hx])
section
variable {P:Program} {sL hP:List (Nat×Ent)} {o:Oper}
theorem W7 {t:Nat} {parts:Array (Nat×Operand)} {z:Value} {offs:List (Nat×Nat)} {zs:List Value} {es:List (Nat×Ent)} (hT:Y9 P t=some (z,offs)) (hzs:z.cells=zs.toArray:=by exact rfl) (ho:o.op= .build t parts:=by exact rfl) (hx:evP sL parts.toList=some es:=by exact rfl) (hok:es.all (okP offs zs.length)=true:=by exact rfl):YE P (⟨sL,hP⟩:St) o (fun _=>True) (.agg (OT offs (zs.map .val) (es.map fun x=>(x.1,TH x.2.2)))):=fun M F a w H=>by
 obtain ⟨h2,h3⟩:=Pv H hx
 have hok':∀x∈es,okP offs zs.length x=true:=fun x hx=>Xj.1 hok x hx
 have hag:∀x∈es,(one x.2.2||Ze9 x.2.2)=true:=fun x hx=>by
  have:=hok' x hx;unfold okP at this;split at this
  · simp only [Xf] at this;exact this.2
  · cases this
 obtain ⟨h4,h5⟩:=Em M w offs es zs (zs.map .val) sM (fun i x q hx hq=>by
  rw [Xo,hx] at hq;simp at hq;subst hq;exact .val _) fun x hx=>⟨h3 x hx,hag x hx⟩
 refine ⟨.agg (OT offs zs (es.map fun x=>(x.1,x.2.1.cells.toList))).toArray,trivial, .agg _ _ h4 h5,fun N W _ _ _=>?_⟩
 have hb :P.built t ((parts.map fun (i,x)=>(i,a.eval x)).toList)=some (OT offs zs (es.map fun x=>(x.1,x.2.1.cells.toList))).toArray:=by
  have hpe:(parts.map fun (i,x)=>(i,a.eval x)).toList=es.map fun x=>(x.1,x.2.1):=by rw [X7,←h2]
  rw [hpe];unfold Y9 at hT;split at hT
  · rename_i i fs hi hf;split at hT
    · rename_i z' pl hz hpl
      cases hT;unfold Program.built;simp only [hi,hf,hz,hpl,hzs];have:=ZcU offs (es.map fun x=>(x.1,x.2.1)) zs fun x hx=>by
       rw [Xq] at hx;obtain ⟨y,hy,rfl⟩:=hx;have h6:=hok' y hy;have h7:=(Dg (h3 y hy) (hag y hy)).1;unfold okP at h6;split at h6
       · rename_i o k hok;simp only [Xf,Ul] at h6;(have h8:y.2.1.cells.size=k:=by rw [←h6.1.1,←h7,V9]);exact ⟨o,by rw [h8];exact hok,by rw [h8];exact h6.1.2⟩
       · cases h6
      rw [this,Vx];rfl
    · cases hT
  · cases hT
 have:=run_build (P:=P) W t (parts.map fun (i,x)=>(i,a.eval x)) _ hb
 simp only [execOp,ho]
 simp [this]
end
end Go.En
namespace Go.Proofs.YtpiemogpblmiiaaGreatDoor
open Go.RowKit Go.Cb Go.En Tryz
set_option linter.all false
set_option maxRecDepth 100000
theorem G7:FldT prog 151 0 0=true:=by kernel_rfl
theorem K7:FldT prog 151 1 1=true:=by kernel_rfl
theorem RD:FldT prog 65 0 0=true:=by kernel_rfl
theorem LD:FldT prog 65 1 1=true:=by kernel_rfl
theorem LF:NoAgg prog 3=true:=by kernel_rfl
theorem PP:NoAgg prog 9=true:=by kernel_rfl
theorem PQ:(prog.info? 3).map (·.size)=some 1:=by kernel_rfl
theorem ZcV:(prog.info? 9).map (·.size)=some 1:=by kernel_rfl
abbrev pB (l:List UInt8):PV:=ZZ (bst l)
theorem CG {l:List UInt8} {i:Nat} {c:UInt8} (h:l[i]? =some c):(bst l).data[i]? =some c:=by rw [G4,h]
theorem CH (l m:List UInt8):((bst l).toList==(bst m).toList)=decide (l=m):=by
 rw [Vg,Ul]
 exact (Jd (a:=bst l) (b:=bst m)).trans ⟨fun h=>Ze0 h,fun h=>by rw [h]⟩
theorem Zg9 {P:Program} {st:St} {o:Oper} {x y:Operand} {q q':PV} {t:TypeId} {l:List UInt8} {k:IntKind} {i:Int} (hu:P.underlying t=some .string) (ho:o.op= .slice t x (some y) none none:=by exact rfl) (hx:ev st.slots x=some (.string (bst l),q):=by exact rfl) (hy:ev st.slots y=some (.int k i,q'):=by exact rfl) (h0:0≤i:=by omega) (h1:i≤l.length:=by omega):YE P st o (· = .string (bst (l.drop i.toNat))) (pB (l.drop i.toNat)):=by
 have:=Ze8 hu h0 (by rw [YO];exact h1) ho hx hy
 rw [ZcK] at this
 exact this
theorem DZ {P:Program} {st:St} {o:Oper} {x y:Operand} {q q':PV} {t:TypeId} {l:List UInt8} {k:IntKind} {i:Int} (hu:P.underlying t=some .string) (ho:o.op= .slice t x none (some y) none:=by exact rfl) (hx:ev st.slots x=some (.string (bst l),q):=by exact rfl) (hy:ev st.slots y=some (.int k i,q'):=by exact rfl) (h0:0≤i:=by omega) (h1:i≤l.length:=by omega):YE P st o (· = .string (bst (l.take i.toNat))) (pB (l.take i.toNat)):=by
 have:=Zij hu h0 (by rw [YO];exact h1) ho hx hy
 rw [ZcL] at this
 exact this
theorem J9 {l:List UInt8} {i:Nat} (h:i<l.length):∃c,l[i]? =some c:=⟨l[i],Xx h⟩
theorem TI (c:Int):AF prog 155 [pU8 c] (· =ZV (KN c)):=by
 refine AF.of_body 17 func155 rfl ntmps155 (Xa rfl) ?_
 intro w0 M0 vs hl hv
 obtain ⟨v0,rfl⟩:=Kl hl
 obtain rfl:=hv 0 _ _ rfl rfl
 clear hl hv
 refine Zf ?_
 (refine xL 2 Zb ?_;refine Zn ?_)
 (refine xL 3 Za (xL 4 WE (xL 5 Za ?_))<;>(refine bLd 5 (fun hb5=>?_) (fun hb5=>?_)<;>(first|refine kL 6 ?_|refine xL 6 Za ?_))<;>(first|refine kL 7 ?_|refine xL 7 J5 ?_)<;>refine xL 8 Zu (xL 9 Za ?_)<;>(first|refine xL 10 Za ?_|(refine bLd 9 (fun hb9=>?_) (fun hb9=>?_)<;>(first|refine kL 10 ?_|refine xL 10 Za ?_)))<;>(first|refine kL 11 ?_|refine xL 11 WE ?_)<;>(first|refine kL 12 ?_|refine xL 12 Za ?_)<;>(first|refine kL 13 ?_|(refine bLd 12 (fun hb12=>?_) (fun hb12=>?_)<;>(first|refine kL 13 ?_|refine xL 13 Za ?_)))<;>(first|refine kL 14 ?_|refine xL 14 J5 ?_)<;>(first|refine kL 15 ?_|refine xL 15 Zu ?_)<;>refine xL 16 Zu (xL 2 Zb ?_)<;>refine Ze ?_)<;>(
 refine Zx (results155) rfl (J6 ?_);simp only [KN,XO,Xf,Ul,true_iff,false_iff,Vl]<;>omega)
theorem S0 (c:UInt8):AF prog 158 [pU8 c.toNat] (· =ZV (KI c)):=by
 refine AF.of_body 9 func158 rfl ntmps158 (Xa rfl) ?_
 intro w0 M0 vs hl hv
 obtain ⟨v0,rfl⟩:=Kl hl
 obtain rfl:=hv 0 _ _ rfl rfl
 clear hl hv
 refine Zf ?_
 (refine xL 2 Zb ?_;refine Zn ?_)
 (refine xL 3 Za (xL 4 WE (xL 5 Za ?_))<;>(refine bLd 5 (fun hb5=>?_) (fun hb5=>?_)<;>(first|refine kL 6 ?_|refine xL 6 Za ?_))<;>(first|refine kL 7 ?_|refine xL 7 J5 ?_)<;>refine xL 8 Zu (xL 2 Zb ?_)<;>refine Ze ?_)<;>(
 refine Zx (results158) rfl (J6 ?_);simp only [KI,Xf,Ul,true_iff,false_iff,Vl]<;>omega)
theorem Zbo (c:UInt8):AF prog 157 [pU8 c.toNat] (· =ZV (SZ c)):=by
 refine AF.of_body 21 func157 rfl ntmps157 (Xa rfl) ?_
 intro w0 M0 vs hl hv
 obtain ⟨v0,rfl⟩:=Kl hl
 obtain rfl:=hv 0 _ _ rfl rfl
 clear hl hv
 refine Zf ?_
 (refine xL 2 Zb ?_;refine Zn ?_)
 (refine xL 3 Za ?_<;>(refine cS 4 (cA call155 (TI c.toNat)) fun v4 h=>?_;cases h)<;>refine xL 5 Za ?_<;>(refine bL 5 (fun hb5=>?_) (fun hb5=>?_)<;>(first|refine kL 6 ?_|refine xL 6 Za ?_))<;>(first|refine kL 7 ?_|(refine cS 7 (cA call158 (S0 c)) fun v7 h=>?_;cases h))<;>refine xL 8 Zu (xL 9 Za ?_)<;>(first|refine kL 10 ?_|(refine bL 9 (fun hb9=>?_) (fun hb9=>?_)<;>(first|refine kL 10 ?_|refine xL 10 Za ?_)))<;>(first|refine kL 11 ?_|refine xL 11 ZQ ?_)<;>refine xL 12 Zu (xL 13 Za ?_)<;>(first|refine kL 14 ?_|(refine bLd 13 (fun hb13=>?_) (fun hb13=>?_)<;>(first|refine kL 14 ?_|refine xL 14 Za ?_)))<;>(first|refine kL 15 ?_|refine xL 15 ZQ ?_)<;>refine xL 16 Zu (xL 17 Za ?_)<;>(first|refine kL 18 ?_|(refine bLd 17 (fun hb17=>?_) (fun hb17=>?_)<;>(first|refine kL 18 ?_|refine xL 18 Za ?_)))<;>(first|refine kL 19 ?_|refine xL 19 ZQ ?_)<;>refine xL 20 Zu (xL 2 Zb ?_)<;>refine Ze ?_)<;>(
 refine Zx (results157) rfl (J6 ?_);simp only [SZ,Ge,KI] at*;simp only [XO,Xf,Ul,true_iff,false_iff,Vl,beq_iff_eq] at* <;>simp_all<;>omega)
theorem ζT {q:UInt8→Bool}:∀{l:List UInt8} {k:Nat} {c:UInt8},(∀(j:Nat) (d:UInt8),j<k→l[j]? =some d→q d=true)→l[k]? =some c→q c=false→(l.takeWhile q).length=k
 |[],k,c,_,h,_=>by simp at h
 |d::l,0,c,_,h,hc=>by simp at h;subst h;rw [VF,hc];rfl
 | d::l,k+1,c,h0,h,hc=>by
   rw [VF,h0 0 d oM rfl];simp only [if_true,Xc];rw [ζT (q:=q) (l:=l) (k:=k) (c:=c) (fun j e hj he=>h0 (j+1) e oM (by simpa using he)) (by simpa using h) hc]
theorem ZcW {q:UInt8→Bool}:∀{l:List UInt8},(∀(j:Nat) (d:UInt8),l[j]? =some d→q d=true)→(l.takeWhile q).length=l.length
 |[],_=>rfl
 | d::l,h0=>by
   rw [VF,h0 0 d rfl];simp only [if_true,Xc];rw [ZcW (q:=q) (l:=l) fun j e he=>h0 (j+1) e (by simpa using he)]
theorem PR (f:Nat) (p:UInt8→Bool) (l:List UInt8) (hl:l.length≤1000000) (hc:∀args w,(callFunc f args).run prog w= .ok (.enter f args) w) (hf:∀c,AF prog f [pU8 c.toNat] (· =ZV (p c))):AF prog 156 [pB l, .fn f []] (· =Zc (l.takeWhile p).length):=by
 have hsz:=YO l
 refine AF.of_body 21 func156 rfl ntmps156 (Xa rfl) ?_
 intro w0 M0 vs hl hv
 obtain ⟨v0,v1,rfl⟩:=KG hl
 obtain rfl:=hv 0 _ _ rfl rfl
 clear hl hv
 refine Zf ?_
 (refine xL 4 Zb ?_;refine Zn ?_)
 (refine xL 6 Za (xL 7 (Wn underlying9) (xL 8 Za ?_));refine Ze ?_)
 refine ZE (ι:={k:Nat//k≤l.length∧∀j d,j<k→l[j]? =some d→p d=true}) (fun k=>⟨[(0,_,_),(1,_,_),(7,_,_),(8, .int .i64 k.1,Zc k.1)],[]⟩) (fun k=>l.length-k.1) ⟨0,Xh _,fun j d hj=>Uq hj (VZ _)⟩ (fun a w H=>H.weaken ⟨rfl,rfl,rfl,rfl,trivial⟩ trivial) ?_
 rintro ⟨k,hk,hp⟩
 dsimp only
 try dsimp only at hk hp
 refine Zf ?_
 (refine xL 9 ZR ?_;refine Ze ?_)
 refine cX ?_ ?_<;>intro hb9
 · first | exact bN hb9|(
 obtain ⟨c,hcx⟩:=J9 (show k<l.length by omega);have hcy:=CG hcx;refine Zf ?_;(refine xL 10 Za (xL 5 Zb ?_);refine Zn ?_)
 (refine xL 11 Za (xL 12 Za (xL 13 Za (xL 14 (Ws underlying9) ?_)));refine cS 15 (Jb (f:=f) (ps:=[]) rfl ⟨_,rfl⟩ hc rfl (hf c)) fun v15 hv15=>?_;cases hv15;refine xL 16 Ym ?_;refine Ze ?_)
 refine cX ?_ ?_<;>intro hb16
 · first|exact bN hb16|(
 refine Zf ?_;(refine xL 17 Za (xL 4 Zb ?_);refine Ze ?_)
 refine Zx (results156) rfl ?_;rw [ζT hp hcx (by simpa using hb16)])
 · first |exact bN hb16|(
 refine Zf ?_;(refine xL 18 ZO (xL 8 Za ?_);refine Ze ?_)
 refine Zk (
  ⟨k +1,oM,fun j d hj hd=>by
   rcases Xm j k with h|h
   · exact hp j d h hd
   · obtain rfl:j=k:=oM;rw [hcx] at hd;cases hd;simpa using hb16⟩
  ) (by dsimp only;omega) ⟨rfl,rfl,rfl,rfl,trivial⟩ trivial))
 · first|exact bN hb9|(
 refine Zf ?_;(refine xL 19 Za (xL 20 (Wn underlying9) (xL 4 Zb ?_));refine Ze ?_)
 refine Zx (results156) rfl ?_;rw [ZcW fun j d hd=>hp j d (by have:=Zg hd;omega) hd];try (rw [hsz];done))
theorem ZcX {l m:List UInt8} (h:m.length≤l.length):m.isPrefixOf l=decide (l.take m.length=m):=by
 rw [Vg,Uj,Ul,List.prefix_iff_eq_take]
 exact ⟨fun h=>h.symm,fun h=>h.symm⟩
theorem ZcY {l m:List UInt8} (h:¬m.length≤l.length):m.isPrefixOf l=false:=by
 cases h2:m.isPrefixOf l with
 |false=>rfl
 |true=>exact Uq (Uj.1 h2).length_le h
theorem CI (l m:List UInt8) (hl:l.length≤1000000) (hm:m.length≤1000000):AF prog 204 [pB l,pB m] (· =ZV (m.isPrefixOf l)):=by
 have h1:=YO l
 have h2:=YO m
 refine AF.of_body 18 func204 rfl ntmps204 (Xa rfl) ?_
 intro w0 M0 vs hl hv
 obtain ⟨v0,v1,rfl⟩:=KG hl
 obtain rfl:=hv 0 _ _ rfl rfl
 obtain rfl:=hv 1 _ _ rfl rfl
 clear hl hv
 refine Zf ?_
 (refine xL 4 Zb ?_;refine Zn ?_)
 (refine xL 5 Za (xL 6 (Wn underlying9) (xL 7 Za (xL 8 (Wn underlying9) (xL 9 WE (xL 10 Za ?_)))))<;>(refine bLd 10 (fun hb10=>?_) (fun hb10=>?_)<;>(first|refine kL 11 ?_|refine xL 11 Za ?_))<;>(first|refine kL 12 ?_|refine xL 12 Za ?_)<;>(first|refine kL 13 ?_|refine xL 13 (Wn underlying9) ?_)<;>(first|refine kL 14 ?_|refine xL 14 (DZ underlying9) ?_)<;>(first|refine kL 15 ?_|refine xL 15 Za ?_)<;>(first|refine kL 16 ?_|refine xL 16 WY ?_)<;>refine xL 17 Zu (xL 4 Zb ?_)<;>refine Ze ?_)<;>(
 refine Zx (results204) rfl ?_
 first
  |(rw [ZcY oM];done)
  | (rw [ZcX oM,CH]
     simp only [h2,X4];done))
theorem RE (l m:List UInt8) (hl:l.length≤1000000) (hm:m.length≤1000000):AF prog 176 [pB l,pB m] (· =ZV (m.isPrefixOf l)):=by
 refine AF.of_body 8 func176 rfl ntmps176 (Xa rfl) ?_
 intro w0 M0 vs hl hv
 obtain ⟨v0,v1,rfl⟩:=KG hl
 obtain rfl:=hv 0 _ _ rfl rfl
 obtain rfl:=hv 1 _ _ rfl rfl
 clear hl hv
 refine Zf ?_
 (refine xL 4 Zb ?_;refine Zn ?_)
 (refine xL 5 Za (xL 6 Za ?_);refine cS 7 (cA call204 (CI l m hl hm)) fun v7 hv7=>?_;cases hv7;refine xL 4 Zb ?_;refine Ze ?_)
 exact Zx (results176) rfl rfl
def RdH (b:Nat) (l:List UInt8) (p:Int×Int):List (Nat×Ent):=[(1000,Yd b, .own 151 3 1 [pB l,Zc p.1,Zc p.2])]
theorem Zbp {p:Int×Int} {l:List UInt8} {k:Nat} {c:UInt8} (h:l[k]? =some c):Ys p (l.take (k+1))=adv (Ys p (l.take k)) c:=by
 unfold Ys
 rw [Yo h,List.foldl_append];rfl
theorem CJ {p:Int×Int} (h1:0≤p.1) (h2:0≤p.2):∀l:List UInt8,0≤(Ys p l).1∧0≤(Ys p l).2∧(Ys p l).1≤p.1+l.length∧(Ys p l).2≤p.2+l.length+1
 |[]=>by simp only [Ys,List.foldl_nil,Xk];omega
 | c ::l=>by
   have hb:0≤(adv p c).1∧0≤(adv p c).2∧(adv p c).1≤p.1+1∧(adv p c).2≤p.2+1:=by
    unfold adv;split<;>simp only<;>omega
   have:=CJ (p:=adv p c) hb.1 hb.2.1 l;rw [show Ys p (c::l)=Ys (adv p c) l from rfl,Xc];omega
theorem Eo (b:Nat) (l:List UInt8) (p:Int×Int) (n:Nat) (hn:n≤l.length) (hl:l.length≤1000000) (h1:0≤p.1) (h2:0≤p.2) (h3:p.1≤1000000) (h4:p.2≤1000000):AFh False prog 127 [(0,ZX b, .val (ZX b)),(1, .int .i64 n,Zc n)] (RdH b l p) (fun _ _ h=>h=RdH b (l.drop n) (Ys p (l.take n))):=by
 unfold RdH
 refine AFh.of_body 48 func127 rfl ntmps127 (Xa rfl) rfl ?_
 intro w0 M0 N0
 refine Zf ?_
 (refine xL 5 Za (xL 6 Za ?_);refine Ze ?_)
 refine ZE (ι:={k:Nat//k≤n}) (fun k=>⟨[(0,_,_),(1,_,_),(5,_,_),(6, .int .i64 k.1,Zc k.1)],[(1000,Yd b, .own 151 3 1 [pB l,Zc (Ys p (l.take k.1)).1,Zc (Ys p (l.take k.1)).2])]⟩) (fun k=>n-k.1) ⟨0,Xh _⟩ (fun a w H=>H.weaken ⟨rfl,rfl,rfl,rfl,trivial⟩ ⟨rfl,trivial⟩) ?_
 rintro ⟨k,hk⟩
 dsimp only
 try dsimp only at hk
 have hb:=CJ h1 h2 (l.take k)
 rw [Xl] at hb
 refine Zf ?_
 (refine xL 7 ZR ?_;refine Ze ?_)
 refine cX ?_ ?_<;>intro hb7
 · first |exact bN hb7|(
 obtain ⟨c,hcx⟩:=J9 (show k<l.length by omega);have hcy:=CG hcx;have hst:=Zbp (p:=p) hcx;refine Zf ?_;(refine xL 8 Za (xL 4 Zb ?_);refine Zn ?_)
 (refine xL 9 Za (xL 10 (ZC 1000) (xL 11 (Zd 1000 K7) (xL 12 (Zd 1000 LD) ?_)));refine yL 13 (Zi 1000 LF) fun v13 hv13=>?_;cases hv13;refine xL 14 ZO (xL 15 (ZC 1000) (xL 16 (Zd 1000 K7) (xL 17 (Zd 1000 LD) ?_)));refine Y3 1000 LF PQ ?_;refine Zn ?_)
 (refine xL 18 Za (xL 19 (ZC 1000) (xL 20 (Zd 1000 G7) ?_));refine yL 21 (Zi 1000 PP) fun v21 hv21=>?_;cases hv21;refine xL 22 Za (xL 23 (Ws underlying9) (xL 24 ZQ ?_));refine Ze ?_)
 refine cX ?_ ?_<;>intro hb24
 · first|exact bN hb24|(
 (have hd:Ys p (l.take (k+1))=((Ys p (l.take k)).1+1,1):=by rw [hst,adv,Up oM]);refine Zz (ZF (l:=1000) (p':= .own 151 3 1 [pB l,Zc (Ys p (l.take k)).1,Zc ((Ys p (l.take k)).2+1)]) rfl rfl) fun _=>?_;refine Zf ?_;(refine xL 25 Za (xL 26 (ZC 1000) (xL 27 (Zd 1000 K7) (xL 28 (Zd 1000 RD) ?_)));refine yL 29 (Zi 1000 LF) fun v29 hv29=>?_;cases hv29;refine xL 30 ZO (xL 31 (ZC 1000) (xL 32 (Zd 1000 K7) (xL 33 (Zd 1000 RD) ?_)));refine Y3 1000 LF PQ ?_;refine Zn ?_)
 (refine xL 34 Za (xL 35 (ZC 1000) (xL 36 (Zd 1000 K7) (xL 37 (Zd 1000 LD) ?_)));refine Y3 1000 LF PQ ?_;refine Ze ?_)
 refine Zz (ZF (l:=1000) rfl (show PV.own 151 3 1 [pB l,Zc ((Ys p (l.take k)).1+1),Zc 1]=PV.own 151 3 1 [pB l,Zc (Ys p (l.take (k+1))).1,Zc (Ys p (l.take (k+1))).2] by rw [hd])) fun _=>?_;(refine Zm ?_;refine xL 38 ZO (xL 6 Za ?_);refine Ze ?_)
 refine Zk (
  ⟨k+1,oM⟩
  ) (by dsimp only;omega) ⟨rfl,rfl,rfl,rfl,trivial⟩ ⟨rfl,trivial⟩)
 · first|exact bN hb24|(
 (have hd:Ys p (l.take (k+1))=((Ys p (l.take k)).1,(Ys p (l.take k)).2+1):=by rw [hst,adv,Uo oM]);refine Zz (ZF (l:=1000) rfl (show PV.own 151 3 1 [pB l,Zc (Ys p (l.take k)).1,Zc ((Ys p (l.take k)).2+1)]=PV.own 151 3 1 [pB l,Zc (Ys p (l.take (k+1))).1,Zc (Ys p (l.take (k+1))).2] by rw [hd])) fun _=>?_;refine Zf ?_;(refine xL 38 ZO (xL 6 Za ?_);refine Ze ?_)
 refine Zk (
  ⟨k+1,oM⟩
  ) (by dsimp only;omega) ⟨rfl,rfl,rfl,rfl,trivial⟩ ⟨rfl,trivial⟩))
 · first|exact bN hb7|(
 obtain rfl:k=n:=oM;refine Zf ?_;(refine xL 39 Za (xL 40 Za (xL 41 (ZC 1000) (xL 42 (Zd 1000 G7) ?_)));refine yL 43 (Zi 1000 PP) fun v43 hv43=>?_;cases hv43;refine xL 44 Za (xL 45 (Zg9 underlying9) (xL 46 (ZC 1000) (xL 47 (Zd 1000 G7) ?_)));refine Y3 1000 PP ZcV ?_;refine Ze ?_)
 exact Z8 (RdH b (l.drop k) (Ys p (l.take k))) (results127) ⟨rfl,trivial⟩ rfl)
theorem Zbq:ElT prog 52 9 1 16 (.string ByteArray.empty):=⟨underlying52,by kernel_rfl,rfl,dC⟩
theorem ZcZ:NoAgg prog 9=true:=by kernel_rfl
theorem Dh:SlT prog 52 9 1=true:=by kernel_rfl
def Zik:PV:= .sl 33 (DV.map pB)
set_option maxHeartbeats 4000000 in
theorem Ep:AF prog 180 [] (· =Zik):=by
 refine AF.of_body 2 func180 rfl ntmps180 (Xa rfl) ?_
 intro w0 M0 vs hl hv
 obtain rfl:=XK hl
 clear hl hv
 refine Zf ?_
 (refine xL 0 Zb ?_;refine Zn ?_)
 ((refine Px (xs:=[_,_,_,_,_,_,_,_,_,_,_,_,_,_,_,_,_,_,_,_,_,_,_,_,_,_,_,_,_,_,_,_,_]) 1 Zbq fun h1 ho1=>?_;refine Zp (En.freeze (l:=1) (t:=1) rfl rfl) fun _=>?_);refine xL 0 Zb ?_;refine Ze ?_)
 exact Zx (results180) rfl rfl
theorem ζU {α:Type} {q:α→Bool}:∀{l:List α} {k:Nat} {x:α},(∀(j:Nat) (y:α),j<k→l[j]? =some y→q y=false)→l[k]? =some x→q x=true→l.find? q=some x
 |[],k,x,_,h,_=>by simp at h
 |y::l,0,x,_,h,hx=>by simp at h;subst h;rw [List.find?_cons,hx]
 | y::l,k+1,x,h0,h,hx=>by
   rw [List.find?_cons,h0 0 y oM rfl];exact ζU (k:=k) (fun j z hj hz=>h0 (j+1) z oM (by simpa using hz)) (by simpa using h) hx
theorem Zfa {α:Type} {q:α→Bool} {l:List α} (h:∀(j:Nat) (y:α),l[j]? =some y→q y=false):l.find? q=none:=by
 rw [List.find?_eq_none]
 intro x hx
 obtain ⟨j,hj⟩:=X8 hx
 rw [h j x hj];exact XV
theorem CK (l:List UInt8) (hl:l.length≤1000000):AF prog 162 [pB l] (· = .tup [pB ((RS l).getD []),ZV (RS l).isSome]):=by
 have hsl:DV.length=33:=rfl
 refine AF.of_body 17 func162 rfl ntmps162 (Xa rfl) ?_
 intro w0 M0 vs hl hv
 obtain ⟨v0,rfl⟩:=Kl hl
 obtain rfl:=hv 0 _ _ rfl rfl
 clear hl hv
 refine Zf ?_
 (refine xL 2 Zb (xL 3 Zb ?_);refine Zn ?_)
 ((refine cS 6 (cA (call180) Ep) fun v6 hv6=>?_;refine Zp (Yk (t:=6) (p':= .sl 33 (DV.map pB)) rfl rfl) fun _=>?_);refine xL 7 (Z1 Dh) (xL 8 Za ?_);refine Ze ?_)
 refine ZE (ι:={k:Nat//k≤33∧∀(j:Nat) (y:List UInt8),j<k→DV[j]? =some y→y.isPrefixOf l=false}) (fun k=>⟨[(0,_,_),(6,_,_),(7,_,_),(8, .int .i64 k.1,Zc k.1)],[]⟩) (fun k=>33-k.1) ⟨0,Xh _,fun j d hj=>Uq hj (VZ _)⟩ (fun a w H=>H.weaken ⟨rfl,rfl,rfl,rfl,trivial⟩ trivial) ?_
 rintro ⟨k,hk,hp⟩
 dsimp only
 try dsimp only at hk hp
 refine Zf ?_
 (refine xL 9 ZR ?_;refine Ze ?_)
 refine cX ?_ ?_<;>intro hb9
 · first | exact bN hb9|(
 obtain ⟨x,hx⟩:=Zw (l:=DV) (i:=k) (by rw [hsl];omega);have e1:=Y2 (f:=pB) hx;have hxl:=Eg (Xd hx);refine Zf ?_;(refine xL 10 (ZP Dh) ?_;refine yL 11 (Yy ZcZ) fun v11 hv11=>?_;cases hv11;refine xL 5 Zb ?_;refine Zn ?_)
 (refine xL 12 Za (xL 13 Za ?_);refine cS 14 (cA call176 (RE l x hl oM)) fun v14 hv14=>?_;cases hv14;refine Ze ?_)
 refine cX ?_ ?_<;>intro hb14
 · first|exact bN hb14|(
 refine Zf ?_;(refine xL 15 Za (xL 2 Zb (xL 3 Zb ?_));refine Ze ?_)
 refine JD (results162) rfl rfl ?_;rw [show RS l=some x from ζU hp hx hb14];rfl)
 · first |exact bN hb14|(
 refine Zf ?_;(refine xL 16 ZO (xL 8 Za ?_);refine Ze ?_)
 refine Zk (
  ⟨k +1,oM,fun j y hj hy=>by
   rcases Xm j k with h|h
   · exact hp j y h hy
   · obtain rfl:j=k:=oM;rw [hx] at hy;cases hy;exact hb14⟩
  ) (by dsimp only;omega) ⟨rfl,rfl,rfl,rfl,trivial⟩ trivial))
 · first|exact bN hb9|(
 refine Zf ?_;(refine xL 2 Zb (xL 3 Zb ?_);refine Ze ?_)
 refine JD (results162) rfl rfl ?_;rw [show RS l=none from Zfa fun j y hy=>hp j y (by have:=Zg hy;rw [hsl] at this;omega) hy];rfl)
def T7 (k:Nat) (pre:List UInt8):Lt→Lt
 | .ok n t=> .ok (n+k) (pre++t)
 | .err e=> .err e
theorem L5 (k j:Nat) (p q:List UInt8) (x:Lt):T7 k p (T7 j q x)=T7 (k+j) (p++q) x:=by
 cases x with
 |ok n t=>simp only [T7,XC];rw [show n+j+k=n+(k+j) by omega]
 |err e=>rfl
theorem D1 {c:UInt8} {m:List UInt8} (h:(c.toNat:Int)=34):YT (c::m)= .ok 1 []:=by
 rw [YT.eq_def];simp only;rw [Up oM]
theorem ζV {c:UInt8} {m:List UInt8} (h0:¬(c.toNat:Int)=34) (h:(c.toNat:Int)<32∨126<(c.toNat:Int)):YT (c::m)= .err 3:=by
 rw [YT.eq_def];simp only;rw [Uo oM,Up oM]
theorem S1 {c:UInt8} {m:List UInt8} (h0:¬(c.toNat:Int)=34) (h1:¬(c.toNat:Int)<32) (h2:¬126<(c.toNat:Int)) (h:¬(c.toNat:Int)=92):YT (c::m)=T7 1 [c] (YT m):=by
 rw [YT.eq_def];simp only;rw [Uo oM,Uo oM,Uo oM]
 cases YT m<;>rfl
theorem PS {c:UInt8} (h:(c.toNat:Int)=92):YT [c]= .err 4:=by
 rw [YT.eq_def];simp only;rw [Uo oM,Uo oM,Up oM]
theorem D2 {c d:UInt8} {m:List UInt8} (h:(c.toNat:Int)=92) (hd:(d.toNat:Int)=34∨(d.toNat:Int)=92):YT (c::d::m)=T7 2 [d] (YT m):=by
 rw [YT.eq_def];simp only;rw [Uo oM,Uo oM,Up oM,Up oM]
 cases YT m<;>rfl
theorem Er {c d:UInt8} {m:List UInt8} (h:(c.toNat:Int)=92) (hd:¬(d.toNat:Int)=34) (hd2:¬(d.toNat:Int)=92):YT (c::d::m)= .err 3:=by
 rw [YT.eq_def];simp only;rw [Uo oM,Uo oM,Up oM,Uo oM]
theorem LG {α:Type} {l:List α} {k:Nat} {x:α} (h:l[k]? =some x):l.drop k=x::l.drop (k+1):=by
 rw [XN (Zg h),(Xz.1 h).2]
theorem Wz {α:Type} {l:List α} {k:Nat} (h:l.length≤k):l.drop k=[]:=XZ h
def ltP:Lt→PV
 | .ok n _=> .tup [Zc (n+1),Zc 0]
 | .err e=> .tup [Zc 0,Zc e]
theorem Es (a : UInt8) (m :List UInt8) (hl:m.length≤100000):AF prog 160 [pB (a::m)] (· =ltP (YT m)):=by
 have hsz:=YO (a::m)
 rw [Xc] at hsz
 refine AF.of_body 50 func160 rfl ntmps160 (Xa rfl) ?_
 intro w0 M0 vs hl hv
 obtain ⟨v0,rfl⟩:=Kl hl
 obtain rfl:=hv 0 _ _ rfl rfl
 clear hl hv
 refine Zf ?_
 (refine xL 2 Zb (xL 3 Zb ?_);refine Zn ?_)
 (refine xL 4 Zb ?_;refine Ze ?_)
 refine ZE (ι:={k:Nat//k≤m.length∧∃pre,YT m=T7 k pre (YT (m.drop k))}) (fun k=>⟨[(0,_,_),(4, .int .i64 ((k.1:Int)+1),Zc ((k.1:Int)+1))],[]⟩) (fun k=>m.length-k.1) ⟨0,Xh _,[],by rw [Vs];cases YT m<;>rfl⟩ (fun a w H=>H.weaken ⟨rfl,rfl,trivial⟩ trivial) ?_
 rintro ⟨k,hk,pre,hp⟩
 dsimp only
 try dsimp only at hk hp
 refine Zf ?_
 (refine xL 5 Za (xL 6 Za (xL 7 (Wn underlying9) (xL 8 ZR ?_)));refine Ze ?_)
 refine cX ?_ ?_<;>intro hb8
 · first | exact bN hb8 | (
 obtain ⟨c,hc⟩:=J9 (l:=m) (i:=k) oM;have hcx:(bst (a::m)).data[((k:Int)+1).toNat]? =some c:=by
  rw [show ((k:Int)+1).toNat=k+1 by omega,G4];exact hc
 have hd:=LG hc;rw [hd] at hp;refine Zf ?_;(refine xL 12 Za (xL 13 Za ?_);refine xL 14 (Ws underlying9 rfl rfl rfl oM hcx) ?_;refine xL 15 ZQ (xL 11 Zb ?_);refine Ze ?_)
 refine cX ?_ ?_<;>intro hb11
 · first|exact bN hb11|(
 refine Zf ?_;(refine xL 16 Za (xL 17 ZO (xL 2 Zb (xL 3 Zb ?_)));refine Ze ?_)
 refine JD (results160) rfl rfl ?_;rw [hp,D1 hb11];show PV.tup [Zc ((k:Int)+1+1),Zc 0]=PV.tup [Zc (((1+k:Nat):Int)+1),Zc 0];rw [show (((1+k:Nat):Int)+1)=(k:Int)+1+1 by omega])
 · first | exact bN hb11|(
 refine Zf ?_;(refine xL 19 Za (xL 20 Za ?_)<;>refine xL 21 (Ws underlying9 rfl rfl rfl oM hcx) ?_<;>refine xL 22 ZR (xL 23 Za ?_)<;>(refine bLd 23 (fun hb23=>?_) (fun hb23=>?_)<;>(first|refine kL 24 ?_|refine xL 24 Za ?_))<;>(first|refine kL 25 ?_|refine xL 25 Za ?_)<;>(first|refine kL 26 ?_|refine kL 26 ?_|refine xL 26 (Ws underlying9 rfl rfl rfl oM hcx) ?_)<;>(first|refine kL 27 ?_|refine xL 27 Wy ?_)<;>refine xL 28 Zu (xL 18 Zb ?_)<;>refine Ze ?_)<;>(
 refine cX ?_ ?_<;>intro hb18
 · first|exact bN hb18|(
 refine Zf ?_;(refine xL 2 Zb (xL 3 Zb ?_);refine Ze ?_)
 refine JD (results160) rfl rfl ?_;rw [hp,ζV oM oM];rfl)
 · first | exact bN hb18|(
 refine Zf ?_;(refine xL 30 Za (xL 31 Za ?_);refine xL 32 (Ws underlying9 rfl rfl rfl oM hcx) ?_;refine xL 33 ZQ (xL 29 Zb ?_);refine Ze ?_)
 refine cX ?_ ?_<;>intro hb29
 · first | exact bN hb29|(
 refine Zf ?_;(refine xL 34 Za (xL 35 ZO (xL 4 Zb ?_));refine Zn ?_)
 (refine xL 36 Za (xL 37 Za (xL 38 (Wn underlying9) (xL 39 ZQ ?_)));refine Ze ?_)
 refine cX ?_ ?_<;>intro hb39
 · first|exact bN hb39|(
 refine Zf ?_;(refine xL 2 Zb (xL 3 Zb ?_);refine Ze ?_)
 refine JD (results160) rfl rfl ?_;rw [hp,Wz (show m.length≤k+1 by omega),PS oM];rfl)
 · first | exact bN hb39|(
 obtain ⟨d,hdx⟩:=J9 (l:=m) (i:=k+1) oM;have hdy:(bst (a::m)).data[((k:Int)+1+1).toNat]? =some d:=by
  rw [show ((k:Int)+1+1).toNat=k+1+1 by omega,G4];exact hdx
 have hd2:=LG hdx;rw [hd2] at hp;refine Zf ?_;(refine xL 40 Za (xL 41 Za ?_)<;>refine xL 42 (Ws underlying9 rfl rfl rfl oM hdy) ?_<;>refine xL 43 YN (xL 44 Za ?_)<;>(refine bLd 44 (fun hb44=>?_) (fun hb44=>?_)<;>(first|refine kL 45 ?_|refine xL 45 Za ?_))<;>(first|refine kL 46 ?_|refine xL 46 Za ?_)<;>(first|refine kL 47 ?_|refine kL 47 ?_|refine xL 47 (Ws underlying9 rfl rfl rfl oM hdy) ?_)<;>(first|refine kL 48 ?_|refine xL 48 YN ?_)<;>refine xL 49 Zu ?_<;>refine Ze ?_)<;>(
 refine cX ?_ ?_<;>intro hb49
 · first|exact bN hb49|(
 refine Zf ?_;(refine xL 2 Zb (xL 3 Zb ?_);refine Ze ?_)
 refine JD (results160) rfl rfl ?_;rw [hp,Er oM oM oM];rfl)
 · first |exact bN hb49|(
 rw [D2 oM oM,L5] at hp;refine Zf ?_;(refine xL 9 Za (xL 10 ZO (xL 4 Zb ?_));refine Ze ?_)
 first
  | (exact Zk (
      ⟨k+2,oM,_,hp⟩
      ) (by dsimp only;omega) ⟨rfl,rfl,trivial⟩ trivial)
  | (exact Zk (
      ⟨k+1,oM,_,hp⟩
      ) (by dsimp only;omega) ⟨rfl,rfl,trivial⟩ trivial)))))
 · first |exact bN hb29|(
 rw [S1 oM oM oM oM,L5] at hp;refine Zf ?_;(refine xL 9 Za (xL 10 ZO (xL 4 Zb ?_));refine Ze ?_)
 first
  | (exact Zk (
      ⟨k+2,oM,_,hp⟩
      ) (by dsimp only;omega) ⟨rfl,rfl,trivial⟩ trivial)
  | (exact Zk (
      ⟨k+1,oM,_,hp⟩
      ) (by dsimp only;omega) ⟨rfl,rfl,trivial⟩ trivial))))))
 · first|exact bN hb8|(
 refine Zf ?_;(refine xL 2 Zb (xL 3 Zb ?_);refine Ze ?_)
 refine JD (results160) rfl rfl ?_;rw [hp,Wz oM];rfl)
section
variable {α:Type}
def swp (l:List α) (i j:Nat):List α:=match l[i]?,l[j]? with
 |some x,some y=>(l.set i y).set j x
 |_,_=>l
theorem Zc0 {l:List α} {i j:Nat} {x y:α} (hi:l[i]? =some x) (hj:l[j]? =some y):swp l i j=(l.set i y).set j x:=by unfold swp;rw [hi,hj]
theorem Zfb (l:List α) (i j:Nat):(swp l i j).length=l.length:=by unfold swp;split<;>simp
theorem L6 {l:List α} {i j:Nat} (hi:i<l.length) (hj:j<l.length) (k:Nat):(swp l i j)[k]? =if k=j then l[i]? else if k=i then l[j]? else l[k]? :=by
 rw [Zc0 (Xx hi) (Xx hj),List.getElem?_set,List.getElem?_set,Xi]
 by_cases h1:k=j
 · subst h1;simp [hj,Xx hi]
 · rw [Uo (fun h=>h1 h.symm),Uo h1];by_cases h2:k=i
   · subst h2;simp [hi,Xx hj]
   · rw [Uo (fun h=>h2 h.symm),Uo h2]
theorem Zc1 (l:List α) (i j:Nat):(swp l i j).Perm l:=by
 unfold swp
 split
 · rename_i x y hx hy;obtain ⟨hi,rfl⟩:=Xz.1 hx;obtain ⟨hj,rfl⟩:=Xz.1 hy;exact List.set_set_perm hi hj
 · exact List.Perm.refl _
inductive Sw (a b:Nat):List α→List α→Prop
 |refl (l:List α):Sw a b l l
 |step {l m:List α} (i j:Nat) (h:Sw a b l m) (hi:a≤i) (hi':i<b) (hj:a≤j) (hj':j<b) (hb:b≤l.length):Sw a b l (swp m i j)
theorem Sw.len {a b:Nat} {l m:List α} (h:Sw a b l m):m.length=l.length:=by
 induction h with
 |refl=>rfl
 |step i j h _ _ _ _ _ ih=>rw [Zfb,ih]
theorem Sw.perm {a b:Nat} {l m:List α} (h:Sw a b l m):m.Perm l:=by
 induction h with
 |refl=>exact List.Perm.refl _
 |step i j h _ _ _ _ _ ih=>exact (Zc1 _ _ _).trans ih
theorem Sw.out {a b:Nat} {l m:List α} (h:Sw a b l m) {k:Nat} (hk:k<a∨b≤k):m[k]? =l[k]? :=by
 induction h with
 |refl=>rfl
 | step i j h hi hi' hj hj' hb ih=>
   rw [L6 (by rw [h.len];omega) (by rw [h.len];omega),Uo oM,Uo oM,ih]
theorem Sw.mem {a b:Nat} {l m:List α} (h:Sw a b l m):∀{k:Nat} {x:α},a≤k→k<b→m[k]? =some x→∃k',a≤k'∧k'<b∧l[k']? =some x:=by
 induction h with
 |refl=>exact fun h1 h2 h3=>⟨_,h1,h2,h3⟩
 | step i j h hi hi' hj hj' hb ih=>
   intro k x h1 h2 h3;rw [L6 (by rw [h.len];omega) (by rw [h.len];omega)] at h3;split at h3
   · exact ih hi hi' h3
   · split at h3
     · exact ih hj hj' h3
     · exact ih h1 h2 h3
theorem Sw.mono {a b a' b':Nat} {l m:List α} (h:Sw a b l m) (ha:a'≤a) (hb:b≤b') (hl:b'≤l.length):Sw a' b' l m:=by
 induction h with
 |refl=>exact .refl _
 |step i j h hi hi' hj hj' hb' ih=>exact .step i j ih oM oM oM oM hl
theorem Sw.trans {a b:Nat} {l m n:List α} (h:Sw a b l m) (h':Sw a b m n):Sw a b l n:=by
 induction h' with
 |refl=>exact h
 |step i j h2 hi hi' hj hj' hb ih=>exact .step i j ih hi hi' hj hj' (by rw [←h.len];exact hb)
variable (le:α→α→Prop)
def SrtS (a b:Nat) (l:List α):Prop:=∀i j x y,a≤i→i<j→j<b→l[i]? =some x→l[j]? =some y→le x y
theorem SrtS.sub {a b a' b':Nat} {l:List α} (h:SrtS le a b l) (ha:a≤a') (hb:b'≤b):SrtS le a' b' l:=fun i j x y h1 h2 h3=>h i j x y oM h2 oM
theorem SrtS.small {a b:Nat} (l:List α) (h:b≤a+1):SrtS le a b l:=fun i j x y h1 h2 h3=>oM
theorem SrtS.ext {a b:Nat} {l m:List α} (h:SrtS le a b l) (he:∀k,a≤k→k<b→m[k]? =l[k]?):SrtS le a b m:=fun i j x y h1 h2 h3 hx hy=>h i j x y h1 h2 h3 (by rw [←he i oM oM];exact hx) (by rw [←he j oM oM];exact hy)
theorem SrtS.eqv (hr:∀x,le x x) {a b:Nat} {l:List α} (h:SrtS le a b l) {i j:Nat} {x y:α} (h1:a≤i) (h2:i≤j) (h3:j<b) (hx:l[i]? =some x) (hy:l[j]? =some y):le x y:=by
 rcases Xm i j with h4|h4
 · exact h i j x y h1 h4 h3 hx hy
 · have:i=j:=oM;subst this;rw [hx] at hy;cases hy;exact hr x
def Zc2 (a i j:Nat) (l:List α):Prop:=(∀p q x y,a≤p→p<q→q≤i→p≠j→q≠j→l[p]? =some x→l[q]? =some y→le x y)∧(∀q x y,j<q→q≤i→l[j]? =some x→l[q]? =some y→le x y)
theorem Zbr {a i:Nat} {l:List α} (h:SrtS le a i l):Zc2 le a i i l:=⟨fun p q x y h1 h2 h3 h4 h5=>h p q x y h1 h2 oM,fun q x y h1 h2=>oM⟩
theorem Zc3 {a i j:Nat} {l:List α} (h:Zc2 le a i (j+1) l) (ha:a≤j) (hi:j+1≤i) (hl:i<l.length) {x y:α} (hx:l[j+1]? =some x) (hy:l[j]? =some y) (hle:le x y):Zc2 le a i j (swp l (j+1) j):=by
 have hg:=L6 (l:=l) (i:=j+1) (j:=j) oM oM
 refine ⟨fun p q u v h1 h2 h3 h4 h5 hu hv=>?_,fun q u v h1 h2 hu hv=>?_⟩
 · rw [hg] at hu hv;rw [Uo h4] at hu;rw [Uo h5] at hv;by_cases e1:p=j+1
   · rw [Up e1] at hu;rw [Uo oM] at hv;exact h.1 j q u v ha oM h3 oM oM hu hv
   · rw [Uo e1] at hu;by_cases e2:q=j+1
     · rw [Up e2] at hv;exact h.1 p j u v h1 oM oM oM oM hu hv
     · rw [Uo e2] at hv;exact h.1 p q u v h1 h2 h3 oM oM hu hv
 · rw [hg,Up rfl] at hu;rw [hg,Uo oM] at hv;by_cases e2:q=j+1
   · rw [Up e2] at hv;rw [hu] at hx;rw [hv] at hy;cases hx;cases hy;exact hle
   · rw [Uo e2] at hv;exact h.2 q u v oM h2 hu hv
theorem ζW (hr:∀x,le x x) (ht:∀x y z,le x y→le y z→le x z) {a i j:Nat} {l:List α} (h:Zc2 le a i j l) (hj:a≤j) (hji:j≤i) (hl:i<l.length) (he:j=a∨∃k x y,j=k+1∧l[k]? =some x∧l[j]? =some y∧le x y):SrtS le a (i+1) l:=by
 intro p q x y h1 h2 h3 hx hy
 by_cases e1:p=j
 · subst e1;exact h.2 q x y h2 oM hx hy
 · by_cases e2:q=j
   · subst e2;rcases he with he|⟨k,u,v,he,hu,hv,hle⟩
     · omega
     · rw [hy] at hv;cases hv;by_cases e3:p=k
       · subst e3;rw [hx] at hu;cases hu;exact hle
       · exact ht _ _ _ (h.1 p k x u h1 oM oM e1 oM hx hu) hle
   · exact h.1 p q x y h1 h2 oM e1 e2 hx hy
def Mov (a b k i:Nat) (l:List α):Prop:=(∀p q x y,a≤p→p<q→q<b→p≠k→q≠k→l[p]? =some x→l[q]? =some y→le x y)∧∀q x y,a≤q→q<b→q≠k→l[k]? =some x→l[q]? =some y→if q<i then le y x else le x y
theorem Zbs {a b k i:Nat} {l:List α} (h:Mov le a b k i l) (ha:a≤k) (hk:k+1<i) (hi:i≤b) (hl:b≤l.length):Mov le a b (k+1) i (swp l k (k+1)):=by
 have hg:=L6 (l:=l) (i:=k) (j:=k+1) oM oM
 refine ⟨fun p q u v h1 h2 h3 h4 h5 hu hv=>?_,fun q u v h1 h2 h3 hu hv=>?_⟩
 · rw [hg,Uo h4] at hu;rw [hg,Uo h5] at hv;by_cases e1:p=k
   · rw [Up e1] at hu;rw [Uo oM] at hv;exact h.1 (k+1) q u v oM oM h3 oM oM hu hv
   · rw [Uo e1] at hu;by_cases e2:q=k
     · rw [Up e2] at hv;exact h.1 p (k+1) u v h1 oM oM oM oM hu hv
     · rw [Uo e2] at hv;exact h.1 p q u v h1 h2 h3 e1 e2 hu hv
 · rw [hg,Up rfl] at hu;rw [hg,Uo h3] at hv;by_cases e2:q=k
   · rw [Up e2] at hv;have:=h.2 (k+1) u v oM oM oM hu hv;rw [Up oM] at this;rw [Up oM];exact this
   · rw [Uo e2] at hv;exact h.2 q u v h1 h2 e2 hu hv
theorem OU {a b k i:Nat} {l:List α} (h:Mov le a b k i l) (hk:i=k+1):SrtS le a b l:=by
 intro p q x y h1 h2 h3 hx hy
 by_cases e1:p=k
 · subst e1;have:=h.2 q x y oM h3 oM hx hy;rw [Uo oM] at this;exact this
 · by_cases e2:q=k
   · subst e2;have:=h.2 p y x h1 oM oM hy hx;rw [Up oM] at this;exact this
   · exact h.1 p q x y h1 h2 h3 e1 e2 hx hy
theorem Zc4 {a b k i:Nat} {l:List α} (h:Mov le a b (k+1) i l) (hi:a≤i) (hik:i≤k) (hk:k+1<b) (hl:b≤l.length):Mov le a b k i (swp l (k+1) k):=by
 have hg:=L6 (l:=l) (i:=k+1) (j:=k) oM oM
 refine ⟨fun p q u v h1 h2 h3 h4 h5 hu hv=>?_,fun q u v h1 h2 h3 hu hv=>?_⟩
 · rw [hg,Uo h4] at hu;rw [hg,Uo h5] at hv;by_cases e1:p=k+1
   · rw [Up e1] at hu;rw [Uo oM] at hv;exact h.1 k q u v oM oM h3 oM oM hu hv
   · rw [Uo e1] at hu;by_cases e2:q=k+1
     · rw [Up e2] at hv;exact h.1 p k u v h1 oM oM oM oM hu hv
     · rw [Uo e2] at hv;exact h.1 p q u v h1 h2 h3 e1 e2 hu hv
 · rw [hg,Up rfl] at hu;rw [hg,Uo h3] at hv;by_cases e2:q=k+1
   · rw [Up e2] at hv;have:=h.2 k u v oM oM oM hu hv;rw [Uo oM] at this;rw [Uo oM];exact this
   · rw [Uo e2] at hv;exact h.2 q u v h1 h2 e2 hu hv
theorem D3 {a b k:Nat} {l:List α} (h:Mov le a b k k l):SrtS le a b l:=by
 intro p q x y h1 h2 h3 hx hy
 by_cases e1:p=k
 · subst e1;have:=h.2 q x y oM h3 oM hx hy;rw [Uo oM] at this;exact this
 · by_cases e2:q=k
   · subst e2;have:=h.2 p y x h1 oM oM hy hx;rw [Up oM] at this;exact this
   · exact h.1 p q x y h1 h2 h3 e1 e2 hx hy
theorem Zbt {a b i:Nat} {l:List α} (hs:SrtS le (a+1) b l) (hi:a+1≤i) (h1:∀q x y,a+1≤q→q<i→l[a]? =some x→l[q]? =some y→le y x) (h2:∀q x y,i≤q→q<b→l[a]? =some x→l[q]? =some y→le x y):Mov le a b a i l:=
 ⟨fun p q x y h3 h4 h5 h6 h7=>hs p q x y oM h4 h5,fun q x y h3 h4 h5 hx hy=>by
  by_cases h6:q<i
  · rw [Up h6];exact h1 q x y oM h6 hx hy
  · rw [Uo h6];exact h2 q x y oM h4 hx hy⟩
theorem Zc5 {a m i:Nat} {l:List α} (hs:SrtS le a m l) (hi:i≤m) (h1:∀q x y,a≤q→q<i→l[m]? =some x→l[q]? =some y→le y x) (h2:∀q x y,i≤q→q<m→l[m]? =some x→l[q]? =some y→le x y):Mov le a (m+1) m i l:=
 ⟨fun p q x y h3 h4 h5 h6 h7=>hs p q x y h3 h4 oM,fun q x y h3 h4 h5 hx hy=>by
  by_cases h6:q<i
  · rw [Up h6];exact h1 q x y h3 h6 hx hy
  · rw [Uo h6];exact h2 q x y oM oM hx hy⟩
def G8 (a m b k:Nat):Nat:=if k<a∨b≤k then k else if k-a<b-m then m+(k-a) else a+(k-a-(b-m))
def srI (a b n k:Nat):Nat:=if a≤k∧k<a+n then b+(k-a) else if b≤k∧k<b+n then a+(k-b) else k
theorem Zc6 {m i j k:Nat} (hij:j<i) (him:i≤m):srI (m-i) m j (G8 (m-i+j) m (m+j) k)=G8 (m-i) m (m+j) k:=by
 unfold G8 srI
 (repeat' split)<;>omega
theorem Zc7 {m i j k:Nat} (hij:i<j) (him:i≤m):srI (m-i) (m+j-i) i (G8 (m-i) m (m+j-i) k)=G8 (m-i) m (m+j) k:=by
 unfold G8 srI
 (repeat' split)<;>omega
theorem Zha {m i k:Nat} (him:i≤m):srI (m-i) m i k=G8 (m-i) m (m+i) k:=by
 unfold G8 srI
 split<;>split<;>(try split)<;>(try split)<;>omega
theorem Zfc {l l0:List α} {a b i n:Nat} (hi:i<n) (hab:a+n≤b) (hb:b+n≤l.length) (h:∀k,l[k]? =l0[srI a b i k]?):∀k,(swp l (a+i) (b+i))[k]? =l0[srI a b (i+1) k]? :=by
 intro k
 rw [L6 oM oM,h,h,h]
 unfold srI
 by_cases e1:k=b+i
 · subst e1;rw [Up rfl,Uo oM,Uo oM,Uo oM,Up oM];congr 1;omega
 · rw [Uo e1];by_cases e2:k=a+i
   · subst e2;rw [Up rfl,Uo oM,Uo oM,Up oM];congr 1;omega
   · rw [Uo e2];congr 1;split<;>split<;>(try split)<;>(try split)<;>omega
theorem Zfd (a b k:Nat):srI a b 0 k=k:=by unfold srI;split<;>(try split)<;>omega
def Thr (lo hi p s r:Nat) (l:List α):Prop:=lo≤s∧s≤r∧r≤hi∧(∀c x y,lo≤c→c<s→l[c]? =some x→l[p-c]? =some y→le x y)∧(∀c x y,r≤c→c<hi→l[c]? =some x→l[p-c]? =some y→le y x)
theorem Zbu {lo hi p:Nat} (l:List α) (h:lo≤hi):Thr le lo hi p lo hi l:=⟨Xb _,h,Xb _,fun c x y h1 h2=>oM,fun c x y h1 h2=>oM⟩
section
variable {le}
theorem Zc8 (hr:∀x,le x x) (ht:∀x y z,le x y→le y z→le x z) {a m b lo hi p s r c:Nat} {l:List α} (h:Thr le lo hi p s r l) (h1:SrtS le a m l) (h2:SrtS le m b l) (hc:s≤c) (hc':c<r) (hlo:a≤lo) (hhi:hi≤m) (hp:p<lo+b) (hp':m+hi≤p+1) (hb:b≤l.length) {x y:α} (hx:l[c]? =some x) (hy:l[p-c]? =some y) (hle:le x y):Thr le lo hi p (c+1) r l:=by
 obtain ⟨e1,e2,e3,e4,e5⟩:=h
 refine ⟨oM,oM,e3,fun k u v k1 k2 hu hv=>?_,e5⟩
 have a1:le u x:=h1.eqv le hr oM (show k≤c by omega) oM hu hx
 have a2:le y v:=h2.eqv le hr oM (show p-c≤p-k by omega) oM hy hv
 exact ht _ _ _ a1 (ht _ _ _ hle a2)
theorem Et (hr:∀x,le x x) (ht:∀x y z,le x y→le y z→le x z) {a m b lo hi p s r c:Nat} {l:List α} (h:Thr le lo hi p s r l) (h1:SrtS le a m l) (h2:SrtS le m b l) (hc:s≤c) (hc':c<r) (hlo:a≤lo) (hhi:hi≤m) (hp:p<lo+b) (hp':m+hi≤p+1) (hb:b≤l.length) {x y:α} (hx:l[c]? =some x) (hy:l[p-c]? =some y) (hle:le y x):Thr le lo hi p s c l:=by
 obtain ⟨e1,e2,e3,e4,e5⟩:=h
 refine ⟨e1,oM,oM,e4,fun k u v k1 k2 hu hv=>?_⟩
 have a1:le x u:=h1.eqv le hr oM (show c≤k by omega) oM hx hu
 have a2:le v y:=h2.eqv le hr oM (show p-k≤p-c by omega) oM hv hy
 exact ht _ _ _ a2 (ht _ _ _ hle a1)
def loM (a m b:Nat):Nat:=if (a+b) / 2<m then (a+b) / 2+m-b else a
def hiM (a m b:Nat):Nat:=if (a+b) / 2<m then (a+b) / 2 else m
theorem Zc9 {a m b:Nat} (h1:a<m) (h2:m<b):a≤loM a m b∧loM a m b≤hiM a m b∧hiM a m b≤m∧(a+b) / 2+m-1<loM a m b+b∧m+hiM a m b≤(a+b) / 2+m-1+1∧loM a m b≤m∧hiM a m b≤(a+b) / 2:=by
 unfold loM hiM;split<;>omega
theorem Zbv (hr:∀x,le x x) (ht:∀x y z,le x y→le y z→le x z) {a m b s:Nat} {l l1:List α} (ham:a<m) (hmb:m<b) (hb:b≤l.length) (h1:SrtS le a m l) (h2:SrtS le m b l) (h:Thr le (loM a m b) (hiM a m b) ((a+b) / 2+m-1) s s l)
 (hrot:∀k,l1[k]? =l[G8 s m ((a+b) / 2+m-s) k]?):
 SrtS le a s l1∧SrtS le s ((a+b) / 2) l1∧SrtS le ((a+b) / 2) ((a+b) / 2+m-s) l1∧SrtS le ((a+b) / 2+m-s) b l1∧a≤s∧s≤(a+b) / 2∧(a+b) / 2≤(a+b) / 2+m-s∧(a+b) / 2+m-s≤b∧
 ∀p q x y,a≤p→p<(a+b) / 2→(a+b) / 2≤q→q<b→l1[p]? =some x→l1[q]? =some y→le x y:=by
 obtain ⟨o1,o2,o3,o4,o5,o6,o7⟩:=Zc9 ham hmb
 obtain ⟨e1,e2,e3,e4,e5⟩:=h
 have hM1:a≤(a+b) / 2:=oM
 have hM2:(a+b) / 2<b:=oM
 have hend:loM a m b=a∨loM a m b=(a+b) / 2+m-b:=by unfold loM;split<;>simp
 have hhi:hiM a m b=m∨hiM a m b=(a+b) / 2:=by unfold hiM;split<;>simp
 have hlohi:(loM a m b=a∧hiM a m b=m)∨(loM a m b=(a+b) / 2+m-b∧hiM a m b=(a+b) / 2∧(a+b) / 2<m):=by unfold loM hiM;split<;>omega
 generalize hmid:(a+b) / 2=mid at*
 have hsm:s≤m:=oM
 have hsmid:s≤mid:=oM
 have hE1:mid+m-s≤b:=oM
 have g1:∀k,k<s→l1[k]? =l[k]? :=fun k hk=>by rw [hrot];congr 1;unfold G8;rw [Up oM]
 have g2:∀k,s≤k→k<mid→l1[k]? =l[m+(k-s)]? :=fun k hk hk'=>by rw [hrot];congr 1;unfold G8;rw [Uo oM,Up oM]
 have g3:∀k,mid≤k→k<mid+m-s→l1[k]? =l[s+(k-mid)]? :=fun k hk hk'=>by rw [hrot];congr 1;unfold G8;rw [Uo oM,Uo oM];omega
 have g4:∀k,mid+m-s≤k→l1[k]? =l[k]? :=fun k hk=>by rw [hrot];congr 1;unfold G8;rw [Up oM]
 refine ⟨?_,?_,?_,?_,oM,oM,oM,hE1,?_⟩
 · exact (h1.sub le (Xb _) hsm).ext le fun k h3 h4=>g1 k h4
 · intro i j x y k1 k2 k3 hx hy;rw [g2 i k1 oM] at hx;rw [g2 j oM k3] at hy;exact h2 _ _ x y oM oM oM hx hy
 · intro i j x y k1 k2 k3 hx hy;rw [g3 i k1 oM] at hx;rw [g3 j oM k3] at hy;exact h1 _ _ x y oM oM oM hx hy
 · exact (h2.sub le oM (Xb _)).ext le fun k h3 h4=>g4 k h3
 · intro p q x y k1 k2 k3 k4 hx hy;rcases Xm p s with hp|hp
   · rw [g1 p hp] at hx;rcases Xm q (mid+m-s) with hq|hq
     · rw [g3 q k3 hq] at hy;exact h1 _ _ x y k1 oM oM hx hy
     · rw [g4 q hq] at hy;have hlo:loM a m b<s:=by
        rcases Xm (loM a m b) s with h6|h6
        · exact h6
        · omega
       obtain ⟨u,hu⟩:∃u,l[s-1]? =some u:=⟨_,Xx oM⟩;obtain ⟨v,hv⟩:∃v,l[mid+m-s]? =some v:=⟨_,Xx oM⟩;have a1:le x u:=h1.eqv le hr k1 (show p≤s-1 by omega) oM hx hu;have a2:le u v:=e4 (s-1) u v oM oM hu (by rw [←hv];congr 1;omega);have a3:le v y:=h2.eqv le hr oM hq k4 hv hy;exact ht _ _ _ a1 (ht _ _ _ a2 a3)
   · rw [g2 p hp k2] at hx;rcases Xm q (mid+m-s) with hq|hq
     · rw [g3 q k3 hq] at hy;have hhi2:s<hiM a m b:=by
        rcases Xm s (hiM a m b) with h6|h6
        · exact h6
        · omega
       obtain ⟨u,hu⟩:∃u,l[mid+m-s-1]? =some u:=⟨_,Xx oM⟩;obtain ⟨v,hv⟩:∃v,l[s]? =some v:=⟨_,Xx oM⟩;have a1:le x u:=h2.eqv le hr oM (show m+(p-s)≤mid+m-s-1 by omega) oM hx hu;have a2:le u v:=e5 s v u (Xb _) hhi2 hv (by rw [←hu];congr 1;omega);have a3:le v y:=h1.eqv le hr oM (show s≤s+(q-mid) by omega) oM hv hy;exact ht _ _ _ a1 (ht _ _ _ a2 a3)
     · rw [g4 q hq] at hy;exact h2 _ _ x y oM oM k4 hx hy
theorem G9 {a mid b:Nat} {l1 l2 l3:List α} (h1:a≤mid) (h2:mid≤b) (hb:b≤l1.length) (hc:∀p q x y,a≤p→p<mid→mid≤q→q<b→l1[p]? =some x→l1[q]? =some y→le x y) (s1:Sw a mid l1 l2) (s2:Sw mid b l2 l3) (g1:SrtS le a mid l2) (g2:SrtS le mid b l3):SrtS le a b l3:=by
 intro i j x y k1 k2 k3 hx hy
 rcases Xm j mid with hj|hj
 · rw [s2.out (.inl oM)] at hx hy;exact g1 i j x y k1 k2 hj hx hy
 · rcases Xm i mid with hi|hi
   · rw [s2.out (.inl hi)] at hx;obtain ⟨p,p1,p2,p3⟩:=s1.mem k1 hi hx;obtain ⟨q,q1,q2,q3⟩:=s2.mem hj k3 hy;rw [s1.out (.inr q1)] at q3;exact hc p q x y p1 p2 q1 q2 p3 q3
   · exact g2 i j x y hi k2 k3 hx hy
end
end
end Go.Proofs.YtpiemogpblmiiaaGreatDoor
namespace Go.En
open Go.RowKit Go.Cb
set_option linter.all false
section
variable {P:Program} {st:St} {o:Oper} {x y:Operand} {t t':TypeId} {q q':PV}
theorem W0 {a b c:Int} (ho:o.op= .binOp .add t x y t':=by exact rfl) (hx:ev st.slots x=some (.int .i64 a,q):=by exact rfl) (hy:ev st.slots y=some (.int .i64 b,q'):=by exact rfl) (hc:a+b=c:=by omega) (h1: -9223372036854775808≤c:=by omega) (h2:c≤9223372036854775807:=by omega):YE P st o (· = .int .i64 c) (.val (.int .i64 c)):=by
 subst hc;exact Zgo ho hx hy h1 h2
theorem WG {a b c:Int} (ho:o.op= .binOp .sub t x y t':=by exact rfl) (hx:ev st.slots x=some (.int .i64 a,q):=by exact rfl) (hy:ev st.slots y=some (.int .i64 b,q'):=by exact rfl) (hc:a-b=c:=by omega) (h1: -9223372036854775808≤c:=by omega) (h2:c≤9223372036854775807:=by omega):YE P st o (· = .int .i64 c) (.val (.int .i64 c)):=by
 subst hc;exact Zgp ho hx hy h1 h2
theorem D4 {a b c:Int} (ho:o.op= .binOp .mul t x y t':=by exact rfl) (hx:ev st.slots x=some (.int .i64 a,q):=by exact rfl) (hy:ev st.slots y=some (.int .i64 b,q'):=by exact rfl) (hc:a*b=c:=by omega) (h1: -9223372036854775808≤c:=by omega) (h2:c≤9223372036854775807:=by omega):YE P st o (· = .int .i64 c) (.val (.int .i64 c)):=by
 subst hc;exact Zh2 ho hx hy h1 h2
theorem D5 {a c:Int} (ho:o.op= .move x:=by exact rfl) (hx:ev st.slots x=some (.int .i64 a,q):=by exact rfl) (hc:a=c:=by omega):YE P st o (· = .int .i64 c) (.val (.int .i64 c)):=by
 subst hc;exact y1 hx (fun _ _ _=> .val _) fun ρ w h=>by simp [execOp,ho,h]
theorem ζX {a:Nat} {s d:TypeId} {ds:TypeDesc} (hs:P.underlying s=some ds) (hd:P.underlying d=some (.int .u64)) (ha:a≤9223372036854775807) (ho:o.op= .convert s d x:=by exact rfl) (hx:ev st.slots x=some (.int .i64 (a:Int),q):=by exact rfl):YE P st o (· = .int .u64 (a:Int)) (.val (.int .u64 (a:Int))):=
 Zcl hs hd ho hx (IntWalk.u64_in _ oM)
theorem ζY {a:Nat} {s d:TypeId} {ds:TypeDesc} (hs:P.underlying s=some ds) (hd:P.underlying d=some (.int .i64)) (ha:a≤9223372036854775807) (ho:o.op= .convert s d x:=by exact rfl) (hx:ev st.slots x=some (.int .u64 (a:Int),q):=by exact rfl):YE P st o (· = .int .i64 (a:Int)) (.val (.int .i64 (a:Int))):=
 Zcl hs hd ho hx (IntWalk.i64_in _ oM)
theorem Pf {a:Nat} {b:Int} {kb:IntKind} (hb:b=1) (ho:o.op= .binOp .shr t x y t':=by exact rfl) (hx:ev st.slots x=some (.int .u64 (a:Int),q):=by exact rfl) (hy:ev st.slots y=some (.int kb b,q'):=by exact rfl):YE P st o (· = .int .u64 ((a / 2:Nat):Int)) (.val (.int .u64 ((a / 2:Nat):Int))):=
 y2 hx hy fun ρ w h3 h4=>by
  subst hb;have e:(a:Int).fdiv 2=((a / 2:Nat):Int):=by
   rw [Int.fdiv_eq_ediv_of_nonneg _ dC];rfl
  simp [execOp,ho,h3,h4,eqGuard,binOp,Op.shift];exact e
end
end Go.En
namespace Go.Proofs.YtpiemogpblmiiaaGreatDoor
open Go.RowKit Go.Cb Go.En Tryz
set_option linter.all false
set_option maxRecDepth 100000
theorem ZJ:AggT prog 24 3=true:=by kernel_rfl
theorem ZY:SlT prog 22 24 3=true:=by kernel_rfl
theorem Eu (l:List Nd):(Z6 l).length=l.length*3:=by rw [We];exact WR TC l
theorem D6:∀(ps:List PV) (a b c:List PV) (j:Nat),a.length=j→b.length=ps.length→Kx (a++b++c) j ps=a++ps++c
 | [],a,b,c,j,ha,hb=>by
   have:b=[]:=XK hb;subst this;rfl
 | p ::ps,a,x::b,c,j,ha,hb=>by
   rw [Kx];have h1:(a++(x::b)++c).set j p=(a++[p])++b++c:=by
    subst ha;rw [XC,Vy _ _ (Xb _),Vp];simp
   rw [h1,D6 ps (a++[p]) b c (j+1) (by simp [ha]) (by simpa using hb)];simp
theorem D7 (L:List Nd) (k:Nat) (x:Nd) (h:k<L.length):Kx (Z6 L) (k*3) (cN x)=Z6 (L.set k x):=by
 rw [We,We]
 have e:L=L.take k++[L[k]]++L.drop (k+1):=by
  rw [XC,List.singleton_append,List.getElem_cons_drop,Vw]
 have e2:L.set k x=L.take k++[x]++L.drop (k+1):=by
  rw [List.set_eq_take_append_cons_drop,Up h,XC];rfl
 rw [e2]
 conv=>lhs;rw [e]
 simp only [Xt,X1]
 exact D6 (cN x) _ _ _ _ (by rw [WR TC,Xl,XJ (Nat.le_of_lt h)]) rfl
theorem L8 {L:List Nd} {i j:Nat} {x y:Nd} (hx:L[i]? =some x) (hy:L[j]? =some y):Kx (Kx (Z6 L) (i*3) (cN y)) (j*3) (cN x)=Z6 (swp L i j):=by
 rw [D7 L i y (Zg hx),D7 _ j x (by rw [Xi];exact Zg hy),Zc0 hx hy]
def Y' (hv:Value) (l:List Nd):List (Nat×Ent):=[(1000,hv, .own 24 3 l.length (Z6 l))]
theorem PT (l:List Nd) (hl:l.length≤1000000) (a b n:Nat) (h1:a+n≤b) (h2:b+n≤l.length) (hv:Value) (fv:Value) (f:Nat):AFh False prog 249 [(0,hv, .val hv),(1, .int .i64 (a:Int),Zc a),(2, .int .i64 (b:Int),Zc b),(3, .int .i64 (n:Int),Zc n),(4,fv, .fn f [])] (Y' hv l) (fun v q h=>∃l',(∀k,l'[k]? =l[srI a b n k]?)∧Sw a (b+n) l l'∧h=Y' hv l'):=by
 unfold Y'
 refine AFh.of_body 38 func249 rfl ntmps249 (Xa rfl) rfl ?_
 intro w0 M0 N0
 refine Zf ?_
 (refine xL 10 Zb ?_;refine Ze ?_)
 refine ZE (ι:={q:Nat×List Nd//q.1≤n∧(∀k,q.2[k]? =l[srI a b q.1 k]?)∧Sw a (b+n) l q.2}) (fun k=>⟨[(0,_,_),(1,_,_),(2,_,_),(3,_,_),(10, .int .i64 k.1.1,Zc k.1.1)],[(1000,hv, .own 24 3 l.length (Z6 k.1.2))]⟩) (fun k=>n-k.1.1) ⟨(0,l),Xh _,fun k=>by rw [Zfd], .refl _⟩ (fun a w H=>H.weaken ⟨rfl,rfl,rfl,rfl,rfl,trivial⟩ ⟨rfl,trivial⟩) ?_
 rintro ⟨⟨i,L⟩,hi,hL,hS⟩
 dsimp only
 dsimp only at hi hL hS;have hLl:=hS.len
 refine Zf ?_
 (refine xL 11 Za (xL 12 Za (xL 13 ZR ?_));refine Ze ?_)
 refine cX ?_ ?_<;>intro hb13
 · first|exact bN hb13|(
 have hin:i<n:=oM;obtain ⟨x,hx⟩:=Zw (show a+i<L.length by omega);obtain ⟨y,hy⟩:=Zw (show b+i<L.length by omega);have e1:=Z5 hx;have e2:=Yj hx;have e3:=Z5 hy;have e4:=Yj hy;have hsw:=L8 hx hy;have e5:(Kx (Z6 L) ((a+i)*3) (cN y)).length=(Z6 L).length:=Gy _ _ _;refine nav ?_;(refine ZS (fun i=>([]:List Nat).elem i) [] kR ?_<;>refine xD 0 16 rfl Za ?_<;>refine xD 1 17 rfl Za ?_<;>refine xD 2 18 rfl Za ?_<;>refine xD 3 19 rfl ((W0 (c:=((a+i:Nat):Int)))) ?_<;>refine xD 4 20 rfl Za ?_<;>refine xD 5 21 rfl Za ?_<;>refine xD 6 22 rfl Za ?_<;>refine xD 7 23 rfl ((W0 (c:=((b+i:Nat):Int)))) ?_<;>refine xD 8 24 rfl Za ?_<;>refine xD 9 25 rfl Za ?_<;>refine xD 10 26 rfl Za ?_<;>refine xD 11 27 rfl ((W0 (c:=((b+i:Nat):Int)))) ?_<;>refine xD 14 30 rfl Za ?_<;>refine xD 15 31 rfl Za ?_<;>refine xD 16 32 rfl Za ?_<;>refine xD 17 33 rfl ((W0 (c:=((a+i:Nat):Int)))) ?_<;>(refine YD 12 18 kR ?_ ?_;rotate_right;(focus ((refine Zj rfl fun w9 M9 N9 DQ back=>?_)<;>refine xL 34 (Zt 1000 ZY) ?_<;>refine Zh (back _ (nrm ?_))<;>(refine YD 12 19 kR ?_ ?_;rotate_right;(focus ((refine Zj rfl fun w9 M9 N9 DQ back=>?_)<;>(refine yL 35 (Zq 1000 ZJ) fun v35 h=>?_;cases h)<;>refine Zh (back _ (nrm ?_))<;>(refine Zl 12 kR ?_)<;>(refine Zj rfl fun w9 M9 N9 DQ back=>?_)<;>refine xL 28 (Zt 1000 ZY) ?_<;>refine Zh (back _ (nrm ?_))<;>(refine Zl 13 kR ?_)<;>(refine Zj rfl fun w9 M9 N9 DQ back=>?_)<;>(refine yL 29 (Zq 1000 ZJ) fun v29 h=>?_;cases h)<;>refine Zh (back _ (nrm ?_))<;>refine xE 20 36 rfl (Zt 1000 ZY) ?_<;>(refine Zl 21 kR ?_)<;>(refine Zj rfl fun w9 M9 N9 DQ back=>?_)<;>refine Zv 1000 ZJ ?_<;>refine Zh (back _ (nrm ?_))<;>refine xE 22 37 rfl (Zt 1000 ZY) ?_<;>(refine Zl 23 kR ?_)<;>(refine Zj rfl fun w9 M9 N9 DQ back=>?_)<;>refine Zv 1000 ZJ ?_<;>refine Zh (back _ (nrm ?_))));rotate_right;(focus ((refine Zj rfl fun w9 M9 N9 DQ back=>?_)<;>refine xL 28 (Zt 1000 ZY) ?_<;>refine Zh (back _ (nrm ?_))<;>(refine YD 13 19 kR ?_ ?_;rotate_right;(focus ((refine Zj rfl fun w9 M9 N9 DQ back=>?_)<;>(refine yL 35 (Zq 1000 ZJ) fun v35 h=>?_;cases h)<;>refine Zh (back _ (nrm ?_))<;>(refine Zl 13 kR ?_)<;>(refine Zj rfl fun w9 M9 N9 DQ back=>?_)<;>(refine yL 29 (Zq 1000 ZJ) fun v29 h=>?_;cases h)<;>refine Zh (back _ (nrm ?_))<;>refine xE 20 36 rfl (Zt 1000 ZY) ?_<;>(refine Zl 21 kR ?_)<;>(refine Zj rfl fun w9 M9 N9 DQ back=>?_)<;>refine Zv 1000 ZJ ?_<;>refine Zh (back _ (nrm ?_))<;>refine xE 22 37 rfl (Zt 1000 ZY) ?_<;>(refine Zl 23 kR ?_)<;>(refine Zj rfl fun w9 M9 N9 DQ back=>?_)<;>refine Zv 1000 ZJ ?_<;>refine Zh (back _ (nrm ?_))));rotate_right;(focus ((refine Zj rfl fun w9 M9 N9 DQ back=>?_)<;>(refine yL 29 (Zq 1000 ZJ) fun v29 h=>?_;cases h)<;>refine Zh (back _ (nrm ?_))<;>(refine Zl 19 kR ?_)<;>(refine Zj rfl fun w9 M9 N9 DQ back=>?_)<;>(refine yL 35 (Zq 1000 ZJ) fun v35 h=>?_;cases h)<;>refine Zh (back _ (nrm ?_))<;>refine xE 20 36 rfl (Zt 1000 ZY) ?_<;>(refine Zl 21 kR ?_)<;>(refine Zj rfl fun w9 M9 N9 DQ back=>?_)<;>refine Zv 1000 ZJ ?_<;>refine Zh (back _ (nrm ?_))<;>refine xE 22 37 rfl (Zt 1000 ZY) ?_<;>(refine Zl 23 kR ?_)<;>(refine Zj rfl fun w9 M9 N9 DQ back=>?_)<;>refine Zv 1000 ZJ ?_<;>refine Zh (back _ (nrm ?_))))))))));rotate_right;(focus ((refine Zj rfl fun w9 M9 N9 DQ back=>?_)<;>refine xL 28 (Zt 1000 ZY) ?_<;>refine Zh (back _ (nrm ?_))<;>(refine YD 13 18 kR ?_ ?_;rotate_right;(focus ((refine Zj rfl fun w9 M9 N9 DQ back=>?_)<;>refine xL 34 (Zt 1000 ZY) ?_<;>refine Zh (back _ (nrm ?_))<;>(refine YD 13 19 kR ?_ ?_;rotate_right;(focus ((refine Zj rfl fun w9 M9 N9 DQ back=>?_)<;>(refine yL 35 (Zq 1000 ZJ) fun v35 h=>?_;cases h)<;>refine Zh (back _ (nrm ?_))<;>(refine Zl 13 kR ?_)<;>(refine Zj rfl fun w9 M9 N9 DQ back=>?_)<;>(refine yL 29 (Zq 1000 ZJ) fun v29 h=>?_;cases h)<;>refine Zh (back _ (nrm ?_))<;>refine xE 20 36 rfl (Zt 1000 ZY) ?_<;>(refine Zl 21 kR ?_)<;>(refine Zj rfl fun w9 M9 N9 DQ back=>?_)<;>refine Zv 1000 ZJ ?_<;>refine Zh (back _ (nrm ?_))<;>refine xE 22 37 rfl (Zt 1000 ZY) ?_<;>(refine Zl 23 kR ?_)<;>(refine Zj rfl fun w9 M9 N9 DQ back=>?_)<;>refine Zv 1000 ZJ ?_<;>refine Zh (back _ (nrm ?_))));rotate_right;(focus ((refine Zj rfl fun w9 M9 N9 DQ back=>?_)<;>(refine yL 29 (Zq 1000 ZJ) fun v29 h=>?_;cases h)<;>refine Zh (back _ (nrm ?_))<;>(refine Zl 19 kR ?_)<;>(refine Zj rfl fun w9 M9 N9 DQ back=>?_)<;>(refine yL 35 (Zq 1000 ZJ) fun v35 h=>?_;cases h)<;>refine Zh (back _ (nrm ?_))<;>refine xE 20 36 rfl (Zt 1000 ZY) ?_<;>(refine Zl 21 kR ?_)<;>(refine Zj rfl fun w9 M9 N9 DQ back=>?_)<;>refine Zv 1000 ZJ ?_<;>refine Zh (back _ (nrm ?_))<;>refine xE 22 37 rfl (Zt 1000 ZY) ?_<;>(refine Zl 23 kR ?_)<;>(refine Zj rfl fun w9 M9 N9 DQ back=>?_)<;>refine Zv 1000 ZJ ?_<;>refine Zh (back _ (nrm ?_)))))));rotate_right;(focus ((refine Zj rfl fun w9 M9 N9 DQ back=>?_)<;>(refine yL 29 (Zq 1000 ZJ) fun v29 h=>?_;cases h)<;>refine Zh (back _ (nrm ?_))<;>(refine Zl 18 kR ?_)<;>(refine Zj rfl fun w9 M9 N9 DQ back=>?_)<;>refine xL 34 (Zt 1000 ZY) ?_<;>refine Zh (back _ (nrm ?_))<;>(refine Zl 19 kR ?_)<;>(refine Zj rfl fun w9 M9 N9 DQ back=>?_)<;>(refine yL 35 (Zq 1000 ZJ) fun v35 h=>?_;cases h)<;>refine Zh (back _ (nrm ?_))<;>refine xE 20 36 rfl (Zt 1000 ZY) ?_<;>(refine Zl 21 kR ?_)<;>(refine Zj rfl fun w9 M9 N9 DQ back=>?_)<;>refine Zv 1000 ZJ ?_<;>refine Zh (back _ (nrm ?_))<;>refine xE 22 37 rfl (Zt 1000 ZY) ?_<;>(refine Zl 23 kR ?_)<;>(refine Zj rfl fun w9 M9 N9 DQ back=>?_)<;>refine Zv 1000 ZJ ?_<;>refine Zh (back _ (nrm ?_))))))))<;>refine Yu kR (nav ?_)<;>try dsimp only)<;>(
 (refine Zm ?_;refine xL 14 Za (xL 15 ZO (xL 10 Zb ?_));refine Ze ?_)
 rw [hsw];refine Zk (
  ⟨(i+1,swp L (a+i) (b+i)),hin,Zfc hin h1 oM hL, .step _ _ hS oM oM oM oM h2⟩
  ) (by dsimp only;omega) ⟨rfl,rfl,rfl,rfl,rfl,trivial⟩ ⟨rfl,trivial⟩))
 · first|exact bN hb13|(
 refine nav ?_;have hin:i=n:=oM;subst hin;refine Z8 [(1000,hv, .own 24 3 l.length (Z6 L))] (results249) ⟨rfl,trivial⟩ ⟨L,hL,hS,?_⟩;rw [hLl])
theorem Zbw (l :List Nd) (hl:l.length≤1000000) (a m b:Nat) (h1:a<m) (h2:m<b) (h3:b≤l.length) (hv:Value) (fv:Value) (f:Nat):AFh False prog 243 [(0,hv, .val hv),(1, .int .i64 (a:Int),Zc a),(2, .int .i64 (m:Int),Zc m),(3, .int .i64 (b:Int),Zc b),(4,fv, .fn f [])] (Y' hv l) (fun v q h=>∃l',(∀k,l'[k]? =l[G8 a m b k]?)∧Sw a b l l'∧h=Y' hv l'):=by
 unfold Y'
 refine AFh.of_body 58 func243 rfl ntmps243 (Xa rfl) rfl ?_
 intro w0 M0 N0
 refine Zf ?_
 (refine xL 12 Za (xL 13 Za ?_);refine xL 14 ((WG (c:=((m-a:Nat):Int)))) ?_;refine xL 10 Zb ?_;refine Zn ?_)
 (refine xL 15 Za (xL 16 Za ?_);refine xL 17 ((WG (c:=((b-m:Nat):Int)))) ?_;refine xL 11 Zb ?_;refine Ze ?_)
 refine ZE (ι:={q:Nat×Nat×List Nd//0<q.1∧0<q.2.1∧q.1≤m-a∧q.2.1≤b-m∧(∀k,q.2.2[G8 (m-q.1) m (m+q.2.1) k]? =l[G8 a m b k]?)∧Sw a b l q.2.2}) (fun k=>⟨[(0,_,_),(1,_,_),(2,_,_),(3,_,_),(4,_,_),(10, .int .i64 k.1.1,Zc k.1.1),(11, .int .i64 k.1.2.1,Zc k.1.2.1)],[(1000,hv, .own 24 3 l.length (Z6 k.1.2.2))]⟩) (fun k=>k.1.1+k.1.2.1) ⟨(m-a,b-m,l),by dsimp only;omega,by dsimp only;omega,Xb _,Xb _,fun k=>by dsimp only;rw [show m-(m-a)=a by omega,show m+(b-m)=b by omega], .refl _⟩ (fun a w H=>H.weaken ⟨rfl,rfl,rfl,rfl,rfl,rfl,rfl,trivial⟩ ⟨rfl,trivial⟩) ?_
 rintro ⟨⟨i,j,L⟩,hi0,hj0,hi,hj,hL,hS⟩
 dsimp only
 dsimp only at hi0 hj0 hi hj hL hS;have hLl:=hS.len
 refine Zf ?_
 (refine xL 18 Za (xL 19 Za (xL 20 YN ?_));refine Ze ?_)
 refine cX ?_ ?_<;>intro hb20
 · first | exact bN hb20|(
 refine Zf ?_;(refine xL 21 Za (xL 22 Za (xL 23 Wy ?_));refine Ze ?_)
 refine cX ?_ ?_<;>intro hb23
 · first | exact bN hb23|(
 refine Zf ?_;(refine xL 24 Za (xL 25 Za (xL 26 Za ?_));refine xL 27 ((WG (c:=((m-i:Nat):Int)))) ?_;refine xL 28 Za (xL 29 Za (xL 30 Za ?_));(refine ZL (Y' hv L) ⟨by rw [←hLl];rfl,trivial⟩ ?_;refine ZT [] 31 (call249) (PT L oM (m-i) m j oM oM hv fv f) (fun v31 p31 h31 hR31=>?_);obtain ⟨L2,hL2,hS2,rfl⟩:=hR31;have hL2l:=hS2.len.trans hLl;dsimp only [Y'];rw [hL2l]);refine Zn ?_)
 (refine xL 32 Za (xL 33 Za ?_);refine xL 34 ((WG (c:=((i-j:Nat):Int)))) ?_;refine xL 10 Zb ?_;refine Ze ?_)
 first
  | (exact Zk (
      ⟨(i-j,j,L2),by dsimp only;omega,hj0,by dsimp only;omega,hj,fun k=>by
        dsimp only;rw [hL2,show m-(i-j)=m-i+j by omega,Zc6 oM oM];exact hL k,hS.trans (hS2.mono oM oM oM)⟩
      ) (by dsimp only;omega) ⟨rfl,rfl,rfl,rfl,rfl,rfl,rfl,trivial⟩ ⟨rfl,trivial⟩)
  | (exact Zk (
      ⟨(i,j-i,L2),hi0,by dsimp only;omega,hi,by dsimp only;omega,fun k=>by
        dsimp only;rw [hL2,show m+(j-i)=m+j-i by omega,Zc7 oM oM];exact hL k,hS.trans (hS2.mono oM oM oM)⟩
      ) (by dsimp only;omega) ⟨rfl,rfl,rfl,rfl,rfl,rfl,rfl,trivial⟩ ⟨rfl,trivial⟩))
 · first | exact bN hb23|(
 refine Zf ?_;(refine xL 35 Za (xL 36 Za (xL 37 Za ?_));refine xL 38 ((WG (c:=((m-i:Nat):Int)))) ?_;refine xL 39 Za (xL 40 Za ?_);refine xL 41 ((W0 (c:=((m+j:Nat):Int)))) ?_;refine xL 42 Za ?_;refine xL 43 ((WG (c:=((m+j-i:Nat):Int)))) ?_;refine xL 44 Za (xL 45 Za ?_);(refine ZL (Y' hv L) ⟨by rw [←hLl];rfl,trivial⟩ ?_;refine ZT [] 46 (call249) (PT L oM (m-i) (m+j-i) i oM oM hv fv f) (fun v46 p46 h46 hR46=>?_);obtain ⟨L2,hL2,hS2,rfl⟩:=hR46;have hL2l:=hS2.len.trans hLl;dsimp only [Y'];rw [hL2l]);refine Zn ?_)
 (refine xL 47 Za (xL 48 Za ?_);refine xL 49 ((WG (c:=((j-i:Nat):Int)))) ?_;refine xL 11 Zb ?_;refine Ze ?_)
 first
  | (exact Zk (
      ⟨(i-j,j,L2),by dsimp only;omega,hj0,by dsimp only;omega,hj,fun k=>by
        dsimp only;rw [hL2,show m-(i-j)=m-i+j by omega,Zc6 oM oM];exact hL k,hS.trans (hS2.mono oM oM oM)⟩
      ) (by dsimp only;omega) ⟨rfl,rfl,rfl,rfl,rfl,rfl,rfl,trivial⟩ ⟨rfl,trivial⟩)
  | (exact Zk (
      ⟨(i,j-i,L2),hi0,by dsimp only;omega,hi,by dsimp only;omega,fun k=>by
        dsimp only;rw [hL2,show m+(j-i)=m+j-i by omega,Zc7 oM oM];exact hL k,hS.trans (hS2.mono oM oM oM)⟩
      ) (by dsimp only;omega) ⟨rfl,rfl,rfl,rfl,rfl,rfl,rfl,trivial⟩ ⟨rfl,trivial⟩)))
 · first|exact bN hb20|(
 have hij:j=i:=oM;subst hij;refine Zf ?_;(refine xL 50 Za (xL 51 Za (xL 52 Za ?_));refine xL 53 ((WG (c:=((m-j:Nat):Int)))) ?_;refine xL 54 Za (xL 55 Za (xL 56 Za ?_));(refine ZL (Y' hv L) ⟨by rw [←hLl];rfl,trivial⟩ ?_;refine ZT [] 57 (call249) (PT L oM (m-j) m j oM oM hv fv f) (fun v57 p57 h57 hR57=>?_);obtain ⟨L2,hL2,hS2,rfl⟩:=hR57;have hL2l:=hS2.len.trans hLl;dsimp only [Y']);refine Ze ?_)
 refine Z8 (Y' hv L2) (results243) ⟨rfl,trivial⟩ ⟨L2,fun k=>?_,hS.trans (hS2.mono oM oM oM),rfl⟩;rw [hL2,Zha oM];exact hL k)
theorem LH {a b:Nat} {l L:List Nd} (h:Sw a b l L) {x:Nd} (hx:x∈L):x∈l:=h.perm.mem_iff.1 hx
theorem Ji {x y:Nd} (h:¬Wd x y<0):leT y x:=ζG.1 h
theorem Zda (f:Nat) (hc:∀args w,(callFunc f args).run prog w= .ok (.enter f args) w) (l:List Nd) (hl:l.length≤1000000) (hf:∀x∈l,∀y∈l,AF prog f [pTr x,pTr y] (· =Zc (Wd x y))) (a b:Nat) (h1:a≤b) (h2:b≤l.length) (hv:Value) (fv:Value):AFh False prog 239 [(0,hv, .val hv),(1, .int .i64 (a:Int),Zc a),(2, .int .i64 (b:Int),Zc b),(3,fv, .fn f [])] (Y' hv l) (fun v q h=>∃l',Sw a b l l'∧SrtS leT a b l'∧h=Y' hv l'):=by
 unfold Y'
 refine AFh.of_body 53 func239 rfl ntmps239 (Xa rfl) rfl ?_
 intro w0 M0 N0
 refine Zf ?_
 (refine xL 10 Za ?_;refine xL 11 ((W0 (c:=((a+1:Nat):Int)))) ?_;refine xL 8 Zb ?_;refine Ze ?_)
 refine ZE (ι:={q:Nat×List Nd//a+1≤q.1∧(q.1≤b∨b≤a+1)∧Sw a b l q.2∧SrtS leT a q.1 q.2}) (fun k=>⟨[(0,_,_),(1,_,_),(2,_,_),(3,_,_),(8, .int .i64 k.1.1,Zc k.1.1)],[(1000,hv, .own 24 3 l.length (Z6 k.1.2))]⟩) (fun k=>b-k.1.1) ⟨(a+1,l),Xb _,by dsimp only;omega, .refl _, .small leT _ (Xb _)⟩ (fun a w H=>H.weaken ⟨rfl,rfl,rfl,rfl,rfl,trivial⟩ ⟨rfl,trivial⟩) ?_
 rintro ⟨⟨i,L0⟩,hi1,hi2,hS0,hO0⟩
 dsimp only
 dsimp only at hi1 hi2 hS0 hO0
 refine Zf ?_
 (refine xL 12 Za (xL 13 Za (xL 14 ZR ?_));refine Ze ?_)
 refine cX ?_ ?_<;>intro hb14
 · first | exact bN hb14|(
 refine Zf ?_;(refine xL 17 Za (xL 9 Zb ?_);refine Ze ?_)
 refine ZE (ι:={q:Nat×List Nd//a≤q.1∧q.1≤i∧Sw a b l q.2∧Zc2 leT a i q.1 q.2}) (fun k=>⟨[(0,_,_),(1,_,_),(2,_,_),(3,_,_),(8,_,_),(9, .int .i64 k.1.1,Zc k.1.1)],[(1000,hv, .own 24 3 l.length (Z6 k.1.2))]⟩) (fun k=>k.1.1) ⟨(i,L0),by dsimp only;omega,Xb _,hS0,Zbr leT hO0⟩ (fun a w H=>H.weaken ⟨rfl,rfl,rfl,rfl,rfl,rfl,trivial⟩ ⟨rfl,trivial⟩) ?_;rintro ⟨⟨j,L⟩,hj1,hj2,hS,hI⟩;dsimp only;dsimp only at hj1 hj2 hS hI;have hLl:=hS.len;refine nav ?_;(refine ZS (fun i=>([]:List Nat).elem i) [1000] kR ?_<;>refine xD 0 18 rfl Za ?_<;>refine xE 1 19 rfl Za ?_<;>refine xE 2 20 rfl Wy ?_<;>refine xE 3 21 rfl Za ?_<;>(refine bDd 21 (fun hb21=>?_) (fun hb21=>?_)<;>(first|refine kD 4 22 rfl ?_|refine xD 4 22 rfl Za ?_))<;>(first|refine kD 5 23 rfl ?_|(obtain ⟨k,rfl⟩:∃k,j=k+1:=⟨j-1,oM⟩;obtain ⟨x,hx⟩:=Zw (show k+1<L.length by omega);obtain ⟨y,hy⟩:=Zw (show k<L.length by omega);have e1:=Z5 hx;have e2:=Yj hx;have e3:=Z5 hy;have e4:=Yj hy;have hsw:=L8 hx hy;have e5:(Kx (Z6 L) ((k+1)*3) (cN y)).length=(Z6 L).length:=Gy _ _ _;refine xD 5 23 rfl Za ?_))<;>(first|refine kD 6 24 rfl ?_|refine xD 6 24 rfl Za ?_)<;>(first|refine kD 7 25 rfl ?_|refine xD 7 25 rfl (Zt 1000 ZY) ?_)<;>(first|refine kD 8 26 rfl ?_|(refine yD 8 26 rfl (Zq 1000 ZJ) fun v26 h=>?_;cases h))<;>(first|refine kD 9 27 rfl ?_|refine xD 9 27 rfl Za ?_)<;>(first|refine kD 10 28 rfl ?_|refine xD 10 28 rfl Za ?_)<;>(first|refine kD 11 29 rfl ?_|refine xD 11 29 rfl ((WG (c:=((k:Nat):Int)))) ?_)<;>(first|refine kD 12 30 rfl ?_|refine xD 12 30 rfl (Zt 1000 ZY) ?_)<;>(first|refine kD 13 31 rfl ?_|(refine yD 13 31 rfl (Zq 1000 ZJ) fun v31 h=>?_;cases h))<;>(refine Zl 14 kR ?_)<;>(first|(refine Gg (d:=32) rfl (Jb (f:=f) (ps:=[]) rfl ⟨_,rfl⟩ hc rfl (hf x (LH hS (Xd hx)) y (LH hS (Xd hy)))) fun v32 h=>?_;cases h)|(refine Zj rfl fun w9 M9 N9 DQ back=>?_;refine kL 32 ?_;refine Zh (back _ (nrm ?_))))<;>(first|refine kD 15 33 rfl ?_|refine xD 15 33 rfl ZR ?_)<;>refine xE 16 34 rfl Zu ?_<;>refine Yu kR (nav ?_)<;>try dsimp only)<;>(
 refine cX ?_ ?_<;>intro hb34
 · first|exact bN hb34|(
 refine nav ?_;(refine ZS (fun i=>([]:List Nat).elem i) [] kR ?_<;>refine xD 0 37 rfl Za ?_<;>refine xD 1 38 rfl Za ?_<;>refine xD 2 39 rfl Za ?_<;>refine xD 3 40 rfl Za ?_<;>refine xD 4 41 rfl ((WG (c:=((k:Nat):Int)))) ?_<;>refine xD 5 42 rfl Za ?_<;>refine xD 6 43 rfl Za ?_<;>refine xD 7 44 rfl ((WG (c:=((k:Nat):Int)))) ?_<;>refine xD 10 47 rfl Za ?_<;>refine xD 11 48 rfl Za ?_<;>(refine YD 8 12 kR ?_ ?_;rotate_right;(focus ((refine Zj rfl fun w9 M9 N9 DQ back=>?_)<;>refine xL 49 (Zt 1000 ZY) ?_<;>refine Zh (back _ (nrm ?_))<;>(refine YD 8 13 kR ?_ ?_;rotate_right;(focus ((refine Zj rfl fun w9 M9 N9 DQ back=>?_)<;>(refine yL 50 (Zq 1000 ZJ) fun v50 h=>?_;cases h)<;>refine Zh (back _ (nrm ?_))<;>(refine Zl 8 kR ?_)<;>(refine Zj rfl fun w9 M9 N9 DQ back=>?_)<;>refine xL 45 (Zt 1000 ZY) ?_<;>refine Zh (back _ (nrm ?_))<;>(refine Zl 9 kR ?_)<;>(refine Zj rfl fun w9 M9 N9 DQ back=>?_)<;>(refine yL 46 (Zq 1000 ZJ) fun v46 h=>?_;cases h)<;>refine Zh (back _ (nrm ?_))<;>refine xE 14 51 rfl (Zt 1000 ZY) ?_<;>(refine Zl 15 kR ?_)<;>(refine Zj rfl fun w9 M9 N9 DQ back=>?_)<;>refine Zv 1000 ZJ ?_<;>refine Zh (back _ (nrm ?_))<;>refine xE 16 52 rfl (Zt 1000 ZY) ?_<;>(refine Zl 17 kR ?_)<;>(refine Zj rfl fun w9 M9 N9 DQ back=>?_)<;>refine Zv 1000 ZJ ?_<;>refine Zh (back _ (nrm ?_))));rotate_right;(focus ((refine Zj rfl fun w9 M9 N9 DQ back=>?_)<;>refine xL 45 (Zt 1000 ZY) ?_<;>refine Zh (back _ (nrm ?_))<;>(refine YD 9 13 kR ?_ ?_;rotate_right;(focus ((refine Zj rfl fun w9 M9 N9 DQ back=>?_)<;>(refine yL 50 (Zq 1000 ZJ) fun v50 h=>?_;cases h)<;>refine Zh (back _ (nrm ?_))<;>(refine Zl 9 kR ?_)<;>(refine Zj rfl fun w9 M9 N9 DQ back=>?_)<;>(refine yL 46 (Zq 1000 ZJ) fun v46 h=>?_;cases h)<;>refine Zh (back _ (nrm ?_))<;>refine xE 14 51 rfl (Zt 1000 ZY) ?_<;>(refine Zl 15 kR ?_)<;>(refine Zj rfl fun w9 M9 N9 DQ back=>?_)<;>refine Zv 1000 ZJ ?_<;>refine Zh (back _ (nrm ?_))<;>refine xE 16 52 rfl (Zt 1000 ZY) ?_<;>(refine Zl 17 kR ?_)<;>(refine Zj rfl fun w9 M9 N9 DQ back=>?_)<;>refine Zv 1000 ZJ ?_<;>refine Zh (back _ (nrm ?_))));rotate_right;(focus ((refine Zj rfl fun w9 M9 N9 DQ back=>?_)<;>(refine yL 46 (Zq 1000 ZJ) fun v46 h=>?_;cases h)<;>refine Zh (back _ (nrm ?_))<;>(refine Zl 13 kR ?_)<;>(refine Zj rfl fun w9 M9 N9 DQ back=>?_)<;>(refine yL 50 (Zq 1000 ZJ) fun v50 h=>?_;cases h)<;>refine Zh (back _ (nrm ?_))<;>refine xE 14 51 rfl (Zt 1000 ZY) ?_<;>(refine Zl 15 kR ?_)<;>(refine Zj rfl fun w9 M9 N9 DQ back=>?_)<;>refine Zv 1000 ZJ ?_<;>refine Zh (back _ (nrm ?_))<;>refine xE 16 52 rfl (Zt 1000 ZY) ?_<;>(refine Zl 17 kR ?_)<;>(refine Zj rfl fun w9 M9 N9 DQ back=>?_)<;>refine Zv 1000 ZJ ?_<;>refine Zh (back _ (nrm ?_))))))))));rotate_right;(focus ((refine Zj rfl fun w9 M9 N9 DQ back=>?_)<;>refine xL 45 (Zt 1000 ZY) ?_<;>refine Zh (back _ (nrm ?_))<;>(refine YD 9 12 kR ?_ ?_;rotate_right;(focus ((refine Zj rfl fun w9 M9 N9 DQ back=>?_)<;>refine xL 49 (Zt 1000 ZY) ?_<;>refine Zh (back _ (nrm ?_))<;>(refine YD 9 13 kR ?_ ?_;rotate_right;(focus ((refine Zj rfl fun w9 M9 N9 DQ back=>?_)<;>(refine yL 50 (Zq 1000 ZJ) fun v50 h=>?_;cases h)<;>refine Zh (back _ (nrm ?_))<;>(refine Zl 9 kR ?_)<;>(refine Zj rfl fun w9 M9 N9 DQ back=>?_)<;>(refine yL 46 (Zq 1000 ZJ) fun v46 h=>?_;cases h)<;>refine Zh (back _ (nrm ?_))<;>refine xE 14 51 rfl (Zt 1000 ZY) ?_<;>(refine Zl 15 kR ?_)<;>(refine Zj rfl fun w9 M9 N9 DQ back=>?_)<;>refine Zv 1000 ZJ ?_<;>refine Zh (back _ (nrm ?_))<;>refine xE 16 52 rfl (Zt 1000 ZY) ?_<;>(refine Zl 17 kR ?_)<;>(refine Zj rfl fun w9 M9 N9 DQ back=>?_)<;>refine Zv 1000 ZJ ?_<;>refine Zh (back _ (nrm ?_))));rotate_right;(focus ((refine Zj rfl fun w9 M9 N9 DQ back=>?_)<;>(refine yL 46 (Zq 1000 ZJ) fun v46 h=>?_;cases h)<;>refine Zh (back _ (nrm ?_))<;>(refine Zl 13 kR ?_)<;>(refine Zj rfl fun w9 M9 N9 DQ back=>?_)<;>(refine yL 50 (Zq 1000 ZJ) fun v50 h=>?_;cases h)<;>refine Zh (back _ (nrm ?_))<;>refine xE 14 51 rfl (Zt 1000 ZY) ?_<;>(refine Zl 15 kR ?_)<;>(refine Zj rfl fun w9 M9 N9 DQ back=>?_)<;>refine Zv 1000 ZJ ?_<;>refine Zh (back _ (nrm ?_))<;>refine xE 16 52 rfl (Zt 1000 ZY) ?_<;>(refine Zl 17 kR ?_)<;>(refine Zj rfl fun w9 M9 N9 DQ back=>?_)<;>refine Zv 1000 ZJ ?_<;>refine Zh (back _ (nrm ?_)))))));rotate_right;(focus ((refine Zj rfl fun w9 M9 N9 DQ back=>?_)<;>(refine yL 46 (Zq 1000 ZJ) fun v46 h=>?_;cases h)<;>refine Zh (back _ (nrm ?_))<;>(refine Zl 12 kR ?_)<;>(refine Zj rfl fun w9 M9 N9 DQ back=>?_)<;>refine xL 49 (Zt 1000 ZY) ?_<;>refine Zh (back _ (nrm ?_))<;>(refine Zl 13 kR ?_)<;>(refine Zj rfl fun w9 M9 N9 DQ back=>?_)<;>(refine yL 50 (Zq 1000 ZJ) fun v50 h=>?_;cases h)<;>refine Zh (back _ (nrm ?_))<;>refine xE 14 51 rfl (Zt 1000 ZY) ?_<;>(refine Zl 15 kR ?_)<;>(refine Zj rfl fun w9 M9 N9 DQ back=>?_)<;>refine Zv 1000 ZJ ?_<;>refine Zh (back _ (nrm ?_))<;>refine xE 16 52 rfl (Zt 1000 ZY) ?_<;>(refine Zl 17 kR ?_)<;>(refine Zj rfl fun w9 M9 N9 DQ back=>?_)<;>refine Zv 1000 ZJ ?_<;>refine Zh (back _ (nrm ?_))))))))<;>refine Yu kR (nav ?_)<;>try dsimp only)<;>(
 (refine Zm ?_;refine xL 35 Za ?_;refine xL 36 ((WG (c:=((k:Nat):Int)))) ?_;refine xL 9 Zb ?_;refine Ze ?_)
 rw [hsw];refine Zk (
  ⟨(k,swp L (k+1) k),by dsimp only;omega,by dsimp only;omega, .step _ _ hS oM oM oM oM h2,Zc3 leT hI oM oM oM hx hy (by unfold leT;omega)⟩
  ) (by dsimp only;omega) ⟨rfl,rfl,rfl,rfl,rfl,rfl,trivial⟩ ⟨rfl,trivial⟩))
 · first |exact bN hb34|(
 refine Zf ?_;(refine xL 15 Za (xL 16 ZO (xL 8 Zb ?_));refine Ze ?_)
 first
  | (exact Zk (
      ⟨(i+1,L),by dsimp only;omega,by dsimp only;omega,hS,ζW leT KL (fun _ _ _=>Kd) hI oM oM (show i<L.length by omega) (.inr ⟨k,y,x,rfl,hy,hx,Ji oM⟩)⟩
      ) (by dsimp only;omega) ⟨rfl,rfl,rfl,rfl,rfl,trivial⟩ ⟨rfl,trivial⟩)
  | (exact Zk (
      ⟨(i+1,L),by dsimp only;omega,by dsimp only;omega,hS,ζW leT KL (fun _ _ _=>Kd) hI oM oM (show i<L.length by omega) (.inl oM)⟩
      ) (by dsimp only;omega) ⟨rfl,rfl,rfl,rfl,rfl,trivial⟩ ⟨rfl,trivial⟩))))
 · first|exact bN hb14|(
 refine nav ?_;refine Z8 [(1000,hv, .own 24 3 l.length (Z6 L0))] (results239) ⟨rfl,trivial⟩ ⟨L0,hS0,hO0.sub _ (Xb _) oM,by rw [hS0.len]⟩)
theorem ZG:AggT prog 24 3=true:=by kernel_rfl
theorem ZU:SlT prog 22 24 3=true:=by kernel_rfl
theorem Pg {a s m:Nat} {l:List Nd} (h1:a≤s) (h2:s≤m) (h:¬(a<s∧s<m)) (g1:SrtS leT a s l) (g2:SrtS leT s m l):SrtS leT a m l:=by
 rcases Xm a s with h3|h3
 · have:s=m:=oM;subst this;exact g1
 · have:s=a:=oM;subst this;exact g2
theorem Zdb {s m e k:Nat} (h1:s≤m) (h2:m≤e) (h:¬(s<m∧m<e)):G8 s m e k=k:=by
 unfold G8
 split
 · rfl
 · split<;>omega
def BsT (m b i j:Nat) (x:Nd) (l:List Nd):Prop:=m≤i∧i≤j∧j≤b∧(∀q y,m≤q→q<i→l[q]? =some y→leT y x)∧(∀q y,j≤q→q<b→l[q]? =some y→leT x y)
theorem Ev (m b:Nat) (x:Nd) (l:List Nd) (h:m≤b):BsT m b m b x l:=⟨Xb _,h,Xb _,fun q y h1 h2=>oM,fun q y h1 h2=>oM⟩
theorem ζZ {m b i j c:Nat} {x y:Nd} {l:List Nd} (h:BsT m b i j x l) (hs:SrtS leT m b l) (h1:i≤c) (h2:c<j) (hy:l[c]? =some y) (hle:leT y x):BsT m b (c+1) j x l:=by
 obtain ⟨e1,e2,e3,e4,e5⟩:=h
 refine ⟨oM,oM,e3,fun q z k1 k2 hz=>?_,e5⟩
 exact Kd (hs.eqv leT KL k1 (show q≤c by omega) oM hz hy) hle
theorem Ph {m b i j c:Nat} {x y:Nd} {l:List Nd} (h:BsT m b i j x l) (hs:SrtS leT m b l) (h1:i≤c) (h2:c<j) (hy:l[c]? =some y) (hle:leT x y):BsT m b i c x l:=by
 obtain ⟨e1,e2,e3,e4,e5⟩:=h
 refine ⟨e1,oM,oM,e4,fun q z k1 k2 hz=>?_⟩
 exact Kd hle (hs.eqv leT KL (show m≤c by omega) k1 k2 hy hz)
set_option maxHeartbeats 4000000 in
theorem Zdc (f : Nat) (hc:∀args w,(callFunc f args).run prog w= .ok (.enter f args) w) (hv:Value) (fv:Value):∀(n:Nat) (l:List Nd) (hl:l.length≤1000000) (hf:∀x∈l,∀y∈l,AF prog f [pTr x,pTr y] (· =Zc (Wd x y))) (a m b:Nat) (hn:b-a≤n) (h1:a<m) (h2:m<b) (h3:b≤l.length) (s1:SrtS leT a m l) (s2:SrtS leT m b l),AFh False prog 240 [(0,hv, .val hv),(1, .int .i64 (a:Int),Zc a),(2, .int .i64 (m:Int),Zc m),(3, .int .i64 (b:Int),Zc b),(4,fv, .fn f [])] (Y' hv l) (fun v q h=>∃l',Sw a b l l'∧SrtS leT a b l'∧h=Y' hv l'):=fun n=>by
 induction n with
 |zero=>intro l hl hf a m b hn h1 h2;omega
 |succ n ih=>?_
 intro l hl hf a m b hn h1 h2 h3 s1 s2
 unfold Y'
 obtain ⟨xa,hxa⟩:=Zw (show a<l.length by omega)
 obtain ⟨xm,hxm⟩:=Zw (show m<l.length by omega)
 have ea:=Z5 hxa
 have ea2:=Yj hxa
 have em:=Z5 hxm
 have em2:=Yj hxm
 refine AFh.of_body 220 func240 rfl ntmps240 (Xa rfl) rfl ?_
 intro w0 M0 N0
 refine Zf ?_
 (refine xL 25 Za (xL 26 Za (xL 27 Gf (xL 28 ZQ ?_)));refine Ze ?_)
 refine cX ?_ ?_<;>intro hb28
 · first | exact bN hb28|(
 refine Zf ?_;(refine xL 29 Za (xL 10 Zb ?_);refine Zn ?_)
 (refine xL 30 Za (xL 11 Zb ?_);refine Ze ?_)
 refine ZE (ι:={q:Nat×Nat//BsT m b q.1 q.2 xa l}) (fun k=>⟨[(0,_,_),(1,_,_),(2,_,_),(3,_,_),(4,_,_),(10, .int .i64 k.1.1,Zc k.1.1),(11, .int .i64 k.1.2,Zc k.1.2)],[(1000,hv, .own 24 3 l.length (Z6 l))]⟩) (fun k=>k.1.2-k.1.1) ⟨(m,b),Ev m b xa l oM⟩ (fun a w H=>H.weaken ⟨rfl,rfl,rfl,rfl,rfl,rfl,rfl,trivial⟩ ⟨rfl,trivial⟩) ?_;rintro ⟨⟨i,j⟩,hB⟩;dsimp only;dsimp only at hB;have hB1:=hB.1;have hB2:=hB.2.1;have hB3:=hB.2.2.1;refine Zf ?_;(refine xL 31 Za (xL 32 Za (xL 33 ZR ?_));refine Ze ?_)
 refine cX ?_ ?_<;>intro hb33
 · first | exact bN hb33|(
 refine Zf ?_;(refine xL 34 Za (xL 35 Za ?_);refine xL 36 ((W0 (c:=((i+j:Nat):Int)))) ?_;refine xL 37 ((ζX (a:=i+j) rfl rfl oM)) ?_;refine xL 38 ((Pf (a:=i+j) rfl)) ?_;refine xL 39 ((ζY (a:=(i+j) / 2) rfl rfl oM)) ?_;refine xL 12 Zb ?_;refine Ze ?_)
 obtain ⟨y,hy⟩:=Zw (show (i+j) / 2<l.length by omega);have e3:=Z5 hy;have e4:=Yj hy;(refine ZS (fun i=>([]:List Nat).elem i) [1000] kR ?_<;>refine xD 0 40 rfl Za ?_<;>refine xD 1 41 rfl Za ?_<;>refine xD 2 42 rfl Za ?_<;>refine xD 3 43 rfl (Zt 1000 ZU) ?_<;>(refine yD 4 44 rfl (Zq 1000 ZG) fun v44 h=>?_;cases h)<;>refine xD 5 45 rfl Za ?_<;>refine xE 6 46 rfl Za ?_<;>refine xE 7 47 rfl (Zt 1000 ZU) ?_<;>(refine yE 8 48 rfl (Zq 1000 ZG) fun v48 h=>?_;cases h)<;>(refine Zl 9 kR ?_)<;>(refine Gg (d:=49) rfl (Jb (f:=f) (ps:=[]) rfl ⟨_,rfl⟩ hc rfl (hf y (Xd hy) xa (Xd hxa))) fun v49 h=>?_;cases h)<;>refine xE 10 50 rfl ZR ?_<;>refine Yu kR (nav ?_)<;>try dsimp only)
 refine cX ?_ ?_<;>intro hb50
 · first |exact bN hb50|(
 refine Zf ?_;(refine xL 51 Za (xL 52 ZO (xL 10 Zb ?_));refine Ze ?_)
 first
  | (exact Zk (
      ⟨((i+j) / 2+1,j),ζZ hB s2 oM oM hy (by unfold leT;omega)⟩
      ) (by dsimp only;omega) ⟨rfl,rfl,rfl,rfl,rfl,rfl,rfl,trivial⟩ ⟨rfl,trivial⟩)
  | (exact Zk (
      ⟨(i,(i+j) / 2),Ph hB s2 oM oM hy (Ji oM)⟩
      ) (by dsimp only;omega) ⟨rfl,rfl,rfl,rfl,rfl,rfl,rfl,trivial⟩ ⟨rfl,trivial⟩))
 · first |exact bN hb50|(
 refine Zf ?_;(refine xL 53 Za (xL 11 Zb ?_);refine Ze ?_)
 first
  | (exact Zk (
      ⟨((i+j) / 2+1,j),ζZ hB s2 oM oM hy (by unfold leT;omega)⟩
      ) (by dsimp only;omega) ⟨rfl,rfl,rfl,rfl,rfl,rfl,rfl,trivial⟩ ⟨rfl,trivial⟩)
  | (exact Zk (
      ⟨(i,(i+j) / 2),Ph hB s2 oM oM hy (Ji oM)⟩
      ) (by dsimp only;omega) ⟨rfl,rfl,rfl,rfl,rfl,rfl,rfl,trivial⟩ ⟨rfl,trivial⟩)))
 · first |exact bN hb33|(
 have hij:j=i:=oM;subst hij;have hM:Mov leT a b a j l:=Zbt leT (by rw [show a+1=m by omega];exact s2) oM (fun q x y h4 h5 hx hy=>by
  rw [hxa] at hx;cases hx;exact hB.2.2.2.1 q y oM h5 hy) (fun q x y h4 h5 hx hy=>by
  rw [hxa] at hx;cases hx;exact hB.2.2.2.2 q y h4 h5 hy)
 refine Zf ?_;(refine xL 54 Za (xL 13 Zb ?_);refine Ze ?_)
 refine ZE (ι:={q:Nat×List Nd//a≤q.1∧q.1+1≤j∧Sw a b l q.2∧Mov leT a b q.1 j q.2}) (fun k=>⟨[(0,_,_),(1,_,_),(2,_,_),(3,_,_),(4,_,_),(10,_,_),(13, .int .i64 k.1.1,Zc k.1.1)],[(1000,hv, .own 24 3 l.length (Z6 k.1.2))]⟩) (fun k=>j-k.1.1) ⟨(a,l),by dsimp only;omega,by dsimp only;omega, .refl _,hM⟩ (fun a w H=>H.weaken ⟨rfl,rfl,rfl,rfl,rfl,rfl,rfl,trivial⟩ ⟨rfl,trivial⟩) ?_;rintro ⟨⟨k,L⟩,hk1,hk2,hS,hM2⟩;dsimp only;dsimp only at hk1 hk2 hS hM2;have hLl:=hS.len;refine Zf ?_;(refine xL 55 Za (xL 56 Za ?_);refine xL 57 ((WG (c:=((j-1:Nat):Int)))) ?_;refine xL 58 ZR ?_;refine Ze ?_)
 refine cX ?_ ?_<;>intro hb58
 · first|exact bN hb58|(
 have hkj:k+1<j:=oM;obtain ⟨x,hx⟩:=Zw (show k<L.length by omega);obtain ⟨y,hy⟩:=Zw (show k+1<L.length by omega);have e1:=Z5 hx;have e2:=Yj hx;have e3:=Z5 hy;have e4:=Yj hy;have hsw:=L8 hx hy;have e5:(Kx (Z6 L) (k*3) (cN y)).length=(Z6 L).length:=Gy _ _ _;refine nav ?_;(refine ZS (fun i=>([]:List Nat).elem i) [] kR ?_<;>refine xD 0 61 rfl Za ?_<;>refine xD 1 62 rfl Za ?_<;>refine xD 2 63 rfl Za ?_<;>refine xD 3 64 rfl Za ?_<;>refine xD 4 65 rfl ((W0 (c:=((k+1:Nat):Int)))) ?_<;>refine xD 5 66 rfl Za ?_<;>refine xD 6 67 rfl Za ?_<;>refine xD 7 68 rfl ((W0 (c:=((k+1:Nat):Int)))) ?_<;>refine xD 10 71 rfl Za ?_<;>refine xD 11 72 rfl Za ?_<;>(refine YD 8 12 kR ?_ ?_;rotate_right;(focus ((refine Zj rfl fun w9 M9 N9 DQ back=>?_)<;>refine xL 73 (Zt 1000 ZU) ?_<;>refine Zh (back _ (nrm ?_))<;>(refine YD 8 13 kR ?_ ?_;rotate_right;(focus ((refine Zj rfl fun w9 M9 N9 DQ back=>?_)<;>(refine yL 74 (Zq 1000 ZG) fun v74 h=>?_;cases h)<;>refine Zh (back _ (nrm ?_))<;>(refine Zl 8 kR ?_)<;>(refine Zj rfl fun w9 M9 N9 DQ back=>?_)<;>refine xL 69 (Zt 1000 ZU) ?_<;>refine Zh (back _ (nrm ?_))<;>(refine Zl 9 kR ?_)<;>(refine Zj rfl fun w9 M9 N9 DQ back=>?_)<;>(refine yL 70 (Zq 1000 ZG) fun v70 h=>?_;cases h)<;>refine Zh (back _ (nrm ?_))<;>refine xE 14 75 rfl (Zt 1000 ZU) ?_<;>(refine Zl 15 kR ?_)<;>(refine Zj rfl fun w9 M9 N9 DQ back=>?_)<;>refine Zv 1000 ZG ?_<;>refine Zh (back _ (nrm ?_))<;>refine xE 16 76 rfl (Zt 1000 ZU) ?_<;>(refine Zl 17 kR ?_)<;>(refine Zj rfl fun w9 M9 N9 DQ back=>?_)<;>refine Zv 1000 ZG ?_<;>refine Zh (back _ (nrm ?_))));rotate_right;(focus ((refine Zj rfl fun w9 M9 N9 DQ back=>?_)<;>refine xL 69 (Zt 1000 ZU) ?_<;>refine Zh (back _ (nrm ?_))<;>(refine YD 9 13 kR ?_ ?_;rotate_right;(focus ((refine Zj rfl fun w9 M9 N9 DQ back=>?_)<;>(refine yL 74 (Zq 1000 ZG) fun v74 h=>?_;cases h)<;>refine Zh (back _ (nrm ?_))<;>(refine Zl 9 kR ?_)<;>(refine Zj rfl fun w9 M9 N9 DQ back=>?_)<;>(refine yL 70 (Zq 1000 ZG) fun v70 h=>?_;cases h)<;>refine Zh (back _ (nrm ?_))<;>refine xE 14 75 rfl (Zt 1000 ZU) ?_<;>(refine Zl 15 kR ?_)<;>(refine Zj rfl fun w9 M9 N9 DQ back=>?_)<;>refine Zv 1000 ZG ?_<;>refine Zh (back _ (nrm ?_))<;>refine xE 16 76 rfl (Zt 1000 ZU) ?_<;>(refine Zl 17 kR ?_)<;>(refine Zj rfl fun w9 M9 N9 DQ back=>?_)<;>refine Zv 1000 ZG ?_<;>refine Zh (back _ (nrm ?_))));rotate_right;(focus ((refine Zj rfl fun w9 M9 N9 DQ back=>?_)<;>(refine yL 70 (Zq 1000 ZG) fun v70 h=>?_;cases h)<;>refine Zh (back _ (nrm ?_))<;>(refine Zl 13 kR ?_)<;>(refine Zj rfl fun w9 M9 N9 DQ back=>?_)<;>(refine yL 74 (Zq 1000 ZG) fun v74 h=>?_;cases h)<;>refine Zh (back _ (nrm ?_))<;>refine xE 14 75 rfl (Zt 1000 ZU) ?_<;>(refine Zl 15 kR ?_)<;>(refine Zj rfl fun w9 M9 N9 DQ back=>?_)<;>refine Zv 1000 ZG ?_<;>refine Zh (back _ (nrm ?_))<;>refine xE 16 76 rfl (Zt 1000 ZU) ?_<;>(refine Zl 17 kR ?_)<;>(refine Zj rfl fun w9 M9 N9 DQ back=>?_)<;>refine Zv 1000 ZG ?_<;>refine Zh (back _ (nrm ?_))))))))));rotate_right;(focus ((refine Zj rfl fun w9 M9 N9 DQ back=>?_)<;>refine xL 69 (Zt 1000 ZU) ?_<;>refine Zh (back _ (nrm ?_))<;>(refine YD 9 12 kR ?_ ?_;rotate_right;(focus ((refine Zj rfl fun w9 M9 N9 DQ back=>?_)<;>refine xL 73 (Zt 1000 ZU) ?_<;>refine Zh (back _ (nrm ?_))<;>(refine YD 9 13 kR ?_ ?_;rotate_right;(focus ((refine Zj rfl fun w9 M9 N9 DQ back=>?_)<;>(refine yL 74 (Zq 1000 ZG) fun v74 h=>?_;cases h)<;>refine Zh (back _ (nrm ?_))<;>(refine Zl 9 kR ?_)<;>(refine Zj rfl fun w9 M9 N9 DQ back=>?_)<;>(refine yL 70 (Zq 1000 ZG) fun v70 h=>?_;cases h)<;>refine Zh (back _ (nrm ?_))<;>refine xE 14 75 rfl (Zt 1000 ZU) ?_<;>(refine Zl 15 kR ?_)<;>(refine Zj rfl fun w9 M9 N9 DQ back=>?_)<;>refine Zv 1000 ZG ?_<;>refine Zh (back _ (nrm ?_))<;>refine xE 16 76 rfl (Zt 1000 ZU) ?_<;>(refine Zl 17 kR ?_)<;>(refine Zj rfl fun w9 M9 N9 DQ back=>?_)<;>refine Zv 1000 ZG ?_<;>refine Zh (back _ (nrm ?_))));rotate_right;(focus ((refine Zj rfl fun w9 M9 N9 DQ back=>?_)<;>(refine yL 70 (Zq 1000 ZG) fun v70 h=>?_;cases h)<;>refine Zh (back _ (nrm ?_))<;>(refine Zl 13 kR ?_)<;>(refine Zj rfl fun w9 M9 N9 DQ back=>?_)<;>(refine yL 74 (Zq 1000 ZG) fun v74 h=>?_;cases h)<;>refine Zh (back _ (nrm ?_))<;>refine xE 14 75 rfl (Zt 1000 ZU) ?_<;>(refine Zl 15 kR ?_)<;>(refine Zj rfl fun w9 M9 N9 DQ back=>?_)<;>refine Zv 1000 ZG ?_<;>refine Zh (back _ (nrm ?_))<;>refine xE 16 76 rfl (Zt 1000 ZU) ?_<;>(refine Zl 17 kR ?_)<;>(refine Zj rfl fun w9 M9 N9 DQ back=>?_)<;>refine Zv 1000 ZG ?_<;>refine Zh (back _ (nrm ?_)))))));rotate_right;(focus ((refine Zj rfl fun w9 M9 N9 DQ back=>?_)<;>(refine yL 70 (Zq 1000 ZG) fun v70 h=>?_;cases h)<;>refine Zh (back _ (nrm ?_))<;>(refine Zl 12 kR ?_)<;>(refine Zj rfl fun w9 M9 N9 DQ back=>?_)<;>refine xL 73 (Zt 1000 ZU) ?_<;>refine Zh (back _ (nrm ?_))<;>(refine Zl 13 kR ?_)<;>(refine Zj rfl fun w9 M9 N9 DQ back=>?_)<;>(refine yL 74 (Zq 1000 ZG) fun v74 h=>?_;cases h)<;>refine Zh (back _ (nrm ?_))<;>refine xE 14 75 rfl (Zt 1000 ZU) ?_<;>(refine Zl 15 kR ?_)<;>(refine Zj rfl fun w9 M9 N9 DQ back=>?_)<;>refine Zv 1000 ZG ?_<;>refine Zh (back _ (nrm ?_))<;>refine xE 16 76 rfl (Zt 1000 ZU) ?_<;>(refine Zl 17 kR ?_)<;>(refine Zj rfl fun w9 M9 N9 DQ back=>?_)<;>refine Zv 1000 ZG ?_<;>refine Zh (back _ (nrm ?_))))))))<;>refine Yu kR (nav ?_)<;>try dsimp only)<;>(
 (refine Zm ?_;refine xL 59 Za (xL 60 ZO (xL 13 Zb ?_));refine Ze ?_)
 rw [hsw];refine Zk (
  ⟨(k+1,swp L k (k+1)),by dsimp only;omega,by dsimp only;omega, .step _ _ hS oM oM oM oM h3,Zbs leT hM2 oM oM hB3 oM⟩
  ) (by dsimp only;omega) ⟨rfl,rfl,rfl,rfl,rfl,rfl,rfl,trivial⟩ ⟨rfl,trivial⟩))
 · first|exact bN hb58|(
 refine nav ?_;refine G3 (Y' hv L) (results240) ⟨by rw [←hLl];rfl,trivial⟩ ⟨L,hS,OU leT hM2 oM,rfl⟩)))
 · first | exact bN hb28|(
 refine Zf ?_;(refine xL 77 Za (xL 78 Za (xL 79 Gf (xL 80 ZQ ?_)));refine Ze ?_)
 refine cX ?_ ?_<;>intro hb80
 · first | exact bN hb80|(
 refine Zf ?_;(refine xL 81 Za (xL 14 Zb ?_);refine Zn ?_)
 (refine xL 82 Za (xL 15 Zb ?_);refine Ze ?_)
 refine ZE (ι:={q:Nat×Nat//BsT a m q.1 q.2 xm l}) (fun k=>⟨[(0,_,_),(1,_,_),(2,_,_),(3,_,_),(4,_,_),(14, .int .i64 k.1.1,Zc k.1.1),(15, .int .i64 k.1.2,Zc k.1.2)],[(1000,hv, .own 24 3 l.length (Z6 l))]⟩) (fun k=>k.1.2-k.1.1) ⟨(a,m),Ev a m xm l oM⟩ (fun a w H=>H.weaken ⟨rfl,rfl,rfl,rfl,rfl,rfl,rfl,trivial⟩ ⟨rfl,trivial⟩) ?_;rintro ⟨⟨i,j⟩,hB⟩;dsimp only;dsimp only at hB;have hB1:=hB.1;have hB2:=hB.2.1;have hB3:=hB.2.2.1;refine Zf ?_;(refine xL 83 Za (xL 84 Za (xL 85 ZR ?_));refine Ze ?_)
 refine cX ?_ ?_<;>intro hb85
 · first | exact bN hb85|(
 refine Zf ?_;(refine xL 86 Za (xL 87 Za ?_);refine xL 88 ((W0 (c:=((i+j:Nat):Int)))) ?_;refine xL 89 ((ζX (a:=i+j) rfl rfl oM)) ?_;refine xL 90 ((Pf (a:=i+j) rfl)) ?_;refine xL 91 ((ζY (a:=(i+j) / 2) rfl rfl oM)) ?_;refine xL 16 Zb ?_;refine Ze ?_)
 obtain ⟨y,hy⟩:=Zw (show (i+j) / 2<l.length by omega);have e3:=Z5 hy;have e4:=Yj hy;(refine ZS (fun i=>([]:List Nat).elem i) [1000] kR ?_<;>refine xD 0 92 rfl Za ?_<;>refine xD 1 93 rfl Za ?_<;>refine xD 2 94 rfl Za ?_<;>refine xD 3 95 rfl (Zt 1000 ZU) ?_<;>(refine yD 4 96 rfl (Zq 1000 ZG) fun v96 h=>?_;cases h)<;>refine xD 5 97 rfl Za ?_<;>refine xE 6 98 rfl Za ?_<;>refine xE 7 99 rfl (Zt 1000 ZU) ?_<;>(refine yE 8 100 rfl (Zq 1000 ZG) fun v100 h=>?_;cases h)<;>(refine Zl 9 kR ?_)<;>(refine Gg (d:=101) rfl (Jb (f:=f) (ps:=[]) rfl ⟨_,rfl⟩ hc rfl (hf xm (Xd hxm) y (Xd hy))) fun v101 h=>?_;cases h)<;>refine xE 10 102 rfl ZR ?_<;>refine xE 11 103 rfl Ym ?_<;>refine Yu kR (nav ?_)<;>try dsimp only)
 refine cX ?_ ?_<;>intro hb103
 · first |exact bN hb103|(
 refine Zf ?_;(refine xL 104 Za (xL 105 ZO (xL 14 Zb ?_));refine Ze ?_)
 first
  | (exact Zk (
      ⟨((i+j) / 2+1,j),ζZ hB s1 oM oM hy (Ji (by simpa using hb103))⟩
      ) (by dsimp only;omega) ⟨rfl,rfl,rfl,rfl,rfl,rfl,rfl,trivial⟩ ⟨rfl,trivial⟩)
  | (exact Zk (
      ⟨(i,(i+j) / 2),Ph hB s1 oM oM hy (by unfold leT;simp at hb103;omega)⟩
      ) (by dsimp only;omega) ⟨rfl,rfl,rfl,rfl,rfl,rfl,rfl,trivial⟩ ⟨rfl,trivial⟩))
 · first |exact bN hb103|(
 refine Zf ?_;(refine xL 106 Za (xL 15 Zb ?_);refine Ze ?_)
 first
  | (exact Zk (
      ⟨((i+j) / 2+1,j),ζZ hB s1 oM oM hy (Ji (by simpa using hb103))⟩
      ) (by dsimp only;omega) ⟨rfl,rfl,rfl,rfl,rfl,rfl,rfl,trivial⟩ ⟨rfl,trivial⟩)
  | (exact Zk (
      ⟨(i,(i+j) / 2),Ph hB s1 oM oM hy (by unfold leT;simp at hb103;omega)⟩
      ) (by dsimp only;omega) ⟨rfl,rfl,rfl,rfl,rfl,rfl,rfl,trivial⟩ ⟨rfl,trivial⟩)))
 · first |exact bN hb85|(
 have hij:j=i:=oM;subst hij;have hbm:b=m+1:=oM;subst hbm;have hM:Mov leT a (m+1) m j l:=Zc5 leT s1 oM (fun q x y h4 h5 hx hy=>by
  rw [hxm] at hx;cases hx;exact hB.2.2.2.1 q y h4 h5 hy) (fun q x y h4 h5 hx hy=>by
  rw [hxm] at hx;cases hx;exact hB.2.2.2.2 q y h4 h5 hy)
 refine Zf ?_;(refine xL 107 Za (xL 17 Zb ?_);refine Ze ?_)
 refine ZE (ι:={q:Nat×List Nd//j≤q.1∧q.1<m+1∧Sw a (m+1) l q.2∧Mov leT a (m+1) q.1 j q.2}) (fun k=>⟨[(0,_,_),(1,_,_),(2,_,_),(3,_,_),(4,_,_),(14,_,_),(17, .int .i64 k.1.1,Zc k.1.1)],[(1000,hv, .own 24 3 l.length (Z6 k.1.2))]⟩) (fun k=>k.1.1) ⟨(m,l),by dsimp only;omega,by dsimp only;omega, .refl _,hM⟩ (fun a w H=>H.weaken ⟨rfl,rfl,rfl,rfl,rfl,rfl,rfl,trivial⟩ ⟨rfl,trivial⟩) ?_;rintro ⟨⟨k,L⟩,hk1,hk2,hS,hM2⟩;dsimp only;dsimp only at hk1 hk2 hS hM2;have hLl:=hS.len;refine Zf ?_;(refine xL 108 Za (xL 109 Za (xL 110 Wy ?_));refine Ze ?_)
 refine cX ?_ ?_<;>intro hb110
 · first|exact bN hb110|(
 obtain ⟨k',rfl⟩:∃k',k=k'+1:=⟨k-1,oM⟩;obtain ⟨x,hx⟩:=Zw (show k'+1<L.length by omega);obtain ⟨y,hy⟩:=Zw (show k'<L.length by omega);have e1:=Z5 hx;have e2:=Yj hx;have e3:=Z5 hy;have e4:=Yj hy;have hsw:=L8 hx hy;have e5:(Kx (Z6 L) ((k'+1)*3) (cN y)).length=(Z6 L).length:=Gy _ _ _;refine nav ?_;(refine ZS (fun i=>([]:List Nat).elem i) [] kR ?_<;>refine xD 0 113 rfl Za ?_<;>refine xD 1 114 rfl Za ?_<;>refine xD 2 115 rfl Za ?_<;>refine xD 3 116 rfl Za ?_<;>refine xD 4 117 rfl ((WG (c:=((k':Nat):Int)))) ?_<;>refine xD 5 118 rfl Za ?_<;>refine xD 6 119 rfl Za ?_<;>refine xD 7 120 rfl ((WG (c:=((k':Nat):Int)))) ?_<;>refine xD 10 123 rfl Za ?_<;>refine xD 11 124 rfl Za ?_<;>(refine YD 8 12 kR ?_ ?_;rotate_right;(focus ((refine Zj rfl fun w9 M9 N9 DQ back=>?_)<;>refine xL 125 (Zt 1000 ZU) ?_<;>refine Zh (back _ (nrm ?_))<;>(refine YD 8 13 kR ?_ ?_;rotate_right;(focus ((refine Zj rfl fun w9 M9 N9 DQ back=>?_)<;>(refine yL 126 (Zq 1000 ZG) fun v126 h=>?_;cases h)<;>refine Zh (back _ (nrm ?_))<;>(refine Zl 8 kR ?_)<;>(refine Zj rfl fun w9 M9 N9 DQ back=>?_)<;>refine xL 121 (Zt 1000 ZU) ?_<;>refine Zh (back _ (nrm ?_))<;>(refine Zl 9 kR ?_)<;>(refine Zj rfl fun w9 M9 N9 DQ back=>?_)<;>(refine yL 122 (Zq 1000 ZG) fun v122 h=>?_;cases h)<;>refine Zh (back _ (nrm ?_))<;>refine xE 14 127 rfl (Zt 1000 ZU) ?_<;>(refine Zl 15 kR ?_)<;>(refine Zj rfl fun w9 M9 N9 DQ back=>?_)<;>refine Zv 1000 ZG ?_<;>refine Zh (back _ (nrm ?_))<;>refine xE 16 128 rfl (Zt 1000 ZU) ?_<;>(refine Zl 17 kR ?_)<;>(refine Zj rfl fun w9 M9 N9 DQ back=>?_)<;>refine Zv 1000 ZG ?_<;>refine Zh (back _ (nrm ?_))));rotate_right;(focus ((refine Zj rfl fun w9 M9 N9 DQ back=>?_)<;>refine xL 121 (Zt 1000 ZU) ?_<;>refine Zh (back _ (nrm ?_))<;>(refine YD 9 13 kR ?_ ?_;rotate_right;(focus ((refine Zj rfl fun w9 M9 N9 DQ back=>?_)<;>(refine yL 126 (Zq 1000 ZG) fun v126 h=>?_;cases h)<;>refine Zh (back _ (nrm ?_))<;>(refine Zl 9 kR ?_)<;>(refine Zj rfl fun w9 M9 N9 DQ back=>?_)<;>(refine yL 122 (Zq 1000 ZG) fun v122 h=>?_;cases h)<;>refine Zh (back _ (nrm ?_))<;>refine xE 14 127 rfl (Zt 1000 ZU) ?_<;>(refine Zl 15 kR ?_)<;>(refine Zj rfl fun w9 M9 N9 DQ back=>?_)<;>refine Zv 1000 ZG ?_<;>refine Zh (back _ (nrm ?_))<;>refine xE 16 128 rfl (Zt 1000 ZU) ?_<;>(refine Zl 17 kR ?_)<;>(refine Zj rfl fun w9 M9 N9 DQ back=>?_)<;>refine Zv 1000 ZG ?_<;>refine Zh (back _ (nrm ?_))));rotate_right;(focus ((refine Zj rfl fun w9 M9 N9 DQ back=>?_)<;>(refine yL 122 (Zq 1000 ZG) fun v122 h=>?_;cases h)<;>refine Zh (back _ (nrm ?_))<;>(refine Zl 13 kR ?_)<;>(refine Zj rfl fun w9 M9 N9 DQ back=>?_)<;>(refine yL 126 (Zq 1000 ZG) fun v126 h=>?_;cases h)<;>refine Zh (back _ (nrm ?_))<;>refine xE 14 127 rfl (Zt 1000 ZU) ?_<;>(refine Zl 15 kR ?_)<;>(refine Zj rfl fun w9 M9 N9 DQ back=>?_)<;>refine Zv 1000 ZG ?_<;>refine Zh (back _ (nrm ?_))<;>refine xE 16 128 rfl (Zt 1000 ZU) ?_<;>(refine Zl 17 kR ?_)<;>(refine Zj rfl fun w9 M9 N9 DQ back=>?_)<;>refine Zv 1000 ZG ?_<;>refine Zh (back _ (nrm ?_))))))))));rotate_right;(focus ((refine Zj rfl fun w9 M9 N9 DQ back=>?_)<;>refine xL 121 (Zt 1000 ZU) ?_<;>refine Zh (back _ (nrm ?_))<;>(refine YD 9 12 kR ?_ ?_;rotate_right;(focus ((refine Zj rfl fun w9 M9 N9 DQ back=>?_)<;>refine xL 125 (Zt 1000 ZU) ?_<;>refine Zh (back _ (nrm ?_))<;>(refine YD 9 13 kR ?_ ?_;rotate_right;(focus ((refine Zj rfl fun w9 M9 N9 DQ back=>?_)<;>(refine yL 126 (Zq 1000 ZG) fun v126 h=>?_;cases h)<;>refine Zh (back _ (nrm ?_))<;>(refine Zl 9 kR ?_)<;>(refine Zj rfl fun w9 M9 N9 DQ back=>?_)<;>(refine yL 122 (Zq 1000 ZG) fun v122 h=>?_;cases h)<;>refine Zh (back _ (nrm ?_))<;>refine xE 14 127 rfl (Zt 1000 ZU) ?_<;>(refine Zl 15 kR ?_)<;>(refine Zj rfl fun w9 M9 N9 DQ back=>?_)<;>refine Zv 1000 ZG ?_<;>refine Zh (back _ (nrm ?_))<;>refine xE 16 128 rfl (Zt 1000 ZU) ?_<;>(refine Zl 17 kR ?_)<;>(refine Zj rfl fun w9 M9 N9 DQ back=>?_)<;>refine Zv 1000 ZG ?_<;>refine Zh (back _ (nrm ?_))));rotate_right;(focus ((refine Zj rfl fun w9 M9 N9 DQ back=>?_)<;>(refine yL 122 (Zq 1000 ZG) fun v122 h=>?_;cases h)<;>refine Zh (back _ (nrm ?_))<;>(refine Zl 13 kR ?_)<;>(refine Zj rfl fun w9 M9 N9 DQ back=>?_)<;>(refine yL 126 (Zq 1000 ZG) fun v126 h=>?_;cases h)<;>refine Zh (back _ (nrm ?_))<;>refine xE 14 127 rfl (Zt 1000 ZU) ?_<;>(refine Zl 15 kR ?_)<;>(refine Zj rfl fun w9 M9 N9 DQ back=>?_)<;>refine Zv 1000 ZG ?_<;>refine Zh (back _ (nrm ?_))<;>refine xE 16 128 rfl (Zt 1000 ZU) ?_<;>(refine Zl 17 kR ?_)<;>(refine Zj rfl fun w9 M9 N9 DQ back=>?_)<;>refine Zv 1000 ZG ?_<;>refine Zh (back _ (nrm ?_)))))));rotate_right;(focus ((refine Zj rfl fun w9 M9 N9 DQ back=>?_)<;>(refine yL 122 (Zq 1000 ZG) fun v122 h=>?_;cases h)<;>refine Zh (back _ (nrm ?_))<;>(refine Zl 12 kR ?_)<;>(refine Zj rfl fun w9 M9 N9 DQ back=>?_)<;>refine xL 125 (Zt 1000 ZU) ?_<;>refine Zh (back _ (nrm ?_))<;>(refine Zl 13 kR ?_)<;>(refine Zj rfl fun w9 M9 N9 DQ back=>?_)<;>(refine yL 126 (Zq 1000 ZG) fun v126 h=>?_;cases h)<;>refine Zh (back _ (nrm ?_))<;>refine xE 14 127 rfl (Zt 1000 ZU) ?_<;>(refine Zl 15 kR ?_)<;>(refine Zj rfl fun w9 M9 N9 DQ back=>?_)<;>refine Zv 1000 ZG ?_<;>refine Zh (back _ (nrm ?_))<;>refine xE 16 128 rfl (Zt 1000 ZU) ?_<;>(refine Zl 17 kR ?_)<;>(refine Zj rfl fun w9 M9 N9 DQ back=>?_)<;>refine Zv 1000 ZG ?_<;>refine Zh (back _ (nrm ?_))))))))<;>refine Yu kR (nav ?_)<;>try dsimp only)<;>(
 (refine Zm ?_;refine xL 111 Za ?_;refine xL 112 ((WG (c:=((k':Nat):Int)))) ?_;refine xL 17 Zb ?_;refine Ze ?_)
 rw [hsw];refine Zk (
  ⟨(k',swp L (k'+1) k'),by dsimp only;omega,by dsimp only;omega, .step _ _ hS oM oM oM oM h3,Zc4 leT hM2 oM oM oM oM⟩
  ) (by dsimp only;omega) ⟨rfl,rfl,rfl,rfl,rfl,rfl,rfl,trivial⟩ ⟨rfl,trivial⟩))
 · first|exact bN hb110|(
 have hkj:k=j:=oM;subst hkj;refine nav ?_;refine G3 (Y' hv L) (results240) ⟨by rw [←hLl];rfl,trivial⟩ ⟨L,hS,D3 leT hM2,rfl⟩)))
 · first | exact bN hb80|(
 have hlo:=Zc9 h1 h2;have hmid:(a+b) / 2<b:=oM;refine Zf ?_;(refine xL 129 Za (xL 130 Za ?_);refine xL 131 ((W0 (c:=((a+b:Nat):Int)))) ?_;refine xL 132 ((ζX (a:=a+b) rfl rfl oM)) ?_;refine xL 133 ((Pf (a:=a+b) rfl)) ?_;refine xL 134 ((ζY (a:=(a+b) / 2) rfl rfl oM)) ?_;refine xL 18 Zb ?_;refine Zn ?_)
 (refine xL 135 Za (xL 136 Za ?_);refine xL 137 ((W0 (c:=(((a+b) / 2+m:Nat):Int)))) ?_;refine xL 19 Zb ?_;refine Zn ?_)
 (refine xL 20 Zb (xL 21 Zb ?_);refine Zn ?_)
 (refine xL 138 Za (xL 139 Za (xL 140 Wy ?_));refine Ze ?_)
 refine Kj (fun _:Unit=>⟨[(0,hv, .val hv),(1, .int .i64 (a:Int),Zc a),(2, .int .i64 (m:Int),Zc m),(3, .int .i64 (b:Int),Zc b),(4,fv, .fn f []),(18, .int .i64 (((a+b) / 2:Nat):Int),Zc (((a+b) / 2:Nat):Int)),(19, .int .i64 (((a+b) / 2+m:Nat):Int),Zc (((a+b) / 2+m:Nat):Int)),(20, .int .i64 (loM a m b:Int),Zc (loM a m b)),(21, .int .i64 (hiM a m b:Int),Zc (hiM a m b))],Y' hv l⟩) ?_ ?_
 · refine cX ?_ ?_<;>intro hb140
   · first|exact bN hb140|(
 refine Zf ?_;(refine xL 141 Za (xL 142 Za ?_);(refine xL 143 ((WG (c:=((loM a m b:Nat):Int)) (hc:=by unfold loM;rw [Up oM];omega))) ?_);refine xL 20 Zb ?_;refine Zn ?_)
 ((refine xL 144 ((D5 (c:=((hiM a m b:Nat):Int)) (hc:=by unfold hiM;rw [Up oM]))) ?_);refine xL 21 Zb ?_;refine Ze ?_)
 exact ZW () ⟨rfl,rfl,rfl,rfl,rfl,rfl,rfl,rfl,rfl,trivial⟩ ⟨rfl,trivial⟩)
   · first|exact bN hb140|(
 refine Zf ?_;((refine xL 145 ((D5 (c:=((loM a m b:Nat):Int)) (hc:=by unfold loM;rw [Uo oM]))) ?_);refine xL 20 Zb ?_;refine Zn ?_)
 ((refine xL 146 ((D5 (c:=((hiM a m b:Nat):Int)) (hc:=by unfold hiM;rw [Uo oM]))) ?_);refine xL 21 Zb ?_;refine Ze ?_)
 exact ZW () ⟨rfl,rfl,rfl,rfl,rfl,rfl,rfl,rfl,rfl,trivial⟩ ⟨rfl,trivial⟩)
 · intro _;unfold Y';refine Zf ?_;(refine xL 147 Za ?_;refine xL 148 ((WG (c:=(((a+b) / 2+m-1:Nat):Int)))) ?_;refine xL 22 Zb ?_;refine Ze ?_)
   refine ZE (ι:={q:Nat×Nat//Thr leT (loM a m b) (hiM a m b) ((a+b) / 2+m-1) q.1 q.2 l}) (fun k=>⟨[(0,_,_),(1,_,_),(2,_,_),(3,_,_),(4,_,_),(18,_,_),(19,_,_),(22,_,_),(20, .int .i64 k.1.1,Zc k.1.1),(21, .int .i64 k.1.2,Zc k.1.2)],[(1000,hv, .own 24 3 l.length (Z6 l))]⟩) (fun k=>k.1.2-k.1.1) ⟨(loM a m b,hiM a m b),Zbu leT l hlo.2.1⟩ (fun a w H=>H.weaken ⟨rfl,rfl,rfl,rfl,rfl,rfl,rfl,rfl,rfl,rfl,trivial⟩ ⟨rfl,trivial⟩) ?_;rintro ⟨⟨i,j⟩,hT⟩;dsimp only;dsimp only at hT;have hB1:=hT.1;have hB2:=hT.2.1;have hB3:=hT.2.2.1;refine Zf ?_;(refine xL 149 Za (xL 150 Za (xL 151 ZR ?_));refine Ze ?_)
   refine cX ?_ ?_<;>intro hb151
   · first | exact bN hb151|(
 refine Zf ?_;(refine xL 152 Za (xL 153 Za ?_);refine xL 154 ((W0 (c:=((i+j:Nat):Int)))) ?_;refine xL 155 ((ζX (a:=i+j) rfl rfl oM)) ?_;refine xL 156 ((Pf (a:=i+j) rfl)) ?_;refine xL 157 ((ζY (a:=(i+j) / 2) rfl rfl oM)) ?_;refine xL 23 Zb ?_;refine Ze ?_)
 obtain ⟨x,hx⟩:=Zw (show (i+j) / 2<l.length by omega);have e1:=Z5 hx;have e2:=Yj hx;obtain ⟨y,hy⟩:=Zw (show (a+b) / 2+m-1-(i+j) / 2<l.length by omega);have e3:=Z5 hy;have e4:=Yj hy;(refine ZS (fun i=>([]:List Nat).elem i) [1000] kR ?_<;>refine xD 0 158 rfl Za ?_<;>refine xD 1 159 rfl Za ?_<;>refine xD 2 160 rfl Za ?_<;>refine xD 3 161 rfl Za ?_<;>refine xD 4 162 rfl ((WG (c:=(((a+b) / 2+m-1-(i+j) / 2:Nat):Int)))) ?_<;>refine xD 5 163 rfl (Zt 1000 ZU) ?_<;>(refine yD 6 164 rfl (Zq 1000 ZG) fun v164 h=>?_;cases h)<;>refine xD 7 165 rfl Za ?_<;>refine xE 8 166 rfl Za ?_<;>refine xE 9 167 rfl (Zt 1000 ZU) ?_<;>(refine yE 10 168 rfl (Zq 1000 ZG) fun v168 h=>?_;cases h)<;>(refine Zl 11 kR ?_)<;>(refine Gg (d:=169) rfl (Jb (f:=f) (ps:=[]) rfl ⟨_,rfl⟩ hc rfl (hf y (Xd hy) x (Xd hx))) fun v169 h=>?_;cases h)<;>refine xE 12 170 rfl ZR ?_<;>refine xE 13 171 rfl Ym ?_<;>refine Yu kR (nav ?_)<;>try dsimp only)
 refine cX ?_ ?_<;>intro hb171
 · first |exact bN hb171|(
 refine Zf ?_;(refine xL 172 Za (xL 173 ZO (xL 20 Zb ?_));refine Ze ?_)
 first
  | (exact Zk (
      ⟨((i+j) / 2+1,j),Zc8 KL (fun _ _ _=>Kd) hT s1 s2 oM oM hlo.1 hlo.2.2.1 hlo.2.2.2.1 hlo.2.2.2.2.1 h3 hx hy (Ji (by simpa using hb171))⟩
      ) (by dsimp only;omega) ⟨rfl,rfl,rfl,rfl,rfl,rfl,rfl,rfl,rfl,rfl,trivial⟩ ⟨rfl,trivial⟩)
  | (exact Zk (
      ⟨(i,(i+j) / 2),Et KL (fun _ _ _=>Kd) hT s1 s2 oM oM hlo.1 hlo.2.2.1 hlo.2.2.2.1 hlo.2.2.2.2.1 h3 hx hy (by unfold leT;simp at hb171;omega)⟩
      ) (by dsimp only;omega) ⟨rfl,rfl,rfl,rfl,rfl,rfl,rfl,rfl,rfl,rfl,trivial⟩ ⟨rfl,trivial⟩))
 · first |exact bN hb171|(
 refine Zf ?_;(refine xL 174 Za (xL 21 Zb ?_);refine Ze ?_)
 first
  | (exact Zk (
      ⟨((i+j) / 2+1,j),Zc8 KL (fun _ _ _=>Kd) hT s1 s2 oM oM hlo.1 hlo.2.2.1 hlo.2.2.2.1 hlo.2.2.2.2.1 h3 hx hy (Ji (by simpa using hb171))⟩
      ) (by dsimp only;omega) ⟨rfl,rfl,rfl,rfl,rfl,rfl,rfl,rfl,rfl,rfl,trivial⟩ ⟨rfl,trivial⟩)
  | (exact Zk (
      ⟨(i,(i+j) / 2),Et KL (fun _ _ _=>Kd) hT s1 s2 oM oM hlo.1 hlo.2.2.1 hlo.2.2.2.1 hlo.2.2.2.2.1 h3 hx hy (by unfold leT;simp at hb171;omega)⟩
      ) (by dsimp only;omega) ⟨rfl,rfl,rfl,rfl,rfl,rfl,rfl,rfl,rfl,rfl,trivial⟩ ⟨rfl,trivial⟩)))
   · first | exact bN hb151|(
 have hij:j=i:=oM;subst hij;have hj1:j≤(a+b) / 2:=oM;have hj2:j≤m:=oM;refine Zf ?_;(refine xL 175 Za (xL 176 Za ?_);refine xL 177 ((WG (c:=(((a+b) / 2+m-j:Nat):Int)))) ?_;refine xL 24 Zb ?_;refine Zn ?_)
 (refine xL 178 Za (xL 179 Za (xL 180 ZR (xL 181 Za ?_)))<;>(refine bLd 181 (fun hb181=>?_) (fun hb181=>?_)<;>(first|refine kL 182 ?_|refine xL 182 Za ?_))<;>(first|refine kL 183 ?_|refine xL 183 Za ?_)<;>(first|refine kL 184 ?_|refine xL 184 ZR ?_)<;>refine xL 185 Zu ?_<;>refine Ze ?_)<;>(
 refine Kj (fun L1:{L1:List Nd//(∀k,L1[k]? =l[G8 j m ((a+b) / 2+m-j) k]?)∧Sw a b l L1}=>⟨[(0,hv, .val hv),(1, .int .i64 (a:Int),Zc a),(2, .int .i64 (m:Int),Zc m),(3, .int .i64 (b:Int),Zc b),(4,fv, .fn f []),(18, .int .i64 (((a+b) / 2:Nat):Int),Zc (((a+b) / 2:Nat):Int)),(20, .int .i64 (j:Int),Zc j),(24, .int .i64 (((a+b) / 2+m-j:Nat):Int),Zc (((a+b) / 2+m-j:Nat):Int))],Y' hv L1.1⟩) ?_ ?_
 · refine cX ?_ ?_<;>intro hb185
   · first|exact bN hb185|(
 refine Zf ?_;(refine xL 186 Za (xL 187 Za (xL 188 Za (xL 189 Za (xL 190 Za ?_))));(refine ZL (Y' hv l) ⟨rfl,trivial⟩ ?_;refine ZT [] 191 (call243) (Zbw l hl j m ((a+b) / 2+m-j) oM oM oM hv fv f) (fun v191 p191 h191 hR191=>?_);obtain ⟨L1,hL1,hS1,rfl⟩:=hR191;have hL1l:=hS1.len;dsimp only [Y']);refine Ze ?_)
 first
 |exact ZW ⟨L1,hL1,hS1.mono oM oM h3⟩ ⟨rfl,rfl,rfl,rfl,rfl,rfl,rfl,rfl,trivial⟩ ⟨rfl,trivial⟩
 |exact ZW ⟨l,fun k=>by rw [Zdb oM oM oM], .refl _⟩ ⟨rfl,rfl,rfl,rfl,rfl,rfl,rfl,rfl,trivial⟩ ⟨rfl,trivial⟩)
   · first|exact bN hb185|(
 refine nav ?_
 first
 |exact ZW ⟨L1,hL1,hS1.mono oM oM h3⟩ ⟨rfl,rfl,rfl,rfl,rfl,rfl,rfl,rfl,trivial⟩ ⟨rfl,trivial⟩
 |exact ZW ⟨l,fun k=>by rw [Zdb oM oM oM], .refl _⟩ ⟨rfl,rfl,rfl,rfl,rfl,rfl,rfl,rfl,trivial⟩ ⟨rfl,trivial⟩)
 · rintro ⟨L1,hL1,hS1⟩;dsimp only;have hL1l:=hS1.len;obtain ⟨g1,g2,g3,g4,g5,g6,g7,g8,g9⟩:=Zbv KL (fun _ _ _=>Kd) h1 h2 h3 s1 s2 hT hL1;have hf1:∀x∈L1,∀y∈L1,AF prog f [pTr x,pTr y] (· =Zc (Wd x y)):=fun x hx y hy=>hf x (LH hS1 hx) y (LH hS1 hy);unfold Y';refine Zf ?_;(refine xL 192 Za (xL 193 Za (xL 194 ZR (xL 195 Za ?_)))<;>(refine bLd 195 (fun hb195=>?_) (fun hb195=>?_)<;>(first|refine kL 196 ?_|refine xL 196 Za ?_))<;>(first|refine kL 197 ?_|refine xL 197 Za ?_)<;>(first|refine kL 198 ?_|refine xL 198 ZR ?_)<;>refine xL 199 Zu ?_<;>refine Ze ?_)<;>(
 refine Kj (fun L2:{L2:List Nd//Sw a ((a+b) / 2) L1 L2∧SrtS leT a ((a+b) / 2) L2}=>⟨[(0,hv, .val hv),(1, .int .i64 (a:Int),Zc a),(2, .int .i64 (m:Int),Zc m),(3, .int .i64 (b:Int),Zc b),(4,fv, .fn f []),(18, .int .i64 (((a+b) / 2:Nat):Int),Zc (((a+b) / 2:Nat):Int)),(20, .int .i64 (j:Int),Zc j),(24, .int .i64 (((a+b) / 2+m-j:Nat):Int),Zc (((a+b) / 2+m-j:Nat):Int))],Y' hv L2.1⟩) ?_ ?_
 · refine cX ?_ ?_<;>intro hb199
   · first|exact bN hb199|(
 refine Zf ?_;(refine xL 200 Za (xL 201 Za (xL 202 Za (xL 203 Za (xL 204 Za ?_))));(refine ZL (Y' hv L1) ⟨rfl,trivial⟩ ?_;refine ZT [] 205 (call240) (ih L1 oM hf1 a j ((a+b) / 2) oM oM oM oM g1 g2) (fun v205 p205 h205 hR205=>?_);obtain ⟨L2,hS2,hO2,rfl⟩:=hR205;have hL2l:=hS2.len;dsimp only [Y']);refine Ze ?_)
 first
 |exact ZW ⟨L2,hS2,hO2⟩ ⟨rfl,rfl,rfl,rfl,rfl,rfl,rfl,rfl,trivial⟩ ⟨rfl,trivial⟩
 |exact ZW ⟨L1, .refl _,Pg g5 g6 oM g1 g2⟩ ⟨rfl,rfl,rfl,rfl,rfl,rfl,rfl,rfl,trivial⟩ ⟨rfl,trivial⟩)
   · first|exact bN hb199|(
 refine nav ?_
 first
 |exact ZW ⟨L2,hS2,hO2⟩ ⟨rfl,rfl,rfl,rfl,rfl,rfl,rfl,rfl,trivial⟩ ⟨rfl,trivial⟩
 |exact ZW ⟨L1, .refl _,Pg g5 g6 oM g1 g2⟩ ⟨rfl,rfl,rfl,rfl,rfl,rfl,rfl,rfl,trivial⟩ ⟨rfl,trivial⟩)
 · rintro ⟨L2,hS2,hO2⟩;dsimp only;have hL2l:=hS2.len;have hf2:∀x∈L2,∀y∈L2,AF prog f [pTr x,pTr y] (· =Zc (Wd x y)):=fun x hx y hy=>hf1 x (LH hS2 hx) y (LH hS2 hy);have g3':SrtS leT ((a+b) / 2) ((a+b) / 2+m-j) L2:=g3.ext leT fun k k1 k2=>hS2.out (.inr k1);have g4':SrtS leT ((a+b) / 2+m-j) b L2:=g4.ext leT fun k k1 k2=>hS2.out (.inr oM);unfold Y';refine Zf ?_;(refine xL 206 Za (xL 207 Za (xL 208 ZR (xL 209 Za ?_)))<;>(refine bLd 209 (fun hb209=>?_) (fun hb209=>?_)<;>(first|refine kL 210 ?_|refine xL 210 Za ?_))<;>(first|refine kL 211 ?_|refine xL 211 Za ?_)<;>(first|refine kL 212 ?_|refine xL 212 ZR ?_)<;>refine xL 213 Zu ?_<;>refine Ze ?_)<;>(
 refine cX ?_ ?_<;>intro hb213
 · first|exact bN hb213|(
 refine Zf ?_;(refine xL 214 Za (xL 215 Za (xL 216 Za (xL 217 Za (xL 218 Za ?_))));(refine ZL (Y' hv L2) ⟨rfl,trivial⟩ ?_;refine ZT [] 219 (call240) (ih L2 oM hf2 ((a+b) / 2) ((a+b) / 2+m-j) b oM oM oM oM g3' g4') (fun v219 p219 h219 hR219=>?_);obtain ⟨L3,hS3,hO3,rfl⟩:=hR219;have hL3l:=hS3.len;dsimp only [Y']);refine Ze ?_)
 first
 |exact Z8 (Y' hv L3) (results240) ⟨rfl,trivial⟩ ⟨L3,hS1.trans ((hS2.mono (Xb _) oM oM).trans (hS3.mono oM (Xb _) oM)),G9 oM oM oM g9 hS2 hS3 hO2 hO3,rfl⟩
 |exact Z8 (Y' hv L2) (results240) ⟨rfl,trivial⟩ ⟨L2,hS1.trans (hS2.mono (Xb _) oM oM),G9 oM oM oM g9 hS2 (.refl _) hO2 (Pg g7 g8 oM g3' g4'),rfl⟩)
 · first|exact bN hb213|(
 refine nav ?_
 first
 |exact Z8 (Y' hv L3) (results240) ⟨rfl,trivial⟩ ⟨L3,hS1.trans ((hS2.mono (Xb _) oM oM).trans (hS3.mono oM (Xb _) oM)),G9 oM oM oM g9 hS2 hS3 hO2 hO3,rfl⟩
 |exact Z8 (Y' hv L2) (results240) ⟨rfl,trivial⟩ ⟨L2,hS1.trans (hS2.mono (Xb _) oM oM),G9 oM oM oM g9 hS2 (.refl _) hO2 (Pg g7 g8 oM g3' g4'),rfl⟩)))))))
theorem Jj:AggT prog 24 3=true:=by kernel_rfl
theorem Zbx:ElT prog 22 24 3 48 (.agg #[(.int .i64 0),(.string ByteArray.empty),(.slice none 0 0)]):=⟨underlying22,by kernel_rfl,rfl,dC⟩
theorem Wx:SlT prog 22 24 3=true:=by kernel_rfl
def Ew (w n:Nat) (l:List Nd):Prop:=∀c,SrtS leT (c*w) (min (c*w+w) n) l
theorem T8 {w n a:Nat} {l:List Nd} (ha:∃c,a=c*w) (hn:n<a+w) (h:∀c,c*w+w≤a→SrtS leT (c*w) (c*w+w) l) (hs:SrtS leT a n l):Ew w n l:=fun c=>by
 obtain ⟨c0,rfl⟩:=ha
 rcases Nat.lt_trichotomy c c0 with h1|h1|h1
 · have:(c+1)*w≤c0*w:=Ve w h1;rw [X9] at this;exact (h c this).sub leT (Xb _) (Nat.min_le_left _ _)
 · subst h1;rw [Ua oM];exact hs
 · have:(c0+1)*w≤c*w:=Ve w h1;rw [X9] at this;exact SrtS.small leT l (by have:=Nat.min_le_right (c*w+w) n;omega)
theorem Zfe {w n a:Nat} {l:List Nd} (h:Ew w n l) (ha:∃c,a=c*(w*2)) (hn:a+w*2≤n):SrtS leT a (a+w) l∧SrtS leT (a+w) (a+w*2) l:=by
 obtain ⟨c,rfl⟩:=ha
 have e1:c*2*w=c*(w*2):=by rw [Nat.mul_assoc,VO 2 w]
 have h1:=h (c*2)
 have h2:=h (c*2+1)
 rw [X9] at h2
 rw [e1] at h1 h2
 rw [XJ oM] at h1 h2
 exact ⟨h1,by rw [show c*(w*2)+w*2=c*(w*2)+w+w by omega];exact h2⟩
theorem Zdd {w n a:Nat} {l:List Nd} (h:Ew w n l) (ha:∃c,a=c*(w*2)) (hn:n<a+w*2) (hw:0<w):SrtS leT a (min (a+w) n) l∧SrtS leT (a+w) n l:=by
 obtain ⟨c,rfl⟩:=ha
 have e1:c*2*w=c*(w*2):=by rw [Nat.mul_assoc,VO 2 w]
 have h1:=h (c*2)
 have h2:=h (c*2+1)
 rw [X9] at h2
 rw [e1] at h1 h2
 exact ⟨h1,by rw [Ua oM] at h2;exact h2⟩
theorem Zff {w n:Nat} {l:List Nd} (h:Ew w n l) (hw:n≤w):SrtS leT 0 n l:=by
 have:=h 0
 rw [Vr,Xv,Ua hw] at this;exact this
theorem Zfg {l:List Nd} (h:SrtS leT 0 l.length l):AscT l:=by
 rw [AscT,List.pairwise_iff_getElem]
 intro i j hi hj hij
 exact h i j _ _ (Xh _) hij hj (Xx hi) (Xx hj)
set_option maxHeartbeats 4000000 in
theorem Zby (f : Nat) (hc:∀args w,(callFunc f args).run prog w= .ok (.enter f args) w) (hv:Value) (fv:Value) (l:List Nd) (hl:l.length≤1000000) (hf:∀x∈l,∀y∈l,AF prog f [pTr x,pTr y] (· =Zc (Wd x y))):AFh False prog 227 [(0,hv, .val hv),(1, .int .i64 (l.length:Int),Zc l.length),(2,fv, .fn f [])] (Y' hv l) (fun v q h=>h=Y' hv (DO l)):=by
 have hfp:∀{L:List Nd},Sw 0 l.length l L→∀x∈L,∀y∈L,AF prog f [pTr x,pTr y] (· =Zc (Wd x y)):=fun hS x hx y hy=>hf x (LH hS hx) y (LH hS hy)
 have hn:l.length≤l.length:=Xb _
 unfold Y'
 refine AFh.of_body 63 func227 rfl ntmps227 (Xa rfl) rfl ?_
 intro w0 M0 N0
 refine Zf ?_
 (refine xL 6 Zb ?_;refine Zn ?_)
 (refine xL 10 Za (xL 7 Zb (xL 8 Zb ?_));refine Ze ?_)
 refine ZE (ι:={q:Nat×List Nd//(∃c,q.1=c*20)∧q.1≤l.length∧Sw 0 l.length l q.2∧∀c,c*20+20≤q.1→SrtS leT (c*20) (c*20+20) q.2}) (fun k=>⟨[(0,_,_),(1,_,_),(2,_,_),(6,_,_),(7, .int .i64 k.1.1,Zc k.1.1),(8, .int .i64 ((k.1.1+20:Nat):Int),Zc ((k.1.1+20:Nat):Int))],[(1000,hv, .own 24 3 l.length (Z6 k.1.2))]⟩) (fun k=>l.length-k.1.1) ⟨(0,l),⟨0,rfl⟩,Xh _, .refl _,fun c h=>by dsimp only at h;omega⟩ (fun a w H=>H.weaken ⟨rfl,rfl,rfl,rfl,rfl,rfl,trivial⟩ ⟨rfl,trivial⟩) ?_
 rintro ⟨⟨a,L⟩,ha,han,hS,hO⟩
 dsimp only
 dsimp only at ha han hS hO;have hLl:=hS.len
 refine Zf ?_
 (refine xL 11 Za (xL 12 Za (xL 13 J5 ?_));refine Ze ?_)
 refine cX ?_ ?_<;>intro hb13
 · first |exact bN hb13|(
 refine Zf ?_;(refine xL 14 Za (xL 15 Za (xL 16 Za (xL 17 Za ?_)));(refine ZL (Y' hv L) ⟨by rw [←hLl];rfl,trivial⟩ ?_;refine ZT [] 18 (call239) (Zda f hc L oM (hfp hS) a (a+20) oM oM hv fv) (fun v18 p18 h18 hR18=>?_);obtain ⟨L2,hS2,hO2,rfl⟩:=hR18;have hL2l:=hS2.len;dsimp only [Y'];rw [hL2l,hLl]);refine Zn ?_)
 (refine xL 19 Za (xL 7 Zb ?_);refine Zn ?_)
 (refine xL 20 Za (xL 21 Za ?_);refine xL 22 ((W0 (c:=((a+20+20:Nat):Int)))) ?_;refine xL 8 Zb ?_;refine Ze ?_)
 refine Zk (
  ⟨(a +20,L2),by obtain ⟨c,hc'⟩:=ha;exact ⟨c+1,by dsimp only;omega⟩,by dsimp only;omega,hS.trans (hS2.mono (Xh _) oM oM),fun c h=>by
    dsimp only at h ⊢;obtain ⟨c0,hc0⟩:=ha;rcases Xm c c0 with h1|h1
    · exact (hO c oM).ext leT fun k k1 k2=>hS2.out (.inl oM)
    · have:c=c0:=oM;subst this;rw [←hc0];exact hO2⟩
  ) (by dsimp only;omega) ⟨rfl,rfl,rfl,rfl,rfl,rfl,trivial⟩ ⟨rfl,trivial⟩)
 · first | exact bN hb13|(
 have hna:l.length<a+20:=oM;refine Zf ?_;(refine xL 23 Za (xL 24 Za (xL 25 Za (xL 26 Za ?_)));(refine ZL (Y' hv L) ⟨by rw [←hLl];rfl,trivial⟩ ?_;refine ZT [] 27 (call239) (Zda f hc L oM (hfp hS) a l.length oM oM hv fv) (fun v27 p27 h27 hR27=>?_);obtain ⟨L1,hS1,hO1,rfl⟩:=hR27;have hL1l:=hS1.len;dsimp only [Y'];rw [hL1l,hLl];have hS1':Sw 0 l.length l L1:=hS.trans (hS1.mono (Xh _) (Xb _) oM);have hB1:Ew 20 l.length L1:=T8 ha hna (fun c h=>(hO c h).ext leT fun k k1 k2=>hS1.out (.inl oM)) hO1);refine Ze ?_)
 refine ZE (ι:={q:Nat×List Nd//1≤q.1∧q.1≤2000000∧Sw 0 l.length l q.2∧Ew q.1 l.length q.2}) (fun k=>⟨[(0,_,_),(1,_,_),(2,_,_),(6, .int .i64 k.1.1,Zc k.1.1)],[(1000,hv, .own 24 3 l.length (Z6 k.1.2))]⟩) (fun k=>l.length-k.1.1) ⟨(20,L1),by dsimp only;omega,by dsimp only;omega,hS1',hB1⟩ (fun a w H=>H.weaken ⟨rfl,rfl,rfl,rfl,trivial⟩ ⟨rfl,trivial⟩) ?_;rintro ⟨⟨w,L⟩,hw1,hw2,hS,hB⟩;dsimp only;dsimp only at hw1 hw2 hS hB;have hLl:=hS.len;refine Zf ?_;(refine xL 28 Za (xL 29 Za (xL 30 ZR ?_));refine Ze ?_)
 refine cX ?_ ?_<;>intro hb30
 · first | exact bN hb30|(
 refine Zf ?_;(refine xL 31 Za ?_;refine xL 32 ((D4 (c:=((w*2:Nat):Int)))) ?_;refine xL 7 Zb (xL 8 Zb ?_);refine Ze ?_)
 refine ZE (ι:={q:Nat×List Nd//(∃c,q.1=c*(w*2))∧q.1≤l.length∧Sw 0 l.length l q.2∧(∀c,c*(w*2)+w*2≤q.1→SrtS leT (c*(w*2)) (c*(w*2)+w*2) q.2)∧∀k,q.1≤k→q.2[k]? =L[k]? }) (fun k=>⟨[(0,_,_),(1,_,_),(2,_,_),(6,_,_),(7, .int .i64 k.1.1,Zc k.1.1),(8, .int .i64 ((w*2+k.1.1:Nat):Int),Zc ((w*2+k.1.1:Nat):Int))],[(1000,hv, .own 24 3 l.length (Z6 k.1.2))]⟩) (fun k=>l.length-k.1.1) ⟨(0,L),⟨0,(Vr _).symm⟩,Xh _,hS,fun c h=>by dsimp only at h;omega,fun _ _=>rfl⟩ (fun a w H=>H.weaken ⟨rfl,rfl,rfl,rfl,rfl,rfl,trivial⟩ ⟨rfl,trivial⟩) ?_;rintro ⟨⟨a,K⟩,ha,han,hSK,hO,hU⟩;dsimp only;dsimp only at ha han hSK hO hU;have hKl:=hSK.len;refine Zf ?_;(refine xL 33 Za (xL 34 Za (xL 35 J5 ?_));refine Ze ?_)
 refine cX ?_ ?_<;>intro hb35
 · first |exact bN hb35|(
 have hab:a+w*2≤l.length:=oM;have hb2:=Zfe hB ha hab;have g1:SrtS leT a (a+w) K:=hb2.1.ext leT fun k k1 k2=>hU k k1;(have g2:SrtS leT (a+w) (w*2+a) K:=by rw [Nat.add_comm (w*2) a];exact hb2.2.ext leT fun k k1 k2=>hU k oM);refine Zf ?_;(refine xL 36 Za (xL 37 Za (xL 38 Za (xL 39 Za ?_)));refine xL 40 ((W0 (c:=((a+w:Nat):Int)))) ?_;refine xL 41 Za (xL 42 Za ?_);(refine ZL (Y' hv K) ⟨by rw [←hKl];rfl,trivial⟩ ?_;refine ZT [] 43 (call240) (Zdc f hc hv fv _ K oM (hfp hSK) a (a+w) (w*2+a) (Xb _) oM oM oM g1 g2) (fun v43 p43 h43 hR43=>?_);obtain ⟨K2,hS2,hO2,rfl⟩:=hR43;have hK2l:=hS2.len;dsimp only [Y'];rw [hK2l,hKl]);refine Zn ?_)
 (refine xL 44 Za (xL 7 Zb ?_);refine Zn ?_)
 (refine xL 45 Za (xL 46 Za ?_);refine xL 47 ((D4 (c:=((w*2:Nat):Int)))) ?_;refine xL 48 ((W0 (c:=((w*2+(w*2+a):Nat):Int)))) ?_;refine xL 8 Zb ?_;refine Ze ?_)
 refine Zk (
  ⟨(w *2+a,K2),by obtain ⟨c,hc'⟩:=ha;exact ⟨c+1,by dsimp only;rw [X9];omega⟩,by dsimp only;omega,hSK.trans (hS2.mono (Xh _) oM oM),fun c h=>by
    dsimp only at h ⊢;obtain ⟨c0,hc0⟩:=ha;rcases Nat.lt_trichotomy c c0 with h1|h1|h1
    · have:(c+1)*(w*2)≤c0*(w*2):=Ve _ h1;rw [X9] at this;exact (hO c oM).ext leT fun k k1 k2=>hS2.out (.inl oM)
    · subst h1;rw [←hc0,Nat.add_comm a (w*2)];exact hO2
    · have:(c0+1)*(w*2)≤c*(w*2):=Ve _ h1;rw [X9] at this;omega,fun k hk=>by dsimp only at hk ⊢;rw [hS2.out (.inr hk)];exact hU k oM⟩
  ) (by dsimp only;omega) ⟨rfl,rfl,rfl,rfl,rfl,rfl,trivial⟩ ⟨rfl,trivial⟩)
 · first | exact bN hb35|(
 have hna:l.length<a+w*2:=oM;have hb3:=Zdd hB ha hna hw1;have g1:SrtS leT a (min (a+w) l.length) K:=hb3.1.ext leT fun k k1 k2=>hU k k1;have g2:SrtS leT (a+w) l.length K:=hb3.2.ext leT fun k k1 k2=>hU k oM;refine Zf ?_;(refine xL 49 Za (xL 50 Za ?_);refine xL 51 ((W0 (c:=((a+w:Nat):Int)))) ?_;refine xL 9 Zb ?_;refine Zn ?_)
 (refine xL 52 Za (xL 53 Za (xL 54 ZR ?_));refine Ze ?_)
 refine cX ?_ ?_<;>intro hb54
 · first |exact bN hb54|(
 rw [XJ oM] at g1;refine Zf ?_;(refine xL 55 Za (xL 56 Za (xL 57 Za (xL 58 Za (xL 59 Za ?_))));(refine ZL (Y' hv K) ⟨by rw [←hKl];rfl,trivial⟩ ?_;refine ZT [] 60 (call240) (Zdc f hc hv fv _ K oM (hfp hSK) a (a+w) l.length (Xb _) oM oM oM g1 g2) (fun v60 p60 h60 hR60=>?_);obtain ⟨K2,hS2,hO2,rfl⟩:=hR60;have hK2l:=hS2.len;dsimp only [Y'];rw [hK2l,hKl]);refine Zn ?_)
 (refine xL 61 Za ?_;refine xL 62 ((D4 (c:=((w*2:Nat):Int)))) ?_;refine xL 6 Zb ?_;refine Ze ?_)
 first
  | (exact Zk (
      ⟨(w*2,K),by dsimp only;omega,by dsimp only;omega,hSK,T8 ha hna hO g1⟩
      ) (by dsimp only;omega) ⟨rfl,rfl,rfl,rfl,trivial⟩ ⟨rfl,trivial⟩)
  | (exact Zk (
      ⟨(w*2,K2),by dsimp only;omega,by dsimp only;omega,hSK.trans (hS2.mono (Xh _) oM oM),show Ew (w*2) l.length K2 from T8 ha hna (fun c h=>(hO c h).ext leT fun k k1 k2=>hS2.out (.inl oM)) hO2⟩
      ) (by dsimp only;omega) ⟨rfl,rfl,rfl,rfl,trivial⟩ ⟨rfl,trivial⟩))
 · first |exact bN hb54|(
 rw [Ua oM] at g1;refine Zf ?_;(refine xL 61 Za ?_;refine xL 62 ((D4 (c:=((w*2:Nat):Int)))) ?_;refine xL 6 Zb ?_;refine Ze ?_)
 first
  | (exact Zk (
      ⟨(w*2,K),by dsimp only;omega,by dsimp only;omega,hSK,T8 ha hna hO g1⟩
      ) (by dsimp only;omega) ⟨rfl,rfl,rfl,rfl,trivial⟩ ⟨rfl,trivial⟩)
  | (exact Zk (
      ⟨(w*2,K2),by dsimp only;omega,by dsimp only;omega,hSK.trans (hS2.mono (Xh _) oM oM),show Ew (w*2) l.length K2 from T8 ha hna (fun c h=>(hO c h).ext leT fun k k1 k2=>hS2.out (.inl oM)) hO2⟩
      ) (by dsimp only;omega) ⟨rfl,rfl,rfl,rfl,trivial⟩ ⟨rfl,trivial⟩))))
 · first|exact bN hb30|(
 refine nav ?_;have hso:=Zff hB oM;rw [←hLl] at hso;refine Z8 [(1000,hv, .own 24 3 l.length (Z6 L))] (results227) ⟨rfl,trivial⟩ ?_;rw [←ZeO (Zfg hso) hS.perm];rw [hLl]))
theorem Zbz (f:Nat) (hc:∀args w,(callFunc f args).run prog w= .ok (.enter f args) w) (hv:Value) (fv:Value) (l:List Nd) (hl:l.length≤1000000) (hf:∀x∈l,∀y∈l,AF prog f [pTr x,pTr y] (· =Zc (Wd x y))):AFh False prog 208 [(0,hv, .val hv),(1,fv, .fn f [])] (Y' hv l) (fun v q h=>h=Y' hv (DO l)):=by
 unfold Y'
 refine AFh.of_body 9 func208 rfl ntmps208 (Xa rfl) rfl ?_
 intro w0 M0 N0
 refine Zf ?_
 (refine xL 4 Za (xL 5 Za (xL 6 (YV 1000 Wx) (xL 7 Za ?_)));(refine ZL (Y' hv l) ⟨rfl,trivial⟩ ?_;refine ZT [] 8 (call227) (Zby f hc hv fv l hl hf) (fun v8 p8 h8 hR8=>?_);subst hR8;dsimp only [Y']);refine Ze ?_)
 exact Z8 (Y' hv (DO l)) (results208) ⟨rfl,trivial⟩ rfl
theorem Zfh {l:List Nd} (h:1≤l.length):Jw (l.take 1)=l.take 1:=by
 cases l with
 |nil=>simp at h
 |cons x l=>rfl
theorem Ex {l:List Nd} (hs:AscT l) {p:Nat} {x y:Nd} (hy:l[p]? =some y) (hx:l[p+1]? =some x) (he:JJ x y=true):Jw (l.take (p+1+1))=Jw (l.take (p+1)):=by
 have e:=Ww.1 he
 subst e
 refine H8 (J7 _ (hs.sublist (Ub _ _))) (J7 _ (hs.sublist (Ub _ _))) fun z=>?_
 rw [K4,K4,Yo hx,XW,Xr]
 exact ⟨fun h=>h.elim id fun h=>by subst h;rw [Yo hy];exact List.mem_append_right _ (Xr.2 rfl), .inl⟩
theorem ζ0 {l:List Nd} (hs:AscT l) {i j:Nat} {x y:Nd} (hij:i<j) (hx:l[i]? =some x) (hy:l[j]? =some y):leT x y:=by
 obtain ⟨h1,rfl⟩:=Xz.1 hx
 obtain ⟨h2,rfl⟩:=Xz.1 hy
 exact List.pairwise_iff_getElem.1 hs i j h1 h2 hij
theorem ζ1 {l:List Nd} (hs:AscT l) {p:Nat} {x y:Nd} (hy:l[p]? =some y) (hx:l[p+1]? =some x) (he:JJ x y=false):Jw (l.take (p+1+1))=Jw (l.take (p+1))++[x]:=by
 have hyx:Wd y x<0:=PE (ζ0 hs oM hy hx) fun e=>by rw [Ww.2 e.symm] at he;cases he
 refine H8 (J7 _ (hs.sublist (Ub _ _))) ?_ fun z=>?_
 · refine V3.2 ⟨J7 _ (hs.sublist (Ub _ _)),VE ..,fun z hz w hw=>?_⟩;rw [Xr.1 hw];rw [K4] at hz;obtain ⟨i,hi⟩:=X8 hz;have hi':=Zg hi;rw [Xl] at hi';rw [X5 oM] at hi;by_cases e:i=p
   · subst e;rw [hi] at hy;cases hy;exact hyx
   · have h:=ζ0 hs (show i<p by omega) hi hy;by_cases e2:z=y
     · subst e2;exact hyx
     · have:=PE h e2;have t1:=Ly z y;have t2:=Ly y x;have:=ζE z y x oM oM;omega
 · rw [XW,K4,Xr,Yo hx,K4,XW,Xr]
theorem PU {α β:Type} {f:α→List β} {m:Nat} (hf:∀x,(f x).length=m):∀(L:List α) (k:Nat),(L.flatMap f).take (k*m)=(L.take k).flatMap f
 |[],k=>sM
 |x::L,0=>sM
 | x::L,k+1=>by
   rw [XP,Xp,Xp,←PU hf L k,List.take_append,Xs (by rw [hf,XY];omega),hf,show (k+1)*m-m=k*m by rw [XY];omega]
theorem Zde {hv:Value} (h:hv.oneCell'=true) (i j k:Nat):(slc hv i j k).oneCell'=true:=by
 unfold slc;split
 · rfl
 · exact h
set_option maxHeartbeats 2000000 in
theorem D8 (f : Nat) (hc:∀args w,(callFunc f args).run prog w= .ok (.enter f args) w) (fv:Value) (l:List Nd) (hl:l.length≤1000000) (hs:AscT l) (hf:∀x∈l,∀y∈l,AF prog f [pTr x,pTr y] (· =ZV (JJ x y))) (hv:Value) (hvo:hv.oneCell'=true):AFh False prog 210 [(0,hv, .val hv),(1,fv, .fn f [])] [(1000,hv, .own 24 3 l.length (Z6 l))] (fun v q h=>v.oneCell'=true∧q= .val v∧h=[(1000,v, .own 24 3 (Jw l).length (Z6 (Jw l)))]):=by
 refine AFh.of_body 66 func210 rfl ntmps210 (Xa rfl) rfl ?_
 intro w0 M0 N0
 refine Zf ?_
 (refine xL 4 Zb ?_;refine Zn ?_)
 (refine xL 8 Za (xL 9 (YV 1000 Wx) (xL 10 ZR ?_));refine Ze ?_)
 refine cX ?_ ?_<;>intro hb10
 · first|exact bN hb10|(
 refine Zf ?_;(refine xL 11 Za (xL 4 Zb ?_);refine Ze ?_)
 refine WQ [(1000,hv,PV.own 24 3 l.length (Z6 l))] (results210) rfl ⟨rfl,trivial⟩ ⟨hvo,rfl,?_⟩;have hm:Jw l=l:=by
  match l,hl,hb10 with
  |[],_,_=>rfl
  |[_],_,_=>rfl
  |_::_::_,_,h=>simp at h;omega
 rw [hm])
 · first | exact bN hb10|(
 refine Zf ?_;(refine xL 5 Zb ?_;refine Ze ?_)
 refine ZE (ι:={k:Nat//1≤k∧k≤l.length∧Jw (l.take k)=l.take k}) (fun k=>⟨[(0,_,_),(1,_,_),(5, .int .i64 k.1,Zc k.1)],[(1000,_,_)]⟩) (fun k=>l.length-k.1) ⟨1,Xb _,oM,Zfh oM⟩ (fun a w H=>H.weaken ⟨rfl,rfl,rfl,trivial⟩ ⟨rfl,trivial⟩) ?_;rintro ⟨k1,hk1,hk,hmk⟩;dsimp only;obtain ⟨k,rfl⟩:∃k,k1=k+1:=⟨k1-1,oM⟩;refine Zf ?_;(refine xL 12 Za (xL 13 Za (xL 14 (YV 1000 Wx) (xL 15 ZR ?_)));refine Ze ?_)
 refine cX ?_ ?_<;>intro hb15
 · first | exact bN hb15|(
 obtain ⟨x,hx⟩:=Zw (show k+1<l.length by omega);obtain ⟨y,hy⟩:=Zw (show k<l.length by omega);have e1:=Z5 hx;have e2:=Yj hx;have e3:=Z5 hy;have e4:=Yj hy;have hlt:k+1<l.length:=Zg hx;refine nav ?_;(refine ZS (fun i=>([]:List Nat).elem i) [1000] kR ?_<;>refine xD 0 18 rfl Za ?_<;>refine xD 1 19 rfl Za ?_<;>refine xD 2 20 rfl Za ?_<;>refine xD 3 21 rfl (Zt 1000 Wx) ?_<;>(refine yD 4 22 rfl (Zq 1000 Jj) fun v22 h=>?_;cases h)<;>refine xD 5 23 rfl Za ?_<;>refine xE 6 24 rfl Za ?_<;>refine xE 7 25 rfl ((WG (c:=((k:Nat):Int)))) ?_<;>refine xE 8 26 rfl (Zt 1000 Wx) ?_<;>(refine yE 9 27 rfl (Zq 1000 Jj) fun v27 h=>?_;cases h)<;>(refine Zl 10 kR ?_)<;>(refine Gg (d:=28) rfl (Jb (f:=f) (ps:=[]) rfl ⟨_,rfl⟩ hc rfl (hf x (Xd hx) y (Xd hy))) fun v28 h=>?_;cases h)<;>refine Yu kR (nav ?_)<;>try dsimp only)
 refine cX ?_ ?_<;>intro hb28
 · first | exact bN hb28|(
 have hsm:=Ex hs hy hx (by unfold JJ;simpa using hb28);(have hl1:(Jw (l.take (k+1+1))).length=k+1:=by rw [hsm,hmk,Xl];omega);refine Zf ?_;(refine xL 29 Za (xL 30 Za ?_);refine xL 31 (Kc (i:=k+1) (j:=l.length) 1000 Wx rfl rfl rfl rfl rfl (Nat.le_of_lt hlt) (Xb _)) ?_;refine xL 6 Zb ?_;refine Zn ?_)
 (refine xL 7 Zb ?_;refine Ze ?_)
 refine ZE (ι:={q:Nat×Nat×List Nd//1≤q.1∧k+1+q.1≤l.length∧q.2.1=(Jw (l.take (k+1+q.1))).length∧q.2.2.length=l.length∧q.2.2.take q.2.1=Jw (l.take (k+1+q.1))∧q.2.1≤k+q.1∧∀i,k+q.1≤i→q.2.2[i]? =l[i]? }) (fun k=>⟨[(0,_,_),(1,_,_),(6,_,_),(5, .int .i64 k.1.2.1,Zc k.1.2.1),(7, .int .i64 k.1.1,Zc k.1.1)],[(1000,hv, .own 24 3 l.length (Z6 k.1.2.2))]⟩) (fun k=>l.length-k.1.1) ⟨(1,k+1,l),Xb _,by dsimp only;omega,hl1.symm,rfl,by dsimp only;rw [hsm,hmk],Xb _,fun i _=>rfl⟩ (fun a w H=>H.weaken ⟨rfl,rfl,rfl,rfl,rfl,trivial⟩ ⟨rfl,trivial⟩) ?_;rintro ⟨⟨j,K,L⟩,hj1,hj,hK,hLl,hLt,hKj,hLr⟩;dsimp only;dsimp only at hj1 hj hK hLl hLt hKj hLr;obtain ⟨j',rfl⟩:∃j',j=j'+1:=⟨j-1,oM⟩;have hK2:(K:Int)≤1000000:=oM;rw [show k+1+(j'+1)=k+1+j'+1 from rfl] at hK hLt;refine Zf ?_;(refine xL 32 Za (xL 33 Za ?_);refine xL 34 ((De (a:=k+1) (m:=l.length-(k+1)) 1000 Wx rfl rfl rfl rfl)) ?_;refine xL 35 ZR ?_;refine Ze ?_)
 refine cX ?_ ?_<;>intro hb35
 · first | exact bN hb35|(
 obtain ⟨u,hu⟩:=Zw (show k+1+(j'+1)<l.length by omega);obtain ⟨v,hv2⟩:=Zw (show k+1+j'<l.length by omega);(have hu':L[k+1+(j'+1)]? =some u:=by rw [hLr _ oM];exact hu);(have hv':L[k+1+j']? =some v:=by rw [hLr _ oM];exact hv2);have g1:=Z5 hu';have g2:=Yj hu';have g3:=Z5 hv';have g4:=Yj hv';have g5:K<L.length:=oM;(have g6:K*3+3≤(Z6 L).length:=by rw [Eu];omega);refine nav ?_;(refine ZS (fun i=>([]:List Nat).elem i) [1000] kR ?_<;>refine xD 0 38 rfl Za ?_<;>refine xD 1 39 rfl Za ?_<;>refine xD 2 40 rfl Za ?_<;>refine xD 3 41 rfl ((JW (a:=k+1) (m:=(k+1+(j'+1))*3) 1000 Wx rfl rfl rfl rfl oM oM oM)) ?_<;>(refine yD 4 42 rfl (Zq 1000 Jj) fun v42 h=>?_;cases h)<;>refine xD 5 43 rfl Za ?_<;>refine xE 6 44 rfl Za ?_<;>refine xE 7 45 rfl ((WG (c:=((j':Nat):Int)))) ?_<;>refine xE 8 46 rfl ((JW (a:=k+1) (m:=(k+1+j')*3) 1000 Wx rfl rfl rfl rfl oM oM oM)) ?_<;>(refine yE 9 47 rfl (Zq 1000 Jj) fun v47 h=>?_;cases h)<;>(refine Zl 10 kR ?_)<;>(refine Gg (d:=48) rfl (Jb (f:=f) (ps:=[]) rfl ⟨_,rfl⟩ hc rfl (hf u (Xd hu) v (Xd hv2))) fun v48 h=>?_;cases h)<;>refine xE 11 49 rfl Ym ?_<;>refine Yu kR (nav ?_)<;>try dsimp only)
 refine cX ?_ ?_<;>intro hb49
 · first |exact bN hb49|(
 have hnw2:=ζ1 hs hv2 hu (by simpa using hb49);have hset:=D7 L K u g5;(have hlen2:K+1=(Jw (l.take (k+1+j'+1+1))).length:=by rw [hnw2,Xg,Xu,hK]);have htk2:(L.set K u).take (K+1)=Jw (l.take (k+1+j'+1+1)):=by
  rw [hnw2,←hLt,List.take_set,Yo (Xx g5),Vy _ _ (by rw [Xl];omega),Xl,XJ oM,Vp];rfl
 refine Zf ?_;(refine xL 50 Za (xL 51 Za (xL 52 Za (xL 53 Za ?_)));refine xL 54 ((JW (a:=k+1) (m:=(k+1+(j'+1))*3) 1000 Wx rfl rfl rfl rfl oM oM oM)) ?_;refine yL 55 (Zq 1000 Jj) fun v55 hv55=>?_;cases hv55;refine xL 56 (Zt 1000 Wx) ?_;refine Zv 1000 Jj ?_;refine Zn ?_)
 (refine xL 57 Za (xL 58 ZO (xL 5 Zb ?_));refine Zn ?_)
 (refine xL 36 Za (xL 37 ZO (xL 7 Zb ?_));refine Ze ?_)
 try rw [hset]
 first
  | (exact Zk (
      ⟨(j'+1+1,K+1,L.set K u),by dsimp only;omega,by dsimp only;omega,hlen2,by dsimp only;rw [Xi];exact hLl,htk2,by dsimp only;omega,fun i hi=>by dsimp only at hi ⊢;rw [Va oM];exact hLr i oM⟩
      ) (by dsimp only;omega) ⟨rfl,rfl,rfl,rfl,rfl,trivial⟩ ⟨rfl,trivial⟩)
  | (exact Zk (
      ⟨(j'+1+1,K,L),by dsimp only;omega,by dsimp only;omega,hK.trans (by rw [show k+1+(j'+1+1)=k+1+j'+1+1 by omega,hsm2]),hLl,hLt.trans (by rw [show k+1+(j'+1+1)=k+1+j'+1+1 by omega,hsm2]),by dsimp only;omega,fun i hi=>hLr i (by dsimp only at hi;omega)⟩
      ) (by dsimp only;omega) ⟨rfl,rfl,rfl,rfl,rfl,trivial⟩ ⟨rfl,trivial⟩))
 · first |exact bN hb49|(
 have hsm2:=Ex hs hv2 hu (by simpa using hb49);refine Zf ?_;(refine xL 36 Za (xL 37 ZO (xL 7 Zb ?_));refine Ze ?_)
 try rw [hset]
 first
  | (exact Zk (
      ⟨(j'+1+1,K+1,L.set K u),by dsimp only;omega,by dsimp only;omega,hlen2,by dsimp only;rw [Xi];exact hLl,htk2,by dsimp only;omega,fun i hi=>by dsimp only at hi ⊢;rw [Va oM];exact hLr i oM⟩
      ) (by dsimp only;omega) ⟨rfl,rfl,rfl,rfl,rfl,trivial⟩ ⟨rfl,trivial⟩)
  | (exact Zk (
      ⟨(j'+1+1,K,L),by dsimp only;omega,by dsimp only;omega,hK.trans (by rw [show k+1+(j'+1+1)=k+1+j'+1+1 by omega,hsm2]),hLl,hLt.trans (by rw [show k+1+(j'+1+1)=k+1+j'+1+1 by omega,hsm2]),by dsimp only;omega,fun i hi=>hLr i (by dsimp only at hi;omega)⟩
      ) (by dsimp only;omega) ⟨rfl,rfl,rfl,rfl,rfl,trivial⟩ ⟨rfl,trivial⟩)))
 · first|exact bN hb35|(
 have hall:l.take (k+1+j'+1)=l:=Xs oM;rw [hall] at hK hLt;have hKl:K≤l.length:=oM;refine Zf ?_;(refine xL 59 Za (xL 60 Za ?_);refine xL 61 (Kc (i:=K) (j:=l.length) 1000 Wx rfl rfl rfl rfl rfl hKl (Xb _)) ?_;(refine T2 1000 Zbx dC rfl rfl rfl rfl rfl hKl ?_;intro cs2 hcs1 hcs2);refine Zn ?_)
 (refine xL 62 Za (xL 63 Za ?_);refine xL 64 (Kc (i:=0) (j:=K) 1000 Wx rfl rfl rfl rfl rfl (Xh _) hKl) ?_;refine xL 4 Zb ?_;refine Ze ?_)
 refine Wm (ZeU (l:=1000) K rfl hKl) fun _=>?_;refine WQ [(1000,slc hv 0 K 3,PV.own 24 3 K (cs2.take (K*3)))] (results210) rfl ⟨rfl,trivial⟩ ⟨Zde hvo _ _ _,rfl,?_⟩;rw [hcs2,←hLt,We,PU TC,←We];rw [show (L.take K).length=K by rw [Xl];omega]))
 · first|exact bN hb28|(
 have hnw:=ζ1 hs hy hx (by unfold JJ;simpa using hb28);rw [hmk,←Yo hx] at hnw;refine Zf ?_;(refine xL 16 Za (xL 17 ZO (xL 5 Zb ?_));refine Ze ?_)
 refine Zk (
  ⟨k+1+1,oM,oM,hnw⟩
  ) (by dsimp only;omega) ⟨rfl,rfl,rfl,trivial⟩ ⟨rfl,trivial⟩))
 · first|exact bN hb15|(
 refine Zf ?_;(refine xL 65 Za (xL 4 Zb ?_);refine Ze ?_)
 refine WQ [(1000,hv,PV.own 24 3 l.length (Z6 l))] (results210) rfl ⟨rfl,trivial⟩ ⟨hvo,rfl,?_⟩;rw [Xs (show l.length≤k+1 by omega)] at hmk;rw [hmk]))
end Go.Proofs.YtpiemogpblmiiaaGreatDoor
