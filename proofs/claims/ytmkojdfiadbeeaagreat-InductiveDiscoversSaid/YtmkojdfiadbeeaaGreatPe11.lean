/-
  Walks of functions and plain laws of the chapter, as the claim needs them.
-/
import Derived.Recover
import Derived.Lib.Builder
import Derived.Lib.UnsafeStr
import Derived.Lib.AppendStr
import Derived.Laws.Externs
import Derived.Laws.Slices
import Derived.WideLaws
import Derived.Test.YtmkojdfiadbeeaaGreatPe02
import Derived.Test.YtmkojdfiadbeeaaGreatPe03
import Derived.Test.YtmkojdfiadbeeaaGreatPe04
import Derived.Test.YtmkojdfiadbeeaaGreatPe05
import Derived.Test.YtmkojdfiadbeeaaGreatMShelfU
import Derived.Test.YtmkojdfiadbeeaaGreatMShelfW
import Derived.Test.YtmkojdfiadbeeaaGreatPe08
import Derived.Test.YtmkojdfiadbeeaaGreatPe09
import Derived.Test.YtmkojdfiadbeeaaGreatPe10
import Derived.Test.YtmkojdfiadbeeaaGreatPe01
set_option linter.all false
set_option maxRecDepth 100000
set_option maxHeartbeats 8000000
namespace Go.Proofs.YtmkojdfiadbeeaaGreat
open Go.RowKit Go.Cb Go.En Tryz
open Classical in
noncomputable def setK (ks:List BA) (s:BA):List BA:=if s∈ks then ks else ks++[s]
noncomputable def colS (ks:List BA) (l:List BA):List BA:=l.foldl setK ks
def Zn4 (ks:List BA) (s x:BA):x∈setK ks s↔x∈ks\/x=s:=by
 unfold setK
 split
 . rename_i h;exact ⟨.inl,fun h2=>h2.elim id fun e=>e▸h⟩
 rw [XB,XC]
def Zp2 {ks:List BA} (h:ks.Nodup) (s:BA):(setK ks s).Nodup:=by
 unfold setK
 split
 . exact h
 rename_i hn;exact X6.2 ⟨h,V8 _ s,fun a ha b hb e=>hn (by rw [XC] at hb;rw [<-hb,<-e];exact ha)⟩
def ZfO:∀(l ks:List BA) (x:BA),x∈colS ks l↔x∈ks\/x∈l
 |[],ks,x=>by simp [colS]
 | s::l,ks,x=>by
   show x∈colS (setK ks s) l↔_;rw [ZfO l,Zn4,Xh,or_assoc]
def ZiU:∀(l ks:List BA),ks.Nodup->(colS ks l).Nodup
 |[],_,h=>h
 |s::l,ks,h=>ZiU l (setK ks s) (Zp2 h s)
def ZfP (ks l m:List BA):colS ks (l++m)=colS (colS ks l) m:=Uq
def ZfQ:∀(l ks:List BA),(colS ks l).length<=ks.length+l.length
 |[],ks=>Xd _
 | s ::l,ks=>by
   show (colS (setK ks s) l).length<=_;have h1:=ZfQ l (setK ks s);have h2:(setK ks s).length<=ks.length+1:=by
    unfold setK;split
    . omega
    rw [Xf];simp
   rw [Xi];omega
def CL (ks:List BA):List (BA×Value):=ks.map fun s=>(s, .bool true)
def Zn5 (ks:List BA) (s:BA):RB (skv (CL ks)) (.string s) (.bool true)=skv (CL (setK ks s)):=by
 rw [P6]
 congr 1
 unfold setK
 induction ks with
 |nil=>simp [CL,K8]
 | cons x ks ih=>
   unfold CL at ih ⊢;rw [Xm,K8];by_cases h:s=x
   . subst h;simp
   simp only [h,if_false,Ne.symm h] at ih ⊢;by_cases h2:s∈ks
   . simp [h2,h] at ih ⊢;exact ih
   simp [h2,h] at ih ⊢;exact ih
def toB (s:BA):List UInt8:=s.data.toList
def ofB (l:List UInt8):BA:=⟨l.toArray⟩
def ZaX (ks:List BA):List BA:=((ks.map toB).mergeSort fun x y=>decide (x<=y)).map ofB
def Zn6 (ks:List BA):(ZaX ks).length=ks.length:=by unfold ZaX;simp
def kyv (k1 g:Nat):Value:= .func (.func k1) #[] #[.pointer (some ⟨g,0,none⟩)]
def kyP (g b clock t:Nat) (es:Array MapEntry):PV:= .oblk (itv g) g (.cells #[.map (some b)] t) [(b, .map es clock)]
def kyE (g b clock t:Nat) (es:Array MapEntry):Ent:=(itv g,kyP g b clock t es)
def Zqy (P:Program) (f k1 t:Nat):Prop:=∀(b:Nat) (w:World),Calls P f #[.map (some b)] w fun e w'=>e= .returned (kyv k1 w.heap.size)/\w'=w.alloc (.cells #[.map (some b)] t)
def ZfR (P:Program) (f k1 t T:Nat):Prop:=∀(g b clock:Nat) (es:Array MapEntry) (ks:List BA) (w:World),w.heap[g]? =some (.cells #[.map (some b)] t)->w.heap[b]? =some (.map es clock)->WfM es clock->kvOf es=skv (CL ks)->ks.Nodup->ks.length<=1000000->(∀s∈ks,s.size<=140737488355328)->
 Calls P f #[kyv k1 g] w fun e w'=>∃v,e= .returned v/\w'.ownsRow w.heap.size T 1 v ks.length ((ZaX ks).map Value.string)/\Below w.heap.size w w'
section
variable {P:Program} {c:Ctx} {ops:Array Oper} {Q:Exit->Act->World->Prop} {rest:List Oper} {sL hP:List (Nat×Ent)} {o:Oper}
def Zru {f k1 t:Nat} {x:Operand} {m:Value} {kv:List (Value×Value)} {ats:Array TypeId} (d:Nat) (hA:Zqy P f k1 t) (hc:∀args w,(callFunc f args).run P w= .ok (.enter f args) w)
 (k:∀(g b clock:Nat) (es:Array MapEntry),kv=kvOf es->WfM es clock->aL P c ops Q rest ⟨put d (kyv k1 g, .val (kyv k1 g)) sL,put d (kyE g b clock t es) hP⟩)
 (hw:Yf ops sL o=some true:=by exact rfl) (hd:o.dst=some d:=by exact rfl) (hn:d<c.nt:=by exact Xa rfl) (ho:o.op= .call {callee:= .value (.func f),args:= #[x],argTypes:=ats}:=by exact rfl) (hx:ev sL x=some (m, .smap kv):=by exact rfl) (hl:lk hP d=none:=by exact rfl):aL P c ops Q (o::rest) (⟨sL,hP⟩:St):=
 WY hw fun a w F H=>by
  obtain ⟨hv,hS⟩:=H.rd.ev hx
  cases hS with
  | smap b es clock hM h hW=>
    have key:HoldsF c ⟨put d (kyv k1 w.heap.size, .val (kyv k1 w.heap.size)) sL,put d (kyE w.heap.size b clock t es) hP⟩ (fun l'=>if l'=d then (fun x=>x=w.heap.size) else F l') (a.put (some d) (kyv k1 w.heap.size)) (w.alloc (.cells #[.map (some b)] t)):=by
     refine H.change (fun l'=>l'=d) hn ((Ext.alloc _ _).chg) (fun l' x hne hx'=>?_) (fun l' x b' hT hx' hb=>?_) (fun hm l' u q hT hx'=>?_) (fun l1 l2 _ _ _ h1 h2 hne=>Qd (h1.trans h2.symm) hne) (fun hm=> .val _)
     . rcases YC hx' with ⟨e1,_⟩|⟨_,e1⟩
       . exact Qd e1.symm hne
       exact ⟨e1,by simp [hne]⟩
     . subst hT;simp only [if_true] at hb;exact .inr (by rw [hb];exact Xd _)
     subst hT;rw [Z4] at hx';unfold kyE kyP at hx'
     cases hx';simp only [if_true];refine .oblk w.heap.size rfl ?_ (fun p hp=>?_) (fun x=>Iff.rfl)
     . show (w.heap.push _)[w.heap.size]? =_;simp
     rw [XC] at hp;subst hp;exact ⟨(Ext.alloc w _).block h,fun hb=>hM (hm b (KP h) hb)⟩
    have hrun:(execOp a.eval o).run P w= .ok (.enter f #[.map (some b)]) w:=by
     have hev:a.eval (.func f)= .func (.func f) #[] #[]:=rfl;simp [execOp,ho,resolve,Deferred.ofValue,hev,invoke,hv,hc]
    unfold Oper.wp;rw [hrun,Oper.upon_enter];refine (hA b w).mono fun e' w' ⟨he,hw'⟩=>?_;subst he hw';rw [hd];exact k _ _ _ _ rfl hW _ _ ⟨_,key⟩
def Zlm {f k1 t T g b clock:Nat} {es:Array MapEntry} {q:PV} {x:Operand} {ats:Array TypeId} {ks:List BA} (l d:Nat) (hA:ZfR P f k1 t T) (hc:∀args w,(callFunc f args).run P w= .ok (.enter f args) w) (hdr:¬c.dr)
 (hW:WfM es clock) (hkv:kvOf es=skv (CL ks)) (hnd:ks.Nodup) (hlen:ks.length<=1000000) (hsz:∀s∈ks,s.size<=140737488355328)
 (k:∀v:Value,v.oneCell'=true->aL P c ops Q rest ⟨put d (v, .val v) sL,put d (v, .own T 1 ks.length ((ZaX ks).map Zv)) hP⟩)
 (hw:Yf ops sL o=some true:=by exact rfl) (hd:o.dst=some d:=by exact rfl) (hn:d<c.nt:=by exact Xa rfl) (ho:o.op= .call {callee:= .value (.func f),args:= #[x],argTypes:=ats}:=by exact rfl) (hx:ev sL x=some (kyv k1 g,q):=by exact rfl) (hl:lk hP l=some (kyE g b clock t es):=by exact rfl) (hld:lk hP d=none:=by exact rfl):aL P c ops Q (o::rest) (⟨sL,hP⟩:St):=
 WY hw fun a w F H=>by
  have hv:=(H.rd.ev hx).1;obtain ⟨h,hs,hF⟩:=(H.tr l _ _ hl).blk;obtain ⟨hb,_⟩:=hs (b, .map es clock) sM;dsimp only at hb;have hrun:(execOp a.eval o).run P w= .ok (.enter f #[kyv k1 g]) w:=by
   have hev:a.eval (.func f)= .func (.func f) #[] #[]:=rfl;simp [execOp,ho,resolve,Deferred.ofValue,hev,invoke,hv,hc]
  unfold Oper.wp;rw [hrun,Oper.upon_enter];refine (hA g b clock es ks w h hb hW hkv hnd hlen hsz).mono fun e' w' ⟨v,he,hown,hbel⟩=>?_;subst he;rw [hd];have hone:v.oneCell'=true:=by
   rcases hown.2 with ⟨h1,_⟩|⟨g',cap',cur,e1,_⟩
   . rw [h1];rfl
   rw [e1];rfl
  have hlow:∀b,v.ownBlock=some b->w.heap.size<=b:=fun b hb'=>by
   rcases hown.2 with ⟨h1,_⟩|⟨g',cap',cur,e1,e2,_⟩
   . rw [h1] at hb';simp [Value.ownBlock] at hb'
   rw [e1] at hb';simp [Value.ownBlock] at hb';omega
  have hown0:w'.ownsRow 0 T 1 v ks.length ((ZaX ks).map Value.string):=by
   refine ⟨hown.1,?_⟩;rcases hown.2 with h1|⟨g',cap,cur,e1,e2,r⟩
   . exact .inl h1
   exact .inr ⟨g',cap,cur,e1,Xg _,r⟩
  have hch:Chg (fun b=>∃l x,l=d/\lk hP l=some x/\F l b) w w':=⟨hbel.os,hbel.tape,hbel.output,hbel.size,fun i hi _=>hbel.block i hi⟩;refine k v hone _ _ ⟨fun l'=>if l'=d then (fun b=>v.ownBlock=some b) else F l',H.change (fun l'=>l'=d) hn hch (fun l' x hne hx'=>?_) (fun l' x b' hT hx' hb=>?_) (fun hm l' u q hT hx'=>?_) (fun l1 l2 _ _ _ h1 h2 hne=>Qd (h1.trans h2.symm) hne) (fun hm=> .val _) (fun h=>Qd h hdr)⟩
  . rcases YC hx' with ⟨e1,_⟩|⟨_,e1⟩
    . exact Qd e1.symm hne
    exact ⟨e1,by simp [hne]⟩
  . subst hT;simp only [if_true] at hb;exact .inr (hlow b' hb)
  subst hT;rw [Z4] at hx'
  cases hx';simp only [if_true];refine .own ((ZaX ks).map Value.string) (fun _ _=>False) hown0 sM (fun t v p hv hp=>?_) (fun _ _ _ _ _ _ h=>h.elim) (fun _ _ _ h=>h.elim) (fun b=>sM);rw [Xl,XS] at hv hp;obtain ⟨b1,hb1,rfl⟩:=hv;obtain ⟨b2,hb2,rfl⟩:=hp;rw [hb1] at hb2;cases hb2;exact .shr (.val _) (fun _ h=>h)
end
open Go.Maps Go.Sort Go.Shelf in
def rdK (_:Value):Option (DataW Unit×List MemPlace):=some (.lit (.bool true),[])
section
open Go.WideElems Go.MapKept Go.WideMaps
def Zrv {P:Program} {k:TypeId} (hk:P.underlying k=some .string) {s:BA} (hs:s.size<=maxLen):rg P k rdK ⟨.string s, .bool true,0⟩=(.string s.data.toList, .lit (.bool true)):=by
 have:rd P k rdK ⟨.string s, .bool true,0⟩=some (.string s.data.toList, .lit (.bool true)):=rd_mk (R:=rdK) (val:= .bool true) (born:=0) (yv:=(.lit (.bool true),[])) (keyOf_string_mk hk hs) rfl
 exact rg_of this
def Zp3 {P:Program} {k:TypeId} (hk:P.underlying k=some .string) {w:World} {b clock:Nat} {es:Array MapEntry} {ks:List BA} (hb:w.heap[b]? =some (.map es clock)) (hW:WfM es clock) (hkv:kvOf es=skv (CL ks)) (hnd:ks.Nodup) (hlen:ks.length<=1000000) (hsz:∀s∈ks,s.size<=140737488355328):∃D0,w.ownsMap P k rdK b ks.length D0/\(strKeys D0).Perm (ks.map toB)/\Maps.size D0=ks.length:=by
 have hml:∀s∈ks,s.size<=maxLen:=fun s hs=>by have:=hsz s hs;unfold maxLen;omega
 have hkv2:es.toList.map (fun x=>(x.key,x.val))=ks.map fun s=>(Value.string s,Value.bool true):=by
  have:kvOf es=ks.map fun s=>(Value.string s,Value.bool true):=by rw [hkv];unfold skv CL;rw [Xz];rfl
  exact this
 have hsize:es.size=ks.length:=by have:=congrArg List.length hkv2;simpa using this
 have hrg:es.toList.map (rg P k rdK)=ks.map fun s=>(Lit.string s.data.toList,(.lit (.bool true):DataW Unit)):=by
  have h1:es.toList.map (rg P k rdK)=(es.toList.map fun x=>(x.key,x.val)).map fun p=>rg P k rdK ⟨p.1,p.2,0⟩:=by
   rw [Xz];rfl
  rw [h1,hkv2,Xz];exact VQ fun s hs=>Zrv hk (hml s hs)
 have hread:∀x∈es.toList,∃y,rd P k rdK x=some y:=fun x hx=>by
  have:(x.key,x.val)∈es.toList.map (fun x=>(x.key,x.val)):=Xp.2 ⟨x,hx,rfl⟩;rw [hkv2] at this;obtain ⟨s,hs,e⟩:=Xp.1 this;obtain ⟨xk,xv,xb⟩:=x
  cases e;exact ⟨_,rd_mk (R:=rdK) (yv:=(.lit (.bool true),[])) (keyOf_string_mk hk (hml s hs)) rfl⟩
 refine ⟨.map ((es.toList.map (rg P k rdK)).foldr DataW.insert []),⟨es,clock,hb,⟨by rw [hsize];unfold maxLen;omega,?_,hread⟩,by rw [hsize];exact Xd _,rfl⟩,?_,?_⟩
 . refine ⟨hW.1,hW.2,?_⟩;have h3:es.toList.map (·.key)=ks.map Value.string:=by
    have:=congrArg (List.map Prod.fst) hkv2;rw [Xz,Xz] at this;exact this
   rw [h3];exact X7.2 (hnd.imp fun h e=>h (by cases e;rfl))
 . rw [hrg];have h2:=(WideShapes.sorted_perm (ks.map fun s=>(Lit.string s.data.toList,(.lit (.bool true):DataW Unit)))).map fun p=>strOf p.1;rw [Xz] at h2;exact h2
 show List.length _=_;rw [(WideShapes.sorted_perm _).length_eq,Xc,X',hsize]
end
def Zr3:Zqy prog 119 181 162:=fun b w=>callsIn_wide.1 (AnyZ.keys_in (ρ:=Tryz.keysA_ren) Tryz.keysA Fence.wide 5 trivial rfl (some b) w)
def Zrw (m:Nat):AnyZ.SortsIn prog Tryz.sortedA_ren Fence.wide m:=
 ⟨fun blk off cap ss W hH hblk hsz=>callsIn_wide.2 (Tryz.slices_Sort_string blk off cap ss W hH hblk hsz),fun p cap W=>callsIn_wide.2 (Tryz.slices_Sort_string_none p cap W)⟩
def Zn7:ZfR prog 118 181 162 9:=fun g b clock es ks w hg hb hW hkv hnd hlen hsz=>by
 obtain ⟨D0,hown,hperm,hsize⟩:=Zp3 (P:=prog) (k:=9) underlying9 hb hW hkv hnd hlen hsz
 have hseq:SeqGives Fence.wide 2 prog 181 #[.pointer (some ⟨g,0,none⟩)] encStr (fun ss=>ss.Perm (strKeys D0)) (Maps.size D0) w:=
  AnyZ.keys_gives (ρ:=Tryz.keysA_ren) {Tryz.keysA with} Fence.wide _ trivial rfl oM g b _ D0 w (KP hg) (by simp [World.cell?,hg]) hown
 have cS:=AnyZ.sorted_in (ρ:=Tryz.sortedA_ren) Tryz.sortedA Fence.wide 5 trivial trivial trivial trivial rfl oM (Zrw _) call180 181 #[.pointer (some ⟨g,0,none⟩)] trivial call181 _ _ (by rw [hsize];unfold maxLen;omega) (by rw [hsize];omega) _ hseq
 refine (callsIn_wide.1 cS).mono ?_
 rintro e w' ⟨v,ss,rfl,hS,hrow,_,hbel⟩
 have hp:=hS.trans hperm
 refine ⟨v,rfl,?_,hbel⟩
 have e1:(ss.mergeSort fun x y=>decide (x<=y)).map encStr=(ZaX ks).map Value.string:=by
  rw [mergeSort_of_perm hp];unfold ZaX;rw [Xz];rfl
 have e2:ss.length=ks.length:=by rw [hp.length_eq,Xc]
 rw [e1,e2] at hrow
 exact hrow
def Zhl:MpT prog 162 9 4 .string (.bool false):=⟨underlying162,underlying9, .inl rfl,by show ZeroT _ _ _;unfold ZeroT;kernel_rfl⟩
noncomputable def evA (l:List Var):List BA:=colS [] (l.flatMap (·.acts))
noncomputable def evX (l:List Var):List BA×Int:=if validVars l=true then (if (evA l).length<=40 then (ZaX (evA l),0) else ([],5)) else ([],1)
def Zln (ks:List BA):(skv (CL ks)).length=ks.length:=by unfold skv CL;rw [Xc,Xc]
def ZfS (e n:Nat) (l:List BA) (h:n=l.length):share (.own e 1 n (l.map Zv))=ZW l:=by
 subst h
 rw [share,YI,Xz];rfl
def ZiV (l:List Var) (s:BA):s∈evA l↔∃x∈l,s∈x.acts:=by
 unfold evA
 rw [ZfO,Um]
 exact ⟨fun h=>h.elim (fun h=>by cases h) id, .inr⟩
def Zn8 (l:List Var):(evA l).Nodup:=ZiU _ _ List.nodup_nil
def ZiW {l:List Var} (h:validVars l=true):(evA l).length=(makeM l).a.length:=by
 have hp:(evA l).Perm ((makeM l).a.map (·.1)):=(U5 (Zn8 l) (Rm h)).2 fun s=>by rw [ZiV,Dk]
 rw [hp.length_eq,Xc]
def Zn9 (l:List Var) (hf:Do l):AF prog 76 [Z1 l] (· = .tup [ZW (evX l).1,Zb (evX l).2]):=by
 refine AF.b1 36 func76 rfl ntmps76 (Xa rfl) fun w0 M0 v0 _=>?_
 refine Jx ?_;refine ZN ?_;refine cV (cA call9 (GZ l hf)) ?_;refine Wl ?_ ?_<;>intro hb11
 . (
 refine ZU ?_;refine YO (Ps (t:=2) rfl) fun _=>?_;refine Y7 results76 rfl rfl ?_;rw [show evX l=([],1) by unfold evX;rw [Qb (by simpa using hb11)]];rfl)
 (have hv:validVars l=true:=by simpa using hb11);have hnd:=Zn8 l;have hl0:=hf.1;have hks:∀s∈evA l,s.size<=140737488355328:=fun s hs=>by
  obtain ⟨x,hx,h⟩:=(ZiV l s).1 hs;exact (hf.2 x hx).1.2 s h
 refine Zi ?_;refine S6 12 fun h12 ho12=>?_;refine ZP ?_;refine Zq (ZM (l:=12) 1000 rfl rfl) fun _=>?_;refine Zo ?_;refine xL 13 Za (xL 14 (Zs Zy) (xL 15 Za ?_));refine Zw ?_;refine Yq (ι:={q:Nat×List BA//q.1<=l.length/\q.2=colS [] ((l.take q.1).flatMap (·.acts))}) (fun k=>⟨[(4,_,_),(13,_,_),(14,_,_),(15, .int .i64 k.1.1,Zb k.1.1)],[(1000,h12, .omap (skv (CL k.1.2)))]⟩) (fun k=>l.length-k.1.1) ⟨(0,[]),Xg _,rfl⟩ ?_;rintro ⟨⟨i,K⟩,hi,hK⟩;dsimp only;dsimp only at hi hK;refine Yy ?_ ?_<;>intro hb16
 . (
 obtain ⟨x,hx⟩:=gS l i;have e1:=Wr Z0 l i x hx;have e2:=W9 Z0 hx;have hx0:=(hf.2 x (Xb hx)).1.1;refine Zi ?_;refine xM (Ze Zy) ?_;refine yU (Wn G6) fun v18=>?_;refine Zt [(.slice none 0 0),(.int .i64 0)] 2 6 Ei fun h6=>?_;refine Zp 6 G6 ?_;refine Ym ?_;refine xM (Zc 6 Z8) ?_;refine yU (Zh 6 ZF) fun v20=>?_;refine xL 21 (Zs Zm) (xL 22 Za ?_);refine Zw ?_;refine Yq (ι:={q:Nat×List BA//q.1<=x.acts.length/\q.2=colS K (x.acts.take q.1)}) (fun k=>⟨[(4,_,_),(13,_,_),(14,_,_),(15,_,_),(20,_,_),(21,_,_),(22, .int .i64 k.1.1,Zb k.1.1)],[(1000,h12, .omap (skv (CL k.1.2)))]⟩) (fun k=>x.acts.length-k.1.1) ⟨(0,K),Xg _,rfl⟩ ?_;rintro ⟨⟨j,K2⟩,hj,hK2⟩;dsimp only;dsimp only at hj hK2;refine Yy ?_ ?_<;>intro hb23
 . (
 obtain ⟨s,hs⟩:=gS x.acts j;have e3:=Yh (f:=Zv) hs;refine Zi ?_;refine xM (Ze Zm) ?_;refine yV (Zu ZB) ?_;refine ZX ?_;refine ZO ?_;refine Pj 1000 Zhl ?_;rw [Zn5];refine Ym ?_;refine KI ?_;refine Yr (
  ⟨(j+1,setK K2 s),Zd hs,by dsimp only;rw [Z2 hs,ZfP,<-hK2];rfl⟩
  ))
 refine ZU ?_;refine Yr (
  ⟨(i+1,K2),Zd hx,by dsimp only;rw [Z2 hx,XY,ZfP,<-hK,UC,hK2,Xt oM]⟩
  ))
 (obtain rfl:K=evA l:=by rw [hK,Xt oM];rfl);have hKl:=Zln (evA l);refine nav ?_;refine Zq (En.freeze (l:=1000) (t:=4) rfl rfl) fun _=>?_;refine Zo ?_;refine xL 30 Za (xL 31 (ZqP underlying162) (xL 32 Jw ?_));refine ZE ?_ ?_<;>intro hb32
 . (
 refine ZU ?_;refine YO (Ps (t:=2) rfl) fun _=>?_;refine Y7 results76 rfl rfl ?_;rw [show evX l=([],5) by unfold evX;rw [Qc hv,Qb oM]];rfl)
 refine Wp ?_;refine Zru (k1:=181) (t:=162) 34 Zr3 call119 (fun g34 b34 c34 es34 hkv34 hWf34=>?_);refine Zlm (ks:=evA l) 34 35 Zn7 call118 (fun h=>h) hWf34 hkv34.symm hnd oM hks (fun v35 ho35=>?_);refine KI ?_;refine YO (En.freeze (l:=35) (t:=2) rfl rfl) fun _=>?_;refine Y7 results76 rfl rfl ?_;rw [ZfS _ _ _ (show (evA l).length=(ZaX (evA l)).length from (Zn6 _).symm),show evX l=(ZaX (evA l),0) by unfold evX;rw [Qc hv,Qc oM]]
noncomputable def dX (l:List Var) (t:Nd):PV×Int:=if validVars l=true then (if (evA l).length<=40 then (if Gc t=true then (if Gc (Yt t)=true then (pTr (Yt t),0) else (GO,5)) else (GO,5)) else (GO,5)) else (GO,1)
noncomputable def dN (l:List Var) (t:Nd):Nd:=if validVars l=true then (if (evA l).length<=40 then (if Gc t=true then (if Gc (Yt t)=true then Yt t else nd0) else nd0) else nd0) else nd0
def Zqz (l:List Var) (t:Nd):Rr (dX l t).1 (pTr (dN l t)):=by
 unfold dX dN
 split
 . split
   . split
     . split
       . exact Rr.rfl' _
       exact TJ
     exact TJ
   exact TJ
 exact TJ
def ZqA (l:List Var) (t:Nd):shD (.tup [(dX l t).1,Zb (dX l t).2])=true:=by
 unfold dX
 split
 . split
   . split
     . split<;>rfl
     rfl
   rfl
 rfl
def Zrx (l:List Var) (t:Nd):FitT (dN l t):=by
 unfold dN
 split
 . split
   . split
     . rename_i h;split
       . exact T9 (ζx h) (by have:=ζy h;omega)
       exact Rc
     exact Rc
   exact Rc
 exact Rc
def Zr4 {l:List Var} {t:Nd} (h:validVars l=false):dX l t=(GO,1):=by unfold dX;rw [h,Qb dC]
def Zr5 {l:List Var} {t:Nd} (hv:validVars l=true) (h:40<(evA l).length):dX l t=(GO,5):=by unfold dX;rw [Qc hv,Qb oM]
def Zr6 {l:List Var} {t:Nd} (hv:validVars l=true) (h:(evA l).length<=40) (ht:Gc t=false):dX l t=(GO,5):=by unfold dX;rw [Qc hv,Qc h,ht,Qb dC]
def Zr7 {l:List Var} {t:Nd} (hv:validVars l=true) (h:(evA l).length<=40) (ht:Gc t=true) (hn:Gc (Yt t)=false):dX l t=(GO,5):=by unfold dX;rw [Qc hv,Qc h,Qc ht,hn,Qb dC]
def Zry {l:List Var} {t:Nd} (hv:validVars l=true) (h:(evA l).length<=40) (ht:Gc t=true) (hn:Gc (Yt t)=true):dX l t=(pTr (Yt t),0):=by unfold dX;rw [Qc hv,Qc h,Qc ht,Qc hn]
def Zrz {l:List Var} (hv:validVars l=true):((evA l).length<=40/\(evX l).2=0)\/(40<(evA l).length/\(evX l).2=5):=by
 unfold evX
 rw [Qc hv]
 by_cases h:(evA l).length<=40
 . rw [Qc h];exact .inl ⟨h,rfl⟩
 rw [Qb h];exact .inr ⟨oM,rfl⟩
def Zp4 {t:Nd} (h:Gc t=true):(Gc (Yt t)=true/\ZeH t=Yt t/\(TM t).2=0)\/(Gc (Yt t)=false/\ZeH t=nd0/\(TM t).2=5):=by
 unfold ZeH TM
 rw [Qc h,Qc h]
 cases h2:Gc (Yt t) with
 |true=>rw [Qc rfl,Qc rfl];exact .inl ⟨rfl,rfl,rfl⟩
 |false=>rw [Qb dC,Qb dC];exact .inr ⟨rfl,rfl,rfl⟩
def ZaY (l :List Var) (t:Nd) (hf:Do l) (hl:l.length<=1000000) (hF:FitT t) (hT:validVars l=true->(evA l).length<=40->AF prog 77 [Z1 (Y6 l)] (· = .tup [pTr t,Zb 0])):AF prog 24 [Z1 l] (· = .tup [(dX l t).1,Zb (dX l t).2]):=by
 have e0:∀u:Nd,pTr u= .agg [Zb u.op,Zv u.act,YN u.l]:=fun _=>rfl
 refine AF.b1 50 func24 rfl ntmps24 (Xa rfl) fun w0 M0 v0 _=>?_
 refine Zi ?_
 refine Zt zT 3 2 Yp fun h2=>?_;refine Jy ?_;refine cV (cA call9 (GZ l hf)) ?_;refine Wl ?_ ?_<;>intro hb11
 . (
 refine Zi ?_;refine xM (ZC YU) ?_;refine Zp 2 Zk ?_;refine ZP ?_;refine Yb (k:=3) 2 kR results24 rfl rfl rfl (Xa rfl) dC rfl ?_;rw [Zr4 (by simpa using hb11)];rfl)
 (have hv:validVars l=true:=by simpa using hb11);have hA:=Zn9 l hf;have hor:=Zrz hv;obtain ⟨⟨ks,e⟩,hE⟩:∃y,y=evX l:=⟨_,rfl⟩;rw [<-hE] at hA hor;dsimp only at hA hor;refine Wp ?_;refine cP 15 (cA call76 hA) fun va15 vb15 hva15 hvb15=>?_;cases hvb15;refine Sx ?_;refine WZ ?_ ?_<;>intro hb19
 . (
 obtain ⟨h40,rfl⟩:40<(evA l).length/\e=5:=oM;refine Zi ?_;refine xL 20 (ZC YU) (xL 21 Za ?_);refine Zp 2 Zk ?_;refine ZP ?_;refine Yb (k:=3) 2 kR results24 rfl rfl rfl (Xa rfl) dC rfl ?_;rw [Zr5 hv h40];rfl)
 have h40:(evA l).length<=40:=oM;have hTt:=hT hv h40;rw [e0] at hTt;refine Wp ?_;refine cU (cA call78 (ZiS l hl)) fun v24=>?_;refine cP 25 (cA call77 hTt) fun va25 vb25 hva25 hvb25=>?_;cases hvb25;refine Y1 ?_;refine Zt zT 3 6 Yp fun h6=>?_;refine Zp 6 Zk ?_;refine Jy ?_;refine xL (v:= .bool false) (p:= .val (.bool false)) 29 (LY (a:=0) (b:=0)) ?_;refine Zw ?_;refine cCf ?_;refine Zi ?_;refine yU (Zn 6 Zk) fun v32=>?_;refine cV (cA call79 (Hj t hF)) ?_;refine Wl ?_ ?_<;>intro hb34
 . (
 refine Zi ?_;refine xM (ZC YU) ?_;refine Zp 2 Zk ?_;refine ZP ?_;refine Yb (k:=3) 2 kR results24 rfl rfl rfl (Xa rfl) dC rfl ?_;rw [Zr6 hv h40 (by simpa using hb34)];rfl)
 (have hvt:Gc t=true:=by simpa using hb34);have hN:=(Zgs t hF).reread (Zpe t) (Hq (Zpd t));have hfn:=ZmM hF;have hnr:=Zp4 hvt;obtain ⟨n,hn⟩:∃n,n=ZeH t:=⟨_,rfl⟩;obtain ⟨e2,he2⟩:∃n,n=(TM t).2:=⟨_,rfl⟩;rw [<-hn,<-he2] at hN hnr;rw [<-hn] at hfn;rw [e0 n] at hN;refine Zi ?_;refine yU (Zn 6 Zk) fun v37=>?_;refine cP 38 (cA call80 hN) fun va38 vb38 hva38 hvb38=>?_;cases hvb38;refine Y1 ?_;refine Zt zT 3 8 Yp fun h8=>?_;refine Zp 8 Zk ?_;refine ZX ?_;(refine Y1 ?_<;>(refine bLd 43 (fun hb43=>?_) (fun hb43=>?_)<;>(first|refine kL ?_|refine yU (Zn 8 Zk) fun v44=>?_))<;>(first|refine kL ?_|(refine cV (cA call79 (Hj n hfn)) ?_))<;>refine kZ ?_<;>refine ZN ?_<;>refine Zw ?_)<;>(
 refine cX ?_ ?_<;>intro hb47
 . (
 refine Zi ?_;refine xM (ZC YU) ?_;refine Zp 2 Zk ?_;refine ZP ?_;refine Yb (k:=3) 2 kR results24 rfl rfl rfl (Xa rfl) dC rfl ?_;rw [Zr7 hv h40 hvt (hnr.elim (fun h=>Qd h.1 (by rw [<-h.2.1];first|(exfalso;exact hb43 h.2.2)|(simpa using hb47))) fun h=>h.1)];rfl)
 . first|exact bN hb47|(
 refine Zi ?_;refine yU (Zn 8 Zk) fun v49=>?_;refine Zp 2 Zk ?_;refine ZP ?_;refine Yb (k:=3) 2 kR results24 rfl rfl rfl (Xa rfl) dC rfl ?_;obtain ⟨h8,rfl,_⟩:Gc (Yt t)=true/\n=Yt t/\e2=0:=hnr.resolve_right fun h=>Qd h.2.2 (by have:=hb43;omega);rw [Zry hv h40 hvt h8];rfl))
def Zoa (l:List Var):sumV (fun x=>x.acts.length) (Y6 l)=sumV (fun x=>x.acts.length) l:=by
 unfold sumV Y6
 rw [Xz];rfl
def Zdv (l:List Var) (hl:l.length<=1000000) (hb:K' l=none) (h1:∀x l',l=x::l'->(x.acts=[]->AF prog 81 [Z1 l'] (· = .tup [GO,Zb 5]))/\(x.acts≠[]->AF prog 124 [Z1 (Y6 l)] (· = .tup [Jb g0,Zb 5]))):AF prog 81 [Z1 l] (· = .tup [GO,Zb 5]):=by
 have hB:=(Zcr l).reread (ZaS l) (EX l)
 rw [hb] at hB
 dsimp only [Option.getD,Option.isSome] at hB
 refine AF.b1 128 func81 rfl ntmps81 (Xa rfl) fun w0 M0 v0 _=>?_
 refine Zi ?_
 refine Zt zT 3 2 Yp fun h2=>?_;refine Jy ?_;refine cP 21 (cA call32 hB) fun va21 vb21 hva21 hvb21=>?_;cases hvb21;refine Y1 ?_;refine Zt zT 3 4 Yp fun h4=>?_;refine Zp 4 Zk ?_;refine KA ?_
 refine cCf ?_
 obtain ⟨x,l',rfl⟩:∃x l',l=x::l':=by cases l with|nil=>cases hb|cons x l'=>exact ⟨x,l',rfl⟩
 obtain ⟨h2,h3⟩:=h1 x l' rfl
 have e1:((x::l').flatMap Wo)[0*2+0]? =some (ZW x.acts):=rfl
 have e3:0<(x::l').length:=Va _
 have hcl:((x::l').flatMap Wo).length=(x::l').length*2:=Ya Z0 _
 refine Zi ?_
 refine xL 26 Za (xL 27 (Ze Zy) (xL 28 (Yn Z8) ?_));refine yU (Zu ZF) fun v29=>?_;refine xL 30 (Zs Zm) (xL 31 Ky ?_);refine ZE ?_ ?_<;>intro hb31
 . (
 have hT1:=h2 (Xv oM);unfold GO at hT1;refine Wp ?_;refine xM (Wd (i:=1) (j:=(x::l').length) Zy rfl rfl rfl rfl (Va _) (Xd _) hcl) ?_;refine Zz (Ke (t:=34) (p':=Z1 l') rfl (EY x l')) fun _=>?_;refine cP 35 (cA call81 hT1) fun va35 vb35 hva35 hvb35=>?_;cases hvb35;refine Y1 ?_;refine Zt zT 3 6 Yp fun h6=>?_;refine Zp 6 Zk ?_;refine Jy ?_;refine xL (v:= .bool true) (p:= .val (.bool true)) 39 (LY (a:=5) (b:=0)) ?_;refine Zw ?_;refine cCt ?_;refine Zi ?_;refine xL 40 (ZC YU) (xL 41 Za ?_);refine Zp 2 Zk ?_;refine ZP ?_;exact Yb (k:=3) 2 kR results81 rfl rfl rfl (Xa rfl) dC rfl rfl)
 have hM:=h3 (fun h=>hb31 (by rw [h];rfl));refine Wp ?_;refine cU (cA call125 (EW (x::l') hl)) fun v48=>?_;refine cP 49 (cA call124 hM) fun va49 vb49 hva49 hvb49=>?_;cases hvb49;refine Y1 ?_;refine Zt [(.slice none 0 0),(.slice none 0 0),(.slice none 0 0),(.slice none 0 0)] 4 8 JN fun h8=>?_;refine Zp 8 Yu ?_;refine Jy ?_;refine xL (v:= .bool true) (p:= .val (.bool true)) 53 (LY (a:=5) (b:=0)) ?_;refine Zw ?_;refine cCt ?_;refine Zi ?_;refine xL 54 (ZC YU) (xL 55 Za ?_);refine Zp 2 Zk ?_;refine ZP ?_;exact Yb (k:=3) 2 kR results81 rfl rfl rfl (Xa rfl) dC rfl rfl
def ZfT (l:List Var):evA (Y6 l)=evA l:=by
 unfold evA Y6
 rw [List.flatMap_map]
def Zp5 {x:Var} (hx:x.acts=[]) (l:List Var):evA (x::l)=evA l:=by
 unfold evA
 rw [Xr,hx];rfl
def Zhm (l:List Var):(evA l).length<=(l.flatMap (·.acts)).length:=by
 have:=ZfQ (l.flatMap (·.acts)) []
 rw [Xy,XA] at this
 exact this
def Zob {l:List Var} {u:Nd} (h:K' l=some u):(evA l).length<=1:=by
 have h1:=Zhm l
 match l,h,h1 with
 |[],_,h1=>exact XK h1 dC
 | [x],h,h1=>
   unfold K' at h;dsimp only at h;rw [Xr,XT,Xo] at h1;match hx:x.acts with
   |[]=>rw [hx] at h1;exact XK h1 dC
   |[s]=>rw [hx] at h1;exact h1
   |_::_::_=>rw [hx] at h;cases h
def ZfU:∀(l:List Var),validVars l=true->40<(evA l).length->AF prog 81 [Z1 l] (· = .tup [GO,Zb 5]):=fun l=>by
 induction l with
 | nil=>
   intro _ h;have h1:(evA ([]:List Var)).length<=0:=Zhm [];exact Qd h oM
 | cons x l ih=>
   intro hv h;have hlen:=Sq hv;have hb:K' (x::l)=none:=by
    cases hb:K' (x::l) with
    |none=>rfl
    |some u=>exact Qd h (by have:=Zob hb;omega)
   refine Zdv (x::l) oM hb fun y m e=>?_
   cases e;refine ⟨fun hx=>ih (ZaU hv) (by rw [<-Zp5 hx l];exact h),fun hx=>?_⟩;have hvo:=Rl hv;have hoko:=SU hvo;have hfit:Do (Y6 (x::l)):=⟨by rw [Lv];omega,fun y hy=>Pb (hoko y hy)⟩;exact C4 (Zci (Y6 (x::l)) hfit) (.inr (.inl ⟨hvo,by rw [<-ZiW hvo,ZfT];exact h,rfl,rfl⟩))
def Zhn (l:List Var) (t:Nd) (hf:Do l) (hF:FitT t) (hT:validVars l=true->(evA l).length<=40->AF prog 81 [Z1 l] (· = .tup [pTr t,Zb 0])):AF prog 25 [Z1 l] (· = .tup [(dX l t).1,Zb (dX l t).2]):=by
 have e0:∀u:Nd,pTr u= .agg [Zb u.op,Zv u.act,YN u.l]:=fun _=>rfl
 refine AF.b1 27 func25 rfl ntmps25 (Xa rfl) fun w0 M0 v0 _=>?_
 refine Zi ?_
 refine Zt zT 3 2 Yp fun h2=>?_;refine Jy ?_;refine cV (cA call31 (Tp l hf)) ?_;refine Wl ?_ ?_<;>intro hb8
 . (
 refine Zi ?_;refine xM (ZC YU) ?_;refine Zp 2 Zk ?_;refine ZP ?_;refine Yb (k:=3) 2 kR results25 rfl rfl rfl (Xa rfl) dC rfl ?_;rw [Zr4 (by simpa using hb8)];rfl)
 (have hv:validVars l=true:=by simpa using hb8);obtain ⟨u,e,hu,huF,hue⟩:∃(u:Nd) (e:Int),AF prog 81 [Z1 l] (· = .tup [pTr u,Zb e])/\FitT u/\(((evA l).length<=40/\e=0/\u=t)\/(40<(evA l).length/\e=5)):=by
  by_cases h40:(evA l).length<=40
  . exact ⟨t,0,hT hv h40,hF, .inl ⟨h40,rfl,rfl⟩⟩
  exact ⟨nd0,5,(ZfU l hv oM).reread rfl (Hq TJ),Rc, .inr ⟨oM,rfl⟩⟩
 rw [e0] at hu;refine Wp ?_;refine cP 12 (cA call81 hu) fun va12 vb12 hva12 hvb12=>?_;cases hvb12;refine Y1 ?_;refine Zt zT 3 4 Yp fun h4=>?_;refine Zp 4 Zk ?_;refine ZX ?_;refine WZ ?_ ?_<;>intro hb16
 . (
 obtain ⟨h40,rfl⟩:40<(evA l).length/\e=5:=oM;refine Zi ?_;refine xL 17 (ZC YU) (xL 18 Za ?_);refine Zp 2 Zk ?_;refine ZP ?_;refine Yb (k:=3) 2 kR results25 rfl rfl rfl (Xa rfl) dC rfl ?_;rw [Zr5 hv h40];rfl)
 obtain ⟨h40,_,hut⟩:=hue.resolve_right (fun h=>oM);refine Zi ?_;refine yU (Zn 4 Zk) fun v19=>?_;refine cV (cA call82 (OQ u huF)) ?_;refine Wl ?_ ?_<;>intro hb21
 . (
 refine Zi ?_;refine xM (ZC YU) ?_;refine Zp 2 Zk ?_;refine ZP ?_;refine Yb (k:=3) 2 kR results25 rfl rfl rfl (Xa rfl) dC rfl ?_;rw [Zr6 hv h40 (by rw [<-hut];simpa using hb21)];rfl)
 (have hvt:Gc t=true:=by rw [<-hut];simpa using hb21);have hN:(Gc (Yt t)=true/\AF prog 83 [pTr u] (· = .tup [pTr (Yt t),Zb 0]))\/(Gc (Yt t)=false/\AF prog 83 [pTr u] (· = .tup [GO,Zb 5])):=by
  have h:=Zgv u huF;rw [hut] at h ⊢;unfold TM at h;rw [Qc hvt] at h
  cases h2:Gc (Yt t) with
  |true=>rw [h2,Qc rfl] at h;exact .inl ⟨rfl,h⟩
  |false=>rw [h2,Qb dC] at h;exact .inr ⟨rfl,h⟩
 rw [e0 (Yt t)] at hN;unfold GO at hN;refine Zi ?_;(refine yU (Zn 4 Zk) fun v23=>?_<;>(rcases hN with ⟨hd,hN⟩|⟨hd,hN⟩<;>(refine cP 24 (cA call83 hN) fun va24 vb24 hva24 h=>?_;cases h))<;>refine ZO ?_<;>refine Zp 2 Zk ?_<;>refine ZN ?_<;>refine Zw ?_)<;>(
 refine Yb (k:=3) 2 kR results25 rfl rfl rfl (Xa rfl) dC rfl ?_
 first
  |(rw [Zry hv h40 hvt hd];rfl)
  |(rw [Zr7 hv h40 hvt hd];rfl))
def ZrA:ZnZ:=fun l c hV hF h40 hs hfl=>Zhk l c hV hF oM hs hfl
def Zlo (w:World) (l:List Var) (hf:Do l) (hl:l.length<=1000) (hfew:sumV (fun x=>x.acts.length) l<=300):∃(u:Nd) (e:Int),AF prog 24 [Z1 l] (· = .tup [pTr u,Zb e])/\AF prog 25 [Z1 l] (· = .tup [pTr u,Zb e])/\FitT u:=by
 have key:∃t,FitT t/\(validVars l=true->(evA l).length<=40->AF prog 77 [Z1 (Y6 l)] (· = .tup [pTr t,Zb 0])/\AF prog 81 [Z1 l] (· = .tup [pTr t,Zb 0])):=by
  by_cases h:validVars l=true/\(evA l).length<=40
  . obtain ⟨hv,h40⟩:=h;have hvo:=Rl hv;have hG:GoodL (Y6 l):=⟨hvo,fun v hv=>by
     unfold Y6 at hv;obtain ⟨x,_,rfl⟩:=Xp.1 hv;rfl,by rw [Zoa];exact hfew,by rw [<-ZiW hvo,ZfT];exact h40⟩
    obtain ⟨t,h1,h2,h3⟩:=ZpV w ZrA (Zbf (Y6 l)+1) l (UK _) hv hG;exact ⟨t,h3,fun _ _=>⟨h1,h2⟩⟩
  exact ⟨nd0,Rc,fun h1 h2=>Qd ⟨h1,h2⟩ h⟩
 obtain ⟨t,hF,hT⟩:=key
 exact ⟨dN l t,(dX l t).2,(ZaY l t hf oM hF fun h1 h2=>(hT h1 h2).1).reread (ZqA l t) (Hq (Zqz l t)),(Zhn l t hf hF fun h1 h2=>(hT h1 h2).2).reread (ZqA l t) (Hq (Zqz l t)),Zrx l t⟩
section
variable {P:Program} {o:Oper} {st:St}
end
def PS (op:Int):BA:=if op=3 then ⟨#[115,101,113]⟩ else if op=4 then ⟨#[120,111,114]⟩ else if op=5 then ⟨#[97,110,100]⟩ else ⟨#[108,111,111,112]⟩
def Zcw (op:Int):(PS op).data.toList.length<=4:=by
 unfold PS
 split
 . decide
 split
 . decide
 split<;>decide
def OH:List (List UInt8)->List UInt8
 |[]=>[]
 |[x]=>x
 |x::y::m=>x++[44,32]++OH (y::m)
def Zcx (x:List UInt8):∀m:List (List UInt8),OH (m++[x])=OH m++(if m=[] then [] else [44,32])++x
 |[]=>by simp [OH]
 |[y]=>by simp [OH]
 | y::z::m=>by
   have:=Zcx x (z::m);simp only [Vd] at this ⊢;rw [OH,this,OH];simp
mutual
def L4:Nd->List UInt8
 | .mk o a l=>if o=1 then a.data.toList else if o=2 then [40,41] else (PS o).data.toList++[40]++OH (LV l)++[41]
def LV:List Nd->List (List UInt8)
 |[]=>[]
 |x::l=>L4 x::LV l
end
def ZaZ (l:List Nd):LV l=l.map L4:=by
 induction l with
 |nil=>rfl
 |cons x l ih=>rw [LV,ih];rfl
def Za0 (m:List (List UInt8)) (n:List Nat) (h:m.map List.length=n):(OH m).length<=n.sum+2*n.length:=by
 subst h
 match m with
 |[]=>simp [OH]
 |[x]=>simp [OH]
 | x::y::m=>
   have:=Za0 (y::m) _ rfl;rw [OH];simp only [Xf,Xm,VT,Xi,Xy,Xc] at this ⊢;omega
def ZfV:∀t:Nd,okT t=true->(L4 t).length+2<=50*szT t:=Nd.ind fun o a l ih hok=>by
 obtain ⟨hr,hp⟩:=JU.1 hok
 have h40:=Zet hr
 simp only [Nd.l,Nd.act] at hp h40
 have h1:(a.data.toList).length=a.size:=X'
 have h2:((LV l).map List.length).sum+2*((LV l).map List.length).length<=50*szL l:=by
  clear hok hr;induction l with
  |nil=>simp [LV]
  | cons x l ih2=>
    have h3:=ih x (Xu ..) (hp x (Xu ..));have h4:=ih2 (fun y hy=>ih y (Xs _ hy)) (fun y hy=>hp y (Xs _ hy));rw [LV,szL];simp only [Xm,VT,Xi,Xc] at h4 ⊢;omega
 have h3:=Za0 (LV l) _ rfl
 have h4:=Zcw o
 rw [L4,szT]
 split
 . omega
 split
 . simp only [Xi,Xy];omega
 simp only [Xf,Xi,Xy];omega
def Zho {l:List Nd} {k:Nat} {x:Nd} (h:l[k]? =some x):OH (LV (l.take (k+1)))=OH (LV (l.take k))++(if k=0 then [] else [44,32])++L4 x:=by
 rw [Z2 h,ZaZ,XW,Xm,Vw,Zcx,<-ZaZ]
 have hk:=Zd h
 by_cases h0:k=0
 . subst h0;rfl
 rw [Qb h0,Qb];intro he;have:=congrArg List.length he;rw [ZaZ,Xc,XE,Xy] at this;omega
def Zlp {l:List Nd} (hp:∀x∈l,okT x=true) (k:Nat):(OH (LV (l.take k))).length<=50*szL (l.take k)/\szL (l.take k)<=szL l:=by
 have h2:∀m:List Nd,(∀x∈m,okT x=true)->((LV m).map List.length).sum+2*((LV m).map List.length).length<=50*szL m:=fun m=>by
  induction m with
  |nil=>intro _;simp [LV]
  | cons x m ih2=>
    intro hm;have h3:=ZfV x (hm x (Xu ..));have h4:=ih2 (fun y hy=>hm y (Xs _ hy));rw [LV,szL];simp only [Xm,VT,Xi,Xc] at h4 ⊢;omega
 have h3:=Za0 (LV (l.take k)) _ rfl
 have h4:=h2 (l.take k) fun x hx=>hp x (V7 hx)
 have h5:szL (l.take k)<=szL l:=by
  conv=>rhs;rw [<-Vy k l]
  rw [G4];omega
 exact ⟨oM,h5⟩
end Go.Proofs.YtmkojdfiadbeeaaGreat
namespace Go.En
open Go.RowKit Go.Cb
section
variable {P:Program} {c:Ctx} {Q:Exit->Act->World->Prop} {sL hP:List (Nat×Ent)}
end
section
variable {P:Program} {st:St} {o:Oper} {x y:Operand} {q q':PV} {t t':TypeId}
end
section
variable {P:Program}
end
variable {P:Program} {c:Ctx} {ops:Array Oper} {Q:Exit->Act->World->Prop} {rest:List Oper} {sL hP:List (Nat×Ent)} {o:Oper}
section
variable {P:Program} {ops:Array Oper} {Q:Exit->Act->World->Prop} {Pp:List PanicEntry->World->Prop} {md:Region.Mode} {C:World->Prop} {Z:Nat->Bool}
end
section
variable {P:Program} {c:Ctx} {ops:Array Oper} {Q:Exit->Act->World->Prop} {Pp:List PanicEntry->World->Prop} {Z:Nat->Bool} {K:List Nat} {fuel:Nat} {listed:Array Bool} {sL hP:List (Nat×Ent)} {o:Oper}
end
section
variable {P:Program} {st:St} {o:Oper} {x y:Operand} {q q':PV} {t t':TypeId}
def ZrB {a b:BA} (ho:o.op= .binOp .add t x y t':=by exact rfl) (hx:ev st.slots x=some (.string a,q):=by exact rfl) (hy:ev st.slots y=some (.string b,q'):=by exact rfl) (hs:(a.size:Int)+b.size<=9223372036854775807:=by omega):YE P st o (· = .string (a++b)) (.val (.string (a++b))):=
 y2 hx hy fun ρ w h3 h4=>by simp [execOp,ho,h3,h4,eqGuard,binOp,Op.stringOp];omega
end
end Go.En
namespace Go.Proofs.YtmkojdfiadbeeaaGreat
open Go.RowKit Go.Cb Go.En Tryz
def bst (l:List UInt8):BA:=⟨l.toArray⟩
def ZiX (s:BA):bst s.data.toList=s:=by cases s;simp [bst]
def Za1 (l:List UInt8):(bst l).size=l.length:=by simp [bst,ByteArray.size]
structure Tk where
 kind:Int
 text:List UInt8
 n:Int
 ln:Int
 col:Int
def syms:List (List UInt8):=[[45,62],[61,62],[60,61],[62,61],[33,61],[61,61],[58,61],[46,46],[40],[41],[91],[93],[123],[125],[44],[59],[58],[46],[124],[38],[33],[63],[43],[45],[42],[47],[61],[60],[62],[64],[37],[94],[126]]
inductive Lt where
 |ok (n:Nat) (t:List UInt8)
 |err (e:Int)
inductive Lx where
 |ok (kind:Int) (text:List UInt8) (n:Int) (len:Nat)
 |err (e:Int)
structure LexOk (l:List UInt8) (kd:Int) (tx:List UInt8) (n:Int) (len:Nat):Prop where
 le:len<=l.length
 endk:l=[]↔kd=5
 pos:l≠[]->1<=len
 tlen:tx.length<=len
 lo:0<=n
 hi:n<=4503599627370496
def EndL (l:List Tk):Prop:=∃a e,l=a++[e]/\e.kind=5/\∀x∈a,x.kind≠5
structure TkOk (t:Tk):Prop where
 text:t.text.length<=16384
 lo:0<=t.n
 hi:t.n<=4503599627370496
inductive Rd where
 |ok (t:Nd) (m:List Tk)
 |err (t:Tk)
structure RdOk (m:List Tk) (t:Nd) (m2:List Tk):Prop where
 lt:m2.length<m.length
 suf:m2<:+m
 endl:EndL m2
def OI:FldT prog 51 0 0=true:=kR
def ZfW:FldT prog 51 1 1=true:=kR
abbrev pB (l:List UInt8):PV:=Zv (bst l)
def ZfX (t:Nd):BA×Int:=if Gc t=true then (if 16384<(L4 t).length then (ByteArray.empty,5) else (⟨(L4 t).toArray⟩,0)) else (ByteArray.empty,1)
def Zp6 (l m:List UInt8):bst l++bst m=bst (l++m):=by
 unfold bst
 apply ByteArray.ext
 simp
def Zoc (op:Int):AF prog 178 [Zb op] (· =Zv (PS op)):=by
 refine AF.b1 10 func178 rfl ntmps178 (Xa rfl) ?_
 rintro w0 M0 _ rfl
 refine YG ?_;refine ZX ?_;refine WZ ?_ ?_<;>intro hb4
 . (
 refine ZD ?_;refine Zg results178 rfl ?_;rw [PS,Qc (by assumption)])
 refine Kj ?_ ?_<;>intro hb6
 . (
 refine ZD ?_;refine Zg results178 rfl ?_;rw [PS,Qb (by assumption),Qc (by assumption)])
 refine Kj ?_ ?_<;>intro hb8
 . (
 refine ZD ?_;refine Zg results178 rfl ?_;rw [PS,Qb (by assumption),Qb (by assumption),Qc (by assumption)])
 refine ZD ?_;refine Zg results178 rfl ?_;rw [PS,Qb (by assumption),Qb (by assumption),Qb (by assumption)]
def H4 {P:Program} {st:St} {o:Oper} {x y:Operand} {q q':PV} {t t':TypeId} (l m:List UInt8) (hs:l.length+m.length<=9223372036854775807) (ho:o.op= .binOp .add t x y t':=by exact rfl) (hx:ev st.slots x=some (.string (bst l),q):=by exact rfl) (hy:ev st.slots y=some (.string (bst m),q'):=by exact rfl):YE P st o (· = .string (bst (l++m))) (pB (l++m)):=by
 have:=ZrB (P:=P) ho hx hy (by rw [Za1,Za1];omega)
 rw [Zp6] at this
 exact this
def Zod : ∀ t :Nd,okT t=true->szT t<=1000000->AF prog 117 [pTr t] (· =pB (L4 t)):=Nd.ind fun o a l ih hok hs=>by
 have e0:pTr (.mk o a l)= .agg [Zb o,Zv a,YN l]:=rfl
 rw [e0]
 obtain ⟨hr,hp⟩:=JU.1 hok
 have hf:=OW _ hok hs
 have hsz:=SE (.mk o a l)
 simp only [Nd.l,Nd.op] at hp hsz
 have hlz:=GB l
 have hW:AF prog 178 [Zb o] (· =pB (PS o).data.toList):=by
  have:=Zoc o;rw [show pB (PS o).data.toList=Zv (PS o) by unfold pB;rw [ZiX]];exact this
 have hwl:=Zcw o
 obtain ⟨W,hWe⟩:∃W,W=(PS o).data.toList:=⟨_,rfl⟩
 rw [<-hWe] at hW hwl
 refine AF.b1 38 func117 rfl ntmps117 (Xa rfl) fun w0 M0 v0 _=>?_
 refine Zi ?_
 refine Yi 1 3 fun h1=>?_;refine ZX ?_
 refine xM (Zc 1 OI) ?_;refine yV (Zh 1 ZH) ?_;refine Wl ?_ ?_<;>intro hb7
 . (
 refine Zi ?_;refine xM (Zc 1 ZfW) ?_;refine yV (Zh 1 ZB) ?_;refine ZP ?_;refine Zg results117 rfl ?_;rw [L4,Qc (by assumption)];unfold pB;rw [ZiX])
 refine Zi ?_;refine xM (Zc 1 OI) ?_;refine yV (Zh 1 ZH) ?_;refine Wl ?_ ?_<;>intro hb12
 . (
 refine ZD ?_;refine Zg results117 rfl ?_;rw [L4,Qb (by assumption),Qc (by assumption)];rfl)
 refine Zi ?_;refine xM (Zc 1 OI) ?_;refine yV (Zh 1 ZH) ?_;refine cV (cA call178 hW) ?_;refine xM (H4 W [40] (by simp only [Xi,Xy];omega)) ?_;refine KA ?_;refine Yq (ι:={q:Nat×List UInt8//q.1<=l.length/\q.2=W++[40]++OH (LV (l.take q.1))}) (fun k=>⟨[(1,_,_),(3, .string (bst k.1.2),pB k.1.2),(4, .int .i64 k.1.1,Zb k.1.1)],[(1,_,_)]⟩) (fun k=>l.length-k.1.1) ⟨(0,W++[40]),Xg _,by rw [Uh,LV,OH,Xo]⟩ ?_;rintro ⟨⟨k,s⟩,hk,hse⟩;dsimp only;(dsimp only at hk hse;have hpl:=Zlp hp k;have hsl:s.length<=4+1+50*szL l:=by (rw [hse,Xf,Xf,XD];omega));refine Zi ?_;refine xL 17 Za (xL 18 (Zc 1 TP) ?_);refine yU (Zh 1 RV) fun v19=>?_;refine xL 20 (Zs K1) (xL 21 Yj ?_);refine ZE ?_ ?_<;>intro hb21
 . (
 obtain ⟨x,hx⟩:=gS l k;have e1:((Z9 l).drop (k*3)).take 3=[Zb x.op,Zv x.act,YN x.l]:=Ye hx;have e2:=YH hx;have hxm:=Xb hx;have hxs:=Po hxm;have hX:=ih x hxm (hp x hxm) oM;have hxl:=ZfV x (hp x hxm);have hsn:=Zho hx;refine Kj ?_ ?_<;>intro hb25
 . (
 refine Wp ?_;refine xM (H4 s [44,32] (by simp only [Xi,Xy];omega)) ?_;refine ZX ?_;refine xL 28 Za (xL 29 (Zc 1 TP) ?_);refine yU (Zh 1 RV) fun v30=>?_;refine xL 31 Za (xL 32 (Ze K1) ?_);refine yU (Wn Zk) fun v33=>?_;refine cV (cA call117 hX) ?_;refine xM (H4 (s++[44,32]) (L4 x) (by rw [Xf];simp only [Xi,Xy];omega)) ?_;refine K5 ?_
 first
  | (exact Yr (
      ⟨(k+1,s++L4 x),Zd hx,by dsimp only;rw [hsn,Qc oM,hse,Xo,XH]⟩
      ))
  | (exact Yr (
      ⟨(k+1,s++[44,32]++L4 x),Zd hx,by dsimp only;rw [hsn,Qb oM,hse];simp only [XH]⟩
      )))
 refine Zi ?_;refine xL 28 Za (xL 29 (Zc 1 TP) ?_);refine yU (Zh 1 RV) fun v30=>?_;refine xL 31 Za (xL 32 (Ze K1) ?_);refine yU (Wn Zk) fun v33=>?_;refine cV (cA call117 hX) ?_;refine xM (H4 s (L4 x) oM) ?_;refine K5 ?_
 first
  | (exact Yr (
      ⟨(k+1,s++L4 x),Zd hx,by dsimp only;rw [hsn,Qc oM,hse,Xo,XH]⟩
      ))
  | (exact Yr (
      ⟨(k+1,s++[44,32]++L4 x),Zd hx,by dsimp only;rw [hsn,Qb oM,hse];simp only [XH]⟩
      )))
 refine Wp ?_;refine xM (H4 s [41] (by simp only [Xi,Xy];omega)) ?_;refine ZP ?_;refine Zg results117 rfl ?_;rw [L4,Qb (by assumption),Qb (by assumption),hse,Xt oM,hWe]
def E0 (t:Nd) (hf:FitT t):AF prog 74 [pTr t] (· = .tup [Zv (ZfX t).1,Zb (ZfX t).2]):=by
 have e0:pTr t= .agg [Zb t.op,Zv t.act,YN t.l]:=rfl
 have hV:=OQ t hf
 have hsz:=Za1 (L4 t)
 rw [e0] at hV ⊢
 refine AF.b1 14 func74 rfl ntmps74 (Xa rfl) fun w0 M0 v0 _=>?_
 refine Zi ?_
 refine Yi 1 3 fun h1=>?_;refine J9 ?_
 refine yU (Zn 1 Zk) fun v5=>?_;refine cV (cA call82 hV) ?_;refine Wl ?_ ?_<;>intro hb7
 . (
 refine ZU ?_;refine Y7 results74 rfl rfl ?_;rw [ZfX,Qb (by simpa using hb7)];rfl)
 (have hv:Gc t=true:=by simpa using hb7);have hT:=Zod t (ζx hv) (by have:=ζy hv;omega);rw [e0] at hT;refine Zi ?_;refine yU (Zn 1 Zk) fun v8=>?_;refine cV (cA call117 hT) ?_;refine ZX ?_;refine xL 10 Za (xL 11 (P7 underlying9) (xL 12 Jw ?_));refine ZE ?_ ?_<;>intro hb12
 . (
 refine ZU ?_;refine Y7 results74 rfl rfl ?_;rw [ZfX,Qc hv,Qc oM];rfl)
 refine Y2 ?_;refine Y7 results74 rfl rfl ?_;rw [ZfX,Qc hv,Qb oM];rfl
def Zoe {α:Type} {R:α->α->Prop} {cs:List α} (h:cs.Pairwise R) (i j:Nat) (a b:α) (hij:i<j) (ha:cs[i]? =some a) (hb:cs[j]? =some b):R a b:=by
 obtain ⟨hi,rfl⟩:=Xk.1 ha
 obtain ⟨hj,rfl⟩:=Xk.1 hb
 exact XV.1 h i j hi hj hij
def Zhp {n:Nat} {R:Nat->Nat->Bool} {cs:List (List Int)} (h1:Zhg (upTo n) (relS R) cs=true) (h2:cs.Pairwise fun a b=>¬cmpSeq R b a<0):SeqCs n R cs:=⟨⟨cs,Lu h1,List.Perm.refl _⟩,Zoe h2⟩
def Zof {cs:List (List Int)} {i0:Nat} {c0:List Int} {W:List Int->Bool} {ds:List (List Int)} (hp:ds.Perm (selA i0 W true cs++[c0++(selA i0 W false cs).flatten])) (hs:(c0++(selA i0 W false cs).flatten).Pairwise fun a b=>a<=b) (ho:ds.Pairwise fun a b=>¬YK b-YK a<0):AndCs cs i0 c0 W ds:=by
 refine ⟨?_,Zoe ho⟩
 rw [List.mergeSort_of_pairwise (hs.imp fun h=>U' h)]
 exact hp
def Zp7 {n:Nat} {E:Nat->Nat->Bool} {S F:Nat->Bool} {cs:List (List Int)} (hs:(inL n S F++(cs.filter fun c=> !Gd n E S F c).flatten).Pairwise fun a b=>a<=b):Gt n E S F cs=(inL n S F++(cs.filter fun c=> !Gd n E S F c).flatten)::cs.filter (Gd n E S F):=by
 unfold Gt
 rw [List.mergeSort_of_pairwise (hs.imp fun h=>U' h)]
def Zp8 {g:Dfg} (hd:JE g=true) (hm:g.acts.length<=1000) {o:Option Cut} (h0:R3 (Rw (cnames g.acts) (cnames g.acts).length (W0 (cnames g.acts) g.follows) (Y5 (cnames g.acts) g.starts) (Y5 (cnames g.acts) g.ends)) o):AF prog 18 [Jb g] (· = .tup [JY o,Rf o]):=by
 obtain ⟨hf,ha,hs,he,hfo⟩:=Zds hd
 have hbg:=ZeV g hf ha hs he
 unfold ζ1 at hbg
 rw [hd,Qc rfl] at hbg
 have hna:(cnames g.acts).length=g.acts.length:=by simp [cnames]
 have hbg':AF prog 46 [Jb g] (· = .tup [GX (cnames g.acts) (cnames g.acts).length (W0 (cnames g.acts) g.follows) (Y5 (cnames g.acts) g.starts) (Y5 (cnames g.acts) g.ends),Zb 0]):=by rw [hna];exact hbg
 have hFd:=ζ8 g _ _ _ _ _ hbg' rfl oM
 refine hFd.mono fun p ⟨o',h1,h2⟩=>?_
 obtain rfl:o'=o:=ZaN (Q:=Rw (cnames g.acts) (cnames g.acts).length (W0 (cnames g.acts) g.follows) (Y5 (cnames g.acts) g.starts) (Y5 (cnames g.acts) g.ends)) (fun h k'=>Zcp h k') h1 h0
 exact h2
def Zcy {l:List Var} (h:validVars l=true):Do l:=⟨by have:=Sq h;omega,fun x hx=>Pb (SU h x hx)⟩
def Zhq {l:List Var} {u:Nd} (hl:l.length<=1000000) (hb:K' l=some u):AF prog 77 [Z1 l] (· = .tup [pTr u,Zb 0]):=Le l u hl (fun v h=>by rw [hb] at h;cases h;rfl) (fun x m _ h=>by rw [hb] at h;cases h)
def ZfY {x:Var} {l:List Var} {t:Nd} (hl:(x::l).length<=1000000) (hb:K' (x::l)=none) (hx:x.acts=[]) (hT:AF prog 77 [Z1 l] (· = .tup [pTr t,Zb 0])):AF prog 77 [Z1 (x::l)] (· = .tup [pTr (WP 4 [sil,t]),Zb 0]):=
 Le (x::l) _ hl (fun v h=>by rw [hb] at h;cases h) (fun y m e _=>by cases e;exact ⟨fun _=>⟨t,hT,rfl⟩,fun h=>Qd hx h⟩)
def Dm {x:Var} {l:List Var} {g:Dfg} {c:Cut} {out:List (List Var)} {ts:List Nd} (hv:validVars (x::l)=true) (hb:K' (x::l)=none) (hx:x.acts≠[]) (hm:CG (x::l) g 0) (hd:JE g=true) (hg:g.acts.length<=1000)
 (hF:R3 (Rw (cnames g.acts) (cnames g.acts).length (W0 (cnames g.acts) g.follows) (Y5 (cnames g.acts) g.starts) (Y5 (cnames g.acts) g.ends)) (some c)) (hs:∀p∈c.parts,∀s∈p,s.size<=140737488355328) (hp:c.parts.length<=1000000) (hsp:KQ (x::l) c=(out,0))
 (h1:ts.length=out.length) (h2:2<=ts.length) (h3:ts.length<=1000000) (h4:∀r∈out,r.length<=1000000) (hT:∀(i:Nat) (r:List Var) (u:Nd),out[i]? =some r->ts[i]? =some u->AF prog 77 [Z1 (Y6 r)] (· = .tup [pTr u,Zb 0])):AF prog 77 [Z1 (x::l)] (· = .tup [pTr (DZ c.kind ts),Zb 0]):=by
 have hfit:=Zcy hv
 have hM:=C4 (ZiC _ hfit) hm
 have hS:=Zfq _ c hfit hs hp
 unfold RSp at hS
 rw [hsp] at hS
 exact Le (x::l) _ (by have:=Sq hv;omega) (fun v h=>by rw [hb] at h;cases h) (fun y m e _=>by cases e;exact ⟨fun h=>Qd h hx,fun _=>⟨g,hM,oM, .inr ⟨c,out,ts,Zp8 hd hg hF,hS,h1,h2,h3,h4,hT,rfl⟩⟩⟩)
def Zdw {l:List Var} {t:Nd} (hv:validVars l=true) (hf:(l.flatMap (·.acts)).length<=40) (ho:Y6 l=l) (hF:FitT t) (ht:Gc t=true) (hn:Gc (Yt t)=true) (hT:AF prog 77 [Z1 l] (· = .tup [pTr t,Zb 0])):AF prog 24 [Z1 l] (· = .tup [pTr (Yt t),Zb 0]):=by
 have h:=ZaY l t (Zcy hv) (by have:=Sq hv;omega) hF fun _ _=>by rw [ho];exact hT
 rw [Zry hv (XK (Zhm l) hf) ht hn] at h
 exact h
section
variable {P:Program} {o:Oper} {st:St}
def Zdx {x y:Operand} {q q':PV} {t t':TypeId} {a:BA} (ho:o.op= .binOp .eql t x y t':=by exact rfl) (hx:ev st.slots x=some (.string a,q):=by exact rfl) (hy:ev st.slots y=some (.string a,q'):=by exact rfl):YE P st o (· = .bool true) (.val (.bool true)):=by
 have h:=ZlQ (P:=P) ho hx hy
 rwa [beq_self_eq_true] at h
end
def chA:BA:=⟨#[97]⟩
def chB:BA:=⟨#[98]⟩
def chC:BA:=⟨#[99]⟩
def chD:BA:=⟨#[100]⟩
def vX:List Var:=[⟨[chA,chB,chD],1⟩,⟨[chA,chC,chD],1⟩]
def vX2:List Var:=[⟨[chB],1⟩,⟨[chC],1⟩]
def vY2:List Var:=[⟨[chA,chB],1⟩,⟨[chB,chA],1⟩]
def vY:List Var:=⟨[],1⟩::vY2
def vZ:List Var:=[⟨[chA],1⟩,⟨[chA,chB,chA],1⟩]
def gX:Dfg:=⟨[⟨chA,2⟩,⟨chB,1⟩,⟨chC,1⟩,⟨chD,2⟩],[⟨chA,2⟩],[⟨chD,2⟩],[⟨chA,chB,1⟩,⟨chA,chC,1⟩,⟨chB,chD,1⟩,⟨chC,chD,1⟩]⟩
def gX2:Dfg:=⟨[⟨chB,1⟩,⟨chC,1⟩],[⟨chB,1⟩,⟨chC,1⟩],[⟨chB,1⟩,⟨chC,1⟩],[]⟩
def gY:Dfg:=⟨[⟨chA,2⟩,⟨chB,2⟩],[⟨chA,1⟩,⟨chB,1⟩],[⟨chA,1⟩,⟨chB,1⟩],[⟨chA,chB,1⟩,⟨chB,chA,1⟩]⟩
def gZ:Dfg:=⟨[⟨chA,3⟩,⟨chB,1⟩],[⟨chA,2⟩],[⟨chA,2⟩],[⟨chA,chB,1⟩,⟨chB,chA,1⟩]⟩
def ctX:Cut:=⟨2,[[chA],[chB,chC],[chD]]⟩
def ZrC:Cut:=⟨1,[[chB],[chC]]⟩
def ctY:Cut:=⟨3,[[chA],[chB]]⟩
def ctZ:Cut:=⟨4,[[chA],[chB]]⟩
def Zp9:CG vX gX 0:= .inr (.inr ⟨by kernel_rfl,by decide+kernel,⟨⟨by
 rw [show (makeM vX).a.map mkC=[⟨chA,2⟩,⟨chB,1⟩,⟨chD,2⟩,⟨chC,1⟩] by kernel_rfl]
 exact ((List.Perm.swap _ _ _).cons _).cons _,by decide+kernel⟩,⟨by rw [show (makeM vX).s.map mkC=gX.starts by kernel_rfl],by decide+kernel⟩,⟨by rw [show (makeM vX).f.map mkC=gX.ends by kernel_rfl],by decide+kernel⟩,⟨by
 rw [show (makeM vX).q.map mkF=[⟨chA,chB,1⟩,⟨chB,chD,1⟩,⟨chA,chC,1⟩,⟨chC,chD,1⟩] by kernel_rfl]
 exact (List.Perm.swap _ _ _).cons _,by decide+kernel⟩⟩,rfl⟩)
def Zog:CG vX2 gX2 0:= .inr (.inr ⟨by kernel_rfl,by decide+kernel,⟨⟨by rw [show (makeM vX2).a.map mkC=gX2.acts by kernel_rfl],by decide+kernel⟩,⟨by rw [show (makeM vX2).s.map mkC=gX2.starts by kernel_rfl],by decide+kernel⟩,⟨by rw [show (makeM vX2).f.map mkC=gX2.ends by kernel_rfl],by decide+kernel⟩,⟨by rw [show (makeM vX2).q.map mkF=gX2.follows by kernel_rfl],by decide+kernel⟩⟩,rfl⟩)
def Zqa:CG vY2 gY 0:= .inr (.inr ⟨by kernel_rfl,by decide+kernel,⟨⟨by rw [show (makeM vY2).a.map mkC=gY.acts by kernel_rfl],by decide+kernel⟩,⟨by rw [show (makeM vY2).s.map mkC=gY.starts by kernel_rfl],by decide+kernel⟩,⟨by
 rw [show (makeM vY2).f.map mkC=[⟨chB,1⟩,⟨chA,1⟩] by kernel_rfl]
 exact List.Perm.swap _ _ _,by decide+kernel⟩,⟨by rw [show (makeM vY2).q.map mkF=gY.follows by kernel_rfl],by decide+kernel⟩⟩,rfl⟩)
def Zqb:CG vZ gZ 0:= .inr (.inr ⟨by kernel_rfl,by decide+kernel,⟨⟨by rw [show (makeM vZ).a.map mkC=gZ.acts by kernel_rfl],by decide+kernel⟩,⟨by rw [show (makeM vZ).s.map mkC=gZ.starts by kernel_rfl],by decide+kernel⟩,⟨by rw [show (makeM vZ).f.map mkC=gZ.ends by kernel_rfl],by decide+kernel⟩,⟨by rw [show (makeM vZ).q.map mkF=gZ.follows by kernel_rfl],by decide+kernel⟩⟩,rfl⟩)
def Zqc:R3 (Rw (cnames gX.acts) (cnames gX.acts).length (W0 (cnames gX.acts) gX.follows) (Y5 (cnames gX.acts) gX.starts) (Y5 (cnames gX.acts) gX.ends)) (some ctX):=
 .inl ⟨1,ctX,dC,fun j hj=>by
  obtain rfl:j=0:=oM;exact ⟨[[0,1,2,3]],Lu (by decide+kernel),rfl⟩,⟨[[0],[1,2],[3]],Zhp (by decide+kernel) (by decide+kernel),rfl⟩,rfl⟩
def Zoh:R3 (Rw (cnames gX2.acts) (cnames gX2.acts).length (W0 (cnames gX2.acts) gX2.follows) (Y5 (cnames gX2.acts) gX2.starts) (Y5 (cnames gX2.acts) gX2.ends)) (some ZrC):=
 .inl ⟨0,ZrC,dC,fun j hj=>Qd hj (Vo j),⟨[[0],[1]],Lu (by decide+kernel),rfl⟩,rfl⟩
def Zqd:R3 (Rw (cnames gY.acts) (cnames gY.acts).length (W0 (cnames gY.acts) gY.follows) (Y5 (cnames gY.acts) gY.starts) (Y5 (cnames gY.acts) gY.ends)) (some ctY):=
 .inl ⟨2,ctY,dC,fun j hj=>by
  match j,hj with
  |0,_=>exact ⟨[[0,1]],Lu (by decide+kernel),rfl⟩
  |1,_=>exact ⟨[[0,1]],Zhp (by decide+kernel) (by decide+kernel),rfl⟩
  |j+2,hj=>omega,⟨[[0],[1]],Lu (by decide+kernel), .inr ⟨0,[0],[[0],[1]],rfl,by decide+kernel,Zof (by decide+kernel) (by decide+kernel) (by decide+kernel),rfl⟩⟩,rfl⟩
def Zqe:R3 (Rw (cnames gZ.acts) (cnames gZ.acts).length (W0 (cnames gZ.acts) gZ.follows) (Y5 (cnames gZ.acts) gZ.starts) (Y5 (cnames gZ.acts) gZ.ends)) (some ctZ):=
 .inl ⟨3,ctZ,dC,fun j hj=>by
  match j,hj with
  |0,_=>exact ⟨[[0,1]],Lu (by decide+kernel),rfl⟩
  |1,_=>exact ⟨[[0,1]],Zhp (by decide+kernel) (by decide+kernel),rfl⟩
  |2,_=>exact ⟨[[0],[1]],Lu (by decide+kernel), .inr ⟨0,[0],[[0,1]],rfl,by decide+kernel,Zof (by decide+kernel) (by decide+kernel) (by decide+kernel),rfl⟩⟩
  | j+3,hj=>omega, .inr ⟨[[1]],by decide+kernel,Lu (by decide+kernel),by
    rw [Zp7 (by decide+kernel)];kernel_rfl⟩,rfl⟩
def tX2:Nd:=WP 4 [lf chB,lf chC]
def tX:Nd:=WP 3 [lf chA,tX2,lf chD]
def tY2:Nd:=WP 5 [lf chA,lf chB]
def tY:Nd:=WP 4 [sil,tY2]
def tZ:Nd:=WP 6 [lf chA,lf chB]
def H5 {ps:List (List BA)} (h:ps.all fun p=>p.all fun s=>decide (s.size<=100)):∀p∈ps,∀s∈p,s.size<=140737488355328:=fun p hp s hs=>by
 have:=Qe (Xj.1 (Xj.1 h p hp) s hs)
 omega
def C6 {out:List (List Var)} (h:out.all fun r=>decide (r.length<=100)):∀r∈out,r.length<=1000000:=fun r hr=>by
 have:=Qe (Xj.1 h r hr)
 omega
def Rn (s:BA) (n:Int):AF prog 77 [Z1 (Y6 [⟨[s],n⟩])] (· = .tup [pTr (lf s),Zb 0]):=Zhq (show 1<=1000000 by decide) rfl
def Zoi:AF prog 77 [Z1 vX2] (· = .tup [pTr tX2,Zb 0]):=
 Dm (c:=ZrC) (out:=[[⟨[chB],1⟩],[⟨[chC],1⟩]]) (ts:=[lf chB,lf chC]) kR rfl (by intro h;cases h) Zog kR dC Zoh (H5 (by decide+kernel)) dC kR rfl dC dC (C6 (by decide+kernel)) fun i r u hr hu=>by
  match i with
  |0=>cases hr;cases hu;exact Rn chB 1
  |1=>cases hr;cases hu;exact Rn chC 1
  |i+2=>simp at hr
def Zqf:AF prog 77 [Z1 vX] (· = .tup [pTr tX,Zb 0]):=
 Dm (c:=ctX) (out:=[[⟨[chA],2⟩],vX2,[⟨[chD],2⟩]]) (ts:=[lf chA,tX2,lf chD]) kR rfl (by intro h;cases h) Zp9 kR dC Zqc (H5 (by decide+kernel)) dC kR rfl dC dC (C6 (by decide+kernel)) fun i r u hr hu=>by
  match i with
  |0=>cases hr;cases hu;exact Rn chA 2
  |1=>cases hr;cases hu;exact Zoi
  |2=>cases hr;cases hu;exact Rn chD 2
  |i+3=>simp at hr
def Zoj:AF prog 77 [Z1 vY2] (· = .tup [pTr tY2,Zb 0]):=
 Dm (c:=ctY) (out:=[[⟨[chA],2⟩],[⟨[chB],2⟩]]) (ts:=[lf chA,lf chB]) kR rfl (by intro h;cases h) Zqa kR dC Zqd (H5 (by decide+kernel)) dC kR rfl dC dC (C6 (by decide+kernel)) fun i r u hr hu=>by
  match i with
  |0=>cases hr;cases hu;exact Rn chA 2
  |1=>cases hr;cases hu;exact Rn chB 2
  |i+2=>simp at hr
def Zqg:AF prog 77 [Z1 vY] (· = .tup [pTr tY,Zb 0]):=ZfY dC rfl rfl Zoj
def Zqh:AF prog 77 [Z1 vZ] (· = .tup [pTr tZ,Zb 0]):=
 Dm (c:=ctZ) (out:=[[⟨[chA],3⟩],[⟨[chB],1⟩]]) (ts:=[lf chA,lf chB]) kR rfl (by intro h;cases h) Zqb kR dC Zqe (H5 (by decide+kernel)) dC kR rfl dC dC (C6 (by decide+kernel)) fun i r u hr hu=>by
  match i with
  |0=>cases hr;cases hu;exact Rn chA 3
  |1=>cases hr;cases hu;exact Rn chB 1
  |i+2=>simp at hr
def txX:BA:=⟨#[115,101,113,40,97,44,32,120,111,114,40,98,44,32,99,41,44,32,100,41]⟩
def txY:BA:=⟨#[120,111,114,40,40,41,44,32,97,110,100,40,97,44,32,98,41,41]⟩
def txZ:BA:=⟨#[108,111,111,112,40,97,44,32,98,41]⟩
def Zlq (i:Nat) {p p':PV} {cs:List PV} (h1:(PV.val (.slice none 0 0)::cs)[i]? =some p) (h2:(PV.sl 0 []::cs)[i]? =some p'):p'=p\/(p= .val (.slice none 0 0)/\p'= .sl 0 []):=by
 match i with
 |0=>cases h1;cases h2;exact .inr ⟨rfl,rfl⟩
 |i+1=>rw [XU] at h1 h2;rw [h1] at h2;cases h2;exact .inl rfl
def Zlr:AF prog 22 [] (· =Zr true):=by
 have e0:∀u:Nd,pTr u= .agg [Zb u.op,Zv u.act,YN u.l]:=fun _=>rfl
 have dX:=Zdw (l:=vX) (t:=tX) kR (by decide+kernel) rfl (OW _ (by decide+kernel) (by decide+kernel)) (by decide+kernel) (by decide+kernel) Zqf
 have dY:=Zdw (l:=vY) (t:=tY) kR (by decide+kernel) rfl (OW _ (by decide+kernel) (by decide+kernel)) (by decide+kernel) (by decide+kernel) Zqg
 have dZ:=Zdw (l:=vZ) (t:=tZ) kR (by decide+kernel) rfl (OW _ (by decide+kernel) (by decide+kernel)) (by decide+kernel) (by decide+kernel) Zqh
 have fX:=T9 (t:=tX) (by decide+kernel) (by decide+kernel)
 have fY:=T9 (t:=tY) (by decide+kernel) (by decide+kernel)
 have fZ:=T9 (t:=tZ) (by decide+kernel) (by decide+kernel)
 have xX:=E0 _ fX
 have xY:=E0 _ fY
 have xZ:=E0 _ fZ
 rw [show ZfX (Yt tX)=(txX,0) by kernel_rfl] at xX
 rw [show ZfX (Yt tY)=(txY,0) by kernel_rfl] at xY
 rw [show ZfX (Yt tZ)=(txZ,0) by kernel_rfl] at xZ
 generalize Yt tX=uX at dX xX
 generalize Yt tY=uY at dY xY
 generalize Yt tZ=uZ at dZ xZ
 rw [e0] at dX dY dZ xX xY xZ
 refine AF.of_body 78 func22 rfl ntmps22 (Xa rfl) ?_
 intro w0 M0 vs hl hv
 obtain rfl:=Xv hl
 clear hl hv
 refine YG ?_
 refine Pi (xs:=[_,_,_]) 14 YV fun h14 ho14=>?_;refine Zz (En.freeze (l:=14) (t:=14) rfl rfl) fun _=>?_;refine xM (ZC J8) ?_;refine Pi (xs:=[_,_,_]) 16 YV fun h16 ho16=>?_;refine Zz (En.freeze (l:=16) (t:=16) rfl rfl) fun _=>?_;refine xM (ZC J8) ?_;refine J' (kk:=2) (xs:=[_,_]) (cs:=[[_,_],[_,_]]) 18 Kc fun h18 ho18=>?_;refine Zz (En.freeze (l:=18) (t:=18) rfl rfl) fun _=>?_;refine Zz (Ke (t:=18) (p':=Z1 vX) rfl rfl) fun _=>?_;refine cP 19 (cA call24 dX) fun va19 vb19 hva19 hvb19=>?_;cases hvb19;refine Y1 ?_;refine Zt zT 3 1 Yp fun h1=>?_;refine Zp 1 Zk ?_;refine ZX ?_
 refine xM (ZC J8) ?_<;>(refine Pi (xs:=[_,_]) 24 YV fun h24 ho24=>?_;refine Zz (En.freeze (l:=24) (t:=24) rfl rfl) fun _=>?_)<;>refine xM (ZC J8) ?_<;>(refine Pi (xs:=[_,_]) 26 YV fun h26 ho26=>?_;refine Zz (En.freeze (l:=26) (t:=26) rfl rfl) fun _=>?_)<;>refine xM (ZC J8) ?_<;>(refine J' (kk:=2) (xs:=[_,_,_]) (cs:=[[_,_],[_,_],[_,_]]) 28 Kc fun h28 ho28=>?_;refine Zz (Zcv (l:=28) (vY.flatMap Wo) rfl rfl (fun i p p' h1 h2=>Zlq i h1 h2)) fun _=>?_;refine Zz (En.freeze (l:=28) (t:=28) rfl rfl) fun _=>?_;refine Zz (Ke (t:=28) (p':=Z1 vY) rfl rfl) fun _=>?_)<;>(refine cP 29 (cA call24 dY) fun va29 vb29 hva29 h=>?_;cases h)<;>refine Y1 ?_<;>refine Zt zT 3 3 Yp fun h3=>?_<;>refine Zp 3 Zk ?_<;>refine ZN ?_<;>refine Ym ?_
 refine WC (kk:=1) 33 YV fun h33 ho33=>?_;refine Zz (En.freeze (l:=33) (t:=33) rfl rfl) fun _=>?_;refine xM (ZC J8) ?_;refine Pi (xs:=[_,_,_]) 35 YV fun h35 ho35=>?_;refine Zz (En.freeze (l:=35) (t:=35) rfl rfl) fun _=>?_;refine xM (ZC J8) ?_;refine J' (kk:=2) (xs:=[_,_]) (cs:=[[_,_],[_,_]]) 37 Kc fun h37 ho37=>?_;refine Zz (En.freeze (l:=37) (t:=37) rfl rfl) fun _=>?_;refine Zz (Ke (t:=37) (p':=Z1 vZ) rfl rfl) fun _=>?_;refine cP 38 (cA call24 dZ) fun va38 vb38 hva38 hvb38=>?_;cases hvb38;refine Y1 ?_;refine Zt zT 3 5 Yp fun h5=>?_;refine Zp 5 Zk ?_;refine ZX ?_
 refine yU (Zn 1 Zk) fun v42=>?_;refine cP 43 (cA call74 xX) fun va43 vb43 hva43 hvb43=>?_;cases hva43;cases hvb43;refine Sx ?_
 refine yU (Zn 3 Zk) fun v47=>?_;refine cP 48 (cA call74 xY) fun va48 vb48 hva48 hvb48=>?_;cases hva48;cases hvb48;refine Sx ?_
 refine yU (Zn 5 Zk) fun v52=>?_;refine cP 53 (cA call74 xZ) fun va53 vb53 hva53 hvb53=>?_;cases hva53;cases hvb53;refine Sx ?_
 (refine xL 56 Za (xL 57 ZcR (xL 58 Za (xL 59 Za (xL 60 ZcR (xL 61 YY (xL 62 Za (xL 63 Za (xL 64 ZcR (xL 65 YY (xL 66 Za (xL 67 Za (xL 68 Zdx (xL 69 YY (xL 70 Za (xL 71 Za (xL 72 Zdx (xL 73 YY (xL 74 Za (xL 75 Za (xL 76 Zdx (xL 77 YY (xL 0 ZJ ?_))))))))))))))))))))))<;>refine Zw ?_)<;>(
 exact Zg results22 rfl rfl)
end Go.Proofs.YtmkojdfiadbeeaaGreat
namespace Go.En
open Go.RowKit Go.Cb
section
variable {P:Program} {st:St} {o:Oper} {x y u:Operand} {q q' q2:PV} {t t':TypeId}
end
section
variable {P:Program} {c:Ctx} {ops:Array Oper} {Q:Exit->Act->World->Prop} {rest:List Oper} {sL hP:List (Nat×Ent)}
end
def Zhr:PV->List PV
 | .agg ps=>ps
 |p=>[p]
def Zsm:PV->Bool
 | .agg _=>true
 |_=>false
def shr_cells {M:BS} {w:World} {v:Value} {p:PV} (h:Shr M w v p) (hp:(one p||Zsm p)=true):v.cells.toList.length=(Zhr p).length/\∀(i:Nat) (x:Value) (q:PV),v.cells.toList[i]? =some x->(Zhr p)[i]? =some q->Shr M w x q:=by
 by_cases h1:one p=true
 . have hv:=h.one h1;have hc:v.cells.toList=[v]:=by rw [J0 hv]
   have hpc:Zhr p=[p]:=by cases p<;>first|rfl|cases h1
   rw [hc,hpc];refine ⟨rfl,fun i x q hx hq=>?_⟩;match i with
   |0=>cases hx;cases hq;exact h
   |i+1=>simp at hx
 rw [Ve] at hp;have hp:=hp.resolve_left h1
 cases h with
 |agg us ps hl hV=>exact ⟨hl,hV⟩
 |_=>cases hp
section
variable {P:Program} {sL hP:List (Nat×Ent)} {o:Oper}
end
section
variable {P:Program} {c:Ctx} {ops:Array Oper} {Q:Exit->Act->World->Prop} {rest:List Oper} {sL hP:List (Nat×Ent)} {o:Oper}
end
section
variable {P:Program} {st:St} {o:Oper} {x y:Operand} {q q':PV} {t t':TypeId}
end
inductive ResR (P:Program) (sL hP:List (Nat×Ent)):ResultVar->PV->Prop
 |tmp {t:Nat} {v:Value} {p:PV} (ht:lk sL t=some (v,p)):ResR P sL hP (.tmp t) p
 |cell {t ty k e k' n:Nat} {h:Value} {q:PV} {cs:List PV} (l:Nat) (hT:AggT P ty k=true) (ht:lk sL t=some (padd (sbase h) 0,q)) (hl:lk hP l=some (h, .own e k' n cs)) (hp:k<=cs.length) (hk:0<k) (hsh:(cs.take k).all isSh=true):ResR P sL hP (.cell t ty) (.agg (cs.take k))
 |cell1 {t ty e k' n:Nat} {h:Value} {q p:PV} {cs:List PV} (l:Nat) (hT:NoAgg P ty=true) (ht:lk sL t=some (padd (sbase h) 0,q)) (hl:lk hP l=some (h, .own e k' n cs)) (hp:cs[0]? =some p) (hsh:isSh p=true):ResR P sL hP (.cell t ty) p
section
variable {P:Program} {c:Ctx} {sL hP:List (Nat×Ent)}
end
end Go.En
