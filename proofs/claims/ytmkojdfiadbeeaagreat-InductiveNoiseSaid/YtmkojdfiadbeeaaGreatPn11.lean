/-
  Walks and laws.
-/
import Derived.Recover
import Derived.Lib.Builder
import Derived.Lib.UnsafeStr
import Derived.Lib.AppendStr
import Derived.Laws.Externs
import Derived.Laws.Slices
import Derived.WideLaws
import Derived.Test.YtmkojdfiadbeeaaGreatPn02
import Derived.Test.YtmkojdfiadbeeaaGreatPn03
import Derived.Test.YtmkojdfiadbeeaaGreatPn04
import Derived.Test.YtmkojdfiadbeeaaGreatPn05
import Derived.Test.YtmkojdfiadbeeaaGreatNShelfU
import Derived.Test.YtmkojdfiadbeeaaGreatNShelfW
import Derived.Test.YtmkojdfiadbeeaaGreatPn08
import Derived.Test.YtmkojdfiadbeeaaGreatPn09
import Derived.Test.YtmkojdfiadbeeaaGreatPn10
import Derived.Test.YtmkojdfiadbeeaaGreatPn01
set_option linter.all false
set_option maxRecDepth 100000
set_option maxHeartbeats 0
namespace Go.Proofs.YtmkojdfiadbeeaaGreat
open Go.RowKit Go.Cb Go.En Tryz
open Classical in
noncomputable def setK (ks:List BA) (s:BA):List BA:=if s∈ks then ks else ks++[s]
noncomputable def colS (ks:List BA) (l:List BA):List BA:=l.foldl setK ks
def Zo3 (ks:List BA) (s x:BA):x∈setK ks s↔x∈ks\/x=s:=by
 unfold setK
 split
 . rename_i h;exact ⟨.inl,fun h2=>h2.elim id fun e=>e▸h⟩
 rw [XD,XE]
def Zq8 {ks:List BA} (h:ks.Nodup) (s:BA):(setK ks s).Nodup:=by
 unfold setK
 split
 . exact h
 rename_i hn;exact X6.2 ⟨h,Ua _ s,fun a ha b hb e=>hn (by rw [XE] at hb;rw [<-hb,<-e];exact ha)⟩
def Zgo:∀(l ks:List BA) (x:BA),x∈colS ks l↔x∈ks\/x∈l
 |[],ks,x=>by simp [colS]
 | s::l,ks,x=>by
   show x∈colS (setK ks s) l↔_;rw [Zgo l,Zo3,Xi,or_assoc]
def ZjN:∀(l ks:List BA),ks.Nodup->(colS ks l).Nodup
 |[],_,h=>h
 |s::l,ks,h=>ZjN l (setK ks s) (Zq8 h s)
def Zgp (ks l m:List BA):colS ks (l++m)=colS (colS ks l) m:=Ue
def Zgq:∀(l ks:List BA),(colS ks l).length<=ks.length+l.length
 |[],ks=>Xd _
 | s ::l,ks=>by
   show (colS (setK ks s) l).length<=_;have h1:=Zgq l (setK ks s);have h2:(setK ks s).length<=ks.length+1:=by
    unfold setK;split
    . omega
    rw [Xe];simp
   rw [Xh];omega
def ζd (ks:List BA):List (BA×Value):=ks.map fun s=>(s, .bool true)
def Zo4 (ks:List BA) (s:BA):RV (skv (ζd ks)) (.string s) (.bool true)=skv (ζd (setK ks s)):=by
 rw [Oq]
 congr 1
 unfold setK
 induction ks with
 |nil=>simp [ζd,Je]
 | cons x ks ih=>
   unfold ζd at ih ⊢;rw [Xn,Je];by_cases h:s=x
   . subst h;simp
   simp only [h,if_false,Ne.symm h] at ih ⊢;by_cases h2:s∈ks
   . simp [h2,h] at ih ⊢;exact ih
   simp [h2,h] at ih ⊢;exact ih
def toB (s:BA):List UInt8:=s.data.toList
def ofB (l:List UInt8):BA:=⟨l.toArray⟩
def Zbn (ks:List BA):List BA:=((ks.map toB).mergeSort fun x y=>decide (x<=y)).map ofB
def Zo5 (ks:List BA):(Zbn ks).length=ks.length:=by unfold Zbn;simp
def kyv (k1 g:Nat):Value:= .func (.func k1) #[] #[.pointer (some ⟨g,0,none⟩)]
def kyP (g b clock t:Nat) (es:Array MapEntry):PV:= .oblk (itv g) g (.cells #[.map (some b)] t) [(b, .map es clock)]
def kyE (g b clock t:Nat) (es:Array MapEntry):Ent:=(itv g,kyP g b clock t es)
def ZrK (P:Program) (f k1 t:Nat):Prop:=∀(b:Nat) (w:World),Calls P f #[.map (some b)] w fun e w'=>e= .returned (kyv k1 w.heap.size)/\w'=w.alloc (.cells #[.map (some b)] t)
def Zgr (P:Program) (f k1 t T:Nat):Prop:=∀(g b clock:Nat) (es:Array MapEntry) (ks:List BA) (w:World),w.heap[g]? =some (.cells #[.map (some b)] t)->w.heap[b]? =some (.map es clock)->WfM es clock->kvOf es=skv (ζd ks)->ks.Nodup->ks.length<=1000000->(∀s∈ks,s.size<=140737488355328)->
 Calls P f #[kyv k1 g] w fun e w'=>∃v,e= .returned v/\w'.ownsRow w.heap.size T 1 v ks.length ((Zbn ks).map Value.string)/\Below w.heap.size w w'
section
variable {P:Program} {c:Ctx} {ops:Array Oper} {Q:Exit->Act->World->Prop} {rest:List Oper} {sL hP:List (Nat×Ent)} {o:Oper}
def ZsJ {f k1 t:Nat} {x:Operand} {m:Value} {kv:List (Value×Value)} {ats:Array TypeId} (d:Nat) (hA:ZrK P f k1 t) (hc:∀args w,(callFunc f args).run P w= .ok (.enter f args) w)
 (k:∀(g b clock:Nat) (es:Array MapEntry),kv=kvOf es->WfM es clock->aL P c ops Q rest ⟨put d (kyv k1 g, .val (kyv k1 g)) sL,put d (kyE g b clock t es) hP⟩)
 (hw:Yb ops sL o=some true:=by exact rfl) (hd:o.dst=some d:=by exact rfl) (hn:d<c.nt:=by exact Xa rfl) (ho:o.op= .call {callee:= .value (.func f),args:= #[x],argTypes:=ats}:=by exact rfl) (hx:ev sL x=some (m, .smap kv):=by exact rfl) (hl:lk hP d=none:=by exact rfl):aL P c ops Q (o::rest) (⟨sL,hP⟩:St):=
 W1 hw fun a w F H=>by
  obtain ⟨hv,hS⟩:=H.rd.ev hx
  cases hS with
  | smap b es clock hM h hW=>
    have key:HoldsF c ⟨put d (kyv k1 w.heap.size, .val (kyv k1 w.heap.size)) sL,put d (kyE w.heap.size b clock t es) hP⟩ (fun l'=>if l'=d then (fun x=>x=w.heap.size) else F l') (a.put (some d) (kyv k1 w.heap.size)) (w.alloc (.cells #[.map (some b)] t)):=by
     refine H.change (fun l'=>l'=d) hn ((Ext.alloc _ _).chg) (fun l' x hne hx'=>?_) (fun l' x b' hT hx' hb=>?_) (fun hm l' u q hT hx'=>?_) (fun l1 l2 _ _ _ h1 h2 hne=>Qe (h1.trans h2.symm) hne) (fun hm=> .val _)
     . rcases YC hx' with ⟨e1,_⟩|⟨_,e1⟩
       . exact Qe e1.symm hne
       exact ⟨e1,by simp [hne]⟩
     . subst hT;simp only [if_true] at hb;exact .inr (by rw [hb];exact Xd _)
     subst hT;rw [Z3] at hx';unfold kyE kyP at hx'
     cases hx';simp only [if_true];refine .oblk w.heap.size rfl ?_ (fun p hp=>?_) (fun x=>Iff.rfl)
     . show (w.heap.push _)[w.heap.size]? =_;simp
     rw [XE] at hp;subst hp;exact ⟨(Ext.alloc w _).block h,fun hb=>hM (hm b (KV h) hb)⟩
    have hrun:(execOp a.eval o).run P w= .ok (.enter f #[.map (some b)]) w:=by
     have hev:a.eval (.func f)= .func (.func f) #[] #[]:=rfl;simp [execOp,ho,resolve,Deferred.ofValue,hev,invoke,hv,hc]
    unfold Oper.wp;rw [hrun,Oper.upon_enter];refine (hA b w).mono fun e' w' ⟨he,hw'⟩=>?_;subst he hw';rw [hd];exact k _ _ _ _ rfl hW _ _ ⟨_,key⟩
def Zmj {f k1 t T g b clock:Nat} {es:Array MapEntry} {q:PV} {x:Operand} {ats:Array TypeId} {ks:List BA} (l d:Nat) (hA:Zgr P f k1 t T) (hc:∀args w,(callFunc f args).run P w= .ok (.enter f args) w) (hdr:¬c.dr)
 (hW:WfM es clock) (hkv:kvOf es=skv (ζd ks)) (hnd:ks.Nodup) (hlen:ks.length<=1000000) (hsz:∀s∈ks,s.size<=140737488355328)
 (k:∀v:Value,v.oneCell'=true->aL P c ops Q rest ⟨put d (v, .val v) sL,put d (v, .own T 1 ks.length ((Zbn ks).map Zx)) hP⟩)
 (hw:Yb ops sL o=some true:=by exact rfl) (hd:o.dst=some d:=by exact rfl) (hn:d<c.nt:=by exact Xa rfl) (ho:o.op= .call {callee:= .value (.func f),args:= #[x],argTypes:=ats}:=by exact rfl) (hx:ev sL x=some (kyv k1 g,q):=by exact rfl) (hl:lk hP l=some (kyE g b clock t es):=by exact rfl) (hld:lk hP d=none:=by exact rfl):aL P c ops Q (o::rest) (⟨sL,hP⟩:St):=
 W1 hw fun a w F H=>by
  have hv:=(H.rd.ev hx).1;obtain ⟨h,hs,hF⟩:=(H.tr l _ _ hl).blk;obtain ⟨hb,_⟩:=hs (b, .map es clock) sM;dsimp only at hb;have hrun:(execOp a.eval o).run P w= .ok (.enter f #[kyv k1 g]) w:=by
   have hev:a.eval (.func f)= .func (.func f) #[] #[]:=rfl;simp [execOp,ho,resolve,Deferred.ofValue,hev,invoke,hv,hc]
  unfold Oper.wp;rw [hrun,Oper.upon_enter];refine (hA g b clock es ks w h hb hW hkv hnd hlen hsz).mono fun e' w' ⟨v,he,hown,hbel⟩=>?_;subst he;rw [hd];have hone:v.oneCell'=true:=by
   rcases hown.2 with ⟨h1,_⟩|⟨g',cap',cur,e1,_⟩
   . rw [h1];rfl
   rw [e1];rfl
  have hlow:∀b,v.ownBlock=some b->w.heap.size<=b:=fun b hb'=>by
   rcases hown.2 with ⟨h1,_⟩|⟨g',cap',cur,e1,e2,_⟩
   . rw [h1] at hb';simp [Value.ownBlock] at hb'
   rw [e1] at hb';simp [Value.ownBlock] at hb';omega
  have hown0:w'.ownsRow 0 T 1 v ks.length ((Zbn ks).map Value.string):=by
   refine ⟨hown.1,?_⟩;rcases hown.2 with h1|⟨g',cap,cur,e1,e2,r⟩
   . exact .inl h1
   exact .inr ⟨g',cap,cur,e1,Xg _,r⟩
  have hch:Chg (fun b=>∃l x,l=d/\lk hP l=some x/\F l b) w w':=⟨hbel.os,hbel.tape,hbel.output,hbel.size,fun i hi _=>hbel.block i hi⟩;refine k v hone _ _ ⟨fun l'=>if l'=d then (fun b=>v.ownBlock=some b) else F l',H.change (fun l'=>l'=d) hn hch (fun l' x hne hx'=>?_) (fun l' x b' hT hx' hb=>?_) (fun hm l' u q hT hx'=>?_) (fun l1 l2 _ _ _ h1 h2 hne=>Qe (h1.trans h2.symm) hne) (fun hm=> .val _) (fun h=>Qe h hdr)⟩
  . rcases YC hx' with ⟨e1,_⟩|⟨_,e1⟩
    . exact Qe e1.symm hne
    exact ⟨e1,by simp [hne]⟩
  . subst hT;simp only [if_true] at hb;exact .inr (hlow b' hb)
  subst hT;rw [Z3] at hx'
  cases hx';simp only [if_true];refine .own ((Zbn ks).map Value.string) (fun _ _=>False) hown0 sM (fun t v p hv hp=>?_) (fun _ _ _ _ _ _ h=>h.elim) (fun _ _ _ h=>h.elim) (fun b=>sM);rw [Xl,XU] at hv hp;obtain ⟨b1,hb1,rfl⟩:=hv;obtain ⟨b2,hb2,rfl⟩:=hp;rw [hb1] at hb2;cases hb2;exact .shr (.val _) (fun _ h=>h)
end
open Go.Maps Go.Sort Go.Shelf in
def rdK (_:Value):Option (DataW Unit×List MemPlace):=some (.lit (.bool true),[])
section
open Go.WideElems Go.MapKept Go.WideMaps
def ZsK {P:Program} {k:TypeId} (hk:P.underlying k=some .string) {s:BA} (hs:s.size<=maxLen):rg P k rdK ⟨.string s, .bool true,0⟩=(.string s.data.toList, .lit (.bool true)):=by
 have:rd P k rdK ⟨.string s, .bool true,0⟩=some (.string s.data.toList, .lit (.bool true)):=rd_mk (R:=rdK) (val:= .bool true) (born:=0) (yv:=(.lit (.bool true),[])) (keyOf_string_mk hk hs) rfl
 exact rg_of this
def Zq9 {P:Program} {k:TypeId} (hk:P.underlying k=some .string) {w:World} {b clock:Nat} {es:Array MapEntry} {ks:List BA} (hb:w.heap[b]? =some (.map es clock)) (hW:WfM es clock) (hkv:kvOf es=skv (ζd ks)) (hnd:ks.Nodup) (hlen:ks.length<=1000000) (hsz:∀s∈ks,s.size<=140737488355328):∃D0,w.ownsMap P k rdK b ks.length D0/\(strKeys D0).Perm (ks.map toB)/\Maps.size D0=ks.length:=by
 have hml:∀s∈ks,s.size<=maxLen:=fun s hs=>by have:=hsz s hs;unfold maxLen;omega
 have hkv2:es.toList.map (fun x=>(x.key,x.val))=ks.map fun s=>(Value.string s,Value.bool true):=by
  have:kvOf es=ks.map fun s=>(Value.string s,Value.bool true):=by rw [hkv];unfold skv ζd;rw [XB];rfl
  exact this
 have hsize:es.size=ks.length:=by have:=congrArg List.length hkv2;simpa using this
 have hrg:es.toList.map (rg P k rdK)=ks.map fun s=>(Lit.string s.data.toList,(.lit (.bool true):DataW Unit)):=by
  have h1:es.toList.map (rg P k rdK)=(es.toList.map fun x=>(x.key,x.val)).map fun p=>rg P k rdK ⟨p.1,p.2,0⟩:=by
   rw [XB];rfl
  rw [h1,hkv2,XB];exact VV fun s hs=>ZsK hk (hml s hs)
 have hread:∀x∈es.toList,∃y,rd P k rdK x=some y:=fun x hx=>by
  have:(x.key,x.val)∈es.toList.map (fun x=>(x.key,x.val)):=Xp.2 ⟨x,hx,rfl⟩;rw [hkv2] at this;obtain ⟨s,hs,e⟩:=Xp.1 this;obtain ⟨xk,xv,xb⟩:=x
  cases e;exact ⟨_,rd_mk (R:=rdK) (yv:=(.lit (.bool true),[])) (keyOf_string_mk hk (hml s hs)) rfl⟩
 refine ⟨.map ((es.toList.map (rg P k rdK)).foldr DataW.insert []),⟨es,clock,hb,⟨by rw [hsize];unfold maxLen;omega,?_,hread⟩,by rw [hsize];exact Xd _,rfl⟩,?_,?_⟩
 . refine ⟨hW.1,hW.2,?_⟩;have h3:es.toList.map (·.key)=ks.map Value.string:=by
    have:=congrArg (List.map Prod.fst) hkv2;rw [XB,XB] at this;exact this
   rw [h3];exact X7.2 (hnd.imp fun h e=>h (by cases e;rfl))
 . rw [hrg];have h2:=(WideShapes.sorted_perm (ks.map fun s=>(Lit.string s.data.toList,(.lit (.bool true):DataW Unit)))).map fun p=>strOf p.1;rw [XB] at h2;exact h2
 show List.length _=_;rw [(WideShapes.sorted_perm _).length_eq,Xc,Va,hsize]
end
def Ztp:ZrK prog 119 181 162:=fun b w=>callsIn_wide.1 (AnyZ.keys_in (ρ:=Tryz.keysA_ren) Tryz.keysA Fence.wide 5 trivial rfl (some b) w)
def ZsL (m:Nat):AnyZ.SortsIn prog Tryz.sortedA_ren Fence.wide m:=
 ⟨fun blk off cap ss W hH hblk hsz=>callsIn_wide.2 (Tryz.slices_Sort_string blk off cap ss W hH hblk hsz),fun p cap W=>callsIn_wide.2 (Tryz.slices_Sort_string_none p cap W)⟩
def Zo6:Zgr prog 118 181 162 9:=fun g b clock es ks w hg hb hW hkv hnd hlen hsz=>by
 obtain ⟨D0,hown,hperm,hsize⟩:=Zq9 (P:=prog) (k:=9) underlying9 hb hW hkv hnd hlen hsz
 have hseq:SeqGives Fence.wide 2 prog 181 #[.pointer (some ⟨g,0,none⟩)] encStr (fun ss=>ss.Perm (strKeys D0)) (Maps.size D0) w:=
  AnyZ.keys_gives (ρ:=Tryz.keysA_ren) {Tryz.keysA with} Fence.wide _ trivial rfl oM g b _ D0 w (KV hg) (by simp [World.cell?,hg]) hown
 have cS:=AnyZ.sorted_in (ρ:=Tryz.sortedA_ren) Tryz.sortedA Fence.wide 5 trivial trivial trivial trivial rfl oM (ZsL _) call180 181 #[.pointer (some ⟨g,0,none⟩)] trivial call181 _ _ (by rw [hsize];unfold maxLen;omega) (by rw [hsize];omega) _ hseq
 refine (callsIn_wide.1 cS).mono ?_
 rintro e w' ⟨v,ss,rfl,hS,hrow,_,hbel⟩
 have hp:=hS.trans hperm
 refine ⟨v,rfl,?_,hbel⟩
 have e1:(ss.mergeSort fun x y=>decide (x<=y)).map encStr=(Zbn ks).map Value.string:=by
  rw [mergeSort_of_perm hp];unfold Zbn;rw [XB];rfl
 have e2:ss.length=ks.length:=by rw [hp.length_eq,Xc]
 rw [e1,e2] at hrow
 exact hrow
def Zh3:MpT prog 162 9 4 .string (.bool false):=⟨underlying162,underlying9, .inl rfl,by show ZeroT _ _ _;unfold ZeroT;kernel_rfl⟩
noncomputable def evA (l:List Var):List BA:=colS [] (l.flatMap (·.acts))
noncomputable def evX (l:List Var):List BA×Int:=if validVars l=true then (if (evA l).length<=40 then (Zbn (evA l),0) else ([],5)) else ([],1)
def Zmk (ks:List BA):(skv (ζd ks)).length=ks.length:=by unfold skv ζd;rw [Xc,Xc]
def Zgs (e n:Nat) (l:List BA) (h:n=l.length):share (.own e 1 n (l.map Zx))=ZX l:=by
 subst h
 rw [share,YG,XB];rfl
def ZjO (l:List Var) (s:BA):s∈evA l↔∃x∈l,s∈x.acts:=by
 unfold evA
 rw [Zgo,Us]
 exact ⟨fun h=>h.elim (fun h=>by cases h) id, .inr⟩
def Zo7 (l:List Var):(evA l).Nodup:=ZjN _ _ List.nodup_nil
def ZjP {l:List Var} (h:validVars l=true):(evA l).length=(makeM l).a.length:=by
 have hp:(evA l).Perm ((makeM l).a.map (·.1)):=(U6 (Zo7 l) (RA h)).2 fun s=>by rw [ZjO,DO]
 rw [hp.length_eq,Xc]
def Zo8 (l:List Var) (hf:RJ l):AF prog 76 [ZV l] (· = .tup [ZX (evX l).1,Zb (evX l).2]):=by
 refine AF.b1 36 func76 rfl ntmps76 (Xa rfl) fun w0 M0 v0 _=>?_
 refine Jh ?_;refine YU ?_;refine cV (cA call9 (J8 l hf)) ?_;refine Wg ?_ ?_<;>intro hb11
 . (
 refine ZP ?_;refine YK (PO (t:=2) rfl) fun _=>?_;refine Y3 results76 rfl rfl ?_;rw [show evX l=([],1) by unfold evX;rw [Qc (by simpa using hb11)]];rfl)
 (have hv:validVars l=true:=by simpa using hb11);have hnd:=Zo7 l;have hl0:=hf.1;have hks:∀s∈evA l,s.size<=140737488355328:=fun s hs=>by
  obtain ⟨x,hx,h⟩:=(ZjO l s).1 hs;exact (hf.2 x hx).1.2 s h
 refine Zi ?_;refine Rl 12 fun h12 ho12=>?_;refine ZD ?_;refine Zs (ZK (l:=12) 1000 rfl rfl) fun _=>?_;refine Zp ?_;refine xL 13 Za (xL 14 (Zu Zv) (xL 15 Za ?_));refine ZZ ?_;refine Yl (ι:={q:Nat×List BA//q.1<=l.length/\q.2=colS [] ((l.take q.1).flatMap (·.acts))}) (fun k=>⟨[(4,_,_),(13,_,_),(14,_,_),(15, .int .i64 k.1.1,Zb k.1.1)],[(1000,h12, .omap (skv (ζd k.1.2)))]⟩) (fun k=>l.length-k.1.1) ⟨(0,[]),Xg _,rfl⟩ ?_;rintro ⟨⟨i,K⟩,hi,hK⟩;dsimp only;dsimp only at hi hK;refine Ys ?_ ?_<;>intro hb16
 . (
 obtain ⟨x,hx⟩:=gS l i;have e1:=Y4 ZM l i x hx;have e2:=Ww ZM hx;have hx0:=(hf.2 x (Xb hx)).1.1;refine Zi ?_;refine xM (Ze Zv) ?_;refine yU (We W9) fun v18=>?_;refine Zt [(.slice none 0 0),(.int .i64 0)] 2 6 R7 fun h6=>?_;refine Zn 6 W9 ?_;refine YT ?_;refine xM (Zc 6 Z8) ?_;refine yU (Zf 6 ZG) fun v20=>?_;refine xL 21 (Zu Zo) (xL 22 Za ?_);refine ZZ ?_;refine Yl (ι:={q:Nat×List BA//q.1<=x.acts.length/\q.2=colS K (x.acts.take q.1)}) (fun k=>⟨[(4,_,_),(13,_,_),(14,_,_),(15,_,_),(20,_,_),(21,_,_),(22, .int .i64 k.1.1,Zb k.1.1)],[(1000,h12, .omap (skv (ζd k.1.2)))]⟩) (fun k=>x.acts.length-k.1.1) ⟨(0,K),Xg _,rfl⟩ ?_;rintro ⟨⟨j,K2⟩,hj,hK2⟩;dsimp only;dsimp only at hj hK2;refine Ys ?_ ?_<;>intro hb23
 . (
 obtain ⟨s,hs⟩:=gS x.acts j;have e3:=Yf (f:=Zx) hs;refine Zi ?_;refine xM (Ze Zo) ?_;refine yV (Zw ZE) ?_;refine ZW ?_;refine YW ?_;refine PG 1000 Zh3 ?_;rw [Zo4];refine Ox ?_;refine Yk (
  ⟨(j+1,setK K2 s),Zd hs,by dsimp only;rw [ZR hs,Zgp,<-hK2];rfl⟩
  ))
 refine ZP ?_;refine Yk (
  ⟨(i+1,K2),Zd hx,by dsimp only;rw [ZR hx,XR,Zgp,<-hK,Ud,hK2,Xs oM]⟩
  ))
 (obtain rfl:K=evA l:=by rw [hK,Xs oM];rfl);have hKl:=Zmk (evA l);refine nav ?_;refine Zs (En.freeze (l:=1000) (t:=4) rfl rfl) fun _=>?_;refine Zp ?_;refine xL 30 Za (xL 31 (Zr2 underlying162) (xL 32 G3 ?_));refine ZC ?_ ?_<;>intro hb32
 . (
 refine ZP ?_;refine YK (PO (t:=2) rfl) fun _=>?_;refine Y3 results76 rfl rfl ?_;rw [show evX l=([],5) by unfold evX;rw [Qd hv,Qc oM]];rfl)
 refine Wp ?_;refine ZsJ (k1:=181) (t:=162) 34 Ztp call119 (fun g34 b34 c34 es34 hkv34 hWf34=>?_);refine Zmj (ks:=evA l) 34 35 Zo6 call118 (fun h=>h) hWf34 hkv34.symm hnd oM hks (fun v35 ho35=>?_);refine W2 ?_;refine YK (En.freeze (l:=35) (t:=2) rfl rfl) fun _=>?_;refine Y3 results76 rfl rfl ?_;rw [Zgs _ _ _ (show (evA l).length=(Zbn (evA l)).length from (Zo5 _).symm),show evX l=(Zbn (evA l),0) by unfold evX;rw [Qd hv,Qd oM]]
noncomputable def dX (l:List Var) (t:Nd):PV×Int:=if validVars l=true then (if (evA l).length<=40 then (if Gp t=true then (if Gp (Yt t)=true then (pTr (Yt t),0) else (JA,5)) else (JA,5)) else (JA,5)) else (JA,1)
noncomputable def dN (l:List Var) (t:Nd):Nd:=if validVars l=true then (if (evA l).length<=40 then (if Gp t=true then (if Gp (Yt t)=true then Yt t else nd0) else nd0) else nd0) else nd0
def ZrL (l:List Var) (t:Nd):Rr (dX l t).1 (pTr (dN l t)):=by
 unfold dX dN
 split
 . split
   . split
     . split
       . exact Rr.rfl' _
       exact Lh
     exact Lh
   exact Lh
 exact Lh
def ZrM (l:List Var) (t:Nd):shD (.tup [(dX l t).1,Zb (dX l t).2])=true:=by
 unfold dX
 split
 . split
   . split
     . split<;>rfl
     rfl
   rfl
 rfl
def ZsM (l:List Var) (t:Nd):FitT (dN l t):=by
 unfold dN
 split
 . split
   . split
     . rename_i h;split
       . exact Sk (ζ0 h) (by have:=ζ1 h;omega)
       exact TI
     exact TI
   exact TI
 exact TI
def Ztq {l:List Var} {t:Nd} (h:validVars l=false):dX l t=(JA,1):=by unfold dX;rw [h,Qc dC]
def Ztr {l:List Var} {t:Nd} (hv:validVars l=true) (h:40<(evA l).length):dX l t=(JA,5):=by unfold dX;rw [Qd hv,Qc oM]
def Zts {l:List Var} {t:Nd} (hv:validVars l=true) (h:(evA l).length<=40) (ht:Gp t=false):dX l t=(JA,5):=by unfold dX;rw [Qd hv,Qd h,ht,Qc dC]
def Ztt {l:List Var} {t:Nd} (hv:validVars l=true) (h:(evA l).length<=40) (ht:Gp t=true) (hn:Gp (Yt t)=false):dX l t=(JA,5):=by unfold dX;rw [Qd hv,Qd h,Qd ht,hn,Qc dC]
def ZsN {l:List Var} {t:Nd} (hv:validVars l=true) (h:(evA l).length<=40) (ht:Gp t=true) (hn:Gp (Yt t)=true):dX l t=(pTr (Yt t),0):=by unfold dX;rw [Qd hv,Qd h,Qd ht,Qd hn]
def ZsO {l:List Var} (hv:validVars l=true):((evA l).length<=40/\(evX l).2=0)\/(40<(evA l).length/\(evX l).2=5):=by
 unfold evX
 rw [Qd hv]
 by_cases h:(evA l).length<=40
 . rw [Qd h];exact .inl ⟨h,rfl⟩
 rw [Qc h];exact .inr ⟨oM,rfl⟩
def Zra {t:Nd} (h:Gp t=true):(Gp (Yt t)=true/\Zfh t=Yt t/\(TW t).2=0)\/(Gp (Yt t)=false/\Zfh t=nd0/\(TW t).2=5):=by
 unfold Zfh TW
 rw [Qd h,Qd h]
 cases h2:Gp (Yt t) with
 |true=>rw [Qd rfl,Qd rfl];exact .inl ⟨rfl,rfl,rfl⟩
 |false=>rw [Qc dC,Qc dC];exact .inr ⟨rfl,rfl,rfl⟩
def Zbo (l :List Var) (t:Nd) (hf:RJ l) (hl:l.length<=1000000) (hF:FitT t) (hT:validVars l=true->(evA l).length<=40->AF prog 77 [ZV (Y6 l)] (· = .tup [pTr t,Zb 0])):AF prog 24 [ZV l] (· = .tup [(dX l t).1,Zb (dX l t).2]):=by
 have e0:∀u:Nd,pTr u= .agg [Zb u.op,Zx u.act,YJ u.l]:=fun _=>rfl
 refine AF.b1 50 func24 rfl ntmps24 (Xa rfl) fun w0 M0 v0 _=>?_
 refine Zi ?_
 refine Zt zT 3 2 Yh fun h2=>?_;refine JG ?_;refine cV (cA call9 (J8 l hf)) ?_;refine Wg ?_ ?_<;>intro hb11
 . (
 refine Zi ?_;refine xM (ZA YB) ?_;refine Zn 2 Zj ?_;refine ZD ?_;refine ZN (k:=3) 2 results24 ?_;rw [Ztq (by simpa using hb11)];rfl)
 (have hv:validVars l=true:=by simpa using hb11);have hA:=Zo8 l hf;have hor:=ZsO hv;obtain ⟨⟨ks,e⟩,hE⟩:∃y,y=evX l:=⟨_,rfl⟩;rw [<-hE] at hA hor;dsimp only at hA hor;refine Wp ?_;refine cP 15 (cA call76 hA) fun va15 vb15 hva15 hvb15=>?_;cases hvb15;refine Ts ?_;refine Wv ?_ ?_<;>intro hb19
 . (
 obtain ⟨h40,rfl⟩:40<(evA l).length/\e=5:=oM;refine Zi ?_;refine xL 20 (ZA YB) (xL 21 Za ?_);refine Zn 2 Zj ?_;refine ZD ?_;refine ZN (k:=3) 2 results24 ?_;rw [Ztr hv h40];rfl)
 have h40:(evA l).length<=40:=oM;have hTt:=hT hv h40;rw [e0] at hTt;refine Wp ?_;refine cU (cA call78 (ZjL l hl)) fun v24=>?_;refine cP 25 (cA call77 hTt) fun va25 vb25 hva25 hvb25=>?_;cases hvb25;refine Y8 ?_;refine Zt zT 3 6 Yh fun h6=>?_;refine Zn 6 Zj ?_;refine JG ?_;refine xL (v:= .bool false) (p:= .val (.bool false)) 29 (T' (a:=0) (b:=0)) ?_;refine ZZ ?_;refine cCf ?_;refine Zi ?_;refine yU (Zm 6 Zj) fun v32=>?_;refine cV (cA call79 (HQ t hF)) ?_;refine Wg ?_ ?_<;>intro hb34
 . (
 refine Zi ?_;refine xM (ZA YB) ?_;refine Zn 2 Zj ?_;refine ZD ?_;refine ZN (k:=3) 2 results24 ?_;rw [Zts hv h40 (by simpa using hb34)];rfl)
 (have hvt:Gp t=true:=by simpa using hb34);have hN:=(Zha t hF).reread (Zql t) (PR (Zqk t));have hfn:=ZnK hF;have hnr:=Zra hvt;obtain ⟨n,hn⟩:∃n,n=Zfh t:=⟨_,rfl⟩;obtain ⟨e2,he2⟩:∃n,n=(TW t).2:=⟨_,rfl⟩;rw [<-hn,<-he2] at hN hnr;rw [<-hn] at hfn;rw [e0 n] at hN;refine Zi ?_;refine yU (Zm 6 Zj) fun v37=>?_;refine cP 38 (cA call80 hN) fun va38 vb38 hva38 hvb38=>?_;cases hvb38;refine Y8 ?_;refine Zt zT 3 8 Yh fun h8=>?_;refine Zn 8 Zj ?_;refine ZW ?_;(refine Y8 ?_<;>(refine bLd 43 (fun hb43=>?_) (fun hb43=>?_)<;>(first|refine kL ?_|refine yU (Zm 8 Zj) fun v44=>?_))<;>(first|refine kL ?_|(refine cV (cA call79 (HQ n hfn)) ?_))<;>refine WF ?_)<;>(
 refine cX ?_ ?_<;>intro hb47
 . (
 refine Zi ?_;refine xM (ZA YB) ?_;refine Zn 2 Zj ?_;refine ZD ?_;refine ZN (k:=3) 2 results24 ?_;rw [Ztt hv h40 hvt (hnr.elim (fun h=>Qe h.1 (by rw [<-h.2.1];first|(exfalso;exact hb43 h.2.2)|(simpa using hb47))) fun h=>h.1)];rfl)
 . first|exact bN hb47|(
 refine Zi ?_;refine yU (Zm 8 Zj) fun v49=>?_;refine Zn 2 Zj ?_;refine ZD ?_;refine ZN (k:=3) 2 results24 ?_;obtain ⟨h8,rfl,_⟩:Gp (Yt t)=true/\n=Yt t/\e2=0:=hnr.resolve_right fun h=>Qe h.2.2 (by have:=hb43;omega);rw [ZsN hv h40 hvt h8];rfl))
def Zo9 (l:List Var):sumV (fun x=>x.acts.length) (Y6 l)=sumV (fun x=>x.acts.length) l:=by
 unfold sumV Y6
 rw [XB];rfl
def Zd2 (l:List Var) (hl:l.length<=1000000) (hb:Jg l=none) (h1:∀x l',l=x::l'->(x.acts=[]->AF prog 81 [ZV l'] (· = .tup [JA,Zb 5]))/\(x.acts≠[]->AF prog 124 [ZV (Y6 l)] (· = .tup [Ji g0,Zb 5]))):AF prog 81 [ZV l] (· = .tup [JA,Zb 5]):=by
 have hB:=(ZcV l).reread (Zbj l) (Co l)
 rw [hb] at hB
 dsimp only [Option.getD,Option.isSome] at hB
 refine AF.b1 128 func81 rfl ntmps81 (Xa rfl) fun w0 M0 v0 _=>?_
 refine Zi ?_
 refine Zt zT 3 2 Yh fun h2=>?_;refine JG ?_;refine cP 21 (cA call32 hB) fun va21 vb21 hva21 hvb21=>?_;cases hvb21;refine Y8 ?_;refine Zt zT 3 4 Yh fun h4=>?_;refine Zn 4 Zj ?_;refine KG ?_
 refine cCf ?_
 obtain ⟨x,l',rfl⟩:∃x l',l=x::l':=by cases l with|nil=>cases hb|cons x l'=>exact ⟨x,l',rfl⟩
 obtain ⟨h2,h3⟩:=h1 x l' rfl
 have e1:((x::l').flatMap YL)[0*2+0]? =some (ZX x.acts):=rfl
 have e3:0<(x::l').length:=Vc _
 have hcl:((x::l').flatMap YL).length=(x::l').length*2:=Z1 ZM _
 refine Zi ?_
 refine xL 26 Za (xL 27 (Ze Zv) (xL 28 (Yg Z8) ?_));refine yU (Zw ZG) fun v29=>?_;refine xL 30 (Zu Zo) (xL 31 Jb ?_);refine ZC ?_ ?_<;>intro hb31
 . (
 have hT1:=h2 (Xv oM);unfold JA at hT1;refine Wp ?_;refine xM (Wd (i:=1) (j:=(x::l').length) Zv rfl rfl rfl rfl (Vc _) (Xd _) hcl) ?_;refine Zz (Ki (t:=34) (p':=ZV l') rfl (Cp x l')) fun _=>?_;refine cP 35 (cA call81 hT1) fun va35 vb35 hva35 hvb35=>?_;cases hvb35;refine Y8 ?_;refine Zt zT 3 6 Yh fun h6=>?_;refine Zn 6 Zj ?_;refine JG ?_;refine xL (v:= .bool true) (p:= .val (.bool true)) 39 (T' (a:=5) (b:=0)) ?_;refine ZZ ?_;refine cCt ?_;refine Zi ?_;refine xL 40 (ZA YB) (xL 41 Za ?_);refine Zn 2 Zj ?_;refine ZD ?_;exact ZN (k:=3) 2 results81 rfl)
 have hM:=h3 (fun h=>hb31 (by rw [h];rfl));refine Wp ?_;refine cU (cA call125 (Cn (x::l') hl)) fun v48=>?_;refine cP 49 (cA call124 hM) fun va49 vb49 hva49 hvb49=>?_;cases hvb49;refine Y8 ?_;refine Zt [(.slice none 0 0),(.slice none 0 0),(.slice none 0 0),(.slice none 0 0)] 4 8 JW fun h8=>?_;refine Zn 8 Yu ?_;refine JG ?_;refine xL (v:= .bool true) (p:= .val (.bool true)) 53 (T' (a:=5) (b:=0)) ?_;refine ZZ ?_;refine cCt ?_;refine Zi ?_;refine xL 54 (ZA YB) (xL 55 Za ?_);refine Zn 2 Zj ?_;refine ZD ?_;exact ZN (k:=3) 2 results81 rfl
def Zgt (l:List Var):evA (Y6 l)=evA l:=by
 unfold evA Y6
 rw [List.flatMap_map]
def Zrb {x:Var} (hx:x.acts=[]) (l:List Var):evA (x::l)=evA l:=by
 unfold evA
 rw [Xq,hx];rfl
def Zh4 (l:List Var):(evA l).length<=(l.flatMap (·.acts)).length:=by
 have:=Zgq (l.flatMap (·.acts)) []
 rw [Xw,XC] at this
 exact this
def Zpa {l:List Var} {u:Nd} (h:Jg l=some u):(evA l).length<=1:=by
 have h1:=Zh4 l
 match l,h,h1 with
 |[],_,h1=>exact XI h1 dC
 | [x],h,h1=>
   unfold Jg at h;dsimp only at h;rw [Xq,XP,Xo] at h1;match hx:x.acts with
   |[]=>rw [hx] at h1;exact XI h1 dC
   |[s]=>rw [hx] at h1;exact h1
   |_::_::_=>rw [hx] at h;cases h
def Zgu:∀(l:List Var),validVars l=true->40<(evA l).length->AF prog 81 [ZV l] (· = .tup [JA,Zb 5]):=fun l=>by
 induction l with
 | nil=>
   intro _ h;have h1:(evA ([]:List Var)).length<=0:=Zh4 [];exact Qe h oM
 | cons x l ih=>
   intro hv h;have hlen:=SD hv;have hb:Jg (x::l)=none:=by
    cases hb:Jg (x::l) with
    |none=>rfl
    |some u=>exact Qe h (by have:=Zpa hb;omega)
   refine Zd2 (x::l) oM hb fun y m e=>?_
   cases e;refine ⟨fun hx=>ih (Zbk hv) (by rw [<-Zrb hx l];exact h),fun hx=>?_⟩;have hvo:=Rz hv;have hoko:=TE hvo;have hfit:RJ (Y6 (x::l)):=⟨by rw [LP];omega,fun y hy=>Px (hoko y hy)⟩;exact ζw (ZcM (Y6 (x::l)) hfit) (.inr (.inl ⟨hvo,by rw [<-ZjP hvo,Zgt];exact h,rfl,rfl⟩))
def Zh5 (l:List Var) (t:Nd) (hf:RJ l) (hF:FitT t) (hT:validVars l=true->(evA l).length<=40->AF prog 81 [ZV l] (· = .tup [pTr t,Zb 0])):AF prog 25 [ZV l] (· = .tup [(dX l t).1,Zb (dX l t).2]):=by
 have e0:∀u:Nd,pTr u= .agg [Zb u.op,Zx u.act,YJ u.l]:=fun _=>rfl
 refine AF.b1 27 func25 rfl ntmps25 (Xa rfl) fun w0 M0 v0 _=>?_
 refine Zi ?_
 refine Zt zT 3 2 Yh fun h2=>?_;refine JG ?_;refine cV (cA call31 (G1 l hf)) ?_;refine Wg ?_ ?_<;>intro hb8
 . (
 refine Zi ?_;refine xM (ZA YB) ?_;refine Zn 2 Zj ?_;refine ZD ?_;refine ZN (k:=3) 2 results25 ?_;rw [Ztq (by simpa using hb8)];rfl)
 (have hv:validVars l=true:=by simpa using hb8);obtain ⟨u,e,hu,huF,hue⟩:∃(u:Nd) (e:Int),AF prog 81 [ZV l] (· = .tup [pTr u,Zb e])/\FitT u/\(((evA l).length<=40/\e=0/\u=t)\/(40<(evA l).length/\e=5)):=by
  by_cases h40:(evA l).length<=40
  . exact ⟨t,0,hT hv h40,hF, .inl ⟨h40,rfl,rfl⟩⟩
  exact ⟨nd0,5,(Zgu l hv oM).reread rfl (PR Lh),TI, .inr ⟨oM,rfl⟩⟩
 rw [e0] at hu;refine Wp ?_;refine cP 12 (cA call81 hu) fun va12 vb12 hva12 hvb12=>?_;cases hvb12;refine Y8 ?_;refine Zt zT 3 4 Yh fun h4=>?_;refine Zn 4 Zj ?_;refine ZW ?_;refine Wv ?_ ?_<;>intro hb16
 . (
 obtain ⟨h40,rfl⟩:40<(evA l).length/\e=5:=oM;refine Zi ?_;refine xL 17 (ZA YB) (xL 18 Za ?_);refine Zn 2 Zj ?_;refine ZD ?_;refine ZN (k:=3) 2 results25 ?_;rw [Ztr hv h40];rfl)
 obtain ⟨h40,_,hut⟩:=hue.resolve_right (fun h=>oM);refine Zi ?_;refine yU (Zm 4 Zj) fun v19=>?_;refine cV (cA call82 (Dd u huF)) ?_;refine Wg ?_ ?_<;>intro hb21
 . (
 refine Zi ?_;refine xM (ZA YB) ?_;refine Zn 2 Zj ?_;refine ZD ?_;refine ZN (k:=3) 2 results25 ?_;rw [Zts hv h40 (by rw [<-hut];simpa using hb21)];rfl)
 (have hvt:Gp t=true:=by rw [<-hut];simpa using hb21);have hN:(Gp (Yt t)=true/\AF prog 83 [pTr u] (· = .tup [pTr (Yt t),Zb 0]))\/(Gp (Yt t)=false/\AF prog 83 [pTr u] (· = .tup [JA,Zb 5])):=by
  have h:=Zhd u huF;rw [hut] at h ⊢;unfold TW at h;rw [Qd hvt] at h
  cases h2:Gp (Yt t) with
  |true=>rw [h2,Qd rfl] at h;exact .inl ⟨rfl,h⟩
  |false=>rw [h2,Qc dC] at h;exact .inr ⟨rfl,h⟩
 rw [e0 (Yt t)] at hN;unfold JA at hN;refine Zi ?_;(refine yU (Zm 4 Zj) fun v23=>?_<;>(rcases hN with ⟨hd,hN⟩|⟨hd,hN⟩<;>(refine cP 24 (cA call83 hN) fun va24 vb24 hva24 h=>?_;cases h))<;>refine YW ?_<;>refine Zn 2 Zj ?_<;>refine ZD ?_)<;>(
 refine ZN (k:=3) 2 results25 ?_
 first
  |(rw [ZsN hv h40 hvt hd];rfl)
  |(rw [Ztt hv h40 hvt hd];rfl))
def ZsP:ZoY:=fun l c hV hF h40 hs hfl=>Zh2 l c hV hF oM hs hfl
def Zml (w:World) (l:List Var) (hf:RJ l) (hl:l.length<=1000) (hfew:sumV (fun x=>x.acts.length) l<=300):∃(u:Nd) (e:Int),AF prog 24 [ZV l] (· = .tup [pTr u,Zb e])/\AF prog 25 [ZV l] (· = .tup [pTr u,Zb e])/\FitT u:=by
 have key:∃t,FitT t/\(validVars l=true->(evA l).length<=40->AF prog 77 [ZV (Y6 l)] (· = .tup [pTr t,Zb 0])/\AF prog 81 [ZV l] (· = .tup [pTr t,Zb 0])):=by
  by_cases h:validVars l=true/\(evA l).length<=40
  . obtain ⟨hv,h40⟩:=h;have hvo:=Rz hv;have hG:GoodL (Y6 l):=⟨hvo,fun v hv=>by
     unfold Y6 at hv;obtain ⟨x,_,rfl⟩:=Xp.1 hv;rfl,by rw [Zo9];exact hfew,by rw [<-ZjP hvo,Zgt];exact h40⟩
    obtain ⟨t,h1,h2,h3⟩:=Zq1 w ZsP (ZbG (Y6 l)+1) l (UN _) hv hG;exact ⟨t,h3,fun _ _=>⟨h1,h2⟩⟩
  exact ⟨nd0,TI,fun h1 h2=>Qe ⟨h1,h2⟩ h⟩
 obtain ⟨t,hF,hT⟩:=key
 exact ⟨dN l t,(dX l t).2,(Zbo l t hf oM hF fun h1 h2=>(hT h1 h2).1).reread (ZrM l t) (PR (ZrL l t)),(Zh5 l t hf hF fun h1 h2=>(hT h1 h2).2).reread (ZrM l t) (PR (ZrL l t)),ZsM l t⟩
def KB:AggT prog 68 2=true:=kR
def Zh6:ElT prog 231 68 2 16 (.agg #[(.int .i64 0),(.int .i64 0)]):=⟨underlying231,by kernel_rfl,rfl,dC⟩
def WN:FldT prog 68 0 0=true:=kR
def Ks:FldT prog 68 1 1=true:=kR
def Zbp:SlT prog 231 68 2=true:=kR
def Zmm:Gk prog 68=some ((.agg #[(.int .i64 0),(.int .i64 0)]),([0,1]:List Nat).map fun o=>(o,1)):=kR
def Zc0:ZeroT prog 68 (.agg #[(.int .i64 0),(.int .i64 0)]):=by unfold ZeroT;kernel_rfl
section
variable {P:Program} {o:Oper} {st:St}
def Zpb {kd:IntKind} {x y:Operand} {t t':TypeId} {a b:Int} {q q':PV} (c:Int) (hc:a.tmod b=c) (ho:o.op= .binOp .rem t x y t':=by exact rfl) (hx:ev st.slots x=some (.int kd a,q):=by exact rfl) (hy:ev st.slots y=some (.int kd b,q'):=by exact rfl) (hb:b≠0:=by first|decide|omega):YE P st o (· = .int kd c) (.val (.int kd c)):=by
 subst hc;exact Ztc ho hx hy hb
def Zpc {x y:Operand} {q q':PV} {ats:Array TypeId} {k:IntKind} {a b:Int} (c:Int) (hc:(if b>a then b else a)=c) (ho:o.op= .call {callee:= .builtin .max,args:= #[x,y],argTypes:=ats}:=by exact rfl) (hx:ev st.slots x=some (.int k a,q):=by exact rfl) (hy:ev st.slots y=some (.int k b,q'):=by exact rfl):YE P st o (· = .int k c) (.val (.int k c)):=
 y2 hx hy fun ρ w h3 h4=>by
  simp [execOp,ho,h3,h4,resolve,invoke,builtin,Builtin.max_,Builtin.max2,hc]
end
def cFr (x:Int×Int):List PV:=[Zb x.1,Zb x.2]
def pFr (x:Int×Int):PV:= .agg (cFr x)
def Zrc (l:List (Int×Int)):PV:= .sl l.length (l.flatMap cFr)
def ZjQ (x:Int×Int):(cFr x).length=2:=rfl
def frB (x:Int×Int):Bool:=decide (-1073741824<=x.1)&&decide (x.1<=1073741824)&&decide (1<=x.2)&&decide (x.2<=1073741824)
def Rc (x:Int×Int):Bool:=frB x&&decide (Nat.gcd x.1.natAbs x.2.natAbs=1)
def ZjR (x:Int×Int):frB x=true↔-1073741824<=x.1/\x.1<=1073741824/\1<=x.2/\x.2<=1073741824:=by
 unfold frB
 simp only [Xf,U',and_assoc]
def ζy {x:Int×Int} (h:Rc x=true): -1073741824<=x.1/\x.1<=1073741824/\1<=x.2/\x.2<=1073741824:=by
 unfold Rc at h
 rw [Xf] at h
 exact (ZjR x).1 h.1
def ZjS {x:Int×Int} (h:¬(-1073741824<=x.1/\x.1<=1073741824/\1<=x.2/\x.2<=1073741824)):Rc x=false:=by
 cases h1:Rc x with
 |false=>rfl
 |true=>exact Qe (ζy h1) h
def Zgv {x:Int×Int} (h: -1073741824<=x.1/\x.1<=1073741824/\1<=x.2/\x.2<=1073741824):Rc x=decide (Nat.gcd x.1.natAbs x.2.natAbs=1):=by
 unfold Rc
 rw [(ZjR x).2 h];rfl
def Zgw (x y:Nat):Nat.gcd y (x % y)=Nat.gcd x y:=by
 rw [Nat.gcd_comm y,Nat.gcd_comm x y];exact (Nat.gcd_rec y x).symm
def Zpd (x y:Nat):((x:Int)).tmod (y:Int)=((x % y:Nat):Int):=rfl
def tmod_neg (x y:Nat):(-(x:Int)).tmod (-(y:Int))= -((x % y:Nat):Int):=by
 rw [Int.tmod_neg,Int.neg_tmod];rfl
def Zrd {n d g:Int} (hg:1<=g) (hd:1<=d):(n.tdiv g=n/\d.tdiv g=d)↔g=1:=by
 constructor
 . rintro ⟨_,h⟩;rw [Int.tdiv_eq_ediv_of_nonneg oM] at h;by_cases h1:1<g
   . exfalso;have h2:d / g<d:=Int.ediv_lt_of_lt_mul oM (by have:=Int.mul_lt_mul_of_pos_left h1 (show 0<d by omega);omega);omega
   omega
 rintro rfl;exact ⟨Int.tdiv_one _,Int.tdiv_one _⟩
def Zre (a:Int):(if-a>a then-a else a)=(a.natAbs:Int):=by
 split<;>omega
def Zgx {n g:Int} (hg:1<=g):(n.tdiv g).natAbs<=n.natAbs:=by
 rw [Int.natAbs_tdiv];exact Nat.div_le_self _ _
def uFr:prog.underlying 68=some (.struct (prog.fieldsOf 68)):=kR
def hFr:prog.stoodInHeld 68=false:=kR
def gFr:prog.eqGuardType prog.depth 68=false:=kR
def Zrf {n d:Int} (h1: -1073741824<=n) (h2:n<=1073741824) (h3:1<=d) (h4:d<=1073741824): -1152921504606846976<=n*d/\n*d<=1152921504606846976:=by
 have h5:(n*d).natAbs<=1073741824*1073741824:=by rw [Int.natAbs_mul];exact Nat.mul_le_mul oM oM
 omega
def vFr (m:Int×Int):List Value:=[Value.int .i64 m.1, .int .i64 m.2]
def Zrg (x y:Int×Int):Bool:=decide (x.1=y.1)&&decide (x.2=y.2)
def Zpe (x y:Int×Int) (w:World):(Op.eqFields 9999 (vFr x).toArray (vFr y).toArray (prog.fieldsOf 68).toList).run prog w= .ok (Zrg x y) w:=by
 unfold vFr Zrg
 simp only [Program.fieldsOf,underlying68]
 simp [Op.eqFields,part,run_equalIn_int w 9998 3 .i64 .i64 x.1 y.1 underlying3,run_equalIn_int w 9998 3 .i64 .i64 x.2 y.2 underlying3]
 by_cases h1:x.1=y.1<;>by_cases h2:x.2=y.2<;>simp [h1,h2]
def ZsQ (a b:Nat):AF prog 241 [Zb (a:Int),Zb (b:Int)] (· =Zb (Nat.gcd a b:Int)):=by
 refine AF.b2 12 func241 rfl ntmps241 (Xa rfl) ?_
 rintro w0 M0 _ _ rfl rfl
 refine ZF ?_
 refine Y0 (ι:={x:Nat×Nat//Nat.gcd x.1 x.2=Nat.gcd a b}) (fun k=>⟨[(0, .int .i64 k.1.1,Zb k.1.1),(1, .int .i64 k.1.2,Zb k.1.2)],[]⟩) (fun k=>k.1.2) ⟨(a,b),rfl⟩ (fun a w H=>H.weaken sB trivial) ?_
 rintro ⟨⟨x,y⟩,hg⟩
 dsimp only
 dsimp only at hg
 refine W8 ?_ ?_<;>intro hb6
 . (
 refine nav ?_;refine Yx [] [] ?_<;>refine gDx 0 ?_<;>refine gDx 1 ?_<;>refine gDx 2 ?_<;>refine xD 3 rfl (Zpb ((x % y:Nat):Int) (Zpd x y)) ?_<;>refine gEx 4 ?_<;>refine gEx 5 ?_<;>refine Wo ?_;refine Zh (
  ⟨(y,x % y),by rw [<-hg];exact Zgw x y⟩
  ) (by show x % y<y;exact V0 _ oM) sB trivial)
 refine ZP ?_;refine Zg results241 rfl ?_;obtain rfl:y=0:=oM;rw [<-hg,Nat.gcd_zero_right]
def Zpf (x:Int×Int):AF prog 197 [pFr x] (· =Zr (Rc x)):=by
 have e0:pFr x= .agg [Zb x.1,Zb x.2]:=rfl
 rw [e0]
 obtain ⟨n,d⟩:=x
 dsimp only
 refine AF.b1 33 func197 rfl ntmps197 (Xa rfl) fun w0 M0 v0 _=>?_
 refine Zi ?_
 refine Z4 1 2 fun h1=>?_;refine ZW ?_
 (refine xM (Zc 1 WN) ?_<;>refine yV (Zf 1 Zq) ?_<;>refine YW ?_<;>(refine bLd 6 (fun hb6=>?_) (fun hb6=>?_)<;>(first|refine kL ?_|refine xM (Zc 1 WN) ?_))<;>(first|refine kL ?_|refine yV (Zf 1 Zq) ?_)<;>refine Kg ?_<;>(first|refine kL ?_|(refine bLd 11 (fun hb11=>?_) (fun hb11=>?_)<;>(first|refine kL ?_|refine xM (Zc 1 Ks) ?_)))<;>(first|refine kL ?_|refine yV (Zf 1 Zq) ?_)<;>refine Kg ?_<;>(first|refine kL ?_|(refine bLd 16 (fun hb16=>?_) (fun hb16=>?_)<;>(first|refine kL ?_|refine xM (Zc 1 Ks) ?_)))<;>(first|refine kL ?_|refine yV (Zf 1 Zq) ?_)<;>refine Kg ?_<;>(first|refine kL ?_|(refine bLd 21 (fun hb21=>?_) (fun hb21=>?_)<;>(first|refine kL ?_|refine xM (Zc 1 WN) ?_)))<;>(first|refine kL ?_|refine yV (Zf 1 Zq) ?_)<;>(first|refine kL ?_|refine xM (Zc 1 WN) ?_)<;>(first|refine kL ?_|refine yV (Zf 1 Zq) ?_)<;>refine kZ ?_<;>(first|refine kL ?_|refine xM (Zpc (n.natAbs:Int) (Zre n)) ?_)<;>(first|refine kL ?_|refine xM (Zc 1 Ks) ?_)<;>(first|refine kL ?_|refine yV (Zf 1 Zq) ?_)<;>(first|refine kL ?_|(refine (show ∃m:Nat,d=m from ⟨d.toNat,oM⟩).elim fun m hm=>?_;subst hm;refine cV (cA call241 (ZsQ n.natAbs m)) ?_))<;>refine KR ?_)<;>(
 refine Zg results197 rfl ?_
 first
  |(rw [Zgv (by dsimp only;omega)];dsimp only [Int.natAbs_natCast];congr 2;simp only [decide_eq_decide];omega)
  |(rw [ZjS (by dsimp only;omega)]))
def Zh7 (x:Int×Int):AF prog 196 [pFr x] (· =Zr (!Rc x)):=by
 have hV:=Zpf x
 have e0:pFr x= .agg [Zb x.1,Zb x.2]:=rfl
 rw [e0] at hV ⊢
 refine AF.b1 6 func196 rfl ntmps196 (Xa rfl) fun w0 M0 v0 _=>?_
 refine Zi ?_
 refine Z4 1 2 fun h1=>?_;refine ZW ?_
 refine yU (Zm 1 KB) fun v3=>?_;refine cV (cA call197 hV) ?_;refine W2 ?_
 exact Zg results196 rfl rfl
def Zh8 (f:Nat) (p:Int×Int->Bool) (l:List (Int×Int)) (hl:l.length<=140737488355328) (hc:∀args w,(callFunc f args).run prog w= .ok (.enter f args) w) (hf:∀s∈l,AF prog f [pFr s] (· =Zr (p s))):AF prog 240 [Zrc l, .fn f []] (· =Zb (idx p l)):=by
 refine AF.b2 19 func240 rfl ntmps240 (Xa rfl) fun w0 M0 v0 v1 _ _=>?_
 refine WK ?_
 refine xL 6 Za (xL 7 (Zu Zbp) (xL 8 Za ?_));refine ZZ ?_
 refine Y0 (ι:={k:Nat//k<=l.length/\∀i y,i<k->l[i]? =some y->p y=false}) (fun k=>⟨[(0,_,_),(1,_,_),(7,_,_),(8, .int .i64 k.1,Zb k.1)],[]⟩) (fun k=>l.length-k.1) ⟨0,oM,oM⟩ (fun a w H=>H.weaken sB trivial) ?_
 rintro ⟨k,hk,hp⟩
 dsimp only
 refine Ys ?_ ?_<;>intro hb9
 . (
 obtain ⟨x,hx⟩:=gS l k;have e1:=Y4 ZjQ l k x hx;have e2:=Ww ZjQ hx;refine Jh ?_;refine xL 11 Za (xL 12 Za (xL 13 Za (xL 14 (Ze Zbp) ?_)));refine yU (We KB) fun v15=>?_;refine cV (LW (f:=f) (ps:=[]) rfl ⟨_,rfl⟩ hc rfl (hf x (Xb hx))) ?_;refine ZC ?_ ?_<;>intro hb16
 . (
 refine ZP ?_;refine Zg results240 rfl ?_;rw [Lb hp hx hb16])
 refine ZP ?_;refine Zh (
  ⟨k+1,oM,fun i y hi hy=>by
   by_cases e:i=k
   . subst e;rw [hx] at hy;cases hy;exact hb16
   . exact hp i y oM hy⟩
  ) (by dsimp only;omega) sB trivial)
 refine ZF ?_;refine Zg results240 rfl ?_;rw [LU fun i y hi hy=>hp i y oM hy]
def ZbI (f:Nat) (p:Int×Int->Bool) (l:List (Int×Int)) (hl:l.length<=140737488355328) (hc:∀args w,(callFunc f args).run prog w= .ok (.enter f args) w) (hf:∀s∈l,AF prog f [pFr s] (· =Zr (p s))):AF prog 195 [Zrc l, .fn f []] (· =Zr (l.any p)):=by
 refine AF.b2 9 func195 rfl ntmps195 (Xa rfl) fun w0 M0 v0 v1 _ _=>?_
 refine RF ?_;refine cV (cA call240 (Zh8 f p l hl hc hf)) ?_;refine W2 ?_
 refine Zg results195 rfl ?_
 rw [LS]
def Zmn (l:List (Int×Int)) (hl:l.length<=1000):AF prog 133 [Zrc l] (· =Zr (!l.any fun x=> !Rc x)):=by
 refine AF.b1 6 func133 rfl ntmps133 (Xa rfl) fun w0 M0 v0 _=>?_
 refine PH ?_;refine cV (cA call195 (ZbI 196 (fun x=> !Rc x) l oM call196 (fun x _=>Zh7 x))) ?_;refine W2 ?_
 exact Zg results133 rfl rfl
def ZsR (x:Int×Int):AF prog 93 [pFr x,pFr x] (· = .tup [Zb 0,Zb (if Rc x then 0 else 1)]):=by
 have e0:pFr x= .agg [Zb x.1,Zb x.2]:=rfl
 have hV:=Zmn [x,x] (show 2<=1000 by decide)
 rw [show Zrc [x,x]= .sl 2 [Zb x.1,Zb x.2,Zb x.1,Zb x.2] from rfl,show (!([x,x].any fun x=> !Rc x))=Rc x by cases h:Rc x<;>simp [h]] at hV
 rw [e0]
 refine AF.b2 31 func93 rfl ntmps93 (Xa rfl) fun w0 M0 v0 v1 _ _=>?_
 refine Zi ?_
 refine Z4 2 2 fun h2=>?_;refine Z4 3 2 fun h3=>?_;refine JF ?_
 refine yU (Zm 2 KB) fun v8=>?_;refine yU (Zm 3 KB) fun v9=>?_;refine J5 (kk:=2) (xs:=[_,_]) (cs:=[[_,_],[_,_]]) 10 Zh6 fun h10 ho10=>?_;refine Zz (En.freeze (l:=10) (t:=10) rfl rfl) fun _=>?_;refine cV (cA call133 hV) ?_;refine Wg ?_ ?_<;>intro hb12
 . (
 refine ZP ?_;refine Y3 results93 rfl rfl ?_;rw [Qc (by simpa using hb12)])
 (have hok:Rc x=true:=by simpa using hb12);obtain ⟨b1,b2,b3,b4⟩:=ζy hok;have hp1:=Zrf b1 b2 b3 b4;refine nav ?_;refine Yx [] [2,3] ?_<;>refine xD 0 rfl (Zc 2 WN) ?_<;>(refine yD 1 rfl (Zf 2 Zq) fun v14 h=>?_;cases h)<;>refine xD 2 rfl (Zc 3 Ks) ?_<;>(refine yD 3 rfl (Zf 3 Zq) fun v16 h=>?_;cases h)<;>refine xD 4 rfl ZbS ?_<;>refine xD 5 rfl (Zc 3 WN) ?_<;>(refine yD 6 rfl (Zf 3 Zq) fun v19 h=>?_;cases h)<;>refine xD 7 rfl (Zc 2 Ks) ?_<;>(refine yD 8 rfl (Zf 2 Zq) fun v21 h=>?_;cases h)<;>refine xD 9 rfl ZbS ?_<;>refine gEx 10 ?_<;>refine gEx 11 ?_<;>refine Wo ?_;refine Zp ?_;refine LB ?_;refine ZC ?_ ?_<;>intro hb23
 . exfalso;omega
 refine Zi ?_;refine LB ?_;refine ZC ?_ ?_<;>intro hb27
 . exfalso;omega
 refine Zi ?_;refine W2 ?_;refine Y3 results93 rfl rfl ?_;rw [Qd hok]
def Zmo (n d:Int) (h1: -1073741824<=n) (h2:n<=1073741824) (h3:1<=d) (h4:d<=1073741824):AF prog 134 [Zb n,Zb d] (· = .tup [pFr (n.tdiv (Nat.gcd n.natAbs d.natAbs:Int),d.tdiv (Nat.gcd n.natAbs d.natAbs:Int)),Zb 0]):=by
 obtain ⟨D,rfl⟩:∃D:Nat,d=D:=⟨d.toNat,oM⟩
 rw [Int.natAbs_natCast]
 refine AF.b2 59 func134 rfl ntmps134 (Xa rfl) ?_
 rintro w0 M0 _ _ rfl rfl
 refine Zi ?_
 refine Zt [(.int .i64 0),(.int .i64 0)] 2 4 Zc0 fun h4=>?_;refine ZW ?_;refine Wv ?_ ?_<;>intro hb11
 . exfalso;omega
 . refine Zi ?_;refine JF ?_;refine W2 ?_;refine Ja (fun x:{x:Int//∃A:Nat,x= -(A:Int)/\A=n.natAbs}=>⟨[(0, .int .i64 n,Zb n),(1, .int .i64 (D:Int),Zb (D:Int)),(4,padd (sbase h4) 0, .val (padd (sbase h4) 0)),(6, .int .i64 x.1,Zb x.1)],[(4,h4, .own 68 2 1 ([.int .i64 0, .int .i64 0].map PV.val))]⟩) ?_ ?_
   . refine cX ?_ ?_<;>intro hb15
     . (
 refine YQ ?_
 first
  |exact Yo ⟨-n,n.natAbs,oM,rfl⟩ sB sB
  |exact Yo ⟨n,n.natAbs,oM,rfl⟩ sB sB)
     . (
 refine nav ?_
 first
  |exact Yo ⟨-n,n.natAbs,oM,rfl⟩ sB sB
  |exact Yo ⟨n,n.natAbs,oM,rfl⟩ sB sB)
   . rintro ⟨x, A,rfl,hA⟩;dsimp only;refine Jh ?_;refine Wv ?_ ?_<;>intro hb20
     . refine Zi ?_;refine Zip ?_;refine Yl (ι:={x:Nat×Nat//Nat.gcd x.1 x.2=Nat.gcd A D}) (fun k=>⟨[(0,_,_),(1,_,_),(4,_,_),(6, .int .i64 (-(k.1.1:Int)),Zb (-(k.1.1:Int))),(7, .int .i64 (-(k.1.2:Int)),Zb (-(k.1.2:Int)))],[(4,_,_)]⟩) (fun k=>k.1.2) ⟨(A,D),rfl⟩ ?_;rintro ⟨⟨x,y⟩,hg⟩;dsimp only;dsimp only at hg;refine W8 ?_ ?_<;>intro hb24
       . (
 refine nav ?_;refine Yx [] [] ?_<;>refine gDx 0 ?_<;>refine gDx 1 ?_<;>refine gDx 2 ?_<;>refine xD 3 rfl (Zpb (-((x % y:Nat):Int)) (tmod_neg x y)) ?_<;>refine gEx 4 ?_<;>refine gEx 5 ?_<;>refine Wo ?_;refine Zh (
  ⟨(y,x % y),by rw [<-hg];exact Zgw x y⟩
  ) (by show x % y<y;exact V0 _ oM) sB sB)
       . (
 obtain rfl:y=0:=oM;rw [Nat.gcd_zero_right] at hg;have hx1:(1:Int)<=(x:Int):=by
  have:=Nat.gcd_pos_of_pos_right A (show 0<D by omega);omega
 (have hxD:x ∣ D:=by rw [hg];exact Nat.gcd_dvd_right A D);have q1:=Zgx (n:=n) hx1;have q2:=Zgx (n:=(D:Int)) hx1;have q3:(1:Int)<=(D:Int).tdiv (x:Int):=by
  have h9:0<D / x:=Nat.div_pos (Nat.le_of_dvd oM hxD) oM;have h8:(D:Int).tdiv (x:Int)=((D / x:Nat):Int):=rfl;omega
 (have hres:(n.tdiv (Nat.gcd n.natAbs D:Int),(D:Int).tdiv (Nat.gcd n.natAbs D:Int))=(n.tdiv (x:Int),(D:Int).tdiv (x:Int)):=by rw [hg,hA]);obtain ⟨N1,hN1⟩:∃z,z=n.tdiv (x:Int):=⟨_,rfl⟩;obtain ⟨D1,hD1⟩:∃z,z=(D:Int).tdiv (x:Int):=⟨_,rfl⟩;rw [<-hN1] at q1 hres;rw [<-hD1] at q2 q3 hres;refine Kt ?_;refine xM (ZrC (-N1) (by rw [Int.tdiv_neg,hN1]) oM oM) ?_;refine ZW ?_;refine YW ?_;refine xM (ZrC (-D1) (by rw [Int.tdiv_neg,hD1]) oM oM) ?_;refine ZW ?_;refine Wv ?_ ?_<;>intro hb36
 . refine Zi ?_;refine Y8 ?_;refine YT ?_;refine Y8 ?_;refine YT ?_;(refine Y8 ?_<;>(refine bLd 43 (fun hb43=>?_) (fun hb43=>?_)<;>refine kZ ?_)<;>refine Kg ?_<;>(first|refine kL ?_|(refine bLd 47 (fun hb47=>?_) (fun hb47=>?_)<;>refine kZ ?_))<;>refine Kg ?_<;>(first|refine kL ?_|(refine bLd 51 (fun hb51=>?_) (fun hb51=>?_)<;>refine kZ ?_))<;>refine WF ?_)<;>(
 refine cX ?_ ?_<;>intro hb54
 . exfalso;omega
 refine Zi ?_;refine xL 56 Za (xL 57 Za (xL 58 (ZA Zmm) ?_));refine Zn 4 KB ?_;refine ZD ?_;refine ZN (k:=2) 4 results134 ?_;rw [hres,show pFr (N1,D1)= .agg [Zb (- -N1),Zb (- -D1)] by rw [Int.neg_neg,Int.neg_neg];rfl];rfl)
 . exfalso;omega)
     exfalso;omega
def Zh9 (x:Int×Int):AF prog 95 [pFr x] (· =Zr (Rc x)):=by
 have e0:pFr x= .agg [Zb x.1,Zb x.2]:=rfl
 rw [e0]
 obtain ⟨n,d⟩:=x
 dsimp only
 refine AF.b1 34 func95 rfl ntmps95 (Xa rfl) fun w0 M0 v0 _=>?_
 refine Zi ?_
 refine Z4 1 2 fun h1=>?_;refine ZW ?_
 (refine xM (Zc 1 WN) ?_<;>refine yV (Zf 1 Zq) ?_<;>refine YW ?_<;>(refine bLd 8 (fun hb8=>?_) (fun hb8=>?_)<;>(first|refine kL ?_|refine xM (Zc 1 WN) ?_))<;>(first|refine kL ?_|refine yV (Zf 1 Zq) ?_)<;>refine Kg ?_<;>(first|refine kL ?_|(refine bLd 13 (fun hb13=>?_) (fun hb13=>?_)<;>(first|refine kL ?_|refine xM (Zc 1 Ks) ?_)))<;>(first|refine kL ?_|refine yV (Zf 1 Zq) ?_)<;>refine Kg ?_<;>(first|refine kL ?_|(refine bLd 18 (fun hb18=>?_) (fun hb18=>?_)<;>(first|refine kL ?_|refine xM (Zc 1 Ks) ?_)))<;>(first|refine kL ?_|refine yV (Zf 1 Zq) ?_)<;>refine WF ?_)<;>(
 refine cX ?_ ?_<;>intro hb22
 . (
 refine ZF ?_;refine Zg results95 rfl ?_;rw [ZjS (by dsimp only;omega)])
 . first|exact bN hb22|(
 have hbd: -1073741824<=n/\n<=1073741824/\1<=d/\d<=1073741824:=oM;obtain ⟨b1,b2,b3,b4⟩:=hbd;have hM:=Zmo n d b1 b2 b3 b4;have hg1:(1:Int)<=(Nat.gcd n.natAbs d.natAbs:Int):=by
  have:=Nat.gcd_pos_of_pos_right n.natAbs (show 0<d.natAbs by omega);omega
 have hfin:Rc (n,d)=Zrg (n.tdiv (Nat.gcd n.natAbs d.natAbs:Int),d.tdiv (Nat.gcd n.natAbs d.natAbs:Int)) (n,d):=by
  rw [Zgv ⟨b1,b2,b3,b4⟩];unfold Zrg;rw [<-Bool.decide_and,decide_eq_decide,Zrd hg1 b3];exact ⟨fun h=>by dsimp only at h ⊢;omega,fun h=>by dsimp only;omega⟩
 obtain ⟨N1,hN1⟩:∃z,z=n.tdiv (Nat.gcd n.natAbs d.natAbs:Int):=⟨_,rfl⟩;obtain ⟨D1,hD1⟩:∃z,z=d.tdiv (Nat.gcd n.natAbs d.natAbs:Int):=⟨_,rfl⟩;rw [<-hN1,<-hD1] at hM hfin;rw [show pFr (N1,D1)= .agg [Zb N1,Zb D1] from rfl] at hM;refine Zi ?_;refine xM (Zc 1 WN) ?_;refine yV (Zf 1 Zq) ?_;refine xM (Zc 1 Ks) ?_;refine yV (Zf 1 Zq) ?_;refine cP 28 (cA call134 hM) fun va28 vb28 hva28 hvb28=>?_;cases hvb28;refine Y8 ?_;refine Zt [(.int .i64 0),(.int .i64 0)] 2 3 Zc0 fun h3=>?_;refine Zn 3 KB ?_;refine ZW ?_;refine yU (Zm 3 KB) fun v31=>?_;refine yU (Zm 1 KB) fun v32=>?_;refine xM ((Ztb (us:=vFr (N1,D1)) (us':=vFr (n,d)) uFr hFr gFr (Zpe _ _) rfl rfl)) ?_;refine ZD ?_;refine Zg results95 rfl ?_;rw [hfin]))
def Zpg:ZeroT prog 3 (.int .i64 0):=by unfold ZeroT;kernel_rfl
def GK (l:List Var):Int:=l.foldl (fun m x=>if m<x.count then x.count else m) 0
def Re {l:List Var} {k:Nat} {x:Var} (h:l[k]? =some x):GK (l.take (k+1))=if GK (l.take k)<x.count then x.count else GK (l.take k):=by
 unfold GK;rw [ZR h,Ue];rfl
def Zgy (l:List Var) (h:∀x∈l,x.count<=1048576):0<=GK l/\GK l<=1048576:=by
 unfold GK
 have aux:∀(l:List Var) (m:Int),(∀x∈l,x.count<=1048576)->0<=m->m<=1048576->0<=l.foldl (fun m x=>if m<x.count then x.count else m) m/\l.foldl (fun m x=>if m<x.count then x.count else m) m<=1048576:=fun l=>by
  induction l with
  |nil=>exact fun m _ h1 h2=>⟨h1,h2⟩
  | cons x l ih=>
    intro m h h1 h2;have hx:=h x (Xu ..);refine ih _ (fun y hy=>h y (Xt _ hy)) ?_ ?_
    . dsimp only;split<;>omega
    dsimp only;split<;>omega
 exact aux l 0 h dC dC
def DY (s:Int×Int) (m:Int) (x:Var):Bool:=decide (x.count*s.2<s.1*m)
def ζa (l:List Var) (s:Int×Int):List Var:=l.filter fun x=> !DY s (GK l) x
def ζz {a b:Int} (h1:0<=a) (h2:a<=1073741824) (h3:0<=b) (h4:b<=1073741824):0<=a*b/\a*b<=1152921504606846976:=by
 have h5:(a*b).natAbs<=1073741824*1073741824:=by rw [Int.natAbs_mul];exact Nat.mul_le_mul oM oM
 exact ⟨Int.mul_nonneg h1 h3,oM⟩
def nX (l:List Var) (s:Int×Int) (u:Nd) (e:Int):PV×Int:=if Rc s=true/\validVars l=true then (if s.1<0\/s.2<s.1 then (JA,2) else (pTr u,e)) else (JA,1)
def nN (l:List Var) (s:Int×Int) (u:Nd):Nd:=if Rc s=true/\validVars l=true then (if s.1<0\/s.2<s.1 then nd0 else u) else nd0
def ZrN (l:List Var) (s:Int×Int) (u:Nd) (e:Int):Rr (nX l s u e).1 (pTr (nN l s u)):=by
 unfold nX nN
 split
 . split
   . exact Lh
   exact Rr.rfl' _
 exact Lh
def ZrO (l:List Var) (s:Int×Int) (u:Nd) (e:Int):shD (.tup [(nX l s u e).1,Zb (nX l s u e).2])=true:=by
 unfold nX
 split
 . split<;>rfl
 rfl
def ZsS (l:List Var) (s:Int×Int) {u:Nd} (h:FitT u):FitT (nN l s u):=by
 unfold nN
 split
 . split
   . exact TI
   exact h
 exact TI
def Zmp (x:Var) (s:Int×Int) (m:Int) (h1:0<=x.count) (h2:x.count<=1073741824) (h3:0<=s.1) (h4:s.1<=1073741824) (h5:0<=s.2) (h6:s.2<=1073741824) (h7:0<=m) (h8:m<=1073741824):AF prog 94 [.agg (YL x), .sptr 0 [Zb s.1,Zb s.2], .sptr 0 [Zb m]] (· =Zr (DY s m x)):=by
 have b1:=ζz h1 h2 h5 h6
 have b2:=ζz h3 h4 h7 h8
 refine AF.b3 15 func94 rfl ntmps94 (Xa rfl) fun w0 M0 v0 v1 v2 _ _ _=>?_
 refine Zi ?_
 refine Z4 3 2 fun h3=>?_;refine ZW ?_
 refine xM (Zc 3 YH) ?_;refine yV (Zf 3 Zq) ?_;refine xM (Yg Ks) ?_;refine yV (Zw Zq) ?_;refine xL 9 ZbS (xL 10 (Yg WN) ?_);refine yV (Zw Zq) ?_;refine yV (Zw Zq) ?_;refine xL 13 ZbS (xL 14 Yn (xL 4 Wj ?_));refine ZZ ?_
 exact Zg results94 rfl rfl
def Zgz (l:List Var) (s:Int×Int) (hf:RJ l) (hl:l.length<=1000000) (u:Nd) (e:Int) (hD:validVars l=true->AF prog 24 [ZV (ζa l s)] (· = .tup [pTr u,Zb e])):AF prog 35 [ZV l,pFr s] (· = .tup [(nX l s u e).1,Zb (nX l s u e).2]):=by
 have e0:pFr s= .agg [Zb s.1,Zb s.2]:=rfl
 have e1:pTr u= .agg [Zb u.op,Zx u.act,YJ u.l]:=rfl
 have hC:=ZsR s
 rw [e1] at hD
 rw [e0] at hC ⊢
 obtain ⟨c,hc⟩:∃c:Int,c=if Rc s then 0 else 1:=⟨_,rfl⟩
 rw [<-hc] at hC
 refine AF.b2 54 func35 rfl ntmps35 (Xa rfl) fun w0 M0 v0 v1 _ _=>?_
 refine Zi ?_
 refine Z4 3 2 fun h3=>?_;refine Zt zT 3 4 Yh fun h4=>?_;refine ZW ?_
 refine yU (Zm 3 KB) fun v12=>?_;refine yU (Zm 3 KB) fun v13=>?_;refine cP 14 (cA call93 hC) fun va14 vb14 hva14 hvb14=>?_;cases hvb14;refine Ts ?_
 (refine Y8 ?_<;>(refine bLd 19 (fun hb19=>?_) (fun hb19=>?_)<;>refine kZ ?_)<;>(first|refine kL ?_|(refine cV (cA call9 (J8 l hf)) ?_))<;>refine WF ?_)<;>(
 refine cX ?_ ?_<;>intro hb23
 . (
 refine Zi ?_;refine xM (ZA YB) ?_;refine Zn 4 Zj ?_;refine ZD ?_;refine ZN (k:=3) 4 results35 ?_;rw [show nX l s u e=(JA,1) by
  unfold nX;rw [Qc];rintro ⟨h1,h2⟩;rw [h1] at hc
  first
   |exact Qe hc hb19
   |(rw [h2] at hb23;cases hb23)]
 rfl)
 . first | exact bN hb23|(
 have hok:Rc s=true:=by
  cases h:Rc s with
  |true=>rfl
  |false=>rw [h] at hc;exact Qe hc (by have:=hb19;intro h9;simp at h9;omega)
 (have hv:validVars l=true:=by simpa using hb23);have hbd:=ζy hok;(have hcb:∀x∈l,1<=x.count/\x.count<=1048576:=fun x hx=>by have:=O4 (TE hv x hx);omega);have hDl:=hD hv;refine Zi ?_;(refine xM (Zc 3 WN) ?_<;>refine yV (Zf 3 Zq) ?_<;>refine YW ?_<;>(refine bLd 28 (fun hb28=>?_) (fun hb28=>?_)<;>(first|refine kL ?_|refine xM (Zc 3 WN) ?_))<;>(first|refine kL ?_|refine yV (Zf 3 Zq) ?_)<;>(first|refine kL ?_|refine xM (Zc 3 Ks) ?_)<;>(first|refine kL ?_|refine yV (Zf 3 Zq) ?_)<;>refine WF ?_)<;>(
 refine cX ?_ ?_<;>intro hb34
 . (
 refine Zi ?_;refine xM (ZA YB) ?_;refine Zn 4 Zj ?_;refine ZD ?_;refine ZN (k:=3) 4 results35 ?_;rw [show nX l s u e=(JA,2) by unfold nX;rw [Qd ⟨hok,hv⟩,Qd oM]];rfl)
 . first |exact bN hb34|(
 have hs0:0<=s.1/\s.1<=s.2:=oM;refine Zi ?_;refine Zt [(.int .i64 0)] 1 8 Zpg fun h8=>?_;refine JY 8 Zq Po ?_;refine YT ?_;refine xL 36 Za (xL 37 (Zu Zv) (xL 38 Za ?_));refine ZZ ?_;refine Yl (ι:={q:Nat×Int//q.1<=l.length/\q.2=GK (l.take q.1)}) (fun k=>⟨[(0,_,_),(3,_,_),(4,_,_),(8,_,_),(36,_,_),(37,_,_),(38, .int .i64 k.1.1,Zb k.1.1)],[(3,_,_),(4,_,_),(8,h8, .own 3 1 1 [Zb k.1.2])]⟩) (fun k=>l.length-k.1.1) ⟨(0,0),Xg _,rfl⟩ ?_;rintro ⟨⟨i,m⟩,hi,hm⟩;dsimp only;dsimp only at hi hm;refine Ys ?_ ?_<;>intro hb39
 . (
 obtain ⟨x,hx⟩:=gS l i;have e1:=Y4 ZM l i x hx;have e2:=Ww ZM hx;refine Zi ?_;refine xM (Ze Zv) ?_;refine yU (We W9) fun v41=>?_;refine Zt [(.slice none 0 0),(.int .i64 0)] 2 10 R7 fun h10=>?_;refine Zn 10 W9 ?_;refine YT ?_;refine yV (Zf 8 Zq) ?_;refine xM (Zc 10 YH) ?_;refine yV (Zf 10 Zq) ?_;refine xM (Zpc (if m<x.count then x.count else m) rfl) ?_;refine JY 8 Zq Po ?_;refine Ox ?_;refine Yk (
  ⟨(i+1,if m<x.count then x.count else m),Zd hx,by dsimp only;rw [Re hx,<-hm]⟩
  ))
 (obtain rfl:m=GK l:=by rw [hm,Xs oM]);have hmb:=Zgy l fun x hx=>(hcb x hx).2;refine nav ?_;refine Zs (TH (l:=8) (t:=8) (j:=0) rfl Vi rfl) fun _=>?_;refine Zs (TH (l:=3) (t:=3) (j:=0) rfl Vi rfl) fun _=>?_;refine J2 ?_;refine cO 48 (cA call11 (OY l hl)) fun v48 ho48=>?_;refine xM SI ?_;refine Zz (ZK (l:=48) 1000 rfl rfl) fun _=>?_;refine Gn [(1000,_,_),(4,_,_)] sB ?_;refine Rs [4] 50 call10 (ZdL 94 [.sptr 0 [Zb s.1,Zb s.2], .sptr 0 [Zb (GK l)]] (fun x=>DY s (GK l) x) l hl v48 _ call94 (fun x hx=>Zmp x s (GK l) (by have:=hcb x hx;omega) (by have:=hcb x hx;omega) hs0.1 oM oM oM hmb.1 oM)) ?_;rintro v50 _ _ ⟨rfl,rfl⟩;refine Zz (En.freeze (l:=1000) (t:=50) rfl rfl) fun _=>?_;rw [S3 _ _ _ rfl];refine cP 51 (cA call24 hDl) fun va51 vb51 hva51 hvb51=>?_;cases hvb51;refine YW ?_;refine Zn 4 Zj ?_;refine ZD ?_;refine ZN (k:=3) 4 results35 ?_;rw [show nX l s u e=(pTr u,e) by unfold nX;rw [Qd ⟨hok,hv⟩,Qc oM]];rfl))))
def ZgA (l : List Var) (s:Int×Int) (hf:RJ l) (hl:l.length<=1000000) (u:Nd) (e:Int) (hD:validVars l=true->AF prog 25 [ZV (ζa l s)] (· = .tup [pTr u,Zb e])):AF prog 36 [ZV l,pFr s] (· = .tup [(nX l s u e).1,Zb (nX l s u e).2]):=by
 have e0:pFr s= .agg [Zb s.1,Zb s.2]:=rfl
 have e1:pTr u= .agg [Zb u.op,Zx u.act,YJ u.l]:=rfl
 have hC:=Zh9 s
 rw [e1] at hD
 rw [e0] at hC ⊢
 refine AF.b2 78 func36 rfl ntmps36 (Xa rfl) fun w0 M0 v0 v1 _ _=>?_
 refine Zi ?_
 refine Z4 3 2 fun h3=>?_;refine Zt zT 3 4 Yh fun h4=>?_;refine ZW ?_
 (refine YU ?_ <;> (refine cV (cA call31 (G1 l hf)) ?_)<;>refine YW ?_<;>(refine bL 13 (fun hb13=>?_) (fun hb13=>?_)<;>(first|refine kL ?_|refine yU (Zm 3 KB) fun v14=>?_))<;>(first|refine kL ?_|(refine cV (cA call95 hC) ?_))<;>refine WF ?_)<;>(
 refine cX ?_ ?_<;>intro hb17
 . (
 refine Zi ?_;refine xM (ZA YB) ?_;refine Zn 4 Zj ?_;refine ZD ?_;refine ZN (k:=3) 4 results36 ?_;rw [show nX l s u e=(JA,1) by
  unfold nX;rw [Qc];rintro ⟨h1,h2⟩
  first
   |(rw [h2] at hb13;cases hb13;done)
   |(rw [h1] at hb17;cases hb17;done)]
 rfl)
 . first | exact bN hb17|(
 (have hok:Rc s=true:=by simpa using hb17);(have hv:validVars l=true:=by simpa using hb13);have hbd:=ζy hok;(have hcb:∀x∈l,1<=x.count/\x.count<=1048576:=fun x hx=>by have:=O4 (TE hv x hx);omega);have hDl:=hD hv;refine Zi ?_;(refine xM (Zc 3 WN) ?_<;>refine yV (Zf 3 Zq) ?_<;>refine YW ?_<;>(refine bLd 22 (fun hb22=>?_) (fun hb22=>?_)<;>(first|refine kL ?_|refine xM (Zc 3 WN) ?_))<;>(first|refine kL ?_|refine yV (Zf 3 Zq) ?_)<;>(first|refine kL ?_|refine xM (Zc 3 Ks) ?_)<;>(first|refine kL ?_|refine yV (Zf 3 Zq) ?_)<;>refine WF ?_)<;>(
 refine cX ?_ ?_<;>intro hb28
 . (
 refine Zi ?_;refine xM (ZA YB) ?_;refine Zn 4 Zj ?_;refine ZD ?_;refine ZN (k:=3) 4 results36 ?_;rw [show nX l s u e=(JA,2) by unfold nX;rw [Qd ⟨hok,hv⟩,Qd oM]];rfl)
 . first | exact bN hb28|(
 have hs0:0<=s.1/\s.1<=s.2:=oM;refine Jx ?_;refine Yl (ι:={q:Nat×Int//q.1<=l.length/\q.2=GK (l.take q.1)}) (fun k=>⟨[(0,_,_),(3,_,_),(4,_,_),(6, .int .i64 k.1.2,Zb k.1.2),(7, .int .i64 k.1.1,Zb k.1.1)],[(3,_,_),(4,_,_)]⟩) (fun k=>l.length-k.1.1) ⟨(0,0),Xg _,rfl⟩ ?_;rintro ⟨⟨i,m⟩,hi,hm⟩;dsimp only;dsimp only at hi hm;refine Zi ?_;refine xL 30 Za (xL 31 Za (xL 32 (Zu Zv) (xL 33 Yn ?_)));refine ZC ?_ ?_<;>intro hb33
 . (
 obtain ⟨x,hx⟩:=gS l i;(have e2:(l.flatMap YL)[i*2+1]? =some (Zb x.count):=by rw [Yr ZM hx (j:=1) dC];rfl);refine Zi ?_;refine xL 36 Za (xL 37 Za (xL 38 (Ze Zv) (xL 39 (Yg YH) ?_)));refine yV (Zw Zq) ?_;refine Wv ?_ ?_<;>intro hb42
 . (
 refine Zi ?_;refine xL 43 Za (xL 44 Za (xL 45 (Ze Zv) (xL 46 (Yg YH) ?_)));refine yV (Zw Zq) ?_;refine KQ ?_
 first
  | (exact Yk (
      ⟨(i+1,x.count),Zd hx,by dsimp only;rw [Re hx,<-hm,Qd oM]⟩
      ))
  | (exact Yk (
      ⟨(i+1,m),Zd hx,by dsimp only;rw [Re hx,<-hm,Qc oM]⟩
      )))
 refine YQ ?_
 first
  | (exact Yk (
      ⟨(i+1,x.count),Zd hx,by dsimp only;rw [Re hx,<-hm,Qd oM]⟩
      ))
  | (exact Yk (
      ⟨(i+1,m),Zd hx,by dsimp only;rw [Re hx,<-hm,Qc oM]⟩
      )))
 (obtain rfl:m=GK l:=by rw [hm,Xs oM]);have hmb:=Zgy l fun x hx=>(hcb x hx).2;have b2:=ζz hs0.1 (show s.1<=1073741824 by omega) hmb.1 (show GK l<=1073741824 by omega);refine Jx ?_;refine Zs (YO 200 28 2 rfl) fun _=>?_;refine Yl (ι:={q:Nat×Value×List Var//q.1<=l.length/\q.2.2=(l.take q.1).filter fun x=> !DY s (GK l) x}) (fun k=>⟨[(0,_,_),(3,_,_),(4,_,_),(6,_,_),(8,k.1.2.1, .val k.1.2.1),(9, .int .i64 k.1.1,Zb k.1.1)],[(3,_,_),(4,_,_),(200,k.1.2.1, .own 28 2 k.1.2.2.length (k.1.2.2.flatMap YL))]⟩) (fun k=>l.length-k.1.1) ⟨(0, .slice none 0 0,[]),Xg _,rfl⟩ ?_;rintro ⟨⟨i,h8,K⟩,hi,hK⟩;dsimp only;dsimp only at hi hK;(have hKl:K.length<=i:=by have h9:=Vl (fun x=> !DY s (GK l) x) (l.take i);rw [<-hK,XA] at h9;omega);have hfl:=Z1 ZM K;refine Zi ?_;refine xL 48 Za (xL 49 Za (xL 50 (Zu Zv) (xL 51 Yn ?_)));refine ZC ?_ ?_<;>intro hb51
 . (
 obtain ⟨x,hx⟩:=gS l i;(have e2:(l.flatMap YL)[i*2+1]? =some (Zb x.count):=by rw [Yr ZM hx (j:=1) dC];rfl);have e3:=Y4 ZM l i x hx;have e4:=Ww ZM hx;have hcx:=hcb x (Xb hx);have b1:=ζz (show 0<=x.count by omega) (show x.count<=1073741824 by omega) (show 0<=s.2 by omega) (show s.2<=1073741824 by omega);refine nav ?_;refine Yx [] [3] ?_<;>refine gDx 0 ?_<;>refine gDx 1 ?_<;>refine xD 2 rfl (Ze Zv) ?_<;>refine xD 3 rfl (Yg YH) ?_<;>(refine yD 4 rfl (Zw Zq) fun v58 h=>?_;cases h)<;>refine xD 5 rfl (Zc 3 Ks) ?_<;>(refine yD 6 rfl (Zf 3 Zq) fun v60 h=>?_;cases h)<;>refine xD 7 rfl ZbS ?_<;>refine xD 8 rfl (Zc 3 WN) ?_<;>(refine yD 9 rfl (Zf 3 Zq) fun v63 h=>?_;cases h)<;>refine gEx 10 ?_<;>refine xE 11 rfl ZbS ?_<;>refine gEx 12 ?_<;>refine Wo ?_;refine cX ?_ ?_<;>intro hb66
 . (
 refine Zi ?_;refine xL 67 Za (xL 68 Za (xL 69 Za (xL 70 (Ze Zv) ?_)));refine yU (We W9) fun v71=>?_;refine Wy 72 WI fun h72 ho72=>?_;refine Y7 200 72 73 WI fun h73 ho73=>?_;refine KQ ?_
 first|(refine ZJ (ZK (l:=73) 200 rfl rfl) fun _=>?_;refine ZJ (Wm (l:=200) rfl (show PV.own 28 2 (K.length+1) (K.flatMap YL++YL x)=PV.own 28 2 (K++[x]).length ((K++[x]).flatMap YL) by rw [Xe,XR,Ud];rfl)) fun _=>?_)|skip
 first
  | (exact Yk (
      ⟨(i+1,h73,K++[x]),Zd hx,by dsimp only;rw [ZR hx,Vs,<-hK,VU,show DY s (GK l) x=false from Qb oM];rfl⟩
      ))
  | (exact Yk (
      ⟨(i+1,h8,K),Zd hx,by dsimp only;rw [ZR hx,Vs,<-hK,VU,show DY s (GK l) x=true from Qa oM];simp⟩
      )))
 refine YQ ?_
 first|(refine ZJ (ZK (l:=73) 200 rfl rfl) fun _=>?_;refine ZJ (Wm (l:=200) rfl (show PV.own 28 2 (K.length+1) (K.flatMap YL++YL x)=PV.own 28 2 (K++[x]).length ((K++[x]).flatMap YL) by rw [Xe,XR,Ud];rfl)) fun _=>?_)|skip
 first
  | (exact Yk (
      ⟨(i+1,h73,K++[x]),Zd hx,by dsimp only;rw [ZR hx,Vs,<-hK,VU,show DY s (GK l) x=false from Qb oM];rfl⟩
      ))
  | (exact Yk (
      ⟨(i+1,h8,K),Zd hx,by dsimp only;rw [ZR hx,Vs,<-hK,VU,show DY s (GK l) x=true from Qa oM];simp⟩
      )))
 (have hKe:K=ζa l s:=by rw [hK,Xs oM];rfl);refine nav ?_;refine Zs (En.freeze (l:=200) (t:=8) rfl rfl) fun _=>?_;rw [S3 _ _ _ rfl,hKe];refine J2 ?_;refine cP 75 (cA call25 hDl) fun va75 vb75 hva75 hvb75=>?_;cases hvb75;refine YW ?_;refine Zn 4 Zj ?_;refine ZD ?_;refine ZN (k:=3) 4 results36 ?_;rw [show nX l s u e=(pTr u,e) by unfold nX;rw [Qd ⟨hok,hv⟩,Qc oM]];rfl))))
def Zph (l:List Var) (s:Int×Int):(ζa l s).length<=l.length/\sumV (fun x=>x.acts.length) (ζa l s)<=sumV (fun x=>x.acts.length) l:=by
 refine ⟨Vl _ _,?_⟩
 unfold ζa sumV
 generalize (fun x=> !DY s (GK l) x)=p
 induction l with
 |nil=>exact Uj _
 | cons x l ih=>
   rw [VU];split
   . rw [Xn,Xn,VC,VC];omega
   rw [Xn,VC];omega
def Zpi {l:List Var} (h:RJ l) (s:Int×Int):RJ (ζa l s):=⟨XI (Vl _ _) h.1,fun x hx=>h.2 x (XF.1 hx).1⟩
def Zia (w:World) (l:List Var) (s:Int×Int) (hf:RJ l) (hl:l.length<=1000) (hfew:sumV (fun x=>x.acts.length) l<=300):∃(u:Nd) (e:Int),AF prog 35 [ZV l,pFr s] (· = .tup [pTr u,Zb e])/\AF prog 36 [ZV l,pFr s] (· = .tup [pTr u,Zb e])/\FitT u:=by
 obtain ⟨h1,h2⟩:=Zph l s
 obtain ⟨u,e,g1,g2,g3⟩:=Zml w (ζa l s) (Zpi hf s) oM oM
 exact ⟨nN l s u,(nX l s u e).2,(Zgz l s hf oM u e fun _=>g1).reread (ZrO l s u e) (PR (ZrN l s u e)),(ZgA l s hf oM u e fun _=>g2).reread (ZrO l s u e) (PR (ZrN l s u e)),ZsS l s g3⟩
def Ob (op:Int):BA:=if op=3 then ⟨#[115,101,113]⟩ else if op=4 then ⟨#[120,111,114]⟩ else if op=5 then ⟨#[97,110,100]⟩ else ⟨#[108,111,111,112]⟩
def Zc1 (op:Int):(Ob op).data.toList.length<=4:=by
 unfold Ob
 split
 . decide
 split
 . decide
 split<;>decide
def O5:List (List UInt8)->List UInt8
 |[]=>[]
 |[x]=>x
 |x::y::m=>x++[44,32]++O5 (y::m)
def Zc2 (x:List UInt8):∀m:List (List UInt8),O5 (m++[x])=O5 m++(if m=[] then [] else [44,32])++x
 |[]=>by simp [O5]
 |[y]=>by simp [O5]
 | y::z::m=>by
   have:=Zc2 x (z::m);simp only [Vh] at this ⊢;rw [O5,this,O5];simp
mutual
def Tl:Nd->List UInt8
 | .mk o a l=>if o=1 then a.data.toList else if o=2 then [40,41] else (Ob o).data.toList++[40]++O5 (Tg l)++[41]
def Tg:List Nd->List (List UInt8)
 |[]=>[]
 |x::l=>Tl x::Tg l
end
def Zbq (l:List Nd):Tg l=l.map Tl:=by
 induction l with
 |nil=>rfl
 |cons x l ih=>rw [Tg,ih];rfl
def Zbr (m:List (List UInt8)) (n:List Nat) (h:m.map List.length=n):(O5 m).length<=n.sum+2*n.length:=by
 subst h
 match m with
 |[]=>simp [O5]
 |[x]=>simp [O5]
 | x::y::m=>
   have:=Zbr (y::m) _ rfl;rw [O5];simp only [Xe,Xn,VC,Xh,Xw,Xc] at this ⊢;omega
def ZgB:∀t:Nd,okT t=true->(Tl t).length+2<=50*szT t:=Nd.ind fun o a l ih hok=>by
 obtain ⟨hr,hp⟩:=J3.1 hok
 have h40:=Ze3 hr
 simp only [Nd.l,Nd.act] at hp h40
 have h1:(a.data.toList).length=a.size:=Va
 have h2:((Tg l).map List.length).sum+2*((Tg l).map List.length).length<=50*szL l:=by
  clear hok hr;induction l with
  |nil=>simp [Tg]
  | cons x l ih2=>
    have h3:=ih x (Xu ..) (hp x (Xu ..));have h4:=ih2 (fun y hy=>ih y (Xt _ hy)) (fun y hy=>hp y (Xt _ hy));rw [Tg,szL];simp only [Xn,VC,Xh,Xc] at h4 ⊢;omega
 have h3:=Zbr (Tg l) _ rfl
 have h4:=Zc1 o
 rw [Tl,szT]
 split
 . omega
 split
 . simp only [Xh,Xw];omega
 simp only [Xe,Xh,Xw];omega
def Zib {l:List Nd} {k:Nat} {x:Nd} (h:l[k]? =some x):O5 (Tg (l.take (k+1)))=O5 (Tg (l.take k))++(if k=0 then [] else [44,32])++Tl x:=by
 rw [ZR h,Zbq,XX,Xn,Vz,Zc2,<-Zbq]
 have hk:=Zd h
 by_cases h0:k=0
 . subst h0;rfl
 rw [Qc h0,Qc];intro he;have:=congrArg List.length he;rw [Zbq,Xc,XA,Xw] at this;omega
def Zmq {l:List Nd} (hp:∀x∈l,okT x=true) (k:Nat):(O5 (Tg (l.take k))).length<=50*szL (l.take k)/\szL (l.take k)<=szL l:=by
 have h2:∀m:List Nd,(∀x∈m,okT x=true)->((Tg m).map List.length).sum+2*((Tg m).map List.length).length<=50*szL m:=fun m=>by
  induction m with
  |nil=>intro _;simp [Tg]
  | cons x m ih2=>
    intro hm;have h3:=ZgB x (hm x (Xu ..));have h4:=ih2 (fun y hy=>hm y (Xt _ hy));rw [Tg,szL];simp only [Xn,VC,Xh,Xc] at h4 ⊢;omega
 have h3:=Zbr (Tg (l.take k)) _ rfl
 have h4:=h2 (l.take k) fun x hx=>hp x (V' hx)
 have h5:szL (l.take k)<=szL l:=by
  conv=>rhs;rw [<-Vw k l]
  rw [Ln];omega
 exact ⟨oM,h5⟩
end Go.Proofs.YtmkojdfiadbeeaaGreat
namespace Go.En
open Go.RowKit Go.Cb
section
variable {P:Program} {c:Ctx} {Q:Exit->Act->World->Prop} {sL hP:List (Nat×Ent)}
end
section
variable {P:Program} {st:St} {o:Oper} {x y:Operand} {q q':PV} {t t':TypeId}
end
section
variable {P:Program}
end
variable {P:Program} {c:Ctx} {ops:Array Oper} {Q:Exit->Act->World->Prop} {rest:List Oper} {sL hP:List (Nat×Ent)} {o:Oper}
section
variable {P:Program} {ops:Array Oper} {Q:Exit->Act->World->Prop} {Pp:List PanicEntry->World->Prop} {md:Region.Mode} {C:World->Prop} {Z:Nat->Bool}
end
section
variable {P:Program} {c:Ctx} {ops:Array Oper} {Q:Exit->Act->World->Prop} {Pp:List PanicEntry->World->Prop} {Z:Nat->Bool} {K:List Nat} {fuel:Nat} {listed:Array Bool} {sL hP:List (Nat×Ent)} {o:Oper}
end
section
variable {P:Program} {st:St} {o:Oper} {x y:Operand} {q q':PV} {t t':TypeId}
def ZsT {a b:BA} (ho:o.op= .binOp .add t x y t':=by exact rfl) (hx:ev st.slots x=some (.string a,q):=by exact rfl) (hy:ev st.slots y=some (.string b,q'):=by exact rfl) (hs:(a.size:Int)+b.size<=9223372036854775807:=by omega):YE P st o (· = .string (a++b)) (.val (.string (a++b))):=
 y2 hx hy fun ρ w h3 h4=>by simp [execOp,ho,h3,h4,eqGuard,binOp,Op.stringOp];omega
end
end Go.En
namespace Go.Proofs.YtmkojdfiadbeeaaGreat
open Go.RowKit Go.Cb Go.En Tryz
def bst (l:List UInt8):BA:=⟨l.toArray⟩
def ZjT (s:BA):bst s.data.toList=s:=by cases s;simp [bst]
def Zbs (l:List UInt8):(bst l).size=l.length:=by simp [bst,ByteArray.size]
structure Tk where
 kind:Int
 text:List UInt8
 n:Int
 ln:Int
 col:Int
def syms:List (List UInt8):=[[45,62],[61,62],[60,61],[62,61],[33,61],[61,61],[58,61],[46,46],[40],[41],[91],[93],[123],[125],[44],[59],[58],[46],[124],[38],[33],[63],[43],[45],[42],[47],[61],[60],[62],[64],[37],[94],[126]]
inductive Lt where
 |ok (n:Nat) (t:List UInt8)
 |err (e:Int)
inductive Lx where
 |ok (kind:Int) (text:List UInt8) (n:Int) (len:Nat)
 |err (e:Int)
structure LexOk (l:List UInt8) (kd:Int) (tx:List UInt8) (n:Int) (len:Nat):Prop where
 le:len<=l.length
 endk:l=[]↔kd=5
 pos:l≠[]->1<=len
 tlen:tx.length<=len
 lo:0<=n
 hi:n<=4503599627370496
def EndL (l:List Tk):Prop:=∃a e,l=a++[e]/\e.kind=5/\∀x∈a,x.kind≠5
structure TkOk (t:Tk):Prop where
 text:t.text.length<=16384
 lo:0<=t.n
 hi:t.n<=4503599627370496
inductive Rd where
 |ok (t:Nd) (m:List Tk)
 |err (t:Tk)
structure RdOk (m:List Tk) (t:Nd) (m2:List Tk):Prop where
 lt:m2.length<m.length
 suf:m2<:+m
 endl:EndL m2
def O6:FldT prog 51 0 0=true:=kR
def ZgC:FldT prog 51 1 1=true:=kR
abbrev pB (l:List UInt8):PV:=Zx (bst l)
def ZgD (t:Nd):BA×Int:=if Gp t=true then (if 16384<(Tl t).length then (ByteArray.empty,5) else (⟨(Tl t).toArray⟩,0)) else (ByteArray.empty,1)
def Zrh (l m:List UInt8):bst l++bst m=bst (l++m):=by
 unfold bst
 apply ByteArray.ext
 simp
def Zpj (op:Int):AF prog 178 [Zb op] (· =Zx (Ob op)):=by
 refine AF.b1 10 func178 rfl ntmps178 (Xa rfl) ?_
 rintro w0 M0 _ rfl
 refine D4 ?_;refine Wv ?_ ?_<;>intro hb4
 . (
 refine ZF ?_;refine Zg results178 rfl ?_;rw [Ob,Qd (by assumption)])
 refine W8 ?_ ?_<;>intro hb6
 . (
 refine ZF ?_;refine Zg results178 rfl ?_;rw [Ob,Qc (by assumption),Qd (by assumption)])
 refine W8 ?_ ?_<;>intro hb8
 . (
 refine ZF ?_;refine Zg results178 rfl ?_;rw [Ob,Qc (by assumption),Qc (by assumption),Qd (by assumption)])
 refine ZF ?_;refine Zg results178 rfl ?_;rw [Ob,Qc (by assumption),Qc (by assumption),Qc (by assumption)]
def Ey {P:Program} {st:St} {o:Oper} {x y:Operand} {q q':PV} {t t':TypeId} (l m:List UInt8) (hs:l.length+m.length<=9223372036854775807) (ho:o.op= .binOp .add t x y t':=by exact rfl) (hx:ev st.slots x=some (.string (bst l),q):=by exact rfl) (hy:ev st.slots y=some (.string (bst m),q'):=by exact rfl):YE P st o (· = .string (bst (l++m))) (pB (l++m)):=by
 have:=ZsT (P:=P) ho hx hy (by rw [Zbs,Zbs];omega)
 rw [Zrh] at this
 exact this
def Zpk : ∀ t :Nd,okT t=true->szT t<=1000000->AF prog 117 [pTr t] (· =pB (Tl t)):=Nd.ind fun o a l ih hok hs=>by
 have e0:pTr (.mk o a l)= .agg [Zb o,Zx a,YJ l]:=rfl
 rw [e0]
 obtain ⟨hr,hp⟩:=J3.1 hok
 have hf:=Di _ hok hs
 have hsz:=SQ (.mk o a l)
 simp only [Nd.l,Nd.op] at hp hsz
 have hlz:=GP l
 have hW:AF prog 178 [Zb o] (· =pB (Ob o).data.toList):=by
  have:=Zpj o;rw [show pB (Ob o).data.toList=Zx (Ob o) by unfold pB;rw [ZjT]];exact this
 have hwl:=Zc1 o
 obtain ⟨W,hWe⟩:∃W,W=(Ob o).data.toList:=⟨_,rfl⟩
 rw [<-hWe] at hW hwl
 refine AF.b1 38 func117 rfl ntmps117 (Xa rfl) fun w0 M0 v0 _=>?_
 refine Zi ?_
 refine Z4 1 3 fun h1=>?_;refine ZW ?_
 refine xM (Zc 1 O6) ?_;refine yV (Zf 1 Zq) ?_;refine Wg ?_ ?_<;>intro hb7
 . (
 refine Zi ?_;refine xM (Zc 1 ZgC) ?_;refine yV (Zf 1 ZE) ?_;refine ZD ?_;refine Zg results117 rfl ?_;rw [Tl,Qd (by assumption)];unfold pB;rw [ZjT])
 refine Zi ?_;refine xM (Zc 1 O6) ?_;refine yV (Zf 1 Zq) ?_;refine Wg ?_ ?_<;>intro hb12
 . (
 refine ZF ?_;refine Zg results117 rfl ?_;rw [Tl,Qc (by assumption),Qd (by assumption)];rfl)
 refine Zi ?_;refine xM (Zc 1 O6) ?_;refine yV (Zf 1 Zq) ?_;refine cV (cA call178 hW) ?_;refine xM (Ey W [40] (by simp only [Xh,Xw];omega)) ?_;refine KG ?_;refine Yl (ι:={q:Nat×List UInt8//q.1<=l.length/\q.2=W++[40]++O5 (Tg (l.take q.1))}) (fun k=>⟨[(1,_,_),(3, .string (bst k.1.2),pB k.1.2),(4, .int .i64 k.1.1,Zb k.1.1)],[(1,_,_)]⟩) (fun k=>l.length-k.1.1) ⟨(0,W++[40]),Xg _,by rw [Um,Tg,O5,Xo]⟩ ?_;rintro ⟨⟨k,s⟩,hk,hse⟩;dsimp only;(dsimp only at hk hse;have hpl:=Zmq hp k;have hsl:s.length<=4+1+50*szL l:=by (rw [hse,Xe,Xe,Xz];omega));refine Zi ?_;refine xL 17 Za (xL 18 (Zc 1 TZ) ?_);refine yU (Zf 1 Pg) fun v19=>?_;refine xL 20 (Zu K8) (xL 21 Yn ?_);refine ZC ?_ ?_<;>intro hb21
 . (
 obtain ⟨x,hx⟩:=gS l k;have e1:((Z9 l).drop (k*3)).take 3=[Zb x.op,Zx x.act,YJ x.l]:=Yd hx;have e2:=YF hx;have hxm:=Xb hx;have hxs:=PM hxm;have hX:=ih x hxm (hp x hxm) oM;have hxl:=ZgB x (hp x hxm);have hsn:=Zib hx;refine W8 ?_ ?_<;>intro hb25
 . (
 refine Wp ?_;refine xM (Ey s [44,32] (by simp only [Xh,Xw];omega)) ?_;refine ZW ?_;refine xL 28 Za (xL 29 (Zc 1 TZ) ?_);refine yU (Zf 1 Pg) fun v30=>?_;refine xL 31 Za (xL 32 (Ze K8) ?_);refine yU (We Zj) fun v33=>?_;refine cV (cA call117 hX) ?_;refine xM (Ey (s++[44,32]) (Tl x) (by rw [Xe];simp only [Xh,Xw];omega)) ?_;refine KQ ?_
 first
  | (exact Yk (
      ⟨(k+1,s++Tl x),Zd hx,by dsimp only;rw [hsn,Qd oM,hse,Xo,XG]⟩
      ))
  | (exact Yk (
      ⟨(k+1,s++[44,32]++Tl x),Zd hx,by dsimp only;rw [hsn,Qc oM,hse];simp only [XG]⟩
      )))
 refine Zi ?_;refine xL 28 Za (xL 29 (Zc 1 TZ) ?_);refine yU (Zf 1 Pg) fun v30=>?_;refine xL 31 Za (xL 32 (Ze K8) ?_);refine yU (We Zj) fun v33=>?_;refine cV (cA call117 hX) ?_;refine xM (Ey s (Tl x) oM) ?_;refine KQ ?_
 first
  | (exact Yk (
      ⟨(k+1,s++Tl x),Zd hx,by dsimp only;rw [hsn,Qd oM,hse,Xo,XG]⟩
      ))
  | (exact Yk (
      ⟨(k+1,s++[44,32]++Tl x),Zd hx,by dsimp only;rw [hsn,Qc oM,hse];simp only [XG]⟩
      )))
 refine Wp ?_;refine xM (Ey s [41] (by simp only [Xh,Xw];omega)) ?_;refine ZD ?_;refine Zg results117 rfl ?_;rw [Tl,Qc (by assumption),Qc (by assumption),hse,Xs oM,hWe]
def Cr (t:Nd) (hf:FitT t):AF prog 74 [pTr t] (· = .tup [Zx (ZgD t).1,Zb (ZgD t).2]):=by
 have e0:pTr t= .agg [Zb t.op,Zx t.act,YJ t.l]:=rfl
 have hV:=Dd t hf
 have hsz:=Zbs (Tl t)
 rw [e0] at hV ⊢
 refine AF.b1 14 func74 rfl ntmps74 (Xa rfl) fun w0 M0 v0 _=>?_
 refine Zi ?_
 refine Z4 1 3 fun h1=>?_;refine JF ?_
 refine yU (Zm 1 Zj) fun v5=>?_;refine cV (cA call82 hV) ?_;refine Wg ?_ ?_<;>intro hb7
 . (
 refine ZP ?_;refine Y3 results74 rfl rfl ?_;rw [ZgD,Qc (by simpa using hb7)];rfl)
 (have hv:Gp t=true:=by simpa using hb7);have hT:=Zpk t (ζ0 hv) (by have:=ζ1 hv;omega);rw [e0] at hT;refine Zi ?_;refine yU (Zm 1 Zj) fun v8=>?_;refine cV (cA call117 hT) ?_;refine ZW ?_;refine xL 10 Za (xL 11 (Ou underlying9) (xL 12 G3 ?_));refine ZC ?_ ?_<;>intro hb12
 . (
 refine ZP ?_;refine Y3 results74 rfl rfl ?_;rw [ZgD,Qd hv,Qd oM];rfl)
 refine YQ ?_;refine Y3 results74 rfl rfl ?_;rw [ZgD,Qd hv,Qc oM];rfl
def Zpl {α:Type} {R:α->α->Prop} {cs:List α} (h:cs.Pairwise R) (i j:Nat) (a b:α) (hij:i<j) (ha:cs[i]? =some a) (hb:cs[j]? =some b):R a b:=by
 obtain ⟨hi,rfl⟩:=Xk.1 ha
 obtain ⟨hj,rfl⟩:=Xk.1 hb
 exact XW.1 h i j hi hj hij
def Zic {n:Nat} {R:Nat->Nat->Bool} {cs:List (List Int)} (h1:ZhY (upTo n) (relS R) cs=true) (h2:cs.Pairwise fun a b=>¬cmpSeq R b a<0):SeqCs n R cs:=⟨⟨cs,LO h1,List.Perm.refl _⟩,Zpl h2⟩
def Zpm {cs:List (List Int)} {i0:Nat} {c0:List Int} {W:List Int->Bool} {ds:List (List Int)} (hp:ds.Perm (selA i0 W true cs++[c0++(selA i0 W false cs).flatten])) (hs:(c0++(selA i0 W false cs).flatten).Pairwise fun a b=>a<=b) (ho:ds.Pairwise fun a b=>¬YI b-YI a<0):AndCs cs i0 c0 W ds:=by
 refine ⟨?_,Zpl ho⟩
 rw [List.mergeSort_of_pairwise (hs.imp fun h=>Qa h)]
 exact hp
def Zri {n:Nat} {E:Nat->Nat->Bool} {S F:Nat->Bool} {cs:List (List Int)} (hs:(inL n S F++(cs.filter fun c=> !Gq n E S F c).flatten).Pairwise fun a b=>a<=b):GG n E S F cs=(inL n S F++(cs.filter fun c=> !Gq n E S F c).flatten)::cs.filter (Gq n E S F):=by
 unfold GG
 rw [List.mergeSort_of_pairwise (hs.imp fun h=>Qa h)]
def Zrj {g:Dfg} (hd:JM g=true) (hm:g.acts.length<=1000) {o:Option Cut} (h0:Pk (RO (cnames g.acts) (cnames g.acts).length (W3 (cnames g.acts) g.follows) (Y5 (cnames g.acts) g.starts) (Y5 (cnames g.acts) g.ends)) o):AF prog 18 [Ji g] (· = .tup [J' o,Ru o]):=by
 obtain ⟨hf,ha,hs,he,hfo⟩:=ZdZ hd
 have hbg:=Zfu g hf ha hs he
 unfold Zat at hbg
 rw [hd,Qd rfl] at hbg
 have hna:(cnames g.acts).length=g.acts.length:=by simp [cnames]
 have hbg':AF prog 46 [Ji g] (· = .tup [Li (cnames g.acts) (cnames g.acts).length (W3 (cnames g.acts) g.follows) (Y5 (cnames g.acts) g.starts) (Y5 (cnames g.acts) g.ends),Zb 0]):=by rw [hna];exact hbg
 have hFd:=ZaA g _ _ _ _ _ hbg' rfl oM
 refine hFd.mono fun p ⟨o',h1,h2⟩=>?_
 obtain rfl:o'=o:=Zbe (Q:=RO (cnames g.acts) (cnames g.acts).length (W3 (cnames g.acts) g.follows) (Y5 (cnames g.acts) g.starts) (Y5 (cnames g.acts) g.ends)) (fun h k'=>ZcT h k') h1 h0
 exact h2
def Zc3 {l:List Var} (h:validVars l=true):RJ l:=⟨by have:=SD h;omega,fun x hx=>Px (TE h x hx)⟩
def Zid {l:List Var} {u:Nd} (hl:l.length<=1000000) (hb:Jg l=some u):AF prog 77 [ZV l] (· = .tup [pTr u,Zb 0]):=Lz l u hl (fun v h=>by rw [hb] at h;cases h;rfl) (fun x m _ h=>by rw [hb] at h;cases h)
def ZgE {x:Var} {l:List Var} {t:Nd} (hl:(x::l).length<=1000000) (hb:Jg (x::l)=none) (hx:x.acts=[]) (hT:AF prog 77 [ZV l] (· = .tup [pTr t,Zb 0])):AF prog 77 [ZV (x::l)] (· = .tup [pTr (WT 4 [sil,t]),Zb 0]):=
 Lz (x::l) _ hl (fun v h=>by rw [hb] at h;cases h) (fun y m e _=>by cases e;exact ⟨fun _=>⟨t,hT,rfl⟩,fun h=>Qe hx h⟩)
def DT {x:Var} {l:List Var} {g:Dfg} {c:Cut} {out:List (List Var)} {ts:List Nd} (hv:validVars (x::l)=true) (hb:Jg (x::l)=none) (hx:x.acts≠[]) (hm:C7 (x::l) g 0) (hd:JM g=true) (hg:g.acts.length<=1000)
 (hF:Pk (RO (cnames g.acts) (cnames g.acts).length (W3 (cnames g.acts) g.follows) (Y5 (cnames g.acts) g.starts) (Y5 (cnames g.acts) g.ends)) (some c)) (hs:∀p∈c.parts,∀s∈p,s.size<=140737488355328) (hp:c.parts.length<=1000000) (hsp:KW (x::l) c=(out,0))
 (h1:ts.length=out.length) (h2:2<=ts.length) (h3:ts.length<=1000000) (h4:∀r∈out,r.length<=1000000) (hT:∀(i:Nat) (r:List Var) (u:Nd),out[i]? =some r->ts[i]? =some u->AF prog 77 [ZV (Y6 r)] (· = .tup [pTr u,Zb 0])):AF prog 77 [ZV (x::l)] (· = .tup [pTr (Hr c.kind ts),Zb 0]):=by
 have hfit:=Zc3 hv
 have hM:=ζw (Zjv _ hfit) hm
 have hS:=ZfZ _ c hfit hs hp
 unfold RSp at hS
 rw [hsp] at hS
 exact Lz (x::l) _ (by have:=SD hv;omega) (fun v h=>by rw [hb] at h;cases h) (fun y m e _=>by cases e;exact ⟨fun h=>Qe h hx,fun _=>⟨g,hM,oM, .inr ⟨c,out,ts,Zrj hd hg hF,hS,h1,h2,h3,h4,hT,rfl⟩⟩⟩)
def Zd3 {l:List Var} {t:Nd} (hv:validVars l=true) (hf:(l.flatMap (·.acts)).length<=40) (ho:Y6 l=l) (hF:FitT t) (ht:Gp t=true) (hn:Gp (Yt t)=true) (hT:AF prog 77 [ZV l] (· = .tup [pTr t,Zb 0])):AF prog 24 [ZV l] (· = .tup [pTr (Yt t),Zb 0]):=by
 have h:=Zbo l t (Zc3 hv) (by have:=SD hv;omega) hF fun _ _=>by rw [ho];exact hT
 rw [ZsN hv (XI (Zh4 l) hf) ht hn] at h
 exact h
section
variable {P:Program} {o:Oper} {st:St}
def Zd4 {x y:Operand} {q q':PV} {t t':TypeId} {a:BA} (ho:o.op= .binOp .eql t x y t':=by exact rfl) (hx:ev st.slots x=some (.string a,q):=by exact rfl) (hy:ev st.slots y=some (.string a,q'):=by exact rfl):YE P st o (· = .bool true) (.val (.bool true)):=by
 have h:=Zc8 (P:=P) ho hx hy
 rwa [beq_self_eq_true] at h
end
def chA:BA:=⟨#[97]⟩
def chB:BA:=⟨#[98]⟩
def chC:BA:=⟨#[99]⟩
def chD:BA:=⟨#[100]⟩
def vX:List Var:=[⟨[chA,chB,chD],1⟩,⟨[chA,chC,chD],1⟩]
def vX2:List Var:=[⟨[chB],1⟩,⟨[chC],1⟩]
def vY2:List Var:=[⟨[chA,chB],1⟩,⟨[chB,chA],1⟩]
def vY:List Var:=⟨[],1⟩::vY2
def vZ:List Var:=[⟨[chA],1⟩,⟨[chA,chB,chA],1⟩]
def gX:Dfg:=⟨[⟨chA,2⟩,⟨chB,1⟩,⟨chC,1⟩,⟨chD,2⟩],[⟨chA,2⟩],[⟨chD,2⟩],[⟨chA,chB,1⟩,⟨chA,chC,1⟩,⟨chB,chD,1⟩,⟨chC,chD,1⟩]⟩
def gX2:Dfg:=⟨[⟨chB,1⟩,⟨chC,1⟩],[⟨chB,1⟩,⟨chC,1⟩],[⟨chB,1⟩,⟨chC,1⟩],[]⟩
def gY:Dfg:=⟨[⟨chA,2⟩,⟨chB,2⟩],[⟨chA,1⟩,⟨chB,1⟩],[⟨chA,1⟩,⟨chB,1⟩],[⟨chA,chB,1⟩,⟨chB,chA,1⟩]⟩
def gZ:Dfg:=⟨[⟨chA,3⟩,⟨chB,1⟩],[⟨chA,2⟩],[⟨chA,2⟩],[⟨chA,chB,1⟩,⟨chB,chA,1⟩]⟩
def ctX:Cut:=⟨2,[[chA],[chB,chC],[chD]]⟩
def ZsU:Cut:=⟨1,[[chB],[chC]]⟩
def ctY:Cut:=⟨3,[[chA],[chB]]⟩
def ctZ:Cut:=⟨4,[[chA],[chB]]⟩
def Zrk:C7 vX gX 0:= .inr (.inr ⟨by kernel_rfl,by decide+kernel,⟨⟨by
 rw [show (makeM vX).a.map mkC=[⟨chA,2⟩,⟨chB,1⟩,⟨chD,2⟩,⟨chC,1⟩] by kernel_rfl]
 exact ((List.Perm.swap _ _ _).cons _).cons _,by decide+kernel⟩,⟨by rw [show (makeM vX).s.map mkC=gX.starts by kernel_rfl],by decide+kernel⟩,⟨by rw [show (makeM vX).f.map mkC=gX.ends by kernel_rfl],by decide+kernel⟩,⟨by
 rw [show (makeM vX).q.map mkF=[⟨chA,chB,1⟩,⟨chB,chD,1⟩,⟨chA,chC,1⟩,⟨chC,chD,1⟩] by kernel_rfl]
 exact (List.Perm.swap _ _ _).cons _,by decide+kernel⟩⟩,rfl⟩)
def Zpn:C7 vX2 gX2 0:= .inr (.inr ⟨by kernel_rfl,by decide+kernel,⟨⟨by rw [show (makeM vX2).a.map mkC=gX2.acts by kernel_rfl],by decide+kernel⟩,⟨by rw [show (makeM vX2).s.map mkC=gX2.starts by kernel_rfl],by decide+kernel⟩,⟨by rw [show (makeM vX2).f.map mkC=gX2.ends by kernel_rfl],by decide+kernel⟩,⟨by rw [show (makeM vX2).q.map mkF=gX2.follows by kernel_rfl],by decide+kernel⟩⟩,rfl⟩)
def Zrl:C7 vY2 gY 0:= .inr (.inr ⟨by kernel_rfl,by decide+kernel,⟨⟨by rw [show (makeM vY2).a.map mkC=gY.acts by kernel_rfl],by decide+kernel⟩,⟨by rw [show (makeM vY2).s.map mkC=gY.starts by kernel_rfl],by decide+kernel⟩,⟨by
 rw [show (makeM vY2).f.map mkC=[⟨chB,1⟩,⟨chA,1⟩] by kernel_rfl]
 exact List.Perm.swap _ _ _,by decide+kernel⟩,⟨by rw [show (makeM vY2).q.map mkF=gY.follows by kernel_rfl],by decide+kernel⟩⟩,rfl⟩)
def Zrm:C7 vZ gZ 0:= .inr (.inr ⟨by kernel_rfl,by decide+kernel,⟨⟨by rw [show (makeM vZ).a.map mkC=gZ.acts by kernel_rfl],by decide+kernel⟩,⟨by rw [show (makeM vZ).s.map mkC=gZ.starts by kernel_rfl],by decide+kernel⟩,⟨by rw [show (makeM vZ).f.map mkC=gZ.ends by kernel_rfl],by decide+kernel⟩,⟨by rw [show (makeM vZ).q.map mkF=gZ.follows by kernel_rfl],by decide+kernel⟩⟩,rfl⟩)
def Zrn:Pk (RO (cnames gX.acts) (cnames gX.acts).length (W3 (cnames gX.acts) gX.follows) (Y5 (cnames gX.acts) gX.starts) (Y5 (cnames gX.acts) gX.ends)) (some ctX):=
 .inl ⟨1,ctX,dC,fun j hj=>by
  obtain rfl:j=0:=oM;exact ⟨[[0,1,2,3]],LO (by decide+kernel),rfl⟩,⟨[[0],[1,2],[3]],Zic (by decide+kernel) (by decide+kernel),rfl⟩,rfl⟩
def Zpo:Pk (RO (cnames gX2.acts) (cnames gX2.acts).length (W3 (cnames gX2.acts) gX2.follows) (Y5 (cnames gX2.acts) gX2.starts) (Y5 (cnames gX2.acts) gX2.ends)) (some ZsU):=
 .inl ⟨0,ZsU,dC,fun j hj=>Qe hj (Vv j),⟨[[0],[1]],LO (by decide+kernel),rfl⟩,rfl⟩
def Zro:Pk (RO (cnames gY.acts) (cnames gY.acts).length (W3 (cnames gY.acts) gY.follows) (Y5 (cnames gY.acts) gY.starts) (Y5 (cnames gY.acts) gY.ends)) (some ctY):=
 .inl ⟨2,ctY,dC,fun j hj=>by
  match j,hj with
  |0,_=>exact ⟨[[0,1]],LO (by decide+kernel),rfl⟩
  |1,_=>exact ⟨[[0,1]],Zic (by decide+kernel) (by decide+kernel),rfl⟩
  |j+2,hj=>omega,⟨[[0],[1]],LO (by decide+kernel), .inr ⟨0,[0],[[0],[1]],rfl,by decide+kernel,Zpm (by decide+kernel) (by decide+kernel) (by decide+kernel),rfl⟩⟩,rfl⟩
def Zrp:Pk (RO (cnames gZ.acts) (cnames gZ.acts).length (W3 (cnames gZ.acts) gZ.follows) (Y5 (cnames gZ.acts) gZ.starts) (Y5 (cnames gZ.acts) gZ.ends)) (some ctZ):=
 .inl ⟨3,ctZ,dC,fun j hj=>by
  match j,hj with
  |0,_=>exact ⟨[[0,1]],LO (by decide+kernel),rfl⟩
  |1,_=>exact ⟨[[0,1]],Zic (by decide+kernel) (by decide+kernel),rfl⟩
  |2,_=>exact ⟨[[0],[1]],LO (by decide+kernel), .inr ⟨0,[0],[[0,1]],rfl,by decide+kernel,Zpm (by decide+kernel) (by decide+kernel) (by decide+kernel),rfl⟩⟩
  | j+3,hj=>omega, .inr ⟨[[1]],by decide+kernel,LO (by decide+kernel),by
    rw [Zri (by decide+kernel)];kernel_rfl⟩,rfl⟩
def tX2:Nd:=WT 4 [lf chB,lf chC]
def tX:Nd:=WT 3 [lf chA,tX2,lf chD]
def tY2:Nd:=WT 5 [lf chA,lf chB]
def tY:Nd:=WT 4 [sil,tY2]
def tZ:Nd:=WT 6 [lf chA,lf chB]
def Ez {ps:List (List BA)} (h:ps.all fun p=>p.all fun s=>decide (s.size<=100)):∀p∈ps,∀s∈p,s.size<=140737488355328:=fun p hp s hs=>by
 have:=Qf (Xj.1 (Xj.1 h p hp) s hs)
 omega
def ζA {out:List (List Var)} (h:out.all fun r=>decide (r.length<=100)):∀r∈out,r.length<=1000000:=fun r hr=>by
 have:=Qf (Xj.1 h r hr)
 omega
def RB (s:BA) (n:Int):AF prog 77 [ZV (Y6 [⟨[s],n⟩])] (· = .tup [pTr (lf s),Zb 0]):=Zid (show 1<=1000000 by decide) rfl
def Zpp:AF prog 77 [ZV vX2] (· = .tup [pTr tX2,Zb 0]):=
 DT (c:=ZsU) (out:=[[⟨[chB],1⟩],[⟨[chC],1⟩]]) (ts:=[lf chB,lf chC]) kR rfl (by intro h;cases h) Zpn kR dC Zpo (Ez (by decide+kernel)) dC kR rfl dC dC (ζA (by decide+kernel)) fun i r u hr hu=>by
  match i with
  |0=>cases hr;cases hu;exact RB chB 1
  |1=>cases hr;cases hu;exact RB chC 1
  |i+2=>simp at hr
def Zrq:AF prog 77 [ZV vX] (· = .tup [pTr tX,Zb 0]):=
 DT (c:=ctX) (out:=[[⟨[chA],2⟩],vX2,[⟨[chD],2⟩]]) (ts:=[lf chA,tX2,lf chD]) kR rfl (by intro h;cases h) Zrk kR dC Zrn (Ez (by decide+kernel)) dC kR rfl dC dC (ζA (by decide+kernel)) fun i r u hr hu=>by
  match i with
  |0=>cases hr;cases hu;exact RB chA 2
  |1=>cases hr;cases hu;exact Zpp
  |2=>cases hr;cases hu;exact RB chD 2
  |i+3=>simp at hr
def Zpq:AF prog 77 [ZV vY2] (· = .tup [pTr tY2,Zb 0]):=
 DT (c:=ctY) (out:=[[⟨[chA],2⟩],[⟨[chB],2⟩]]) (ts:=[lf chA,lf chB]) kR rfl (by intro h;cases h) Zrl kR dC Zro (Ez (by decide+kernel)) dC kR rfl dC dC (ζA (by decide+kernel)) fun i r u hr hu=>by
  match i with
  |0=>cases hr;cases hu;exact RB chA 2
  |1=>cases hr;cases hu;exact RB chB 2
  |i+2=>simp at hr
def Zrr:AF prog 77 [ZV vY] (· = .tup [pTr tY,Zb 0]):=ZgE dC rfl rfl Zpq
def Zrs:AF prog 77 [ZV vZ] (· = .tup [pTr tZ,Zb 0]):=
 DT (c:=ctZ) (out:=[[⟨[chA],3⟩],[⟨[chB],1⟩]]) (ts:=[lf chA,lf chB]) kR rfl (by intro h;cases h) Zrm kR dC Zrp (Ez (by decide+kernel)) dC kR rfl dC dC (ζA (by decide+kernel)) fun i r u hr hu=>by
  match i with
  |0=>cases hr;cases hu;exact RB chA 3
  |1=>cases hr;cases hu;exact RB chB 1
  |i+2=>simp at hr
def txX:BA:=⟨#[115,101,113,40,97,44,32,120,111,114,40,98,44,32,99,41,44,32,100,41]⟩
def txY:BA:=⟨#[120,111,114,40,40,41,44,32,97,110,100,40,97,44,32,98,41,41]⟩
def txZ:BA:=⟨#[108,111,111,112,40,97,44,32,98,41]⟩
def Zmr (i:Nat) {p p':PV} {cs:List PV} (h1:(PV.val (.slice none 0 0)::cs)[i]? =some p) (h2:(PV.sl 0 []::cs)[i]? =some p'):p'=p\/(p= .val (.slice none 0 0)/\p'= .sl 0 []):=by
 match i with
 |0=>cases h1;cases h2;exact .inr ⟨rfl,rfl⟩
 |i+1=>rw [XV] at h1 h2;rw [h1] at h2;cases h2;exact .inl rfl
def Zms:AF prog 22 [] (· =Zr true):=by
 have e0:∀u:Nd,pTr u= .agg [Zb u.op,Zx u.act,YJ u.l]:=fun _=>rfl
 have dX:=Zd3 (l:=vX) (t:=tX) kR (by decide+kernel) rfl (Di _ (by decide+kernel) (by decide+kernel)) (by decide+kernel) (by decide+kernel) Zrq
 have dY:=Zd3 (l:=vY) (t:=tY) kR (by decide+kernel) rfl (Di _ (by decide+kernel) (by decide+kernel)) (by decide+kernel) (by decide+kernel) Zrr
 have dZ:=Zd3 (l:=vZ) (t:=tZ) kR (by decide+kernel) rfl (Di _ (by decide+kernel) (by decide+kernel)) (by decide+kernel) (by decide+kernel) Zrs
 have fX:=Sk (t:=tX) (by decide+kernel) (by decide+kernel)
 have fY:=Sk (t:=tY) (by decide+kernel) (by decide+kernel)
 have fZ:=Sk (t:=tZ) (by decide+kernel) (by decide+kernel)
 have xX:=Cr _ fX
 have xY:=Cr _ fY
 have xZ:=Cr _ fZ
 rw [show ZgD (Yt tX)=(txX,0) by kernel_rfl] at xX
 rw [show ZgD (Yt tY)=(txY,0) by kernel_rfl] at xY
 rw [show ZgD (Yt tZ)=(txZ,0) by kernel_rfl] at xZ
 generalize Yt tX=uX at dX xX
 generalize Yt tY=uY at dY xY
 generalize Yt tZ=uZ at dZ xZ
 rw [e0] at dX dY dZ xX xY xZ
 refine AF.of_body 78 func22 rfl ntmps22 (Xa rfl) ?_
 intro w0 M0 vs hl hv
 obtain rfl:=Xv hl
 clear hl hv
 refine WK ?_
 refine PF (xs:=[_,_,_]) 14 YX fun h14 ho14=>?_;refine Zz (En.freeze (l:=14) (t:=14) rfl rfl) fun _=>?_;refine xM (ZA Gj) ?_;refine PF (xs:=[_,_,_]) 16 YX fun h16 ho16=>?_;refine Zz (En.freeze (l:=16) (t:=16) rfl rfl) fun _=>?_;refine xM (ZA Gj) ?_;refine J5 (kk:=2) (xs:=[_,_]) (cs:=[[_,_],[_,_]]) 18 WI fun h18 ho18=>?_;refine Zz (En.freeze (l:=18) (t:=18) rfl rfl) fun _=>?_;refine Zz (Ki (t:=18) (p':=ZV vX) rfl rfl) fun _=>?_;refine cP 19 (cA call24 dX) fun va19 vb19 hva19 hvb19=>?_;cases hvb19;refine Y8 ?_;refine Zt zT 3 1 Yh fun h1=>?_;refine Zn 1 Zj ?_;refine ZW ?_
 refine xM (ZA Gj) ?_<;>(refine PF (xs:=[_,_]) 24 YX fun h24 ho24=>?_;refine Zz (En.freeze (l:=24) (t:=24) rfl rfl) fun _=>?_)<;>refine xM (ZA Gj) ?_<;>(refine PF (xs:=[_,_]) 26 YX fun h26 ho26=>?_;refine Zz (En.freeze (l:=26) (t:=26) rfl rfl) fun _=>?_)<;>refine xM (ZA Gj) ?_<;>(refine J5 (kk:=2) (xs:=[_,_,_]) (cs:=[[_,_],[_,_],[_,_]]) 28 WI fun h28 ho28=>?_;refine Zz (ZcZ (l:=28) (vY.flatMap YL) rfl rfl (fun i p p' h1 h2=>Zmr i h1 h2)) fun _=>?_;refine Zz (En.freeze (l:=28) (t:=28) rfl rfl) fun _=>?_;refine Zz (Ki (t:=28) (p':=ZV vY) rfl rfl) fun _=>?_)<;>(refine cP 29 (cA call24 dY) fun va29 vb29 hva29 h=>?_;cases h)<;>refine Y8 ?_<;>refine Zt zT 3 3 Yh fun h3=>?_<;>refine Zn 3 Zj ?_<;>refine ZW ?_
 refine WE (kk:=1) 33 YX fun h33 ho33=>?_;refine Zz (En.freeze (l:=33) (t:=33) rfl rfl) fun _=>?_;refine xM (ZA Gj) ?_;refine PF (xs:=[_,_,_]) 35 YX fun h35 ho35=>?_;refine Zz (En.freeze (l:=35) (t:=35) rfl rfl) fun _=>?_;refine xM (ZA Gj) ?_;refine J5 (kk:=2) (xs:=[_,_]) (cs:=[[_,_],[_,_]]) 37 WI fun h37 ho37=>?_;refine Zz (En.freeze (l:=37) (t:=37) rfl rfl) fun _=>?_;refine Zz (Ki (t:=37) (p':=ZV vZ) rfl rfl) fun _=>?_;refine cP 38 (cA call24 dZ) fun va38 vb38 hva38 hvb38=>?_;cases hvb38;refine Y8 ?_;refine Zt zT 3 5 Yh fun h5=>?_;refine Zn 5 Zj ?_;refine ZW ?_
 refine yU (Zm 1 Zj) fun v42=>?_;refine cP 43 (cA call74 xX) fun va43 vb43 hva43 hvb43=>?_;cases hva43;cases hvb43;refine Ts ?_
 refine yU (Zm 3 Zj) fun v47=>?_;refine cP 48 (cA call74 xY) fun va48 vb48 hva48 hvb48=>?_;cases hva48;cases hvb48;refine Ts ?_
 refine yU (Zm 5 Zj) fun v52=>?_;refine cP 53 (cA call74 xZ) fun va53 vb53 hva53 hvb53=>?_;cases hva53;cases hvb53;refine Ts ?_
 (refine xL 56 Za (xL 57 Zdn (xL 58 Za (xL 59 Za (xL 60 Zdn (xL 61 RE (xL 62 Za (xL 63 Za (xL 64 Zdn (xL 65 RE (xL 66 Za (xL 67 Za (xL 68 Zd4 (xL 69 RE (xL 70 Za (xL 71 Za (xL 72 Zd4 (xL 73 RE (xL 74 Za (xL 75 Za (xL 76 Zd4 (xL 77 RE (xL 0 Wj ?_))))))))))))))))))))))<;>refine ZZ ?_)<;>(
 exact Zg results22 rfl rfl)
end Go.Proofs.YtmkojdfiadbeeaaGreat
namespace Go.En
open Go.RowKit Go.Cb
section
variable {P:Program} {st:St} {o:Oper} {x y u:Operand} {q q' q2:PV} {t t':TypeId}
end
section
variable {P:Program} {c:Ctx} {ops:Array Oper} {Q:Exit->Act->World->Prop} {rest:List Oper} {sL hP:List (Nat×Ent)}
end
def Zie:PV->List PV
 | .agg ps=>ps
 |p=>[p]
def ZtH:PV->Bool
 | .agg _=>true
 |_=>false
def shr_cells {M:BS} {w:World} {v:Value} {p:PV} (h:Shr M w v p) (hp:(one p||ZtH p)=true):v.cells.toList.length=(Zie p).length/\∀(i:Nat) (x:Value) (q:PV),v.cells.toList[i]? =some x->(Zie p)[i]? =some q->Shr M w x q:=by
 by_cases h1:one p=true
 . have hv:=h.one h1;have hc:v.cells.toList=[v]:=by rw [Gb hv]
   have hpc:Zie p=[p]:=by cases p<;>first|rfl|cases h1
   rw [hc,hpc];refine ⟨rfl,fun i x q hx hq=>?_⟩;match i with
   |0=>cases hx;cases hq;exact h
   |i+1=>simp at hx
 rw [Vj] at hp;have hp:=hp.resolve_left h1
 cases h with
 |agg us ps hl hV=>exact ⟨hl,hV⟩
 |_=>cases hp
section
variable {P:Program} {sL hP:List (Nat×Ent)} {o:Oper}
end
section
variable {P:Program} {c:Ctx} {ops:Array Oper} {Q:Exit->Act->World->Prop} {rest:List Oper} {sL hP:List (Nat×Ent)} {o:Oper}
end
section
variable {P:Program} {st:St} {o:Oper} {x y:Operand} {q q':PV} {t t':TypeId}
end
inductive ResR (P:Program) (sL hP:List (Nat×Ent)):ResultVar->PV->Prop
 |tmp {t:Nat} {v:Value} {p:PV} (ht:lk sL t=some (v,p)):ResR P sL hP (.tmp t) p
 |cell {t ty k e k' n:Nat} {h:Value} {q:PV} {cs:List PV} (l:Nat) (hT:AggT P ty k=true) (ht:lk sL t=some (padd (sbase h) 0,q)) (hl:lk hP l=some (h, .own e k' n cs)) (hp:k<=cs.length) (hk:0<k) (hsh:(cs.take k).all isSh=true):ResR P sL hP (.cell t ty) (.agg (cs.take k))
 |cell1 {t ty e k' n:Nat} {h:Value} {q p:PV} {cs:List PV} (l:Nat) (hT:NoAgg P ty=true) (ht:lk sL t=some (padd (sbase h) 0,q)) (hl:lk hP l=some (h, .own e k' n cs)) (hp:cs[0]? =some p) (hsh:isSh p=true):ResR P sL hP (.cell t ty) p
section
variable {P:Program} {c:Ctx} {sL hP:List (Nat×Ent)}
end
