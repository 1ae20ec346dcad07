/-
  Walks of functions and plain laws of the chapter, as the claim needs them.
-/
import Derived.Recover
import Derived.Lib.Builder
import Derived.Lib.UnsafeStr
import Derived.Lib.AppendStr
import Derived.Laws.Externs
import Derived.Test.YtmkojdfiadbeeaaGreatPf10
import Derived.Test.YtmkojdfiadbeeaaGreatPf03
import Derived.Test.YtmkojdfiadbeeaaGreatPf01
import Derived.Test.YtmkojdfiadbeeaaGreatPf09
import Derived.Test.YtmkojdfiadbeeaaGreatPf08
import Derived.Test.YtmkojdfiadbeeaaGreatPf05
import Derived.Test.YtmkojdfiadbeeaaGreatPf02
import Derived.Test.YtmkojdfiadbeeaaGreatPf04
import Derived.Test.YtmkojdfiadbeeaaGreatMShelfU
import Derived.Test.YtmkojdfiadbeeaaGreatMShelfW
namespace Go.Proofs.YtmkojdfiadbeeaaGreat
open Go.RowKit Go.Cb Go.En Tryz
set_option linter.all false
set_option maxRecDepth 100000
structure SplI (c:Cut) (ws:List ByteArray) (k:Nat) (ps:List Piece) (last:Nat):Prop where
 le:k≤ws.length
 go:splitGo c.kind c.parts true 0 (initPs c.parts.length) ws=splitGo c.kind c.parts (decide (k=0)) last ps (ws.drop k)
 len:ps.length=c.parts.length
 word:∀p∈ps,p.word.length≤k
 last:last<c.parts.length
theorem ZeW {sL hP:List (Nat×Ent)} {l e k n:Nat} {h:Value} {cs:List PV} (cs':List PV) (hl:lk hP l=some (h, .own e k n cs)) (hlen:cs'.length=cs.length) (hc:∀(i:Nat) (p p':PV),cs[i]? =some p→cs'[i]? =some p'→p'=p∨(p= .val (.slice none 0 0)∧p'= .sl 0 [])):J4 (⟨sL,hP⟩:St) (fun _:Unit=>⟨sL,put l (h, .own e k n cs') hP⟩):=fun c a w ⟨F,H⟩=>by
 refine ⟨(),F,?_⟩
 have hTr:=H.tr l _ _ hl
 obtain ⟨xs,Fs,hrow,hxl,hT,hd,hb,hF⟩:=hTr.row
 refine H.retell (fun t=>t=l) (fun t y hnT hy=>?_) (fun t y b hT' hy hb'=>?_) (fun hm t u q hT' hy=>?_) (fun t1 t2 _ _ _ h1 h2 hne=>UC (h1.trans h2.symm) hne)
 · have n2:t≠l:=hnT;rw [Z0 (Ne.symm n2)] at hy;exact ⟨hy,rfl⟩
 · subst hT';exact ⟨t,_,rfl,hl,hb'⟩
 · subst hT';rw [ZK] at hy
   cases hy;refine .own xs Fs hrow oM (fun i x p' hx hp'=>?_) (fun i j b hi hj=>hd i j b oM oM) (fun i b hi=>hb i b oM) (fun b=>by rw [hF b,hlen]);obtain ⟨p,hp⟩:=Yl hp' hlen;have hTi:=(hT i x p hx hp).anti hm;rcases hc i p p' hp hp' with rfl|⟨rfl,rfl⟩
   · exact hTi
   · have hx0:x= .slice none 0 0:=(hTi.sh rfl).vOf
     cases hTi with
     |shr _ hF=>subst hx0;exact .shr (.emp none 0 (by unfold maxLen;omega) (fun _=>rfl)) hF
structure SpI (l:List Var) (c:Cut) (k:Nat) (S:List (List Var)):Prop where
 le:k≤l.length
 len:S.length=c.parts.length
 ok:RowsOk (k*1000300) S
 go:splitAll c (List.replicate c.parts.length []) l=splitAll c S (l.drop k)
structure SpJ (c:Cut) (S:List (List Var)) (ps:List Piece) (n:Int) (k j:Nat) (T:List (List Var)):Prop where
 le:j≤ps.length
 len:T.length=c.parts.length
 ok:RowsOk (k*1000300+j) T
 go:ps.foldl (putPiece n) S=(ps.drop j).foldl (putPiece n) T
open Classical in
noncomputable def setK (ks:List ByteArray) (s:ByteArray):List ByteArray:=if s∈ks then ks else ks++[s]
noncomputable def colS (ks:List ByteArray) (l:List ByteArray):List ByteArray:=l.foldl setK ks
theorem Zg6 (ks:List ByteArray) (s x:ByteArray):x∈setK ks s↔x∈ks∨x=s:=by
 unfold setK
 split
 · rename_i h;exact ⟨.inl,fun h2=>h2.elim id fun e=>e▸h⟩
 · rw [Xz,XB]
theorem ZiF {ks:List ByteArray} (h:ks.Nodup) (s:ByteArray):(setK ks s).Nodup:=by
 unfold setK
 split
 · exact h
 · rename_i hn;exact VF.2 ⟨h,Ui _ s,fun a ha b hb e=>hn (by rw [XB] at hb;rw [←hb,←e];exact ha)⟩
theorem ζ3:∀(l ks:List ByteArray) (x:ByteArray),x∈colS ks l↔x∈ks∨x∈l
 |[],ks,x=>by simp [colS]
 | s::l,ks,x=>by
   show x∈colS (setK ks s) l↔_;rw [ζ3 l,Zg6,Xi,or_assoc]
theorem ZcQ:∀(l ks:List ByteArray),ks.Nodup→(colS ks l).Nodup
 |[],_,h=>h
 |s::l,ks,h=>ZcQ l (setK ks s) (ZiF h s)
theorem ζ4 (ks l m:List ByteArray):colS ks (l++m)=colS (colS ks l) m:=Ut
theorem ζ5:∀(l ks:List ByteArray),(colS ks l).length≤ks.length+l.length
 |[],ks=>Xc _
 | s ::l,ks=>by
   show (colS (setK ks s) l).length≤_;have h1:=ζ5 l (setK ks s);have h2:(setK ks s).length≤ks.length+1:=by
    unfold setK;split
    · omega
    · rw [Xf];simp
   rw [Xg];omega
def P8 (ks:List ByteArray):List (ByteArray×Value):=ks.map fun s=>(s, .bool true)
theorem Zg7 (ks:List ByteArray) (s:ByteArray):Lr (skv (P8 ks)) (.string s) (.bool true)=skv (P8 (setK ks s)):=by
 rw [Ty]
 congr 1
 unfold setK
 induction ks with
 |nil=>simp [P8,WH]
 | cons x ks ih=>
   unfold P8 at ih ⊢;rw [Xk,WH];by_cases h:s=x
   · subst h;simp
   · simp only [h,if_false,Ne.symm h] at ih ⊢;by_cases h2:s∈ks
     · simp [h2,h] at ih ⊢;exact ih
     · simp [h2,h] at ih ⊢;exact ih
def toB (s:ByteArray):List UInt8:=s.data.toList
def ofB (l:List UInt8):ByteArray:=⟨l.toArray⟩
def D3 (ks:List ByteArray):List ByteArray:=((ks.map toB).mergeSort fun x y=>decide (x≤y)).map ofB
theorem Zg8 (ks:List ByteArray):(D3 ks).length=ks.length:=by unfold D3;simp
def kyv (k1 g:Nat):Value:= .func (.func k1) #[] #[.pointer (some ⟨g,0,none⟩)]
def kyP (g b clock t:Nat) (es:Array MapEntry):PV:= .oblk (itv g) g (.cells #[.map (some b)] t) [(b, .map es clock)]
def kyE (g b clock t:Nat) (es:Array MapEntry):Ent:=(itv g,kyP g b clock t es)
def Zi8 (P:Program) (f k1 t:Nat):Prop:=∀(b:Nat) (w:World),Calls P f #[.map (some b)] w fun e w'=>e= .returned (kyv k1 w.heap.size)∧w'=w.alloc (.cells #[.map (some b)] t)
def ζ6 (P:Program) (f k1 t T:Nat):Prop:=∀(g b clock:Nat) (es:Array MapEntry) (ks:List ByteArray) (w:World),w.heap[g]? =some (.cells #[.map (some b)] t)→w.heap[b]? =some (.map es clock)→WfM es clock→kvOf es=skv (P8 ks)→ks.Nodup→ks.length≤1000000→(∀s∈ks,s.size≤140737488355328)→
 Calls P f #[kyv k1 g] w fun e w'=>∃v,e= .returned v∧w'.ownsRow w.heap.size T 1 v ks.length ((D3 ks).map Value.string)∧Below w.heap.size w w'
section
variable {P:Program} {c:Ctx} {ops:Array Oper} {Q:Exit→Act→World→Prop} {rest:List Oper} {sL hP:List (Nat×Ent)} {o:Oper}
theorem Zka {f k1 t:Nat} {x:Operand} {m:Value} {kv:List (Value×Value)} {ats:Array TypeId} (d:Nat) (hA:Zi8 P f k1 t) (hc:∀args w,(callFunc f args).run P w= .ok (.enter f args) w)
 (k:∀(g b clock:Nat) (es:Array MapEntry),kv=kvOf es→WfM es clock→aL P c ops Q rest ⟨put d (kyv k1 g, .val (kyv k1 g)) sL,put d (kyE g b clock t es) hP⟩)
 (hw:ZV ops sL o=some true:=by exact rfl) (hd:o.dst=some d:=by exact rfl) (hn:d<c.nt:=by exact Xa rfl) (ho:o.op= .call {callee:= .value (.func f),args:= #[x],argTypes:=ats}:=by exact rfl) (hx:ev sL x=some (m, .smap kv):=by exact rfl) (hl:lk hP d=none:=by exact rfl):aL P c ops Q (o::rest) (⟨sL,hP⟩:St):=
 YJ hw fun a w F H=>by
  obtain ⟨hv,hS⟩:=H.rd.ev hx
  cases hS with
  | smap b es clock hM h hW=>
    have key:HoldsF c ⟨put d (kyv k1 w.heap.size, .val (kyv k1 w.heap.size)) sL,put d (kyE w.heap.size b clock t es) hP⟩ (fun l'=>if l'=d then (fun x=>x=w.heap.size) else F l') (a.put (some d) (kyv k1 w.heap.size)) (w.alloc (.cells #[.map (some b)] t)):=by
     refine H.change (fun l'=>l'=d) hn ((Ext.alloc _ _).chg) (fun l' x hne hx'=>?_) (fun l' x b' hT hx' hb=>?_) (fun hm l' u q hT hx'=>?_) (fun l1 l2 _ _ _ h1 h2 hne=>UC (h1.trans h2.symm) hne) (fun hm=> .val _)
     · rcases Z2 hx' with ⟨e1,_⟩|⟨_,e1⟩
       · exact UC e1.symm hne
       · exact ⟨e1,by simp [hne]⟩
     · subst hT;simp only [if_true] at hb;exact .inr (by rw [hb];exact Xc _)
     · subst hT;rw [ZK] at hx';unfold kyE kyP at hx'
       cases hx';simp only [if_true];refine .oblk w.heap.size rfl ?_ (fun p hp=>?_) (fun x=>Iff.rfl)
       · show (w.heap.push _)[w.heap.size]? =_;simp
       · rw [XB] at hp;subst hp;exact ⟨(Ext.alloc w _).block h,fun hb=>hM (hm b (Wr h) hb)⟩
    have hrun:(execOp a.eval o).run P w= .ok (.enter f #[.map (some b)]) w:=by
     have hev:a.eval (.func f)= .func (.func f) #[] #[]:=rfl;simp [execOp,ho,resolve,Deferred.ofValue,hev,invoke,hv,hc]
    unfold Oper.wp;rw [hrun,Oper.upon_enter];refine (hA b w).mono fun e' w' ⟨he,hw'⟩=>?_;subst he hw';rw [hd];exact k _ _ _ _ rfl hW _ _ ⟨_,key⟩
theorem ZeX {f k1 t T g b clock:Nat} {es:Array MapEntry} {q:PV} {x:Operand} {ats:Array TypeId} {ks:List ByteArray} (l d:Nat) (hA:ζ6 P f k1 t T) (hc:∀args w,(callFunc f args).run P w= .ok (.enter f args) w) (hdr:¬c.dr)
 (hW:WfM es clock) (hkv:kvOf es=skv (P8 ks)) (hnd:ks.Nodup) (hlen:ks.length≤1000000) (hsz:∀s∈ks,s.size≤140737488355328)
 (k:∀v:Value,v.oneCell'=true→aL P c ops Q rest ⟨put d (v, .val v) sL,put d (v, .own T 1 ks.length ((D3 ks).map ZD)) hP⟩)
 (hw:ZV ops sL o=some true:=by exact rfl) (hd:o.dst=some d:=by exact rfl) (hn:d<c.nt:=by exact Xa rfl) (ho:o.op= .call {callee:= .value (.func f),args:= #[x],argTypes:=ats}:=by exact rfl) (hx:ev sL x=some (kyv k1 g,q):=by exact rfl) (hl:lk hP l=some (kyE g b clock t es):=by exact rfl) (hld:lk hP d=none:=by exact rfl):aL P c ops Q (o::rest) (⟨sL,hP⟩:St):=
 YJ hw fun a w F H=>by
  have hv:=(H.rd.ev hx).1;obtain ⟨h,hs,hF⟩:=(H.tr l _ _ hl).blk;obtain ⟨hb,_⟩:=hs (b, .map es clock) sM;dsimp only at hb;have hrun:(execOp a.eval o).run P w= .ok (.enter f #[kyv k1 g]) w:=by
   have hev:a.eval (.func f)= .func (.func f) #[] #[]:=rfl;simp [execOp,ho,resolve,Deferred.ofValue,hev,invoke,hv,hc]
  unfold Oper.wp;rw [hrun,Oper.upon_enter];refine (hA g b clock es ks w h hb hW hkv hnd hlen hsz).mono fun e' w' ⟨v,he,hown,hbel⟩=>?_;subst he;rw [hd];have hone:v.oneCell'=true:=by
   rcases hown.2 with ⟨h1,_⟩|⟨g',cap',cur,e1,_⟩
   · rw [h1];rfl
   · rw [e1];rfl
  have hlow:∀b,v.ownBlock=some b→w.heap.size≤b:=fun b hb'=>by
   rcases hown.2 with ⟨h1,_⟩|⟨g',cap',cur,e1,e2,_⟩
   · rw [h1] at hb';simp [Value.ownBlock] at hb'
   · rw [e1] at hb';simp [Value.ownBlock] at hb';omega
  have hown0:w'.ownsRow 0 T 1 v ks.length ((D3 ks).map Value.string):=by
   refine ⟨hown.1,?_⟩;rcases hown.2 with h1|⟨g',cap,cur,e1,e2,r⟩
   · exact .inl h1
   · exact .inr ⟨g',cap,cur,e1,Xn _,r⟩
  have hch:Chg (fun b=>∃l x,l=d∧lk hP l=some x∧F l b) w w':=⟨hbel.os,hbel.tape,hbel.output,hbel.size,fun i hi _=>hbel.block i hi⟩;refine k v hone _ _ ⟨fun l'=>if l'=d then (fun b=>v.ownBlock=some b) else F l',H.change (fun l'=>l'=d) hn hch (fun l' x hne hx'=>?_) (fun l' x b' hT hx' hb=>?_) (fun hm l' u q hT hx'=>?_) (fun l1 l2 _ _ _ h1 h2 hne=>UC (h1.trans h2.symm) hne) (fun hm=> .val _) (fun h=>UC h hdr)⟩
  · rcases Z2 hx' with ⟨e1,_⟩|⟨_,e1⟩
    · exact UC e1.symm hne
    · exact ⟨e1,by simp [hne]⟩
  · subst hT;simp only [if_true] at hb;exact .inr (hlow b' hb)
  · subst hT;rw [ZK] at hx'
    cases hx';simp only [if_true];refine .own ((D3 ks).map Value.string) (fun _ _=>False) hown0 sM (fun t v p hv hp=>?_) (fun _ _ _ _ _ _ h=>h.elim) (fun _ _ _ h=>h.elim) (fun b=>sM);rw [Xm,XN] at hv hp;obtain ⟨b1,hb1,rfl⟩:=hv;obtain ⟨b2,hb2,rfl⟩:=hp;rw [hb1] at hb2;cases hb2;exact .shr (.val _) (fun _ h=>h)
end
open Go.Maps Go.Sort Go.Shelf in
def rdK (_:Value):Option (DataW Unit×List MemPlace):=some (.lit (.bool true),[])
section
open Go.WideElems Go.MapKept Go.WideMaps
theorem Zkb {P:Program} {k:TypeId} (hk:P.underlying k=some .string) {s:ByteArray} (hs:s.size≤maxLen):rg P k rdK ⟨.string s, .bool true,0⟩=(.string s.data.toList, .lit (.bool true)):=by
 have:rd P k rdK ⟨.string s, .bool true,0⟩=some (.string s.data.toList, .lit (.bool true)):=rd_mk (R:=rdK) (val:= .bool true) (born:=0) (yv:=(.lit (.bool true),[])) (keyOf_string_mk hk hs) rfl
 exact rg_of this
theorem ZiG {P:Program} {k:TypeId} (hk:P.underlying k=some .string) {w:World} {b clock:Nat} {es:Array MapEntry} {ks:List ByteArray} (hb:w.heap[b]? =some (.map es clock)) (hW:WfM es clock) (hkv:kvOf es=skv (P8 ks)) (hnd:ks.Nodup) (hlen:ks.length≤1000000) (hsz:∀s∈ks,s.size≤140737488355328):∃D0,w.ownsMap P k rdK b ks.length D0∧(strKeys D0).Perm (ks.map toB)∧Maps.size D0=ks.length:=by
 have hml:∀s∈ks,s.size≤maxLen:=fun s hs=>by have:=hsz s hs;unfold maxLen;omega
 have hkv2:es.toList.map (fun x=>(x.key,x.val))=ks.map fun s=>(Value.string s,Value.bool true):=by
  have:kvOf es=ks.map fun s=>(Value.string s,Value.bool true):=by rw [hkv];unfold skv P8;rw [Xt];rfl
  exact this
 have hsize:es.size=ks.length:=by have:=congrArg List.length hkv2;simpa using this
 have hrg:es.toList.map (rg P k rdK)=ks.map fun s=>(Lit.string s.data.toList,(.lit (.bool true):DataW Unit)):=by
  have h1:es.toList.map (rg P k rdK)=(es.toList.map fun x=>(x.key,x.val)).map fun p=>rg P k rdK ⟨p.1,p.2,0⟩:=by
   rw [Xt];rfl
  rw [h1,hkv2,Xt];exact List.map_congr_left fun s hs=>Zkb hk (hml s hs)
 have hread:∀x∈es.toList,∃y,rd P k rdK x=some y:=fun x hx=>by
  have:(x.key,x.val)∈es.toList.map (fun x=>(x.key,x.val)):=Xr.2 ⟨x,hx,rfl⟩;rw [hkv2] at this;obtain ⟨s,hs,e⟩:=Xr.1 this;obtain ⟨xk,xv,xb⟩:=x
  cases e;exact ⟨_,rd_mk (R:=rdK) (yv:=(.lit (.bool true),[])) (keyOf_string_mk hk (hml s hs)) rfl⟩
 refine ⟨.map ((es.toList.map (rg P k rdK)).foldr DataW.insert []),⟨es,clock,hb,⟨by rw [hsize];unfold maxLen;omega,?_,hread⟩,by rw [hsize];exact Xc _,rfl⟩,?_,?_⟩
 · refine ⟨hW.1,hW.2,?_⟩;have h3:es.toList.map (·.key)=ks.map Value.string:=by
    have:=congrArg (List.map Prod.fst) hkv2;rw [Xt,Xt] at this;exact this
   rw [h3];exact Vn.2 (hnd.imp fun h e=>h (by cases e;rfl))
 · rw [hrg];have h2:=(WideShapes.sorted_perm (ks.map fun s=>(Lit.string s.data.toList,(.lit (.bool true):DataW Unit)))).map fun p=>strOf p.1;rw [Xt] at h2;exact h2
 · show List.length _=_;rw [(WideShapes.sorted_perm _).length_eq,Xd,XU,hsize]
end
theorem ZkC:Zi8 prog 119 181 162:=fun b w=>callsIn_wide.1 (AnyZ.keys_in (ρ:=Tryz.keysA_ren) Tryz.keysA Fence.wide 5 trivial rfl (some b) w)
theorem Zkc (m:Nat):AnyZ.SortsIn prog Tryz.sortedA_ren Fence.wide m:=
 ⟨fun blk off cap ss W hH hblk hsz=>callsIn_wide.2 (Tryz.slices_Sort_string blk off cap ss W hH hblk hsz),fun p cap W=>callsIn_wide.2 (Tryz.slices_Sort_string_none p cap W)⟩
theorem Zg9:ζ6 prog 118 181 162 9:=fun g b clock es ks w hg hb hW hkv hnd hlen hsz=>by
 obtain ⟨D0,hown,hperm,hsize⟩:=ZiG (P:=prog) (k:=9) underlying9 hb hW hkv hnd hlen hsz
 have hseq:SeqGives Fence.wide 2 prog 181 #[.pointer (some ⟨g,0,none⟩)] encStr (fun ss=>ss.Perm (strKeys D0)) (Maps.size D0) w:=
  AnyZ.keys_gives (ρ:=Tryz.keysA_ren) {Tryz.keysA with} Fence.wide _ trivial rfl oM g b _ D0 w (Wr hg) (by simp [World.cell?,hg]) hown
 have cS:=AnyZ.sorted_in (ρ:=Tryz.sortedA_ren) Tryz.sortedA Fence.wide 5 trivial trivial trivial trivial rfl oM (Zkc _) (call180) 181 #[.pointer (some ⟨g,0,none⟩)] trivial (call181) _ _ (by rw [hsize];unfold maxLen;omega) (by rw [hsize];omega) _ hseq
 refine (callsIn_wide.1 cS).mono ?_
 rintro e w' ⟨v,ss,rfl,hS,hrow,_,hbel⟩
 have hp:=hS.trans hperm
 refine ⟨v,rfl,?_,hbel⟩
 have e1:(ss.mergeSort fun x y=>decide (x≤y)).map encStr=(D3 ks).map Value.string:=by
  rw [mergeSort_of_perm hp];unfold D3;rw [Xt];rfl
 have e2:ss.length=ks.length:=by rw [hp.length_eq,Xd]
 rw [e1,e2] at hrow
 exact hrow
theorem Zbt:MpT prog 162 9 4 .string (.bool false):=⟨underlying162,underlying9, .inl rfl,by show ZeroT _ _ _;unfold ZeroT;kernel_rfl⟩
noncomputable def evA (l:List Var):List ByteArray:=colS [] (l.flatMap (·.acts))
noncomputable def evX (l:List Var):List ByteArray×Int:=if validVars l=true then (if (evA l).length≤40 then (D3 (evA l),0) else ([],5)) else ([],1)
theorem ZeY (ks:List ByteArray):(skv (P8 ks)).length=ks.length:=by unfold skv P8;rw [Xd,Xd]
theorem ζ7 (e n:Nat) (l:List ByteArray) (h:n=l.length):share (.own e 1 n (l.map ZD))=ZT l:=by
 subst h
 rw [share,Z7,Xt];rfl
theorem ZiH (l:List Var) (s:ByteArray):s∈evA l↔∃x∈l,s∈x.acts:=by
 unfold evA
 rw [ζ3,Uj]
 exact ⟨fun h=>h.elim (fun h=>by cases h) id, .inr⟩
theorem Zkd (l:List Var):(evA l).Nodup:=ZcQ _ _ List.nodup_nil
set_option maxHeartbeats 2000000 in
theorem Zha (l:List Var) (hf:Hd l):AF prog 76 [Z4 l] (· = .tup [ZT (evX l).1,Zf (evX l).2]):=by
 refine AF.of_body 36 func76 rfl ntmps76 (Xa rfl) ?_
 intro w0 M0 vs hl hv
 obtain ⟨v0,rfl⟩:=YG hl
 clear hl hv
 refine Zd ?_
 (refine xL 2 Zb (xL 3 Zb ?_)<;>refine Zi ?_)
 (refine xL 9 Za ?_<;>(refine cS 10 (cA call9 (Kq l hf)) fun v10 h=>?_;cases h)<;>refine xL 11 Yd ?_<;>refine Zc ?_)
 refine cX ?_ ?_<;>intro hb11
 · first|exact bN hb11|(
 refine Zd ?_;(refine xL 2 Zb (xL 3 Zb ?_)<;>refine Zc ?_)
 refine YP (ZfH (t:=2) rfl) fun _=>?_;refine YO (results76) rfl rfl ?_;rw [show evX l=([],1) by unfold evX;rw [UA (by simpa using hb11)]];rfl)
 · first | exact bN hb11|(
 (have hv:validVars l=true:=by simpa using hb11);have hnd:=Zkd l;have hl0:=hf.1;have hks:∀s∈evA l,s.size≤140737488355328:=fun s hs=>by
  obtain ⟨x,hx,h⟩:=(ZiH l s).1 hs;exact (hf.2 x hx).1.2 s h
 refine Zd ?_;(refine G7 12 fun h12 ho12=>?_<;>refine xL 4 Zb ?_<;>refine Zc ?_)
 refine ZE (Z5 (l:=12) 1000 rfl rfl) fun _=>?_;(refine Zo ?_<;>refine xL 13 Za (xL 14 (ZF ZQ) (xL 15 Za ?_))<;>refine Zc ?_)
 refine Zy (ι:={q:Nat×List ByteArray//q.1≤l.length∧q.2=colS [] ((l.take q.1).flatMap (·.acts))}) (fun k=>⟨[(4,_,_),(13,_,_),(14,_,_),(15, .int .i64 k.1.1,Zf k.1.1)],[(1000,h12, .omap (skv (P8 k.1.2)))]⟩) (fun k=>l.length-k.1.1) ⟨(0,[]),Xn _,rfl⟩ (fun a w H=>H.weaken ⟨rfl,rfl,rfl,rfl,trivial⟩ ⟨rfl,trivial⟩) ?_;rintro ⟨⟨i,K⟩,hi,hK⟩;dsimp only;dsimp only at hi hK;refine Zd ?_;(refine xL 16 ZI ?_<;>refine Zc ?_)
 refine cX ?_ ?_<;>intro hb16
 · first |exact bN hb16|(
 obtain ⟨x,hx⟩:=Zm (show i<l.length by omega);have e1:=Yz Ys l i x hx;have e2:=YT Ys hx;have hx0:=(hf.2 x (Xb hx)).1.1;refine Zd ?_;(refine xL 17 (Zv ZQ) ?_<;>(refine yL 18 (Wl K7) fun v18 h=>?_;cases h)<;>refine ZA [(.slice none 0 0),(.int .i64 0)] 2 6 RY fun h6=>?_<;>refine Zw 6 K7 ?_<;>refine Zi ?_)
 (refine xL 19 (Zn 6 Z3) ?_<;>(refine yL 20 (Zr 6 ZX) fun v20 h=>?_;cases h)<;>refine xL 21 (ZF Zx) (xL 22 Za ?_)<;>refine Zc ?_)
 refine Zy (ι:={q:Nat×List ByteArray//q.1≤x.acts.length∧q.2=colS K (x.acts.take q.1)}) (fun k=>⟨[(4,_,_),(13,_,_),(14,_,_),(15,_,_),(20,_,_),(21,_,_),(22, .int .i64 k.1.1,Zf k.1.1)],[(1000,h12, .omap (skv (P8 k.1.2)))]⟩) (fun k=>x.acts.length-k.1.1) ⟨(0,K),Xn _,rfl⟩ (fun a w H=>H.weaken ⟨rfl,rfl,rfl,rfl,rfl,rfl,rfl,trivial⟩ ⟨rfl,trivial⟩) ?_;rintro ⟨⟨j,K2⟩,hj,hK2⟩;dsimp only;dsimp only at hj hK2;refine Zd ?_;(refine xL 23 ZI ?_<;>refine Zc ?_)
 refine cX ?_ ?_<;>intro hb23
 · first|exact bN hb23|(
 obtain ⟨s,hs⟩:=Zm (show j<x.acts.length by omega);have e3:=Yq (f:=ZD) hs;refine Zd ?_;(refine xL 24 (Zv Zx) ?_<;>(refine yL 25 (ZN ZP) fun v25 h=>?_;cases h)<;>refine xL 8 Zb ?_<;>refine Zi ?_)
 (refine xL 26 Za (xL 27 Za ?_)<;>(refine L5 1000 Zbt ?_;rw [Zg7])<;>refine Zi ?_)
 (refine xL 28 ZH (xL 22 Za ?_)<;>refine Zc ?_)
 refine Zh (
  ⟨(j+1,setK K2 s),Zj hs,by dsimp only;rw [ZW hs,ζ4,←hK2];rfl⟩
  ) (by dsimp only;omega) ⟨rfl,rfl,rfl,rfl,rfl,rfl,rfl,trivial⟩ ⟨rfl,trivial⟩)
 · first|exact bN hb23|(
 refine Zd ?_;(refine xL 29 ZH (xL 15 Za ?_)<;>refine Zc ?_)
 refine Zh (
  ⟨(i+1,K2),Zj hx,by dsimp only;rw [ZW hx,Va,ζ4,←hK,Un,hK2,Xy oM]⟩
  ) (by dsimp only;omega) ⟨rfl,rfl,rfl,rfl,trivial⟩ ⟨rfl,trivial⟩))
 · first|exact bN hb16|(
 (obtain rfl:K=evA l:=by rw [hK,Xy oM];rfl);have hKl:=ZeY (evA l);refine nav ?_;refine ZE (En.freeze (l:=1000) (t:=4) rfl rfl) fun _=>?_;(refine Zo ?_<;>refine xL 30 Za (xL 31 (Zjq underlying162) (xL 32 YV ?_))<;>refine Zc ?_)
 refine cX ?_ ?_<;>intro hb32
 · first|exact bN hb32|(
 refine Zd ?_;(refine xL 2 Zb (xL 3 Zb ?_)<;>refine Zc ?_)
 refine YP (ZfH (t:=2) rfl) fun _=>?_;refine YO (results76) rfl rfl ?_;rw [show evX l=([],5) by unfold evX;rw [UB hv,UA oM]];rfl)
 · first|exact bN hb32|(
 refine Zd ?_;(refine xL 33 Za ?_<;>refine Zka (k1:=181) (t:=162) 34 ZkC (call119) (fun g34 b34 c34 es34 hkv34 hWf34=>?_)<;>refine ZeX (ks:=evA l) 34 35 Zg9 (call118) (fun h=>h) hWf34 hkv34.symm hnd oM hks (fun v35 ho35=>?_)<;>refine xL 2 Zb (xL 3 Zb ?_)<;>refine Zc ?_)
 refine YP (En.freeze (l:=35) (t:=2) rfl rfl) fun _=>?_;refine YO (results76) rfl rfl ?_;rw [ζ7 _ _ _ (show (evA l).length=(D3 (evA l)).length from (Zg8 _).symm),show evX l=(D3 (evA l),0) by unfold evX;rw [UB hv,UB oM]])))
noncomputable def dX (l:List Var) (t:Nd):PV×Int:=if validVars l=true then (if (evA l).length≤40 then (if Jx t=true then (if Jx (Yg t)=true then (pTr (Yg t),0) else (Jd,5)) else (Jd,5)) else (Jd,5)) else (Jd,1)
theorem ZkR {l:List Var} {t:Nd} (h:validVars l=false):dX l t=(Jd,1):=by unfold dX;rw [h,UA dC]
theorem ZkS {l:List Var} {t:Nd} (hv:validVars l=true) (h:40<(evA l).length):dX l t=(Jd,5):=by unfold dX;rw [UB hv,UA oM]
theorem ZkT {l:List Var} {t:Nd} (hv:validVars l=true) (h:(evA l).length≤40) (ht:Jx t=false):dX l t=(Jd,5):=by unfold dX;rw [UB hv,UB h,ht,UA dC]
theorem ZkU {l:List Var} {t:Nd} (hv:validVars l=true) (h:(evA l).length≤40) (ht:Jx t=true) (hn:Jx (Yg t)=false):dX l t=(Jd,5):=by unfold dX;rw [UB hv,UB h,UB ht,hn,UA dC]
theorem ZkD {l:List Var} {t:Nd} (hv:validVars l=true) (h:(evA l).length≤40) (ht:Jx t=true) (hn:Jx (Yg t)=true):dX l t=(pTr (Yg t),0):=by unfold dX;rw [UB hv,UB h,UB ht,UB hn]
theorem Zke {l:List Var} (hv:validVars l=true):((evA l).length≤40∧(evX l).2=0)∨(40<(evA l).length∧(evX l).2=5):=by
 unfold evX
 rw [UB hv]
 by_cases h:(evA l).length≤40
 · rw [UB h];exact .inl ⟨h,rfl⟩
 · rw [UA h];exact .inr ⟨oM,rfl⟩
theorem ZiI {t:Nd} (h:Jx t=true):(Jx (Yg t)=true∧ζi t=Yg t∧(TH t).2=0)∨(Jx (Yg t)=false∧ζi t=nd0∧(TH t).2=5):=by
 unfold ζi TH
 rw [UB h,UB h]
 cases h2:Jx (Yg t) with
 |true=>rw [UB rfl,UB rfl];exact .inl ⟨rfl,rfl,rfl⟩
 |false=>rw [UA dC,UA dC];exact .inr ⟨rfl,rfl,rfl⟩
set_option maxHeartbeats 2000000 in
theorem Zbu (l :List Var) (t:Nd) (hf:Hd l) (hl:l.length≤1000000) (hF:FitT t) (hT:validVars l=true→(evA l).length≤40→AF prog 77 [Z4 (Gt l)] (· = .tup [pTr t,Zf 0])):AF prog 24 [Z4 l] (· = .tup [(dX l t).1,Zf (dX l t).2]):=by
 have e0:∀u:Nd,pTr u= .agg [Zf u.op,ZD u.act,Y4 u.l]:=fun _=>rfl
 refine AF.of_body 50 func24 rfl ntmps24 (Xa rfl) ?_
 intro w0 M0 vs hl hv
 obtain ⟨v0,rfl⟩:=YG hl
 clear hl hv
 refine Zd ?_
 (refine ZA [(.int .i64 0),(.string ByteArray.empty),(.slice none 0 0)] 3 2 Z8 fun h2=>?_<;>refine xL 3 Zb ?_<;>refine Zi ?_)
 (refine xL 9 Za ?_<;>(refine cS 10 (cA call9 (Kq l hf)) fun v10 h=>?_;cases h)<;>refine xL 11 Yd ?_<;>refine Zc ?_)
 refine cX ?_ ?_<;>intro hb11
 · first|exact bN hb11|(
 refine Zd ?_;(refine xL 12 (ZO YC) ?_<;>refine Zw 2 Zs ?_<;>refine xL 3 Zb ?_<;>refine Zc ?_)
 refine Yn (k:=3) 2 kR (results24) rfl rfl rfl (Xa rfl) dC rfl ?_;rw [ZkR (by simpa using hb11)];rfl)
 · first | exact bN hb11|(
 (have hv:validVars l=true:=by simpa using hb11);have hA:=Zha l hf;have hor:=Zke hv;obtain ⟨⟨ks,e⟩,hE⟩:∃y,y=evX l:=⟨_,rfl⟩;rw [←hE] at hA hor;dsimp only at hA hor;refine Zd ?_;(refine xL 14 Za ?_<;>(refine cP 15 (cA call76 (hA)) fun va15 vb15 hva15 h=>?_;cases h)<;>refine xL 13 Za (xL 16 Zp (xL 17 Zp (xL 4 Zb (xL 5 Zb ?_))))<;>refine Zi ?_)
 (refine xL 18 Za (xL 19 Wg ?_)<;>refine Zc ?_)
 refine cX ?_ ?_<;>intro hb19
 · first|exact bN hb19|(
 obtain ⟨h40,rfl⟩:40<(evA l).length∧e=5:=oM;refine Zd ?_;(refine xL 20 (ZO YC) (xL 21 Za ?_)<;>refine Zw 2 Zs ?_<;>refine xL 3 Zb ?_<;>refine Zc ?_)
 refine Yn (k:=3) 2 kR (results24) rfl rfl rfl (Xa rfl) dC rfl ?_;rw [ZkS hv h40];rfl)
 · first | exact bN hb19|(
 have h40:(evA l).length≤40:=oM;have hTt:=hT hv h40;rw [e0] at hTt;refine Zd ?_;(refine xL 23 Za ?_<;>(refine cS 24 (cA call78 (ZcN l hl)) fun v24 h=>?_;cases h)<;>(refine cP 25 (cA call77 (hTt)) fun va25 vb25 hva25 h=>?_;cases h)<;>refine xL 22 Za (xL 26 Zp (xL 27 Zp ?_))<;>refine ZA [(.int .i64 0),(.string ByteArray.empty),(.slice none 0 0)] 3 6 Z8 fun h6=>?_<;>refine Zw 6 Zs ?_<;>refine xL 7 Zb ?_<;>refine Zi ?_)
 (refine xL 28 Za ?_<;>refine xL (v:= .bool false) (p:= .val (.bool false)) 29 (Wg (a:=0) (b:=0)) ?_<;>refine Zc ?_)
 refine cCf ?_;refine Zd ?_;((refine yL 32 (Zu 6 Zs) fun v32 h=>?_;cases h)<;>(refine cS 33 (cA call79 (Rc t hF)) fun v33 h=>?_;cases h)<;>refine xL 34 Yd ?_<;>refine Zc ?_)
 refine cX ?_ ?_<;>intro hb34
 · first|exact bN hb34|(
 refine Zd ?_;(refine xL 35 (ZO YC) ?_<;>refine Zw 2 Zs ?_<;>refine xL 3 Zb ?_<;>refine Zc ?_)
 refine Yn (k:=3) 2 kR (results24) rfl rfl rfl (Xa rfl) dC rfl ?_;rw [ZkT hv h40 (by simpa using hb34)];rfl)
 · first |exact bN hb34|(
 (have hvt:Jx t=true:=by simpa using hb34);have hN:=(ZaO t hF).reread (Zh4 t) (Zch (Zh3 t));have hfn:=Zga hF;have hnr:=ZiI hvt;obtain ⟨n,hn⟩:∃n,n=ζi t:=⟨_,rfl⟩;obtain ⟨e2,he2⟩:∃n,n=(TH t).2:=⟨_,rfl⟩;rw [←hn,←he2] at hN hnr;rw [←hn] at hfn;rw [e0 n] at hN;refine Zd ?_;((refine yL 37 (Zu 6 Zs) fun v37 h=>?_;cases h)<;>(refine cP 38 (cA call80 (hN)) fun va38 vb38 hva38 h=>?_;cases h)<;>refine xL 36 Za (xL 39 Zp (xL 40 Zp ?_))<;>refine ZA [(.int .i64 0),(.string ByteArray.empty),(.slice none 0 0)] 3 8 Z8 fun h8=>?_<;>refine Zw 8 Zs ?_<;>refine xL 7 Zb ?_<;>refine Zi ?_)
 (refine xL 41 Za (xL 42 Wg (xL 43 Za ?_))<;>(refine bLd 43 (fun hb43=>?_) (fun hb43=>?_)<;>(first|refine kL 44 ?_|(refine yL 44 (Zu 8 Zs) fun v44 h=>?_;cases h)))<;>(first|refine kL 45 ?_|(refine cS 45 (cA call79 (Rc n hfn)) fun v45 h=>?_;cases h))<;>(first|refine kL 46 ?_|refine xL 46 Yd ?_)<;>refine xL 47 Zt ?_<;>refine Zc ?_)<;>(
 refine cX ?_ ?_<;>intro hb47
 · first|exact bN hb47|(
 refine Zd ?_;(refine xL 48 (ZO YC) ?_<;>refine Zw 2 Zs ?_<;>refine xL 3 Zb ?_<;>refine Zc ?_)
 refine Yn (k:=3) 2 kR (results24) rfl rfl rfl (Xa rfl) dC rfl ?_;rw [ZkU hv h40 hvt (hnr.elim (fun h=>UC h.1 (by rw [←h.2.1];first|(exfalso;exact hb43 h.2.2)|(simpa using hb47))) fun h=>h.1)];rfl)
 · first|exact bN hb47|(
 refine Zd ?_;((refine yL 49 (Zu 8 Zs) fun v49 h=>?_;cases h)<;>refine Zw 2 Zs ?_<;>refine xL 3 Zb ?_<;>refine Zc ?_)
 refine Yn (k:=3) 2 kR (results24) rfl rfl rfl (Xa rfl) dC rfl ?_;obtain ⟨h8,rfl,_⟩:Jx (Yg t)=true∧n=Yg t∧e2=0:=hnr.resolve_right fun h=>UC h.2.2 (by have:=hb43;omega);rw [ZkD hv h40 hvt h8];rfl)))))
theorem Zkf (l:List Var):(evA l).length≤(l.flatMap (·.acts)).length:=by
 have:=ζ5 (l.flatMap (·.acts)) []
 rw [Xq,Xx] at this
 exact this
section
variable {P:Program} {o:Oper} {st:St}
end
def Tu (op:Int):ByteArray:=if op=3 then ⟨#[115,101,113]⟩ else if op=4 then ⟨#[120,111,114]⟩ else if op=5 then ⟨#[97,110,100]⟩ else ⟨#[108,111,111,112]⟩
theorem Ez (op:Int):(Tu op).data.toList.length≤4:=by
 unfold Tu
 split
 · decide
 · split
   · decide
   · split<;>decide
def TX:List (List UInt8)→List UInt8
 |[]=>[]
 |[x]=>x
 |x::y::m=>x++[44,32]++TX (y::m)
theorem EA (x:List UInt8):∀m:List (List UInt8),TX (m++[x])=TX m++(if m=[] then [] else [44,32])++x
 |[]=>by simp [TX]
 |[y]=>by simp [TX]
 | y::z::m=>by
   have:=EA x (z::m);simp only [XX] at this ⊢;rw [TX,this,TX];simp
mutual
def JJ:Nd→List UInt8
 | .mk o a l=>if o=1 then a.data.toList else if o=2 then [40,41] else (Tu o).data.toList++[40]++TX (JG l)++[41]
def JG:List Nd→List (List UInt8)
 |[]=>[]
 |x::l=>JJ x::JG l
end
theorem D4 (l:List Nd):JG l=l.map JJ:=by
 induction l with
 |nil=>rfl
 |cons x l ih=>rw [JG,ih];rfl
theorem D5 (m:List (List UInt8)) (n:List Nat) (h:m.map List.length=n):(TX m).length≤n.sum+2*n.length:=by
 subst h
 match m with
 |[]=>simp [TX]
 |[x]=>simp [TX]
 | x::y::m=>
   have:=D5 (y::m) _ rfl;rw [TX];simp only [Xf,Xk,List.sum_cons,Xg,Xq,Xd] at this ⊢;omega
theorem ζ8:∀t:Nd,okT t=true→(JJ t).length+2≤50*szT t:=Nd.ind fun o a l ih hok=>by
 obtain ⟨hr,hp⟩:=Jw.1 hok
 have h40:=ζg hr
 simp only [Nd.l,Nd.act] at hp h40
 have h1:(a.data.toList).length=a.size:=XU
 have h2:((JG l).map List.length).sum+2*((JG l).map List.length).length≤50*szL l:=by
  clear hok hr;induction l with
  |nil=>simp [JG]
  | cons x l ih2=>
    have h3:=ih x (XQ ..) (hp x (XQ ..));have h4:=ih2 (fun y hy=>ih y (XS _ hy)) (fun y hy=>hp y (XS _ hy));rw [JG,szL];simp only [Xk,List.sum_cons,Xg,Xd] at h4 ⊢;omega
 have h3:=D5 (JG l) _ rfl
 have h4:=Ez o
 rw [JJ,szT]
 split
 · omega
 · split
   · simp only [Xg,Xq];omega
   · simp only [Xf,Xg,Xq];omega
theorem Zbv {l:List Nd} {k:Nat} {x:Nd} (h:l[k]? =some x):TX (JG (l.take (k+1)))=TX (JG (l.take k))++(if k=0 then [] else [44,32])++JJ x:=by
 rw [ZW h,D4,X1,Xk,Vi,EA,←D4]
 have hk:=Zj h
 by_cases h0:k=0
 · subst h0;rfl
 · rw [UA h0,UA];intro he;have:=congrArg List.length he;rw [D4,Xd,XF,Xq] at this;omega
theorem ZeZ {l:List Nd} (hp:∀x∈l,okT x=true) (k:Nat):(TX (JG (l.take k))).length≤50*szL (l.take k)∧szL (l.take k)≤szL l:=by
 have h2:∀m:List Nd,(∀x∈m,okT x=true)→((JG m).map List.length).sum+2*((JG m).map List.length).length≤50*szL m:=fun m=>by
  induction m with
  |nil=>intro _;simp [JG]
  | cons x m ih2=>
    intro hm;have h3:=ζ8 x (hm x (XQ ..));have h4:=ih2 (fun y hy=>hm y (XS _ hy));rw [JG,szL];simp only [Xk,List.sum_cons,Xg,Xd] at h4 ⊢;omega
 have h3:=D5 (JG (l.take k)) _ rfl
 have h4:=h2 (l.take k) fun x hx=>hp x (V8 hx)
 have h5:szL (l.take k)≤szL l:=by
  conv=>rhs;rw [←VH k l]
  rw [GR];omega
 exact ⟨oM,h5⟩
end Go.Proofs.YtmkojdfiadbeeaaGreat
namespace Go.En
open Go.RowKit Go.Cb
set_option linter.all false
section
variable {P:Program} {c:Ctx} {Q:Exit→Act→World→Prop} {sL hP:List (Nat×Ent)}
end
section
variable {P:Program} {st:St} {o:Oper} {x y:Operand} {q q':PV} {t t':TypeId}
end
section
variable {P:Program}
end
section
variable {P:Program} {c:Ctx} {ops:Array Oper} {Q:Exit→Act→World→Prop} {rest:List Oper} {sL hP:List (Nat×Ent)} {o:Oper}
end
section
variable {P:Program} {ops:Array Oper} {Q:Exit→Act→World→Prop} {Pp:List PanicEntry→World→Prop} {md:Region.Mode} {C:World→Prop} {Z:Nat→Bool}
end
section
variable {P:Program} {c:Ctx} {ops:Array Oper} {Q:Exit→Act→World→Prop} {Pp:List PanicEntry→World→Prop} {Z:Nat→Bool} {K:List Nat} {fuel:Nat} {listed:Array Bool} {sL hP:List (Nat×Ent)} {o:Oper}
end
section
variable {P:Program} {st:St} {o:Oper} {x y:Operand} {q q':PV} {t t':TypeId}
theorem Zkg {a b:ByteArray} (ho:o.op= .binOp .add t x y t':=by exact rfl) (hx:ev st.slots x=some (.string a,q):=by exact rfl) (hy:ev st.slots y=some (.string b,q'):=by exact rfl) (hs:(a.size:Int)+b.size≤9223372036854775807:=by omega):YE P st o (· = .string (a++b)) (.val (.string (a++b))):=
 y2 hx hy fun ρ w h3 h4=>by simp [execOp,ho,h3,h4,eqGuard,binOp,Op.stringOp];omega
end
section
variable {P:Program} {c:Ctx} {ops:Array Oper} {Q:Exit→Act→World→Prop} {rest:List Oper} {sL hP:List (Nat×Ent)} {o:Oper}
end
end Go.En
