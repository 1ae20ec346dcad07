/-
  The engine: functions that may panic: their results and their panics. No program in sight.
  Walks: the reader of trees: symbols wanted, trees read, by panics.
  Walks: the reader of trees: a tree is read, or the token is thrown that cannot stand.
  The engine: deferred calls that recover. No program in sight.
  Walks: reading a whole list of tokens: the panic is caught.
  Walks: a text is parsed.
  Process trees: how the arguments of the laws read; the examples of the chapter (layer 19).
  Walks: process trees: the reference's normal forms.
  Walks: process trees: the reference's normal forms, second part.
  The law PtreeNormal: Normal returns the normal form of the reference, or its error, whatever the tree.
  Walks: process trees: the activities.
  Walks: languages of trees: the reference's lists of names; activities of a tree; names of words.
  Walks: languages of trees: the automaton of a tree, out of those of its parts.
  Walks: the reference's automata: the table of an automaton.
  Walks: automata: Product.
-/
import Derived.Recover
import Derived.Test.YtgfabnhpllkebaaGreatDoorPk10
import Derived.Test.YtgfabnhpllkebaaGreatDoorPk08
import Derived.Test.YtgfabnhpllkebaaGreatDoorPk05
import Derived.Test.YtgfabnhpllkebaaGreatDoorMShelfU
import Derived.Test.YtgfabnhpllkebaaGreatDoorPk09
import Derived.Test.YtgfabnhpllkebaaGreatDoorPk06
import Derived.Test.YtgfabnhpllkebaaGreatDoorPk07
import Derived.Test.YtgfabnhpllkebaaGreatDoorPk01
namespace Go.En
open Go.RowKit Go.Cb
set_option linter.all false
section
variable {P:Program} {c:Ctx} {sL hP:List (Nat×Ent)}
theorem Zpa {fn:Func} {R:Value→PV→List (Nat×Ent)→Prop} {Rp:List PanicEntry→List (Nat×Ent)→Prop} {st:St} (h:aR c (bodyPost P fn (Zrt c R)) st):aR c (bodyPost P fn (Zyk c R Rp)) st:=fun a w H=>by
 obtain ⟨h1,v,h2,h3⟩:=h a w H
 exact ⟨h1,v,h2, .inl h3⟩
theorem Zv0 {R:Value→PV→List (Nat×Ent)→Prop} (Rp:List PanicEntry→List (Nat×Ent)→Prop) {ch:List PanicEntry} {Q:Exit→Act→World→Prop} (h:List (Nat×Ent)) (hs:Sub h hP) (hR:Rp ch h) (hQ:∀(a:Act) w,a.defers=[]∧Zyk c R Rp (.panicked ch) w→Q (.panic ch) a w:=by exact fun _ _ h=>h) (hdf:c.df=[]:=by exact rfl):aP c Q ch (⟨sL,hP⟩:St):=fun a w F H0=>by
 have H:HoldsF c (⟨sL,h⟩:St) F a w:=H0.less (fun _ _ h=>h) fun t x hx=>hs.lk hx
 exact hQ a w ⟨H.df.trans hdf, .inr ⟨ch,h,F,rfl,hR,H.toHeapF⟩⟩
def ZDk (c:Ctx) (Rc:List PanicEntry→List (Nat×Ent)→Prop) (ch:List PanicEntry) (w:World):Prop:=∃h F,Rc ch h∧HeapF c h F w
theorem ZEa {R:Value→PV→List (Nat×Ent)→Prop} {Rp:List PanicEntry→List (Nat×Ent)→Prop} {Q:Exit→Act→World→Prop} {Rc:List PanicEntry→List (Nat×Ent)→Prop} (hR:∀ch h,Rc ch h→Rp ch h) (hQ:∀ch (a:Act) w,a.defers=[]∧Zyk c R Rp (.panicked ch) w→Q (.panic ch) a w:=by exact fun _ _ _ h=>h):∀ch a w,a.defers=[]→ZDk c Rc ch w→Q (.panic ch) a w:=fun ch a w hd ⟨h,F,hr,hF⟩=>hQ ch a w ⟨hd, .inr ⟨ch,h,F,rfl,hR ch h hr,hF⟩⟩
theorem HoldsF.panW' {F:Nat→BS} {a:Act} {w:World} (H:HoldsF c (⟨sL,hP⟩:St) F a w) {Rc:List PanicEntry→List (Nat×Ent)→Prop} {ch:List PanicEntry} (h:List (Nat×Ent)) (hs:Sub h hP) (hR:Rc ch h):ZDk c Rc ch w:=by
 have H':HoldsF c (⟨sL,h⟩:St) F a w:=H.less (fun _ _ h=>h) fun t x hx=>hs.lk hx
 exact ⟨h,F,hR,H'.toHeapF⟩
end
section
variable {P:Program} {c:Ctx} {ops:Array Oper} {Q:Exit→Act→World→Prop} {Pp:List PanicEntry→World→Prop} {Z:Nat→Bool} {K:List Nat} {fuel:Nat} {listed:Array Bool} {sL hP:List (Nat×Ent)} {o:Oper}
theorem Zv1 (i:Nat) (ho:ops[i]? =some o)
 (h:∀(w':World) (M' N':BS) (DQ:Exit→Act→World→Prop),(∀ch (st':St) (a:Act) (w:World) (F':Nat→BS),HoldsF ⟨w',M',N',c.nt,c.dr,c.df⟩ st' F' a w→(∀F2,HoldsF c ⟨st'.slots,st'.heap++ZaP K hP⟩ F2 a w→Pp ch w)→DQ (.panic ch) a w)→(∀st':St,aDp P c ops Q Pp Z K fuel (listed.setIfInBounds i true) ⟨st'.slots,st'.heap++ZaP K hP⟩→aN ⟨w',M',N',c.nt,c.dr,c.df⟩ DQ st')→aL P ⟨w',M',N',c.nt,c.dr,c.df⟩ ops DQ [o] ⟨sL,Zbv K hP⟩)
 (hr:Region.ready .any ops listed=[i]:=by kernel_rfl) (hdf:c.df=[]:=by exact rfl):aDp P c ops Q Pp Z K (fuel+1) listed (⟨sL,hP⟩:St):=fun a w F H C hC=>
 ⟨(fun hn=>by rw [hr] at hn;cases hn),fun j hj=>by
   rw [hr] at hj;obtain rfl:j=i:=by simpa using hj
   refine Zgk (Q':=fun _ a' w'=>(Z j=true∨C w')∧Zeo P .any ops Q Pp C Z fuel (listed.setIfInBounds j true) a' w') ho (fun a' w' hq=>hq) ?_;refine h w _ _ (okN (fun _ a' w'=>(Z j=true∨C w')∧Zeo P .any ops Q Pp C Z fuel (listed.setIfInBounds j true) a' w') Pp) (fun ch st' a' w' F' H' hp=>?_) (fun st' hD a' w' ⟨F',H'⟩=>?_) a w ⟨F,H.frame K⟩
   · obtain ⟨H2,_,_⟩:=H.unframe H';exact ⟨H2.df.trans hdf,hp _ H2⟩
   · obtain ⟨H2,hch,hnk⟩:=H.unframe H';exact ⟨.inr (hC w' hch),hD a' w' _ H2 C fun W hW=>hC W (hch.tr hW hnk)⟩⟩
end
end Go.En
namespace Go.Proofs.YtgfabnhpllkebaaGreatDoor
open Go.RowKit Go.Cb Go.En
set_option linter.all false
set_option maxRecDepth 100000
theorem Zpb:AggT Tryz.prog 166 5=true:=by kernel_rfl
theorem Znx:FldT Tryz.prog 166 0 0=true:=by kernel_rfl
theorem Zny:FldT Tryz.prog 166 1 1=true:=by kernel_rfl
theorem Zdq:FldT Tryz.prog 229 0 0=true:=by kernel_rfl
theorem Zdr:FldT Tryz.prog 229 1 1=true:=by kernel_rfl
theorem Zfl:NoAgg Tryz.prog 162=true:=by kernel_rfl
theorem Zgq:NoAgg Tryz.prog 3=true:=by kernel_rfl
theorem ZyB:NoAgg Tryz.prog 9=true:=by kernel_rfl
theorem Zfm:SlT Tryz.prog 162 166 5=true:=by kernel_rfl
theorem Zss:ZaZ Tryz.prog 225=some ((.agg #[(.int .i64 0),(.string ByteArray.empty),(.int .i64 0),(.int .i64 0),(.int .i64 0)]),[(0,5)]):=by kernel_rfl
theorem ZyC:(Tryz.prog.info? 3).map (·.size)=some 1:=by kernel_rfl
def RtH (b:Nat) (L:List Tk) (i:Nat):List (Nat×Ent):=[(1000,Zb4 b, .own 229 2 1 [ZvV L,pInt i])]
def tkV (t:Tk):List Value:=[.int .i64 t.kind, .string (bst t.text), .int .i64 t.n, .int .i64 t.ln, .int .i64 t.col]
def ZB7 (t:Tk):List PanicEntry:=[{v:= .iface 225 (.agg (tkV t).toArray),recovered:=false}]
theorem Zpc (s:List UInt8) (hs:s.length≤1000000):AF Tryz.prog 229 [pB s] (· =pInt (ZsO s)):=by
 refine AF.of_body 13 Tryz.func229 rfl Tryz.ntmps229 (Xa rfl) ?_
 intro w0 M0 vs hl hv
 obtain ⟨v0,rfl⟩:=ZcP hl
 obtain rfl:=hv 0 _ _ rfl rfl
 clear hl hv
 refine nav ?_
 (refine ζa ?_<;>refine xL 2 ζc ?_<;>refine ζd ?_)
 (refine ζa ?_<;>refine xL 3 ζc ?_<;>refine ζd ?_)
 refine ζD (ι:={k:Nat//3≤k∧k≤7∧∀j:Nat,3≤j→j<k→s≠(Zb3 j).data.toList}) (fun k=>⟨[(0,_,_),(3, .int .i64 k.1,pInt k.1)],[]⟩) (fun k=>7-k.1) ⟨3,by decide,by decide,fun j h1 h2=>by omega⟩ (fun a w H=>H.weaken ⟨rfl,rfl,trivial⟩ trivial) ?_
 rintro ⟨k,hk1,hk2,hp⟩
 dsimp only
 try dsimp only at hk1 hk2 hp
 refine nav ?_
 (refine ζa ?_<;>refine xL 4 ζb (xL 5 ZgA ?_)<;>refine ζd ?_)
 (first|refine cCd ?_ ?_|refine cC ?_ ?_)<;>intro hb5
 · first
   |exact bN hb5
   | (
    have hwe:((Zb3 k).toList==(bst s).toList)=decide ((Zb3 k).data.toList=s):=by
     rw [Vl,decide_eq_true_eq];exact (Zcv (a:=Zb3 k) (b:=bst s)).trans ⟨fun h=>by rw [h,Zfb],fun h=>by rw [←h,ZBm]⟩
    refine nav ?_;(refine ζa ?_<;>refine xL 8 ζb ?_<;>(refine cS 9 (cA Tryz.call184 (ZvR k)) fun v9 h=>?_;cases h)<;>refine xL 10 ζb (xL 11 ZbI ?_)<;>refine ζd ?_)
    (first|refine cCd ?_ ?_|refine cC ?_ ?_)<;>intro hb11
    · first
      |exact bN hb11
      | (
       refine nav ?_;(refine ζa ?_<;>refine xL 12 ζb (xL 2 ζc ?_)<;>refine ζd ?_)
       refine ζp (Tryz.results229) rfl ?_;rw [hwe] at hb11;(have h1:(Zb3 k).data.toList=s:=by simpa using hb11);rw [←h1];have:ZsO (Zb3 (k:Int)).data.toList=(k:Int):=ZvZ (by omega);rw [this])
    · first
      |exact bN hb11
      | (
       (have h1:¬(Zb3 k).data.toList=s:=by rw [hwe] at hb11;simpa using hb11);refine nav ?_;(refine ζa ?_<;>refine xL 6 ζb (xL 7 ζM (xL 3 ζc ?_))<;>refine ζd ?_)
       refine ζh (
        ⟨k +1,by omega,by omega,fun j h2 h3=>by
         rcases Xq j k with h|h
         · exact hp j h2 h
         · (obtain rfl:j=k:=by omega);exact fun e=>h1 e.symm⟩
        ) (by dsimp only;omega) ⟨rfl,rfl,trivial⟩ trivial))
 · first
   |exact bN hb5
   | (
    refine nav ?_;(refine ζa ?_<;>refine xL 2 ζc ?_<;>refine ζd ?_)
    refine ζp (Tryz.results229) rfl ?_;(have h3:s≠[115,101,113]:=by have:=hp 3 (by omega) (by omega);rwa [show (Zb3 ((3:Nat):Int)).data.toList=[115,101,113] by decide] at this);(have h4:s≠[120,111,114]:=by have:=hp 4 (by omega) (by omega);rwa [show (Zb3 ((4:Nat):Int)).data.toList=[120,111,114] by decide] at this);(have h5:s≠[97,110,100]:=by have:=hp 5 (by omega) (by omega);rwa [show (Zb3 ((5:Nat):Int)).data.toList=[97,110,100] by decide] at this);(have h6:s≠[108,111,111,112]:=by have:=hp 6 (by omega) (by omega);rwa [show (Zb3 ((6:Nat):Int)).data.toList=[108,111,111,112] by decide] at this);unfold ZsO;rw [if_neg h3,if_neg h4,if_neg h5,if_neg h6])
theorem Zpd {l:List Tk} {k j:Nat} {x:Tk} (h:l[k]? =some x) (hj:j<5):(ZhB l)[k*5+j]? =(cTk x)[j]? :=by
 rw [←Zfk h,XW hj,Vm]
theorem ZyD (b:Nat) (L:List Tk) (i:Nat) (s:List UInt8) (hL:L.length≤1000000) (hi:i≤L.length):AFh False Tryz.prog 227 [(0,Zal b, .val (Zal b)),(1, .int .i64 0, .val (.int .i64 0)),(2, .string (bst s),pB s)] (RtH b L i) (fun u q h=>u= .bool (ZeP (L.drop i) s)∧q=ζ7 (ZeP (L.drop i) s)∧h=RtH b L i):=by
 obtain ⟨x,hx⟩:∃x:Tk,i<L.length→L[i]? =some x:=by
  rcases Xq i L.length with h|h
  · exact ⟨_,fun _=>XE h⟩
  · exact ⟨tk0,fun h'=>by omega⟩
 have hk0:i<L.length→(ZhB L)[(i+0)*5+0]? =some (pInt x.kind):=fun h=>Zpd (j:=0) (hx h) (by decide)
 have hk1:i<L.length→(ZhB L)[(i+0)*5+1]? =some (pB x.text):=fun h=>Zpd (j:=1) (hx h) (by decide)
 have e1:i<L.length→((ZhB L).drop (i*5)).take 5=[pInt x.kind,pB x.text,pInt x.n,pInt x.ln,pInt x.col]:=fun h=>Zfk (hx h)
 have e2:i<L.length→i*5+5≤(ZhB L).length:=fun h=>Zjb (hx h)
 have e3:i<L.length→ZeP (L.drop i) s=(decide (x.kind=4)&&decide (x.text=s)):=fun h=>by
  rw [Zgn (hx h),ZeP];congr 1;rw [Vl,beq_iff_eq,decide_eq_true_eq]
 have e4:¬i<L.length→ZeP (L.drop i) s=false:=fun h=>by rw [Zbl (by omega)];rfl
 unfold RtH
 refine AFh.of_body 44 Tryz.func227 rfl Tryz.ntmps227 (Xa rfl) rfl ?_
 intro w0 M0 N0
 refine nav ?_
 (refine ζa ?_<;>refine xL 6 ζc ?_<;>refine ζd ?_)
 (refine ζa ?_<;>refine xL 8 ζb (xL 9 (ζQ 1000) (xL 10 (ζe 1000 Zdr) ?_))<;>(refine yL 11 (ζk 1000 Zgq) fun v11 h=>?_;cases h)<;>refine xL 12 ζb (xL 13 ζM (xL 7 ζc ?_))<;>refine ζd ?_)
 (refine ζa ?_<;>refine xL 14 ζb (xL 15 ζb (xL 16 (ζQ 1000) (xL 17 (ζe 1000 Zdq) ?_)))<;>(refine yL 18 (ζk 1000 Zfl) fun v18 h=>?_;cases h)<;>refine xL 19 (ζ9 Zfm) (xL 20 ζP (xL 21 ζb ?_))<;>(refine bLd 21 (fun hb21=>?_) (fun hb21=>?_)<;>(first|refine kL 22 ?_|refine xL 22 ζb ?_))<;>(first|refine kL 23 ?_|refine xL 23 (ζQ 1000) ?_)<;>(first|refine kL 24 ?_|refine xL 24 (ζe 1000 Zdq) ?_)<;>(first|refine kL 25 ?_|(refine yL 25 (ζk 1000 Zfl) fun v25 h=>?_;cases h))<;>(first|refine kL 26 ?_|refine xL 26 ζb ?_)<;>(first|refine kL 27 ?_|refine xL 27 (ζW Zfm) ?_)<;>(first|refine kL 28 ?_|refine xL 28 (Zrs Znx) ?_)<;>(first|refine kL 29 ?_|(refine yL 29 (Zc6 Zgq rfl rfl (hk0 (by omega))) fun v29 h=>?_;cases h))<;>(first|refine kL 30 ?_|refine xL 30 ζY ?_)<;>refine xL 31 ζv (xL 32 ζb ?_)<;>(first|refine kL 33 ?_|(refine bLd 32 (fun hb32=>?_) (fun hb32=>?_)<;>(first|refine kL 33 ?_|refine xL 33 ζb ?_)))<;>(first|refine kL 34 ?_|refine xL 34 (ζQ 1000) ?_)<;>(first|refine kL 35 ?_|refine xL 35 (ζe 1000 Zdq) ?_)<;>(first|refine kL 36 ?_|(refine yL 36 (ζk 1000 Zfl) fun v36 h=>?_;cases h))<;>(first|refine kL 37 ?_|refine xL 37 ζb ?_)<;>(first|refine kL 38 ?_|refine xL 38 (ζW Zfm) ?_)<;>(first|refine kL 39 ?_|refine xL 39 (Zrs Zny) ?_)<;>(first|refine kL 40 ?_|(refine yL 40 (Zc6 ZyB rfl rfl (hk1 (by omega))) fun v40 h=>?_;cases h))<;>(first|refine kL 41 ?_|refine xL 41 ζb ?_)<;>(first|refine kL 42 ?_|refine xL 42 ZbI ?_)<;>refine xL 43 ζv (xL 6 ζc ?_)<;>refine ζd ?_)<;>(
  refine ZfE (RtH b L i) (Tryz.results227) rfl ⟨rfl,trivial⟩ ?_
  first
   |(rw [e3 (by omega),ZvC,decide_eq_true hb32,Bool.true_and];exact ⟨rfl,rfl,rfl⟩)
   |(rw [e3 (by omega),decide_eq_false hb32,Bool.false_and];exact ⟨rfl,rfl,rfl⟩)
   |(rw [e4 (by omega)];exact ⟨rfl,rfl,rfl⟩))
theorem Zv2 (b:Nat) (L:List Tk) (i:Nat) (s:List UInt8) (x:Tk) (hL:L.length≤1000000) (hx:L[i]? =some x):AFp False Tryz.prog 228 [(0,Zal b, .val (Zal b)),(1, .string (bst s),pB s)] (RtH b L i) (fun _ _ h=>ZeP (L.drop i) s=true∧h=RtH b L (i+1)) (fun ch h=>ZeP (L.drop i) s=false∧ch=ZB7 x∧h=RtH b L i):=by
 have hi:=ζi hx
 have e1:((ZhB L).drop (i*5)).take 5=[pInt x.kind,pB x.text,pInt x.n,pInt x.ln,pInt x.col]:=Zfk hx
 have e2:i*5+5≤(ZhB L).length:=Zjb hx
 unfold RtH
 refine AFp.of_body 27 Tryz.func228 rfl Tryz.ntmps228 (Xa rfl) rfl ?_
 intro w0 M0 N0
 refine nav ?_
 (refine ζa ?_<;>refine xL 4 ζb (xL 5 ζb ?_)<;>(refine Zaa [] 6 (Tryz.call227) (ZyD b L i s hL (by omega)) ?_;rintro _ _ _ ⟨rfl,rfl,rfl⟩;dsimp only [RtH])<;>refine xL 7 Zaw ?_<;>refine ζd ?_)
 (first|refine cCd ?_ ?_|refine cC ?_ ?_)<;>intro hb7
 · first
   |exact bN hb7
   | (
    refine nav ?_;(refine ZlE (ZDk ⟨w0,M0,N0,27,False,[]⟩ (fun ch h=>ZeP (L.drop i) s=false∧ch=ZB7 x∧h=RtH b L i)) (fun i=>([]:List Nat).elem i) [1000] kR (ZEa (fun _ _ h=>h)) ?_<;>refine xDp 0 8 rfl ζb ?_<;>refine xDp 1 9 rfl (ζQ 1000) ?_<;>refine xDp 2 10 rfl (ζe 1000 Zdq) ?_<;>(refine yDp 3 11 rfl (ζk 1000 Zfl) fun v11 h=>?_;cases h)<;>refine xDp 4 12 rfl ζb ?_<;>refine xDp 5 13 rfl (ζQ 1000) ?_<;>refine xDp 6 14 rfl (ζe 1000 Zdr) ?_<;>(refine yDp 7 15 rfl (ζk 1000 Zgq) fun v15 h=>?_;cases h)<;>refine xDp 8 16 rfl (ζW Zfm) ?_<;>(refine yDp 9 17 rfl (Zby Zpb) fun v17 h=>?_;cases h)<;>(refine yDp 10 18 rfl (Zef Zss) fun v18 h=>?_;cases h)<;>refine xDp 11 19 rfl (Zq0 kR) ?_<;>(refine Zvz (d:=18) (tkV x) rfl (fun h18=>?_);subst h18;exact Znn 12 rfl (fun a w F H=>H.panW' (RtH b L i) ⟨rfl,trivial⟩ ⟨by simpa using hb7,rfl,rfl⟩))<;>try dsimp only))
 · first
   |exact bN hb7
   | (
    refine nav ?_;(refine ζa ?_<;>refine xL 20 ζb (xL 21 (ζQ 1000) (xL 22 (ζe 1000 Zdr) ?_))<;>(refine yL 23 (ζk 1000 Zgq) fun v23 h=>?_;cases h)<;>refine xL 24 ζM (xL 25 (ζQ 1000) (xL 26 (ζe 1000 Zdr) ?_))<;>refine Zb7 1000 Zgq ZyC ?_<;>refine ζd ?_)
    exact ZC9 (RtH b L (i+1)) (Tryz.results228) ⟨rfl,trivial⟩ ⟨by simpa using hb7,rfl⟩)
theorem Zeh:AggT Tryz.prog 166 5=true:=by kernel_rfl
theorem ZdT:AggT Tryz.prog 24 3=true:=by kernel_rfl
theorem Zjc:ElT Tryz.prog 22 24 3 48 (.agg #[(.int .i64 0),(.string ByteArray.empty),(.slice none 0 0)]):=⟨Tryz.underlying22,by kernel_rfl,rfl,by decide⟩
theorem Znz:FldT Tryz.prog 166 0 0=true:=by kernel_rfl
theorem Zhp:FldT Tryz.prog 166 1 1=true:=by kernel_rfl
theorem Zhq:FldT Tryz.prog 229 0 0=true:=by kernel_rfl
theorem Zbg:FldT Tryz.prog 229 1 1=true:=by kernel_rfl
theorem ZfO:FldT Tryz.prog 24 2 2=true:=by kernel_rfl
theorem Zkr:NoAgg Tryz.prog 162=true:=by kernel_rfl
theorem Zjd:NoAgg Tryz.prog 22=true:=by kernel_rfl
theorem ZcT:NoAgg Tryz.prog 3=true:=by kernel_rfl
theorem Zrd:NoAgg Tryz.prog 9=true:=by kernel_rfl
theorem Zks:SlT Tryz.prog 162 166 5=true:=by kernel_rfl
theorem Zv3:SlT Tryz.prog 22 24 3=true:=by kernel_rfl
theorem Zkt:ZaZ Tryz.prog 225=some ((.agg #[(.int .i64 0),(.string ByteArray.empty),(.int .i64 0),(.int .i64 0),(.int .i64 0)]),[(0,5)]):=by kernel_rfl
theorem Zje:ZaZ Tryz.prog 24=some ((.agg #[(.int .i64 0),(.string ByteArray.empty),(.slice none 0 0)]),([0,1,2]:List Nat).map fun o=>(o,1)):=by kernel_rfl
theorem Zv4:(Tryz.prog.info? 22).map (·.size)=some 1:=by kernel_rfl
theorem ZlS:(Tryz.prog.info? 3).map (·.size)=some 1:=by kernel_rfl
theorem Zst:ZeroT Tryz.prog 166 (.agg #[(.int .i64 0),(.string ByteArray.empty),(.int .i64 0),(.int .i64 0),(.int .i64 0)]):=by unfold ZeroT;kernel_rfl
theorem ZnA:ZeroT Tryz.prog 24 (.agg #[(.int .i64 0),(.string ByteArray.empty),(.slice none 0 0)]):=by unfold ZeroT;kernel_rfl
theorem ZlT {L m:List Tk} (h:m<:+L):L.drop (L.length-m.length)=m∧m.length≤L.length:=⟨(List.suffix_iff_eq_drop.1 h).symm,h.length_le⟩
theorem Zgr {L m:List Tk} {i:Nat} {x:Tk} (h:L.drop i=x::m):L[i]? =some x:=by
 have:(L.drop i)[0]? =some x:=by rw [h];rfl
 rwa [Vm,Vd] at this
theorem Zpe {L m:List Tk} {i:Nat} {x:Tk} (h:L.drop i=x::m):L.drop (i+1)=m:=by rw [←XM,h];rfl
theorem EndL.cons {l:List Tk} (h:EndL l):∃x m,l=x::m:=by
 cases l with
 |nil=>exact absurd rfl h.ne
 |cons x m=>exact ⟨x,m,rfl⟩
abbrev ZjD (b:Nat) (L:List Tk) (f:Nat) (m:List Tk) (ch:List PanicEntry) (h:List (Nat×Ent)):Prop:=∃t,rdT f m= .err t∧ch=ZB7 t∧∃j,h=RtH b L j
def ZDl (b:Nat) (L:List Tk) (f:Nat):Prop:=∀m:List Tk,m<:+L→EndL m→m.length<f→AFp False Tryz.prog 182 [(0,Zal b, .val (Zal b))] (RtH b L (L.length-m.length)) (fun _ q h=>∃t m2,rdT f m= .ok t m2∧q=pTr t∧h=RtH b L (L.length-m2.length)) (ZjD b L f m)
set_option maxHeartbeats 4000000 in
theorem Zsu (b : Nat) (L:List Tk) (hL:L.length≤10000) (hT:∀x∈L,TkOk x) (f:Nat) (ih:∀f',f'≤f→ZDl b L f') (t0:Tk) (m1:List Tk) (hs:t0::m1<:+L) (he:EndL (t0::m1)) (hf:(t0::m1).length<f+1) (i:Nat) (hi0:i=L.length-(t0::m1).length):AFp False Tryz.prog 182 [(0,Zal b, .val (Zal b))] (RtH b L i) (fun _ q h=>∃t m2,rdT (f+1) (t0::m1)= .ok t m2∧q=pTr t∧h=RtH b L (L.length-m2.length)) (ZjD b L (f+1) (t0::m1)):=by
 obtain ⟨hdi,hml⟩:=ZlT hs
 rw [←hi0] at hdi
 rw [Xc] at hf hml hi0
 have hiL:i+(m1.length+1)=L.length:=by omega
 have hx:=Zgr hdi
 have hdi1:=Zpe hdi
 have hok0:=hT t0 (Xg hx)
 have e1:((ZhB L).drop (i*5)).take 5=[pInt t0.kind,pB t0.text,pInt t0.n,pInt t0.ln,pInt t0.col]:=Zfk hx
 have e2:i*5+5≤(ZhB L).length:=Zjb hx
 have hI:∀s:List UInt8,AFh False Tryz.prog 227 [(0,Zal b, .val (Zal b)),(1, .int .i64 0, .val (.int .i64 0)),(2, .string (bst s),pB s)] (RtH b L i) (fun u q h=>u= .bool (ZeP (t0::m1) s)∧q=ζ7 (ZeP (t0::m1) s)∧h=RtH b L i):=fun s=>by
  have:=ZyD b L i s (by omega) (by omega);rw [hdi] at this;exact this
 have hI1:∀s:List UInt8,AFh False Tryz.prog 227 [(0,Zal b, .val (Zal b)),(1, .int .i64 0, .val (.int .i64 0)),(2, .string (bst s),pB s)] (RtH b L (i+1)) (fun u q h=>u= .bool (ZeP m1 s)∧q=ζ7 (ZeP m1 s)∧h=RtH b L (i+1)):=fun s=>by
  have:=ZyD b L (i+1) s (by omega) (by omega);rw [hdi1] at this;exact this
 unfold RtH
 refine AFp.of_body 110 Tryz.func182 rfl Tryz.ntmps182 (Xa rfl) rfl ?_
 intro w0 M0 N0
 refine nav ?_
 (refine ζa ?_<;>refine ζs [(.int .i64 0),(.string ByteArray.empty),(.slice none 0 0)] 3 2 ZnA fun h2=>?_<;>refine ζd ?_)
 (refine ζV (fun i=>([]:List Nat).elem i) [1000] kR ?_<;>refine xD 0 6 rfl ζb ?_<;>refine xD 1 7 rfl (ζQ 1000) ?_<;>refine xD 2 8 rfl (ζe 1000 Zhq) ?_<;>(refine yD 3 9 rfl (ζk 1000 Zkr) fun v9 h=>?_;cases h)<;>refine xD 4 10 rfl ζb ?_<;>refine xD 5 11 rfl (ζQ 1000) ?_<;>refine xD 6 12 rfl (ζe 1000 Zbg) ?_<;>(refine yD 7 13 rfl (ζk 1000 ZcT) fun v13 h=>?_;cases h)<;>refine xD 8 14 rfl (ζW Zks) ?_<;>(refine yD 9 15 rfl (Zby Zeh) fun v15 h=>?_;cases h)<;>(refine ζj 10 kR ?_)<;>(refine ζg rfl fun w9 M9 N9 DQ back=>?_)<;>refine ζs [(.int .i64 0),(.string ByteArray.empty),(.int .i64 0),(.int .i64 0),(.int .i64 0)] 5 3 Zst fun h3=>?_<;>refine ζf (back _ (nrm ?_))<;>(refine ζj 11 kR ?_)<;>(refine ζg rfl fun w9 M9 N9 DQ back=>?_)<;>refine ζt 3 Zeh ?_<;>refine ζf (back _ (nrm ?_))<;>refine Zae kR (nav ?_)<;>try dsimp only)
 refine ζC (ζI (l:=3) (p':= .own 166 5 1 [pInt t0.kind,pB t0.text,pInt t0.n,pInt t0.ln,pInt t0.col]) rfl rfl) fun _=>?_
 (refine ζa ?_<;>refine xL 17 ζb ?_<;>(refine Zaa [2,3] 18 (Tryz.call227) (hI [40]) ?_;rintro _ _ _ ⟨rfl,rfl,rfl⟩;dsimp only [RtH])<;>refine xL 16 ζc ?_<;>refine ζd ?_)
 (first|refine cCd ?_ ?_|refine cC ?_ ?_)<;>intro hb16
 · first
   |exact bN hb16
   | (
    have h40:ZeP (t0::m1) [40]=true:=hb16;(have hr:rdT (f+1) (t0::m1)=(if ZeP m1 [41] then .ok ZnZ m1.tail else .err (m1.headD tk0)):=by rw [rdT,if_pos h40]);(have hk0:t0.kind=4:=by obtain ⟨t',m',hc,hk,_⟩:=ZbN h40;cases hc;exact hk);have he1:=he.tail (by omega);obtain ⟨x1,m2,rfl⟩:=he1.cons;have hx1:=Zgr hdi1;rw [Xc] at hiL;refine nav ?_;(refine ζa ?_<;>refine xL 19 ζb (xL 20 (ζQ 1000) (xL 21 (ζe 1000 Zbg) ?_))<;>(refine yL 22 (ζk 1000 ZcT) fun v22 h=>?_;cases h)<;>refine xL 23 ζM (xL 24 (ζQ 1000) (xL 25 (ζe 1000 Zbg) ?_))<;>refine Zb7 1000 ZcT ZlS ?_<;>refine ζd ?_)
    (refine ζa ?_<;>refine xL 26 ζb ?_<;>(refine ζ3 [(2,_,_),(3,_,_),(1000,Zb4 b, .own 229 2 1 [ZvV L,pInt ((i+1:Nat):Int)])] ⟨rfl,rfl,rfl,trivial⟩ ?_;refine Zvw [2,3] 27 (Tryz.call228) (Zv2 b L (i+1) [41] x1 (by omega) hx1) (fun v27 p27 h27 hR27=>?_) (fun ch h hRp=>by (obtain ⟨hp1,rfl,rfl⟩:=hRp;rw [hdi1] at hp1;exact Zv0 (ZjD b L (f+1) (t0::x1::m2)) (RtH b L (i+1)) ⟨rfl,trivial⟩ ⟨x1,by rw [hr,hp1];rfl,rfl,_,rfl⟩));obtain ⟨hp1,rfl⟩:=hR27;rw [hdi1] at hp1;dsimp only [RtH])<;>refine ζd ?_)
    (refine ζa ?_<;>refine xL 28 (ζB Zje) ?_<;>(refine ζq (Zc9 (t:=28) (p':=pTr ZnZ) rfl (ZeN 2 ByteArray.empty)) fun _=>?_;refine ζt 2 ZdT ?_)<;>refine ζd ?_)
    refine Zpa (ZqM (k:=3) 2 (RtH b L (i+1+1)) kR (Tryz.results182) rfl rfl (Xa rfl) (by decide) rfl ⟨rfl,trivial⟩ fun V=>⟨ZnZ,m2,by rw [hr,hp1];rfl,rfl,?_⟩);rw [show i+1+1=L.length-m2.length by omega];rfl)
 · first
   |exact bN hb16
   | (
    have h40:ZeP (t0::m1) [40]=false:=hb16;refine nav ?_;(refine ζa ?_<;>refine xL 30 (ζe 3 Znz) ?_<;>(refine yL 31 (ζk 3 ZcT) fun v31 h=>?_;cases h)<;>refine xL 32 ZaN (xL 29 ζc ?_)<;>refine ζd ?_)
    (first|refine cCd ?_ ?_|refine cC ?_ ?_)<;>intro hb29
    · first
      |exact bN hb29
      | (
       refine nav ?_;(refine ζa ?_<;>(refine yL 33 (ζm 3 Zeh) fun v33 h=>?_;cases h)<;>(refine yL 34 (Zef Zkt) fun v34 h=>?_;cases h)<;>refine xL 35 (Zq0 kR) ?_<;>(refine ZzD (d:=34) (tkV t0) rfl (fun h34=>?_);subst h34;refine ZqZ ?_;exact Zv0 (ZjD b L (f+1) (t0::m1)) (RtH b L i) ⟨rfl,trivial⟩ ⟨t0,by rw [rdT,h40,if_neg X7,if_pos (by omega)],rfl,_,rfl⟩)<;>refine ζd ?_))
    · first
      |exact bN hb29
      | (
       (have hk1:t0.kind=1:=by omega);have he1:=he.tail (by omega);have hr:rdT (f+1) (t0::m1)=(if ZsO t0.text=0 then (if ZeP m1 [40] then .err (m1.headD tk0) else .ok (.mk 1 (bst t0.text) []) m1)
        else if ZeP m1 [40] then (match rdT f m1.tail with| .err e=> .err e| .ok x m2=>rdL f (ZsO t0.text) [x] m2)
        else .ok (.mk 1 (bst t0.text) []) m1):=by
        rw [rdT,h40,if_neg X7,if_neg (by omega)];rfl
       obtain ⟨o,ho⟩:∃o,o=ZsO t0.text:=⟨_,rfl⟩;rw [←ho] at hr;have hob:=Zvu t0.text;rw [←ho] at hob;have htx:=hok0.text;have hopc:=Zpc t0.text (by omega);rw [←ho] at hopc;obtain ⟨x1,m2,rfl⟩:=he1.cons;have hx1:=Zgr hdi1;have hdi2:=Zpe hdi1;have e3:((ZhB L).drop ((i+1)*5)).take 5=[pInt x1.kind,pB x1.text,pInt x1.n,pInt x1.ln,pInt x1.col]:=Zfk hx1;have e4:(i+1)*5+5≤(ZhB L).length:=Zjb hx1;rw [Xc] at hiL hf;refine nav ?_;(refine ζa ?_<;>refine xL 36 (ζe 3 Zhp) ?_<;>(refine yL 37 (ζk 3 Zrd) fun v37 h=>?_;cases h)<;>(refine cS 38 (cA Tryz.call229 (hopc)) fun v38 h=>?_;cases h)<;>refine xL 4 ζc ?_<;>refine ζd ?_)
       (refine ζa ?_<;>refine xL 39 ζb (xL 40 (ζQ 1000) (xL 41 (ζe 1000 Zbg) ?_))<;>(refine yL 42 (ζk 1000 ZcT) fun v42 h=>?_;cases h)<;>refine xL 43 ζM (xL 44 (ζQ 1000) (xL 45 (ζe 1000 Zbg) ?_))<;>refine Zb7 1000 ZcT ZlS ?_<;>refine ζd ?_)
       (refine ζa ?_<;>refine xL 46 ζb (xL 47 ζY (xL 48 ζb ?_))<;>(refine bLd 48 (fun hb48=>?_) (fun hb48=>?_)<;>(first|refine kL 49 ?_|refine xL 49 ζb ?_))<;>(first|refine kL 50 ?_|refine kL 50 ?_|(refine ζ3 [(2,_,_),(3,_,_),(1000,Zb4 b, .own 229 2 1 [ZvV L,pInt ((i+1:Nat):Int)])] ⟨rfl,rfl,rfl,trivial⟩ ?_;refine Zaa [2,3] 50 (Tryz.call227) (hI1 [40]) ?_;rintro _ _ _ ⟨rfl,rfl,rfl⟩;dsimp only [RtH]))<;>(first|refine kL 51 ?_|refine xL 51 Zaw ?_)<;>refine xL 52 ζv ?_<;>refine ζd ?_)<;>(
        (first|refine cCd ?_ ?_|refine cC ?_ ?_)<;>intro hb52
        · first
          |exact bN hb52
          | (
           refine nav ?_;(refine ζa ?_<;>refine xL 53 ζb ?_<;>(refine ζ3 [(2,_,_),(3,_,_),(1000,Zb4 b, .own 229 2 1 [ZvV L,pInt ((i+1:Nat):Int)])] ⟨rfl,rfl,rfl,trivial⟩ ?_;refine Zaa [2,3] 54 (Tryz.call227) (hI1 [40]) ?_;rintro _ _ _ ⟨rfl,rfl,rfl⟩;dsimp only [RtH])<;>refine ζd ?_)
           (first|refine cCd ?_ ?_|refine cC ?_ ?_)<;>intro hb54
           · first
             |exact bN hb54
             | (
              have h40':ZeP (x1::m2) [40]=true:=hb54;refine nav ?_;(refine ZlE (ZDk ⟨w0,M0,N0,110,False,[]⟩ (ZjD b L (f+1) (t0::x1::m2))) (fun i=>([]:List Nat).elem i) [1000] kR (ZEa (fun _ _ h=>h)) ?_<;>refine xDp 0 55 rfl ζb ?_<;>refine xDp 1 56 rfl (ζQ 1000) ?_<;>refine xDp 2 57 rfl (ζe 1000 Zhq) ?_<;>(refine yDp 3 58 rfl (ζk 1000 Zkr) fun v58 h=>?_;cases h)<;>refine xDp 4 59 rfl ζb ?_<;>refine xDp 5 60 rfl (ζQ 1000) ?_<;>refine xDp 6 61 rfl (ζe 1000 Zbg) ?_<;>(refine yDp 7 62 rfl (ζk 1000 ZcT) fun v62 h=>?_;cases h)<;>refine xDp 8 63 rfl (ζW Zks) ?_<;>(refine yDp 9 64 rfl (Zby Zeh) fun v64 h=>?_;cases h)<;>(refine yDp 10 65 rfl (Zef Zkt) fun v65 h=>?_;cases h)<;>refine xDp 11 66 rfl (Zq0 kR) ?_<;>(refine Zvz (d:=65) (tkV x1) rfl (fun h65=>?_);subst h65;exact Znn 12 rfl (fun a w F H=>H.panW' (RtH b L (i+1)) ⟨rfl,trivial⟩ ⟨x1,by first|(rw [hr,if_pos (by omega),if_pos h40'];rfl)|(exfalso;simp_all;done),rfl,_,rfl⟩))<;>try dsimp only))
           · first
             |exact bN hb54
             | (
              (have h40':ZeP (x1::m2) [40]=false:=by simpa using hb54);refine nav ?_;(refine ζa ?_<;>refine xL 67 (ζe 3 Zhp) ?_<;>(refine yL 68 (ζk 3 Zrd) fun v68 h=>?_;cases h)<;>refine xL 69 (ζB Zje) ?_<;>(refine ζq (Zc9 (t:=69) (p':=pTr (.mk 1 (bst t0.text) [])) rfl (ZeN 1 (bst t0.text))) fun _=>?_;refine ζt 2 ZdT ?_)<;>refine ζd ?_)
              refine Zpa (ZqM (k:=3) 2 (RtH b L (i+1)) kR (Tryz.results182) rfl rfl (Xa rfl) (by decide) rfl ⟨rfl,trivial⟩ fun V=>⟨.mk 1 (bst t0.text) [],x1::m2,?_,rfl,?_⟩)
              · rw [hr,h40'];split<;>rfl
              · rw [Xc,show i+1=L.length-(m2.length+1) by omega];rfl))
        · first
          |exact bN hb52
          | (
           refine nav ?_;have ho0:¬o=0:=by first|omega|simp_all
           have h40':ZeP (x1::m2) [40]=true:=by first|assumption|simp_all
           (have hk1':x1.kind=4:=by obtain ⟨t',m',hc,hk,_⟩:=ZbN h40';cases hc;exact hk);have he2:=he1.tail (by omega);have hs2:m2<:+L:=⟨L.take (i+1+1),by rw [←hdi2,Vt]⟩;rw [if_neg ho0,if_pos h40'] at hr;have hc2:=ih f (Xb _) m2 hs2 he2 (by omega);rw [show L.length-m2.length=i+1+1 by omega] at hc2;(refine ζa ?_<;>refine xL 70 ζb (xL 71 (ζQ 1000) (xL 72 (ζe 1000 Zbg) ?_))<;>(refine yL 73 (ζk 1000 ZcT) fun v73 h=>?_;cases h)<;>refine xL 74 ζM (xL 75 (ζQ 1000) (xL 76 (ζe 1000 Zbg) ?_))<;>refine Zb7 1000 ZcT ZlS ?_<;>refine ζd ?_)
           (refine ζa ?_<;>refine xL 77 ζb (xL 78 ζb ?_)<;>(refine ζ3 [(2,_,_),(3,_,_),(1000,Zb4 b, .own 229 2 1 [ZvV L,pInt ((i+1+1:Nat):Int)])] ⟨rfl,rfl,rfl,trivial⟩ ?_;refine Zvw [2,3] 79 (Tryz.call182) hc2 (fun v79 p79 h79 hR79=>?_) (fun ch h hRp=>by (obtain ⟨t,hp1,rfl,j,rfl⟩:=hRp;exact Zv0 (ZjD b L (f+1) (t0::x1::m2)) (RtH b L j) ⟨rfl,trivial⟩ ⟨t,by rw [hr];show (match rdT f m2 with| .err e=>Rd.err e| .ok x m2=>rdL f o [x] m2)=_;rw [hp1],rfl,j,rfl⟩));obtain ⟨x,m3,hr3,rfl,rfl⟩:=hR79;dsimp only [RtH])<;>(refine Zbi 80 Zjc fun h80 ho80=>?_;have hone80:En.one (PV.val h80)=true:=ho80;refine ζq (ζJ (l:=80) 200 rfl rfl) fun _=>?_;refine ζq (ζI (l:=200) rfl (show PV.own 24 3 1 (cN x)= .own 24 3 [x].length (ZaB [x]) by rw [Za9];rfl)) fun _=>?_)<;>refine xL 81 (ζB Zje) ?_<;>refine ζs [(.int .i64 0),(.string ByteArray.empty),(.slice none 0 0)] 3 5 ZnA fun h5=>?_<;>(refine ζq (Zel (t:=81) (p':= .agg [pInt o, .val (.string ByteArray.empty), .val h80]) rfl rfl) fun _=>?_;refine ζt 5 ZdT ?_)<;>refine ζd ?_)
           have hrd3:=(Zr8 f).1 _ _ _ he2 hr3;have hr':rdT (f+1) (t0::x1::m2)=rdL f o [x] m3:=by
            rw [hr];show (match rdT f m2 with| .err e=>Rd.err e| .ok x m2=>rdL f o [x] m2)=_;rw [hr3]
           have hl3:=hrd3.lt;refine ζD (ι:={q:(Value×List Nd)×(List Tk×Nat)//(rdL q.2.2 o q.1.2 q.2.1=rdT (f+1) (t0::x1::m2)∧q.2.1<:+L∧EndL q.2.1)∧q.2.1.length<q.2.2∧q.2.2≤f∧q.1.2.length+q.2.1.length≤10000∧q.1.1.oneCell'=true}) (fun k=>⟨[(0,_,_),(2,_,_),(4,_,_),(5,_,_)],[(2,_,_),(5,h5, .own 24 3 1 [pInt o, .val (.string ByteArray.empty), .val k.1.1.1]),(200,k.1.1.1, .own 24 3 k.1.1.2.length (ZaB k.1.1.2)),(1000,Zb4 b, .own 229 2 1 [ZvV L,pInt ((L.length-k.1.2.1.length:Nat):Int)])]⟩) (fun k=>k.1.2.1.length) ⟨((_,[x]),(m3,f)),⟨hr'.symm,hrd3.suf.trans hs2,hrd3.endl⟩,by dsimp only;omega,Xb _,by dsimp only;simp only [Xc,Xs];omega,ho80⟩ (fun a w H=>H.weaken ⟨rfl,rfl,rfl,rfl,trivial⟩ ⟨rfl,rfl,rfl,rfl,trivial⟩) ?_;rintro ⟨⟨⟨hv,d⟩,⟨mm,ff⟩⟩,⟨hre,hsm,hem⟩,hfl,hff,hdl,hov⟩;dsimp only;dsimp only at hre hsm hem hfl hff hdl hov;have hone:En.one (PV.val hv)=true:=hov;obtain ⟨xm,mt,rfl⟩:=hem.cons;obtain ⟨hdm,hmm⟩:=ZlT hsm;have hxm:=Zgr hdm;have hdm1:=Zpe hdm;obtain ⟨im,him⟩:∃im,im=L.length-(xm::mt).length:=⟨_,rfl⟩;rw [←him] at hdm hxm hdm1;rw [Xc] at hmm him hfl hdl;have hxl:(xm::mt).length=mt.length+1:=rfl;have hIm:AFh False Tryz.prog 227 [(0,Zal b, .val (Zal b)),(1, .int .i64 0, .val (.int .i64 0)),(2, .string (bst [44]),pB [44])] (RtH b L (L.length-(xm::mt).length)) (fun u q h=>u= .bool (ZeP (xm::mt) [44])∧q=ζ7 (ZeP (xm::mt) [44])∧h=RtH b L (L.length-(xm::mt).length)):=by
            have:=ZyD b L im [44] (by omega) (by omega);rw [hdm,him] at this;exact this
           have hWm:∀s,AFp False Tryz.prog 228 [(0,Zal b, .val (Zal b)),(1, .string (bst s),pB s)] (RtH b L (L.length-(xm::mt).length)) (fun _ _ h=>ZeP (xm::mt) s=true∧h=RtH b L (im+1)) (fun ch h=>ZeP (xm::mt) s=false∧ch=ZB7 xm∧h=RtH b L im):=fun s=>by
            have:=Zv2 b L im s xm (by omega) hxm;rw [hdm] at this;rw [Xc,←him];exact this
           obtain ⟨g,rfl⟩:∃g,ff=g+1:=⟨ff-1,by omega⟩;rw [rdL] at hre;refine nav ?_;(refine ζa ?_<;>refine xL 82 ζb (xL 83 ζY (xL 84 ζb ?_))<;>(refine bLd 84 (fun hb84=>?_) (fun hb84=>?_)<;>(first|refine kL 85 ?_|refine xL 85 (ζe 5 ZfO) ?_))<;>(first|refine kL 86 ?_|(refine yL 86 (ζk 5 Zjd) fun v86 h=>?_;cases h))<;>(first|refine kL 87 ?_|refine xL 87 (Zbw 200 Zv3) ?_)<;>(first|refine kL 88 ?_|refine xL 88 ζP ?_)<;>refine xL 89 ζv (xL 90 ζb ?_)<;>(first|refine xL 91 ζb ?_|(refine bLd 90 (fun hb90=>?_) (fun hb90=>?_)<;>(first|refine kL 91 ?_|refine xL 91 ζb ?_)))<;>(first|refine kL 92 ?_|refine xL 92 ZaN ?_)<;>(first|refine kL 93 ?_|refine xL 93 ζb ?_)<;>(first|refine kL 94 ?_|(refine bLd 93 (fun hb93=>?_) (fun hb93=>?_)<;>(first|refine kL 94 ?_|refine xL 94 ζb ?_)))<;>(first|refine kL 95 ?_|refine kL 95 ?_|(refine Zaa [2,5,200] 95 (Tryz.call227) hIm ?_;rintro _ _ _ ⟨rfl,rfl,rfl⟩;dsimp only [RtH]))<;>(first|refine kL 96 ?_|refine xL 96 ζv ?_)<;>refine xL 97 ζv ?_<;>refine ζd ?_)<;>(
            (first|refine cCd ?_ ?_|refine cC ?_ ?_)<;>intro hb97
            · first
              |exact bN hb97
              | (
               have hcond:(o=6∧d.length<2)∨(o≠6∧ZeP (xm::mt) [44]=true):=by
                first
                 |exact .inl ⟨by omega,by omega⟩
                 |(refine .inr ⟨by omega,?_⟩;first|assumption|simp_all)
               rw [if_pos hcond] at hre;refine nav ?_;(refine ζa ?_<;>refine xL 98 ζb ?_<;>(refine Zvw [2,5,200] 99 (Tryz.call228) (hWm [44]) (fun v99 p99 h99 hR99=>?_) (fun ch h hRp=>by (obtain ⟨hp1,rfl,rfl⟩:=hRp;exact Zv0 (ZjD b L (f+1) (t0::x1::m2)) (RtH b L im) ⟨rfl,trivial⟩ ⟨xm,by rw [←hre,hp1];rfl,rfl,_,rfl⟩));obtain ⟨hp1,rfl⟩:=hR99;dsimp only [RtH])<;>refine ζd ?_)
               rw [if_pos hp1] at hre;(have hkm:xm.kind=4:=by obtain ⟨t',m',hc,hk,_⟩:=ZbN hp1;cases hc;exact hk);have het:=hem.tail (by omega);have hst:mt<:+L:=⟨L.take (im+1),by rw [←hdm1,Vt]⟩;have hct:=ih g (by omega) mt hst het (by omega);rw [show L.length-mt.length=im+1 by omega] at hct;(refine ZlE (ZDk ⟨w0,M0,N0,110,False,[]⟩ (ZjD b L (f+1) (t0::x1::m2))) (fun i=>([5,6,7]:List Nat).elem i) [5] kR (ZEa (fun _ _ h=>h)) ?_<;>refine xDp 0 100 rfl (ζe 5 ZfO) ?_<;>(refine yDp 1 101 rfl (ζk 5 Zjd) fun v101 h=>?_;cases h)<;>refine xDp 2 102 rfl ζb ?_<;>(refine Zv1 3 rfl (fun w9 M9 N9 DQ hDP back=>?_))<;>(refine Zvw [2,200] 103 (Tryz.call182) hct (fun v103 p103 h103 hR103=>?_) (fun ch h hRp a w F H=>by (obtain ⟨t,hp2,rfl,j,rfl⟩:=hRp;exact hDP _ _ a w F H (fun F2 H2=>H2.panW' (RtH b L j) ⟨rfl,trivial⟩ ⟨t,by rw [←hre];show (match rdT g mt with| .err e=>Rd.err e| .ok x m2=>rdL g o (d++[x]) m2)=_;rw [hp2],rfl,j,rfl⟩)));obtain ⟨y,m4,hr4,rfl,rfl⟩:=hR103;dsimp only [RtH])<;>refine ζf (back _ ?_)<;>(refine Zv1 4 rfl (fun w9 M9 N9 DQ hDP back=>?_))<;>refine Zbi 104 Zjc fun h104 ho104=>?_<;>refine ζf (back _ ?_)<;>refine Zyn ?_<;>(refine ZlF 5 rfl (fun DQ hDP back=>?_))<;>(refine ZbH 200 104 105 Zjc fun h105 ho105=>?_;have hone105:En.one (PV.val h105)=true:=ho105;refine ζq (ζJ (l:=105) 200 rfl rfl) fun _=>?_;refine ζq (ζI (l:=200) rfl (show PV.own 24 3 (d.length+1) (ZaB d++cN y)= .own 24 3 (d++[y]).length (ZaB (d++[y])) by rw [Zi0,Xd];rfl)) fun _=>?_)<;>refine ζf (back _ ?_)<;>(refine ZlF 6 rfl (fun DQ hDP back=>?_))<;>refine xL 106 (ζe 5 ZfO) ?_<;>refine ζf (back _ ?_)<;>(refine ZlF 7 rfl (fun DQ hDP back=>?_))<;>refine Zb7 5 Zjd Zv4 ?_<;>refine ζf (back _ ?_)<;>refine Zym kR (nav ?_)<;>try dsimp only)
               have hrd4:=(Zr8 g).1 _ _ _ het hr4;have hre':rdL g o (d++[y]) m4=rdT (f+1) (t0::x1::m2):=by
                rw [←hre];show _=(match rdT g mt with| .err e=>Rd.err e| .ok x m2=>rdL g o (d++[x]) m2);rw [hr4]
               have hl4:=hrd4.lt;refine ζh (
                ⟨((h105,d++[y]),(m4,g)),⟨hre',hrd4.suf.trans hst,hrd4.endl⟩,by dsimp only;omega,by dsimp only;omega,by dsimp only;simp only [Xd,Xc,Xs];omega,ho105⟩
                ) (by dsimp only;omega) ⟨rfl,rfl,rfl,rfl,trivial⟩ ⟨rfl,rfl,rfl,rfl,trivial⟩)
            · first
              |exact bN hb97
              | (
               have hcond:¬((o=6∧d.length<2)∨(o≠6∧ZeP (xm::mt) [44]=true)):=by
                rintro (⟨h1,h2⟩|⟨h1,h2⟩)
                · first|omega|simp_all
                · first|omega|simp_all
               rw [if_neg hcond] at hre;refine nav ?_;(refine ζa ?_<;>refine xL 107 ζb ?_<;>(refine Zvw [2,5,200] 108 (Tryz.call228) (hWm [41]) (fun v108 p108 h108 hR108=>?_) (fun ch h hRp=>by (obtain ⟨hp1,rfl,rfl⟩:=hRp;exact Zv0 (ZjD b L (f+1) (t0::x1::m2)) (RtH b L im) ⟨rfl,trivial⟩ ⟨xm,by rw [←hre,hp1];rfl,rfl,_,rfl⟩));obtain ⟨hp1,rfl⟩:=hR108;dsimp only [RtH])<;>refine ζd ?_)
               rw [if_pos hp1] at hre;refine ζC (ZaW (l:=5) (l':=200) (j:=2) rfl rfl rfl rfl) fun _=>?_;rw [Zgg _ _ _ rfl];(refine ζa ?_<;>(refine yL 109 (ζm 5 ZdT) fun v109 h=>?_;cases h)<;>refine ζt 2 ZdT ?_<;>refine ζd ?_)
               refine Zpa (ZqM (k:=3) 2 (RtH b L (im+1)) kR (Tryz.results182) rfl rfl (Xa rfl) (by decide) rfl ⟨rfl,trivial⟩ fun V=>⟨.mk o ByteArray.empty d,mt,hre.symm,rfl,?_⟩);rw [show im+1=L.length-mt.length by omega];rfl))))))
end Go.Proofs.YtgfabnhpllkebaaGreatDoor
namespace Go.En
open Go.RowKit Go.Cb
set_option linter.all false
section
variable {P:Program} {c:Ctx} {ops:Array Oper} {Q:Exit→Act→World→Prop} {rest:List Oper} {sL hP:List (Nat×Ent)} {o:Oper}
theorem ZBJ {f:Nat} {caps:Array Value} {x:Operand} {q:PV} (k:aL P ⟨c.w0,c.M0,c.N0,c.nt,c.dr,{target:= .fn (.func f) caps,args:= #[]}::c.df⟩ ops Q rest (⟨sL,hP⟩:St)) (hw:ζ2 ops sL o=some true:=by exact rfl) (hd:o.dst=none:=by exact rfl) (ho:o.op= .defer {callee:= .value x,args:= #[],argTypes:= #[]}:=by exact rfl) (hx:ev sL x=some (.func (.func f) #[] caps,q):=by exact rfl):aL P c ops Q (o::rest) (⟨sL,hP⟩:St):=
 Zav hw fun a w F H=>by
  have hv:=(H.rd.ev hx).1;unfold Oper.wp execOp;simp [ho,resolve,Deferred.ofValue,hv,Oper.upon,hd,Act.put];exact k _ _ ⟨F,⟨⟨H.tr,H.lo,H.dj,H.m0,H.ext,H.dw⟩,H.sl,H.size,congrArg (_:: ·) H.df⟩⟩
end
section
variable {P:Program}
theorem AF.of_bodyD {f:FuncId} {fn:Func} {code:Code} {ps:List PV} {R:PV→Prop} (nt:Nat) (hf:P.funcs[f]? =some fn) (hb:fn.body=some code) (hnt:fn.ntmps=nt) (hn:ps.length≤nt)
 (h:∀(w0:World) (M0:BS) (vs:List Value),vs.length=ps.length→(∀(i:Nat) (v:Value) (p:PV),vs[i]? =some v→ps[i]? =some p→vOf p v)→aC P ⟨w0,M0,fun _=>False,nt,False,[]⟩ code (bodyPostD P fn (ZfD ⟨w0,M0,fun _=>False,nt,False,[]⟩ R)) ⟨ZbO 0 vs ps,[]⟩):AF P f ps R:=fun M w vs hM hl hv=>by
 subst hnt
 refine calls_of_wp_defers hf hb ?_
 refine wp_mono (h w M vs hl (fun i v p h1 h2=>(hv i v p h1 h2).vOf) _ w ⟨fun _ _=>False,⟨⟨by simp [lk],by simp [lk],by simp [lk],hM,Chg.rfl' _ _,fun _=>Xb _⟩,fun t v p ht=>?_,?_,rfl⟩⟩) fun e a w' hq=>?_
 · obtain ⟨_,h1,h2⟩:=ZdX vs ps 0 t v p ht;simp only [Vg] at h1 h2;refine ⟨?_,(hv t v p h1 h2).anti fun b _ hb=>?_⟩
   · have:=ζi h1;rw [Vh (by simpa using this)];simpa using h1
   · rcases hb with hb|⟨l,x,h3,_⟩
     · exact hb
     · simp [lk] at h3
 · simp;omega
 · cases e<;>exact hq
def AFD (P:Program) (f:FuncId) (caps:List Value) (u u':FrameMode) (h h':List (Nat×Ent)):Prop:=
 ∀(M N:BS) (w:World) (F:Nat→BS),HeapF ⟨w,M,N,0,False,[]⟩ h F w→CallsD P f caps.toArray u w fun e um w'=>um=u'∧∃F',e= .returned (.tuple #[])∧HeapF ⟨w,M,N,0,False,[]⟩ h' F' w'
def ZDm (c:Ctx) (h':List (Nat×Ent)) (e:Exit) (a:Act) (w:World):Prop:=(e= .normal∨e= .ret)∧a.defers=[]∧∃F,HeapF c h' F w
theorem AFD.of_body {f:FuncId} {fn:Func} {rid:Nat} {o0 o1:Oper} {rest:Code} {caps:List Value} {u u':FrameMode} {h h':List (Nat×Ent)} (v:Value) (t0 t1 nt:Nat) (hf:P.funcs[f]? =some fn) (hb:fn.body=some (.seq (.region rid #[o0,o1] false) rest)) (hnt:fn.ntmps=nt) (hr:fn.results= #[]) (h0:o0.op= .call {callee:= .builtin .recover,args:= #[],argTypes:= #[]}) (g0:o0.guard=none) (d0:o0.dst=some t0) (h1:o1.op= .assign (.tmp t0)) (g1:o1.guard=none) (d1:o1.dst=some t1) (b0:t0<nt) (b1:t1<nt) (bc:caps.length≤nt)
 (hrc:∀(c₀:Frame) (cs:List Frame),c₀.mode=u→(match recoverD (c₀::cs) with|some (x,cs')=>x=v∧cs'={c₀ with mode:=u'}::cs|none=>v= .nilIface∧u'=u))
 (H:∀(w0:World) (M0 N0:BS),aC P ⟨w0,M0,N0,nt,False,[]⟩ rest (ZDm ⟨w0,M0,N0,nt,False,[]⟩ h') ⟨put t1 (v, .val v) (put t0 (v, .val v) (ZbO 0 caps (caps.map .val))),h⟩):AFD P f caps u u' h h':=fun M N w F HF=>by
 subst hnt
 refine callsD_of_wpS hf hb fun c₀ cs hu=>?_
 have hw0:∀y,Region.wanted o0 y=true:=fun y=>by unfold Region.wanted;rw [g0]
 have hw1:∀y,Region.wanted o1 y=true:=fun y=>by unfold Region.wanted;rw [g1]
 have hrun:∀(ρ:Operand→Value) w,(execOp ρ o0).run P w= .ok .recover w:=fun ρ w=>by simp [execOp,h0,resolve,invoke,builtin]
 have hHold:HoldsF ⟨w,M,N,fn.ntmps,False,[]⟩ ⟨ZbO 0 caps (caps.map .val),h⟩ F {tmps:=caps.toArray++Array.replicate (fn.ntmps-caps.toArray.size) undef,defers:=[]} w:=by
  refine ⟨HF.nt rfl rfl rfl id HF.m0,fun t v p ht=>?_,?_,rfl⟩
  · obtain ⟨_,g1,g2⟩:=ZdX _ _ 0 t v p ht;simp only [Vg] at g1 g2;rw [Xl,g1] at g2;simp at g2;subst g2;refine ⟨?_, .val _⟩;have:=ζi g1;rw [Vh (by simpa using this)];simpa using g1
  · simp;omega
 generalize hA:({tmps:=caps.toArray++Array.replicate (fn.ntmps-caps.toArray.size) undef,defers:=[]}:Act)=A at hHold ⊢
 have H1:=hHold.put (d:=t0) (v:=v) (p:= .val v) b0 (.val _)
 have H2:=H1.put (d:=t1) (v:=v) (p:= .val v) b1 (.val _)
 refine wpS_seq (wpS_region ?_)
 have hrange:List.range (#[o0,o1]:Array Oper).size=[0,1]:=rfl
 rw [hrange]
 have hev:(A.put (some t0) v).eval (.tmp t0)=v:=by
  have:=(H1.sl t0 v (.val v) (by rw [ζ8])).1;simp [Act.eval,X0,this]
 have hfin:∀cs1,cs1={c₀ with mode:=u'}::cs→rest.wpS P (bodyPostS P fn c₀ cs (fun e um w'=>um=u'∧∃F',e= .returned (.tuple #[])∧HeapF ⟨w,M,N,0,False,[]⟩ h' F' w')) ((A.put (some t0) v).put (some t1) v) cs1 w:=fun cs1 hcs=>by
  refine wpS_of_wp (wp_mono (H w M N _ w ⟨F,H2⟩) fun e a' w' ⟨he,hd,F',hF'⟩=>?_);have hres:(results fn a'.tmps).run P w'= .ok (.tuple #[]) w':=by simp [results,hr]
  have key:a'.defers=[]∧∃u'',cs1={c₀ with mode:=u''}::cs∧∃x,(results fn a'.tmps).run P w'= .ok x w'∧(u''=u'∧∃F',Ending.returned x= .returned (.tuple #[])∧HeapF ⟨w,M,N,0,False,[]⟩ h' F' w'):=
   ⟨hd,u',hcs,_,hres,rfl,F',rfl,hF'.nt rfl rfl rfl id hF'.m0⟩
  rcases he with rfl|rfl
  · exact key
  · exact key
 have hstep1:∀cs1,cs1={c₀ with mode:=u'}::cs→wpOpsS P #[o0,o1] (Exit.thenS (rest.wpS P (bodyPostS P fn c₀ cs (fun e um w'=>um=u'∧∃F',e= .returned (.tuple #[])∧HeapF ⟨w,M,N,0,False,[]⟩ h' F' w'))) (bodyPostS P fn c₀ cs (fun e um w'=>um=u'∧∃F',e= .returned (.tuple #[])∧HeapF ⟨w,M,N,0,False,[]⟩ h' F' w'))) [1] (A.put (some t0) v) cs1 w:=fun cs1 hcs=>by
  have hr1:(execOp (A.put (some t0) v).eval o1).run P w= .ok (.value v) w:=by simp only [execOp,h1];rw [hev];rfl
  simp only [wpOpsS,List.getElem?_toArray,Ud,VE,hw1,if_true,hr1,Oper.upon,d1];exact hfin cs1 hcs
 have h00:=hrc c₀ cs hu
 rw [wpOpsS]
 simp only [List.getElem?_toArray,VE,hw0,if_true,hrun,d0]
 cases hrec:recoverD (c₀::cs) with
 | none=>
   rw [hrec] at h00;obtain ⟨rfl,rfl⟩:=h00;refine hstep1 _ ?_;subst hu;rfl
 | some x=>
   rw [hrec] at h00;obtain ⟨x,cs'⟩:=x;obtain ⟨rfl,h01⟩:=h00;exact hstep1 _ h01
end
section
variable {P:Program} {c:Ctx} {sL hP:List (Nat×Ent)}
theorem Zv5 {fn:Func} {R':Ending→World→Prop} {f:FuncId} {caps:List Value} {u u':FrameMode} {h0 h':List (Nat×Ent)} {K:List Nat} {a:Act} {w:World} {F:Nat→BS} (H:HoldsF c (⟨sL,hP⟩:St) F a w) (hdf:c.df=[{target:= .fn (.func f) caps.toArray,args:= #[]}]) (hc:∀args w,(callFunc f args).run P w= .ok (.enter f args) w) (hu:u≠ .run) (hA:AFD P f caps u u' h0 h') (hh0:h0=Zbv K hP) (hs:settle u'= .returning) (hdd:c.dr→False)
 (k:∀F' w',HoldsF c (⟨sL,h'++ZaP K hP⟩:St) F' a w'→∃v,(results fn a.tmps).run P w'= .ok v w'∧R' (.returned v) w'):Leaves P fn a.tmps R' a.defers u w:=by
 subst hh0
 have hfr:=H.frame K
 rw [H.df,hdf]
 refine leaves_cons hu (f:=f) (args:=caps.toArray) (by simp [invoke,hc]) ?_
 have hcall:=hA (fun b=>c.M0 b∨∃l x,K.elem l=true∧lk hP l=some x∧F l b) (nK K hP F) w F ⟨hfr.tr,hfr.lo,hfr.dj,hfr.m0.up hdd,hfr.ext,fun _=>Xb _⟩
 refine hcall.mono fun e um w' ⟨h1,F',h2,e3⟩=>?_
 subst h1 h2
 show Leaves P fn a.tmps R' [] (settle um) w'
 rw [hs]
 have hch:Chg (nK K hP F) w w':=e3.ext
 have hlow:∀b,b<w.heap.size→mof ⟨w,fun b=>c.M0 b∨∃l x,K.elem l=true∧lk hP l=some x∧F l b,nK K hP F,0,False,[]⟩ h' F' b→mof c hP F b:=by
  rintro b hlt ((h1|⟨l,x,_,h1,h2⟩)|⟨l,x,h1,h2⟩)
  · exact .inl h1
  · exact .inr ⟨l,x,h1,h2⟩
  · rcases e3.lo l x b h1 h2 with h3|⟨l',x',_,h3,h4⟩
    · exact absurd hlt (by simp only at h3;omega)
    · exact .inr ⟨l',x',h3,h4⟩
 have H':HoldsF ⟨w,fun b=>c.M0 b∨∃l x,K.elem l=true∧lk hP l=some x∧F l b,nK K hP F,c.nt,c.dr,c.df⟩ (⟨sL,h'⟩:St) F' a w':=by
  refine ⟨e3.nt rfl rfl rfl hdd hfr.m0,fun t v q e=>?_,H.size,H.df⟩;obtain ⟨h3,h4⟩:=H.sl t v q e;exact ⟨h3,h4.to hch (fun b _ ⟨l,x,_,h5,h6⟩=> .inr ⟨l,x,h5,h6⟩) (fun b hlt hb=>hlow b hlt hb)⟩
 obtain ⟨H2,_,_⟩:=H.unframe H'
 obtain ⟨v,h5,h6⟩:=k _ _ H2
 exact ⟨v,h5,h6⟩
end
section
variable {P:Program} {c:Ctx} {sL hP:List (Nat×Ent)}
theorem ZDn {h':List (Nat×Ent)} (hs:Sub h' hP) (hdf:c.df=[]:=by exact rfl):aN c (ZDm c h') (⟨sL,hP⟩:St):=fun a w ⟨F,H0⟩=>by
 have H:HoldsF c (⟨sL,h'⟩:St) F a w:=H0.less (fun _ _ h=>h) fun t x hx=>hs.lk hx
 exact ⟨.inl rfl,H.df.trans hdf,F,H.toHeapF⟩
theorem Zv6 {fn:Func} {R:PV→Prop} {f:FuncId} {caps:List Value} {u u':FrameMode} {h0 h':List (Nat×Ent)} {r0 r1 r2:ResultVar} {p0 p1 p2:PV} (K:List Nat) {a:Act} {w:World} {F:Nat→BS} (H:HoldsF c (⟨sL,hP⟩:St) F a w) (hdf:c.df=[{target:= .fn (.func f) caps.toArray,args:= #[]}]) (hc:∀args w,(callFunc f args).run P w= .ok (.enter f args) w) (hu:u≠ .run) (hA:AFD P f caps u u' h0 h') (hh0:h0=Zbv K hP) (hs:settle u'= .returning) (hdd:c.dr→False) (hr:fn.results= #[r0,r1,r2]) (g0:ResR P sL (h'++ZaP K hP) r0 p0) (g1:ResR P sL (h'++ZaP K hP) r1 p1) (g2:ResR P sL (h'++ZaP K hP) r2 p2) (hR:R (.tup [p0,p1,p2])) (hN:∀b,¬c.N0 b):Leaves P fn a.tmps (ZfD c R) a.defers u w:=
 Zv5 H hdf hc hu hA hh0 hs hdd fun F' w' H2=>by
  obtain ⟨V0,e0,s0⟩:=g0.run H2;obtain ⟨V1,e1,s1⟩:=g1.run H2;obtain ⟨V2,e2,s2⟩:=g2.run H2;refine ⟨_,ZlO hr e0 e1 e2,_,_,fun _=>False,rfl,hR,H2.ext.ext (fun b _=>hN b), .shr ((ZD3 s0 s1 s2).anti fun b _ hb=>?_) (fun _ h=>h),fun _ h=>h.elim,H2.dw⟩;rcases hb with hb|hb
  · exact .inl hb
  · exact hb.elim
theorem Zku {fn:Func} {R:PV→Prop} {Q:Exit→Act→World→Prop} {f:FuncId} {caps:List Value} {ch:List PanicEntry} {u':FrameMode} {h0 h':List (Nat×Ent)} {r0 r1 r2:ResultVar} {p0 p1 p2:PV} (K:List Nat) (hr:fn.results= #[r0,r1,r2]) (hA:AFD P f caps (.panicking ch) u' h0 h') (hc:∀args w,(callFunc f args).run P w= .ok (.enter f args) w) (g0:ResR P sL (h'++ZaP K hP) r0 p0) (g1:ResR P sL (h'++ZaP K hP) r1 p1) (g2:ResR P sL (h'++ZaP K hP) r2 p2) (hR:R (.tup [p0,p1,p2])) (hQ:∀(a:Act) w,Leaves P fn a.tmps (ZfD c R) a.defers (.panicking ch) w→Q (.panic ch) a w:=by exact fun _ _ h=>h) (hdf:c.df=[{target:= .fn (.func f) caps.toArray,args:= #[]}]:=by exact rfl) (hh0:h0=Zbv K hP:=by exact rfl) (hs:settle u'= .returning:=by exact rfl) (hdd:c.dr→False:=by exact id) (hN:∀b,¬c.N0 b:=by intro _ h;exact h):aP c Q ch (⟨sL,hP⟩:St):=fun a w F H=>
 hQ a w (Zv6 K H hdf hc (by intro h;cases h) hA hh0 hs hdd hr g0 g1 g2 hR hN)
theorem Zsv {fn:Func} {R:PV→Prop} {Q:Exit→Act→World→Prop} {f:FuncId} {caps:List Value} {u':FrameMode} {h0 h':List (Nat×Ent)} {r0 r1 r2:ResultVar} {p0 p1 p2:PV} (K:List Nat) (hr:fn.results= #[r0,r1,r2]) (hA:AFD P f caps .returning u' h0 h') (hc:∀args w,(callFunc f args).run P w= .ok (.enter f args) w) (g0:ResR P sL (h'++ZaP K hP) r0 p0) (g1:ResR P sL (h'++ZaP K hP) r1 p1) (g2:ResR P sL (h'++ZaP K hP) r2 p2) (hR:R (.tup [p0,p1,p2])) (hQ:∀(a:Act) w,Leaves P fn a.tmps (ZfD c R) a.defers .returning w→Q .ret a w:=by exact fun _ _ h=>h) (hdf:c.df=[{target:= .fn (.func f) caps.toArray,args:= #[]}]:=by exact rfl) (hh0:h0=Zbv K hP:=by exact rfl) (hs:settle u'= .returning:=by exact rfl) (hdd:c.dr→False:=by exact id) (hN:∀b,¬c.N0 b:=by intro _ h;exact h):aR c Q (⟨sL,hP⟩:St):=fun a w ⟨F,H⟩=>
 hQ a w (Zv6 K H hdf hc (by intro h;cases h) hA hh0 hs hdd hr g0 g1 g2 hR hN)
end
section
variable {P:Program} {c:Ctx} {ops:Array Oper} {Q:Exit→Act→World→Prop} {rest:List Oper} {sL hP:List (Nat×Ent)} {o:Oper}
theorem ZBK {dd:Prop} {f:Nat} {ar:List (Nat×Ent)} {R:Value→PV→List (Nat×Ent)→Prop} {Rp:List PanicEntry→List (Nat×Ent)→Prop} (K:List Nat) (d:Nat) (hw:ζ2 ops sL o=some true) (hd:o.dst=some d) (hn:d<c.nt)
 (hE:∀a w F,HoldsF c (⟨sL,hP⟩:St) F a w→(execOp a.eval o).run P w= .ok (.enter f (ar.map (·.2.1)).toArray) w∧∀(i:Nat) (x:Value) (q:PV),((ar.map (·.2)).map (·.1))[i]? =some x→((ar.map (·.2)).map (·.2))[i]? =some q→Shr (mof c hP F) w x q)
 (hA:AFp dd P f ar (Zbv K hP) R Rp) (hio:Zca 0 ar=true) (hdd:c.dr→dd)
 (k:∀v p h,R v p h→aL P c ops Q rest ⟨put d (v,p) sL,h++ZaP K hP⟩) (kp:∀ch h,Rp ch h→aP c Q ch ⟨sL,h++ZaP K hP⟩):aL P c ops Q (o::rest) (⟨sL,hP⟩:St):=
 Zav hw fun a w F H=>by
  obtain ⟨hr,h2⟩:=hE a w F H;have hfr:=H.frame K;have hin:∀b,mof ⟨w,fun b=>c.M0 b∨∃l x,K.elem l=true∧lk hP l=some x∧F l b,nK K hP F,c.nt,c.dr,c.df⟩ (Zbv K hP) F b→mof c hP F b:=by
   rintro b ((h|⟨l,x,_,h1,h2⟩)|⟨l,x,h1,h2⟩)
   · exact .inl h
   · exact .inr ⟨l,x,h1,h2⟩
   · exact .inr ⟨l,x,(ZbA.1 h1).2,h2⟩
  have hcall:=hA (fun b=>c.M0 b∨∃l x,K.elem l=true∧lk hP l=some x∧F l b) (nK K hP F) w F
   ⟨hfr.tr,hfr.lo,hfr.dj,hfr.m0.up hdd,hfr.ext,fun _=>Xb _⟩
   (fun i x hi=>by
     obtain ⟨_,h3⟩:=Zd2 ar 0 i x hio hi;rw [Vg] at h3;exact (h2 i x.1 x.2 (by rw [Xl,Xl,h3];rfl) (by rw [Xl,Xl,h3];rfl)).anti fun b _ hb=>hin b hb)
  unfold Oper.wp;rw [hr,Oper.upon_enter];refine hcall.mono fun e w' he=>?_;rcases he with ⟨v,p,h,F',e1,e2,e3,e4⟩|⟨ch,h,F',e1,e2,e3⟩
  · subst e1;have hch:Chg (nK K hP F) w w':=e3.ext;have hlow:∀b,b<w.heap.size→mof ⟨w,fun b=>c.M0 b∨∃l x,K.elem l=true∧lk hP l=some x∧F l b,nK K hP F,0,dd,[]⟩ h F' b→mof c hP F b:=by
     rintro b hlt ((h1|⟨l,x,_,h1,h2⟩)|⟨l,x,h1,h2⟩)
     · exact .inl h1
     · exact .inr ⟨l,x,h1,h2⟩
     · rcases e3.lo l x b h1 h2 with h3|⟨l',x',_,h3,h4⟩
       · exact absurd hlt (by simp only at h3;omega)
       · exact .inr ⟨l',x',h3,h4⟩
    have H':HoldsF ⟨w,fun b=>c.M0 b∨∃l x,K.elem l=true∧lk hP l=some x∧F l b,nK K hP F,c.nt,c.dr,c.df⟩ (⟨put d (v,p) sL,h⟩:St) F' (a.put o.dst v) w':=by
     refine ⟨e3.nt rfl rfl rfl hdd hfr.m0,fun t u q ht=>?_,by rw [hd];simpa [Act.put] using H.size,by rw [hd];exact H.df⟩;rw [hd];rcases Zag ht with ⟨rfl,e⟩|⟨hne,e⟩
     · cases e;refine ⟨?_,e4⟩;simp [Act.put,H.size,hn]
     · obtain ⟨h3,h4⟩:=H.sl t u q e;refine ⟨?_,h4.to hch (fun b _ ⟨l,x,_,h5,h6⟩=> .inr ⟨l,x,h5,h6⟩) (fun b hlt hb=>hlow b hlt hb)⟩;simpa [Act.put,Ur,hne] using h3
    obtain ⟨H2,_,_⟩:=H.unframe H';exact k v p h e2 _ _ ⟨_,H2⟩
  · subst e1;have hch:Chg (nK K hP F) w w':=e3.ext;have hlow:∀b,b<w.heap.size→mof ⟨w,fun b=>c.M0 b∨∃l x,K.elem l=true∧lk hP l=some x∧F l b,nK K hP F,0,dd,[]⟩ h F' b→mof c hP F b:=by
     rintro b hlt ((h1|⟨l,x,_,h1,h2⟩)|⟨l,x,h1,h2⟩)
     · exact .inl h1
     · exact .inr ⟨l,x,h1,h2⟩
     · rcases e3.lo l x b h1 h2 with h3|⟨l',x',_,h3,h4⟩
       · exact absurd hlt (by simp only at h3;omega)
       · exact .inr ⟨l',x',h3,h4⟩
    have H':HoldsF ⟨w,fun b=>c.M0 b∨∃l x,K.elem l=true∧lk hP l=some x∧F l b,nK K hP F,c.nt,c.dr,c.df⟩ (⟨sL,h⟩:St) F' a w':=by
     refine ⟨e3.nt rfl rfl rfl hdd hfr.m0,fun t u q e=>?_,H.size,H.df⟩;obtain ⟨h3,h4⟩:=H.sl t u q e;exact ⟨h3,h4.to hch (fun b _ ⟨l,x,_,h5,h6⟩=> .inr ⟨l,x,h5,h6⟩) (fun b hlt hb=>hlow b hlt hb)⟩
    obtain ⟨H2,_,_⟩:=H.unframe H';exact kp ch h e2 _ _ _ H2
theorem ZDo {dd:Prop} {f:Nat} {ar h0:List (Nat×Ent)} {R:Value→PV→List (Nat×Ent)→Prop} {Rp:List PanicEntry→List (Nat×Ent)→Prop} {xs:Array Operand} {ats:Array TypeId} (K:List Nat) (d:Nat) (hc:∀args w,(callFunc f args).run P w= .ok (.enter f args) w) (hA:AFp dd P f ar h0 R Rp)
 (k:∀v p h,R v p h→aL P c ops Q rest ⟨put d (v,p) sL,h++ZaP K hP⟩) (kp:∀ch h,Rp ch h→aP c Q ch ⟨sL,h++ZaP K hP⟩) (hw:ζ2 ops sL o=some true:=by exact rfl) (hd:o.dst=some d:=by exact rfl) (hn:d<c.nt:=by exact Xa rfl)
 (ho:o.op= .call {callee:= .value (.func f),args:=xs,argTypes:=ats}:=by exact rfl) (hx:evL sL xs.toList=some (ar.map (·.2)):=by exact rfl) (hh0:h0=Zbv K hP:=by exact rfl) (hio:Zca 0 ar=true:=by exact rfl) (hdd:c.dr→dd:=by first|exact id|exact fun h=>h.elim|exact fun _=>trivial):aL P c ops Q (o::rest) (⟨sL,hP⟩:St):=by
 subst hh0
 refine ZBK K d hw hd hn (fun a w F H=>?_) hA hio hdd k kp
 obtain ⟨h1,h2⟩:=Zb6 H.rd hx
 refine ⟨?_,h2⟩
 have hargs:xs.map a.eval=(ar.map (·.2.1)).toArray:=by
  rw [show ar.map (·.2.1)=(ar.map (·.2)).map (·.1) by rw [XN];rfl,←h1,←Vr,Vq]
 simp [execOp,ho,resolve,Act.eval,Deferred.ofValue,invoke,hargs,hc]
theorem ZDp {vs:List Value} {x:Operand} {q:PV} {t xt:TypeId} (hu:(match P.underlying t with|some (.interface _)=>false|some _=>true|none=>false)=true) (ho:o.op= .typeAssert x xt t true:=by exact rfl) (hx:ev sL x=some (.iface t (.agg vs.toArray),q):=by exact rfl):YE P (⟨sL,hP⟩:St) o (· = .tuple #[.agg vs.toArray, .bool true]) (.tup [.agg (vs.map .val), .val (.bool true)]):=
 .exact fun M F a w H=>by
  have e1:=(H.ev hx).1;refine ⟨.tup [.agg vs.toArray, .bool true] _ rfl fun i v p hv hp=>?_,?_⟩
  · match i with
    | 0 =>
      cases hv;cases hp;exact .agg _ _ (by simp) fun j u r hu hr=>by
       rw [Xl,hu] at hr;simp at hr;subst hr;exact .val _
    |1=>cases hv;cases hp;exact .val _
    |i+2=>simp at hv
  · simp only [execOp,ho,e1];unfold Instr.typeAssert
    cases h:P.underlying t with
    |none=>rw [h] at hu;cases hu
    |some d=>cases d<;>simp_all [run_underlying h]
end
end Go.En
namespace Go.Proofs.YtgfabnhpllkebaaGreatDoor
open Go.RowKit Go.Cb Go.En
set_option linter.all false
set_option maxRecDepth 100000
theorem Zei:AggT Tryz.prog 166 5=true:=by kernel_rfl
theorem Zpf:AggT Tryz.prog 225 5=true:=by kernel_rfl
theorem Zfn:AggT Tryz.prog 24 3=true:=by kernel_rfl
theorem ZnB:FldT Tryz.prog 166 0 0=true:=by kernel_rfl
theorem ZnC:FldT Tryz.prog 225 0 0=true:=by kernel_rfl
theorem Zhr:FldT Tryz.prog 229 1 1=true:=by kernel_rfl
theorem ZlU:NoAgg Tryz.prog 3=true:=by kernel_rfl
theorem Zre:NoAgg Tryz.prog 4=true:=by kernel_rfl
theorem Zkv:SlT Tryz.prog 162 166 5=true:=by kernel_rfl
theorem Zsw:ZaZ Tryz.prog 166=some ((.agg #[(.int .i64 0),(.string ByteArray.empty),(.int .i64 0),(.int .i64 0),(.int .i64 0)]),[(0,1),(1,1),(2,1),(3,2)]):=by kernel_rfl
theorem Zsx:ZaZ Tryz.prog 225=some ((.agg #[(.int .i64 0),(.string ByteArray.empty),(.int .i64 0),(.int .i64 0),(.int .i64 0)]),[(0,5)]):=by kernel_rfl
theorem Zsy:ZaZ Tryz.prog 229=some ((.agg #[(.slice none 0 0),(.int .i64 0)]),([0,1]:List Nat).map fun o=>(o,1)):=by kernel_rfl
theorem Zv7:ZaZ Tryz.prog 24=some ((.agg #[(.int .i64 0),(.string ByteArray.empty),(.slice none 0 0)]),([0,1,2]:List Nat).map fun o=>(o,1)):=by kernel_rfl
theorem Zrf:(Tryz.prog.info? 4).map (·.size)=some 1:=by kernel_rfl
theorem Zsz:ZeroT Tryz.prog 166 (.agg #[(.int .i64 0),(.string ByteArray.empty),(.int .i64 0),(.int .i64 0),(.int .i64 0)]):=by unfold ZeroT;kernel_rfl
theorem ZsA:ZeroT Tryz.prog 225 (.agg #[(.int .i64 0),(.string ByteArray.empty),(.int .i64 0),(.int .i64 0),(.int .i64 0)]):=by unfold ZeroT;kernel_rfl
theorem Zv8:ZeroT Tryz.prog 24 (.agg #[(.int .i64 0),(.string ByteArray.empty),(.slice none 0 0)]):=by unfold ZeroT;kernel_rfl
theorem ZyE:ZeroT Tryz.prog 4 (.bool false):=by unfold ZeroT;kernel_rfl
theorem ZBL (b:Nat) (L:List Tk) (hL:L.length≤10000) (hT:∀x∈L,TkOk x):∀N f,f≤N→ZDl b L f:=fun N=>by
 induction N with
 |zero=>intro f hf m _ _ h;omega
 | succ N ih=>
   intro f hf m hs he hm;obtain ⟨t0,m1,rfl⟩:=he.cons;obtain ⟨g,rfl⟩:∃g,f=g+1:=⟨f-1,by omega⟩;exact Zsu b L hL hT g (fun f' h=>ih f' (by omega)) t0 m1 hs he hm _ rfl
def BxH (b2 b3 b4:Nat) (A B:List PV) (q:PV):List (Nat×Ent):=[(1002,Zb4 b2, .own 24 3 1 A),(1003,Zb4 b3, .own 166 5 1 B),(1004,Zb4 b4, .own 4 1 1 [q])]
def Zv9 (t:Tk):FrameMode:= .panicking [{v:= .iface 225 (.agg (tkV t).toArray),recovered:=true}]
theorem ZsB (b2 b3 b4:Nat) (A B:List PV) (q:PV):AFD Tryz.prog 181 [Zal b2,Zal b3,Zal b4] .returning .returning (BxH b2 b3 b4 A B q) (BxH b2 b3 b4 A B q):=by
 unfold BxH
 refine AFD.of_body .nilIface 6 3 20 (Tryz.func181) rfl rfl (Tryz.results181) rfl rfl rfl rfl rfl rfl (by decide) (by decide) (Xa rfl) (fun c₀ cs hu=>by simp [recoverD,hu]) ?_
 intro w0 M0 N0
 refine nav ?_
 refine nav ?_
 (refine ζa ?_<;>refine xL 7 ζb ?_<;>refine xL 8 (ZvS kR) ?_<;>refine ζd ?_)
 refine cCf ?_
 refine nav ?_
 exact ZDn ⟨rfl,rfl,rfl,trivial⟩
def z3:List PV:=[.val (.int .i64 0), .val (.string ByteArray.empty), .val (.slice none 0 0)]
theorem Zkw (b2 b3 b4:Nat) (t:Tk) (a1 a2 a3 k1 k2 k3 k4 k5 q:PV):AFD Tryz.prog 181 [Zal b2,Zal b3,Zal b4] (.panicking (ZB7 t)) (Zv9 t) (BxH b2 b3 b4 [a1,a2,a3] [k1,k2,k3,k4,k5] q) (BxH b2 b3 b4 z3 (cTk t) (.val (.bool false))):=by
 unfold BxH
 refine AFD.of_body (.iface 225 (.agg (tkV t).toArray)) 6 3 20 (Tryz.func181) rfl rfl (Tryz.results181) rfl rfl rfl rfl rfl rfl (by decide) (by decide) (Xa rfl) (fun c₀ cs hu=>by simp [recoverD,hu,ZB7,Zv9]) ?_
 intro w0 M0 N0
 refine nav ?_
 refine nav ?_
 (refine ζa ?_<;>refine xL 7 ζb ?_<;>refine xL 8 (Zq9 kR) ?_<;>refine ζd ?_)
 refine cCt ?_
 refine nav ?_
 (refine ζa ?_<;>refine xL 10 ζb ?_<;>refine xL 11 (ZDp kR) ?_<;>refine xL 9 ζb (xL 12 ζl (xL 13 ζl ?_))<;>refine ζs [(.int .i64 0),(.string ByteArray.empty),(.int .i64 0),(.int .i64 0),(.int .i64 0)] 5 4 ZsA fun h4=>?_<;>refine ζt 4 Zpf ?_<;>refine xL 5 ζc ?_<;>refine ζd ?_)
 (refine ζa ?_<;>refine xL 14 ζb (xL 15 Zaw ?_)<;>refine ζd ?_)
 refine cCf ?_
 refine nav ?_
 (refine ζV (fun i=>([]:List Nat).elem i) [4] kR ?_<;>refine xD 0 17 rfl (ζB Zv7) ?_<;>refine xD 1 18 rfl (ζe 4 ZnC) ?_<;>(refine yD 2 19 rfl (ζm 4 Zei) fun v19 h=>?_;cases h)<;>(refine ζj 3 kR ?_)<;>(refine ζg rfl fun w9 M9 N9 DQ back=>?_)<;>refine ζt 1002 Zfn ?_<;>refine ζf (back _ (nrm ?_))<;>(refine ζj 4 kR ?_)<;>(refine ζg rfl fun w9 M9 N9 DQ back=>?_)<;>refine ζt 1003 Zei ?_<;>refine ζf (back _ (nrm ?_))<;>(refine ζj 5 kR ?_)<;>(refine ζg rfl fun w9 M9 N9 DQ back=>?_)<;>refine Zb7 1004 Zre Zrf ?_<;>refine ζf (back _ (nrm ?_))<;>refine Zae kR (nav ?_)<;>try dsimp only)
 exact ZDn ⟨rfl,rfl,rfl,trivial⟩
def rdR (L:List Tk):Option Nd×Tk:=match rdT (L.length+1) L with
 | .err t=>(none,t)
 | .ok t m=>if (m.headD tk0).kind≠5 then (none,m.headD tk0) else (some t,tk0)
theorem ZBM {L:List Tk} {t:Tk} (h:rdT (L.length+1) L= .err t):rdR L=(none,t):=by unfold rdR;rw [h]
theorem ZDq {L:List Tk} {t:Nd} {x:Tk} {mt:List Tk} (h:rdT (L.length+1) L= .ok t (x::mt)) (hk:x.kind≠5):rdR L=(none,x):=by unfold rdR;rw [h];exact if_pos hk
theorem ZBN {L:List Tk} {t:Nd} {x:Tk} {mt:List Tk} (h:rdT (L.length+1) L= .ok t (x::mt)) (hk:x.kind=5):rdR L=(some t,tk0):=by unfold rdR;rw [h];exact if_neg (fun h=>h hk)
def rdO:Option Nd→PV
 |none=> .agg z3
 |some t=>pTr t
def rdP (L:List Tk):PV:= .tup [rdO (rdR L).1, .agg (cTk (rdR L).2),ζ7 (rdR L).1.isSome]
set_option maxHeartbeats 4000000 in
theorem ZBO (L:List Tk) (hL:L.length≤10000) (hT:∀x∈L,TkOk x) (he:EndL L):AF Tryz.prog 128 [ZvV L] (· =rdP L):=by
 have hT0:∀b,AFp False Tryz.prog 182 [(0,Zal b, .val (Zal b))] (RtH b L 0) (fun _ q h=>∃t m2,rdT (L.length+1) L= .ok t m2∧q=pTr t∧h=RtH b L (L.length-m2.length)) (ZjD b L (L.length+1) L):=fun b=>by
  have:=ZBL b L hL hT _ (L.length+1) (Xb _) L (List.suffix_refl L) he (Um _);rw [VB] at this;exact this
 refine AF.of_bodyD 32 Tryz.func128 rfl Tryz.ntmps128 (Xa rfl) ?_
 intro w0 M0 vs hl hv
 obtain ⟨v0,rfl⟩:=ZcP hl
 clear hl hv
 refine nav ?_
 (refine ζa ?_<;>refine Zfd [.int .i64 0, .string ByteArray.empty, .slice none 0 0] 3 2 Zv8 fun b2=>?_<;>refine Zfd [.int .i64 0, .string ByteArray.empty, .int .i64 0, .int .i64 0, .int .i64 0] 5 3 Zsz fun b3=>?_<;>refine Zfd [.bool false] 1 4 ZyE fun b4=>?_<;>refine ζd ?_)
 refine ζC (ζJ (l:=2) 1002 rfl rfl) fun _=>?_
 refine ζC (ζJ (l:=3) 1003 rfl rfl) fun _=>?_
 refine ζC (ζJ (l:=4) 1004 rfl rfl) fun _=>?_
 (refine ζa ?_<;>refine xL 6 Ztd ?_<;>refine ZBJ ?_<;>refine ζd ?_)
 (refine ζa ?_<;>refine xL 7 ζb (xL 8 (ζB Zsy) ?_)<;>refine Zo3 9 2 fun b=>?_<;>refine xL 5 ζc ?_<;>refine ζd ?_)
 refine ζC (ζJ (l:=9) 1000 rfl rfl) fun _=>?_
 (refine ζa ?_<;>refine xL 10 ζb ?_<;>(refine ζ3 [(1002,Zb4 b2, .own 24 3 1 z3),(1003,Zb4 b3, .own 166 5 1 (cTk tk0)),(1004,Zb4 b4, .own 4 1 1 [.val (.bool false)]),(1000,Zb4 b, .own 229 2 1 [ZvV L,pInt ((0:Nat):Int)])] ⟨rfl,rfl,rfl,rfl,trivial⟩ ?_;refine ZDo [1002,1003,1004] 11 (Tryz.call182) (hT0 b) (fun v11 p11 h11 hR11=>?_) (fun ch h hRp=>by (obtain ⟨t,hp1,rfl,j,rfl⟩:=hRp;exact Zku (R:=(· =rdP L)) [1000] (Tryz.results128) (Zkw b2 b3 b4 t _ _ _ _ _ _ _ _ _) (Tryz.call181) (.cell (k:=3) 1002 kR rfl rfl (Xa rfl) (by decide) rfl) (.cell (k:=5) 1003 kR rfl rfl (Xa rfl) (by decide) rfl) (.cell1 1004 kR rfl rfl rfl rfl) (by unfold rdP;rw [ZBM hp1];rfl)));obtain ⟨t,m2,hp1,rfl,rfl⟩:=hR11;dsimp only [RtH])<;>(refine ζt 1002 Zfn ?_;refine ζq (ζI (l:=1002) (p':= .own 24 3 1 [pInt t.op,Za3 t.act,Zce t.l]) rfl rfl) fun _=>?_)<;>refine ζd ?_)
 have hrd:=(Zr8 (L.length+1)).1 _ _ _ he hp1
 obtain ⟨x,mt,rfl⟩:=hrd.endl.cons
 obtain ⟨hdi,hml⟩:=ZlT hrd.suf
 have hx:=Zgr hdi
 have hil:L.length-(x::mt).length<L.length:=ζi hx
 have hk0:(ZhB L)[(L.length-(x::mt).length)*5+0]? =some (pInt x.kind):=Zpd (j:=0) hx (by decide)
 have e1:((ZhB L).drop ((L.length-(x::mt).length)*5)).take 5=[pInt x.kind,pB x.text,pInt x.n,pInt x.ln,pInt x.col]:=Zfk hx
 have e2:(L.length-(x::mt).length)*5+5≤(ZhB L).length:=Zjb hx
 (refine ζa ?_<;>refine xL 12 ζb (xL 13 ζb (xL 14 (ζQ 1000) (xL 15 (ζe 1000 Zhr) ?_)))<;>(refine yL 16 (ζk 1000 ZlU) fun v16 h=>?_;cases h)<;>refine xL 17 (ζW Zkv) (xL 18 (Zrs ZnB) ?_)<;>(refine yL 19 (Zc6 ZlU) fun v19 h=>?_;cases h)<;>refine xL 20 ZaN ?_<;>refine ζd ?_)
 (first|refine cCd ?_ ?_|refine cC ?_ ?_)<;>intro hb20
 · first
   |exact bN hb20
   | (
    refine nav ?_;(refine ζa ?_<;>refine xL 21 ζb (xL 22 ζb (xL 23 (ζQ 1000) (xL 24 (ζe 1000 Zhr) ?_)))<;>(refine yL 25 (ζk 1000 ZlU) fun v25 h=>?_;cases h)<;>refine xL 26 (ζW Zkv) ?_<;>(refine yL 27 (Zby Zei) fun v27 h=>?_;cases h)<;>(refine yL 28 (Zef Zsx) fun v28 h=>?_;cases h)<;>refine xL 29 (Zq0 kR) ?_<;>(refine ZzD (d:=28) (tkV x) rfl (fun h28=>?_);subst h28;refine ζ3 [(1002,Zb4 b2, .own 24 3 1 [pInt t.op,Za3 t.act,Zce t.l]),(1003,Zb4 b3, .own 166 5 1 (cTk tk0)),(1004,Zb4 b4, .own 4 1 1 [.val (.bool false)]),(1000,_,_)] ⟨rfl,rfl,rfl,rfl,trivial⟩ ?_;refine ZqZ ?_;exact Zku (R:=(· =rdP L)) [1000] (Tryz.results128) (Zkw b2 b3 b4 x _ _ _ _ _ _ _ _ _) (Tryz.call181) (.cell (k:=3) 1002 kR rfl rfl (Xa rfl) (by decide) rfl) (.cell (k:=5) 1003 kR rfl rfl (Xa rfl) (by decide) rfl) (.cell1 1004 kR rfl rfl rfl rfl) (by unfold rdP;rw [ZDq hp1 hb20];rfl))<;>refine ζd ?_))
 · first
   |exact bN hb20
   | (
    refine nav ?_;(refine ζa ?_<;>(refine yL 30 (ζm 1002 Zfn) fun v30 h=>?_;cases h)<;>(refine yL 31 (Zef Zsw) fun v31 h=>?_;cases h)<;>refine ζt 1002 Zfn ?_<;>refine ζt 1003 Zei ?_<;>(refine Zb7 1004 Zre Zrf ?_;refine ζ3 [(1002,Zb4 b2, .own 24 3 1 [pInt t.op,Za3 t.act,Zce t.l]),(1003,Zb4 b3, .own 166 5 1 (cTk tk0)),(1004,Zb4 b4, .own 4 1 1 [.val (.bool true)]),(1000,_,_)] ⟨rfl,rfl,rfl,rfl,trivial⟩ ?_)<;>refine ζd ?_)
    refine Zsv [1000] (Tryz.results128) (ZsB b2 b3 b4 _ _ _) (Tryz.call181) (.cell (k:=3) 1002 kR rfl rfl (Xa rfl) (by decide) rfl) (.cell (k:=5) 1003 kR rfl rfl (Xa rfl) (by decide) rfl) (.cell1 1004 kR rfl rfl rfl rfl) ?_;unfold rdP;rw [ZBN hp1 (by omega)];rfl)
theorem Zbn:AggT Tryz.prog 110 2=true:=by kernel_rfl
theorem Zpg:AggT Tryz.prog 166 5=true:=by kernel_rfl
theorem Zb0:AggT Tryz.prog 24 3=true:=by kernel_rfl
theorem ZnD:FldT Tryz.prog 166 0 0=true:=by kernel_rfl
theorem Zhs:FldT Tryz.prog 166 3 3=true:=by kernel_rfl
theorem ZyF:NoAgg Tryz.prog 3=true:=by kernel_rfl
theorem Zkx:ZaZ Tryz.prog 110=some ((.agg #[(.int .i64 0),(.int .i64 0)]),([0,1]:List Nat).map fun o=>(o,1)):=by kernel_rfl
theorem Zgs:ZaZ Tryz.prog 24=some ((.agg #[(.int .i64 0),(.string ByteArray.empty),(.slice none 0 0)]),([0,1,2]:List Nat).map fun o=>(o,1)):=by kernel_rfl
theorem Zky:ZeroT Tryz.prog 110 (.agg #[(.int .i64 0),(.int .i64 0)]):=by unfold ZeroT;kernel_rfl
theorem ZsC:ZeroT Tryz.prog 166 (.agg #[(.int .i64 0),(.string ByteArray.empty),(.int .i64 0),(.int .i64 0),(.int .i64 0)]):=by unfold ZeroT;kernel_rfl
theorem ZnE:ZeroT Tryz.prog 24 (.agg #[(.int .i64 0),(.string ByteArray.empty),(.slice none 0 0)]):=by unfold ZeroT;kernel_rfl
def ZlV (l:List UInt8):List Tk×(Int×Int)×Int:=if 16384<l.length then ([],(0,0),5) else toksB l (1,1) []
theorem ZBP (l:List UInt8):ZBI l=tk3 (ZlV l):=by unfold ZBI ZlV;split<;>rfl
def ZEA (r:Nd×(Int×Int)×Int):PV:= .tup [pTr r.1, .agg [pInt r.2.1.1,pInt r.2.1.2],pInt r.2.2]
theorem Zwa {l:List UInt8} (h:(ZlV l).2.2=0):EndL (ZlV l).1∧(ZlV l).1.length≤4001∧∀x∈(ZlV l).1,TkOk x:=by
 unfold ZlV at h ⊢
 split at h
 · exact absurd h (by decide)
 · rename_i hl;rw [if_neg hl];exact ZqY (l.length+1) l (1,1) [] (Um _) (by omega) (Xf _) (fun x hx=>by cases hx) h
theorem ZBQ {l:List UInt8} (h:(ZlV l).2.2≠0):Zgj l=(nd0,(ZlV l).2):=by
 unfold Zgj
 unfold ZlV at h ⊢
 split
 · rfl
 · rename_i hl;rw [if_neg hl] at h;rw [if_pos h]
theorem ZzI {l:List UInt8} {tk:Tk} (h:(ZlV l).2.2=0) (hr:rdR (ZlV l).1=(none,tk)):Zgj l=(nd0,(tk.ln,tk.col),if tk.kind=5 then 4 else 3):=by
 unfold Zgj
 unfold ZlV at h hr
 split at h
 · exact absurd h (by decide)
 · rename_i hl;rw [if_neg hl] at hr ⊢;rw [if_neg (fun h'=>h' h)];unfold rdR at hr
   cases hx:rdT ((toksB l (1,1) []).1.length+1) (toksB l (1,1) []).1 with
   |err t=>rw [hx] at hr;cases hr;rfl
   | ok t m=>
     rw [hx] at hr;simp only at hr ⊢;by_cases h5:(m.headD tk0).kind≠5
     · rw [if_pos h5] at hr ⊢
       cases hr;rw [if_neg h5]
     · rw [if_neg h5] at hr;cases hr
theorem ZBR {l:List UInt8} {t:Nd} {tk:Tk} (h:(ZlV l).2.2=0) (hr:rdR (ZlV l).1=(some t,tk)):Zgj l=(if Zen t then (t,(0,0),0) else (nd0,(0,0),5))∧∃m,rdT ((ZlV l).1.length+1) (ZlV l).1= .ok t m:=by
 unfold Zgj
 unfold ZlV at h hr ⊢
 split at h
 · exact absurd h (by decide)
 · rename_i hl;rw [if_neg hl] at hr ⊢;rw [if_neg (fun h'=>h' h),if_neg hl];unfold rdR at hr
   cases hx:rdT ((toksB l (1,1) []).1.length+1) (toksB l (1,1) []).1 with
   |err t=>rw [hx] at hr;cases hr
   | ok t m=>
     rw [hx] at hr;simp only at hr ⊢;by_cases h5:(m.headD tk0).kind≠5
     · rw [if_pos h5] at hr;cases hr
     · rw [if_neg h5] at hr ⊢
       cases hr;exact ⟨rfl,m,rfl⟩
set_option maxHeartbeats 4000000 in
theorem ZyG (l :List UInt8) (hA:(∃c∈l,ZeO c=true)→Zyy Tryz.prog 223) (hb:l.length≤1000000000):AF Tryz.prog 80 [pB l] (· =ZEA (Zgj l)):=by
 have h13:=Zsr l hA hb
 rw [ZBP] at h13
 obtain ⟨r,hrt⟩:∃r,r=ZlV l:=⟨_,rfl⟩
 rw [←hrt] at h13
 obtain ⟨L,⟨pa,pb⟩,e⟩:=r
 have h13:AF Tryz.prog 127 [pB l] (· = .tup [ZvV L, .agg [pInt pa,pInt pb],pInt e]):=h13
 have hfit:∀t m,rdT (L.length+1) L= .ok t m→e=0→FitT t:=fun t m h he=>by
  have hok:=Zwa (l:=l) (by rw [←hrt];exact he);rw [←hrt] at hok;exact (ZzC (L.length+1)).1 L t m hok.1 (fun x hx=>(hok.2.2 x hx).text) (by have:=hok.2.1;dsimp only at this;omega) h
 refine AF.of_body 53 Tryz.func80 rfl Tryz.ntmps80 (Xa rfl) ?_
 intro w0 M0 vs hl hv
 obtain ⟨v0,rfl⟩:=ZcP hl
 obtain rfl:=hv 0 _ _ rfl rfl
 clear hl hv
 refine nav ?_
 (refine ζa ?_<;>refine ζs [(.int .i64 0),(.string ByteArray.empty),(.slice none 0 0)] 3 2 ZnE fun h2=>?_<;>refine ζs [(.int .i64 0),(.int .i64 0)] 2 3 Zky fun h3=>?_<;>refine xL 4 ζc ?_<;>refine ζd ?_)
 (refine ζa ?_<;>refine xL 12 ζb ?_<;>(refine ZB6 13 (cA (Tryz.call127) h13) (fun va13 vb13 vc13 hva13 hvb13 hvc13=>?_);cases hvc13)<;>refine xL 11 ζb (xL 14 ζl (xL 15 ζl (xL 16 ζl ?_)))<;>refine ζs [(.int .i64 0),(.int .i64 0)] 2 6 Zky fun h6=>?_<;>refine xL 5 ζc ?_<;>refine ζt 6 Zbn ?_<;>refine xL 7 ζc ?_<;>refine ζd ?_)
 (refine ζa ?_<;>refine xL 17 ζb (xL 18 ZaN ?_)<;>refine ζd ?_)
 (first|refine cCd ?_ ?_|refine cC ?_ ?_)<;>intro hb18
 · first
   |exact bN hb18
   | (
    refine nav ?_;(refine ζV (fun i=>([]:List Nat).elem i) [6] kR ?_<;>refine xD 0 19 rfl (ζB Zgs) ?_<;>(refine yD 1 20 rfl (ζm 6 Zbn) fun v20 h=>?_;cases h)<;>refine xD 2 21 rfl ζb ?_<;>(refine ζj 3 kR ?_)<;>(refine ζg rfl fun w9 M9 N9 DQ back=>?_)<;>(refine ζq (Zc9 (t:=19) (p':=pTr nd0) rfl (ZeN 0 ByteArray.empty)) fun _=>?_;refine ζt 2 Zb0 ?_)<;>refine ζf (back _ (nrm ?_))<;>(refine ζj 4 kR ?_)<;>(refine ζg rfl fun w9 M9 N9 DQ back=>?_)<;>refine ζt 3 Zbn ?_<;>refine ζf (back _ (nrm ?_))<;>refine xE 5 4 rfl ζc ?_<;>refine Zae kR (nav ?_)<;>try dsimp only)
    refine ZlP (Tryz.results80) (.cell (k:=3) 2 kR rfl rfl (Xa rfl) (by decide) rfl) (.cell (k:=2) 3 kR rfl rfl (Xa rfl) (by decide) rfl) (.tmp rfl) ?_;rw [ZBQ (by rw [←hrt];exact hb18),←hrt];rfl)
 · first
   |exact bN hb18
   | (
    (have he0:e=0:=by omega);subst he0;have hok:=Zwa (l:=l) (by rw [←hrt]);rw [←hrt] at hok;have h24:=ZBO L (by have:=hok.2.1;dsimp only at this;omega) hok.2.2 hok.1;unfold rdP at h24;refine nav ?_;(refine ζa ?_<;>refine xL 23 ζb ?_<;>(rcases hrr:rdR L with ⟨_|t,tk⟩<;>rw [hrr] at h24<;>dsimp only [rdO,Option.isSome] at h24<;>(refine ZB6 24 (cA (Tryz.call128) h24) (fun va24 vb24 vc24 hva24 hvb24 hvc24=>?_);cases hvc24))<;>refine xL 22 ζb (xL 25 ζl (xL 26 ζl (xL 27 ζl ?_)))<;>refine ζs [(.int .i64 0),(.string ByteArray.empty),(.slice none 0 0)] 3 8 ZnE fun h8=>?_<;>refine ζs [(.int .i64 0),(.string ByteArray.empty),(.int .i64 0),(.int .i64 0),(.int .i64 0)] 5 9 ZsC fun h9=>?_<;>refine ζt 8 Zb0 ?_<;>refine ζt 9 Zpg ?_<;>refine xL 10 ζc ?_<;>refine ζd ?_)<;>(
     (refine ζa ?_<;>refine xL 29 ζb (xL 30 Zaw (xL 31 ζb ?_))<;>(first|refine kL 32 ?_|refine xL 32 (ζe 9 ZnD) ?_)<;>(first|refine kL 33 ?_|(refine yL 33 (ζk 9 ZyF) fun v33 h=>?_;cases h))<;>(first|refine kL 34 ?_|refine xL 34 ζY ?_)<;>refine xL 35 ζv (xL 28 ζc ?_)<;>refine ζd ?_)<;>(
      (first|refine cCd ?_ ?_|refine cC ?_ ?_)<;>intro hb28
      · first
        |exact bN hb28
        | (
         refine nav ?_;(refine ζV (fun i=>([]:List Nat).elem i) [9] kR ?_<;>refine xD 0 36 rfl (ζB Zgs) ?_<;>refine xD 1 37 rfl (ζe 9 Zhs) ?_<;>(refine yD 2 38 rfl (ζm 9 Zbn) fun v38 h=>?_;cases h)<;>(refine ζj 3 kR ?_)<;>(refine ζg rfl fun w9 M9 N9 DQ back=>?_)<;>(refine ζq (Zc9 (t:=36) (p':=pTr nd0) rfl (ZeN 0 ByteArray.empty)) fun _=>?_;refine ζt 2 Zb0 ?_)<;>refine ζf (back _ (nrm ?_))<;>(refine ζj 4 kR ?_)<;>(refine ζg rfl fun w9 M9 N9 DQ back=>?_)<;>refine ζt 3 Zbn ?_<;>refine ζf (back _ (nrm ?_))<;>refine xE 5 4 rfl ζc ?_<;>refine Zae kR (nav ?_)<;>try dsimp only)
         refine ZlP (Tryz.results80) (.cell (k:=3) 2 kR rfl rfl (Xa rfl) (by decide) rfl) (.cell (k:=2) 3 kR rfl rfl (Xa rfl) (by decide) rfl) (.tmp rfl) ?_;rw [ZzI (by rw [←hrt]) (by rw [←hrt];exact hrr),if_pos (by omega)];rfl)
      · first
        |exact bN hb28
        | (
         refine nav ?_;(refine ζa ?_<;>refine xL 40 ζb (xL 41 Zaw (xL 39 ζc ?_))<;>refine ζd ?_)
         (first|refine cCd ?_ ?_|refine cC ?_ ?_)<;>intro hb39
         · first
           |exact bN hb39
           | (
            refine nav ?_;(refine ζV (fun i=>([]:List Nat).elem i) [9] kR ?_<;>refine xD 0 42 rfl (ζB Zgs) ?_<;>refine xD 1 43 rfl (ζe 9 Zhs) ?_<;>(refine yD 2 44 rfl (ζm 9 Zbn) fun v44 h=>?_;cases h)<;>(refine ζj 3 kR ?_)<;>(refine ζg rfl fun w9 M9 N9 DQ back=>?_)<;>(refine ζq (Zc9 (t:=42) (p':=pTr nd0) rfl (ZeN 0 ByteArray.empty)) fun _=>?_;refine ζt 2 Zb0 ?_)<;>refine ζf (back _ (nrm ?_))<;>(refine ζj 4 kR ?_)<;>(refine ζg rfl fun w9 M9 N9 DQ back=>?_)<;>refine ζt 3 Zbn ?_<;>refine ζf (back _ (nrm ?_))<;>refine xE 5 4 rfl ζc ?_<;>refine Zae kR (nav ?_)<;>try dsimp only)
            refine ZlP (Tryz.results80) (.cell (k:=3) 2 kR rfl rfl (Xa rfl) (by decide) rfl) (.cell (k:=2) 3 kR rfl rfl (Xa rfl) (by decide) rfl) (.tmp rfl) ?_;rw [ZzI (by rw [←hrt]) (by rw [←hrt];exact hrr),if_neg (by omega)];rfl)
         · first
           |exact bN hb39
           | (
            refine nav ?_;have hpy:=ZBR (l:=l) (by rw [←hrt]) (by rw [←hrt];exact hrr);rw [←hrt] at hpy;obtain ⟨hpe,m,hm⟩:=hpy;have hft:=hfit t m hm rfl;(refine ζa ?_<;>(refine yL 46 (ζm 8 Zb0) fun v46 h=>?_;cases h)<;>(refine cS 47 (cA Tryz.call24 (Zgc t hft)) fun v47 h=>?_;cases h)<;>refine xL 48 Zaw (xL 45 ζc ?_)<;>refine ζd ?_)
            (first|refine cCd ?_ ?_|refine cC ?_ ?_)<;>intro hb45
            · first
              |exact bN hb45
              | (
               refine nav ?_;(refine ζa ?_<;>refine xL 49 (ζB Zgs) (xL 50 (ζB Zkx) ?_)<;>(refine ζq (Zc9 (t:=49) (p':=pTr nd0) rfl (ZeN 0 ByteArray.empty)) fun _=>?_;refine ζt 2 Zb0 ?_)<;>refine ζt 3 Zbn ?_<;>refine xL 4 ζc ?_<;>refine ζd ?_)
               refine ZlP (Tryz.results80) (.cell (k:=3) 2 kR rfl rfl (Xa rfl) (by decide) rfl) (.cell (k:=2) 3 kR rfl rfl (Xa rfl) (by decide) rfl) (.tmp rfl) ?_;rw [hpe,if_neg (by intro h;rw [h] at hb45;cases hb45)];rfl)
            · first
              |exact bN hb45
              | (
               refine nav ?_;(refine ζa ?_<;>(refine yL 51 (ζm 8 Zb0) fun v51 h=>?_;cases h)<;>refine xL 52 (ζB Zkx) ?_<;>refine ζt 2 Zb0 ?_<;>refine ζt 3 Zbn ?_<;>refine xL 4 ζc ?_<;>refine ζd ?_)
               refine ZlP (Tryz.results80) (.cell (k:=3) 2 kR rfl rfl (Xa rfl) (by decide) rfl) (.cell (k:=2) 3 kR rfl rfl (Xa rfl) (by decide) rfl) (.tmp rfl) ?_;rw [hpe,if_pos (by simpa using hb45)];rfl))))))
open Go.RowKit Go.Cb Go.En Go.ChangeShapes Go.WideShapes Go.ChangeAt
theorem Zck:AggT Tryz.prog 110 2=true:=by kernel_rfl
theorem Zbs:AggT Tryz.prog 24 3=true:=by kernel_rfl
theorem Zkz:ZaZ Tryz.prog 110=some ((.agg #[(.int .i64 0),(.int .i64 0)]),([0,1]:List Nat).map fun o=>(o,1)):=by kernel_rfl
theorem Zfo:ZeroT Tryz.prog 110 (.agg #[(.int .i64 0),(.int .i64 0)]):=by unfold ZeroT;kernel_rfl
theorem ZdU:ZeroT Tryz.prog 24 (.agg #[(.int .i64 0),(.string ByteArray.empty),(.slice none 0 0)]):=by unfold ZeroT;kernel_rfl
theorem ZEb:Dec Tryz.prog 3 1 (fun n:Int=>[pInt n]) (fun n=> -9223372036854775808≤n∧n≤9223372036854775807):=ZAX Tryz.underlying3 kR
theorem ZEc:Dec Tryz.prog 9 1 (fun s:ByteArray=>[Za3 s]) (fun s=>s.size≤140737488355328):=ZAY Tryz.underlying9 kR
theorem Zwb (fuel:Nat):ZxX Tryz.prog 24 3 cN FitT fuel:=by
 induction fuel using Nat.strongRecOn with
 | _ fuel ih=>
   intro H e w spare held cs x h hwt;obtain ⟨xs,n,rfl,rfl,hlen,hxl,hf⟩:=DataW.trod_struct Tryz.underlying24 h;simp only [DataW.weights,Tryz.underlying24] at hwt;match xs,hxl with
   |[y0,y1,y2],_=>
   have g0:DataW.trod e Tryz.prog w 0 spare held n 3 ((cs.drop 0).take (Tryz.prog.cellsOf 3))=some y0:=hf 0 _ rfl;have g1:DataW.trod e Tryz.prog w 0 spare held n 9 ((cs.drop 1).take (Tryz.prog.cellsOf 9))=some y1:=hf 1 _ rfl;have g2:DataW.trod e Tryz.prog w 0 spare held n 22 ((cs.drop 2).take (Tryz.prog.cellsOf 22))=some y2:=hf 2 _ rfl;have hD0:ZxX Tryz.prog 3 1 (fun n:Int=>[pInt n]) (fun n=> -9223372036854775808≤n∧n≤9223372036854775807) n:=Dec.toF ZEb n;have hD1:ZxX Tryz.prog 9 1 (fun s:ByteArray=>[Za3 s]) (fun s=>s.size≤140737488355328) n:=Dec.toF ZEc n;have hsl:ZxX Tryz.prog 22 1 (fun l:List Nd=>[PV.sl l.length (l.flatMap cN)]) (fun l=>l.length≤140737488355328∧∀x∈l,FitT x) n:=
    Zr0 Tryz.underlying22 (by decide) (Xa kR) kR ZiV (fun m hm=>ih m (by omega))
   obtain ⟨a,ha,A⟩:=ZgS (k:=1) (enc:=fun n:Int=>[pInt n]) (fit:=fun n:Int=> -9223372036854775808≤n∧n≤9223372036854775807) kR (fun _=>rfl) hD0 g0 (fun n hn=>hwt n (ZbC Tryz.prog 0 rfl rfl hn));obtain ⟨b,hb,B⟩:=ZgS (k:=1) (enc:=fun s:ByteArray=>[Za3 s]) (fit:=fun s:ByteArray=>s.size≤140737488355328) kR (fun _=>rfl) hD1 g1 (fun n hn=>hwt n (ZbC Tryz.prog 1 rfl rfl hn));obtain ⟨l,hl,C⟩:=ZgS (k:=1) (enc:=fun l:List Nd=>[PV.sl l.length (l.flatMap cN)]) (fit:=fun l:List Nd=>l.length≤140737488355328∧∀x∈l,FitT x) kR (fun _=>rfl) hsl g2 (fun n hn=>hwt n (ZbC Tryz.prog 2 rfl rfl hn));refine ⟨.mk a b l, .mk _ hl.1 hb ha.1 ha.2 hl.2,by rw [hlen];kernel_rfl,fun i v p hv hp=>?_⟩;match i with
   |0=>exact A 0 v p hv (by simpa [cN,Nd.op] using hp)
   |1=>exact B 0 v p hv (by simpa [cN,Nd.act] using hp)
   |2=>exact C 0 v p hv (by rw [←hp];show some _=some _;unfold Zce;rw [Za9];rfl)
   |i+3=>simp [cN] at hp
theorem ZEd:Dec Tryz.prog 24 3 cN FitT where
 size:=by kernel_rfl
 len:=ZiV
 dec:=fun e w spare held fuel cs x h hw=>Zwb fuel e w spare held cs x h hw
theorem ZDr {P:Program} {st:St} {o:Oper} {x y:Operand} {q q':PV} {t t':TypeId} {a:ByteArray} (ho:o.op= .binOp .eql t x y t':=by exact rfl) (hx:ev st.slots x=some (.string a,q):=by exact rfl) (hy:ev st.slots y=some (.string a,q'):=by exact rfl):YE P st o (· = .bool true) (.val (.bool true)):=by
 have h:=ZbI (P:=P) ho hx hy
 rwa [show (a.toList==a.toList)=true from by simp] at h
theorem ZEo:Tryz.prog.underlying 110=some (.struct (Tryz.prog.fieldsOf 110)):=by kernel_rfl
theorem ZEp:Tryz.prog.stoodInHeld 110=false:=by kernel_rfl
theorem ZEq:Tryz.prog.eqGuardType Tryz.prog.depth 110=false:=by kernel_rfl
theorem ZnF (a b c d:Int) (w:World):(Op.eqFields 9999 [Value.int .i64 a, .int .i64 b].toArray [Value.int .i64 c, .int .i64 d].toArray (Tryz.prog.fieldsOf 110).toList).run Tryz.prog w= .ok (decide (a=c)&&decide (b=d)) w:=by
 simp only [Program.fieldsOf,Tryz.underlying110]
 simp [Op.eqFields,part,run_equalIn_int w 9998 3 .i64 .i64 a c Tryz.underlying3,run_equalIn_int w 9998 3 .i64 .i64 b d Tryz.underlying3]
 by_cases h1:a=c<;>by_cases h2:b=d<;>simp [h1,h2]
theorem ZBS:Zen (Zgj awA).1=true:=by decide+kernel
theorem ZBT:Zen (Zgj awB).1=true:=by decide+kernel
theorem ZyH {l:List UInt8} (h:l.all (fun c=> !ZeO c)=true) {Q:Prop}:(∃c∈l,ZeO c=true)→Q:=fun ⟨c,hc,hd⟩=>by
 have:=Xy.1 h c hc
 rw [hd] at this;cases this
theorem Zrg {l:List UInt8} (h:l.all (fun c=> !ZeO c)=true) (hl:l.length≤1000000) {r:(Int×Int)×Int} (hr:(Zgj l).2=r):AF Tryz.prog 80 [pB l] (· = .tup [pTr (Zgj l).1, .agg [pInt r.1.1,pInt r.1.2],pInt r.2]):=by
 have:=ZyG l (ZyH h) (by omega)
 rw [show Zgj l=((Zgj l).1,r) from Prod.ext rfl hr] at this
 exact this
theorem Zwc {t:Nd} (h1:Zen t=true) (h2:Zen (ZaK t)=true):AF Tryz.prog 35 [pTr t] (· = .tup [pTr (ZaK t),pInt 0]):=by
 have:=Zkg t (ZoQ t (Zdh h1) (by have:=Zf9 h1;omega))
 unfold ZhZ at this
 rw [if_pos h1,if_pos h2] at this
 exact this
theorem ZsD:AF Tryz.prog 37 [] (· =ζ7 true):=by
 have hA:=Zrg (l:=awA) (by decide) (by decide) ZD4
 have hB:=Zrg (l:=awB) (by decide) (by decide) ZD6
 have hC:=Zrg (l:=awC) (by decide) (by decide) ZD8
 have hD:=Zrg (l:=awD) (by decide) (by decide) ZD9
 dsimp only at hA hB hC hD
 have hNA:=Zwc ZBS ZDj
 have hNB:=Zwc ZBT ZDi
 have hfA:=ZiZ (Zdh ZBS) (by have:=Zf9 ZBS;omega)
 have hfB:=ZiZ (Zdh ZBT) (by have:=Zf9 ZBT;omega)
 have hT:AF Tryz.prog 81 [pTr (ZaK (Zgj awA).1)] (· = .tup [pB awS,pInt 0]):=by
  have:=ZBz _ hfA;unfold Zyv at this;rw [if_pos ZDj,ZD5,if_neg (by decide)] at this;exact this
 have hS:AF Tryz.prog 82 [pTr (ZaK (Zgj awB).1)] (· =pInt 5):=by
  have:=ZAL _ hfB;rw [if_pos ZDi,ZD7] at this;exact this
 generalize ZaK (Zgj awA).1=NA at hNA hT
 generalize ZaK (Zgj awB).1=NB at hNB hS
 generalize (Zgj awA).1=TA at hA hNA
 generalize (Zgj awB).1=TB at hB hNB
 generalize (Zgj awC).1=TC at hC
 generalize (Zgj awD).1=TD at hD
 refine AF.of_body 99 Tryz.func37 rfl Tryz.ntmps37 (Xa rfl) ?_
 intro w0 M0 vs hl hv
 obtain rfl:=XP hl
 clear hl hv
 refine nav ?_
 (refine ζa ?_<;>refine xL 0 ζc ?_<;>refine ζd ?_)
 (refine ζa ?_<;>(refine ZB6 20 (cA (Tryz.call80) hA) (fun va20 vb20 vc20 hva20 hvb20 hvc20=>?_);cases hvc20)<;>refine xL 19 ζb (xL 21 ζl (xL 22 ζl (xL 23 ζl ?_)))<;>refine ζs [(.int .i64 0),(.string ByteArray.empty),(.slice none 0 0)] 3 1 ZdU fun h1=>?_<;>refine ζs [(.int .i64 0),(.int .i64 0)] 2 2 Zfo fun h2=>?_<;>refine ζt 1 Zbs ?_<;>refine ζt 2 Zck ?_<;>refine xL 3 ζc ?_<;>refine ζd ?_)
 (refine ζa ?_<;>(refine yL 25 (ζm 1 Zbs) fun v25 h=>?_;cases h)<;>(refine cP 26 (cA Tryz.call35 (hNA)) fun va26 vb26 hva26 h=>?_;cases h)<;>refine xL 24 ζb (xL 27 ζl (xL 28 ζl ?_))<;>refine ζs [(.int .i64 0),(.string ByteArray.empty),(.slice none 0 0)] 3 4 ZdU fun h4=>?_<;>refine ζt 4 Zbs ?_<;>refine xL 5 ζc ?_<;>refine ζd ?_)
 (refine ζa ?_<;>(refine yL 30 (ζm 4 Zbs) fun v30 h=>?_;cases h)<;>(refine cP 31 (cA Tryz.call81 (hT)) fun va31 vb31 hva31 hvb31=>?_;cases hva31;cases hvb31)<;>refine xL 29 ζb (xL 32 ζl (xL 33 ζl (xL 6 ζc (xL 7 ζc ?_))))<;>refine ζd ?_)
 (refine ζa ?_<;>(refine ZB6 35 (cA (Tryz.call80) hB) (fun va35 vb35 vc35 hva35 hvb35 hvc35=>?_);cases hvc35)<;>refine xL 34 ζb (xL 36 ζl (xL 37 ζl (xL 38 ζl ?_)))<;>refine ζs [(.int .i64 0),(.string ByteArray.empty),(.slice none 0 0)] 3 8 ZdU fun h8=>?_<;>refine ζs [(.int .i64 0),(.int .i64 0)] 2 9 Zfo fun h9=>?_<;>refine ζt 8 Zbs ?_<;>refine ζt 9 Zck ?_<;>refine xL 10 ζc ?_<;>refine ζd ?_)
 (refine ζa ?_<;>(refine yL 40 (ζm 8 Zbs) fun v40 h=>?_;cases h)<;>(refine cP 41 (cA Tryz.call35 (hNB)) fun va41 vb41 hva41 h=>?_;cases h)<;>refine xL 39 ζb (xL 42 ζl (xL 43 ζl ?_))<;>refine ζs [(.int .i64 0),(.string ByteArray.empty),(.slice none 0 0)] 3 11 ZdU fun h11=>?_<;>refine ζt 11 Zbs ?_<;>refine xL 12 ζc ?_<;>refine ζd ?_)
 (refine ζa ?_<;>(refine ZB6 45 (cA (Tryz.call80) hC) (fun va45 vb45 vc45 hva45 hvb45 hvc45=>?_);cases hvc45)<;>refine xL 44 ζb (xL 46 ζl (xL 47 ζl (xL 48 ζl ?_)))<;>refine ζs [(.int .i64 0),(.string ByteArray.empty),(.slice none 0 0)] 3 13 ZdU fun h13=>?_<;>refine ζs [(.int .i64 0),(.int .i64 0)] 2 14 Zfo fun h14=>?_<;>refine ζt 13 Zbs ?_<;>refine ζt 14 Zck ?_<;>refine xL 15 ζc ?_<;>refine ζd ?_)
 (refine ζa ?_<;>(refine ZB6 50 (cA (Tryz.call80) hD) (fun va50 vb50 vc50 hva50 hvb50 hvc50=>?_);cases hvc50)<;>refine xL 49 ζb (xL 51 ζl (xL 52 ζl (xL 53 ζl ?_)))<;>refine ζs [(.int .i64 0),(.string ByteArray.empty),(.slice none 0 0)] 3 16 ZdU fun h16=>?_<;>refine ζs [(.int .i64 0),(.int .i64 0)] 2 17 Zfo fun h17=>?_<;>refine ζt 16 Zbs ?_<;>refine ζt 17 Zck ?_<;>refine xL 18 ζc ?_<;>refine ζd ?_)
 (refine ζa ?_<;>refine xL 54 ζb (xL 55 Zg8 (xL 56 ζb (xL 57 ζb (xL 58 Zg8 (xL 59 ζv (xL 60 ζb (xL 61 ζb (xL 62 Zg8 (xL 63 ζv (xL 64 ζb (xL 65 ζb (xL 66 ZDr (xL 67 ζv (xL 68 ζb (xL 69 ζb (xL 70 Zg8 (xL 71 ζv (xL 72 ζb (xL 73 ζb (xL 74 Zg8 (xL 75 ζv (xL 76 ζb ?_))))))))))))))))))))))<;>(refine yL 77 (ζm 11 Zbs) fun v77 h=>?_;cases h)<;>(refine cS 78 (cA Tryz.call82 (hS)) fun v78 h=>?_;cases h)<;>refine xL 79 Zg8 (xL 80 ζv (xL 81 ζb (xL 82 ζb (xL 83 Zg8 (xL 84 ζv (xL 85 ζb ?_))))))<;>(refine yL 86 (ζm 14 Zck) fun v86 h=>?_;cases h)<;>refine xL 87 (ζB Zkz) ?_<;>(refine xL 88 (ZtA (us:=[Value.int .i64 1, .int .i64 6]) (us':=[Value.int .i64 1, .int .i64 6]) ZEo ZEp ZEq (ZnF 1 6 1 6) rfl rfl) ?_;rw [show (decide ((1:Int)=1)&&decide ((6:Int)=6))=true by decide])<;>refine xL 89 ζv (xL 90 ζb (xL 91 ζb (xL 92 Zg8 (xL 93 ζv (xL 94 ζb ?_)))))<;>(refine yL 95 (ζm 17 Zck) fun v95 h=>?_;cases h)<;>refine xL 96 (ζB Zkz) ?_<;>(refine xL 97 (ZtA (us:=[Value.int .i64 1, .int .i64 7]) (us':=[Value.int .i64 1, .int .i64 7]) ZEo ZEp ZEq (ZnF 1 7 1 7) rfl rfl) ?_;rw [show (decide ((1:Int)=1)&&decide ((7:Int)=7))=true by decide])<;>refine xL 98 ζv (xL 0 ζc ?_)<;>refine ζd ?_)<;>(
  exact ζp (Tryz.results37) rfl rfl)
def Zl3 (t:Nd):Nd:=if Zen t=true then (if Zen (ZaK t)=true then ZaK t else nd0) else nd0
theorem ZBU {p q:PV} {r:PV} (h:Rr p q):Rr (.tup [p,r]) (.tup [q,r]):=Rr.tup rfl fun i a b ha hb=>by
 match i with
 |0=>cases ha;cases hb;exact h
 |1=>cases ha;cases hb;exact Rr.rfl' _
 |i+2=>simp at ha
theorem ZBV (t:Nd):Rr (ZhZ t).1 (pTr (Zl3 t)):=by
 unfold ZhZ Zl3
 split
 · split
   · exact Rr.rfl' _
   · exact Zlq
 · exact Zlq
theorem ZBW (t:Nd):shD (.tup [(ZhZ t).1,pInt (ZhZ t).2])=true:=by
 unfold ZhZ
 split
 · split<;>rfl
 · rfl
theorem ZyI {t:Nd} (hf:FitT t):FitT (Zl3 t):=by
 unfold Zl3
 split
 · rename_i h;split
   · exact ZiZ (Zdh h) (by have:=Zf9 h;omega)
   · exact ZoK
 · exact ZoK
theorem Zb1:AggT Tryz.prog 24 3=true:=by kernel_rfl
theorem ZnG:ElT Tryz.prog 27 9 1 16 (.string ByteArray.empty):=⟨Tryz.underlying27,by kernel_rfl,rfl,by decide⟩
theorem Zph:FldT Tryz.prog 24 0 0=true:=by kernel_rfl
theorem Zpi:FldT Tryz.prog 24 1 1=true:=by kernel_rfl
theorem Zjf:FldT Tryz.prog 24 2 2=true:=by kernel_rfl
theorem Zwd:MpT Tryz.prog 76 9 4 .string (.bool false):=⟨Tryz.underlying76,Tryz.underlying9, .inl rfl,by show ZeroT _ _ _;unfold ZeroT;kernel_rfl⟩
theorem ZnH:NoAgg Tryz.prog 22=true:=by kernel_rfl
theorem ZyJ:NoAgg Tryz.prog 3=true:=by kernel_rfl
theorem ZyK:NoAgg Tryz.prog 9=true:=by kernel_rfl
theorem Zgt:SlT Tryz.prog 22 24 3=true:=by kernel_rfl
theorem ZnI:ZeroT Tryz.prog 24 (.agg #[(.int .i64 0),(.string ByteArray.empty),(.slice none 0 0)]):=by unfold ZeroT;kernel_rfl
theorem Zwe:ZAZ Tryz.prog 75:=fun blk cap zs w hH hb hn=>Tryz.slices_Sort_string blk 0 cap zs w hH hb hn
theorem ZsE:ZpP Tryz.prog 75:=Tryz.slices_Sort_string_none
theorem ZnJ {l:List Nd} {k:Nat} {x:Nd} (h:l[k]? =some x):Zgw (l.take (k+1))=Zgw (l.take k)++Zdj x:=by
 have e:∀m:List Nd,Zgw m=m.flatMap Zdj:=fun m=>by
  induction m with
  |nil=>rfl
  |cons y m ih=>rw [Zgw,ih,Xv]
 rw [e,e,ζU h,XX,Vy]
set_option maxHeartbeats 4000000 in
theorem ZsF:∀(t:Nd),okT t=true→szT t≤1000000→∀(ks:List ByteArray) (m V:Value),AFh False Tryz.prog 74 [(0,m, .val m),(1,V,pTr t)] [(1000,m, .omap (skv (Zlz ks)))] (fun v q h=>h=[(1000,m, .omap (skv (Zlz (colS ks (Zdj t)))))]):=Nd.ind fun o a l ih hok hs ks m V=>by
 have e0:pTr (.mk o a l)= .agg [pInt o,Za3 a,Zce l]:=rfl
 rw [e0]
 obtain ⟨hr,hp⟩:=Zbt.1 hok
 have hsz:=Zhe (.mk o a l)
 have hlz:=ZeL l
 simp only [Nd.l,Nd.op] at hp hsz
 obtain ⟨K,hK⟩:∃K,K=if o=1 then setK ks a else ks:=⟨_,rfl⟩
 have hres:colS ks (Zdj (.mk o a l))=colS K (Zgw l):=by
  rw [hK,Zdj];split<;>rfl
 rw [hres]
 refine AFh.of_body 23 Tryz.func74 rfl Tryz.ntmps74 (Xa rfl) rfl ?_
 intro w0 M0 N0
 refine nav ?_
 (refine ζa ?_<;>refine ζS 3 3 fun h3=>?_<;>refine ζd ?_)
 (refine ζa ?_<;>refine xL 6 (ζe 3 Zph) ?_<;>(refine yL 7 (ζk 3 ZyJ) fun v7 h=>?_;cases h)<;>refine xL 8 ζY ?_<;>refine ζd ?_)
 (first|refine cCd ?_ ?_|refine cC ?_ ?_)<;>intro hb8
 · first
   |exact bN hb8
   | (
    refine nav ?_;(refine ζa ?_<;>refine xL 9 ζb (xL 10 (ζe 3 Zpi) ?_)<;>(refine yL 11 (ζk 3 ZyK) fun v11 h=>?_;cases h)<;>(refine ZjI 1000 Zwd ?_;rw [Zx0,show setK ks a=K by rw [hK,if_pos (by assumption)]])<;>refine ζd ?_)
    (refine ζa ?_<;>refine xL 12 (ζe 3 Zjf) ?_<;>(refine yL 13 (ζk 3 ZnH) fun v13 h=>?_;cases h)<;>refine xL 14 (ζ9 Zgt) (xL 15 ζb ?_)<;>refine ζd ?_)
    refine ζD (ι:={q:Nat×List ByteArray//q.1≤l.length∧q.2=colS K (Zgw (l.take q.1))}) (fun k=>⟨[(0,_,_),(13,_,_),(14,_,_),(15, .int .i64 k.1.1,pInt k.1.1)],[(1000,m, .omap (skv (Zlz k.1.2)))]⟩) (fun k=>l.length-k.1.1) ⟨(0,K),Xf _,by rw [List.take_zero];rfl⟩ (fun a w H=>H.weaken ⟨rfl,rfl,rfl,rfl,trivial⟩ ⟨rfl,trivial⟩) ?_;rintro ⟨⟨i,S⟩,hi,hS⟩;dsimp only;dsimp only at hi hS;refine nav ?_;(refine ζa ?_<;>refine xL 16 ζP ?_<;>refine ζd ?_)
    (first|refine cCd ?_ ?_|refine cC ?_ ?_)<;>intro hb16
    · first
      |exact bN hb16
      | (
       obtain ⟨x,hx⟩:=ζo (show i<l.length by omega);have e1:((ZaB l).drop (i*3)).take 3=[pInt x.op,Za3 x.act,Zce x.l]:=ζ4 hx;have e2:=Zak hx;have hxm:=Xg hx;have hxs:=Zea hxm;have hsn:=ZnJ hx;refine nav ?_;(refine ζa ?_<;>refine xL 17 (ζW Zgt) ?_<;>(refine yL 18 (Zby Zb1) fun v18 h=>?_;cases h)<;>refine ζs [(.int .i64 0),(.string ByteArray.empty),(.slice none 0 0)] 3 5 ZnI fun h5=>?_<;>refine ζt 5 Zb1 ?_<;>refine ζd ?_)
       (refine ζa ?_<;>refine xL 19 ζb ?_<;>(refine yL 20 (ζm 5 Zb1) fun v20 h=>?_;cases h)<;>(refine ζ3 [(1000,m, .omap (skv (Zlz S)))] ⟨rfl,trivial⟩ ?_;refine Zaa [] 21 (Tryz.call74) (ih x hxm (hp x hxm) (by omega) S m v20) (fun v21 p21 h21 hR21=>?_);subst hR21)<;>refine ζd ?_)
       (refine ζa ?_<;>refine xL 22 ζM (xL 15 ζb ?_)<;>refine ζd ?_)
       refine ζh (
        ⟨(i+1,colS S (Zdj x)),ζi hx,by dsimp only;rw [hsn,ZqR,←hS]⟩
        ) (by dsimp only;omega) ⟨rfl,rfl,rfl,rfl,trivial⟩ ⟨rfl,trivial⟩)
    · first
      |exact bN hb16
      | (
       refine nav ?_;(have hS2:S=colS K (Zgw l):=by rw [hS,Xn (by omega)]);refine ZbT [(1000,m, .omap (skv (Zlz S)))] (Tryz.results74) ⟨rfl,trivial⟩ ?_;rw [hS2]))
 · first
   |exact bN hb8
   | (
    rw [show ks=K by rw [hK,if_neg (by assumption)]];refine nav ?_;(refine ζa ?_<;>refine xL 12 (ζe 3 Zjf) ?_<;>(refine yL 13 (ζk 3 ZnH) fun v13 h=>?_;cases h)<;>refine xL 14 (ζ9 Zgt) (xL 15 ζb ?_)<;>refine ζd ?_)
    refine ζD (ι:={q:Nat×List ByteArray//q.1≤l.length∧q.2=colS K (Zgw (l.take q.1))}) (fun k=>⟨[(0,_,_),(13,_,_),(14,_,_),(15, .int .i64 k.1.1,pInt k.1.1)],[(1000,m, .omap (skv (Zlz k.1.2)))]⟩) (fun k=>l.length-k.1.1) ⟨(0,K),Xf _,by rw [List.take_zero];rfl⟩ (fun a w H=>H.weaken ⟨rfl,rfl,rfl,rfl,trivial⟩ ⟨rfl,trivial⟩) ?_;rintro ⟨⟨i,S⟩,hi,hS⟩;dsimp only;dsimp only at hi hS;refine nav ?_;(refine ζa ?_<;>refine xL 16 ζP ?_<;>refine ζd ?_)
    (first|refine cCd ?_ ?_|refine cC ?_ ?_)<;>intro hb16
    · first
      |exact bN hb16
      | (
       obtain ⟨x,hx⟩:=ζo (show i<l.length by omega);have e1:((ZaB l).drop (i*3)).take 3=[pInt x.op,Za3 x.act,Zce x.l]:=ζ4 hx;have e2:=Zak hx;have hxm:=Xg hx;have hxs:=Zea hxm;have hsn:=ZnJ hx;refine nav ?_;(refine ζa ?_<;>refine xL 17 (ζW Zgt) ?_<;>(refine yL 18 (Zby Zb1) fun v18 h=>?_;cases h)<;>refine ζs [(.int .i64 0),(.string ByteArray.empty),(.slice none 0 0)] 3 5 ZnI fun h5=>?_<;>refine ζt 5 Zb1 ?_<;>refine ζd ?_)
       (refine ζa ?_<;>refine xL 19 ζb ?_<;>(refine yL 20 (ζm 5 Zb1) fun v20 h=>?_;cases h)<;>(refine ζ3 [(1000,m, .omap (skv (Zlz S)))] ⟨rfl,trivial⟩ ?_;refine Zaa [] 21 (Tryz.call74) (ih x hxm (hp x hxm) (by omega) S m v20) (fun v21 p21 h21 hR21=>?_);subst hR21)<;>refine ζd ?_)
       (refine ζa ?_<;>refine xL 22 ζM (xL 15 ζb ?_)<;>refine ζd ?_)
       refine ζh (
        ⟨(i+1,colS S (Zdj x)),ζi hx,by dsimp only;rw [hsn,ZqR,←hS]⟩
        ) (by dsimp only;omega) ⟨rfl,rfl,rfl,rfl,trivial⟩ ⟨rfl,trivial⟩)
    · first
      |exact bN hb16
      | (
       refine nav ?_;(have hS2:S=colS K (Zgw l):=by rw [hS,Xn (by omega)]);refine ZbT [(1000,m, .omap (skv (Zlz S)))] (Tryz.results74) ⟨rfl,trivial⟩ ?_;rw [hS2]))
def ZEe:Value×Value→ByteArray
 |(.string s,_)=>s
 |_=>ByteArray.empty
theorem ZyL (ks:List ByteArray):(skv (Zlz ks)).map ZEe=ks:=by
 unfold skv Zlz
 rw [XN,XN]
 exact (VO fun s _=>rfl).trans (List.map_id ks)
theorem ZyM {ks:List ByteArray} {k v:Value} (h:(k,v)∈skv (Zlz ks)):∃s,s∈ks∧k= .string s∧v= .bool true:=by
 unfold skv Zlz at h
 rw [XN] at h
 obtain ⟨s,hs,e⟩:=Xo.1 h
 cases e
 exact ⟨s,hs,rfl,rfl⟩
theorem Zrh (ks:List ByteArray):(skv (Zlz ks)).length=ks.length:=by unfold skv Zlz;rw [Xh,Xh]
theorem ZyN {es:Array MapEntry} {seen:Array Nat} {e:MapEntry} {clock:Nat} (hW:WfM es clock) (he:e∈(leftOf es seen).toList):(leftOf es (seen.push e.born)).size<(leftOf es seen).size:=by
 have h:=(Zmh hW he).length_eq
 rw [Xc,ZkH,ZkH] at h
 omega
theorem ZyO {es:Array MapEntry} {seen:Array Nat} {e:MapEntry} (he:e∈(leftOf es seen).toList):(e.key,e.val)∈kvOf es:=Xo.2 ⟨e,ZpN he,rfl⟩
theorem ZsG (e n:Nat) (l:List ByteArray) (h:n=l.length):share (.own e 1 n (l.map Za3))=Zid l:=by
 subst h
 rw [share,Zac,XN];rfl
set_option maxHeartbeats 4000000 in
theorem ZBX (t :Nd) (hf:FitT t):AF Tryz.prog 25 [pTr t] (· = .tup [Zid (actR t).1,pInt (actR t).2]):=by
 have e0:pTr t= .agg [pInt t.op,Za3 t.act,Zce t.l]:=rfl
 have hV:=Zgc t hf
 rw [e0] at hV ⊢
 refine AF.of_body 30 Tryz.func25 rfl Tryz.ntmps25 (Xa rfl) ?_
 intro w0 M0 vs hl hv
 obtain ⟨v0,rfl⟩:=ZcP hl
 clear hl hv
 refine nav ?_
 (refine ζa ?_<;>refine ζS 1 3 fun h1=>?_<;>refine xL 2 ζc (xL 3 ζc ?_)<;>refine ζd ?_)
 (refine ζa ?_<;>(refine yL 7 (ζm 1 Zb1) fun v7 h=>?_;cases h)<;>(refine cS 8 (cA Tryz.call24 (hV)) fun v8 h=>?_;cases h)<;>refine xL 9 Zaw ?_<;>refine ζd ?_)
 (first|refine cCd ?_ ?_|refine cC ?_ ?_)<;>intro hb9
 · first
   |exact bN hb9
   | (
    refine nav ?_;(refine ζa ?_<;>refine xL 2 ζc (xL 3 ζc ?_)<;>refine ζd ?_)
    refine Zcr (Zy5 (t:=2) rfl) fun _=>?_;refine Zcs (Tryz.results25) rfl rfl ?_;rw [show actR t=([],1) by unfold actR;rw [if_neg (by simpa using hb9)]];rfl)
 · first
   |exact bN hb9
   | (
    (have hv:Zen t=true:=by simpa using hb9);have hok:=Zdh hv;have hsz:=Zf9 hv;obtain ⟨ks,hks⟩:∃ks,ks=colS [] (Zdj t):=⟨_,rfl⟩;(have hR:actR t=if ks.length≤40 then (Zr1 ks,0) else ([],5):=by unfold actR;rw [if_pos hv,hks]);(have hnd:ks.Nodup:=by rw [hks];exact ZoR _ _ VG);refine nav ?_;(refine ζa ?_<;>refine Zii 10 fun h10 ho10=>?_<;>refine xL 4 ζc ?_<;>refine ζd ?_)
    refine ζC (ζJ (l:=10) 1000 rfl rfl) fun _=>?_;(refine ζa ?_<;>refine xL 11 ζb ?_<;>(refine yL 12 (ζm 1 Zb1) fun v12 h=>?_;cases h)<;>(refine ζ3 [(1000,h10, .omap (skv (Zlz []))),(1,_,_)] ⟨rfl,rfl,trivial⟩ ?_;refine Zaa [1] 13 (Tryz.call74) (ZsF t hok (by omega) [] h10 v12) (fun v13 p13 h13 hR13=>?_);subst hR13;rw [←hks])<;>refine ζd ?_)
    (refine ζa ?_<;>refine xL 14 ζb (xL 15 (ZkK 1000 Tryz.underlying76) (xL 16 ZaQ ?_))<;>refine ζd ?_)
    (first|refine cCd ?_ ?_|refine cC ?_ ?_)<;>intro hb16
    · first
      |exact bN hb16
      | (
       refine nav ?_;(refine ζa ?_<;>refine xL 2 ζc (xL 3 ζc ?_)<;>refine ζd ?_)
       refine Zcr (Zy5 (t:=2) rfl) fun _=>?_;refine Zcs (Tryz.results25) rfl rfl ?_;rw [Zrh] at hb16;rw [hR,if_neg (by omega)];rfl)
    · first
      |exact bN hb16
      | (
       rw [Zrh] at hb16;rw [if_pos (by omega)] at hR;refine nav ?_;(refine ζa ?_<;>refine xL 5 ζc ?_<;>refine ζd ?_)
       refine ζC (En.freeze (l:=1000) (t:=4) rfl rfl) fun _=>?_;(refine ζa ?_<;>refine xL 17 ζb ?_<;>refine ZwO 18 Tryz.underlying76 (fun b18 r18 c18 es18 hkv18 hWf18=>?_)<;>refine ζd ?_)
       refine ζC (Zek 200 9 1 rfl) fun _=>?_;refine ζD (ι:={x:Value×Array Nat×List ByteArray//x.1.oneCell'=true∧(x.2.2++(kvOf (leftOf es18 x.2.1)).map ZEe).Perm ks}) (fun k=>⟨[(18,_,_),(5,k.1.1, .val k.1.1)],[(18,itv r18,itP b18 r18 c18 es18 k.1.2.1),(200,k.1.1, .own 9 1 k.1.2.2.length (k.1.2.2.map Za3))]⟩) (fun k=>(leftOf es18 k.1.2.1).size) ⟨(.slice none 0 0,#[],[]),rfl,by rw [ZwP,←hkv18,ZyL];exact .refl _⟩ (fun a w H=>H.weaken ⟨rfl,rfl,trivial⟩ ⟨rfl,rfl,trivial⟩) ?_;rintro ⟨⟨hov,seen,L⟩,ho,hp⟩;dsimp only;dsimp only at ho hp;have hLl:L.length≤40:=by
        have:=hp.length_eq;rw [Xd] at this;omega
       have hLm:(L.map Za3).length=L.length:=Xh _;refine nav ?_;(refine ζa ?_<;>refine Zz5 18 19 hWf18 (fun hlf18=>?_) (fun e18 hle18=>?_)<;>refine xL 20 ζl ?_<;>refine ζd ?_)<;>(
        (first|refine cCd ?_ ?_|refine cC ?_ ?_)<;>intro hb20
        · first
          |exact bN hb20
          | (
           refine nav ?_;(refine ζa ?_<;>refine xL 21 (Zz6 18 hWf18 (ZpN hle18)) ?_<;>refine xL 22 ζl (xL 6 ζc ?_)<;>refine ζd ?_)
           obtain ⟨s,hmem,hks,hvs⟩:=ZyM (hkv18▸ZyO hle18);rw [hks];(refine ζa ?_<;>refine xL 23 ζb (xL 24 ζb ?_)<;>refine ζ6 (kk:=1) 25 ZnG fun h25 ho25=>?_<;>refine ZbH 200 25 26 ZnG fun h26 ho26=>?_<;>refine xL 5 ζc ?_<;>refine ζd ?_)
           refine Zg2 (ζJ (l:=26) 200 rfl rfl) fun _=>?_;rw [show L.map Za3++[_]=(L++[s]).map Za3 from (by rw [XC];rfl),show L.length+1=(L++[s]).length by simp];refine ζh (
            ⟨(h26,seen.push e18.born,L++[s]),ho26,by
              refine .trans ?_ hp;have h1:=(Zmh hWf18 hle18).map ZEe;rw [Xu,hks,hvs] at h1;show (L++[_]++_).Perm _;rw [Xw];exact h1.symm.append_left L⟩
            ) (ZyN hWf18 hle18) ⟨rfl,rfl,trivial⟩ ⟨rfl,rfl,trivial⟩)
        · first
          |exact bN hb20
          | (
           refine nav ?_;have hp0:L.Perm ks:=by
            rw [hlf18] at hp;have h1:kvOf (#[]:Array MapEntry)=[]:=rfl;rw [h1,XY,XA] at hp;exact hp
           have hLL:(L.map toB).length=L.length:=Xh _;refine ζC (ζI (l:=200) (p':= .own 9 1 (L.map toB).length ((L.map toB).map ZA0)) rfl (by rw [ZA3,hLL])) fun _=>?_;(refine ζa ?_<;>refine xL 27 ζb ?_<;>refine ZA1 (zs:=L.map toB) 200 Zwe ZsE (Tryz.call75) ?_<;>refine ζd ?_)
           rw [Zx1,Zvc hp0];refine ζC (En.freeze (l:=200) (t:=5) rfl rfl) fun _=>?_;rw [ZsG _ _ _ (by rw [ZqS,hLL,hp0.length_eq])];(refine ζa ?_<;>refine xL 29 ζb (xL 2 ζc (xL 3 ζc ?_))<;>refine ζd ?_)
           refine Zcs (Tryz.results25) rfl rfl ?_;rw [hR]))))
structure PtsOk (acts:List ByteArray) (l:List Nd) (i:Nat) (Ps:List Aut):Prop where
 le:i≤l.length
 eq:(l.take i).map (bldT acts)=Ps.map some
 ok:∀A∈Ps,IsMin A∧A.syms=acts.length
theorem ZBY {acts:List ByteArray} {a b:Aut} (o:Int) (ha:IsMin a∧a.syms=acts.length) (hb:IsMin b∧b.syms=acts.length):ZjA o a b=lim (okO (ZjA o a b)):=(ZiR o ha.1 hb.1 ha.2 hb.2).lim
structure FldOk (acts:List ByteArray) (o:Int) (A0:Aut) (Qs:List Aut) (j:Nat) (R:Aut):Prop where
 le:j≤Qs.length
 eq:foldX o ((A0::Qs.take j).map some)=some R
 ok:IsMin R∧R.syms=acts.length
end Go.Proofs.YtgfabnhpllkebaaGreatDoor
