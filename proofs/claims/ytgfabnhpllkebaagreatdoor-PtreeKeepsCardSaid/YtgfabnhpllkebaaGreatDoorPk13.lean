/-
  How the arguments of the laws read; what is handed back, as one automaton and one number; the law on Minimal and Complement (layer 7).
  Walks: languages of trees: the reference's automaton of a tree; activities within an alphabet.
  Walks: process trees: the law's own automaton of a tree (layer 19).
  Walks: process trees: the law's own automaton of a tree (layer 19), the nodes.
  The law PtreeKeeps: a normal form keeps the language of its tree.
-/
import Derived.Test.YtgfabnhpllkebaaGreatDoorPk12
import Derived.Test.YtgfabnhpllkebaaGreatDoorPk06
import Derived.Test.YtgfabnhpllkebaaGreatDoorPk05
import Derived.Test.YtgfabnhpllkebaaGreatDoorPk11
import Derived.Test.YtgfabnhpllkebaaGreatDoorPk08
import Derived.Test.YtgfabnhpllkebaaGreatDoorPk01
namespace Go.Proofs.YtgfabnhpllkebaaGreatDoor
open Go.RowKit Go.Cb Go.En Go.ChangeShapes Go.WideShapes Go.ChangeAt
set_option linter.all false
set_option maxRecDepth 100000
def Zww:Except Int Aut→Aut
 | .ok a=>a
 | .error _=>ZtD
def ZzJ:Except Int Aut→Int
 | .ok _=>0
 | .error e=>e
theorem ZDs (x:Except Int Aut):ZEk x= .tup [Zap (Zww x),pInt (ZzJ x)]:=by cases x<;>rfl
theorem Zht {P:Program} {f:Nat} {ps:List PV} {x:Except Int Aut} (h:AF P f ps (· =resW x)):AF P f ps (· = .tup [Zap (Zww x),pInt (ZzJ x)]):=by
 rw [←ZDs];exact ZCG h
theorem ZnP (a:Aut) (h:a.moves.length≤20000):AF Tryz.prog 18 [Zap a,Zap a] (· =ζ7 true):=(Zvi a a (by omega) (by omega)).mono fun p hp=>by rw [hp,decide_eq_true rfl]
open Go.RowKit Go.Cb Go.En
structure RS (r:Option Aut) (p0 p1 p2 p3 p4:PV) (E:Int):Prop where
 r5:R5 p0 p1 p2 p3 p4
 eq:resW (lim r)= .tup [.agg [p0,p1,p2,p3,p4],pInt E]
 hc:(r=none∧E=13)∨∃A,r=some A∧E=0∧p0=pInt A.n∧p1=pInt A.syms∧p2=pInts A.start∧p3=pInts A.fin∧p4=pMvs A.moves
theorem ZkA:AggT Tryz.prog 39 5=true:=by kernel_rfl
theorem ZkB:ElT Tryz.prog 117 36 1 24 (.slice none 0 0):=⟨Tryz.underlying117,by kernel_rfl,rfl,by decide⟩
theorem ZnQ:ElT Tryz.prog 36 3 1 8 (.int .i64 0):=⟨Tryz.underlying36,by kernel_rfl,rfl,by decide⟩
theorem Zjj:FldT Tryz.prog 24 0 0=true:=by kernel_rfl
theorem Zpk:FldT Tryz.prog 24 1 1=true:=by kernel_rfl
theorem Zrk:NoAgg Tryz.prog 3=true:=by kernel_rfl
theorem ZyT:NoAgg Tryz.prog 9=true:=by kernel_rfl
theorem ZnR:SlT Tryz.prog 27 9 1=true:=by kernel_rfl
theorem ZnS:ZeroT Tryz.prog 39 (.agg #[(.int .i64 0),(.int .i64 0),(.slice none 0 0),(.slice none 0 0),(.slice none 0 0)]):=by unfold ZeroT;kernel_rfl
def ZzK (r:Option Aut):Option Aut:=match r with
 |some A=>if 60<A.n then none else some A
 |none=>none
def Zjk (o:Int) (r p:Option Aut):Option Aut:=ZzK (Zfw o r p)
def foldK (o:Int):List (Option Aut)→Option Aut
 |[]=>none
 |x::l=>l.foldl (Zjk o) x
mutual
def lngT (acts:List ByteArray):Nd→Option Aut
 | .mk o a l=>if o=1 then okO (Zjp (Zhz acts.length (Zdk acts a))) else if o=2 then okO (Zjp (Zuz acts.length)) else foldK o (ZDA acts l)
def ZDA (acts:List ByteArray):List Nd→List (Option Aut)
 |[]=>[]
 |x::l=>lngT acts x::ZDA acts l
end
theorem ZB1 (acts:List ByteArray) (l:List Nd):ZDA acts l=l.map (lngT acts):=by
 induction l with
 |nil=>rfl
 |cons x l ih=>rw [ZDA,ih];rfl
theorem Zwl (acts:List ByteArray) (o:Int) (a:ByteArray) (l:List Nd) (h1:o≠1) (h2:o≠2):lngT acts (.mk o a l)=foldK o (l.map (lngT acts)):=by rw [lngT,if_neg h1,if_neg h2,ZB1]
theorem ZsH (o:Int) (p:Option Aut):Zjk o none p=none:=rfl
theorem Zpl (o:Int) (r:Option Aut):Zjk o r none=none:=by unfold Zjk;rw [ZoF];rfl
theorem Zpm (o:Int) (l:List (Option Aut)):l.foldl (Zjk o) none=none:=by
 induction l with
 |nil=>rfl
 |cons x l ih=>rw [VK,ZsH,ih]
theorem ZnT {r:Option Aut} {A:Aut} (h:ZzK r=some A):r=some A:=by
 unfold ZzK at h
 cases r with
 |none=>cases h
 | some B=>
   dsimp only at h;split at h
   · cases h
   · exact h
theorem ZkC {o:Int} {f g:Nd→Option Aut}:∀{l:List Nd} {r s:Option Aut} {A:Aut},(∀x∈l,∀B,f x=some B→g x=some B)→(∀B,r=some B→s=some B)→(l.map f).foldl (Zjk o) r=some A→(l.map g).foldl (Zfw o) s=some A
 |[],_,_,A,_,hr,h=>hr A h
 | x ::l,r,s,A,hl,hr,h=>by
   rw [Xu,VK] at h ⊢;refine ZkC (fun y hy=>hl y (Xj _ hy)) (fun B hB=>?_) h;have h1:=ZnT hB
   cases hr1:r with
   |none=>rw [hr1] at h1;cases h1
   | some R=>
     cases hf:f x with
     |none=>rw [hr1,hf] at h1;cases h1
     |some P=>rw [hr R hr1,hl x (Xk ..) P hf,←h1,hr1,hf]
theorem Zpn (acts:List ByteArray):∀(t:Nd) (A:Aut),lngT acts t=some A→bldT acts t=some A:=Nd.ind fun o a l ih A h=>by
 by_cases h1:o=1
 · rw [lngT,if_pos h1] at h;rw [bldT,if_pos h1];exact h
 by_cases h2:o=2
 · rw [lngT,if_neg h1,if_pos h2] at h;rw [bldT,if_neg h1,if_pos h2];exact h
 rw [Zwl acts o a l h1 h2] at h
 rw [Zzi acts o a l h1 h2]
 cases l with
 |nil=>cases h
 |cons x l=>exact ZkC (fun y hy B=>ih y (Xj _ hy) B) (fun B=>ih x (Xk ..) B) h
def RA (r:Option Aut) (A:Aut) (e:Int):Prop:=(r=none∧A=ZtD∧e=13)∨(r=some A∧e=0)
theorem Zwm (r:Option Aut):∃A e,RA r A e∧Zww (lim r)=A∧ZzJ (lim r)=e:=by
 cases r with
 |none=>exact ⟨_,_, .inl ⟨rfl,rfl,rfl⟩,rfl,rfl⟩
 |some A=>exact ⟨_,_, .inr ⟨rfl,rfl⟩,rfl,rfl⟩
theorem RA.no {r:Option Aut} {A:Aut} {e:Int} (h:RA r A e) (he:¬e=0):r=none:=by
 rcases h with ⟨h,_⟩|⟨_,h⟩
 · exact h
 · exact absurd h he
theorem RA.yes {r:Option Aut} {A:Aut} {e:Int} (h:RA r A e) (he:e=0):r=some A:=by
 rcases h with ⟨_,_,h⟩|⟨h,_⟩
 · omega
 · exact h
theorem RA.eq {r:Option Aut} {A:Aut} {e:Int} (h:RA r A e):Zww (lim r)=A∧ZzJ (lim r)=e:=by
 rcases h with ⟨rfl,rfl,rfl⟩|⟨rfl,rfl⟩<;>exact ⟨rfl,rfl⟩
theorem RA.cap {r:Option Aut} {A:Aut} {e:Int} (h:RA r A e) (hn:¬60<A.n):RA (ZzK r) A e:=by
 rcases h with ⟨rfl,rfl,rfl⟩|⟨rfl,rfl⟩
 · exact .inl ⟨rfl,rfl,rfl⟩
 · exact .inr ⟨by unfold ZzK;dsimp only;rw [if_neg hn],rfl⟩
theorem RA.big {r:Option Aut} {A:Aut} {e:Int} (h:RA r A e) (hn:60<A.n):ZzK r=none:=by
 rcases h with ⟨rfl,rfl,rfl⟩|⟨rfl,rfl⟩
 · rfl
 · unfold ZzK;dsimp only;rw [if_pos hn]
theorem Zg1:Rr ZlZ (Zap ZtD):=Rr.agg rfl fun i p p' h1 h2=>by
 match i with
 |0=>cases h1;cases h2;exact Rr.rfl' _
 |1=>cases h1;cases h2;exact Rr.rfl' _
 |2=>cases h1;cases h2;exact Rr.nil
 |3=>cases h1;cases h2;exact Rr.nil
 |4=>cases h1;cases h2;exact Rr.nil
 |i+5=>simp at h1
theorem ZaF {o:Int} {f:Nd→Option Aut} {x0:Nd} {l:List Nd} {i:Nat} {x:Nd} (hx:l[i]? =some x):foldK o ((x0::l.take (i+1)).map f)=Zjk o (foldK o ((x0::l.take i).map f)) (f x):=by
 rw [ζU hx,←Vj,XC,List.map_singleton]
 show ((l.take i).map f++[f x]).foldl (Zjk o) (f x0)=_
 rw [VN];rfl
theorem Zcl {o:Int} {f:Nd→Option Aut} {x0:Nd} {l:List Nd} {i:Nat} (h:foldK o ((x0::l.take i).map f)=none):foldK o ((x0::l).map f)=none:=by
 have e:(x0::l).map f=(x0::l.take i).map f++(l.drop i).map f:=by rw [←XC,Vj,Vt]
 rw [e]
 show ((l.take i).map f++(l.drop i).map f).foldl (Zjk o) (f x0)=none
 have h2:((l.take i).map f).foldl (Zjk o) (f x0)=none:=h
 rw [VN,h2,Zpm]
theorem Zpo (acts:List ByteArray) (a:ByteArray):AF Tryz.prog 40 [.agg [pInt 1,Za3 a,Zce []],Zid acts] (· = .tup [Zap (Zww (Zjp (Zhz acts.length (Zdk acts a)))),pInt (ZzJ (Zjp (Zhz acts.length (Zdk acts a))))]):=by
 have hj:=Zht (ZiG (Zwk [Zdk acts a] acts.length))
 rw [ZnM] at hj
 have hT:=ZnO [Zdk acts a] acts.length (Xb _)
 rw [ZnM] at hT
 refine AF.of_body 131 Tryz.func40 rfl Tryz.ntmps40 (Xa rfl) ?_
 intro w0 M0 vs hl hv
 obtain ⟨v0,v1,rfl⟩:=ZdW hl
 clear hl hv
 refine nav ?_
 (refine ζa ?_<;>refine ζS 2 3 fun h2=>?_<;>refine ζs [(.int .i64 0),(.int .i64 0),(.slice none 0 0),(.slice none 0 0),(.slice none 0 0)] 5 4 ZnS fun h4=>?_<;>refine xL 5 ζc ?_<;>refine ζd ?_)
 (refine ζa ?_<;>refine xL 16 (ζe 2 Zjj) ?_<;>(refine yL 17 (ζk 2 Zrk) fun v17 h=>?_;cases h)<;>refine ζd ?_)
 (refine ζa ?_<;>refine xL 19 ζY (xL 18 ζc ?_)<;>refine ζd ?_)
 (first|refine cCd ?_ ?_|refine cC ?_ ?_)<;>intro hb18
 · refine nav ?_;(refine ζa ?_<;>refine xL 20 ζb (xL 21 (ζe 2 Zpk) ?_)<;>(refine yL 22 (ζk 2 ZyT) fun v22 h=>?_;cases h)<;>(refine cS 23 (cA Tryz.call86 (Zn4 acts a)) fun v23 h=>?_;cases h)<;>(refine ζ6 (kk:=1) 24 ZnQ fun h24 ho24=>?_;refine ζq (En.freeze (l:=24) (t:=24) rfl rfl) fun _=>?_;refine ζq (Zel (t:=24) (p':=pInts [Zdk acts a]) rfl rfl) fun _=>?_)<;>(refine ζ6 (kk:=1) 25 ZkB fun h25 ho25=>?_;refine ζq (En.freeze (l:=25) (t:=25) rfl rfl) fun _=>?_;refine ζq (Zel (t:=25) (p':=Ztk [[Zdk acts a]]) rfl rfl) fun _=>?_)<;>refine xL 26 ζb (xL 27 (ζ9 ZnR) ?_)<;>(refine cD 28 (cA Tryz.call85 (hT)) fun v28 hv28=>?_;clear hv28)<;>(refine cP 29 (cA Tryz.call84 (hj)) fun va29 vb29 hva29 h=>?_;cases h)<;>refine xL 30 ζl (xL 31 ζl ?_)<;>refine ζt 4 ZkA ?_<;>refine xL 5 ζc ?_<;>refine ζd ?_)
   exact ZaI (k:=5) 4 kR (Tryz.results40) rfl rfl rfl (Xa rfl) (by decide) rfl rfl
 · exact absurd rfl hb18
theorem Zpp (acts:List ByteArray) (a:ByteArray):AF Tryz.prog 40 [.agg [pInt 2,Za3 a,Zce []],Zid acts] (· = .tup [Zap (Zww (Zjp (Zuz acts.length))),pInt (ZzJ (Zjp (Zuz acts.length)))]):=by
 have hj:=Zht (ZiG (Zwk [] acts.length))
 rw [Zrj] at hj
 have hT:=ZnO [] acts.length (Xf _)
 rw [Zrj] at hT
 refine AF.of_body 131 Tryz.func40 rfl Tryz.ntmps40 (Xa rfl) ?_
 intro w0 M0 vs hl hv
 obtain ⟨v0,v1,rfl⟩:=ZdW hl
 clear hl hv
 refine nav ?_
 (refine ζa ?_<;>refine ζS 2 3 fun h2=>?_<;>refine ζs [(.int .i64 0),(.int .i64 0),(.slice none 0 0),(.slice none 0 0),(.slice none 0 0)] 5 4 ZnS fun h4=>?_<;>refine xL 5 ζc ?_<;>refine ζd ?_)
 (refine ζa ?_<;>refine xL 16 (ζe 2 Zjj) ?_<;>(refine yL 17 (ζk 2 Zrk) fun v17 h=>?_;cases h)<;>refine ζd ?_)
 (refine ζa ?_<;>refine xL 19 ζY (xL 18 ζc ?_)<;>refine ζd ?_)
 (first|refine cCd ?_ ?_|refine cC ?_ ?_)<;>intro hb18
 · exact absurd hb18 (by decide)
 · refine nav ?_;(refine ζa ?_<;>refine xL 33 ζY (xL 32 ζc ?_)<;>refine ζd ?_)
   (first|refine cCd ?_ ?_|refine cC ?_ ?_)<;>intro hb32
   · refine nav ?_;(refine ζa ?_<;>(refine Zmb 34 ZnQ fun h34 ho34=>?_;refine ζq (En.freeze (l:=34) (t:=34) rfl rfl) fun _=>?_;refine ζq (Zel (t:=34) (p':=pInts []) rfl rfl) fun _=>?_)<;>(refine ζ6 (kk:=1) 35 ZkB fun h35 ho35=>?_;refine ζq (En.freeze (l:=35) (t:=35) rfl rfl) fun _=>?_;refine ζq (Zel (t:=35) (p':=Ztk [[]]) rfl rfl) fun _=>?_)<;>refine xL 36 ζb (xL 37 (ζ9 ZnR) ?_)<;>(refine cD 38 (cA Tryz.call85 (hT)) fun v38 hv38=>?_;clear hv38)<;>(refine cP 39 (cA Tryz.call84 (hj)) fun va39 vb39 hva39 h=>?_;cases h)<;>refine xL 40 ζl (xL 41 ζl ?_)<;>refine ζt 4 ZkA ?_<;>refine xL 5 ζc ?_<;>refine ζd ?_)
     exact ZaI (k:=5) 4 kR (Tryz.results40) rfl rfl rfl (Xa rfl) (by decide) rfl rfl
   · exact absurd rfl hb32
theorem Zfp:AggT Tryz.prog 24 3=true:=by kernel_rfl
theorem ζZ:AggT Tryz.prog 39 5=true:=by kernel_rfl
theorem Zjl:FldT Tryz.prog 24 0 0=true:=by kernel_rfl
theorem Zjm:FldT Tryz.prog 24 2 2=true:=by kernel_rfl
theorem Zej:FldT Tryz.prog 39 0 0=true:=by kernel_rfl
theorem ZnU:NoAgg Tryz.prog 22=true:=by kernel_rfl
theorem Zfq:NoAgg Tryz.prog 3=true:=by kernel_rfl
theorem Zgv:SlT Tryz.prog 22 24 3=true:=by kernel_rfl
theorem ZdV:ZaZ Tryz.prog 39=some ((.agg #[(.int .i64 0),(.int .i64 0),(.slice none 0 0),(.slice none 0 0),(.slice none 0 0)]),([0,1,2,3,4]:List Nat).map fun o=>(o,1)):=by kernel_rfl
theorem Zwn:ZeroT Tryz.prog 24 (.agg #[(.int .i64 0),(.string ByteArray.empty),(.slice none 0 0)]):=by unfold ZeroT;kernel_rfl
theorem ZeU:ZeroT Tryz.prog 39 (.agg #[(.int .i64 0),(.int .i64 0),(.slice none 0 0),(.slice none 0 0),(.slice none 0 0)]):=by unfold ZeroT;kernel_rfl
def FV (r:Option Aut):PV:= .tup [Zap (Zww (lim r)),pInt (ZzJ (lim r))]
theorem Zwo {r:Option Aut} {A:Aut} {e:Int} (h:RA r A e):FV r= .tup [Zap A,pInt e]:=by
 unfold FV
 rw [h.eq.1,h.eq.2]
theorem Zh7 (o:Int) {m:Nat} {r p:Option Aut} (hr:BldOk m r) (hp:BldOk m p):BldOk m (Zjk o r p):=fun A h=>ZuD o hr hp A (ZnT h)
structure LngO (acts:List ByteArray) (o:Int) (x0:Nd) (l:List Nd) (i:Nat) (A:Aut) (e:Int):Prop where
 le:i≤l.length
 ra:RA (foldK o ((x0::l.take i).map (lngT acts))) A e
 ok:BldOk acts.length (foldK o ((x0::l.take i).map (lngT acts)))
theorem ZlW {acts:List ByteArray} {R B:Aut} (o:Int) (hR:IsMin R∧R.syms=acts.length) (hB:IsMin B∧B.syms=acts.length):RA (Zfw o (some R) (some B)) (Zww (ZjA o R B)) (ZzJ (ZjA o R B)):=by
 obtain ⟨A,e,h,h1,h2⟩:=Zwm (okO (ZjA o R B))
 rw [ZBY o hR hB,h1,h2]
 exact h
theorem ZDt {acts:List ByteArray} {R B:Aut} {o:Int} (ho:o=3) (hR:IsMin R∧R.syms=acts.length) (hB:IsMin B∧B.syms=acts.length):∃A e,RA (Zfw o (some R) (some B)) A e∧AF Tryz.prog 87 [Zap R,Zap B] (· = .tup [Zap A,pInt e]):=by
 subst ho
 exact ⟨_,_,ZlW 3 hR hB,Zht (Zi2 R B)⟩
theorem ZDu {acts:List ByteArray} {R B:Aut} {o:Int} (ho:o=4) (hR:IsMin R∧R.syms=acts.length) (hB:IsMin B∧B.syms=acts.length):∃A e,RA (Zfw o (some R) (some B)) A e∧AF Tryz.prog 88 [Zap R,Zap B] (· = .tup [Zap A,pInt e]):=by
 subst ho
 exact ⟨_,_,ZlW 4 hR hB,Zht (Zx8 R B)⟩
theorem ZDv {acts:List ByteArray} {R B:Aut} {o:Int} (ho:o=5) (hR:IsMin R∧R.syms=acts.length) (hB:IsMin B∧B.syms=acts.length):∃A e,RA (Zfw o (some R) (some B)) A e∧AF Tryz.prog 89 [Zap R,Zap B] (· = .tup [Zap A,pInt e]):=by
 subst ho
 exact ⟨_,_,ZlW 5 hR hB,Zht (Zr6 R B)⟩
theorem ZB2 {acts:List ByteArray} {R B:Aut} {o:Int} (ho:o=6) (hR:IsMin R∧R.syms=acts.length) (hB:IsMin B∧B.syms=acts.length):∃A1 e1 A2 e2 A e,AF Tryz.prog 87 [Zap B,Zap R] (· = .tup [Zap A1,pInt e1])∧AF Tryz.prog 90 [Zap A1] (· = .tup [Zap A2,pInt e2])∧AF Tryz.prog 87 [Zap R,Zap A2] (· = .tup [Zap A,pInt e])∧(e1=0→e2=0→RA (Zfw o (some R) (some B)) A e)∧((e1≠0∨e2≠0)→Zfw o (some R) (some B)=none):=by
 subst ho
 refine ⟨_,_,_,_,_,_,Zht (Zi2 B R),Zht (ZA7 _),Zht (Zi2 R _),fun h1 h2=>?_,fun h=>?_⟩
 · have h3:=ZlW 6 hR hB;have h4:ZjA 6 R B=Zll R B:=rfl;rw [h4] at h3;unfold Zll at h3
   cases hc:ZtP B R with
   | error e=>
     have h5:=Ze8 hB.1 hR.1 hB.2 hR.2;rw [hc] at h1 h5;rcases h5 with h5|⟨C,h5,_⟩
     · cases h5;cases h1
     · cases h5
   | ok C=>
     rw [hc] at h3 h2;have h6:=Ze8 hB.1 hR.1 hB.2 hR.2;rw [hc] at h6;rcases h6 with h6|⟨D,h6,hC⟩
     · cases h6
     cases h6;have h5:=ZiQ hC.1 hC.2;have h7:Zww (.ok C:Except Int Aut)=C:=rfl;rw [h7] at h2 ⊢;dsimp only at h3
     cases hs:Zhy C with
     | error e=>
       rw [hs] at h2 h5;rcases h5 with h5|⟨D,h5,_⟩
       · cases h5;cases h2
       · cases h5
     |ok S=>rw [hs] at h3;exact h3
 · show okO (Zll R B)=none;unfold Zll
   cases hc:ZtP B R with
   |error e=>rfl
   | ok C=>
     rw [hc] at h;have h7:Zww (.ok C:Except Int Aut)=C:=rfl;rw [h7] at h;dsimp only
     cases hs:Zhy C with
     |error e=>rfl
     | ok S=>
       rw [hs] at h;exact (h.elim (fun h=>h rfl) (fun h=>h rfl)).elim
theorem ZyU (x:Nd) (l:List Nd):PV.sl ((x::l).length-1) (((ZaB (x::l)).drop (1*3)).take (((x::l).length-1)*3))=Zce l:=by
 have h:(ZaB (x::l)).drop (1*3)=ZaB l:=by rw [Za9,Za9];rfl
 rw [h,Xc,Nat.add_sub_cancel,Xn (by rw [ZhX];exact Xb _)]
 rfl
set_option maxHeartbeats 4000000 in
theorem ZnV (acts : List ByteArray) (o:Int) (a:ByteArray) (x0:Nd) (l:List Nd) (ho1:¬o=1) (ho2:¬o=2) (hop:o=3∨o=4∨o=5∨o=6) (hll:l.length≤1000000) (ih:∀x∈x0::l,AF Tryz.prog 40 [pTr x,Zid acts] (· =FV (lngT acts x))) (hb:∀x∈x0::l,BldOk acts.length (lngT acts x)):AF Tryz.prog 40 [.agg [pInt o,Za3 a,Zce (x0::l)],Zid acts] (· =FV (foldK o ((x0::l).map (lngT acts)))):=by
 have hPc:(ZaB (x0::l)).length=(x0::l).length*3:=ZhX _
 have e1:((ZaB (x0::l)).drop (0*3)).take 3=[pInt x0.op,Za3 x0.act,Zce x0.l]:=ζ4 (k:=0) rfl
 have e2:0*3+3≤(ZaB (x0::l)).length:=Zak (l:=x0::l) (k:=0) (x:=x0) rfl
 have hQl:0<(x0::l).length:=Nat.zero_lt_succ _
 obtain ⟨A0,e0,hr0,_,_⟩:=Zwm (lngT acts x0)
 have h0:=ih x0 (Xk ..)
 rw [Zwo hr0] at h0
 refine AF.of_body 131 Tryz.func40 rfl Tryz.ntmps40 (Xa rfl) ?_
 intro w0 M0 vs hl hv
 obtain ⟨v0,v1,rfl⟩:=ZdW hl
 clear hl hv
 refine nav ?_
 (refine ζa ?_<;>refine ζS 2 3 fun h2=>?_<;>refine ζs [(.int .i64 0),(.int .i64 0),(.slice none 0 0),(.slice none 0 0),(.slice none 0 0)] 5 4 ZeU fun h4=>?_<;>refine xL 5 ζc ?_<;>refine ζd ?_)
 (refine ζa ?_<;>refine xL 16 (ζe 2 Zjl) ?_<;>(refine yL 17 (ζk 2 Zfq) fun v17 h=>?_;cases h)<;>refine ζd ?_)
 (refine ζa ?_<;>refine xL 19 ζY (xL 18 ζc ?_)<;>refine ζd ?_)
 (first|refine cCd ?_ ?_|refine cC ?_ ?_)<;>intro hb18
 · exact absurd (by simpa using hb18) ho1
 · refine nav ?_;(refine ζa ?_<;>refine xL 33 ζY (xL 32 ζc ?_)<;>refine ζd ?_)
   (first|refine cCd ?_ ?_|refine cC ?_ ?_)<;>intro hb32
   · exact absurd (by simpa using hb32) ho2
   · refine nav ?_;(refine ζa ?_<;>refine xL 43 (ζe 2 Zjm) ?_<;>(refine yL 44 (ζk 2 ZnU) fun v44 h=>?_;cases h)<;>refine xL 45 (ζW Zgv) ?_<;>(refine yL 46 (Zby Zfp) fun v46 h=>?_;cases h)<;>refine xL 47 ζb ?_<;>(refine cP 48 (cA Tryz.call40 (h0)) fun va48 vb48 hva48 h=>?_;cases h)<;>refine xL 42 ζb (xL 49 ζl (xL 50 ζl ?_))<;>refine ζs [(.int .i64 0),(.int .i64 0),(.slice none 0 0),(.slice none 0 0),(.slice none 0 0)] 5 6 ZeU fun h6=>?_<;>refine ζt 6 ζZ ?_<;>refine xL 7 ζc ?_<;>refine ζd ?_)
     (refine ζa ?_<;>refine xL 51 (ζe 2 Zjm) ?_<;>(refine yL 52 (ζk 2 ZnU) fun v52 h=>?_;cases h)<;>refine xL 53 (Zib (i:=1) (j:=(x0::l).length) Zgv rfl rfl rfl rfl (Nat.succ_le_of_lt hQl) (Xb _) hPc) ?_<;>(refine ζq (Zel (t:=53) (p':=Zce l) rfl (ZyU x0 l)) fun _=>?_;refine xL 54 (ζ9 Zgv) ?_)<;>refine xL 55 ζb ?_<;>refine ζd ?_)
     refine ζD (ι:={q:Nat×Aut×Int//LngO acts o x0 l q.1 q.2.1 q.2.2}) (fun k=>⟨[(1,_,_),(2,_,_),(4,_,_),(6,_,_),(53,_,_),(54,_,_),(7, .int .i64 k.1.2.2,pInt k.1.2.2),(55, .int .i64 k.1.1,pInt k.1.1)],[(2,_,_),(4,_,_),(6,h6, .own 39 5 1 (ZEz k.1.2.1))]⟩) (fun k=>l.length-k.1.1) ⟨(0,A0,e0),Xf _,hr0,hb x0 (Xk ..)⟩ (fun a w H=>H.weaken ⟨rfl,rfl,rfl,rfl,rfl,rfl,rfl,rfl,trivial⟩ ⟨rfl,rfl,rfl,trivial⟩) ?_;rintro ⟨⟨i,A,e⟩,hF⟩;dsimp only;dsimp only at hF;have hFl:=hF.le;refine nav ?_;(refine ζa ?_<;>refine xL 56 ζP ?_<;>refine ζd ?_)
     (first|refine cCd ?_ ?_|refine cC ?_ ?_)<;>intro hb56
     · first
       |exact bN hb56
       | (
        obtain ⟨x,hx⟩:=ζo (show i<l.length by omega);have e5:((ZaB l).drop (i*3)).take 3=[pInt x.op,Za3 x.act,Zce x.l]:=ζ4 hx;have e6:=Zak hx;obtain ⟨B,f,hrx,_,_⟩:=Zwm (lngT acts x);have hxm:x∈x0::l:=Xj _ (Xg hx);have hxa:=ih x hxm;rw [Zwo hrx] at hxa;refine nav ?_;(refine ζa ?_<;>refine xL 57 (ζW Zgv) ?_<;>(refine yL 58 (Zby Zfp) fun v58 h=>?_;cases h)<;>refine ζs [(.int .i64 0),(.string ByteArray.empty),(.slice none 0 0)] 3 9 Zwn fun h9=>?_<;>refine ζt 9 Zfp ?_<;>refine ζd ?_)
        (refine ζa ?_<;>(refine yL 60 (ζm 9 Zfp) fun v60 h=>?_;cases h)<;>refine xL 61 ζb ?_<;>(refine cP 62 (cA Tryz.call40 (hxa)) fun va62 vb62 hva62 h=>?_;cases h)<;>refine xL 59 ζb (xL 63 ζl (xL 64 ζl ?_))<;>refine ζs [(.int .i64 0),(.int .i64 0),(.slice none 0 0),(.slice none 0 0),(.slice none 0 0)] 5 10 ZeU fun h10=>?_<;>refine ζt 10 ζZ ?_<;>refine xL 11 ζc ?_<;>refine ζd ?_)
        (refine ζa ?_ <;> refine xL 65 ζb (xL 66 ZaN (xL 67 ζb ?_))<;>(refine bLd 67 (fun hb67=>?_) (fun hb67=>?_)<;>(first|refine kL 68 ?_|refine xL 68 ζb ?_))<;>(first|refine kL 69 ?_|refine xL 69 ZaN ?_)<;>refine xL 70 ζv ?_<;>refine ζd ?_)<;>(
         (first|refine cCd ?_ ?_|refine cC ?_ ?_)<;>intro hb70
         · first
           |exact bN hb70
           | (
            have hn:foldK o ((x0::l).map (lngT acts))=none:=by
             first
             |exact Zcl (hF.ra.no (by simpa using hb67))
             |exact Zcl (i:=i+1) (by rw [ZaF hx,hrx.no (by simpa using hb70)];exact Zpl o _)
            rw [hn];refine nav ?_;(refine ζa ?_<;>refine xL 71 (ζB ZdV) ?_<;>(refine ζq (Zc9 (t:=71) (p':=Zap ZtD) rfl Zg1) fun _=>?_;refine ζt 4 ζZ ?_)<;>refine xL 5 ζc ?_<;>refine ζd ?_)
            exact ZaI (k:=5) 4 kR (Tryz.results40) rfl rfl rfl (Xa rfl) (by decide) rfl rfl)
         · first
           |exact bN hb70
           | (
            have hR:=hF.ra.yes (by simpa using hb67);have hB:=hrx.yes (by simpa using hb70);have mR:=hF.ok A hR;have mB:=hb x hxm B hB;refine nav ?_;(refine ζa ?_<;>refine xL 72 (ζe 2 Zjl) ?_<;>(refine yL 73 (ζk 2 Zfq) fun v73 h=>?_;cases h)<;>refine ζd ?_)
            (refine ζa ?_<;>refine xL 75 ζY (xL 74 ζc ?_)<;>refine ζd ?_)
            (first|refine cCd ?_ ?_|refine cC ?_ ?_)<;>intro hb74
            · first
              |exact bN hb74
              | (
               obtain ⟨A',e',hRA,hj⟩:=ZDt (by simpa using hb74) mR mB;refine nav ?_;(refine ζa ?_<;>(refine yL 77 (ζm 6 ζZ) fun v77 h=>?_;cases h)<;>(refine yL 78 (ζm 10 ζZ) fun v78 h=>?_;cases h)<;>(refine cP 79 (cA Tryz.call87 (hj)) fun va79 vb79 hva79 h=>?_;cases h)<;>refine xL 76 ζb (xL 80 ζl (xL 81 ζl ?_))<;>refine ζt 6 ζZ ?_<;>refine xL 7 ζc ?_<;>refine ζd ?_)
               (refine ζa ?_<;>refine xL 124 (ζe 6 Zej) ?_<;>(refine yL 125 (ζk 6 Zfq) fun v125 h=>?_;cases h)<;>refine xL 126 ZaQ ?_<;>refine ζd ?_)
               (first|refine cCd ?_ ?_|refine cC ?_ ?_)<;>intro hb126
               · first
                 |exact bN hb126
                 | (
                  have hn:foldK o ((x0::l).map (lngT acts))=none:=Zcl (i:=i+1) (by rw [ZaF hx,hR,hB];exact hRA.big (by simpa using hb126));rw [hn];refine nav ?_;(refine ζa ?_<;>refine xL 127 (ζB ZdV) ?_<;>(refine ζq (Zc9 (t:=127) (p':=Zap ZtD) rfl Zg1) fun _=>?_;refine ζt 4 ζZ ?_)<;>refine xL 5 ζc ?_<;>refine ζd ?_)
                  exact ZaI (k:=5) 4 kR (Tryz.results40) rfl rfl rfl (Xa rfl) (by decide) rfl rfl)
               · first
                 |exact bN hb126
                 | (
                  have hnx:LngO acts o x0 l (i+1) A' e':=⟨by omega,by rw [ZaF hx,hR,hB];exact hRA.cap (by simpa using hb126),by rw [ZaF hx];exact Zh7 o hF.ok (hb x hxm)⟩;refine nav ?_;(refine ζa ?_<;>refine xL 128 ζM (xL 55 ζb ?_)<;>refine ζd ?_)
                  refine ζh (
                   ⟨(i+1,A',e'),hnx⟩
                   ) (by dsimp only;omega) ⟨rfl,rfl,rfl,rfl,rfl,rfl,rfl,rfl,trivial⟩ ⟨rfl,rfl,rfl,trivial⟩))
            · first
              |exact bN hb74
              | (
               refine nav ?_;(refine ζa ?_<;>refine xL 83 ζY (xL 82 ζc ?_)<;>refine ζd ?_)
               (first|refine cCd ?_ ?_|refine cC ?_ ?_)<;>intro hb82
               · first
                 |exact bN hb82
                 | (
                  obtain ⟨A',e',hRA,hj⟩:=ZDu (by simpa using hb82) mR mB;refine nav ?_;(refine ζa ?_<;>(refine yL 85 (ζm 6 ζZ) fun v85 h=>?_;cases h)<;>(refine yL 86 (ζm 10 ζZ) fun v86 h=>?_;cases h)<;>(refine cP 87 (cA Tryz.call88 (hj)) fun va87 vb87 hva87 h=>?_;cases h)<;>refine xL 84 ζb (xL 88 ζl (xL 89 ζl ?_))<;>refine ζt 6 ζZ ?_<;>refine xL 7 ζc ?_<;>refine ζd ?_)
                  (refine ζa ?_<;>refine xL 124 (ζe 6 Zej) ?_<;>(refine yL 125 (ζk 6 Zfq) fun v125 h=>?_;cases h)<;>refine xL 126 ZaQ ?_<;>refine ζd ?_)
                  (first|refine cCd ?_ ?_|refine cC ?_ ?_)<;>intro hb126
                  · first
                    |exact bN hb126
                    | (
                     have hn:foldK o ((x0::l).map (lngT acts))=none:=Zcl (i:=i+1) (by rw [ZaF hx,hR,hB];exact hRA.big (by simpa using hb126));rw [hn];refine nav ?_;(refine ζa ?_<;>refine xL 127 (ζB ZdV) ?_<;>(refine ζq (Zc9 (t:=127) (p':=Zap ZtD) rfl Zg1) fun _=>?_;refine ζt 4 ζZ ?_)<;>refine xL 5 ζc ?_<;>refine ζd ?_)
                     exact ZaI (k:=5) 4 kR (Tryz.results40) rfl rfl rfl (Xa rfl) (by decide) rfl rfl)
                  · first
                    |exact bN hb126
                    | (
                     have hnx:LngO acts o x0 l (i+1) A' e':=⟨by omega,by rw [ZaF hx,hR,hB];exact hRA.cap (by simpa using hb126),by rw [ZaF hx];exact Zh7 o hF.ok (hb x hxm)⟩;refine nav ?_;(refine ζa ?_<;>refine xL 128 ζM (xL 55 ζb ?_)<;>refine ζd ?_)
                     refine ζh (
                      ⟨(i+1,A',e'),hnx⟩
                      ) (by dsimp only;omega) ⟨rfl,rfl,rfl,rfl,rfl,rfl,rfl,rfl,trivial⟩ ⟨rfl,rfl,rfl,trivial⟩))
               · first
                 |exact bN hb82
                 | (
                  refine nav ?_;(refine ζa ?_<;>refine xL 91 ζY (xL 90 ζc ?_)<;>refine ζd ?_)
                  (first|refine cCd ?_ ?_|refine cC ?_ ?_)<;>intro hb90
                  · first
                    |exact bN hb90
                    | (
                     obtain ⟨A',e',hRA,hj⟩:=ZDv (by simpa using hb90) mR mB;refine nav ?_;(refine ζa ?_<;>(refine yL 93 (ζm 6 ζZ) fun v93 h=>?_;cases h)<;>(refine yL 94 (ζm 10 ζZ) fun v94 h=>?_;cases h)<;>(refine cP 95 (cA Tryz.call89 (hj)) fun va95 vb95 hva95 h=>?_;cases h)<;>refine xL 92 ζb (xL 96 ζl (xL 97 ζl ?_))<;>refine ζt 6 ζZ ?_<;>refine xL 7 ζc ?_<;>refine ζd ?_)
                     (refine ζa ?_<;>refine xL 124 (ζe 6 Zej) ?_<;>(refine yL 125 (ζk 6 Zfq) fun v125 h=>?_;cases h)<;>refine xL 126 ZaQ ?_<;>refine ζd ?_)
                     (first|refine cCd ?_ ?_|refine cC ?_ ?_)<;>intro hb126
                     · first
                       |exact bN hb126
                       | (
                        have hn:foldK o ((x0::l).map (lngT acts))=none:=Zcl (i:=i+1) (by rw [ZaF hx,hR,hB];exact hRA.big (by simpa using hb126));rw [hn];refine nav ?_;(refine ζa ?_<;>refine xL 127 (ζB ZdV) ?_<;>(refine ζq (Zc9 (t:=127) (p':=Zap ZtD) rfl Zg1) fun _=>?_;refine ζt 4 ζZ ?_)<;>refine xL 5 ζc ?_<;>refine ζd ?_)
                        exact ZaI (k:=5) 4 kR (Tryz.results40) rfl rfl rfl (Xa rfl) (by decide) rfl rfl)
                     · first
                       |exact bN hb126
                       | (
                        have hnx:LngO acts o x0 l (i+1) A' e':=⟨by omega,by rw [ZaF hx,hR,hB];exact hRA.cap (by simpa using hb126),by rw [ZaF hx];exact Zh7 o hF.ok (hb x hxm)⟩;refine nav ?_;(refine ζa ?_<;>refine xL 128 ζM (xL 55 ζb ?_)<;>refine ζd ?_)
                        refine ζh (
                         ⟨(i+1,A',e'),hnx⟩
                         ) (by dsimp only;omega) ⟨rfl,rfl,rfl,rfl,rfl,rfl,rfl,rfl,trivial⟩ ⟨rfl,rfl,rfl,trivial⟩))
                  · first
                    |exact bN hb90
                    | (
                     refine nav ?_;(refine ζa ?_<;>refine xL 99 ζY (xL 98 ζc ?_)<;>refine ζd ?_)
                     (first|refine cCd ?_ ?_|refine cC ?_ ?_)<;>intro hb98
                     · obtain ⟨A1,e1',A2,e2',A',e',hj1,hj2,hj,hRA,hlp⟩:=ZB2 (by simpa using hb98) mR mB;refine nav ?_;(refine ζa ?_<;>(refine yL 101 (ζm 10 ζZ) fun v101 h=>?_;cases h)<;>(refine yL 102 (ζm 6 ζZ) fun v102 h=>?_;cases h)<;>(refine cP 103 (cA Tryz.call87 (hj1)) fun va103 vb103 hva103 h=>?_;cases h)<;>refine xL 100 ζb (xL 104 ζl (xL 105 ζl ?_))<;>refine ζs [(.int .i64 0),(.int .i64 0),(.slice none 0 0),(.slice none 0 0),(.slice none 0 0)] 5 12 ZeU fun h12=>?_<;>refine ζt 12 ζZ ?_<;>refine xL 13 ζc ?_<;>refine ζd ?_)
                       (refine ζa ?_<;>(refine yL 107 (ζm 12 ζZ) fun v107 h=>?_;cases h)<;>(refine cP 108 (cA Tryz.call90 (hj2)) fun va108 vb108 hva108 h=>?_;cases h)<;>refine xL 106 ζb (xL 109 ζl (xL 110 ζl ?_))<;>refine ζs [(.int .i64 0),(.int .i64 0),(.slice none 0 0),(.slice none 0 0),(.slice none 0 0)] 5 14 ZeU fun h14=>?_<;>refine ζt 14 ζZ ?_<;>refine xL 15 ζc ?_<;>refine ζd ?_)
                       (refine ζa ?_<;>refine xL 111 ζb (xL 112 ZaN (xL 113 ζb ?_))<;>(refine bLd 113 (fun hb113=>?_) (fun hb113=>?_)<;>(first|refine kL 114 ?_|refine xL 114 ζb ?_))<;>(first|refine kL 115 ?_|refine xL 115 ZaN ?_)<;>refine xL 116 ζv ?_<;>refine ζd ?_)<;>(
                        (first|refine cCd ?_ ?_|refine cC ?_ ?_)<;>intro hb116
                        · first
                          |exact bN hb116
                          | (
                           have hor:e1'≠0∨e2'≠0:=by
                            first
                            |exact .inl (by simpa using hb113)
                            |exact .inr (by simpa using hb116)
                           have hn:foldK o ((x0::l).map (lngT acts))=none:=Zcl (i:=i+1) (by rw [ZaF hx,hR,hB];show ZzK (Zfw o (some A) (some B))=none;rw [hlp hor];rfl);rw [hn];refine nav ?_;(refine ζa ?_<;>refine xL 117 (ζB ZdV) ?_<;>(refine ζq (Zc9 (t:=117) (p':=Zap ZtD) rfl Zg1) fun _=>?_;refine ζt 4 ζZ ?_)<;>refine xL 5 ζc ?_<;>refine ζd ?_)
                           exact ZaI (k:=5) 4 kR (Tryz.results40) rfl rfl rfl (Xa rfl) (by decide) rfl rfl)
                        · first
                          |exact bN hb116
                          | (
                           have hRA:=hRA (by simpa using hb113) (by simpa using hb116);refine nav ?_;(refine ζa ?_<;>(refine yL 119 (ζm 6 ζZ) fun v119 h=>?_;cases h)<;>(refine yL 120 (ζm 14 ζZ) fun v120 h=>?_;cases h)<;>(refine cP 121 (cA Tryz.call87 (hj)) fun va121 vb121 hva121 h=>?_;cases h)<;>refine xL 118 ζb (xL 122 ζl (xL 123 ζl ?_))<;>refine ζt 6 ζZ ?_<;>refine xL 7 ζc ?_<;>refine ζd ?_)
                           (refine ζa ?_<;>refine xL 124 (ζe 6 Zej) ?_<;>(refine yL 125 (ζk 6 Zfq) fun v125 h=>?_;cases h)<;>refine xL 126 ZaQ ?_<;>refine ζd ?_)
                           (first|refine cCd ?_ ?_|refine cC ?_ ?_)<;>intro hb126
                           · first
                             |exact bN hb126
                             | (
                              have hn:foldK o ((x0::l).map (lngT acts))=none:=Zcl (i:=i+1) (by rw [ZaF hx,hR,hB];exact hRA.big (by simpa using hb126));rw [hn];refine nav ?_;(refine ζa ?_<;>refine xL 127 (ζB ZdV) ?_<;>(refine ζq (Zc9 (t:=127) (p':=Zap ZtD) rfl Zg1) fun _=>?_;refine ζt 4 ζZ ?_)<;>refine xL 5 ζc ?_<;>refine ζd ?_)
                              exact ZaI (k:=5) 4 kR (Tryz.results40) rfl rfl rfl (Xa rfl) (by decide) rfl rfl)
                           · first
                             |exact bN hb126
                             | (
                              have hnx:LngO acts o x0 l (i+1) A' e':=⟨by omega,by rw [ZaF hx,hR,hB];exact hRA.cap (by simpa using hb126),by rw [ZaF hx];exact Zh7 o hF.ok (hb x hxm)⟩;refine nav ?_;(refine ζa ?_<;>refine xL 128 ζM (xL 55 ζb ?_)<;>refine ζd ?_)
                              refine ζh (
                               ⟨(i+1,A',e'),hnx⟩
                               ) (by dsimp only;omega) ⟨rfl,rfl,rfl,rfl,rfl,rfl,rfl,rfl,trivial⟩ ⟨rfl,rfl,rfl,trivial⟩)))
                     · exact absurd (by simpa using hb98) (by rcases hop with h|h|h|h<;>simp_all)))))))
     · first
       |exact bN hb56
       | (
        have hr:=hF.ra;rw [Xn (show l.length≤i by omega)] at hr;rw [Zwo hr];refine nav ?_;(refine ζa ?_<;>(refine yL 129 (ζm 6 ζZ) fun v129 h=>?_;cases h)<;>refine xL 130 ζb ?_<;>refine ζt 4 ζZ ?_<;>refine xL 5 ζc ?_<;>refine ζd ?_)
        exact ZaI (k:=5) 4 kR (Tryz.results40) rfl rfl rfl (Xa rfl) (by decide) rfl rfl)
theorem ZaX:AggT Tryz.prog 24 3=true:=by kernel_rfl
theorem Zfr:AggT Tryz.prog 39 5=true:=by kernel_rfl
theorem ZnW:SlT Tryz.prog 27 9 1=true:=by kernel_rfl
theorem Zwp:ZeroT Tryz.prog 24 (.agg #[(.int .i64 0),(.string ByteArray.empty),(.slice none 0 0)]):=by unfold ZeroT;kernel_rfl
theorem ZnX:ZeroT Tryz.prog 39 (.agg #[(.int .i64 0),(.int .i64 0),(.slice none 0 0),(.slice none 0 0),(.slice none 0 0)]):=by unfold ZeroT;kernel_rfl
theorem ZzL {acts:List ByteArray} (hm:acts.length≤40) (t:Nd) (ha:∀s∈Zdj t,s∈acts):BldOk acts.length (lngT acts t):=fun A h=>ZCR hm t ha A (Zpn acts t A h)
theorem ZnY (acts:List ByteArray) (hm:acts.length≤40):∀t:Nd,okT t=true→szT t≤1000→(∀s∈Zdj t,s∈acts)→AF Tryz.prog 40 [pTr t,Zid acts] (· =FV (lngT acts t)):=Nd.ind fun o a l ih hok hsz ha=>by
 have e0:pTr (.mk o a l)= .agg [pInt o,Za3 a,Zce l]:=rfl
 rw [e0]
 obtain ⟨hr,hp⟩:=Zbt.1 hok
 have hops:=ZcA hr
 simp only [Nd.op,Nd.l] at hops hp
 rw [szT] at hsz
 have hlz:=ZeL l
 have hpa:∀x∈l,o≠1→∀s∈Zdj x,s∈acts:=fun x hx h1 s hs=>ha s (by rw [Zdj,if_neg h1];exact Zbk.2 ⟨x,hx,hs⟩)
 have hih:o≠1→∀x∈l,AF Tryz.prog 40 [pTr x,Zid acts] (· =FV (lngT acts x)):=fun h1 x hx=>ih x hx (hp x hx) (by have:=Zea hx;omega) (hpa x hx h1)
 have hbo:o≠1→∀x∈l,BldOk acts.length (lngT acts x):=fun h1 x hx=>ZzL hm x (hpa x hx h1)
 by_cases h1:o=1
 · subst h1;have hmem:a∈acts:=ha a (by rw [Zdj,if_pos rfl];exact Xk ..);obtain ⟨i,h2,h3,_⟩:=ZhV hmem;have hi:=ζi h3;have hM:=Ze7 (m:=acts.length) (Zlm hm (k:=Zdk acts a) (by rw [h2];omega)) rfl;have hl:l=[]:=by unfold rightT at hr;simp [Nd.op,Nd.l] at hr;exact hr.1
   subst hl;have hb:lngT acts (.mk 1 a [])=okO (Zjp (Zhz acts.length (Zdk acts a))):=by rw [lngT,if_pos rfl]
   rw [hb];unfold FV;rw [←hM.lim];exact Zpo acts a
 by_cases h2:o=2
 · subst h2;have hM:=Ze7 (m:=acts.length) (ZqE hm) rfl;have hl:l=[]:=by unfold rightT at hr;simp [Nd.op,Nd.l] at hr;exact hr.1
   subst hl;have hb:lngT acts (.mk 2 a [])=okO (Zjp (Zuz acts.length)):=by rw [lngT,if_neg (by decide),if_pos rfl]
   rw [hb];unfold FV;rw [←hM.lim];exact Zpp acts a
 rw [Zwl acts o a l h1 h2]
 have hne:∃x m,l=x::m:=by
  by_cases h6:o=6
  · subst h6;obtain ⟨x,y,hxy⟩:=Zm6 hr;exact ⟨x,[y],hxy⟩
  · exact ZqH (by omega) hr
 obtain ⟨x,m,rfl⟩:=hne
 exact ZnV acts o a x m h1 h2 (by omega) (by rw [Xc] at hlz;omega) (hih h1) (hbo h1)
theorem ZyV {L:List ByteArray} {t u:Nd} (hn:L.Nodup) (hm:L.length≤40) (hv:Zen t=true) (hu:Zen u=true) (ht:∀s∈Zdj t,s∈L) (hx:∀s∈Zdj u,s∈L) (hL:Zah t=Zah u) {A B:Aut} (hA:lngT L t=some A) (hB:lngT L u=some B):A=B:=by
 obtain ⟨mx,sx,lx⟩:=Zzz hn hm hv ht (Zpn L t A hA)
 obtain ⟨my,sy,ly⟩:=Zzz hn hm hu hx (Zpn L u B hB)
 refine mx.uniq my (by rw [sx,sy]) fun w hw=>?_
 have hw':=(Zve sx).1 hw
 have h1:=lx w hw'
 have h2:=ly w hw'
 rw [hL] at h1
 exact Vl.2 (h1.trans h2.symm)
set_option maxHeartbeats 8000000 in
theorem Zwq (t : Nd) (hf:FitT t):AF Tryz.prog 9 [pTr t] (· =ζ7 true):=by
 have hN:=(Zkg t hf).reread (ZBW t) (ZBU (ZBV t))
 have hA:=ZBX t hf
 have hfn:=ZyI hf
 have hNo:=ZuO (Zl3 t) hfn
 have hD:=Zke t hf 1 (by decide) (by decide)
 have hDn:=Zke (Zl3 t) hfn 1 (by decide) (by decide)
 have hVt:=Zm7 t hf
 have hVn:=Zm7 (Zl3 t) hfn
 have hE:(ZhZ t).2≠0→((ZhZ t).2=1∨(ZhZ t).2=5)∧Zer (Zl3 t) nd0=true:=fun h=>by
  unfold ZhZ at h ⊢;unfold Zl3;split
  · rename_i h1;split
    · rename_i h2;rw [if_pos h1,if_pos h2] at h;exact absurd rfl h
    · exact ⟨.inr rfl,Zba.2 rfl⟩
  · exact ⟨.inl rfl,Zba.2 rfl⟩
 have h0:(ZhZ t).2=0→Zen t=true∧Zen (ZaK t)=true∧Zl3 t=ZaK t:=fun h=>by
  unfold ZhZ at h;unfold Zl3;split at h
  · rename_i h1;split at h
    · rename_i h2;exact ⟨h1,h2,by rw [if_pos h1,if_pos h2]⟩
    · cases h
  · cases h
 have hnd:¬30<Znb t 1→(ZhZ t).2=0→¬30<Znb (Zl3 t) 1:=fun hb h=>by
  obtain ⟨h1,h2,h3⟩:=h0 h;rw [h3];have ht:dpT t≤80∧szT t≤400:=by unfold Zen Zf8 at h1;simp only [Xe,decide_eq_true_eq] at h1;omega
  have hu:dpT (ZaK t)≤80∧szT (ZaK t)≤400:=by unfold Zen Zf8 at h2;simp only [Xe,decide_eq_true_eq] at h2;omega
  rw [Zzx t (Zdh h1) 1 (by omega) (by omega)] at hb;rw [Zzx (ZaK t) (Zdh h2) 1 (by omega) (by omega)];have:=Zhf t;omega
 have hAc:(actR t).2≠0→(actR t).1=[]:=fun h=>by
  unfold actR at h ⊢;split
  · rename_i h1;rw [if_pos h1] at h;split
    · rename_i h2;rw [if_pos h2] at h;exact absurd rfl h
    · rfl
  · rfl
 have hK:(ZhZ t).2=0→(actR t).2=0→∃A g B h,AF Tryz.prog 40 [pTr t,Zid (actR t).1] (· = .tup [Zap A,pInt g])∧AF Tryz.prog 40 [pTr (Zl3 t),Zid (actR t).1] (· = .tup [Zap B,pInt h])∧(g=0→h=0→AF Tryz.prog 18 [Zap A,Zap B] (· =ζ7 true)):=fun he hf0=>by
  obtain ⟨hv,hu,hnn⟩:=h0 he;rw [hnn];obtain ⟨_,_,hm,hnd,hmem⟩:=ZA5 hf0;have hat:∀s∈Zdj t,s∈(actR t).1:=fun s hs=>(hmem s).2 hs;have hau:∀s∈Zdj (ZaK t),s∈(actR t).1:=fun s hs=>(hmem s).2 ((ZAG t (Zdh hv) s).1 hs);obtain ⟨A,g,hg,_,_⟩:=Zwm (lngT (actR t).1 t);obtain ⟨B,h,hh,_,_⟩:=Zwm (lngT (actR t).1 (ZaK t));have h1:=ZnY (actR t).1 hm t (Zdh hv) (by have:=Zf9 hv;omega) hat;have h2:=ZnY (actR t).1 hm (ZaK t) (Zdh hu) (by have:=Zf9 hu;omega) hau;rw [Zwo hg] at h1;rw [Zwo hh] at h2;refine ⟨A,g,B,h,h1,h2,fun hg0 hh0=>?_⟩;have hA1:=hg.yes hg0;have hB1:=hh.yes hh0;have hAB:=ZyV hnd hm hv hu hat hau (Zuy t (Zdh hv)).symm hA1 hB1;subst hAB;obtain ⟨t',o',rows,_,_,hq,hml⟩:=(ZzL hm t hat A hA1).1;exact ZnP A (by rw [hq];exact hml)
 obtain ⟨L,f,hLf⟩:∃L f,actR t=(L,f):=⟨_,_,rfl⟩
 rw [hLf] at hA hAc hK
 dsimp only at hA hAc hK
 have hh:=h0
 clear h0
 have hv0:(ZhZ t).2=0→Zen t=true∧Zen (Zl3 t)=true:=fun h=>by
  obtain ⟨h1,h2,h3⟩:=hh h;exact ⟨h1,by rw [h3];exact h2⟩
 clear hh
 generalize (ZhZ t).2=e at*
 generalize Zer (Zl3 t) nd0=sm at*
 generalize Zen t=vt at*
 generalize Zen (Zl3 t)=vn at*
 generalize Znb t 1=n1 at*
 generalize Znb (Zl3 t) 1=n2 at*
 generalize Zl3 t=u at*
 have e0:pTr t= .agg [pInt t.op,Za3 t.act,Zce t.l]:=rfl
 have e1:pTr u= .agg [pInt u.op,Za3 u.act,Zce u.l]:=rfl
 rw [e0] at hN hD hVt hA hK ⊢
 rw [e1] at hN hDn hVn hNo hK
 refine AF.of_body 98 Tryz.func9 rfl Tryz.ntmps9 (Xa rfl) ?_
 intro w0 M0 vs hl hv
 obtain ⟨v0,rfl⟩:=ZcP hl
 clear hl hv
 refine nav ?_
 (refine ζa ?_<;>refine ζS 1 3 fun h1=>?_<;>refine xL 2 ζc ?_<;>refine ζd ?_)
 (refine ζa ?_<;>(refine cS 11 (cA Tryz.call37 (ZsD)) fun v11 h=>?_;cases h)<;>refine xL 12 Zaw ?_<;>refine ζd ?_)
 (first|refine cCd ?_ ?_|refine cC ?_ ?_)<;>intro hb12
 · first
   |exact bN hb12
   | (
    refine nav ?_;(refine ζa ?_<;>refine xL 2 ζc ?_<;>refine ζd ?_)
    exfalso;simp at hb12)
 · first
   |exact bN hb12
   | (
    refine nav ?_;(refine ζa ?_<;>(refine yL 13 (ζm 1 ZaX) fun v13 h=>?_;cases h)<;>(refine cS 14 (cA Tryz.call38 (hD)) fun v14 h=>?_;cases h)<;>refine xL 15 ZaQ ?_<;>refine ζd ?_)
    (first|refine cCd ?_ ?_|refine cC ?_ ?_)<;>intro hb15
    · first
      |exact bN hb15
      | (
       refine nav ?_;(refine ζa ?_<;>refine xL 2 ζc ?_<;>refine ζd ?_)
       exact ζp (Tryz.results9) rfl rfl)
    · first
      |exact bN hb15
      | (
       have hn2:=hnd (by simpa using hb15);refine nav ?_;(refine ζa ?_<;>(refine yL 17 (ζm 1 ZaX) fun v17 h=>?_;cases h)<;>(refine cP 18 (cA Tryz.call35 (hN)) fun va18 vb18 hva18 h=>?_;cases h)<;>refine xL 16 ζb (xL 19 ζl (xL 20 ζl ?_))<;>refine ζs [(.int .i64 0),(.string ByteArray.empty),(.slice none 0 0)] 3 3 Zwp fun h3=>?_<;>refine ζt 3 ZaX ?_<;>refine xL 4 ζc ?_<;>refine ζd ?_)
       (refine ζa ?_<;>(refine yL 22 (ζm 1 ZaX) fun v22 h=>?_;cases h)<;>(refine cP 23 (cA Tryz.call25 (hA)) fun va23 vb23 hva23 h=>?_;cases h)<;>refine xL 21 ζb (xL 24 ζl (xL 25 ζl (xL 5 ζc (xL 6 ζc ?_))))<;>refine ζd ?_)
       (refine ζa ?_<;>refine xL 26 ζb (xL 27 ZaN (xL 28 ζb ?_))<;>(refine bLd 28 (fun hb28=>?_) (fun hb28=>?_)<;>(first|refine kL 29 ?_|refine xL 29 ζb ?_))<;>(first|refine kL 30 ?_|refine xL 30 ZaN ?_)<;>refine xL 31 ζv (xL 32 ζb ?_)<;>(first|refine kL 33 ?_|(refine bLd 32 (fun hb32=>?_) (fun hb32=>?_)<;>(first|refine kL 33 ?_|refine xL 33 ζb ?_)))<;>(first|refine kL 34 ?_|refine xL 34 (ζ9 ZnW) ?_)<;>(first|refine kL 35 ?_|refine xL 35 ζY ?_)<;>refine xL 36 ζv (xL 37 ζb ?_)<;>(first|refine kL 38 ?_|(refine bLd 37 (fun hb37=>?_) (fun hb37=>?_)<;>(first|refine kL 38 ?_|(refine yL 38 (ζm 1 ZaX) fun v38 h=>?_;cases h))))<;>(first|refine kL 39 ?_|(refine cS 39 (cA Tryz.call20 (hVt)) fun v39 h=>?_;cases h))<;>(first|refine kL 40 ?_|refine xL 40 Zaw ?_)<;>refine xL 41 ζv (xL 42 ζb ?_)<;>(first|refine kL 43 ?_|(refine bL 42 (fun hb42=>?_) (fun hb42=>?_)<;>(first|refine kL 43 ?_|(refine yL 43 (ζm 3 ZaX) fun v43 h=>?_;cases h))))<;>(first|refine kL 44 ?_|(refine cS 44 (cA Tryz.call38 (hDn)) fun v44 h=>?_;cases h))<;>(first|refine kL 45 ?_|refine xL 45 ZaQ ?_)<;>refine xL 46 ζv (xL 47 ζb ?_)<;>(first|refine kL 48 ?_|(refine bLd 47 (fun hb47=>?_) (fun hb47=>?_)<;>(first|refine kL 48 ?_|(refine yL 48 (ζm 3 ZaX) fun v48 h=>?_;cases h))))<;>(first|refine kL 49 ?_|(refine cS 49 (cA Tryz.call20 (hVn)) fun v49 h=>?_;cases h))<;>(first|refine kL 50 ?_|refine xL 50 Zaw ?_)<;>refine xL 51 ζv ?_<;>refine ζd ?_)<;>(
        (first|refine cCd ?_ ?_|refine cC ?_ ?_)<;>intro hb51
        · first
          |exact bN hb51
          | (
           refine nav ?_;(refine ζa ?_<;>refine xL 52 ζb (xL 53 ζY (xL 54 ζb ?_))<;>(refine bLd 54 (fun hb54=>?_) (fun hb54=>?_)<;>(first|refine kL 55 ?_|refine xL 55 ζb ?_))<;>(first|refine kL 56 ?_|refine xL 56 ζY ?_)<;>refine xL 57 ζv (xL 58 ζb ?_)<;>(first|(refine yL 59 (ζm 3 ZaX) fun v59 h=>?_;cases h)|(refine bLd 58 (fun hb58=>?_) (fun hb58=>?_)<;>(first|refine kL 59 ?_|(refine yL 59 (ζm 3 ZaX) fun v59 h=>?_;cases h))))<;>(first|refine kL 60 ?_|(refine cS 60 (cA Tryz.call39 (hNo)) fun v60 h=>?_;cases h))<;>refine xL 61 ζv (xL 62 ζb ?_)<;>(first|refine xL 63 ζb ?_|(refine bL 62 (fun hb62=>?_) (fun hb62=>?_)<;>(first|refine kL 63 ?_|refine xL 63 ζb ?_)))<;>(first|refine kL 64 ?_|refine xL 64 ζY ?_)<;>(first|refine kL 65 ?_|refine xL 65 ζb ?_)<;>(first|refine kL 66 ?_|(refine bLd 65 (fun hb65=>?_) (fun hb65=>?_)<;>(first|refine kL 66 ?_|(refine yL 66 (ζm 3 ZaX) fun v66 h=>?_;cases h))))<;>(first|refine kL 67 ?_|(refine cS 67 (cA Tryz.call20 (hVn)) fun v67 h=>?_;cases h))<;>(first|refine kL 68 ?_|refine xL 68 ζv ?_)<;>(first|refine kL 69 ?_|refine xL 69 ζb ?_)<;>(first|refine kL 70 ?_|(refine bL 69 (fun hb69=>?_) (fun hb69=>?_)<;>(first|refine kL 70 ?_|refine xL 70 ζb ?_)))<;>(first|refine kL 71 ?_|refine xL 71 (ζ9 ZnW) ?_)<;>(first|refine kL 72 ?_|refine xL 72 ζY ?_)<;>(first|refine kL 73 ?_|refine xL 73 ζv ?_)<;>refine xL 74 ζv (xL 2 ζc ?_)<;>refine ζd ?_)<;>(
            refine ζp (Tryz.results9) rfl ?_;by_cases h0:e=0
            · obtain ⟨rfl,rfl⟩:=hv0 h0;have h2:=hn2 h0;by_cases hf0:f=0
              · first
                |rfl
                |(exfalso;omega)
                |(exfalso;simp_all;done)
                |(exfalso;simp_all;omega)
                |(rw [decide_eq_true (by omega)])
              · have hL0:=hAc hf0;subst hL0
                first
                |rfl
                |(exfalso;omega)
                |(exfalso;simp_all;done)
                |(exfalso;simp_all;omega)
            · obtain ⟨h1,rfl⟩:=hE h0
              first
              |rfl
              |(exfalso;omega)
              |(exfalso;simp_all;done)
              |(exfalso;simp_all;omega)))
        · first
          |exact bN hb51
          | (
           have hee:e=0:=by first|(simpa using hb28)|omega
           have hff:f=0:=by first|(simpa using hb32)|omega
           obtain ⟨A,g,B,h,hP,hQ,hS⟩:=hK hee hff;refine nav ?_;(refine ζa ?_<;>(refine yL 76 (ζm 1 ZaX) fun v76 h=>?_;cases h)<;>refine xL 77 ζb ?_<;>(refine cP 78 (cA Tryz.call40 (hP)) fun va78 vb78 hva78 h=>?_;cases h)<;>refine xL 75 ζb (xL 79 ζl (xL 80 ζl ?_))<;>refine ζs [(.int .i64 0),(.int .i64 0),(.slice none 0 0),(.slice none 0 0),(.slice none 0 0)] 5 7 ZnX fun h7=>?_<;>refine ζt 7 Zfr ?_<;>refine xL 8 ζc ?_<;>refine ζd ?_)
           (refine ζa ?_<;>(refine yL 82 (ζm 3 ZaX) fun v82 h=>?_;cases h)<;>refine xL 83 ζb ?_<;>(refine cP 84 (cA Tryz.call40 (hQ)) fun va84 vb84 hva84 h=>?_;cases h)<;>refine xL 81 ζb (xL 85 ζl (xL 86 ζl ?_))<;>refine ζs [(.int .i64 0),(.int .i64 0),(.slice none 0 0),(.slice none 0 0),(.slice none 0 0)] 5 9 ZnX fun h9=>?_<;>refine ζt 9 Zfr ?_<;>refine xL 10 ζc ?_<;>refine ζd ?_)
           (refine ζa ?_<;>refine xL 87 ζb (xL 88 ZaN (xL 89 ζb ?_))<;>(refine bLd 89 (fun hb89=>?_) (fun hb89=>?_)<;>(first|refine kL 90 ?_|refine xL 90 ζb ?_))<;>(first|refine kL 91 ?_|refine xL 91 ZaN ?_)<;>refine xL 92 ζv (xL 93 ζb ?_)<;>(first|refine kL 94 ?_|(refine bLd 93 (fun hb93=>?_) (fun hb93=>?_)<;>(first|refine kL 94 ?_|(refine yL 94 (ζm 7 Zfr) fun v94 h=>?_;cases h))))<;>(first|refine kL 95 ?_|(refine yL 95 (ζm 9 Zfr) fun v95 h=>?_;cases h))<;>(first|refine kL 96 ?_|(refine cS 96 (cA Tryz.call18 (hS (by simpa using hb89) (by simpa using hb93))) fun v96 h=>?_;cases h))<;>refine xL 97 ζv (xL 2 ζc ?_)<;>refine ζd ?_)<;>(
            first
            |exact ζp (Tryz.results9) rfl rfl
            |(refine ζp (Tryz.results9) rfl ?_;simp_all))))))
end Go.Proofs.YtgfabnhpllkebaaGreatDoor
