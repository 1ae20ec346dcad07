/-
  Walks of functions and plain laws of the chapter, as the claim needs them.
-/
import Derived.Test.YtgfabnhpllkebaaGreatDoorPn08
import Derived.Test.YtgfabnhpllkebaaGreatDoorPn03
import Derived.Test.YtgfabnhpllkebaaGreatDoorMShelfF
import Derived.Test.YtgfabnhpllkebaaGreatDoorPn01
namespace Go.Proofs.YtgfabnhpllkebaaGreatDoor
open Go.RowKit Go.Cb Go.En Tryz
set_option linter.all false
set_option maxRecDepth 100000
theorem ZaL:FldT prog 147 0 0=true:=by kernel_rfl
theorem Ld:MpT prog 279 3 3 (.int .i64) (.int .i64 0):=⟨underlying279,underlying3, .inr ⟨_,rfl⟩,by show ZeroT _ _ _;unfold ZeroT;kernel_rfl⟩
theorem ZU:WR prog 39=some ((.agg #[(.int .i64 0),(.int .i64 0),(.slice none 0 0),(.slice none 0 0),(.slice none 0 0)]),([0,1,2,3,4]:List Nat).map fun o=>(o,1)):=by kernel_rfl
theorem YX:WR prog 93=some ((.agg #[(.int .i64 0),(.int .i64 0),(.int .i64 0)]),([0,1,2]:List Nat).map fun o=>(o,1)):=by kernel_rfl
theorem ZJ:ZeroT prog 39 (.agg #[(.int .i64 0),(.int .i64 0),(.slice none 0 0),(.slice none 0 0),(.slice none 0 0)]):=by unfold ZeroT;kernel_rfl
section
variable {α:Type}
def Wn (f:α→Int) (o:List α) (x:α):Nat:=if posK f o (f x)<o.length then posK f o (f x) else 0
theorem ζu (f:α→Int) (o:List α) (x:α):(Kk (ikv (YN f 0 o)) (.int .i64 (f x))).getD (.int .i64 0)= .int .i64 (Wn f o x:Nat)∧(Kk (ikv (YN f 0 o)) (.int .i64 (f x))).isSome=decide (posK f o (f x)<o.length):=by
 rw [Zbq,LY]
 unfold Wn
 by_cases h:posK f o (f x)<o.length
 · rw [US h,US h,UP h,Xv];exact ⟨rfl,rfl⟩
 · rw [UR h,UR h,UQ h];exact ⟨rfl,rfl⟩
theorem ZcF {f:α→Int} {o:List α} {x:α} (h:¬posK f o (f x)<o.length):K' (ikv (YN f 0 o)) (.int .i64 (f x)) (.int .i64 (o.length:Nat))=ikv (YN f 0 (o++[x])):=by
 have:=PO f x o 0 h
 rw [Xv] at this
 rw [Zbr,this]
end
section
variable {α:Type} {P:Program} {sL hP:List (Nat×Ent)} {o:Oper}
theorem ZfD {t ks e:Nat} {kd:TypeDesc} {z:Value} {x y:Operand} {m:Value} {f:α→Int} {L:List α} {a:α} {p q:PV} (l:Nat) (hT:MpT P t ks e kd z) (hz:z= .int .i64 0) (hkd:kd= .int .i64) (ho:o.op= .lookup t x y true:=by exact rfl) (hx:ev sL x=some (m,p):=by exact rfl) (hl:lk hP l=some (m, .omap (ikv (YN f 0 L))):=by exact rfl) (hy:ev sL y=some (.int .i64 (f a),q):=by exact rfl):
 YE P (⟨sL,hP⟩:St) o (· = .tuple [.int .i64 (Wn f L a:Nat), .bool (decide (posK f L (f a)<L.length))].toArray) (.tup [.val (.int .i64 (Wn f L a:Nat)), .val (.bool (decide (posK f L (f a)<L.length)))]):=by
 subst hz hkd
 have h:=Zbs (sL:=sL) (hP:=hP) (o:=o) l hT ho hx hl hy (Pu _ _)
 rw [(ζu f L a).1,(ζu f L a).2] at h
 exact h
end
def Ki (t:Tab) (x:Nat):Int:=(Yu t x:Nat)
theorem ZfE (t:Tab) (o:List Nat) (x:Nat):posK (Ki t) o (Ki t x)=posK (Yu t) o (Yu t x):=G3 fun y _=>by unfold Ki;omega
theorem SK {t:Tab} {o o':List Nat} (h:o<+:o'):∀k,k≤o.length→Yc k (JC t o)=Yc k (JC t o')
 |0,_=>rfl
 | k+1,hk=>by
   rw [Wz,Wz,SK h k oM];obtain ⟨x,hx⟩:=Zq (show k<o.length by omega);unfold JC;rw [hx,Kd h hx]
theorem WO (e:Nat) (L:List Mv) (x:Mv):PV.own e 3 (L.length+1) (L.flatMap cMv++cMv x)= .own e 3 (L++[x]).length ((L++[x]).flatMap cMv):=sM
theorem Kj (e n:Nat) (l:List Mv) (hn:n=l.length):share (.own e 3 n (l.flatMap cMv))=pMvs l:=by
 subst hn
 rw [share,Yl,Uu];rfl
theorem KV (e:Nat) (L:List Int) (x:Int):PV.own e 1 (L.length+1) (L.map pInt++[pInt x])= .own e 1 (L++[x]).length ((L++[x]).map pInt):=sM
theorem ZfF {rows:List (List Nat)} {r:List Nat} {n m:Nat} (h:∀x∈rows,x.length=m) (hm:m≤40) (hn:rows.length≤2000) (hr:r.length≤m):(ZZ rows++Yj n r).length≤80040:=by
 rw [Xc,RY rows h,JB]
 have:rows.length*m≤2000*40:=VD hn hm
 omega
set_option maxHeartbeats 4000000 in
theorem ZeH (t : Tab) (ht:TOk t):AF prog 186 [ZcA t] (· =resW (lim (Wg t))):=by
 have hn1:=ht.n1
 have hfl:=ht.fl
 have hm1:=ht.m1
 have hpos:=ht.pos
 refine AF.of_body 101 func186 rfl ntmps186 (Xa rfl) ?_
 intro w0 M0 vs hl hv
 obtain ⟨v0,rfl⟩:=Wj hl
 clear hl hv
 refine Ze ?_
 (refine ZC 1 3 fun h1=>?_<;>refine Zx [(.int .i64 0),(.int .i64 0),(.slice none 0 0),(.slice none 0 0),(.slice none 0 0)] 5 2 ZJ fun h2=>?_<;>refine xL 3 Za ?_<;>refine Zi ?_)
 ((refine yL 13 (Zu 1 WC) fun v13 h=>?_;cases h)<;>(refine cO 14 (cA call232 (ZeG t ht)) fun v14 ho14=>?_;refine Zt (En.freeze (l:=14) (t:=14) rfl rfl) fun _=>?_;rw [show share (.own 3 1 t.rows.length (vec t.rows.length fun s=>pInt (Yu t s:Nat)))= .sl t.rows.length (vec t.rows.length fun s=>pInt (Yu t s:Nat)) by rw [share,Yl,Hl];rfl])<;>refine xL 4 Za ?_<;>refine Zc ?_)
 have e1:=Kq (fun s=>pInt (Yu t s:Nat)) hpos
 (refine Zv ?_<;>refine GM 15 fun h15 ho15=>?_<;>refine xL 16 Zb ?_<;>refine xL 17 (ZI (i:=0) Zp) ?_<;>(refine yL 18 (Ya Zg) fun v18 h=>?_;cases h)<;>(refine Ziv 15 Ld ?_;rw [show K' [] (.int .i64 ((Yu t 0:Nat):Int)) (.int .i64 0)=ikv (YN (Ki t) 0 [0]) from rfl])<;>refine xL 19 Zb (xL 5 Za ?_)<;>refine Zi ?_)
 (refine ZO (kk:=1) 20 Zn fun h20 ho20=>?_<;>refine xL 6 Za ?_<;>refine Zc ?_)
 refine Zs (ZE (l:=15) 304 rfl rfl) fun _=>?_
 refine Zs (ZE (l:=20) 303 rfl rfl) fun _=>?_
 refine Zs (ZL (l:=303) (p':= .own 3 1 ([0]:List Nat).length ((toI [0]).map pInt)) rfl rfl) fun _=>?_
 (refine Zv ?_<;>refine xL 21 (Zd 1 ZaL) ?_<;>(refine yL 22 (Zj 1 Zg) fun v22 h=>?_;cases h)<;>(refine ZO (kk:=1) 23 Zn fun h23 ho23=>?_;refine Zt (En.freeze (l:=23) (t:=23) rfl rfl) fun _=>?_;rw [show share (PV.own 3 1 1 [PV.val (.int .i64 0)])=pInts [0] from rfl])<;>refine xL 24 (ZM ZU) ?_<;>refine Zx [(.int .i64 0),(.int .i64 0),(.slice none 0 0),(.slice none 0 0),(.slice none 0 0)] 5 7 ZJ fun h7=>?_<;>refine ZD 7 Zh ?_<;>refine Zc ?_)
 refine Zs (WY (l:=7) [pInt 0,pInt (t.m:Nat),pInts [0], .own 3 1 0 [], .own 93 3 0 []] rfl rfl (fun i p p' h1 h2=>by
  match i with
  |0=>cases h1;cases h2;exact .inl rfl
  |1=>cases h1;cases h2;exact .inl rfl
  |2=>cases h1;cases h2;exact .inl rfl
  |3=>cases h1;cases h2;exact .inr ⟨rfl,_,_,rfl⟩
  |4=>cases h1;cases h2;exact .inr ⟨rfl,_,_,rfl⟩
  |i+5=>simp at h2)) fun _=>?_
 refine Zs (Ws (l:=7) (l':=301) (j:=3) rfl rfl rfl rfl) fun i=>?_
 obtain ⟨v301,ho301⟩:=i
 refine Zs (Ws (l:=7) (l':=302) (j:=4) rfl rfl rfl rfl) fun i=>?_
 obtain ⟨v302,ho302⟩:=i
 dsimp only [List.set]
 (refine Zv ?_<;>refine xL 8 Za ?_<;>refine Zc ?_)
 refine ZB (ι:={q:Nat×Value×Value×Value×List Nat×List (List Nat)//(minW t).upto 0 q.1=some (q.2.2.2.2.1,q.2.2.2.2.2)∧q.1≤q.2.2.2.2.1.length∧q.2.1.oneCell'=true∧q.2.2.1.oneCell'=true∧q.2.2.2.1.oneCell'=true}) (fun k=>⟨[(1,_,_),(2,_,_),(3,_,_),(4,_,_),(5,_,_),(7,_,_),(6,k.1.2.2.2.1, .val k.1.2.2.2.1),(8, .int .i64 k.1.1,pInt k.1.1)],[(1,_,_),(2,_,_),(7,h7, .own 39 5 1 [pInt 0,pInt (t.m:Nat),pInts [0], .val k.1.2.1, .val k.1.2.2.1]),(301,k.1.2.1, .own 3 1 (Yc k.1.1 (JC t k.1.2.2.2.2.1)).length ((Yc k.1.1 (JC t k.1.2.2.2.2.1)).map pInt)),(302,k.1.2.2.1, .own 93 3 (ZZ k.1.2.2.2.2.2).length ((ZZ k.1.2.2.2.2.2).flatMap cMv)),(303,k.1.2.2.2.1, .own 3 1 k.1.2.2.2.2.1.length ((toI k.1.2.2.2.2.1).map pInt)),(304,h15, .omap (ikv (YN (Ki t) 0 k.1.2.2.2.2.1)))]⟩) (fun k=>2000-k.1.1) ⟨(0,v301,v302,h20,[0],[]),rfl,Xd _,ho301,ho302,ho20⟩ (fun a w H=>H.weaken ⟨rfl,rfl,rfl,rfl,rfl,rfl,rfl,rfl,trivial⟩ ⟨rfl,rfl,rfl,rfl,rfl,rfl,rfl,trivial⟩) ?_
 rintro ⟨⟨i,hF,hM,hO,o,rows⟩,hU,hi,hFo,hMo,hOo⟩
 dsimp only
 dsimp only at hU hi hFo hMo hOo
 obtain ⟨hOk,hRl,_⟩:=ZaC ht hU
 have hRl:=hRl hi
 have hcap:o.length≤t.rows.length:=hOk.cap
 have hrw:=hOk.len
 have htl:=Wq o
 have hll:=Ly i (JC t o)
 refine Ze ?_
 (refine xL 25 Zb (xL 26 Zb (xL 27 (YH 303 Zp) (xL 28 ZP ?_)))<;>refine Zc ?_)
 refine cX ?_ ?_<;>intro hb28
 · first | exact bN hb28|(
 obtain ⟨x,hx⟩:=Zq (show i<o.length by omega);have hxn:x<t.rows.length:=hOk.p x (Xb hx);(have e1:((toI o).map pInt)[i*1]? =some (pInt (x:Nat)):=by rw [Xp,Xh];unfold toI;rw [Xh,hx];rfl);obtain ⟨b,hb⟩:=Zq (show x<t.fin.length by omega);have e2:=Z7 (f:=ZK) hb;obtain ⟨row,hrow⟩:=Zq hxn;have e3:=Z7 (f:=K7) hrow;have hrl:=ht.rl row (Xb hrow);have hrt:=ht.to row (Xb hrow);have hrtl:=Wq row;(have hfa:JC t o i=b:=by unfold JC;rw [hx];show (t.fin[x]?).getD false=b;rw [hb];rfl);have hL1:=Wz i (JC t o);rw [hfa] at hL1;refine nav ?_;(refine ZY (fun i=>([]:List Nat).elem i) [1,303] kR ?_<;>refine xD 0 31 rfl (Zd 1 Ks) ?_<;>(refine yD 1 32 rfl (Zj 1 YL) fun v32 h=>?_;cases h)<;>refine xD 2 33 rfl Zb ?_<;>refine xE 3 34 rfl Zb ?_<;>refine xE 4 35 rfl (Yi 303 Zp) ?_<;>(refine yE 5 36 rfl (Zj 303 Zg) fun v36 h=>?_;cases h)<;>refine xE 6 37 rfl (ZI Yy) ?_<;>(refine yE 7 38 rfl (Ya Wa) fun v38 h=>?_;cases h)<;>refine Yr kR (nav ?_)<;>try dsimp only)
 refine cX ?_ ?_<;>intro hb38
 · first | exact bN hb38|(
 rw [US hb38] at hL1;refine Ze ?_;(refine xL 39 (Zd 7 ZX) ?_<;>(refine yL 40 (Zj 7 Zz) fun v40 h=>?_;cases h)<;>refine xL 41 Zb ?_<;>refine ZO (kk:=1) 42 Zn fun h42 ho42=>?_<;>(refine Z1 301 42 43 Zn fun h43 ho43=>?_;refine Zt (ZE (l:=43) 301 rfl rfl) fun _=>?_;refine Zt (ZL (l:=301) rfl (KV _ (Yc i (JC t o)) i)) fun _=>?_)<;>refine xL 44 (Zd 7 ZX) ?_<;>refine YM 7 Zz Wd ?_<;>refine Zc ?_)
 (refine ZY (fun i=>([]:List Nat).elem i) [1,303] kR ?_<;>refine xD 0 45 rfl (Zd 1 W0) ?_<;>(refine yD 1 46 rfl (Zj 1 Yz) fun v46 h=>?_;cases h)<;>refine xD 2 47 rfl Zb ?_<;>refine xD 3 48 rfl Zb ?_<;>refine xD 4 49 rfl (Yi 303 Zp) ?_<;>(refine yD 5 50 rfl (Zj 303 Zg) fun v50 h=>?_;cases h)<;>refine xD 6 51 rfl (ZI Z') ?_<;>(refine yD 7 52 rfl (Ya Zz) fun v52 h=>?_;cases h)<;>refine xD 8 53 rfl (ZR Zp) ?_<;>refine xE 9 54 rfl Zb ?_<;>refine Yr kR (nav ?_)<;>try dsimp only)
 rw [←hL1];rw [show ZZ rows=ZZ rows++Yj i ([]:List Nat) from (Xq _).symm];refine ZB (ι:={q:Nat×Value×Value×List Nat×List Nat//(minW t).row i x o q.1=some (q.2.2.2.1,q.2.2.2.2)∧q.1≤t.m∧q.2.1.oneCell'=true∧q.2.2.1.oneCell'=true}) (fun k=>⟨[(1,_,_),(2,_,_),(3,_,_),(4,_,_),(5,_,_),(7,_,_),(8,_,_),(52,_,_),(53,_,_),(6,k.1.2.2.1, .val k.1.2.2.1),(54, .int .i64 k.1.1,pInt k.1.1)],[(1,_,_),(2,_,_),(301,_,_),(7,h7, .own 39 5 1 [pInt 0,pInt (t.m:Nat),pInts [0],_, .val k.1.2.1]),(302,k.1.2.1, .own 93 3 (ZZ rows++Yj i k.1.2.2.2.2).length ((ZZ rows++Yj i k.1.2.2.2.2).flatMap cMv)),(303,k.1.2.2.1, .own 3 1 k.1.2.2.2.1.length ((toI k.1.2.2.2.1).map pInt)),(304,h15, .omap (ikv (YN (Ki t) 0 k.1.2.2.2.1)))]⟩) (fun k=>t.m-k.1.1) ⟨(0,hM,hO,o,[]),rfl,Xd _,hMo,hOo⟩ (fun a w H=>H.weaken ⟨rfl,rfl,rfl,rfl,rfl,rfl,rfl,rfl,rfl,rfl,rfl,trivial⟩ ⟨rfl,rfl,rfl,rfl,rfl,rfl,rfl,trivial⟩) ?_;rintro ⟨⟨s,hM',hO',o',r⟩,hW,hs,hM'o,hO'o⟩;dsimp only;dsimp only at hW hs hM'o hO'o;obtain ⟨hMt,hpr,hrl2,_⟩:=hOk.toMet.row (fun s _=>KB ht) (show s≤(minW t).m from hs) hW;have hcap':o'.length≤t.rows.length:=hMt.cap;have htl':=Wq o';have hmr:=ZfF (n:=i) hrw hm1 oM (show r.length≤t.m by omega);refine Ze ?_;(refine xL 55 ZP ?_<;>refine Zc ?_)
 refine cX ?_ ?_<;>intro hb55
 · first | exact bN hb55|(
 obtain ⟨y,hy⟩:=Zq (show s<row.length by omega);have hyn:=hrt y (Xb hy);(have e4:((toI row).map pInt)[s*1]? =some (pInt (y:Nat)):=by rw [Xp,Xh];unfold toI;rw [Xh,hy];rfl);have e5:=Kq (fun s=>pInt (Yu t s:Nat)) hyn;have hto:(minW t).step i x s=y:=RX hrow hy;have hid:=ZfE t o' y;refine Ze ?_;(refine xL 56 Zb (xL 57 (ZI Zp) ?_)<;>(refine yL 58 (Ya Zg) fun v58 h=>?_;cases h)<;>refine xL 9 Za (xL 10 Za ?_)<;>refine Zi ?_)
 (refine xL 60 Zb (xL 61 Zb (xL 62 Zb (xL 63 (ZI Zp) ?_)))<;>(refine yL 64 (Ya Zg) fun v64 h=>?_;cases h)<;>refine xL 65 (ZfD (f:=Ki t) (L:=o') (a:=y) 304 Ld rfl rfl) ?_<;>refine xL 59 Zb (xL 66 Zk (xL 67 Zk (xL 11 Za (xL 12 Za ?_))))<;>refine Zi ?_)
 (refine xL 68 Zb (xL 69 Z8 ?_)<;>refine Zc ?_)
 refine cX ?_ ?_<;>intro hb69
 · first |exact bN hb69|(
 (have hnew:¬posK (Ki t) o' (Ki t y)<o'.length:=by simpa using hb69);have hnew2:¬posK (minW t).key o' ((minW t).key ((minW t).step i x s))<o'.length:=by
  rw [hto];show ¬posK (Yu t) o' (Yu t y)<o'.length;rw [←hid];exact hnew
 have hroom:=S7 ht hMt (show (minW t).step i x s<t.rows.length by rw [hto];exact hyn) hnew2;refine Ze ?_;(refine xL 70 Zb (xL 71 (YH 303 Zp) (xL 11 Za ?_))<;>refine Zi ?_)
 (refine xL 72 Zb (xL 73 Zb (xL 74 Zb (xL 75 (ZI Zp) ?_)))<;>(refine yL 76 (Ya Zg) fun v76 h=>?_;cases h)<;>refine xL 77 Zb ?_<;>(refine LF 304 Ld ?_;rw [show K' (ikv (YN (Ki t) 0 o')) (.int .i64 ((Yu t y:Nat):Int)) (.int .i64 ((o'.length:Nat):Int))=ikv (YN (Ki t) 0 (o'++[y])) from ZcF hnew])<;>refine Zi ?_)
 (refine xL 78 Zb (xL 79 Zb ?_)<;>refine ZO (kk:=1) 80 Zn fun h80 ho80=>?_<;>(refine Z1 303 80 81 Zn fun h81 ho81=>?_;refine Zt (ZE (l:=81) 303 rfl rfl) fun _=>?_;refine Zt (ZL (l:=303) rfl (Kh _ o' y)) fun _=>?_)<;>refine xL 6 Za ?_<;>refine Zi ?_)
 (refine xL 82 (Zd 7 Zw) ?_<;>(refine yL 83 (Zj 7 ZA) fun v83 h=>?_;cases h)<;>refine xL 84 Zb (xL 85 Zb (xL 86 Zb (xL 87 (ZM YX) ?_)))<;>refine YD 88 ZS fun h88 ho88=>?_<;>(refine Z1 302 88 89 ZS fun h89 ho89=>?_;refine Zt (ZE (l:=89) 302 rfl rfl) fun _=>?_;first|refine Zt (ZL (l:=302) rfl (WO _ (ZZ rows++Yj i r) ⟨(i:Nat),(o'.length:Nat),(s:Nat)⟩)) fun _=>?_|refine Zt (ZL (l:=302) rfl (WO _ (ZZ rows++Yj i r) ⟨(i:Nat),(Wn (Ki t) o' y:Nat),(s:Nat)⟩)) fun _=>?_)<;>refine xL 90 (Zd 7 Zw) ?_<;>refine YM 7 ZA YB ?_<;>refine Zi ?_)
 (refine xL 91 ZH (xL 54 Zb ?_)<;>refine Zc ?_)
 try rw [show (ZZ rows++Yj i r)++[(⟨(i:Nat),(o'.length:Nat),(s:Nat)⟩:Mv)]=ZZ rows++Yj i (r++[o'.length]) by rw [Kr,hrl2,Xy]]
 try rw [show (ZZ rows++Yj i r)++[(⟨(i:Nat),(Wn (Ki t) o' y:Nat),(s:Nat)⟩:Mv)]=ZZ rows++Yj i (r++[Wn (Ki t) o' y]) by rw [Kr,hrl2,Xy]]
 first
  | (exact Zm (
      ⟨(s+1,h89,h81,o'++[y],r++[o'.length]),(by dsimp only;exact (by have h9:=Srch.row_snoc hW (Wc hnew2 hroom);rwa [hto] at h9)),(by dsimp only;omega),ho89,ho81⟩
      ) (by dsimp only;omega) ⟨rfl,rfl,rfl,rfl,rfl,rfl,rfl,rfl,rfl,rfl,rfl,trivial⟩ ⟨rfl,rfl,rfl,rfl,rfl,rfl,rfl,trivial⟩)
  | (exact Zm (
      ⟨(s+1,h89,hO',o',r++[Wn (Ki t) o' y]),(by dsimp only;rw [hnum];exact Srch.row_snoc hW (Wb hold2)),(by dsimp only;omega),ho89,hO'o⟩
      ) (by dsimp only;omega) ⟨rfl,rfl,rfl,rfl,rfl,rfl,rfl,rfl,rfl,rfl,rfl,trivial⟩ ⟨rfl,rfl,rfl,rfl,rfl,rfl,rfl,trivial⟩))
 · first |exact bN hb69|(
 (have hold:posK (Ki t) o' (Ki t y)<o'.length:=by simpa using hb69);have hold2:posK (minW t).key o' ((minW t).key ((minW t).step i x s))<o'.length:=by
  rw [hto];show posK (Yu t) o' (Yu t y)<o'.length;rw [←hid];exact hold
 have hnum:Wn (Ki t) o' y=posK (minW t).key o' ((minW t).key ((minW t).step i x s)):=by
  rw [hto];show Wn (Ki t) o' y=posK (Yu t) o' (Yu t y);unfold Wn;rw [US hold,hid]
 refine Ze ?_;(refine xL 82 (Zd 7 Zw) ?_<;>(refine yL 83 (Zj 7 ZA) fun v83 h=>?_;cases h)<;>refine xL 84 Zb (xL 85 Zb (xL 86 Zb (xL 87 (ZM YX) ?_)))<;>refine YD 88 ZS fun h88 ho88=>?_<;>(refine Z1 302 88 89 ZS fun h89 ho89=>?_;refine Zt (ZE (l:=89) 302 rfl rfl) fun _=>?_;first|refine Zt (ZL (l:=302) rfl (WO _ (ZZ rows++Yj i r) ⟨(i:Nat),(o'.length:Nat),(s:Nat)⟩)) fun _=>?_|refine Zt (ZL (l:=302) rfl (WO _ (ZZ rows++Yj i r) ⟨(i:Nat),(Wn (Ki t) o' y:Nat),(s:Nat)⟩)) fun _=>?_)<;>refine xL 90 (Zd 7 Zw) ?_<;>refine YM 7 ZA YB ?_<;>refine Zi ?_)
 (refine xL 91 ZH (xL 54 Zb ?_)<;>refine Zc ?_)
 try rw [show (ZZ rows++Yj i r)++[(⟨(i:Nat),(o'.length:Nat),(s:Nat)⟩:Mv)]=ZZ rows++Yj i (r++[o'.length]) by rw [Kr,hrl2,Xy]]
 try rw [show (ZZ rows++Yj i r)++[(⟨(i:Nat),(Wn (Ki t) o' y:Nat),(s:Nat)⟩:Mv)]=ZZ rows++Yj i (r++[Wn (Ki t) o' y]) by rw [Kr,hrl2,Xy]]
 first
  | (exact Zm (
      ⟨(s+1,h89,h81,o'++[y],r++[o'.length]),(by dsimp only;exact (by have h9:=Srch.row_snoc hW (Wc hnew2 hroom);rwa [hto] at h9)),(by dsimp only;omega),ho89,ho81⟩
      ) (by dsimp only;omega) ⟨rfl,rfl,rfl,rfl,rfl,rfl,rfl,rfl,rfl,rfl,rfl,trivial⟩ ⟨rfl,rfl,rfl,rfl,rfl,rfl,rfl,trivial⟩)
  | (exact Zm (
      ⟨(s+1,h89,hO',o',r++[Wn (Ki t) o' y]),(by dsimp only;rw [hnum];exact Srch.row_snoc hW (Wb hold2)),(by dsimp only;omega),ho89,hO'o⟩
      ) (by dsimp only;omega) ⟨rfl,rfl,rfl,rfl,rfl,rfl,rfl,rfl,rfl,rfl,rfl,trivial⟩ ⟨rfl,rfl,rfl,rfl,rfl,rfl,rfl,trivial⟩)))
 · first |exact bN hb55|(
 have hsm:s=t.m:=oM;subst hsm;have hU2:=Srch.upto_snoc hU hx hW;rw [show ZZ rows++Yj i r=ZZ (rows++[r]) by rw [SA,hRl]];rw [SK hpr (i+1) oM];refine Ze ?_;(refine xL 29 Zb (xL 30 ZH (xL 8 Za ?_))<;>refine Zc ?_)
 first
  | (exact Zm (
      ⟨(i+1,h43,hM',hO',o',rows++[r]),hU2,(by dsimp only;have:=hpr.length_le;omega),ho43,hM'o,hO'o⟩
      ) (by dsimp only;omega) ⟨rfl,rfl,rfl,rfl,rfl,rfl,rfl,rfl,trivial⟩ ⟨rfl,rfl,rfl,rfl,rfl,rfl,rfl,trivial⟩)
  | (exact Zm (
      ⟨(i+1,hF,hM',hO',o',rows++[r]),hU2,(by dsimp only;have:=hpr.length_le;omega),hFo,hM'o,hO'o⟩
      ) (by dsimp only;omega) ⟨rfl,rfl,rfl,rfl,rfl,rfl,rfl,rfl,trivial⟩ ⟨rfl,rfl,rfl,rfl,rfl,rfl,rfl,trivial⟩)))
 · first | exact bN hb38|(
 rw [UR (by simpa using hb38),Xq] at hL1;refine nav ?_;(refine ZY (fun i=>([]:List Nat).elem i) [1,303] kR ?_<;>refine xD 0 45 rfl (Zd 1 W0) ?_<;>(refine yD 1 46 rfl (Zj 1 Yz) fun v46 h=>?_;cases h)<;>refine xD 2 47 rfl Zb ?_<;>refine xD 3 48 rfl Zb ?_<;>refine xD 4 49 rfl (Yi 303 Zp) ?_<;>(refine yD 5 50 rfl (Zj 303 Zg) fun v50 h=>?_;cases h)<;>refine xD 6 51 rfl (ZI Z') ?_<;>(refine yD 7 52 rfl (Ya Zz) fun v52 h=>?_;cases h)<;>refine xD 8 53 rfl (ZR Zp) ?_<;>refine xE 9 54 rfl Zb ?_<;>refine Yr kR (nav ?_)<;>try dsimp only)
 rw [←hL1];rw [show ZZ rows=ZZ rows++Yj i ([]:List Nat) from (Xq _).symm];refine ZB (ι:={q:Nat×Value×Value×List Nat×List Nat//(minW t).row i x o q.1=some (q.2.2.2.1,q.2.2.2.2)∧q.1≤t.m∧q.2.1.oneCell'=true∧q.2.2.1.oneCell'=true}) (fun k=>⟨[(1,_,_),(2,_,_),(3,_,_),(4,_,_),(5,_,_),(7,_,_),(8,_,_),(52,_,_),(53,_,_),(6,k.1.2.2.1, .val k.1.2.2.1),(54, .int .i64 k.1.1,pInt k.1.1)],[(1,_,_),(2,_,_),(301,_,_),(7,h7, .own 39 5 1 [pInt 0,pInt (t.m:Nat),pInts [0],_, .val k.1.2.1]),(302,k.1.2.1, .own 93 3 (ZZ rows++Yj i k.1.2.2.2.2).length ((ZZ rows++Yj i k.1.2.2.2.2).flatMap cMv)),(303,k.1.2.2.1, .own 3 1 k.1.2.2.2.1.length ((toI k.1.2.2.2.1).map pInt)),(304,h15, .omap (ikv (YN (Ki t) 0 k.1.2.2.2.1)))]⟩) (fun k=>t.m-k.1.1) ⟨(0,hM,hO,o,[]),rfl,Xd _,hMo,hOo⟩ (fun a w H=>H.weaken ⟨rfl,rfl,rfl,rfl,rfl,rfl,rfl,rfl,rfl,rfl,rfl,trivial⟩ ⟨rfl,rfl,rfl,rfl,rfl,rfl,rfl,trivial⟩) ?_;rintro ⟨⟨s,hM',hO',o',r⟩,hW,hs,hM'o,hO'o⟩;dsimp only;dsimp only at hW hs hM'o hO'o;obtain ⟨hMt,hpr,hrl2,_⟩:=hOk.toMet.row (fun s _=>KB ht) (show s≤(minW t).m from hs) hW;have hcap':o'.length≤t.rows.length:=hMt.cap;have htl':=Wq o';have hmr:=ZfF (n:=i) hrw hm1 oM (show r.length≤t.m by omega);refine Ze ?_;(refine xL 55 ZP ?_<;>refine Zc ?_)
 refine cX ?_ ?_<;>intro hb55
 · first | exact bN hb55|(
 obtain ⟨y,hy⟩:=Zq (show s<row.length by omega);have hyn:=hrt y (Xb hy);(have e4:((toI row).map pInt)[s*1]? =some (pInt (y:Nat)):=by rw [Xp,Xh];unfold toI;rw [Xh,hy];rfl);have e5:=Kq (fun s=>pInt (Yu t s:Nat)) hyn;have hto:(minW t).step i x s=y:=RX hrow hy;have hid:=ZfE t o' y;refine Ze ?_;(refine xL 56 Zb (xL 57 (ZI Zp) ?_)<;>(refine yL 58 (Ya Zg) fun v58 h=>?_;cases h)<;>refine xL 9 Za (xL 10 Za ?_)<;>refine Zi ?_)
 (refine xL 60 Zb (xL 61 Zb (xL 62 Zb (xL 63 (ZI Zp) ?_)))<;>(refine yL 64 (Ya Zg) fun v64 h=>?_;cases h)<;>refine xL 65 (ZfD (f:=Ki t) (L:=o') (a:=y) 304 Ld rfl rfl) ?_<;>refine xL 59 Zb (xL 66 Zk (xL 67 Zk (xL 11 Za (xL 12 Za ?_))))<;>refine Zi ?_)
 (refine xL 68 Zb (xL 69 Z8 ?_)<;>refine Zc ?_)
 refine cX ?_ ?_<;>intro hb69
 · first |exact bN hb69|(
 (have hnew:¬posK (Ki t) o' (Ki t y)<o'.length:=by simpa using hb69);have hnew2:¬posK (minW t).key o' ((minW t).key ((minW t).step i x s))<o'.length:=by
  rw [hto];show ¬posK (Yu t) o' (Yu t y)<o'.length;rw [←hid];exact hnew
 have hroom:=S7 ht hMt (show (minW t).step i x s<t.rows.length by rw [hto];exact hyn) hnew2;refine Ze ?_;(refine xL 70 Zb (xL 71 (YH 303 Zp) (xL 11 Za ?_))<;>refine Zi ?_)
 (refine xL 72 Zb (xL 73 Zb (xL 74 Zb (xL 75 (ZI Zp) ?_)))<;>(refine yL 76 (Ya Zg) fun v76 h=>?_;cases h)<;>refine xL 77 Zb ?_<;>(refine LF 304 Ld ?_;rw [show K' (ikv (YN (Ki t) 0 o')) (.int .i64 ((Yu t y:Nat):Int)) (.int .i64 ((o'.length:Nat):Int))=ikv (YN (Ki t) 0 (o'++[y])) from ZcF hnew])<;>refine Zi ?_)
 (refine xL 78 Zb (xL 79 Zb ?_)<;>refine ZO (kk:=1) 80 Zn fun h80 ho80=>?_<;>(refine Z1 303 80 81 Zn fun h81 ho81=>?_;refine Zt (ZE (l:=81) 303 rfl rfl) fun _=>?_;refine Zt (ZL (l:=303) rfl (Kh _ o' y)) fun _=>?_)<;>refine xL 6 Za ?_<;>refine Zi ?_)
 (refine xL 82 (Zd 7 Zw) ?_<;>(refine yL 83 (Zj 7 ZA) fun v83 h=>?_;cases h)<;>refine xL 84 Zb (xL 85 Zb (xL 86 Zb (xL 87 (ZM YX) ?_)))<;>refine YD 88 ZS fun h88 ho88=>?_<;>(refine Z1 302 88 89 ZS fun h89 ho89=>?_;refine Zt (ZE (l:=89) 302 rfl rfl) fun _=>?_;first|refine Zt (ZL (l:=302) rfl (WO _ (ZZ rows++Yj i r) ⟨(i:Nat),(o'.length:Nat),(s:Nat)⟩)) fun _=>?_|refine Zt (ZL (l:=302) rfl (WO _ (ZZ rows++Yj i r) ⟨(i:Nat),(Wn (Ki t) o' y:Nat),(s:Nat)⟩)) fun _=>?_)<;>refine xL 90 (Zd 7 Zw) ?_<;>refine YM 7 ZA YB ?_<;>refine Zi ?_)
 (refine xL 91 ZH (xL 54 Zb ?_)<;>refine Zc ?_)
 try rw [show (ZZ rows++Yj i r)++[(⟨(i:Nat),(o'.length:Nat),(s:Nat)⟩:Mv)]=ZZ rows++Yj i (r++[o'.length]) by rw [Kr,hrl2,Xy]]
 try rw [show (ZZ rows++Yj i r)++[(⟨(i:Nat),(Wn (Ki t) o' y:Nat),(s:Nat)⟩:Mv)]=ZZ rows++Yj i (r++[Wn (Ki t) o' y]) by rw [Kr,hrl2,Xy]]
 first
  | (exact Zm (
      ⟨(s+1,h89,h81,o'++[y],r++[o'.length]),(by dsimp only;exact (by have h9:=Srch.row_snoc hW (Wc hnew2 hroom);rwa [hto] at h9)),(by dsimp only;omega),ho89,ho81⟩
      ) (by dsimp only;omega) ⟨rfl,rfl,rfl,rfl,rfl,rfl,rfl,rfl,rfl,rfl,rfl,trivial⟩ ⟨rfl,rfl,rfl,rfl,rfl,rfl,rfl,trivial⟩)
  | (exact Zm (
      ⟨(s+1,h89,hO',o',r++[Wn (Ki t) o' y]),(by dsimp only;rw [hnum];exact Srch.row_snoc hW (Wb hold2)),(by dsimp only;omega),ho89,hO'o⟩
      ) (by dsimp only;omega) ⟨rfl,rfl,rfl,rfl,rfl,rfl,rfl,rfl,rfl,rfl,rfl,trivial⟩ ⟨rfl,rfl,rfl,rfl,rfl,rfl,rfl,trivial⟩))
 · first |exact bN hb69|(
 (have hold:posK (Ki t) o' (Ki t y)<o'.length:=by simpa using hb69);have hold2:posK (minW t).key o' ((minW t).key ((minW t).step i x s))<o'.length:=by
  rw [hto];show posK (Yu t) o' (Yu t y)<o'.length;rw [←hid];exact hold
 have hnum:Wn (Ki t) o' y=posK (minW t).key o' ((minW t).key ((minW t).step i x s)):=by
  rw [hto];show Wn (Ki t) o' y=posK (Yu t) o' (Yu t y);unfold Wn;rw [US hold,hid]
 refine Ze ?_;(refine xL 82 (Zd 7 Zw) ?_<;>(refine yL 83 (Zj 7 ZA) fun v83 h=>?_;cases h)<;>refine xL 84 Zb (xL 85 Zb (xL 86 Zb (xL 87 (ZM YX) ?_)))<;>refine YD 88 ZS fun h88 ho88=>?_<;>(refine Z1 302 88 89 ZS fun h89 ho89=>?_;refine Zt (ZE (l:=89) 302 rfl rfl) fun _=>?_;first|refine Zt (ZL (l:=302) rfl (WO _ (ZZ rows++Yj i r) ⟨(i:Nat),(o'.length:Nat),(s:Nat)⟩)) fun _=>?_|refine Zt (ZL (l:=302) rfl (WO _ (ZZ rows++Yj i r) ⟨(i:Nat),(Wn (Ki t) o' y:Nat),(s:Nat)⟩)) fun _=>?_)<;>refine xL 90 (Zd 7 Zw) ?_<;>refine YM 7 ZA YB ?_<;>refine Zi ?_)
 (refine xL 91 ZH (xL 54 Zb ?_)<;>refine Zc ?_)
 try rw [show (ZZ rows++Yj i r)++[(⟨(i:Nat),(o'.length:Nat),(s:Nat)⟩:Mv)]=ZZ rows++Yj i (r++[o'.length]) by rw [Kr,hrl2,Xy]]
 try rw [show (ZZ rows++Yj i r)++[(⟨(i:Nat),(Wn (Ki t) o' y:Nat),(s:Nat)⟩:Mv)]=ZZ rows++Yj i (r++[Wn (Ki t) o' y]) by rw [Kr,hrl2,Xy]]
 first
  | (exact Zm (
      ⟨(s+1,h89,h81,o'++[y],r++[o'.length]),(by dsimp only;exact (by have h9:=Srch.row_snoc hW (Wc hnew2 hroom);rwa [hto] at h9)),(by dsimp only;omega),ho89,ho81⟩
      ) (by dsimp only;omega) ⟨rfl,rfl,rfl,rfl,rfl,rfl,rfl,rfl,rfl,rfl,rfl,trivial⟩ ⟨rfl,rfl,rfl,rfl,rfl,rfl,rfl,trivial⟩)
  | (exact Zm (
      ⟨(s+1,h89,hO',o',r++[Wn (Ki t) o' y]),(by dsimp only;rw [hnum];exact Srch.row_snoc hW (Wb hold2)),(by dsimp only;omega),ho89,hO'o⟩
      ) (by dsimp only;omega) ⟨rfl,rfl,rfl,rfl,rfl,rfl,rfl,rfl,rfl,rfl,rfl,trivial⟩ ⟨rfl,rfl,rfl,rfl,rfl,rfl,rfl,trivial⟩)))
 · first |exact bN hb55|(
 have hsm:s=t.m:=oM;subst hsm;have hU2:=Srch.upto_snoc hU hx hW;rw [show ZZ rows++Yj i r=ZZ (rows++[r]) by rw [SA,hRl]];rw [SK hpr (i+1) oM];refine Ze ?_;(refine xL 29 Zb (xL 30 ZH (xL 8 Za ?_))<;>refine Zc ?_)
 first
  | (exact Zm (
      ⟨(i+1,h43,hM',hO',o',rows++[r]),hU2,(by dsimp only;have:=hpr.length_le;omega),ho43,hM'o,hO'o⟩
      ) (by dsimp only;omega) ⟨rfl,rfl,rfl,rfl,rfl,rfl,rfl,rfl,trivial⟩ ⟨rfl,rfl,rfl,rfl,rfl,rfl,rfl,trivial⟩)
  | (exact Zm (
      ⟨(i+1,hF,hM',hO',o',rows++[r]),hU2,(by dsimp only;have:=hpr.length_le;omega),hFo,hM'o,hO'o⟩
      ) (by dsimp only;omega) ⟨rfl,rfl,rfl,rfl,rfl,rfl,rfl,rfl,trivial⟩ ⟨rfl,rfl,rfl,rfl,rfl,rfl,rfl,trivial⟩))))
 · first|exact bN hb28|(
 have hio:i=o.length:=oM;subst hio;have hA:=Srch.all_some hU (Xg _) (show o.length≤(minW t).cap from hcap);refine Ze ?_;(refine xL 92 Zb (xL 93 (YH 303 Zp) (xL 94 (Zd 7 ZQ) ?_))<;>refine YM 7 Zg Wl ?_<;>refine Zi ?_)
 (refine xL 95 (Zd 7 Zw) ?_<;>(refine yL 96 (Zj 7 ZA) fun v96 h=>?_;cases h)<;>refine xL 97 (YH 302 ZF) (xL 98 Yw ?_)<;>refine Zc ?_)
 refine cX ?_ ?_<;>intro hb98
 · first|exact bN hb98|(
 refine Ze ?_;(refine xL 99 (ZM ZU) ?_<;>refine ZD 2 Zh ?_<;>refine xL 3 Za ?_<;>refine Zc ?_)
 refine Z2 (k:=5) 2 kR (results186) rfl rfl rfl (Xa rfl) dC rfl ?_;unfold Wg;rw [hA,X',US (by dsimp only;omega)];rfl)
 · first|exact bN hb98|(
 refine nav ?_;refine Zs (Z6 (l:=7) (l':=301) (j:=3) rfl rfl rfl rfl) fun _=>?_;refine Zs (Z6 (l:=7) (l':=302) (j:=4) rfl rfl rfl rfl) fun _=>?_;rw [ZV _ _ _ rfl,Kj _ _ _ rfl];(refine Zv ?_<;>(refine yL 100 (Zu 7 Zh) fun v100 h=>?_;cases h)<;>refine ZD 2 Zh ?_<;>refine xL 3 Za ?_<;>refine Zc ?_)
 refine Z2 (k:=5) 2 kR (results186) rfl rfl rfl (Xa rfl) dC rfl ?_;unfold Wg;rw [hA,X',UR (by dsimp only;omega)];rfl))
theorem Zjl {a:Aut} (h:2000<a.n∨20000<a.moves.length):DT a= .error 13:=by unfold DT;rw [US h]
theorem ZlF {a:Aut} (h:¬(2000<a.n∨20000<a.moves.length)):DT a=W4 a:=by unfold DT;rw [UR h]
theorem Zg6 (x:Option Aut):(∃A,x=some A∧resW (lim x)= .tup [ZN A,pInt 0])∨(x=none∧resW (lim x)= .tup [KS,pInt 13]):=by
 cases x with
 |none=>exact .inr ⟨rfl,rfl⟩
 |some A=>exact .inl ⟨A,rfl,rfl⟩
theorem OM (x:Except Int Aut):(∃A,x= .ok A∧resW x= .tup [ZN A,pInt 0])∨(∃e,x= .error e∧resW x= .tup [KS,pInt e]):=by
 cases x with
 |error e=>exact .inr ⟨e,rfl,rfl⟩
 |ok A=>exact .inl ⟨A,rfl,rfl⟩
theorem ζv {a:Aut} {t:Tab} (h:K4 a=some t):W4 a=lim (Wg t):=by unfold W4;rw [h]
theorem ζw {a:Aut} (h:K4 a=none):W4 a= .error 13:=by unfold W4;rw [h]
theorem ZaM (a:Aut) (hl:a.moves.length≤1000000) (hb:2000<a.n∨20000<a.moves.length):AF prog 132 [ZN a] (· = .tup [KS,pInt 13]):=by
 refine AF.of_body 28 func132 rfl ntmps132 (Xa rfl) ?_
 intro w0 M0 vs hl hv
 obtain ⟨v0,rfl⟩:=Wj hl
 clear hl hv
 refine Ze ?_
 (refine ZC 1 5 fun h1=>?_<;>refine Zx [(.int .i64 0),(.int .i64 0),(.slice none 0 0),(.slice none 0 0),(.slice none 0 0)] 5 2 ZJ fun h2=>?_<;>refine xL 3 Za ?_<;>refine Zi ?_)
 (refine xL 6 (Zd 1 ZQ) ?_<;>(refine yL 7 (Zj 1 Zg) fun v7 h=>?_;cases h)<;>refine xL 8 Yw (xL 9 Zb ?_)<;>(refine bLd 9 (fun hb9=>?_) (fun hb9=>?_)<;>(first|refine kL 10 ?_|refine xL 10 (Zd 1 Zw) ?_))<;>(first|refine kL 11 ?_|(refine yL 11 (Zj 1 ZA) fun v11 h=>?_;cases h))<;>(first|refine kL 12 ?_|refine xL 12 (ZR ZF) ?_)<;>(first|refine kL 13 ?_|refine xL 13 Yw ?_)<;>refine xL 14 ZG ?_<;>refine Zc ?_)<;>(
 refine cX ?_ ?_<;>intro hb14
 · refine Ze ?_;(refine xL 15 (ZM ZU) ?_<;>refine ZD 2 Zh ?_<;>refine xL 3 Za ?_<;>refine Zc ?_)
   exact Z2 (k:=5) 2 kR (results132) rfl rfl rfl (Xa rfl) dC rfl rfl
 · exfalso
   first
    |omega
    |(simp at hb14;done)
    |(simp at hb14;omega))
theorem Co (a:Aut) (h:AOk a) (hs:K4 a=none):AF prog 132 [ZN a] (· = .tup [KS,pInt 13]):=by
 have hn1:=h.n1
 have hml:=h.ml
 have hS:AF prog 185 [ZN a] (fun p=>∃i:{i:Value×Value×Value//i.1.oneCell'=true∧i.2.1.oneCell'=true∧i.2.2.oneCell'=true},p= .tup [.agg [.val i.1.1, .val i.1.2.1, .val i.1.2.2],ZK false]):=(R3 a h).mono fun p hp=>by
  rcases hp with ⟨t,h1,_⟩|⟨_,u1,u2,u3,o1,o2,o3,h2⟩
  · rw [hs] at h1;cases h1
  · exact ⟨⟨(u1,u2,u3),o1,o2,o3⟩,h2⟩
 refine AF.of_body 28 func132 rfl ntmps132 (Xa rfl) ?_
 intro w0 M0 vs hl hv
 obtain ⟨v0,rfl⟩:=Wj hl
 clear hl hv
 refine Ze ?_
 (refine ZC 1 5 fun h1=>?_<;>refine Zx [(.int .i64 0),(.int .i64 0),(.slice none 0 0),(.slice none 0 0),(.slice none 0 0)] 5 2 ZJ fun h2=>?_<;>refine xL 3 Za ?_<;>refine Zi ?_)
 (refine xL 6 (Zd 1 ZQ) ?_<;>(refine yL 7 (Zj 1 Zg) fun v7 h=>?_;cases h)<;>refine xL 8 Yw (xL 9 Zb ?_)<;>(refine bLd 9 (fun hb9=>?_) (fun hb9=>?_)<;>(first|refine kL 10 ?_|refine xL 10 (Zd 1 Zw) ?_))<;>(first|refine kL 11 ?_|(refine yL 11 (Zj 1 ZA) fun v11 h=>?_;cases h))<;>(first|refine kL 12 ?_|refine xL 12 (ZR ZF) ?_)<;>(first|refine kL 13 ?_|refine xL 13 Yw ?_)<;>refine xL 14 ZG ?_<;>refine Zc ?_)<;>(
 refine cX ?_ ?_<;>intro hb14
 · exfalso
   first
    |omega
    |(simp at hb14;done)
    |(simp at hb14;omega)
 · refine Ze ?_;((refine yL 17 (Zu 1 Zh) fun v17 h=>?_;cases h)<;>(refine cPx 18 (cA call185 hS) (fun i va18 vb18 hva18 hvb18=>?_) (fun _=>rfl);cases hvb18;obtain ⟨⟨u1,u2,u3⟩,o1,o2,o3⟩:=i;dsimp only at o1 o2 o3 hva18 ⊢;have q1:En.one (PV.val u1)=true:=o1;have q2:En.one (PV.val u2)=true:=o2;have q3:En.one (PV.val u3)=true:=o3)<;>refine xL 16 Zb (xL 19 Zk (xL 20 Zk ?_))<;>refine Zx [(.int .i64 0),(.slice none 0 0),(.slice none 0 0)] 3 4 Lc fun h4=>?_<;>refine ZD 4 WC ?_<;>refine xL 5 Za ?_<;>refine Zi ?_)
   (refine xL 21 Zb (xL 22 Z8 ?_)<;>refine Zc ?_)
   refine cCt ?_;refine Ze ?_;(refine xL 23 (ZM ZU) ?_<;>refine ZD 2 Zh ?_<;>refine xL 3 Za ?_<;>refine Zc ?_)
   exact Z2 (k:=5) 2 kR (results132) rfl rfl rfl (Xa rfl) dC rfl rfl)
theorem ZcG (a:Aut) (h:AOk a) {t:Tab} (hs:K4 a=some t) {A:Aut} (hm:AF prog 186 [ZcA t] (· = .tup [ZN A,pInt 0])):AF prog 132 [ZN a] (· = .tup [ZN A,pInt 0]):=by
 have hn1:=h.n1
 have hml:=h.ml
 have hS:AF prog 185 [ZN a] (· = .tup [ZcA t,ZK true]):=(R3 a h).mono fun p hp=>by
  rcases hp with ⟨t',h1,h2⟩|⟨h1,_⟩
  · rw [hs] at h1;cases h1;exact h2
  · rw [hs] at h1;cases h1
 refine AF.of_body 28 func132 rfl ntmps132 (Xa rfl) ?_
 intro w0 M0 vs hl hv
 obtain ⟨v0,rfl⟩:=Wj hl
 clear hl hv
 refine Ze ?_
 (refine ZC 1 5 fun h1=>?_<;>refine Zx [(.int .i64 0),(.int .i64 0),(.slice none 0 0),(.slice none 0 0),(.slice none 0 0)] 5 2 ZJ fun h2=>?_<;>refine xL 3 Za ?_<;>refine Zi ?_)
 (refine xL 6 (Zd 1 ZQ) ?_<;>(refine yL 7 (Zj 1 Zg) fun v7 h=>?_;cases h)<;>refine xL 8 Yw (xL 9 Zb ?_)<;>(refine bLd 9 (fun hb9=>?_) (fun hb9=>?_)<;>(first|refine kL 10 ?_|refine xL 10 (Zd 1 Zw) ?_))<;>(first|refine kL 11 ?_|(refine yL 11 (Zj 1 ZA) fun v11 h=>?_;cases h))<;>(first|refine kL 12 ?_|refine xL 12 (ZR ZF) ?_)<;>(first|refine kL 13 ?_|refine xL 13 Yw ?_)<;>refine xL 14 ZG ?_<;>refine Zc ?_)<;>(
 refine cX ?_ ?_<;>intro hb14
 · exfalso
   first
    |omega
    |(simp at hb14;done)
    |(simp at hb14;omega)
 · refine Ze ?_;((refine yL 17 (Zu 1 Zh) fun v17 h=>?_;cases h)<;>(refine cP 18 (cA call185 (hS)) fun va18 vb18 hva18 h=>?_;cases h)<;>refine xL 16 Zb (xL 19 Zk (xL 20 Zk ?_))<;>refine Zx [(.int .i64 0),(.slice none 0 0),(.slice none 0 0)] 3 4 Lc fun h4=>?_<;>refine ZD 4 WC ?_<;>refine xL 5 Za ?_<;>refine Zi ?_)
   (refine xL 21 Zb (xL 22 Z8 ?_)<;>refine Zc ?_)
   refine cCf ?_;refine Ze ?_;((refine yL 24 (Zu 4 WC) fun v24 h=>?_;cases h)<;>(refine cP 25 (cA call186 (hm)) fun va25 vb25 hva25 h=>?_;cases h)<;>refine xL 26 Zk (xL 27 Zk ?_)<;>refine ZD 2 Zh ?_<;>refine xL 3 Za ?_<;>refine Zc ?_)
   exact Z2 (k:=5) 2 kR (results132) rfl rfl rfl (Xa rfl) dC rfl rfl)
theorem ZaN (a:Aut) (h:AOk a) {t:Tab} (hs:K4 a=some t) (hm:AF prog 186 [ZcA t] (· = .tup [KS,pInt 13])):AF prog 132 [ZN a] (· = .tup [KS,pInt 13]):=by
 have hn1:=h.n1
 have hml:=h.ml
 have hS:AF prog 185 [ZN a] (· = .tup [ZcA t,ZK true]):=(R3 a h).mono fun p hp=>by
  rcases hp with ⟨t',h1,h2⟩|⟨h1,_⟩
  · rw [hs] at h1;cases h1;exact h2
  · rw [hs] at h1;cases h1
 refine AF.of_body 28 func132 rfl ntmps132 (Xa rfl) ?_
 intro w0 M0 vs hl hv
 obtain ⟨v0,rfl⟩:=Wj hl
 clear hl hv
 refine Ze ?_
 (refine ZC 1 5 fun h1=>?_<;>refine Zx [(.int .i64 0),(.int .i64 0),(.slice none 0 0),(.slice none 0 0),(.slice none 0 0)] 5 2 ZJ fun h2=>?_<;>refine xL 3 Za ?_<;>refine Zi ?_)
 (refine xL 6 (Zd 1 ZQ) ?_<;>(refine yL 7 (Zj 1 Zg) fun v7 h=>?_;cases h)<;>refine xL 8 Yw (xL 9 Zb ?_)<;>(refine bLd 9 (fun hb9=>?_) (fun hb9=>?_)<;>(first|refine kL 10 ?_|refine xL 10 (Zd 1 Zw) ?_))<;>(first|refine kL 11 ?_|(refine yL 11 (Zj 1 ZA) fun v11 h=>?_;cases h))<;>(first|refine kL 12 ?_|refine xL 12 (ZR ZF) ?_)<;>(first|refine kL 13 ?_|refine xL 13 Yw ?_)<;>refine xL 14 ZG ?_<;>refine Zc ?_)<;>(
 refine cX ?_ ?_<;>intro hb14
 · exfalso
   first
    |omega
    |(simp at hb14;done)
    |(simp at hb14;omega)
 · refine Ze ?_;((refine yL 17 (Zu 1 Zh) fun v17 h=>?_;cases h)<;>(refine cP 18 (cA call185 (hS)) fun va18 vb18 hva18 h=>?_;cases h)<;>refine xL 16 Zb (xL 19 Zk (xL 20 Zk ?_))<;>refine Zx [(.int .i64 0),(.slice none 0 0),(.slice none 0 0)] 3 4 Lc fun h4=>?_<;>refine ZD 4 WC ?_<;>refine xL 5 Za ?_<;>refine Zi ?_)
   (refine xL 21 Zb (xL 22 Z8 ?_)<;>refine Zc ?_)
   refine cCf ?_;refine Ze ?_;((refine yL 24 (Zu 4 WC) fun v24 h=>?_;cases h)<;>(refine cP 25 (cA call186 (hm)) fun va25 vb25 hva25 h=>?_;cases h)<;>refine xL 26 Zk (xL 27 Zk ?_)<;>refine ZD 2 Zh ?_<;>refine xL 3 Za ?_<;>refine Zc ?_)
   exact Z2 (k:=5) 2 kR (results132) rfl rfl rfl (Xa rfl) dC rfl rfl)
theorem TO (a:Aut) (h:AOk a):AF prog 132 [ZN a] (· =resW (W4 a)):=by
 rcases hs:K4 a with _|t
 · rw [ζw hs];exact Co a h hs
 · have hm:=ZeH t (Hm h hs);rw [ζv hs];rcases Zg6 (Wg t) with ⟨A,_,h2⟩|⟨_,h2⟩
   · rw [h2] at hm ⊢;exact ZcG a h hs hm
   · rw [h2] at hm ⊢;exact ZaN a h hs hm
theorem ZeI (a:Aut) (hl:a.moves.length≤1000000) (h:¬(2000<a.n∨20000<a.moves.length)→AOk a):AF prog 132 [ZN a] (· =resW (DT a)):=by
 by_cases hb:2000<a.n∨20000<a.moves.length
 · rw [Zjl hb];exact ZaM a hl hb
 · rw [ZlF hb];exact TO a (h hb)
theorem ZlG (e:Int):Rr (.tup [KS,pInt e]) (.tup [ZN ZnB,pInt e]):=Rr.tup2 (Rr.agg rfl fun i p p' h1 h2=>by
 match i with
 |0=>cases h1;cases h2;exact Rr.rfl' _
 |1=>cases h1;cases h2;exact Rr.rfl' _
 |2=>cases h1;cases h2;exact Rr.nil
 |3=>cases h1;cases h2;exact Rr.nil
 |4=>cases h1;cases h2;exact Rr.nil
 |i+5=>simp at h1)
theorem ZnF {P:Program} {f:Nat} {ps:List PV} {x:Except Int Aut} (h:AF P f ps (· =resW x)):AF P f ps (· =ZoD x):=by
 cases x with
 |ok A=>exact h
 |error e=>exact h.reread rfl (ZlG e)
theorem Cp (a:Aut) (hv:Z5 a=false):AF prog 84 [ZN a] (· = .tup [KS,pInt 1]):=by
 refine AF.of_body 12 func84 rfl ntmps84 (Xa rfl) ?_
 intro w0 M0 vs hl hv
 obtain ⟨v0,rfl⟩:=Wj hl
 clear hl hv
 refine Ze ?_
 (refine ZC 1 5 fun h1=>?_<;>refine Zx [(.int .i64 0),(.int .i64 0),(.slice none 0 0),(.slice none 0 0),(.slice none 0 0)] 5 2 ZJ fun h2=>?_<;>refine xL 3 Za ?_<;>refine Zi ?_)
 ((refine yL 4 (Zu 1 Zh) fun v4 h=>?_;cases h)<;>(refine cS 5 (cA call107 (Wv a)) fun v5 h=>?_;cases h)<;>refine xL 6 Z8 ?_<;>refine Zc ?_)
 refine cX ?_ ?_<;>intro hb6
 · refine Ze ?_;(refine xL 7 (ZM ZU) ?_<;>refine ZD 2 Zh ?_<;>refine xL 3 Za ?_<;>refine Zc ?_)
   exact Z2 (k:=5) 2 kR (results84) rfl rfl rfl (Xa rfl) dC rfl rfl
 · rw [hv] at hb6;simp at hb6
theorem ZaO (a:Aut) (hv:Z5 a=true) {A:Aut} (hm:AF prog 132 [ZN a] (· = .tup [ZN A,pInt 0])):AF prog 84 [ZN a] (· = .tup [ZN A,pInt 0]):=by
 refine AF.of_body 12 func84 rfl ntmps84 (Xa rfl) ?_
 intro w0 M0 vs hl hv
 obtain ⟨v0,rfl⟩:=Wj hl
 clear hl hv
 refine Ze ?_
 (refine ZC 1 5 fun h1=>?_<;>refine Zx [(.int .i64 0),(.int .i64 0),(.slice none 0 0),(.slice none 0 0),(.slice none 0 0)] 5 2 ZJ fun h2=>?_<;>refine xL 3 Za ?_<;>refine Zi ?_)
 ((refine yL 4 (Zu 1 Zh) fun v4 h=>?_;cases h)<;>(refine cS 5 (cA call107 (Wv a)) fun v5 h=>?_;cases h)<;>refine xL 6 Z8 ?_<;>refine Zc ?_)
 refine cX ?_ ?_<;>intro hb6
 · rw [hv] at hb6;simp at hb6
 · refine Ze ?_;((refine yL 8 (Zu 1 Zh) fun v8 h=>?_;cases h)<;>(refine cP 9 (cA call132 (hm)) fun va9 vb9 hva9 h=>?_;cases h)<;>refine xL 10 Zk (xL 11 Zk ?_)<;>refine ZD 2 Zh ?_<;>refine xL 3 Za ?_<;>refine Zc ?_)
   exact Z2 (k:=5) 2 kR (results84) rfl rfl rfl (Xa rfl) dC rfl rfl
theorem Cq (a:Aut) (hv:Z5 a=true) {e:Int} (hm:AF prog 132 [ZN a] (· = .tup [KS,pInt e])):AF prog 84 [ZN a] (· = .tup [KS,pInt e]):=by
 refine AF.of_body 12 func84 rfl ntmps84 (Xa rfl) ?_
 intro w0 M0 vs hl hv
 obtain ⟨v0,rfl⟩:=Wj hl
 clear hl hv
 refine Ze ?_
 (refine ZC 1 5 fun h1=>?_<;>refine Zx [(.int .i64 0),(.int .i64 0),(.slice none 0 0),(.slice none 0 0),(.slice none 0 0)] 5 2 ZJ fun h2=>?_<;>refine xL 3 Za ?_<;>refine Zi ?_)
 ((refine yL 4 (Zu 1 Zh) fun v4 h=>?_;cases h)<;>(refine cS 5 (cA call107 (Wv a)) fun v5 h=>?_;cases h)<;>refine xL 6 Z8 ?_<;>refine Zc ?_)
 refine cX ?_ ?_<;>intro hb6
 · rw [hv] at hb6;simp at hb6
 · refine Ze ?_;((refine yL 8 (Zu 1 Zh) fun v8 h=>?_;cases h)<;>(refine cP 9 (cA call132 (hm)) fun va9 vb9 hva9 h=>?_;cases h)<;>refine xL 10 Zk (xL 11 Zk ?_)<;>refine ZD 2 Zh ?_<;>refine xL 3 Za ?_<;>refine Zc ?_)
   exact Z2 (k:=5) 2 kR (results84) rfl rfl rfl (Xa rfl) dC rfl rfl
theorem Dx (a:Aut):AF prog 84 [ZN a] (· =resW (Jd a)):=by
 unfold Jd
 cases hv:Z5 a with
 |false=>rw [UR sM];exact Cp a hv
 | true=>
   rw [US rfl];have hm:=TO a (JN hv);rcases OM (W4 a) with ⟨A,_,h2⟩|⟨e,_,h2⟩
   · rw [h2] at hm ⊢;exact ZaO a hv hm
   · rw [h2] at hm ⊢;exact Cq a hv hm
theorem Zg7 {l:List Int} {k:Nat} {x:Int} (h:l[k]? =some x):TH (l.take (k+1))=TH (l.take k)++[UInt8.ofNat (x.toNat % 250+1),UInt8.ofNat (x.toNat / 250+1),0]:=by
 unfold TH;rw [ZT h,XN];simp
theorem ZcH:∀l:List Int,(TH l).length=l.length*3
 |[]=>rfl
 | x::l=>by
   have:TH (x::l)=[UInt8.ofNat (x.toNat % 250+1),UInt8.ofNat (x.toNat / 250+1),0]++TH l:=rfl;rw [this,Xc,ZcH l];simp only [Xi,XC];omega
theorem Zjm (e:Nat) {l:List Int} {k:Nat} {x:Int} (h:l[k]? =some x) (h0:0≤x) (h1:x≤2000):PV.own e 1 ((TH (l.take k)).length+3) ((TH (l.take k)).map Ls++[PV.val (.int .u8 (x.tmod 250+1)),PV.val (.int .u8 (x.tdiv 250+1)),PV.val (.int .u8 0)])= .own e 1 (TH (l.take (k+1))).length ((TH (l.take (k+1))).map Ls):=by
 rw [Zg7 h,Xu,Xc]
 have e1:(((UInt8.ofNat (x.toNat % 250+1)).toNat:Nat):Int)=x.tmod 250+1:=by
  rw [UInt8.toNat_ofNat',Int.tmod_eq_emod_of_nonneg h0];omega
 have e2:(((UInt8.ofNat (x.toNat / 250+1)).toNat:Nat):Int)=x.tdiv 250+1:=by
  rw [UInt8.toNat_ofNat',Int.tdiv_eq_ediv_of_nonneg h0];omega
 simp only [Xw,Va,Ls,e1,e2]
 rfl
theorem ZmU {a:Int} (h0:0≤a) (h1:a≤255):IntKind.u8.wrap a=a:=by
 rw [IntKind.wrap_u8];omega
theorem Gw (l:List Int) (hl:l.length≤1000000) (h0:∀x∈l,0≤x∧x≤2000):AF prog 201 [pInts l] (· = .val (.string (LJ l))):=by
 refine AF.of_body 31 func201 rfl ntmps201 (Xa rfl) ?_
 intro w0 M0 vs hl hv
 obtain ⟨v0,rfl⟩:=Wj hl
 clear hl hv
 refine Ze ?_
 (refine xL 2 Za ?_<;>refine Zi ?_)
 (refine LD 5 Lb fun h5 ho5=>?_<;>refine xL 3 Za ?_<;>refine Zc ?_)
 refine Zs (ZE (l:=5) 200 rfl rfl) fun _=>?_
 refine YO 0 rfl fun hlen=>?_
 (refine Zv ?_<;>refine xL 4 Za ?_<;>refine Zc ?_)
 refine ZB (ι:={q:Nat×Value//q.1≤l.length∧q.2.oneCell'=true}) (fun k=>⟨[(0,_,_),(3,k.1.2, .val k.1.2),(4, .int .i64 k.1.1,pInt k.1.1)],[(200,k.1.2, .own 5 1 (TH (l.take k.1.1)).length ((TH (l.take k.1.1)).map Ls))]⟩) (fun k=>l.length-k.1.1) ⟨(0,h5),Xd _,ho5⟩ (fun a w H=>H.weaken ⟨rfl,rfl,rfl,trivial⟩ ⟨rfl,trivial⟩) ?_
 rintro ⟨⟨k,r⟩,hk,hr⟩
 dsimp only
 dsimp only at hk hr
 have hkl:=ZcH (l.take k)
 rw [Xo] at hkl
 refine Ze ?_
 (refine xL 6 Zb (xL 7 Zb (xL 8 (ZR Zp) (xL 9 ZP ?_)))<;>refine Zc ?_)
 refine cX ?_ ?_<;>intro hb9
 · first|exact bN hb9|(
 obtain ⟨x,hx⟩:=Zq (show k<l.length by omega);have e1:=Z7 (f:=pInt) hx;have hx0:=h0 x (Xb hx);(have t1:0≤x.tmod 250∧x.tmod 250<250:=by rw [Int.tmod_eq_emod_of_nonneg hx0.1];omega);(have t2:0≤x.tdiv 250∧x.tdiv 250≤8:=by rw [Int.tdiv_eq_ediv_of_nonneg hx0.1];omega);refine nav ?_;(refine ZY (fun i=>([]:List Nat).elem i) [] kR ?_<;>refine xD 0 12 rfl Zb ?_<;>refine xD 1 13 rfl Zb ?_<;>refine xD 2 14 rfl Zb ?_<;>refine xD 3 15 rfl (ZI Zp) ?_<;>(refine yD 4 16 rfl (Ya Zg) fun v16 h=>?_;cases h)<;>refine xD 5 17 rfl Zov ?_<;>refine xD 6 18 rfl ZH ?_<;>refine xD 7 19 rfl (Zh8 (hs:=underlying3) (hd:=underlying5) (hw:=ZmU oM oM)) ?_<;>refine xD 8 20 rfl Zb ?_<;>refine xE 9 21 rfl Zb ?_<;>refine xE 10 22 rfl (ZI Zp) ?_<;>(refine yE 11 23 rfl (Ya Zg) fun v23 h=>?_;cases h)<;>refine xE 12 24 rfl (Zox (x.tdiv 250) rfl oM oM) ?_<;>refine xE 13 25 rfl ZH ?_<;>refine xE 14 26 rfl (Zh8 (hs:=underlying3) (hd:=underlying5) (hw:=ZmU oM oM)) ?_<;>(refine Zr 15 kR ?_)<;>(refine Zo rfl fun w9 M9 N9 DQ back=>?_)<;>refine HC (xs:=[_,_,_]) 27 Lb fun h27 ho27=>?_<;>refine Zl (back _ (nrm ?_))<;>(refine Zr 16 kR ?_)<;>(refine Zo rfl fun w9 M9 N9 DQ back=>?_)<;>refine Z1 200 27 28 Lb fun h28 ho28=>?_<;>refine Zl (back _ (nrm ?_))<;>refine xE 17 3 rfl Za ?_<;>refine Yr kR (nav ?_)<;>try dsimp only)
 refine Zs (ZE (l:=28) 200 rfl rfl) fun _=>?_;refine Zs (ZL (l:=200) rfl (Zjm _ hx hx0.1 hx0.2)) fun _=>?_;(refine Zv ?_<;>refine xL 10 Zb (xL 11 ZH (xL 4 Za ?_))<;>refine Zc ?_)
 refine Zm (
  ⟨(k+1,h28),Zf hx,ho28⟩
  ) (by dsimp only;omega) ⟨rfl,rfl,rfl,trivial⟩ ⟨rfl,trivial⟩)
 · first|exact bN hb9|(
 refine Ze ?_;(refine xL 29 Zb (xL 30 (Zit 200 underlying170 underlying5 underlying9) (xL 2 Za ?_))<;>refine Zc ?_)
 refine Zy (results201) rfl ?_;rw [Xk oM];rfl)
theorem Wo:AggT prog 188 3=true:=by kernel_rfl
theorem Kt:FldT prog 188 1 1=true:=by kernel_rfl
theorem YS:FldT prog 188 2 2=true:=by kernel_rfl
theorem R4:WR prog 188=some ((.agg #[(.int .i64 0),(.slice none 0 0),(.slice none 0 0)]),([0,1,2]:List Nat).map fun o=>(o,1)):=by kernel_rfl
theorem Gb:ZeroT prog 188 (.agg #[(.int .i64 0),(.slice none 0 0),(.slice none 0 0)]):=by unfold ZeroT;kernel_rfl
section
variable {α:Type}
def R6 (f:α→ByteArray) (o:List α) (x:α):Nat:=if posK f o (f x)<o.length then posK f o (f x)+1 else 0
theorem ζx (f:α→ByteArray) (o:List α) (x:α):(Kk (skv (YN f 1 o)) (.string (f x))).getD (.int .i64 0)= .int .i64 (R6 f o x:Nat):=by
 rw [Zbp,LY]
 unfold R6
 by_cases h:posK f o (f x)<o.length
 · rw [US h,US h,Nat.add_comm];rfl
 · rw [UR h,UR h];rfl
theorem ZcI {f:α→ByteArray} {o:List α} {x:α} (h:¬posK f o (f x)<o.length):K' (skv (YN f 1 o)) (.string (f x)) (.int .i64 ((o.length+1:Nat):Int))=skv (YN f 1 (o++[x])):=by
 have:=PO f x o 1 h
 rw [Nat.add_comm] at this
 rw [Hz,this]
end
theorem ZnG {o:List (List Int)} {x:List Int} (h:∀l∈o,∀s∈l,0≤s∧s≤2000) (hx:∀s∈x,0≤s∧s≤2000):posK LJ o (LJ x)=posK id o x:=G3 fun l hl=>Zcn (h l hl) hx
theorem SetOk.bd2 {a:Aut} (ha:AOk a) {l:List Int} (h:SetOk a l):∀s∈l,0≤s∧s≤2000:=fun s hs=>by have:=h.1 s hs;have:=ha.n1;omega
def ZoG (a:Aut) (v:Value) (q:PV) (h:List (Nat×Ent)):Prop:=
 (∃(t:Tab) (hF V1:Value),hF.oneCell'=true∧K4 a=some t∧v= .tuple [V1, .bool true].toArray∧q= .tup [.agg [pInt (t.m:Nat), .val hF, .sl t.rows.length (t.rows.map K7)],ZK true]∧h=[(1000,hF, .own 4 1 t.fin.length (t.fin.map ZK))])∨
 (K4 a=none∧(∃V1:Value,v= .tuple [V1, .bool false].toArray)∧q= .tup [.agg [pInt 0, .val (.slice none 0 0), .val (.slice none 0 0)],ZK false]∧h=[])
set_option maxHeartbeats 4000000 in
theorem P3 (a : Aut) (h:AOk a) (V:Value):AFh False prog 193 [(0,V,ZN a)] [] (ZoG a):=by
 have hn1:=h.n1
 have hs0:=h.s0
 have hs1:=h.s1
 have hsN:((a.syms.toNat:Nat):Int)=a.syms:=oM
 have hst:=OE h
 refine AFh.of_body 89 func193 rfl ntmps193 (Xa rfl) rfl ?_
 intro w0 M0 N0
 refine Ze ?_
 (refine ZC 1 5 fun h1=>?_<;>refine Zx [(.int .i64 0),(.slice none 0 0),(.slice none 0 0)] 3 2 Gb fun h2=>?_<;>refine xL 3 Za ?_<;>refine Zi ?_)
 (refine xL 12 (Zd 1 Z3) ?_<;>(refine yL 13 (Zj 1 Zg) fun v13 h=>?_;cases h)<;>refine xL 14 (ZM R4) ?_<;>refine Zx [(.int .i64 0),(.slice none 0 0),(.slice none 0 0)] 3 4 Gb fun h4=>?_<;>refine ZD 4 Wo ?_<;>refine Zc ?_)
 refine Zs (WY (l:=4) [pInt a.syms, .own 4 1 0 [], .own 36 1 0 []] rfl rfl (fun i p p' h1 h2=>by
  match i with
  |0=>cases h1;cases h2;exact .inl rfl
  |1=>cases h1;cases h2;exact .inr ⟨rfl,_,_,rfl⟩
  |2=>cases h1;cases h2;exact .inr ⟨rfl,_,_,rfl⟩
  |i+3=>simp at h2)) fun _=>?_
 refine Zs (Ws (l:=4) (l':=302) (j:=1) rfl rfl rfl rfl) fun i=>?_
 obtain ⟨v302,ho302⟩:=i
 refine Zs (Ws (l:=4) (l':=301) (j:=2) rfl rfl rfl rfl) fun i=>?_
 obtain ⟨v301,ho301⟩:=i
 dsimp only [List.set]
 (refine Zv ?_<;>(refine yL 15 (Zu 1 Zh) fun v15 h=>?_;cases h)<;>refine xL 16 (Zd 1 Z4) ?_<;>(refine yL 17 (Zj 1 Zz) fun v17 h=>?_;cases h)<;>(refine cO 18 (cA call70 (Dv a a.start h h.st)) fun v18 ho18=>?_;refine Zt (En.freeze (l:=18) (t:=18) rfl rfl) fun _=>?_;rw [ZV _ _ _ rfl])<;>refine ZO (kk:=1) 19 YU fun h19 ho19=>?_<;>refine xL 5 Za ?_<;>refine Zc ?_)
 refine Zs (ZE (l:=19) 303 rfl rfl) fun _=>?_
 obtain ⟨x0,hx0⟩:∃x0,x0=YR a a.start:=⟨_,rfl⟩
 rw [←hx0] at hst ⊢
 have hst2:=hst.len h
 (refine Zv ?_<;>refine GM 20 fun h20 ho20=>?_<;>refine xL 6 Za ?_<;>refine Zi ?_)
 (refine xL 21 Zb (xL 22 Zb ?_)<;>refine xL 23 (Yi (i:=0) 303 Z') ?_<;>(refine yL 24 (Zj 303 Zz) fun v24 h=>?_;cases h)<;>(refine cS 25 (cA call201 (Gw x0 oM (hst.bd2 h))) fun v25 h=>?_;cases h)<;>(refine LF 20 W6 ?_;rw [show K' [] (.string (LJ x0)) (.int .i64 1)=skv (YN LJ 1 [x0]) from rfl])<;>refine Zc ?_)
 refine Zs (ZE (l:=20) 304 rfl rfl) fun _=>?_
 (refine Zv ?_<;>refine xL 7 Za ?_<;>refine Zc ?_)
 refine ZB (ι:={q:Nat×Value×Value×Value×List (List Int)×List (List Nat)//(WP a).upto x0 q.1=some (q.2.2.2.2.1,q.2.2.2.2.2)∧q.1≤q.2.2.2.2.1.length∧q.2.1.oneCell'=true∧q.2.2.1.oneCell'=true∧q.2.2.2.1.oneCell'=true}) (fun k=>⟨[(1,_,_),(2,_,_),(3,_,_),(4,_,_),(6,_,_),(5,k.1.2.2.2.1, .val k.1.2.2.2.1),(7, .int .i64 k.1.1,pInt k.1.1)],[(1,_,_),(2,_,_),(304,h20, .omap (skv (YN LJ 1 k.1.2.2.2.2.1))),(4,h4, .own 188 3 1 [pInt a.syms, .val k.1.2.2.1, .val k.1.2.1]),(301,k.1.2.1, .own 36 1 k.1.2.2.2.2.2.length (k.1.2.2.2.2.2.map K7)),(302,k.1.2.2.1, .own 4 1 ((k.1.2.2.2.2.1.take k.1.1).map (WG a)).length (((k.1.2.2.2.2.1.take k.1.1).map (WG a)).map ZK)),(303,k.1.2.2.2.1, .own 36 1 k.1.2.2.2.2.1.length (k.1.2.2.2.2.1.map pInts))]⟩) (fun k=>2000-k.1.1) ⟨(0,v301,v302,h19,[x0],[]),rfl,Xd _,ho301,ho302,ho19⟩ (fun a w H=>H.weaken ⟨rfl,rfl,rfl,rfl,rfl,rfl,rfl,trivial⟩ ⟨rfl,rfl,rfl,rfl,rfl,rfl,rfl,trivial⟩) ?_
 rintro ⟨⟨i,r1,r2,r3,o,rows⟩,hU,hi,hr1,hr2,hr3⟩
 dsimp only
 dsimp only at hU hi hr1 hr2 hr3
 have hU':=hU
 rw [hx0] at hU'
 obtain ⟨hOk,hRl,_⟩:=Eh h hU'
 have hRl:=hRl hi
 have hcap:o.length≤2000:=hOk.cap
 have hOp:=hOk.p
 have hfl:((o.take i).map (WG a)).length≤2000:=by rw [Xe,Xo];omega
 refine Ze ?_
 (refine xL 26 Zb (xL 27 Zb (xL 28 (YH 303 Z') (xL 29 ZP ?_)))<;>refine Zc ?_)
 refine cX ?_ ?_<;>intro hb29
 · first | exact bN hb29|(
 obtain ⟨x,hx⟩:=Zq (show i<o.length by omega);have hxs:=hOp x (Xb hx);have hxl:=hxs.len h;refine Ze ?_;(refine LD 32 Zn fun h32 ho32=>?_<;>refine xL 8 Za ?_<;>refine Zc ?_)
 refine Zs (ZE (l:=32) 305 rfl rfl) fun _=>?_;refine Zs (ZL (l:=305) (p':= .own 3 1 ([]:List Nat).length ((toI []).map pInt)) rfl rfl) fun _=>?_;(refine Zv ?_<;>refine xL 9 Za ?_<;>refine Zc ?_)
 refine ZB (ι:={q:Nat×Value×Value×List (List Int)×List Nat//(WP a).row i x o q.1=some (q.2.2.2.1,q.2.2.2.2)∧q.1≤a.syms.toNat∧q.2.1.oneCell'=true∧q.2.2.1.oneCell'=true}) (fun k=>⟨[(1,_,_),(2,_,_),(3,_,_),(4,_,_),(6,_,_),(7,_,_),(5,k.1.2.1, .val k.1.2.1),(8,k.1.2.2.1, .val k.1.2.2.1),(9, .int .i64 k.1.1,pInt k.1.1)],[(1,_,_),(2,_,_),(4,_,_),(301,_,_),(302,_,_),(303,k.1.2.1, .own 36 1 k.1.2.2.2.1.length (k.1.2.2.2.1.map pInts)),(304,h20, .omap (skv (YN LJ 1 k.1.2.2.2.1))),(305,k.1.2.2.1, .own 3 1 k.1.2.2.2.2.length ((toI k.1.2.2.2.2).map pInt))]⟩) (fun k=>a.syms.toNat-k.1.1) ⟨(0,r3,h32,o,[]),rfl,Xd _,hr3,ho32⟩ (fun a w H=>H.weaken ⟨rfl,rfl,rfl,rfl,rfl,rfl,rfl,rfl,rfl,trivial⟩ ⟨rfl,rfl,rfl,rfl,rfl,rfl,rfl,rfl,trivial⟩) ?_;rintro ⟨⟨s,r3',hR,o',r⟩,hW,hs,hr3',hRo⟩;dsimp only;dsimp only at hW hs hr3' hRo;obtain ⟨hMt,hpr,hrl,_⟩:=hOk.toMet.row (fun s _=>Sx h s x) (show s≤(WP a).m from hs) hW;have hcap':o'.length≤2000:=hMt.cap;have hx':=Kd hpr hx;have hil:=Zf hx';have hrtl:=Wq r;refine Ze ?_;(refine xL 33 Zb (xL 34 (Zd 1 Z3) ?_)<;>(refine yL 35 (Zj 1 Zg) fun v35 h=>?_;cases h)<;>refine xL 36 ZP ?_<;>refine Zc ?_)
 refine cX ?_ ?_<;>intro hb36
 · first | exact bN hb36|(
 have hset:=Sx h (s:Nat) x;obtain ⟨set,hse⟩:∃set,set=YJ a (s:Nat) x:=⟨_,rfl⟩;rw [←hse] at hset;have hsl:=hset.len h;have hkid:=ZnG (fun l hl=>(hMt.p l hl).bd2 h) (hset.bd2 h);have e1:=Z7 (f:=pInts) hx';have hlook:=ζx LJ o' set;refine nav ?_;(refine ZY (fun i=>([]:List Nat).elem i) [1,303] kR ?_<;>(refine yD 0 39 rfl (Zu 1 Zh) fun v39 h=>?_;cases h)<;>refine xD 1 40 rfl Zb ?_<;>refine xD 2 41 rfl Zb ?_<;>refine xD 3 42 rfl (Yi 303 Z') ?_<;>(refine yD 4 43 rfl (Zj 303 Zz) fun v43 h=>?_;cases h)<;>refine xE 5 44 rfl Zb ?_<;>(refine Zr 6 kR ?_)<;>(refine Zo rfl fun w9 M9 N9 DQ back=>?_)<;>(refine cO 45 (cA call71 (Zez a x s h hxs.1)) fun v45 ho45=>?_;refine Zt (En.freeze (l:=45) (t:=45) rfl rfl) fun _=>?_;rw [ZV _ _ _ rfl,←hse])<;>refine Zl (back _ (nrm ?_))<;>refine xE 7 10 rfl Za ?_<;>refine Yr kR (nav ?_)<;>try dsimp only)
 (refine Zv ?_<;>refine xL 46 Zb (xL 47 Zb ?_)<;>(refine cS 48 (cA call201 (Gw set oM (hset.bd2 h))) fun v48 h=>?_;cases h)<;>refine xL 49 (HB 304 W6 (hk:=Tu _ _) (hu:=hlook)) ?_<;>refine xL 11 Za ?_<;>refine Zi ?_)
 (refine xL 50 Zb (xL 51 Yd ?_)<;>refine Zc ?_)
 refine cX ?_ ?_<;>intro hb51
 · first | exact bN hb51|(
 have hnew:¬posK LJ o' (LJ set)<o'.length:=fun hh=>by
  unfold R6 at hb51;rw [US hh] at hb51;omega
 have hnew2:¬posK (WP a).key o' ((WP a).key ((WP a).step i x s))<o'.length:=by
  show ¬posK id o' (YJ a (s:Nat) x)<o'.length;rw [←hse,←hkid];exact hnew
 refine Ze ?_;(refine xL 52 Zb (xL 53 (YH 303 Z') (xL 54 Y9 ?_))<;>refine Zc ?_)
 refine cX ?_ ?_<;>intro hb54
 · first|exact bN hb54|(
 refine Ze ?_;(refine xL 55 (ZM R4) ?_<;>refine ZD 2 Wo ?_<;>refine xL 3 Za ?_<;>refine Zc ?_)
 refine Hg (k:=3) 2 [] kR (results193) rfl rfl rfl (Xa rfl) dC rfl trivial fun V=> .inr ⟨?_,⟨V,rfl⟩,rfl,rfl⟩;have hv:=PP hnew2 (show (WP a).cap≤o'.length by show 2000≤o'.length;omega);have h1:=Srch.row_fails (Srch.row_out hW hv) (show s+1≤(WP a).m by show s+1≤a.syms.toNat;omega);have h2:=Srch.all_none (Srch.upto_out hU hx h1) (show i+1≤(WP a).cap by show i+1≤2000;omega);unfold K4;rw [←hx0,h2];rfl)
 · first |exact bN hb54|(
 refine Ze ?_;(refine xL 56 Zb (xL 57 Zb ?_)<;>refine ZO (kk:=1) 58 YU fun h58 ho58=>?_<;>(refine Z1 303 58 59 YU fun h59 ho59=>?_;refine Zt (ZE (l:=59) 303 rfl rfl) fun _=>?_;refine Zt (ZL (l:=303) rfl (Zey _ o' set)) fun _=>?_)<;>refine xL 5 Za ?_<;>refine Zi ?_)
 (refine xL 60 Zb (xL 61 (YH 303 Z') (xL 11 Za ?_))<;>refine Zi ?_)
 (refine xL 62 Zb (xL 63 Zb ?_)<;>(refine cS 64 (cA call201 (Gw set oM (hset.bd2 h))) fun v64 h=>?_;cases h)<;>refine xL 65 Zb ?_<;>(refine LF 304 W6 ?_;rw [show (((o'++[set]).length:Nat):Int)=((o'.length+1:Nat):Int) by rw [Xc];rfl,ZcI hnew])<;>refine Zi ?_)
 (refine xL 66 Zb (xL 67 Zb (xL 68 KD ?_))<;>refine ZO (kk:=1) 69 Zn fun h69 ho69=>?_<;>(refine Z1 305 69 70 Zn fun h70 ho70=>?_;refine Zt (ZE (l:=70) 305 rfl rfl) fun _=>?_;first|refine Zt (ZL (l:=305) rfl ((congrArg (fun z:Int=>PV.own 3 1 (r.length+1) ((toI r).map pInt++[pInt z])) (show ((o'.length+1:Nat):Int)-1=(o'.length:Nat) by omega)).trans (Kh _ r o'.length))) fun _=>?_|refine Zt (ZL (l:=305) rfl ((congrArg (fun z:Int=>PV.own 3 1 (r.length+1) ((toI r).map pInt++[pInt z])) (show ((posK id o' set+1:Nat):Int)-1=(posK id o' set:Nat) by omega)).trans (Kh _ r (posK id o' set)))) fun _=>?_)<;>refine xL 8 Za ?_<;>refine Zi ?_)
 (refine xL 37 Zb (xL 38 ZH (xL 9 Za ?_))<;>refine Zc ?_)
 first
  | (exact Zm (
      ⟨(s+1,h59,h70,o'++[set],r++[o'.length]),(by dsimp only;rw [hse];exact Srch.row_snoc hW (Wc hnew2 (show o'.length<2000 by omega))),(by dsimp only;omega),ho59,ho70⟩
      ) (by dsimp only;omega) ⟨rfl,rfl,rfl,rfl,rfl,rfl,rfl,rfl,rfl,trivial⟩ ⟨rfl,rfl,rfl,rfl,rfl,rfl,rfl,rfl,trivial⟩)
  | (exact Zm (
      ⟨(s+1,r3',h70,o',r++[posK id o' set]),(by dsimp only;rw [hnum2];exact Srch.row_snoc hW (Wb hold2)),(by dsimp only;omega),hr3',ho70⟩
      ) (by dsimp only;omega) ⟨rfl,rfl,rfl,rfl,rfl,rfl,rfl,rfl,rfl,trivial⟩ ⟨rfl,rfl,rfl,rfl,rfl,rfl,rfl,rfl,trivial⟩)))
 · first |exact bN hb51|(
 have hold:posK LJ o' (LJ set)<o'.length:=by
  rcases XD (posK LJ o' (LJ set)) o'.length with hh|hh
  · exact hh
  · unfold R6 at hb51;rw [UR oM] at hb51;exact UT rfl hb51
 have hold2:posK (WP a).key o' ((WP a).key ((WP a).step i x s))<o'.length:=by
  show posK id o' (YJ a (s:Nat) x)<o'.length;rw [←hse,←hkid];exact hold
 have hnum:((R6 LJ o' set:Nat):Int)-1=(posK (WP a).key o' ((WP a).key ((WP a).step i x s)):Nat):=by
  show ((R6 LJ o' set:Nat):Int)-1=(posK id o' (YJ a (s:Nat) x):Nat);unfold R6;rw [US hold,hkid,hse];omega
 rw [show ((R6 LJ o' set:Nat):Int)=((posK id o' set+1:Nat):Int) by unfold R6;rw [US hold,hkid]];(have hnum2:posK id o' set=posK (WP a).key o' ((WP a).key ((WP a).step i x s)):=by rw [hse];rfl);refine Ze ?_;(refine xL 66 Zb (xL 67 Zb (xL 68 KD ?_))<;>refine ZO (kk:=1) 69 Zn fun h69 ho69=>?_<;>(refine Z1 305 69 70 Zn fun h70 ho70=>?_;refine Zt (ZE (l:=70) 305 rfl rfl) fun _=>?_;first|refine Zt (ZL (l:=305) rfl ((congrArg (fun z:Int=>PV.own 3 1 (r.length+1) ((toI r).map pInt++[pInt z])) (show ((o'.length+1:Nat):Int)-1=(o'.length:Nat) by omega)).trans (Kh _ r o'.length))) fun _=>?_|refine Zt (ZL (l:=305) rfl ((congrArg (fun z:Int=>PV.own 3 1 (r.length+1) ((toI r).map pInt++[pInt z])) (show ((posK id o' set+1:Nat):Int)-1=(posK id o' set:Nat) by omega)).trans (Kh _ r (posK id o' set)))) fun _=>?_)<;>refine xL 8 Za ?_<;>refine Zi ?_)
 (refine xL 37 Zb (xL 38 ZH (xL 9 Za ?_))<;>refine Zc ?_)
 first
  | (exact Zm (
      ⟨(s+1,h59,h70,o'++[set],r++[o'.length]),(by dsimp only;rw [hse];exact Srch.row_snoc hW (Wc hnew2 (show o'.length<2000 by omega))),(by dsimp only;omega),ho59,ho70⟩
      ) (by dsimp only;omega) ⟨rfl,rfl,rfl,rfl,rfl,rfl,rfl,rfl,rfl,trivial⟩ ⟨rfl,rfl,rfl,rfl,rfl,rfl,rfl,rfl,trivial⟩)
  | (exact Zm (
      ⟨(s+1,r3',h70,o',r++[posK id o' set]),(by dsimp only;rw [hnum2];exact Srch.row_snoc hW (Wb hold2)),(by dsimp only;omega),hr3',ho70⟩
      ) (by dsimp only;omega) ⟨rfl,rfl,rfl,rfl,rfl,rfl,rfl,rfl,rfl,trivial⟩ ⟨rfl,rfl,rfl,rfl,rfl,rfl,rfl,rfl,trivial⟩)))
 · first|exact bN hb36|(
 have hsm:s=a.syms.toNat:=oM;subst hsm;have hU2:=Srch.upto_snoc hU hx hW;have e1:=Z7 (f:=pInts) hx';have htk:o'.take (i+1)=(o.take i)++[x]:=by
  rw [ZT hx'];obtain ⟨e,rfl⟩:=hpr;rw [Ua hi]
 refine nav ?_;refine Zs (En.freeze (l:=305) (t:=8) rfl rfl) fun _=>?_;rw [ZV _ _ _ (by rw [Wq])];(refine Zv ?_<;>refine xL 71 (Zd 4 YS) ?_<;>(refine yL 72 (Zj 4 Yz) fun v72 h=>?_;cases h)<;>refine xL 73 Zb ?_<;>refine ZO (kk:=1) 74 YU fun h74 ho74=>?_<;>(refine Z1 301 74 75 YU fun h75 ho75=>?_;refine Zt (ZE (l:=75) 301 rfl rfl) fun _=>?_;refine Zt (ZL (l:=301) rfl (Ra _ rows r)) fun _=>?_)<;>refine xL 76 (Zd 4 YS) ?_<;>refine YM 4 Yz TL ?_<;>refine Zc ?_)
 (refine ZY (fun i=>([11]:List Nat).elem i) [1,4,303] kR ?_<;>refine xD 0 77 rfl (Zd 4 Kt) ?_<;>(refine yD 1 78 rfl (Zj 4 YL) fun v78 h=>?_;cases h)<;>(refine yD 2 79 rfl (Zu 1 Zh) fun v79 h=>?_;cases h)<;>refine xD 3 80 rfl Zb ?_<;>refine xE 4 81 rfl Zb ?_<;>refine xE 5 82 rfl (Yi 303 Z') ?_<;>(refine yE 6 83 rfl (Zj 303 Zz) fun v83 h=>?_;cases h)<;>(refine Zr 7 kR ?_)<;>(refine WL (d:=84) rfl (cA call72 (ZeA a x)) fun v84 h=>?_;cases h)<;>(refine Zr 8 kR ?_)<;>(refine Zo rfl fun w9 M9 N9 DQ back=>?_)<;>refine ZO (kk:=1) 85 We fun h85 ho85=>?_<;>refine Zl (back _ (nrm ?_))<;>(refine Zr 9 kR ?_)<;>(refine Zo rfl fun w9 M9 N9 DQ back=>?_)<;>refine Z1 302 85 86 We fun h86 ho86=>?_<;>refine Zl (back _ (nrm ?_))<;>refine xE 10 87 rfl (Zd 4 Kt) ?_<;>(refine Zr 11 kR ?_)<;>(refine Ko rfl rfl kR fun DQ back=>?_)<;>refine YM 4 YL TM ?_<;>refine Zl (back _ (nav ?_))<;>try dsimp only)
 refine Zs (ZE (l:=86) 302 rfl rfl) fun _=>?_;refine Zs (ZL (l:=302) rfl (TN _ ((o.take i).map (WG a)) (WG a x))) fun _=>?_;rw [show ((o.take i).map (WG a))++[WG a x]=(o'.take (i+1)).map (WG a) by rw [htk,Xu];rfl];(refine Zv ?_<;>refine xL 30 Zb (xL 31 ZH (xL 7 Za ?_))<;>refine Zc ?_)
 refine Zm (
  ⟨(i+1,h75,h86,r3',o',rows++[r]),hU2,(by dsimp only;omega),ho75,ho86,hr3'⟩
  ) (by dsimp only;omega) ⟨rfl,rfl,rfl,rfl,rfl,rfl,rfl,trivial⟩ ⟨rfl,rfl,rfl,rfl,rfl,rfl,rfl,trivial⟩))
 · first|exact bN hb29|(
 have hio:i=o.length:=oM;subst hio;have hone2:En.one (PV.val r2)=true:=hr2;refine nav ?_;refine Zs (Z6 (l:=4) (l':=301) (j:=2) rfl rfl rfl rfl) fun _=>?_;rw [Lz _ _ _ rfl];refine Zs (ZE (l:=302) 1000 rfl rfl) fun _=>?_;rw [VN];(refine Zv ?_<;>(refine yL 88 (Zu (k:=3) (ps:=[pInt a.syms,PV.val r2,PV.sl rows.length (rows.map K7)]) 4 kR) fun v88 h=>?_;cases h)<;>refine ZD 2 Wo ?_<;>refine xL 3 Za ?_<;>refine Zc ?_)
 refine Hg (k:=3) 2 [(1000,r2,PV.own 4 1 (o.map (WG a)).length ((o.map (WG a)).map ZK))] kR (results193) rfl rfl rfl (Xa rfl) dC rfl ⟨rfl,trivial⟩ fun V=> .inl ⟨⟨a.syms.toNat,rows,o.map (WG a)⟩,r2,V,hr2,?_,rfl,?_,rfl⟩
 · unfold K4;rw [←hx0,Srch.all_some hU (Xg _) (show o.length≤(WP a).cap from hcap)];rfl
 · dsimp only;rw [hsN];rfl)
theorem Ku:FldT prog 188 0 0=true:=by kernel_rfl
def Ez (t:Tab):PV:= .agg [pInt (t.m:Nat), .sl t.fin.length (t.fin.map ZK), .sl t.rows.length (t.rows.map K7)]
def Ry (l:List Nat):ByteArray:=LJ (toI l)
theorem ZlH {o:List (List Nat)} {x:List Nat} (h:∀l∈o,∀y∈toI l,0≤y∧y≤2000) (hx:∀y∈toI x,0≤y∧y≤2000):posK Ry o (Ry x)=posK id o x:=G3 fun l hl=>by
 unfold Ry
 rw [Zcn (h l hl) hx,Zfy];rfl
set_option maxHeartbeats 4000000 in
theorem ZaP (t : Tab) (ht:TOk t):AF prog 235 [Ez t] (· = .own 3 1 t.rows.length (vec t.rows.length fun s=>pInt (Yu t s:Nat))):=by
 have hn1:=ht.n1
 have hfl:=ht.fl
 have hm1:=ht.m1
 refine AF.of_body 89 func235 rfl ntmps235 (Xa rfl) ?_
 intro w0 M0 vs hl hv
 obtain ⟨v0,rfl⟩:=Wj hl
 clear hl hv
 refine Ze ?_
 (refine ZC 1 3 fun h1=>?_<;>refine xL 2 Za ?_<;>refine Zi ?_)
 (refine xL 14 (Zd 1 YS) ?_<;>(refine yL 15 (Zj 1 Yz) fun v15 h=>?_;cases h)<;>refine xL 16 (ZR Z') (xL 3 Za ?_)<;>refine Zi ?_)
 (refine xL 17 Zb ?_<;>refine Jn 18 Zn fun h18 ho18=>?_<;>refine xL 4 Za ?_<;>refine Zc ?_)
 refine Zs (ZE (l:=18) 303 rfl rfl) fun _=>?_
 rw [Rb _ (Ln t.fin)]
 (refine Zv ?_<;>refine xL 5 Za ?_<;>refine Zc ?_)
 refine ZB (ι:={s:Nat//s≤t.rows.length}) (fun k=>⟨[(1,_,_),(3,_,_),(4,_,_),(5, .int .i64 k.1,pInt k.1)],[(1,_,_),(303,h18, .own 3 1 t.rows.length (vec t.rows.length fun j=>pInt (T5 k.1 (Ln t.fin) j)))]⟩) (fun k=>t.rows.length-k.1) ⟨0,Xd _⟩ (fun a w H=>H.weaken ⟨rfl,rfl,rfl,rfl,trivial⟩ ⟨rfl,rfl,trivial⟩) ?_
 rintro ⟨s,hs⟩
 dsimp only
 refine Ze ?_
 (refine xL 19 Zb (xL 20 Zb (xL 21 ZP ?_))<;>refine Zc ?_)
 refine cX ?_ ?_<;>intro hb21
 · first |exact bN hb21|(
 obtain ⟨b,hb⟩:=Zq (show s<t.fin.length by omega);have e1:=Z7 (f:=ZK) hb;have e2:=KE t.rows.length (fun j=>pInt (T5 s (Ln t.fin) j));refine Ze ?_;(refine xL 24 (Zd 1 Kt) ?_<;>(refine yL 25 (Zj 1 YL) fun v25 h=>?_;cases h)<;>refine xL 26 Zb (xL 27 (ZI Yy) ?_)<;>(refine yL 28 (Ya Wa) fun v28 h=>?_;cases h)<;>refine Zc ?_)
 refine cX ?_ ?_<;>intro hb28
 · first|exact bN hb28|(
 refine Ze ?_;(refine xL 29 Zb (xL 30 Zb (xL 31 (Yi 303 Zp) ?_))<;>refine YM 303 Zg Wl ?_<;>refine Zi ?_)
 (refine xL 22 Zb (xL 23 ZH (xL 5 Za ?_))<;>refine Zc ?_)
 try rw [Kx (x:=1) (by unfold Ln;rw [hb];show (1:Int)=((if b=true then 1 else 0:Nat):Int);rw [US hb28];rfl)]
 try rw [Rc (by unfold Ln;rw [hb];show (if b=true then 1 else 0)=0;rw [UR (by simpa using hb28)])]
 refine Zm (
  ⟨s+1,oM⟩
  ) (by dsimp only;omega) ⟨rfl,rfl,rfl,rfl,trivial⟩ ⟨rfl,rfl,trivial⟩)
 · first|exact bN hb28|(
 refine Ze ?_;(refine xL 22 Zb (xL 23 ZH (xL 5 Za ?_))<;>refine Zc ?_)
 try rw [Kx (x:=1) (by unfold Ln;rw [hb];show (1:Int)=((if b=true then 1 else 0:Nat):Int);rw [US hb28];rfl)]
 try rw [Rc (by unfold Ln;rw [hb];show (if b=true then 1 else 0)=0;rw [UR (by simpa using hb28)])]
 refine Zm (
  ⟨s+1,oM⟩
  ) (by dsimp only;omega) ⟨rfl,rfl,rfl,rfl,trivial⟩ ⟨rfl,rfl,trivial⟩))
 · first | exact bN hb21|(
 have hsn:s=t.rows.length:=oM;subst hsn;rw [Re];refine Ze ?_;(refine xL 6 Za ?_<;>refine Zc ?_)
 refine ZB (ι:={q:Value×(Nat→Nat)×Nat×Nat//COk t.rows.length q.2.1 q.2.2.1∧L6 t.rows q.2.2.2 q.2.1 q.2.2.1=Yu t∧t.rows.length+2≤q.2.2.2+q.2.2.1∧q.1.oneCell'=true}) (fun k=>⟨[(1,_,_),(3,_,_),(4,k.1.1, .val k.1.1),(6, .int .i64 k.1.2.2.1,pInt k.1.2.2.1)],[(1,_,_),(303,k.1.1, .own 3 1 t.rows.length (vec t.rows.length fun j=>pInt (k.1.2.1 j:Nat)))]⟩) (fun k=>t.rows.length+2-k.1.2.2.1) ⟨(h18,Ln t.fin,0,t.rows.length+2),COk.start _ _,rfl,by dsimp only;omega,ho18⟩ (fun a w H=>H.weaken ⟨rfl,rfl,rfl,rfl,trivial⟩ ⟨rfl,rfl,trivial⟩) ?_;rintro ⟨⟨hv3,c,cnt,fuel⟩,hC,hit,hfu,hv3o⟩;dsimp only;dsimp only at hC hit hfu hv3o;have hle:=hC.le;have hbd:=hC.bd;obtain ⟨f,rfl⟩:∃f,fuel=f+1:=⟨fuel-1,oM⟩;have hgr:=hC.grow;have hnx:=hC.next
 refine Ze ?_;(refine GM 32 fun h32 ho32=>?_<;>refine xL 7 Za ?_<;>refine Zi ?_)
 (refine xL 33 Zb ?_<;>refine Jn 34 Zn fun h34 ho34=>?_<;>refine xL 8 Za ?_<;>refine Zi ?_)
 (refine xL 9 Za ?_<;>refine Zc ?_)
 refine Zs (ZE (l:=32) 304 rfl rfl) fun _=>?_;refine Zs (ZE (l:=34) 305 rfl rfl) fun _=>?_;rw [Rb _ (KF t.rows c)];refine Zs (ZL (l:=304) (p':= .omap (skv (YN Ry 1 (YF (Ym t.rows c) 0)))) rfl rfl) fun _=>?_;(refine Zv ?_<;>refine xL 10 Za ?_<;>refine Zc ?_)
 refine ZB (ι:={s:Nat//s≤t.rows.length}) (fun k=>⟨[(1,_,_),(3,_,_),(4,_,_),(6,_,_),(7,_,_),(8,_,_),(9, .int .i64 (YF (Ym t.rows c) k.1).length,pInt (YF (Ym t.rows c) k.1).length),(10, .int .i64 k.1,pInt k.1)],[(1,_,_),(303,_,_),(304,h32, .omap (skv (YN Ry 1 (YF (Ym t.rows c) k.1)))),(305,h34, .own 3 1 t.rows.length (vec t.rows.length fun j=>pInt (T5 k.1 (KF t.rows c) j)))]⟩) (fun k=>t.rows.length-k.1) ⟨0,Xd _⟩ (fun a w H=>H.weaken ⟨rfl,rfl,rfl,rfl,rfl,rfl,rfl,rfl,trivial⟩ ⟨rfl,rfl,rfl,rfl,trivial⟩) ?_;rintro ⟨s,hs⟩;dsimp only;refine Ze ?_;(refine xL 35 Zb (xL 36 Zb (xL 37 ZP ?_))<;>refine Zc ?_)
 refine cX ?_ ?_<;>intro hb37
 · first | exact bN hb37|(
 have hlt:s<t.rows.length:=oM;obtain ⟨r,hr⟩:=Zq hlt;have e1:=Z7 (f:=K7) hr;have hrl:=ht.rl r (Xb hr);have hrt:=ht.to r (Xb hr);have htl:=Wq r;have e2:=Kq (fun j=>pInt (c j:Nat)) hlt;have e3:=KE t.rows.length (fun j=>pInt (T5 s (KF t.rows c) j));have hkl:=Sy (Ym t.rows c) s;refine Ze ?_;(refine xL 40 Zb (xL 41 Zb (xL 42 (Yi 303 Zp) ?_))<;>(refine yL 43 (Zj 303 Zg) fun v43 h=>?_;cases h)<;>refine ZO (kk:=1) 44 Zn fun h44 ho44=>?_<;>refine xL 11 Za ?_<;>refine Zc ?_)
 refine Zs (ZE (l:=44) 306 rfl rfl) fun _=>?_;refine Zs (ZL (l:=306) (p':= .own 3 1 (SJ c s r 0).length ((toI (SJ c s r 0)).map pInt)) rfl rfl) fun _=>?_;(refine Zv ?_<;>refine xL 12 Za ?_<;>refine Zc ?_)
 refine ZB (ι:={q:Nat×Value//q.1≤r.length∧q.2.oneCell'=true}) (fun k=>⟨[(1,_,_),(3,_,_),(4,_,_),(6,_,_),(7,_,_),(8,_,_),(9,_,_),(10,_,_),(11,k.1.2, .val k.1.2),(12, .int .i64 k.1.1,pInt k.1.1)],[(1,_,_),(303,_,_),(304,_,_),(305,_,_),(306,k.1.2, .own 3 1 (SJ c s r k.1.1).length ((toI (SJ c s r k.1.1)).map pInt))]⟩) (fun k=>r.length-k.1.1) ⟨(0,h44),Xd _,ho44⟩ (fun a w H=>H.weaken ⟨rfl,rfl,rfl,rfl,rfl,rfl,rfl,rfl,rfl,rfl,trivial⟩ ⟨rfl,rfl,rfl,rfl,rfl,trivial⟩) ?_;rintro ⟨⟨u,hv⟩,hu,hvo⟩;dsimp only;dsimp only at hu hvo;have hkpl:=ZcD c s r u hu;refine Ze ?_;(refine xL 45 Zb (xL 46 (Zd 1 Ku) ?_)<;>(refine yL 47 (Zj 1 Zg) fun v47 h=>?_;cases h)<;>refine xL 48 ZP ?_<;>refine Zc ?_)
 refine cX ?_ ?_<;>intro hb48
 · first|exact bN hb48|(
 obtain ⟨x,hx⟩:=Zq (show u<r.length by omega);have hxn:=hrt x (Xb hx);(have e4:((toI r).map pInt)[u*1]? =some (pInt (x:Nat)):=by rw [Xp,Xh];unfold toI;rw [Xh,hx];rfl);have e5:=Kq (fun j=>pInt (c j:Nat)) hxn;refine Ze ?_;(refine xL 51 Zb (xL 52 Zb (xL 53 (Zd 1 YS) ?_))<;>(refine yL 54 (Zj 1 Yz) fun v54 h=>?_;cases h)<;>refine xL 55 Zb (xL 56 (ZI Z') ?_)<;>(refine yL 57 (Ya Zz) fun v57 h=>?_;cases h)<;>refine xL 58 Zb (xL 59 (ZI Zp) ?_)<;>(refine yL 60 (Ya Zg) fun v60 h=>?_;cases h)<;>refine xL 61 (Yi 303 Zp) ?_<;>(refine yL 62 (Zj 303 Zg) fun v62 h=>?_;cases h)<;>refine ZO (kk:=1) 63 Zn fun h63 ho63=>?_<;>(refine Z1 306 63 64 Zn fun h64 ho64=>?_;refine Zt (ZE (l:=64) 306 rfl rfl) fun _=>?_;refine Zt (ZL (l:=306) rfl ((Kh _ (SJ c s r u) (c x)).trans (by rw [ζq hx]))) fun _=>?_)<;>refine xL 11 Za ?_<;>refine Zi ?_)
 (refine xL 49 Zb (xL 50 ZH (xL 12 Za ?_))<;>refine Zc ?_)
 refine Zm (
  ⟨(u+1,h64),Zf hx,ho64⟩
  ) (by dsimp only;omega) ⟨rfl,rfl,rfl,rfl,rfl,rfl,rfl,rfl,rfl,rfl,trivial⟩ ⟨rfl,rfl,rfl,rfl,rfl,trivial⟩)
 · first | exact bN hb48|(
 have hK:=ζr (c:=c) hr (show r.length≤u by omega);rw [hK];have hkb:=ZaK ht hbd hlt;(have hkl2:(Ym t.rows c s).length≤1000:=by rw [←hK,hkpl];omega);have hid:=ZlH (o:=YF (Ym t.rows c) s) (x:=Ym t.rows c s) (fun l hl=>by obtain ⟨i,hi,rfl⟩:=JO.1 hl;exact ZaK ht hbd oM) hkb;have hlook:=ζx Ry (YF (Ym t.rows c) s) (Ym t.rows c s);refine nav ?_;refine Zs (En.freeze (l:=306) (t:=11) rfl rfl) fun _=>?_;rw [ZV _ _ _ (by rw [Wq])];(refine Zv ?_<;>refine xL 65 Zb (xL 66 Zb ?_)<;>(refine cS 67 (cA call201 (Gw (toI (Ym t.rows c s)) (by rw [Wq];omega) hkb)) fun v67 h=>?_;cases h)<;>refine xL 68 (HB 304 W6 (hk:=Tu _ _) (hu:=hlook)) ?_<;>refine xL 13 Za ?_<;>refine Zi ?_)
 (refine xL 69 Zb (xL 70 Yd ?_)<;>refine Zc ?_)
 refine cX ?_ ?_<;>intro hb70
 · first|exact bN hb70|(
 have hnew:¬posK Ry (YF (Ym t.rows c) s) (Ry (Ym t.rows c s))<(YF (Ym t.rows c) s).length:=fun hh=>by
  unfold R6 at hb70;rw [US hh] at hb70;omega
 have hnew2:=hnew;rw [hid] at hnew2;have hnn:=ζt hlt hnew2;have hff:=Ej hnew2;refine Ze ?_;(refine xL 71 Zb (xL 72 ZH (xL 9 Za ?_))<;>refine Zi ?_)
 (refine xL 73 Zb (xL 13 Za ?_)<;>refine Zi ?_)
 (refine xL 74 Zb (xL 75 Zb ?_)<;>(refine cS 76 (cA call201 (Gw (toI (Ym t.rows c s)) (by rw [Wq];omega) hkb)) fun v76 h=>?_;cases h)<;>refine xL 77 Zb ?_<;>(refine LF 304 W6 ?_;rw [show K' (skv (YN Ry 1 (YF (Ym t.rows c) s))) (.string (LJ (toI (Ym t.rows c s)))) (.int .i64 (((YF (Ym t.rows c) s).length:Int)+1))=skv (YN Ry 1 (YF (Ym t.rows c) (s+1))) by rw [hff];exact ZcI hnew])<;>refine Zi ?_)
 (refine xL 78 Zb (xL 79 Zb (xL 80 Zb (xL 81 KD (xL 82 (Yi 305 Zp) ?_))))<;>refine YM 305 Zg Wl ?_<;>refine Zi ?_)
 (refine xL 38 Zb (xL 39 ZH (xL 10 Za ?_))<;>refine Zc ?_)
 try rw [Kx (x:=((YF (Ym t.rows c) s).length:Int)+1-1) (by rw [hnn];omega)]
 try rw [show (((YF (Ym t.rows c) s).length:Nat):Int)+1=((YF (Ym t.rows c) (s+1)).length:Nat) by rw [hff,Xc];rfl]
 try rw [Kx hnum,←hfo]
 refine Zm (
  ⟨s+1,oM⟩
  ) (by dsimp only;omega) ⟨rfl,rfl,rfl,rfl,rfl,rfl,rfl,rfl,trivial⟩ ⟨rfl,rfl,rfl,rfl,trivial⟩)
 · first|exact bN hb70|(
 have hold:posK Ry (YF (Ym t.rows c) s) (Ry (Ym t.rows c s))<(YF (Ym t.rows c) s).length:=by
  rcases XD (posK Ry (YF (Ym t.rows c) s) (Ry (Ym t.rows c s))) (YF (Ym t.rows c) s).length with hh|hh
  · exact hh
  · unfold R6 at hb70;rw [UR oM] at hb70;exact UT rfl hb70
 have hold2:=hold;rw [hid] at hold2;have hno:=ζs hlt hold2;have hfo:=Ei hold2;(have hnum:((R6 Ry (YF (Ym t.rows c) s) (Ym t.rows c s):Nat):Int)-1=(KF t.rows c s:Nat):=by unfold R6;rw [US hold,hid,hno];omega);(have hnb:R6 Ry (YF (Ym t.rows c) s) (Ym t.rows c s)≤2001:=by unfold R6;rw [US hold];omega);refine Ze ?_;(refine xL 78 Zb (xL 79 Zb (xL 80 Zb (xL 81 KD (xL 82 (Yi 305 Zp) ?_))))<;>refine YM 305 Zg Wl ?_<;>refine Zi ?_)
 (refine xL 38 Zb (xL 39 ZH (xL 10 Za ?_))<;>refine Zc ?_)
 try rw [Kx (x:=((YF (Ym t.rows c) s).length:Int)+1-1) (by rw [hnn];omega)]
 try rw [show (((YF (Ym t.rows c) s).length:Nat):Int)+1=((YF (Ym t.rows c) (s+1)).length:Nat) by rw [hff,Xc];rfl]
 try rw [Kx hnum,←hfo]
 refine Zm (
  ⟨s+1,oM⟩
  ) (by dsimp only;omega) ⟨rfl,rfl,rfl,rfl,rfl,rfl,rfl,rfl,trivial⟩ ⟨rfl,rfl,rfl,rfl,trivial⟩)))
 · first |exact bN hb37|(
 have hsn:s=t.rows.length:=oM;subst hsn;rw [Re];refine nav ?_;refine Zs (ZE (l:=303) 302 rfl rfl) fun _=>?_;refine Zs (ZE (l:=305) 303 rfl rfl) fun _=>?_;(refine Zv ?_<;>refine xL 83 Zb (xL 4 Za ?_)<;>refine Zi ?_)
 (refine xL 84 Zb (xL 85 Zb (xL 86 Yd ?_))<;>refine Zc ?_)
 refine cX ?_ ?_<;>intro hb86
 · first|exact bN hb86|(
 (have hcc:TF t.rows c=cnt:=by unfold TF;omega);refine Ze ?_;(refine xL 87 Zb (xL 2 Za ?_)<;>refine Zc ?_)
 refine W9 303 (results235) rfl rfl ?_;rw [←hit,Ex hcc])
 · first|exact bN hb86|(
 (have hcc:¬TF t.rows c=cnt:=by unfold TF;omega);refine Ze ?_;(refine xL 88 Zb (xL 6 Za ?_)<;>refine Zc ?_)
 refine Zm (
  ⟨(h34,KF t.rows c,TF t.rows c,f),hnx,by dsimp only;rw [←hit,Ey hcc],by dsimp only;omega,ho34⟩
  ) (by have:=hnx.le;dsimp only;omega) ⟨rfl,rfl,rfl,rfl,trivial⟩ ⟨rfl,rfl,trivial⟩)))
def ZcJ (fin:List Bool) (i:Nat):Bool:=(fin[i]?).getD false
def ZnH (t:Tab):Aut:=⟨(t.rows.length:Nat),(t.m:Nat),[0],Yc t.rows.length (ZcJ t.fin),ZZ t.rows⟩
theorem Dy {rows:List (List Nat)} {k:Nat} {r:List Nat} (h:rows[k]? =some r):ZZ (rows.take (k+1))=ZZ (rows.take k)++Yj k r:=by
 rw [ZT h,SA,Xo,X3 (by have:=Zf h;omega)]
theorem EA {i:Nat} {r:List Nat} {s n:Nat} (h:r[s]? =some n):Yj i (r.take (s+1))=Yj i (r.take s)++[⟨(i:Nat),(n:Nat),(s:Nat)⟩]:=by
 rw [ZT h,Kr,Xo,X3 (by have:=Zf h;omega)]
theorem ZcK {rows:List (List Nat)} {m:Nat} (h:∀r∈rows,r.length=m) (k:Nat):(ZZ (rows.take k)).length≤rows.length*m:=by
 rw [RY (rows.take k) fun r hr=>h r (VO hr),Xo]
 exact Vs m (Nat.min_le_right _ _)
set_option maxHeartbeats 4000000 in
theorem Zg8 (t :Tab) (hfl:t.fin.length=t.rows.length) (hrw:∀r∈t.rows,r.length=t.m) (hn1:t.rows.length≤2000) (hm1:t.m≤40):AF prog 236 [Ez t] (· =ZN (ZnH t)):=by
 have hnm:t.rows.length*t.m≤80000:=XL (VD hn1 hm1) dC
 refine AF.of_body 54 func236 rfl ntmps236 (Xa rfl) ?_
 intro w0 M0 vs hl hv
 obtain ⟨v0,rfl⟩:=Wj hl
 clear hl hv
 refine Ze ?_
 (refine ZC 1 3 fun h1=>?_<;>refine Zx [(.int .i64 0),(.int .i64 0),(.slice none 0 0),(.slice none 0 0),(.slice none 0 0)] 5 2 ZJ fun h2=>?_<;>refine Zi ?_)
 (refine xL 6 (Zd 1 YS) ?_<;>(refine yL 7 (Zj 1 Yz) fun v7 h=>?_;cases h)<;>refine xL 8 (ZR Z') (xL 9 (Zd 1 Ku) ?_)<;>(refine yL 10 (Zj 1 Zg) fun v10 h=>?_;cases h)<;>(refine ZO (kk:=1) 11 Zn fun h11 ho11=>?_;refine Zt (En.freeze (l:=11) (t:=11) rfl rfl) fun _=>?_;rw [show share (PV.own 3 1 1 [PV.val (.int .i64 0)])=pInts [0] from rfl])<;>refine xL 12 (ZM ZU) ?_<;>refine Zx [(.int .i64 0),(.int .i64 0),(.slice none 0 0),(.slice none 0 0),(.slice none 0 0)] 5 3 ZJ fun h3=>?_<;>refine ZD 3 Zh ?_<;>refine Zc ?_)
 refine Zs (WY (l:=3) [pInt (t.rows.length:Nat),pInt (t.m:Nat),pInts [0], .own 3 1 0 [], .own 93 3 0 []] rfl rfl (fun i p p' h1 h2=>by
  match i with
  |0=>cases h1;cases h2;exact .inl rfl
  |1=>cases h1;cases h2;exact .inl rfl
  |2=>cases h1;cases h2;exact .inl rfl
  |3=>cases h1;cases h2;exact .inr ⟨rfl,_,_,rfl⟩
  |4=>cases h1;cases h2;exact .inr ⟨rfl,_,_,rfl⟩
  |i+5=>simp at h2)) fun _=>?_
 refine Zs (Ws (l:=3) (l':=301) (j:=3) rfl rfl rfl rfl) fun i=>?_
 obtain ⟨v301,ho301⟩:=i
 refine Zs (Ws (l:=3) (l':=302) (j:=4) rfl rfl rfl rfl) fun i=>?_
 obtain ⟨v302,ho302⟩:=i
 dsimp only [List.set]
 (refine Zv ?_<;>refine xL 4 Za ?_<;>refine Zc ?_)
 refine ZB (ι:={q:Nat×Value×Value//q.1≤t.rows.length∧q.2.1.oneCell'=true∧q.2.2.oneCell'=true}) (fun k=>⟨[(1,_,_),(2,_,_),(3,_,_),(4, .int .i64 k.1.1,pInt k.1.1)],[(1,_,_),(2,_,_),(3,h3, .own 39 5 1 [pInt (t.rows.length:Nat),pInt (t.m:Nat),pInts [0], .val k.1.2.1, .val k.1.2.2]),(301,k.1.2.1, .own 3 1 (Yc k.1.1 (ZcJ t.fin)).length ((Yc k.1.1 (ZcJ t.fin)).map pInt)),(302,k.1.2.2, .own 93 3 (ZZ (t.rows.take k.1.1)).length ((ZZ (t.rows.take k.1.1)).flatMap cMv))]⟩) (fun k=>t.rows.length-k.1.1) ⟨(0,v301,v302),Xd _,ho301,ho302⟩ (fun a w H=>H.weaken ⟨rfl,rfl,rfl,rfl,trivial⟩ ⟨rfl,rfl,rfl,rfl,rfl,trivial⟩) ?_
 rintro ⟨⟨i,hF,hM⟩,hi,hFo,hMo⟩
 dsimp only
 dsimp only at hi hFo hMo
 have hll:=Ly i (ZcJ t.fin)
 have hml:=ZcK hrw i
 refine Ze ?_
 (refine xL 13 Zb (xL 14 (Zd 1 YS) ?_)<;>(refine yL 15 (Zj 1 Yz) fun v15 h=>?_;cases h)<;>refine xL 16 (ZR Z') (xL 17 ZP ?_)<;>refine Zc ?_)
 refine cX ?_ ?_<;>intro hb17
 · first | exact bN hb17|(
 obtain ⟨b,hb⟩:=Zq (show i<t.fin.length by omega);have e2:=Z7 (f:=ZK) hb;obtain ⟨row,hrow⟩:=Zq (show i<t.rows.length by omega);have e3:=Z7 (f:=K7) hrow;have hrl:=hrw row (Xb hrow);have hrtl:=Wq row;(have hfa:ZcJ t.fin i=b:=by unfold ZcJ;rw [hb];rfl);have hL1:=Wz i (ZcJ t.fin);rw [hfa] at hL1;refine Ze ?_;(refine xL 20 (Zd 1 Kt) ?_<;>(refine yL 21 (Zj 1 YL) fun v21 h=>?_;cases h)<;>refine xL 22 Zb (xL 23 (ZI Yy) ?_)<;>(refine yL 24 (Ya Wa) fun v24 h=>?_;cases h)<;>refine Zc ?_)
 refine cX ?_ ?_<;>intro hb24
 · first | exact bN hb24|(
 rw [US hb24] at hL1;refine Ze ?_;(refine xL 25 (Zd 3 ZX) ?_<;>(refine yL 26 (Zj 3 Zz) fun v26 h=>?_;cases h)<;>refine xL 27 Zb ?_<;>refine ZO (kk:=1) 28 Zn fun h28 ho28=>?_<;>(refine Z1 301 28 29 Zn fun h29 ho29=>?_;refine Zt (ZE (l:=29) 301 rfl rfl) fun _=>?_;refine Zt (ZL (l:=301) rfl (KV _ (Yc i (ZcJ t.fin)) i)) fun _=>?_)<;>refine xL 30 (Zd 3 ZX) ?_<;>refine YM 3 Zz Wd ?_<;>refine Zi ?_)
 (refine xL 5 Za ?_<;>refine Zc ?_)
 rw [←hL1];rw [show ZZ (t.rows.take i)=ZZ (t.rows.take i)++Yj i (row.take 0) from (Xq _).symm];refine ZB (ι:={q:Nat×Value//q.1≤t.m∧q.2.oneCell'=true}) (fun k=>⟨[(1,_,_),(2,_,_),(3,_,_),(4,_,_),(5, .int .i64 k.1.1,pInt k.1.1)],[(1,_,_),(2,_,_),(301,_,_),(3,h3, .own 39 5 1 [pInt (t.rows.length:Nat),pInt (t.m:Nat),pInts [0],_, .val k.1.2]),(302,k.1.2, .own 93 3 (ZZ (t.rows.take i)++Yj i (row.take k.1.1)).length ((ZZ (t.rows.take i)++Yj i (row.take k.1.1)).flatMap cMv))]⟩) (fun k=>t.m-k.1.1) ⟨(0,hM),Xd _,hMo⟩ (fun a w H=>H.weaken ⟨rfl,rfl,rfl,rfl,rfl,trivial⟩ ⟨rfl,rfl,rfl,rfl,rfl,trivial⟩) ?_;rintro ⟨⟨s,hM'⟩,hs,hM'o⟩;dsimp only;dsimp only at hs hM'o;have hrm:=JB i (row.take s);rw [Xo] at hrm;(have hal:(ZZ (t.rows.take i)++Yj i (row.take s)).length≤90000:=by rw [Xc];omega);refine Ze ?_;(refine xL 31 Zb (xL 32 (Zd 1 Ku) ?_)<;>(refine yL 33 (Zj 1 Zg) fun v33 h=>?_;cases h)<;>refine xL 34 ZP ?_<;>refine Zc ?_)
 refine cX ?_ ?_<;>intro hb34
 · first|exact bN hb34|(
 obtain ⟨y,hy⟩:=Zq (show s<row.length by omega);(have e4:((toI row).map pInt)[s*1]? =some (pInt (y:Nat)):=by rw [Xp,Xh];unfold toI;rw [Xh,hy];rfl);refine nav ?_;(refine ZY (fun i=>([16]:List Nat).elem i) [1,3] kR ?_<;>refine xD 0 37 rfl (Zd 3 Zw) ?_<;>(refine yD 1 38 rfl (Zj 3 ZA) fun v38 h=>?_;cases h)<;>refine xD 2 39 rfl Zb ?_<;>refine xD 3 40 rfl (Zd 1 YS) ?_<;>(refine yD 4 41 rfl (Zj 1 Yz) fun v41 h=>?_;cases h)<;>refine xD 5 42 rfl Zb ?_<;>refine xD 6 43 rfl (ZI Z') ?_<;>(refine yD 7 44 rfl (Ya Zz) fun v44 h=>?_;cases h)<;>refine xD 8 45 rfl Zb ?_<;>refine xD 9 46 rfl (ZI Zp) ?_<;>(refine yD 10 47 rfl (Ya Zg) fun v47 h=>?_;cases h)<;>refine xE 11 48 rfl Zb ?_<;>refine xE 12 49 rfl (ZM YX) ?_<;>(refine Zr 13 kR ?_)<;>(refine Zo rfl fun w9 M9 N9 DQ back=>?_)<;>refine YD 50 ZS fun h50 ho50=>?_<;>refine Zl (back _ (nrm ?_))<;>(refine Zr 14 kR ?_)<;>(refine Zo rfl fun w9 M9 N9 DQ back=>?_)<;>refine Z1 302 50 51 ZS fun h51 ho51=>?_<;>refine Zl (back _ (nrm ?_))<;>refine xE 15 52 rfl (Zd 3 Zw) ?_<;>(refine Zr 16 kR ?_)<;>(refine Ko rfl rfl kR fun DQ back=>?_)<;>refine YM 3 ZA YB ?_<;>refine Zl (back _ (nav ?_))<;>try dsimp only)
 refine Zs (ZE (l:=51) 302 rfl rfl) fun _=>?_;refine Zs (ZL (l:=302) rfl (WO _ (ZZ (t.rows.take i)++Yj i (row.take s)) ⟨(i:Nat),(y:Nat),(s:Nat)⟩)) fun _=>?_;rw [Xy,←EA hy];(refine Zv ?_<;>refine xL 35 Zb (xL 36 ZH (xL 5 Za ?_))<;>refine Zc ?_)
 refine Zm (
  ⟨(s+1,h51),(by dsimp only;omega),ho51⟩
  ) (by dsimp only;omega) ⟨rfl,rfl,rfl,rfl,rfl,trivial⟩ ⟨rfl,rfl,rfl,rfl,rfl,trivial⟩)
 · first |exact bN hb34|(
 have hsm:s=t.m:=oM;subst hsm;rw [Xk (show row.length≤t.m by omega),←Dy hrow];refine Ze ?_;(refine xL 18 Zb (xL 19 ZH (xL 4 Za ?_))<;>refine Zc ?_)
 first
  | (exact Zm (
      ⟨(i+1,h29,hM'),(by dsimp only;omega),ho29,hM'o⟩
      ) (by dsimp only;omega) ⟨rfl,rfl,rfl,rfl,trivial⟩ ⟨rfl,rfl,rfl,rfl,rfl,trivial⟩)
  | (exact Zm (
      ⟨(i+1,hF,hM'),(by dsimp only;omega),hFo,hM'o⟩
      ) (by dsimp only;omega) ⟨rfl,rfl,rfl,rfl,trivial⟩ ⟨rfl,rfl,rfl,rfl,rfl,trivial⟩)))
 · first | exact bN hb24|(
 rw [UR (by simpa using hb24),Xq] at hL1;refine Ze ?_;(refine xL 5 Za ?_<;>refine Zc ?_)
 rw [←hL1];rw [show ZZ (t.rows.take i)=ZZ (t.rows.take i)++Yj i (row.take 0) from (Xq _).symm];refine ZB (ι:={q:Nat×Value//q.1≤t.m∧q.2.oneCell'=true}) (fun k=>⟨[(1,_,_),(2,_,_),(3,_,_),(4,_,_),(5, .int .i64 k.1.1,pInt k.1.1)],[(1,_,_),(2,_,_),(301,_,_),(3,h3, .own 39 5 1 [pInt (t.rows.length:Nat),pInt (t.m:Nat),pInts [0],_, .val k.1.2]),(302,k.1.2, .own 93 3 (ZZ (t.rows.take i)++Yj i (row.take k.1.1)).length ((ZZ (t.rows.take i)++Yj i (row.take k.1.1)).flatMap cMv))]⟩) (fun k=>t.m-k.1.1) ⟨(0,hM),Xd _,hMo⟩ (fun a w H=>H.weaken ⟨rfl,rfl,rfl,rfl,rfl,trivial⟩ ⟨rfl,rfl,rfl,rfl,rfl,trivial⟩) ?_;rintro ⟨⟨s,hM'⟩,hs,hM'o⟩;dsimp only;dsimp only at hs hM'o;have hrm:=JB i (row.take s);rw [Xo] at hrm;(have hal:(ZZ (t.rows.take i)++Yj i (row.take s)).length≤90000:=by rw [Xc];omega);refine Ze ?_;(refine xL 31 Zb (xL 32 (Zd 1 Ku) ?_)<;>(refine yL 33 (Zj 1 Zg) fun v33 h=>?_;cases h)<;>refine xL 34 ZP ?_<;>refine Zc ?_)
 refine cX ?_ ?_<;>intro hb34
 · first|exact bN hb34|(
 obtain ⟨y,hy⟩:=Zq (show s<row.length by omega);(have e4:((toI row).map pInt)[s*1]? =some (pInt (y:Nat)):=by rw [Xp,Xh];unfold toI;rw [Xh,hy];rfl);refine nav ?_;(refine ZY (fun i=>([16]:List Nat).elem i) [1,3] kR ?_<;>refine xD 0 37 rfl (Zd 3 Zw) ?_<;>(refine yD 1 38 rfl (Zj 3 ZA) fun v38 h=>?_;cases h)<;>refine xD 2 39 rfl Zb ?_<;>refine xD 3 40 rfl (Zd 1 YS) ?_<;>(refine yD 4 41 rfl (Zj 1 Yz) fun v41 h=>?_;cases h)<;>refine xD 5 42 rfl Zb ?_<;>refine xD 6 43 rfl (ZI Z') ?_<;>(refine yD 7 44 rfl (Ya Zz) fun v44 h=>?_;cases h)<;>refine xD 8 45 rfl Zb ?_<;>refine xD 9 46 rfl (ZI Zp) ?_<;>(refine yD 10 47 rfl (Ya Zg) fun v47 h=>?_;cases h)<;>refine xE 11 48 rfl Zb ?_<;>refine xE 12 49 rfl (ZM YX) ?_<;>(refine Zr 13 kR ?_)<;>(refine Zo rfl fun w9 M9 N9 DQ back=>?_)<;>refine YD 50 ZS fun h50 ho50=>?_<;>refine Zl (back _ (nrm ?_))<;>(refine Zr 14 kR ?_)<;>(refine Zo rfl fun w9 M9 N9 DQ back=>?_)<;>refine Z1 302 50 51 ZS fun h51 ho51=>?_<;>refine Zl (back _ (nrm ?_))<;>refine xE 15 52 rfl (Zd 3 Zw) ?_<;>(refine Zr 16 kR ?_)<;>(refine Ko rfl rfl kR fun DQ back=>?_)<;>refine YM 3 ZA YB ?_<;>refine Zl (back _ (nav ?_))<;>try dsimp only)
 refine Zs (ZE (l:=51) 302 rfl rfl) fun _=>?_;refine Zs (ZL (l:=302) rfl (WO _ (ZZ (t.rows.take i)++Yj i (row.take s)) ⟨(i:Nat),(y:Nat),(s:Nat)⟩)) fun _=>?_;rw [Xy,←EA hy];(refine Zv ?_<;>refine xL 35 Zb (xL 36 ZH (xL 5 Za ?_))<;>refine Zc ?_)
 refine Zm (
  ⟨(s+1,h51),(by dsimp only;omega),ho51⟩
  ) (by dsimp only;omega) ⟨rfl,rfl,rfl,rfl,rfl,trivial⟩ ⟨rfl,rfl,rfl,rfl,rfl,trivial⟩)
 · first |exact bN hb34|(
 have hsm:s=t.m:=oM;subst hsm;rw [Xk (show row.length≤t.m by omega),←Dy hrow];refine Ze ?_;(refine xL 18 Zb (xL 19 ZH (xL 4 Za ?_))<;>refine Zc ?_)
 first
  | (exact Zm (
      ⟨(i+1,h29,hM'),(by dsimp only;omega),ho29,hM'o⟩
      ) (by dsimp only;omega) ⟨rfl,rfl,rfl,rfl,trivial⟩ ⟨rfl,rfl,rfl,rfl,rfl,trivial⟩)
  | (exact Zm (
      ⟨(i+1,hF,hM'),(by dsimp only;omega),hFo,hM'o⟩
      ) (by dsimp only;omega) ⟨rfl,rfl,rfl,rfl,trivial⟩ ⟨rfl,rfl,rfl,rfl,rfl,trivial⟩))))
 · first|exact bN hb17|(
 have hio:i=t.rows.length:=oM;subst hio;rw [VN];refine nav ?_;refine Zs (Z6 (l:=3) (l':=301) (j:=3) rfl rfl rfl rfl) fun _=>?_;refine Zs (Z6 (l:=3) (l':=302) (j:=4) rfl rfl rfl rfl) fun _=>?_;rw [ZV _ _ _ rfl,Kj _ _ _ rfl];(refine Zv ?_<;>(refine yL 53 (Zu 3 Zh) fun v53 h=>?_;cases h)<;>refine ZD 2 Zh ?_<;>refine Zc ?_)
 exact Py (k:=5) 2 kR (results236) rfl rfl (Xa rfl) dC rfl rfl)
theorem ZcL {rows:List (List Nat)}:∀{f:Nat} {c:Nat→Nat} {k s:Nat},s<rows.length→L6 rows (f+1) c k s<rows.length
 | f, c,k,s,hs=>by
   have h1:KF rows c s<rows.length:=Uw (Zi9 hs) (Sy _ _);rw [L6];split
   · exact h1
   · cases f with
     |zero=>exact h1
     |succ f=>exact ZcL hs
theorem ZfG (t:Tab) {s:Nat} (hs:s<t.rows.length):Yu t s<t.rows.length:=ZcL hs
def EB (t:Tab) (x:Nat):Bool:=(t.fin[x]?).getD false
def Lo (t:Tab) (o:List Nat) (j:Nat):Nat:=if posK (Yu t) o j<o.length then posK (Yu t) o j+1 else 0
theorem Zg9 (t:Tab) (j:Nat):Lo t [0] j=if j=Yu t 0 then 1 else 0:=by
 unfold Lo
 rw [posK,posK]
 by_cases h:Yu t 0=j
 · rw [US h,US sM,US h.symm]
 · rw [UR h,UR sM,UR fun e=>h e.symm]
theorem Zha {α κ:Type} [DecidableEq κ] {f:α→κ} {o:List α} {x:α} {k:κ} (h:¬posK f o k<o.length) (hk:f x≠k):¬posK f (o++[x]) k<(o++[x]).length:=fun hh=>by
 obtain ⟨y,hy,e⟩:=S4.1 hh
 rcases Xt.1 hy with hy|hy
 · exact h (S4.2 ⟨y,hy,e⟩)
 · rw [Xl.1 hy] at e;exact hk e
theorem ζy {t:Tab} {o:List Nat} {x:Nat} (h:¬posK (Yu t) o (Yu t x)<o.length) (j:Nat):Lo t (o++[x]) j=if j=Yu t x then o.length+1 else Lo t o j:=by
 unfold Lo
 by_cases e:j=Yu t x
 · subst e;rw [US rfl,PN h,US sM]
 · rw [UR e];by_cases h2:posK (Yu t) o j<o.length
   · rw [US h2,Sl _ h2,US (by rw [Xc];omega)]
   · rw [UR h2,UR (Zha h2 fun e2=>e e2.symm)]
theorem RE {f g:Nat→Bool}:∀n:Nat,(∀i,i<n→f i=g i)→Yc n f=Yc n g
 |0,_=>rfl
 |n+1,h=>by rw [Wz,Wz,RE n fun i hi=>h i oM,h n oM]
theorem ZnI {t:Tab} {o:List Nat} {rows:List (List Nat)} (hl:rows.length=o.length):ZnH ⟨t.m,rows,o.map (EB t)⟩=Ww t (o,rows):=by
 unfold ZnH Ww
 dsimp only
 rw [hl,RE o.length fun i hi=>by
  obtain ⟨x,hx⟩:=Zq hi;show ((o.map (EB t))[i]?).getD false=JC t o i;unfold JC;rw [Xh,hx];rfl]
def ZnJ (t:Tab) (p:PV):Prop:=(∃A,Wg t=some A∧p= .tup [ZN A,ZK true])∨(Wg t=none∧p= .tup [KS,ZK false])
set_option maxHeartbeats 4000000 in
theorem EC (t : Tab) (ht:TOk t):AF prog 195 [Ez t] (ZnJ t):=by
 have hn1:=ht.n1
 have hfl:=ht.fl
 have hm1:=ht.m1
 have hpos:=ht.pos
 refine AF.of_body 111 func195 rfl ntmps195 (Xa rfl) ?_
 intro w0 M0 vs hl hv
 obtain ⟨v0,rfl⟩:=Wj hl
 clear hl hv
 refine Ze ?_
 (refine ZC 1 3 fun h1=>?_<;>refine Zx [(.int .i64 0),(.int .i64 0),(.slice none 0 0),(.slice none 0 0),(.slice none 0 0)] 5 2 ZJ fun h2=>?_<;>refine xL 3 Za ?_<;>refine Zi ?_)
 ((refine yL 12 (Zu 1 Wo) fun v12 h=>?_;cases h)<;>(refine cO 13 (cA call235 (ZaP t ht)) fun v13 ho13=>?_;refine Zt (En.freeze (l:=13) (t:=13) rfl rfl) fun _=>?_;rw [show share (.own 3 1 t.rows.length (vec t.rows.length fun s=>pInt (Yu t s:Nat)))= .sl t.rows.length (vec t.rows.length fun s=>pInt (Yu t s:Nat)) by rw [share,Yl,Hl];rfl])<;>refine xL 4 Za ?_<;>refine Zi ?_)
 (refine xL 14 (Zd 1 YS) ?_<;>(refine yL 15 (Zj 1 Yz) fun v15 h=>?_;cases h)<;>refine xL 16 (ZR Z') ?_<;>refine Jn 17 Zn fun h17 ho17=>?_<;>refine xL 5 Za ?_<;>refine Zi ?_)
 (refine ZO (kk:=1) 18 Zn fun h18 ho18=>?_<;>refine xL 6 Za ?_<;>refine Zc ?_)
 rw [show List.replicate t.rows.length (PV.val (.int .i64 0))=vec t.rows.length (fun _=>pInt 0) from GW _ _]
 refine Zs (ZE (l:=18) 303 rfl rfl) fun _=>?_
 refine Zs (ZL (l:=303) (p':= .own 3 1 ([0]:List Nat).length ((toI [0]).map pInt)) rfl rfl) fun _=>?_
 have e1:=Kq (fun s=>pInt (Yu t s:Nat)) hpos
 have hc0:=ZfG t hpos
 have e2:=KE t.rows.length (fun _=>pInt 0)
 (refine Zv ?_<;>refine xL 19 Zb (xL 20 Zb ?_)<;>refine xL 21 (ZI (i:=0) Zp) ?_<;>(refine yL 22 (Ya Zg) fun v22 h=>?_;cases h)<;>refine xL 23 (Yi 17 Zp) ?_<;>refine YM 17 Zg Wl ?_<;>refine Zc ?_)
 rw [show (vec t.rows.length fun _=>pInt 0).set (Yu t 0*1) (PV.val (.int .i64 1))=vec t.rows.length fun j=>pInt (Lo t [0] j:Nat) by rw [Xp,PW];exact Jz fun j _=>by rw [Zg9];by_cases e:j=Yu t 0<;>simp [e]]
 (refine Zv ?_<;>refine xL 24 (Zd 1 Ku) ?_<;>(refine yL 25 (Zj 1 Zg) fun v25 h=>?_;cases h)<;>refine xL 26 (ZM R4) ?_<;>refine Zx [(.int .i64 0),(.slice none 0 0),(.slice none 0 0)] 3 7 Gb fun h7=>?_<;>refine ZD 7 Wo ?_<;>refine Zc ?_)
 refine Zs (WY (l:=7) [pInt (t.m:Nat), .own 4 1 0 [], .own 36 1 0 []] rfl rfl (fun i p p' h1 h2=>by
  match i with
  |0=>cases h1;cases h2;exact .inl rfl
  |1=>cases h1;cases h2;exact .inr ⟨rfl,_,_,rfl⟩
  |2=>cases h1;cases h2;exact .inr ⟨rfl,_,_,rfl⟩
  |i+3=>simp at h2)) fun _=>?_
 refine Zs (Ws (l:=7) (l':=302) (j:=1) rfl rfl rfl rfl) fun i=>?_
 obtain ⟨v302,ho302⟩:=i
 refine Zs (Ws (l:=7) (l':=301) (j:=2) rfl rfl rfl rfl) fun i=>?_
 obtain ⟨v301,ho301⟩:=i
 dsimp only [List.set]
 (refine Zv ?_<;>refine xL 8 Za ?_<;>refine Zc ?_)
 refine ZB (ι:={q:Nat×Value×Value×Value×List Nat×List (List Nat)//(minW t).upto 0 q.1=some (q.2.2.2.2.1,q.2.2.2.2.2)∧q.1≤q.2.2.2.2.1.length∧q.2.1.oneCell'=true∧q.2.2.1.oneCell'=true∧q.2.2.2.1.oneCell'=true}) (fun k=>⟨[(1,_,_),(2,_,_),(3,_,_),(4,_,_),(5,_,_),(7,_,_),(6,k.1.2.2.2.1, .val k.1.2.2.2.1),(8, .int .i64 k.1.1,pInt k.1.1)],[(1,_,_),(2,_,_),(7,h7, .own 188 3 1 [pInt (t.m:Nat), .val k.1.2.1, .val k.1.2.2.1]),(301,k.1.2.2.1, .own 36 1 k.1.2.2.2.2.2.length (k.1.2.2.2.2.2.map K7)),(302,k.1.2.1, .own 4 1 ((k.1.2.2.2.2.1.take k.1.1).map (EB t)).length (((k.1.2.2.2.2.1.take k.1.1).map (EB t)).map ZK)),(303,k.1.2.2.2.1, .own 3 1 k.1.2.2.2.2.1.length ((toI k.1.2.2.2.2.1).map pInt)),(17,h17, .own 3 1 t.rows.length (vec t.rows.length fun j=>pInt (Lo t k.1.2.2.2.2.1 j:Nat)))]⟩) (fun k=>2000-k.1.1) ⟨(0,v302,v301,h18,[0],[]),rfl,Xd _,ho302,ho301,ho18⟩ (fun a w H=>H.weaken ⟨rfl,rfl,rfl,rfl,rfl,rfl,rfl,rfl,trivial⟩ ⟨rfl,rfl,rfl,rfl,rfl,rfl,rfl,trivial⟩) ?_
 rintro ⟨⟨i,hF,hM,hO,o,rows⟩,hU,hi,hFo,hMo,hOo⟩
 dsimp only
 dsimp only at hU hi hFo hMo hOo
 obtain ⟨hOk,hRl,_⟩:=ZaC ht hU
 have hRl:=hRl hi
 have hcap:o.length≤t.rows.length:=hOk.cap
 have hrw:=hOk.len
 have htl:=Wq o
 have hfll:((o.take i).map (EB t)).length≤2000:=by rw [Xe,Xo];omega
 refine Ze ?_
 (refine xL 27 Zb (xL 28 Zb (xL 29 (YH 303 Zp) (xL 30 ZP ?_)))<;>refine Zc ?_)
 refine cX ?_ ?_<;>intro hb30
 · first | exact bN hb30|(
 obtain ⟨x,hx⟩:=Zq (show i<o.length by omega);have hxn:x<t.rows.length:=hOk.p x (Xb hx);obtain ⟨b,hb⟩:=Zq (show x<t.fin.length by omega);have e2:=Z7 (f:=ZK) hb;obtain ⟨row,hrow⟩:=Zq hxn;have e3:=Z7 (f:=K7) hrow;have hrl:=ht.rl row (Xb hrow);have hrt:=ht.to row (Xb hrow);have hrtl:=Wq row;(have hfa:EB t x=b:=by unfold EB;rw [hb];rfl);refine Ze ?_;(refine LD 33 Zn fun h33 ho33=>?_<;>refine xL 9 Za ?_<;>refine Zc ?_)
 refine Zs (ZE (l:=33) 305 rfl rfl) fun _=>?_;refine Zs (ZL (l:=305) (p':= .own 3 1 ([]:List Nat).length ((toI []).map pInt)) rfl rfl) fun _=>?_;(refine Zv ?_<;>refine xL 10 Za ?_<;>refine Zc ?_)
 refine ZB (ι:={q:Nat×Value×Value×List Nat×List Nat//(minW t).row i x o q.1=some (q.2.2.2.1,q.2.2.2.2)∧q.1≤t.m∧q.2.1.oneCell'=true∧q.2.2.1.oneCell'=true}) (fun k=>⟨[(1,_,_),(2,_,_),(3,_,_),(4,_,_),(5,_,_),(7,_,_),(8,_,_),(6,k.1.2.1, .val k.1.2.1),(9,k.1.2.2.1, .val k.1.2.2.1),(10, .int .i64 k.1.1,pInt k.1.1)],[(1,_,_),(2,_,_),(7,_,_),(301,_,_),(302,_,_),(303,k.1.2.1, .own 3 1 k.1.2.2.2.1.length ((toI k.1.2.2.2.1).map pInt)),(305,k.1.2.2.1, .own 3 1 k.1.2.2.2.2.length ((toI k.1.2.2.2.2).map pInt)),(17,h17, .own 3 1 t.rows.length (vec t.rows.length fun j=>pInt (Lo t k.1.2.2.2.1 j:Nat)))]⟩) (fun k=>t.m-k.1.1) ⟨(0,hO,h33,o,[]),rfl,Xd _,hOo,ho33⟩ (fun a w H=>H.weaken ⟨rfl,rfl,rfl,rfl,rfl,rfl,rfl,rfl,rfl,rfl,trivial⟩ ⟨rfl,rfl,rfl,rfl,rfl,rfl,rfl,rfl,trivial⟩) ?_;rintro ⟨⟨s,hO',hR,o',r⟩,hW,hs,hO'o,hRo⟩;dsimp only;dsimp only at hW hs hO'o hRo;obtain ⟨hMt,hpr,hrl2,_⟩:=hOk.toMet.row (fun s _=>KB ht) (show s≤(minW t).m from hs) hW;have hcap':o'.length≤t.rows.length:=hMt.cap;have htl':=Wq o';have htr:=Wq r;have hx':=Kd hpr hx;(have e1:((toI o').map pInt)[i*1]? =some (pInt (x:Nat)):=by rw [Xp,Xh];unfold toI;rw [Xh,hx'];rfl);have hio':=Zf hx';refine Ze ?_;(refine xL 34 Zb (xL 35 (Zd 1 Ku) ?_)<;>(refine yL 36 (Zj 1 Zg) fun v36 h=>?_;cases h)<;>refine xL 37 ZP ?_<;>refine Zc ?_)
 refine cX ?_ ?_<;>intro hb37
 · first | exact bN hb37|(
 obtain ⟨y,hy⟩:=Zq (show s<row.length by omega);have hyn:=hrt y (Xb hy);(have e4:((toI row).map pInt)[s*1]? =some (pInt (y:Nat)):=by rw [Xp,Xh];unfold toI;rw [Xh,hy];rfl);have e5:=Kq (fun s=>pInt (Yu t s:Nat)) hyn;have hyc:=ZfG t hyn;have e6:=Kq (fun j=>pInt (Lo t o' j:Nat)) hyc;have e7:=KE t.rows.length (fun j=>pInt (Lo t o' j:Nat));have hto:(minW t).step i x s=y:=RX hrow hy;refine nav ?_;(refine ZY (fun i=>([]:List Nat).elem i) [1,303] kR ?_<;>refine xD 0 40 rfl (Zd 1 YS) ?_<;>(refine yD 1 41 rfl (Zj 1 Yz) fun v41 h=>?_;cases h)<;>refine xD 2 42 rfl Zb ?_<;>refine xD 3 43 rfl Zb ?_<;>refine xD 4 44 rfl (Yi 303 Zp) ?_<;>(refine yD 5 45 rfl (Zj 303 Zg) fun v45 h=>?_;cases h)<;>refine xD 6 46 rfl (ZI Z') ?_<;>(refine yD 7 47 rfl (Ya Zz) fun v47 h=>?_;cases h)<;>refine xE 8 48 rfl Zb ?_<;>refine xE 9 49 rfl (ZI Zp) ?_<;>(refine yE 10 50 rfl (Ya Zg) fun v50 h=>?_;cases h)<;>refine xE 11 11 rfl Za ?_<;>refine Yr kR (nav ?_)<;>try dsimp only)
 (refine Zv ?_<;>refine xL 51 Zb (xL 52 Zb (xL 53 Zb (xL 54 (ZI Zp) ?_)))<;>(refine yL 55 (Ya Zg) fun v55 h=>?_;cases h)<;>refine xL 56 (Yi 17 Zp) ?_<;>(refine yL 57 (Zj 17 Zg) fun v57 h=>?_;cases h)<;>refine xL 58 Yd ?_<;>refine Zc ?_)
 refine cX ?_ ?_<;>intro hb58
 · first |exact bN hb58|(
 have hnew:¬posK (Yu t) o' (Yu t y)<o'.length:=fun hh=>by
  unfold Lo at hb58;rw [US hh] at hb58;omega
 (have hnew2:¬posK (minW t).key o' ((minW t).key ((minW t).step i x s))<o'.length:=by rw [hto];exact hnew);have hroom:=S7 ht hMt (show (minW t).step i x s<t.rows.length by rw [hto];exact hyn) hnew2;have e8:(vec t.rows.length fun j=>pInt (Lo t o' j:Nat)).set (Yu t y*1) (pInt ((o'++[y]).length:Nat))=vec t.rows.length fun j=>pInt (Lo t (o'++[y]) j:Nat):=by
  rw [Xp,PW];exact Jz fun j _=>by
   rw [ζy hnew];by_cases e:j=Yu t y
   · rw [US e,US e,Xc];rfl
   · rw [UR e,UR e]
 have e9:=Kq (fun j=>pInt (Lo t (o'++[y]) j:Nat)) hyc;(have hnv:Lo t (o'++[y]) (Yu t y)=o'.length+1:=by rw [ζy hnew,US rfl]);refine Ze ?_;(refine xL 59 Zb (xL 60 Zb ?_)<;>refine ZO (kk:=1) 61 Zn fun h61 ho61=>?_<;>(refine Z1 303 61 62 Zn fun h62 ho62=>?_;refine Zt (ZE (l:=62) 303 rfl rfl) fun _=>?_;refine Zt (ZL (l:=303) rfl (Kh _ o' y)) fun _=>?_)<;>refine xL 6 Za ?_<;>refine Zi ?_)
 (refine xL 63 Zb (xL 64 Zb (xL 65 Zb (xL 66 (ZI Zp) ?_)))<;>(refine yL 67 (Ya Zg) fun v67 h=>?_;cases h)<;>refine xL 68 Zb (xL 69 (YH 303 Zp) (xL 70 (Yi 17 Zp) ?_))<;>refine YM 17 Zg Wl ?_<;>refine Zc ?_)
 rw [e8];(refine Zv ?_<;>refine xL 71 Zb (xL 72 Zb (xL 73 Zb (xL 74 Zb (xL 75 (ZI Zp) ?_))))<;>(refine yL 76 (Ya Zg) fun v76 h=>?_;cases h)<;>refine xL 77 (Yi 17 Zp) ?_<;>(refine yL 78 (Zj 17 Zg) fun v78 h=>?_;cases h)<;>refine xL 79 KD ?_<;>refine ZO (kk:=1) 80 Zn fun h80 ho80=>?_<;>(refine Z1 305 80 81 Zn fun h81 ho81=>?_;refine Zt (ZE (l:=81) 305 rfl rfl) fun _=>?_;first|refine Zt (ZL (l:=305) rfl ((congrArg (fun z:Int=>PV.own 3 1 (r.length+1) ((toI r).map pInt++[pInt z])) (show ((Lo t (o'++[y]) (Yu t y):Nat):Int)-1=(o'.length:Nat) by rw [hnv];omega)).trans (Kh _ r o'.length))) fun _=>?_|refine Zt (ZL (l:=305) rfl ((congrArg (fun z:Int=>PV.own 3 1 (r.length+1) ((toI r).map pInt++[pInt z])) (show ((Lo t o' (Yu t y):Nat):Int)-1=(posK (Yu t) o' (Yu t y):Nat) by rw [hnv];omega)).trans (Kh _ r (posK (Yu t) o' (Yu t y))))) fun _=>?_)<;>refine xL 9 Za ?_<;>refine Zi ?_)
 (refine xL 38 Zb (xL 39 ZH (xL 10 Za ?_))<;>refine Zc ?_)
 first
  | (exact Zm (
      ⟨(s+1,h62,h81,o'++[y],r++[o'.length]),(by dsimp only;exact (by have h9:=Srch.row_snoc hW (Wc hnew2 hroom);rwa [hto] at h9)),(by dsimp only;omega),ho62,ho81⟩
      ) (by dsimp only;omega) ⟨rfl,rfl,rfl,rfl,rfl,rfl,rfl,rfl,rfl,rfl,trivial⟩ ⟨rfl,rfl,rfl,rfl,rfl,rfl,rfl,rfl,trivial⟩)
  | (exact Zm (
      ⟨(s+1,hO',h81,o',r++[posK (Yu t) o' (Yu t y)]),(by dsimp only;exact (by have h9:=Srch.row_snoc hW (Wb hold2);rw [hto] at h9;exact h9)),(by dsimp only;omega),hO'o,ho81⟩
      ) (by dsimp only;omega) ⟨rfl,rfl,rfl,rfl,rfl,rfl,rfl,rfl,rfl,rfl,trivial⟩ ⟨rfl,rfl,rfl,rfl,rfl,rfl,rfl,rfl,trivial⟩))
 · first |exact bN hb58|(
 have hold:posK (Yu t) o' (Yu t y)<o'.length:=by
  rcases XD (posK (Yu t) o' (Yu t y)) o'.length with hh|hh
  · exact hh
  · unfold Lo at hb58;rw [UR oM] at hb58;exact UT rfl hb58
 (have hold2:posK (minW t).key o' ((minW t).key ((minW t).step i x s))<o'.length:=by rw [hto];exact hold);(have hnv:Lo t o' (Yu t y)=posK (Yu t) o' (Yu t y)+1:=by unfold Lo;rw [US hold]);refine Ze ?_;(refine xL 71 Zb (xL 72 Zb (xL 73 Zb (xL 74 Zb (xL 75 (ZI Zp) ?_))))<;>(refine yL 76 (Ya Zg) fun v76 h=>?_;cases h)<;>refine xL 77 (Yi 17 Zp) ?_<;>(refine yL 78 (Zj 17 Zg) fun v78 h=>?_;cases h)<;>refine xL 79 KD ?_<;>refine ZO (kk:=1) 80 Zn fun h80 ho80=>?_<;>(refine Z1 305 80 81 Zn fun h81 ho81=>?_;refine Zt (ZE (l:=81) 305 rfl rfl) fun _=>?_;first|refine Zt (ZL (l:=305) rfl ((congrArg (fun z:Int=>PV.own 3 1 (r.length+1) ((toI r).map pInt++[pInt z])) (show ((Lo t (o'++[y]) (Yu t y):Nat):Int)-1=(o'.length:Nat) by rw [hnv];omega)).trans (Kh _ r o'.length))) fun _=>?_|refine Zt (ZL (l:=305) rfl ((congrArg (fun z:Int=>PV.own 3 1 (r.length+1) ((toI r).map pInt++[pInt z])) (show ((Lo t o' (Yu t y):Nat):Int)-1=(posK (Yu t) o' (Yu t y):Nat) by rw [hnv];omega)).trans (Kh _ r (posK (Yu t) o' (Yu t y))))) fun _=>?_)<;>refine xL 9 Za ?_<;>refine Zi ?_)
 (refine xL 38 Zb (xL 39 ZH (xL 10 Za ?_))<;>refine Zc ?_)
 first
  | (exact Zm (
      ⟨(s+1,h62,h81,o'++[y],r++[o'.length]),(by dsimp only;exact (by have h9:=Srch.row_snoc hW (Wc hnew2 hroom);rwa [hto] at h9)),(by dsimp only;omega),ho62,ho81⟩
      ) (by dsimp only;omega) ⟨rfl,rfl,rfl,rfl,rfl,rfl,rfl,rfl,rfl,rfl,trivial⟩ ⟨rfl,rfl,rfl,rfl,rfl,rfl,rfl,rfl,trivial⟩)
  | (exact Zm (
      ⟨(s+1,hO',h81,o',r++[posK (Yu t) o' (Yu t y)]),(by dsimp only;exact (by have h9:=Srch.row_snoc hW (Wb hold2);rw [hto] at h9;exact h9)),(by dsimp only;omega),hO'o,ho81⟩
      ) (by dsimp only;omega) ⟨rfl,rfl,rfl,rfl,rfl,rfl,rfl,rfl,rfl,rfl,trivial⟩ ⟨rfl,rfl,rfl,rfl,rfl,rfl,rfl,rfl,trivial⟩)))
 · first|exact bN hb37|(
 have hsm:s=t.m:=oM;subst hsm;have hU2:=Srch.upto_snoc hU hx hW;have htk:o'.take (i+1)=(o.take i)++[x]:=by
  rw [ZT hx'];obtain ⟨e,rfl⟩:=hpr;rw [Ua hi]
 refine nav ?_;refine Zs (En.freeze (l:=305) (t:=9) rfl rfl) fun _=>?_;rw [ZV _ _ _ (by rw [Wq])];(refine Zv ?_<;>refine xL 82 (Zd 7 YS) ?_<;>(refine yL 83 (Zj 7 Yz) fun v83 h=>?_;cases h)<;>refine xL 84 Zb ?_<;>refine ZO (kk:=1) 85 YU fun h85 ho85=>?_<;>(refine Z1 301 85 86 YU fun h86 ho86=>?_;refine Zt (ZE (l:=86) 301 rfl rfl) fun _=>?_;refine Zt (ZL (l:=301) rfl (Ra _ rows r)) fun _=>?_)<;>refine xL 87 (Zd 7 YS) ?_<;>refine YM 7 Yz TL ?_<;>refine Zc ?_)
 (refine ZY (fun i=>([13]:List Nat).elem i) [1,7,303] kR ?_<;>refine xD 0 88 rfl (Zd 7 Kt) ?_<;>(refine yD 1 89 rfl (Zj 7 YL) fun v89 h=>?_;cases h)<;>refine xD 2 90 rfl (Zd 1 Kt) ?_<;>(refine yD 3 91 rfl (Zj 1 YL) fun v91 h=>?_;cases h)<;>refine xD 4 92 rfl Zb ?_<;>refine xE 5 93 rfl Zb ?_<;>refine xE 6 94 rfl (Yi 303 Zp) ?_<;>(refine yE 7 95 rfl (Zj 303 Zg) fun v95 h=>?_;cases h)<;>refine xE 8 96 rfl (ZI Yy) ?_<;>(refine yE 9 97 rfl (Ya Wa) fun v97 h=>?_;cases h)<;>(refine Zr 10 kR ?_)<;>(refine Zo rfl fun w9 M9 N9 DQ back=>?_)<;>refine ZO (kk:=1) 98 We fun h98 ho98=>?_<;>refine Zl (back _ (nrm ?_))<;>(refine Zr 11 kR ?_)<;>(refine Zo rfl fun w9 M9 N9 DQ back=>?_)<;>refine Z1 302 98 99 We fun h99 ho99=>?_<;>refine Zl (back _ (nrm ?_))<;>refine xE 12 100 rfl (Zd 7 Kt) ?_<;>(refine Zr 13 kR ?_)<;>(refine Ko rfl rfl kR fun DQ back=>?_)<;>refine YM 7 YL TM ?_<;>refine Zl (back _ (nav ?_))<;>try dsimp only)
 refine Zs (ZE (l:=99) 302 rfl rfl) fun _=>?_;refine Zs (ZL (l:=302) rfl (TN _ ((o.take i).map (EB t)) b)) fun _=>?_;rw [show ((o.take i).map (EB t))++[b]=(o'.take (i+1)).map (EB t) by rw [htk,Xu,←hfa];rfl];(refine Zv ?_<;>refine xL 31 Zb (xL 32 ZH (xL 8 Za ?_))<;>refine Zc ?_)
 refine Zm (
  ⟨(i+1,h99,h86,hO',o',rows++[r]),hU2,(by dsimp only;omega),ho99,ho86,hO'o⟩
  ) (by dsimp only;omega) ⟨rfl,rfl,rfl,rfl,rfl,rfl,rfl,rfl,trivial⟩ ⟨rfl,rfl,rfl,rfl,rfl,rfl,rfl,trivial⟩))
 · first |exact bN hb30|(
 have hio:i=o.length:=oM;subst hio;have hA:=Srch.all_some hU (Xg _) (show o.length≤(minW t).cap from hcap);have hml:=RY rows hrw;have hmm:rows.length*t.m≤80000:=XL (VD (show rows.length≤2000 by omega) hm1) dC;have hmi:((rows.length*t.m:Nat):Int)=(rows.length:Int)*(t.m:Int):=Vy _ _;have hml2:(ZZ rows).length=rows.length*t.m:=hml;refine Ze ?_;(refine xL 101 (Zd 7 YS) ?_<;>(refine yL 102 (Zj 7 Yz) fun v102 h=>?_;cases h)<;>refine xL 103 (YH 301 Z') (xL 104 (Zd 7 Ku) ?_)<;>(refine yL 105 (Zj 7 Zg) fun v105 h=>?_;cases h)<;>refine xL 106 (Ju (h1:=by omega) (h2:=by omega)) ?_<;>refine xL 107 Yw ?_<;>refine Zc ?_)
 refine cX ?_ ?_<;>intro hb107
 · first|exact bN hb107|(
 refine Ze ?_;(refine xL 108 (ZM ZU) ?_<;>refine ZD 2 Zh ?_<;>refine xL 3 Za ?_<;>refine Zc ?_)
 refine Z2 (k:=5) 2 kR (results195) rfl rfl rfl (Xa rfl) dC rfl (.inr ⟨?_,rfl⟩);unfold Wg;rw [hA,X',US (by dsimp only;omega)])
 · first|exact bN hb107|(
 refine nav ?_;refine Zs (Z6 (l:=7) (l':=302) (j:=1) rfl rfl rfl rfl) fun _=>?_;refine Zs (Z6 (l:=7) (l':=301) (j:=2) rfl rfl rfl rfl) fun _=>?_;rw [Lz _ _ _ rfl,JQ _ _ _ rfl,VN];(refine Zv ?_<;>(refine yL 109 (Zu 7 Wo) fun v109 h=>?_;cases h)<;>(refine cD 110 (cA call236 ((Zg8 ⟨t.m,rows,o.map (EB t)⟩ (by dsimp only;rw [Xe,hRl]) hrw (by dsimp only;omega) hm1))) fun v110 hv110=>?_;clear hv110)<;>refine ZD 2 Zh ?_<;>refine xL 3 Za ?_<;>refine Zc ?_)
 refine Z2 (k:=5) 2 kR (results195) rfl rfl rfl (Xa rfl) dC rfl (.inl ⟨Ww t (o,rows),?_,?_⟩)
 · unfold Wg;rw [hA,X',UR (by dsimp only;omega)]
 · rw [←ZnI hRl];rfl))
theorem ZcM {dd:Prop} {P:Program} {f:Nat} {ar h:List (Nat×Ent)} {R R':Value→PV→List (Nat×Ent)→Prop} (hA:AFh dd P f ar h R) (hR:∀v p h,R v p h→R' v p h):AFh dd P f ar h R':=fun M N w F H hv=>
 (hA M N w F H hv).mono fun e w' ⟨v,p,h,F',e1,e2,e3,e4⟩=>⟨v,p,h,F',e1,hR v p h e2,e3,e4⟩
theorem Gc:AF prog 194 [] (· = .tup [KS,pInt 13]):=by
 refine AF.of_body 3 func194 rfl ntmps194 (Xa rfl) ?_
 intro w0 M0 vs hl hv
 obtain rfl:=XR hl
 clear hl hv
 refine Ze ?_
 (refine Zx [(.int .i64 0),(.int .i64 0),(.slice none 0 0),(.slice none 0 0),(.slice none 0 0)] 5 0 ZJ fun h0=>?_<;>refine xL 1 Za ?_<;>refine Zi ?_)
 (refine xL 2 (ZM ZU) ?_<;>refine ZD 0 Zh ?_<;>refine xL 1 Za ?_<;>refine Zc ?_)
 exact Z2 (k:=5) 0 kR (results194) rfl rfl rfl (Xa rfl) dC rfl rfl
theorem DV {a:Aut} (h:AOk a) (hs:K4 a=none) (V:Value):AFh False prog 193 [(0,V,ZN a)] [] (fun v q h=>(∃V1:Value,v= .tuple [V1, .bool false].toArray)∧q= .tup [.agg [pInt 0, .val (.slice none 0 0), .val (.slice none 0 0)],ZK false]∧h=[]):=ZcM (P3 a h V) fun v q h' hr=>by
 rcases hr with ⟨t,_,_,_,h1,_⟩|⟨_,h2⟩
 · rw [hs] at h1;cases h1
 · exact h2
theorem T1 {a:Aut} (h:AOk a) {t:Tab} (hs:K4 a=some t) (V:Value):AFh False prog 193 [(0,V,ZN a)] [] (fun v q h=>∃hF V1:Value,hF.oneCell'=true∧v= .tuple [V1, .bool true].toArray∧q= .tup [.agg [pInt (t.m:Nat), .val hF, .sl t.rows.length (t.rows.map K7)],ZK true]∧h=[(1000,hF, .own 4 1 t.fin.length (t.fin.map ZK))]):=ZcM (P3 a h V) fun v q h' hr=>by
 rcases hr with ⟨t',hF,V1,h1,h2,h3⟩|⟨h1,_⟩
 · rw [hs] at h2;cases h2;exact ⟨hF,V1,h1,h3⟩
 · rw [hs] at h1;cases h1
theorem ED (a:Aut) (hml:a.moves.length≤1000000) (hv:Z5 a=false):AF prog 143 [ZN a] (· = .tup [KS,pInt 1]):=by
 refine AF.of_body 33 func143 rfl ntmps143 (Xa rfl) ?_
 intro w0 M0 vs hl hv
 obtain ⟨v0,rfl⟩:=Wj hl
 clear hl hv
 refine Ze ?_
 (refine ZC 1 5 fun h1=>?_<;>refine Zx [(.int .i64 0),(.int .i64 0),(.slice none 0 0),(.slice none 0 0),(.slice none 0 0)] 5 2 ZJ fun h2=>?_<;>refine xL 3 Za ?_<;>refine Zi ?_)
 ((refine yL 8 (Zu 1 Zh) fun v8 h=>?_;cases h)<;>(refine cS 9 (cA call192 (YV a hml)) fun v9 h=>?_;cases h)<;>refine xL 10 Z8 ?_<;>refine Zc ?_)
 refine cX ?_ ?_<;>intro hb10
 · refine Ze ?_;(refine xL 11 (ZM ZU) ?_<;>refine ZD 2 Zh ?_<;>refine xL 3 Za ?_<;>refine Zc ?_)
   exact Z2 (k:=5) 2 kR (results143) rfl rfl rfl (Xa rfl) dC rfl rfl
 · rw [hv] at hb10;simp at hb10
theorem DW (a:Aut) (hml:a.moves.length≤1000000) (hv:Z5 a=true) (hs:K4 a=none):AF prog 143 [ZN a] (· = .tup [KS,pInt 13]):=by
 have h:=JN hv
 refine AF.of_body 33 func143 rfl ntmps143 (Xa rfl) ?_
 intro w0 M0 vs hl hv
 obtain ⟨v0,rfl⟩:=Wj hl
 clear hl hv
 refine Ze ?_
 (refine ZC 1 5 fun h1=>?_<;>refine Zx [(.int .i64 0),(.int .i64 0),(.slice none 0 0),(.slice none 0 0),(.slice none 0 0)] 5 2 ZJ fun h2=>?_<;>refine xL 3 Za ?_<;>refine Zi ?_)
 ((refine yL 8 (Zu 1 Zh) fun v8 h=>?_;cases h)<;>(refine cS 9 (cA call192 (YV a hml)) fun v9 h=>?_;cases h)<;>refine xL 10 Z8 ?_<;>refine Zc ?_)
 refine cX ?_ ?_<;>intro hb10
 · rw [hv] at hb10;simp at hb10
 · refine Ze ?_;((refine yL 13 (Zu 1 Zh) fun v13 h=>?_;cases h)<;>(refine JM [1,2] 14 (call193) (DV h hs _) ?_;rintro _ _ _ ⟨⟨V1,rfl⟩,rfl,rfl⟩)<;>refine xL 12 Zb (xL 15 Zk (xL 16 Zk ?_))<;>refine Zx [(.int .i64 0),(.slice none 0 0),(.slice none 0 0)] 3 4 Gb fun h4=>?_<;>refine ZD 4 Wo ?_<;>refine xL 5 Za ?_<;>refine Zi ?_)
   (refine xL 17 Zb (xL 18 Z8 ?_)<;>refine Zc ?_)
   refine cCt ?_;refine Ze ?_;((refine cP 19 (cA call194 (Gc)) fun va19 vb19 hva19 h=>?_;cases h)<;>refine xL 20 Zk (xL 21 Zk ?_)<;>refine ZD 2 Zh ?_<;>refine xL 3 Za ?_<;>refine Zc ?_)
   exact Z2 (k:=5) 2 kR (results143) rfl rfl rfl (Xa rfl) dC rfl rfl
theorem EE (a:Aut) (hml:a.moves.length≤1000000) (hv:Z5 a=true) {t:Tab} (hs:K4 a=some t) (hl:AF prog 195 [Ez t] (· = .tup [KS,ZK false])):AF prog 143 [ZN a] (· = .tup [KS,pInt 13]):=by
 have h:=JN hv
 refine AF.of_body 33 func143 rfl ntmps143 (Xa rfl) ?_
 intro w0 M0 vs hl hv
 obtain ⟨v0,rfl⟩:=Wj hl
 clear hl hv
 refine Ze ?_
 (refine ZC 1 5 fun h1=>?_<;>refine Zx [(.int .i64 0),(.int .i64 0),(.slice none 0 0),(.slice none 0 0),(.slice none 0 0)] 5 2 ZJ fun h2=>?_<;>refine xL 3 Za ?_<;>refine Zi ?_)
 ((refine yL 8 (Zu 1 Zh) fun v8 h=>?_;cases h)<;>(refine cS 9 (cA call192 (YV a hml)) fun v9 h=>?_;cases h)<;>refine xL 10 Z8 ?_<;>refine Zc ?_)
 refine cX ?_ ?_<;>intro hb10
 · rw [hv] at hb10;simp at hb10
 · refine Ze ?_;((refine yL 13 (Zu 1 Zh) fun v13 h=>?_;cases h)<;>(refine JM [1,2] 14 (call193) (T1 h hs _) ?_;rintro _ _ _ ⟨hF,V1,hFo,rfl,rfl,rfl⟩;have hone:En.one (PV.val hF)=true:=hFo)<;>refine xL 12 Zb (xL 15 Zk (xL 16 Zk ?_))<;>refine Zx [(.int .i64 0),(.slice none 0 0),(.slice none 0 0)] 3 4 Gb fun h4=>?_<;>refine ZD 4 Wo ?_<;>refine xL 5 Za ?_<;>refine Zi ?_)
   (refine xL 17 Zb (xL 18 Z8 ?_)<;>refine Zc ?_)
   refine cCf ?_;refine nav ?_;refine Zs (Z6 (l:=4) (l':=1000) (j:=1) rfl rfl rfl rfl) fun _=>?_;rw [JQ _ _ _ rfl];(refine Zv ?_<;>(refine yL 23 (Zu 4 Wo) fun v23 h=>?_;cases h)<;>(refine cP 24 (cA call195 (hl)) fun va24 vb24 hva24 h=>?_;cases h)<;>refine xL 22 Zb (xL 25 Zk (xL 26 Zk ?_))<;>refine Zx [(.int .i64 0),(.int .i64 0),(.slice none 0 0),(.slice none 0 0),(.slice none 0 0)] 5 6 ZJ fun h6=>?_<;>refine ZD 6 Zh ?_<;>refine xL 7 Za ?_<;>refine Zi ?_)
   (refine xL 27 Zb (xL 28 Z8 ?_)<;>refine Zc ?_)
   refine cCt ?_;refine Ze ?_;((refine cP 29 (cA call194 (Gc)) fun va29 vb29 hva29 h=>?_;cases h)<;>refine xL 30 Zk (xL 31 Zk ?_)<;>refine ZD 2 Zh ?_<;>refine xL 3 Za ?_<;>refine Zc ?_)
   exact Z2 (k:=5) 2 kR (results143) rfl rfl rfl (Xa rfl) dC rfl rfl
theorem Cr (a:Aut) (hml:a.moves.length≤1000000) (hv:Z5 a=true) {t:Tab} (hs:K4 a=some t) {A:Aut} (hl:AF prog 195 [Ez t] (· = .tup [ZN A,ZK true])):AF prog 143 [ZN a] (· = .tup [ZN A,pInt 0]):=by
 have h:=JN hv
 refine AF.of_body 33 func143 rfl ntmps143 (Xa rfl) ?_
 intro w0 M0 vs hl hv
 obtain ⟨v0,rfl⟩:=Wj hl
 clear hl hv
 refine Ze ?_
 (refine ZC 1 5 fun h1=>?_<;>refine Zx [(.int .i64 0),(.int .i64 0),(.slice none 0 0),(.slice none 0 0),(.slice none 0 0)] 5 2 ZJ fun h2=>?_<;>refine xL 3 Za ?_<;>refine Zi ?_)
 ((refine yL 8 (Zu 1 Zh) fun v8 h=>?_;cases h)<;>(refine cS 9 (cA call192 (YV a hml)) fun v9 h=>?_;cases h)<;>refine xL 10 Z8 ?_<;>refine Zc ?_)
 refine cX ?_ ?_<;>intro hb10
 · rw [hv] at hb10;simp at hb10
 · refine Ze ?_;((refine yL 13 (Zu 1 Zh) fun v13 h=>?_;cases h)<;>(refine JM [1,2] 14 (call193) (T1 h hs _) ?_;rintro _ _ _ ⟨hF,V1,hFo,rfl,rfl,rfl⟩;have hone:En.one (PV.val hF)=true:=hFo)<;>refine xL 12 Zb (xL 15 Zk (xL 16 Zk ?_))<;>refine Zx [(.int .i64 0),(.slice none 0 0),(.slice none 0 0)] 3 4 Gb fun h4=>?_<;>refine ZD 4 Wo ?_<;>refine xL 5 Za ?_<;>refine Zi ?_)
   (refine xL 17 Zb (xL 18 Z8 ?_)<;>refine Zc ?_)
   refine cCf ?_;refine nav ?_;refine Zs (Z6 (l:=4) (l':=1000) (j:=1) rfl rfl rfl rfl) fun _=>?_;rw [JQ _ _ _ rfl];(refine Zv ?_<;>(refine yL 23 (Zu 4 Wo) fun v23 h=>?_;cases h)<;>(refine cP 24 (cA call195 (hl)) fun va24 vb24 hva24 h=>?_;cases h)<;>refine xL 22 Zb (xL 25 Zk (xL 26 Zk ?_))<;>refine Zx [(.int .i64 0),(.int .i64 0),(.slice none 0 0),(.slice none 0 0),(.slice none 0 0)] 5 6 ZJ fun h6=>?_<;>refine ZD 6 Zh ?_<;>refine xL 7 Za ?_<;>refine Zi ?_)
   (refine xL 27 Zb (xL 28 Z8 ?_)<;>refine Zc ?_)
   refine cCf ?_;refine Ze ?_;((refine yL 32 (Zu 6 Zh) fun v32 h=>?_;cases h)<;>refine ZD 2 Zh ?_<;>refine xL 3 Za ?_<;>refine Zc ?_)
   exact Z2 (k:=5) 2 kR (results143) rfl rfl rfl (Xa rfl) dC rfl rfl
theorem ZeJ {t:Tab} {A:Aut} (h:Wg t=some A) (ht:TOk t):AF prog 195 [Ez t] (· = .tup [ZN A,ZK true]):=(EC t ht).mono fun p hp=>by
 rcases hp with ⟨B,h1,h2⟩|⟨h1,_⟩
 · rw [h] at h1;cases h1;exact h2
 · rw [h] at h1;cases h1
theorem ZeK {t:Tab} (h:Wg t=none) (ht:TOk t):AF prog 195 [Ez t] (· = .tup [KS,ZK false]):=(EC t ht).mono fun p hp=>by
 rcases hp with ⟨B,h1,h2⟩|⟨_,h1⟩
 · rw [h] at h1;cases h1
 · exact h1
theorem P4 (a:Aut) (hml:a.moves.length≤1000000):AF prog 143 [ZN a] (· =resW (Jd a)):=by
 unfold Jd
 cases hv:Z5 a with
 |false=>rw [UR sM];exact ED a hml hv
 | true=>
   rw [US rfl];have h:=JN hv
   cases hs:K4 a with
   |none=>rw [ζw hs];exact DW a hml hv hs
   | some t=>
     rw [ζv hs];have ht:=Hm h hs
     cases hl:Wg t with
     |none=>exact EE a hml hv hs (ZeK hl ht)
     |some A=>exact Cr a hml hv hs (ZeJ hl ht)
theorem ZcN {P:Program} {c:Ctx} {sL hP:List (Nat×Ent)} {ops:Array Oper} {Q:Exit→Act→World→Prop} {o:Oper} {rest:List Oper} {fs g k e d l:Nat} {cs:List PV} {h:Value} {q q':PV} {x y:Operand} {ats:Array TypeId} (hS:∀(p:Option Addr) (cap:Nat) (fv:Value) (w:World),Calls P fs #[.slice p 0 cap,fv] w fun e w'=>e= .returned (.tuple #[])∧w'=w)
 (hw:Z9 ops sL o=some true) (hd:o.dst=some d) (hdn:d<c.nt) (ho:o.op= .call {callee:= .value (.func fs),args:= #[x,y],argTypes:=ats}) (hc:∀args w,(callFunc fs args).run P w= .ok (.enter fs args) w) (hx:ev sL x=some (h,q)) (hy:ev sL y=some (.func (.func g) #[] #[],q')) (hl:lk hP l=some (h, .own e k 0 cs))
 (kk:aL P c ops Q rest ⟨put d (.tuple #[], .val (.tuple #[])) sL,hP⟩):aL P c ops Q (o::rest) (⟨sL,hP⟩:St):=
 YT hw fun a w F H=>by
  have hxv:=(H.rd.ev hx).1;have hyv:=(H.rd.ev hy).1;obtain ⟨xs,Fs,hrow,_⟩:=(H.tr l _ _ hl).row;obtain ⟨p,cap,rfl⟩:∃p cap,h= .slice p 0 cap:=by
   rcases Y1 hrow with ⟨h1,_⟩|⟨g,cap,h1,_⟩
   · exact ⟨_,_,h1⟩
   · exact ⟨_,_,h1⟩
  unfold Oper.wp;have hrun:(execOp a.eval o).run P w= .ok (.enter fs #[.slice p 0 cap, .func (.func g) #[] #[]]) w:=by
   have hev:a.eval (.func fs)= .func (.func fs) #[] #[]:=rfl;simp [execOp,ho,resolve,Deferred.ofValue,hev,invoke,hxv,hyv,hc]
  rw [hrun,Oper.upon_enter];refine (hS p cap _ w).mono fun e' w' ⟨he',hw'⟩=>?_;subst he' hw';rw [hd];exact kk _ _ ⟨F,H.put hdn (.val _)⟩
theorem JR {a b:Mv}:GG a b<0↔W8 a b=true:=by unfold W8;rw [UO]
theorem ζz (a:Mv):¬GG a a<0:=fun h=>by have:=JR.1 h;rw [G8] at this;cases this
theorem ZcO (a b c:Mv) (h1:GG a b<0) (h2:GG b c<0):GG a c<0:=JR.2 (TI (JR.1 h1) (JR.1 h2))
theorem ZcP (a b c:Mv) (h1:¬GG a b<0) (h2:¬GG b c<0):¬GG a c<0:=fun h=>by
 rw [JR,WJ] at h1 h2 h
 omega
def EF (l:List Mv):Prop:=∀(i j:Nat) (a b:Mv),i<j→l[i]? =some a→l[j]? =some b→¬GG b a<0
theorem ZeL {l:List Mv} (h:EF l) (hn:l.Nodup):AscM l:=by
 unfold AscM
 rw [Uv]
 intro i j hi hj hij
 have h1:=h i j l[i] l[j] hij (XW hi) (XW hj)
 rw [JR] at h1
 cases h2:W8 l[i] l[j] with
 |true=>rfl
 | false=>
   have h3:=PX h2 (by simpa using h1);exact UT (List.getElem_inj hn |>.1 h3) oM
theorem Zjn {l:List Mv} (h:AscM l) {k:Nat} {x y:Mv} (hy:l[k]? =some y) (hx:l[k+1]? =some x):eqM x y=false:=by
 have h1:=Uv.1 h k (k+1) (Zf hy) (Zf hx) oM
 rw [(XM.1 hy).2,(XM.1 hx).2] at h1
 cases h2:eqM x y with
 |false=>rfl
 |true=>rw [Ji.1 h2,G8] at h1;cases h1
theorem Zjo:prog.underlying 93=some (.struct (prog.fieldsOf 93)):=by kernel_rfl
theorem Zjp:prog.stoodInHeld 93=false:=by kernel_rfl
theorem Zjq:prog.eqGuardType prog.depth 93=false:=by kernel_rfl
def vMv (m:Mv):List Value:=[Value.int .i64 m.src, .int .i64 m.dst, .int .i64 m.sym]
theorem Td (x y:Mv) (w:World):(Op.eqFields 9999 (vMv x).toArray (vMv y).toArray (prog.fieldsOf 93).toList).run prog w= .ok (eqM x y) w:=by
 unfold vMv eqM
 simp only [Program.fieldsOf,underlying93]
 simp [Op.eqFields,part,run_equalIn_int w 9998 3 .i64 .i64 x.src y.src underlying3,run_equalIn_int w 9998 3 .i64 .i64 x.dst y.dst underlying3,run_equalIn_int w 9998 3 .i64 .i64 x.sym y.sym underlying3]
 by_cases h1:x.src=y.src<;>by_cases h2:x.dst=y.dst<;>by_cases h3:x.sym=y.sym<;>simp [h1,h2,h3]
theorem YY (l:List Mv) (hl:l.length≤1000000):AF prog 138 [pMvs l] (· = .own 93 3 l.length (l.flatMap cMv)):=by
 refine AF.of_body 8 func138 rfl ntmps138 (Xa rfl) ?_
 intro w0 M0 vs hl hv
 obtain ⟨v0,rfl⟩:=Wj hl
 clear hl hv
 have f3:(l.flatMap cMv).length=l.length*3:=flat_len Z0 l
 have f4:(l.flatMap cMv).all En.one=true:=Lu l
 refine Ze ?_
 (refine xL 2 Za ?_<;>refine Zi ?_)
 (refine xL 3 Zb ?_<;>(refine yL 4 (Zfn ZF) fun v4 hv4=>?_;rcases hv4 with rfl|⟨rfl,hn0⟩)<;>refine Zc ?_)<;>(
 refine cX ?_ ?_<;>intro hb4
 · first|exact bN hb4|(
 refine Ze ?_;(refine xL 2 Za ?_<;>refine Zc ?_)
 have hl0:l=[]:=XR hn0;subst hl0;refine Wr (Jl 200 93 3 rfl) fun _=>?_;exact W9 200 (results138) rfl rfl rfl)
 · first|exact bN hb4|(
 refine Ze ?_;(refine LD 5 ZS fun h5 ho5=>?_<;>refine xL 6 Zb ?_<;>refine Kc 5 7 ZS (fun h7 ho7=>?_) f3 f4<;>refine xL 2 Za ?_<;>refine Zc ?_)
 refine W9 7 (results138) rfl rfl ?_;rw [Xv,X9]))
theorem Zjr:AggT prog 93 3=true:=by kernel_rfl
theorem ZcQ:ZmL prog 188 153 3:=fun enc hk h1 cf hO blk cap d w hcmp hH hblk hsz=>
 AnyQ.slices_SortFunc Tryz.sortMvL 3 (fun w=>AggT.run Zjr w) (fun w=>AggT.size Zjr w) enc hk h1 cf hO 153 #[] blk 0 cap d w (call153) hcmp hH hblk hsz
theorem Dz (p:Option Addr) (cap:Nat) (fv:Value) (w:World):Calls prog 188 #[.slice p 0 cap,fv] w fun e w'=>e= .returned (.tuple #[])∧w'=w:=(AnyF.slices_SortFunc_none Tryz.sortMvL p cap fv w).mono fun e w' ⟨h1,h2⟩=>⟨h1,h2⟩
theorem ζA (x y:Mv) (M:BS) (W:World) (u v:Value) (hu:Shr M W u (.agg (cMv x))) (hv:Shr M W v (.agg (cMv y))):Calls prog 153 #[u,v] W fun e w'=>e= .returned (.int .i64 (GG x y))∧∃q os',w'=Go.Sort.grow (W.drewN q) os':=(Dl x y).exact2 hu hv
theorem Cs (l:List Mv) (hl:l.length≤1000000) (ha:AscM l) (hv:Value):AFh False prog 189 [(0,hv, .val hv)] [(1000,hv, .own 93 3 l.length (l.flatMap cMv))] (fun v q h=>v=hv∧q= .val hv∧h=[(1000,hv, .own 93 3 l.length (l.flatMap cMv))]):=by
 refine AFh.of_body 61 func189 rfl ntmps189 (Xa rfl) rfl ?_
 intro w0 M0 N0
 refine Ze ?_
 (refine xL 2 Za ?_<;>refine Zi ?_)
 (refine xL 6 Zb (xL 7 (YH 1000 ZF) (xL 8 ZP ?_))<;>refine Zc ?_)
 refine cX ?_ ?_<;>intro hb8
 · first|exact bN hb8|(
 refine Ze ?_;(refine xL 9 Zb (xL 2 Za ?_)<;>refine Zc ?_)
 exact HN [(1000,hv,PV.own 93 3 l.length (l.flatMap cMv))] (results189) rfl ⟨rfl,trivial⟩ ⟨rfl,rfl,rfl⟩)
 · first | exact bN hb8|(
 refine Ze ?_;(refine xL 3 Za ?_<;>refine Zc ?_)
 refine ZB (ι:={k:Nat//1≤k∧k≤l.length}) (fun k=>⟨[(0,_,_),(3, .int .i64 k.1,pInt k.1)],[(1000,_,_)]⟩) (fun k=>l.length-k.1) ⟨1,Xg _,oM⟩ (fun a w H=>H.weaken ⟨rfl,rfl,trivial⟩ ⟨rfl,trivial⟩) ?_;rintro ⟨k1,hk1,hk⟩;dsimp only;obtain ⟨k,rfl⟩:∃k,k1=k+1:=⟨k1-1,oM⟩;refine Ze ?_;(refine xL 10 Zb (xL 11 Zb (xL 12 (YH 1000 ZF) (xL 13 ZP ?_)))<;>refine Zc ?_)
 refine cX ?_ ?_<;>intro hb13
 · first|exact bN hb13|(
 obtain ⟨x,hx⟩:=Zq (show k+1<l.length by omega);obtain ⟨y,hy⟩:=Zq (show k<l.length by omega);have e1:=Yh Z0 l (k+1) x hx;have e2:=YA Z0 hx;(have e3:((l.flatMap cMv).drop ((((k+1:Nat):Int)-1).toNat*3)).take 3=cMv y:=by rw [show (((k+1:Nat):Int)-1).toNat*3=k*3 by omega];exact Yh Z0 l k y hy);have e4:=YA Z0 hy;have hne:=Zjn ha hy hx;refine nav ?_;(refine ZY (fun i=>([]:List Nat).elem i) [1000] kR ?_<;>refine xD 0 16 rfl Zb ?_<;>refine xD 1 17 rfl Zb ?_<;>refine xD 2 18 rfl (Yi 1000 ZF) ?_<;>(refine yD 3 19 rfl (Zu 1000 ZW) fun v19 h=>?_;cases h)<;>refine xD 4 20 rfl Zb ?_<;>refine xE 5 21 rfl Zb ?_<;>refine xE 6 22 rfl KD ?_<;>refine xE 7 23 rfl (W3 1000 ZF) ?_<;>(refine yE 8 24 rfl (Zu 1000 ZW) fun v24 h=>?_;cases h)<;>refine xE 9 25 rfl ((Zio (us:=vMv x) (us':=vMv y) Zjo Zjp Zjq (Td x y) rfl rfl)) ?_<;>refine Yr kR (nav ?_)<;>try dsimp only)
 refine cX ?_ ?_<;>intro hb25
 · rw [hne] at hb25;cases hb25
 · refine Ze ?_;(refine xL 14 Zb (xL 15 ZH (xL 3 Za ?_))<;>refine Zc ?_)
   refine Zm (
    ⟨k+1+1,oM,oM⟩
    ) (by dsimp only;omega) ⟨rfl,rfl,trivial⟩ ⟨rfl,trivial⟩)
 · first|exact bN hb13|(
 refine Ze ?_;(refine xL 60 Zb (xL 2 Za ?_)<;>refine Zc ?_)
 exact HN [(1000,hv,PV.own 93 3 l.length (l.flatMap cMv))] (results189) rfl ⟨rfl,trivial⟩ ⟨rfl,rfl,rfl⟩))
theorem Zhb {l r:List Mv} (hp:r.Perm l) (hs:EF r) (hn:l.Nodup):r=mkM l:=OF (ZeL hs (hp.nodup_iff.2 hn)) fun x=>hp.mem_iff
theorem R7 {l:List Mv} (hn:l.Nodup):(mkM l).length=l.length:=by
 refine Nat.le_antisymm (Gj l) ?_
 have : ∀{l:List Mv} {m:List Mv},l.Nodup→(∀x∈l,x∈m)→l.length≤m.length:=fun {l}=>by
  induction l with
  |nil=>intro m _ _;exact Xd _
  | cons x l ih=>
    intro m h hm;rw [Vd] at h;obtain ⟨a,b,rfl⟩:=List.append_of_mem (hm x (Xm ..));have:=ih (m:=a++b) h.2 fun y hy=>by
     rcases Xt.1 (hm y (Xn _ hy)) with h1|h1
     · exact XZ _ h1
     · rcases Xs.1 h1 with rfl|h1
       · exact UT hy h.1
       · exact X6 _ h1
    simp only [Xc,Xi] at this ⊢;omega
 exact this hn fun x hx=>WZ.2 hx
structure R5 (p0 p1 p2 p3 p4:PV):Prop where
 o:En.one p0=true∧En.one p1=true∧En.one p2=true∧En.one p3=true∧En.one p4=true
 s:[p0,p1,p2,p3,p4].all isSh=true
 d:shD (.agg [p0,p1,p2,p3,p4])=true
theorem R5.aut (A:Aut):R5 (pInt A.n) (pInt A.syms) (pInts A.start) (pInts A.fin) (pMvs A.moves):=⟨⟨rfl,rfl,rfl,rfl,rfl⟩,rfl,rfl⟩
theorem R5.raw:R5 (pInt 0) (pInt 0) (.val (.slice none 0 0)) (.val (.slice none 0 0)) (.val (.slice none 0 0)):=⟨⟨rfl,rfl,rfl,rfl,rfl⟩,rfl,rfl⟩
theorem R5.t {p0 p1 p2 p3 p4:PV} (h:R5 p0 p1 p2 p3 p4) (E:Int):shD (.tup [.agg [p0,p1,p2,p3,p4],pInt E])=true:=by
 show (shD (.agg [p0,p1,p2,p3,p4])&&(true&&true))=true
 rw [h.d];rfl
theorem ZaQ (a:Aut) (hl:a.moves.length≤1000000) (hnd:a.moves.Nodup) (V hM:Value) (hMo:hM.oneCell'=true) {p0 p1 p2 p3 p4:PV} {E:Int} (h5:R5 p0 p1 p2 p3 p4) (hr:AF prog 132 [ZN (mkA a)] (· = .tup [.agg [p0,p1,p2,p3,p4],pInt E])):AFh False prog 137 [(0,V, .agg [pInt a.n,pInt a.syms,pInts a.start,pInts a.fin, .val hM])] [(1000,hM, .own 93 3 a.moves.length (a.moves.flatMap cMv))] (fun v q h=>(∃V1:Value,v= .tuple [V1, .int .i64 E].toArray)∧q= .tup [.agg [p0,p1,p2,p3,p4],pInt E]∧h=[]):=by
 obtain ⟨o0,o1,o2,o3,o4⟩:=h5.o
 refine AFh.of_body 15 func137 rfl ntmps137 (Xa rfl) rfl ?_
 intro w0 M0 N0
 have hone:En.one (PV.val hM)=true:=hMo
 refine Ze ?_
 (refine ZC 1 5 fun h1=>?_<;>refine Zx [(.int .i64 0),(.int .i64 0),(.slice none 0 0),(.slice none 0 0),(.slice none 0 0)] 5 2 ZJ fun h2=>?_<;>refine xL 3 Za ?_<;>refine Zi ?_)
 (refine xL 4 (Zd 1 Zw) ?_<;>(refine yL 5 (Zj 1 ZA) fun v5 h=>?_;cases h)<;>(rcases X4 a.moves.length with h0|h0<;>first|(refine Zt (ZL (l:=1000) (p':= .own 93 3 0 []) rfl (by rw [XR h0];rfl)) fun _=>?_;refine ZcN (l:=1000) Dz rfl rfl (Xa rfl) rfl (call188) rfl rfl rfl ?_;refine Zt (ZL (l:=1000) (p':= .own 93 3 (mkM a.moves).length ((mkM a.moves).flatMap cMv)) rfl (by rw [XR h0];rfl)) fun _=>?_)|(refine Zfm (l:=1000) (β:=Mv) (f:=cMv) (cmp:=GG) (rows:=a.moves) ZcQ Z0 dC (fun _=>rfl) ζz ZcO ZcP (fun x y M W u v _ _ hu hv=>ζA x y M W u v hu hv) h0 oM rfl rfl (Xa rfl) rfl (call188) rfl rfl rfl (fun rows' hperm hord=>?_);refine Zt (ZL (l:=1000) (p':= .own 93 3 (mkM a.moves).length ((mkM a.moves).flatMap cMv)) rfl (by rw [Zhb hperm hord hnd,R7 hnd])) fun _=>?_))<;>refine Zc ?_)<;>(
 (refine Zv ?_<;>refine xL 7 (Zd 1 Zw) ?_<;>(refine yL 8 (Zj 1 ZA) fun v8 h=>?_;cases h)<;>(refine WN [(1000,hM,PV.own 93 3 (mkM a.moves).length ((mkM a.moves).flatMap cMv)),(1,_,_),(2,_,_)] ⟨rfl,rfl,rfl,trivial⟩ ?_;refine JM [1,2] 9 (call189) (Cs (mkM a.moves) (by have:=Gj a.moves;omega) (Ka _) hM) ?_;rintro v9 _ _ ⟨hv9,rfl,rfl⟩;have hv9':=hv9.symm;subst hv9')<;>refine xL 10 (Zd 1 Zw) ?_<;>refine YM 1 ZA YB ?_<;>refine Zc ?_)
 refine Zs (Z6 (l:=1) (l':=1000) (j:=4) rfl rfl rfl rfl) fun _=>?_;rw [Kj _ _ _ rfl];(refine Zv ?_<;>(refine yL 11 (Zu 1 Zh) fun v11 h=>?_;cases h)<;>(refine cP 12 (cA call132 hr) (fun va12 vb12 hva12 hvb12=>?_) (hsh:=h5.t E);cases hvb12)<;>refine xL 13 Zk (xL 14 Zk ?_)<;>refine ZD 2 Zh ?_<;>refine xL 3 Za ?_<;>refine Zc ?_)
 exact Hg (k:=5) 2 [] kR (results137) rfl rfl rfl (Xa rfl) dC h5.s trivial fun V=>⟨⟨V,rfl⟩,rfl,rfl⟩)
theorem ZcR (a:Aut) (hl:a.moves.length≤1000000) (h:PreA a):AF prog 132 [ZN (mkA a)] (· =resW (Je a)):=
 ZeI (mkA a) (by have:=Gj a.moves;show (mkM a.moves).length≤1000000;omega) h.aok
theorem TP (a:Aut) (hl:a.moves.length≤1000000) (h:PreA a):∃p0 p1 p2 p3 p4 E,R5 p0 p1 p2 p3 p4∧resW (Je a)= .tup [.agg [p0,p1,p2,p3,p4],pInt E]∧AF prog 132 [ZN (mkA a)] (· = .tup [.agg [p0,p1,p2,p3,p4],pInt E]):=by
 have hr:=ZcR a hl h
 rcases OM (Je a) with ⟨A,_,h2⟩|⟨e,_,h2⟩
 · rw [h2] at hr ⊢;exact ⟨_,_,_,_,_,_,R5.aut A,rfl,hr⟩
 · rw [h2] at hr ⊢;exact ⟨_,_,_,_,_,_,R5.raw,rfl,hr⟩
theorem R8 {α β:Type} {f:α→List β} {m:Nat} (hf:∀x,(f x).length=m):∀(L:List α) (k:Nat),(L.flatMap f).take (k*m)=(L.take k).flatMap f
 |[],k=>sM
 |x::L,0=>sM
 | x::L,k+1=>by
   rw [List.take_succ_cons,Xz,Xz,←R8 hf L k,List.take_append,Xk (by rw [hf,Vr];omega),hf,show (k+1)*m-m=k*m by rw [Vr];omega]
theorem R9 {α β:Type} {f:α→List β} {m:Nat} (hf:∀x,(f x).length=m):∀(L:List α) (k:Nat),(L.flatMap f).drop (k*m)=(L.drop k).flatMap f
 |[],k=>sM
 |x::L,0=>sM
 | x::L,k+1=>by
   rw [List.drop_succ_cons,Xz,←R9 hf L k,List.drop_append,List.drop_of_length_le (by rw [hf,Vr];omega),hf,show (k+1)*m-m=k*m by rw [Vr];omega,X9]
theorem ZeM {l:List Mv} (h:AscM l):mkM l=l:=(OF h fun _=>Iff.rfl).symm
theorem ZaR (l:List Mv) (m:Mv):Rx m (mkM l)=mkM (l++[m]):=OF (SC (Ka l)) fun x=>by
 rw [L',WZ,Xt,Xl]
 exact ⟨fun h=>h.symm,fun h=>h.symm⟩
theorem ON:∀{l:List Mv},AscM l→Y7 W8 l=true
 |[],_=>rfl
 |[_],_=>rfl
 | x::y::l,h=>by
   have h':=XQ.1 h;rw [Y7,Xf];exact ⟨h'.1 y (Xm ..),ON h'.2⟩
theorem ζB:∀{l:List Int},Srt l→Y7 ltI l=true
 |[],_=>rfl
 |[_],_=>rfl
 | x::y::l,h=>by
   have h':=XQ.1 h;rw [Y7,Xf];exact ⟨by unfold ltI;simpa using h'.1 y (Xm ..),ζB h'.2⟩
theorem ZfH {a:Aut} {l:List Int} (h:InS a l) (hs:Srt l):Lm a.n l=true:=by
 unfold Lm
 rw [Xf,XB]
 refine ⟨fun x hx=>?_,ζB hs⟩
 have:=h x hx
 simp [this.1,this.2]
theorem ZoH {a:Aut} (h:PreA a) (hs:Srt a.start) (hf:Srt a.fin) (hn:¬2000<a.n) (hm:¬20000<(mkM a.moves).length):Z5 (mkA a)=true:=by
 have h1:=h.n0
 have h2:=h.s0
 have h3:=h.s1
 unfold Z5
 simp only [Xf,UO]
 refine ⟨⟨⟨⟨⟨⟨⟨⟨h1,by show a.n≤2000;omega⟩,h2⟩,h3⟩,by show (mkM a.moves).length≤20000;omega⟩,ZfH h.st hs⟩,ZfH h.fi hf⟩,?_⟩,ON (Ka _)⟩
 rw [XB]
 intro m hm'
 have hm':m∈mkM a.moves:=hm'
 have:=h.mv m (WZ.1 hm')
 unfold Rw
 simp only [Xf,UO]
 show ((((0≤m.src∧m.src<a.n)∧0≤m.dst)∧m.dst<a.n)∧-1≤m.sym)∧m.sym<a.syms
 omega
def GI (b:Aut):Except Int Aut:=if 2000<b.n∨20000<b.moves.length then .error 13 else Jd b
theorem Rf {a:Aut} (h:PreA a) (hs:Srt a.start) (hf:Srt a.fin):Je a=GI (mkA a):=by
 unfold Je DT GI Jd
 show (if 2000<a.n∨20000<(mkM a.moves).length then _ else W4 (mkA a))=(if 2000<a.n∨20000<(mkM a.moves).length then _ else _)
 by_cases hb:2000<a.n∨20000<(mkM a.moves).length
 · rw [US hb,US hb]
 · rw [UR hb,UR hb,US (ZoH h hs hf (fun h=>hb (.inl h)) (fun h=>hb (.inr h)))]
section
variable {a b:Aut}
theorem EG {n:Int} {l:List Int} (h:Srt l):Srt (YW n l):=V7.2 (h.imp fun h=>oM)
theorem ZfI {l m:List Int} (hl:InS a l) (hm:InS b m) (h1:Srt l) (h2:Srt m):Srt (l++YW a.n m):=
 Vw.2 ⟨h1,EG h2,fun x hx y hy=>by
  obtain ⟨z,hz,rfl⟩:=Kg.1 hy;have:=hl x hx;have:=hm z hz;omega⟩
theorem Zjs {n:Int} {l:List Mv} (h:AscM l):AscM (KH n l):=V7.2 (h.imp fun {x y} h=>by
 rw [WJ] at h ⊢;dsimp only;omega)
theorem ZcS (ha:VOk a) (hb:VOk b):AscM (a.moves++KH a.n b.moves):=
 Vw.2 ⟨ha.ms,Zjs hb.ms,fun x hx y hy=>by
  obtain ⟨z,hz,rfl⟩:=JP.1 hy;have:=ha.mv x hx;have:=hb.mv z hz;rw [WJ];dsimp only;omega⟩
theorem ZeN (ha:VOk a) (hb:VOk b) (hs:a.syms=b.syms):Je (W5 a b)=GI (W5 a b):=by
 rw [Rf (S9 ha hb hs) (ZfI ha.st hb.st ha.ss hb.ss) (ZfI ha.fi hb.fi ha.fs hb.fs)]
 unfold mkA
 rw [show mkM (W5 a b).moves=(W5 a b).moves from ZeM (ZcS ha hb)]
theorem ZcT (ha:VOk a) (hb:VOk b) (hs:a.syms=b.syms):Je (Km a b)=GI (mkA (Km a b)):=Rf (Hp ha hb hs) ha.ss (EG hb.fs)
theorem Zhc (ha:VOk a):Je (KT a)=GI (mkA (KT a)):=Rf (PZ ha) (Vt ..) (Vt ..)
theorem P5 (a b:Aut):(Km a b).moves.length=a.moves.length+b.moves.length+a.fin.length*b.start.length:=by
 show (a.moves++KH a.n b.moves++SH a.n a.fin b.start).length=_
 rw [Xc,Xc,La,Es]
theorem ζC (ha:VOk a) (hb:VOk b) (h:2000<a.n+b.n∨20000<a.moves.length+b.moves.length+a.fin.length*b.start.length):GI (mkA (Km a b))= .error 13:=by
 unfold GI
 rw [US]
 show 2000<a.n+b.n∨20000<(mkM (Km a b).moves).length
 rw [R7 (ζn ha hb),P5];exact h
theorem Zjt (ha:VOk a):AscM (a.moves++a.start.map fun s=>(⟨a.n,s,-1⟩:Mv)):=
 Vw.2 ⟨ha.ms,V7.2 (ha.ss.imp fun {x y} h=>by rw [WJ];dsimp only;omega),fun x hx y hy=>by
  obtain ⟨z,hz,rfl⟩:=Xj.1 hy;have:=ha.mv x hx;rw [WJ];dsimp only;omega⟩
end
theorem ZlI {l:List Mv} {m:Mv} (h:AscM l) (hm:m∈l):Rx m l=l:=SB (SC h) h fun x=>by
 rw [L']
 exact ⟨fun h=>by rcases h with rfl|h<;>assumption, .inr⟩
theorem ZfJ {l:List Mv} {m:Mv} {i:Nat} (h:AscM l) (hi:i≤l.length) (h1:∀(j:Nat) (x:Mv),i≤j→l[j]? =some x→W8 m x=true) (h2:∀x,0<i→l[i-1]? =some x→W8 m x=false∧x≠m):
 Rx m l=l.take i++[m]++l.drop i:=by
 refine SB (SC h) ?_ fun x=>?_
 · have hlo:∀x∈l.take i,W8 x m=true:=fun x hx=>by
    obtain ⟨j,hj⟩:=XY hx;have hj':=(XM.1 hj).1;rw [Xo] at hj';rw [X0 oM] at hj;obtain ⟨y,hy⟩:∃y,l[i-1]? =some y:=⟨l[i-1],XW oM⟩;obtain ⟨h3,hym⟩:=h2 y oM hy;have h4:W8 y m=true:=by
     cases h5:W8 y m with
     |true=>rfl
     |false=>exact UT (PX h5 h3) hym
    by_cases hji:j=i-1
    · subst hji;rw [hj] at hy;cases hy;exact h4
    · refine TI ?_ h4;obtain ⟨h6,h7⟩:=XM.1 hj;obtain ⟨h8,h9⟩:=XM.1 hy;rw [←h7,←h9];exact Uv.1 h j (i-1) h6 h8 oM
   have hhi:∀x∈l.drop i,W8 m x=true:=fun x hx=>by
    obtain ⟨j,hj⟩:=XY hx;rw [Vj] at hj;exact h1 (i+j) x oM hj
   have hta:AscM (l.take i):=h.sublist (List.take_sublist ..);have hdr:AscM (l.drop i):=h.sublist (List.drop_sublist ..);refine Vw.2 ⟨Vw.2 ⟨hta,Vt ..,fun x hx y hy=>by rw [Xl.1 hy];exact hlo x hx⟩,hdr,fun x hx y hy=>?_⟩;rcases Xt.1 hx with hx|hx
   · exact TI (hlo x hx) (hhi y hy)
   · rw [Xl.1 hx];exact hhi y hy
 · rw [L'];constructor
   · rintro (rfl|h)
     · simp
     · rw [←VJ i l] at h;rcases Xt.1 h with h|h
       · exact XZ _ (XZ _ h)
       · exact X6 _ h
   · intro h;rcases Xt.1 h with h|h
     · rcases Xt.1 h with h|h
       · exact .inr (VO h)
       · exact .inl (Xl.1 h)
     · exact .inr (List.mem_of_mem_drop h)
def shL (m:Int) (x:Mv):List Mv:=(List.range m.toNat).map fun j=>⟨x.src*m+(j:Nat),x.dst*m+(j:Nat),x.sym⟩
def shR (n m:Int) (x:Mv):List Mv:=(List.range n.toNat).map fun i=>⟨(i:Nat)*m+x.src,(i:Nat)*m+x.dst,x.sym⟩
def shI (m:Int) (l k:List Int):List Int:=l.flatMap fun i=>YW (i*m) k
def shM (n m:Int) (l k:List Mv):List Mv:=l.flatMap (shL m)++k.flatMap (shR n m)
def Wh (a b:Aut):Aut:=⟨a.n*b.n,a.syms,shI b.n a.start b.start,shI b.n a.fin b.fin,shM a.n b.n a.moves b.moves⟩
def Le (a b:Aut):Except Int Aut:=if ¬WH a b=0 then .error (WH a b) else if 2000<a.n*b.n∨40000<(a.moves.length:Int)*b.n+(b.moves.length:Int)*a.n then .error 13 else Je (Wh a b)
theorem EH {m i j i' j':Int} (h:i<i') (h0:0≤j) (h1:j<m) (h2:0≤j'):i*m+j<i'*m+j':=by
 have h3:(i+1)*m≤i'*m:=Int.mul_le_mul_of_nonneg_right oM oM
 rw [Int.add_mul,Int.one_mul] at h3
 omega
theorem Gk {m i j i' j':Int} (h:i*m+j=i'*m+j') (h1:0≤j∧j<m) (h2:0≤j'∧j'<m):i=i'∧j=j':=by
 have h3:i=i':=by
  rcases Int.lt_trichotomy i i' with h3|h3|h3
  · have:=EH h3 h1.1 h1.2 h2.1;omega
  · exact h3
  · have:=EH h3 h2.1 h2.2 h1.1;omega
 subst h3
 exact ⟨rfl,oM⟩
theorem EI {n m i j:Int} (hi:0≤i∧i<n) (hj:0≤j∧j<m):0≤i*m+j∧i*m+j<n*m:=by
 have h3:(i+1)*m≤n*m:=Int.mul_le_mul_of_nonneg_right oM oM
 have h4:0≤i*m:=Int.mul_nonneg hi.1 oM
 rw [Int.add_mul,Int.one_mul] at h3
 omega
theorem TQ {m x:Int} {l k:List Int}:x∈shI m l k↔∃i∈l,∃j∈k,i*m+j=x:=by
 unfold shI
 simp only [XP,Kg]
 constructor
 · rintro ⟨i,h1,j,h2,h3⟩;exact ⟨i,h1,j,h2,oM⟩
 · rintro ⟨i,h1,j,h2,h3⟩;exact ⟨i,h1,j,h2,oM⟩
theorem ZaS {m:Int} {x y:Mv}:y∈shL m x↔∃j:Nat,(j:Int)<m∧(⟨x.src*m+(j:Nat),x.dst*m+(j:Nat),x.sym⟩:Mv)=y:=by
 unfold shL
 rw [Xj]
 constructor
 · rintro ⟨j,h1,h2⟩;rw [XT] at h1;exact ⟨j,oM,h2⟩
 · rintro ⟨j,h1,h2⟩;exact ⟨j,by rw [XT];omega,h2⟩
theorem ZaT {n m:Int} {x y:Mv}:y∈shR n m x↔∃i:Nat,(i:Int)<n∧(⟨(i:Nat)*m+x.src,(i:Nat)*m+x.dst,x.sym⟩:Mv)=y:=by
 unfold shR
 rw [Xj]
 constructor
 · rintro ⟨j,h1,h2⟩;rw [XT] at h1;exact ⟨j,oM,h2⟩
 · rintro ⟨j,h1,h2⟩;exact ⟨j,by rw [XT];omega,h2⟩
theorem P6 {m:Int} {l k:List Int} (hk:∀j∈k,0≤j∧j<m) (h1:Srt l) (h2:Srt k):Srt (shI m l k):=by
 induction l with
 |nil=>exact .nil
 | cons i l ih=>
   have h:=XQ.1 h1;show Srt (YW (i*m) k++shI m l k);refine Vw.2 ⟨EG h2,ih h.2,fun x hx y hy=>?_⟩;obtain ⟨j,hj,rfl⟩:=Kg.1 hx;obtain ⟨i',hi',j',hj',rfl⟩:=TQ.1 hy;have:=EH (h.1 i' hi') (hk j hj).1 (hk j hj).2 (hk j' hj').1;omega
section
variable {a b:Aut}
theorem LA {x:Mv}:x∈shM a.n b.n a.moves b.moves↔(∃y∈a.moves,∃j:Nat,(j:Int)<b.n∧(⟨y.src*b.n+(j:Nat),y.dst*b.n+(j:Nat),y.sym⟩:Mv)=x)∨∃y∈b.moves,∃i:Nat,(i:Int)<a.n∧(⟨(i:Nat)*b.n+y.src,(i:Nat)*b.n+y.dst,y.sym⟩:Mv)=x:=by
 unfold shM
 simp only [Xt,XP,ZaS,ZaT]
theorem P7 (ha:VOk a) (hb:VOk b) (hs:a.syms=b.syms):PreA (Wh a b):=by
 have h1:=ha.n0
 have h2:=hb.n0
 have hI:∀{l k:List Int},InS a l→InS b k→∀x∈shI b.n l k,0≤x∧x<a.n*b.n:=fun hl hk x hx=>by
  obtain ⟨i,hi,j,hj,rfl⟩:=TQ.1 hx;exact EI (hl i hi) (hk j hj)
 refine ⟨Int.mul_nonneg h1 h2,ha.s0,ha.s1,hI ha.st hb.st,hI ha.fi hb.fi,WV (P6 hb.st ha.ss hb.ss),WV (P6 hb.fi ha.fs hb.fs),fun x hx=>?_⟩
 rcases LA.1 hx with ⟨y,hy,j,hj,rfl⟩|⟨y,hy,i,hi,rfl⟩
 · have h3:=ha.mv y hy;have h4:=EI (m:=b.n) (n:=a.n) (i:=y.src) (j:=j) ⟨h3.1,h3.2.1⟩ ⟨oM,hj⟩;have h5:=EI (m:=b.n) (n:=a.n) (i:=y.dst) (j:=j) ⟨h3.2.2.1,h3.2.2.2.1⟩ ⟨oM,hj⟩;exact ⟨h4.1,h4.2,h5.1,h5.2,h3.2.2.2.2⟩
 · have h3:=hb.mv y hy;have h4:=EI (m:=b.n) (n:=a.n) (i:=i) (j:=y.src) ⟨oM,hi⟩ ⟨h3.1,h3.2.1⟩;have h5:=EI (m:=b.n) (n:=a.n) (i:=i) (j:=y.dst) ⟨oM,hi⟩ ⟨h3.2.2.1,h3.2.2.2.1⟩;exact ⟨h4.1,h4.2,h5.1,h5.2,h3.2.2.2.2.1,by have:=h3.2.2.2.2.2;show y.sym<a.syms;omega⟩
theorem Hq (m:Int) (x:Mv):(shL m x).length=m.toNat:=by unfold shL;simp
theorem ZaU (n m:Int) (x:Mv):(shR n m x).length=n.toNat:=by unfold shR;simp
theorem flat_len {α β:Type} {f:α→List β} {n:Nat} (h:∀x,(f x).length=n):∀l:List α,(l.flatMap f).length=l.length*n
 |[]=>sM
 |x::l=>by rw [Xz,Xc,h,flat_len h l,Xi,X5,Nat.add_comm]
theorem EJ {α β:Type} {f:α→List β} {l:List α} (hl:l.Nodup) (hf:∀x∈l,(f x).Nodup) (hd:∀x∈l,∀y∈l,∀z,z∈f x→z∈f y→x=y):(l.flatMap f).Nodup:=by
 induction l with
 |nil=>exact Vg
 | cons x l ih=>
   rw [Vd] at hl;rw [Xz];refine Tb (hf x (Xm ..)) (ih hl.2 (fun y hy=>hf y (Xn _ hy)) fun y hy z hz=>hd y (Xn _ hy) z (Xn _ hz)) fun z hz hz'=>?_;obtain ⟨y,hy,hyz⟩:=XP.1 hz';have:=hd x (Xm ..) y (Xn _ hy) z hz hyz;rw [this] at hl;exact hl.1 hy
theorem ZcU {l m:List Mv} (h:l.Nodup) (hm:∀x∈l,x∈m):l.length≤m.length:=by
 have h1:(mkM l).length≤m.length:=Zfz (Ka l) fun x hx=>hm x (WZ.1 hx)
 rw [R7 h] at h1;exact h1
theorem ζD {β:Type} {n:Nat} {f:Nat→β} (h:∀i j,f i=f j→i=j):((List.range n).map f).Nodup:=J' List.nodup_range fun x _ y _ e=>h x y e
theorem Zhd (ha:VOk a) (hb:VOk b) (h:40000<(a.moves.length:Int)*b.n+(b.moves.length:Int)*a.n):20000<(mkM (Wh a b).moves).length:=by
 have h1:=ha.n0
 have h2:=hb.n0
 have hL:(a.moves.flatMap (shL b.n)).Nodup:=EJ (G9 ha.ms) (fun x _=>ζD fun i j e=>by have:=(Mv.mk.inj e).1;omega) fun x hx y hy z hz hz'=>by
  obtain ⟨j,hj,e⟩:=ZaS.1 hz;obtain ⟨j',hj',e'⟩:=ZaS.1 hz';have e2:=Mv.mk.inj (e.trans e'.symm);have h3:=(Gk e2.1 ⟨oM,hj⟩ ⟨oM,hj'⟩).1;have h4:=(Gk e2.2.1 ⟨oM,hj⟩ ⟨oM,hj'⟩).1
  cases x;cases y;simp only [Mv.mk.injEq] at h3 h4 e2 ⊢;exact ⟨h3,h4,e2.2.2⟩
 have hR:(b.moves.flatMap (shR a.n b.n)).Nodup:=EJ (G9 hb.ms) (fun x hx=>ζD fun i j e=>by
  have h3:=hb.mv x hx;have h4:=(Gk (Mv.mk.inj e).1 ⟨h3.1,h3.2.1⟩ ⟨h3.1,h3.2.1⟩).1;omega) fun x hx y hy z hz hz'=>by
  obtain ⟨j,hj,e⟩:=ZaT.1 hz;obtain ⟨j',hj',e'⟩:=ZaT.1 hz';have h5:=hb.mv x hx;have h6:=hb.mv y hy;have e2:=Mv.mk.inj (e.trans e'.symm);have h3:=(Gk e2.1 ⟨h5.1,h5.2.1⟩ ⟨h6.1,h6.2.1⟩).2;have h4:=(Gk e2.2.1 ⟨h5.2.2.1,h5.2.2.2.1⟩ ⟨h6.2.2.1,h6.2.2.2.1⟩).2
  cases x;cases y;simp only [Mv.mk.injEq] at h3 h4 e2 ⊢;exact ⟨h3,h4,e2.2.2⟩
 have l1:=ZcU hL (m:=mkM (Wh a b).moves) fun x hx=>WZ.2 (XZ _ hx)
 have l2:=ZcU hR (m:=mkM (Wh a b).moves) fun x hx=>WZ.2 (X6 _ hx)
 rw [flat_len (Hq b.n)] at l1
 rw [flat_len (ZaU a.n b.n)] at l2
 have e1:((a.moves.length*b.n.toNat:Nat):Int)=a.moves.length*b.n:=by rw [Vy,X1 h2]
 have e2:((b.moves.length*a.n.toNat:Nat):Int)=b.moves.length*a.n:=by rw [Vy,X1 h1]
 omega
theorem Zhe (ha:VOk a) (hb:VOk b) (hs:a.syms=b.syms) (hf:WH a b=0):Le a b=if 2000<a.n*b.n then .error 13 else GI (mkA (Wh a b)):=by
 unfold Le
 rw [UR (fun h=>h hf),←Rf (P7 ha hb hs) (P6 hb.st ha.ss hb.ss) (P6 hb.fi ha.fs hb.fs)]
 by_cases h1:2000<a.n*b.n
 · rw [US (.inl h1),US h1]
 · rw [UR h1];by_cases h2:40000<(a.moves.length:Int)*b.n+(b.moves.length:Int)*a.n
   · rw [US (.inr h2)];unfold Je DT;rw [US (.inr (Zhd ha hb h2))]
   · rw [UR (fun h=>h.elim h1 h2)]
def apA (m:Int) (i j:Nat) (l:List Mv):List Mv:=(l.filter fun x=>decide (x.src=(i:Int))).map fun x=>⟨(i:Nat)*m+(j:Nat),x.dst*m+(j:Nat),x.sym⟩
def apB (m:Int) (i j:Nat) (l:List Mv):List Mv:=(l.filter fun x=>decide (x.src=(j:Int))).map fun x=>⟨(i:Nat)*m+(j:Nat),(i:Nat)*m+x.dst,x.sym⟩
def DX (a b:Aut) (i j:Nat):List Mv:=mkM (apA b.n i j a.moves++apB b.n i j b.moves)
def Lf (a b:Aut) (i J:Nat):List Mv:=(List.range J).flatMap (DX a b i)
def Gd (a b:Aut) (I:Nat):List Mv:=(List.range I).flatMap fun i=>Lf a b i b.n.toNat
def Lh (m:Int) (l k:List Int) (i j:Nat):List Int:=if LI l (i:Nat)&&LI k (j:Nat) then [(i:Nat)*m+(j:Nat)] else []
def Jf (m:Int) (l k:List Int) (i J:Nat):List Int:=(List.range J).flatMap (Lh m l k i)
def KC (m:Int) (l k:List Int) (I:Nat):List Int:=(List.range I).flatMap fun i=>Jf m l k i m.toNat
theorem flat_snoc {β:Type} (f:Nat→List β) (n:Nat):(List.range (n+1)).flatMap f=(List.range n).flatMap f++f n:=by rw [V9,XN,VM]
theorem ZcV {i j:Nat} {x:Mv}:x∈DX a b i j↔(∃y∈a.moves,y.src=(i:Nat)∧(⟨(i:Nat)*b.n+(j:Nat),y.dst*b.n+(j:Nat),y.sym⟩:Mv)=x)∨∃y∈b.moves,y.src=(j:Nat)∧(⟨(i:Nat)*b.n+(j:Nat),(i:Nat)*b.n+y.dst,y.sym⟩:Mv)=x:=by
 unfold DX apA apB
 simp only [WZ,Xt,Xj,Vo,UO,and_assoc]
theorem ZaV {i j:Nat} {x:Mv} (h:x∈DX a b i j):x.src=(i:Nat)*b.n+(j:Nat):=by
 rcases ZcV.1 h with ⟨y,_,_,rfl⟩|⟨y,_,_,rfl⟩<;>rfl
theorem ZcW {f:Nat→List Mv} {n:Nat} (h1:∀i,i<n→AscM (f i)) (h2:∀i j x y,i<j→j<n→x∈f i→y∈f j→W8 x y=true):AscM ((List.range n).flatMap f):=by
 induction n with
 |zero=>exact .nil
 | succ n ih=>
   rw [flat_snoc];refine Vw.2 ⟨ih (fun i hi=>h1 i oM) fun i j x y hij hj=>h2 i j x y hij oM,h1 n oM,fun x hx y hy=>?_⟩;obtain ⟨i,hi,hx⟩:=XP.1 hx;rw [XT] at hi;exact h2 i n x y hi oM hx hy
theorem ZfK {i J:Nat} {x:Mv} (h:x∈Lf a b i J):∃j,j<J∧x.src=(i:Nat)*b.n+(j:Nat):=by
 obtain ⟨j,hj,hx⟩:=XP.1 h
 rw [XT] at hj
 exact ⟨j,hj,ZaV hx⟩
theorem Zju (I:Nat):AscM (Gd a b I):=by
 refine ZcW (fun i _=>ZcW (fun j _=>Ka _) fun j j' x y hj hj' hx hy=>?_) fun i i' x y hi hi' hx hy=>?_
 · rw [WJ,ZaV hx,ZaV hy];omega
 · obtain ⟨j,hj,e⟩:=ZfK hx;obtain ⟨j',hj',e'⟩:=ZfK hy;rw [WJ,e,e'];exact .inl (EH oM oM oM oM)
theorem ZlJ (ha:VOk a) (hb:VOk b):Gd a b a.n.toNat=mkM (Wh a b).moves:=by
 refine OF (Zju _) fun x=>?_
 show _↔x∈shM a.n b.n a.moves b.moves
 rw [LA]
 unfold Gd Lf
 simp only [XP,XT,ZcV]
 constructor
 · rintro ⟨i,hi,j,hj,⟨y,hy,hs,rfl⟩|⟨y,hy,hs,rfl⟩⟩
   · exact .inl ⟨y,hy,j,oM,by rw [hs]⟩
   · exact .inr ⟨y,hy,i,oM,by rw [hs]⟩
 · rintro (⟨y,hy,j,hj,rfl⟩|⟨y,hy,i,hi,rfl⟩)
   · have h3:=ha.mv y hy;have e:((y.src.toNat:Nat):Int)=y.src:=X1 h3.1;exact ⟨y.src.toNat,oM,j,oM, .inl ⟨y,hy,e.symm,by rw [e]⟩⟩
   · have h3:=hb.mv y hy;have e:((y.src.toNat:Nat):Int)=y.src:=X1 h3.1;exact ⟨i,oM,y.src.toNat,oM, .inr ⟨y,hy,e.symm,by rw [e]⟩⟩
theorem Te {m:Int} {l k:List Int} {i j:Nat} {x:Int}:x∈Lh m l k i j↔(i:Int)∈l∧(j:Int)∈k∧(i:Nat)*m+(j:Nat)=x:=by
 unfold Lh
 split
 · rename_i h;rw [Xf,Jb,Jb] at h;rw [Xl];exact ⟨fun e=>⟨h.1,h.2,e.symm⟩,fun e=>e.2.2.symm⟩
 · rename_i h;rw [Xf,Jb,Jb] at h;exact ⟨fun e=>(by cases e),fun e=>UT ⟨e.1,e.2.1⟩ h⟩
theorem ZcX {f:Nat→List Int} {n:Nat} (h1:∀i,i<n→Srt (f i)) (h2:∀i j x y,i<j→j<n→x∈f i→y∈f j→x<y):Srt ((List.range n).flatMap f):=by
 induction n with
 |zero=>exact .nil
 | succ n ih=>
   rw [flat_snoc];refine Vw.2 ⟨ih (fun i hi=>h1 i oM) fun i j x y hij hj=>h2 i j x y hij oM,h1 n oM,fun x hx y hy=>?_⟩;obtain ⟨i,hi,hx⟩:=XP.1 hx;rw [XT] at hi;exact h2 i n x y hi oM hx hy
theorem ZfL {n m:Int} {l k:List Int} (hl:∀i∈l,0≤i∧i<n) (hk:∀j∈k,0≤j∧j<m) (h1:Srt l) (h2:Srt k):KC m l k n.toNat=shI m l k:=by
 refine S5 (ZcX (fun i _=>ZcX (fun j _=>?_) fun j j' x y hj hj' hx hy=>?_) fun i i' x y hi hi' hx hy=>?_) (P6 hk h1 h2) fun x=>?_
 · unfold Lh;split
   · exact Vt ..
   · exact .nil
 · obtain ⟨_,_,rfl⟩:=Te.1 hx;obtain ⟨_,_,rfl⟩:=Te.1 hy;omega
 · obtain ⟨j,hj,hx⟩:=XP.1 hx;obtain ⟨j',hj',hy⟩:=XP.1 hy;rw [XT] at hj hj';obtain ⟨_,_,rfl⟩:=Te.1 hx;obtain ⟨_,_,rfl⟩:=Te.1 hy;exact EH oM oM oM oM
 · rw [TQ];unfold KC Jf;simp only [XP,XT,Te];constructor
   · rintro ⟨i,hi,j,hj,h3,h4,rfl⟩;exact ⟨_,h3,_,h4,rfl⟩
   · rintro ⟨i,hi,j,hj,rfl⟩;have h3:=hl i hi;have h4:=hk j hj;have e1:((i.toNat:Nat):Int)=i:=X1 h3.1;have e2:((j.toNat:Nat):Int)=j:=X1 h4.1;exact ⟨i.toNat,oM,j.toNat,oM,by rw [e1];exact hi,by rw [e2];exact hj,by rw [e1,e2]⟩
theorem ZlK {m:Int} {i j:Nat} {l:List Mv} {k:Nat} {x:Mv} (h:l[k]? =some x) (hs:x.src=(i:Nat)):apA m i j (l.take (k+1))=apA m i j (l.take k)++[⟨(i:Nat)*m+(j:Nat),x.dst*m+(j:Nat),x.sym⟩]:=by
 unfold apA
 rw [ZT h,XV,Xu,UL (by simpa using hs)];rfl
theorem ZnK {m:Int} {i j:Nat} {l:List Mv} {k:Nat} {x:Mv} (h:l[k]? =some x) (hs:¬x.src=(i:Nat)):apA m i j (l.take (k+1))=apA m i j (l.take k):=by
 unfold apA
 rw [ZT h,XV,UK (by simpa using hs)];simp
theorem ZlL {m:Int} {i j:Nat} {l:List Mv} {k:Nat} {x:Mv} (h:l[k]? =some x) (hs:x.src=(j:Nat)):apB m i j (l.take (k+1))=apB m i j (l.take k)++[⟨(i:Nat)*m+(j:Nat),(i:Nat)*m+x.dst,x.sym⟩]:=by
 unfold apB
 rw [ZT h,XV,Xu,UL (by simpa using hs)];rfl
theorem ZnL {m:Int} {i j:Nat} {l:List Mv} {k:Nat} {x:Mv} (h:l[k]? =some x) (hs:¬x.src=(j:Nat)):apB m i j (l.take (k+1))=apB m i j (l.take k):=by
 unfold apB
 rw [ZT h,XV,UK (by simpa using hs)];simp
theorem Zjv {I:Nat} {J:Nat} (hI:I<a.n.toNat) (hJ:J≤b.n.toNat):(Gd a b I++Lf a b I J).length≤(Gd a b a.n.toNat).length:=by
 have h1:∀(f:Nat→List Mv) {p q:Nat},p≤q→((List.range p).flatMap f).length≤((List.range q).flatMap f).length:=fun f p q h=>by
  induction q with
  |zero=>rw [Nat.le_zero.1 h];exact Xg _
  | succ q ih=>
    rcases XD q p with h2|h2
    · rw [show p=q+1 by omega];exact Xg _
    · rw [flat_snoc,Xc];have:=ih h2;omega
 have h2:=h1 (DX a b I) hJ
 have h3:=h1 (fun i=>Lf a b i b.n.toNat) (show I+1≤a.n.toNat from hI)
 rw [flat_snoc,Xc] at h3
 rw [Xc]
 unfold Gd Lf at*
 omega
end
section
variable {a b:Aut}
theorem EK {X a:Aut} {n:Int} (hX:∀(s:Int) (m:Mv),0≤s∧s<a.n→m∈X.moves→m.src=s+n→∃m'∈a.moves,m'.src=s∧m.dst=m'.dst+n∧m.sym=m'.sym) (ha:∀m∈a.moves,0≤m.dst∧m.dst<a.n) {s y:Int} {w:List Int} (hs:0≤s∧s<a.n) (h:Pth X (s+n) w y):∃t,y=t+n∧(0≤t∧t<a.n)∧Pth a s w t:=by
 generalize e:s+n=x at h
 induction h generalizing s with
 |nil x=>exact ⟨s,e.symm,hs, .nil s⟩
 | eps hm h1 _ ih=>
   obtain ⟨m',h2,h3,h4,h5⟩:=hX s _ hs hm e.symm;obtain ⟨t,h6,h7,h8⟩:=ih (ha m' h2) h4.symm;exact ⟨t,h6,h7,h3▸Pth.eps h2 (by rw [←h5];exact h1) h8⟩
 | sym hm h1 _ ih=>
   obtain ⟨m',h2,h3,h4,h5⟩:=hX s _ hs hm e.symm;obtain ⟨t,h6,h7,h8⟩:=ih (ha m' h2) h4.symm;refine ⟨t,h6,h7,?_⟩;rw [h5];exact h3▸Pth.sym h2 (by rw [←h5];exact h1) h8
theorem EL {X a:Aut} {n:Int} (hX:∀m∈a.moves,(⟨m.src+n,m.dst+n,m.sym⟩:Mv)∈X.moves) {s t:Int} {w:List Int} (h:Pth a s w t):Pth X (s+n) w (t+n):=by
 induction h with
 |nil x=>exact .nil _
 |eps hm h1 _ ih=>exact .eps (hX _ hm) h1 ih
 |sym hm h1 _ ih=>exact .sym (hX _ hm) h1 ih
theorem ζE (ha:VOk a) {x:Int} {m:Mv} {l:List Mv} (hl:∀m∈l,m.src<a.n) (hx:0≤x) (hm:m∈a.moves++KH a.n b.moves++l) (hs:m.src=x+a.n):∃m'∈b.moves,m'.src=x∧m.dst=m'.dst+a.n∧m.sym=m'.sym:=by
 rcases Xt.1 hm with hm|hm
 · rcases Xt.1 hm with hm|hm
   · have:=ha.mv m hm;omega
   · obtain ⟨y,hy,rfl⟩:=JP.1 hm;exact ⟨y,hy,by dsimp only at hs;omega,rfl,rfl⟩
 · have:=hl m hm;omega
theorem Zhf (ha:VOk a) (hb:VOk b) {w:List Int}:Lng (W5 a b) w↔Lng a w∨Lng b w:=by
 have hmL:∀(s:Int) (m:Mv),0≤s∧s<a.n→m∈(W5 a b).moves→m.src=s+0→∃m'∈a.moves,m'.src=s∧m.dst=m'.dst+0∧m.sym=m'.sym:=fun s m hs hm e=>by
  rcases Xt.1 (show m∈a.moves++KH a.n b.moves from hm) with hm|hm
  · exact ⟨m,hm,oM,oM,rfl⟩
  · obtain ⟨y,hy,rfl⟩:=JP.1 hm;have:=hb.mv y hy;dsimp only at e;omega
 have hmR:∀(s:Int) (m:Mv),0≤s∧s<b.n→m∈(W5 a b).moves→m.src=s+a.n→∃m'∈b.moves,m'.src=s∧m.dst=m'.dst+a.n∧m.sym=m'.sym:=fun s m hs hm e=>ζE (l:=[]) ha (fun m hm=>by cases hm) hs.1 (by rw [Xq];exact hm) e
 have hinA:∀m∈a.moves,(⟨m.src+0,m.dst+0,m.sym⟩:Mv)∈(W5 a b).moves:=fun m hm=>by
  rw [Ui,Ui];exact XZ _ hm
 have hinB:∀m∈b.moves,(⟨m.src+a.n,m.dst+a.n,m.sym⟩:Mv)∈(W5 a b).moves:=fun m hm=>X6 _ (JP.2 ⟨m,hm,rfl⟩)
 have hda:∀m∈a.moves,0≤m.dst∧m.dst<a.n:=fun m hm=>by have:=ha.mv m hm;omega
 have hdb:∀m∈b.moves,0≤m.dst∧m.dst<b.n:=fun m hm=>by have:=hb.mv m hm;omega
 constructor
 · rintro ⟨s,hs,f,hf,h⟩;rcases Xt.1 (show s∈a.start++YW a.n b.start from hs) with hs|hs
   · obtain ⟨t,e,h1,h2⟩:=EK (n:=0) hmL hda (ha.st s hs) (by rw [Ui];exact h);rw [Ui] at e;subst e;rcases Xt.1 (show f∈a.fin++YW a.n b.fin from hf) with hf|hf
     · exact .inl ⟨s,hs,f,hf,h2⟩
     · obtain ⟨y,hy,rfl⟩:=Kg.1 hf;have:=hb.fi y hy;omega
   · obtain ⟨y,hy,rfl⟩:=Kg.1 hs;obtain ⟨t,rfl,h1,h2⟩:=EK hmR hdb (hb.st y hy) h;rcases Xt.1 (show t+a.n∈a.fin++YW a.n b.fin from hf) with hf|hf
     · have:=ha.fi _ hf;omega
     · obtain ⟨z,hz,e⟩:=Kg.1 hf;have:z=t:=oM;subst this;exact .inr ⟨y,hy,z,hz,h2⟩
 · rintro (⟨s,hs,f,hf,h⟩|⟨s,hs,f,hf,h⟩)
   · have:=EL (n:=0) hinA h;rw [Ui,Ui] at this;exact ⟨s,XZ _ hs,f,XZ _ hf,this⟩
   · exact ⟨s+a.n,X6 _ (Kg.2 ⟨s,hs,rfl⟩),f+a.n,X6 _ (Kg.2 ⟨f,hf,rfl⟩),EL hinB h⟩
theorem Zjw {m:Mv} (ha:VOk a) (hb:VOk b) (hm:m∈(Km a b).moves) (hs:m.src<a.n):m∈a.moves∨∃f∈a.fin,∃s∈b.start,(⟨f,s+a.n,-1⟩:Mv)=m:=by
 rcases Xt.1 (show m∈a.moves++KH a.n b.moves++SH a.n a.fin b.start from hm) with hm|hm
 · rcases Xt.1 hm with hm|hm
   · exact .inl hm
   · obtain ⟨y,hy,rfl⟩:=JP.1 hm;have:=hb.mv y hy;dsimp only at hs;omega
 · exact .inr (Tc.1 hm)
theorem Zhg (ha:VOk a) (hb:VOk b) {s y:Int} {w:List Int} (hs:0≤s∧s<b.n) (h:Pth (Km a b) (s+a.n) w y):∃t,y=t+a.n∧Pth b s w t:=by
 obtain ⟨t,h1,_,h2⟩:=EK (X:=Km a b) (a:=b) (n:=a.n) (fun s m hs hm e=>ζE (l:=SH a.n a.fin b.start) ha (fun m hm=>by
  obtain ⟨f,hf,s,_,rfl⟩:=Tc.1 hm;exact (ha.fi f hf).2) hs.1 hm e) (fun m hm=>by have:=hb.mv m hm;omega) hs h
 exact ⟨t,h1,h2⟩
theorem Zjx (ha:VOk a) (hb:VOk b) {s y:Int} {w:List Int} (hs:s<a.n) (hy:a.n≤y) (h:Pth (Km a b) s w y):∃u v f s',w=u++v∧Pth a s u f∧f∈a.fin∧s'∈b.start∧Pth (Km a b) (s'+a.n) v y:=by
 induction h with
 |nil x=>omega
 | eps hm h1 h ih=>
   rcases Zjw ha hb hm hs with h2|⟨f,hf,s',hs',rfl⟩
   · obtain ⟨u,v,f,s',e,h3,h4⟩:=ih (by have:=ha.mv _ h2;omega) hy;exact ⟨u,v,f,s',e, .eps h2 h1 h3,h4⟩
   · exact ⟨[],_,f,s',rfl, .nil _,hf,hs',h⟩
 | sym hm h1 h ih=>
   rcases Zjw ha hb hm hs with h2|⟨f,hf,s',hs',rfl⟩
   · obtain ⟨u,v,f,s',e,h3,h4⟩:=ih (by have:=ha.mv _ h2;omega) hy;exact ⟨_::u,v,f,s',by rw [e];rfl, .sym h2 h1 h3,h4⟩
   · exact UT rfl h1
theorem ZlM (ha:VOk a) (hb:VOk b) {w:List Int}:Lng (Km a b) w↔∃u v,w=u++v∧Lng a u∧Lng b v:=by
 constructor
 · rintro ⟨s,hs,f,hf,h⟩;obtain ⟨y,hy,rfl⟩:=Kg.1 (show f∈YW a.n b.fin from hf);have hyb:=hb.fi y hy;obtain ⟨u,v,f,s',e,h1,h2,h3,h4⟩:=Zjx ha hb (ha.st s hs).2 oM h;obtain ⟨t,e2,h5⟩:=Zhg ha hb (hb.st s' h3) h4;have:t=y:=oM;subst this;exact ⟨u,v,e,⟨s,hs,f,h2,h1⟩,⟨s',h3,t,hy,h5⟩⟩
 · rintro ⟨u,v,rfl,⟨s,hs,f,hf,h⟩,⟨s',hs',f',hf',h'⟩⟩;refine ⟨s,hs,f'+a.n,Kg.2 ⟨f',hf',rfl⟩,?_⟩;have h1:Pth (Km a b) s u f:=h.mono fun m hm=>XZ _ (XZ _ hm);have h2:Pth (Km a b) (s'+a.n) v (f'+a.n):=EL (fun m hm=>XZ _ (X6 _ (JP.2 ⟨m,hm,rfl⟩))) h';have h3:Pth (Km a b) f v (f'+a.n):=Pth.eps (m:=⟨f,s'+a.n,-1⟩) (X6 _ (Tc.2 ⟨f,hf,s',hs',rfl⟩)) rfl h2;exact h1.app h3
inductive Star (L:List Int→Prop):List Int→Prop
 |nil:Star L []
 |app {u v:List Int} (h:L u) (h':Star L v):Star L (u++v)
theorem Tf {m:Mv}:m∈(KT a).moves↔m∈a.moves∨(∃s∈a.start,(⟨a.n,s,-1⟩:Mv)=m)∨∃s∈a.fin,(⟨s,a.n,-1⟩:Mv)=m:=by
 show m∈a.moves++(a.start.map fun s=>(⟨a.n,s,-1⟩:Mv))++a.fin.map (fun s=>(⟨s,a.n,-1⟩:Mv))↔_
 simp only [Xt,Xj,or_assoc]
theorem Zjy (ha:VOk a) {x y:Int} {w:List Int} (h:Pth (KT a) x w y) (hy:y=a.n):(x=a.n→Star (Lng a) w)∧(x<a.n→∃u v f,w=u++v∧f∈a.fin∧Pth a x u f∧Star (Lng a) v):=by
 induction h with
 |nil x=>exact ⟨fun _=> .nil,fun h=>oM⟩
 | eps hm h1 _ ih=>
   have ih:=ih hy;refine ⟨fun e=>?_,fun e=>?_⟩
   · rcases Tf.1 hm with h2|⟨s,hs,rfl⟩|⟨s,hs,rfl⟩
     · have:=ha.mv _ h2;omega
     · obtain ⟨u,v,f,rfl,hf,h3,h4⟩:=ih.2 (ha.st s hs).2;exact .app ⟨s,hs,f,hf,h3⟩ h4
     · have:=ha.fi s hs;dsimp only at e;omega
   · rcases Tf.1 hm with h2|⟨s,hs,rfl⟩|⟨s,hs,rfl⟩
     · obtain ⟨u,v,f,e2,hf,h3,h4⟩:=ih.2 (by have:=ha.mv _ h2;omega);exact ⟨u,v,f,e2,hf, .eps h2 h1 h3,h4⟩
     · dsimp only at e;omega
     · exact ⟨[],_,s,rfl,hs, .nil _,ih.1 rfl⟩
 | sym hm h1 _ ih=>
   have ih:=ih hy;rcases Tf.1 hm with h2|⟨s,hs,rfl⟩|⟨s,hs,rfl⟩
   · refine ⟨fun e=>by have:=ha.mv _ h2;omega,fun e=>?_⟩;obtain ⟨u,v,f,e2,hf,h3,h4⟩:=ih.2 (by have:=ha.mv _ h2;omega);exact ⟨_::u,v,f,by rw [e2];rfl,hf, .sym h2 h1 h3,h4⟩
   · exact UT rfl h1
   · exact UT rfl h1
theorem Zjz (ha:VOk a) {w:List Int}:Lng (KT a) w↔Star (Lng a) w:=by
 constructor
 · rintro ⟨s,hs,f,hf,h⟩;have hs:s=a.n:=Xl.1 hs;have hf:f=a.n:=Xl.1 hf;exact (Zjy ha h hf).1 hs
 · intro h;refine ⟨a.n,Xl.2 rfl,a.n,Xl.2 rfl,?_⟩;induction h with
   |nil=>exact .nil _
   | app h _ ih=>
     obtain ⟨s,hs,f,hf,h⟩:=h;have h1:Pth (KT a) s _ f:=h.mono fun m hm=>Tf.2 (.inl hm);have h2:Pth (KT a) f _ a.n:=Pth.eps (m:=⟨f,a.n,-1⟩) (Tf.2 (.inr (.inr ⟨f,hf,rfl⟩))) rfl ih;exact Pth.eps (m:=⟨a.n,s,-1⟩) (Tf.2 (.inr (.inl ⟨s,hs,rfl⟩))) rfl (h1.app h2)
inductive Mix:List Int→List Int→List Int→Prop
 |nil:Mix [] [] []
 |one {w u v:List Int} (c:Int) (h:Mix w u v):Mix (c::w) (c::u) v
 |two {w u v:List Int} (c:Int) (h:Mix w u v):Mix (c::w) u (c::v)
theorem ZjA (ha:VOk a) (hb:VOk b) {x y:Int} {w:List Int} (h:Pth (Wh a b) x w y):∀i j,(0≤i∧i<a.n)→(0≤j∧j<b.n)→x=i*b.n+j→∃i' j' u v,(0≤i'∧i'<a.n)∧(0≤j'∧j'<b.n)∧y=i'*b.n+j'∧Mix w u v∧Pth a i u i'∧Pth b j v j':=by
 induction h with
 |nil x=>exact fun i j hi hj e=>⟨i,j,[],[],hi,hj,e, .nil, .nil _, .nil _⟩
 | eps hm h1 _ ih=>
   intro i j hi hj e;rcases LA.1 hm with ⟨z,hz,k,hk,rfl⟩|⟨z,hz,k,hk,rfl⟩
   · have h2:=ha.mv z hz;obtain ⟨rfl,e2⟩:=Gk e ⟨oM,hk⟩ hj;obtain ⟨i',j',u,v,h3,h4,h5,h6,h7,h8⟩:=ih z.dst k ⟨h2.2.2.1,h2.2.2.2.1⟩ ⟨oM,hk⟩ rfl;exact ⟨i',j',u,v,h3,h4,h5,h6, .eps hz h1 h7,e2▸h8⟩
   · have h2:=hb.mv z hz;obtain ⟨e2,rfl⟩:=Gk e ⟨h2.1,h2.2.1⟩ hj;obtain ⟨i',j',u,v,h3,h4,h5,h6,h7,h8⟩:=ih k z.dst ⟨oM,hk⟩ ⟨h2.2.2.1,h2.2.2.2.1⟩ rfl;exact ⟨i',j',u,v,h3,h4,h5,h6,e2▸h7, .eps hz h1 h8⟩
 | sym hm h1 _ ih=>
   intro i j hi hj e;rcases LA.1 hm with ⟨z,hz,k,hk,rfl⟩|⟨z,hz,k,hk,rfl⟩
   · have h2:=ha.mv z hz;obtain ⟨rfl,e2⟩:=Gk e ⟨oM,hk⟩ hj;obtain ⟨i',j',u,v,h3,h4,h5,h6,h7,h8⟩:=ih z.dst k ⟨h2.2.2.1,h2.2.2.2.1⟩ ⟨oM,hk⟩ rfl;exact ⟨i',j',_::u,v,h3,h4,h5, .one _ h6, .sym hz h1 h7,e2▸h8⟩
   · have h2:=hb.mv z hz;obtain ⟨e2,rfl⟩:=Gk e ⟨h2.1,h2.2.1⟩ hj;obtain ⟨i',j',u,v,h3,h4,h5,h6,h7,h8⟩:=ih k z.dst ⟨oM,hk⟩ ⟨h2.2.2.1,h2.2.2.2.1⟩ rfl;exact ⟨i',j',u,_::v,h3,h4,h5, .two _ h6,e2▸h7, .sym hz h1 h8⟩
theorem EM (hb:VOk b) {i i' j:Int} {u:List Int} (hj:0≤j∧j<b.n) (h:Pth a i u i'):Pth (Wh a b) (i*b.n+j) u (i'*b.n+j):=by
 have e:((j.toNat:Nat):Int)=j:=X1 hj.1
 induction h with
 |nil s=>exact .nil _
 | @eps m w t hm h1 _ ih=>exact Pth.eps (m:=⟨m.src*b.n+j,m.dst*b.n+j,m.sym⟩) (LA.2 (.inl ⟨m,hm,j.toNat,oM,by rw [e]⟩)) h1 ih
 | @sym m w t hm h1 _ ih=>exact Pth.sym (m:=⟨m.src*b.n+j,m.dst*b.n+j,m.sym⟩) (LA.2 (.inl ⟨m,hm,j.toNat,oM,by rw [e]⟩)) h1 ih
theorem OO {i j j':Int} {u:List Int} (hi:0≤i∧i<a.n) (h:Pth b j u j'):Pth (Wh a b) (i*b.n+j) u (i*b.n+j'):=by
 have e:((i.toNat:Nat):Int)=i:=X1 hi.1
 induction h with
 |nil s=>exact .nil _
 | @eps m w t hm h1 _ ih=>exact Pth.eps (m:=⟨i*b.n+m.src,i*b.n+m.dst,m.sym⟩) (LA.2 (.inr ⟨m,hm,i.toNat,oM,by rw [e]⟩)) h1 ih
 | @sym m w t hm h1 _ ih=>exact Pth.sym (m:=⟨i*b.n+m.src,i*b.n+m.dst,m.sym⟩) (LA.2 (.inr ⟨m,hm,i.toNat,oM,by rw [e]⟩)) h1 ih
theorem ZnM (ha:AOk a) {s t:Int} {w:List Int} (h:Pth a s w t) (hs:0≤s∧s<a.n):0≤t∧t<a.n:=by
 induction h with
 |nil s=>exact hs
 |eps hm _ _ ih=>exact ih (by have:=ha.mv _ hm;omega)
 |sym hm _ _ ih=>exact ih (by have:=ha.mv _ hm;omega)
theorem ZjB (ha:VOk a) (hb:VOk b) {w u v:List Int} (hm:Mix w u v):∀{i i' j j':Int},(0≤i∧i<a.n)→(0≤j∧j<b.n)→Pth a i u i'→Pth b j v j'→Pth (Wh a b) (i*b.n+j) w (i'*b.n+j'):=by
 induction hm with
 | nil=>
   intro i i' j j' hi hj h1 h2;have h3:=(EM hb hj h1).app (OO (ZnM ha.toAOk h1 hi) h2);exact h3
 | one c _ ih=>
   intro i i' j j' hi hj h1 h2;obtain ⟨m,hm,h3,rfl,h4,h5⟩:=h1.cons;have h6:=ha.mv m hm;have h7:Pth a m.src [m.sym] m.dst:= .sym hm h4 (.nil _);have h8:=(EM hb hj h3).app ((EM hb hj h7).app (ih ⟨h6.2.2.1,h6.2.2.2.1⟩ hj h5 h2));exact h8
 | two c _ ih=>
   intro i i' j j' hi hj h1 h2;obtain ⟨m,hm,h3,rfl,h4,h5⟩:=h2.cons;have h6:=hb.mv m hm;have h7:Pth b m.src [m.sym] m.dst:= .sym hm h4 (.nil _);have h8:=(OO hi h3).app ((OO hi h7).app (ih hi ⟨h6.2.2.1,h6.2.2.2.1⟩ h1 h5));exact h8
theorem ZjC (ha:VOk a) (hb:VOk b) {w:List Int}:Lng (Wh a b) w↔∃u v,Mix w u v∧Lng a u∧Lng b v:=by
 constructor
 · rintro ⟨s,hs,f,hf,h⟩;obtain ⟨i,hi,j,hj,rfl⟩:=TQ.1 (show s∈shI b.n a.start b.start from hs);obtain ⟨i',hi',j',hj',rfl⟩:=TQ.1 (show f∈shI b.n a.fin b.fin from hf);obtain ⟨i2,j2,u,v,h1,h2,h3,h4,h5,h6⟩:=ZjA ha hb h i j (ha.st i hi) (hb.st j hj) rfl;obtain ⟨rfl,rfl⟩:=Gk h3 (hb.fi j' hj') h2;exact ⟨u,v,h4,⟨i,hi,i',hi',h5⟩,⟨j,hj,j',hj',h6⟩⟩
 · rintro ⟨u,v,hm,⟨i,hi,i',hi',h5⟩,⟨j,hj,j',hj',h6⟩⟩;exact ⟨_,TQ.2 ⟨i,hi,j,hj,rfl⟩,_,TQ.2 ⟨i',hi',j',hj',rfl⟩,ZjB ha hb hm (ha.st i hi) (hb.st j hj) h5 h6⟩
end
section
variable {α κ:Type} [DecidableEq κ] {W:Srch α κ}
def Srch.Born (W:Srch α κ) (o:List α):Prop:=∀j x,0<j→o[j]? =some x→∃i y s,i<j∧o[i]? =some y∧s<W.m∧x=W.step i y s
theorem Srch.Born.visit {o o':List α} {i s n:Nat} {y:α} (h:W.Born o) (hy:o[i]? =some y) (hs:s<W.m) (hv:visit W.key W.cap o (W.step i y s)=some (o',n)):W.Born o':=by
 unfold Go.Proofs.YtgfabnhpllkebaaGreatDoor.visit at hv
 split at hv
 · cases hv;exact h
 · split at hv
   · cases hv
   · cases hv;intro j x hj hx;rw [V8] at hx;split at hx
     · obtain ⟨i',y',s',h1,h2,h3,h4⟩:=h j x hj hx;exact ⟨i',y',s',h1,Kd (Us ..) h2,h3,h4⟩
     · rename_i hjl;have h1:=Zf hx;rw [Xx] at h1;rw [show j-o.length=0 by omega,Vu] at hx
       cases hx;exact ⟨i,y,s,by have:=Zf hy;omega,Kd (Us ..) hy,hs,rfl⟩
theorem Srch.Born.row {o:List α} {i:Nat} {y:α} (h:W.Born o) (hy:o[i]? =some y):∀{s:Nat} {o':List α} {r:List Nat},s≤W.m→W.row i y o s=some (o',r)→W.Born o'∧o<+:o'
 | 0,o',r,_,hr=>by
   rw [Srch.row] at hr;cases hr;exact ⟨h,Vv _⟩
 | s+1,o',r,hs,hr=>by
   rw [Srch.row,XU] at hr;obtain ⟨⟨o1,r1⟩,h1,h2⟩:=hr;obtain ⟨⟨o2,n⟩,h3,h4⟩:=XA.1 h2
   cases h4;obtain ⟨h5,h6⟩:=Srch.Born.row h hy oM h1;exact ⟨h5.visit (Kd h6 hy) oM h3,h6.trans (Oz h3).1⟩
theorem Srch.born {x0:α}:∀{i:Nat} {o:List α} {rows:List (List Nat)},W.upto x0 i=some (o,rows)→W.Born o
 | 0,o,rows,h=>by
   rw [Srch.upto] at h;cases h;intro j x hj hx;have:=Zf hx;rw [Xx] at this;omega
 | i +1,o,rows,h=>by
   rw [Srch.upto,XU] at h;obtain ⟨⟨o1,rows1⟩,h1,h2⟩:=h;have h3:=Srch.born h1;dsimp only at h2
   cases hx:o1[i]? with
   |none=>rw [hx] at h2;cases h2;exact h3
   | some x=>
     rw [hx] at h2;obtain ⟨⟨o2,r⟩,h5,h6⟩:=XA.1 h2
     cases h6;exact (h3.row hx (Xg _) h5).1
end
def ZlN (par:List (Int×Int)):Prop:=∀(j:Nat) (x:Int×Int),par[j]? =some x→x.1<(j:Int)
theorem EN {par:List (Int×Int)} (h:ZlN par):∀(f g i:Nat),i<f→i<g→SD par f i=SD par g i
 |0,_,_,h1,_=>oM
 |f+1,0,_,_,h2=>oM
 | f +1,g+1,i,h1,h2=>by
   rw [SD,SD]
   cases hx:par[i]? with
   |none=>rfl
   | some x=>
     dsimp only;have:=h i x hx;by_cases h0:x.1<0
     · rw [US h0,US h0]
     · rw [UR h0,UR h0,EN h f g x.1.toNat oM oM]
def P8 (par:List (Int×Int)) (i:Nat):List Int:=SD par (i+1) i
theorem ZcY {par:List (Int×Int)} {i:Nat} {x:Int×Int} (hx:par[i]? =some x) (h0:x.1<0):P8 par i=[]:=by
 unfold P8;rw [SD,hx];dsimp only;rw [US h0]
theorem ZfM {par:List (Int×Int)} (h:ZlN par) {i:Nat} {x:Int×Int} (hx:par[i]? =some x) (h0:¬x.1<0):P8 par i=P8 par x.1.toNat++[x.2]:=by
 unfold P8;rw [SD,hx];dsimp only;rw [UR h0,EN h i (x.1.toNat+1) x.1.toNat (by have:=h i x hx;omega) oM]
theorem ζF {A B:Aut} {i:Nat} {o:List ((Nat×Nat)×(Int×Int))} {rows:List (List Nat)} (hu:(Wm A B).upto ((0,0),(-1,-1)) i=some (o,rows)) (h0:o[0]? =some ((0,0),(-1,-1))):ZlN (o.map (·.2)):=fun j x hx=>by
 rw [Xh] at hx
 obtain ⟨y,hy,rfl⟩:=XA.1 hx
 rcases X4 j with rfl|hj
 · rw [h0] at hy;cases hy;decide
 · obtain ⟨i',y',s,h1,_,_,rfl⟩:=Srch.born hu j y hj hy;show ((i':Nat):Int)<_;omega
theorem ZoI (l:List Bool):idx (fun x=>x==true) l=match l.idxOf? true with|some i=>(i:Int)|none=> -1:=rfl
section
variable {α κ:Type} [DecidableEq κ] {W:Srch α κ} {g:α→Int}
theorem Srch.row_ages (hg:∀i x s,g (W.step i x s)=((i:Nat):Int)) {i:Nat} {x:α} {o:List α}:∀{s:Nat} {o':List α} {r:List Nat},W.row i x o s=some (o',r)→o<+:o'∧(∀k y,o.length≤k→o'[k]? =some y→g y=((i:Nat):Int))∧∀c n:Nat,r[c]? =some n→n<o'.length
 | 0,o',r,h=>by
   rw [Srch.row] at h;cases h;exact ⟨Vv _,fun k y hk hy=>by have:=Zf hy;omega,fun c n h=>by simp at h⟩
 | s + 1, o',r,h=>by
   rw [Srch.row,XU] at h;obtain ⟨⟨o1,r1⟩,h1,h2⟩:=h;obtain ⟨⟨o2,n⟩,h3,h4⟩:=XA.1 h2
   cases h4;obtain ⟨h5,h6,h7⟩:=Srch.row_ages hg h1;obtain ⟨h8,h9,_⟩:=Oz h3;dsimp only at h3 h8 h9 ⊢;refine ⟨h5.trans h8,fun k y hk hy=>?_,fun c m hc=>?_⟩
   · rcases XD k o1.length with hkl|hkl
     · obtain ⟨z,hz⟩:=Zq hkl;have:=Kd h8 hz;rw [this] at hy;cases hy;exact h6 k y hk hz
     · have hv:=h3;unfold Go.Proofs.YtgfabnhpllkebaaGreatDoor.visit at hv;split at hv
       · cases hv;have:=Zf hy;omega
       · split at hv
         · cases hv
         · cases hv;have h10:=Zf hy;rw [Xc,Xx] at h10;rw [Vl hkl,show k-o1.length=0 by omega] at hy
           cases hy;exact hg i x s
   · rw [V8] at hc;split at hc
     · have:=h7 c m hc;have:=h8.length_le;omega
     · have h10:=Zf hc;rw [Xx] at h10;rw [show c-r1.length=0 by omega] at hc
       cases hc;exact h9
structure Srch.Aged (g:α→Int) (i:Nat) (o:List α) (rows:List (List Nat)):Prop where
 mono:∀(j k:Nat) (x y:α),j≤k→o[j]? =some x→o[k]? =some y→g x≤g y
 lt:∀(j:Nat) (x:α),o[j]? =some x→g x<(i:Nat)
 len:i≤o.length→rows.length=i
 to:∀(p:Nat) (r:List Nat) (c n:Nat),rows[p]? =some r→r[c]? =some n→∃x,o[n]? =some x∧g x≤(p:Nat)
theorem Srch.ages (hg:∀i x s,g (W.step i x s)=((i:Nat):Int)) {x0:α} (h0:g x0= -1):∀{i:Nat} {o:List α} {rows:List (List Nat)},W.upto x0 i=some (o,rows)→Srch.Aged g i o rows
 | 0, o,rows,h=>by
   rw [Srch.upto] at h;cases h;refine ⟨fun j k x y _ hx hy=>?_,fun j x hx=>?_,fun _=>rfl,fun p r c n h=>by simp at h⟩
   · have h1:=Zf hx;have h2:=Zf hy;rw [Xx] at h1 h2;have e1:j=0:=oM;have e2:k=0:=oM;subst e1 e2;rw [hx] at hy;cases hy;exact VT _
   · have h1:=Zf hx;rw [Xx] at h1;have e1:j=0:=oM;subst e1
     cases hx;omega
 | i + 1, o,rows,h=>by
   rw [Srch.upto,XU] at h;obtain ⟨⟨o1,rows1⟩,h1,h2⟩:=h;have h3:=Srch.ages hg h0 h1;dsimp only at h2
   cases hx:o1[i]? with
   | none=>
     rw [hx] at h2;cases h2;have:=Uo.1 hx;exact ⟨h3.mono,fun j x hx=>by have:=h3.lt j x hx;omega,fun h=>oM,h3.to⟩
   | some x=>
     rw [hx] at h2;obtain ⟨⟨o2,r⟩,h5,h6⟩:=XA.1 h2
     cases h6;dsimp only;have hil:=Zf hx;have hrl:=h3.len oM;obtain ⟨h7,h8,h9⟩:=Srch.row_ages hg h5;have old:∀{k:Nat} {y:α},k<o1.length→o2[k]? =some y→o1[k]? =some y:=fun {k y} hk hy=>by
      obtain ⟨z,hz⟩:=Zq hk;have:=Kd h7 hz;rw [this] at hy;cases hy;exact hz
     have lt:∀(j:Nat) (x:α),o2[j]? =some x→g x<((i+1:Nat):Int):=fun j y hy=>by
      rcases XD j o1.length with hj|hj
      · have:=h3.lt j y (old hj hy);omega
      · have:=h8 j y hj hy;omega
     refine ⟨fun j k y z hjk hy hz=>?_,lt,fun _=>by rw [Xc,hrl];rfl,fun p r' c n hr hn=>?_⟩
     · rcases XD k o1.length with hk|hk
       · exact h3.mono j k y z hjk (old oM hy) (old hk hz)
       · have e:=h8 k z hk hz;have:=lt j y hy;omega
     · rw [V8] at hr;split at hr
       · obtain ⟨y,hy,hle⟩:=h3.to p r' c n hr hn;exact ⟨y,Kd h7 hy,hle⟩
       · have hp:=Zf hr;rw [Xx] at hp;rename_i hpl;have ep:p=i:=oM;subst ep;rw [hrl,VZ] at hr
         cases hr;obtain ⟨y,hy⟩:=Zq (h9 c n hn);exact ⟨y,hy,by have:=lt n y hy;omega⟩
end
abbrev PrS2:=(Nat×Nat)×(Int×Int)
structure PQ (A B:Aut) (o:List PrS2) (rows:List (List Nat)):Prop where
 mA:IsMin A
 mB:IsMin B
 sy:A.syms=B.syms
 hu:prodQ A B=some (o,rows)
section
variable {A B:Aut} {o:List PrS2} {rows:List (List Nat)}
theorem PQ.ok (h:PQ A B o rows):(Wm A B).Ok (ZaF A B) ((0,0),(-1,-1)) o rows∧rows.length=o.length∧o.length≤2000:=by
 obtain ⟨h1,_,h3⟩:=P0 h.mA.det h.mB.det h.sy h.hu
 have hcap:o.length≤2000:=h1.cap
 exact ⟨h1,h3 hcap,hcap⟩
theorem PQ.back (h:PQ A B o rows):ZlN (o.map (·.2)):=ζF h.hu h.ok.1.zero
theorem PQ.aged (h:PQ A B o rows):Srch.Aged (fun x:PrS2=>x.2.1) (Wm A B).cap o rows:=by
 have hu:(Wm A B).upto ((0,0),(-1,-1)) (Wm A B).cap=some (o,rows):=h.hu
 exact Srch.ages (g:=fun x:PrS2=>x.2.1) (fun _ _ _=>rfl) rfl hu
def DY (o:List PrS2) (j:Nat):Nat:=(P8 (o.map (·.2)) j).length
theorem PQ.zero (h:PQ A B o rows):P8 (o.map (·.2)) 0=[]:=ZcY (x:=(-1,-1)) (by rw [Xh,h.ok.1.zero];rfl) dC
theorem PQ.on (h:PQ A B o rows) {j:Nat} (hj:0<j) (hjl:j<o.length):∃(i s:Nat) (x y:PrS2),i<j∧o[j]? =some x∧o[i]? =some y∧s<A.syms.toNat∧x=(Wm A B).step i y s∧x.2.1=(i:Int)∧P8 (o.map (·.2)) j=P8 (o.map (·.2)) i++[(s:Int)]:=by
 obtain ⟨x,hx⟩:=Zq hjl
 obtain ⟨i,y,s,h1,h2,h3,h4⟩:=Srch.born h.hu j x hj hx
 have e:x.2=(((i:Nat):Int),((s:Nat):Int)):=by rw [h4];rfl
 refine ⟨i,s,x,y,h1,hx,h2,h3,h4,by rw [e],?_⟩
 have hw:=ZfM h.back (i:=j) (x:=(((i:Nat):Int),((s:Nat):Int))) (by rw [Xh,hx,←e];rfl) (by dsimp only;omega)
 dsimp only at hw
 rw [XS] at hw
 exact hw
theorem PQ.mono (h:PQ A B o rows):∀(k:Nat),k<o.length→∀j,j≤k→DY o j≤DY o k:=fun k=>by
 induction k using Nat.strongRecOn with
 | ind k ih=>
   intro hk j hjk;rcases X4 j with rfl|hj
   · unfold DY;rw [h.zero];exact Xd _
   · obtain ⟨i,s,x,y,h1,h2,h3,_,_,h6,h7⟩:=h.on hj oM;obtain ⟨i',s',x',y',h1',h2',h3',_,_,h6',h7'⟩:=h.on (show 0<k by omega) hk;have hle:x.2.1≤x'.2.1:=h.aged.mono j k x x' hjk h2 h2';have:=ih i' h1' oM i oM;unfold DY at this ⊢;rw [h7,h7',Xc,Xc];exact Nat.add_le_add_right this _
theorem PQ.step (h:PQ A B o rows) {p c n:Nat} {r:List Nat} (hr:rows[p]? =some r) (hn:r[c]? =some n):DY o n≤DY o p+1:=by
 obtain ⟨x,hx,hle⟩:=h.aged.to p r c n hr hn
 have hle:x.2.1≤(p:Int):=hle
 rcases X4 n with rfl|hn0
 · unfold DY;rw [h.zero];exact Xd _
 · obtain ⟨i,s,x',y,h1,h2,h3,_,_,h6,h7⟩:=h.on hn0 (Zf hx);rw [hx] at h2;cases h2;have hpl:p<o.length:=by rw [←h.ok.2.1];exact Zf hr
   have:=h.mono p hpl i oM;unfold DY at this ⊢;rw [h7,Xc,Xx];omega
theorem PQ.row (h:PQ A B o rows) {op:Int} {p c:Nat} (hp:p<o.length) (hc:c<A.syms.toNat):∃(r:List Nat) (n:Nat),rows[p]? =some r∧r[c]? =some n∧toT (TZ A B op (o,rows)) p c=n∧n<o.length:=by
 obtain ⟨r,hr⟩:=Zq (show p<rows.length by rw [h.ok.2.1];exact hp)
 have hl:r.length=A.syms.toNat:=h.ok.1.len r (Xb hr)
 obtain ⟨n,hn⟩:=Zq (show c<r.length by omega)
 obtain ⟨x,hx⟩:=Zq hp
 exact ⟨r,n,hr,hn,RX (t:=TZ A B op (o,rows)) hr hn,(h.ok.1.to p x r c n hx hr hn).1⟩
theorem ζG (t:Tab) (x:Nat) (w:List Nat) (c:Nat):Em t x (w++[c])=toT t (Em t x w) c:=by unfold Em;rw [VE];rfl
theorem ZjD {α:Type} {P:List α→Prop} (h0:P []) (h1:∀l x,P l→P (l++[x])) (l:List α):P l:=by
 have:∀m:List α,P m.reverse:=fun m=>by
  induction m with
  |nil=>exact h0
  |cons x m ih=>rw [List.reverse_cons];exact h1 _ _ ih
 have h:=this l.reverse
 rw [List.reverse_reverse] at h;exact h
theorem PQ.run (h:PQ A B o rows) {op:Int} (w:List Nat):Kf A.syms.toNat w→Em (TZ A B op (o,rows)) 0 w<o.length∧DY o (Em (TZ A B op (o,rows)) 0 w)≤w.length:=by
 refine ZjD (P:=fun w=>Kf A.syms.toNat w→Em (TZ A B op (o,rows)) 0 w<o.length∧DY o (Em (TZ A B op (o,rows)) 0 w)≤w.length) ?_ ?_ w
 · intro _;refine ⟨h.ok.1.pos,?_⟩;show DY o 0≤0;unfold DY;rw [h.zero];exact Xg _
 · intro w c ih hw;obtain ⟨h1,h2⟩:=ih fun c hc=>hw c (XZ _ hc);obtain ⟨r,n,hr,hn,e,hno⟩:=h.row (op:=op) h1 (hw c (X6 _ (Xl.2 rfl)));rw [ζG,e];have:=h.step hr hn;rw [Xc,Xx];exact ⟨hno,oM⟩
theorem PQ.way (h:PQ A B o rows) {op:Int}:∀(j:Nat),j<o.length→∃w:List Nat,Kf A.syms.toNat w∧wI w=P8 (o.map (·.2)) j∧Em (TZ A B op (o,rows)) 0 w=j:=fun j=>by
 induction j using Nat.strongRecOn with
 | ind j ih=>
   intro hj;rcases X4 j with rfl|hj0
   · exact ⟨[],(fun c hc=>by cases hc),(by rw [h.zero];rfl),rfl⟩
   · obtain ⟨i,s,x,y,h1,h2,h3,h4,h5,_,h7⟩:=h.on hj0 hj;obtain ⟨w,hw,he,hr⟩:=ih i h1 oM;refine ⟨w++[s],fun c hc=>?_,?_,?_⟩
     · rcases Xt.1 hc with hc|hc
       · exact hw c hc
       · rw [Xl.1 hc];exact h4
     · rw [h7,←he];unfold wI;rw [Xu];rfl
     · obtain ⟨r,n,hr',hn,e,hno⟩:=h.row (op:=op) (Zf h3) h4;rw [ζG,hr,e];have h8:=(h.ok.1.to i y r s n h3 hr' hn).2;rw [←h5] at h8;rw [←h8];exact G4 h.ok.1.nd h2
theorem PQ.fin (h:PQ A B o rows) {op:Int} {w:List Nat} (hw:Kf A.syms.toNat w) {x:PrS2} (hx:o[Em (TZ A B op (o,rows)) 0 w]? =some x):WQ A B op x=DU op (TK A (wI w)) (TK B (wI w)):=by
 have:=Zg2 h.mA h.mB h.sy (op:=op) h.hu hw
 rw [←this]
 show _=((o.map (WQ A B op))[Em (TZ A B op (o,rows)) 0 w]?).getD false
 rw [Xh,hx];rfl
end
theorem ZcZ {l:List Bool}:∀{i:Nat},l.idxOf? true=some i↔l[i]? =some true∧∀j,j<i→l[j]? =some false:=by
 induction l with
 |nil=>intro i;simp
 | cons b l ih=>
   intro i;rw [List.idxOf?_cons]
   cases b with
   | true=>
     simp only [beq_self_eq_true,if_true];constructor
     · intro h;cases h;exact ⟨rfl,fun j hj=>oM⟩
     · rintro ⟨h1,h2⟩;rcases X4 i with rfl|hi
       · rfl
       · have:=h2 0 hi;simp at this
   | false=>
     simp only [show (false==true)=false from rfl,VV,if_false]
     cases i with
     |zero=>simp
     | succ i=>
       rw [XA];constructor
       · rintro ⟨k,hk,e⟩;have:k=i:=oM;subst this;obtain ⟨h1,h2⟩:=ih.1 hk;refine ⟨h1,fun j hj=>?_⟩
         cases j with
         |zero=>rfl
         |succ j=>exact h2 j oM
       · rintro ⟨h1,h2⟩;exact ⟨i,ih.2 ⟨h1,fun j hj=>h2 (j+1) oM⟩,rfl⟩
theorem Zhh (i:Nat) (r:List Nat):AscM (Yj i r):=by
 unfold AscM
 rw [Uv]
 intro j k hj hk hjk
 unfold Yj at hj hk ⊢
 rw [Xe,List.length_zipIdx] at hj hk
 rw [WJ,List.getElem_map,List.getElem_map,List.getElem_zipIdx,List.getElem_zipIdx]
 dsimp only
 omega
theorem EO:∀(rows:List (List Nat)) (k:Nat),AscM (SF k rows)
 |[],_=> .nil
 | r::rows,k=>by
   rw [Gu];refine Vw.2 ⟨Zhh k r,EO rows (k+1),fun x hx y hy=>?_⟩;have h1:=S8 x hx;have h2:=Ek y hy;rw [WJ];omega
theorem IsMin.valid {A:Aut} (h:IsMin A):Z5 A=true:=by
 have hok:=h.aok
 obtain ⟨t,o,rows,hT,hu,rfl,hm⟩:=h
 have h1:=hok.n0
 have h2:=hok.n1
 have h3:=hok.s0
 have h4:=hok.s1
 have h5:=hok.ml
 unfold Z5
 simp only [Xf,UO]
 refine ⟨⟨⟨⟨⟨⟨⟨⟨h1,h2⟩,h3⟩,h4⟩,h5⟩,ZfH hok.st (Vt ..)⟩,ZfH hok.fi (Ds _ _)⟩,?_⟩,ON (EO rows 0)⟩
 rw [XB]
 intro m hm'
 have:=hok.mv m hm'
 unfold Rw
 simp only [Xf,UO]
 omega
theorem ZeO {a b A B:Aut} (ha:W4 a= .ok A) (hb:W4 b= .ok B) {q:List PrS2×List (List Nat)} (hq:prodQ A B=some q):Ta a b= .ok (A,B,q):=by unfold Ta;rw [ha,hb];dsimp only;rw [hq]
theorem ZeP {a b A B:Aut} (ha:W4 a= .ok A) (hb:W4 b= .ok B) (hq:prodQ A B=none):Ta a b= .error 13:=by unfold Ta;rw [ha,hb];dsimp only;rw [hq]
theorem ZaW {a b:Aut} (h1:Z5 a=true) (h2:Z5 b=true) (h:a.syms=b.syms):WH a b=0:=by unfold WH;rw [UR (by rw [h1,h2];simp),UR (fun e=>e h)]
theorem ζH {a b A B:Aut} {op:Int} (hf:WH a b=0) (ha:W4 a= .ok A) (hb:W4 b= .ok B) {q:List PrS2×List (List Nat)} (hq:prodQ A B=some q):cmpX a b op=((TJ A B op q).1,(TJ A B op q).2,0):=by
 unfold cmpX;rw [UR (fun h=>h hf),ZeO ha hb hq]
theorem ζI {a b A B:Aut} {op:Int} (hf:WH a b=0) (ha:W4 a= .ok A) (hb:W4 b= .ok B) (hq:prodQ A B=none):cmpX a b op=(false,[],13):=by
 unfold cmpX;rw [UR (fun h=>h hf),ZeP ha hb hq]
section
variable {A B:Aut} {o:List PrS2} {rows:List (List Nat)}
theorem Zhi {op:Int} {i:Nat} (h:(o.map (WQ A B op)).idxOf? true=some i):TJ A B op (o,rows)=(false,P8 (o.map (·.2)) i):=by unfold TJ;dsimp only;rw [h];rfl
theorem Zhj {op:Int} (h:(o.map (WQ A B op)).idxOf? true=none):TJ A B op (o,rows)=(true,[]):=by unfold TJ;dsimp only;rw [h]
end
end Go.Proofs.YtgfabnhpllkebaaGreatDoor
