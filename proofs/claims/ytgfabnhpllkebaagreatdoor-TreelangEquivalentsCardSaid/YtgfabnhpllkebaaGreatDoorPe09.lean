/-
  Walks of functions and plain laws of the chapter, as the claim needs them.
-/
import Derived.Test.YtgfabnhpllkebaaGreatDoorPe08
import Derived.Test.YtgfabnhpllkebaaGreatDoorPe03
import Derived.Test.YtgfabnhpllkebaaGreatDoorMShelfF
import Derived.Test.YtgfabnhpllkebaaGreatDoorPe01
namespace Go.Proofs.YtgfabnhpllkebaaGreatDoor
open Go.RowKit Go.Cb Go.En Tryz
set_option linter.all false
set_option maxRecDepth 100000
theorem Zbm:FldT prog 147 0 0=true:=by kernel_rfl
theorem LC:MpT prog 279 3 3 (.int .i64) (.int .i64 0):=⟨underlying279,underlying3, .inr ⟨_,rfl⟩,by show ZeroT _ _ _;unfold ZeroT;kernel_rfl⟩
theorem ZX:W1 prog 39=some ((.agg #[(.int .i64 0),(.int .i64 0),(.slice none 0 0),(.slice none 0 0),(.slice none 0 0)]),([0,1,2,3,4]:List Nat).map fun o=>(o,1)):=by kernel_rfl
theorem YW:W1 prog 93=some ((.agg #[(.int .i64 0),(.int .i64 0),(.int .i64 0)]),([0,1,2]:List Nat).map fun o=>(o,1)):=by kernel_rfl
theorem ZI:ZeroT prog 39 (.agg #[(.int .i64 0),(.int .i64 0),(.slice none 0 0),(.slice none 0 0),(.slice none 0 0)]):=by unfold ZeroT;kernel_rfl
section
variable {α:Type}
def Wy (f:α→Int) (o:List α) (x:α):Nat:=if posK f o (f x)<o.length then posK f o (f x) else 0
theorem ζ3 (f:α→Int) (o:List α) (x:α):(Kt (ikv (YT f 0 o)) (.int .i64 (f x))).getD (.int .i64 0)= .int .i64 (Wy f o x:Nat)∧(Kt (ikv (YT f 0 o)) (.int .i64 (f x))).isSome=decide (posK f o (f x)<o.length):=by
 rw [Zcb,Tt]
 unfold Wy
 by_cases h:posK f o (f x)<o.length
 · rw [UU h,UU h,UR h,Xw];exact ⟨rfl,rfl⟩
 · rw [UT h,UT h,US h];exact ⟨rfl,rfl⟩
theorem Zdm {f:α→Int} {o:List α} {x:α} (h:¬posK f o (f x)<o.length):Jg (ikv (YT f 0 o)) (.int .i64 (f x)) (.int .i64 (o.length:Nat))=ikv (YT f 0 (o++[x])):=by
 have:=Of f x o 0 h
 rw [Xw] at this
 rw [Zcc,this]
end
section
variable {α:Type} {P:Program} {sL hP:List (Nat×Ent)} {o:Oper}
theorem Zgy {t ks e:Nat} {kd:TypeDesc} {z:Value} {x y:Operand} {m:Value} {f:α→Int} {L:List α} {a:α} {p q:PV} (l:Nat) (hT:MpT P t ks e kd z) (hz:z= .int .i64 0) (hkd:kd= .int .i64) (ho:o.op= .lookup t x y true:=by exact rfl) (hx:ev sL x=some (m,p):=by exact rfl) (hl:lk hP l=some (m, .omap (ikv (YT f 0 L))):=by exact rfl) (hy:ev sL y=some (.int .i64 (f a),q):=by exact rfl):
 YE P (⟨sL,hP⟩:St) o (· = .tuple [.int .i64 (Wy f L a:Nat), .bool (decide (posK f L (f a)<L.length))].toArray) (.tup [.val (.int .i64 (Wy f L a:Nat)), .val (.bool (decide (posK f L (f a)<L.length)))]):=by
 subst hz hkd
 have h:=Zcd (sL:=sL) (hP:=hP) (o:=o) l hT ho hx hl hy (PZ _ _)
 rw [(ζ3 f L a).1,(ζ3 f L a).2] at h
 exact h
end
def Ks (t:Tab) (x:Nat):Int:=(YD t x:Nat)
theorem Zgz (t:Tab) (o:List Nat) (x:Nat):posK (Ks t) o (Ks t x)=posK (YD t) o (YD t x):=GH fun y _=>by unfold Ks;omega
theorem S6 {t:Tab} {o o':List Nat} (h:o<+:o'):∀k,k≤o.length→Yh k (JK t o)=Yh k (JK t o')
 |0,_=>rfl
 | k+1,hk=>by
   rw [WL,WL,S6 h k oM];obtain ⟨x,hx⟩:=Zw (show k<o.length by omega);unfold JK;rw [hx,Kd h hx]
theorem WZ (e:Nat) (L:List Mv) (x:Mv):PV.own e 3 (L.length+1) (L.flatMap cMv++cMv x)= .own e 3 (L++[x]).length ((L++[x]).flatMap cMv):=sM
theorem W7 (e n:Nat) (l:List Mv) (hn:n=l.length):share (.own e 3 n (l.flatMap cMv))=pMvs l:=by
 subst hn
 rw [share,Yr,Ut];rfl
theorem K5 (e:Nat) (L:List Int) (x:Int):PV.own e 1 (L.length+1) (L.map pInt++[pInt x])= .own e 1 (L++[x]).length ((L++[x]).map pInt):=sM
theorem ZgA {rows:List (List Nat)} {r:List Nat} {n m:Nat} (h:∀x∈rows,x.length=m) (hm:m≤40) (hn:rows.length≤2000) (hr:r.length≤m):(Z4 rows++Yq n r).length≤80040:=by
 rw [Xb,Pw rows h,JJ]
 have:rows.length*m≤2000*40:=Vw hn hm
 omega
set_option maxHeartbeats 4000000 in
theorem Zfz (t : Tab) (ht:TOk t):AF prog 186 [Zdh t] (· =resW (lim (Wp t))):=by
 have hn1:=ht.n1
 have hfl:=ht.fl
 have hm1:=ht.m1
 have hpos:=ht.pos
 refine AF.of_body 101 func186 rfl ntmps186 (Xa rfl) ?_
 intro w0 M0 vs hl hv
 obtain ⟨v0,rfl⟩:=WE hl
 clear hl hv
 refine Ze ?_
 (refine ZB 1 3 fun h1=>?_<;>refine Zv [(.int .i64 0),(.int .i64 0),(.slice none 0 0),(.slice none 0 0),(.slice none 0 0)] 5 2 ZI fun h2=>?_<;>refine xL 3 Za ?_<;>refine Zk ?_)
 ((refine yL 13 (Zs 1 WP) fun v13 h=>?_;cases h)<;>(refine cO 14 (cA call232 (Zfy t ht)) fun v14 ho14=>?_;refine Zu (En.freeze (l:=14) (t:=14) rfl rfl) fun _=>?_;rw [show share (.own 3 1 t.rows.length (vec t.rows.length fun s=>pInt (YD t s:Nat)))= .sl t.rows.length (vec t.rows.length fun s=>pInt (YD t s:Nat)) by rw [share,Yr,HV];rfl])<;>refine xL 4 Za ?_<;>refine Zc ?_)
 have e1:=Kw (fun s=>pInt (YD t s:Nat)) hpos
 (refine Zt ?_<;>refine Gw 15 fun h15 ho15=>?_<;>refine xL 16 Zb ?_<;>refine xL 17 (ZH (i:=0) Zr) ?_<;>(refine yL 18 (Ya Zg) fun v18 h=>?_;cases h)<;>(refine Zju 15 LC ?_;rw [show Jg [] (.int .i64 ((YD t 0:Nat):Int)) (.int .i64 0)=ikv (YT (Ks t) 0 [0]) from rfl])<;>refine xL 19 Zb (xL 5 Za ?_)<;>refine Zk ?_)
 (refine ZM (kk:=1) 20 Zo fun h20 ho20=>?_<;>refine xL 6 Za ?_<;>refine Zc ?_)
 refine Zq (ZD (l:=15) 304 rfl rfl) fun _=>?_
 refine Zq (ZD (l:=20) 303 rfl rfl) fun _=>?_
 refine Zq (ZF (l:=303) (p':= .own 3 1 ([0]:List Nat).length ((toI [0]).map pInt)) rfl rfl) fun _=>?_
 (refine Zt ?_<;>refine xL 21 (Zd 1 Zbm) ?_<;>(refine yL 22 (Zl 1 Zg) fun v22 h=>?_;cases h)<;>(refine ZM (kk:=1) 23 Zo fun h23 ho23=>?_;refine Zu (En.freeze (l:=23) (t:=23) rfl rfl) fun _=>?_;rw [show share (PV.own 3 1 1 [PV.val (.int .i64 0)])=pInts [0] from rfl])<;>refine xL 24 (ZO ZX) ?_<;>refine Zv [(.int .i64 0),(.int .i64 0),(.slice none 0 0),(.slice none 0 0),(.slice none 0 0)] 5 7 ZI fun h7=>?_<;>refine Zz 7 Zf ?_<;>refine Zc ?_)
 refine Zq (WF (l:=7) [pInt 0,pInt (t.m:Nat),pInts [0], .own 3 1 0 [], .own 93 3 0 []] rfl rfl (fun i p p' h1 h2=>by
  match i with
  |0=>cases h1;cases h2;exact .inl rfl
  |1=>cases h1;cases h2;exact .inl rfl
  |2=>cases h1;cases h2;exact .inl rfl
  |3=>cases h1;cases h2;exact .inr ⟨rfl,_,_,rfl⟩
  |4=>cases h1;cases h2;exact .inr ⟨rfl,_,_,rfl⟩
  |i+5=>simp at h2)) fun _=>?_
 refine Zq (We (l:=7) (l':=301) (j:=3) rfl rfl rfl rfl) fun i=>?_
 obtain ⟨v301,ho301⟩:=i
 refine Zq (We (l:=7) (l':=302) (j:=4) rfl rfl rfl rfl) fun i=>?_
 obtain ⟨v302,ho302⟩:=i
 dsimp only [List.set]
 (refine Zt ?_<;>refine xL 8 Za ?_<;>refine Zc ?_)
 refine ZE (ι:={q:Nat×Value×Value×Value×List Nat×List (List Nat)//(minW t).upto 0 q.1=some (q.2.2.2.2.1,q.2.2.2.2.2)∧q.1≤q.2.2.2.2.1.length∧q.2.1.oneCell'=true∧q.2.2.1.oneCell'=true∧q.2.2.2.1.oneCell'=true}) (fun k=>⟨[(1,_,_),(2,_,_),(3,_,_),(4,_,_),(5,_,_),(7,_,_),(6,k.1.2.2.2.1, .val k.1.2.2.2.1),(8, .int .i64 k.1.1,pInt k.1.1)],[(1,_,_),(2,_,_),(7,h7, .own 39 5 1 [pInt 0,pInt (t.m:Nat),pInts [0], .val k.1.2.1, .val k.1.2.2.1]),(301,k.1.2.1, .own 3 1 (Yh k.1.1 (JK t k.1.2.2.2.2.1)).length ((Yh k.1.1 (JK t k.1.2.2.2.2.1)).map pInt)),(302,k.1.2.2.1, .own 93 3 (Z4 k.1.2.2.2.2.2).length ((Z4 k.1.2.2.2.2.2).flatMap cMv)),(303,k.1.2.2.2.1, .own 3 1 k.1.2.2.2.2.1.length ((toI k.1.2.2.2.2.1).map pInt)),(304,h15, .omap (ikv (YT (Ks t) 0 k.1.2.2.2.2.1)))]⟩) (fun k=>2000-k.1.1) ⟨(0,v301,v302,h20,[0],[]),rfl,Xd _,ho301,ho302,ho20⟩ (fun a w H=>H.weaken ⟨rfl,rfl,rfl,rfl,rfl,rfl,rfl,rfl,trivial⟩ ⟨rfl,rfl,rfl,rfl,rfl,rfl,rfl,trivial⟩) ?_
 rintro ⟨⟨i,hF,hM,hO,o,rows⟩,hU,hi,hFo,hMo,hOo⟩
 dsimp only
 dsimp only at hU hi hFo hMo hOo
 obtain ⟨hOk,hRl,_⟩:=Zbd ht hU
 have hRl:=hRl hi
 have hcap:o.length≤t.rows.length:=hOk.cap
 have hrw:=hOk.len
 have htl:=Y8 o
 have hll:=L5 i (JK t o)
 refine Ze ?_
 (refine xL 25 Zb (xL 26 Zb (xL 27 (YH 303 Zr) (xL 28 ZQ ?_)))<;>refine Zc ?_)
 refine cX ?_ ?_<;>intro hb28
 · first | exact bN hb28|(
 obtain ⟨x,hx⟩:=Zw (show i<o.length by omega);have hxn:x<t.rows.length:=hOk.p x (Xc hx);(have e1:((toI o).map pInt)[i*1]? =some (pInt (x:Nat)):=by rw [Xp,Xg];unfold toI;rw [Xg,hx];rfl);obtain ⟨b,hb⟩:=Zw (show x<t.fin.length by omega);have e2:=Yb (f:=ZN) hb;obtain ⟨row,hrow⟩:=Zw hxn;have e3:=Yb (f:=Wn) hrow;have hrl:=ht.rl row (Xc hrow);have hrt:=ht.to row (Xc hrow);have hrtl:=Y8 row;(have hfa:JK t o i=b:=by unfold JK;rw [hx];show (t.fin[x]?).getD false=b;rw [hb];rfl);have hL1:=WL i (JK t o);rw [hfa] at hL1;refine nav ?_;(refine ZZ (fun i=>([]:List Nat).elem i) [1,303] kR ?_<;>refine xD 0 31 rfl (Zd 1 Ky) ?_<;>(refine yD 1 32 rfl (Zl 1 Ym) fun v32 h=>?_;cases h)<;>refine xD 2 33 rfl Zb ?_<;>refine xE 3 34 rfl Zb ?_<;>refine xE 4 35 rfl (Yg 303 Zr) ?_<;>(refine yE 5 36 rfl (Zl 303 Zg) fun v36 h=>?_;cases h)<;>refine xE 6 37 rfl (ZH Yo) ?_<;>(refine yE 7 38 rfl (Ya Wa) fun v38 h=>?_;cases h)<;>refine YC kR (nav ?_)<;>try dsimp only)
 refine cX ?_ ?_<;>intro hb38
 · first | exact bN hb38|(
 rw [UU hb38] at hL1;refine Ze ?_;(refine xL 39 (Zd 7 Z2) ?_<;>(refine yL 40 (Zl 7 Zy) fun v40 h=>?_;cases h)<;>refine xL 41 Zb ?_<;>refine ZM (kk:=1) 42 Zo fun h42 ho42=>?_<;>(refine ZY 301 42 43 Zo fun h43 ho43=>?_;refine Zu (ZD (l:=43) 301 rfl rfl) fun _=>?_;refine Zu (ZF (l:=301) rfl (K5 _ (Yh i (JK t o)) i)) fun _=>?_)<;>refine xL 44 (Zd 7 Z2) ?_<;>refine YQ 7 Zy Wo ?_<;>refine Zc ?_)
 (refine ZZ (fun i=>([]:List Nat).elem i) [1,303] kR ?_<;>refine xD 0 45 rfl (Zd 1 Kf) ?_<;>(refine yD 1 46 rfl (Zl 1 Yj) fun v46 h=>?_;cases h)<;>refine xD 2 47 rfl Zb ?_<;>refine xD 3 48 rfl Zb ?_<;>refine xD 4 49 rfl (Yg 303 Zr) ?_<;>(refine yD 5 50 rfl (Zl 303 Zg) fun v50 h=>?_;cases h)<;>refine xD 6 51 rfl (ZH Z0) ?_<;>(refine yD 7 52 rfl (Ya Zy) fun v52 h=>?_;cases h)<;>refine xD 8 53 rfl (ZW Zr) ?_<;>refine xE 9 54 rfl Zb ?_<;>refine YC kR (nav ?_)<;>try dsimp only)
 rw [←hL1];rw [show Z4 rows=Z4 rows++Yq i ([]:List Nat) from (Xr _).symm];refine ZE (ι:={q:Nat×Value×Value×List Nat×List Nat//(minW t).row i x o q.1=some (q.2.2.2.1,q.2.2.2.2)∧q.1≤t.m∧q.2.1.oneCell'=true∧q.2.2.1.oneCell'=true}) (fun k=>⟨[(1,_,_),(2,_,_),(3,_,_),(4,_,_),(5,_,_),(7,_,_),(8,_,_),(52,_,_),(53,_,_),(6,k.1.2.2.1, .val k.1.2.2.1),(54, .int .i64 k.1.1,pInt k.1.1)],[(1,_,_),(2,_,_),(301,_,_),(7,h7, .own 39 5 1 [pInt 0,pInt (t.m:Nat),pInts [0],_, .val k.1.2.1]),(302,k.1.2.1, .own 93 3 (Z4 rows++Yq i k.1.2.2.2.2).length ((Z4 rows++Yq i k.1.2.2.2.2).flatMap cMv)),(303,k.1.2.2.1, .own 3 1 k.1.2.2.2.1.length ((toI k.1.2.2.2.1).map pInt)),(304,h15, .omap (ikv (YT (Ks t) 0 k.1.2.2.2.1)))]⟩) (fun k=>t.m-k.1.1) ⟨(0,hM,hO,o,[]),rfl,Xd _,hMo,hOo⟩ (fun a w H=>H.weaken ⟨rfl,rfl,rfl,rfl,rfl,rfl,rfl,rfl,rfl,rfl,rfl,trivial⟩ ⟨rfl,rfl,rfl,rfl,rfl,rfl,rfl,trivial⟩) ?_;rintro ⟨⟨s,hM',hO',o',r⟩,hW,hs,hM'o,hO'o⟩;dsimp only;dsimp only at hW hs hM'o hO'o;obtain ⟨hMt,hpr,hrl2,_⟩:=hOk.toMet.row (fun s _=>KJ ht) (show s≤(minW t).m from hs) hW;have hcap':o'.length≤t.rows.length:=hMt.cap;have htl':=Y8 o';have hmr:=ZgA (n:=i) hrw hm1 oM (show r.length≤t.m by omega);refine Ze ?_;(refine xL 55 ZQ ?_<;>refine Zc ?_)
 refine cX ?_ ?_<;>intro hb55
 · first | exact bN hb55|(
 obtain ⟨y,hy⟩:=Zw (show s<row.length by omega);have hyn:=hrt y (Xc hy);(have e4:((toI row).map pInt)[s*1]? =some (pInt (y:Nat)):=by rw [Xp,Xg];unfold toI;rw [Xg,hy];rfl);have e5:=Kw (fun s=>pInt (YD t s:Nat)) hyn;have hto:(minW t).step i x s=y:=Pv hrow hy;have hid:=Zgz t o' y;refine Ze ?_;(refine xL 56 Zb (xL 57 (ZH Zr) ?_)<;>(refine yL 58 (Ya Zg) fun v58 h=>?_;cases h)<;>refine xL 9 Za (xL 10 Za ?_)<;>refine Zk ?_)
 (refine xL 60 Zb (xL 61 Zb (xL 62 Zb (xL 63 (ZH Zr) ?_)))<;>(refine yL 64 (Ya Zg) fun v64 h=>?_;cases h)<;>refine xL 65 (Zgy (f:=Ks t) (L:=o') (a:=y) 304 LC rfl rfl) ?_<;>refine xL 59 Zb (xL 66 Zi (xL 67 Zi (xL 11 Za (xL 12 Za ?_))))<;>refine Zk ?_)
 (refine xL 68 Zb (xL 69 Z' ?_)<;>refine Zc ?_)
 refine cX ?_ ?_<;>intro hb69
 · first |exact bN hb69|(
 (have hnew:¬posK (Ks t) o' (Ks t y)<o'.length:=by simpa using hb69);have hnew2:¬posK (minW t).key o' ((minW t).key ((minW t).step i x s))<o'.length:=by
  rw [hto];show ¬posK (YD t) o' (YD t y)<o'.length;rw [←hid];exact hnew
 have hroom:=Ry ht hMt (show (minW t).step i x s<t.rows.length by rw [hto];exact hyn) hnew2;refine Ze ?_;(refine xL 70 Zb (xL 71 (YH 303 Zr) (xL 11 Za ?_))<;>refine Zk ?_)
 (refine xL 72 Zb (xL 73 Zb (xL 74 Zb (xL 75 (ZH Zr) ?_)))<;>(refine yL 76 (Ya Zg) fun v76 h=>?_;cases h)<;>refine xL 77 Zb ?_<;>(refine GU 304 LC ?_;rw [show Jg (ikv (YT (Ks t) 0 o')) (.int .i64 ((YD t y:Nat):Int)) (.int .i64 ((o'.length:Nat):Int))=ikv (YT (Ks t) 0 (o'++[y])) from Zdm hnew])<;>refine Zk ?_)
 (refine xL 78 Zb (xL 79 Zb ?_)<;>refine ZM (kk:=1) 80 Zo fun h80 ho80=>?_<;>(refine ZY 303 80 81 Zo fun h81 ho81=>?_;refine Zu (ZD (l:=81) 303 rfl rfl) fun _=>?_;refine Zu (ZF (l:=303) rfl (WW _ o' y)) fun _=>?_)<;>refine xL 6 Za ?_<;>refine Zk ?_)
 (refine xL 82 (Zd 7 Zx) ?_<;>(refine yL 83 (Zl 7 ZC) fun v83 h=>?_;cases h)<;>refine xL 84 Zb (xL 85 Zb (xL 86 Zb (xL 87 (ZO YW) ?_)))<;>refine YI 88 ZU fun h88 ho88=>?_<;>(refine ZY 302 88 89 ZU fun h89 ho89=>?_;refine Zu (ZD (l:=89) 302 rfl rfl) fun _=>?_;first|refine Zu (ZF (l:=302) rfl (WZ _ (Z4 rows++Yq i r) ⟨(i:Nat),(o'.length:Nat),(s:Nat)⟩)) fun _=>?_|refine Zu (ZF (l:=302) rfl (WZ _ (Z4 rows++Yq i r) ⟨(i:Nat),(Wy (Ks t) o' y:Nat),(s:Nat)⟩)) fun _=>?_)<;>refine xL 90 (Zd 7 Zx) ?_<;>refine YQ 7 ZC YK ?_<;>refine Zk ?_)
 (refine xL 91 ZK (xL 54 Zb ?_)<;>refine Zc ?_)
 try rw [show (Z4 rows++Yq i r)++[(⟨(i:Nat),(o'.length:Nat),(s:Nat)⟩:Mv)]=Z4 rows++Yq i (r++[o'.length]) by rw [Kx,hrl2,Xu]]
 try rw [show (Z4 rows++Yq i r)++[(⟨(i:Nat),(Wy (Ks t) o' y:Nat),(s:Nat)⟩:Mv)]=Z4 rows++Yq i (r++[Wy (Ks t) o' y]) by rw [Kx,hrl2,Xu]]
 first
  | (exact Zn (
      ⟨(s+1,h89,h81,o'++[y],r++[o'.length]),(by dsimp only;exact (by have h9:=Srch.row_snoc hW (Wc hnew2 hroom);rwa [hto] at h9)),(by dsimp only;omega),ho89,ho81⟩
      ) (by dsimp only;omega) ⟨rfl,rfl,rfl,rfl,rfl,rfl,rfl,rfl,rfl,rfl,rfl,trivial⟩ ⟨rfl,rfl,rfl,rfl,rfl,rfl,rfl,trivial⟩)
  | (exact Zn (
      ⟨(s+1,h89,hO',o',r++[Wy (Ks t) o' y]),(by dsimp only;rw [hnum];exact Srch.row_snoc hW (Wb hold2)),(by dsimp only;omega),ho89,hO'o⟩
      ) (by dsimp only;omega) ⟨rfl,rfl,rfl,rfl,rfl,rfl,rfl,rfl,rfl,rfl,rfl,trivial⟩ ⟨rfl,rfl,rfl,rfl,rfl,rfl,rfl,trivial⟩))
 · first |exact bN hb69|(
 (have hold:posK (Ks t) o' (Ks t y)<o'.length:=by simpa using hb69);have hold2:posK (minW t).key o' ((minW t).key ((minW t).step i x s))<o'.length:=by
  rw [hto];show posK (YD t) o' (YD t y)<o'.length;rw [←hid];exact hold
 have hnum:Wy (Ks t) o' y=posK (minW t).key o' ((minW t).key ((minW t).step i x s)):=by
  rw [hto];show Wy (Ks t) o' y=posK (YD t) o' (YD t y);unfold Wy;rw [UU hold,hid]
 refine Ze ?_;(refine xL 82 (Zd 7 Zx) ?_<;>(refine yL 83 (Zl 7 ZC) fun v83 h=>?_;cases h)<;>refine xL 84 Zb (xL 85 Zb (xL 86 Zb (xL 87 (ZO YW) ?_)))<;>refine YI 88 ZU fun h88 ho88=>?_<;>(refine ZY 302 88 89 ZU fun h89 ho89=>?_;refine Zu (ZD (l:=89) 302 rfl rfl) fun _=>?_;first|refine Zu (ZF (l:=302) rfl (WZ _ (Z4 rows++Yq i r) ⟨(i:Nat),(o'.length:Nat),(s:Nat)⟩)) fun _=>?_|refine Zu (ZF (l:=302) rfl (WZ _ (Z4 rows++Yq i r) ⟨(i:Nat),(Wy (Ks t) o' y:Nat),(s:Nat)⟩)) fun _=>?_)<;>refine xL 90 (Zd 7 Zx) ?_<;>refine YQ 7 ZC YK ?_<;>refine Zk ?_)
 (refine xL 91 ZK (xL 54 Zb ?_)<;>refine Zc ?_)
 try rw [show (Z4 rows++Yq i r)++[(⟨(i:Nat),(o'.length:Nat),(s:Nat)⟩:Mv)]=Z4 rows++Yq i (r++[o'.length]) by rw [Kx,hrl2,Xu]]
 try rw [show (Z4 rows++Yq i r)++[(⟨(i:Nat),(Wy (Ks t) o' y:Nat),(s:Nat)⟩:Mv)]=Z4 rows++Yq i (r++[Wy (Ks t) o' y]) by rw [Kx,hrl2,Xu]]
 first
  | (exact Zn (
      ⟨(s+1,h89,h81,o'++[y],r++[o'.length]),(by dsimp only;exact (by have h9:=Srch.row_snoc hW (Wc hnew2 hroom);rwa [hto] at h9)),(by dsimp only;omega),ho89,ho81⟩
      ) (by dsimp only;omega) ⟨rfl,rfl,rfl,rfl,rfl,rfl,rfl,rfl,rfl,rfl,rfl,trivial⟩ ⟨rfl,rfl,rfl,rfl,rfl,rfl,rfl,trivial⟩)
  | (exact Zn (
      ⟨(s+1,h89,hO',o',r++[Wy (Ks t) o' y]),(by dsimp only;rw [hnum];exact Srch.row_snoc hW (Wb hold2)),(by dsimp only;omega),ho89,hO'o⟩
      ) (by dsimp only;omega) ⟨rfl,rfl,rfl,rfl,rfl,rfl,rfl,rfl,rfl,rfl,rfl,trivial⟩ ⟨rfl,rfl,rfl,rfl,rfl,rfl,rfl,trivial⟩)))
 · first |exact bN hb55|(
 have hsm:s=t.m:=oM;subst hsm;have hU2:=Srch.upto_snoc hU hx hW;rw [show Z4 rows++Yq i r=Z4 (rows++[r]) by rw [SU,hRl]];rw [S6 hpr (i+1) oM];refine Ze ?_;(refine xL 29 Zb (xL 30 ZK (xL 8 Za ?_))<;>refine Zc ?_)
 first
  | (exact Zn (
      ⟨(i+1,h43,hM',hO',o',rows++[r]),hU2,(by dsimp only;have:=hpr.length_le;omega),ho43,hM'o,hO'o⟩
      ) (by dsimp only;omega) ⟨rfl,rfl,rfl,rfl,rfl,rfl,rfl,rfl,trivial⟩ ⟨rfl,rfl,rfl,rfl,rfl,rfl,rfl,trivial⟩)
  | (exact Zn (
      ⟨(i+1,hF,hM',hO',o',rows++[r]),hU2,(by dsimp only;have:=hpr.length_le;omega),hFo,hM'o,hO'o⟩
      ) (by dsimp only;omega) ⟨rfl,rfl,rfl,rfl,rfl,rfl,rfl,rfl,trivial⟩ ⟨rfl,rfl,rfl,rfl,rfl,rfl,rfl,trivial⟩)))
 · first | exact bN hb38|(
 rw [UT (by simpa using hb38),Xr] at hL1;refine nav ?_;(refine ZZ (fun i=>([]:List Nat).elem i) [1,303] kR ?_<;>refine xD 0 45 rfl (Zd 1 Kf) ?_<;>(refine yD 1 46 rfl (Zl 1 Yj) fun v46 h=>?_;cases h)<;>refine xD 2 47 rfl Zb ?_<;>refine xD 3 48 rfl Zb ?_<;>refine xD 4 49 rfl (Yg 303 Zr) ?_<;>(refine yD 5 50 rfl (Zl 303 Zg) fun v50 h=>?_;cases h)<;>refine xD 6 51 rfl (ZH Z0) ?_<;>(refine yD 7 52 rfl (Ya Zy) fun v52 h=>?_;cases h)<;>refine xD 8 53 rfl (ZW Zr) ?_<;>refine xE 9 54 rfl Zb ?_<;>refine YC kR (nav ?_)<;>try dsimp only)
 rw [←hL1];rw [show Z4 rows=Z4 rows++Yq i ([]:List Nat) from (Xr _).symm];refine ZE (ι:={q:Nat×Value×Value×List Nat×List Nat//(minW t).row i x o q.1=some (q.2.2.2.1,q.2.2.2.2)∧q.1≤t.m∧q.2.1.oneCell'=true∧q.2.2.1.oneCell'=true}) (fun k=>⟨[(1,_,_),(2,_,_),(3,_,_),(4,_,_),(5,_,_),(7,_,_),(8,_,_),(52,_,_),(53,_,_),(6,k.1.2.2.1, .val k.1.2.2.1),(54, .int .i64 k.1.1,pInt k.1.1)],[(1,_,_),(2,_,_),(301,_,_),(7,h7, .own 39 5 1 [pInt 0,pInt (t.m:Nat),pInts [0],_, .val k.1.2.1]),(302,k.1.2.1, .own 93 3 (Z4 rows++Yq i k.1.2.2.2.2).length ((Z4 rows++Yq i k.1.2.2.2.2).flatMap cMv)),(303,k.1.2.2.1, .own 3 1 k.1.2.2.2.1.length ((toI k.1.2.2.2.1).map pInt)),(304,h15, .omap (ikv (YT (Ks t) 0 k.1.2.2.2.1)))]⟩) (fun k=>t.m-k.1.1) ⟨(0,hM,hO,o,[]),rfl,Xd _,hMo,hOo⟩ (fun a w H=>H.weaken ⟨rfl,rfl,rfl,rfl,rfl,rfl,rfl,rfl,rfl,rfl,rfl,trivial⟩ ⟨rfl,rfl,rfl,rfl,rfl,rfl,rfl,trivial⟩) ?_;rintro ⟨⟨s,hM',hO',o',r⟩,hW,hs,hM'o,hO'o⟩;dsimp only;dsimp only at hW hs hM'o hO'o;obtain ⟨hMt,hpr,hrl2,_⟩:=hOk.toMet.row (fun s _=>KJ ht) (show s≤(minW t).m from hs) hW;have hcap':o'.length≤t.rows.length:=hMt.cap;have htl':=Y8 o';have hmr:=ZgA (n:=i) hrw hm1 oM (show r.length≤t.m by omega);refine Ze ?_;(refine xL 55 ZQ ?_<;>refine Zc ?_)
 refine cX ?_ ?_<;>intro hb55
 · first | exact bN hb55|(
 obtain ⟨y,hy⟩:=Zw (show s<row.length by omega);have hyn:=hrt y (Xc hy);(have e4:((toI row).map pInt)[s*1]? =some (pInt (y:Nat)):=by rw [Xp,Xg];unfold toI;rw [Xg,hy];rfl);have e5:=Kw (fun s=>pInt (YD t s:Nat)) hyn;have hto:(minW t).step i x s=y:=Pv hrow hy;have hid:=Zgz t o' y;refine Ze ?_;(refine xL 56 Zb (xL 57 (ZH Zr) ?_)<;>(refine yL 58 (Ya Zg) fun v58 h=>?_;cases h)<;>refine xL 9 Za (xL 10 Za ?_)<;>refine Zk ?_)
 (refine xL 60 Zb (xL 61 Zb (xL 62 Zb (xL 63 (ZH Zr) ?_)))<;>(refine yL 64 (Ya Zg) fun v64 h=>?_;cases h)<;>refine xL 65 (Zgy (f:=Ks t) (L:=o') (a:=y) 304 LC rfl rfl) ?_<;>refine xL 59 Zb (xL 66 Zi (xL 67 Zi (xL 11 Za (xL 12 Za ?_))))<;>refine Zk ?_)
 (refine xL 68 Zb (xL 69 Z' ?_)<;>refine Zc ?_)
 refine cX ?_ ?_<;>intro hb69
 · first |exact bN hb69|(
 (have hnew:¬posK (Ks t) o' (Ks t y)<o'.length:=by simpa using hb69);have hnew2:¬posK (minW t).key o' ((minW t).key ((minW t).step i x s))<o'.length:=by
  rw [hto];show ¬posK (YD t) o' (YD t y)<o'.length;rw [←hid];exact hnew
 have hroom:=Ry ht hMt (show (minW t).step i x s<t.rows.length by rw [hto];exact hyn) hnew2;refine Ze ?_;(refine xL 70 Zb (xL 71 (YH 303 Zr) (xL 11 Za ?_))<;>refine Zk ?_)
 (refine xL 72 Zb (xL 73 Zb (xL 74 Zb (xL 75 (ZH Zr) ?_)))<;>(refine yL 76 (Ya Zg) fun v76 h=>?_;cases h)<;>refine xL 77 Zb ?_<;>(refine GU 304 LC ?_;rw [show Jg (ikv (YT (Ks t) 0 o')) (.int .i64 ((YD t y:Nat):Int)) (.int .i64 ((o'.length:Nat):Int))=ikv (YT (Ks t) 0 (o'++[y])) from Zdm hnew])<;>refine Zk ?_)
 (refine xL 78 Zb (xL 79 Zb ?_)<;>refine ZM (kk:=1) 80 Zo fun h80 ho80=>?_<;>(refine ZY 303 80 81 Zo fun h81 ho81=>?_;refine Zu (ZD (l:=81) 303 rfl rfl) fun _=>?_;refine Zu (ZF (l:=303) rfl (WW _ o' y)) fun _=>?_)<;>refine xL 6 Za ?_<;>refine Zk ?_)
 (refine xL 82 (Zd 7 Zx) ?_<;>(refine yL 83 (Zl 7 ZC) fun v83 h=>?_;cases h)<;>refine xL 84 Zb (xL 85 Zb (xL 86 Zb (xL 87 (ZO YW) ?_)))<;>refine YI 88 ZU fun h88 ho88=>?_<;>(refine ZY 302 88 89 ZU fun h89 ho89=>?_;refine Zu (ZD (l:=89) 302 rfl rfl) fun _=>?_;first|refine Zu (ZF (l:=302) rfl (WZ _ (Z4 rows++Yq i r) ⟨(i:Nat),(o'.length:Nat),(s:Nat)⟩)) fun _=>?_|refine Zu (ZF (l:=302) rfl (WZ _ (Z4 rows++Yq i r) ⟨(i:Nat),(Wy (Ks t) o' y:Nat),(s:Nat)⟩)) fun _=>?_)<;>refine xL 90 (Zd 7 Zx) ?_<;>refine YQ 7 ZC YK ?_<;>refine Zk ?_)
 (refine xL 91 ZK (xL 54 Zb ?_)<;>refine Zc ?_)
 try rw [show (Z4 rows++Yq i r)++[(⟨(i:Nat),(o'.length:Nat),(s:Nat)⟩:Mv)]=Z4 rows++Yq i (r++[o'.length]) by rw [Kx,hrl2,Xu]]
 try rw [show (Z4 rows++Yq i r)++[(⟨(i:Nat),(Wy (Ks t) o' y:Nat),(s:Nat)⟩:Mv)]=Z4 rows++Yq i (r++[Wy (Ks t) o' y]) by rw [Kx,hrl2,Xu]]
 first
  | (exact Zn (
      ⟨(s+1,h89,h81,o'++[y],r++[o'.length]),(by dsimp only;exact (by have h9:=Srch.row_snoc hW (Wc hnew2 hroom);rwa [hto] at h9)),(by dsimp only;omega),ho89,ho81⟩
      ) (by dsimp only;omega) ⟨rfl,rfl,rfl,rfl,rfl,rfl,rfl,rfl,rfl,rfl,rfl,trivial⟩ ⟨rfl,rfl,rfl,rfl,rfl,rfl,rfl,trivial⟩)
  | (exact Zn (
      ⟨(s+1,h89,hO',o',r++[Wy (Ks t) o' y]),(by dsimp only;rw [hnum];exact Srch.row_snoc hW (Wb hold2)),(by dsimp only;omega),ho89,hO'o⟩
      ) (by dsimp only;omega) ⟨rfl,rfl,rfl,rfl,rfl,rfl,rfl,rfl,rfl,rfl,rfl,trivial⟩ ⟨rfl,rfl,rfl,rfl,rfl,rfl,rfl,trivial⟩))
 · first |exact bN hb69|(
 (have hold:posK (Ks t) o' (Ks t y)<o'.length:=by simpa using hb69);have hold2:posK (minW t).key o' ((minW t).key ((minW t).step i x s))<o'.length:=by
  rw [hto];show posK (YD t) o' (YD t y)<o'.length;rw [←hid];exact hold
 have hnum:Wy (Ks t) o' y=posK (minW t).key o' ((minW t).key ((minW t).step i x s)):=by
  rw [hto];show Wy (Ks t) o' y=posK (YD t) o' (YD t y);unfold Wy;rw [UU hold,hid]
 refine Ze ?_;(refine xL 82 (Zd 7 Zx) ?_<;>(refine yL 83 (Zl 7 ZC) fun v83 h=>?_;cases h)<;>refine xL 84 Zb (xL 85 Zb (xL 86 Zb (xL 87 (ZO YW) ?_)))<;>refine YI 88 ZU fun h88 ho88=>?_<;>(refine ZY 302 88 89 ZU fun h89 ho89=>?_;refine Zu (ZD (l:=89) 302 rfl rfl) fun _=>?_;first|refine Zu (ZF (l:=302) rfl (WZ _ (Z4 rows++Yq i r) ⟨(i:Nat),(o'.length:Nat),(s:Nat)⟩)) fun _=>?_|refine Zu (ZF (l:=302) rfl (WZ _ (Z4 rows++Yq i r) ⟨(i:Nat),(Wy (Ks t) o' y:Nat),(s:Nat)⟩)) fun _=>?_)<;>refine xL 90 (Zd 7 Zx) ?_<;>refine YQ 7 ZC YK ?_<;>refine Zk ?_)
 (refine xL 91 ZK (xL 54 Zb ?_)<;>refine Zc ?_)
 try rw [show (Z4 rows++Yq i r)++[(⟨(i:Nat),(o'.length:Nat),(s:Nat)⟩:Mv)]=Z4 rows++Yq i (r++[o'.length]) by rw [Kx,hrl2,Xu]]
 try rw [show (Z4 rows++Yq i r)++[(⟨(i:Nat),(Wy (Ks t) o' y:Nat),(s:Nat)⟩:Mv)]=Z4 rows++Yq i (r++[Wy (Ks t) o' y]) by rw [Kx,hrl2,Xu]]
 first
  | (exact Zn (
      ⟨(s+1,h89,h81,o'++[y],r++[o'.length]),(by dsimp only;exact (by have h9:=Srch.row_snoc hW (Wc hnew2 hroom);rwa [hto] at h9)),(by dsimp only;omega),ho89,ho81⟩
      ) (by dsimp only;omega) ⟨rfl,rfl,rfl,rfl,rfl,rfl,rfl,rfl,rfl,rfl,rfl,trivial⟩ ⟨rfl,rfl,rfl,rfl,rfl,rfl,rfl,trivial⟩)
  | (exact Zn (
      ⟨(s+1,h89,hO',o',r++[Wy (Ks t) o' y]),(by dsimp only;rw [hnum];exact Srch.row_snoc hW (Wb hold2)),(by dsimp only;omega),ho89,hO'o⟩
      ) (by dsimp only;omega) ⟨rfl,rfl,rfl,rfl,rfl,rfl,rfl,rfl,rfl,rfl,rfl,trivial⟩ ⟨rfl,rfl,rfl,rfl,rfl,rfl,rfl,trivial⟩)))
 · first |exact bN hb55|(
 have hsm:s=t.m:=oM;subst hsm;have hU2:=Srch.upto_snoc hU hx hW;rw [show Z4 rows++Yq i r=Z4 (rows++[r]) by rw [SU,hRl]];rw [S6 hpr (i+1) oM];refine Ze ?_;(refine xL 29 Zb (xL 30 ZK (xL 8 Za ?_))<;>refine Zc ?_)
 first
  | (exact Zn (
      ⟨(i+1,h43,hM',hO',o',rows++[r]),hU2,(by dsimp only;have:=hpr.length_le;omega),ho43,hM'o,hO'o⟩
      ) (by dsimp only;omega) ⟨rfl,rfl,rfl,rfl,rfl,rfl,rfl,rfl,trivial⟩ ⟨rfl,rfl,rfl,rfl,rfl,rfl,rfl,trivial⟩)
  | (exact Zn (
      ⟨(i+1,hF,hM',hO',o',rows++[r]),hU2,(by dsimp only;have:=hpr.length_le;omega),hFo,hM'o,hO'o⟩
      ) (by dsimp only;omega) ⟨rfl,rfl,rfl,rfl,rfl,rfl,rfl,rfl,trivial⟩ ⟨rfl,rfl,rfl,rfl,rfl,rfl,rfl,trivial⟩))))
 · first|exact bN hb28|(
 have hio:i=o.length:=oM;subst hio;have hA:=Srch.all_some hU (Xh _) (show o.length≤(minW t).cap from hcap);refine Ze ?_;(refine xL 92 Zb (xL 93 (YH 303 Zr) (xL 94 (Zd 7 ZS) ?_))<;>refine YQ 7 Zg Wx ?_<;>refine Zk ?_)
 (refine xL 95 (Zd 7 Zx) ?_<;>(refine yL 96 (Zl 7 ZC) fun v96 h=>?_;cases h)<;>refine xL 97 (YH 302 ZL) (xL 98 Yz ?_)<;>refine Zc ?_)
 refine cX ?_ ?_<;>intro hb98
 · first|exact bN hb98|(
 refine Ze ?_;(refine xL 99 (ZO ZX) ?_<;>refine Zz 2 Zf ?_<;>refine xL 3 Za ?_<;>refine Zc ?_)
 refine Z8 (k:=5) 2 kR (results186) rfl rfl rfl (Xa rfl) dC rfl ?_;unfold Wp;rw [hA,Vd,UU (by dsimp only;omega)];rfl)
 · first|exact bN hb98|(
 refine nav ?_;refine Zq (Z7 (l:=7) (l':=301) (j:=3) rfl rfl rfl rfl) fun _=>?_;refine Zq (Z7 (l:=7) (l':=302) (j:=4) rfl rfl rfl rfl) fun _=>?_;rw [ZV _ _ _ rfl,W7 _ _ _ rfl];(refine Zt ?_<;>(refine yL 100 (Zs 7 Zf) fun v100 h=>?_;cases h)<;>refine Zz 2 Zf ?_<;>refine xL 3 Za ?_<;>refine Zc ?_)
 refine Z8 (k:=5) 2 kR (results186) rfl rfl rfl (Xa rfl) dC rfl ?_;unfold Wp;rw [hA,Vd,UT (by dsimp only;omega)];rfl))
theorem Zkk {a:Aut} (h:2000<a.n∨20000<a.moves.length):Hr a= .error 13:=by unfold Hr;rw [UU h]
theorem Zmz {a:Aut} (h:¬(2000<a.n∨20000<a.moves.length)):Hr a=WV a:=by unfold Hr;rw [UT h]
theorem ZhY (x:Option Aut):(∃A,x=some A∧resW (lim x)= .tup [ZJ A,pInt 0])∨(x=none∧resW (lim x)= .tup [KR,pInt 13]):=by
 cases x with
 |none=>exact .inr ⟨rfl,rfl⟩
 |some A=>exact .inl ⟨A,rfl,rfl⟩
theorem Dc (x:Except Int Aut):(∃A,x= .ok A∧resW x= .tup [ZJ A,pInt 0])∨(∃e,x= .error e∧resW x= .tup [KR,pInt e]):=by
 cases x with
 |error e=>exact .inr ⟨e,rfl,rfl⟩
 |ok A=>exact .inl ⟨A,rfl,rfl⟩
theorem ζ4 {a:Aut} {t:Tab} (h:Jc a=some t):WV a=lim (Wp t):=by unfold WV;rw [h]
theorem ζ5 {a:Aut} (h:Jc a=none):WV a= .error 13:=by unfold WV;rw [h]
theorem Zbn (a:Aut) (hl:a.moves.length≤1000000) (hb:2000<a.n∨20000<a.moves.length):AF prog 132 [ZJ a] (· = .tup [KR,pInt 13]):=by
 refine AF.of_body 28 func132 rfl ntmps132 (Xa rfl) ?_
 intro w0 M0 vs hl hv
 obtain ⟨v0,rfl⟩:=WE hl
 clear hl hv
 refine Ze ?_
 (refine ZB 1 5 fun h1=>?_<;>refine Zv [(.int .i64 0),(.int .i64 0),(.slice none 0 0),(.slice none 0 0),(.slice none 0 0)] 5 2 ZI fun h2=>?_<;>refine xL 3 Za ?_<;>refine Zk ?_)
 (refine xL 6 (Zd 1 ZS) ?_<;>(refine yL 7 (Zl 1 Zg) fun v7 h=>?_;cases h)<;>refine xL 8 Yz (xL 9 Zb ?_)<;>(refine bLd 9 (fun hb9=>?_) (fun hb9=>?_)<;>(first|refine kL 10 ?_|refine xL 10 (Zd 1 Zx) ?_))<;>(first|refine kL 11 ?_|(refine yL 11 (Zl 1 ZC) fun v11 h=>?_;cases h))<;>(first|refine kL 12 ?_|refine xL 12 (ZW ZL) ?_)<;>(first|refine kL 13 ?_|refine xL 13 Yz ?_)<;>refine xL 14 ZG ?_<;>refine Zc ?_)<;>(
 refine cX ?_ ?_<;>intro hb14
 · refine Ze ?_;(refine xL 15 (ZO ZX) ?_<;>refine Zz 2 Zf ?_<;>refine xL 3 Za ?_<;>refine Zc ?_)
   exact Z8 (k:=5) 2 kR (results132) rfl rfl rfl (Xa rfl) dC rfl rfl
 · exfalso
   first
    |omega
    |(simp at hb14;done)
    |(simp at hb14;omega))
theorem C2 (a:Aut) (h:AOk a) (hs:Jc a=none):AF prog 132 [ZJ a] (· = .tup [KR,pInt 13]):=by
 have hn1:=h.n1
 have hml:=h.ml
 have hS:AF prog 185 [ZJ a] (fun p=>∃i:{i:Value×Value×Value//i.1.oneCell'=true∧i.2.1.oneCell'=true∧i.2.2.oneCell'=true},p= .tup [.agg [.val i.1.1, .val i.1.2.1, .val i.1.2.2],ZN false]):=(PC a h).mono fun p hp=>by
  rcases hp with ⟨t,h1,_⟩|⟨_,u1,u2,u3,o1,o2,o3,h2⟩
  · rw [hs] at h1;cases h1
  · exact ⟨⟨(u1,u2,u3),o1,o2,o3⟩,h2⟩
 refine AF.of_body 28 func132 rfl ntmps132 (Xa rfl) ?_
 intro w0 M0 vs hl hv
 obtain ⟨v0,rfl⟩:=WE hl
 clear hl hv
 refine Ze ?_
 (refine ZB 1 5 fun h1=>?_<;>refine Zv [(.int .i64 0),(.int .i64 0),(.slice none 0 0),(.slice none 0 0),(.slice none 0 0)] 5 2 ZI fun h2=>?_<;>refine xL 3 Za ?_<;>refine Zk ?_)
 (refine xL 6 (Zd 1 ZS) ?_<;>(refine yL 7 (Zl 1 Zg) fun v7 h=>?_;cases h)<;>refine xL 8 Yz (xL 9 Zb ?_)<;>(refine bLd 9 (fun hb9=>?_) (fun hb9=>?_)<;>(first|refine kL 10 ?_|refine xL 10 (Zd 1 Zx) ?_))<;>(first|refine kL 11 ?_|(refine yL 11 (Zl 1 ZC) fun v11 h=>?_;cases h))<;>(first|refine kL 12 ?_|refine xL 12 (ZW ZL) ?_)<;>(first|refine kL 13 ?_|refine xL 13 Yz ?_)<;>refine xL 14 ZG ?_<;>refine Zc ?_)<;>(
 refine cX ?_ ?_<;>intro hb14
 · exfalso
   first
    |omega
    |(simp at hb14;done)
    |(simp at hb14;omega)
 · refine Ze ?_;((refine yL 17 (Zs 1 Zf) fun v17 h=>?_;cases h)<;>(refine cPx 18 (cA call185 hS) (fun i va18 vb18 hva18 hvb18=>?_) (fun _=>rfl);cases hvb18;obtain ⟨⟨u1,u2,u3⟩,o1,o2,o3⟩:=i;dsimp only at o1 o2 o3 hva18 ⊢;have q1:En.one (PV.val u1)=true:=o1;have q2:En.one (PV.val u2)=true:=o2;have q3:En.one (PV.val u3)=true:=o3)<;>refine xL 16 Zb (xL 19 Zi (xL 20 Zi ?_))<;>refine Zv [(.int .i64 0),(.slice none 0 0),(.slice none 0 0)] 3 4 LB fun h4=>?_<;>refine Zz 4 WP ?_<;>refine xL 5 Za ?_<;>refine Zk ?_)
   (refine xL 21 Zb (xL 22 Z' ?_)<;>refine Zc ?_)
   refine cCt ?_;refine Ze ?_;(refine xL 23 (ZO ZX) ?_<;>refine Zz 2 Zf ?_<;>refine xL 3 Za ?_<;>refine Zc ?_)
   exact Z8 (k:=5) 2 kR (results132) rfl rfl rfl (Xa rfl) dC rfl rfl)
theorem Zdn (a:Aut) (h:AOk a) {t:Tab} (hs:Jc a=some t) {A:Aut} (hm:AF prog 186 [Zdh t] (· = .tup [ZJ A,pInt 0])):AF prog 132 [ZJ a] (· = .tup [ZJ A,pInt 0]):=by
 have hn1:=h.n1
 have hml:=h.ml
 have hS:AF prog 185 [ZJ a] (· = .tup [Zdh t,ZN true]):=(PC a h).mono fun p hp=>by
  rcases hp with ⟨t',h1,h2⟩|⟨h1,_⟩
  · rw [hs] at h1;cases h1;exact h2
  · rw [hs] at h1;cases h1
 refine AF.of_body 28 func132 rfl ntmps132 (Xa rfl) ?_
 intro w0 M0 vs hl hv
 obtain ⟨v0,rfl⟩:=WE hl
 clear hl hv
 refine Ze ?_
 (refine ZB 1 5 fun h1=>?_<;>refine Zv [(.int .i64 0),(.int .i64 0),(.slice none 0 0),(.slice none 0 0),(.slice none 0 0)] 5 2 ZI fun h2=>?_<;>refine xL 3 Za ?_<;>refine Zk ?_)
 (refine xL 6 (Zd 1 ZS) ?_<;>(refine yL 7 (Zl 1 Zg) fun v7 h=>?_;cases h)<;>refine xL 8 Yz (xL 9 Zb ?_)<;>(refine bLd 9 (fun hb9=>?_) (fun hb9=>?_)<;>(first|refine kL 10 ?_|refine xL 10 (Zd 1 Zx) ?_))<;>(first|refine kL 11 ?_|(refine yL 11 (Zl 1 ZC) fun v11 h=>?_;cases h))<;>(first|refine kL 12 ?_|refine xL 12 (ZW ZL) ?_)<;>(first|refine kL 13 ?_|refine xL 13 Yz ?_)<;>refine xL 14 ZG ?_<;>refine Zc ?_)<;>(
 refine cX ?_ ?_<;>intro hb14
 · exfalso
   first
    |omega
    |(simp at hb14;done)
    |(simp at hb14;omega)
 · refine Ze ?_;((refine yL 17 (Zs 1 Zf) fun v17 h=>?_;cases h)<;>(refine cP 18 (cA call185 (hS)) fun va18 vb18 hva18 h=>?_;cases h)<;>refine xL 16 Zb (xL 19 Zi (xL 20 Zi ?_))<;>refine Zv [(.int .i64 0),(.slice none 0 0),(.slice none 0 0)] 3 4 LB fun h4=>?_<;>refine Zz 4 WP ?_<;>refine xL 5 Za ?_<;>refine Zk ?_)
   (refine xL 21 Zb (xL 22 Z' ?_)<;>refine Zc ?_)
   refine cCf ?_;refine Ze ?_;((refine yL 24 (Zs 4 WP) fun v24 h=>?_;cases h)<;>(refine cP 25 (cA call186 (hm)) fun va25 vb25 hva25 h=>?_;cases h)<;>refine xL 26 Zi (xL 27 Zi ?_)<;>refine Zz 2 Zf ?_<;>refine xL 3 Za ?_<;>refine Zc ?_)
   exact Z8 (k:=5) 2 kR (results132) rfl rfl rfl (Xa rfl) dC rfl rfl)
theorem Zbo (a:Aut) (h:AOk a) {t:Tab} (hs:Jc a=some t) (hm:AF prog 186 [Zdh t] (· = .tup [KR,pInt 13])):AF prog 132 [ZJ a] (· = .tup [KR,pInt 13]):=by
 have hn1:=h.n1
 have hml:=h.ml
 have hS:AF prog 185 [ZJ a] (· = .tup [Zdh t,ZN true]):=(PC a h).mono fun p hp=>by
  rcases hp with ⟨t',h1,h2⟩|⟨h1,_⟩
  · rw [hs] at h1;cases h1;exact h2
  · rw [hs] at h1;cases h1
 refine AF.of_body 28 func132 rfl ntmps132 (Xa rfl) ?_
 intro w0 M0 vs hl hv
 obtain ⟨v0,rfl⟩:=WE hl
 clear hl hv
 refine Ze ?_
 (refine ZB 1 5 fun h1=>?_<;>refine Zv [(.int .i64 0),(.int .i64 0),(.slice none 0 0),(.slice none 0 0),(.slice none 0 0)] 5 2 ZI fun h2=>?_<;>refine xL 3 Za ?_<;>refine Zk ?_)
 (refine xL 6 (Zd 1 ZS) ?_<;>(refine yL 7 (Zl 1 Zg) fun v7 h=>?_;cases h)<;>refine xL 8 Yz (xL 9 Zb ?_)<;>(refine bLd 9 (fun hb9=>?_) (fun hb9=>?_)<;>(first|refine kL 10 ?_|refine xL 10 (Zd 1 Zx) ?_))<;>(first|refine kL 11 ?_|(refine yL 11 (Zl 1 ZC) fun v11 h=>?_;cases h))<;>(first|refine kL 12 ?_|refine xL 12 (ZW ZL) ?_)<;>(first|refine kL 13 ?_|refine xL 13 Yz ?_)<;>refine xL 14 ZG ?_<;>refine Zc ?_)<;>(
 refine cX ?_ ?_<;>intro hb14
 · exfalso
   first
    |omega
    |(simp at hb14;done)
    |(simp at hb14;omega)
 · refine Ze ?_;((refine yL 17 (Zs 1 Zf) fun v17 h=>?_;cases h)<;>(refine cP 18 (cA call185 (hS)) fun va18 vb18 hva18 h=>?_;cases h)<;>refine xL 16 Zb (xL 19 Zi (xL 20 Zi ?_))<;>refine Zv [(.int .i64 0),(.slice none 0 0),(.slice none 0 0)] 3 4 LB fun h4=>?_<;>refine Zz 4 WP ?_<;>refine xL 5 Za ?_<;>refine Zk ?_)
   (refine xL 21 Zb (xL 22 Z' ?_)<;>refine Zc ?_)
   refine cCf ?_;refine Ze ?_;((refine yL 24 (Zs 4 WP) fun v24 h=>?_;cases h)<;>(refine cP 25 (cA call186 (hm)) fun va25 vb25 hva25 h=>?_;cases h)<;>refine xL 26 Zi (xL 27 Zi ?_)<;>refine Zz 2 Zf ?_<;>refine xL 3 Za ?_<;>refine Zc ?_)
   exact Z8 (k:=5) 2 kR (results132) rfl rfl rfl (Xa rfl) dC rfl rfl)
theorem T8 (a:Aut) (h:AOk a):AF prog 132 [ZJ a] (· =resW (WV a)):=by
 rcases hs:Jc a with _|t
 · rw [ζ5 hs];exact C2 a h hs
 · have hm:=Zfz t (HW h hs);rw [ζ4 hs];rcases ZhY (Wp t) with ⟨A,_,h2⟩|⟨_,h2⟩
   · rw [h2] at hm ⊢;exact Zdn a h hs hm
   · rw [h2] at hm ⊢;exact Zbo a h hs hm
theorem ZfA (a:Aut) (hl:a.moves.length≤1000000) (h:¬(2000<a.n∨20000<a.moves.length)→AOk a):AF prog 132 [ZJ a] (· =resW (Hr a)):=by
 by_cases hb:2000<a.n∨20000<a.moves.length
 · rw [Zkk hb];exact Zbn a hl hb
 · rw [Zmz hb];exact T8 a (h hb)
theorem C3 (a:Aut) (hv:Z1 a=false):AF prog 84 [ZJ a] (· = .tup [KR,pInt 1]):=by
 refine AF.of_body 12 func84 rfl ntmps84 (Xa rfl) ?_
 intro w0 M0 vs hl hv
 obtain ⟨v0,rfl⟩:=WE hl
 clear hl hv
 refine Ze ?_
 (refine ZB 1 5 fun h1=>?_<;>refine Zv [(.int .i64 0),(.int .i64 0),(.slice none 0 0),(.slice none 0 0),(.slice none 0 0)] 5 2 ZI fun h2=>?_<;>refine xL 3 Za ?_<;>refine Zk ?_)
 ((refine yL 4 (Zs 1 Zf) fun v4 h=>?_;cases h)<;>(refine cS 5 (cA call107 (WH a)) fun v5 h=>?_;cases h)<;>refine xL 6 Z' ?_<;>refine Zc ?_)
 refine cX ?_ ?_<;>intro hb6
 · refine Ze ?_;(refine xL 7 (ZO ZX) ?_<;>refine Zz 2 Zf ?_<;>refine xL 3 Za ?_<;>refine Zc ?_)
   exact Z8 (k:=5) 2 kR (results84) rfl rfl rfl (Xa rfl) dC rfl rfl
 · rw [hv] at hb6;simp at hb6
theorem Zbp (a:Aut) (hv:Z1 a=true) {A:Aut} (hm:AF prog 132 [ZJ a] (· = .tup [ZJ A,pInt 0])):AF prog 84 [ZJ a] (· = .tup [ZJ A,pInt 0]):=by
 refine AF.of_body 12 func84 rfl ntmps84 (Xa rfl) ?_
 intro w0 M0 vs hl hv
 obtain ⟨v0,rfl⟩:=WE hl
 clear hl hv
 refine Ze ?_
 (refine ZB 1 5 fun h1=>?_<;>refine Zv [(.int .i64 0),(.int .i64 0),(.slice none 0 0),(.slice none 0 0),(.slice none 0 0)] 5 2 ZI fun h2=>?_<;>refine xL 3 Za ?_<;>refine Zk ?_)
 ((refine yL 4 (Zs 1 Zf) fun v4 h=>?_;cases h)<;>(refine cS 5 (cA call107 (WH a)) fun v5 h=>?_;cases h)<;>refine xL 6 Z' ?_<;>refine Zc ?_)
 refine cX ?_ ?_<;>intro hb6
 · rw [hv] at hb6;simp at hb6
 · refine Ze ?_;((refine yL 8 (Zs 1 Zf) fun v8 h=>?_;cases h)<;>(refine cP 9 (cA call132 (hm)) fun va9 vb9 hva9 h=>?_;cases h)<;>refine xL 10 Zi (xL 11 Zi ?_)<;>refine Zz 2 Zf ?_<;>refine xL 3 Za ?_<;>refine Zc ?_)
   exact Z8 (k:=5) 2 kR (results84) rfl rfl rfl (Xa rfl) dC rfl rfl
theorem C4 (a:Aut) (hv:Z1 a=true) {e:Int} (hm:AF prog 132 [ZJ a] (· = .tup [KR,pInt e])):AF prog 84 [ZJ a] (· = .tup [KR,pInt e]):=by
 refine AF.of_body 12 func84 rfl ntmps84 (Xa rfl) ?_
 intro w0 M0 vs hl hv
 obtain ⟨v0,rfl⟩:=WE hl
 clear hl hv
 refine Ze ?_
 (refine ZB 1 5 fun h1=>?_<;>refine Zv [(.int .i64 0),(.int .i64 0),(.slice none 0 0),(.slice none 0 0),(.slice none 0 0)] 5 2 ZI fun h2=>?_<;>refine xL 3 Za ?_<;>refine Zk ?_)
 ((refine yL 4 (Zs 1 Zf) fun v4 h=>?_;cases h)<;>(refine cS 5 (cA call107 (WH a)) fun v5 h=>?_;cases h)<;>refine xL 6 Z' ?_<;>refine Zc ?_)
 refine cX ?_ ?_<;>intro hb6
 · rw [hv] at hb6;simp at hb6
 · refine Ze ?_;((refine yL 8 (Zs 1 Zf) fun v8 h=>?_;cases h)<;>(refine cP 9 (cA call132 (hm)) fun va9 vb9 hva9 h=>?_;cases h)<;>refine xL 10 Zi (xL 11 Zi ?_)<;>refine Zz 2 Zf ?_<;>refine xL 3 Za ?_<;>refine Zc ?_)
   exact Z8 (k:=5) 2 kR (results84) rfl rfl rfl (Xa rfl) dC rfl rfl
theorem D' (a:Aut):AF prog 84 [ZJ a] (· =resW (Ji a)):=by
 unfold Ji
 cases hv:Z1 a with
 |false=>rw [UT sM];exact C3 a hv
 | true=>
   rw [UU rfl];have hm:=T8 a (Kp hv);rcases Dc (WV a) with ⟨A,_,h2⟩|⟨e,_,h2⟩
   · rw [h2] at hm ⊢;exact Zbp a hv hm
   · rw [h2] at hm ⊢;exact C4 a hv hm
theorem ZhZ {l:List Int} {k:Nat} {x:Int} (h:l[k]? =some x):T5 (l.take (k+1))=T5 (l.take k)++[UInt8.ofNat (x.toNat % 250+1),UInt8.ofNat (x.toNat / 250+1),0]:=by
 unfold T5;rw [ZR h,XM];simp
theorem Zdo:∀l:List Int,(T5 l).length=l.length*3
 |[]=>rfl
 | x::l=>by
   have:T5 (x::l)=[UInt8.ofNat (x.toNat % 250+1),UInt8.ofNat (x.toNat / 250+1),0]++T5 l:=rfl;rw [this,Xb,Zdo l];simp only [Xk,XC];omega
theorem Zkl (e:Nat) {l:List Int} {k:Nat} {x:Int} (h:l[k]? =some x) (h0:0≤x) (h1:x≤2000):PV.own e 1 ((T5 (l.take k)).length+3) ((T5 (l.take k)).map LY++[PV.val (.int .u8 (x.tmod 250+1)),PV.val (.int .u8 (x.tdiv 250+1)),PV.val (.int .u8 0)])= .own e 1 (T5 (l.take (k+1))).length ((T5 (l.take (k+1))).map LY):=by
 rw [ZhZ h,Xs,Xb]
 have e1:(((UInt8.ofNat (x.toNat % 250+1)).toNat:Nat):Int)=x.tmod 250+1:=by
  rw [UInt8.toNat_ofNat',Int.tmod_eq_emod_of_nonneg h0];omega
 have e2:(((UInt8.ofNat (x.toNat / 250+1)).toNat:Nat):Int)=x.tdiv 250+1:=by
  rw [UInt8.toNat_ofNat',Int.tdiv_eq_ediv_of_nonneg h0];omega
 simp only [Xx,X',LY,e1,e2]
 rfl
theorem ZnO {a:Int} (h0:0≤a) (h1:a≤255):IntKind.u8.wrap a=a:=by
 rw [IntKind.wrap_u8];omega
theorem Kv (l:List Int) (hl:l.length≤1000000) (h0:∀x∈l,0≤x∧x≤2000):AF prog 201 [pInts l] (· = .val (.string (Lu l))):=by
 refine AF.of_body 31 func201 rfl ntmps201 (Xa rfl) ?_
 intro w0 M0 vs hl hv
 obtain ⟨v0,rfl⟩:=WE hl
 clear hl hv
 refine Ze ?_
 (refine xL 2 Za ?_<;>refine Zk ?_)
 (refine J0 5 LA fun h5 ho5=>?_<;>refine xL 3 Za ?_<;>refine Zc ?_)
 refine Zq (ZD (l:=5) 200 rfl rfl) fun _=>?_
 refine Wm 0 rfl fun hlen=>?_
 (refine Zt ?_<;>refine xL 4 Za ?_<;>refine Zc ?_)
 refine ZE (ι:={q:Nat×Value//q.1≤l.length∧q.2.oneCell'=true}) (fun k=>⟨[(0,_,_),(3,k.1.2, .val k.1.2),(4, .int .i64 k.1.1,pInt k.1.1)],[(200,k.1.2, .own 5 1 (T5 (l.take k.1.1)).length ((T5 (l.take k.1.1)).map LY))]⟩) (fun k=>l.length-k.1.1) ⟨(0,h5),Xd _,ho5⟩ (fun a w H=>H.weaken ⟨rfl,rfl,rfl,trivial⟩ ⟨rfl,trivial⟩) ?_
 rintro ⟨⟨k,r⟩,hk,hr⟩
 dsimp only
 dsimp only at hk hr
 have hkl:=Zdo (l.take k)
 rw [Xn] at hkl
 refine Ze ?_
 (refine xL 6 Zb (xL 7 Zb (xL 8 (ZW Zr) (xL 9 ZQ ?_)))<;>refine Zc ?_)
 refine cX ?_ ?_<;>intro hb9
 · first|exact bN hb9|(
 obtain ⟨x,hx⟩:=Zw (show k<l.length by omega);have e1:=Yb (f:=pInt) hx;have hx0:=h0 x (Xc hx);(have t1:0≤x.tmod 250∧x.tmod 250<250:=by rw [Int.tmod_eq_emod_of_nonneg hx0.1];omega);(have t2:0≤x.tdiv 250∧x.tdiv 250≤8:=by rw [Int.tdiv_eq_ediv_of_nonneg hx0.1];omega);refine nav ?_;(refine ZZ (fun i=>([]:List Nat).elem i) [] kR ?_<;>refine xD 0 12 rfl Zb ?_<;>refine xD 1 13 rfl Zb ?_<;>refine xD 2 14 rfl Zb ?_<;>refine xD 3 15 rfl (ZH Zr) ?_<;>(refine yD 4 16 rfl (Ya Zg) fun v16 h=>?_;cases h)<;>refine xD 5 17 rfl Zpi ?_<;>refine xD 6 18 rfl ZK ?_<;>refine xD 7 19 rfl (Zi7 (hs:=underlying3) (hd:=underlying5) (hw:=ZnO oM oM)) ?_<;>refine xD 8 20 rfl Zb ?_<;>refine xE 9 21 rfl Zb ?_<;>refine xE 10 22 rfl (ZH Zr) ?_<;>(refine yE 11 23 rfl (Ya Zg) fun v23 h=>?_;cases h)<;>refine xE 12 24 rfl (Zpk (x.tdiv 250) rfl oM oM) ?_<;>refine xE 13 25 rfl ZK ?_<;>refine xE 14 26 rfl (Zi7 (hs:=underlying3) (hd:=underlying5) (hw:=ZnO oM oM)) ?_<;>(refine Zp 15 kR ?_)<;>(refine Zm rfl fun w9 M9 N9 DQ back=>?_)<;>refine Ph (xs:=[_,_,_]) 27 LA fun h27 ho27=>?_<;>refine Zj (back _ (nrm ?_))<;>(refine Zp 16 kR ?_)<;>(refine Zm rfl fun w9 M9 N9 DQ back=>?_)<;>refine ZY 200 27 28 LA fun h28 ho28=>?_<;>refine Zj (back _ (nrm ?_))<;>refine xE 17 3 rfl Za ?_<;>refine YC kR (nav ?_)<;>try dsimp only)
 refine Zq (ZD (l:=28) 200 rfl rfl) fun _=>?_;refine Zq (ZF (l:=200) rfl (Zkl _ hx hx0.1 hx0.2)) fun _=>?_;(refine Zt ?_<;>refine xL 10 Zb (xL 11 ZK (xL 4 Za ?_))<;>refine Zc ?_)
 refine Zn (
  ⟨(k+1,h28),Zh hx,ho28⟩
  ) (by dsimp only;omega) ⟨rfl,rfl,rfl,trivial⟩ ⟨rfl,trivial⟩)
 · first|exact bN hb9|(
 refine Ze ?_;(refine xL 29 Zb (xL 30 (Zjs 200 underlying170 underlying5 underlying9) (xL 2 Za ?_))<;>refine Zc ?_)
 refine ZA (results201) rfl ?_;rw [Xj oM];rfl)
theorem ZP:AggT prog 188 3=true:=by kernel_rfl
theorem YM:FldT prog 188 1 1=true:=by kernel_rfl
theorem Ys:FldT prog 188 2 2=true:=by kernel_rfl
theorem LD:W1 prog 188=some ((.agg #[(.int .i64 0),(.slice none 0 0),(.slice none 0 0)]),([0,1,2]:List Nat).map fun o=>(o,1)):=by kernel_rfl
theorem Z6:ZeroT prog 188 (.agg #[(.int .i64 0),(.slice none 0 0),(.slice none 0 0)]):=by unfold ZeroT;kernel_rfl
section
variable {α:Type}
def T9 (f:α→ByteArray) (o:List α) (x:α):Nat:=if posK f o (f x)<o.length then posK f o (f x)+1 else 0
theorem Dd (f:α→ByteArray) (o:List α) (x:α):(Kt (skv (YT f 1 o)) (.string (f x))).getD (.int .i64 0)= .int .i64 (T9 f o x:Nat):=by
 rw [Zca,Tt]
 unfold T9
 by_cases h:posK f o (f x)<o.length
 · rw [UU h,UU h,Ud];rfl
 · rw [UT h,UT h];rfl
theorem E6 {f:α→ByteArray} {o:List α} {x:α} (h:¬posK f o (f x)<o.length):Jg (skv (YT f 1 o)) (.string (f x)) (.int .i64 ((o.length+1:Nat):Int))=skv (YT f 1 (o++[x])):=by
 have:=Of f x o 1 h
 rw [Ud] at this
 rw [Ed,this]
end
theorem Zou {o:List (List Int)} {x:List Int} (h:∀l∈o,∀s∈l,0≤s∧s≤2000) (hx:∀s∈x,0≤s∧s≤2000):posK Lu o (Lu x)=posK id o x:=GH fun l hl=>ER (h l hl) hx
theorem SetOk.bd2 {a:Aut} (ha:AOk a) {l:List Int} (h:SetOk a l):∀s∈l,0≤s∧s≤2000:=fun s hs=>by have:=h.1 s hs;have:=ha.n1;omega
def Zps (a:Aut) (v:Value) (q:PV) (h:List (Nat×Ent)):Prop:=
 (∃(t:Tab) (hF V1:Value),hF.oneCell'=true∧Jc a=some t∧v= .tuple [V1, .bool true].toArray∧q= .tup [.agg [pInt (t.m:Nat), .val hF, .sl t.rows.length (t.rows.map Wn)],ZN true]∧h=[(1000,hF, .own 4 1 t.fin.length (t.fin.map ZN))])∨
 (Jc a=none∧(∃V1:Value,v= .tuple [V1, .bool false].toArray)∧q= .tup [.agg [pInt 0, .val (.slice none 0 0), .val (.slice none 0 0)],ZN false]∧h=[])
set_option maxHeartbeats 4000000 in
theorem Ou (a : Aut) (h:AOk a) (V:Value):AFh False prog 193 [(0,V,ZJ a)] [] (Zps a):=by
 have hn1:=h.n1
 have hs0:=h.s0
 have hs1:=h.s1
 have hsN:((a.syms.toNat:Nat):Int)=a.syms:=oM
 have hst:=O5 h
 refine AFh.of_body 89 func193 rfl ntmps193 (Xa rfl) rfl ?_
 intro w0 M0 N0
 refine Ze ?_
 (refine ZB 1 5 fun h1=>?_<;>refine Zv [(.int .i64 0),(.slice none 0 0),(.slice none 0 0)] 3 2 Z6 fun h2=>?_<;>refine xL 3 Za ?_<;>refine Zk ?_)
 (refine xL 12 (Zd 1 ZT) ?_<;>(refine yL 13 (Zl 1 Zg) fun v13 h=>?_;cases h)<;>refine xL 14 (ZO LD) ?_<;>refine Zv [(.int .i64 0),(.slice none 0 0),(.slice none 0 0)] 3 4 Z6 fun h4=>?_<;>refine Zz 4 ZP ?_<;>refine Zc ?_)
 refine Zq (WF (l:=4) [pInt a.syms, .own 4 1 0 [], .own 36 1 0 []] rfl rfl (fun i p p' h1 h2=>by
  match i with
  |0=>cases h1;cases h2;exact .inl rfl
  |1=>cases h1;cases h2;exact .inr ⟨rfl,_,_,rfl⟩
  |2=>cases h1;cases h2;exact .inr ⟨rfl,_,_,rfl⟩
  |i+3=>simp at h2)) fun _=>?_
 refine Zq (We (l:=4) (l':=302) (j:=1) rfl rfl rfl rfl) fun i=>?_
 obtain ⟨v302,ho302⟩:=i
 refine Zq (We (l:=4) (l':=301) (j:=2) rfl rfl rfl rfl) fun i=>?_
 obtain ⟨v301,ho301⟩:=i
 dsimp only [List.set]
 (refine Zt ?_<;>(refine yL 15 (Zs 1 Zf) fun v15 h=>?_;cases h)<;>refine xL 16 (Zd 1 Z9) ?_<;>(refine yL 17 (Zl 1 Zy) fun v17 h=>?_;cases h)<;>(refine cO 18 (cA call70 (D8 a a.start h h.st)) fun v18 ho18=>?_;refine Zu (En.freeze (l:=18) (t:=18) rfl rfl) fun _=>?_;rw [ZV _ _ _ rfl])<;>refine ZM (kk:=1) 19 Yw fun h19 ho19=>?_<;>refine xL 5 Za ?_<;>refine Zc ?_)
 refine Zq (ZD (l:=19) 303 rfl rfl) fun _=>?_
 obtain ⟨x0,hx0⟩:∃x0,x0=Y3 a a.start:=⟨_,rfl⟩
 rw [←hx0] at hst ⊢
 have hst2:=hst.len h
 (refine Zt ?_<;>refine Gw 20 fun h20 ho20=>?_<;>refine xL 6 Za ?_<;>refine Zk ?_)
 (refine xL 21 Zb (xL 22 Zb ?_)<;>refine xL 23 (Yg (i:=0) 303 Z0) ?_<;>(refine yL 24 (Zl 303 Zy) fun v24 h=>?_;cases h)<;>(refine cS 25 (cA call201 (Kv x0 oM (hst.bd2 h))) fun v25 h=>?_;cases h)<;>(refine GU 20 Wq ?_;rw [show Jg [] (.string (Lu x0)) (.int .i64 1)=skv (YT Lu 1 [x0]) from rfl])<;>refine Zc ?_)
 refine Zq (ZD (l:=20) 304 rfl rfl) fun _=>?_
 (refine Zt ?_<;>refine xL 7 Za ?_<;>refine Zc ?_)
 refine ZE (ι:={q:Nat×Value×Value×Value×List (List Int)×List (List Nat)//(W0 a).upto x0 q.1=some (q.2.2.2.2.1,q.2.2.2.2.2)∧q.1≤q.2.2.2.2.1.length∧q.2.1.oneCell'=true∧q.2.2.1.oneCell'=true∧q.2.2.2.1.oneCell'=true}) (fun k=>⟨[(1,_,_),(2,_,_),(3,_,_),(4,_,_),(6,_,_),(5,k.1.2.2.2.1, .val k.1.2.2.2.1),(7, .int .i64 k.1.1,pInt k.1.1)],[(1,_,_),(2,_,_),(304,h20, .omap (skv (YT Lu 1 k.1.2.2.2.2.1))),(4,h4, .own 188 3 1 [pInt a.syms, .val k.1.2.2.1, .val k.1.2.1]),(301,k.1.2.1, .own 36 1 k.1.2.2.2.2.2.length (k.1.2.2.2.2.2.map Wn)),(302,k.1.2.2.1, .own 4 1 ((k.1.2.2.2.2.1.take k.1.1).map (WS a)).length (((k.1.2.2.2.2.1.take k.1.1).map (WS a)).map ZN)),(303,k.1.2.2.2.1, .own 36 1 k.1.2.2.2.2.1.length (k.1.2.2.2.2.1.map pInts))]⟩) (fun k=>2000-k.1.1) ⟨(0,v301,v302,h19,[x0],[]),rfl,Xd _,ho301,ho302,ho19⟩ (fun a w H=>H.weaken ⟨rfl,rfl,rfl,rfl,rfl,rfl,rfl,trivial⟩ ⟨rfl,rfl,rfl,rfl,rfl,rfl,rfl,trivial⟩) ?_
 rintro ⟨⟨i,r1,r2,r3,o,rows⟩,hU,hi,hr1,hr2,hr3⟩
 dsimp only
 dsimp only at hU hi hr1 hr2 hr3
 have hU':=hU
 rw [hx0] at hU'
 obtain ⟨hOk,hRl,_⟩:=EO h hU'
 have hRl:=hRl hi
 have hcap:o.length≤2000:=hOk.cap
 have hOp:=hOk.p
 have hfl:((o.take i).map (WS a)).length≤2000:=by rw [Xe,Xn];omega
 refine Ze ?_
 (refine xL 26 Zb (xL 27 Zb (xL 28 (YH 303 Z0) (xL 29 ZQ ?_)))<;>refine Zc ?_)
 refine cX ?_ ?_<;>intro hb29
 · first | exact bN hb29|(
 obtain ⟨x,hx⟩:=Zw (show i<o.length by omega);have hxs:=hOp x (Xc hx);have hxl:=hxs.len h;refine Ze ?_;(refine J0 32 Zo fun h32 ho32=>?_<;>refine xL 8 Za ?_<;>refine Zc ?_)
 refine Zq (ZD (l:=32) 305 rfl rfl) fun _=>?_;refine Zq (ZF (l:=305) (p':= .own 3 1 ([]:List Nat).length ((toI []).map pInt)) rfl rfl) fun _=>?_;(refine Zt ?_<;>refine xL 9 Za ?_<;>refine Zc ?_)
 refine ZE (ι:={q:Nat×Value×Value×List (List Int)×List Nat//(W0 a).row i x o q.1=some (q.2.2.2.1,q.2.2.2.2)∧q.1≤a.syms.toNat∧q.2.1.oneCell'=true∧q.2.2.1.oneCell'=true}) (fun k=>⟨[(1,_,_),(2,_,_),(3,_,_),(4,_,_),(6,_,_),(7,_,_),(5,k.1.2.1, .val k.1.2.1),(8,k.1.2.2.1, .val k.1.2.2.1),(9, .int .i64 k.1.1,pInt k.1.1)],[(1,_,_),(2,_,_),(4,_,_),(301,_,_),(302,_,_),(303,k.1.2.1, .own 36 1 k.1.2.2.2.1.length (k.1.2.2.2.1.map pInts)),(304,h20, .omap (skv (YT Lu 1 k.1.2.2.2.1))),(305,k.1.2.2.1, .own 3 1 k.1.2.2.2.2.length ((toI k.1.2.2.2.2).map pInt))]⟩) (fun k=>a.syms.toNat-k.1.1) ⟨(0,r3,h32,o,[]),rfl,Xd _,hr3,ho32⟩ (fun a w H=>H.weaken ⟨rfl,rfl,rfl,rfl,rfl,rfl,rfl,rfl,rfl,trivial⟩ ⟨rfl,rfl,rfl,rfl,rfl,rfl,rfl,rfl,trivial⟩) ?_;rintro ⟨⟨s,r3',hR,o',r⟩,hW,hs,hr3',hRo⟩;dsimp only;dsimp only at hW hs hr3' hRo;obtain ⟨hMt,hpr,hrl,_⟩:=hOk.toMet.row (fun s _=>SQ h s x) (show s≤(W0 a).m from hs) hW;have hcap':o'.length≤2000:=hMt.cap;have hx':=Kd hpr hx;have hil:=Zh hx';have hrtl:=Y8 r;refine Ze ?_;(refine xL 33 Zb (xL 34 (Zd 1 ZT) ?_)<;>(refine yL 35 (Zl 1 Zg) fun v35 h=>?_;cases h)<;>refine xL 36 ZQ ?_<;>refine Zc ?_)
 refine cX ?_ ?_<;>intro hb36
 · first | exact bN hb36|(
 have hset:=SQ h (s:Nat) x;obtain ⟨set,hse⟩:∃set,set=YO a (s:Nat) x:=⟨_,rfl⟩;rw [←hse] at hset;have hsl:=hset.len h;have hkid:=Zou (fun l hl=>(hMt.p l hl).bd2 h) (hset.bd2 h);have e1:=Yb (f:=pInts) hx';have hlook:=Dd Lu o' set;refine nav ?_;(refine ZZ (fun i=>([]:List Nat).elem i) [1,303] kR ?_<;>(refine yD 0 39 rfl (Zs 1 Zf) fun v39 h=>?_;cases h)<;>refine xD 1 40 rfl Zb ?_<;>refine xD 2 41 rfl Zb ?_<;>refine xD 3 42 rfl (Yg 303 Z0) ?_<;>(refine yD 4 43 rfl (Zl 303 Zy) fun v43 h=>?_;cases h)<;>refine xE 5 44 rfl Zb ?_<;>(refine Zp 6 kR ?_)<;>(refine Zm rfl fun w9 M9 N9 DQ back=>?_)<;>(refine cO 45 (cA call71 (Zfr a x s h hxs.1)) fun v45 ho45=>?_;refine Zu (En.freeze (l:=45) (t:=45) rfl rfl) fun _=>?_;rw [ZV _ _ _ rfl,←hse])<;>refine Zj (back _ (nrm ?_))<;>refine xE 7 10 rfl Za ?_<;>refine YC kR (nav ?_)<;>try dsimp only)
 (refine Zt ?_<;>refine xL 46 Zb (xL 47 Zb ?_)<;>(refine cS 48 (cA call201 (Kv set oM (hset.bd2 h))) fun v48 h=>?_;cases h)<;>refine xL 49 (P1 304 Wq (hk:=LV _ _) (hu:=hlook)) ?_<;>refine xL 11 Za ?_<;>refine Zk ?_)
 (refine xL 50 Zb (xL 51 Yf ?_)<;>refine Zc ?_)
 refine cX ?_ ?_<;>intro hb51
 · first | exact bN hb51|(
 have hnew:¬posK Lu o' (Lu set)<o'.length:=fun hh=>by
  unfold T9 at hb51;rw [UU hh] at hb51;omega
 have hnew2:¬posK (W0 a).key o' ((W0 a).key ((W0 a).step i x s))<o'.length:=by
  show ¬posK id o' (YO a (s:Nat) x)<o'.length;rw [←hse,←hkid];exact hnew
 refine Ze ?_;(refine xL 52 Zb (xL 53 (YH 303 Z0) (xL 54 Ww ?_))<;>refine Zc ?_)
 refine cX ?_ ?_<;>intro hb54
 · first|exact bN hb54|(
 refine Ze ?_;(refine xL 55 (ZO LD) ?_<;>refine Zz 2 ZP ?_<;>refine xL 3 Za ?_<;>refine Zc ?_)
 refine HR (k:=3) 2 [] kR (results193) rfl rfl rfl (Xa rfl) dC rfl trivial fun V=> .inr ⟨?_,⟨V,rfl⟩,rfl,rfl⟩;have hv:=SG hnew2 (show (W0 a).cap≤o'.length by show 2000≤o'.length;omega);have h1:=Srch.row_fails (Srch.row_out hW hv) (show s+1≤(W0 a).m by show s+1≤a.syms.toNat;omega);have h2:=Srch.all_none (Srch.upto_out hU hx h1) (show i+1≤(W0 a).cap by show i+1≤2000;omega);unfold Jc;rw [←hx0,h2];rfl)
 · first |exact bN hb54|(
 refine Ze ?_;(refine xL 56 Zb (xL 57 Zb ?_)<;>refine ZM (kk:=1) 58 Yw fun h58 ho58=>?_<;>(refine ZY 303 58 59 Yw fun h59 ho59=>?_;refine Zu (ZD (l:=59) 303 rfl rfl) fun _=>?_;refine Zu (ZF (l:=303) rfl (Zfq _ o' set)) fun _=>?_)<;>refine xL 5 Za ?_<;>refine Zk ?_)
 (refine xL 60 Zb (xL 61 (YH 303 Z0) (xL 11 Za ?_))<;>refine Zk ?_)
 (refine xL 62 Zb (xL 63 Zb ?_)<;>(refine cS 64 (cA call201 (Kv set oM (hset.bd2 h))) fun v64 h=>?_;cases h)<;>refine xL 65 Zb ?_<;>(refine GU 304 Wq ?_;rw [show (((o'++[set]).length:Nat):Int)=((o'.length+1:Nat):Int) by rw [Xb];rfl,E6 hnew])<;>refine Zk ?_)
 (refine xL 66 Zb (xL 67 Zb (xL 68 KM ?_))<;>refine ZM (kk:=1) 69 Zo fun h69 ho69=>?_<;>(refine ZY 305 69 70 Zo fun h70 ho70=>?_;refine Zu (ZD (l:=70) 305 rfl rfl) fun _=>?_;first|refine Zu (ZF (l:=305) rfl ((congrArg (fun z:Int=>PV.own 3 1 (r.length+1) ((toI r).map pInt++[pInt z])) (show ((o'.length+1:Nat):Int)-1=(o'.length:Nat) by omega)).trans (WW _ r o'.length))) fun _=>?_|refine Zu (ZF (l:=305) rfl ((congrArg (fun z:Int=>PV.own 3 1 (r.length+1) ((toI r).map pInt++[pInt z])) (show ((posK id o' set+1:Nat):Int)-1=(posK id o' set:Nat) by omega)).trans (WW _ r (posK id o' set)))) fun _=>?_)<;>refine xL 8 Za ?_<;>refine Zk ?_)
 (refine xL 37 Zb (xL 38 ZK (xL 9 Za ?_))<;>refine Zc ?_)
 first
  | (exact Zn (
      ⟨(s+1,h59,h70,o'++[set],r++[o'.length]),(by dsimp only;rw [hse];exact Srch.row_snoc hW (Wc hnew2 (show o'.length<2000 by omega))),(by dsimp only;omega),ho59,ho70⟩
      ) (by dsimp only;omega) ⟨rfl,rfl,rfl,rfl,rfl,rfl,rfl,rfl,rfl,trivial⟩ ⟨rfl,rfl,rfl,rfl,rfl,rfl,rfl,rfl,trivial⟩)
  | (exact Zn (
      ⟨(s+1,r3',h70,o',r++[posK id o' set]),(by dsimp only;rw [hnum2];exact Srch.row_snoc hW (Wb hold2)),(by dsimp only;omega),hr3',ho70⟩
      ) (by dsimp only;omega) ⟨rfl,rfl,rfl,rfl,rfl,rfl,rfl,rfl,rfl,trivial⟩ ⟨rfl,rfl,rfl,rfl,rfl,rfl,rfl,rfl,trivial⟩)))
 · first |exact bN hb51|(
 have hold:posK Lu o' (Lu set)<o'.length:=by
  rcases XD (posK Lu o' (Lu set)) o'.length with hh|hh
  · exact hh
  · unfold T9 at hb51;rw [UT oM] at hb51;exact UV rfl hb51
 have hold2:posK (W0 a).key o' ((W0 a).key ((W0 a).step i x s))<o'.length:=by
  show posK id o' (YO a (s:Nat) x)<o'.length;rw [←hse,←hkid];exact hold
 have hnum:((T9 Lu o' set:Nat):Int)-1=(posK (W0 a).key o' ((W0 a).key ((W0 a).step i x s)):Nat):=by
  show ((T9 Lu o' set:Nat):Int)-1=(posK id o' (YO a (s:Nat) x):Nat);unfold T9;rw [UU hold,hkid,hse];omega
 rw [show ((T9 Lu o' set:Nat):Int)=((posK id o' set+1:Nat):Int) by unfold T9;rw [UU hold,hkid]];(have hnum2:posK id o' set=posK (W0 a).key o' ((W0 a).key ((W0 a).step i x s)):=by rw [hse];rfl);refine Ze ?_;(refine xL 66 Zb (xL 67 Zb (xL 68 KM ?_))<;>refine ZM (kk:=1) 69 Zo fun h69 ho69=>?_<;>(refine ZY 305 69 70 Zo fun h70 ho70=>?_;refine Zu (ZD (l:=70) 305 rfl rfl) fun _=>?_;first|refine Zu (ZF (l:=305) rfl ((congrArg (fun z:Int=>PV.own 3 1 (r.length+1) ((toI r).map pInt++[pInt z])) (show ((o'.length+1:Nat):Int)-1=(o'.length:Nat) by omega)).trans (WW _ r o'.length))) fun _=>?_|refine Zu (ZF (l:=305) rfl ((congrArg (fun z:Int=>PV.own 3 1 (r.length+1) ((toI r).map pInt++[pInt z])) (show ((posK id o' set+1:Nat):Int)-1=(posK id o' set:Nat) by omega)).trans (WW _ r (posK id o' set)))) fun _=>?_)<;>refine xL 8 Za ?_<;>refine Zk ?_)
 (refine xL 37 Zb (xL 38 ZK (xL 9 Za ?_))<;>refine Zc ?_)
 first
  | (exact Zn (
      ⟨(s+1,h59,h70,o'++[set],r++[o'.length]),(by dsimp only;rw [hse];exact Srch.row_snoc hW (Wc hnew2 (show o'.length<2000 by omega))),(by dsimp only;omega),ho59,ho70⟩
      ) (by dsimp only;omega) ⟨rfl,rfl,rfl,rfl,rfl,rfl,rfl,rfl,rfl,trivial⟩ ⟨rfl,rfl,rfl,rfl,rfl,rfl,rfl,rfl,trivial⟩)
  | (exact Zn (
      ⟨(s+1,r3',h70,o',r++[posK id o' set]),(by dsimp only;rw [hnum2];exact Srch.row_snoc hW (Wb hold2)),(by dsimp only;omega),hr3',ho70⟩
      ) (by dsimp only;omega) ⟨rfl,rfl,rfl,rfl,rfl,rfl,rfl,rfl,rfl,trivial⟩ ⟨rfl,rfl,rfl,rfl,rfl,rfl,rfl,rfl,trivial⟩)))
 · first|exact bN hb36|(
 have hsm:s=a.syms.toNat:=oM;subst hsm;have hU2:=Srch.upto_snoc hU hx hW;have e1:=Yb (f:=pInts) hx';have htk:o'.take (i+1)=(o.take i)++[x]:=by
  rw [ZR hx'];obtain ⟨e,rfl⟩:=hpr;rw [V4 hi]
 refine nav ?_;refine Zq (En.freeze (l:=305) (t:=8) rfl rfl) fun _=>?_;rw [ZV _ _ _ (by rw [Y8])];(refine Zt ?_<;>refine xL 71 (Zd 4 Ys) ?_<;>(refine yL 72 (Zl 4 Yj) fun v72 h=>?_;cases h)<;>refine xL 73 Zb ?_<;>refine ZM (kk:=1) 74 Yw fun h74 ho74=>?_<;>(refine ZY 301 74 75 Yw fun h75 ho75=>?_;refine Zu (ZD (l:=75) 301 rfl rfl) fun _=>?_;refine Zu (ZF (l:=301) rfl (Lf _ rows r)) fun _=>?_)<;>refine xL 76 (Zd 4 Ys) ?_<;>refine YQ 4 Yj Gk ?_<;>refine Zc ?_)
 (refine ZZ (fun i=>([11]:List Nat).elem i) [1,4,303] kR ?_<;>refine xD 0 77 rfl (Zd 4 YM) ?_<;>(refine yD 1 78 rfl (Zl 4 Ym) fun v78 h=>?_;cases h)<;>(refine yD 2 79 rfl (Zs 1 Zf) fun v79 h=>?_;cases h)<;>refine xD 3 80 rfl Zb ?_<;>refine xE 4 81 rfl Zb ?_<;>refine xE 5 82 rfl (Yg 303 Z0) ?_<;>(refine yE 6 83 rfl (Zl 303 Zy) fun v83 h=>?_;cases h)<;>(refine Zp 7 kR ?_)<;>(refine YA (d:=84) rfl (cA call72 (Zfs a x)) fun v84 h=>?_;cases h)<;>(refine Zp 8 kR ?_)<;>(refine Zm rfl fun w9 M9 N9 DQ back=>?_)<;>refine ZM (kk:=1) 85 YZ fun h85 ho85=>?_<;>refine Zj (back _ (nrm ?_))<;>(refine Zp 9 kR ?_)<;>(refine Zm rfl fun w9 M9 N9 DQ back=>?_)<;>refine ZY 302 85 86 YZ fun h86 ho86=>?_<;>refine Zj (back _ (nrm ?_))<;>refine xE 10 87 rfl (Zd 4 YM) ?_<;>(refine Zp 11 kR ?_)<;>(refine Kb rfl rfl kR fun DQ back=>?_)<;>refine YQ 4 Ym Gl ?_<;>refine Zj (back _ (nav ?_))<;>try dsimp only)
 refine Zq (ZD (l:=86) 302 rfl rfl) fun _=>?_;refine Zq (ZF (l:=302) rfl (Gm _ ((o.take i).map (WS a)) (WS a x))) fun _=>?_;rw [show ((o.take i).map (WS a))++[WS a x]=(o'.take (i+1)).map (WS a) by rw [htk,Xs];rfl];(refine Zt ?_<;>refine xL 30 Zb (xL 31 ZK (xL 7 Za ?_))<;>refine Zc ?_)
 refine Zn (
  ⟨(i+1,h75,h86,r3',o',rows++[r]),hU2,(by dsimp only;omega),ho75,ho86,hr3'⟩
  ) (by dsimp only;omega) ⟨rfl,rfl,rfl,rfl,rfl,rfl,rfl,trivial⟩ ⟨rfl,rfl,rfl,rfl,rfl,rfl,rfl,trivial⟩))
 · first|exact bN hb29|(
 have hio:i=o.length:=oM;subst hio;have hone2:En.one (PV.val r2)=true:=hr2;refine nav ?_;refine Zq (Z7 (l:=4) (l':=301) (j:=2) rfl rfl rfl rfl) fun _=>?_;rw [JN _ _ _ rfl];refine Zq (ZD (l:=302) 1000 rfl rfl) fun _=>?_;rw [VI];(refine Zt ?_<;>(refine yL 88 (Zs (k:=3) (ps:=[pInt a.syms,PV.val r2,PV.sl rows.length (rows.map Wn)]) 4 kR) fun v88 h=>?_;cases h)<;>refine Zz 2 ZP ?_<;>refine xL 3 Za ?_<;>refine Zc ?_)
 refine HR (k:=3) 2 [(1000,r2,PV.own 4 1 (o.map (WS a)).length ((o.map (WS a)).map ZN))] kR (results193) rfl rfl rfl (Xa rfl) dC rfl ⟨rfl,trivial⟩ fun V=> .inl ⟨⟨a.syms.toNat,rows,o.map (WS a)⟩,r2,V,hr2,?_,rfl,?_,rfl⟩
 · unfold Jc;rw [←hx0,Srch.all_some hU (Xh _) (show o.length≤(W0 a).cap from hcap)];rfl
 · dsimp only;rw [hsN];rfl)
theorem KA:FldT prog 188 0 0=true:=by kernel_rfl
def S7 (t:Tab):PV:= .agg [pInt (t.m:Nat), .sl t.fin.length (t.fin.map ZN), .sl t.rows.length (t.rows.map Wn)]
def Sq (l:List Nat):ByteArray:=Lu (toI l)
theorem ZmA {o:List (List Nat)} {x:List Nat} (h:∀l∈o,∀y∈toI l,0≤y∧y≤2000) (hx:∀y∈toI x,0≤y∧y≤2000):posK Sq o (Sq x)=posK id o x:=GH fun l hl=>by
 unfold Sq
 rw [ER (h l hl) hx,Zbf];rfl
set_option maxHeartbeats 4000000 in
theorem Zbq (t : Tab) (ht:TOk t):AF prog 235 [S7 t] (· = .own 3 1 t.rows.length (vec t.rows.length fun s=>pInt (YD t s:Nat))):=by
 have hn1:=ht.n1
 have hfl:=ht.fl
 have hm1:=ht.m1
 refine AF.of_body 89 func235 rfl ntmps235 (Xa rfl) ?_
 intro w0 M0 vs hl hv
 obtain ⟨v0,rfl⟩:=WE hl
 clear hl hv
 refine Ze ?_
 (refine ZB 1 3 fun h1=>?_<;>refine xL 2 Za ?_<;>refine Zk ?_)
 (refine xL 14 (Zd 1 Ys) ?_<;>(refine yL 15 (Zl 1 Yj) fun v15 h=>?_;cases h)<;>refine xL 16 (ZW Z0) (xL 3 Za ?_)<;>refine Zk ?_)
 (refine xL 17 Zb ?_<;>refine Jy 18 Zo fun h18 ho18=>?_<;>refine xL 4 Za ?_<;>refine Zc ?_)
 refine Zq (ZD (l:=18) 303 rfl rfl) fun _=>?_
 rw [RB _ (LQ t.fin)]
 (refine Zt ?_<;>refine xL 5 Za ?_<;>refine Zc ?_)
 refine ZE (ι:={s:Nat//s≤t.rows.length}) (fun k=>⟨[(1,_,_),(3,_,_),(4,_,_),(5, .int .i64 k.1,pInt k.1)],[(1,_,_),(303,h18, .own 3 1 t.rows.length (vec t.rows.length fun j=>pInt (Sp k.1 (LQ t.fin) j)))]⟩) (fun k=>t.rows.length-k.1) ⟨0,Xd _⟩ (fun a w H=>H.weaken ⟨rfl,rfl,rfl,rfl,trivial⟩ ⟨rfl,rfl,trivial⟩) ?_
 rintro ⟨s,hs⟩
 dsimp only
 refine Ze ?_
 (refine xL 19 Zb (xL 20 Zb (xL 21 ZQ ?_))<;>refine Zc ?_)
 refine cX ?_ ?_<;>intro hb21
 · first |exact bN hb21|(
 obtain ⟨b,hb⟩:=Zw (show s<t.fin.length by omega);have e1:=Yb (f:=ZN) hb;have e2:=KO t.rows.length (fun j=>pInt (Sp s (LQ t.fin) j));refine Ze ?_;(refine xL 24 (Zd 1 YM) ?_<;>(refine yL 25 (Zl 1 Ym) fun v25 h=>?_;cases h)<;>refine xL 26 Zb (xL 27 (ZH Yo) ?_)<;>(refine yL 28 (Ya Wa) fun v28 h=>?_;cases h)<;>refine Zc ?_)
 refine cX ?_ ?_<;>intro hb28
 · first|exact bN hb28|(
 refine Ze ?_;(refine xL 29 Zb (xL 30 Zb (xL 31 (Yg 303 Zr) ?_))<;>refine YQ 303 Zg Wx ?_<;>refine Zk ?_)
 (refine xL 22 Zb (xL 23 ZK (xL 5 Za ?_))<;>refine Zc ?_)
 try rw [KD (x:=1) (by unfold LQ;rw [hb];show (1:Int)=((if b=true then 1 else 0:Nat):Int);rw [UU hb28];rfl)]
 try rw [RD (by unfold LQ;rw [hb];show (if b=true then 1 else 0)=0;rw [UT (by simpa using hb28)])]
 refine Zn (
  ⟨s+1,oM⟩
  ) (by dsimp only;omega) ⟨rfl,rfl,rfl,rfl,trivial⟩ ⟨rfl,rfl,trivial⟩)
 · first|exact bN hb28|(
 refine Ze ?_;(refine xL 22 Zb (xL 23 ZK (xL 5 Za ?_))<;>refine Zc ?_)
 try rw [KD (x:=1) (by unfold LQ;rw [hb];show (1:Int)=((if b=true then 1 else 0:Nat):Int);rw [UU hb28];rfl)]
 try rw [RD (by unfold LQ;rw [hb];show (if b=true then 1 else 0)=0;rw [UT (by simpa using hb28)])]
 refine Zn (
  ⟨s+1,oM⟩
  ) (by dsimp only;omega) ⟨rfl,rfl,rfl,rfl,trivial⟩ ⟨rfl,rfl,trivial⟩))
 · first | exact bN hb21|(
 have hsn:s=t.rows.length:=oM;subst hsn;rw [RE];refine Ze ?_;(refine xL 6 Za ?_<;>refine Zc ?_)
 refine ZE (ι:={q:Value×(Nat→Nat)×Nat×Nat//COk t.rows.length q.2.1 q.2.2.1∧TB t.rows q.2.2.2 q.2.1 q.2.2.1=YD t∧t.rows.length+2≤q.2.2.2+q.2.2.1∧q.1.oneCell'=true}) (fun k=>⟨[(1,_,_),(3,_,_),(4,k.1.1, .val k.1.1),(6, .int .i64 k.1.2.2.1,pInt k.1.2.2.1)],[(1,_,_),(303,k.1.1, .own 3 1 t.rows.length (vec t.rows.length fun j=>pInt (k.1.2.1 j:Nat)))]⟩) (fun k=>t.rows.length+2-k.1.2.2.1) ⟨(h18,LQ t.fin,0,t.rows.length+2),COk.start _ _,rfl,by dsimp only;omega,ho18⟩ (fun a w H=>H.weaken ⟨rfl,rfl,rfl,rfl,trivial⟩ ⟨rfl,rfl,trivial⟩) ?_;rintro ⟨⟨hv3,c,cnt,fuel⟩,hC,hit,hfu,hv3o⟩;dsimp only;dsimp only at hC hit hfu hv3o;have hle:=hC.le;have hbd:=hC.bd;obtain ⟨f,rfl⟩:∃f,fuel=f+1:=⟨fuel-1,oM⟩;have hgr:=hC.grow;have hnx:=hC.next
 refine Ze ?_;(refine Gw 32 fun h32 ho32=>?_<;>refine xL 7 Za ?_<;>refine Zk ?_)
 (refine xL 33 Zb ?_<;>refine Jy 34 Zo fun h34 ho34=>?_<;>refine xL 8 Za ?_<;>refine Zk ?_)
 (refine xL 9 Za ?_<;>refine Zc ?_)
 refine Zq (ZD (l:=32) 304 rfl rfl) fun _=>?_;refine Zq (ZD (l:=34) 305 rfl rfl) fun _=>?_;rw [RB _ (KP t.rows c)];refine Zq (ZF (l:=304) (p':= .omap (skv (YT Sq 1 (YL (Yu t.rows c) 0)))) rfl rfl) fun _=>?_;(refine Zt ?_<;>refine xL 10 Za ?_<;>refine Zc ?_)
 refine ZE (ι:={s:Nat//s≤t.rows.length}) (fun k=>⟨[(1,_,_),(3,_,_),(4,_,_),(6,_,_),(7,_,_),(8,_,_),(9, .int .i64 (YL (Yu t.rows c) k.1).length,pInt (YL (Yu t.rows c) k.1).length),(10, .int .i64 k.1,pInt k.1)],[(1,_,_),(303,_,_),(304,h32, .omap (skv (YT Sq 1 (YL (Yu t.rows c) k.1)))),(305,h34, .own 3 1 t.rows.length (vec t.rows.length fun j=>pInt (Sp k.1 (KP t.rows c) j)))]⟩) (fun k=>t.rows.length-k.1) ⟨0,Xd _⟩ (fun a w H=>H.weaken ⟨rfl,rfl,rfl,rfl,rfl,rfl,rfl,rfl,trivial⟩ ⟨rfl,rfl,rfl,rfl,trivial⟩) ?_;rintro ⟨s,hs⟩;dsimp only;refine Ze ?_;(refine xL 35 Zb (xL 36 Zb (xL 37 ZQ ?_))<;>refine Zc ?_)
 refine cX ?_ ?_<;>intro hb37
 · first | exact bN hb37|(
 have hlt:s<t.rows.length:=oM;obtain ⟨r,hr⟩:=Zw hlt;have e1:=Yb (f:=Wn) hr;have hrl:=ht.rl r (Xc hr);have hrt:=ht.to r (Xc hr);have htl:=Y8 r;have e2:=Kw (fun j=>pInt (c j:Nat)) hlt;have e3:=KO t.rows.length (fun j=>pInt (Sp s (KP t.rows c) j));have hkl:=SR (Yu t.rows c) s;refine Ze ?_;(refine xL 40 Zb (xL 41 Zb (xL 42 (Yg 303 Zr) ?_))<;>(refine yL 43 (Zl 303 Zg) fun v43 h=>?_;cases h)<;>refine ZM (kk:=1) 44 Zo fun h44 ho44=>?_<;>refine xL 11 Za ?_<;>refine Zc ?_)
 refine Zq (ZD (l:=44) 306 rfl rfl) fun _=>?_;refine Zq (ZF (l:=306) (p':= .own 3 1 (S5 c s r 0).length ((toI (S5 c s r 0)).map pInt)) rfl rfl) fun _=>?_;(refine Zt ?_<;>refine xL 12 Za ?_<;>refine Zc ?_)
 refine ZE (ι:={q:Nat×Value//q.1≤r.length∧q.2.oneCell'=true}) (fun k=>⟨[(1,_,_),(3,_,_),(4,_,_),(6,_,_),(7,_,_),(8,_,_),(9,_,_),(10,_,_),(11,k.1.2, .val k.1.2),(12, .int .i64 k.1.1,pInt k.1.1)],[(1,_,_),(303,_,_),(304,_,_),(305,_,_),(306,k.1.2, .own 3 1 (S5 c s r k.1.1).length ((toI (S5 c s r k.1.1)).map pInt))]⟩) (fun k=>r.length-k.1.1) ⟨(0,h44),Xd _,ho44⟩ (fun a w H=>H.weaken ⟨rfl,rfl,rfl,rfl,rfl,rfl,rfl,rfl,rfl,rfl,trivial⟩ ⟨rfl,rfl,rfl,rfl,rfl,trivial⟩) ?_;rintro ⟨⟨u,hv⟩,hu,hvo⟩;dsimp only;dsimp only at hu hvo;have hkpl:=Zdk c s r u hu;refine Ze ?_;(refine xL 45 Zb (xL 46 (Zd 1 KA) ?_)<;>(refine yL 47 (Zl 1 Zg) fun v47 h=>?_;cases h)<;>refine xL 48 ZQ ?_<;>refine Zc ?_)
 refine cX ?_ ?_<;>intro hb48
 · first|exact bN hb48|(
 obtain ⟨x,hx⟩:=Zw (show u<r.length by omega);have hxn:=hrt x (Xc hx);(have e4:((toI r).map pInt)[u*1]? =some (pInt (x:Nat)):=by rw [Xp,Xg];unfold toI;rw [Xg,hx];rfl);have e5:=Kw (fun j=>pInt (c j:Nat)) hxn;refine Ze ?_;(refine xL 51 Zb (xL 52 Zb (xL 53 (Zd 1 Ys) ?_))<;>(refine yL 54 (Zl 1 Yj) fun v54 h=>?_;cases h)<;>refine xL 55 Zb (xL 56 (ZH Z0) ?_)<;>(refine yL 57 (Ya Zy) fun v57 h=>?_;cases h)<;>refine xL 58 Zb (xL 59 (ZH Zr) ?_)<;>(refine yL 60 (Ya Zg) fun v60 h=>?_;cases h)<;>refine xL 61 (Yg 303 Zr) ?_<;>(refine yL 62 (Zl 303 Zg) fun v62 h=>?_;cases h)<;>refine ZM (kk:=1) 63 Zo fun h63 ho63=>?_<;>(refine ZY 306 63 64 Zo fun h64 ho64=>?_;refine Zu (ZD (l:=64) 306 rfl rfl) fun _=>?_;refine Zu (ZF (l:=306) rfl ((WW _ (S5 c s r u) (c x)).trans (by rw [ζZ hx]))) fun _=>?_)<;>refine xL 11 Za ?_<;>refine Zk ?_)
 (refine xL 49 Zb (xL 50 ZK (xL 12 Za ?_))<;>refine Zc ?_)
 refine Zn (
  ⟨(u+1,h64),Zh hx,ho64⟩
  ) (by dsimp only;omega) ⟨rfl,rfl,rfl,rfl,rfl,rfl,rfl,rfl,rfl,rfl,trivial⟩ ⟨rfl,rfl,rfl,rfl,rfl,trivial⟩)
 · first | exact bN hb48|(
 have hK:=ζ0 (c:=c) hr (show r.length≤u by omega);rw [hK];have hkb:=Zbl ht hbd hlt;(have hkl2:(Yu t.rows c s).length≤1000:=by rw [←hK,hkpl];omega);have hid:=ZmA (o:=YL (Yu t.rows c) s) (x:=Yu t.rows c s) (fun l hl=>by obtain ⟨i,hi,rfl⟩:=J4.1 hl;exact Zbl ht hbd oM) hkb;have hlook:=Dd Sq (YL (Yu t.rows c) s) (Yu t.rows c s);refine nav ?_;refine Zq (En.freeze (l:=306) (t:=11) rfl rfl) fun _=>?_;rw [ZV _ _ _ (by rw [Y8])];(refine Zt ?_<;>refine xL 65 Zb (xL 66 Zb ?_)<;>(refine cS 67 (cA call201 (Kv (toI (Yu t.rows c s)) (by rw [Y8];omega) hkb)) fun v67 h=>?_;cases h)<;>refine xL 68 (P1 304 Wq (hk:=LV _ _) (hu:=hlook)) ?_<;>refine xL 13 Za ?_<;>refine Zk ?_)
 (refine xL 69 Zb (xL 70 Yf ?_)<;>refine Zc ?_)
 refine cX ?_ ?_<;>intro hb70
 · first|exact bN hb70|(
 have hnew:¬posK Sq (YL (Yu t.rows c) s) (Sq (Yu t.rows c s))<(YL (Yu t.rows c) s).length:=fun hh=>by
  unfold T9 at hb70;rw [UU hh] at hb70;omega
 have hnew2:=hnew;rw [hid] at hnew2;have hnn:=ζ2 hlt hnew2;have hff:=EQ hnew2;refine Ze ?_;(refine xL 71 Zb (xL 72 ZK (xL 9 Za ?_))<;>refine Zk ?_)
 (refine xL 73 Zb (xL 13 Za ?_)<;>refine Zk ?_)
 (refine xL 74 Zb (xL 75 Zb ?_)<;>(refine cS 76 (cA call201 (Kv (toI (Yu t.rows c s)) (by rw [Y8];omega) hkb)) fun v76 h=>?_;cases h)<;>refine xL 77 Zb ?_<;>(refine GU 304 Wq ?_;rw [show Jg (skv (YT Sq 1 (YL (Yu t.rows c) s))) (.string (Lu (toI (Yu t.rows c s)))) (.int .i64 (((YL (Yu t.rows c) s).length:Int)+1))=skv (YT Sq 1 (YL (Yu t.rows c) (s+1))) by rw [hff];exact E6 hnew])<;>refine Zk ?_)
 (refine xL 78 Zb (xL 79 Zb (xL 80 Zb (xL 81 KM (xL 82 (Yg 305 Zr) ?_))))<;>refine YQ 305 Zg Wx ?_<;>refine Zk ?_)
 (refine xL 38 Zb (xL 39 ZK (xL 10 Za ?_))<;>refine Zc ?_)
 try rw [KD (x:=((YL (Yu t.rows c) s).length:Int)+1-1) (by rw [hnn];omega)]
 try rw [show (((YL (Yu t.rows c) s).length:Nat):Int)+1=((YL (Yu t.rows c) (s+1)).length:Nat) by rw [hff,Xb];rfl]
 try rw [KD hnum,←hfo]
 refine Zn (
  ⟨s+1,oM⟩
  ) (by dsimp only;omega) ⟨rfl,rfl,rfl,rfl,rfl,rfl,rfl,rfl,trivial⟩ ⟨rfl,rfl,rfl,rfl,trivial⟩)
 · first|exact bN hb70|(
 have hold:posK Sq (YL (Yu t.rows c) s) (Sq (Yu t.rows c s))<(YL (Yu t.rows c) s).length:=by
  rcases XD (posK Sq (YL (Yu t.rows c) s) (Sq (Yu t.rows c s))) (YL (Yu t.rows c) s).length with hh|hh
  · exact hh
  · unfold T9 at hb70;rw [UT oM] at hb70;exact UV rfl hb70
 have hold2:=hold;rw [hid] at hold2;have hno:=ζ1 hlt hold2;have hfo:=EP hold2;(have hnum:((T9 Sq (YL (Yu t.rows c) s) (Yu t.rows c s):Nat):Int)-1=(KP t.rows c s:Nat):=by unfold T9;rw [UU hold,hid,hno];omega);(have hnb:T9 Sq (YL (Yu t.rows c) s) (Yu t.rows c s)≤2001:=by unfold T9;rw [UU hold];omega);refine Ze ?_;(refine xL 78 Zb (xL 79 Zb (xL 80 Zb (xL 81 KM (xL 82 (Yg 305 Zr) ?_))))<;>refine YQ 305 Zg Wx ?_<;>refine Zk ?_)
 (refine xL 38 Zb (xL 39 ZK (xL 10 Za ?_))<;>refine Zc ?_)
 try rw [KD (x:=((YL (Yu t.rows c) s).length:Int)+1-1) (by rw [hnn];omega)]
 try rw [show (((YL (Yu t.rows c) s).length:Nat):Int)+1=((YL (Yu t.rows c) (s+1)).length:Nat) by rw [hff,Xb];rfl]
 try rw [KD hnum,←hfo]
 refine Zn (
  ⟨s+1,oM⟩
  ) (by dsimp only;omega) ⟨rfl,rfl,rfl,rfl,rfl,rfl,rfl,rfl,trivial⟩ ⟨rfl,rfl,rfl,rfl,trivial⟩)))
 · first |exact bN hb37|(
 have hsn:s=t.rows.length:=oM;subst hsn;rw [RE];refine nav ?_;refine Zq (ZD (l:=303) 302 rfl rfl) fun _=>?_;refine Zq (ZD (l:=305) 303 rfl rfl) fun _=>?_;(refine Zt ?_<;>refine xL 83 Zb (xL 4 Za ?_)<;>refine Zk ?_)
 (refine xL 84 Zb (xL 85 Zb (xL 86 Yf ?_))<;>refine Zc ?_)
 refine cX ?_ ?_<;>intro hb86
 · first|exact bN hb86|(
 (have hcc:T3 t.rows c=cnt:=by unfold T3;omega);refine Ze ?_;(refine xL 87 Zb (xL 2 Za ?_)<;>refine Zc ?_)
 refine Kk 303 (results235) rfl rfl ?_;rw [←hit,E4 hcc])
 · first|exact bN hb86|(
 (have hcc:¬T3 t.rows c=cnt:=by unfold T3;omega);refine Ze ?_;(refine xL 88 Zb (xL 6 Za ?_)<;>refine Zc ?_)
 refine Zn (
  ⟨(h34,KP t.rows c,T3 t.rows c,f),hnx,by dsimp only;rw [←hit,E5 hcc],by dsimp only;omega,ho34⟩
  ) (by have:=hnx.le;dsimp only;omega) ⟨rfl,rfl,rfl,rfl,trivial⟩ ⟨rfl,rfl,trivial⟩)))
def Zdp (fin:List Bool) (i:Nat):Bool:=(fin[i]?).getD false
def Zov (t:Tab):Aut:=⟨(t.rows.length:Nat),(t.m:Nat),[0],Yh t.rows.length (Zdp t.fin),Z4 t.rows⟩
theorem Ha {rows:List (List Nat)} {k:Nat} {r:List Nat} (h:rows[k]? =some r):Z4 (rows.take (k+1))=Z4 (rows.take k)++Yq k r:=by
 rw [ZR h,SU,Xn,X5 (by have:=Zh h;omega)]
theorem E7 {i:Nat} {r:List Nat} {s n:Nat} (h:r[s]? =some n):Yq i (r.take (s+1))=Yq i (r.take s)++[⟨(i:Nat),(n:Nat),(s:Nat)⟩]:=by
 rw [ZR h,Kx,Xn,X5 (by have:=Zh h;omega)]
theorem Zdq {rows:List (List Nat)} {m:Nat} (h:∀r∈rows,r.length=m) (k:Nat):(Z4 (rows.take k)).length≤rows.length*m:=by
 rw [Pw (rows.take k) fun r hr=>h r (VK hr),Xn]
 exact Vu m (Nat.min_le_right _ _)
set_option maxHeartbeats 4000000 in
theorem Zh0 (t :Tab) (hfl:t.fin.length=t.rows.length) (hrw:∀r∈t.rows,r.length=t.m) (hn1:t.rows.length≤2000) (hm1:t.m≤40):AF prog 236 [S7 t] (· =ZJ (Zov t)):=by
 have hnm:t.rows.length*t.m≤80000:=XN (Vw hn1 hm1) dC
 refine AF.of_body 54 func236 rfl ntmps236 (Xa rfl) ?_
 intro w0 M0 vs hl hv
 obtain ⟨v0,rfl⟩:=WE hl
 clear hl hv
 refine Ze ?_
 (refine ZB 1 3 fun h1=>?_<;>refine Zv [(.int .i64 0),(.int .i64 0),(.slice none 0 0),(.slice none 0 0),(.slice none 0 0)] 5 2 ZI fun h2=>?_<;>refine Zk ?_)
 (refine xL 6 (Zd 1 Ys) ?_<;>(refine yL 7 (Zl 1 Yj) fun v7 h=>?_;cases h)<;>refine xL 8 (ZW Z0) (xL 9 (Zd 1 KA) ?_)<;>(refine yL 10 (Zl 1 Zg) fun v10 h=>?_;cases h)<;>(refine ZM (kk:=1) 11 Zo fun h11 ho11=>?_;refine Zu (En.freeze (l:=11) (t:=11) rfl rfl) fun _=>?_;rw [show share (PV.own 3 1 1 [PV.val (.int .i64 0)])=pInts [0] from rfl])<;>refine xL 12 (ZO ZX) ?_<;>refine Zv [(.int .i64 0),(.int .i64 0),(.slice none 0 0),(.slice none 0 0),(.slice none 0 0)] 5 3 ZI fun h3=>?_<;>refine Zz 3 Zf ?_<;>refine Zc ?_)
 refine Zq (WF (l:=3) [pInt (t.rows.length:Nat),pInt (t.m:Nat),pInts [0], .own 3 1 0 [], .own 93 3 0 []] rfl rfl (fun i p p' h1 h2=>by
  match i with
  |0=>cases h1;cases h2;exact .inl rfl
  |1=>cases h1;cases h2;exact .inl rfl
  |2=>cases h1;cases h2;exact .inl rfl
  |3=>cases h1;cases h2;exact .inr ⟨rfl,_,_,rfl⟩
  |4=>cases h1;cases h2;exact .inr ⟨rfl,_,_,rfl⟩
  |i+5=>simp at h2)) fun _=>?_
 refine Zq (We (l:=3) (l':=301) (j:=3) rfl rfl rfl rfl) fun i=>?_
 obtain ⟨v301,ho301⟩:=i
 refine Zq (We (l:=3) (l':=302) (j:=4) rfl rfl rfl rfl) fun i=>?_
 obtain ⟨v302,ho302⟩:=i
 dsimp only [List.set]
 (refine Zt ?_<;>refine xL 4 Za ?_<;>refine Zc ?_)
 refine ZE (ι:={q:Nat×Value×Value//q.1≤t.rows.length∧q.2.1.oneCell'=true∧q.2.2.oneCell'=true}) (fun k=>⟨[(1,_,_),(2,_,_),(3,_,_),(4, .int .i64 k.1.1,pInt k.1.1)],[(1,_,_),(2,_,_),(3,h3, .own 39 5 1 [pInt (t.rows.length:Nat),pInt (t.m:Nat),pInts [0], .val k.1.2.1, .val k.1.2.2]),(301,k.1.2.1, .own 3 1 (Yh k.1.1 (Zdp t.fin)).length ((Yh k.1.1 (Zdp t.fin)).map pInt)),(302,k.1.2.2, .own 93 3 (Z4 (t.rows.take k.1.1)).length ((Z4 (t.rows.take k.1.1)).flatMap cMv))]⟩) (fun k=>t.rows.length-k.1.1) ⟨(0,v301,v302),Xd _,ho301,ho302⟩ (fun a w H=>H.weaken ⟨rfl,rfl,rfl,rfl,trivial⟩ ⟨rfl,rfl,rfl,rfl,rfl,trivial⟩) ?_
 rintro ⟨⟨i,hF,hM⟩,hi,hFo,hMo⟩
 dsimp only
 dsimp only at hi hFo hMo
 have hll:=L5 i (Zdp t.fin)
 have hml:=Zdq hrw i
 refine Ze ?_
 (refine xL 13 Zb (xL 14 (Zd 1 Ys) ?_)<;>(refine yL 15 (Zl 1 Yj) fun v15 h=>?_;cases h)<;>refine xL 16 (ZW Z0) (xL 17 ZQ ?_)<;>refine Zc ?_)
 refine cX ?_ ?_<;>intro hb17
 · first | exact bN hb17|(
 obtain ⟨b,hb⟩:=Zw (show i<t.fin.length by omega);have e2:=Yb (f:=ZN) hb;obtain ⟨row,hrow⟩:=Zw (show i<t.rows.length by omega);have e3:=Yb (f:=Wn) hrow;have hrl:=hrw row (Xc hrow);have hrtl:=Y8 row;(have hfa:Zdp t.fin i=b:=by unfold Zdp;rw [hb];rfl);have hL1:=WL i (Zdp t.fin);rw [hfa] at hL1;refine Ze ?_;(refine xL 20 (Zd 1 YM) ?_<;>(refine yL 21 (Zl 1 Ym) fun v21 h=>?_;cases h)<;>refine xL 22 Zb (xL 23 (ZH Yo) ?_)<;>(refine yL 24 (Ya Wa) fun v24 h=>?_;cases h)<;>refine Zc ?_)
 refine cX ?_ ?_<;>intro hb24
 · first | exact bN hb24|(
 rw [UU hb24] at hL1;refine Ze ?_;(refine xL 25 (Zd 3 Z2) ?_<;>(refine yL 26 (Zl 3 Zy) fun v26 h=>?_;cases h)<;>refine xL 27 Zb ?_<;>refine ZM (kk:=1) 28 Zo fun h28 ho28=>?_<;>(refine ZY 301 28 29 Zo fun h29 ho29=>?_;refine Zu (ZD (l:=29) 301 rfl rfl) fun _=>?_;refine Zu (ZF (l:=301) rfl (K5 _ (Yh i (Zdp t.fin)) i)) fun _=>?_)<;>refine xL 30 (Zd 3 Z2) ?_<;>refine YQ 3 Zy Wo ?_<;>refine Zk ?_)
 (refine xL 5 Za ?_<;>refine Zc ?_)
 rw [←hL1];rw [show Z4 (t.rows.take i)=Z4 (t.rows.take i)++Yq i (row.take 0) from (Xr _).symm];refine ZE (ι:={q:Nat×Value//q.1≤t.m∧q.2.oneCell'=true}) (fun k=>⟨[(1,_,_),(2,_,_),(3,_,_),(4,_,_),(5, .int .i64 k.1.1,pInt k.1.1)],[(1,_,_),(2,_,_),(301,_,_),(3,h3, .own 39 5 1 [pInt (t.rows.length:Nat),pInt (t.m:Nat),pInts [0],_, .val k.1.2]),(302,k.1.2, .own 93 3 (Z4 (t.rows.take i)++Yq i (row.take k.1.1)).length ((Z4 (t.rows.take i)++Yq i (row.take k.1.1)).flatMap cMv))]⟩) (fun k=>t.m-k.1.1) ⟨(0,hM),Xd _,hMo⟩ (fun a w H=>H.weaken ⟨rfl,rfl,rfl,rfl,rfl,trivial⟩ ⟨rfl,rfl,rfl,rfl,rfl,trivial⟩) ?_;rintro ⟨⟨s,hM'⟩,hs,hM'o⟩;dsimp only;dsimp only at hs hM'o;have hrm:=JJ i (row.take s);rw [Xn] at hrm;(have hal:(Z4 (t.rows.take i)++Yq i (row.take s)).length≤90000:=by rw [Xb];omega);refine Ze ?_;(refine xL 31 Zb (xL 32 (Zd 1 KA) ?_)<;>(refine yL 33 (Zl 1 Zg) fun v33 h=>?_;cases h)<;>refine xL 34 ZQ ?_<;>refine Zc ?_)
 refine cX ?_ ?_<;>intro hb34
 · first|exact bN hb34|(
 obtain ⟨y,hy⟩:=Zw (show s<row.length by omega);(have e4:((toI row).map pInt)[s*1]? =some (pInt (y:Nat)):=by rw [Xp,Xg];unfold toI;rw [Xg,hy];rfl);refine nav ?_;(refine ZZ (fun i=>([16]:List Nat).elem i) [1,3] kR ?_<;>refine xD 0 37 rfl (Zd 3 Zx) ?_<;>(refine yD 1 38 rfl (Zl 3 ZC) fun v38 h=>?_;cases h)<;>refine xD 2 39 rfl Zb ?_<;>refine xD 3 40 rfl (Zd 1 Ys) ?_<;>(refine yD 4 41 rfl (Zl 1 Yj) fun v41 h=>?_;cases h)<;>refine xD 5 42 rfl Zb ?_<;>refine xD 6 43 rfl (ZH Z0) ?_<;>(refine yD 7 44 rfl (Ya Zy) fun v44 h=>?_;cases h)<;>refine xD 8 45 rfl Zb ?_<;>refine xD 9 46 rfl (ZH Zr) ?_<;>(refine yD 10 47 rfl (Ya Zg) fun v47 h=>?_;cases h)<;>refine xE 11 48 rfl Zb ?_<;>refine xE 12 49 rfl (ZO YW) ?_<;>(refine Zp 13 kR ?_)<;>(refine Zm rfl fun w9 M9 N9 DQ back=>?_)<;>refine YI 50 ZU fun h50 ho50=>?_<;>refine Zj (back _ (nrm ?_))<;>(refine Zp 14 kR ?_)<;>(refine Zm rfl fun w9 M9 N9 DQ back=>?_)<;>refine ZY 302 50 51 ZU fun h51 ho51=>?_<;>refine Zj (back _ (nrm ?_))<;>refine xE 15 52 rfl (Zd 3 Zx) ?_<;>(refine Zp 16 kR ?_)<;>(refine Kb rfl rfl kR fun DQ back=>?_)<;>refine YQ 3 ZC YK ?_<;>refine Zj (back _ (nav ?_))<;>try dsimp only)
 refine Zq (ZD (l:=51) 302 rfl rfl) fun _=>?_;refine Zq (ZF (l:=302) rfl (WZ _ (Z4 (t.rows.take i)++Yq i (row.take s)) ⟨(i:Nat),(y:Nat),(s:Nat)⟩)) fun _=>?_;rw [Xu,←E7 hy];(refine Zt ?_<;>refine xL 35 Zb (xL 36 ZK (xL 5 Za ?_))<;>refine Zc ?_)
 refine Zn (
  ⟨(s+1,h51),(by dsimp only;omega),ho51⟩
  ) (by dsimp only;omega) ⟨rfl,rfl,rfl,rfl,rfl,trivial⟩ ⟨rfl,rfl,rfl,rfl,rfl,trivial⟩)
 · first |exact bN hb34|(
 have hsm:s=t.m:=oM;subst hsm;rw [Xj (show row.length≤t.m by omega),←Ha hrow];refine Ze ?_;(refine xL 18 Zb (xL 19 ZK (xL 4 Za ?_))<;>refine Zc ?_)
 first
  | (exact Zn (
      ⟨(i+1,h29,hM'),(by dsimp only;omega),ho29,hM'o⟩
      ) (by dsimp only;omega) ⟨rfl,rfl,rfl,rfl,trivial⟩ ⟨rfl,rfl,rfl,rfl,rfl,trivial⟩)
  | (exact Zn (
      ⟨(i+1,hF,hM'),(by dsimp only;omega),hFo,hM'o⟩
      ) (by dsimp only;omega) ⟨rfl,rfl,rfl,rfl,trivial⟩ ⟨rfl,rfl,rfl,rfl,rfl,trivial⟩)))
 · first | exact bN hb24|(
 rw [UT (by simpa using hb24),Xr] at hL1;refine Ze ?_;(refine xL 5 Za ?_<;>refine Zc ?_)
 rw [←hL1];rw [show Z4 (t.rows.take i)=Z4 (t.rows.take i)++Yq i (row.take 0) from (Xr _).symm];refine ZE (ι:={q:Nat×Value//q.1≤t.m∧q.2.oneCell'=true}) (fun k=>⟨[(1,_,_),(2,_,_),(3,_,_),(4,_,_),(5, .int .i64 k.1.1,pInt k.1.1)],[(1,_,_),(2,_,_),(301,_,_),(3,h3, .own 39 5 1 [pInt (t.rows.length:Nat),pInt (t.m:Nat),pInts [0],_, .val k.1.2]),(302,k.1.2, .own 93 3 (Z4 (t.rows.take i)++Yq i (row.take k.1.1)).length ((Z4 (t.rows.take i)++Yq i (row.take k.1.1)).flatMap cMv))]⟩) (fun k=>t.m-k.1.1) ⟨(0,hM),Xd _,hMo⟩ (fun a w H=>H.weaken ⟨rfl,rfl,rfl,rfl,rfl,trivial⟩ ⟨rfl,rfl,rfl,rfl,rfl,trivial⟩) ?_;rintro ⟨⟨s,hM'⟩,hs,hM'o⟩;dsimp only;dsimp only at hs hM'o;have hrm:=JJ i (row.take s);rw [Xn] at hrm;(have hal:(Z4 (t.rows.take i)++Yq i (row.take s)).length≤90000:=by rw [Xb];omega);refine Ze ?_;(refine xL 31 Zb (xL 32 (Zd 1 KA) ?_)<;>(refine yL 33 (Zl 1 Zg) fun v33 h=>?_;cases h)<;>refine xL 34 ZQ ?_<;>refine Zc ?_)
 refine cX ?_ ?_<;>intro hb34
 · first|exact bN hb34|(
 obtain ⟨y,hy⟩:=Zw (show s<row.length by omega);(have e4:((toI row).map pInt)[s*1]? =some (pInt (y:Nat)):=by rw [Xp,Xg];unfold toI;rw [Xg,hy];rfl);refine nav ?_;(refine ZZ (fun i=>([16]:List Nat).elem i) [1,3] kR ?_<;>refine xD 0 37 rfl (Zd 3 Zx) ?_<;>(refine yD 1 38 rfl (Zl 3 ZC) fun v38 h=>?_;cases h)<;>refine xD 2 39 rfl Zb ?_<;>refine xD 3 40 rfl (Zd 1 Ys) ?_<;>(refine yD 4 41 rfl (Zl 1 Yj) fun v41 h=>?_;cases h)<;>refine xD 5 42 rfl Zb ?_<;>refine xD 6 43 rfl (ZH Z0) ?_<;>(refine yD 7 44 rfl (Ya Zy) fun v44 h=>?_;cases h)<;>refine xD 8 45 rfl Zb ?_<;>refine xD 9 46 rfl (ZH Zr) ?_<;>(refine yD 10 47 rfl (Ya Zg) fun v47 h=>?_;cases h)<;>refine xE 11 48 rfl Zb ?_<;>refine xE 12 49 rfl (ZO YW) ?_<;>(refine Zp 13 kR ?_)<;>(refine Zm rfl fun w9 M9 N9 DQ back=>?_)<;>refine YI 50 ZU fun h50 ho50=>?_<;>refine Zj (back _ (nrm ?_))<;>(refine Zp 14 kR ?_)<;>(refine Zm rfl fun w9 M9 N9 DQ back=>?_)<;>refine ZY 302 50 51 ZU fun h51 ho51=>?_<;>refine Zj (back _ (nrm ?_))<;>refine xE 15 52 rfl (Zd 3 Zx) ?_<;>(refine Zp 16 kR ?_)<;>(refine Kb rfl rfl kR fun DQ back=>?_)<;>refine YQ 3 ZC YK ?_<;>refine Zj (back _ (nav ?_))<;>try dsimp only)
 refine Zq (ZD (l:=51) 302 rfl rfl) fun _=>?_;refine Zq (ZF (l:=302) rfl (WZ _ (Z4 (t.rows.take i)++Yq i (row.take s)) ⟨(i:Nat),(y:Nat),(s:Nat)⟩)) fun _=>?_;rw [Xu,←E7 hy];(refine Zt ?_<;>refine xL 35 Zb (xL 36 ZK (xL 5 Za ?_))<;>refine Zc ?_)
 refine Zn (
  ⟨(s+1,h51),(by dsimp only;omega),ho51⟩
  ) (by dsimp only;omega) ⟨rfl,rfl,rfl,rfl,rfl,trivial⟩ ⟨rfl,rfl,rfl,rfl,rfl,trivial⟩)
 · first |exact bN hb34|(
 have hsm:s=t.m:=oM;subst hsm;rw [Xj (show row.length≤t.m by omega),←Ha hrow];refine Ze ?_;(refine xL 18 Zb (xL 19 ZK (xL 4 Za ?_))<;>refine Zc ?_)
 first
  | (exact Zn (
      ⟨(i+1,h29,hM'),(by dsimp only;omega),ho29,hM'o⟩
      ) (by dsimp only;omega) ⟨rfl,rfl,rfl,rfl,trivial⟩ ⟨rfl,rfl,rfl,rfl,rfl,trivial⟩)
  | (exact Zn (
      ⟨(i+1,hF,hM'),(by dsimp only;omega),hFo,hM'o⟩
      ) (by dsimp only;omega) ⟨rfl,rfl,rfl,rfl,trivial⟩ ⟨rfl,rfl,rfl,rfl,rfl,trivial⟩))))
 · first|exact bN hb17|(
 have hio:i=t.rows.length:=oM;subst hio;rw [VI];refine nav ?_;refine Zq (Z7 (l:=3) (l':=301) (j:=3) rfl rfl rfl rfl) fun _=>?_;refine Zq (Z7 (l:=3) (l':=302) (j:=4) rfl rfl rfl rfl) fun _=>?_;rw [ZV _ _ _ rfl,W7 _ _ _ rfl];(refine Zt ?_<;>(refine yL 53 (Zs 3 Zf) fun v53 h=>?_;cases h)<;>refine Zz 2 Zf ?_<;>refine Zc ?_)
 exact Sx (k:=5) 2 kR (results236) rfl rfl (Xa rfl) dC rfl rfl)
theorem Zdr {rows:List (List Nat)}:∀{f:Nat} {c:Nat→Nat} {k s:Nat},s<rows.length→TB rows (f+1) c k s<rows.length
 | f, c,k,s,hs=>by
   have h1:KP rows c s<rows.length:=Uu (Zj7 hs) (SR _ _);rw [TB];split
   · exact h1
   · cases f with
     |zero=>exact h1
     |succ f=>exact Zdr hs
theorem ZgB (t:Tab) {s:Nat} (hs:s<t.rows.length):YD t s<t.rows.length:=Zdr hs
def E8 (t:Tab) (x:Nat):Bool:=(t.fin[x]?).getD false
def LR (t:Tab) (o:List Nat) (j:Nat):Nat:=if posK (YD t) o j<o.length then posK (YD t) o j+1 else 0
theorem Zh1 (t:Tab) (j:Nat):LR t [0] j=if j=YD t 0 then 1 else 0:=by
 unfold LR
 rw [posK,posK]
 by_cases h:YD t 0=j
 · rw [UU h,UU sM,UU h.symm]
 · rw [UT h,UT sM,UT fun e=>h e.symm]
theorem Zh2 {α κ:Type} [DecidableEq κ] {f:α→κ} {o:List α} {x:α} {k:κ} (h:¬posK f o k<o.length) (hk:f x≠k):¬posK f (o++[x]) k<(o++[x]).length:=fun hh=>by
 obtain ⟨y,hy,e⟩:=Rv.1 hh
 rcases Xq.1 hy with hy|hy
 · exact h (Rv.2 ⟨y,hy,e⟩)
 · rw [Xi.1 hy] at e;exact hk e
theorem ζ6 {t:Tab} {o:List Nat} {x:Nat} (h:¬posK (YD t) o (YD t x)<o.length) (j:Nat):LR t (o++[x]) j=if j=YD t x then o.length+1 else LR t o j:=by
 unfold LR
 by_cases e:j=YD t x
 · subst e;rw [UU rfl,Oe h,UU sM]
 · rw [UT e];by_cases h2:posK (YD t) o j<o.length
   · rw [UU h2,SF _ h2,UU (by rw [Xb];omega)]
   · rw [UT h2,UT (Zh2 h2 fun e2=>e e2.symm)]
theorem R9 {f g:Nat→Bool}:∀n:Nat,(∀i,i<n→f i=g i)→Yh n f=Yh n g
 |0,_=>rfl
 |n+1,h=>by rw [WL,WL,R9 n fun i hi=>h i oM,h n oM]
theorem Zow {t:Tab} {o:List Nat} {rows:List (List Nat)} (hl:rows.length=o.length):Zov ⟨t.m,rows,o.map (E8 t)⟩=WI t (o,rows):=by
 unfold Zov WI
 dsimp only
 rw [hl,R9 o.length fun i hi=>by
  obtain ⟨x,hx⟩:=Zw hi;show ((o.map (E8 t))[i]?).getD false=JK t o i;unfold JK;rw [Xg,hx];rfl]
def Zox (t:Tab) (p:PV):Prop:=(∃A,Wp t=some A∧p= .tup [ZJ A,ZN true])∨(Wp t=none∧p= .tup [KR,ZN false])
set_option maxHeartbeats 4000000 in
theorem E9 (t : Tab) (ht:TOk t):AF prog 195 [S7 t] (Zox t):=by
 have hn1:=ht.n1
 have hfl:=ht.fl
 have hm1:=ht.m1
 have hpos:=ht.pos
 refine AF.of_body 111 func195 rfl ntmps195 (Xa rfl) ?_
 intro w0 M0 vs hl hv
 obtain ⟨v0,rfl⟩:=WE hl
 clear hl hv
 refine Ze ?_
 (refine ZB 1 3 fun h1=>?_<;>refine Zv [(.int .i64 0),(.int .i64 0),(.slice none 0 0),(.slice none 0 0),(.slice none 0 0)] 5 2 ZI fun h2=>?_<;>refine xL 3 Za ?_<;>refine Zk ?_)
 ((refine yL 12 (Zs 1 ZP) fun v12 h=>?_;cases h)<;>(refine cO 13 (cA call235 (Zbq t ht)) fun v13 ho13=>?_;refine Zu (En.freeze (l:=13) (t:=13) rfl rfl) fun _=>?_;rw [show share (.own 3 1 t.rows.length (vec t.rows.length fun s=>pInt (YD t s:Nat)))= .sl t.rows.length (vec t.rows.length fun s=>pInt (YD t s:Nat)) by rw [share,Yr,HV];rfl])<;>refine xL 4 Za ?_<;>refine Zk ?_)
 (refine xL 14 (Zd 1 Ys) ?_<;>(refine yL 15 (Zl 1 Yj) fun v15 h=>?_;cases h)<;>refine xL 16 (ZW Z0) ?_<;>refine Jy 17 Zo fun h17 ho17=>?_<;>refine xL 5 Za ?_<;>refine Zk ?_)
 (refine ZM (kk:=1) 18 Zo fun h18 ho18=>?_<;>refine xL 6 Za ?_<;>refine Zc ?_)
 rw [show List.replicate t.rows.length (PV.val (.int .i64 0))=vec t.rows.length (fun _=>pInt 0) from Ld _ _]
 refine Zq (ZD (l:=18) 303 rfl rfl) fun _=>?_
 refine Zq (ZF (l:=303) (p':= .own 3 1 ([0]:List Nat).length ((toI [0]).map pInt)) rfl rfl) fun _=>?_
 have e1:=Kw (fun s=>pInt (YD t s:Nat)) hpos
 have hc0:=ZgB t hpos
 have e2:=KO t.rows.length (fun _=>pInt 0)
 (refine Zt ?_<;>refine xL 19 Zb (xL 20 Zb ?_)<;>refine xL 21 (ZH (i:=0) Zr) ?_<;>(refine yL 22 (Ya Zg) fun v22 h=>?_;cases h)<;>refine xL 23 (Yg 17 Zr) ?_<;>refine YQ 17 Zg Wx ?_<;>refine Zc ?_)
 rw [show (vec t.rows.length fun _=>pInt 0).set (YD t 0*1) (PV.val (.int .i64 1))=vec t.rows.length fun j=>pInt (LR t [0] j:Nat) by rw [Xp,Ol];exact JH fun j _=>by rw [Zh1];by_cases e:j=YD t 0<;>simp [e]]
 (refine Zt ?_<;>refine xL 24 (Zd 1 KA) ?_<;>(refine yL 25 (Zl 1 Zg) fun v25 h=>?_;cases h)<;>refine xL 26 (ZO LD) ?_<;>refine Zv [(.int .i64 0),(.slice none 0 0),(.slice none 0 0)] 3 7 Z6 fun h7=>?_<;>refine Zz 7 ZP ?_<;>refine Zc ?_)
 refine Zq (WF (l:=7) [pInt (t.m:Nat), .own 4 1 0 [], .own 36 1 0 []] rfl rfl (fun i p p' h1 h2=>by
  match i with
  |0=>cases h1;cases h2;exact .inl rfl
  |1=>cases h1;cases h2;exact .inr ⟨rfl,_,_,rfl⟩
  |2=>cases h1;cases h2;exact .inr ⟨rfl,_,_,rfl⟩
  |i+3=>simp at h2)) fun _=>?_
 refine Zq (We (l:=7) (l':=302) (j:=1) rfl rfl rfl rfl) fun i=>?_
 obtain ⟨v302,ho302⟩:=i
 refine Zq (We (l:=7) (l':=301) (j:=2) rfl rfl rfl rfl) fun i=>?_
 obtain ⟨v301,ho301⟩:=i
 dsimp only [List.set]
 (refine Zt ?_<;>refine xL 8 Za ?_<;>refine Zc ?_)
 refine ZE (ι:={q:Nat×Value×Value×Value×List Nat×List (List Nat)//(minW t).upto 0 q.1=some (q.2.2.2.2.1,q.2.2.2.2.2)∧q.1≤q.2.2.2.2.1.length∧q.2.1.oneCell'=true∧q.2.2.1.oneCell'=true∧q.2.2.2.1.oneCell'=true}) (fun k=>⟨[(1,_,_),(2,_,_),(3,_,_),(4,_,_),(5,_,_),(7,_,_),(6,k.1.2.2.2.1, .val k.1.2.2.2.1),(8, .int .i64 k.1.1,pInt k.1.1)],[(1,_,_),(2,_,_),(7,h7, .own 188 3 1 [pInt (t.m:Nat), .val k.1.2.1, .val k.1.2.2.1]),(301,k.1.2.2.1, .own 36 1 k.1.2.2.2.2.2.length (k.1.2.2.2.2.2.map Wn)),(302,k.1.2.1, .own 4 1 ((k.1.2.2.2.2.1.take k.1.1).map (E8 t)).length (((k.1.2.2.2.2.1.take k.1.1).map (E8 t)).map ZN)),(303,k.1.2.2.2.1, .own 3 1 k.1.2.2.2.2.1.length ((toI k.1.2.2.2.2.1).map pInt)),(17,h17, .own 3 1 t.rows.length (vec t.rows.length fun j=>pInt (LR t k.1.2.2.2.2.1 j:Nat)))]⟩) (fun k=>2000-k.1.1) ⟨(0,v302,v301,h18,[0],[]),rfl,Xd _,ho302,ho301,ho18⟩ (fun a w H=>H.weaken ⟨rfl,rfl,rfl,rfl,rfl,rfl,rfl,rfl,trivial⟩ ⟨rfl,rfl,rfl,rfl,rfl,rfl,rfl,trivial⟩) ?_
 rintro ⟨⟨i,hF,hM,hO,o,rows⟩,hU,hi,hFo,hMo,hOo⟩
 dsimp only
 dsimp only at hU hi hFo hMo hOo
 obtain ⟨hOk,hRl,_⟩:=Zbd ht hU
 have hRl:=hRl hi
 have hcap:o.length≤t.rows.length:=hOk.cap
 have hrw:=hOk.len
 have htl:=Y8 o
 have hfll:((o.take i).map (E8 t)).length≤2000:=by rw [Xe,Xn];omega
 refine Ze ?_
 (refine xL 27 Zb (xL 28 Zb (xL 29 (YH 303 Zr) (xL 30 ZQ ?_)))<;>refine Zc ?_)
 refine cX ?_ ?_<;>intro hb30
 · first | exact bN hb30|(
 obtain ⟨x,hx⟩:=Zw (show i<o.length by omega);have hxn:x<t.rows.length:=hOk.p x (Xc hx);obtain ⟨b,hb⟩:=Zw (show x<t.fin.length by omega);have e2:=Yb (f:=ZN) hb;obtain ⟨row,hrow⟩:=Zw hxn;have e3:=Yb (f:=Wn) hrow;have hrl:=ht.rl row (Xc hrow);have hrt:=ht.to row (Xc hrow);have hrtl:=Y8 row;(have hfa:E8 t x=b:=by unfold E8;rw [hb];rfl);refine Ze ?_;(refine J0 33 Zo fun h33 ho33=>?_<;>refine xL 9 Za ?_<;>refine Zc ?_)
 refine Zq (ZD (l:=33) 305 rfl rfl) fun _=>?_;refine Zq (ZF (l:=305) (p':= .own 3 1 ([]:List Nat).length ((toI []).map pInt)) rfl rfl) fun _=>?_;(refine Zt ?_<;>refine xL 10 Za ?_<;>refine Zc ?_)
 refine ZE (ι:={q:Nat×Value×Value×List Nat×List Nat//(minW t).row i x o q.1=some (q.2.2.2.1,q.2.2.2.2)∧q.1≤t.m∧q.2.1.oneCell'=true∧q.2.2.1.oneCell'=true}) (fun k=>⟨[(1,_,_),(2,_,_),(3,_,_),(4,_,_),(5,_,_),(7,_,_),(8,_,_),(6,k.1.2.1, .val k.1.2.1),(9,k.1.2.2.1, .val k.1.2.2.1),(10, .int .i64 k.1.1,pInt k.1.1)],[(1,_,_),(2,_,_),(7,_,_),(301,_,_),(302,_,_),(303,k.1.2.1, .own 3 1 k.1.2.2.2.1.length ((toI k.1.2.2.2.1).map pInt)),(305,k.1.2.2.1, .own 3 1 k.1.2.2.2.2.length ((toI k.1.2.2.2.2).map pInt)),(17,h17, .own 3 1 t.rows.length (vec t.rows.length fun j=>pInt (LR t k.1.2.2.2.1 j:Nat)))]⟩) (fun k=>t.m-k.1.1) ⟨(0,hO,h33,o,[]),rfl,Xd _,hOo,ho33⟩ (fun a w H=>H.weaken ⟨rfl,rfl,rfl,rfl,rfl,rfl,rfl,rfl,rfl,rfl,trivial⟩ ⟨rfl,rfl,rfl,rfl,rfl,rfl,rfl,rfl,trivial⟩) ?_;rintro ⟨⟨s,hO',hR,o',r⟩,hW,hs,hO'o,hRo⟩;dsimp only;dsimp only at hW hs hO'o hRo;obtain ⟨hMt,hpr,hrl2,_⟩:=hOk.toMet.row (fun s _=>KJ ht) (show s≤(minW t).m from hs) hW;have hcap':o'.length≤t.rows.length:=hMt.cap;have htl':=Y8 o';have htr:=Y8 r;have hx':=Kd hpr hx;(have e1:((toI o').map pInt)[i*1]? =some (pInt (x:Nat)):=by rw [Xp,Xg];unfold toI;rw [Xg,hx'];rfl);have hio':=Zh hx';refine Ze ?_;(refine xL 34 Zb (xL 35 (Zd 1 KA) ?_)<;>(refine yL 36 (Zl 1 Zg) fun v36 h=>?_;cases h)<;>refine xL 37 ZQ ?_<;>refine Zc ?_)
 refine cX ?_ ?_<;>intro hb37
 · first | exact bN hb37|(
 obtain ⟨y,hy⟩:=Zw (show s<row.length by omega);have hyn:=hrt y (Xc hy);(have e4:((toI row).map pInt)[s*1]? =some (pInt (y:Nat)):=by rw [Xp,Xg];unfold toI;rw [Xg,hy];rfl);have e5:=Kw (fun s=>pInt (YD t s:Nat)) hyn;have hyc:=ZgB t hyn;have e6:=Kw (fun j=>pInt (LR t o' j:Nat)) hyc;have e7:=KO t.rows.length (fun j=>pInt (LR t o' j:Nat));have hto:(minW t).step i x s=y:=Pv hrow hy;refine nav ?_;(refine ZZ (fun i=>([]:List Nat).elem i) [1,303] kR ?_<;>refine xD 0 40 rfl (Zd 1 Ys) ?_<;>(refine yD 1 41 rfl (Zl 1 Yj) fun v41 h=>?_;cases h)<;>refine xD 2 42 rfl Zb ?_<;>refine xD 3 43 rfl Zb ?_<;>refine xD 4 44 rfl (Yg 303 Zr) ?_<;>(refine yD 5 45 rfl (Zl 303 Zg) fun v45 h=>?_;cases h)<;>refine xD 6 46 rfl (ZH Z0) ?_<;>(refine yD 7 47 rfl (Ya Zy) fun v47 h=>?_;cases h)<;>refine xE 8 48 rfl Zb ?_<;>refine xE 9 49 rfl (ZH Zr) ?_<;>(refine yE 10 50 rfl (Ya Zg) fun v50 h=>?_;cases h)<;>refine xE 11 11 rfl Za ?_<;>refine YC kR (nav ?_)<;>try dsimp only)
 (refine Zt ?_<;>refine xL 51 Zb (xL 52 Zb (xL 53 Zb (xL 54 (ZH Zr) ?_)))<;>(refine yL 55 (Ya Zg) fun v55 h=>?_;cases h)<;>refine xL 56 (Yg 17 Zr) ?_<;>(refine yL 57 (Zl 17 Zg) fun v57 h=>?_;cases h)<;>refine xL 58 Yf ?_<;>refine Zc ?_)
 refine cX ?_ ?_<;>intro hb58
 · first |exact bN hb58|(
 have hnew:¬posK (YD t) o' (YD t y)<o'.length:=fun hh=>by
  unfold LR at hb58;rw [UU hh] at hb58;omega
 (have hnew2:¬posK (minW t).key o' ((minW t).key ((minW t).step i x s))<o'.length:=by rw [hto];exact hnew);have hroom:=Ry ht hMt (show (minW t).step i x s<t.rows.length by rw [hto];exact hyn) hnew2;have e8:(vec t.rows.length fun j=>pInt (LR t o' j:Nat)).set (YD t y*1) (pInt ((o'++[y]).length:Nat))=vec t.rows.length fun j=>pInt (LR t (o'++[y]) j:Nat):=by
  rw [Xp,Ol];exact JH fun j _=>by
   rw [ζ6 hnew];by_cases e:j=YD t y
   · rw [UU e,UU e,Xb];rfl
   · rw [UT e,UT e]
 have e9:=Kw (fun j=>pInt (LR t (o'++[y]) j:Nat)) hyc;(have hnv:LR t (o'++[y]) (YD t y)=o'.length+1:=by rw [ζ6 hnew,UU rfl]);refine Ze ?_;(refine xL 59 Zb (xL 60 Zb ?_)<;>refine ZM (kk:=1) 61 Zo fun h61 ho61=>?_<;>(refine ZY 303 61 62 Zo fun h62 ho62=>?_;refine Zu (ZD (l:=62) 303 rfl rfl) fun _=>?_;refine Zu (ZF (l:=303) rfl (WW _ o' y)) fun _=>?_)<;>refine xL 6 Za ?_<;>refine Zk ?_)
 (refine xL 63 Zb (xL 64 Zb (xL 65 Zb (xL 66 (ZH Zr) ?_)))<;>(refine yL 67 (Ya Zg) fun v67 h=>?_;cases h)<;>refine xL 68 Zb (xL 69 (YH 303 Zr) (xL 70 (Yg 17 Zr) ?_))<;>refine YQ 17 Zg Wx ?_<;>refine Zc ?_)
 rw [e8];(refine Zt ?_<;>refine xL 71 Zb (xL 72 Zb (xL 73 Zb (xL 74 Zb (xL 75 (ZH Zr) ?_))))<;>(refine yL 76 (Ya Zg) fun v76 h=>?_;cases h)<;>refine xL 77 (Yg 17 Zr) ?_<;>(refine yL 78 (Zl 17 Zg) fun v78 h=>?_;cases h)<;>refine xL 79 KM ?_<;>refine ZM (kk:=1) 80 Zo fun h80 ho80=>?_<;>(refine ZY 305 80 81 Zo fun h81 ho81=>?_;refine Zu (ZD (l:=81) 305 rfl rfl) fun _=>?_;first|refine Zu (ZF (l:=305) rfl ((congrArg (fun z:Int=>PV.own 3 1 (r.length+1) ((toI r).map pInt++[pInt z])) (show ((LR t (o'++[y]) (YD t y):Nat):Int)-1=(o'.length:Nat) by rw [hnv];omega)).trans (WW _ r o'.length))) fun _=>?_|refine Zu (ZF (l:=305) rfl ((congrArg (fun z:Int=>PV.own 3 1 (r.length+1) ((toI r).map pInt++[pInt z])) (show ((LR t o' (YD t y):Nat):Int)-1=(posK (YD t) o' (YD t y):Nat) by rw [hnv];omega)).trans (WW _ r (posK (YD t) o' (YD t y))))) fun _=>?_)<;>refine xL 9 Za ?_<;>refine Zk ?_)
 (refine xL 38 Zb (xL 39 ZK (xL 10 Za ?_))<;>refine Zc ?_)
 first
  | (exact Zn (
      ⟨(s+1,h62,h81,o'++[y],r++[o'.length]),(by dsimp only;exact (by have h9:=Srch.row_snoc hW (Wc hnew2 hroom);rwa [hto] at h9)),(by dsimp only;omega),ho62,ho81⟩
      ) (by dsimp only;omega) ⟨rfl,rfl,rfl,rfl,rfl,rfl,rfl,rfl,rfl,rfl,trivial⟩ ⟨rfl,rfl,rfl,rfl,rfl,rfl,rfl,rfl,trivial⟩)
  | (exact Zn (
      ⟨(s+1,hO',h81,o',r++[posK (YD t) o' (YD t y)]),(by dsimp only;exact (by have h9:=Srch.row_snoc hW (Wb hold2);rw [hto] at h9;exact h9)),(by dsimp only;omega),hO'o,ho81⟩
      ) (by dsimp only;omega) ⟨rfl,rfl,rfl,rfl,rfl,rfl,rfl,rfl,rfl,rfl,trivial⟩ ⟨rfl,rfl,rfl,rfl,rfl,rfl,rfl,rfl,trivial⟩))
 · first |exact bN hb58|(
 have hold:posK (YD t) o' (YD t y)<o'.length:=by
  rcases XD (posK (YD t) o' (YD t y)) o'.length with hh|hh
  · exact hh
  · unfold LR at hb58;rw [UT oM] at hb58;exact UV rfl hb58
 (have hold2:posK (minW t).key o' ((minW t).key ((minW t).step i x s))<o'.length:=by rw [hto];exact hold);(have hnv:LR t o' (YD t y)=posK (YD t) o' (YD t y)+1:=by unfold LR;rw [UU hold]);refine Ze ?_;(refine xL 71 Zb (xL 72 Zb (xL 73 Zb (xL 74 Zb (xL 75 (ZH Zr) ?_))))<;>(refine yL 76 (Ya Zg) fun v76 h=>?_;cases h)<;>refine xL 77 (Yg 17 Zr) ?_<;>(refine yL 78 (Zl 17 Zg) fun v78 h=>?_;cases h)<;>refine xL 79 KM ?_<;>refine ZM (kk:=1) 80 Zo fun h80 ho80=>?_<;>(refine ZY 305 80 81 Zo fun h81 ho81=>?_;refine Zu (ZD (l:=81) 305 rfl rfl) fun _=>?_;first|refine Zu (ZF (l:=305) rfl ((congrArg (fun z:Int=>PV.own 3 1 (r.length+1) ((toI r).map pInt++[pInt z])) (show ((LR t (o'++[y]) (YD t y):Nat):Int)-1=(o'.length:Nat) by rw [hnv];omega)).trans (WW _ r o'.length))) fun _=>?_|refine Zu (ZF (l:=305) rfl ((congrArg (fun z:Int=>PV.own 3 1 (r.length+1) ((toI r).map pInt++[pInt z])) (show ((LR t o' (YD t y):Nat):Int)-1=(posK (YD t) o' (YD t y):Nat) by rw [hnv];omega)).trans (WW _ r (posK (YD t) o' (YD t y))))) fun _=>?_)<;>refine xL 9 Za ?_<;>refine Zk ?_)
 (refine xL 38 Zb (xL 39 ZK (xL 10 Za ?_))<;>refine Zc ?_)
 first
  | (exact Zn (
      ⟨(s+1,h62,h81,o'++[y],r++[o'.length]),(by dsimp only;exact (by have h9:=Srch.row_snoc hW (Wc hnew2 hroom);rwa [hto] at h9)),(by dsimp only;omega),ho62,ho81⟩
      ) (by dsimp only;omega) ⟨rfl,rfl,rfl,rfl,rfl,rfl,rfl,rfl,rfl,rfl,trivial⟩ ⟨rfl,rfl,rfl,rfl,rfl,rfl,rfl,rfl,trivial⟩)
  | (exact Zn (
      ⟨(s+1,hO',h81,o',r++[posK (YD t) o' (YD t y)]),(by dsimp only;exact (by have h9:=Srch.row_snoc hW (Wb hold2);rw [hto] at h9;exact h9)),(by dsimp only;omega),hO'o,ho81⟩
      ) (by dsimp only;omega) ⟨rfl,rfl,rfl,rfl,rfl,rfl,rfl,rfl,rfl,rfl,trivial⟩ ⟨rfl,rfl,rfl,rfl,rfl,rfl,rfl,rfl,trivial⟩)))
 · first|exact bN hb37|(
 have hsm:s=t.m:=oM;subst hsm;have hU2:=Srch.upto_snoc hU hx hW;have htk:o'.take (i+1)=(o.take i)++[x]:=by
  rw [ZR hx'];obtain ⟨e,rfl⟩:=hpr;rw [V4 hi]
 refine nav ?_;refine Zq (En.freeze (l:=305) (t:=9) rfl rfl) fun _=>?_;rw [ZV _ _ _ (by rw [Y8])];(refine Zt ?_<;>refine xL 82 (Zd 7 Ys) ?_<;>(refine yL 83 (Zl 7 Yj) fun v83 h=>?_;cases h)<;>refine xL 84 Zb ?_<;>refine ZM (kk:=1) 85 Yw fun h85 ho85=>?_<;>(refine ZY 301 85 86 Yw fun h86 ho86=>?_;refine Zu (ZD (l:=86) 301 rfl rfl) fun _=>?_;refine Zu (ZF (l:=301) rfl (Lf _ rows r)) fun _=>?_)<;>refine xL 87 (Zd 7 Ys) ?_<;>refine YQ 7 Yj Gk ?_<;>refine Zc ?_)
 (refine ZZ (fun i=>([13]:List Nat).elem i) [1,7,303] kR ?_<;>refine xD 0 88 rfl (Zd 7 YM) ?_<;>(refine yD 1 89 rfl (Zl 7 Ym) fun v89 h=>?_;cases h)<;>refine xD 2 90 rfl (Zd 1 YM) ?_<;>(refine yD 3 91 rfl (Zl 1 Ym) fun v91 h=>?_;cases h)<;>refine xD 4 92 rfl Zb ?_<;>refine xE 5 93 rfl Zb ?_<;>refine xE 6 94 rfl (Yg 303 Zr) ?_<;>(refine yE 7 95 rfl (Zl 303 Zg) fun v95 h=>?_;cases h)<;>refine xE 8 96 rfl (ZH Yo) ?_<;>(refine yE 9 97 rfl (Ya Wa) fun v97 h=>?_;cases h)<;>(refine Zp 10 kR ?_)<;>(refine Zm rfl fun w9 M9 N9 DQ back=>?_)<;>refine ZM (kk:=1) 98 YZ fun h98 ho98=>?_<;>refine Zj (back _ (nrm ?_))<;>(refine Zp 11 kR ?_)<;>(refine Zm rfl fun w9 M9 N9 DQ back=>?_)<;>refine ZY 302 98 99 YZ fun h99 ho99=>?_<;>refine Zj (back _ (nrm ?_))<;>refine xE 12 100 rfl (Zd 7 YM) ?_<;>(refine Zp 13 kR ?_)<;>(refine Kb rfl rfl kR fun DQ back=>?_)<;>refine YQ 7 Ym Gl ?_<;>refine Zj (back _ (nav ?_))<;>try dsimp only)
 refine Zq (ZD (l:=99) 302 rfl rfl) fun _=>?_;refine Zq (ZF (l:=302) rfl (Gm _ ((o.take i).map (E8 t)) b)) fun _=>?_;rw [show ((o.take i).map (E8 t))++[b]=(o'.take (i+1)).map (E8 t) by rw [htk,Xs,←hfa];rfl];(refine Zt ?_<;>refine xL 31 Zb (xL 32 ZK (xL 8 Za ?_))<;>refine Zc ?_)
 refine Zn (
  ⟨(i+1,h99,h86,hO',o',rows++[r]),hU2,(by dsimp only;omega),ho99,ho86,hO'o⟩
  ) (by dsimp only;omega) ⟨rfl,rfl,rfl,rfl,rfl,rfl,rfl,rfl,trivial⟩ ⟨rfl,rfl,rfl,rfl,rfl,rfl,rfl,trivial⟩))
 · first |exact bN hb30|(
 have hio:i=o.length:=oM;subst hio;have hA:=Srch.all_some hU (Xh _) (show o.length≤(minW t).cap from hcap);have hml:=Pw rows hrw;have hmm:rows.length*t.m≤80000:=XN (Vw (show rows.length≤2000 by omega) hm1) dC;have hmi:((rows.length*t.m:Nat):Int)=(rows.length:Int)*(t.m:Int):=Vr _ _;have hml2:(Z4 rows).length=rows.length*t.m:=hml;refine Ze ?_;(refine xL 101 (Zd 7 Ys) ?_<;>(refine yL 102 (Zl 7 Yj) fun v102 h=>?_;cases h)<;>refine xL 103 (YH 301 Z0) (xL 104 (Zd 7 KA) ?_)<;>(refine yL 105 (Zl 7 Zg) fun v105 h=>?_;cases h)<;>refine xL 106 (Jj (h1:=by omega) (h2:=by omega)) ?_<;>refine xL 107 Yz ?_<;>refine Zc ?_)
 refine cX ?_ ?_<;>intro hb107
 · first|exact bN hb107|(
 refine Ze ?_;(refine xL 108 (ZO ZX) ?_<;>refine Zz 2 Zf ?_<;>refine xL 3 Za ?_<;>refine Zc ?_)
 refine Z8 (k:=5) 2 kR (results195) rfl rfl rfl (Xa rfl) dC rfl (.inr ⟨?_,rfl⟩);unfold Wp;rw [hA,Vd,UU (by dsimp only;omega)])
 · first|exact bN hb107|(
 refine nav ?_;refine Zq (Z7 (l:=7) (l':=302) (j:=1) rfl rfl rfl rfl) fun _=>?_;refine Zq (Z7 (l:=7) (l':=301) (j:=2) rfl rfl rfl rfl) fun _=>?_;rw [JN _ _ _ rfl,Kz _ _ _ rfl,VI];(refine Zt ?_<;>(refine yL 109 (Zs 7 ZP) fun v109 h=>?_;cases h)<;>(refine cD 110 (cA call236 ((Zh0 ⟨t.m,rows,o.map (E8 t)⟩ (by dsimp only;rw [Xe,hRl]) hrw (by dsimp only;omega) hm1))) fun v110 hv110=>?_;clear hv110)<;>refine Zz 2 Zf ?_<;>refine xL 3 Za ?_<;>refine Zc ?_)
 refine Z8 (k:=5) 2 kR (results195) rfl rfl rfl (Xa rfl) dC rfl (.inl ⟨WI t (o,rows),?_,?_⟩)
 · unfold Wp;rw [hA,Vd,UT (by dsimp only;omega)]
 · rw [←Zow hRl];rfl))
theorem Zds {dd:Prop} {P:Program} {f:Nat} {ar h:List (Nat×Ent)} {R R':Value→PV→List (Nat×Ent)→Prop} (hA:AFh dd P f ar h R) (hR:∀v p h,R v p h→R' v p h):AFh dd P f ar h R':=fun M N w F H hv=>
 (hA M N w F H hv).mono fun e w' ⟨v,p,h,F',e1,e2,e3,e4⟩=>⟨v,p,h,F',e1,hR v p h e2,e3,e4⟩
theorem Gn:AF prog 194 [] (· = .tup [KR,pInt 13]):=by
 refine AF.of_body 3 func194 rfl ntmps194 (Xa rfl) ?_
 intro w0 M0 vs hl hv
 obtain rfl:=XR hl
 clear hl hv
 refine Ze ?_
 (refine Zv [(.int .i64 0),(.int .i64 0),(.slice none 0 0),(.slice none 0 0),(.slice none 0 0)] 5 0 ZI fun h0=>?_<;>refine xL 1 Za ?_<;>refine Zk ?_)
 (refine xL 2 (ZO ZX) ?_<;>refine Zz 0 Zf ?_<;>refine xL 1 Za ?_<;>refine Zc ?_)
 exact Z8 (k:=5) 0 kR (results194) rfl rfl rfl (Xa rfl) dC rfl rfl
theorem Hs {a:Aut} (h:AOk a) (hs:Jc a=none) (V:Value):AFh False prog 193 [(0,V,ZJ a)] [] (fun v q h=>(∃V1:Value,v= .tuple [V1, .bool false].toArray)∧q= .tup [.agg [pInt 0, .val (.slice none 0 0), .val (.slice none 0 0)],ZN false]∧h=[]):=Zds (Ou a h V) fun v q h' hr=>by
 rcases hr with ⟨t,_,_,_,h1,_⟩|⟨_,h2⟩
 · rw [hs] at h1;cases h1
 · exact h2
theorem Sl {a:Aut} (h:AOk a) {t:Tab} (hs:Jc a=some t) (V:Value):AFh False prog 193 [(0,V,ZJ a)] [] (fun v q h=>∃hF V1:Value,hF.oneCell'=true∧v= .tuple [V1, .bool true].toArray∧q= .tup [.agg [pInt (t.m:Nat), .val hF, .sl t.rows.length (t.rows.map Wn)],ZN true]∧h=[(1000,hF, .own 4 1 t.fin.length (t.fin.map ZN))]):=Zds (Ou a h V) fun v q h' hr=>by
 rcases hr with ⟨t',hF,V1,h1,h2,h3⟩|⟨h1,_⟩
 · rw [hs] at h2;cases h2;exact ⟨hF,V1,h1,h3⟩
 · rw [hs] at h1;cases h1
theorem E' (a:Aut) (hml:a.moves.length≤1000000) (hv:Z1 a=false):AF prog 143 [ZJ a] (· = .tup [KR,pInt 1]):=by
 refine AF.of_body 33 func143 rfl ntmps143 (Xa rfl) ?_
 intro w0 M0 vs hl hv
 obtain ⟨v0,rfl⟩:=WE hl
 clear hl hv
 refine Ze ?_
 (refine ZB 1 5 fun h1=>?_<;>refine Zv [(.int .i64 0),(.int .i64 0),(.slice none 0 0),(.slice none 0 0),(.slice none 0 0)] 5 2 ZI fun h2=>?_<;>refine xL 3 Za ?_<;>refine Zk ?_)
 ((refine yL 8 (Zs 1 Zf) fun v8 h=>?_;cases h)<;>(refine cS 9 (cA call192 (Yc a hml)) fun v9 h=>?_;cases h)<;>refine xL 10 Z' ?_<;>refine Zc ?_)
 refine cX ?_ ?_<;>intro hb10
 · refine Ze ?_;(refine xL 11 (ZO ZX) ?_<;>refine Zz 2 Zf ?_<;>refine xL 3 Za ?_<;>refine Zc ?_)
   exact Z8 (k:=5) 2 kR (results143) rfl rfl rfl (Xa rfl) dC rfl rfl
 · rw [hv] at hb10;simp at hb10
theorem Ht (a:Aut) (hml:a.moves.length≤1000000) (hv:Z1 a=true) (hs:Jc a=none):AF prog 143 [ZJ a] (· = .tup [KR,pInt 13]):=by
 have h:=Kp hv
 refine AF.of_body 33 func143 rfl ntmps143 (Xa rfl) ?_
 intro w0 M0 vs hl hv
 obtain ⟨v0,rfl⟩:=WE hl
 clear hl hv
 refine Ze ?_
 (refine ZB 1 5 fun h1=>?_<;>refine Zv [(.int .i64 0),(.int .i64 0),(.slice none 0 0),(.slice none 0 0),(.slice none 0 0)] 5 2 ZI fun h2=>?_<;>refine xL 3 Za ?_<;>refine Zk ?_)
 ((refine yL 8 (Zs 1 Zf) fun v8 h=>?_;cases h)<;>(refine cS 9 (cA call192 (Yc a hml)) fun v9 h=>?_;cases h)<;>refine xL 10 Z' ?_<;>refine Zc ?_)
 refine cX ?_ ?_<;>intro hb10
 · rw [hv] at hb10;simp at hb10
 · refine Ze ?_;((refine yL 13 (Zs 1 Zf) fun v13 h=>?_;cases h)<;>(refine J3 [1,2] 14 (call193) (Hs h hs _) ?_;rintro _ _ _ ⟨⟨V1,rfl⟩,rfl,rfl⟩)<;>refine xL 12 Zb (xL 15 Zi (xL 16 Zi ?_))<;>refine Zv [(.int .i64 0),(.slice none 0 0),(.slice none 0 0)] 3 4 Z6 fun h4=>?_<;>refine Zz 4 ZP ?_<;>refine xL 5 Za ?_<;>refine Zk ?_)
   (refine xL 17 Zb (xL 18 Z' ?_)<;>refine Zc ?_)
   refine cCt ?_;refine Ze ?_;((refine cP 19 (cA call194 (Gn)) fun va19 vb19 hva19 h=>?_;cases h)<;>refine xL 20 Zi (xL 21 Zi ?_)<;>refine Zz 2 Zf ?_<;>refine xL 3 Za ?_<;>refine Zc ?_)
   exact Z8 (k:=5) 2 kR (results143) rfl rfl rfl (Xa rfl) dC rfl rfl
theorem Ca (a:Aut) (hml:a.moves.length≤1000000) (hv:Z1 a=true) {t:Tab} (hs:Jc a=some t) (hl:AF prog 195 [S7 t] (· = .tup [KR,ZN false])):AF prog 143 [ZJ a] (· = .tup [KR,pInt 13]):=by
 have h:=Kp hv
 refine AF.of_body 33 func143 rfl ntmps143 (Xa rfl) ?_
 intro w0 M0 vs hl hv
 obtain ⟨v0,rfl⟩:=WE hl
 clear hl hv
 refine Ze ?_
 (refine ZB 1 5 fun h1=>?_<;>refine Zv [(.int .i64 0),(.int .i64 0),(.slice none 0 0),(.slice none 0 0),(.slice none 0 0)] 5 2 ZI fun h2=>?_<;>refine xL 3 Za ?_<;>refine Zk ?_)
 ((refine yL 8 (Zs 1 Zf) fun v8 h=>?_;cases h)<;>(refine cS 9 (cA call192 (Yc a hml)) fun v9 h=>?_;cases h)<;>refine xL 10 Z' ?_<;>refine Zc ?_)
 refine cX ?_ ?_<;>intro hb10
 · rw [hv] at hb10;simp at hb10
 · refine Ze ?_;((refine yL 13 (Zs 1 Zf) fun v13 h=>?_;cases h)<;>(refine J3 [1,2] 14 (call193) (Sl h hs _) ?_;rintro _ _ _ ⟨hF,V1,hFo,rfl,rfl,rfl⟩;have hone:En.one (PV.val hF)=true:=hFo)<;>refine xL 12 Zb (xL 15 Zi (xL 16 Zi ?_))<;>refine Zv [(.int .i64 0),(.slice none 0 0),(.slice none 0 0)] 3 4 Z6 fun h4=>?_<;>refine Zz 4 ZP ?_<;>refine xL 5 Za ?_<;>refine Zk ?_)
   (refine xL 17 Zb (xL 18 Z' ?_)<;>refine Zc ?_)
   refine cCf ?_;refine nav ?_;refine Zq (Z7 (l:=4) (l':=1000) (j:=1) rfl rfl rfl rfl) fun _=>?_;rw [Kz _ _ _ rfl];(refine Zt ?_<;>(refine yL 23 (Zs 4 ZP) fun v23 h=>?_;cases h)<;>(refine cP 24 (cA call195 (hl)) fun va24 vb24 hva24 h=>?_;cases h)<;>refine xL 22 Zb (xL 25 Zi (xL 26 Zi ?_))<;>refine Zv [(.int .i64 0),(.int .i64 0),(.slice none 0 0),(.slice none 0 0),(.slice none 0 0)] 5 6 ZI fun h6=>?_<;>refine Zz 6 Zf ?_<;>refine xL 7 Za ?_<;>refine Zk ?_)
   (refine xL 27 Zb (xL 28 Z' ?_)<;>refine Zc ?_)
   refine cCt ?_;refine Ze ?_;((refine cP 29 (cA call194 (Gn)) fun va29 vb29 hva29 h=>?_;cases h)<;>refine xL 30 Zi (xL 31 Zi ?_)<;>refine Zz 2 Zf ?_<;>refine xL 3 Za ?_<;>refine Zc ?_)
   exact Z8 (k:=5) 2 kR (results143) rfl rfl rfl (Xa rfl) dC rfl rfl
theorem C5 (a:Aut) (hml:a.moves.length≤1000000) (hv:Z1 a=true) {t:Tab} (hs:Jc a=some t) {A:Aut} (hl:AF prog 195 [S7 t] (· = .tup [ZJ A,ZN true])):AF prog 143 [ZJ a] (· = .tup [ZJ A,pInt 0]):=by
 have h:=Kp hv
 refine AF.of_body 33 func143 rfl ntmps143 (Xa rfl) ?_
 intro w0 M0 vs hl hv
 obtain ⟨v0,rfl⟩:=WE hl
 clear hl hv
 refine Ze ?_
 (refine ZB 1 5 fun h1=>?_<;>refine Zv [(.int .i64 0),(.int .i64 0),(.slice none 0 0),(.slice none 0 0),(.slice none 0 0)] 5 2 ZI fun h2=>?_<;>refine xL 3 Za ?_<;>refine Zk ?_)
 ((refine yL 8 (Zs 1 Zf) fun v8 h=>?_;cases h)<;>(refine cS 9 (cA call192 (Yc a hml)) fun v9 h=>?_;cases h)<;>refine xL 10 Z' ?_<;>refine Zc ?_)
 refine cX ?_ ?_<;>intro hb10
 · rw [hv] at hb10;simp at hb10
 · refine Ze ?_;((refine yL 13 (Zs 1 Zf) fun v13 h=>?_;cases h)<;>(refine J3 [1,2] 14 (call193) (Sl h hs _) ?_;rintro _ _ _ ⟨hF,V1,hFo,rfl,rfl,rfl⟩;have hone:En.one (PV.val hF)=true:=hFo)<;>refine xL 12 Zb (xL 15 Zi (xL 16 Zi ?_))<;>refine Zv [(.int .i64 0),(.slice none 0 0),(.slice none 0 0)] 3 4 Z6 fun h4=>?_<;>refine Zz 4 ZP ?_<;>refine xL 5 Za ?_<;>refine Zk ?_)
   (refine xL 17 Zb (xL 18 Z' ?_)<;>refine Zc ?_)
   refine cCf ?_;refine nav ?_;refine Zq (Z7 (l:=4) (l':=1000) (j:=1) rfl rfl rfl rfl) fun _=>?_;rw [Kz _ _ _ rfl];(refine Zt ?_<;>(refine yL 23 (Zs 4 ZP) fun v23 h=>?_;cases h)<;>(refine cP 24 (cA call195 (hl)) fun va24 vb24 hva24 h=>?_;cases h)<;>refine xL 22 Zb (xL 25 Zi (xL 26 Zi ?_))<;>refine Zv [(.int .i64 0),(.int .i64 0),(.slice none 0 0),(.slice none 0 0),(.slice none 0 0)] 5 6 ZI fun h6=>?_<;>refine Zz 6 Zf ?_<;>refine xL 7 Za ?_<;>refine Zk ?_)
   (refine xL 27 Zb (xL 28 Z' ?_)<;>refine Zc ?_)
   refine cCf ?_;refine Ze ?_;((refine yL 32 (Zs 6 Zf) fun v32 h=>?_;cases h)<;>refine Zz 2 Zf ?_<;>refine xL 3 Za ?_<;>refine Zc ?_)
   exact Z8 (k:=5) 2 kR (results143) rfl rfl rfl (Xa rfl) dC rfl rfl
theorem ZfB {t:Tab} {A:Aut} (h:Wp t=some A) (ht:TOk t):AF prog 195 [S7 t] (· = .tup [ZJ A,ZN true]):=(E9 t ht).mono fun p hp=>by
 rcases hp with ⟨B,h1,h2⟩|⟨h1,_⟩
 · rw [h] at h1;cases h1;exact h2
 · rw [h] at h1;cases h1
theorem ZfC {t:Tab} (h:Wp t=none) (ht:TOk t):AF prog 195 [S7 t] (· = .tup [KR,ZN false]):=(E9 t ht).mono fun p hp=>by
 rcases hp with ⟨B,h1,h2⟩|⟨_,h1⟩
 · rw [h] at h1;cases h1
 · exact h1
theorem G8 (a:Aut) (hml:a.moves.length≤1000000):AF prog 143 [ZJ a] (· =resW (Ji a)):=by
 unfold Ji
 cases hv:Z1 a with
 |false=>rw [UT sM];exact E' a hml hv
 | true=>
   rw [UU rfl];have h:=Kp hv
   cases hs:Jc a with
   |none=>rw [ζ5 hs];exact Ht a hml hv hs
   | some t=>
     rw [ζ4 hs];have ht:=HW h hs
     cases hl:Wp t with
     |none=>exact Ca a hml hv hs (ZfC hl ht)
     |some A=>exact C5 a hml hv hs (ZfB hl ht)
theorem Zdt {P:Program} {c:Ctx} {sL hP:List (Nat×Ent)} {ops:Array Oper} {Q:Exit→Act→World→Prop} {o:Oper} {rest:List Oper} {fs g k e d l:Nat} {cs:List PV} {h:Value} {q q':PV} {x y:Operand} {ats:Array TypeId} (hS:∀(p:Option Addr) (cap:Nat) (fv:Value) (w:World),Calls P fs #[.slice p 0 cap,fv] w fun e w'=>e= .returned (.tuple #[])∧w'=w)
 (hw:Ye ops sL o=some true) (hd:o.dst=some d) (hdn:d<c.nt) (ho:o.op= .call {callee:= .value (.func fs),args:= #[x,y],argTypes:=ats}) (hc:∀args w,(callFunc fs args).run P w= .ok (.enter fs args) w) (hx:ev sL x=some (h,q)) (hy:ev sL y=some (.func (.func g) #[] #[],q')) (hl:lk hP l=some (h, .own e k 0 cs))
 (kk:aL P c ops Q rest ⟨put d (.tuple #[], .val (.tuple #[])) sL,hP⟩):aL P c ops Q (o::rest) (⟨sL,hP⟩:St):=
 Y4 hw fun a w F H=>by
  have hxv:=(H.rd.ev hx).1;have hyv:=(H.rd.ev hy).1;obtain ⟨xs,Fs,hrow,_⟩:=(H.tr l _ _ hl).row;obtain ⟨p,cap,rfl⟩:∃p cap,h= .slice p 0 cap:=by
   rcases Wd hrow with ⟨h1,_⟩|⟨g,cap,h1,_⟩
   · exact ⟨_,_,h1⟩
   · exact ⟨_,_,h1⟩
  unfold Oper.wp;have hrun:(execOp a.eval o).run P w= .ok (.enter fs #[.slice p 0 cap, .func (.func g) #[] #[]]) w:=by
   have hev:a.eval (.func fs)= .func (.func fs) #[] #[]:=rfl;simp [execOp,ho,resolve,Deferred.ofValue,hev,invoke,hxv,hyv,hc]
  rw [hrun,Oper.upon_enter];refine (hS p cap _ w).mono fun e' w' ⟨he',hw'⟩=>?_;subst he' hw';rw [hd];exact kk _ _ ⟨F,H.put hdn (.val _)⟩
theorem J6 {a b:Mv}:GY a b<0↔Kj a b=true:=by unfold Kj;rw [UQ]
theorem ζ7 (a:Mv):¬GY a a<0:=fun h=>by have:=J6.1 h;rw [Lv] at this;cases this
theorem Zdu (a b c:Mv) (h1:GY a b<0) (h2:GY b c<0):GY a c<0:=J6.2 (T6 (J6.1 h1) (J6.1 h2))
theorem Zdv (a b c:Mv) (h1:¬GY a b<0) (h2:¬GY b c<0):¬GY a c<0:=fun h=>by
 rw [J6,WU] at h1 h2 h
 omega
def Cc (l:List Mv):Prop:=∀(i j:Nat) (a b:Mv),i<j→l[i]? =some a→l[j]? =some b→¬GY b a<0
theorem ZfD {l:List Mv} (h:Cc l) (hn:l.Nodup):AscM l:=by
 unfold AscM
 rw [Ug]
 intro i j hi hj hij
 have h1:=h i j l[i] l[j] hij (XY hi) (XY hj)
 rw [J6] at h1
 cases h2:Kj l[i] l[j] with
 |true=>rfl
 | false=>
   have h3:=Om h2 (by simpa using h1);exact UV (List.getElem_inj hn |>.1 h3) oM
theorem Zkm {l:List Mv} (h:AscM l) {k:Nat} {x y:Mv} (hy:l[k]? =some y) (hx:l[k+1]? =some x):eqM x y=false:=by
 have h1:=Ug.1 h k (k+1) (Zh hy) (Zh hx) oM
 rw [(XK.1 hy).2,(XK.1 hx).2] at h1
 cases h2:eqM x y with
 |false=>rfl
 |true=>rw [Gy.1 h2,Lv] at h1;cases h1
theorem ZmB:prog.underlying 93=some (.struct (prog.fieldsOf 93)):=by kernel_rfl
theorem ZmC:prog.stoodInHeld 93=false:=by kernel_rfl
theorem ZmD:prog.eqGuardType prog.depth 93=false:=by kernel_rfl
def vMv (m:Mv):List Value:=[Value.int .i64 m.src, .int .i64 m.dst, .int .i64 m.sym]
theorem RF (x y:Mv) (w:World):(Op.eqFields 9999 (vMv x).toArray (vMv y).toArray (prog.fieldsOf 93).toList).run prog w= .ok (eqM x y) w:=by
 unfold vMv eqM
 simp only [Program.fieldsOf,underlying93]
 simp [Op.eqFields,part,run_equalIn_int w 9998 3 .i64 .i64 x.src y.src underlying3,run_equalIn_int w 9998 3 .i64 .i64 x.dst y.dst underlying3,run_equalIn_int w 9998 3 .i64 .i64 x.sym y.sym underlying3]
 by_cases h1:x.src=y.src<;>by_cases h2:x.dst=y.dst<;>by_cases h3:x.sym=y.sym<;>simp [h1,h2,h3]
theorem Y9 (l:List Mv) (hl:l.length≤1000000):AF prog 138 [pMvs l] (· = .own 93 3 l.length (l.flatMap cMv)):=by
 refine AF.of_body 8 func138 rfl ntmps138 (Xa rfl) ?_
 intro w0 M0 vs hl hv
 obtain ⟨v0,rfl⟩:=WE hl
 clear hl hv
 have f3:(l.flatMap cMv).length=l.length*3:=flat_len Z5 l
 have f4:(l.flatMap cMv).all En.one=true:=L1 l
 refine Ze ?_
 (refine xL 2 Za ?_<;>refine Zk ?_)
 (refine xL 3 Zb ?_<;>(refine yL 4 (Zgk ZL) fun v4 hv4=>?_;rcases hv4 with rfl|⟨rfl,hn0⟩)<;>refine Zc ?_)<;>(
 refine cX ?_ ?_<;>intro hb4
 · first|exact bN hb4|(
 refine Ze ?_;(refine xL 2 Za ?_<;>refine Zc ?_)
 have hl0:l=[]:=XR hn0;subst hl0;refine YG (KT 200 93 3 rfl) fun _=>?_;exact Kk 200 (results138) rfl rfl rfl)
 · first|exact bN hb4|(
 refine Ze ?_;(refine J0 5 ZU fun h5 ho5=>?_<;>refine xL 6 Zb ?_<;>refine W2 5 7 ZU (fun h7 ho7=>?_) f3 f4<;>refine xL 2 Za ?_<;>refine Zc ?_)
 refine Kk 7 (results138) rfl rfl ?_;rw [Xw,XW]))
theorem Zkn:AggT prog 93 3=true:=by kernel_rfl
theorem Zdw:ZnF prog 188 153 3:=fun enc hk h1 cf hO blk cap d w hcmp hH hblk hsz=>
 AnyQ.slices_SortFunc Tryz.sortMvL 3 (fun w=>AggT.run Zkn w) (fun w=>AggT.size Zkn w) enc hk h1 cf hO 153 #[] blk 0 cap d w (call153) hcmp hH hblk hsz
theorem Hb (p:Option Addr) (cap:Nat) (fv:Value) (w:World):Calls prog 188 #[.slice p 0 cap,fv] w fun e w'=>e= .returned (.tuple #[])∧w'=w:=(AnyF.slices_SortFunc_none Tryz.sortMvL p cap fv w).mono fun e w' ⟨h1,h2⟩=>⟨h1,h2⟩
theorem ζ8 (x y:Mv) (M:BS) (W:World) (u v:Value) (hu:Shr M W u (.agg (cMv x))) (hv:Shr M W v (.agg (cMv y))):Calls prog 153 #[u,v] W fun e w'=>e= .returned (.int .i64 (GY x y))∧∃q os',w'=Go.Sort.grow (W.drewN q) os':=(DY x y).exact2 hu hv
theorem C6 (l:List Mv) (hl:l.length≤1000000) (ha:AscM l) (hv:Value):AFh False prog 189 [(0,hv, .val hv)] [(1000,hv, .own 93 3 l.length (l.flatMap cMv))] (fun v q h=>v=hv∧q= .val hv∧h=[(1000,hv, .own 93 3 l.length (l.flatMap cMv))]):=by
 refine AFh.of_body 61 func189 rfl ntmps189 (Xa rfl) rfl ?_
 intro w0 M0 N0
 refine Ze ?_
 (refine xL 2 Za ?_<;>refine Zk ?_)
 (refine xL 6 Zb (xL 7 (YH 1000 ZL) (xL 8 ZQ ?_))<;>refine Zc ?_)
 refine cX ?_ ?_<;>intro hb8
 · first|exact bN hb8|(
 refine Ze ?_;(refine xL 9 Zb (xL 2 Za ?_)<;>refine Zc ?_)
 exact Em [(1000,hv,PV.own 93 3 l.length (l.flatMap cMv))] (results189) rfl ⟨rfl,trivial⟩ ⟨rfl,rfl,rfl⟩)
 · first | exact bN hb8|(
 refine Ze ?_;(refine xL 3 Za ?_<;>refine Zc ?_)
 refine ZE (ι:={k:Nat//1≤k∧k≤l.length}) (fun k=>⟨[(0,_,_),(3, .int .i64 k.1,pInt k.1)],[(1000,_,_)]⟩) (fun k=>l.length-k.1) ⟨1,Xh _,oM⟩ (fun a w H=>H.weaken ⟨rfl,rfl,trivial⟩ ⟨rfl,trivial⟩) ?_;rintro ⟨k1,hk1,hk⟩;dsimp only;obtain ⟨k,rfl⟩:∃k,k1=k+1:=⟨k1-1,oM⟩;refine Ze ?_;(refine xL 10 Zb (xL 11 Zb (xL 12 (YH 1000 ZL) (xL 13 ZQ ?_)))<;>refine Zc ?_)
 refine cX ?_ ?_<;>intro hb13
 · first|exact bN hb13|(
 obtain ⟨x,hx⟩:=Zw (show k+1<l.length by omega);obtain ⟨y,hy⟩:=Zw (show k<l.length by omega);have e1:=Yt Z5 l (k+1) x hx;have e2:=YV Z5 hx;(have e3:((l.flatMap cMv).drop ((((k+1:Nat):Int)-1).toNat*3)).take 3=cMv y:=by rw [show (((k+1:Nat):Int)-1).toNat*3=k*3 by omega];exact Yt Z5 l k y hy);have e4:=YV Z5 hy;have hne:=Zkm ha hy hx;refine nav ?_;(refine ZZ (fun i=>([]:List Nat).elem i) [1000] kR ?_<;>refine xD 0 16 rfl Zb ?_<;>refine xD 1 17 rfl Zb ?_<;>refine xD 2 18 rfl (Yg 1000 ZL) ?_<;>(refine yD 3 19 rfl (Zs 1000 Z3) fun v19 h=>?_;cases h)<;>refine xD 4 20 rfl Zb ?_<;>refine xE 5 21 rfl Zb ?_<;>refine xE 6 22 rfl KM ?_<;>refine xE 7 23 rfl (Kg 1000 ZL) ?_<;>(refine yE 8 24 rfl (Zs 1000 Z3) fun v24 h=>?_;cases h)<;>refine xE 9 25 rfl ((Zjn (us:=vMv x) (us':=vMv y) ZmB ZmC ZmD (RF x y) rfl rfl)) ?_<;>refine YC kR (nav ?_)<;>try dsimp only)
 refine cX ?_ ?_<;>intro hb25
 · rw [hne] at hb25;cases hb25
 · refine Ze ?_;(refine xL 14 Zb (xL 15 ZK (xL 3 Za ?_))<;>refine Zc ?_)
   refine Zn (
    ⟨k+1+1,oM,oM⟩
    ) (by dsimp only;omega) ⟨rfl,rfl,trivial⟩ ⟨rfl,trivial⟩)
 · first|exact bN hb13|(
 refine Ze ?_;(refine xL 60 Zb (xL 2 Za ?_)<;>refine Zc ?_)
 exact Em [(1000,hv,PV.own 93 3 l.length (l.flatMap cMv))] (results189) rfl ⟨rfl,trivial⟩ ⟨rfl,rfl,rfl⟩))
theorem Zh3 {l r:List Mv} (hp:r.Perm l) (hs:Cc r) (hn:l.Nodup):r=mkM l:=O6 (ZfD hs (hp.nodup_iff.2 hn)) fun x=>hp.mem_iff
theorem PD {l:List Mv} (hn:l.Nodup):(mkM l).length=l.length:=by
 refine Nat.le_antisymm (Gz l) ?_
 have : ∀{l:List Mv} {m:List Mv},l.Nodup→(∀x∈l,x∈m)→l.length≤m.length:=fun {l}=>by
  induction l with
  |nil=>intro m _ _;exact Xd _
  | cons x l ih=>
    intro m h hm;rw [Vf] at h;obtain ⟨a,b,rfl⟩:=List.append_of_mem (hm x (Xm ..));have:=ih (m:=a++b) h.2 fun y hy=>by
     rcases Xq.1 (hm y (Xo _ hy)) with h1|h1
     · exact X1 _ h1
     · rcases Xt.1 h1 with rfl|h1
       · exact UV hy h.1
       · exact X7 _ h1
    simp only [Xb,Xk] at this ⊢;omega
 exact this hn fun x hx=>Ke.2 hx
structure R5 (p0 p1 p2 p3 p4:PV):Prop where
 o:En.one p0=true∧En.one p1=true∧En.one p2=true∧En.one p3=true∧En.one p4=true
 s:[p0,p1,p2,p3,p4].all isSh=true
 d:shD (.agg [p0,p1,p2,p3,p4])=true
theorem R5.aut (A:Aut):R5 (pInt A.n) (pInt A.syms) (pInts A.start) (pInts A.fin) (pMvs A.moves):=⟨⟨rfl,rfl,rfl,rfl,rfl⟩,rfl,rfl⟩
theorem R5.raw:R5 (pInt 0) (pInt 0) (.val (.slice none 0 0)) (.val (.slice none 0 0)) (.val (.slice none 0 0)):=⟨⟨rfl,rfl,rfl,rfl,rfl⟩,rfl,rfl⟩
theorem R5.t {p0 p1 p2 p3 p4:PV} (h:R5 p0 p1 p2 p3 p4) (E:Int):shD (.tup [.agg [p0,p1,p2,p3,p4],pInt E])=true:=by
 show (shD (.agg [p0,p1,p2,p3,p4])&&(true&&true))=true
 rw [h.d];rfl
theorem Zbr (a:Aut) (hl:a.moves.length≤1000000) (hnd:a.moves.Nodup) (V hM:Value) (hMo:hM.oneCell'=true) {p0 p1 p2 p3 p4:PV} {E:Int} (h5:R5 p0 p1 p2 p3 p4) (hr:AF prog 132 [ZJ (mkA a)] (· = .tup [.agg [p0,p1,p2,p3,p4],pInt E])):AFh False prog 137 [(0,V, .agg [pInt a.n,pInt a.syms,pInts a.start,pInts a.fin, .val hM])] [(1000,hM, .own 93 3 a.moves.length (a.moves.flatMap cMv))] (fun v q h=>(∃V1:Value,v= .tuple [V1, .int .i64 E].toArray)∧q= .tup [.agg [p0,p1,p2,p3,p4],pInt E]∧h=[]):=by
 obtain ⟨o0,o1,o2,o3,o4⟩:=h5.o
 refine AFh.of_body 15 func137 rfl ntmps137 (Xa rfl) rfl ?_
 intro w0 M0 N0
 have hone:En.one (PV.val hM)=true:=hMo
 refine Ze ?_
 (refine ZB 1 5 fun h1=>?_<;>refine Zv [(.int .i64 0),(.int .i64 0),(.slice none 0 0),(.slice none 0 0),(.slice none 0 0)] 5 2 ZI fun h2=>?_<;>refine xL 3 Za ?_<;>refine Zk ?_)
 (refine xL 4 (Zd 1 Zx) ?_<;>(refine yL 5 (Zl 1 ZC) fun v5 h=>?_;cases h)<;>(rcases Vb a.moves.length with h0|h0<;>first|(refine Zu (ZF (l:=1000) (p':= .own 93 3 0 []) rfl (by rw [XR h0];rfl)) fun _=>?_;refine Zdt (l:=1000) Hb rfl rfl (Xa rfl) rfl (call188) rfl rfl rfl ?_;refine Zu (ZF (l:=1000) (p':= .own 93 3 (mkM a.moves).length ((mkM a.moves).flatMap cMv)) rfl (by rw [XR h0];rfl)) fun _=>?_)|(refine Zgj (l:=1000) (β:=Mv) (f:=cMv) (cmp:=GY) (rows:=a.moves) Zdw Z5 dC (fun _=>rfl) ζ7 Zdu Zdv (fun x y M W u v _ _ hu hv=>ζ8 x y M W u v hu hv) h0 oM rfl rfl (Xa rfl) rfl (call188) rfl rfl rfl (fun rows' hperm hord=>?_);refine Zu (ZF (l:=1000) (p':= .own 93 3 (mkM a.moves).length ((mkM a.moves).flatMap cMv)) rfl (by rw [Zh3 hperm hord hnd,PD hnd])) fun _=>?_))<;>refine Zc ?_)<;>(
 (refine Zt ?_<;>refine xL 7 (Zd 1 Zx) ?_<;>(refine yL 8 (Zl 1 ZC) fun v8 h=>?_;cases h)<;>(refine WY [(1000,hM,PV.own 93 3 (mkM a.moves).length ((mkM a.moves).flatMap cMv)),(1,_,_),(2,_,_)] ⟨rfl,rfl,rfl,trivial⟩ ?_;refine J3 [1,2] 9 (call189) (C6 (mkM a.moves) (by have:=Gz a.moves;omega) (Kl _) hM) ?_;rintro v9 _ _ ⟨hv9,rfl,rfl⟩;have hv9':=hv9.symm;subst hv9')<;>refine xL 10 (Zd 1 Zx) ?_<;>refine YQ 1 ZC YK ?_<;>refine Zc ?_)
 refine Zq (Z7 (l:=1) (l':=1000) (j:=4) rfl rfl rfl rfl) fun _=>?_;rw [W7 _ _ _ rfl];(refine Zt ?_<;>(refine yL 11 (Zs 1 Zf) fun v11 h=>?_;cases h)<;>(refine cP 12 (cA call132 hr) (fun va12 vb12 hva12 hvb12=>?_) (hsh:=h5.t E);cases hvb12)<;>refine xL 13 Zi (xL 14 Zi ?_)<;>refine Zz 2 Zf ?_<;>refine xL 3 Za ?_<;>refine Zc ?_)
 exact HR (k:=5) 2 [] kR (results137) rfl rfl rfl (Xa rfl) dC h5.s trivial fun V=>⟨⟨V,rfl⟩,rfl,rfl⟩)
theorem Zdx (a:Aut) (hl:a.moves.length≤1000000) (h:PreA a):AF prog 132 [ZJ (mkA a)] (· =resW (Jo a)):=
 ZfA (mkA a) (by have:=Gz a.moves;show (mkM a.moves).length≤1000000;omega) h.aok
theorem T' (a:Aut) (hl:a.moves.length≤1000000) (h:PreA a):∃p0 p1 p2 p3 p4 E,R5 p0 p1 p2 p3 p4∧resW (Jo a)= .tup [.agg [p0,p1,p2,p3,p4],pInt E]∧AF prog 132 [ZJ (mkA a)] (· = .tup [.agg [p0,p1,p2,p3,p4],pInt E]):=by
 have hr:=Zdx a hl h
 rcases Dc (Jo a) with ⟨A,_,h2⟩|⟨e,_,h2⟩
 · rw [h2] at hr ⊢;exact ⟨_,_,_,_,_,_,R5.aut A,rfl,hr⟩
 · rw [h2] at hr ⊢;exact ⟨_,_,_,_,_,_,R5.raw,rfl,hr⟩
theorem PE {α β:Type} {f:α→List β} {m:Nat} (hf:∀x,(f x).length=m):∀(L:List α) (k:Nat),(L.flatMap f).take (k*m)=(L.take k).flatMap f
 |[],k=>sM
 |x::L,0=>sM
 | x::L,k+1=>by
   rw [List.take_succ_cons,Xz,Xz,←PE hf L k,List.take_append,Xj (by rw [hf,Vt];omega),hf,show (k+1)*m-m=k*m by rw [Vt];omega]
theorem PF {α β:Type} {f:α→List β} {m:Nat} (hf:∀x,(f x).length=m):∀(L:List α) (k:Nat),(L.flatMap f).drop (k*m)=(L.drop k).flatMap f
 |[],k=>sM
 |x::L,0=>sM
 | x::L,k+1=>by
   rw [List.drop_succ_cons,Xz,←PF hf L k,List.drop_append,List.drop_of_length_le (by rw [hf,Vt];omega),hf,show (k+1)*m-m=k*m by rw [Vt];omega,XW]
theorem ZfE {l:List Mv} (h:AscM l):mkM l=l:=(O6 h fun _=>Iff.rfl).symm
theorem Zbs (l:List Mv) (m:Mv):R2 m (mkM l)=mkM (l++[m]):=O6 (SX (Kl l)) fun x=>by
 rw [TD,Ke,Xq,Xi]
 exact ⟨fun h=>h.symm,fun h=>h.symm⟩
theorem De:∀{l:List Mv},AscM l→WC Kj l=true
 |[],_=>rfl
 |[_],_=>rfl
 | x::y::l,h=>by
   have h':=XQ.1 h;rw [WC,Xf];exact ⟨h'.1 y (Xm ..),De h'.2⟩
theorem ζ9:∀{l:List Int},Srt l→WC ltI l=true
 |[],_=>rfl
 |[_],_=>rfl
 | x::y::l,h=>by
   have h':=XQ.1 h;rw [WC,Xf];exact ⟨by unfold ltI;simpa using h'.1 y (Xm ..),ζ9 h'.2⟩
theorem ZgC {a:Aut} {l:List Int} (h:InS a l) (hs:Srt l):LO a.n l=true:=by
 unfold LO
 rw [Xf,XA]
 refine ⟨fun x hx=>?_,ζ9 hs⟩
 have:=h x hx
 simp [this.1,this.2]
theorem Zpt {a:Aut} (h:PreA a) (hs:Srt a.start) (hf:Srt a.fin) (hn:¬2000<a.n) (hm:¬20000<(mkM a.moves).length):Z1 (mkA a)=true:=by
 have h1:=h.n0
 have h2:=h.s0
 have h3:=h.s1
 unfold Z1
 simp only [Xf,UQ]
 refine ⟨⟨⟨⟨⟨⟨⟨⟨h1,by show a.n≤2000;omega⟩,h2⟩,h3⟩,by show (mkM a.moves).length≤20000;omega⟩,ZgC h.st hs⟩,ZgC h.fi hf⟩,?_⟩,De (Kl _)⟩
 rw [XA]
 intro m hm'
 have hm':m∈mkM a.moves:=hm'
 have:=h.mv m (Ke.1 hm')
 unfold R1
 simp only [Xf,UQ]
 show ((((0≤m.src∧m.src<a.n)∧0≤m.dst)∧m.dst<a.n)∧-1≤m.sym)∧m.sym<a.syms
 omega
def G0 (b:Aut):Except Int Aut:=if 2000<b.n∨20000<b.moves.length then .error 13 else Ji b
theorem RG {a:Aut} (h:PreA a) (hs:Srt a.start) (hf:Srt a.fin):Jo a=G0 (mkA a):=by
 unfold Jo Hr G0 Ji
 show (if 2000<a.n∨20000<(mkM a.moves).length then _ else WV (mkA a))=(if 2000<a.n∨20000<(mkM a.moves).length then _ else _)
 by_cases hb:2000<a.n∨20000<(mkM a.moves).length
 · rw [UU hb,UU hb]
 · rw [UT hb,UT hb,UU (Zpt h hs hf (fun h=>hb (.inl h)) (fun h=>hb (.inr h)))]
section
variable {a b:Aut}
theorem Cd {n:Int} {l:List Int} (h:Srt l):Srt (Y5 n l):=V8.2 (h.imp fun h=>oM)
theorem ZgD {l m:List Int} (hl:InS a l) (hm:InS b m) (h1:Srt l) (h2:Srt m):Srt (l++Y5 a.n m):=
 Vk.2 ⟨h1,Cd h2,fun x hx y hy=>by
  obtain ⟨z,hz,rfl⟩:=Kr.1 hy;have:=hl x hx;have:=hm z hz;omega⟩
theorem Zko {n:Int} {l:List Mv} (h:AscM l):AscM (KS n l):=V8.2 (h.imp fun {x y} h=>by
 rw [WU] at h ⊢;dsimp only;omega)
theorem Zdy (ha:VOk a) (hb:VOk b):AscM (a.moves++KS a.n b.moves):=
 Vk.2 ⟨ha.ms,Zko hb.ms,fun x hx y hy=>by
  obtain ⟨z,hz,rfl⟩:=J5.1 hy;have:=ha.mv x hx;have:=hb.mv z hz;rw [WU];dsimp only;omega⟩
theorem ZfF (ha:VOk a) (hb:VOk b) (hs:a.syms=b.syms):Jo (Kh a b)=G0 (Kh a b):=by
 rw [RG (RA ha hb hs) (ZgD ha.st hb.st ha.ss hb.ss) (ZgD ha.fi hb.fi ha.fs hb.fs)]
 unfold mkA
 rw [show mkM (Kh a b).moves=(Kh a b).moves from ZfE (Zdy ha hb)]
theorem Zdz (ha:VOk a) (hb:VOk b) (hs:a.syms=b.syms):Jo (Ku a b)=G0 (mkA (Ku a b)):=RG (HZ ha hb hs) ha.ss (Cd hb.fs)
theorem Zh4 (ha:VOk a):Jo (K2 a)=G0 (mkA (K2 a)):=RG (Oo ha) (Vq ..) (Vq ..)
theorem Ov (a b:Aut):(Ku a b).moves.length=a.moves.length+b.moves.length+a.fin.length*b.start.length:=by
 show (a.moves++KS a.n b.moves++S3 a.n a.fin b.start).length=_
 rw [Xb,Xb,Lz,EZ]
theorem Zaa (ha:VOk a) (hb:VOk b) (h:2000<a.n+b.n∨20000<a.moves.length+b.moves.length+a.fin.length*b.start.length):G0 (mkA (Ku a b))= .error 13:=by
 unfold G0
 rw [UU]
 show 2000<a.n+b.n∨20000<(mkM (Ku a b).moves).length
 rw [PD (ζW ha hb),Ov];exact h
theorem Zkp (ha:VOk a):AscM (a.moves++a.start.map fun s=>(⟨a.n,s,-1⟩:Mv)):=
 Vk.2 ⟨ha.ms,V8.2 (ha.ss.imp fun {x y} h=>by rw [WU];dsimp only;omega),fun x hx y hy=>by
  obtain ⟨z,hz,rfl⟩:=Xl.1 hy;have:=ha.mv x hx;rw [WU];dsimp only;omega⟩
end
theorem ZmE {l:List Mv} {m:Mv} (h:AscM l) (hm:m∈l):R2 m l=l:=SV (SX h) h fun x=>by
 rw [TD]
 exact ⟨fun h=>by rcases h with rfl|h<;>assumption, .inr⟩
theorem ZgE {l:List Mv} {m:Mv} {i:Nat} (h:AscM l) (hi:i≤l.length) (h1:∀(j:Nat) (x:Mv),i≤j→l[j]? =some x→Kj m x=true) (h2:∀x,0<i→l[i-1]? =some x→Kj m x=false∧x≠m):
 R2 m l=l.take i++[m]++l.drop i:=by
 refine SV (SX h) ?_ fun x=>?_
 · have hlo:∀x∈l.take i,Kj x m=true:=fun x hx=>by
    obtain ⟨j,hj⟩:=XU hx;have hj':=(XK.1 hj).1;rw [Xn] at hj';rw [XZ oM] at hj;obtain ⟨y,hy⟩:∃y,l[i-1]? =some y:=⟨l[i-1],XY oM⟩;obtain ⟨h3,hym⟩:=h2 y oM hy;have h4:Kj y m=true:=by
     cases h5:Kj y m with
     |true=>rfl
     |false=>exact UV (Om h5 h3) hym
    by_cases hji:j=i-1
    · subst hji;rw [hj] at hy;cases hy;exact h4
    · refine T6 ?_ h4;obtain ⟨h6,h7⟩:=XK.1 hj;obtain ⟨h8,h9⟩:=XK.1 hy;rw [←h7,←h9];exact Ug.1 h j (i-1) h6 h8 oM
   have hhi:∀x∈l.drop i,Kj m x=true:=fun x hx=>by
    obtain ⟨j,hj⟩:=XU hx;rw [Vm] at hj;exact h1 (i+j) x oM hj
   have hta:AscM (l.take i):=h.sublist (List.take_sublist ..);have hdr:AscM (l.drop i):=h.sublist (List.drop_sublist ..);refine Vk.2 ⟨Vk.2 ⟨hta,Vq ..,fun x hx y hy=>by rw [Xi.1 hy];exact hlo x hx⟩,hdr,fun x hx y hy=>?_⟩;rcases Xq.1 hx with hx|hx
   · exact T6 (hlo x hx) (hhi y hy)
   · rw [Xi.1 hx];exact hhi y hy
 · rw [TD];constructor
   · rintro (rfl|h)
     · simp
     · rw [←VF i l] at h;rcases Xq.1 h with h|h
       · exact X1 _ (X1 _ h)
       · exact X7 _ h
   · intro h;rcases Xq.1 h with h|h
     · rcases Xq.1 h with h|h
       · exact .inr (VK h)
       · exact .inl (Xi.1 h)
     · exact .inr (List.mem_of_mem_drop h)
def shL (m:Int) (x:Mv):List Mv:=(List.range m.toNat).map fun j=>⟨x.src*m+(j:Nat),x.dst*m+(j:Nat),x.sym⟩
def shR (n m:Int) (x:Mv):List Mv:=(List.range n.toNat).map fun i=>⟨(i:Nat)*m+x.src,(i:Nat)*m+x.dst,x.sym⟩
def shI (m:Int) (l k:List Int):List Int:=l.flatMap fun i=>Y5 (i*m) k
def shM (n m:Int) (l k:List Mv):List Mv:=l.flatMap (shL m)++k.flatMap (shR n m)
def Wr (a b:Aut):Aut:=⟨a.n*b.n,a.syms,shI b.n a.start b.start,shI b.n a.fin b.fin,shM a.n b.n a.moves b.moves⟩
def LF (a b:Aut):Except Int Aut:=if ¬Wt a b=0 then .error (Wt a b) else if 2000<a.n*b.n∨40000<(a.moves.length:Int)*b.n+(b.moves.length:Int)*a.n then .error 13 else Jo (Wr a b)
theorem Ce {m i j i' j':Int} (h:i<i') (h0:0≤j) (h1:j<m) (h2:0≤j'):i*m+j<i'*m+j':=by
 have h3:(i+1)*m≤i'*m:=Int.mul_le_mul_of_nonneg_right oM oM
 rw [Int.add_mul,Int.one_mul] at h3
 omega
theorem GA {m i j i' j':Int} (h:i*m+j=i'*m+j') (h1:0≤j∧j<m) (h2:0≤j'∧j'<m):i=i'∧j=j':=by
 have h3:i=i':=by
  rcases Int.lt_trichotomy i i' with h3|h3|h3
  · have:=Ce h3 h1.1 h1.2 h2.1;omega
  · exact h3
  · have:=Ce h3 h2.1 h2.2 h1.1;omega
 subst h3
 exact ⟨rfl,oM⟩
theorem Cf {n m i j:Int} (hi:0≤i∧i<n) (hj:0≤j∧j<m):0≤i*m+j∧i*m+j<n*m:=by
 have h3:(i+1)*m≤n*m:=Int.mul_le_mul_of_nonneg_right oM oM
 have h4:0≤i*m:=Int.mul_nonneg hi.1 oM
 rw [Int.add_mul,Int.one_mul] at h3
 omega
theorem Sa {m x:Int} {l k:List Int}:x∈shI m l k↔∃i∈l,∃j∈k,i*m+j=x:=by
 unfold shI
 simp only [XP,Kr]
 constructor
 · rintro ⟨i,h1,j,h2,h3⟩;exact ⟨i,h1,j,h2,oM⟩
 · rintro ⟨i,h1,j,h2,h3⟩;exact ⟨i,h1,j,h2,oM⟩
theorem Zbt {m:Int} {x y:Mv}:y∈shL m x↔∃j:Nat,(j:Int)<m∧(⟨x.src*m+(j:Nat),x.dst*m+(j:Nat),x.sym⟩:Mv)=y:=by
 unfold shL
 rw [Xl]
 constructor
 · rintro ⟨j,h1,h2⟩;rw [XT] at h1;exact ⟨j,oM,h2⟩
 · rintro ⟨j,h1,h2⟩;exact ⟨j,by rw [XT];omega,h2⟩
theorem Zbu {n m:Int} {x y:Mv}:y∈shR n m x↔∃i:Nat,(i:Int)<n∧(⟨(i:Nat)*m+x.src,(i:Nat)*m+x.dst,x.sym⟩:Mv)=y:=by
 unfold shR
 rw [Xl]
 constructor
 · rintro ⟨j,h1,h2⟩;rw [XT] at h1;exact ⟨j,oM,h2⟩
 · rintro ⟨j,h1,h2⟩;exact ⟨j,by rw [XT];omega,h2⟩
theorem Ow {m:Int} {l k:List Int} (hk:∀j∈k,0≤j∧j<m) (h1:Srt l) (h2:Srt k):Srt (shI m l k):=by
 induction l with
 |nil=>exact .nil
 | cons i l ih=>
   have h:=XQ.1 h1;show Srt (Y5 (i*m) k++shI m l k);refine Vk.2 ⟨Cd h2,ih h.2,fun x hx y hy=>?_⟩;obtain ⟨j,hj,rfl⟩:=Kr.1 hx;obtain ⟨i',hi',j',hj',rfl⟩:=Sa.1 hy;have:=Ce (h.1 i' hi') (hk j hj).1 (hk j hj).2 (hk j' hj').1;omega
section
variable {a b:Aut}
theorem L9 {x:Mv}:x∈shM a.n b.n a.moves b.moves↔(∃y∈a.moves,∃j:Nat,(j:Int)<b.n∧(⟨y.src*b.n+(j:Nat),y.dst*b.n+(j:Nat),y.sym⟩:Mv)=x)∨∃y∈b.moves,∃i:Nat,(i:Int)<a.n∧(⟨(i:Nat)*b.n+y.src,(i:Nat)*b.n+y.dst,y.sym⟩:Mv)=x:=by
 unfold shM
 simp only [Xq,XP,Zbt,Zbu]
theorem Ox (ha:VOk a) (hb:VOk b) (hs:a.syms=b.syms):PreA (Wr a b):=by
 have h1:=ha.n0
 have h2:=hb.n0
 have hI:∀{l k:List Int},InS a l→InS b k→∀x∈shI b.n l k,0≤x∧x<a.n*b.n:=fun hl hk x hx=>by
  obtain ⟨i,hi,j,hj,rfl⟩:=Sa.1 hx;exact Cf (hl i hi) (hk j hj)
 refine ⟨Int.mul_nonneg h1 h2,ha.s0,ha.s1,hI ha.st hb.st,hI ha.fi hb.fi,W6 (Ow hb.st ha.ss hb.ss),W6 (Ow hb.fi ha.fs hb.fs),fun x hx=>?_⟩
 rcases L9.1 hx with ⟨y,hy,j,hj,rfl⟩|⟨y,hy,i,hi,rfl⟩
 · have h3:=ha.mv y hy;have h4:=Cf (m:=b.n) (n:=a.n) (i:=y.src) (j:=j) ⟨h3.1,h3.2.1⟩ ⟨oM,hj⟩;have h5:=Cf (m:=b.n) (n:=a.n) (i:=y.dst) (j:=j) ⟨h3.2.2.1,h3.2.2.2.1⟩ ⟨oM,hj⟩;exact ⟨h4.1,h4.2,h5.1,h5.2,h3.2.2.2.2⟩
 · have h3:=hb.mv y hy;have h4:=Cf (m:=b.n) (n:=a.n) (i:=i) (j:=y.src) ⟨oM,hi⟩ ⟨h3.1,h3.2.1⟩;have h5:=Cf (m:=b.n) (n:=a.n) (i:=i) (j:=y.dst) ⟨oM,hi⟩ ⟨h3.2.2.1,h3.2.2.2.1⟩;exact ⟨h4.1,h4.2,h5.1,h5.2,h3.2.2.2.2.1,by have:=h3.2.2.2.2.2;show y.sym<a.syms;omega⟩
theorem H3 (m:Int) (x:Mv):(shL m x).length=m.toNat:=by unfold shL;simp
theorem Zbv (n m:Int) (x:Mv):(shR n m x).length=n.toNat:=by unfold shR;simp
theorem flat_len {α β:Type} {f:α→List β} {n:Nat} (h:∀x,(f x).length=n):∀l:List α,(l.flatMap f).length=l.length*n
 |[]=>sM
 |x::l=>by rw [Xz,Xb,h,flat_len h l,Xk,X6,Ud]
theorem Cg {α β:Type} {f:α→List β} {l:List α} (hl:l.Nodup) (hf:∀x∈l,(f x).Nodup) (hd:∀x∈l,∀y∈l,∀z,z∈f x→z∈f y→x=y):(l.flatMap f).Nodup:=by
 induction l with
 |nil=>exact Vc
 | cons x l ih=>
   rw [Vf] at hl;rw [Xz];refine TE (hf x (Xm ..)) (ih hl.2 (fun y hy=>hf y (Xo _ hy)) fun y hy z hz=>hd y (Xo _ hy) z (Xo _ hz)) fun z hz hz'=>?_;obtain ⟨y,hy,hyz⟩:=XP.1 hz';have:=hd x (Xm ..) y (Xo _ hy) z hz hyz;rw [this] at hl;exact hl.1 hy
theorem ZdA {l m:List Mv} (h:l.Nodup) (hm:∀x∈l,x∈m):l.length≤m.length:=by
 have h1:(mkM l).length≤m.length:=Zgu (Kl l) fun x hx=>hm x (Ke.1 hx)
 rw [PD h] at h1;exact h1
theorem Zab {β:Type} {n:Nat} {f:Nat→β} (h:∀i j,f i=f j→i=j):((List.range n).map f).Nodup:=Gi List.nodup_range fun x _ y _ e=>h x y e
theorem Zh5 (ha:VOk a) (hb:VOk b) (h:40000<(a.moves.length:Int)*b.n+(b.moves.length:Int)*a.n):20000<(mkM (Wr a b).moves).length:=by
 have h1:=ha.n0
 have h2:=hb.n0
 have hL:(a.moves.flatMap (shL b.n)).Nodup:=Cg (Lw ha.ms) (fun x _=>Zab fun i j e=>by have:=(Mv.mk.inj e).1;omega) fun x hx y hy z hz hz'=>by
  obtain ⟨j,hj,e⟩:=Zbt.1 hz;obtain ⟨j',hj',e'⟩:=Zbt.1 hz';have e2:=Mv.mk.inj (e.trans e'.symm);have h3:=(GA e2.1 ⟨oM,hj⟩ ⟨oM,hj'⟩).1;have h4:=(GA e2.2.1 ⟨oM,hj⟩ ⟨oM,hj'⟩).1
  cases x;cases y;simp only [Mv.mk.injEq] at h3 h4 e2 ⊢;exact ⟨h3,h4,e2.2.2⟩
 have hR:(b.moves.flatMap (shR a.n b.n)).Nodup:=Cg (Lw hb.ms) (fun x hx=>Zab fun i j e=>by
  have h3:=hb.mv x hx;have h4:=(GA (Mv.mk.inj e).1 ⟨h3.1,h3.2.1⟩ ⟨h3.1,h3.2.1⟩).1;omega) fun x hx y hy z hz hz'=>by
  obtain ⟨j,hj,e⟩:=Zbu.1 hz;obtain ⟨j',hj',e'⟩:=Zbu.1 hz';have h5:=hb.mv x hx;have h6:=hb.mv y hy;have e2:=Mv.mk.inj (e.trans e'.symm);have h3:=(GA e2.1 ⟨h5.1,h5.2.1⟩ ⟨h6.1,h6.2.1⟩).2;have h4:=(GA e2.2.1 ⟨h5.2.2.1,h5.2.2.2.1⟩ ⟨h6.2.2.1,h6.2.2.2.1⟩).2
  cases x;cases y;simp only [Mv.mk.injEq] at h3 h4 e2 ⊢;exact ⟨h3,h4,e2.2.2⟩
 have l1:=ZdA hL (m:=mkM (Wr a b).moves) fun x hx=>Ke.2 (X1 _ hx)
 have l2:=ZdA hR (m:=mkM (Wr a b).moves) fun x hx=>Ke.2 (X7 _ hx)
 rw [flat_len (H3 b.n)] at l1
 rw [flat_len (Zbv a.n b.n)] at l2
 have e1:((a.moves.length*b.n.toNat:Nat):Int)=a.moves.length*b.n:=by rw [Vr,X4 h2]
 have e2:((b.moves.length*a.n.toNat:Nat):Int)=b.moves.length*a.n:=by rw [Vr,X4 h1]
 omega
theorem Zh6 (ha:VOk a) (hb:VOk b) (hs:a.syms=b.syms) (hf:Wt a b=0):LF a b=if 2000<a.n*b.n then .error 13 else G0 (mkA (Wr a b)):=by
 unfold LF
 rw [UT (fun h=>h hf),←RG (Ox ha hb hs) (Ow hb.st ha.ss hb.ss) (Ow hb.fi ha.fs hb.fs)]
 by_cases h1:2000<a.n*b.n
 · rw [UU (.inl h1),UU h1]
 · rw [UT h1];by_cases h2:40000<(a.moves.length:Int)*b.n+(b.moves.length:Int)*a.n
   · rw [UU (.inr h2)];unfold Jo Hr;rw [UU (.inr (Zh5 ha hb h2))]
   · rw [UT (fun h=>h.elim h1 h2)]
def apA (m:Int) (i j:Nat) (l:List Mv):List Mv:=(l.filter fun x=>decide (x.src=(i:Int))).map fun x=>⟨(i:Nat)*m+(j:Nat),x.dst*m+(j:Nat),x.sym⟩
def apB (m:Int) (i j:Nat) (l:List Mv):List Mv:=(l.filter fun x=>decide (x.src=(j:Int))).map fun x=>⟨(i:Nat)*m+(j:Nat),(i:Nat)*m+x.dst,x.sym⟩
def Hu (a b:Aut) (i j:Nat):List Mv:=mkM (apA b.n i j a.moves++apB b.n i j b.moves)
def LG (a b:Aut) (i J:Nat):List Mv:=(List.range J).flatMap (Hu a b i)
def Gp (a b:Aut) (I:Nat):List Mv:=(List.range I).flatMap fun i=>LG a b i b.n.toNat
def LH (m:Int) (l k:List Int) (i j:Nat):List Int:=if LP l (i:Nat)&&LP k (j:Nat) then [(i:Nat)*m+(j:Nat)] else []
def Jp (m:Int) (l k:List Int) (i J:Nat):List Int:=(List.range J).flatMap (LH m l k i)
def KL (m:Int) (l k:List Int) (I:Nat):List Int:=(List.range I).flatMap fun i=>Jp m l k i m.toNat
theorem flat_snoc {β:Type} (f:Nat→List β) (n:Nat):(List.range (n+1)).flatMap f=(List.range n).flatMap f++f n:=by rw [Vz,XM,VS]
theorem ZdB {i j:Nat} {x:Mv}:x∈Hu a b i j↔(∃y∈a.moves,y.src=(i:Nat)∧(⟨(i:Nat)*b.n+(j:Nat),y.dst*b.n+(j:Nat),y.sym⟩:Mv)=x)∨∃y∈b.moves,y.src=(j:Nat)∧(⟨(i:Nat)*b.n+(j:Nat),(i:Nat)*b.n+y.dst,y.sym⟩:Mv)=x:=by
 unfold Hu apA apB
 simp only [Ke,Xq,Xl,X0,UQ,and_assoc]
theorem Zbw {i j:Nat} {x:Mv} (h:x∈Hu a b i j):x.src=(i:Nat)*b.n+(j:Nat):=by
 rcases ZdB.1 h with ⟨y,_,_,rfl⟩|⟨y,_,_,rfl⟩<;>rfl
theorem ZdC {f:Nat→List Mv} {n:Nat} (h1:∀i,i<n→AscM (f i)) (h2:∀i j x y,i<j→j<n→x∈f i→y∈f j→Kj x y=true):AscM ((List.range n).flatMap f):=by
 induction n with
 |zero=>exact .nil
 | succ n ih=>
   rw [flat_snoc];refine Vk.2 ⟨ih (fun i hi=>h1 i oM) fun i j x y hij hj=>h2 i j x y hij oM,h1 n oM,fun x hx y hy=>?_⟩;obtain ⟨i,hi,hx⟩:=XP.1 hx;rw [XT] at hi;exact h2 i n x y hi oM hx hy
theorem ZgF {i J:Nat} {x:Mv} (h:x∈LG a b i J):∃j,j<J∧x.src=(i:Nat)*b.n+(j:Nat):=by
 obtain ⟨j,hj,hx⟩:=XP.1 h
 rw [XT] at hj
 exact ⟨j,hj,Zbw hx⟩
theorem Zkq (I:Nat):AscM (Gp a b I):=by
 refine ZdC (fun i _=>ZdC (fun j _=>Kl _) fun j j' x y hj hj' hx hy=>?_) fun i i' x y hi hi' hx hy=>?_
 · rw [WU,Zbw hx,Zbw hy];omega
 · obtain ⟨j,hj,e⟩:=ZgF hx;obtain ⟨j',hj',e'⟩:=ZgF hy;rw [WU,e,e'];exact .inl (Ce oM oM oM oM)
theorem ZmF (ha:VOk a) (hb:VOk b):Gp a b a.n.toNat=mkM (Wr a b).moves:=by
 refine O6 (Zkq _) fun x=>?_
 show _↔x∈shM a.n b.n a.moves b.moves
 rw [L9]
 unfold Gp LG
 simp only [XP,XT,ZdB]
 constructor
 · rintro ⟨i,hi,j,hj,⟨y,hy,hs,rfl⟩|⟨y,hy,hs,rfl⟩⟩
   · exact .inl ⟨y,hy,j,oM,by rw [hs]⟩
   · exact .inr ⟨y,hy,i,oM,by rw [hs]⟩
 · rintro (⟨y,hy,j,hj,rfl⟩|⟨y,hy,i,hi,rfl⟩)
   · have h3:=ha.mv y hy;have e:((y.src.toNat:Nat):Int)=y.src:=X4 h3.1;exact ⟨y.src.toNat,oM,j,oM, .inl ⟨y,hy,e.symm,by rw [e]⟩⟩
   · have h3:=hb.mv y hy;have e:((y.src.toNat:Nat):Int)=y.src:=X4 h3.1;exact ⟨i,oM,y.src.toNat,oM, .inr ⟨y,hy,e.symm,by rw [e]⟩⟩
theorem TG {m:Int} {l k:List Int} {i j:Nat} {x:Int}:x∈LH m l k i j↔(i:Int)∈l∧(j:Int)∈k∧(i:Nat)*m+(j:Nat)=x:=by
 unfold LH
 split
 · rename_i h;rw [Xf,Jm,Jm] at h;rw [Xi];exact ⟨fun e=>⟨h.1,h.2,e.symm⟩,fun e=>e.2.2.symm⟩
 · rename_i h;rw [Xf,Jm,Jm] at h;exact ⟨fun e=>(by cases e),fun e=>UV ⟨e.1,e.2.1⟩ h⟩
theorem ZdD {f:Nat→List Int} {n:Nat} (h1:∀i,i<n→Srt (f i)) (h2:∀i j x y,i<j→j<n→x∈f i→y∈f j→x<y):Srt ((List.range n).flatMap f):=by
 induction n with
 |zero=>exact .nil
 | succ n ih=>
   rw [flat_snoc];refine Vk.2 ⟨ih (fun i hi=>h1 i oM) fun i j x y hij hj=>h2 i j x y hij oM,h1 n oM,fun x hx y hy=>?_⟩;obtain ⟨i,hi,hx⟩:=XP.1 hx;rw [XT] at hi;exact h2 i n x y hi oM hx hy
theorem ZgG {n m:Int} {l k:List Int} (hl:∀i∈l,0≤i∧i<n) (hk:∀j∈k,0≤j∧j<m) (h1:Srt l) (h2:Srt k):KL m l k n.toNat=shI m l k:=by
 refine Rw (ZdD (fun i _=>ZdD (fun j _=>?_) fun j j' x y hj hj' hx hy=>?_) fun i i' x y hi hi' hx hy=>?_) (Ow hk h1 h2) fun x=>?_
 · unfold LH;split
   · exact Vq ..
   · exact .nil
 · obtain ⟨_,_,rfl⟩:=TG.1 hx;obtain ⟨_,_,rfl⟩:=TG.1 hy;omega
 · obtain ⟨j,hj,hx⟩:=XP.1 hx;obtain ⟨j',hj',hy⟩:=XP.1 hy;rw [XT] at hj hj';obtain ⟨_,_,rfl⟩:=TG.1 hx;obtain ⟨_,_,rfl⟩:=TG.1 hy;exact Ce oM oM oM oM
 · rw [Sa];unfold KL Jp;simp only [XP,XT,TG];constructor
   · rintro ⟨i,hi,j,hj,h3,h4,rfl⟩;exact ⟨_,h3,_,h4,rfl⟩
   · rintro ⟨i,hi,j,hj,rfl⟩;have h3:=hl i hi;have h4:=hk j hj;have e1:((i.toNat:Nat):Int)=i:=X4 h3.1;have e2:((j.toNat:Nat):Int)=j:=X4 h4.1;exact ⟨i.toNat,oM,j.toNat,oM,by rw [e1];exact hi,by rw [e2];exact hj,by rw [e1,e2]⟩
theorem ZmG {m:Int} {i j:Nat} {l:List Mv} {k:Nat} {x:Mv} (h:l[k]? =some x) (hs:x.src=(i:Nat)):apA m i j (l.take (k+1))=apA m i j (l.take k)++[⟨(i:Nat)*m+(j:Nat),x.dst*m+(j:Nat),x.sym⟩]:=by
 unfold apA
 rw [ZR h,XV,Xs,UM (by simpa using hs)];rfl
theorem Zoy {m:Int} {i j:Nat} {l:List Mv} {k:Nat} {x:Mv} (h:l[k]? =some x) (hs:¬x.src=(i:Nat)):apA m i j (l.take (k+1))=apA m i j (l.take k):=by
 unfold apA
 rw [ZR h,XV,UL (by simpa using hs)];simp
theorem ZmH {m:Int} {i j:Nat} {l:List Mv} {k:Nat} {x:Mv} (h:l[k]? =some x) (hs:x.src=(j:Nat)):apB m i j (l.take (k+1))=apB m i j (l.take k)++[⟨(i:Nat)*m+(j:Nat),(i:Nat)*m+x.dst,x.sym⟩]:=by
 unfold apB
 rw [ZR h,XV,Xs,UM (by simpa using hs)];rfl
theorem Zoz {m:Int} {i j:Nat} {l:List Mv} {k:Nat} {x:Mv} (h:l[k]? =some x) (hs:¬x.src=(j:Nat)):apB m i j (l.take (k+1))=apB m i j (l.take k):=by
 unfold apB
 rw [ZR h,XV,UL (by simpa using hs)];simp
theorem Zkr {I:Nat} {J:Nat} (hI:I<a.n.toNat) (hJ:J≤b.n.toNat):(Gp a b I++LG a b I J).length≤(Gp a b a.n.toNat).length:=by
 have h1:∀(f:Nat→List Mv) {p q:Nat},p≤q→((List.range p).flatMap f).length≤((List.range q).flatMap f).length:=fun f p q h=>by
  induction q with
  |zero=>rw [Nat.le_zero.1 h];exact Xh _
  | succ q ih=>
    rcases XD q p with h2|h2
    · rw [show p=q+1 by omega];exact Xh _
    · rw [flat_snoc,Xb];have:=ih h2;omega
 have h2:=h1 (Hu a b I) hJ
 have h3:=h1 (fun i=>LG a b i b.n.toNat) (show I+1≤a.n.toNat from hI)
 rw [flat_snoc,Xb] at h3
 rw [Xb]
 unfold Gp LG at*
 omega
end
section
variable {a b:Aut}
theorem Ch {X a:Aut} {n:Int} (hX:∀(s:Int) (m:Mv),0≤s∧s<a.n→m∈X.moves→m.src=s+n→∃m'∈a.moves,m'.src=s∧m.dst=m'.dst+n∧m.sym=m'.sym) (ha:∀m∈a.moves,0≤m.dst∧m.dst<a.n) {s y:Int} {w:List Int} (hs:0≤s∧s<a.n) (h:Pth X (s+n) w y):∃t,y=t+n∧(0≤t∧t<a.n)∧Pth a s w t:=by
 generalize e:s+n=x at h
 induction h generalizing s with
 |nil x=>exact ⟨s,e.symm,hs, .nil s⟩
 | eps hm h1 _ ih=>
   obtain ⟨m',h2,h3,h4,h5⟩:=hX s _ hs hm e.symm;obtain ⟨t,h6,h7,h8⟩:=ih (ha m' h2) h4.symm;exact ⟨t,h6,h7,h3▸Pth.eps h2 (by rw [←h5];exact h1) h8⟩
 | sym hm h1 _ ih=>
   obtain ⟨m',h2,h3,h4,h5⟩:=hX s _ hs hm e.symm;obtain ⟨t,h6,h7,h8⟩:=ih (ha m' h2) h4.symm;refine ⟨t,h6,h7,?_⟩;rw [h5];exact h3▸Pth.sym h2 (by rw [←h5];exact h1) h8
theorem Ci {X a:Aut} {n:Int} (hX:∀m∈a.moves,(⟨m.src+n,m.dst+n,m.sym⟩:Mv)∈X.moves) {s t:Int} {w:List Int} (h:Pth a s w t):Pth X (s+n) w (t+n):=by
 induction h with
 |nil x=>exact .nil _
 |eps hm h1 _ ih=>exact .eps (hX _ hm) h1 ih
 |sym hm h1 _ ih=>exact .sym (hX _ hm) h1 ih
theorem Zac (ha:VOk a) {x:Int} {m:Mv} {l:List Mv} (hl:∀m∈l,m.src<a.n) (hx:0≤x) (hm:m∈a.moves++KS a.n b.moves++l) (hs:m.src=x+a.n):∃m'∈b.moves,m'.src=x∧m.dst=m'.dst+a.n∧m.sym=m'.sym:=by
 rcases Xq.1 hm with hm|hm
 · rcases Xq.1 hm with hm|hm
   · have:=ha.mv m hm;omega
   · obtain ⟨y,hy,rfl⟩:=J5.1 hm;exact ⟨y,hy,by dsimp only at hs;omega,rfl,rfl⟩
 · have:=hl m hm;omega
theorem Zh7 (ha:VOk a) (hb:VOk b) {w:List Int}:Lng (Kh a b) w↔Lng a w∨Lng b w:=by
 have hmL:∀(s:Int) (m:Mv),0≤s∧s<a.n→m∈(Kh a b).moves→m.src=s+0→∃m'∈a.moves,m'.src=s∧m.dst=m'.dst+0∧m.sym=m'.sym:=fun s m hs hm e=>by
  rcases Xq.1 (show m∈a.moves++KS a.n b.moves from hm) with hm|hm
  · exact ⟨m,hm,oM,oM,rfl⟩
  · obtain ⟨y,hy,rfl⟩:=J5.1 hm;have:=hb.mv y hy;dsimp only at e;omega
 have hmR:∀(s:Int) (m:Mv),0≤s∧s<b.n→m∈(Kh a b).moves→m.src=s+a.n→∃m'∈b.moves,m'.src=s∧m.dst=m'.dst+a.n∧m.sym=m'.sym:=fun s m hs hm e=>Zac (l:=[]) ha (fun m hm=>by cases hm) hs.1 (by rw [Xr];exact hm) e
 have hinA:∀m∈a.moves,(⟨m.src+0,m.dst+0,m.sym⟩:Mv)∈(Kh a b).moves:=fun m hm=>by
  rw [Uh,Uh];exact X1 _ hm
 have hinB:∀m∈b.moves,(⟨m.src+a.n,m.dst+a.n,m.sym⟩:Mv)∈(Kh a b).moves:=fun m hm=>X7 _ (J5.2 ⟨m,hm,rfl⟩)
 have hda:∀m∈a.moves,0≤m.dst∧m.dst<a.n:=fun m hm=>by have:=ha.mv m hm;omega
 have hdb:∀m∈b.moves,0≤m.dst∧m.dst<b.n:=fun m hm=>by have:=hb.mv m hm;omega
 constructor
 · rintro ⟨s,hs,f,hf,h⟩;rcases Xq.1 (show s∈a.start++Y5 a.n b.start from hs) with hs|hs
   · obtain ⟨t,e,h1,h2⟩:=Ch (n:=0) hmL hda (ha.st s hs) (by rw [Uh];exact h);rw [Uh] at e;subst e;rcases Xq.1 (show f∈a.fin++Y5 a.n b.fin from hf) with hf|hf
     · exact .inl ⟨s,hs,f,hf,h2⟩
     · obtain ⟨y,hy,rfl⟩:=Kr.1 hf;have:=hb.fi y hy;omega
   · obtain ⟨y,hy,rfl⟩:=Kr.1 hs;obtain ⟨t,rfl,h1,h2⟩:=Ch hmR hdb (hb.st y hy) h;rcases Xq.1 (show t+a.n∈a.fin++Y5 a.n b.fin from hf) with hf|hf
     · have:=ha.fi _ hf;omega
     · obtain ⟨z,hz,e⟩:=Kr.1 hf;have:z=t:=oM;subst this;exact .inr ⟨y,hy,z,hz,h2⟩
 · rintro (⟨s,hs,f,hf,h⟩|⟨s,hs,f,hf,h⟩)
   · have:=Ci (n:=0) hinA h;rw [Uh,Uh] at this;exact ⟨s,X1 _ hs,f,X1 _ hf,this⟩
   · exact ⟨s+a.n,X7 _ (Kr.2 ⟨s,hs,rfl⟩),f+a.n,X7 _ (Kr.2 ⟨f,hf,rfl⟩),Ci hinB h⟩
theorem Zks {m:Mv} (ha:VOk a) (hb:VOk b) (hm:m∈(Ku a b).moves) (hs:m.src<a.n):m∈a.moves∨∃f∈a.fin,∃s∈b.start,(⟨f,s+a.n,-1⟩:Mv)=m:=by
 rcases Xq.1 (show m∈a.moves++KS a.n b.moves++S3 a.n a.fin b.start from hm) with hm|hm
 · rcases Xq.1 hm with hm|hm
   · exact .inl hm
   · obtain ⟨y,hy,rfl⟩:=J5.1 hm;have:=hb.mv y hy;dsimp only at hs;omega
 · exact .inr (TF.1 hm)
theorem Zh8 (ha:VOk a) (hb:VOk b) {s y:Int} {w:List Int} (hs:0≤s∧s<b.n) (h:Pth (Ku a b) (s+a.n) w y):∃t,y=t+a.n∧Pth b s w t:=by
 obtain ⟨t,h1,_,h2⟩:=Ch (X:=Ku a b) (a:=b) (n:=a.n) (fun s m hs hm e=>Zac (l:=S3 a.n a.fin b.start) ha (fun m hm=>by
  obtain ⟨f,hf,s,_,rfl⟩:=TF.1 hm;exact (ha.fi f hf).2) hs.1 hm e) (fun m hm=>by have:=hb.mv m hm;omega) hs h
 exact ⟨t,h1,h2⟩
theorem Zkt (ha:VOk a) (hb:VOk b) {s y:Int} {w:List Int} (hs:s<a.n) (hy:a.n≤y) (h:Pth (Ku a b) s w y):∃u v f s',w=u++v∧Pth a s u f∧f∈a.fin∧s'∈b.start∧Pth (Ku a b) (s'+a.n) v y:=by
 induction h with
 |nil x=>omega
 | eps hm h1 h ih=>
   rcases Zks ha hb hm hs with h2|⟨f,hf,s',hs',rfl⟩
   · obtain ⟨u,v,f,s',e,h3,h4⟩:=ih (by have:=ha.mv _ h2;omega) hy;exact ⟨u,v,f,s',e, .eps h2 h1 h3,h4⟩
   · exact ⟨[],_,f,s',rfl, .nil _,hf,hs',h⟩
 | sym hm h1 h ih=>
   rcases Zks ha hb hm hs with h2|⟨f,hf,s',hs',rfl⟩
   · obtain ⟨u,v,f,s',e,h3,h4⟩:=ih (by have:=ha.mv _ h2;omega) hy;exact ⟨_::u,v,f,s',by rw [e];rfl, .sym h2 h1 h3,h4⟩
   · exact UV rfl h1
theorem ZmI (ha:VOk a) (hb:VOk b) {w:List Int}:Lng (Ku a b) w↔∃u v,w=u++v∧Lng a u∧Lng b v:=by
 constructor
 · rintro ⟨s,hs,f,hf,h⟩;obtain ⟨y,hy,rfl⟩:=Kr.1 (show f∈Y5 a.n b.fin from hf);have hyb:=hb.fi y hy;obtain ⟨u,v,f,s',e,h1,h2,h3,h4⟩:=Zkt ha hb (ha.st s hs).2 oM h;obtain ⟨t,e2,h5⟩:=Zh8 ha hb (hb.st s' h3) h4;have:t=y:=oM;subst this;exact ⟨u,v,e,⟨s,hs,f,h2,h1⟩,⟨s',h3,t,hy,h5⟩⟩
 · rintro ⟨u,v,rfl,⟨s,hs,f,hf,h⟩,⟨s',hs',f',hf',h'⟩⟩;refine ⟨s,hs,f'+a.n,Kr.2 ⟨f',hf',rfl⟩,?_⟩;have h1:Pth (Ku a b) s u f:=h.mono fun m hm=>X1 _ (X1 _ hm);have h2:Pth (Ku a b) (s'+a.n) v (f'+a.n):=Ci (fun m hm=>X1 _ (X7 _ (J5.2 ⟨m,hm,rfl⟩))) h';have h3:Pth (Ku a b) f v (f'+a.n):=Pth.eps (m:=⟨f,s'+a.n,-1⟩) (X7 _ (TF.2 ⟨f,hf,s',hs',rfl⟩)) rfl h2;exact h1.app h3
inductive Star (L:List Int→Prop):List Int→Prop
 |nil:Star L []
 |app {u v:List Int} (h:L u) (h':Star L v):Star L (u++v)
theorem TH {m:Mv}:m∈(K2 a).moves↔m∈a.moves∨(∃s∈a.start,(⟨a.n,s,-1⟩:Mv)=m)∨∃s∈a.fin,(⟨s,a.n,-1⟩:Mv)=m:=by
 show m∈a.moves++(a.start.map fun s=>(⟨a.n,s,-1⟩:Mv))++a.fin.map (fun s=>(⟨s,a.n,-1⟩:Mv))↔_
 simp only [Xq,Xl,or_assoc]
theorem Zku (ha:VOk a) {x y:Int} {w:List Int} (h:Pth (K2 a) x w y) (hy:y=a.n):(x=a.n→Star (Lng a) w)∧(x<a.n→∃u v f,w=u++v∧f∈a.fin∧Pth a x u f∧Star (Lng a) v):=by
 induction h with
 |nil x=>exact ⟨fun _=> .nil,fun h=>oM⟩
 | eps hm h1 _ ih=>
   have ih:=ih hy;refine ⟨fun e=>?_,fun e=>?_⟩
   · rcases TH.1 hm with h2|⟨s,hs,rfl⟩|⟨s,hs,rfl⟩
     · have:=ha.mv _ h2;omega
     · obtain ⟨u,v,f,rfl,hf,h3,h4⟩:=ih.2 (ha.st s hs).2;exact .app ⟨s,hs,f,hf,h3⟩ h4
     · have:=ha.fi s hs;dsimp only at e;omega
   · rcases TH.1 hm with h2|⟨s,hs,rfl⟩|⟨s,hs,rfl⟩
     · obtain ⟨u,v,f,e2,hf,h3,h4⟩:=ih.2 (by have:=ha.mv _ h2;omega);exact ⟨u,v,f,e2,hf, .eps h2 h1 h3,h4⟩
     · dsimp only at e;omega
     · exact ⟨[],_,s,rfl,hs, .nil _,ih.1 rfl⟩
 | sym hm h1 _ ih=>
   have ih:=ih hy;rcases TH.1 hm with h2|⟨s,hs,rfl⟩|⟨s,hs,rfl⟩
   · refine ⟨fun e=>by have:=ha.mv _ h2;omega,fun e=>?_⟩;obtain ⟨u,v,f,e2,hf,h3,h4⟩:=ih.2 (by have:=ha.mv _ h2;omega);exact ⟨_::u,v,f,by rw [e2];rfl,hf, .sym h2 h1 h3,h4⟩
   · exact UV rfl h1
   · exact UV rfl h1
theorem Zkv (ha:VOk a) {w:List Int}:Lng (K2 a) w↔Star (Lng a) w:=by
 constructor
 · rintro ⟨s,hs,f,hf,h⟩;have hs:s=a.n:=Xi.1 hs;have hf:f=a.n:=Xi.1 hf;exact (Zku ha h hf).1 hs
 · intro h;refine ⟨a.n,Xi.2 rfl,a.n,Xi.2 rfl,?_⟩;induction h with
   |nil=>exact .nil _
   | app h _ ih=>
     obtain ⟨s,hs,f,hf,h⟩:=h;have h1:Pth (K2 a) s _ f:=h.mono fun m hm=>TH.2 (.inl hm);have h2:Pth (K2 a) f _ a.n:=Pth.eps (m:=⟨f,a.n,-1⟩) (TH.2 (.inr (.inr ⟨f,hf,rfl⟩))) rfl ih;exact Pth.eps (m:=⟨a.n,s,-1⟩) (TH.2 (.inr (.inl ⟨s,hs,rfl⟩))) rfl (h1.app h2)
inductive Mix:List Int→List Int→List Int→Prop
 |nil:Mix [] [] []
 |one {w u v:List Int} (c:Int) (h:Mix w u v):Mix (c::w) (c::u) v
 |two {w u v:List Int} (c:Int) (h:Mix w u v):Mix (c::w) u (c::v)
theorem Zkw (ha:VOk a) (hb:VOk b) {x y:Int} {w:List Int} (h:Pth (Wr a b) x w y):∀i j,(0≤i∧i<a.n)→(0≤j∧j<b.n)→x=i*b.n+j→∃i' j' u v,(0≤i'∧i'<a.n)∧(0≤j'∧j'<b.n)∧y=i'*b.n+j'∧Mix w u v∧Pth a i u i'∧Pth b j v j':=by
 induction h with
 |nil x=>exact fun i j hi hj e=>⟨i,j,[],[],hi,hj,e, .nil, .nil _, .nil _⟩
 | eps hm h1 _ ih=>
   intro i j hi hj e;rcases L9.1 hm with ⟨z,hz,k,hk,rfl⟩|⟨z,hz,k,hk,rfl⟩
   · have h2:=ha.mv z hz;obtain ⟨rfl,e2⟩:=GA e ⟨oM,hk⟩ hj;obtain ⟨i',j',u,v,h3,h4,h5,h6,h7,h8⟩:=ih z.dst k ⟨h2.2.2.1,h2.2.2.2.1⟩ ⟨oM,hk⟩ rfl;exact ⟨i',j',u,v,h3,h4,h5,h6, .eps hz h1 h7,e2▸h8⟩
   · have h2:=hb.mv z hz;obtain ⟨e2,rfl⟩:=GA e ⟨h2.1,h2.2.1⟩ hj;obtain ⟨i',j',u,v,h3,h4,h5,h6,h7,h8⟩:=ih k z.dst ⟨oM,hk⟩ ⟨h2.2.2.1,h2.2.2.2.1⟩ rfl;exact ⟨i',j',u,v,h3,h4,h5,h6,e2▸h7, .eps hz h1 h8⟩
 | sym hm h1 _ ih=>
   intro i j hi hj e;rcases L9.1 hm with ⟨z,hz,k,hk,rfl⟩|⟨z,hz,k,hk,rfl⟩
   · have h2:=ha.mv z hz;obtain ⟨rfl,e2⟩:=GA e ⟨oM,hk⟩ hj;obtain ⟨i',j',u,v,h3,h4,h5,h6,h7,h8⟩:=ih z.dst k ⟨h2.2.2.1,h2.2.2.2.1⟩ ⟨oM,hk⟩ rfl;exact ⟨i',j',_::u,v,h3,h4,h5, .one _ h6, .sym hz h1 h7,e2▸h8⟩
   · have h2:=hb.mv z hz;obtain ⟨e2,rfl⟩:=GA e ⟨h2.1,h2.2.1⟩ hj;obtain ⟨i',j',u,v,h3,h4,h5,h6,h7,h8⟩:=ih k z.dst ⟨oM,hk⟩ ⟨h2.2.2.1,h2.2.2.2.1⟩ rfl;exact ⟨i',j',u,_::v,h3,h4,h5, .two _ h6,e2▸h7, .sym hz h1 h8⟩
theorem Cj (hb:VOk b) {i i' j:Int} {u:List Int} (hj:0≤j∧j<b.n) (h:Pth a i u i'):Pth (Wr a b) (i*b.n+j) u (i'*b.n+j):=by
 have e:((j.toNat:Nat):Int)=j:=X4 hj.1
 induction h with
 |nil s=>exact .nil _
 | @eps m w t hm h1 _ ih=>exact Pth.eps (m:=⟨m.src*b.n+j,m.dst*b.n+j,m.sym⟩) (L9.2 (.inl ⟨m,hm,j.toNat,oM,by rw [e]⟩)) h1 ih
 | @sym m w t hm h1 _ ih=>exact Pth.sym (m:=⟨m.src*b.n+j,m.dst*b.n+j,m.sym⟩) (L9.2 (.inl ⟨m,hm,j.toNat,oM,by rw [e]⟩)) h1 ih
theorem Df {i j j':Int} {u:List Int} (hi:0≤i∧i<a.n) (h:Pth b j u j'):Pth (Wr a b) (i*b.n+j) u (i*b.n+j'):=by
 have e:((i.toNat:Nat):Int)=i:=X4 hi.1
 induction h with
 |nil s=>exact .nil _
 | @eps m w t hm h1 _ ih=>exact Pth.eps (m:=⟨i*b.n+m.src,i*b.n+m.dst,m.sym⟩) (L9.2 (.inr ⟨m,hm,i.toNat,oM,by rw [e]⟩)) h1 ih
 | @sym m w t hm h1 _ ih=>exact Pth.sym (m:=⟨i*b.n+m.src,i*b.n+m.dst,m.sym⟩) (L9.2 (.inr ⟨m,hm,i.toNat,oM,by rw [e]⟩)) h1 ih
theorem ZoA (ha:AOk a) {s t:Int} {w:List Int} (h:Pth a s w t) (hs:0≤s∧s<a.n):0≤t∧t<a.n:=by
 induction h with
 |nil s=>exact hs
 |eps hm _ _ ih=>exact ih (by have:=ha.mv _ hm;omega)
 |sym hm _ _ ih=>exact ih (by have:=ha.mv _ hm;omega)
theorem Zkx (ha:VOk a) (hb:VOk b) {w u v:List Int} (hm:Mix w u v):∀{i i' j j':Int},(0≤i∧i<a.n)→(0≤j∧j<b.n)→Pth a i u i'→Pth b j v j'→Pth (Wr a b) (i*b.n+j) w (i'*b.n+j'):=by
 induction hm with
 | nil=>
   intro i i' j j' hi hj h1 h2;have h3:=(Cj hb hj h1).app (Df (ZoA ha.toAOk h1 hi) h2);exact h3
 | one c _ ih=>
   intro i i' j j' hi hj h1 h2;obtain ⟨m,hm,h3,rfl,h4,h5⟩:=h1.cons;have h6:=ha.mv m hm;have h7:Pth a m.src [m.sym] m.dst:= .sym hm h4 (.nil _);have h8:=(Cj hb hj h3).app ((Cj hb hj h7).app (ih ⟨h6.2.2.1,h6.2.2.2.1⟩ hj h5 h2));exact h8
 | two c _ ih=>
   intro i i' j j' hi hj h1 h2;obtain ⟨m,hm,h3,rfl,h4,h5⟩:=h2.cons;have h6:=hb.mv m hm;have h7:Pth b m.src [m.sym] m.dst:= .sym hm h4 (.nil _);have h8:=(Df hi h3).app ((Df hi h7).app (ih hi ⟨h6.2.2.1,h6.2.2.2.1⟩ h1 h5));exact h8
theorem Zky (ha:VOk a) (hb:VOk b) {w:List Int}:Lng (Wr a b) w↔∃u v,Mix w u v∧Lng a u∧Lng b v:=by
 constructor
 · rintro ⟨s,hs,f,hf,h⟩;obtain ⟨i,hi,j,hj,rfl⟩:=Sa.1 (show s∈shI b.n a.start b.start from hs);obtain ⟨i',hi',j',hj',rfl⟩:=Sa.1 (show f∈shI b.n a.fin b.fin from hf);obtain ⟨i2,j2,u,v,h1,h2,h3,h4,h5,h6⟩:=Zkw ha hb h i j (ha.st i hi) (hb.st j hj) rfl;obtain ⟨rfl,rfl⟩:=GA h3 (hb.fi j' hj') h2;exact ⟨u,v,h4,⟨i,hi,i',hi',h5⟩,⟨j,hj,j',hj',h6⟩⟩
 · rintro ⟨u,v,hm,⟨i,hi,i',hi',h5⟩,⟨j,hj,j',hj',h6⟩⟩;exact ⟨_,Sa.2 ⟨i,hi,j,hj,rfl⟩,_,Sa.2 ⟨i',hi',j',hj',rfl⟩,Zkx ha hb hm (ha.st i hi) (hb.st j hj) h5 h6⟩
end
section
variable {α κ:Type} [DecidableEq κ] {W:Srch α κ}
def Srch.Born (W:Srch α κ) (o:List α):Prop:=∀j x,0<j→o[j]? =some x→∃i y s,i<j∧o[i]? =some y∧s<W.m∧x=W.step i y s
theorem Srch.Born.visit {o o':List α} {i s n:Nat} {y:α} (h:W.Born o) (hy:o[i]? =some y) (hs:s<W.m) (hv:visit W.key W.cap o (W.step i y s)=some (o',n)):W.Born o':=by
 unfold Go.Proofs.YtgfabnhpllkebaaGreatDoor.visit at hv
 split at hv
 · cases hv;exact h
 · split at hv
   · cases hv
   · cases hv;intro j x hj hx;rw [V9] at hx;split at hx
     · obtain ⟨i',y',s',h1,h2,h3,h4⟩:=h j x hj hx;exact ⟨i',y',s',h1,Kd (Ur ..) h2,h3,h4⟩
     · rename_i hjl;have h1:=Zh hx;rw [Xy] at h1;rw [show j-o.length=0 by omega,Vx] at hx
       cases hx;exact ⟨i,y,s,by have:=Zh hy;omega,Kd (Ur ..) hy,hs,rfl⟩
theorem Srch.Born.row {o:List α} {i:Nat} {y:α} (h:W.Born o) (hy:o[i]? =some y):∀{s:Nat} {o':List α} {r:List Nat},s≤W.m→W.row i y o s=some (o',r)→W.Born o'∧o<+:o'
 | 0,o',r,_,hr=>by
   rw [Srch.row] at hr;cases hr;exact ⟨h,Vy _⟩
 | s+1,o',r,hs,hr=>by
   rw [Srch.row,XX] at hr;obtain ⟨⟨o1,r1⟩,h1,h2⟩:=hr;obtain ⟨⟨o2,n⟩,h3,h4⟩:=XB.1 h2
   cases h4;obtain ⟨h5,h6⟩:=Srch.Born.row h hy oM h1;exact ⟨h5.visit (Kd h6 hy) oM h3,h6.trans (O0 h3).1⟩
theorem Srch.born {x0:α}:∀{i:Nat} {o:List α} {rows:List (List Nat)},W.upto x0 i=some (o,rows)→W.Born o
 | 0,o,rows,h=>by
   rw [Srch.upto] at h;cases h;intro j x hj hx;have:=Zh hx;rw [Xy] at this;omega
 | i +1,o,rows,h=>by
   rw [Srch.upto,XX] at h;obtain ⟨⟨o1,rows1⟩,h1,h2⟩:=h;have h3:=Srch.born h1;dsimp only at h2
   cases hx:o1[i]? with
   |none=>rw [hx] at h2;cases h2;exact h3
   | some x=>
     rw [hx] at h2;obtain ⟨⟨o2,r⟩,h5,h6⟩:=XB.1 h2
     cases h6;exact (h3.row hx (Xh _) h5).1
end
def ZmJ (par:List (Int×Int)):Prop:=∀(j:Nat) (x:Int×Int),par[j]? =some x→x.1<(j:Int)
theorem Ck {par:List (Int×Int)} (h:ZmJ par):∀(f g i:Nat),i<f→i<g→SZ par f i=SZ par g i
 |0,_,_,h1,_=>oM
 |f+1,0,_,_,h2=>oM
 | f +1,g+1,i,h1,h2=>by
   rw [SZ,SZ]
   cases hx:par[i]? with
   |none=>rfl
   | some x=>
     dsimp only;have:=h i x hx;by_cases h0:x.1<0
     · rw [UU h0,UU h0]
     · rw [UT h0,UT h0,Ck h f g x.1.toNat oM oM]
def R3 (par:List (Int×Int)) (i:Nat):List Int:=SZ par (i+1) i
theorem Cl {par:List (Int×Int)} {i:Nat} {x:Int×Int} (hx:par[i]? =some x) (h0:x.1<0):R3 par i=[]:=by
 unfold R3;rw [SZ,hx];dsimp only;rw [UU h0]
theorem Zbx {par:List (Int×Int)} (h:ZmJ par) {i:Nat} {x:Int×Int} (hx:par[i]? =some x) (h0:¬x.1<0):R3 par i=R3 par x.1.toNat++[x.2]:=by
 unfold R3;rw [SZ,hx];dsimp only;rw [UT h0,Ck h i (x.1.toNat+1) x.1.toNat (by have:=h i x hx;omega) oM]
theorem Dg {A B:Aut} {i:Nat} {o:List ((Nat×Nat)×(Int×Int))} {rows:List (List Nat)} (hu:(YP A B).upto ((0,0),(-1,-1)) i=some (o,rows)) (h0:o[0]? =some ((0,0),(-1,-1))):ZmJ (o.map (·.2)):=fun j x hx=>by
 rw [Xg] at hx
 obtain ⟨y,hy,rfl⟩:=XB.1 hx
 rcases Vb j with rfl|hj
 · rw [h0] at hy;cases hy;decide
 · obtain ⟨i',y',s,h1,_,_,rfl⟩:=Srch.born hu j y hj hy;show ((i':Nat):Int)<_;omega
theorem Zpu (l:List Bool):idx (fun x=>x==true) l=match l.idxOf? true with|some i=>(i:Int)|none=> -1:=rfl
section
variable {α κ:Type} [DecidableEq κ] {W:Srch α κ} {g:α→Int}
theorem Srch.row_ages (hg:∀i x s,g (W.step i x s)=((i:Nat):Int)) {i:Nat} {x:α} {o:List α}:∀{s:Nat} {o':List α} {r:List Nat},W.row i x o s=some (o',r)→o<+:o'∧(∀k y,o.length≤k→o'[k]? =some y→g y=((i:Nat):Int))∧∀c n:Nat,r[c]? =some n→n<o'.length
 | 0,o',r,h=>by
   rw [Srch.row] at h;cases h;exact ⟨Vy _,fun k y hk hy=>by have:=Zh hy;omega,fun c n h=>by simp at h⟩
 | s + 1, o',r,h=>by
   rw [Srch.row,XX] at h;obtain ⟨⟨o1,r1⟩,h1,h2⟩:=h;obtain ⟨⟨o2,n⟩,h3,h4⟩:=XB.1 h2
   cases h4;obtain ⟨h5,h6,h7⟩:=Srch.row_ages hg h1;obtain ⟨h8,h9,_⟩:=O0 h3;dsimp only at h3 h8 h9 ⊢;refine ⟨h5.trans h8,fun k y hk hy=>?_,fun c m hc=>?_⟩
   · rcases XD k o1.length with hkl|hkl
     · obtain ⟨z,hz⟩:=Zw hkl;have:=Kd h8 hz;rw [this] at hy;cases hy;exact h6 k y hk hz
     · have hv:=h3;unfold Go.Proofs.YtgfabnhpllkebaaGreatDoor.visit at hv;split at hv
       · cases hv;have:=Zh hy;omega
       · split at hv
         · cases hv
         · cases hv;have h10:=Zh hy;rw [Xb,Xy] at h10;rw [Vo hkl,show k-o1.length=0 by omega] at hy
           cases hy;exact hg i x s
   · rw [V9] at hc;split at hc
     · have:=h7 c m hc;have:=h8.length_le;omega
     · have h10:=Zh hc;rw [Xy] at h10;rw [show c-r1.length=0 by omega] at hc
       cases hc;exact h9
structure Srch.Aged (g:α→Int) (i:Nat) (o:List α) (rows:List (List Nat)):Prop where
 mono:∀(j k:Nat) (x y:α),j≤k→o[j]? =some x→o[k]? =some y→g x≤g y
 lt:∀(j:Nat) (x:α),o[j]? =some x→g x<(i:Nat)
 len:i≤o.length→rows.length=i
 to:∀(p:Nat) (r:List Nat) (c n:Nat),rows[p]? =some r→r[c]? =some n→∃x,o[n]? =some x∧g x≤(p:Nat)
theorem Srch.ages (hg:∀i x s,g (W.step i x s)=((i:Nat):Int)) {x0:α} (h0:g x0= -1):∀{i:Nat} {o:List α} {rows:List (List Nat)},W.upto x0 i=some (o,rows)→Srch.Aged g i o rows
 | 0, o,rows,h=>by
   rw [Srch.upto] at h;cases h;refine ⟨fun j k x y _ hx hy=>?_,fun j x hx=>?_,fun _=>rfl,fun p r c n h=>by simp at h⟩
   · have h1:=Zh hx;have h2:=Zh hy;rw [Xy] at h1 h2;have e1:j=0:=oM;have e2:k=0:=oM;subst e1 e2;rw [hx] at hy;cases hy;exact VU _
   · have h1:=Zh hx;rw [Xy] at h1;have e1:j=0:=oM;subst e1
     cases hx;omega
 | i + 1, o,rows,h=>by
   rw [Srch.upto,XX] at h;obtain ⟨⟨o1,rows1⟩,h1,h2⟩:=h;have h3:=Srch.ages hg h0 h1;dsimp only at h2
   cases hx:o1[i]? with
   | none=>
     rw [hx] at h2;cases h2;have:=Un.1 hx;exact ⟨h3.mono,fun j x hx=>by have:=h3.lt j x hx;omega,fun h=>oM,h3.to⟩
   | some x=>
     rw [hx] at h2;obtain ⟨⟨o2,r⟩,h5,h6⟩:=XB.1 h2
     cases h6;dsimp only;have hil:=Zh hx;have hrl:=h3.len oM;obtain ⟨h7,h8,h9⟩:=Srch.row_ages hg h5;have old:∀{k:Nat} {y:α},k<o1.length→o2[k]? =some y→o1[k]? =some y:=fun {k y} hk hy=>by
      obtain ⟨z,hz⟩:=Zw hk;have:=Kd h7 hz;rw [this] at hy;cases hy;exact hz
     have lt:∀(j:Nat) (x:α),o2[j]? =some x→g x<((i+1:Nat):Int):=fun j y hy=>by
      rcases XD j o1.length with hj|hj
      · have:=h3.lt j y (old hj hy);omega
      · have:=h8 j y hj hy;omega
     refine ⟨fun j k y z hjk hy hz=>?_,lt,fun _=>by rw [Xb,hrl];rfl,fun p r' c n hr hn=>?_⟩
     · rcases XD k o1.length with hk|hk
       · exact h3.mono j k y z hjk (old oM hy) (old hk hz)
       · have e:=h8 k z hk hz;have:=lt j y hy;omega
     · rw [V9] at hr;split at hr
       · obtain ⟨y,hy,hle⟩:=h3.to p r' c n hr hn;exact ⟨y,Kd h7 hy,hle⟩
       · have hp:=Zh hr;rw [Xy] at hp;rename_i hpl;have ep:p=i:=oM;subst ep;rw [hrl,VZ] at hr
         cases hr;obtain ⟨y,hy⟩:=Zw (h9 c n hn);exact ⟨y,hy,by have:=lt n y hy;omega⟩
end
abbrev PrS2:=(Nat×Nat)×(Int×Int)
structure PQ (A B:Aut) (o:List PrS2) (rows:List (List Nat)):Prop where
 mA:IsMin A
 mB:IsMin B
 sy:A.syms=B.syms
 hu:prodQ A B=some (o,rows)
section
variable {A B:Aut} {o:List PrS2} {rows:List (List Nat)}
theorem PQ.ok (h:PQ A B o rows):(YP A B).Ok (S2 A B) ((0,0),(-1,-1)) o rows∧rows.length=o.length∧o.length≤2000:=by
 obtain ⟨h1,_,h3⟩:=L6 h.mA.det h.mB.det h.sy h.hu
 have hcap:o.length≤2000:=h1.cap
 exact ⟨h1,h3 hcap,hcap⟩
theorem PQ.back (h:PQ A B o rows):ZmJ (o.map (·.2)):=Dg h.hu h.ok.1.zero
theorem PQ.aged (h:PQ A B o rows):Srch.Aged (fun x:PrS2=>x.2.1) (YP A B).cap o rows:=by
 have hu:(YP A B).upto ((0,0),(-1,-1)) (YP A B).cap=some (o,rows):=h.hu
 exact Srch.ages (g:=fun x:PrS2=>x.2.1) (fun _ _ _=>rfl) rfl hu
def Hv (o:List PrS2) (j:Nat):Nat:=(R3 (o.map (·.2)) j).length
theorem PQ.zero (h:PQ A B o rows):R3 (o.map (·.2)) 0=[]:=Cl (x:=(-1,-1)) (by rw [Xg,h.ok.1.zero];rfl) dC
theorem PQ.on (h:PQ A B o rows) {j:Nat} (hj:0<j) (hjl:j<o.length):∃(i s:Nat) (x y:PrS2),i<j∧o[j]? =some x∧o[i]? =some y∧s<A.syms.toNat∧x=(YP A B).step i y s∧x.2.1=(i:Int)∧R3 (o.map (·.2)) j=R3 (o.map (·.2)) i++[(s:Int)]:=by
 obtain ⟨x,hx⟩:=Zw hjl
 obtain ⟨i,y,s,h1,h2,h3,h4⟩:=Srch.born h.hu j x hj hx
 have e:x.2=(((i:Nat):Int),((s:Nat):Int)):=by rw [h4];rfl
 refine ⟨i,s,x,y,h1,hx,h2,h3,h4,by rw [e],?_⟩
 have hw:=Zbx h.back (i:=j) (x:=(((i:Nat):Int),((s:Nat):Int))) (by rw [Xg,hx,←e];rfl) (by dsimp only;omega)
 dsimp only at hw
 rw [XS] at hw
 exact hw
theorem PQ.mono (h:PQ A B o rows):∀(k:Nat),k<o.length→∀j,j≤k→Hv o j≤Hv o k:=fun k=>by
 induction k using Nat.strongRecOn with
 | ind k ih=>
   intro hk j hjk;rcases Vb j with rfl|hj
   · unfold Hv;rw [h.zero];exact Xd _
   · obtain ⟨i,s,x,y,h1,h2,h3,_,_,h6,h7⟩:=h.on hj oM;obtain ⟨i',s',x',y',h1',h2',h3',_,_,h6',h7'⟩:=h.on (show 0<k by omega) hk;have hle:x.2.1≤x'.2.1:=h.aged.mono j k x x' hjk h2 h2';have:=ih i' h1' oM i oM;unfold Hv at this ⊢;rw [h7,h7',Xb,Xb];exact Nat.add_le_add_right this _
theorem PQ.step (h:PQ A B o rows) {p c n:Nat} {r:List Nat} (hr:rows[p]? =some r) (hn:r[c]? =some n):Hv o n≤Hv o p+1:=by
 obtain ⟨x,hx,hle⟩:=h.aged.to p r c n hr hn
 have hle:x.2.1≤(p:Int):=hle
 rcases Vb n with rfl|hn0
 · unfold Hv;rw [h.zero];exact Xd _
 · obtain ⟨i,s,x',y,h1,h2,h3,_,_,h6,h7⟩:=h.on hn0 (Zh hx);rw [hx] at h2;cases h2;have hpl:p<o.length:=by rw [←h.ok.2.1];exact Zh hr
   have:=h.mono p hpl i oM;unfold Hv at this ⊢;rw [h7,Xb,Xy];omega
theorem PQ.row (h:PQ A B o rows) {op:Int} {p c:Nat} (hp:p<o.length) (hc:c<A.syms.toNat):∃(r:List Nat) (n:Nat),rows[p]? =some r∧r[c]? =some n∧toT (JM A B op (o,rows)) p c=n∧n<o.length:=by
 obtain ⟨r,hr⟩:=Zw (show p<rows.length by rw [h.ok.2.1];exact hp)
 have hl:r.length=A.syms.toNat:=h.ok.1.len r (Xc hr)
 obtain ⟨n,hn⟩:=Zw (show c<r.length by omega)
 obtain ⟨x,hx⟩:=Zw hp
 exact ⟨r,n,hr,hn,Pv (t:=JM A B op (o,rows)) hr hn,(h.ok.1.to p x r c n hx hr hn).1⟩
theorem Zad (t:Tab) (x:Nat) (w:List Nat) (c:Nat):EU t x (w++[c])=toT t (EU t x w) c:=by unfold EU;rw [VH];rfl
theorem Zkz {α:Type} {P:List α→Prop} (h0:P []) (h1:∀l x,P l→P (l++[x])) (l:List α):P l:=by
 have:∀m:List α,P m.reverse:=fun m=>by
  induction m with
  |nil=>exact h0
  |cons x m ih=>rw [List.reverse_cons];exact h1 _ _ ih
 have h:=this l.reverse
 rw [List.reverse_reverse] at h;exact h
theorem PQ.run (h:PQ A B o rows) {op:Int} (w:List Nat):Kq A.syms.toNat w→EU (JM A B op (o,rows)) 0 w<o.length∧Hv o (EU (JM A B op (o,rows)) 0 w)≤w.length:=by
 refine Zkz (P:=fun w=>Kq A.syms.toNat w→EU (JM A B op (o,rows)) 0 w<o.length∧Hv o (EU (JM A B op (o,rows)) 0 w)≤w.length) ?_ ?_ w
 · intro _;refine ⟨h.ok.1.pos,?_⟩;show Hv o 0≤0;unfold Hv;rw [h.zero];exact Xh _
 · intro w c ih hw;obtain ⟨h1,h2⟩:=ih fun c hc=>hw c (X1 _ hc);obtain ⟨r,n,hr,hn,e,hno⟩:=h.row (op:=op) h1 (hw c (X7 _ (Xi.2 rfl)));rw [Zad,e];have:=h.step hr hn;rw [Xb,Xy];exact ⟨hno,oM⟩
theorem PQ.way (h:PQ A B o rows) {op:Int}:∀(j:Nat),j<o.length→∃w:List Nat,Kq A.syms.toNat w∧wI w=R3 (o.map (·.2)) j∧EU (JM A B op (o,rows)) 0 w=j:=fun j=>by
 induction j using Nat.strongRecOn with
 | ind j ih=>
   intro hj;rcases Vb j with rfl|hj0
   · exact ⟨[],(fun c hc=>by cases hc),(by rw [h.zero];rfl),rfl⟩
   · obtain ⟨i,s,x,y,h1,h2,h3,h4,h5,_,h7⟩:=h.on hj0 hj;obtain ⟨w,hw,he,hr⟩:=ih i h1 oM;refine ⟨w++[s],fun c hc=>?_,?_,?_⟩
     · rcases Xq.1 hc with hc|hc
       · exact hw c hc
       · rw [Xi.1 hc];exact h4
     · rw [h7,←he];unfold wI;rw [Xs];rfl
     · obtain ⟨r,n,hr',hn,e,hno⟩:=h.row (op:=op) (Zh h3) h4;rw [Zad,hr,e];have h8:=(h.ok.1.to i y r s n h3 hr' hn).2;rw [←h5] at h8;rw [←h8];exact Lo h.ok.1.nd h2
theorem PQ.fin (h:PQ A B o rows) {op:Int} {w:List Nat} (hw:Kq A.syms.toNat w) {x:PrS2} (hx:o[EU (JM A B op (o,rows)) 0 w]? =some x):Y7 A B op x=SY op (T7 A (wI w)) (T7 B (wI w)):=by
 have:=ZhU h.mA h.mB h.sy (op:=op) h.hu hw
 rw [←this]
 show _=((o.map (Y7 A B op))[EU (JM A B op (o,rows)) 0 w]?).getD false
 rw [Xg,hx];rfl
end
theorem ZdE {l:List Bool}:∀{i:Nat},l.idxOf? true=some i↔l[i]? =some true∧∀j,j<i→l[j]? =some false:=by
 induction l with
 |nil=>intro i;simp
 | cons b l ih=>
   intro i;rw [List.idxOf?_cons]
   cases b with
   | true=>
     simp only [beq_self_eq_true,if_true];constructor
     · intro h;cases h;exact ⟨rfl,fun j hj=>oM⟩
     · rintro ⟨h1,h2⟩;rcases Vb i with rfl|hi
       · rfl
       · have:=h2 0 hi;simp at this
   | false=>
     simp only [show (false==true)=false from rfl,VW,if_false]
     cases i with
     |zero=>simp
     | succ i=>
       rw [XB];constructor
       · rintro ⟨k,hk,e⟩;have:k=i:=oM;subst this;obtain ⟨h1,h2⟩:=ih.1 hk;refine ⟨h1,fun j hj=>?_⟩
         cases j with
         |zero=>rfl
         |succ j=>exact h2 j oM
       · rintro ⟨h1,h2⟩;exact ⟨i,ih.2 ⟨h1,fun j hj=>h2 (j+1) oM⟩,rfl⟩
theorem Zh9 (i:Nat) (r:List Nat):AscM (Yq i r):=by
 unfold AscM
 rw [Ug]
 intro j k hj hk hjk
 unfold Yq at hj hk ⊢
 rw [Xe,List.length_zipIdx] at hj hk
 rw [WU,List.getElem_map,List.getElem_map,List.getElem_zipIdx,List.getElem_zipIdx]
 dsimp only
 omega
theorem Cm:∀(rows:List (List Nat)) (k:Nat),AscM (S1 k rows)
 |[],_=> .nil
 | r::rows,k=>by
   rw [GJ];refine Vk.2 ⟨Zh9 k r,Cm rows (k+1),fun x hx y hy=>?_⟩;have h1:=Rz x hx;have h2:=ES y hy;rw [WU];omega
theorem IsMin.valid {A:Aut} (h:IsMin A):Z1 A=true:=by
 have hok:=h.aok
 obtain ⟨t,o,rows,hT,hu,rfl,hm⟩:=h
 have h1:=hok.n0
 have h2:=hok.n1
 have h3:=hok.s0
 have h4:=hok.s1
 have h5:=hok.ml
 unfold Z1
 simp only [Xf,UQ]
 refine ⟨⟨⟨⟨⟨⟨⟨⟨h1,h2⟩,h3⟩,h4⟩,h5⟩,ZgC hok.st (Vq ..)⟩,ZgC hok.fi (D6 _ _)⟩,?_⟩,De (Cm rows 0)⟩
 rw [XA]
 intro m hm'
 have:=hok.mv m hm'
 unfold R1
 simp only [Xf,UQ]
 omega
theorem ZfG {a b A B:Aut} (ha:WV a= .ok A) (hb:WV b= .ok B) {q:List PrS2×List (List Nat)} (hq:prodQ A B=some q):Jf a b= .ok (A,B,q):=by unfold Jf;rw [ha,hb];dsimp only;rw [hq]
theorem ZfH {a b A B:Aut} (ha:WV a= .ok A) (hb:WV b= .ok B) (hq:prodQ A B=none):Jf a b= .error 13:=by unfold Jf;rw [ha,hb];dsimp only;rw [hq]
theorem Zby {a b:Aut} (h1:Z1 a=true) (h2:Z1 b=true) (h:a.syms=b.syms):Wt a b=0:=by unfold Wt;rw [UT (by rw [h1,h2];simp),UT (fun e=>e h)]
theorem Zae {a b A B:Aut} {op:Int} (hf:Wt a b=0) (ha:WV a= .ok A) (hb:WV b= .ok B) {q:List PrS2×List (List Nat)} (hq:prodQ A B=some q):cmpX a b op=((GW A B op q).1,(GW A B op q).2,0):=by
 unfold cmpX;rw [UT (fun h=>h hf),ZfG ha hb hq]
theorem Zaf {a b A B:Aut} {op:Int} (hf:Wt a b=0) (ha:WV a= .ok A) (hb:WV b= .ok B) (hq:prodQ A B=none):cmpX a b op=(false,[],13):=by
 unfold cmpX;rw [UT (fun h=>h hf),ZfH ha hb hq]
section
variable {A B:Aut} {o:List PrS2} {rows:List (List Nat)}
theorem Zia {op:Int} {i:Nat} (h:(o.map (Y7 A B op)).idxOf? true=some i):GW A B op (o,rows)=(false,R3 (o.map (·.2)) i):=by unfold GW;dsimp only;rw [h];rfl
theorem Zib {op:Int} (h:(o.map (Y7 A B op)).idxOf? true=none):GW A B op (o,rows)=(true,[]):=by unfold GW;dsimp only;rw [h]
end
end Go.Proofs.YtgfabnhpllkebaaGreatDoor
