/-
  Walks of functions and plain laws of the chapter, as the claim needs them.
-/
import Derived.Test.YtgfabnhpllkebaaGreatDoorPz08
import Derived.Test.YtgfabnhpllkebaaGreatDoorPz03
import Derived.Test.YtgfabnhpllkebaaGreatDoorMShelfF
import Derived.Test.YtgfabnhpllkebaaGreatDoorPz01
namespace Go.Proofs.YtgfabnhpllkebaaGreatDoor
open Go.RowKit Go.Cb Go.En Tryz
set_option linter.all false
set_option maxRecDepth 100000
theorem ζn:FldT prog 147 0 0=true:=by kernel_rfl
theorem Gz:MpT prog 279 3 3 (.int .i64) (.int .i64 0):=⟨underlying279,underlying3, .inr ⟨_,rfl⟩,by show ZeroT _ _ _;unfold ZeroT;kernel_rfl⟩
theorem ZS:Ke prog 39=some ((.agg #[(.int .i64 0),(.int .i64 0),(.slice none 0 0),(.slice none 0 0),(.slice none 0 0)]),([0,1,2,3,4]:List Nat).map fun o=>(o,1)):=by kernel_rfl
theorem Kc:Ke prog 93=some ((.agg #[(.int .i64 0),(.int .i64 0),(.int .i64 0)]),([0,1,2]:List Nat).map fun o=>(o,1)):=by kernel_rfl
theorem ZI:ZeroT prog 39 (.agg #[(.int .i64 0),(.int .i64 0),(.slice none 0 0),(.slice none 0 0),(.slice none 0 0)]):=by unfold ZeroT;kernel_rfl
section
variable {α:Type}
def Y8 (f:α→Int) (o:List α) (x:α):Nat:=if posK f o (f x)<o.length then posK f o (f x) else 0
theorem E3 (f:α→Int) (o:List α) (x:α):(WZ (ikv (YJ f 0 o)) (.int .i64 (f x))).getD (.int .i64 0)= .int .i64 (Y8 f o x:Nat)∧(WZ (ikv (YJ f 0 o)) (.int .i64 (f x))).isSome=decide (posK f o (f x)<o.length):=by
 rw [ζ5,Tz]
 unfold Y8
 by_cases h:posK f o (f x)<o.length
 · rw [UT h,UT h,UQ h,Xv];exact ⟨rfl,rfl⟩
 · rw [US h,US h,UR h];exact ⟨rfl,rfl⟩
theorem Zbf {f:α→Int} {o:List α} {x:α} (h:¬posK f o (f x)<o.length):K5 (ikv (YJ f 0 o)) (.int .i64 (f x)) (.int .i64 (o.length:Nat))=ikv (YJ f 0 (o++[x])):=by
 have:=Dq f x o 0 h
 rw [Xv] at this
 rw [ζ6,this]
end
section
variable {α:Type} {P:Program} {sL hP:List (Nat×Ent)} {o:Oper}
theorem ZdL {t ks e:Nat} {kd:TypeDesc} {z:Value} {x y:Operand} {m:Value} {f:α→Int} {L:List α} {a:α} {p q:PV} (l:Nat) (hT:MpT P t ks e kd z) (hz:z= .int .i64 0) (hkd:kd= .int .i64) (ho:o.op= .lookup t x y true:=by exact rfl) (hx:ev sL x=some (m,p):=by exact rfl) (hl:lk hP l=some (m, .omap (ikv (YJ f 0 L))):=by exact rfl) (hy:ev sL y=some (.int .i64 (f a),q):=by exact rfl):
 YE P (⟨sL,hP⟩:St) o (· = .tuple [.int .i64 (Y8 f L a:Nat), .bool (decide (posK f L (f a)<L.length))].toArray) (.tup [.val (.int .i64 (Y8 f L a:Nat)), .val (.bool (decide (posK f L (f a)<L.length)))]):=by
 subst hz hkd
 have h:=ζ7 (sL:=sL) (hP:=hP) (o:=o) l hT ho hx hl hy (S2 _ _)
 rw [(E3 f L a).1,(E3 f L a).2] at h
 exact h
end
def WV (t:Tab) (x:Nat):Int:=(WM t x:Nat)
theorem ZdM (t:Tab) (o:List Nat) (x:Nat):posK (WV t) o (WV t x)=posK (WM t) o (WM t x):=Ty fun y _=>by unfold WV;omega
theorem TL {t:Tab} {o o':List Nat} (h:o<+:o'):∀k,k≤o.length→Wa k (Jg t o)=Wa k (Jg t o')
 |0,_=>rfl
 | k+1,hk=>by
   rw [Jb,Jb,TL h k oM];obtain ⟨x,hx⟩:=Zp (show k<o.length by omega);unfold Jg;rw [hx,Ko h hx]
theorem Kg (e:Nat) (L:List Mv) (x:Mv):PV.own e 3 (L.length+1) (L.flatMap cMv++cMv x)= .own e 3 (L++[x]).length ((L++[x]).flatMap cMv):=sM
theorem Pm (e n:Nat) (l:List Mv) (hn:n=l.length):share (.own e 3 n (l.flatMap cMv))=pMvs l:=by
 subst hn
 rw [share,Yb,V7];rfl
theorem GA (e:Nat) (L:List Int) (x:Int):PV.own e 1 (L.length+1) (L.map pInt++[pInt x])= .own e 1 (L++[x]).length ((L++[x]).map pInt):=sM
theorem ZdN {rows:List (List Nat)} {r:List Nat} {n m:Nat} (h:∀x∈rows,x.length=m) (hm:m≤40) (hn:rows.length≤2000) (hr:r.length≤m):(ZV rows++Yk n r).length≤80040:=by
 rw [Xb,ZcN rows h,Gc]
 have:rows.length*m≤2000*40:=Ug hn hm
 omega
set_option maxHeartbeats 4000000 in
theorem ZcX (t : Tab) (ht:TOk t):AF prog 186 [Zbb t] (· =resW (lim (WS t))):=by
 have hn1:=ht.n1
 have hfl:=ht.fl
 have hm1:=ht.m1
 have hpos:=ht.pos
 refine AF.of_body 101 func186 rfl ntmps186 (Xa rfl) ?_
 intro w0 M0 vs hl hv
 obtain ⟨v0,rfl⟩:=WL hl
 clear hl hv
 refine Ze ?_
 (refine ZG 1 3 fun h1=>?_<;>refine Zw [(.int .i64 0),(.int .i64 0),(.slice none 0 0),(.slice none 0 0),(.slice none 0 0)] 5 2 ZI fun h2=>?_<;>refine xL 3 Za ?_<;>refine Zg ?_)
 ((refine yL 13 (Zs 1 Wn) fun v13 h=>?_;cases h)<;>(refine cO 14 (cA call232 (ZcW t ht)) fun v14 ho14=>?_;refine Zr (En.freeze (l:=14) (t:=14) rfl rfl) fun _=>?_;rw [show share (.own 3 1 t.rows.length (vec t.rows.length fun s=>pInt (WM t s:Nat)))= .sl t.rows.length (vec t.rows.length fun s=>pInt (WM t s:Nat)) by rw [share,Yb,ZjR];rfl])<;>refine xL 4 Za ?_<;>refine Zc ?_)
 have e1:=Ro (fun s=>pInt (WM t s:Nat)) hpos
 (refine Zt ?_<;>refine JZ 15 fun h15 ho15=>?_<;>refine xL 16 Zb ?_<;>refine xL 17 (ZF (i:=0) Zu) ?_<;>(refine yL 18 (Yo Zo) fun v18 h=>?_;cases h)<;>(refine ZgK 15 Gz ?_;rw [show K5 [] (.int .i64 ((WM t 0:Nat):Int)) (.int .i64 0)=ikv (YJ (WV t) 0 [0]) from rfl])<;>refine xL 19 Zb (xL 5 Za ?_)<;>refine Zg ?_)
 (refine ZJ (kk:=1) 20 Zl fun h20 ho20=>?_<;>refine xL 6 Za ?_<;>refine Zc ?_)
 refine Zx (Zy (l:=15) 304 rfl rfl) fun _=>?_
 refine Zx (Zy (l:=20) 303 rfl rfl) fun _=>?_
 refine Zx (ZP (l:=303) (p':= .own 3 1 ([0]:List Nat).length ((toI [0]).map pInt)) rfl rfl) fun _=>?_
 (refine Zt ?_<;>refine xL 21 (Zd 1 ζn) ?_<;>(refine yL 22 (Zk 1 Zo) fun v22 h=>?_;cases h)<;>(refine ZJ (kk:=1) 23 Zl fun h23 ho23=>?_;refine Zr (En.freeze (l:=23) (t:=23) rfl rfl) fun _=>?_;rw [show share (PV.own 3 1 1 [PV.val (.int .i64 0)])=pInts [0] from rfl])<;>refine xL 24 (ZL ZS) ?_<;>refine Zw [(.int .i64 0),(.int .i64 0),(.slice none 0 0),(.slice none 0 0),(.slice none 0 0)] 5 7 ZI fun h7=>?_<;>refine ZA 7 Zm ?_<;>refine Zc ?_)
 refine Zx (G6 (l:=7) [pInt 0,pInt (t.m:Nat),pInts [0], .own 3 1 0 [], .own 93 3 0 []] rfl rfl (fun i p p' h1 h2=>by
  match i with
  |0=>cases h1;cases h2;exact .inl rfl
  |1=>cases h1;cases h2;exact .inl rfl
  |2=>cases h1;cases h2;exact .inl rfl
  |3=>cases h1;cases h2;exact .inr ⟨rfl,_,_,rfl⟩
  |4=>cases h1;cases h2;exact .inr ⟨rfl,_,_,rfl⟩
  |i+5=>simp at h2)) fun _=>?_
 refine Zx (GR (l:=7) (l':=301) (j:=3) rfl rfl rfl rfl) fun i=>?_
 obtain ⟨v301,ho301⟩:=i
 refine Zx (GR (l:=7) (l':=302) (j:=4) rfl rfl rfl rfl) fun i=>?_
 obtain ⟨v302,ho302⟩:=i
 dsimp only [List.set]
 (refine Zt ?_<;>refine xL 8 Za ?_<;>refine Zc ?_)
 refine ZD (ι:={q:Nat×Value×Value×Value×List Nat×List (List Nat)//(minW t).upto 0 q.1=some (q.2.2.2.2.1,q.2.2.2.2.2)∧q.1≤q.2.2.2.2.1.length∧q.2.1.oneCell'=true∧q.2.2.1.oneCell'=true∧q.2.2.2.1.oneCell'=true}) (fun k=>⟨[(1,_,_),(2,_,_),(3,_,_),(4,_,_),(5,_,_),(7,_,_),(6,k.1.2.2.2.1, .val k.1.2.2.2.1),(8, .int .i64 k.1.1,pInt k.1.1)],[(1,_,_),(2,_,_),(7,h7, .own 39 5 1 [pInt 0,pInt (t.m:Nat),pInts [0], .val k.1.2.1, .val k.1.2.2.1]),(301,k.1.2.1, .own 3 1 (Wa k.1.1 (Jg t k.1.2.2.2.2.1)).length ((Wa k.1.1 (Jg t k.1.2.2.2.2.1)).map pInt)),(302,k.1.2.2.1, .own 93 3 (ZV k.1.2.2.2.2.2).length ((ZV k.1.2.2.2.2.2).flatMap cMv)),(303,k.1.2.2.2.1, .own 3 1 k.1.2.2.2.2.1.length ((toI k.1.2.2.2.2.1).map pInt)),(304,h15, .omap (ikv (YJ (WV t) 0 k.1.2.2.2.2.1)))]⟩) (fun k=>2000-k.1.1) ⟨(0,v301,v302,h20,[0],[]),rfl,Xf _,ho301,ho302,ho20⟩ (fun a w H=>H.weaken ⟨rfl,rfl,rfl,rfl,rfl,rfl,rfl,rfl,trivial⟩ ⟨rfl,rfl,rfl,rfl,rfl,rfl,rfl,trivial⟩) ?_
 rintro ⟨⟨i,hF,hM,hO,o,rows⟩,hU,hi,hFo,hMo,hOo⟩
 dsimp only
 dsimp only at hU hi hFo hMo hOo
 obtain ⟨hOk,hRl,_⟩:=ZcM ht hU
 have hRl:=hRl hi
 have hcap:o.length≤t.rows.length:=hOk.cap
 have hrw:=hOk.len
 have htl:=GO o
 have hll:=P9 i (Jg t o)
 refine Ze ?_
 (refine xL 25 Zb (xL 26 Zb (xL 27 (YN 303 Zu) (xL 28 ZQ ?_)))<;>refine Zc ?_)
 refine cX ?_ ?_<;>intro hb28
 · first | exact bN hb28|(
 obtain ⟨x,hx⟩:=Zp (show i<o.length by omega);have hxn:x<t.rows.length:=hOk.p x (Xc hx);(have e1:((toI o).map pInt)[i*1]? =some (pInt (x:Nat)):=by rw [Xw,Xm];unfold toI;rw [Xm,hx];rfl);obtain ⟨b,hb⟩:=Zp (show x<t.fin.length by omega);have e2:=Ym (f:=ZM) hb;obtain ⟨row,hrow⟩:=Zp hxn;have e3:=Ym (f:=Lp) hrow;have hrl:=ht.rl row (Xc hrow);have hrt:=ht.to row (Xc hrow);have hrtl:=GO row;(have hfa:Jg t o i=b:=by unfold Jg;rw [hx];show (t.fin[x]?).getD false=b;rw [hb];rfl);have hL1:=Jb i (Jg t o);rw [hfa] at hL1;refine nav ?_;(refine Z5 (fun i=>([]:List Nat).elem i) [1,303] kR ?_<;>refine xD 0 31 rfl (Zd 1 W5) ?_<;>(refine yD 1 32 rfl (Zk 1 Wt) fun v32 h=>?_;cases h)<;>refine xD 2 33 rfl Zb ?_<;>refine xE 3 34 rfl Zb ?_<;>refine xE 4 35 rfl (YL 303 Zu) ?_<;>(refine yE 5 36 rfl (Zk 303 Zo) fun v36 h=>?_;cases h)<;>refine xE 6 37 rfl (ZF W2) ?_<;>(refine yE 7 38 rfl (Yo Gn) fun v38 h=>?_;cases h)<;>refine YC kR (nav ?_)<;>try dsimp only)
 refine cX ?_ ?_<;>intro hb38
 · first | exact bN hb38|(
 rw [UT hb38] at hL1;refine Ze ?_;(refine xL 39 (Zd 7 Yq) ?_<;>(refine yL 40 (Zk 7 ZB) fun v40 h=>?_;cases h)<;>refine xL 41 Zb ?_<;>refine ZJ (kk:=1) 42 Zl fun h42 ho42=>?_<;>(refine ZU 301 42 43 Zl fun h43 ho43=>?_;refine Zr (Zy (l:=43) 301 rfl rfl) fun _=>?_;refine Zr (ZP (l:=301) rfl (GA _ (Wa i (Jg t o)) i)) fun _=>?_)<;>refine xL 44 (Zd 7 Yq) ?_<;>refine YZ 7 ZB Kb ?_<;>refine Zc ?_)
 (refine Z5 (fun i=>([]:List Nat).elem i) [1,303] kR ?_<;>refine xD 0 45 rfl (Zd 1 WF) ?_<;>(refine yD 1 46 rfl (Zk 1 Kv) fun v46 h=>?_;cases h)<;>refine xD 2 47 rfl Zb ?_<;>refine xD 3 48 rfl Zb ?_<;>refine xD 4 49 rfl (YL 303 Zu) ?_<;>(refine yD 5 50 rfl (Zk 303 Zo) fun v50 h=>?_;cases h)<;>refine xD 6 51 rfl (ZF YF) ?_<;>(refine yD 7 52 rfl (Yo ZB) fun v52 h=>?_;cases h)<;>refine xD 8 53 rfl (ZR Zu) ?_<;>refine xE 9 54 rfl Zb ?_<;>refine YC kR (nav ?_)<;>try dsimp only)
 rw [←hL1];rw [show ZV rows=ZV rows++Yk i ([]:List Nat) from (Xy _).symm];refine ZD (ι:={q:Nat×Value×Value×List Nat×List Nat//(minW t).row i x o q.1=some (q.2.2.2.1,q.2.2.2.2)∧q.1≤t.m∧q.2.1.oneCell'=true∧q.2.2.1.oneCell'=true}) (fun k=>⟨[(1,_,_),(2,_,_),(3,_,_),(4,_,_),(5,_,_),(7,_,_),(8,_,_),(52,_,_),(53,_,_),(6,k.1.2.2.1, .val k.1.2.2.1),(54, .int .i64 k.1.1,pInt k.1.1)],[(1,_,_),(2,_,_),(301,_,_),(7,h7, .own 39 5 1 [pInt 0,pInt (t.m:Nat),pInts [0],_, .val k.1.2.1]),(302,k.1.2.1, .own 93 3 (ZV rows++Yk i k.1.2.2.2.2).length ((ZV rows++Yk i k.1.2.2.2.2).flatMap cMv)),(303,k.1.2.2.1, .own 3 1 k.1.2.2.2.1.length ((toI k.1.2.2.2.1).map pInt)),(304,h15, .omap (ikv (YJ (WV t) 0 k.1.2.2.2.1)))]⟩) (fun k=>t.m-k.1.1) ⟨(0,hM,hO,o,[]),rfl,Xf _,hMo,hOo⟩ (fun a w H=>H.weaken ⟨rfl,rfl,rfl,rfl,rfl,rfl,rfl,rfl,rfl,rfl,rfl,trivial⟩ ⟨rfl,rfl,rfl,rfl,rfl,rfl,rfl,trivial⟩) ?_;rintro ⟨⟨s,hM',hO',o',r⟩,hW,hs,hM'o,hO'o⟩;dsimp only;dsimp only at hW hs hM'o hO'o;obtain ⟨hMt,hpr,hrl2,_⟩:=hOk.toMet.row (fun s _=>Kt ht) (show s≤(minW t).m from hs) hW;have hcap':o'.length≤t.rows.length:=hMt.cap;have htl':=GO o';have hmr:=ZdN (n:=i) hrw hm1 oM (show r.length≤t.m by omega);refine Ze ?_;(refine xL 55 ZQ ?_<;>refine Zc ?_)
 refine cX ?_ ?_<;>intro hb55
 · first | exact bN hb55|(
 obtain ⟨y,hy⟩:=Zp (show s<row.length by omega);have hyn:=hrt y (Xc hy);(have e4:((toI row).map pInt)[s*1]? =some (pInt (y:Nat)):=by rw [Xw,Xm];unfold toI;rw [Xm,hy];rfl);have e5:=Ro (fun s=>pInt (WM t s:Nat)) hyn;have hto:(minW t).step i x s=y:=Pd hrow hy;have hid:=ZdM t o' y;refine Ze ?_;(refine xL 56 Zb (xL 57 (ZF Zu) ?_)<;>(refine yL 58 (Yo Zo) fun v58 h=>?_;cases h)<;>refine xL 9 Za (xL 10 Za ?_)<;>refine Zg ?_)
 (refine xL 60 Zb (xL 61 Zb (xL 62 Zb (xL 63 (ZF Zu) ?_)))<;>(refine yL 64 (Yo Zo) fun v64 h=>?_;cases h)<;>refine xL 65 (ZdL (f:=WV t) (L:=o') (a:=y) 304 Gz rfl rfl) ?_<;>refine xL 59 Zb (xL 66 Zi (xL 67 Zi (xL 11 Za (xL 12 Za ?_))))<;>refine Zg ?_)
 (refine xL 68 Zb (xL 69 Yg ?_)<;>refine Zc ?_)
 refine cX ?_ ?_<;>intro hb69
 · first |exact bN hb69|(
 (have hnew:¬posK (WV t) o' (WV t y)<o'.length:=by simpa using hb69);have hnew2:¬posK (minW t).key o' ((minW t).key ((minW t).step i x s))<o'.length:=by
  rw [hto];show ¬posK (WM t) o' (WM t y)<o'.length;rw [←hid];exact hnew
 have hroom:=Pe ht hMt (show (minW t).step i x s<t.rows.length by rw [hto];exact hyn) hnew2;refine Ze ?_;(refine xL 70 Zb (xL 71 (YN 303 Zu) (xL 11 Za ?_))<;>refine Zg ?_)
 (refine xL 72 Zb (xL 73 Zb (xL 74 Zb (xL 75 (ZF Zu) ?_)))<;>(refine yL 76 (Yo Zo) fun v76 h=>?_;cases h)<;>refine xL 77 Zb ?_<;>(refine GU 304 Gz ?_;rw [show K5 (ikv (YJ (WV t) 0 o')) (.int .i64 ((WM t y:Nat):Int)) (.int .i64 ((o'.length:Nat):Int))=ikv (YJ (WV t) 0 (o'++[y])) from Zbf hnew])<;>refine Zg ?_)
 (refine xL 78 Zb (xL 79 Zb ?_)<;>refine ZJ (kk:=1) 80 Zl fun h80 ho80=>?_<;>(refine ZU 303 80 81 Zl fun h81 ho81=>?_;refine Zr (Zy (l:=81) 303 rfl rfl) fun _=>?_;refine Zr (ZP (l:=303) rfl (Hg _ o' y)) fun _=>?_)<;>refine xL 6 Za ?_<;>refine Zg ?_)
 (refine xL 82 (Zd 7 ZC) ?_<;>(refine yL 83 (Zk 7 ZK) fun v83 h=>?_;cases h)<;>refine xL 84 Zb (xL 85 Zb (xL 86 Zb (xL 87 (ZL Kc) ?_)))<;>refine YM 88 Yd fun h88 ho88=>?_<;>(refine ZU 302 88 89 Yd fun h89 ho89=>?_;refine Zr (Zy (l:=89) 302 rfl rfl) fun _=>?_;first|refine Zr (ZP (l:=302) rfl (Kg _ (ZV rows++Yk i r) ⟨(i:Nat),(o'.length:Nat),(s:Nat)⟩)) fun _=>?_|refine Zr (ZP (l:=302) rfl (Kg _ (ZV rows++Yk i r) ⟨(i:Nat),(Y8 (WV t) o' y:Nat),(s:Nat)⟩)) fun _=>?_)<;>refine xL 90 (Zd 7 ZC) ?_<;>refine YZ 7 ZK Wp ?_<;>refine Zg ?_)
 (refine xL 91 ZH (xL 54 Zb ?_)<;>refine Zc ?_)
 try rw [show (ZV rows++Yk i r)++[(⟨(i:Nat),(o'.length:Nat),(s:Nat)⟩:Mv)]=ZV rows++Yk i (r++[o'.length]) by rw [Ku,hrl2,Xz]]
 try rw [show (ZV rows++Yk i r)++[(⟨(i:Nat),(Y8 (WV t) o' y:Nat),(s:Nat)⟩:Mv)]=ZV rows++Yk i (r++[Y8 (WV t) o' y]) by rw [Ku,hrl2,Xz]]
 first
  | (exact Zn (
      ⟨(s+1,h89,h81,o'++[y],r++[o'.length]),(by dsimp only;exact (by have h9:=Srch.row_snoc hW (WR hnew2 hroom);rwa [hto] at h9)),(by dsimp only;omega),ho89,ho81⟩
      ) (by dsimp only;omega) ⟨rfl,rfl,rfl,rfl,rfl,rfl,rfl,rfl,rfl,rfl,rfl,trivial⟩ ⟨rfl,rfl,rfl,rfl,rfl,rfl,rfl,trivial⟩)
  | (exact Zn (
      ⟨(s+1,h89,hO',o',r++[Y8 (WV t) o' y]),(by dsimp only;rw [hnum];exact Srch.row_snoc hW (WQ hold2)),(by dsimp only;omega),ho89,hO'o⟩
      ) (by dsimp only;omega) ⟨rfl,rfl,rfl,rfl,rfl,rfl,rfl,rfl,rfl,rfl,rfl,trivial⟩ ⟨rfl,rfl,rfl,rfl,rfl,rfl,rfl,trivial⟩))
 · first |exact bN hb69|(
 (have hold:posK (WV t) o' (WV t y)<o'.length:=by simpa using hb69);have hold2:posK (minW t).key o' ((minW t).key ((minW t).step i x s))<o'.length:=by
  rw [hto];show posK (WM t) o' (WM t y)<o'.length;rw [←hid];exact hold
 have hnum:Y8 (WV t) o' y=posK (minW t).key o' ((minW t).key ((minW t).step i x s)):=by
  rw [hto];show Y8 (WV t) o' y=posK (WM t) o' (WM t y);unfold Y8;rw [UT hold,hid]
 refine Ze ?_;(refine xL 82 (Zd 7 ZC) ?_<;>(refine yL 83 (Zk 7 ZK) fun v83 h=>?_;cases h)<;>refine xL 84 Zb (xL 85 Zb (xL 86 Zb (xL 87 (ZL Kc) ?_)))<;>refine YM 88 Yd fun h88 ho88=>?_<;>(refine ZU 302 88 89 Yd fun h89 ho89=>?_;refine Zr (Zy (l:=89) 302 rfl rfl) fun _=>?_;first|refine Zr (ZP (l:=302) rfl (Kg _ (ZV rows++Yk i r) ⟨(i:Nat),(o'.length:Nat),(s:Nat)⟩)) fun _=>?_|refine Zr (ZP (l:=302) rfl (Kg _ (ZV rows++Yk i r) ⟨(i:Nat),(Y8 (WV t) o' y:Nat),(s:Nat)⟩)) fun _=>?_)<;>refine xL 90 (Zd 7 ZC) ?_<;>refine YZ 7 ZK Wp ?_<;>refine Zg ?_)
 (refine xL 91 ZH (xL 54 Zb ?_)<;>refine Zc ?_)
 try rw [show (ZV rows++Yk i r)++[(⟨(i:Nat),(o'.length:Nat),(s:Nat)⟩:Mv)]=ZV rows++Yk i (r++[o'.length]) by rw [Ku,hrl2,Xz]]
 try rw [show (ZV rows++Yk i r)++[(⟨(i:Nat),(Y8 (WV t) o' y:Nat),(s:Nat)⟩:Mv)]=ZV rows++Yk i (r++[Y8 (WV t) o' y]) by rw [Ku,hrl2,Xz]]
 first
  | (exact Zn (
      ⟨(s+1,h89,h81,o'++[y],r++[o'.length]),(by dsimp only;exact (by have h9:=Srch.row_snoc hW (WR hnew2 hroom);rwa [hto] at h9)),(by dsimp only;omega),ho89,ho81⟩
      ) (by dsimp only;omega) ⟨rfl,rfl,rfl,rfl,rfl,rfl,rfl,rfl,rfl,rfl,rfl,trivial⟩ ⟨rfl,rfl,rfl,rfl,rfl,rfl,rfl,trivial⟩)
  | (exact Zn (
      ⟨(s+1,h89,hO',o',r++[Y8 (WV t) o' y]),(by dsimp only;rw [hnum];exact Srch.row_snoc hW (WQ hold2)),(by dsimp only;omega),ho89,hO'o⟩
      ) (by dsimp only;omega) ⟨rfl,rfl,rfl,rfl,rfl,rfl,rfl,rfl,rfl,rfl,rfl,trivial⟩ ⟨rfl,rfl,rfl,rfl,rfl,rfl,rfl,trivial⟩)))
 · first |exact bN hb55|(
 have hsm:s=t.m:=oM;subst hsm;have hU2:=Srch.upto_snoc hU hx hW;rw [show ZV rows++Yk i r=ZV (rows++[r]) by rw [Oa,hRl]];rw [TL hpr (i+1) oM];refine Ze ?_;(refine xL 29 Zb (xL 30 ZH (xL 8 Za ?_))<;>refine Zc ?_)
 first
  | (exact Zn (
      ⟨(i+1,h43,hM',hO',o',rows++[r]),hU2,(by dsimp only;have:=hpr.length_le;omega),ho43,hM'o,hO'o⟩
      ) (by dsimp only;omega) ⟨rfl,rfl,rfl,rfl,rfl,rfl,rfl,rfl,trivial⟩ ⟨rfl,rfl,rfl,rfl,rfl,rfl,rfl,trivial⟩)
  | (exact Zn (
      ⟨(i+1,hF,hM',hO',o',rows++[r]),hU2,(by dsimp only;have:=hpr.length_le;omega),hFo,hM'o,hO'o⟩
      ) (by dsimp only;omega) ⟨rfl,rfl,rfl,rfl,rfl,rfl,rfl,rfl,trivial⟩ ⟨rfl,rfl,rfl,rfl,rfl,rfl,rfl,trivial⟩)))
 · first | exact bN hb38|(
 rw [US (by simpa using hb38),Xy] at hL1;refine nav ?_;(refine Z5 (fun i=>([]:List Nat).elem i) [1,303] kR ?_<;>refine xD 0 45 rfl (Zd 1 WF) ?_<;>(refine yD 1 46 rfl (Zk 1 Kv) fun v46 h=>?_;cases h)<;>refine xD 2 47 rfl Zb ?_<;>refine xD 3 48 rfl Zb ?_<;>refine xD 4 49 rfl (YL 303 Zu) ?_<;>(refine yD 5 50 rfl (Zk 303 Zo) fun v50 h=>?_;cases h)<;>refine xD 6 51 rfl (ZF YF) ?_<;>(refine yD 7 52 rfl (Yo ZB) fun v52 h=>?_;cases h)<;>refine xD 8 53 rfl (ZR Zu) ?_<;>refine xE 9 54 rfl Zb ?_<;>refine YC kR (nav ?_)<;>try dsimp only)
 rw [←hL1];rw [show ZV rows=ZV rows++Yk i ([]:List Nat) from (Xy _).symm];refine ZD (ι:={q:Nat×Value×Value×List Nat×List Nat//(minW t).row i x o q.1=some (q.2.2.2.1,q.2.2.2.2)∧q.1≤t.m∧q.2.1.oneCell'=true∧q.2.2.1.oneCell'=true}) (fun k=>⟨[(1,_,_),(2,_,_),(3,_,_),(4,_,_),(5,_,_),(7,_,_),(8,_,_),(52,_,_),(53,_,_),(6,k.1.2.2.1, .val k.1.2.2.1),(54, .int .i64 k.1.1,pInt k.1.1)],[(1,_,_),(2,_,_),(301,_,_),(7,h7, .own 39 5 1 [pInt 0,pInt (t.m:Nat),pInts [0],_, .val k.1.2.1]),(302,k.1.2.1, .own 93 3 (ZV rows++Yk i k.1.2.2.2.2).length ((ZV rows++Yk i k.1.2.2.2.2).flatMap cMv)),(303,k.1.2.2.1, .own 3 1 k.1.2.2.2.1.length ((toI k.1.2.2.2.1).map pInt)),(304,h15, .omap (ikv (YJ (WV t) 0 k.1.2.2.2.1)))]⟩) (fun k=>t.m-k.1.1) ⟨(0,hM,hO,o,[]),rfl,Xf _,hMo,hOo⟩ (fun a w H=>H.weaken ⟨rfl,rfl,rfl,rfl,rfl,rfl,rfl,rfl,rfl,rfl,rfl,trivial⟩ ⟨rfl,rfl,rfl,rfl,rfl,rfl,rfl,trivial⟩) ?_;rintro ⟨⟨s,hM',hO',o',r⟩,hW,hs,hM'o,hO'o⟩;dsimp only;dsimp only at hW hs hM'o hO'o;obtain ⟨hMt,hpr,hrl2,_⟩:=hOk.toMet.row (fun s _=>Kt ht) (show s≤(minW t).m from hs) hW;have hcap':o'.length≤t.rows.length:=hMt.cap;have htl':=GO o';have hmr:=ZdN (n:=i) hrw hm1 oM (show r.length≤t.m by omega);refine Ze ?_;(refine xL 55 ZQ ?_<;>refine Zc ?_)
 refine cX ?_ ?_<;>intro hb55
 · first | exact bN hb55|(
 obtain ⟨y,hy⟩:=Zp (show s<row.length by omega);have hyn:=hrt y (Xc hy);(have e4:((toI row).map pInt)[s*1]? =some (pInt (y:Nat)):=by rw [Xw,Xm];unfold toI;rw [Xm,hy];rfl);have e5:=Ro (fun s=>pInt (WM t s:Nat)) hyn;have hto:(minW t).step i x s=y:=Pd hrow hy;have hid:=ZdM t o' y;refine Ze ?_;(refine xL 56 Zb (xL 57 (ZF Zu) ?_)<;>(refine yL 58 (Yo Zo) fun v58 h=>?_;cases h)<;>refine xL 9 Za (xL 10 Za ?_)<;>refine Zg ?_)
 (refine xL 60 Zb (xL 61 Zb (xL 62 Zb (xL 63 (ZF Zu) ?_)))<;>(refine yL 64 (Yo Zo) fun v64 h=>?_;cases h)<;>refine xL 65 (ZdL (f:=WV t) (L:=o') (a:=y) 304 Gz rfl rfl) ?_<;>refine xL 59 Zb (xL 66 Zi (xL 67 Zi (xL 11 Za (xL 12 Za ?_))))<;>refine Zg ?_)
 (refine xL 68 Zb (xL 69 Yg ?_)<;>refine Zc ?_)
 refine cX ?_ ?_<;>intro hb69
 · first |exact bN hb69|(
 (have hnew:¬posK (WV t) o' (WV t y)<o'.length:=by simpa using hb69);have hnew2:¬posK (minW t).key o' ((minW t).key ((minW t).step i x s))<o'.length:=by
  rw [hto];show ¬posK (WM t) o' (WM t y)<o'.length;rw [←hid];exact hnew
 have hroom:=Pe ht hMt (show (minW t).step i x s<t.rows.length by rw [hto];exact hyn) hnew2;refine Ze ?_;(refine xL 70 Zb (xL 71 (YN 303 Zu) (xL 11 Za ?_))<;>refine Zg ?_)
 (refine xL 72 Zb (xL 73 Zb (xL 74 Zb (xL 75 (ZF Zu) ?_)))<;>(refine yL 76 (Yo Zo) fun v76 h=>?_;cases h)<;>refine xL 77 Zb ?_<;>(refine GU 304 Gz ?_;rw [show K5 (ikv (YJ (WV t) 0 o')) (.int .i64 ((WM t y:Nat):Int)) (.int .i64 ((o'.length:Nat):Int))=ikv (YJ (WV t) 0 (o'++[y])) from Zbf hnew])<;>refine Zg ?_)
 (refine xL 78 Zb (xL 79 Zb ?_)<;>refine ZJ (kk:=1) 80 Zl fun h80 ho80=>?_<;>(refine ZU 303 80 81 Zl fun h81 ho81=>?_;refine Zr (Zy (l:=81) 303 rfl rfl) fun _=>?_;refine Zr (ZP (l:=303) rfl (Hg _ o' y)) fun _=>?_)<;>refine xL 6 Za ?_<;>refine Zg ?_)
 (refine xL 82 (Zd 7 ZC) ?_<;>(refine yL 83 (Zk 7 ZK) fun v83 h=>?_;cases h)<;>refine xL 84 Zb (xL 85 Zb (xL 86 Zb (xL 87 (ZL Kc) ?_)))<;>refine YM 88 Yd fun h88 ho88=>?_<;>(refine ZU 302 88 89 Yd fun h89 ho89=>?_;refine Zr (Zy (l:=89) 302 rfl rfl) fun _=>?_;first|refine Zr (ZP (l:=302) rfl (Kg _ (ZV rows++Yk i r) ⟨(i:Nat),(o'.length:Nat),(s:Nat)⟩)) fun _=>?_|refine Zr (ZP (l:=302) rfl (Kg _ (ZV rows++Yk i r) ⟨(i:Nat),(Y8 (WV t) o' y:Nat),(s:Nat)⟩)) fun _=>?_)<;>refine xL 90 (Zd 7 ZC) ?_<;>refine YZ 7 ZK Wp ?_<;>refine Zg ?_)
 (refine xL 91 ZH (xL 54 Zb ?_)<;>refine Zc ?_)
 try rw [show (ZV rows++Yk i r)++[(⟨(i:Nat),(o'.length:Nat),(s:Nat)⟩:Mv)]=ZV rows++Yk i (r++[o'.length]) by rw [Ku,hrl2,Xz]]
 try rw [show (ZV rows++Yk i r)++[(⟨(i:Nat),(Y8 (WV t) o' y:Nat),(s:Nat)⟩:Mv)]=ZV rows++Yk i (r++[Y8 (WV t) o' y]) by rw [Ku,hrl2,Xz]]
 first
  | (exact Zn (
      ⟨(s+1,h89,h81,o'++[y],r++[o'.length]),(by dsimp only;exact (by have h9:=Srch.row_snoc hW (WR hnew2 hroom);rwa [hto] at h9)),(by dsimp only;omega),ho89,ho81⟩
      ) (by dsimp only;omega) ⟨rfl,rfl,rfl,rfl,rfl,rfl,rfl,rfl,rfl,rfl,rfl,trivial⟩ ⟨rfl,rfl,rfl,rfl,rfl,rfl,rfl,trivial⟩)
  | (exact Zn (
      ⟨(s+1,h89,hO',o',r++[Y8 (WV t) o' y]),(by dsimp only;rw [hnum];exact Srch.row_snoc hW (WQ hold2)),(by dsimp only;omega),ho89,hO'o⟩
      ) (by dsimp only;omega) ⟨rfl,rfl,rfl,rfl,rfl,rfl,rfl,rfl,rfl,rfl,rfl,trivial⟩ ⟨rfl,rfl,rfl,rfl,rfl,rfl,rfl,trivial⟩))
 · first |exact bN hb69|(
 (have hold:posK (WV t) o' (WV t y)<o'.length:=by simpa using hb69);have hold2:posK (minW t).key o' ((minW t).key ((minW t).step i x s))<o'.length:=by
  rw [hto];show posK (WM t) o' (WM t y)<o'.length;rw [←hid];exact hold
 have hnum:Y8 (WV t) o' y=posK (minW t).key o' ((minW t).key ((minW t).step i x s)):=by
  rw [hto];show Y8 (WV t) o' y=posK (WM t) o' (WM t y);unfold Y8;rw [UT hold,hid]
 refine Ze ?_;(refine xL 82 (Zd 7 ZC) ?_<;>(refine yL 83 (Zk 7 ZK) fun v83 h=>?_;cases h)<;>refine xL 84 Zb (xL 85 Zb (xL 86 Zb (xL 87 (ZL Kc) ?_)))<;>refine YM 88 Yd fun h88 ho88=>?_<;>(refine ZU 302 88 89 Yd fun h89 ho89=>?_;refine Zr (Zy (l:=89) 302 rfl rfl) fun _=>?_;first|refine Zr (ZP (l:=302) rfl (Kg _ (ZV rows++Yk i r) ⟨(i:Nat),(o'.length:Nat),(s:Nat)⟩)) fun _=>?_|refine Zr (ZP (l:=302) rfl (Kg _ (ZV rows++Yk i r) ⟨(i:Nat),(Y8 (WV t) o' y:Nat),(s:Nat)⟩)) fun _=>?_)<;>refine xL 90 (Zd 7 ZC) ?_<;>refine YZ 7 ZK Wp ?_<;>refine Zg ?_)
 (refine xL 91 ZH (xL 54 Zb ?_)<;>refine Zc ?_)
 try rw [show (ZV rows++Yk i r)++[(⟨(i:Nat),(o'.length:Nat),(s:Nat)⟩:Mv)]=ZV rows++Yk i (r++[o'.length]) by rw [Ku,hrl2,Xz]]
 try rw [show (ZV rows++Yk i r)++[(⟨(i:Nat),(Y8 (WV t) o' y:Nat),(s:Nat)⟩:Mv)]=ZV rows++Yk i (r++[Y8 (WV t) o' y]) by rw [Ku,hrl2,Xz]]
 first
  | (exact Zn (
      ⟨(s+1,h89,h81,o'++[y],r++[o'.length]),(by dsimp only;exact (by have h9:=Srch.row_snoc hW (WR hnew2 hroom);rwa [hto] at h9)),(by dsimp only;omega),ho89,ho81⟩
      ) (by dsimp only;omega) ⟨rfl,rfl,rfl,rfl,rfl,rfl,rfl,rfl,rfl,rfl,rfl,trivial⟩ ⟨rfl,rfl,rfl,rfl,rfl,rfl,rfl,trivial⟩)
  | (exact Zn (
      ⟨(s+1,h89,hO',o',r++[Y8 (WV t) o' y]),(by dsimp only;rw [hnum];exact Srch.row_snoc hW (WQ hold2)),(by dsimp only;omega),ho89,hO'o⟩
      ) (by dsimp only;omega) ⟨rfl,rfl,rfl,rfl,rfl,rfl,rfl,rfl,rfl,rfl,rfl,trivial⟩ ⟨rfl,rfl,rfl,rfl,rfl,rfl,rfl,trivial⟩)))
 · first |exact bN hb55|(
 have hsm:s=t.m:=oM;subst hsm;have hU2:=Srch.upto_snoc hU hx hW;rw [show ZV rows++Yk i r=ZV (rows++[r]) by rw [Oa,hRl]];rw [TL hpr (i+1) oM];refine Ze ?_;(refine xL 29 Zb (xL 30 ZH (xL 8 Za ?_))<;>refine Zc ?_)
 first
  | (exact Zn (
      ⟨(i+1,h43,hM',hO',o',rows++[r]),hU2,(by dsimp only;have:=hpr.length_le;omega),ho43,hM'o,hO'o⟩
      ) (by dsimp only;omega) ⟨rfl,rfl,rfl,rfl,rfl,rfl,rfl,rfl,trivial⟩ ⟨rfl,rfl,rfl,rfl,rfl,rfl,rfl,trivial⟩)
  | (exact Zn (
      ⟨(i+1,hF,hM',hO',o',rows++[r]),hU2,(by dsimp only;have:=hpr.length_le;omega),hFo,hM'o,hO'o⟩
      ) (by dsimp only;omega) ⟨rfl,rfl,rfl,rfl,rfl,rfl,rfl,rfl,trivial⟩ ⟨rfl,rfl,rfl,rfl,rfl,rfl,rfl,trivial⟩))))
 · first|exact bN hb28|(
 have hio:i=o.length:=oM;subst hio;have hA:=Srch.all_some hU (Xj _) (show o.length≤(minW t).cap from hcap);refine Ze ?_;(refine xL 92 Zb (xL 93 (YN 303 Zu) (xL 94 (Zd 7 ZY) ?_))<;>refine YZ 7 Zo W9 ?_<;>refine Zg ?_)
 (refine xL 95 (Zd 7 ZC) ?_<;>(refine yL 96 (Zk 7 ZK) fun v96 h=>?_;cases h)<;>refine xL 97 (YN 302 ZN) (xL 98 YP ?_)<;>refine Zc ?_)
 refine cX ?_ ?_<;>intro hb98
 · first|exact bN hb98|(
 refine Ze ?_;(refine xL 99 (ZL ZS) ?_<;>refine ZA 2 Zm ?_<;>refine xL 3 Za ?_<;>refine Zc ?_)
 refine Ys (k:=5) 2 kR (results186) rfl rfl rfl (Xa rfl) dC rfl ?_;unfold WS;rw [hA,Vk,UT (by dsimp only;omega)];rfl)
 · first|exact bN hb98|(
 refine nav ?_;refine Zx (Z0 (l:=7) (l':=301) (j:=3) rfl rfl rfl rfl) fun _=>?_;refine Zx (Z0 (l:=7) (l':=302) (j:=4) rfl rfl rfl rfl) fun _=>?_;rw [ZX _ _ _ rfl,Pm _ _ _ rfl];(refine Zt ?_<;>(refine yL 100 (Zs 7 Zm) fun v100 h=>?_;cases h)<;>refine ZA 2 Zm ?_<;>refine xL 3 Za ?_<;>refine Zc ?_)
 refine Ys (k:=5) 2 kR (results186) rfl rfl rfl (Xa rfl) dC rfl ?_;unfold WS;rw [hA,Vk,US (by dsimp only;omega)];rfl))
theorem ZhH {a:Aut} (h:2000<a.n∨20000<a.moves.length):DZ a= .error 13:=by unfold DZ;rw [UT h]
theorem Zj2 {a:Aut} (h:¬(2000<a.n∨20000<a.moves.length)):DZ a=WH a:=by unfold DZ;rw [US h]
theorem Zfo (x:Option Aut):(∃A,x=some A∧resW (lim x)= .tup [ZO A,pInt 0])∨(x=none∧resW (lim x)= .tup [Ll,pInt 13]):=by
 cases x with
 |none=>exact .inr ⟨rfl,rfl⟩
 |some A=>exact .inl ⟨A,rfl,rfl⟩
theorem E4 (x:Except Int Aut):(∃A,x= .ok A∧resW x= .tup [ZO A,pInt 0])∨(∃e,x= .error e∧resW x= .tup [Ll,pInt e]):=by
 cases x with
 |error e=>exact .inr ⟨e,rfl,rfl⟩
 |ok A=>exact .inl ⟨A,rfl,rfl⟩
theorem Zfp {a:Aut} {t:Tab} (h:J5 a=some t):WH a=lim (WS t):=by unfold WH;rw [h]
theorem Zfq {a:Aut} (h:J5 a=none):WH a= .error 13:=by unfold WH;rw [h]
theorem ζo (a:Aut) (hl:a.moves.length≤1000000) (hb:2000<a.n∨20000<a.moves.length):AF prog 132 [ZO a] (· = .tup [Ll,pInt 13]):=by
 refine AF.of_body 28 func132 rfl ntmps132 (Xa rfl) ?_
 intro w0 M0 vs hl hv
 obtain ⟨v0,rfl⟩:=WL hl
 clear hl hv
 refine Ze ?_
 (refine ZG 1 5 fun h1=>?_<;>refine Zw [(.int .i64 0),(.int .i64 0),(.slice none 0 0),(.slice none 0 0),(.slice none 0 0)] 5 2 ZI fun h2=>?_<;>refine xL 3 Za ?_<;>refine Zg ?_)
 (refine xL 6 (Zd 1 ZY) ?_<;>(refine yL 7 (Zk 1 Zo) fun v7 h=>?_;cases h)<;>refine xL 8 YP (xL 9 Zb ?_)<;>(refine bLd 9 (fun hb9=>?_) (fun hb9=>?_)<;>(first|refine kL 10 ?_|refine xL 10 (Zd 1 ZC) ?_))<;>(first|refine kL 11 ?_|(refine yL 11 (Zk 1 ZK) fun v11 h=>?_;cases h))<;>(first|refine kL 12 ?_|refine xL 12 (ZR ZN) ?_)<;>(first|refine kL 13 ?_|refine xL 13 YP ?_)<;>refine xL 14 Zz ?_<;>refine Zc ?_)<;>(
 refine cX ?_ ?_<;>intro hb14
 · refine Ze ?_;(refine xL 15 (ZL ZS) ?_<;>refine ZA 2 Zm ?_<;>refine xL 3 Za ?_<;>refine Zc ?_)
   exact Ys (k:=5) 2 kR (results132) rfl rfl rfl (Xa rfl) dC rfl rfl
 · exfalso
   first
    |omega
    |(simp at hb14;done)
    |(simp at hb14;omega))
theorem HZ (a:Aut) (h:AOk a) (hs:J5 a=none):AF prog 132 [ZO a] (· = .tup [Ll,pInt 13]):=by
 have hn1:=h.n1
 have hml:=h.ml
 have hS:AF prog 185 [ZO a] (fun p=>∃i:{i:Value×Value×Value//i.1.oneCell'=true∧i.2.1.oneCell'=true∧i.2.2.oneCell'=true},p= .tup [.agg [.val i.1.1, .val i.1.2.1, .val i.1.2.2],ZM false]):=(SK a h).mono fun p hp=>by
  rcases hp with ⟨t,h1,_⟩|⟨_,u1,u2,u3,o1,o2,o3,h2⟩
  · rw [hs] at h1;cases h1
  · exact ⟨⟨(u1,u2,u3),o1,o2,o3⟩,h2⟩
 refine AF.of_body 28 func132 rfl ntmps132 (Xa rfl) ?_
 intro w0 M0 vs hl hv
 obtain ⟨v0,rfl⟩:=WL hl
 clear hl hv
 refine Ze ?_
 (refine ZG 1 5 fun h1=>?_<;>refine Zw [(.int .i64 0),(.int .i64 0),(.slice none 0 0),(.slice none 0 0),(.slice none 0 0)] 5 2 ZI fun h2=>?_<;>refine xL 3 Za ?_<;>refine Zg ?_)
 (refine xL 6 (Zd 1 ZY) ?_<;>(refine yL 7 (Zk 1 Zo) fun v7 h=>?_;cases h)<;>refine xL 8 YP (xL 9 Zb ?_)<;>(refine bLd 9 (fun hb9=>?_) (fun hb9=>?_)<;>(first|refine kL 10 ?_|refine xL 10 (Zd 1 ZC) ?_))<;>(first|refine kL 11 ?_|(refine yL 11 (Zk 1 ZK) fun v11 h=>?_;cases h))<;>(first|refine kL 12 ?_|refine xL 12 (ZR ZN) ?_)<;>(first|refine kL 13 ?_|refine xL 13 YP ?_)<;>refine xL 14 Zz ?_<;>refine Zc ?_)<;>(
 refine cX ?_ ?_<;>intro hb14
 · exfalso
   first
    |omega
    |(simp at hb14;done)
    |(simp at hb14;omega)
 · refine Ze ?_;((refine yL 17 (Zs 1 Zm) fun v17 h=>?_;cases h)<;>(refine cPx 18 (cA call185 hS) (fun i va18 vb18 hva18 hvb18=>?_) (fun _=>rfl);cases hvb18;obtain ⟨⟨u1,u2,u3⟩,o1,o2,o3⟩:=i;dsimp only at o1 o2 o3 hva18 ⊢;have q1:En.one (PV.val u1)=true:=o1;have q2:En.one (PV.val u2)=true:=o2;have q3:En.one (PV.val u3)=true:=o3)<;>refine xL 16 Zb (xL 19 Zi (xL 20 Zi ?_))<;>refine Zw [(.int .i64 0),(.slice none 0 0),(.slice none 0 0)] 3 4 Gy fun h4=>?_<;>refine ZA 4 Wn ?_<;>refine xL 5 Za ?_<;>refine Zg ?_)
   (refine xL 21 Zb (xL 22 Yg ?_)<;>refine Zc ?_)
   refine cCt ?_;refine Ze ?_;(refine xL 23 (ZL ZS) ?_<;>refine ZA 2 Zm ?_<;>refine xL 3 Za ?_<;>refine Zc ?_)
   exact Ys (k:=5) 2 kR (results132) rfl rfl rfl (Xa rfl) dC rfl rfl)
theorem Zbg (a:Aut) (h:AOk a) {t:Tab} (hs:J5 a=some t) {A:Aut} (hm:AF prog 186 [Zbb t] (· = .tup [ZO A,pInt 0])):AF prog 132 [ZO a] (· = .tup [ZO A,pInt 0]):=by
 have hn1:=h.n1
 have hml:=h.ml
 have hS:AF prog 185 [ZO a] (· = .tup [Zbb t,ZM true]):=(SK a h).mono fun p hp=>by
  rcases hp with ⟨t',h1,h2⟩|⟨h1,_⟩
  · rw [hs] at h1;cases h1;exact h2
  · rw [hs] at h1;cases h1
 refine AF.of_body 28 func132 rfl ntmps132 (Xa rfl) ?_
 intro w0 M0 vs hl hv
 obtain ⟨v0,rfl⟩:=WL hl
 clear hl hv
 refine Ze ?_
 (refine ZG 1 5 fun h1=>?_<;>refine Zw [(.int .i64 0),(.int .i64 0),(.slice none 0 0),(.slice none 0 0),(.slice none 0 0)] 5 2 ZI fun h2=>?_<;>refine xL 3 Za ?_<;>refine Zg ?_)
 (refine xL 6 (Zd 1 ZY) ?_<;>(refine yL 7 (Zk 1 Zo) fun v7 h=>?_;cases h)<;>refine xL 8 YP (xL 9 Zb ?_)<;>(refine bLd 9 (fun hb9=>?_) (fun hb9=>?_)<;>(first|refine kL 10 ?_|refine xL 10 (Zd 1 ZC) ?_))<;>(first|refine kL 11 ?_|(refine yL 11 (Zk 1 ZK) fun v11 h=>?_;cases h))<;>(first|refine kL 12 ?_|refine xL 12 (ZR ZN) ?_)<;>(first|refine kL 13 ?_|refine xL 13 YP ?_)<;>refine xL 14 Zz ?_<;>refine Zc ?_)<;>(
 refine cX ?_ ?_<;>intro hb14
 · exfalso
   first
    |omega
    |(simp at hb14;done)
    |(simp at hb14;omega)
 · refine Ze ?_;((refine yL 17 (Zs 1 Zm) fun v17 h=>?_;cases h)<;>(refine cP 18 (cA call185 (hS)) fun va18 vb18 hva18 h=>?_;cases h)<;>refine xL 16 Zb (xL 19 Zi (xL 20 Zi ?_))<;>refine Zw [(.int .i64 0),(.slice none 0 0),(.slice none 0 0)] 3 4 Gy fun h4=>?_<;>refine ZA 4 Wn ?_<;>refine xL 5 Za ?_<;>refine Zg ?_)
   (refine xL 21 Zb (xL 22 Yg ?_)<;>refine Zc ?_)
   refine cCf ?_;refine Ze ?_;((refine yL 24 (Zs 4 Wn) fun v24 h=>?_;cases h)<;>(refine cP 25 (cA call186 (hm)) fun va25 vb25 hva25 h=>?_;cases h)<;>refine xL 26 Zi (xL 27 Zi ?_)<;>refine ZA 2 Zm ?_<;>refine xL 3 Za ?_<;>refine Zc ?_)
   exact Ys (k:=5) 2 kR (results132) rfl rfl rfl (Xa rfl) dC rfl rfl)
theorem ζp (a:Aut) (h:AOk a) {t:Tab} (hs:J5 a=some t) (hm:AF prog 186 [Zbb t] (· = .tup [Ll,pInt 13])):AF prog 132 [ZO a] (· = .tup [Ll,pInt 13]):=by
 have hn1:=h.n1
 have hml:=h.ml
 have hS:AF prog 185 [ZO a] (· = .tup [Zbb t,ZM true]):=(SK a h).mono fun p hp=>by
  rcases hp with ⟨t',h1,h2⟩|⟨h1,_⟩
  · rw [hs] at h1;cases h1;exact h2
  · rw [hs] at h1;cases h1
 refine AF.of_body 28 func132 rfl ntmps132 (Xa rfl) ?_
 intro w0 M0 vs hl hv
 obtain ⟨v0,rfl⟩:=WL hl
 clear hl hv
 refine Ze ?_
 (refine ZG 1 5 fun h1=>?_<;>refine Zw [(.int .i64 0),(.int .i64 0),(.slice none 0 0),(.slice none 0 0),(.slice none 0 0)] 5 2 ZI fun h2=>?_<;>refine xL 3 Za ?_<;>refine Zg ?_)
 (refine xL 6 (Zd 1 ZY) ?_<;>(refine yL 7 (Zk 1 Zo) fun v7 h=>?_;cases h)<;>refine xL 8 YP (xL 9 Zb ?_)<;>(refine bLd 9 (fun hb9=>?_) (fun hb9=>?_)<;>(first|refine kL 10 ?_|refine xL 10 (Zd 1 ZC) ?_))<;>(first|refine kL 11 ?_|(refine yL 11 (Zk 1 ZK) fun v11 h=>?_;cases h))<;>(first|refine kL 12 ?_|refine xL 12 (ZR ZN) ?_)<;>(first|refine kL 13 ?_|refine xL 13 YP ?_)<;>refine xL 14 Zz ?_<;>refine Zc ?_)<;>(
 refine cX ?_ ?_<;>intro hb14
 · exfalso
   first
    |omega
    |(simp at hb14;done)
    |(simp at hb14;omega)
 · refine Ze ?_;((refine yL 17 (Zs 1 Zm) fun v17 h=>?_;cases h)<;>(refine cP 18 (cA call185 (hS)) fun va18 vb18 hva18 h=>?_;cases h)<;>refine xL 16 Zb (xL 19 Zi (xL 20 Zi ?_))<;>refine Zw [(.int .i64 0),(.slice none 0 0),(.slice none 0 0)] 3 4 Gy fun h4=>?_<;>refine ZA 4 Wn ?_<;>refine xL 5 Za ?_<;>refine Zg ?_)
   (refine xL 21 Zb (xL 22 Yg ?_)<;>refine Zc ?_)
   refine cCf ?_;refine Ze ?_;((refine yL 24 (Zs 4 Wn) fun v24 h=>?_;cases h)<;>(refine cP 25 (cA call186 (hm)) fun va25 vb25 hva25 h=>?_;cases h)<;>refine xL 26 Zi (xL 27 Zi ?_)<;>refine ZA 2 Zm ?_<;>refine xL 3 Za ?_<;>refine Zc ?_)
   exact Ys (k:=5) 2 kR (results132) rfl rfl rfl (Xa rfl) dC rfl rfl)
theorem LZ (a:Aut) (h:AOk a):AF prog 132 [ZO a] (· =resW (WH a)):=by
 rcases hs:J5 a with _|t
 · rw [Zfq hs];exact HZ a h hs
 · have hm:=ZcX t (ζd h hs);rw [Zfp hs];rcases Zfo (WS t) with ⟨A,_,h2⟩|⟨_,h2⟩
   · rw [h2] at hm ⊢;exact Zbg a h hs hm
   · rw [h2] at hm ⊢;exact ζp a h hs hm
theorem ZcY (a:Aut) (hl:a.moves.length≤1000000) (h:¬(2000<a.n∨20000<a.moves.length)→AOk a):AF prog 132 [ZO a] (· =resW (DZ a)):=by
 by_cases hb:2000<a.n∨20000<a.moves.length
 · rw [ZhH hb];exact ζo a hl hb
 · rw [Zj2 hb];exact LZ a (h hb)
theorem H3 (a:Aut) (hv:Z4 a=false):AF prog 84 [ZO a] (· = .tup [Ll,pInt 1]):=by
 refine AF.of_body 12 func84 rfl ntmps84 (Xa rfl) ?_
 intro w0 M0 vs hl hv
 obtain ⟨v0,rfl⟩:=WL hl
 clear hl hv
 refine Ze ?_
 (refine ZG 1 5 fun h1=>?_<;>refine Zw [(.int .i64 0),(.int .i64 0),(.slice none 0 0),(.slice none 0 0),(.slice none 0 0)] 5 2 ZI fun h2=>?_<;>refine xL 3 Za ?_<;>refine Zg ?_)
 ((refine yL 4 (Zs 1 Zm) fun v4 h=>?_;cases h)<;>(refine cS 5 (cA call107 (Wg a)) fun v5 h=>?_;cases h)<;>refine xL 6 Yg ?_<;>refine Zc ?_)
 refine cX ?_ ?_<;>intro hb6
 · refine Ze ?_;(refine xL 7 (ZL ZS) ?_<;>refine ZA 2 Zm ?_<;>refine xL 3 Za ?_<;>refine Zc ?_)
   exact Ys (k:=5) 2 kR (results84) rfl rfl rfl (Xa rfl) dC rfl rfl
 · rw [hv] at hb6;simp at hb6
theorem ζq (a:Aut) (hv:Z4 a=true) {A:Aut} (hm:AF prog 132 [ZO a] (· = .tup [ZO A,pInt 0])):AF prog 84 [ZO a] (· = .tup [ZO A,pInt 0]):=by
 refine AF.of_body 12 func84 rfl ntmps84 (Xa rfl) ?_
 intro w0 M0 vs hl hv
 obtain ⟨v0,rfl⟩:=WL hl
 clear hl hv
 refine Ze ?_
 (refine ZG 1 5 fun h1=>?_<;>refine Zw [(.int .i64 0),(.int .i64 0),(.slice none 0 0),(.slice none 0 0),(.slice none 0 0)] 5 2 ZI fun h2=>?_<;>refine xL 3 Za ?_<;>refine Zg ?_)
 ((refine yL 4 (Zs 1 Zm) fun v4 h=>?_;cases h)<;>(refine cS 5 (cA call107 (Wg a)) fun v5 h=>?_;cases h)<;>refine xL 6 Yg ?_<;>refine Zc ?_)
 refine cX ?_ ?_<;>intro hb6
 · rw [hv] at hb6;simp at hb6
 · refine Ze ?_;((refine yL 8 (Zs 1 Zm) fun v8 h=>?_;cases h)<;>(refine cP 9 (cA call132 (hm)) fun va9 vb9 hva9 h=>?_;cases h)<;>refine xL 10 Zi (xL 11 Zi ?_)<;>refine ZA 2 Zm ?_<;>refine xL 3 Za ?_<;>refine Zc ?_)
   exact Ys (k:=5) 2 kR (results84) rfl rfl rfl (Xa rfl) dC rfl rfl
theorem H4 (a:Aut) (hv:Z4 a=true) {e:Int} (hm:AF prog 132 [ZO a] (· = .tup [Ll,pInt e])):AF prog 84 [ZO a] (· = .tup [Ll,pInt e]):=by
 refine AF.of_body 12 func84 rfl ntmps84 (Xa rfl) ?_
 intro w0 M0 vs hl hv
 obtain ⟨v0,rfl⟩:=WL hl
 clear hl hv
 refine Ze ?_
 (refine ZG 1 5 fun h1=>?_<;>refine Zw [(.int .i64 0),(.int .i64 0),(.slice none 0 0),(.slice none 0 0),(.slice none 0 0)] 5 2 ZI fun h2=>?_<;>refine xL 3 Za ?_<;>refine Zg ?_)
 ((refine yL 4 (Zs 1 Zm) fun v4 h=>?_;cases h)<;>(refine cS 5 (cA call107 (Wg a)) fun v5 h=>?_;cases h)<;>refine xL 6 Yg ?_<;>refine Zc ?_)
 refine cX ?_ ?_<;>intro hb6
 · rw [hv] at hb6;simp at hb6
 · refine Ze ?_;((refine yL 8 (Zs 1 Zm) fun v8 h=>?_;cases h)<;>(refine cP 9 (cA call132 (hm)) fun va9 vb9 hva9 h=>?_;cases h)<;>refine xL 10 Zi (xL 11 Zi ?_)<;>refine ZA 2 Zm ?_<;>refine xL 3 Za ?_<;>refine Zc ?_)
   exact Ys (k:=5) 2 kR (results84) rfl rfl rfl (Xa rfl) dC rfl rfl
theorem Od (a:Aut):AF prog 84 [ZO a] (· =resW (GZ a)):=by
 unfold GZ
 cases hv:Z4 a with
 |false=>rw [US sM];exact H3 a hv
 | true=>
   rw [UT rfl];have hm:=LZ a (GY hv);rcases E4 (WH a) with ⟨A,_,h2⟩|⟨e,_,h2⟩
   · rw [h2] at hm ⊢;exact ζq a hv hm
   · rw [h2] at hm ⊢;exact H4 a hv hm
section
variable {α:Type}
end
theorem Zbh {P:Program} {c:Ctx} {sL hP:List (Nat×Ent)} {ops:Array Oper} {Q:Exit→Act→World→Prop} {o:Oper} {rest:List Oper} {fs g k e d l:Nat} {cs:List PV} {h:Value} {q q':PV} {x y:Operand} {ats:Array TypeId} (hS:∀(p:Option Addr) (cap:Nat) (fv:Value) (w:World),Calls P fs #[.slice p 0 cap,fv] w fun e w'=>e= .returned (.tuple #[])∧w'=w)
 (hw:ZT ops sL o=some true) (hd:o.dst=some d) (hdn:d<c.nt) (ho:o.op= .call {callee:= .value (.func fs),args:= #[x,y],argTypes:=ats}) (hc:∀args w,(callFunc fs args).run P w= .ok (.enter fs args) w) (hx:ev sL x=some (h,q)) (hy:ev sL y=some (.func (.func g) #[] #[],q')) (hl:lk hP l=some (h, .own e k 0 cs))
 (kk:aL P c ops Q rest ⟨put d (.tuple #[], .val (.tuple #[])) sL,hP⟩):aL P c ops Q (o::rest) (⟨sL,hP⟩:St):=
 Yy hw fun a w F H=>by
  have hxv:=(H.rd.ev hx).1;have hyv:=(H.rd.ev hy).1;obtain ⟨xs,Fs,hrow,_⟩:=(H.tr l _ _ hl).row;obtain ⟨p,cap,rfl⟩:∃p cap,h= .slice p 0 cap:=by
   rcases YG hrow with ⟨h1,_⟩|⟨g,cap,h1,_⟩
   · exact ⟨_,_,h1⟩
   · exact ⟨_,_,h1⟩
  unfold Oper.wp;have hrun:(execOp a.eval o).run P w= .ok (.enter fs #[.slice p 0 cap, .func (.func g) #[] #[]]) w:=by
   have hev:a.eval (.func fs)= .func (.func fs) #[] #[]:=rfl;simp [execOp,ho,resolve,Deferred.ofValue,hev,invoke,hxv,hyv,hc]
  rw [hrun,Oper.upon_enter];refine (hS p cap _ w).mono fun e' w' ⟨he',hw'⟩=>?_;subst he' hw';rw [hd];exact kk _ _ ⟨F,H.put hdn (.val _)⟩
theorem GB {a b:Mv}:JV a b<0↔Jo a b=true:=by unfold Jo;rw [UP]
theorem E5 (a:Mv):¬JV a a<0:=fun h=>by have:=GB.1 h;rw [Gt] at this;cases this
theorem Zbi (a b c:Mv) (h1:JV a b<0) (h2:JV b c<0):JV a c<0:=GB.2 (Rs (GB.1 h1) (GB.1 h2))
theorem Zbj (a b c:Mv) (h1:¬JV a b<0) (h2:¬JV b c<0):¬JV a c<0:=fun h=>by
 rw [GB,Lj] at h1 h2 h
 omega
def Hi (l:List Mv):Prop:=∀(i j:Nat) (a b:Mv),i<j→l[i]? =some a→l[j]? =some b→¬JV b a<0
theorem ZcZ {l:List Mv} (h:Hi l) (hn:l.Nodup):AscM l:=by
 unfold AscM
 rw [Up]
 intro i j hi hj hij
 have h1:=h i j l[i] l[j] hij (XX hi) (XX hj)
 rw [GB] at h1
 cases h2:Jo l[i] l[j] with
 |true=>rfl
 | false=>
   have h3:=DW h2 (by simpa using h1);exact UU (List.getElem_inj hn |>.1 h3) oM
theorem ZhI {l:List Mv} (h:AscM l) {k:Nat} {x y:Mv} (hy:l[k]? =some y) (hx:l[k+1]? =some x):eqM x y=false:=by
 have h1:=Up.1 h k (k+1) (Zf hy) (Zf hx) oM
 rw [(XM.1 hy).2,(XM.1 hx).2] at h1
 cases h2:eqM x y with
 |false=>rfl
 |true=>rw [GN.1 h2,Gt] at h1;cases h1
theorem Zl7:prog.underlying 93=some (.struct (prog.fieldsOf 93)):=by kernel_rfl
theorem Zl8:prog.stoodInHeld 93=false:=by kernel_rfl
theorem Zl9:prog.eqGuardType prog.depth 93=false:=by kernel_rfl
def vMv (m:Mv):List Value:=[Value.int .i64 m.src, .int .i64 m.dst, .int .i64 m.sym]
theorem Pn (x y:Mv) (w:World):(Op.eqFields 9999 (vMv x).toArray (vMv y).toArray (prog.fieldsOf 93).toList).run prog w= .ok (eqM x y) w:=by
 unfold vMv eqM
 simp only [Program.fieldsOf,underlying93]
 simp [Op.eqFields,part,run_equalIn_int w 9998 3 .i64 .i64 x.src y.src underlying3,run_equalIn_int w 9998 3 .i64 .i64 x.dst y.dst underlying3,run_equalIn_int w 9998 3 .i64 .i64 x.sym y.sym underlying3]
 by_cases h1:x.src=y.src<;>by_cases h2:x.dst=y.dst<;>by_cases h3:x.sym=y.sym<;>simp [h1,h2,h3]
theorem YB (l:List Mv) (hl:l.length≤1000000):AF prog 138 [pMvs l] (· = .own 93 3 l.length (l.flatMap cMv)):=by
 refine AF.of_body 8 func138 rfl ntmps138 (Xa rfl) ?_
 intro w0 M0 vs hl hv
 obtain ⟨v0,rfl⟩:=WL hl
 clear hl hv
 have f3:(l.flatMap cMv).length=l.length*3:=flat_len Z8 l
 have f4:(l.flatMap cMv).all En.one=true:=ZjL l
 refine Ze ?_
 (refine xL 2 Za ?_<;>refine Zg ?_)
 (refine xL 3 Zb ?_<;>(refine yL 4 (Zdw ZN) fun v4 hv4=>?_;rcases hv4 with rfl|⟨rfl,hn0⟩)<;>refine Zc ?_)<;>(
 refine cX ?_ ?_<;>intro hb4
 · first|exact bN hb4|(
 refine Ze ?_;(refine xL 2 Za ?_<;>refine Zc ?_)
 have hl0:l=[]:=XO hn0;subst hl0;refine YR (KB 200 93 3 rfl) fun _=>?_;exact JB 200 (results138) rfl rfl rfl)
 · first|exact bN hb4|(
 refine Ze ?_;(refine Zch 5 Yd fun h5 ho5=>?_<;>refine xL 6 Zb ?_<;>refine Sx 5 7 Yd (fun h7 ho7=>?_) f3 f4<;>refine xL 2 Za ?_<;>refine Zc ?_)
 refine JB 7 (results138) rfl rfl ?_;rw [Xv,Vp]))
theorem ZhJ:AggT prog 93 3=true:=by kernel_rfl
theorem Zbk:Zlf prog 188 153 3:=fun enc hk h1 cf hO blk cap d w hcmp hH hblk hsz=>
 AnyQ.slices_SortFunc Tryz.sortMvL 3 (fun w=>AggT.run ZhJ w) (fun w=>AggT.size ZhJ w) enc hk h1 cf hO 153 #[] blk 0 cap d w (call153) hcmp hH hblk hsz
theorem Oe (p:Option Addr) (cap:Nat) (fv:Value) (w:World):Calls prog 188 #[.slice p 0 cap,fv] w fun e w'=>e= .returned (.tuple #[])∧w'=w:=(AnyF.slices_SortFunc_none Tryz.sortMvL p cap fv w).mono fun e w' ⟨h1,h2⟩=>⟨h1,h2⟩
theorem E6 (x y:Mv) (M:BS) (W:World) (u v:Value) (hu:Shr M W u (.agg (cMv x))) (hv:Shr M W v (.agg (cMv y))):Calls prog 153 #[u,v] W fun e w'=>e= .returned (.int .i64 (JV x y))∧∃q os',w'=Go.Sort.grow (W.drewN q) os':=(P3 x y).exact2 hu hv
theorem H5 (l:List Mv) (hl:l.length≤1000000) (ha:AscM l) (hv:Value):AFh False prog 189 [(0,hv, .val hv)] [(1000,hv, .own 93 3 l.length (l.flatMap cMv))] (fun v q h=>v=hv∧q= .val hv∧h=[(1000,hv, .own 93 3 l.length (l.flatMap cMv))]):=by
 refine AFh.of_body 61 func189 rfl ntmps189 (Xa rfl) rfl ?_
 intro w0 M0 N0
 refine Ze ?_
 (refine xL 2 Za ?_<;>refine Zg ?_)
 (refine xL 6 Zb (xL 7 (YN 1000 ZN) (xL 8 ZQ ?_))<;>refine Zc ?_)
 refine cX ?_ ?_<;>intro hb8
 · first|exact bN hb8|(
 refine Ze ?_;(refine xL 9 Zb (xL 2 Za ?_)<;>refine Zc ?_)
 exact Dg [(1000,hv,PV.own 93 3 l.length (l.flatMap cMv))] (results189) rfl ⟨rfl,trivial⟩ ⟨rfl,rfl,rfl⟩)
 · first | exact bN hb8|(
 refine Ze ?_;(refine xL 3 Za ?_<;>refine Zc ?_)
 refine ZD (ι:={k:Nat//1≤k∧k≤l.length}) (fun k=>⟨[(0,_,_),(3, .int .i64 k.1,pInt k.1)],[(1000,_,_)]⟩) (fun k=>l.length-k.1) ⟨1,Xj _,oM⟩ (fun a w H=>H.weaken ⟨rfl,rfl,trivial⟩ ⟨rfl,trivial⟩) ?_;rintro ⟨k1,hk1,hk⟩;dsimp only;obtain ⟨k,rfl⟩:∃k,k1=k+1:=⟨k1-1,oM⟩;refine Ze ?_;(refine xL 10 Zb (xL 11 Zb (xL 12 (YN 1000 ZN) (xL 13 ZQ ?_)))<;>refine Zc ?_)
 refine cX ?_ ?_<;>intro hb13
 · first|exact bN hb13|(
 obtain ⟨x,hx⟩:=Zp (show k+1<l.length by omega);obtain ⟨y,hy⟩:=Zp (show k<l.length by omega);have e1:=Yc Z8 l (k+1) x hx;have e2:=Yz Z8 hx;(have e3:((l.flatMap cMv).drop ((((k+1:Nat):Int)-1).toNat*3)).take 3=cMv y:=by rw [show (((k+1:Nat):Int)-1).toNat*3=k*3 by omega];exact Yc Z8 l k y hy);have e4:=Yz Z8 hy;have hne:=ZhI ha hy hx;refine nav ?_;(refine Z5 (fun i=>([]:List Nat).elem i) [1000] kR ?_<;>refine xD 0 16 rfl Zb ?_<;>refine xD 1 17 rfl Zb ?_<;>refine xD 2 18 rfl (YL 1000 ZN) ?_<;>(refine yD 3 19 rfl (Zs 1000 Z1) fun v19 h=>?_;cases h)<;>refine xD 4 20 rfl Zb ?_<;>refine xE 5 21 rfl Zb ?_<;>refine xE 6 22 rfl Tp ?_<;>refine xE 7 23 rfl (K7 1000 ZN) ?_<;>(refine yE 8 24 rfl (Zs 1000 Z1) fun v24 h=>?_;cases h)<;>refine xE 9 25 rfl ((Zlh (us:=vMv x) (us':=vMv y) Zl7 Zl8 Zl9 (Pn x y) rfl rfl)) ?_<;>refine YC kR (nav ?_)<;>try dsimp only)
 refine cX ?_ ?_<;>intro hb25
 · rw [hne] at hb25;cases hb25
 · refine Ze ?_;(refine xL 14 Zb (xL 15 ZH (xL 3 Za ?_))<;>refine Zc ?_)
   refine Zn (
    ⟨k+1+1,oM,oM⟩
    ) (by dsimp only;omega) ⟨rfl,rfl,trivial⟩ ⟨rfl,trivial⟩)
 · first|exact bN hb13|(
 refine Ze ?_;(refine xL 60 Zb (xL 2 Za ?_)<;>refine Zc ?_)
 exact Dg [(1000,hv,PV.own 93 3 l.length (l.flatMap cMv))] (results189) rfl ⟨rfl,trivial⟩ ⟨rfl,rfl,rfl⟩))
theorem Zfr {l r:List Mv} (hp:r.Perm l) (hs:Hi r) (hn:l.Nodup):r=mkM l:=ZcO (ZcZ hs (hp.nodup_iff.2 hn)) fun x=>hp.mem_iff
theorem Hj {l:List Mv} (hn:l.Nodup):(mkM l).length=l.length:=by
 refine Nat.le_antisymm (ζg l) ?_
 have : ∀{l:List Mv} {m:List Mv},l.Nodup→(∀x∈l,x∈m)→l.length≤m.length:=fun {l}=>by
  induction l with
  |nil=>intro m _ _;exact Xf _
  | cons x l ih=>
    intro m h hm;rw [Vc] at h;obtain ⟨a,b,rfl⟩:=List.append_of_mem (hm x (Xi ..));have:=ih (m:=a++b) h.2 fun y hy=>by
     rcases Xh.1 (hm y (Xn _ hy)) with h1|h1
     · exact XZ _ h1
     · rcases Xq.1 h1 with rfl|h1
       · exact UU hy h.1
       · exact Ve _ h1
    simp only [Xb,Xk] at this ⊢;omega
 exact this hn fun x hx=>KM.2 hx
structure R5 (p0 p1 p2 p3 p4:PV):Prop where
 o:En.one p0=true∧En.one p1=true∧En.one p2=true∧En.one p3=true∧En.one p4=true
 s:[p0,p1,p2,p3,p4].all isSh=true
 d:shD (.agg [p0,p1,p2,p3,p4])=true
theorem R5.aut (A:Aut):R5 (pInt A.n) (pInt A.syms) (pInts A.start) (pInts A.fin) (pMvs A.moves):=⟨⟨rfl,rfl,rfl,rfl,rfl⟩,rfl,rfl⟩
theorem R5.raw:R5 (pInt 0) (pInt 0) (.val (.slice none 0 0)) (.val (.slice none 0 0)) (.val (.slice none 0 0)):=⟨⟨rfl,rfl,rfl,rfl,rfl⟩,rfl,rfl⟩
theorem R5.t {p0 p1 p2 p3 p4:PV} (h:R5 p0 p1 p2 p3 p4) (E:Int):shD (.tup [.agg [p0,p1,p2,p3,p4],pInt E])=true:=by
 show (shD (.agg [p0,p1,p2,p3,p4])&&(true&&true))=true
 rw [h.d];rfl
theorem ζr (a:Aut) (hl:a.moves.length≤1000000) (hnd:a.moves.Nodup) (V hM:Value) (hMo:hM.oneCell'=true) {p0 p1 p2 p3 p4:PV} {E:Int} (h5:R5 p0 p1 p2 p3 p4) (hr:AF prog 132 [ZO (mkA a)] (· = .tup [.agg [p0,p1,p2,p3,p4],pInt E])):AFh False prog 137 [(0,V, .agg [pInt a.n,pInt a.syms,pInts a.start,pInts a.fin, .val hM])] [(1000,hM, .own 93 3 a.moves.length (a.moves.flatMap cMv))] (fun v q h=>(∃V1:Value,v= .tuple [V1, .int .i64 E].toArray)∧q= .tup [.agg [p0,p1,p2,p3,p4],pInt E]∧h=[]):=by
 obtain ⟨o0,o1,o2,o3,o4⟩:=h5.o
 refine AFh.of_body 15 func137 rfl ntmps137 (Xa rfl) rfl ?_
 intro w0 M0 N0
 have hone:En.one (PV.val hM)=true:=hMo
 refine Ze ?_
 (refine ZG 1 5 fun h1=>?_<;>refine Zw [(.int .i64 0),(.int .i64 0),(.slice none 0 0),(.slice none 0 0),(.slice none 0 0)] 5 2 ZI fun h2=>?_<;>refine xL 3 Za ?_<;>refine Zg ?_)
 (refine xL 4 (Zd 1 ZC) ?_<;>(refine yL 5 (Zk 1 ZK) fun v5 h=>?_;cases h)<;>(rcases Vb a.moves.length with h0|h0<;>first|(refine Zr (ZP (l:=1000) (p':= .own 93 3 0 []) rfl (by rw [XO h0];rfl)) fun _=>?_;refine Zbh (l:=1000) Oe rfl rfl (Xa rfl) rfl (call188) rfl rfl rfl ?_;refine Zr (ZP (l:=1000) (p':= .own 93 3 (mkM a.moves).length ((mkM a.moves).flatMap cMv)) rfl (by rw [XO h0];rfl)) fun _=>?_)|(refine Zdt (l:=1000) (β:=Mv) (f:=cMv) (cmp:=JV) (rows:=a.moves) Zbk Z8 dC (fun _=>rfl) E5 Zbi Zbj (fun x y M W u v _ _ hu hv=>E6 x y M W u v hu hv) h0 oM rfl rfl (Xa rfl) rfl (call188) rfl rfl rfl (fun rows' hperm hord=>?_);refine Zr (ZP (l:=1000) (p':= .own 93 3 (mkM a.moves).length ((mkM a.moves).flatMap cMv)) rfl (by rw [Zfr hperm hord hnd,Hj hnd])) fun _=>?_))<;>refine Zc ?_)<;>(
 (refine Zt ?_<;>refine xL 7 (Zd 1 ZC) ?_<;>(refine yL 8 (Zk 1 ZK) fun v8 h=>?_;cases h)<;>(refine Wy [(1000,hM,PV.own 93 3 (mkM a.moves).length ((mkM a.moves).flatMap cMv)),(1,_,_),(2,_,_)] ⟨rfl,rfl,rfl,trivial⟩ ?_;refine WP [1,2] 9 (call189) (H5 (mkM a.moves) (by have:=ζg a.moves;omega) (J6 _) hM) ?_;rintro v9 _ _ ⟨hv9,rfl,rfl⟩;have hv9':=hv9.symm;subst hv9')<;>refine xL 10 (Zd 1 ZC) ?_<;>refine YZ 1 ZK Wp ?_<;>refine Zc ?_)
 refine Zx (Z0 (l:=1) (l':=1000) (j:=4) rfl rfl rfl rfl) fun _=>?_;rw [Pm _ _ _ rfl];(refine Zt ?_<;>(refine yL 11 (Zs 1 Zm) fun v11 h=>?_;cases h)<;>(refine cP 12 (cA call132 hr) (fun va12 vb12 hva12 hvb12=>?_) (hsh:=h5.t E);cases hvb12)<;>refine xL 13 Zi (xL 14 Zi ?_)<;>refine ZA 2 Zm ?_<;>refine xL 3 Za ?_<;>refine Zc ?_)
 exact Zdy (k:=5) 2 [] kR (results137) rfl rfl rfl (Xa rfl) dC h5.s trivial fun V=>⟨⟨V,rfl⟩,rfl,rfl⟩)
theorem Zbl (a:Aut) (hl:a.moves.length≤1000000) (h:PreA a):AF prog 132 [ZO (mkA a)] (· =resW (Jh a)):=
 ZcY (mkA a) (by have:=ζg a.moves;show (mkM a.moves).length≤1000000;omega) h.aok
theorem L0 (a:Aut) (hl:a.moves.length≤1000000) (h:PreA a):∃p0 p1 p2 p3 p4 E,R5 p0 p1 p2 p3 p4∧resW (Jh a)= .tup [.agg [p0,p1,p2,p3,p4],pInt E]∧AF prog 132 [ZO (mkA a)] (· = .tup [.agg [p0,p1,p2,p3,p4],pInt E]):=by
 have hr:=Zbl a hl h
 rcases E4 (Jh a) with ⟨A,_,h2⟩|⟨e,_,h2⟩
 · rw [h2] at hr ⊢;exact ⟨_,_,_,_,_,_,R5.aut A,rfl,hr⟩
 · rw [h2] at hr ⊢;exact ⟨_,_,_,_,_,_,R5.raw,rfl,hr⟩
theorem Hk {α β:Type} {f:α→List β} {m:Nat} (hf:∀x,(f x).length=m):∀(L:List α) (k:Nat),(L.flatMap f).take (k*m)=(L.take k).flatMap f
 |[],k=>sM
 |x::L,0=>sM
 | x::L,k+1=>by
   rw [Uj,Xu,Xu,←Hk hf L k,List.take_append,Xo (by rw [hf,VF];omega),hf,show (k+1)*m-m=k*m by rw [VF];omega]
theorem Po:∀{l:List Mv},AscM l→Ws Jo l=true
 |[],_=>rfl
 |[_],_=>rfl
 | x::y::l,h=>by
   have h':=XP.1 h;rw [Ws,Xe];exact ⟨h'.1 y (Xi ..),Po h'.2⟩
theorem E7:∀{l:List Int},Srt l→Ws ltI l=true
 |[],_=>rfl
 |[_],_=>rfl
 | x::y::l,h=>by
   have h':=XP.1 h;rw [Ws,Xe];exact ⟨by unfold ltI;simpa using h'.1 y (Xi ..),E7 h'.2⟩
theorem ZdO {a:Aut} {l:List Int} (h:InS a l) (hs:Srt l):LL a.n l=true:=by
 unfold LL
 rw [Xe,XB]
 refine ⟨fun x hx=>?_,E7 hs⟩
 have:=h x hx
 simp [this.1,this.2]
theorem Zm1 {a:Aut} (h:PreA a) (hs:Srt a.start) (hf:Srt a.fin) (hn:¬2000<a.n) (hm:¬20000<(mkM a.moves).length):Z4 (mkA a)=true:=by
 have h1:=h.n0
 have h2:=h.s0
 have h3:=h.s1
 unfold Z4
 simp only [Xe,UP]
 refine ⟨⟨⟨⟨⟨⟨⟨⟨h1,by show a.n≤2000;omega⟩,h2⟩,h3⟩,by show (mkM a.moves).length≤20000;omega⟩,ZdO h.st hs⟩,ZdO h.fi hf⟩,?_⟩,Po (J6 _)⟩
 rw [XB]
 intro m hm'
 have hm':m∈mkM a.moves:=hm'
 have:=h.mv m (KM.1 hm')
 unfold Dt
 simp only [Xe,UP]
 show ((((0≤m.src∧m.src<a.n)∧0≤m.dst)∧m.dst<a.n)∧-1≤m.sym)∧m.sym<a.syms
 omega
def Zbm (b:Aut):Except Int Aut:=if 2000<b.n∨20000<b.moves.length then .error 13 else GZ b
theorem Zfs {a:Aut} (h:PreA a) (hs:Srt a.start) (hf:Srt a.fin):Jh a=Zbm (mkA a):=by
 unfold Jh DZ Zbm GZ
 show (if 2000<a.n∨20000<(mkM a.moves).length then _ else WH (mkA a))=(if 2000<a.n∨20000<(mkM a.moves).length then _ else _)
 by_cases hb:2000<a.n∨20000<(mkM a.moves).length
 · rw [UT hb,UT hb]
 · rw [US hb,US hb,UT (Zm1 h hs hf (fun h=>hb (.inl h)) (fun h=>hb (.inr h)))]
section
variable {a b:Aut}
theorem Zbn {n:Int} {l:List Int} (h:Srt l):Srt (WI n l):=Um.2 (h.imp fun h=>oM)
theorem ZhK (ha:VOk a) (hb:VOk b) (hs:a.syms=b.syms):Jh (Kz a b)=Zbm (mkA (Kz a b)):=Zfs (OU ha hb hs) ha.ss (Zbn hb.fs)
theorem ζs (a b:Aut):(Kz a b).moves.length=a.moves.length+b.moves.length+a.fin.length*b.start.length:=by
 show (a.moves++J7 a.n b.moves++TI a.n a.fin b.start).length=_
 rw [Xb,Xb,Rw,D8]
theorem Zft (ha:VOk a) (hb:VOk b) (h:2000<a.n+b.n∨20000<a.moves.length+b.moves.length+a.fin.length*b.start.length):Zbm (mkA (Kz a b))= .error 13:=by
 unfold Zbm
 rw [UT]
 show 2000<a.n+b.n∨20000<(mkM (Kz a b).moves).length
 rw [Hj (EW ha hb),ζs];exact h
end
def shL (m:Int) (x:Mv):List Mv:=(List.range m.toNat).map fun j=>⟨x.src*m+(j:Nat),x.dst*m+(j:Nat),x.sym⟩
def shR (n m:Int) (x:Mv):List Mv:=(List.range n.toNat).map fun i=>⟨(i:Nat)*m+x.src,(i:Nat)*m+x.dst,x.sym⟩
def shI (m:Int) (l k:List Int):List Int:=l.flatMap fun i=>WI (i*m) k
def shM (n m:Int) (l k:List Mv):List Mv:=l.flatMap (shL m)++k.flatMap (shR n m)
def Kw (a b:Aut):Aut:=⟨a.n*b.n,a.syms,shI b.n a.start b.start,shI b.n a.fin b.fin,shM a.n b.n a.moves b.moves⟩
def RA (a b:Aut):Except Int Aut:=if ¬WW a b=0 then .error (WW a b) else if 2000<a.n*b.n∨40000<(a.moves.length:Int)*b.n+(b.moves.length:Int)*a.n then .error 13 else Jh (Kw a b)
theorem Zc0 {m i j i' j':Int} (h:i<i') (h0:0≤j) (h1:j<m) (h2:0≤j'):i*m+j<i'*m+j':=by
 have h3:(i+1)*m≤i'*m:=Int.mul_le_mul_of_nonneg_right oM oM
 rw [Int.add_mul,Int.one_mul] at h3
 omega
theorem RB {m i j i' j':Int} (h:i*m+j=i'*m+j') (h1:0≤j∧j<m) (h2:0≤j'∧j'<m):i=i'∧j=j':=by
 have h3:i=i':=by
  rcases Int.lt_trichotomy i i' with h3|h3|h3
  · have:=Zc0 h3 h1.1 h1.2 h2.1;omega
  · exact h3
  · have:=Zc0 h3 h2.1 h2.2 h1.1;omega
 subst h3
 exact ⟨rfl,oM⟩
theorem Hl {n m i j:Int} (hi:0≤i∧i<n) (hj:0≤j∧j<m):0≤i*m+j∧i*m+j<n*m:=by
 have h3:(i+1)*m≤n*m:=Int.mul_le_mul_of_nonneg_right oM oM
 have h4:0≤i*m:=Int.mul_nonneg hi.1 oM
 rw [Int.add_mul,Int.one_mul] at h3
 omega
theorem T6 {m x:Int} {l k:List Int}:x∈shI m l k↔∃i∈l,∃j∈k,i*m+j=x:=by
 unfold shI
 simp only [XT,Ka]
 constructor
 · rintro ⟨i,h1,j,h2,h3⟩;exact ⟨i,h1,j,h2,oM⟩
 · rintro ⟨i,h1,j,h2,h3⟩;exact ⟨i,h1,j,h2,oM⟩
theorem Zj3 {m:Int} {x y:Mv}:y∈shL m x↔∃j:Nat,(j:Int)<m∧(⟨x.src*m+(j:Nat),x.dst*m+(j:Nat),x.sym⟩:Mv)=y:=by
 unfold shL
 rw [Xg]
 constructor
 · rintro ⟨j,h1,h2⟩;rw [Vi] at h1;exact ⟨j,oM,h2⟩
 · rintro ⟨j,h1,h2⟩;exact ⟨j,by rw [Vi];omega,h2⟩
theorem Zj4 {n m:Int} {x y:Mv}:y∈shR n m x↔∃i:Nat,(i:Int)<n∧(⟨(i:Nat)*m+x.src,(i:Nat)*m+x.dst,x.sym⟩:Mv)=y:=by
 unfold shR
 rw [Xg]
 constructor
 · rintro ⟨j,h1,h2⟩;rw [Vi] at h1;exact ⟨j,oM,h2⟩
 · rintro ⟨j,h1,h2⟩;exact ⟨j,by rw [Vi];omega,h2⟩
theorem ZdP {m:Int} {l k:List Int} (hk:∀j∈k,0≤j∧j<m) (h1:Srt l) (h2:Srt k):Srt (shI m l k):=by
 induction l with
 |nil=>exact .nil
 | cons i l ih=>
   have h:=XP.1 h1;show Srt (WI (i*m) k++shI m l k);refine Uq.2 ⟨Zbn h2,ih h.2,fun x hx y hy=>?_⟩;obtain ⟨j,hj,rfl⟩:=Ka.1 hx;obtain ⟨i',hi',j',hj',rfl⟩:=T6.1 hy;have:=Zc0 (h.1 i' hi') (hk j hj).1 (hk j hj).2 (hk j' hj').1;omega
section
variable {a b:Aut}
theorem L3 {x:Mv}:x∈shM a.n b.n a.moves b.moves↔(∃y∈a.moves,∃j:Nat,(j:Int)<b.n∧(⟨y.src*b.n+(j:Nat),y.dst*b.n+(j:Nat),y.sym⟩:Mv)=x)∨∃y∈b.moves,∃i:Nat,(i:Int)<a.n∧(⟨(i:Nat)*b.n+y.src,(i:Nat)*b.n+y.dst,y.sym⟩:Mv)=x:=by
 unfold shM
 simp only [Xh,XT,Zj3,Zj4]
theorem Hm (ha:VOk a) (hb:VOk b) (hs:a.syms=b.syms):PreA (Kw a b):=by
 have h1:=ha.n0
 have h2:=hb.n0
 have hI:∀{l k:List Int},InS a l→InS b k→∀x∈shI b.n l k,0≤x∧x<a.n*b.n:=fun hl hk x hx=>by
  obtain ⟨i,hi,j,hj,rfl⟩:=T6.1 hx;exact Hl (hl i hi) (hk j hj)
 refine ⟨Int.mul_nonneg h1 h2,ha.s0,ha.s1,hI ha.st hb.st,hI ha.fi hb.fi,WB (ZdP hb.st ha.ss hb.ss),WB (ZdP hb.fi ha.fs hb.fs),fun x hx=>?_⟩
 rcases L3.1 hx with ⟨y,hy,j,hj,rfl⟩|⟨y,hy,i,hi,rfl⟩
 · have h3:=ha.mv y hy;have h4:=Hl (m:=b.n) (n:=a.n) (i:=y.src) (j:=j) ⟨h3.1,h3.2.1⟩ ⟨oM,hj⟩;have h5:=Hl (m:=b.n) (n:=a.n) (i:=y.dst) (j:=j) ⟨h3.2.2.1,h3.2.2.2.1⟩ ⟨oM,hj⟩;exact ⟨h4.1,h4.2,h5.1,h5.2,h3.2.2.2.2⟩
 · have h3:=hb.mv y hy;have h4:=Hl (m:=b.n) (n:=a.n) (i:=i) (j:=y.src) ⟨oM,hi⟩ ⟨h3.1,h3.2.1⟩;have h5:=Hl (m:=b.n) (n:=a.n) (i:=i) (j:=y.dst) ⟨oM,hi⟩ ⟨h3.2.2.1,h3.2.2.2.1⟩;exact ⟨h4.1,h4.2,h5.1,h5.2,h3.2.2.2.2.1,by have:=h3.2.2.2.2.2;show y.sym<a.syms;omega⟩
theorem ζt (m:Int) (x:Mv):(shL m x).length=m.toNat:=by unfold shL;simp
theorem ZdQ (n m:Int) (x:Mv):(shR n m x).length=n.toNat:=by unfold shR;simp
theorem flat_len {α β:Type} {f:α→List β} {n:Nat} (h:∀x,(f x).length=n):∀l:List α,(l.flatMap f).length=l.length*n
 |[]=>sM
 |x::l=>by rw [Xu,Xb,h,flat_len h l,Xk,X5,Nat.add_comm]
end
section
variable {a b:Aut}
theorem Hn {X a:Aut} {n:Int} (hX:∀(s:Int) (m:Mv),0≤s∧s<a.n→m∈X.moves→m.src=s+n→∃m'∈a.moves,m'.src=s∧m.dst=m'.dst+n∧m.sym=m'.sym) (ha:∀m∈a.moves,0≤m.dst∧m.dst<a.n) {s y:Int} {w:List Int} (hs:0≤s∧s<a.n) (h:Pth X (s+n) w y):∃t,y=t+n∧(0≤t∧t<a.n)∧Pth a s w t:=by
 generalize e:s+n=x at h
 induction h generalizing s with
 |nil x=>exact ⟨s,e.symm,hs, .nil s⟩
 | eps hm h1 _ ih=>
   obtain ⟨m',h2,h3,h4,h5⟩:=hX s _ hs hm e.symm;obtain ⟨t,h6,h7,h8⟩:=ih (ha m' h2) h4.symm;exact ⟨t,h6,h7,h3▸Pth.eps h2 (by rw [←h5];exact h1) h8⟩
 | sym hm h1 _ ih=>
   obtain ⟨m',h2,h3,h4,h5⟩:=hX s _ hs hm e.symm;obtain ⟨t,h6,h7,h8⟩:=ih (ha m' h2) h4.symm;refine ⟨t,h6,h7,?_⟩;rw [h5];exact h3▸Pth.sym h2 (by rw [←h5];exact h1) h8
theorem Ho {X a:Aut} {n:Int} (hX:∀m∈a.moves,(⟨m.src+n,m.dst+n,m.sym⟩:Mv)∈X.moves) {s t:Int} {w:List Int} (h:Pth a s w t):Pth X (s+n) w (t+n):=by
 induction h with
 |nil x=>exact .nil _
 |eps hm h1 _ ih=>exact .eps (hX _ hm) h1 ih
 |sym hm h1 _ ih=>exact .sym (hX _ hm) h1 ih
theorem E8 (ha:VOk a) {x:Int} {m:Mv} {l:List Mv} (hl:∀m∈l,m.src<a.n) (hx:0≤x) (hm:m∈a.moves++J7 a.n b.moves++l) (hs:m.src=x+a.n):∃m'∈b.moves,m'.src=x∧m.dst=m'.dst+a.n∧m.sym=m'.sym:=by
 rcases Xh.1 hm with hm|hm
 · rcases Xh.1 hm with hm|hm
   · have:=ha.mv m hm;omega
   · obtain ⟨y,hy,rfl⟩:=JP.1 hm;exact ⟨y,hy,by dsimp only at hs;omega,rfl,rfl⟩
 · have:=hl m hm;omega
theorem Zfu (ha:VOk a) (hb:VOk b) {w:List Int}:Lng (Jc a b) w↔Lng a w∨Lng b w:=by
 have hmL:∀(s:Int) (m:Mv),0≤s∧s<a.n→m∈(Jc a b).moves→m.src=s+0→∃m'∈a.moves,m'.src=s∧m.dst=m'.dst+0∧m.sym=m'.sym:=fun s m hs hm e=>by
  rcases Xh.1 (show m∈a.moves++J7 a.n b.moves from hm) with hm|hm
  · exact ⟨m,hm,oM,oM,rfl⟩
  · obtain ⟨y,hy,rfl⟩:=JP.1 hm;have:=hb.mv y hy;dsimp only at e;omega
 have hmR:∀(s:Int) (m:Mv),0≤s∧s<b.n→m∈(Jc a b).moves→m.src=s+a.n→∃m'∈b.moves,m'.src=s∧m.dst=m'.dst+a.n∧m.sym=m'.sym:=fun s m hs hm e=>E8 (l:=[]) ha (fun m hm=>by cases hm) hs.1 (by rw [Xy];exact hm) e
 have hinA:∀m∈a.moves,(⟨m.src+0,m.dst+0,m.sym⟩:Mv)∈(Jc a b).moves:=fun m hm=>by
  rw [V8,V8];exact XZ _ hm
 have hinB:∀m∈b.moves,(⟨m.src+a.n,m.dst+a.n,m.sym⟩:Mv)∈(Jc a b).moves:=fun m hm=>Ve _ (JP.2 ⟨m,hm,rfl⟩)
 have hda:∀m∈a.moves,0≤m.dst∧m.dst<a.n:=fun m hm=>by have:=ha.mv m hm;omega
 have hdb:∀m∈b.moves,0≤m.dst∧m.dst<b.n:=fun m hm=>by have:=hb.mv m hm;omega
 constructor
 · rintro ⟨s,hs,f,hf,h⟩;rcases Xh.1 (show s∈a.start++WI a.n b.start from hs) with hs|hs
   · obtain ⟨t,e,h1,h2⟩:=Hn (n:=0) hmL hda (ha.st s hs) (by rw [V8];exact h);rw [V8] at e;subst e;rcases Xh.1 (show f∈a.fin++WI a.n b.fin from hf) with hf|hf
     · exact .inl ⟨s,hs,f,hf,h2⟩
     · obtain ⟨y,hy,rfl⟩:=Ka.1 hf;have:=hb.fi y hy;omega
   · obtain ⟨y,hy,rfl⟩:=Ka.1 hs;obtain ⟨t,rfl,h1,h2⟩:=Hn hmR hdb (hb.st y hy) h;rcases Xh.1 (show t+a.n∈a.fin++WI a.n b.fin from hf) with hf|hf
     · have:=ha.fi _ hf;omega
     · obtain ⟨z,hz,e⟩:=Ka.1 hf;have:z=t:=oM;subst this;exact .inr ⟨y,hy,z,hz,h2⟩
 · rintro (⟨s,hs,f,hf,h⟩|⟨s,hs,f,hf,h⟩)
   · have:=Ho (n:=0) hinA h;rw [V8,V8] at this;exact ⟨s,XZ _ hs,f,XZ _ hf,this⟩
   · exact ⟨s+a.n,Ve _ (Ka.2 ⟨s,hs,rfl⟩),f+a.n,Ve _ (Ka.2 ⟨f,hf,rfl⟩),Ho hinB h⟩
theorem ZhL {m:Mv} (ha:VOk a) (hb:VOk b) (hm:m∈(Kz a b).moves) (hs:m.src<a.n):m∈a.moves∨∃f∈a.fin,∃s∈b.start,(⟨f,s+a.n,-1⟩:Mv)=m:=by
 rcases Xh.1 (show m∈a.moves++J7 a.n b.moves++TI a.n a.fin b.start from hm) with hm|hm
 · rcases Xh.1 hm with hm|hm
   · exact .inl hm
   · obtain ⟨y,hy,rfl⟩:=JP.1 hm;have:=hb.mv y hy;dsimp only at hs;omega
 · exact .inr (Lo.1 hm)
theorem Zfv (ha:VOk a) (hb:VOk b) {s y:Int} {w:List Int} (hs:0≤s∧s<b.n) (h:Pth (Kz a b) (s+a.n) w y):∃t,y=t+a.n∧Pth b s w t:=by
 obtain ⟨t,h1,_,h2⟩:=Hn (X:=Kz a b) (a:=b) (n:=a.n) (fun s m hs hm e=>E8 (l:=TI a.n a.fin b.start) ha (fun m hm=>by
  obtain ⟨f,hf,s,_,rfl⟩:=Lo.1 hm;exact (ha.fi f hf).2) hs.1 hm e) (fun m hm=>by have:=hb.mv m hm;omega) hs h
 exact ⟨t,h1,h2⟩
theorem ZhM (ha:VOk a) (hb:VOk b) {s y:Int} {w:List Int} (hs:s<a.n) (hy:a.n≤y) (h:Pth (Kz a b) s w y):∃u v f s',w=u++v∧Pth a s u f∧f∈a.fin∧s'∈b.start∧Pth (Kz a b) (s'+a.n) v y:=by
 induction h with
 |nil x=>omega
 | eps hm h1 h ih=>
   rcases ZhL ha hb hm hs with h2|⟨f,hf,s',hs',rfl⟩
   · obtain ⟨u,v,f,s',e,h3,h4⟩:=ih (by have:=ha.mv _ h2;omega) hy;exact ⟨u,v,f,s',e, .eps h2 h1 h3,h4⟩
   · exact ⟨[],_,f,s',rfl, .nil _,hf,hs',h⟩
 | sym hm h1 h ih=>
   rcases ZhL ha hb hm hs with h2|⟨f,hf,s',hs',rfl⟩
   · obtain ⟨u,v,f,s',e,h3,h4⟩:=ih (by have:=ha.mv _ h2;omega) hy;exact ⟨_::u,v,f,s',by rw [e];rfl, .sym h2 h1 h3,h4⟩
   · exact UU rfl h1
theorem Zj5 (ha:VOk a) (hb:VOk b) {w:List Int}:Lng (Kz a b) w↔∃u v,w=u++v∧Lng a u∧Lng b v:=by
 constructor
 · rintro ⟨s,hs,f,hf,h⟩;obtain ⟨y,hy,rfl⟩:=Ka.1 (show f∈WI a.n b.fin from hf);have hyb:=hb.fi y hy;obtain ⟨u,v,f,s',e,h1,h2,h3,h4⟩:=ZhM ha hb (ha.st s hs).2 oM h;obtain ⟨t,e2,h5⟩:=Zfv ha hb (hb.st s' h3) h4;have:t=y:=oM;subst this;exact ⟨u,v,e,⟨s,hs,f,h2,h1⟩,⟨s',h3,t,hy,h5⟩⟩
 · rintro ⟨u,v,rfl,⟨s,hs,f,hf,h⟩,⟨s',hs',f',hf',h'⟩⟩;refine ⟨s,hs,f'+a.n,Ka.2 ⟨f',hf',rfl⟩,?_⟩;have h1:Pth (Kz a b) s u f:=h.mono fun m hm=>XZ _ (XZ _ hm);have h2:Pth (Kz a b) (s'+a.n) v (f'+a.n):=Ho (fun m hm=>XZ _ (Ve _ (JP.2 ⟨m,hm,rfl⟩))) h';have h3:Pth (Kz a b) f v (f'+a.n):=Pth.eps (m:=⟨f,s'+a.n,-1⟩) (Ve _ (Lo.2 ⟨f,hf,s',hs',rfl⟩)) rfl h2;exact h1.app h3
inductive Star (L:List Int→Prop):List Int→Prop
 |nil:Star L []
 |app {u v:List Int} (h:L u) (h':Star L v):Star L (u++v)
theorem Lr {m:Mv}:m∈(Ji a).moves↔m∈a.moves∨(∃s∈a.start,(⟨a.n,s,-1⟩:Mv)=m)∨∃s∈a.fin,(⟨s,a.n,-1⟩:Mv)=m:=by
 show m∈a.moves++(a.start.map fun s=>(⟨a.n,s,-1⟩:Mv))++a.fin.map (fun s=>(⟨s,a.n,-1⟩:Mv))↔_
 simp only [Xh,Xg,or_assoc]
theorem ZhN (ha:VOk a) {x y:Int} {w:List Int} (h:Pth (Ji a) x w y) (hy:y=a.n):(x=a.n→Star (Lng a) w)∧(x<a.n→∃u v f,w=u++v∧f∈a.fin∧Pth a x u f∧Star (Lng a) v):=by
 induction h with
 |nil x=>exact ⟨fun _=> .nil,fun h=>oM⟩
 | eps hm h1 _ ih=>
   have ih:=ih hy;refine ⟨fun e=>?_,fun e=>?_⟩
   · rcases Lr.1 hm with h2|⟨s,hs,rfl⟩|⟨s,hs,rfl⟩
     · have:=ha.mv _ h2;omega
     · obtain ⟨u,v,f,rfl,hf,h3,h4⟩:=ih.2 (ha.st s hs).2;exact .app ⟨s,hs,f,hf,h3⟩ h4
     · have:=ha.fi s hs;dsimp only at e;omega
   · rcases Lr.1 hm with h2|⟨s,hs,rfl⟩|⟨s,hs,rfl⟩
     · obtain ⟨u,v,f,e2,hf,h3,h4⟩:=ih.2 (by have:=ha.mv _ h2;omega);exact ⟨u,v,f,e2,hf, .eps h2 h1 h3,h4⟩
     · dsimp only at e;omega
     · exact ⟨[],_,s,rfl,hs, .nil _,ih.1 rfl⟩
 | sym hm h1 _ ih=>
   have ih:=ih hy;rcases Lr.1 hm with h2|⟨s,hs,rfl⟩|⟨s,hs,rfl⟩
   · refine ⟨fun e=>by have:=ha.mv _ h2;omega,fun e=>?_⟩;obtain ⟨u,v,f,e2,hf,h3,h4⟩:=ih.2 (by have:=ha.mv _ h2;omega);exact ⟨_::u,v,f,by rw [e2];rfl,hf, .sym h2 h1 h3,h4⟩
   · exact UU rfl h1
   · exact UU rfl h1
theorem ZhO (ha:VOk a) {w:List Int}:Lng (Ji a) w↔Star (Lng a) w:=by
 constructor
 · rintro ⟨s,hs,f,hf,h⟩;have hs:s=a.n:=Xl.1 hs;have hf:f=a.n:=Xl.1 hf;exact (ZhN ha h hf).1 hs
 · intro h;refine ⟨a.n,Xl.2 rfl,a.n,Xl.2 rfl,?_⟩;induction h with
   |nil=>exact .nil _
   | app h _ ih=>
     obtain ⟨s,hs,f,hf,h⟩:=h;have h1:Pth (Ji a) s _ f:=h.mono fun m hm=>Lr.2 (.inl hm);have h2:Pth (Ji a) f _ a.n:=Pth.eps (m:=⟨f,a.n,-1⟩) (Lr.2 (.inr (.inr ⟨f,hf,rfl⟩))) rfl ih;exact Pth.eps (m:=⟨a.n,s,-1⟩) (Lr.2 (.inr (.inl ⟨s,hs,rfl⟩))) rfl (h1.app h2)
inductive Mix:List Int→List Int→List Int→Prop
 |nil:Mix [] [] []
 |one {w u v:List Int} (c:Int) (h:Mix w u v):Mix (c::w) (c::u) v
 |two {w u v:List Int} (c:Int) (h:Mix w u v):Mix (c::w) u (c::v)
theorem ZhP (ha:VOk a) (hb:VOk b) {x y:Int} {w:List Int} (h:Pth (Kw a b) x w y):∀i j,(0≤i∧i<a.n)→(0≤j∧j<b.n)→x=i*b.n+j→∃i' j' u v,(0≤i'∧i'<a.n)∧(0≤j'∧j'<b.n)∧y=i'*b.n+j'∧Mix w u v∧Pth a i u i'∧Pth b j v j':=by
 induction h with
 |nil x=>exact fun i j hi hj e=>⟨i,j,[],[],hi,hj,e, .nil, .nil _, .nil _⟩
 | eps hm h1 _ ih=>
   intro i j hi hj e;rcases L3.1 hm with ⟨z,hz,k,hk,rfl⟩|⟨z,hz,k,hk,rfl⟩
   · have h2:=ha.mv z hz;obtain ⟨rfl,e2⟩:=RB e ⟨oM,hk⟩ hj;obtain ⟨i',j',u,v,h3,h4,h5,h6,h7,h8⟩:=ih z.dst k ⟨h2.2.2.1,h2.2.2.2.1⟩ ⟨oM,hk⟩ rfl;exact ⟨i',j',u,v,h3,h4,h5,h6, .eps hz h1 h7,e2▸h8⟩
   · have h2:=hb.mv z hz;obtain ⟨e2,rfl⟩:=RB e ⟨h2.1,h2.2.1⟩ hj;obtain ⟨i',j',u,v,h3,h4,h5,h6,h7,h8⟩:=ih k z.dst ⟨oM,hk⟩ ⟨h2.2.2.1,h2.2.2.2.1⟩ rfl;exact ⟨i',j',u,v,h3,h4,h5,h6,e2▸h7, .eps hz h1 h8⟩
 | sym hm h1 _ ih=>
   intro i j hi hj e;rcases L3.1 hm with ⟨z,hz,k,hk,rfl⟩|⟨z,hz,k,hk,rfl⟩
   · have h2:=ha.mv z hz;obtain ⟨rfl,e2⟩:=RB e ⟨oM,hk⟩ hj;obtain ⟨i',j',u,v,h3,h4,h5,h6,h7,h8⟩:=ih z.dst k ⟨h2.2.2.1,h2.2.2.2.1⟩ ⟨oM,hk⟩ rfl;exact ⟨i',j',_::u,v,h3,h4,h5, .one _ h6, .sym hz h1 h7,e2▸h8⟩
   · have h2:=hb.mv z hz;obtain ⟨e2,rfl⟩:=RB e ⟨h2.1,h2.2.1⟩ hj;obtain ⟨i',j',u,v,h3,h4,h5,h6,h7,h8⟩:=ih k z.dst ⟨oM,hk⟩ ⟨h2.2.2.1,h2.2.2.2.1⟩ rfl;exact ⟨i',j',u,_::v,h3,h4,h5, .two _ h6,e2▸h7, .sym hz h1 h8⟩
theorem Hp (hb:VOk b) {i i' j:Int} {u:List Int} (hj:0≤j∧j<b.n) (h:Pth a i u i'):Pth (Kw a b) (i*b.n+j) u (i'*b.n+j):=by
 have e:((j.toNat:Nat):Int)=j:=VQ hj.1
 induction h with
 |nil s=>exact .nil _
 | @eps m w t hm h1 _ ih=>exact Pth.eps (m:=⟨m.src*b.n+j,m.dst*b.n+j,m.sym⟩) (L3.2 (.inl ⟨m,hm,j.toNat,oM,by rw [e]⟩)) h1 ih
 | @sym m w t hm h1 _ ih=>exact Pth.sym (m:=⟨m.src*b.n+j,m.dst*b.n+j,m.sym⟩) (L3.2 (.inl ⟨m,hm,j.toNat,oM,by rw [e]⟩)) h1 ih
theorem Pq {i j j':Int} {u:List Int} (hi:0≤i∧i<a.n) (h:Pth b j u j'):Pth (Kw a b) (i*b.n+j) u (i*b.n+j'):=by
 have e:((i.toNat:Nat):Int)=i:=VQ hi.1
 induction h with
 |nil s=>exact .nil _
 | @eps m w t hm h1 _ ih=>exact Pth.eps (m:=⟨i*b.n+m.src,i*b.n+m.dst,m.sym⟩) (L3.2 (.inr ⟨m,hm,i.toNat,oM,by rw [e]⟩)) h1 ih
 | @sym m w t hm h1 _ ih=>exact Pth.sym (m:=⟨i*b.n+m.src,i*b.n+m.dst,m.sym⟩) (L3.2 (.inr ⟨m,hm,i.toNat,oM,by rw [e]⟩)) h1 ih
theorem Zma (ha:AOk a) {s t:Int} {w:List Int} (h:Pth a s w t) (hs:0≤s∧s<a.n):0≤t∧t<a.n:=by
 induction h with
 |nil s=>exact hs
 |eps hm _ _ ih=>exact ih (by have:=ha.mv _ hm;omega)
 |sym hm _ _ ih=>exact ih (by have:=ha.mv _ hm;omega)
theorem ZhQ (ha:VOk a) (hb:VOk b) {w u v:List Int} (hm:Mix w u v):∀{i i' j j':Int},(0≤i∧i<a.n)→(0≤j∧j<b.n)→Pth a i u i'→Pth b j v j'→Pth (Kw a b) (i*b.n+j) w (i'*b.n+j'):=by
 induction hm with
 | nil=>
   intro i i' j j' hi hj h1 h2;have h3:=(Hp hb hj h1).app (Pq (Zma ha.toAOk h1 hi) h2);exact h3
 | one c _ ih=>
   intro i i' j j' hi hj h1 h2;obtain ⟨m,hm,h3,rfl,h4,h5⟩:=h1.cons;have h6:=ha.mv m hm;have h7:Pth a m.src [m.sym] m.dst:= .sym hm h4 (.nil _);have h8:=(Hp hb hj h3).app ((Hp hb hj h7).app (ih ⟨h6.2.2.1,h6.2.2.2.1⟩ hj h5 h2));exact h8
 | two c _ ih=>
   intro i i' j j' hi hj h1 h2;obtain ⟨m,hm,h3,rfl,h4,h5⟩:=h2.cons;have h6:=hb.mv m hm;have h7:Pth b m.src [m.sym] m.dst:= .sym hm h4 (.nil _);have h8:=(Pq hi h3).app ((Pq hi h7).app (ih hi ⟨h6.2.2.1,h6.2.2.2.1⟩ h1 h5));exact h8
theorem ZhR (ha:VOk a) (hb:VOk b) {w:List Int}:Lng (Kw a b) w↔∃u v,Mix w u v∧Lng a u∧Lng b v:=by
 constructor
 · rintro ⟨s,hs,f,hf,h⟩;obtain ⟨i,hi,j,hj,rfl⟩:=T6.1 (show s∈shI b.n a.start b.start from hs);obtain ⟨i',hi',j',hj',rfl⟩:=T6.1 (show f∈shI b.n a.fin b.fin from hf);obtain ⟨i2,j2,u,v,h1,h2,h3,h4,h5,h6⟩:=ZhP ha hb h i j (ha.st i hi) (hb.st j hj) rfl;obtain ⟨rfl,rfl⟩:=RB h3 (hb.fi j' hj') h2;exact ⟨u,v,h4,⟨i,hi,i',hi',h5⟩,⟨j,hj,j',hj',h6⟩⟩
 · rintro ⟨u,v,hm,⟨i,hi,i',hi',h5⟩,⟨j,hj,j',hj',h6⟩⟩;exact ⟨_,T6.2 ⟨i,hi,j,hj,rfl⟩,_,T6.2 ⟨i',hi',j',hj',rfl⟩,ZhQ ha hb hm (ha.st i hi) (hb.st j hj) h5 h6⟩
end
section
variable {α κ:Type} [DecidableEq κ] {W:Srch α κ}
def Srch.Born (W:Srch α κ) (o:List α):Prop:=∀j x,0<j→o[j]? =some x→∃i y s,i<j∧o[i]? =some y∧s<W.m∧x=W.step i y s
theorem Srch.Born.visit {o o':List α} {i s n:Nat} {y:α} (h:W.Born o) (hy:o[i]? =some y) (hs:s<W.m) (hv:visit W.key W.cap o (W.step i y s)=some (o',n)):W.Born o':=by
 unfold Go.Proofs.YtgfabnhpllkebaaGreatDoor.visit at hv
 split at hv
 · cases hv;exact h
 · split at hv
   · cases hv
   · cases hv;intro j x hj hx;rw [VU] at hx;split at hx
     · obtain ⟨i',y',s',h1,h2,h3,h4⟩:=h j x hj hx;exact ⟨i',y',s',h1,Ko (Un ..) h2,h3,h4⟩
     · rename_i hjl;have h1:=Zf hx;rw [Xs] at h1;rw [show j-o.length=0 by omega,Vs] at hx
       cases hx;exact ⟨i,y,s,by have:=Zf hy;omega,Ko (Un ..) hy,hs,rfl⟩
theorem Srch.Born.row {o:List α} {i:Nat} {y:α} (h:W.Born o) (hy:o[i]? =some y):∀{s:Nat} {o':List α} {r:List Nat},s≤W.m→W.row i y o s=some (o',r)→W.Born o'∧o<+:o'
 | 0,o',r,_,hr=>by
   rw [Srch.row] at hr;cases hr;exact ⟨h,Vt _⟩
 | s+1,o',r,hs,hr=>by
   rw [Srch.row,XU] at hr;obtain ⟨⟨o1,r1⟩,h1,h2⟩:=hr;obtain ⟨⟨o2,n⟩,h3,h4⟩:=XA.1 h2
   cases h4;obtain ⟨h5,h6⟩:=Srch.Born.row h hy oM h1;exact ⟨h5.visit (Ko h6 hy) oM h3,h6.trans (R7 h3).1⟩
theorem Srch.born {x0:α}:∀{i:Nat} {o:List α} {rows:List (List Nat)},W.upto x0 i=some (o,rows)→W.Born o
 | 0,o,rows,h=>by
   rw [Srch.upto] at h;cases h;intro j x hj hx;have:=Zf hx;rw [Xs] at this;omega
 | i +1,o,rows,h=>by
   rw [Srch.upto,XU] at h;obtain ⟨⟨o1,rows1⟩,h1,h2⟩:=h;have h3:=Srch.born h1;dsimp only at h2
   cases hx:o1[i]? with
   |none=>rw [hx] at h2;cases h2;exact h3
   | some x=>
     rw [hx] at h2;obtain ⟨⟨o2,r⟩,h5,h6⟩:=XA.1 h2
     cases h6;exact (h3.row hx (Xj _) h5).1
end
def Zj6 (par:List (Int×Int)):Prop:=∀(j:Nat) (x:Int×Int),par[j]? =some x→x.1<(j:Int)
theorem Hq {par:List (Int×Int)} (h:Zj6 par):∀(f g i:Nat),i<f→i<g→TE par f i=TE par g i
 |0,_,_,h1,_=>oM
 |f+1,0,_,_,h2=>oM
 | f +1,g+1,i,h1,h2=>by
   rw [TE,TE]
   cases hx:par[i]? with
   |none=>rfl
   | some x=>
     dsimp only;have:=h i x hx;by_cases h0:x.1<0
     · rw [UT h0,UT h0]
     · rw [US h0,US h0,Hq h f g x.1.toNat oM oM]
def RD (par:List (Int×Int)) (i:Nat):List Int:=TE par (i+1) i
theorem Zbo {par:List (Int×Int)} {i:Nat} {x:Int×Int} (hx:par[i]? =some x) (h0:x.1<0):RD par i=[]:=by
 unfold RD;rw [TE,hx];dsimp only;rw [UT h0]
theorem ZdR {par:List (Int×Int)} (h:Zj6 par) {i:Nat} {x:Int×Int} (hx:par[i]? =some x) (h0:¬x.1<0):RD par i=RD par x.1.toNat++[x.2]:=by
 unfold RD;rw [TE,hx];dsimp only;rw [US h0,Hq h i (x.1.toNat+1) x.1.toNat (by have:=h i x hx;omega) oM]
theorem E9 {A B:Aut} {i:Nat} {o:List ((Nat×Nat)×(Int×Int))} {rows:List (List Nat)} (hu:(Y7 A B).upto ((0,0),(-1,-1)) i=some (o,rows)) (h0:o[0]? =some ((0,0),(-1,-1))):Zj6 (o.map (·.2)):=fun j x hx=>by
 rw [Xm] at hx
 obtain ⟨y,hy,rfl⟩:=XA.1 hx
 rcases Vb j with rfl|hj
 · rw [h0] at hy;cases hy;decide
 · obtain ⟨i',y',s,h1,_,_,rfl⟩:=Srch.born hu j y hj hy;show ((i':Nat):Int)<_;omega
theorem Zm2 (l:List Bool):idx (fun x=>x==true) l=match l.idxOf? true with|some i=>(i:Int)|none=> -1:=rfl
section
variable {α κ:Type} [DecidableEq κ] {W:Srch α κ} {g:α→Int}
theorem Srch.row_ages (hg:∀i x s,g (W.step i x s)=((i:Nat):Int)) {i:Nat} {x:α} {o:List α}:∀{s:Nat} {o':List α} {r:List Nat},W.row i x o s=some (o',r)→o<+:o'∧(∀k y,o.length≤k→o'[k]? =some y→g y=((i:Nat):Int))∧∀c n:Nat,r[c]? =some n→n<o'.length
 | 0,o',r,h=>by
   rw [Srch.row] at h;cases h;exact ⟨Vt _,fun k y hk hy=>by have:=Zf hy;omega,fun c n h=>by simp at h⟩
 | s + 1, o',r,h=>by
   rw [Srch.row,XU] at h;obtain ⟨⟨o1,r1⟩,h1,h2⟩:=h;obtain ⟨⟨o2,n⟩,h3,h4⟩:=XA.1 h2
   cases h4;obtain ⟨h5,h6,h7⟩:=Srch.row_ages hg h1;obtain ⟨h8,h9,_⟩:=R7 h3;dsimp only at h3 h8 h9 ⊢;refine ⟨h5.trans h8,fun k y hk hy=>?_,fun c m hc=>?_⟩
   · rcases XF k o1.length with hkl|hkl
     · obtain ⟨z,hz⟩:=Zp hkl;have:=Ko h8 hz;rw [this] at hy;cases hy;exact h6 k y hk hz
     · have hv:=h3;unfold Go.Proofs.YtgfabnhpllkebaaGreatDoor.visit at hv;split at hv
       · cases hv;have:=Zf hy;omega
       · split at hv
         · cases hv
         · cases hv;have h10:=Zf hy;rw [Xb,Xs] at h10;rw [Vf hkl,show k-o1.length=0 by omega] at hy
           cases hy;exact hg i x s
   · rw [VU] at hc;split at hc
     · have:=h7 c m hc;have:=h8.length_le;omega
     · have h10:=Zf hc;rw [Xs] at h10;rw [show c-r1.length=0 by omega] at hc
       cases hc;exact h9
structure Srch.Aged (g:α→Int) (i:Nat) (o:List α) (rows:List (List Nat)):Prop where
 mono:∀(j k:Nat) (x y:α),j≤k→o[j]? =some x→o[k]? =some y→g x≤g y
 lt:∀(j:Nat) (x:α),o[j]? =some x→g x<(i:Nat)
 len:i≤o.length→rows.length=i
 to:∀(p:Nat) (r:List Nat) (c n:Nat),rows[p]? =some r→r[c]? =some n→∃x,o[n]? =some x∧g x≤(p:Nat)
theorem Srch.ages (hg:∀i x s,g (W.step i x s)=((i:Nat):Int)) {x0:α} (h0:g x0= -1):∀{i:Nat} {o:List α} {rows:List (List Nat)},W.upto x0 i=some (o,rows)→Srch.Aged g i o rows
 | 0, o,rows,h=>by
   rw [Srch.upto] at h;cases h;refine ⟨fun j k x y _ hx hy=>?_,fun j x hx=>?_,fun _=>rfl,fun p r c n h=>by simp at h⟩
   · have h1:=Zf hx;have h2:=Zf hy;rw [Xs] at h1 h2;have e1:j=0:=oM;have e2:k=0:=oM;subst e1 e2;rw [hx] at hy;cases hy;exact VA _
   · have h1:=Zf hx;rw [Xs] at h1;have e1:j=0:=oM;subst e1
     cases hx;omega
 | i + 1, o,rows,h=>by
   rw [Srch.upto,XU] at h;obtain ⟨⟨o1,rows1⟩,h1,h2⟩:=h;have h3:=Srch.ages hg h0 h1;dsimp only at h2
   cases hx:o1[i]? with
   | none=>
     rw [hx] at h2;cases h2;have:=Uh.1 hx;exact ⟨h3.mono,fun j x hx=>by have:=h3.lt j x hx;omega,fun h=>oM,h3.to⟩
   | some x=>
     rw [hx] at h2;obtain ⟨⟨o2,r⟩,h5,h6⟩:=XA.1 h2
     cases h6;dsimp only;have hil:=Zf hx;have hrl:=h3.len oM;obtain ⟨h7,h8,h9⟩:=Srch.row_ages hg h5;have old:∀{k:Nat} {y:α},k<o1.length→o2[k]? =some y→o1[k]? =some y:=fun {k y} hk hy=>by
      obtain ⟨z,hz⟩:=Zp hk;have:=Ko h7 hz;rw [this] at hy;cases hy;exact hz
     have lt:∀(j:Nat) (x:α),o2[j]? =some x→g x<((i+1:Nat):Int):=fun j y hy=>by
      rcases XF j o1.length with hj|hj
      · have:=h3.lt j y (old hj hy);omega
      · have:=h8 j y hj hy;omega
     refine ⟨fun j k y z hjk hy hz=>?_,lt,fun _=>by rw [Xb,hrl];rfl,fun p r' c n hr hn=>?_⟩
     · rcases XF k o1.length with hk|hk
       · exact h3.mono j k y z hjk (old oM hy) (old hk hz)
       · have e:=h8 k z hk hz;have:=lt j y hy;omega
     · rw [VU] at hr;split at hr
       · obtain ⟨y,hy,hle⟩:=h3.to p r' c n hr hn;exact ⟨y,Ko h7 hy,hle⟩
       · have hp:=Zf hr;rw [Xs] at hp;rename_i hpl;have ep:p=i:=oM;subst ep;rw [hrl,VE] at hr
         cases hr;obtain ⟨y,hy⟩:=Zp (h9 c n hn);exact ⟨y,hy,by have:=lt n y hy;omega⟩
end
abbrev PrS2:=(Nat×Nat)×(Int×Int)
structure PQ (A B:Aut) (o:List PrS2) (rows:List (List Nat)):Prop where
 mA:IsMin A
 mB:IsMin B
 sy:A.syms=B.syms
 hu:prodQ A B=some (o,rows)
section
variable {A B:Aut} {o:List PrS2} {rows:List (List Nat)}
theorem PQ.ok (h:PQ A B o rows):(Y7 A B).Ok (ζi A B) ((0,0),(-1,-1)) o rows∧rows.length=o.length∧o.length≤2000:=by
 obtain ⟨h1,_,h3⟩:=Ru h.mA.det h.mB.det h.sy h.hu
 have hcap:o.length≤2000:=h1.cap
 exact ⟨h1,h3 hcap,hcap⟩
theorem PQ.back (h:PQ A B o rows):Zj6 (o.map (·.2)):=E9 h.hu h.ok.1.zero
theorem PQ.aged (h:PQ A B o rows):Srch.Aged (fun x:PrS2=>x.2.1) (Y7 A B).cap o rows:=by
 have hu:(Y7 A B).upto ((0,0),(-1,-1)) (Y7 A B).cap=some (o,rows):=h.hu
 exact Srch.ages (g:=fun x:PrS2=>x.2.1) (fun _ _ _=>rfl) rfl hu
def Ov (o:List PrS2) (j:Nat):Nat:=(RD (o.map (·.2)) j).length
theorem PQ.zero (h:PQ A B o rows):RD (o.map (·.2)) 0=[]:=Zbo (x:=(-1,-1)) (by rw [Xm,h.ok.1.zero];rfl) dC
theorem PQ.on (h:PQ A B o rows) {j:Nat} (hj:0<j) (hjl:j<o.length):∃(i s:Nat) (x y:PrS2),i<j∧o[j]? =some x∧o[i]? =some y∧s<A.syms.toNat∧x=(Y7 A B).step i y s∧x.2.1=(i:Int)∧RD (o.map (·.2)) j=RD (o.map (·.2)) i++[(s:Int)]:=by
 obtain ⟨x,hx⟩:=Zp hjl
 obtain ⟨i,y,s,h1,h2,h3,h4⟩:=Srch.born h.hu j x hj hx
 have e:x.2=(((i:Nat):Int),((s:Nat):Int)):=by rw [h4];rfl
 refine ⟨i,s,x,y,h1,hx,h2,h3,h4,by rw [e],?_⟩
 have hw:=ZdR h.back (i:=j) (x:=(((i:Nat):Int),((s:Nat):Int))) (by rw [Xm,hx,←e];rfl) (by dsimp only;omega)
 dsimp only at hw
 rw [XS] at hw
 exact hw
theorem PQ.mono (h:PQ A B o rows):∀(k:Nat),k<o.length→∀j,j≤k→Ov o j≤Ov o k:=fun k=>by
 induction k using Nat.strongRecOn with
 | ind k ih=>
   intro hk j hjk;rcases Vb j with rfl|hj
   · unfold Ov;rw [h.zero];exact Xf _
   · obtain ⟨i,s,x,y,h1,h2,h3,_,_,h6,h7⟩:=h.on hj oM;obtain ⟨i',s',x',y',h1',h2',h3',_,_,h6',h7'⟩:=h.on (show 0<k by omega) hk;have hle:x.2.1≤x'.2.1:=h.aged.mono j k x x' hjk h2 h2';have:=ih i' h1' oM i oM;unfold Ov at this ⊢;rw [h7,h7',Xb,Xb];exact Nat.add_le_add_right this _
theorem PQ.step (h:PQ A B o rows) {p c n:Nat} {r:List Nat} (hr:rows[p]? =some r) (hn:r[c]? =some n):Ov o n≤Ov o p+1:=by
 obtain ⟨x,hx,hle⟩:=h.aged.to p r c n hr hn
 have hle:x.2.1≤(p:Int):=hle
 rcases Vb n with rfl|hn0
 · unfold Ov;rw [h.zero];exact Xf _
 · obtain ⟨i,s,x',y,h1,h2,h3,_,_,h6,h7⟩:=h.on hn0 (Zf hx);rw [hx] at h2;cases h2;have hpl:p<o.length:=by rw [←h.ok.2.1];exact Zf hr
   have:=h.mono p hpl i oM;unfold Ov at this ⊢;rw [h7,Xb,Xs];omega
theorem PQ.row (h:PQ A B o rows) {op:Int} {p c:Nat} (hp:p<o.length) (hc:c<A.syms.toNat):∃(r:List Nat) (n:Nat),rows[p]? =some r∧r[c]? =some n∧toT (Td A B op (o,rows)) p c=n∧n<o.length:=by
 obtain ⟨r,hr⟩:=Zp (show p<rows.length by rw [h.ok.2.1];exact hp)
 have hl:r.length=A.syms.toNat:=h.ok.1.len r (Xc hr)
 obtain ⟨n,hn⟩:=Zp (show c<r.length by omega)
 obtain ⟨x,hx⟩:=Zp hp
 exact ⟨r,n,hr,hn,Pd (t:=Td A B op (o,rows)) hr hn,(h.ok.1.to p x r c n hx hr hn).1⟩
theorem E' (t:Tab) (x:Nat) (w:List Nat) (c:Nat):D4 t x (w++[c])=toT t (D4 t x w) c:=by unfold D4;rw [Vn];rfl
theorem ZhS {α:Type} {P:List α→Prop} (h0:P []) (h1:∀l x,P l→P (l++[x])) (l:List α):P l:=by
 have:∀m:List α,P m.reverse:=fun m=>by
  induction m with
  |nil=>exact h0
  |cons x m ih=>rw [List.reverse_cons];exact h1 _ _ ih
 have h:=this l.reverse
 rw [List.reverse_reverse] at h;exact h
theorem PQ.run (h:PQ A B o rows) {op:Int} (w:List Nat):WU A.syms.toNat w→D4 (Td A B op (o,rows)) 0 w<o.length∧Ov o (D4 (Td A B op (o,rows)) 0 w)≤w.length:=by
 refine ZhS (P:=fun w=>WU A.syms.toNat w→D4 (Td A B op (o,rows)) 0 w<o.length∧Ov o (D4 (Td A B op (o,rows)) 0 w)≤w.length) ?_ ?_ w
 · intro _;refine ⟨h.ok.1.pos,?_⟩;show Ov o 0≤0;unfold Ov;rw [h.zero];exact Xj _
 · intro w c ih hw;obtain ⟨h1,h2⟩:=ih fun c hc=>hw c (XZ _ hc);obtain ⟨r,n,hr,hn,e,hno⟩:=h.row (op:=op) h1 (hw c (Ve _ (Xl.2 rfl)));rw [E',e];have:=h.step hr hn;rw [Xb,Xs];exact ⟨hno,oM⟩
theorem PQ.way (h:PQ A B o rows) {op:Int}:∀(j:Nat),j<o.length→∃w:List Nat,WU A.syms.toNat w∧wI w=RD (o.map (·.2)) j∧D4 (Td A B op (o,rows)) 0 w=j:=fun j=>by
 induction j using Nat.strongRecOn with
 | ind j ih=>
   intro hj;rcases Vb j with rfl|hj0
   · exact ⟨[],(fun c hc=>by cases hc),(by rw [h.zero];rfl),rfl⟩
   · obtain ⟨i,s,x,y,h1,h2,h3,h4,h5,_,h7⟩:=h.on hj0 hj;obtain ⟨w,hw,he,hr⟩:=ih i h1 oM;refine ⟨w++[s],fun c hc=>?_,?_,?_⟩
     · rcases Xh.1 hc with hc|hc
       · exact hw c hc
       · rw [Xl.1 hc];exact h4
     · rw [h7,←he];unfold wI;rw [Xr];rfl
     · obtain ⟨r,n,hr',hn,e,hno⟩:=h.row (op:=op) (Zf h3) h4;rw [E',hr,e];have h8:=(h.ok.1.to i y r s n h3 hr' hn).2;rw [←h5] at h8;rw [←h8];exact Gm h.ok.1.nd h2
theorem PQ.fin (h:PQ A B o rows) {op:Int} {w:List Nat} (hw:WU A.syms.toNat w) {x:PrS2} (hx:o[D4 (Td A B op (o,rows)) 0 w]? =some x):Wz A B op x=Ot op (LX A (wI w)) (LX B (wI w)):=by
 have:=Zfe h.mA h.mB h.sy (op:=op) h.hu hw
 rw [←this]
 show _=((o.map (Wz A B op))[D4 (Td A B op (o,rows)) 0 w]?).getD false
 rw [Xm,hx];rfl
end
theorem Zbp {l:List Bool}:∀{i:Nat},l.idxOf? true=some i↔l[i]? =some true∧∀j,j<i→l[j]? =some false:=by
 induction l with
 |nil=>intro i;simp
 | cons b l ih=>
   intro i;rw [List.idxOf?_cons]
   cases b with
   | true=>
     simp only [beq_self_eq_true,if_true];constructor
     · intro h;cases h;exact ⟨rfl,fun j hj=>oM⟩
     · rintro ⟨h1,h2⟩;rcases Vb i with rfl|hi
       · rfl
       · have:=h2 0 hi;simp at this
   | false=>
     simp only [show (false==true)=false from rfl,VO,if_false]
     cases i with
     |zero=>simp
     | succ i=>
       rw [XA];constructor
       · rintro ⟨k,hk,e⟩;have:k=i:=oM;subst this;obtain ⟨h1,h2⟩:=ih.1 hk;refine ⟨h1,fun j hj=>?_⟩
         cases j with
         |zero=>rfl
         |succ j=>exact h2 j oM
       · rintro ⟨h1,h2⟩;exact ⟨i,ih.2 ⟨h1,fun j hj=>h2 (j+1) oM⟩,rfl⟩
theorem Zfw (i:Nat) (r:List Nat):AscM (Yk i r):=by
 unfold AscM
 rw [Up]
 intro j k hj hk hjk
 unfold Yk at hj hk ⊢
 rw [Xd,List.length_zipIdx] at hj hk
 rw [Lj,List.getElem_map,List.getElem_map,List.getElem_zipIdx,List.getElem_zipIdx]
 dsimp only
 omega
theorem Hr:∀(rows:List (List Nat)) (k:Nat),AscM (TG k rows)
 |[],_=> .nil
 | r::rows,k=>by
   rw [JO];refine Uq.2 ⟨Zfw k r,Hr rows (k+1),fun x hx y hy=>?_⟩;have h1:=T4 x hx;have h2:=D2 y hy;rw [Lj];omega
theorem IsMin.valid {A:Aut} (h:IsMin A):Z4 A=true:=by
 have hok:=h.aok
 obtain ⟨t,o,rows,hT,hu,rfl,hm⟩:=h
 have h1:=hok.n0
 have h2:=hok.n1
 have h3:=hok.s0
 have h4:=hok.s1
 have h5:=hok.ml
 unfold Z4
 simp only [Xe,UP]
 refine ⟨⟨⟨⟨⟨⟨⟨⟨h1,h2⟩,h3⟩,h4⟩,h5⟩,ZdO hok.st (VI ..)⟩,ZdO hok.fi (ZaP _ _)⟩,?_⟩,Po (Hr rows 0)⟩
 rw [XB]
 intro m hm'
 have:=hok.mv m hm'
 unfold Dt
 simp only [Xe,UP]
 omega
theorem Zc1 {a b A B:Aut} (ha:WH a= .ok A) (hb:WH b= .ok B) {q:List PrS2×List (List Nat)} (hq:prodQ A B=some q):Ln a b= .ok (A,B,q):=by unfold Ln;rw [ha,hb];dsimp only;rw [hq]
theorem Zc2 {a b A B:Aut} (ha:WH a= .ok A) (hb:WH b= .ok B) (hq:prodQ A B=none):Ln a b= .error 13:=by unfold Ln;rw [ha,hb];dsimp only;rw [hq]
theorem ζu {a b:Aut} (h1:Z4 a=true) (h2:Z4 b=true) (h:a.syms=b.syms):WW a b=0:=by unfold WW;rw [US (by rw [h1,h2];simp),US (fun e=>e h)]
theorem Ca {a b A B:Aut} {op:Int} (hf:WW a b=0) (ha:WH a= .ok A) (hb:WH b= .ok B) {q:List PrS2×List (List Nat)} (hq:prodQ A B=some q):cmpX a b op=((LW A B op q).1,(LW A B op q).2,0):=by
 unfold cmpX;rw [US (fun h=>h hf),Zc1 ha hb hq]
theorem Cc {a b A B:Aut} {op:Int} (hf:WW a b=0) (ha:WH a= .ok A) (hb:WH b= .ok B) (hq:prodQ A B=none):cmpX a b op=(false,[],13):=by
 unfold cmpX;rw [US (fun h=>h hf),Zc2 ha hb hq]
section
variable {A B:Aut} {o:List PrS2} {rows:List (List Nat)}
theorem Zfx {op:Int} {i:Nat} (h:(o.map (Wz A B op)).idxOf? true=some i):LW A B op (o,rows)=(false,RD (o.map (·.2)) i):=by unfold LW;dsimp only;rw [h];rfl
theorem Zfy {op:Int} (h:(o.map (Wz A B op)).idxOf? true=none):LW A B op (o,rows)=(true,[]):=by unfold LW;dsimp only;rw [h]
end
end Go.Proofs.YtgfabnhpllkebaaGreatDoor
